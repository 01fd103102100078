/- Contracts of functions that the law reaches: what each call returns and what it leaves in memory. Made by this session over the print of the kit. -/
import Derived.Test.YteopiggdpadolaaQFnExactBothWaysx0
import Derived.Test.YteopiggdpadolaaQFnExactBothWaysx1
import Derived.Test.YteopiggdpadolaaQFnExactBothWaysx2
import Derived.Test.YteopiggdpadolaaQFnExactBothWaysx5
import Derived.Test.YteopiggdpadolaaQFnExactBothWaysx8
namespace Go.Proofs.Yteopiggdpadolaa.QFnExactBothWays
open Go.RowKit Go.Proofs.YteopiggdpadolaaY.PrintWords Go.Proofs.YteopiggdpadolaaY.PrintLast Go.Proofs.YteopiggdpadolaaY.PrintMore
attribute [local go_sem] max2_int min2_int max_two min_two max_three min_three max_four min_four   -- for this text's walks alone
set_option linter.unusedVariables false
set_option linter.unusedSimpArgs false
def ba9_0 : Array Bool := #[false, false, false, false, false]
def ba9_1 : Array Bool := #[true, false, false, false, false]
def ba9_2 : Array Bool := #[true, true, false, false, false]
def ba9_3 : Array Bool := #[true, true, true, false, false]
def ba9_4 : Array Bool := #[true, true, true, true, false]
def ba9_5 : Array Bool := #[true, true, true, true, true]

/-! ### laws_FnExactBothWays: function 6 -/
mutual
def laws_FnExactBothWays.j0 : Nat → Bool → Bool → Bool → Int → List (S82) → Int → List (S67) → Int → List (S67) → Int → List (S67) → Option (Bool)
 | 0, _, _, _, _, _, _, _, _, _, _, _ => none
 | k + 1, x5, x8, x40, x222000, x222001, x233000, x233001, x238000, x238001, x244000, x244001 => if x40 = true then (some false) else ((laws_toGraph.f k x222000 x222001).bind fun bt245 => ((laws_eqGraph.f k x238000 x238001 bt245.1 bt245.2).bind fun t249 => (if t249 = true then ((laws_markGraph.f k x238000 x238001 1).bind fun bt250 => (if bt250.1 < 0 then (laws_FnExactBothWays.j1 k x5 true x222000 x222001 x233000 x233001 x244000 x244001) else ((laws_eqGraph.f k x244000 x244001 x233000 x233001).bind fun t252 => (if t252 = true then (laws_FnExactBothWays.j1 k x5 (x8 != x5) x222000 x222001 x233000 x233001 x244000 x244001) else (laws_FnExactBothWays.j1 k x5 true x222000 x222001 x233000 x233001 x244000 x244001))))) else (some false))))
def laws_FnExactBothWays.j1 : Nat → Bool → Bool → Int → List (S82) → Int → List (S67) → Int → List (S67) → Option (Bool)
 | 0, _, _, _, _, _, _, _, _ => none
 | k + 1, x5, x61, x222000, x222001, x233000, x233001, x244000, x244001 => if x61 = true then (some false) else ((laws_markGraph.f k x244000 x244001 1).bind fun bt253 => ((laws_heldGraph.f k x244000 bt253.2 1).bind fun t255 => (if t255 < 0 then (some false) else (if t255 = bt253.1 then ((laws_toGraph.f k x222000 x222001).bind fun bt256 => ((impl_BothWays.f k bt256.1 bt256.2).bind fun bt260 => ((laws_eqGraph.f k bt260.1 bt260.2.1 x233000 x233001).bind fun t266 => (if t266 = true then (laws_FnExactBothWays.j2 k bt253.1 (bt260.2.2 != x5) x244000 bt253.2) else (laws_FnExactBothWays.j2 k bt253.1 true x244000 bt253.2))))) else (some false)))))
def laws_FnExactBothWays.j2 : Nat → Int → Bool → Int → List (S67) → Option (Bool)
 | 0, _, _, _, _ => none
 | k + 1, x10, x87, x244000, x244001 => if x87 = true then (some false) else ((laws_heldGraph.f k x244000 x244001 1).bind fun t267 => (if t267 < 0 then (some false) else (if t267 = x10 then (some true) else (some false))))
end
def laws_FnExactBothWays.f (k : Nat) (a0_0 : Int) (l0_1 : List (S82)) : Option (Bool) := (laws_szGraph.f a0_0 l0_1 1048576).bind fun t222 => (if t222 < 0 then (some true) else ((laws_toGraph.f k a0_0 l0_1).bind fun bt223 => ((spec_BothWays.f k bt223.1 bt223.2).bind fun bt227 => ((laws_toGraph.f k a0_0 l0_1).bind fun bt233 => ((impl_BothWays.f k bt233.1 bt233.2).bind fun bt238 => ((laws_eqGraph.f k bt238.1 bt238.2.1 bt227.1 bt227.2.1).bind fun t244 => (if t244 = true then (laws_FnExactBothWays.j0 k bt227.2.2 bt238.2.2 (bt238.2.2 != bt227.2.2) a0_0 l0_1 bt227.1 bt227.2.1 bt233.1 bt233.2 bt238.1 bt238.2.1) else (laws_FnExactBothWays.j0 k bt227.2.2 bt238.2.2 true a0_0 l0_1 bt227.1 bt227.2.1 bt233.1 bt233.2 bt238.1 bt238.2.1))))))))
theorem laws_FnExactBothWays.mono_l : ∀ k, (∀ y0 y1 y2 y3 y4 y5 y6 y7 y8 y9 y10, LeO (laws_FnExactBothWays.j0 k y0 y1 y2 y3 y4 y5 y6 y7 y8 y9 y10) (laws_FnExactBothWays.j0 (k + 1) y0 y1 y2 y3 y4 y5 y6 y7 y8 y9 y10)) ∧ (∀ y0 y1 y2 y3 y4 y5 y6 y7, LeO (laws_FnExactBothWays.j1 k y0 y1 y2 y3 y4 y5 y6 y7) (laws_FnExactBothWays.j1 (k + 1) y0 y1 y2 y3 y4 y5 y6 y7)) ∧ (∀ y0 y1 y2 y3, LeO (laws_FnExactBothWays.j2 k y0 y1 y2 y3) (laws_FnExactBothWays.j2 (k + 1) y0 y1 y2 y3))
 | 0 => ⟨fun _ _ _ _ _ _ _ _ _ _ _ r h => by simp [laws_FnExactBothWays.j0] at h, fun _ _ _ _ _ _ _ _ r h => by simp [laws_FnExactBothWays.j1] at h, fun _ _ _ _ r h => by simp [laws_FnExactBothWays.j2] at h⟩
 | k + 1 => by
  obtain ⟨ih0, ih1, ih2⟩ := laws_FnExactBothWays.mono_l k
  refine ⟨?_, ?_, ?_⟩
  ·intro y0 y1 y2 y3 y4 y5 y6 y7 y8 y9 y10
   unfold laws_FnExactBothWays.j0
   repeat' first
   | (with_reducible exact ih0 _ _ _ _ _ _ _ _ _ _ _)
   | (with_reducible exact ih1 _ _ _ _ _ _ _ _)
   | (with_reducible exact ih2 _ _ _ _)
   | (with_reducible exact impl_BothWays.mono _ _ _)
   | (with_reducible exact laws_eqGraph.mono _ _ _ _ _)
   | (with_reducible exact laws_heldGraph.mono _ _ _ _)
   | (with_reducible exact laws_markGraph.mono _ _ _ _)
   | (with_reducible exact laws_toGraph.mono _ _ _)
   | (with_reducible exact spec_BothWays.mono _ _ _)
   | (with_reducible exact LeO.refl _)
   | (with_reducible exact LeO.none _)
   | (with_reducible refine LeO.ite ?_ ?_)
   | (with_reducible refine LeO.bind ?_ (fun _ => ?_))
   | exact ih0 _ _ _ _ _ _ _ _ _ _ _
   | exact ih1 _ _ _ _ _ _ _ _
   | exact ih2 _ _ _ _
   | exact impl_BothWays.mono _ _ _
   | exact laws_eqGraph.mono _ _ _ _ _
   | exact laws_heldGraph.mono _ _ _ _
   | exact laws_markGraph.mono _ _ _ _
   | exact laws_toGraph.mono _ _ _
   | exact spec_BothWays.mono _ _ _
   | exact LeO.none _
   | refine LeO.ite ?_ ?_
   | refine LeO.bind ?_ (fun _ => ?_)
  ·intro y0 y1 y2 y3 y4 y5 y6 y7
   unfold laws_FnExactBothWays.j1
   repeat' first
   | (with_reducible exact ih0 _ _ _ _ _ _ _ _ _ _ _)
   | (with_reducible exact ih1 _ _ _ _ _ _ _ _)
   | (with_reducible exact ih2 _ _ _ _)
   | (with_reducible exact impl_BothWays.mono _ _ _)
   | (with_reducible exact laws_eqGraph.mono _ _ _ _ _)
   | (with_reducible exact laws_heldGraph.mono _ _ _ _)
   | (with_reducible exact laws_markGraph.mono _ _ _ _)
   | (with_reducible exact laws_toGraph.mono _ _ _)
   | (with_reducible exact spec_BothWays.mono _ _ _)
   | (with_reducible exact LeO.refl _)
   | (with_reducible exact LeO.none _)
   | (with_reducible refine LeO.ite ?_ ?_)
   | (with_reducible refine LeO.bind ?_ (fun _ => ?_))
   | exact ih0 _ _ _ _ _ _ _ _ _ _ _
   | exact ih1 _ _ _ _ _ _ _ _
   | exact ih2 _ _ _ _
   | exact impl_BothWays.mono _ _ _
   | exact laws_eqGraph.mono _ _ _ _ _
   | exact laws_heldGraph.mono _ _ _ _
   | exact laws_markGraph.mono _ _ _ _
   | exact laws_toGraph.mono _ _ _
   | exact spec_BothWays.mono _ _ _
   | exact LeO.none _
   | refine LeO.ite ?_ ?_
   | refine LeO.bind ?_ (fun _ => ?_)
  ·intro y0 y1 y2 y3
   unfold laws_FnExactBothWays.j2
   repeat' first
   | (with_reducible exact ih0 _ _ _ _ _ _ _ _ _ _ _)
   | (with_reducible exact ih1 _ _ _ _ _ _ _ _)
   | (with_reducible exact ih2 _ _ _ _)
   | (with_reducible exact impl_BothWays.mono _ _ _)
   | (with_reducible exact laws_eqGraph.mono _ _ _ _ _)
   | (with_reducible exact laws_heldGraph.mono _ _ _ _)
   | (with_reducible exact laws_markGraph.mono _ _ _ _)
   | (with_reducible exact laws_toGraph.mono _ _ _)
   | (with_reducible exact spec_BothWays.mono _ _ _)
   | (with_reducible exact LeO.refl _)
   | (with_reducible exact LeO.none _)
   | (with_reducible refine LeO.ite ?_ ?_)
   | (with_reducible refine LeO.bind ?_ (fun _ => ?_))
   | exact ih0 _ _ _ _ _ _ _ _ _ _ _
   | exact ih1 _ _ _ _ _ _ _ _
   | exact ih2 _ _ _ _
   | exact impl_BothWays.mono _ _ _
   | exact laws_eqGraph.mono _ _ _ _ _
   | exact laws_heldGraph.mono _ _ _ _
   | exact laws_markGraph.mono _ _ _ _
   | exact laws_toGraph.mono _ _ _
   | exact spec_BothWays.mono _ _ _
   | exact LeO.none _
   | refine LeO.ite ?_ ?_
   | refine LeO.bind ?_ (fun _ => ?_)
theorem laws_FnExactBothWays.mono : ∀ a0 a1 k, LeO (laws_FnExactBothWays.f k a0 a1) (laws_FnExactBothWays.f (k + 1) a0 a1) := by
 intro a0 a1 k
 obtain ⟨ih0, ih1, ih2⟩ := laws_FnExactBothWays.mono_l k
 unfold laws_FnExactBothWays.f
 repeat' first
   | (with_reducible exact ih0 _ _ _ _ _ _ _ _ _ _ _)
   | (with_reducible exact ih1 _ _ _ _ _ _ _ _)
   | (with_reducible exact ih2 _ _ _ _)
   | (with_reducible exact impl_BothWays.mono _ _ _)
   | (with_reducible exact laws_eqGraph.mono _ _ _ _ _)
   | (with_reducible exact laws_heldGraph.mono _ _ _ _)
   | (with_reducible exact laws_markGraph.mono _ _ _ _)
   | (with_reducible exact laws_toGraph.mono _ _ _)
   | (with_reducible exact spec_BothWays.mono _ _ _)
   | (with_reducible exact LeO.refl _)
   | (with_reducible exact LeO.none _)
   | (with_reducible refine LeO.ite ?_ ?_)
   | (with_reducible refine LeO.bind ?_ (fun _ => ?_))
   | exact ih0 _ _ _ _ _ _ _ _ _ _ _
   | exact ih1 _ _ _ _ _ _ _ _
   | exact ih2 _ _ _ _
   | exact impl_BothWays.mono _ _ _
   | exact laws_eqGraph.mono _ _ _ _ _
   | exact laws_heldGraph.mono _ _ _ _
   | exact laws_markGraph.mono _ _ _ _
   | exact laws_toGraph.mono _ _ _
   | exact spec_BothWays.mono _ _ _
   | exact LeO.none _
   | refine LeO.ite ?_ ?_
   | refine LeO.bind ?_ (fun _ => ?_)
set_option maxHeartbeats 8000000 in
set_option maxRecDepth 100000 in
theorem laws_FnExactBothWays.calls (k : Nat) (a0_0 : Int) (A0_1 : Option Addr) (c0_1 : Nat) (l0_1 : List (S82)) (r : Bool) (w : World) (hr0_1 : Kd.C k82 w A0_1 l0_1.length l0_1) (hc0_1 : l0_1.length ≤ c0_1) (h : laws_FnExactBothWays.f k a0_0 l0_1 = some r) :
  Calls Try.prog 6 #[.agg #[.int .i64 a0_0, .slice A0_1 l0_1.length c0_1]] w fun e w' => e = .returned (.bool r) ∧ Below w.heap.size w w' := by
 have hu24 := Try.underlying24
 have hu30 := Try.underlying30
 have HR0_1 := Aside0.mk hr0_1
 have HC0_1 := Aside0.mk hc0_1
 clear hr0_1 hc0_1
 have HB := Aside0.mk (Below.refl w.heap.size w)
 have H : ((laws_szGraph.f a0_0 l0_1 1048576).bind fun t222 => (if t222 < 0 then (some true) else ((laws_toGraph.f k a0_0 l0_1).bind fun bt223 => ((spec_BothWays.f k bt223.1 bt223.2).bind fun bt227 => ((laws_toGraph.f k a0_0 l0_1).bind fun bt233 => ((impl_BothWays.f k bt233.1 bt233.2).bind fun bt238 => ((laws_eqGraph.f k bt238.1 bt238.2.1 bt227.1 bt227.2.1).bind fun t244 => (if t244 = true then (laws_FnExactBothWays.j0 k bt227.2.2 bt238.2.2 (bt238.2.2 != bt227.2.2) a0_0 l0_1 bt227.1 bt227.2.1 bt233.1 bt233.2 bt238.1 bt238.2.1) else (laws_FnExactBothWays.j0 k bt227.2.2 bt238.2.2 true a0_0 l0_1 bt227.1 bt227.2.1 bt233.1 bt233.2 bt238.1 bt238.2.1))))))))) = some r := h
 clear h
 replace H := Option.bind_eq_some_iff.mp H
 obtain ⟨t222, A20, H⟩ := H
 have A2 := Aside0.mk A20
 clear A20
 by_cases c3 : t222 < 0
 ·rw [if_pos c3] at H
  have c3b0 : decide (t222 < 0) = true := decide_eq_true c3
  clear c3
  obtain rfl := Option.some.inj H
  go_enter Try.func6, Try.ntmps6
  go_wp2_with (first | ((with_reducible refine gate_dst (N := 1) rfl ?_); refine box_event ?hg (N := 1) ?hd (cs := #[.int .i64 a0_0, .slice A0_1 l0_1.length c0_1]) (t := 24) ?hr ?_; (case hd => rfl); (case hg => rfl); (case hr => first | (go_simp; done) | (go_simp; rfl)); intro gb221 hg w4 hbox hb; have BK221 := Aside0.mk hbox; have GW221 := ge_ HB hg; have GE221 := ge_ HB hg; replace HB := Aside0.mk (bt_ HB hb); clear hb hbox hg; have hcz5_0 := cz_ BK221 0 (.int .i64 a0_0); have hcz5_1 := cz_ BK221 1 (.slice A0_1 l0_1.length c0_1); have hfz5_0 := blk_frozen BK221.out 0; have hfz5_1 := blk_frozen BK221.out 1) | ((with_reducible refine gate_callee (f := 15) rfl ?_); refine gl_ (some 16) Try.func15 #[.agg #[.int .i64 a0_0, .slice A0_1 l0_1.length c0_1], .int .i64 1048576] ?_; (with_reducible refine (laws_szGraph.calls a0_0 _ _ l0_1 1048576 t222 _ ?side1 ?side2 A2.out).mono ?_); (case side1 => exact cb_ HR0_1 HB); (case side2 => exact HC0_1.out); rintro e w6 ⟨rfl, hb⟩; refine ⟨_, rfl, ?_⟩; replace BK221 := Aside0.mk (bb_ BK221 hb); replace HB := Aside0.mk (bt_ HB hb); (try clear hb); (try clear hb2); (try clear hk); (try clear hi)))
  go_ret
  exact ⟨by first | rfl | (simp [errW_none, errW_some] <;> rfl) | (simp [*, errW_none, errW_some] <;> rfl), by repeat (first | (with_reducible first | exact HB.out | apply below_alloc | apply pw_below_drewN | apply below_drew1 | refine below_set ?_ GE221.out) | exact HB.out)⟩
 ·rw [if_neg c3] at H
  have c3b0 : decide (t222 < 0) = false := decide_eq_false c3
  clear c3
  replace H := Option.bind_eq_some_iff.mp H
  obtain ⟨⟨t223, t224⟩, A70, H⟩ := H
  have A7 := Aside0.mk A70
  clear A70
  replace H := Option.bind_eq_some_iff.mp H
  obtain ⟨⟨t227, t228, t231⟩, A80, H⟩ := H
  have A8 := Aside0.mk A80
  clear A80
  replace H := Option.bind_eq_some_iff.mp H
  obtain ⟨⟨t233, t234⟩, A90, H⟩ := H
  have A9 := Aside0.mk A90
  clear A90
  replace H := Option.bind_eq_some_iff.mp H
  obtain ⟨⟨t238, t239, t242⟩, A100, H⟩ := H
  have A10 := Aside0.mk A100
  clear A100
  have HC11 := Aside0.mk H
  clear H
  go_enter Try.func6, Try.ntmps6
  go_upto_region 8 with (first | ((with_reducible refine gate_dst (N := 1) rfl ?_); refine box_event ?hg (N := 1) ?hd (cs := #[.int .i64 a0_0, .slice A0_1 l0_1.length c0_1]) (t := 24) ?hr ?_; (case hd => rfl); (case hg => rfl); (case hr => first | (go_simp; done) | (go_simp; rfl)); intro gb221 hg w12 hbox hb; have BK221 := Aside0.mk hbox; have GW221 := ge_ HB hg; have GE221 := ge_ HB hg; replace HB := Aside0.mk (bt_ HB hb); clear hb hbox hg; have hcz13_0 := cz_ BK221 0 (.int .i64 a0_0); have hcz13_1 := cz_ BK221 1 (.slice A0_1 l0_1.length c0_1); have hfz13_0 := blk_frozen BK221.out 0; have hfz13_1 := blk_frozen BK221.out 1) | ((with_reducible refine gate_callee (f := 15) rfl ?_); refine gl_ (some 16) Try.func15 #[.agg #[.int .i64 a0_0, .slice A0_1 l0_1.length c0_1], .int .i64 1048576] ?_; (with_reducible refine (laws_szGraph.calls a0_0 _ _ l0_1 1048576 t222 _ ?side1 ?side2 A2.out).mono ?_); (case side1 => exact cb_ HR0_1 HB); (case side2 => exact HC0_1.out); rintro e w14 ⟨rfl, hb⟩; refine ⟨_, rfl, ?_⟩; replace BK221 := Aside0.mk (bb_ BK221 hb); replace HB := Aside0.mk (bt_ HB hb); (try clear hb); (try clear hb2); (try clear hk); (try clear hi); have hcz15_0 := cz_ BK221 0 (.int .i64 a0_0); have hcz15_1 := cz_ BK221 1 (.slice A0_1 l0_1.length c0_1); have hfz15_0 := blk_frozen BK221.out 0; have hfz15_1 := blk_frozen BK221.out 1) | ((with_reducible refine gate_callee (f := 17) rfl ?_); refine gl_ (some 21) Try.func17 #[.agg #[.int .i64 a0_0, .slice A0_1 l0_1.length c0_1]] ?_; (with_reducible refine (laws_toGraph.calls k a0_0 _ _ l0_1 t223 t224 _ ?side1 ?side2 A7.out).mono ?_); (case side1 => exact cb_ HR0_1 HB); (case side2 => exact HC0_1.out); rintro e w16 ⟨v225, rfl, ho0, hb⟩; refine ⟨_, rfl, ?_⟩; have HO226 := Aside0.mk (Kd.R_lower ho0 (bz_ HB)); replace BK221 := Aside0.mk (bb_ BK221 hb); replace HB := Aside0.mk (bt_ HB hb); (try clear hb); (try clear hb2); (try clear hk); (try clear hi); (try clear ho0); obtain ⟨Ao17, co17, eo17⟩ := Kd.R_slice HO226.out; subst eo17) | ((with_reducible refine gate_callee (f := 28) rfl ?_); refine gl_ (some 22) Try.func28 #[.agg #[.int .i64 t223, .slice Ao17 t224.length co17]] ?_; (with_reducible refine (spec_BothWays.calls k t223 _ _ t224 t227 t228 t231 _ ?side1 ?side2 A8.out).mono ?_); (case side1 => exact rc_ HO226); (case side2 => exact (Kd.R_reads' HO226.out).2.1); rintro e w18 ⟨v229, rfl, ho0, hb⟩; refine ⟨_, rfl, ?_⟩; have HO230 := Aside0.mk (Kd.R_lower (Kd.R_new' ho0 (Kd.R_lt (hd_ HO226))) (bz_ HB)); replace HO226 := Aside0.mk (Kd.R_elder' (hd_ HO226) (Kd.R_base ho0) hb); replace BK221 := Aside0.mk (bb_ BK221 hb); replace HB := Aside0.mk (bt_ HB hb); (try clear hb); (try clear hb2); (try clear hk); (try clear hi); (try clear ho0)) | ((with_reducible refine gate_dst (N := 4) rfl ?_); refine box_event ?hg (N := 4) ?hd (cs := #[.int .i64 0, .slice none 0 0]) (t := 30) ?hr ?_; (case hd => rfl); (case hg => rfl); (case hr => first | (go_simp; done) | (go_simp; rfl)); intro gb232 hg w19 hbox hb; have BK232 := Aside0.mk hbox; have GW232 := ge_ HB hg; have GE232 := ge_ HB hg; have NB221_232 := nl_ BK221 hg; have NB232_221 := ng_ BK221 hg; replace HO226 := rb_ HO226 hb; replace HO230 := rb_ HO230 hb; replace HB := Aside0.mk (bt_ HB hb); replace BK221 := Aside0.mk (bb_ BK221 hb); clear hb hbox hg; have hnb20 := NB232_221.out; have hnc20 := NB221_232.out; have hcz21_0 := cz_ BK232 0 (.int .i64 0); have hcz21_1 := cz_ BK232 1 (.slice none 0 0); have hfz21_0 := blk_frozen BK232.out 0; have hfz21_1 := blk_frozen BK232.out 1; obtain ⟨Ao22, co22, eo22⟩ := Kd.R_slice HO230.out; subst eo22; have hcz23_0 := cz_ BK221 0 (.int .i64 a0_0); have hcz23_1 := cz_ BK221 1 (.slice A0_1 l0_1.length c0_1); have hfz23_0 := blk_frozen BK221.out 0; have hfz23_1 := blk_frozen BK221.out 1) | ((with_reducible refine gate_callee (f := 17) rfl ?_); refine gl_ (some 26) Try.func17 #[.agg #[.int .i64 a0_0, .slice A0_1 l0_1.length c0_1]] ?_; (with_reducible refine (laws_toGraph.calls k a0_0 _ _ l0_1 t233 t234 _ ?side1 ?side2 A9.out).mono ?_); (case side1 => exact Kd.C_below HR0_1.out (by repeat (first | (with_reducible first | exact HB.out | apply below_alloc | apply pw_below_drewN | apply below_drew1 | refine below_set ?_ GE221.out | refine below_set ?_ GE232.out) | exact HB.out))); (case side2 => exact HC0_1.out); rintro e w24 ⟨v235, rfl, ho0, hb⟩; refine ⟨_, rfl, ?_⟩; have HO236 := Aside0.mk (Kd.R_lower (Kd.R_new' (Kd.R_new' ho0 (Kd.R_lt (hs_ HO226 BK232))) (Kd.R_lt (hs_ HO230 BK232))) (bz_ HB)); replace HO226 := Aside0.mk (Kd.R_elder' (hs_ HO226 BK232) (Kd.R_base ho0) hb); replace HO230 := Aside0.mk (Kd.R_elder' (hs_ HO230 BK232) (Kd.R_base ho0) hb); replace BK221 := bf_ BK221 NB221_232 hb; replace BK232 := Aside0.mk (blk_below (g := gb232) (o := .cells #[.int .i64 t227, .slice Ao22 t228.length co22] 30 (0, 0)) (by (with_reducible repeat (first | refine blk_drewN ?_ _ | refine blk_drew ?_ | refine blk_alloc ?_ _)); refine blk_put (cs := #[.int .i64 t227, .slice none 0 0]) ?_ 1 _ rfl; (with_reducible repeat (first | refine blk_drewN ?_ _ | refine blk_drew ?_ | refine blk_alloc ?_ _)); refine blk_put (cs := #[.int .i64 0, .slice none 0 0]) ?_ 0 _ rfl; (with_reducible repeat (first | refine blk_drewN ?_ _ | refine blk_drew ?_ | refine blk_alloc ?_ _)); exact BK232.out) hb); replace HB := Aside0.mk (bt_ HB hb); (try clear hb); (try clear hb2); (try clear hk); (try clear hi); (try clear ho0)) | ((with_reducible refine gate_dst (N := 6) rfl ?_); refine box_event ?hg (N := 6) ?hd (cs := #[.int .i64 0, .slice none 0 0]) (t := 30) ?hr ?_; (case hd => rfl); (case hg => rfl); (case hr => first | (go_simp; done) | (go_simp; rfl)); intro gb237 hg w25 hbox hb; have BK237 := Aside0.mk hbox; have GW237 := ge_ HB hg; have GE237 := ge_ HB hg; have NB221_237 := nl_ BK221 hg; have NB237_221 := ng_ BK221 hg; have NB232_237 := nl_ BK232 hg; have NB237_232 := ng_ BK232 hg; replace HO226 := rb_ HO226 hb; replace HO230 := rb_ HO230 hb; replace HO236 := rb_ HO236 hb; replace HB := Aside0.mk (bt_ HB hb); replace BK221 := Aside0.mk (bb_ BK221 hb); replace BK232 := Aside0.mk (bb_ BK232 hb); clear hb hbox hg; have hnb26 := NB237_221.out; have hnc26 := NB221_237.out; have hnb27 := NB237_232.out; have hnc27 := NB232_237.out; have hcz28_0 := cz_ BK237 0 (.int .i64 0); have hcz28_1 := cz_ BK237 1 (.slice none 0 0); have hfz28_0 := blk_frozen BK237.out 0; have hfz28_1 := blk_frozen BK237.out 1; obtain ⟨Ao29, co29, eo29⟩ := Kd.R_slice HO236.out; subst eo29) | ((with_reducible refine gate_callee (f := 29) rfl ?_); refine gl_ (some 29) Try.func29 #[.agg #[.int .i64 t233, .slice Ao29 t234.length co29]] ?_; (with_reducible refine (impl_BothWays.calls k t233 _ _ t234 t238 t239 t242 _ ?side1 ?side2 A10.out).mono ?_); (case side1 => refine (Kd.R_reads' (e := 67) (base := w.heap.size) (ok := fun k_ => ((True ∧ some k_ ≠ (.slice Ao17 t224.length co17 : Value).ownBlock) ∧ some k_ ≠ (.slice Ao22 t228.length co22 : Value).ownBlock)) (n := t234.length) (c := co29) ?_).2.2; exact (hs_ HO236 BK237)); (case side2 => exact (Kd.R_reads' HO236.out).2.1); rintro e w30 ⟨v240, rfl, ho0, hb⟩; refine ⟨_, rfl, ?_⟩; have HO241 := Aside0.mk (Kd.R_lower (Kd.R_new' (Kd.R_new' (Kd.R_new' ho0 (Kd.R_lt (hs_ HO226 BK237))) (Kd.R_lt (hs_ HO230 BK237))) (Kd.R_lt (hs_ HO236 BK237))) (bz_ HB)); replace HO226 := Aside0.mk (Kd.R_elder' (hs_ HO226 BK237) (Kd.R_base ho0) hb); replace HO230 := Aside0.mk (Kd.R_elder' (hs_ HO230 BK237) (Kd.R_base ho0) hb); replace HO236 := Aside0.mk (Kd.R_elder' (hs_ HO236 BK237) (Kd.R_base ho0) hb); replace BK221 := bf_ BK221 NB221_237 hb; replace BK232 := bf_ BK232 NB232_237 hb; replace BK237 := Aside0.mk (blk_below (g := gb237) (o := .cells #[.int .i64 t233, .slice Ao29 t234.length co29] 30 (0, 0)) (by (with_reducible repeat (first | refine blk_drewN ?_ _ | refine blk_drew ?_ | refine blk_alloc ?_ _)); refine blk_put (cs := #[.int .i64 t233, .slice none 0 0]) ?_ 1 _ rfl; (with_reducible repeat (first | refine blk_drewN ?_ _ | refine blk_drew ?_ | refine blk_alloc ?_ _)); refine blk_put (cs := #[.int .i64 0, .slice none 0 0]) ?_ 0 _ rfl; (with_reducible repeat (first | refine blk_drewN ?_ _ | refine blk_drew ?_ | refine blk_alloc ?_ _)); exact BK237.out) hb); replace HB := Aside0.mk (bt_ HB hb); (try clear hb); (try clear hb2); (try clear hk); (try clear hi); (try clear ho0)) | ((with_reducible refine gate_dst (N := 7) rfl ?_); refine box_event ?hg (N := 7) ?hd (cs := #[.int .i64 0, .slice none 0 0]) (t := 30) ?hr ?_; (case hd => rfl); (case hg => rfl); (case hr => first | (go_simp; done) | (go_simp; rfl)); intro gb243 hg w31 hbox hb; have BK243 := Aside0.mk hbox; have GW243 := ge_ HB hg; have GE243 := ge_ HB hg; have NB221_243 := nl_ BK221 hg; have NB243_221 := ng_ BK221 hg; have NB232_243 := nl_ BK232 hg; have NB243_232 := ng_ BK232 hg; have NB237_243 := nl_ BK237 hg; have NB243_237 := ng_ BK237 hg; replace HO226 := rb_ HO226 hb; replace HO230 := rb_ HO230 hb; replace HO236 := rb_ HO236 hb; replace HO241 := rb_ HO241 hb; replace HB := Aside0.mk (bt_ HB hb); replace BK221 := Aside0.mk (bb_ BK221 hb); replace BK232 := Aside0.mk (bb_ BK232 hb); replace BK237 := Aside0.mk (bb_ BK237 hb); clear hb hbox hg; have hnb32 := NB243_221.out; have hnc32 := NB221_243.out; have hnb33 := NB243_232.out; have hnc33 := NB232_243.out; have hnb34 := NB243_237.out; have hnc34 := NB237_243.out; have hcz35_0 := cz_ BK243 0 (.int .i64 0); have hcz35_1 := cz_ BK243 1 (.slice none 0 0); have hfz35_0 := blk_frozen BK243.out 0; have hfz35_1 := blk_frozen BK243.out 1; obtain ⟨Ao36, co36, eo36⟩ := Kd.R_slice HO241.out; subst eo36))
  (try simp only [Act.put, List.setIfInBounds_toArray, List.set_cons_zero, List.set_cons_succ])
  go_cut [40] (fun v40 wc => ∃ (kq : Nat) (x40_10 : Bool), v40 = .bool x40_10 ∧ Aside0 (laws_FnExactBothWays.j0 kq t231 t242 x40_10 a0_0 l0_1 t227 t228 t233 t234 t238 t239 = some r) ∧ Aside0 (kq ≤ k) ∧ Aside0 (Kd.R k67 67 wc w.heap.size (fun k_ => some k_ ≠ ((.slice Ao29 t234.length co29) : Value).ownBlock ∧ some k_ ≠ ((.slice Ao36 t239.length co36) : Value).ownBlock) (.slice Ao22 t228.length co22) t228) ∧ Aside0 (Kd.R k67 67 wc w.heap.size (fun k_ => some k_ ≠ ((.slice Ao22 t228.length co22) : Value).ownBlock ∧ some k_ ≠ ((.slice Ao36 t239.length co36) : Value).ownBlock) (.slice Ao29 t234.length co29) t234) ∧ Aside0 (Kd.R k67 67 wc w.heap.size (fun k_ => some k_ ≠ ((.slice Ao22 t228.length co22) : Value).ownBlock ∧ some k_ ≠ ((.slice Ao29 t234.length co29) : Value).ownBlock) (.slice Ao36 t239.length co36) t239) ∧ Aside0 (wc.heap[gb221]? = some (.cells #[.int .i64 a0_0, (.slice A0_1 l0_1.length c0_1)] 24 (0, 0))) ∧ Aside0 (wc.heap[gb232]? = some (.cells #[.int .i64 t227, (.slice Ao22 t228.length co22)] 30 (0, 0))) ∧ Aside0 (wc.heap[gb237]? = some (.cells #[.int .i64 t233, (.slice Ao29 t234.length co29)] 30 (0, 0))) ∧ Aside0 (wc.heap[gb243]? = some (.cells #[.int .i64 t238, (.slice Ao36 t239.length co36)] 30 (0, 0))) ∧ Aside0 (Below w.heap.size w wc))
  case first =>
   have H := HC11.out
   clear HC11
   replace H := Option.bind_eq_some_iff.mp H
   obtain ⟨t244, A370, H⟩ := H
   have A37 := Aside0.mk A370
   clear A370
   by_cases c38 : t244 = true
   ·subst c38
    rw [if_pos rfl] at H
    have H' := Aside0.mk H
    clear H
    have hnb39 := NB243_221.out
    have hnc39 := NB221_243.out
    have hnb40 := NB243_232.out
    have hnc40 := NB232_243.out
    have hnb41 := NB243_237.out
    have hnc41 := NB237_243.out
    have hcz42_0 := cz_ BK243 0 (.int .i64 0)
    have hcz42_1 := cz_ BK243 1 (.slice none 0 0)
    have hfz42_0 := blk_frozen BK243.out 0
    have hfz42_1 := blk_frozen BK243.out 1
    have hnb43 := NB232_221.out
    have hnc43 := NB221_232.out
    have hnb44 := NB232_237.out
    have hnc44 := NB237_232.out
    have hcz45_0 := cz_ BK232 0 (.int .i64 t227)
    have hcz45_1 := cz_ BK232 1 (.slice Ao22 t228.length co22)
    have hfz45_0 := blk_frozen BK232.out 0
    have hfz45_1 := blk_frozen BK232.out 1
    go_wp2_with (first | ((with_reducible refine gate_callee (f := 20) rfl ?_); refine gl_ (some 34) Try.func20 #[.agg #[.int .i64 t238, .slice Ao36 t239.length co36], .agg #[.int .i64 t227, .slice Ao22 t228.length co22]] ?_; (with_reducible refine (laws_eqGraph.calls k t238 _ _ t239 t227 _ _ t228 true _ ?side1 ?side2 ?side3 ?side4 A37.out).mono ?_); (case side1 => refine (Kd.R_reads' (e := 67) (base := w.heap.size) (ok := fun k_ => (((True ∧ some k_ ≠ (.slice Ao17 t224.length co17 : Value).ownBlock) ∧ some k_ ≠ (.slice Ao22 t228.length co22 : Value).ownBlock) ∧ some k_ ≠ (.slice Ao29 t234.length co29 : Value).ownBlock)) (n := t239.length) (c := co36) ?_).2.2; exact (hs_ HO241 BK243)); (case side2 => exact (Kd.R_reads' HO241.out).2.1); (case side3 => refine (Kd.R_reads' (e := 67) (base := w.heap.size) (ok := fun k_ => (((True ∧ some k_ ≠ (.slice Ao17 t224.length co17 : Value).ownBlock) ∧ some k_ ≠ (.slice Ao29 t234.length co29 : Value).ownBlock) ∧ some k_ ≠ (.slice Ao36 t239.length co36 : Value).ownBlock)) (n := t228.length) (c := co22) ?_).2.2; exact (hs_ HO230 BK243)); (case side4 => exact (Kd.R_reads' HO230.out).2.1); rintro e w46 ⟨rfl, hb⟩; refine ⟨_, rfl, ?_⟩; replace HO226 := rs_ HO226 BK243 hb; replace HO230 := rs_ HO230 BK243 hb; replace HO236 := rs_ HO236 BK243 hb; replace HO241 := rs_ HO241 BK243 hb; replace BK221 := bf_ BK221 NB221_243 hb; replace BK232 := bf_ BK232 NB232_243 hb; replace BK237 := bf_ BK237 NB237_243 hb; replace BK243 := Aside0.mk (blk_below (g := gb243) (o := .cells #[.int .i64 t238, .slice Ao36 t239.length co36] 30 (0, 0)) (by (with_reducible repeat (first | refine blk_drewN ?_ _ | refine blk_drew ?_ | refine blk_alloc ?_ _)); refine blk_put (cs := #[.int .i64 t238, .slice none 0 0]) ?_ 1 _ rfl; (with_reducible repeat (first | refine blk_drewN ?_ _ | refine blk_drew ?_ | refine blk_alloc ?_ _)); refine blk_put (cs := #[.int .i64 0, .slice none 0 0]) ?_ 0 _ rfl; (with_reducible repeat (first | refine blk_drewN ?_ _ | refine blk_drew ?_ | refine blk_alloc ?_ _)); exact BK243.out) hb); replace HB := Aside0.mk (bt_ HB hb); (try clear hb); (try clear hb2); (try clear hk); (try clear hi)))
    go_meet
    case rel => exact ⟨_, ((t242 != t231)), (by first | rfl | (simp; done) | (simp [*]; done)), H', ⟨by first | omega | exact Nat.le_refl _⟩, ⟨by (with_reducible repeat (first | apply Kd.R_alloc | apply Kd.R_drewN | apply Kd.R_drew)); exact Kd.R_mono HO230.out (fun _ hk => by first | exact ⟨hk.1.2, hk.2⟩ | grind)⟩, ⟨by (with_reducible repeat (first | apply Kd.R_alloc | apply Kd.R_drewN | apply Kd.R_drew)); exact Kd.R_mono HO236.out (fun _ hk => by first | exact ⟨hk.1.2, hk.2⟩ | grind)⟩, ⟨by (with_reducible repeat (first | apply Kd.R_alloc | apply Kd.R_drewN | apply Kd.R_drew)); exact Kd.R_mono HO241.out (fun _ hk => by first | exact ⟨hk.1.2, hk.2⟩ | grind)⟩, ⟨by (with_reducible repeat (first | refine blk_drewN ?_ _ | refine blk_drew ?_ | refine blk_alloc ?_ _)); exact BK221.out⟩, ⟨by (with_reducible repeat (first | refine blk_drewN ?_ _ | refine blk_drew ?_ | refine blk_alloc ?_ _)); exact BK232.out⟩, ⟨by (with_reducible repeat (first | refine blk_drewN ?_ _ | refine blk_drew ?_ | refine blk_alloc ?_ _)); exact BK237.out⟩, ⟨by (with_reducible repeat (first | refine blk_drewN ?_ _ | refine blk_drew ?_ | refine blk_alloc ?_ _)); exact BK243.out⟩, ⟨by repeat (first | (with_reducible first | exact HB.out | apply below_alloc | apply pw_below_drewN | apply below_drew1 | refine below_set ?_ GE221.out | refine below_set ?_ GE232.out | refine below_set ?_ GE237.out | refine below_set ?_ GE243.out) | exact HB.out)⟩⟩
   ·replace c38 := Bool.eq_false_iff.mpr c38
    subst c38
    rw [if_neg (show ¬ (false = true) by decide)] at H
    have H' := Aside0.mk H
    clear H
    have hnb47 := NB243_221.out
    have hnc47 := NB221_243.out
    have hnb48 := NB243_232.out
    have hnc48 := NB232_243.out
    have hnb49 := NB243_237.out
    have hnc49 := NB237_243.out
    have hcz50_0 := cz_ BK243 0 (.int .i64 0)
    have hcz50_1 := cz_ BK243 1 (.slice none 0 0)
    have hfz50_0 := blk_frozen BK243.out 0
    have hfz50_1 := blk_frozen BK243.out 1
    have hnb51 := NB232_221.out
    have hnc51 := NB221_232.out
    have hnb52 := NB232_237.out
    have hnc52 := NB237_232.out
    have hcz53_0 := cz_ BK232 0 (.int .i64 t227)
    have hcz53_1 := cz_ BK232 1 (.slice Ao22 t228.length co22)
    have hfz53_0 := blk_frozen BK232.out 0
    have hfz53_1 := blk_frozen BK232.out 1
    go_wp2_with (first | ((with_reducible refine gate_callee (f := 20) rfl ?_); refine gl_ (some 34) Try.func20 #[.agg #[.int .i64 t238, .slice Ao36 t239.length co36], .agg #[.int .i64 t227, .slice Ao22 t228.length co22]] ?_; (with_reducible refine (laws_eqGraph.calls k t238 _ _ t239 t227 _ _ t228 false _ ?side1 ?side2 ?side3 ?side4 A37.out).mono ?_); (case side1 => refine (Kd.R_reads' (e := 67) (base := w.heap.size) (ok := fun k_ => (((True ∧ some k_ ≠ (.slice Ao17 t224.length co17 : Value).ownBlock) ∧ some k_ ≠ (.slice Ao22 t228.length co22 : Value).ownBlock) ∧ some k_ ≠ (.slice Ao29 t234.length co29 : Value).ownBlock)) (n := t239.length) (c := co36) ?_).2.2; exact (hs_ HO241 BK243)); (case side2 => exact (Kd.R_reads' HO241.out).2.1); (case side3 => refine (Kd.R_reads' (e := 67) (base := w.heap.size) (ok := fun k_ => (((True ∧ some k_ ≠ (.slice Ao17 t224.length co17 : Value).ownBlock) ∧ some k_ ≠ (.slice Ao29 t234.length co29 : Value).ownBlock) ∧ some k_ ≠ (.slice Ao36 t239.length co36 : Value).ownBlock)) (n := t228.length) (c := co22) ?_).2.2; exact (hs_ HO230 BK243)); (case side4 => exact (Kd.R_reads' HO230.out).2.1); rintro e w54 ⟨rfl, hb⟩; refine ⟨_, rfl, ?_⟩; replace HO226 := rs_ HO226 BK243 hb; replace HO230 := rs_ HO230 BK243 hb; replace HO236 := rs_ HO236 BK243 hb; replace HO241 := rs_ HO241 BK243 hb; replace BK221 := bf_ BK221 NB221_243 hb; replace BK232 := bf_ BK232 NB232_243 hb; replace BK237 := bf_ BK237 NB237_243 hb; replace BK243 := Aside0.mk (blk_below (g := gb243) (o := .cells #[.int .i64 t238, .slice Ao36 t239.length co36] 30 (0, 0)) (by (with_reducible repeat (first | refine blk_drewN ?_ _ | refine blk_drew ?_ | refine blk_alloc ?_ _)); refine blk_put (cs := #[.int .i64 t238, .slice none 0 0]) ?_ 1 _ rfl; (with_reducible repeat (first | refine blk_drewN ?_ _ | refine blk_drew ?_ | refine blk_alloc ?_ _)); refine blk_put (cs := #[.int .i64 0, .slice none 0 0]) ?_ 0 _ rfl; (with_reducible repeat (first | refine blk_drewN ?_ _ | refine blk_drew ?_ | refine blk_alloc ?_ _)); exact BK243.out) hb); replace HB := Aside0.mk (bt_ HB hb); (try clear hb); (try clear hb2); (try clear hk); (try clear hi)))
    go_meet
    case rel => exact ⟨_, (true), (by first | rfl | (simp; done) | (simp [*]; done)), H', ⟨by first | omega | exact Nat.le_refl _⟩, ⟨by (with_reducible repeat (first | apply Kd.R_alloc | apply Kd.R_drewN | apply Kd.R_drew)); exact Kd.R_mono HO230.out (fun _ hk => by first | exact ⟨hk.1.2, hk.2⟩ | grind)⟩, ⟨by (with_reducible repeat (first | apply Kd.R_alloc | apply Kd.R_drewN | apply Kd.R_drew)); exact Kd.R_mono HO236.out (fun _ hk => by first | exact ⟨hk.1.2, hk.2⟩ | grind)⟩, ⟨by (with_reducible repeat (first | apply Kd.R_alloc | apply Kd.R_drewN | apply Kd.R_drew)); exact Kd.R_mono HO241.out (fun _ hk => by first | exact ⟨hk.1.2, hk.2⟩ | grind)⟩, ⟨by (with_reducible repeat (first | refine blk_drewN ?_ _ | refine blk_drew ?_ | refine blk_alloc ?_ _)); exact BK221.out⟩, ⟨by (with_reducible repeat (first | refine blk_drewN ?_ _ | refine blk_drew ?_ | refine blk_alloc ?_ _)); exact BK232.out⟩, ⟨by (with_reducible repeat (first | refine blk_drewN ?_ _ | refine blk_drew ?_ | refine blk_alloc ?_ _)); exact BK237.out⟩, ⟨by (with_reducible repeat (first | refine blk_drewN ?_ _ | refine blk_drew ?_ | refine blk_alloc ?_ _)); exact BK243.out⟩, ⟨by repeat (first | (with_reducible first | exact HB.out | apply below_alloc | apply pw_below_drewN | apply below_drew1 | refine below_set ?_ GE221.out | refine below_set ?_ GE232.out | refine below_set ?_ GE237.out | refine below_set ?_ GE243.out) | exact HB.out)⟩⟩
  case rest =>
   clear HC11
   try clear c1
   try clear c2
   try clear p2
   try clear c3
   try clear c3b0
   try clear c4
   try clear c5
   try clear c6
   try clear c15
   try clear c17
   try clear c20
   try clear c26
   try clear c27
   try clear c28
   try clear c29
   try clear c32
   try clear c33
   try clear c34
   try clear c38
   try clear c39
   try clear c40
   try clear c41
   try clear c43
   try clear c44
   try clear c47
   try clear c48
   try clear c49
   try clear c51
   try clear c52
   try clear hcz13_0
   try clear hcz13_1
   try clear hcz15_0
   try clear hcz15_1
   try clear hcz21_0
   try clear hcz21_1
   try clear hcz23_0
   try clear hcz23_1
   try clear hcz28_0
   try clear hcz28_1
   try clear hcz35_0
   try clear hcz35_1
   try clear hcz42_0
   try clear hcz42_1
   try clear hcz45_0
   try clear hcz45_1
   try clear hcz50_0
   try clear hcz50_1
   try clear hcz53_0
   try clear hcz53_1
   try clear hcz5_0
   try clear hcz5_1
   try clear hfz13_0
   try clear hfz13_1
   try clear hfz15_0
   try clear hfz15_1
   try clear hfz21_0
   try clear hfz21_1
   try clear hfz23_0
   try clear hfz23_1
   try clear hfz28_0
   try clear hfz28_1
   try clear hfz35_0
   try clear hfz35_1
   try clear hfz42_0
   try clear hfz42_1
   try clear hfz45_0
   try clear hfz45_1
   try clear hfz50_0
   try clear hfz50_1
   try clear hfz53_0
   try clear hfz53_1
   try clear hfz5_0
   try clear hfz5_1
   obtain ⟨kq, x40_10, rfl, HA, HJ10, HO_233001, HO_238001, HO_244001, BK221, BK232, BK237, BK243, HB⟩ := hcut
   cases kq with
   | zero => exact absurd HA.out (by simp [laws_FnExactBothWays.j0])
   | succ kj10 =>
    have H := HA.out
    clear HA
    simp only [laws_FnExactBothWays.j0] at H
    by_cases c55 : x40_10 = true
    ·subst c55
     rw [if_pos rfl] at H
     obtain rfl := Option.some.inj H
     go_wp2
     go_ret
     exact ⟨by first | rfl | (simp [errW_none, errW_some] <;> rfl) | (simp [*, errW_none, errW_some] <;> rfl), by repeat (first | (with_reducible first | exact HB.out | apply below_alloc | apply pw_below_drewN | apply below_drew1 | refine below_set ?_ GE221.out | refine below_set ?_ GE232.out | refine below_set ?_ GE237.out | refine below_set ?_ GE243.out) | exact HB.out)⟩
    ·replace c55 := Bool.eq_false_iff.mpr c55
     subst c55
     rw [if_neg (show ¬ (false = true) by decide)] at H
     replace H := Option.bind_eq_some_iff.mp H
     obtain ⟨⟨t245, t246⟩, A560, H⟩ := H
     have A56 := Aside0.mk A560
     clear A560
     replace H := Option.bind_eq_some_iff.mp H
     obtain ⟨t249, A570, H⟩ := H
     have A57 := Aside0.mk A570
     clear A570
     by_cases c58 : t249 = true
     ·subst c58
      rw [if_pos rfl] at H
      replace H := Option.bind_eq_some_iff.mp H
      obtain ⟨⟨t250, t251⟩, A590, H⟩ := H
      have A59 := Aside0.mk A590
      clear A590
      have HC60 := Aside0.mk H
      clear H
      try go_wp2
      replace HO_233001 := Aside0.mk (Kd.R_drew HO_233001.out)
      replace HO_238001 := Aside0.mk (Kd.R_drew HO_238001.out)
      replace HO_244001 := Aside0.mk (Kd.R_drew HO_244001.out)
      replace BK221 := Aside0.mk (blk_drew BK221.out)
      replace BK232 := Aside0.mk (blk_drew BK232.out)
      replace BK237 := Aside0.mk (blk_drew BK237.out)
      replace BK243 := Aside0.mk (blk_drew BK243.out)
      replace HB := Aside0.mk (below_drew1 HB.out)
      refine start_ (n := 5) (S := fun w' => w'.cell? ⟨gb237, 0, none⟩ = some (.int .i64 t233) ∧ w'.cell? ⟨gb237, 1, none⟩ = some (.slice Ao29 t234.length co29) ∧ w'.cell? ⟨gb221, 0, none⟩ = some (.int .i64 a0_0) ∧ w'.cell? ⟨gb221, 1, none⟩ = some (.slice A0_1 l0_1.length c0_1)) (ds := []) ba9_0 (by kernel_rfl) rfl rfl ⟨(blk_cell BK237.out 0).trans rfl, (blk_cell BK237.out 1).trans rfl, (blk_cell BK221.out 0).trans rfl, (blk_cell BK221.out 1).trans rfl⟩ (fun hHeld => ?_)
      generalize wc.drew = w61 at HO_233001 HO_238001 HO_244001 BK221 BK232 BK237 BK243 HB hHeld ⊢
      refine take_ (i := 0) (N := some 41) (v := ?_) (a' := ?_) ba9_1 rfl rfl (by kernel_rfl) (fun _ _ _ h => h) (Or.inl ⟨by rfl, ?_⟩) hHeld ?_ ?_
      rotate_left; · rintro w' ⟨s0, s1, s2, s3⟩; go_simp; with_reducible rfl
      rotate_left; · simp only [Act.put, List.setIfInBounds_toArray, List.set_cons_zero, List.set_cons_succ, i64_w, i32_w]; rfl
      refine take_ (i := 1) (N := some 42) (v := ?_) (a' := ?_) ba9_2 rfl rfl (by kernel_rfl) (fun _ _ _ h => h) (Or.inl ⟨by rfl, ?_⟩) hHeld ?_ ?_
      rotate_left; · rintro w' ⟨s0, s1, s2, s3⟩; go_simp; with_reducible rfl
      rotate_left; · simp only [Act.put, List.setIfInBounds_toArray, List.set_cons_zero, List.set_cons_succ, i64_w, i32_w]; rfl
      refine one_ (i := 2) (N := some 43) ba9_3 rfl rfl (by kernel_rfl) (by decide) (fun K hK => ?_)
      refine gz_ Try.func17 #[.agg #[.int .i64 a0_0, .slice A0_1 l0_1.length c0_1]] ?_
      with_reducible refine (laws_toGraph.calls kj10 a0_0 _ _ l0_1 t245 t246 _ ?side1 ?side2 A56.out).mono ?_
      (case side1 => exact cb_ HR0_1 HB)
      (case side2 => exact HC0_1.out)
      rintro e w62 ⟨v247, rfl, ho0, hb⟩
      refine ⟨_, rfl, ?_⟩
      have HO248 := Aside0.mk (Kd.R_lower (Kd.R_new' (Kd.R_new' (Kd.R_new' ho0 (Kd.R_lt (hd_ HO_233001))) (Kd.R_lt (hd_ HO_238001))) (Kd.R_lt (hd_ HO_244001))) (bz_ HB))
      replace HO_233001 := Aside0.mk (Kd.R_elder' (hd_ HO_233001) (Kd.R_base ho0) hb)
      replace HO_238001 := Aside0.mk (Kd.R_elder' (hd_ HO_238001) (Kd.R_base ho0) hb)
      replace HO_244001 := Aside0.mk (Kd.R_elder' (hd_ HO_244001) (Kd.R_base ho0) hb)
      replace BK221 := Aside0.mk (bb_ BK221 hb)
      replace BK232 := Aside0.mk (bb_ BK232 hb)
      replace BK237 := Aside0.mk (bb_ BK237 hb)
      replace BK243 := Aside0.mk (bb_ BK243 hb)
      replace HB := Aside0.mk (bt_ HB hb)
      (try clear hb)
      (try clear hb2)
      (try clear hk)
      (try clear hi)
      (try clear ho0)
      obtain ⟨Ao63, co63, eo63⟩ := Kd.R_slice HO248.out
      (first | subst eo63 | (injection eo63 with f1_ f2_ f3_; have f4_ := f1_.symm; have f5_ := f3_.symm; clear f1_ f2_ f3_; subst f4_; subst f5_))
      refine hK.out _ _ ⟨(blk_cell BK237.out 0).trans rfl, (blk_cell BK237.out 1).trans rfl, (blk_cell BK221.out 0).trans rfl, (blk_cell BK221.out 1).trans rfl⟩ (fun hHeld => ?_)
      clear hK K
      refine nz_ 43 ?_
      refine one_ (i := 3) (N := some 44) ba9_4 rfl rfl (by kernel_rfl) (by decide) (fun K hK => ?_)
      refine gz_ Try.func20 #[.agg #[.int .i64 t233, .slice Ao29 t234.length co29], .agg #[.int .i64 t245, .slice Ao63 t246.length co63]] ?_
      with_reducible refine (laws_eqGraph.calls kj10 t233 _ _ t234 t245 _ _ t246 true _ ?side1 ?side2 ?side3 ?side4 A57.out).mono ?_
      (case side1 => exact rc_ HO_238001)
      (case side2 => exact (Kd.R_reads' HO_238001.out).2.1)
      (case side3 => exact rc_ HO248)
      (case side4 => exact (Kd.R_reads' HO248.out).2.1)
      rintro e w64 ⟨rfl, hb⟩
      refine ⟨_, rfl, ?_⟩
      replace HO_233001 := rb_ HO_233001 hb
      replace HO_238001 := rb_ HO_238001 hb
      replace HO_244001 := rb_ HO_244001 hb
      replace HO248 := rb_ HO248 hb
      replace BK221 := Aside0.mk (bb_ BK221 hb)
      replace BK232 := Aside0.mk (bb_ BK232 hb)
      replace BK237 := Aside0.mk (bb_ BK237 hb)
      replace BK243 := Aside0.mk (bb_ BK243 hb)
      replace HB := Aside0.mk (bt_ HB hb)
      (try clear hb)
      (try clear hb2)
      (try clear hk)
      (try clear hi)
      refine hK.out _ _ ⟨(blk_cell BK237.out 0).trans rfl, (blk_cell BK237.out 1).trans rfl, (blk_cell BK221.out 0).trans rfl, (blk_cell BK221.out 1).trans rfl⟩ (fun hHeld => ?_)
      clear hK K
      refine nz_ 44 ?_
      refine pure_ (i := 4) (N := some 45) (v := ?_) (a' := ?_) ba9_5 rfl rfl (by kernel_rfl) (fun _ _ _ h => h) (Or.inl ⟨by rfl, ?_⟩) ?_ ?_
      rotate_left; · intro w'; go_simp; with_reducible rfl
      rotate_left; · simp only [Act.put, List.setIfInBounds_toArray, List.set_cons_zero, List.set_cons_succ, i64_w, i32_w]; rfl
      refine done_ (by kernel_rfl) ?_
      have hnb65 := NB237_221.out
      have hnc65 := NB221_237.out
      have hnb66 := NB237_232.out
      have hnc66 := NB232_237.out
      have hnb67 := NB237_243.out
      have hnc67 := NB243_237.out
      have hcz68_0 := cz_ BK237 0 (.int .i64 t233)
      have hcz68_1 := cz_ BK237 1 (.slice Ao29 t234.length co29)
      have hfz68_0 := blk_frozen BK237.out 0
      have hfz68_1 := blk_frozen BK237.out 1
      go_upto_region 14 with (first | ((with_reducible refine gate_callee (f := 26) rfl ?_); refine gl_ (some 48) Try.func26 #[.agg #[.int .i64 t233, .slice Ao29 t234.length co29], .int .i64 1] ?_; (with_reducible refine (laws_markGraph.calls kj10 t233 (fun k_ => some k_ = (.slice Ao29 t234.length co29 : Value).ownBlock) (.slice Ao29 t234.length co29) t234 1 t250 t251 w _ ?side1 ?side2 A59.out).mono ?_); (case side1 => exact by_ HB); (case side2 => exact Kd.R_tight rfl HO_238001.out); rintro e w69 ⟨rfl, hy0, hb, hkp⟩; refine ⟨_, rfl, ?_⟩; replace HO_233001 := kp_ (fun k_ => some k_ ≠ (.slice Ao29 t234.length co29 : Value).ownBlock ∧ some k_ ≠ (.slice Ao36 t239.length co36 : Value).ownBlock ∧ some k_ ≠ (.slice Ao63 t246.length co63 : Value).ownBlock) (HO_233001.out) hkp; replace HO_244001 := kp_ (fun k_ => some k_ ≠ (.slice Ao22 t228.length co22 : Value).ownBlock ∧ some k_ ≠ (.slice Ao29 t234.length co29 : Value).ownBlock ∧ some k_ ≠ (.slice Ao63 t246.length co63 : Value).ownBlock) (HO_244001.out) hkp; replace BK221 := bk_ BK221 hkp (fun hs_ => (Kd.R_ne HO_238001.out BK221.out (by decide)) hs_); replace BK232 := bk_ BK232 hkp (fun hs_ => (Kd.R_ne HO_238001.out BK232.out (by decide)) hs_); replace BK237 := bk_ BK237 hkp (fun hs_ => (Kd.R_ne HO_238001.out BK237.out (by decide)) hs_); replace BK243 := bk_ BK243 hkp (fun hs_ => (Kd.R_ne HO_238001.out BK243.out (by decide)) hs_); replace HO_238001 := Aside0.mk (Kd.R_reok rfl hy0 (fun k_ e_ => HO_238001.out.1 k_ e_)); replace HO248 := kp_ (fun k_ => some k_ ≠ (.slice Ao22 t228.length co22 : Value).ownBlock ∧ some k_ ≠ (.slice Ao29 t234.length co29 : Value).ownBlock ∧ some k_ ≠ (.slice Ao36 t239.length co36 : Value).ownBlock) (HO248.out) hkp; replace HB := Aside0.mk (hb); (try clear hb); (try clear hkp); (try clear hy0)))
      (try simp only [Act.put, List.setIfInBounds_toArray, List.set_cons_zero, List.set_cons_succ])
      go_cut [61] (fun v61 wc => ∃ (kq : Nat) (x61_59 : Bool), v61 = .bool x61_59 ∧ Aside0 (laws_FnExactBothWays.j1 kq t231 x61_59 a0_0 l0_1 t227 t228 t238 t239 = some r) ∧ Aside0 (kq ≤ kj10) ∧ Aside0 (Kd.R k67 67 wc w.heap.size (fun k_ => some k_ ≠ ((.slice Ao29 t234.length co29) : Value).ownBlock ∧ some k_ ≠ ((.slice Ao36 t239.length co36) : Value).ownBlock) (.slice Ao22 t228.length co22) t228) ∧ Aside0 (Kd.R k67 67 wc w.heap.size (fun k_ => some k_ ≠ ((.slice Ao22 t228.length co22) : Value).ownBlock ∧ some k_ ≠ ((.slice Ao36 t239.length co36) : Value).ownBlock) (.slice Ao29 t234.length co29) t251) ∧ Aside0 (Kd.R k67 67 wc w.heap.size (fun k_ => some k_ ≠ ((.slice Ao22 t228.length co22) : Value).ownBlock ∧ some k_ ≠ ((.slice Ao29 t234.length co29) : Value).ownBlock) (.slice Ao36 t239.length co36) t239) ∧ Aside0 (wc.heap[gb221]? = some (.cells #[.int .i64 a0_0, (.slice A0_1 l0_1.length c0_1)] 24 (0, 0))) ∧ Aside0 (wc.heap[gb232]? = some (.cells #[.int .i64 t227, (.slice Ao22 t228.length co22)] 30 (0, 0))) ∧ Aside0 (wc.heap[gb237]? = some (.cells #[.int .i64 t233, (.slice Ao29 t234.length co29)] 30 (0, 0))) ∧ Aside0 (wc.heap[gb243]? = some (.cells #[.int .i64 t238, (.slice Ao36 t239.length co36)] 30 (0, 0))) ∧ Aside0 (Below w.heap.size w wc))
      case first =>
       have H := HC60.out
       clear HC60
       by_cases c70 : t250 < 0
       ·rw [if_pos c70] at H
        have c70b0 : decide (t250 < 0) = true := decide_eq_true c70
        clear c70
        (first | rw [c70b0] | (simp only [i64_w, i32_w]; rw [c70b0]) | skip)
        have H' := Aside0.mk H
        clear H
        go_wp2
        go_meet
        case rel => exact ⟨_, (true), (by first | rfl | (simp; done) | (simp [*]; done)), H', ⟨by have := HJ10.out; first | omega | exact Nat.le_refl _⟩, ⟨by (with_reducible repeat (first | apply Kd.R_alloc | apply Kd.R_drewN | apply Kd.R_drew)); exact Kd.R_mono HO_233001.out (fun _ hk => by first | exact ⟨hk.1, hk.2.1⟩ | grind)⟩, ⟨by (with_reducible repeat (first | apply Kd.R_alloc | apply Kd.R_drewN | apply Kd.R_drew)); exact Kd.R_mono HO_238001.out (fun _ hk => by first | exact ⟨hk.1.1, hk.1.2⟩ | grind)⟩, ⟨by (with_reducible repeat (first | apply Kd.R_alloc | apply Kd.R_drewN | apply Kd.R_drew)); exact Kd.R_mono HO_244001.out (fun _ hk => by first | exact ⟨hk.1, hk.2.1⟩ | grind)⟩, ⟨by (with_reducible repeat (first | refine blk_drewN ?_ _ | refine blk_drew ?_ | refine blk_alloc ?_ _)); exact BK221.out⟩, ⟨by (with_reducible repeat (first | refine blk_drewN ?_ _ | refine blk_drew ?_ | refine blk_alloc ?_ _)); exact BK232.out⟩, ⟨by (with_reducible repeat (first | refine blk_drewN ?_ _ | refine blk_drew ?_ | refine blk_alloc ?_ _)); exact BK237.out⟩, ⟨by (with_reducible repeat (first | refine blk_drewN ?_ _ | refine blk_drew ?_ | refine blk_alloc ?_ _)); exact BK243.out⟩, ⟨by repeat (first | (with_reducible first | exact HB.out | apply below_alloc | apply pw_below_drewN | apply below_drew1 | refine below_set ?_ GE221.out | refine below_set ?_ GE232.out | refine below_set ?_ GE237.out | refine below_set ?_ GE243.out) | exact HB.out)⟩⟩
       ·rw [if_neg c70] at H
        have c70b0 : decide (t250 < 0) = false := decide_eq_false c70
        clear c70
        (first | rw [c70b0] | (simp only [i64_w, i32_w]; rw [c70b0]) | skip)
        replace H := Option.bind_eq_some_iff.mp H
        obtain ⟨t252, A710, H⟩ := H
        have A71 := Aside0.mk A710
        clear A710
        by_cases c72 : t252 = true
        ·subst c72
         rw [if_pos rfl] at H
         have H' := Aside0.mk H
         clear H
         have hnb73 := NB243_221.out
         have hnc73 := NB221_243.out
         have hnb74 := NB243_232.out
         have hnc74 := NB232_243.out
         have hnb75 := NB243_237.out
         have hnc75 := NB237_243.out
         have hcz76_0 := cz_ BK243 0 (.int .i64 t238)
         have hcz76_1 := cz_ BK243 1 (.slice Ao36 t239.length co36)
         have hfz76_0 := blk_frozen BK243.out 0
         have hfz76_1 := blk_frozen BK243.out 1
         have hnb77 := NB232_221.out
         have hnc77 := NB221_232.out
         have hnb78 := NB232_237.out
         have hnc78 := NB237_232.out
         have hcz79_0 := cz_ BK232 0 (.int .i64 t227)
         have hcz79_1 := cz_ BK232 1 (.slice Ao22 t228.length co22)
         have hfz79_0 := blk_frozen BK232.out 0
         have hfz79_1 := blk_frozen BK232.out 1
         go_wp2_with (first | (go_at_call 20; (with_reducible refine (laws_eqGraph.calls kj10 t238 _ _ t239 t227 _ _ t228 true _ ?side1 ?side2 ?side3 ?side4 A71.out).mono ?_); (case side1 => exact rc_ HO_244001); (case side2 => exact (Kd.R_reads' HO_244001.out).2.1); (case side3 => exact rc_ HO_233001); (case side4 => exact (Kd.R_reads' HO_233001.out).2.1); rintro e w80 ⟨rfl, hb⟩; replace HO_233001 := rb_ HO_233001 hb; replace HO_238001 := rb_ HO_238001 hb; replace HO_244001 := rb_ HO_244001 hb; replace HO248 := rb_ HO248 hb; replace BK221 := Aside0.mk (bb_ BK221 hb); replace BK232 := Aside0.mk (bb_ BK232 hb); replace BK237 := Aside0.mk (bb_ BK237 hb); replace BK243 := Aside0.mk (bb_ BK243 hb); replace HB := Aside0.mk (bt_ HB hb); (try clear hb); (try clear hb2); (try clear hk); (try clear hi)))
         go_meet
         case rel => exact ⟨_, ((t242 != t231)), (by first | rfl | (simp; done) | (simp [*]; done)), H', ⟨by have := HJ10.out; first | omega | exact Nat.le_refl _⟩, ⟨by (with_reducible repeat (first | apply Kd.R_alloc | apply Kd.R_drewN | apply Kd.R_drew)); exact Kd.R_mono HO_233001.out (fun _ hk => by first | exact ⟨hk.1, hk.2.1⟩ | grind)⟩, ⟨by (with_reducible repeat (first | apply Kd.R_alloc | apply Kd.R_drewN | apply Kd.R_drew)); exact Kd.R_mono HO_238001.out (fun _ hk => by first | exact ⟨hk.1.1, hk.1.2⟩ | grind)⟩, ⟨by (with_reducible repeat (first | apply Kd.R_alloc | apply Kd.R_drewN | apply Kd.R_drew)); exact Kd.R_mono HO_244001.out (fun _ hk => by first | exact ⟨hk.1, hk.2.1⟩ | grind)⟩, ⟨by (with_reducible repeat (first | refine blk_drewN ?_ _ | refine blk_drew ?_ | refine blk_alloc ?_ _)); exact BK221.out⟩, ⟨by (with_reducible repeat (first | refine blk_drewN ?_ _ | refine blk_drew ?_ | refine blk_alloc ?_ _)); exact BK232.out⟩, ⟨by (with_reducible repeat (first | refine blk_drewN ?_ _ | refine blk_drew ?_ | refine blk_alloc ?_ _)); exact BK237.out⟩, ⟨by (with_reducible repeat (first | refine blk_drewN ?_ _ | refine blk_drew ?_ | refine blk_alloc ?_ _)); exact BK243.out⟩, ⟨by repeat (first | (with_reducible first | exact HB.out | apply below_alloc | apply pw_below_drewN | apply below_drew1 | refine below_set ?_ GE221.out | refine below_set ?_ GE232.out | refine below_set ?_ GE237.out | refine below_set ?_ GE243.out) | exact HB.out)⟩⟩
        ·replace c72 := Bool.eq_false_iff.mpr c72
         subst c72
         rw [if_neg (show ¬ (false = true) by decide)] at H
         have H' := Aside0.mk H
         clear H
         have hnb81 := NB243_221.out
         have hnc81 := NB221_243.out
         have hnb82 := NB243_232.out
         have hnc82 := NB232_243.out
         have hnb83 := NB243_237.out
         have hnc83 := NB237_243.out
         have hcz84_0 := cz_ BK243 0 (.int .i64 t238)
         have hcz84_1 := cz_ BK243 1 (.slice Ao36 t239.length co36)
         have hfz84_0 := blk_frozen BK243.out 0
         have hfz84_1 := blk_frozen BK243.out 1
         have hnb85 := NB232_221.out
         have hnc85 := NB221_232.out
         have hnb86 := NB232_237.out
         have hnc86 := NB237_232.out
         have hcz87_0 := cz_ BK232 0 (.int .i64 t227)
         have hcz87_1 := cz_ BK232 1 (.slice Ao22 t228.length co22)
         have hfz87_0 := blk_frozen BK232.out 0
         have hfz87_1 := blk_frozen BK232.out 1
         go_wp2_with (first | (go_at_call 20; (with_reducible refine (laws_eqGraph.calls kj10 t238 _ _ t239 t227 _ _ t228 false _ ?side1 ?side2 ?side3 ?side4 A71.out).mono ?_); (case side1 => exact rc_ HO_244001); (case side2 => exact (Kd.R_reads' HO_244001.out).2.1); (case side3 => exact rc_ HO_233001); (case side4 => exact (Kd.R_reads' HO_233001.out).2.1); rintro e w88 ⟨rfl, hb⟩; replace HO_233001 := rb_ HO_233001 hb; replace HO_238001 := rb_ HO_238001 hb; replace HO_244001 := rb_ HO_244001 hb; replace HO248 := rb_ HO248 hb; replace BK221 := Aside0.mk (bb_ BK221 hb); replace BK232 := Aside0.mk (bb_ BK232 hb); replace BK237 := Aside0.mk (bb_ BK237 hb); replace BK243 := Aside0.mk (bb_ BK243 hb); replace HB := Aside0.mk (bt_ HB hb); (try clear hb); (try clear hb2); (try clear hk); (try clear hi)))
         go_meet
         case rel => exact ⟨_, (true), (by first | rfl | (simp; done) | (simp [*]; done)), H', ⟨by have := HJ10.out; first | omega | exact Nat.le_refl _⟩, ⟨by (with_reducible repeat (first | apply Kd.R_alloc | apply Kd.R_drewN | apply Kd.R_drew)); exact Kd.R_mono HO_233001.out (fun _ hk => by first | exact ⟨hk.1, hk.2.1⟩ | grind)⟩, ⟨by (with_reducible repeat (first | apply Kd.R_alloc | apply Kd.R_drewN | apply Kd.R_drew)); exact Kd.R_mono HO_238001.out (fun _ hk => by first | exact ⟨hk.1.1, hk.1.2⟩ | grind)⟩, ⟨by (with_reducible repeat (first | apply Kd.R_alloc | apply Kd.R_drewN | apply Kd.R_drew)); exact Kd.R_mono HO_244001.out (fun _ hk => by first | exact ⟨hk.1, hk.2.1⟩ | grind)⟩, ⟨by (with_reducible repeat (first | refine blk_drewN ?_ _ | refine blk_drew ?_ | refine blk_alloc ?_ _)); exact BK221.out⟩, ⟨by (with_reducible repeat (first | refine blk_drewN ?_ _ | refine blk_drew ?_ | refine blk_alloc ?_ _)); exact BK232.out⟩, ⟨by (with_reducible repeat (first | refine blk_drewN ?_ _ | refine blk_drew ?_ | refine blk_alloc ?_ _)); exact BK237.out⟩, ⟨by (with_reducible repeat (first | refine blk_drewN ?_ _ | refine blk_drew ?_ | refine blk_alloc ?_ _)); exact BK243.out⟩, ⟨by repeat (first | (with_reducible first | exact HB.out | apply below_alloc | apply pw_below_drewN | apply below_drew1 | refine below_set ?_ GE221.out | refine below_set ?_ GE232.out | refine below_set ?_ GE237.out | refine below_set ?_ GE243.out) | exact HB.out)⟩⟩
      case rest =>
       clear HC60
       try clear c1
       try clear c2
       try clear p2
       try clear c3
       try clear c3b0
       try clear c4
       try clear c5
       try clear c6
       try clear c7
       try clear c8
       try clear c15
       try clear c17
       try clear c20
       try clear c26
       try clear c27
       try clear c28
       try clear c29
       try clear c32
       try clear c33
       try clear c34
       try clear c38
       try clear c39
       try clear c40
       try clear c41
       try clear c43
       try clear c44
       try clear c47
       try clear c48
       try clear c49
       try clear c51
       try clear c52
       try clear c55
       try clear c58
       try clear c65
       try clear c66
       try clear c67
       try clear c70
       try clear c70b0
       try clear c72
       try clear c73
       try clear c74
       try clear c75
       try clear c77
       try clear c78
       try clear c81
       try clear c82
       try clear c83
       try clear c85
       try clear c86
       try clear hcz13_0
       try clear hcz13_1
       try clear hcz15_0
       try clear hcz15_1
       try clear hcz21_0
       try clear hcz21_1
       try clear hcz23_0
       try clear hcz23_1
       try clear hcz28_0
       try clear hcz28_1
       try clear hcz35_0
       try clear hcz35_1
       try clear hcz42_0
       try clear hcz42_1
       try clear hcz45_0
       try clear hcz45_1
       try clear hcz50_0
       try clear hcz50_1
       try clear hcz53_0
       try clear hcz53_1
       try clear hcz5_0
       try clear hcz5_1
       try clear hcz68_0
       try clear hcz68_1
       try clear hcz76_0
       try clear hcz76_1
       try clear hcz79_0
       try clear hcz79_1
       try clear hcz84_0
       try clear hcz84_1
       try clear hcz87_0
       try clear hcz87_1
       try clear hfz13_0
       try clear hfz13_1
       try clear hfz15_0
       try clear hfz15_1
       try clear hfz21_0
       try clear hfz21_1
       try clear hfz23_0
       try clear hfz23_1
       try clear hfz28_0
       try clear hfz28_1
       try clear hfz35_0
       try clear hfz35_1
       try clear hfz42_0
       try clear hfz42_1
       try clear hfz45_0
       try clear hfz45_1
       try clear hfz50_0
       try clear hfz50_1
       try clear hfz53_0
       try clear hfz53_1
       try clear hfz5_0
       try clear hfz5_1
       try clear hfz68_0
       try clear hfz68_1
       try clear hfz76_0
       try clear hfz76_1
       try clear hfz79_0
       try clear hfz79_1
       try clear hfz84_0
       try clear hfz84_1
       try clear hfz87_0
       try clear hfz87_1
       try clear p2
       obtain ⟨kq, x61_59, rfl, HA, HJ59, HO_233001, HO_238001, HO_244001, BK221, BK232, BK237, BK243, HB⟩ := hcut
       have hl238001_59 := (Kd.R_reads' HO_238001.out).1
       rw [hl238001_59] at HO_238001
       (try simp only [hl238001_59])
       (try simp only [hl238001_59] at BK221)
       (try simp only [hl238001_59] at BK232)
       (try simp only [hl238001_59] at BK237)
       (try simp only [hl238001_59] at BK243)
       (try simp only [hl238001_59] at HO_233001)
       (try simp only [hl238001_59] at HO_244001)
       cases kq with
       | zero => exact absurd HA.out (by simp [laws_FnExactBothWays.j1])
       | succ kj59 =>
        have H := HA.out
        clear HA
        simp only [laws_FnExactBothWays.j1] at H
        by_cases c89 : x61_59 = true
        ·subst c89
         rw [if_pos rfl] at H
         obtain rfl := Option.some.inj H
         go_wp2
         go_ret
         exact ⟨by first | rfl | (simp [errW_none, errW_some] <;> rfl) | (simp [*, errW_none, errW_some] <;> rfl), by repeat (first | (with_reducible first | exact HB.out | apply below_alloc | apply pw_below_drewN | apply below_drew1 | refine below_set ?_ GE221.out | refine below_set ?_ GE232.out | refine below_set ?_ GE237.out | refine below_set ?_ GE243.out) | exact HB.out)⟩
        ·replace c89 := Bool.eq_false_iff.mpr c89
         subst c89
         rw [if_neg (show ¬ (false = true) by decide)] at H
         replace H := Option.bind_eq_some_iff.mp H
         obtain ⟨⟨t253, t254⟩, A900, H⟩ := H
         have A90 := Aside0.mk A900
         clear A900
         replace H := Option.bind_eq_some_iff.mp H
         obtain ⟨t255, A910, H⟩ := H
         have A91 := Aside0.mk A910
         clear A910
         by_cases c92 : t255 < 0
         ·rw [if_pos c92] at H
          have c92b0 : decide (t255 < 0) = true := decide_eq_true c92
          clear c92
          obtain rfl := Option.some.inj H
          have hnb93 := NB243_221.out
          have hnc93 := NB221_243.out
          have hnb94 := NB243_232.out
          have hnc94 := NB232_243.out
          have hnb95 := NB243_237.out
          have hnc95 := NB237_243.out
          have hcz96_0 := cz_ BK243 0 (.int .i64 t238)
          have hcz96_1 := cz_ BK243 1 (.slice Ao36 t239.length co36)
          have hfz96_0 := blk_frozen BK243.out 0
          have hfz96_1 := blk_frozen BK243.out 1
          go_wp2_with (first | ((with_reducible refine gate_callee (f := 26) rfl ?_); refine gl_ (some 64) Try.func26 #[.agg #[.int .i64 t238, .slice Ao36 t239.length co36], .int .i64 1] ?_; (with_reducible refine (laws_markGraph.calls kj59 t238 (fun k_ => some k_ = (.slice Ao36 t239.length co36 : Value).ownBlock) (.slice Ao36 t239.length co36) t239 1 t253 t254 w _ ?side1 ?side2 A90.out).mono ?_); (case side1 => exact by_ HB); (case side2 => exact Kd.R_tight rfl HO_244001.out); rintro e w97 ⟨rfl, hy0, hb, hkp⟩; refine ⟨_, rfl, ?_⟩; replace HO_233001 := kp_ (fun k_ => some k_ ≠ (.slice Ao29 t251.length co29 : Value).ownBlock ∧ some k_ ≠ (.slice Ao36 t239.length co36 : Value).ownBlock) (HO_233001.out) hkp; replace HO_238001 := kp_ (fun k_ => some k_ ≠ (.slice Ao22 t228.length co22 : Value).ownBlock ∧ some k_ ≠ (.slice Ao36 t239.length co36 : Value).ownBlock) (HO_238001.out) hkp; replace BK221 := bk_ BK221 hkp (fun hs_ => (Kd.R_ne HO_244001.out BK221.out (by decide)) hs_); replace BK232 := bk_ BK232 hkp (fun hs_ => (Kd.R_ne HO_244001.out BK232.out (by decide)) hs_); replace BK237 := bk_ BK237 hkp (fun hs_ => (Kd.R_ne HO_244001.out BK237.out (by decide)) hs_); replace BK243 := bk_ BK243 hkp (fun hs_ => (Kd.R_ne HO_244001.out BK243.out (by decide)) hs_); replace HO_244001 := Aside0.mk (Kd.R_reok rfl hy0 (fun k_ e_ => HO_244001.out.1 k_ e_)); replace HB := Aside0.mk (hb); (try clear hb); (try clear hkp); (try clear hy0); have hcz98_0 := cz_ BK243 0 (.int .i64 t238); have hcz98_1 := cz_ BK243 1 (.slice Ao36 t239.length co36); have hfz98_0 := blk_frozen BK243.out 0; have hfz98_1 := blk_frozen BK243.out 1) | ((with_reducible refine gate_callee (f := 27) rfl ?_); refine goesL_ (some 67) rfl rfl Try.func27 (by kernel_rfl) rfl #[.agg #[.int .i64 t238, .slice Ao36 t254.length co36], .int .i64 1] rfl (by (try simp only [List.map_toArray, List.map_cons, List.map_nil]); first | done | (rw [show t254.length = t239.length from (Kd.R_reads' HO_244001.out).1.symm] <;> rfl) | rfl | (simp only [List.length_drop, List.length_take]; rfl)) ?_; (with_reducible refine (laws_heldGraph.calls kj59 t238 _ _ t254 1 t255 _ ?side1 ?side2 A91.out).mono ?_); (case side1 => exact rc_ HO_244001); (case side2 => rw [show t254.length = t239.length from (Kd.R_reads' HO_244001.out).1.symm]; exact (Kd.R_reads' HO_244001.out).2.1); rintro e w99 ⟨rfl, hb⟩; refine ⟨_, rfl, ?_⟩; replace HO_233001 := rb_ HO_233001 hb; replace HO_238001 := rb_ HO_238001 hb; replace HO_244001 := rb_ HO_244001 hb; replace BK221 := Aside0.mk (bb_ BK221 hb); replace BK232 := Aside0.mk (bb_ BK232 hb); replace BK237 := Aside0.mk (bb_ BK237 hb); replace BK243 := Aside0.mk (bb_ BK243 hb); replace HB := Aside0.mk (bt_ HB hb); (try clear hb); (try clear hb2); (try clear hk); (try clear hi)))
          go_ret
          exact ⟨by first | rfl | (simp [errW_none, errW_some] <;> rfl) | (simp [*, errW_none, errW_some] <;> rfl), by repeat (first | (with_reducible first | exact HB.out | apply below_alloc | apply pw_below_drewN | apply below_drew1 | refine below_set ?_ GE221.out | refine below_set ?_ GE232.out | refine below_set ?_ GE237.out | refine below_set ?_ GE243.out) | exact HB.out)⟩
         ·rw [if_neg c92] at H
          have c92b0 : decide (t255 < 0) = false := decide_eq_false c92
          clear c92
          by_cases c100 : t255 = t253
          ·rw [if_pos c100] at H
           have c100b0 : (t255 == t253) = true := beq_iff_eq.mpr c100
           have c100b1 : (t255 != t253) = false := bne_eq_false_iff_eq.mpr c100
           clear c100
           replace H := Option.bind_eq_some_iff.mp H
           obtain ⟨⟨t256, t257⟩, A1010, H⟩ := H
           have A101 := Aside0.mk A1010
           clear A1010
           replace H := Option.bind_eq_some_iff.mp H
           obtain ⟨⟨t260, t261, t264⟩, A1020, H⟩ := H
           have A102 := Aside0.mk A1020
           clear A1020
           have HC103 := Aside0.mk H
           clear H
           have hnb104 := NB243_221.out
           have hnc104 := NB221_243.out
           have hnb105 := NB243_232.out
           have hnc105 := NB232_243.out
           have hnb106 := NB243_237.out
           have hnc106 := NB237_243.out
           have hcz107_0 := cz_ BK243 0 (.int .i64 t238)
           have hcz107_1 := cz_ BK243 1 (.slice Ao36 t239.length co36)
           have hfz107_0 := blk_frozen BK243.out 0
           have hfz107_1 := blk_frozen BK243.out 1
           go_upto_region 25 with (first | ((with_reducible refine gate_callee (f := 26) rfl ?_); refine gl_ (some 64) Try.func26 #[.agg #[.int .i64 t238, .slice Ao36 t239.length co36], .int .i64 1] ?_; (with_reducible refine (laws_markGraph.calls kj59 t238 (fun k_ => some k_ = (.slice Ao36 t239.length co36 : Value).ownBlock) (.slice Ao36 t239.length co36) t239 1 t253 t254 w _ ?side1 ?side2 A90.out).mono ?_); (case side1 => exact by_ HB); (case side2 => exact Kd.R_tight rfl HO_244001.out); rintro e w108 ⟨rfl, hy0, hb, hkp⟩; refine ⟨_, rfl, ?_⟩; replace HO_233001 := kp_ (fun k_ => some k_ ≠ (.slice Ao29 t251.length co29 : Value).ownBlock ∧ some k_ ≠ (.slice Ao36 t239.length co36 : Value).ownBlock) (HO_233001.out) hkp; replace HO_238001 := kp_ (fun k_ => some k_ ≠ (.slice Ao22 t228.length co22 : Value).ownBlock ∧ some k_ ≠ (.slice Ao36 t239.length co36 : Value).ownBlock) (HO_238001.out) hkp; replace BK221 := bk_ BK221 hkp (fun hs_ => (Kd.R_ne HO_244001.out BK221.out (by decide)) hs_); replace BK232 := bk_ BK232 hkp (fun hs_ => (Kd.R_ne HO_244001.out BK232.out (by decide)) hs_); replace BK237 := bk_ BK237 hkp (fun hs_ => (Kd.R_ne HO_244001.out BK237.out (by decide)) hs_); replace BK243 := bk_ BK243 hkp (fun hs_ => (Kd.R_ne HO_244001.out BK243.out (by decide)) hs_); replace HO_244001 := Aside0.mk (Kd.R_reok rfl hy0 (fun k_ e_ => HO_244001.out.1 k_ e_)); replace HB := Aside0.mk (hb); (try clear hb); (try clear hkp); (try clear hy0); have hcz109_0 := cz_ BK243 0 (.int .i64 t238); have hcz109_1 := cz_ BK243 1 (.slice Ao36 t239.length co36); have hfz109_0 := blk_frozen BK243.out 0; have hfz109_1 := blk_frozen BK243.out 1) | ((with_reducible refine gate_callee (f := 27) rfl ?_); refine goesL_ (some 67) rfl rfl Try.func27 (by kernel_rfl) rfl #[.agg #[.int .i64 t238, .slice Ao36 t254.length co36], .int .i64 1] rfl (by (try simp only [List.map_toArray, List.map_cons, List.map_nil]); first | done | (rw [show t254.length = t239.length from (Kd.R_reads' HO_244001.out).1.symm] <;> rfl) | rfl | (simp only [List.length_drop, List.length_take]; rfl)) ?_; (with_reducible refine (laws_heldGraph.calls kj59 t238 _ _ t254 1 t255 _ ?side1 ?side2 A91.out).mono ?_); (case side1 => exact rc_ HO_244001); (case side2 => rw [show t254.length = t239.length from (Kd.R_reads' HO_244001.out).1.symm]; exact (Kd.R_reads' HO_244001.out).2.1); rintro e w110 ⟨rfl, hb⟩; refine ⟨_, rfl, ?_⟩; replace HO_233001 := rb_ HO_233001 hb; replace HO_238001 := rb_ HO_238001 hb; replace HO_244001 := rb_ HO_244001 hb; replace BK221 := Aside0.mk (bb_ BK221 hb); replace BK232 := Aside0.mk (bb_ BK232 hb); replace BK237 := Aside0.mk (bb_ BK237 hb); replace BK243 := Aside0.mk (bb_ BK243 hb); replace HB := Aside0.mk (bt_ HB hb); (try clear hb); (try clear hb2); (try clear hk); (try clear hi); have hnb111 := NB221_232.out; have hnc111 := NB232_221.out; have hnb112 := NB221_237.out; have hnc112 := NB237_221.out; have hcz113_0 := cz_ BK221 0 (.int .i64 a0_0); have hcz113_1 := cz_ BK221 1 (.slice A0_1 l0_1.length c0_1); have hfz113_0 := blk_frozen BK221.out 0; have hfz113_1 := blk_frozen BK221.out 1) | ((with_reducible refine gate_callee (f := 17) rfl ?_); refine gl_ (some 75) Try.func17 #[.agg #[.int .i64 a0_0, .slice A0_1 l0_1.length c0_1]] ?_; (with_reducible refine (laws_toGraph.calls kj59 a0_0 _ _ l0_1 t256 t257 _ ?side1 ?side2 A101.out).mono ?_); (case side1 => exact cb_ HR0_1 HB); (case side2 => exact HC0_1.out); rintro e w114 ⟨v258, rfl, ho0, hb⟩; refine ⟨_, rfl, ?_⟩; have HO259 := Aside0.mk (Kd.R_lower (Kd.R_new' (Kd.R_new' (Kd.R_new' ho0 (Kd.R_lt (hd_ HO_233001))) (Kd.R_lt (hd_ HO_238001))) (Kd.R_lt (hd_ HO_244001))) (bz_ HB)); replace HO_233001 := Aside0.mk (Kd.R_elder' (hd_ HO_233001) (Kd.R_base ho0) hb); replace HO_238001 := Aside0.mk (Kd.R_elder' (hd_ HO_238001) (Kd.R_base ho0) hb); replace HO_244001 := Aside0.mk (Kd.R_elder' (hd_ HO_244001) (Kd.R_base ho0) hb); replace BK221 := Aside0.mk (bb_ BK221 hb); replace BK232 := Aside0.mk (bb_ BK232 hb); replace BK237 := Aside0.mk (bb_ BK237 hb); replace BK243 := Aside0.mk (bb_ BK243 hb); replace HB := Aside0.mk (bt_ HB hb); (try clear hb); (try clear hb2); (try clear hk); (try clear hi); (try clear ho0); obtain ⟨Ao115, co115, eo115⟩ := Kd.R_slice HO259.out; subst eo115) | ((with_reducible refine gate_callee (f := 29) rfl ?_); refine gl_ (some 76) Try.func29 #[.agg #[.int .i64 t256, .slice Ao115 t257.length co115]] ?_; (with_reducible refine (impl_BothWays.calls kj59 t256 _ _ t257 t260 t261 t264 _ ?side1 ?side2 A102.out).mono ?_); (case side1 => exact rc_ HO259); (case side2 => exact (Kd.R_reads' HO259.out).2.1); rintro e w116 ⟨v262, rfl, ho0, hb⟩; refine ⟨_, rfl, ?_⟩; have HO263 := Aside0.mk (Kd.R_lower (Kd.R_new' (Kd.R_new' (Kd.R_new' (Kd.R_new' ho0 (Kd.R_lt (hd_ HO_233001))) (Kd.R_lt (hd_ HO_238001))) (Kd.R_lt (hd_ HO_244001))) (Kd.R_lt (hd_ HO259))) (bz_ HB)); replace HO_233001 := Aside0.mk (Kd.R_elder' (hd_ HO_233001) (Kd.R_base ho0) hb); replace HO_238001 := Aside0.mk (Kd.R_elder' (hd_ HO_238001) (Kd.R_base ho0) hb); replace HO_244001 := Aside0.mk (Kd.R_elder' (hd_ HO_244001) (Kd.R_base ho0) hb); replace HO259 := Aside0.mk (Kd.R_elder' (hd_ HO259) (Kd.R_base ho0) hb); replace BK221 := Aside0.mk (bb_ BK221 hb); replace BK232 := Aside0.mk (bb_ BK232 hb); replace BK237 := Aside0.mk (bb_ BK237 hb); replace BK243 := Aside0.mk (bb_ BK243 hb); replace HB := Aside0.mk (bt_ HB hb); (try clear hb); (try clear hb2); (try clear hk); (try clear hi); (try clear ho0)) | ((with_reducible refine gate_dst (N := 12) rfl ?_); refine box_event ?hg (N := 12) ?hd (cs := #[.int .i64 0, .slice none 0 0]) (t := 30) ?hr ?_; (case hd => rfl); (case hg => rfl); (case hr => first | (go_simp; done) | (go_simp; rfl)); intro gb265 hg w117 hbox hb; have BK265 := Aside0.mk hbox; have GW265 := ge_ HB hg; have GE265 := ge_ HB hg; have NB221_265 := nl_ BK221 hg; have NB265_221 := ng_ BK221 hg; have NB232_265 := nl_ BK232 hg; have NB265_232 := ng_ BK232 hg; have NB237_265 := nl_ BK237 hg; have NB265_237 := ng_ BK237 hg; have NB243_265 := nl_ BK243 hg; have NB265_243 := ng_ BK243 hg; replace HO_233001 := rb_ HO_233001 hb; replace HO_238001 := rb_ HO_238001 hb; replace HO_244001 := rb_ HO_244001 hb; replace HO259 := rb_ HO259 hb; replace HO263 := rb_ HO263 hb; replace HB := Aside0.mk (bt_ HB hb); replace BK221 := Aside0.mk (bb_ BK221 hb); replace BK232 := Aside0.mk (bb_ BK232 hb); replace BK237 := Aside0.mk (bb_ BK237 hb); replace BK243 := Aside0.mk (bb_ BK243 hb); clear hb hbox hg; have hnb118 := NB265_221.out; have hnc118 := NB221_265.out; have hnb119 := NB265_232.out; have hnc119 := NB232_265.out; have hnb120 := NB265_237.out; have hnc120 := NB237_265.out; have hnb121 := NB265_243.out; have hnc121 := NB243_265.out; have hcz122_0 := cz_ BK265 0 (.int .i64 0); have hcz122_1 := cz_ BK265 1 (.slice none 0 0); have hfz122_0 := blk_frozen BK265.out 0; have hfz122_1 := blk_frozen BK265.out 1; obtain ⟨Ao123, co123, eo123⟩ := Kd.R_slice HO263.out; subst eo123))
           (try simp only [Act.put, List.setIfInBounds_toArray, List.set_cons_zero, List.set_cons_succ])
           go_cut [87] (fun v87 wc => ∃ (kq : Nat) (x87_102 : Bool), v87 = .bool x87_102 ∧ Aside0 (laws_FnExactBothWays.j2 kq t253 x87_102 t238 t254 = some r) ∧ Aside0 (kq ≤ kj59) ∧ Aside0 (Kd.R k67 67 wc w.heap.size (fun k_ => some k_ ≠ ((.slice Ao29 t251.length co29) : Value).ownBlock ∧ some k_ ≠ ((.slice Ao36 t239.length co36) : Value).ownBlock ∧ some k_ ≠ ((.slice Ao123 t261.length co123) : Value).ownBlock) (.slice Ao22 t228.length co22) t228) ∧ Aside0 (Kd.R k67 67 wc w.heap.size (fun k_ => some k_ ≠ ((.slice Ao22 t228.length co22) : Value).ownBlock ∧ some k_ ≠ ((.slice Ao36 t239.length co36) : Value).ownBlock ∧ some k_ ≠ ((.slice Ao123 t261.length co123) : Value).ownBlock) (.slice Ao29 t251.length co29) t251) ∧ Aside0 (Kd.R k67 67 wc w.heap.size (fun k_ => some k_ ≠ ((.slice Ao22 t228.length co22) : Value).ownBlock ∧ some k_ ≠ ((.slice Ao29 t251.length co29) : Value).ownBlock ∧ some k_ ≠ ((.slice Ao123 t261.length co123) : Value).ownBlock) (.slice Ao36 t239.length co36) t254) ∧ Aside0 (Kd.R k67 67 wc w.heap.size (fun k_ => some k_ ≠ ((.slice Ao22 t228.length co22) : Value).ownBlock ∧ some k_ ≠ ((.slice Ao29 t251.length co29) : Value).ownBlock ∧ some k_ ≠ ((.slice Ao36 t239.length co36) : Value).ownBlock) (.slice Ao123 t261.length co123) t261) ∧ Aside0 (wc.heap[gb221]? = some (.cells #[.int .i64 a0_0, (.slice A0_1 l0_1.length c0_1)] 24 (0, 0))) ∧ Aside0 (wc.heap[gb232]? = some (.cells #[.int .i64 t227, (.slice Ao22 t228.length co22)] 30 (0, 0))) ∧ Aside0 (wc.heap[gb237]? = some (.cells #[.int .i64 t233, (.slice Ao29 t251.length co29)] 30 (0, 0))) ∧ Aside0 (wc.heap[gb243]? = some (.cells #[.int .i64 t238, (.slice Ao36 t239.length co36)] 30 (0, 0))) ∧ Aside0 (wc.heap[gb265]? = some (.cells #[.int .i64 t260, (.slice Ao123 t261.length co123)] 30 (0, 0))) ∧ Aside0 (Below w.heap.size w wc))
           case first =>
            have H := HC103.out
            clear HC103
            replace H := Option.bind_eq_some_iff.mp H
            obtain ⟨t266, A1240, H⟩ := H
            have A124 := Aside0.mk A1240
            clear A1240
            by_cases c125 : t266 = true
            ·subst c125
             rw [if_pos rfl] at H
             have H' := Aside0.mk H
             clear H
             have hnb126 := NB265_221.out
             have hnc126 := NB221_265.out
             have hnb127 := NB265_232.out
             have hnc127 := NB232_265.out
             have hnb128 := NB265_237.out
             have hnc128 := NB237_265.out
             have hnb129 := NB265_243.out
             have hnc129 := NB243_265.out
             have hcz130_0 := cz_ BK265 0 (.int .i64 0)
             have hcz130_1 := cz_ BK265 1 (.slice none 0 0)
             have hfz130_0 := blk_frozen BK265.out 0
             have hfz130_1 := blk_frozen BK265.out 1
             have hnb131 := NB232_221.out
             have hnc131 := NB221_232.out
             have hnb132 := NB232_237.out
             have hnc132 := NB237_232.out
             have hnb133 := NB232_243.out
             have hnc133 := NB243_232.out
             have hcz134_0 := cz_ BK232 0 (.int .i64 t227)
             have hcz134_1 := cz_ BK232 1 (.slice Ao22 t228.length co22)
             have hfz134_0 := blk_frozen BK232.out 0
             have hfz134_1 := blk_frozen BK232.out 1
             go_wp2_with (first | ((with_reducible refine gate_callee (f := 20) rfl ?_); refine gl_ (some 81) Try.func20 #[.agg #[.int .i64 t260, .slice Ao123 t261.length co123], .agg #[.int .i64 t227, .slice Ao22 t228.length co22]] ?_; (with_reducible refine (laws_eqGraph.calls kj59 t260 _ _ t261 t227 _ _ t228 true _ ?side1 ?side2 ?side3 ?side4 A124.out).mono ?_); (case side1 => refine (Kd.R_reads' (e := 67) (base := w.heap.size) (ok := fun k_ => ((((True ∧ some k_ ≠ (.slice Ao22 t228.length co22 : Value).ownBlock) ∧ some k_ ≠ (.slice Ao29 t251.length co29 : Value).ownBlock) ∧ some k_ ≠ (.slice Ao36 t239.length co36 : Value).ownBlock) ∧ some k_ ≠ (.slice Ao115 t257.length co115 : Value).ownBlock)) (n := t261.length) (c := co123) ?_).2.2; exact (hs_ HO263 BK265)); (case side2 => exact (Kd.R_reads' HO263.out).2.1); (case side3 => refine (Kd.R_reads' (e := 67) (base := w.heap.size) (ok := fun k_ => (((some k_ ≠ (.slice Ao29 t251.length co29 : Value).ownBlock ∧ some k_ ≠ (.slice Ao36 t239.length co36 : Value).ownBlock) ∧ some k_ ≠ (.slice Ao115 t257.length co115 : Value).ownBlock) ∧ some k_ ≠ (.slice Ao123 t261.length co123 : Value).ownBlock)) (n := t228.length) (c := co22) ?_).2.2; exact (hs_ HO_233001 BK265)); (case side4 => exact (Kd.R_reads' HO_233001.out).2.1); rintro e w135 ⟨rfl, hb⟩; refine ⟨_, rfl, ?_⟩; replace HO_233001 := rs_ HO_233001 BK265 hb; replace HO_238001 := rs_ HO_238001 BK265 hb; replace HO_244001 := rs_ HO_244001 BK265 hb; replace HO259 := rs_ HO259 BK265 hb; replace HO263 := rs_ HO263 BK265 hb; replace BK221 := bf_ BK221 NB221_265 hb; replace BK232 := bf_ BK232 NB232_265 hb; replace BK237 := bf_ BK237 NB237_265 hb; replace BK243 := bf_ BK243 NB243_265 hb; replace BK265 := Aside0.mk (blk_below (g := gb265) (o := .cells #[.int .i64 t260, .slice Ao123 t261.length co123] 30 (0, 0)) (by (with_reducible repeat (first | refine blk_drewN ?_ _ | refine blk_drew ?_ | refine blk_alloc ?_ _)); refine blk_put (cs := #[.int .i64 t260, .slice none 0 0]) ?_ 1 _ rfl; (with_reducible repeat (first | refine blk_drewN ?_ _ | refine blk_drew ?_ | refine blk_alloc ?_ _)); refine blk_put (cs := #[.int .i64 0, .slice none 0 0]) ?_ 0 _ rfl; (with_reducible repeat (first | refine blk_drewN ?_ _ | refine blk_drew ?_ | refine blk_alloc ?_ _)); exact BK265.out) hb); replace HB := Aside0.mk (bt_ HB hb); (try clear hb); (try clear hb2); (try clear hk); (try clear hi)))
             go_meet
             case rel => exact ⟨_, ((t264 != t231)), (by first | rfl | (simp; done) | (simp [*]; done)), H', ⟨by have := HJ10.out; have := HJ59.out; first | omega | exact Nat.le_refl _⟩, ⟨by (try simp only [hl238001_59]); (with_reducible repeat (first | apply Kd.R_alloc | apply Kd.R_drewN | apply Kd.R_drew)); exact Kd.R_mono HO_233001.out (fun _ hk => ⟨hk.1.1.1, ⟨hk.1.1.2, hk.2⟩⟩)⟩, ⟨by (try simp only [hl238001_59]); (with_reducible repeat (first | apply Kd.R_alloc | apply Kd.R_drewN | apply Kd.R_drew)); exact Kd.R_mono HO_238001.out (fun _ hk => ⟨hk.1.1.1, ⟨hk.1.1.2, hk.2⟩⟩)⟩, ⟨by (try simp only [hl238001_59]); (with_reducible repeat (first | apply Kd.R_alloc | apply Kd.R_drewN | apply Kd.R_drew)); exact Kd.R_mono HO_244001.out (fun _ hk => ⟨hk.1.1.1, ⟨hk.1.1.2, hk.2⟩⟩)⟩, ⟨by (try simp only [hl238001_59]); (with_reducible repeat (first | apply Kd.R_alloc | apply Kd.R_drewN | apply Kd.R_drew)); exact Kd.R_mono HO263.out (fun _ hk => ⟨hk.1.1.1.2, ⟨hk.1.1.2, hk.1.2⟩⟩)⟩, ⟨by (try simp only [hl238001_59]); (with_reducible repeat (first | refine blk_drewN ?_ _ | refine blk_drew ?_ | refine blk_alloc ?_ _)); exact BK221.out⟩, ⟨by (try simp only [hl238001_59]); (with_reducible repeat (first | refine blk_drewN ?_ _ | refine blk_drew ?_ | refine blk_alloc ?_ _)); exact BK232.out⟩, ⟨by (try simp only [hl238001_59]); (with_reducible repeat (first | refine blk_drewN ?_ _ | refine blk_drew ?_ | refine blk_alloc ?_ _)); exact BK237.out⟩, ⟨by (try simp only [hl238001_59]); (with_reducible repeat (first | refine blk_drewN ?_ _ | refine blk_drew ?_ | refine blk_alloc ?_ _)); exact BK243.out⟩, ⟨by (try simp only [hl238001_59]); (with_reducible repeat (first | refine blk_drewN ?_ _ | refine blk_drew ?_ | refine blk_alloc ?_ _)); exact BK265.out⟩, ⟨by repeat (first | (with_reducible first | exact HB.out | apply below_alloc | apply pw_below_drewN | apply below_drew1 | refine below_set ?_ GE221.out | refine below_set ?_ GE232.out | refine below_set ?_ GE237.out | refine below_set ?_ GE243.out | refine below_set ?_ GE265.out) | exact HB.out)⟩⟩
            ·replace c125 := Bool.eq_false_iff.mpr c125
             subst c125
             rw [if_neg (show ¬ (false = true) by decide)] at H
             have H' := Aside0.mk H
             clear H
             have hnb136 := NB265_221.out
             have hnc136 := NB221_265.out
             have hnb137 := NB265_232.out
             have hnc137 := NB232_265.out
             have hnb138 := NB265_237.out
             have hnc138 := NB237_265.out
             have hnb139 := NB265_243.out
             have hnc139 := NB243_265.out
             have hcz140_0 := cz_ BK265 0 (.int .i64 0)
             have hcz140_1 := cz_ BK265 1 (.slice none 0 0)
             have hfz140_0 := blk_frozen BK265.out 0
             have hfz140_1 := blk_frozen BK265.out 1
             have hnb141 := NB232_221.out
             have hnc141 := NB221_232.out
             have hnb142 := NB232_237.out
             have hnc142 := NB237_232.out
             have hnb143 := NB232_243.out
             have hnc143 := NB243_232.out
             have hcz144_0 := cz_ BK232 0 (.int .i64 t227)
             have hcz144_1 := cz_ BK232 1 (.slice Ao22 t228.length co22)
             have hfz144_0 := blk_frozen BK232.out 0
             have hfz144_1 := blk_frozen BK232.out 1
             go_wp2_with (first | ((with_reducible refine gate_callee (f := 20) rfl ?_); refine gl_ (some 81) Try.func20 #[.agg #[.int .i64 t260, .slice Ao123 t261.length co123], .agg #[.int .i64 t227, .slice Ao22 t228.length co22]] ?_; (with_reducible refine (laws_eqGraph.calls kj59 t260 _ _ t261 t227 _ _ t228 false _ ?side1 ?side2 ?side3 ?side4 A124.out).mono ?_); (case side1 => refine (Kd.R_reads' (e := 67) (base := w.heap.size) (ok := fun k_ => ((((True ∧ some k_ ≠ (.slice Ao22 t228.length co22 : Value).ownBlock) ∧ some k_ ≠ (.slice Ao29 t251.length co29 : Value).ownBlock) ∧ some k_ ≠ (.slice Ao36 t239.length co36 : Value).ownBlock) ∧ some k_ ≠ (.slice Ao115 t257.length co115 : Value).ownBlock)) (n := t261.length) (c := co123) ?_).2.2; exact (hs_ HO263 BK265)); (case side2 => exact (Kd.R_reads' HO263.out).2.1); (case side3 => refine (Kd.R_reads' (e := 67) (base := w.heap.size) (ok := fun k_ => (((some k_ ≠ (.slice Ao29 t251.length co29 : Value).ownBlock ∧ some k_ ≠ (.slice Ao36 t239.length co36 : Value).ownBlock) ∧ some k_ ≠ (.slice Ao115 t257.length co115 : Value).ownBlock) ∧ some k_ ≠ (.slice Ao123 t261.length co123 : Value).ownBlock)) (n := t228.length) (c := co22) ?_).2.2; exact (hs_ HO_233001 BK265)); (case side4 => exact (Kd.R_reads' HO_233001.out).2.1); rintro e w145 ⟨rfl, hb⟩; refine ⟨_, rfl, ?_⟩; replace HO_233001 := rs_ HO_233001 BK265 hb; replace HO_238001 := rs_ HO_238001 BK265 hb; replace HO_244001 := rs_ HO_244001 BK265 hb; replace HO259 := rs_ HO259 BK265 hb; replace HO263 := rs_ HO263 BK265 hb; replace BK221 := bf_ BK221 NB221_265 hb; replace BK232 := bf_ BK232 NB232_265 hb; replace BK237 := bf_ BK237 NB237_265 hb; replace BK243 := bf_ BK243 NB243_265 hb; replace BK265 := Aside0.mk (blk_below (g := gb265) (o := .cells #[.int .i64 t260, .slice Ao123 t261.length co123] 30 (0, 0)) (by (with_reducible repeat (first | refine blk_drewN ?_ _ | refine blk_drew ?_ | refine blk_alloc ?_ _)); refine blk_put (cs := #[.int .i64 t260, .slice none 0 0]) ?_ 1 _ rfl; (with_reducible repeat (first | refine blk_drewN ?_ _ | refine blk_drew ?_ | refine blk_alloc ?_ _)); refine blk_put (cs := #[.int .i64 0, .slice none 0 0]) ?_ 0 _ rfl; (with_reducible repeat (first | refine blk_drewN ?_ _ | refine blk_drew ?_ | refine blk_alloc ?_ _)); exact BK265.out) hb); replace HB := Aside0.mk (bt_ HB hb); (try clear hb); (try clear hb2); (try clear hk); (try clear hi)))
             go_meet
             case rel => exact ⟨_, (true), (by first | rfl | (simp; done) | (simp [*]; done)), H', ⟨by have := HJ10.out; have := HJ59.out; first | omega | exact Nat.le_refl _⟩, ⟨by (try simp only [hl238001_59]); (with_reducible repeat (first | apply Kd.R_alloc | apply Kd.R_drewN | apply Kd.R_drew)); exact Kd.R_mono HO_233001.out (fun _ hk => ⟨hk.1.1.1, ⟨hk.1.1.2, hk.2⟩⟩)⟩, ⟨by (try simp only [hl238001_59]); (with_reducible repeat (first | apply Kd.R_alloc | apply Kd.R_drewN | apply Kd.R_drew)); exact Kd.R_mono HO_238001.out (fun _ hk => ⟨hk.1.1.1, ⟨hk.1.1.2, hk.2⟩⟩)⟩, ⟨by (try simp only [hl238001_59]); (with_reducible repeat (first | apply Kd.R_alloc | apply Kd.R_drewN | apply Kd.R_drew)); exact Kd.R_mono HO_244001.out (fun _ hk => ⟨hk.1.1.1, ⟨hk.1.1.2, hk.2⟩⟩)⟩, ⟨by (try simp only [hl238001_59]); (with_reducible repeat (first | apply Kd.R_alloc | apply Kd.R_drewN | apply Kd.R_drew)); exact Kd.R_mono HO263.out (fun _ hk => ⟨hk.1.1.1.2, ⟨hk.1.1.2, hk.1.2⟩⟩)⟩, ⟨by (try simp only [hl238001_59]); (with_reducible repeat (first | refine blk_drewN ?_ _ | refine blk_drew ?_ | refine blk_alloc ?_ _)); exact BK221.out⟩, ⟨by (try simp only [hl238001_59]); (with_reducible repeat (first | refine blk_drewN ?_ _ | refine blk_drew ?_ | refine blk_alloc ?_ _)); exact BK232.out⟩, ⟨by (try simp only [hl238001_59]); (with_reducible repeat (first | refine blk_drewN ?_ _ | refine blk_drew ?_ | refine blk_alloc ?_ _)); exact BK237.out⟩, ⟨by (try simp only [hl238001_59]); (with_reducible repeat (first | refine blk_drewN ?_ _ | refine blk_drew ?_ | refine blk_alloc ?_ _)); exact BK243.out⟩, ⟨by (try simp only [hl238001_59]); (with_reducible repeat (first | refine blk_drewN ?_ _ | refine blk_drew ?_ | refine blk_alloc ?_ _)); exact BK265.out⟩, ⟨by repeat (first | (with_reducible first | exact HB.out | apply below_alloc | apply pw_below_drewN | apply below_drew1 | refine below_set ?_ GE221.out | refine below_set ?_ GE232.out | refine below_set ?_ GE237.out | refine below_set ?_ GE243.out | refine below_set ?_ GE265.out) | exact HB.out)⟩⟩
           case rest =>
            clear HC103
            try clear c1
            try clear c2
            try clear p2
            try clear c3
            try clear c3b0
            try clear c4
            try clear c5
            try clear c6
            try clear c7
            try clear c8
            try clear c9
            try clear c10
            try clear c11
            try clear c12
            try clear c13
            try clear c14
            try clear c15
            try clear c17
            try clear c20
            try clear c26
            try clear c27
            try clear c28
            try clear c29
            try clear c32
            try clear c33
            try clear c34
            try clear c38
            try clear c39
            try clear c40
            try clear c41
            try clear c43
            try clear c44
            try clear c47
            try clear c48
            try clear c49
            try clear c51
            try clear c52
            try clear c55
            try clear c58
            try clear c65
            try clear c66
            try clear c67
            try clear c70
            try clear c70b0
            try clear c72
            try clear c73
            try clear c74
            try clear c75
            try clear c77
            try clear c78
            try clear c81
            try clear c82
            try clear c83
            try clear c85
            try clear c86
            try clear c89
            try clear c92
            try clear c92b0
            try clear c93
            try clear c94
            try clear c95
            try clear c100
            try clear c100b0
            try clear c100b1
            try clear c104
            try clear c105
            try clear c106
            try clear c111
            try clear c112
            try clear c118
            try clear c119
            try clear c120
            try clear c121
            try clear c125
            try clear c126
            try clear c127
            try clear c128
            try clear c129
            try clear c131
            try clear c132
            try clear c133
            try clear c136
            try clear c137
            try clear c138
            try clear c139
            try clear c141
            try clear c142
            try clear c143
            try clear hcz107_0
            try clear hcz107_1
            try clear hcz109_0
            try clear hcz109_1
            try clear hcz113_0
            try clear hcz113_1
            try clear hcz122_0
            try clear hcz122_1
            try clear hcz130_0
            try clear hcz130_1
            try clear hcz134_0
            try clear hcz134_1
            try clear hcz13_0
            try clear hcz13_1
            try clear hcz140_0
            try clear hcz140_1
            try clear hcz144_0
            try clear hcz144_1
            try clear hcz15_0
            try clear hcz15_1
            try clear hcz21_0
            try clear hcz21_1
            try clear hcz23_0
            try clear hcz23_1
            try clear hcz28_0
            try clear hcz28_1
            try clear hcz35_0
            try clear hcz35_1
            try clear hcz42_0
            try clear hcz42_1
            try clear hcz45_0
            try clear hcz45_1
            try clear hcz50_0
            try clear hcz50_1
            try clear hcz53_0
            try clear hcz53_1
            try clear hcz5_0
            try clear hcz5_1
            try clear hcz68_0
            try clear hcz68_1
            try clear hcz76_0
            try clear hcz76_1
            try clear hcz79_0
            try clear hcz79_1
            try clear hcz84_0
            try clear hcz84_1
            try clear hcz87_0
            try clear hcz87_1
            try clear hcz96_0
            try clear hcz96_1
            try clear hcz98_0
            try clear hcz98_1
            try clear hfz107_0
            try clear hfz107_1
            try clear hfz109_0
            try clear hfz109_1
            try clear hfz113_0
            try clear hfz113_1
            try clear hfz122_0
            try clear hfz122_1
            try clear hfz130_0
            try clear hfz130_1
            try clear hfz134_0
            try clear hfz134_1
            try clear hfz13_0
            try clear hfz13_1
            try clear hfz140_0
            try clear hfz140_1
            try clear hfz144_0
            try clear hfz144_1
            try clear hfz15_0
            try clear hfz15_1
            try clear hfz21_0
            try clear hfz21_1
            try clear hfz23_0
            try clear hfz23_1
            try clear hfz28_0
            try clear hfz28_1
            try clear hfz35_0
            try clear hfz35_1
            try clear hfz42_0
            try clear hfz42_1
            try clear hfz45_0
            try clear hfz45_1
            try clear hfz50_0
            try clear hfz50_1
            try clear hfz53_0
            try clear hfz53_1
            try clear hfz5_0
            try clear hfz5_1
            try clear hfz68_0
            try clear hfz68_1
            try clear hfz76_0
            try clear hfz76_1
            try clear hfz79_0
            try clear hfz79_1
            try clear hfz84_0
            try clear hfz84_1
            try clear hfz87_0
            try clear hfz87_1
            try clear hfz96_0
            try clear hfz96_1
            try clear hfz98_0
            try clear hfz98_1
            try clear p2
            obtain ⟨kq, x87_102, rfl, HA, HJ102, HO_233001, HO_238001, HO_244001, HO_266001, BK221, BK232, BK237, BK243, BK265, HB⟩ := hcut
            have hl244001_102 := (Kd.R_reads' HO_244001.out).1
            rw [hl244001_102] at HO_244001
            (try simp only [hl244001_102])
            (try simp only [hl244001_102] at BK221)
            (try simp only [hl244001_102] at BK232)
            (try simp only [hl244001_102] at BK237)
            (try simp only [hl244001_102] at BK243)
            (try simp only [hl244001_102] at BK265)
            (try simp only [hl244001_102] at HO_233001)
            (try simp only [hl244001_102] at HO_238001)
            (try simp only [hl244001_102] at HO_266001)
            cases kq with
            | zero => exact absurd HA.out (by simp [laws_FnExactBothWays.j2])
            | succ kj102 =>
             have H := HA.out
             clear HA
             simp only [laws_FnExactBothWays.j2] at H
             by_cases c146 : x87_102 = true
             ·subst c146
              rw [if_pos rfl] at H
              obtain rfl := Option.some.inj H
              go_wp2
              go_ret
              exact ⟨by first | rfl | (simp [errW_none, errW_some] <;> rfl) | (simp [*, errW_none, errW_some] <;> rfl), by repeat (first | (with_reducible first | exact HB.out | apply below_alloc | apply pw_below_drewN | apply below_drew1 | refine below_set ?_ GE221.out | refine below_set ?_ GE232.out | refine below_set ?_ GE237.out | refine below_set ?_ GE243.out | refine below_set ?_ GE265.out) | exact HB.out)⟩
             ·replace c146 := Bool.eq_false_iff.mpr c146
              subst c146
              rw [if_neg (show ¬ (false = true) by decide)] at H
              replace H := Option.bind_eq_some_iff.mp H
              obtain ⟨t267, A1470, H⟩ := H
              have A147 := Aside0.mk A1470
              clear A1470
              by_cases c148 : t267 < 0
              ·rw [if_pos c148] at H
               have c148b0 : decide (t267 < 0) = true := decide_eq_true c148
               clear c148
               obtain rfl := Option.some.inj H
               have hnb149 := NB243_221.out
               have hnc149 := NB221_243.out
               have hnb150 := NB243_232.out
               have hnc150 := NB232_243.out
               have hnb151 := NB243_237.out
               have hnc151 := NB237_243.out
               have hnb152 := NB243_265.out
               have hnc152 := NB265_243.out
               have hcz153_0 := cz_ BK243 0 (.int .i64 t238)
               have hcz153_1 := cz_ BK243 1 (.slice Ao36 t254.length co36)
               have hfz153_0 := blk_frozen BK243.out 0
               have hfz153_1 := blk_frozen BK243.out 1
               go_wp2_with (first | ((with_reducible refine gate_callee (f := 27) rfl ?_); refine gl_ (some 90) Try.func27 #[.agg #[.int .i64 t238, .slice Ao36 t254.length co36], .int .i64 1] ?_; (with_reducible refine (laws_heldGraph.calls kj102 t238 _ _ t254 1 t267 _ ?side1 ?side2 A147.out).mono ?_); (case side1 => exact rc_ HO_244001); (case side2 => exact (Kd.R_reads' HO_244001.out).2.1); rintro e w154 ⟨rfl, hb⟩; refine ⟨_, rfl, ?_⟩; replace HO_233001 := rb_ HO_233001 hb; replace HO_238001 := rb_ HO_238001 hb; replace HO_244001 := rb_ HO_244001 hb; replace HO_266001 := rb_ HO_266001 hb; replace BK221 := Aside0.mk (bb_ BK221 hb); replace BK232 := Aside0.mk (bb_ BK232 hb); replace BK237 := Aside0.mk (bb_ BK237 hb); replace BK243 := Aside0.mk (bb_ BK243 hb); replace BK265 := Aside0.mk (bb_ BK265 hb); replace HB := Aside0.mk (bt_ HB hb); (try clear hb); (try clear hb2); (try clear hk); (try clear hi)))
               go_ret
               exact ⟨by first | rfl | (simp [errW_none, errW_some] <;> rfl) | (simp [*, errW_none, errW_some] <;> rfl), by repeat (first | (with_reducible first | exact HB.out | apply below_alloc | apply pw_below_drewN | apply below_drew1 | refine below_set ?_ GE221.out | refine below_set ?_ GE232.out | refine below_set ?_ GE237.out | refine below_set ?_ GE243.out | refine below_set ?_ GE265.out) | exact HB.out)⟩
              ·rw [if_neg c148] at H
               have c148b0 : decide (t267 < 0) = false := decide_eq_false c148
               clear c148
               by_cases c155 : t267 = t253
               ·rw [if_pos c155] at H
                have c155b0 : (t267 == t253) = true := beq_iff_eq.mpr c155
                have c155b1 : (t267 != t253) = false := bne_eq_false_iff_eq.mpr c155
                clear c155
                obtain rfl := Option.some.inj H
                have hnb156 := NB243_221.out
                have hnc156 := NB221_243.out
                have hnb157 := NB243_232.out
                have hnc157 := NB232_243.out
                have hnb158 := NB243_237.out
                have hnc158 := NB237_243.out
                have hnb159 := NB243_265.out
                have hnc159 := NB265_243.out
                have hcz160_0 := cz_ BK243 0 (.int .i64 t238)
                have hcz160_1 := cz_ BK243 1 (.slice Ao36 t254.length co36)
                have hfz160_0 := blk_frozen BK243.out 0
                have hfz160_1 := blk_frozen BK243.out 1
                go_wp2_with (first | ((with_reducible refine gate_callee (f := 27) rfl ?_); refine gl_ (some 90) Try.func27 #[.agg #[.int .i64 t238, .slice Ao36 t254.length co36], .int .i64 1] ?_; (with_reducible refine (laws_heldGraph.calls kj102 t238 _ _ t254 1 t267 _ ?side1 ?side2 A147.out).mono ?_); (case side1 => exact rc_ HO_244001); (case side2 => exact (Kd.R_reads' HO_244001.out).2.1); rintro e w161 ⟨rfl, hb⟩; refine ⟨_, rfl, ?_⟩; replace HO_233001 := rb_ HO_233001 hb; replace HO_238001 := rb_ HO_238001 hb; replace HO_244001 := rb_ HO_244001 hb; replace HO_266001 := rb_ HO_266001 hb; replace BK221 := Aside0.mk (bb_ BK221 hb); replace BK232 := Aside0.mk (bb_ BK232 hb); replace BK237 := Aside0.mk (bb_ BK237 hb); replace BK243 := Aside0.mk (bb_ BK243 hb); replace BK265 := Aside0.mk (bb_ BK265 hb); replace HB := Aside0.mk (bt_ HB hb); (try clear hb); (try clear hb2); (try clear hk); (try clear hi)))
                go_ret
                exact ⟨by first | rfl | (simp [errW_none, errW_some] <;> rfl) | (simp [*, errW_none, errW_some] <;> rfl), by repeat (first | (with_reducible first | exact HB.out | apply below_alloc | apply pw_below_drewN | apply below_drew1 | refine below_set ?_ GE221.out | refine below_set ?_ GE232.out | refine below_set ?_ GE237.out | refine below_set ?_ GE243.out | refine below_set ?_ GE265.out) | exact HB.out)⟩
               ·rw [if_neg c155] at H
                have c155b0 : (t267 == t253) = false := beq_eq_false_iff_ne.mpr c155
                have c155b1 : (t267 != t253) = true := bne_iff_ne.mpr c155
                obtain rfl := Option.some.inj H
                have hnb162 := NB243_221.out
                have hnc162 := NB221_243.out
                have hnb163 := NB243_232.out
                have hnc163 := NB232_243.out
                have hnb164 := NB243_237.out
                have hnc164 := NB237_243.out
                have hnb165 := NB243_265.out
                have hnc165 := NB265_243.out
                have hcz166_0 := cz_ BK243 0 (.int .i64 t238)
                have hcz166_1 := cz_ BK243 1 (.slice Ao36 t254.length co36)
                have hfz166_0 := blk_frozen BK243.out 0
                have hfz166_1 := blk_frozen BK243.out 1
                go_wp2_with (first | ((with_reducible refine gate_callee (f := 27) rfl ?_); refine gl_ (some 90) Try.func27 #[.agg #[.int .i64 t238, .slice Ao36 t254.length co36], .int .i64 1] ?_; (with_reducible refine (laws_heldGraph.calls kj102 t238 _ _ t254 1 t267 _ ?side1 ?side2 A147.out).mono ?_); (case side1 => exact rc_ HO_244001); (case side2 => exact (Kd.R_reads' HO_244001.out).2.1); rintro e w167 ⟨rfl, hb⟩; refine ⟨_, rfl, ?_⟩; replace HO_233001 := rb_ HO_233001 hb; replace HO_238001 := rb_ HO_238001 hb; replace HO_244001 := rb_ HO_244001 hb; replace HO_266001 := rb_ HO_266001 hb; replace BK221 := Aside0.mk (bb_ BK221 hb); replace BK232 := Aside0.mk (bb_ BK232 hb); replace BK237 := Aside0.mk (bb_ BK237 hb); replace BK243 := Aside0.mk (bb_ BK243 hb); replace BK265 := Aside0.mk (bb_ BK265 hb); replace HB := Aside0.mk (bt_ HB hb); (try clear hb); (try clear hb2); (try clear hk); (try clear hi)))
                go_ret
                exact ⟨by first | rfl | (simp [errW_none, errW_some] <;> rfl) | (simp [*, errW_none, errW_some] <;> rfl), by repeat (first | (with_reducible first | exact HB.out | apply below_alloc | apply pw_below_drewN | apply below_drew1 | refine below_set ?_ GE221.out | refine below_set ?_ GE232.out | refine below_set ?_ GE237.out | refine below_set ?_ GE243.out | refine below_set ?_ GE265.out) | exact HB.out)⟩
          ·rw [if_neg c100] at H
           have c100b0 : (t255 == t253) = false := beq_eq_false_iff_ne.mpr c100
           have c100b1 : (t255 != t253) = true := bne_iff_ne.mpr c100
           obtain rfl := Option.some.inj H
           have hnb168 := NB243_221.out
           have hnc168 := NB221_243.out
           have hnb169 := NB243_232.out
           have hnc169 := NB232_243.out
           have hnb170 := NB243_237.out
           have hnc170 := NB237_243.out
           have hcz171_0 := cz_ BK243 0 (.int .i64 t238)
           have hcz171_1 := cz_ BK243 1 (.slice Ao36 t239.length co36)
           have hfz171_0 := blk_frozen BK243.out 0
           have hfz171_1 := blk_frozen BK243.out 1
           go_wp2_with (first | ((with_reducible refine gate_callee (f := 26) rfl ?_); refine gl_ (some 64) Try.func26 #[.agg #[.int .i64 t238, .slice Ao36 t239.length co36], .int .i64 1] ?_; (with_reducible refine (laws_markGraph.calls kj59 t238 (fun k_ => some k_ = (.slice Ao36 t239.length co36 : Value).ownBlock) (.slice Ao36 t239.length co36) t239 1 t253 t254 w _ ?side1 ?side2 A90.out).mono ?_); (case side1 => exact by_ HB); (case side2 => exact Kd.R_tight rfl HO_244001.out); rintro e w172 ⟨rfl, hy0, hb, hkp⟩; refine ⟨_, rfl, ?_⟩; replace HO_233001 := kp_ (fun k_ => some k_ ≠ (.slice Ao29 t251.length co29 : Value).ownBlock ∧ some k_ ≠ (.slice Ao36 t239.length co36 : Value).ownBlock) (HO_233001.out) hkp; replace HO_238001 := kp_ (fun k_ => some k_ ≠ (.slice Ao22 t228.length co22 : Value).ownBlock ∧ some k_ ≠ (.slice Ao36 t239.length co36 : Value).ownBlock) (HO_238001.out) hkp; replace BK221 := bk_ BK221 hkp (fun hs_ => (Kd.R_ne HO_244001.out BK221.out (by decide)) hs_); replace BK232 := bk_ BK232 hkp (fun hs_ => (Kd.R_ne HO_244001.out BK232.out (by decide)) hs_); replace BK237 := bk_ BK237 hkp (fun hs_ => (Kd.R_ne HO_244001.out BK237.out (by decide)) hs_); replace BK243 := bk_ BK243 hkp (fun hs_ => (Kd.R_ne HO_244001.out BK243.out (by decide)) hs_); replace HO_244001 := Aside0.mk (Kd.R_reok rfl hy0 (fun k_ e_ => HO_244001.out.1 k_ e_)); replace HB := Aside0.mk (hb); (try clear hb); (try clear hkp); (try clear hy0); have hcz173_0 := cz_ BK243 0 (.int .i64 t238); have hcz173_1 := cz_ BK243 1 (.slice Ao36 t239.length co36); have hfz173_0 := blk_frozen BK243.out 0; have hfz173_1 := blk_frozen BK243.out 1) | ((with_reducible refine gate_callee (f := 27) rfl ?_); refine goesL_ (some 67) rfl rfl Try.func27 (by kernel_rfl) rfl #[.agg #[.int .i64 t238, .slice Ao36 t254.length co36], .int .i64 1] rfl (by (try simp only [List.map_toArray, List.map_cons, List.map_nil]); first | done | (rw [show t254.length = t239.length from (Kd.R_reads' HO_244001.out).1.symm] <;> rfl) | rfl | (simp only [List.length_drop, List.length_take]; rfl)) ?_; (with_reducible refine (laws_heldGraph.calls kj59 t238 _ _ t254 1 t255 _ ?side1 ?side2 A91.out).mono ?_); (case side1 => exact rc_ HO_244001); (case side2 => rw [show t254.length = t239.length from (Kd.R_reads' HO_244001.out).1.symm]; exact (Kd.R_reads' HO_244001.out).2.1); rintro e w174 ⟨rfl, hb⟩; refine ⟨_, rfl, ?_⟩; replace HO_233001 := rb_ HO_233001 hb; replace HO_238001 := rb_ HO_238001 hb; replace HO_244001 := rb_ HO_244001 hb; replace BK221 := Aside0.mk (bb_ BK221 hb); replace BK232 := Aside0.mk (bb_ BK232 hb); replace BK237 := Aside0.mk (bb_ BK237 hb); replace BK243 := Aside0.mk (bb_ BK243 hb); replace HB := Aside0.mk (bt_ HB hb); (try clear hb); (try clear hb2); (try clear hk); (try clear hi)))
           go_ret
           exact ⟨by first | rfl | (simp [errW_none, errW_some] <;> rfl) | (simp [*, errW_none, errW_some] <;> rfl), by repeat (first | (with_reducible first | exact HB.out | apply below_alloc | apply pw_below_drewN | apply below_drew1 | refine below_set ?_ GE221.out | refine below_set ?_ GE232.out | refine below_set ?_ GE237.out | refine below_set ?_ GE243.out) | exact HB.out)⟩
     ·replace c58 := Bool.eq_false_iff.mpr c58
      subst c58
      rw [if_neg (show ¬ (false = true) by decide)] at H
      obtain rfl := Option.some.inj H
      try go_wp2
      replace HO_233001 := Aside0.mk (Kd.R_drew HO_233001.out)
      replace HO_238001 := Aside0.mk (Kd.R_drew HO_238001.out)
      replace HO_244001 := Aside0.mk (Kd.R_drew HO_244001.out)
      replace BK221 := Aside0.mk (blk_drew BK221.out)
      replace BK232 := Aside0.mk (blk_drew BK232.out)
      replace BK237 := Aside0.mk (blk_drew BK237.out)
      replace BK243 := Aside0.mk (blk_drew BK243.out)
      replace HB := Aside0.mk (below_drew1 HB.out)
      refine start_ (n := 5) (S := fun w' => w'.cell? ⟨gb237, 0, none⟩ = some (.int .i64 t233) ∧ w'.cell? ⟨gb237, 1, none⟩ = some (.slice Ao29 t234.length co29) ∧ w'.cell? ⟨gb221, 0, none⟩ = some (.int .i64 a0_0) ∧ w'.cell? ⟨gb221, 1, none⟩ = some (.slice A0_1 l0_1.length c0_1)) (ds := []) ba9_0 (by kernel_rfl) rfl rfl ⟨(blk_cell BK237.out 0).trans rfl, (blk_cell BK237.out 1).trans rfl, (blk_cell BK221.out 0).trans rfl, (blk_cell BK221.out 1).trans rfl⟩ (fun hHeld => ?_)
      generalize wc.drew = w175 at HO_233001 HO_238001 HO_244001 BK221 BK232 BK237 BK243 HB hHeld ⊢
      refine take_ (i := 0) (N := some 41) (v := ?_) (a' := ?_) ba9_1 rfl rfl (by kernel_rfl) (fun _ _ _ h => h) (Or.inl ⟨by rfl, ?_⟩) hHeld ?_ ?_
      rotate_left; · rintro w' ⟨s0, s1, s2, s3⟩; go_simp; with_reducible rfl
      rotate_left; · simp only [Act.put, List.setIfInBounds_toArray, List.set_cons_zero, List.set_cons_succ, i64_w, i32_w]; rfl
      refine take_ (i := 1) (N := some 42) (v := ?_) (a' := ?_) ba9_2 rfl rfl (by kernel_rfl) (fun _ _ _ h => h) (Or.inl ⟨by rfl, ?_⟩) hHeld ?_ ?_
      rotate_left; · rintro w' ⟨s0, s1, s2, s3⟩; go_simp; with_reducible rfl
      rotate_left; · simp only [Act.put, List.setIfInBounds_toArray, List.set_cons_zero, List.set_cons_succ, i64_w, i32_w]; rfl
      refine one_ (i := 2) (N := some 43) ba9_3 rfl rfl (by kernel_rfl) (by decide) (fun K hK => ?_)
      refine gz_ Try.func17 #[.agg #[.int .i64 a0_0, .slice A0_1 l0_1.length c0_1]] ?_
      with_reducible refine (laws_toGraph.calls kj10 a0_0 _ _ l0_1 t245 t246 _ ?side1 ?side2 A56.out).mono ?_
      (case side1 => exact cb_ HR0_1 HB)
      (case side2 => exact HC0_1.out)
      rintro e w176 ⟨v247, rfl, ho0, hb⟩
      refine ⟨_, rfl, ?_⟩
      have HO248 := Aside0.mk (Kd.R_lower (Kd.R_new' (Kd.R_new' (Kd.R_new' ho0 (Kd.R_lt (hd_ HO_233001))) (Kd.R_lt (hd_ HO_238001))) (Kd.R_lt (hd_ HO_244001))) (bz_ HB))
      replace HO_233001 := Aside0.mk (Kd.R_elder' (hd_ HO_233001) (Kd.R_base ho0) hb)
      replace HO_238001 := Aside0.mk (Kd.R_elder' (hd_ HO_238001) (Kd.R_base ho0) hb)
      replace HO_244001 := Aside0.mk (Kd.R_elder' (hd_ HO_244001) (Kd.R_base ho0) hb)
      replace BK221 := Aside0.mk (bb_ BK221 hb)
      replace BK232 := Aside0.mk (bb_ BK232 hb)
      replace BK237 := Aside0.mk (bb_ BK237 hb)
      replace BK243 := Aside0.mk (bb_ BK243 hb)
      replace HB := Aside0.mk (bt_ HB hb)
      (try clear hb)
      (try clear hb2)
      (try clear hk)
      (try clear hi)
      (try clear ho0)
      obtain ⟨Ao177, co177, eo177⟩ := Kd.R_slice HO248.out
      (first | subst eo177 | (injection eo177 with f1_ f2_ f3_; have f4_ := f1_.symm; have f5_ := f3_.symm; clear f1_ f2_ f3_; subst f4_; subst f5_))
      refine hK.out _ _ ⟨(blk_cell BK237.out 0).trans rfl, (blk_cell BK237.out 1).trans rfl, (blk_cell BK221.out 0).trans rfl, (blk_cell BK221.out 1).trans rfl⟩ (fun hHeld => ?_)
      clear hK K
      refine nz_ 43 ?_
      refine one_ (i := 3) (N := some 44) ba9_4 rfl rfl (by kernel_rfl) (by decide) (fun K hK => ?_)
      refine gz_ Try.func20 #[.agg #[.int .i64 t233, .slice Ao29 t234.length co29], .agg #[.int .i64 t245, .slice Ao177 t246.length co177]] ?_
      with_reducible refine (laws_eqGraph.calls kj10 t233 _ _ t234 t245 _ _ t246 false _ ?side1 ?side2 ?side3 ?side4 A57.out).mono ?_
      (case side1 => exact rc_ HO_238001)
      (case side2 => exact (Kd.R_reads' HO_238001.out).2.1)
      (case side3 => exact rc_ HO248)
      (case side4 => exact (Kd.R_reads' HO248.out).2.1)
      rintro e w178 ⟨rfl, hb⟩
      refine ⟨_, rfl, ?_⟩
      replace HO_233001 := rb_ HO_233001 hb
      replace HO_238001 := rb_ HO_238001 hb
      replace HO_244001 := rb_ HO_244001 hb
      replace HO248 := rb_ HO248 hb
      replace BK221 := Aside0.mk (bb_ BK221 hb)
      replace BK232 := Aside0.mk (bb_ BK232 hb)
      replace BK237 := Aside0.mk (bb_ BK237 hb)
      replace BK243 := Aside0.mk (bb_ BK243 hb)
      replace HB := Aside0.mk (bt_ HB hb)
      (try clear hb)
      (try clear hb2)
      (try clear hk)
      (try clear hi)
      refine hK.out _ _ ⟨(blk_cell BK237.out 0).trans rfl, (blk_cell BK237.out 1).trans rfl, (blk_cell BK221.out 0).trans rfl, (blk_cell BK221.out 1).trans rfl⟩ (fun hHeld => ?_)
      clear hK K
      refine nz_ 44 ?_
      refine pure_ (i := 4) (N := some 45) (v := ?_) (a' := ?_) ba9_5 rfl rfl (by kernel_rfl) (fun _ _ _ h => h) (Or.inl ⟨by rfl, ?_⟩) ?_ ?_
      rotate_left; · intro w'; go_simp; with_reducible rfl
      rotate_left; · simp only [Act.put, List.setIfInBounds_toArray, List.set_cons_zero, List.set_cons_succ, i64_w, i32_w]; rfl
      refine done_ (by kernel_rfl) ?_
      try go_wp2
      go_ret
      exact ⟨by first | rfl | (simp [errW_none, errW_some] <;> rfl) | (simp [*, errW_none, errW_some] <;> rfl), by repeat (first | (with_reducible first | exact HB.out | apply below_alloc | apply pw_below_drewN | apply below_drew1 | refine below_set ?_ GE221.out | refine below_set ?_ GE232.out | refine below_set ?_ GE237.out | refine below_set ?_ GE243.out) | exact HB.out)⟩

end Go.Proofs.Yteopiggdpadolaa.QFnExactBothWays
