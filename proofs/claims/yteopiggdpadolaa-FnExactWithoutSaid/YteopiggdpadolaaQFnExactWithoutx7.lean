/- Contracts of functions that the law reaches: what each call returns and what it leaves in memory. Made by this session over the print of the kit. -/
import Derived.Test.YteopiggdpadolaaQFnExactWithoutx0
import Derived.Test.YteopiggdpadolaaQFnExactWithoutx1
import Derived.Test.YteopiggdpadolaaQFnExactWithoutx3
import Derived.Test.YteopiggdpadolaaQFnExactWithoutx5
import Derived.Test.YteopiggdpadolaaQFnExactWithoutx6
namespace Go.Proofs.Yteopiggdpadolaa.QFnExactWithout
open Go.RowKit Go.Proofs.YteopiggdpadolaaU.PrintWords Go.Proofs.YteopiggdpadolaaU.PrintLast Go.Proofs.YteopiggdpadolaaU.PrintMore
attribute [local go_sem] max2_int min2_int max_two min_two max_three min_three max_four min_four   -- for this text's walks alone
set_option linter.unusedVariables false
set_option linter.unusedSimpArgs false
def ba7_0 : Array Bool := #[false, false, false, false, false]
def ba7_1 : Array Bool := #[true, false, false, false, false]
def ba7_2 : Array Bool := #[true, true, false, false, false]
def ba7_3 : Array Bool := #[true, true, true, false, false]
def ba7_4 : Array Bool := #[true, true, true, true, false]
def ba7_5 : Array Bool := #[true, true, true, true, true]

/-! ### laws_FnExactWithout: function 5 -/
mutual
def laws_FnExactWithout.j0 : Nat → Int → Int → Bool → Bool → Bool → Int → List (S82) → Int → List (S67) → Int → List (S67) → Int → List (S67) → Option (Bool)
 | 0, _, _, _, _, _, _, _, _, _, _, _, _, _ => none
 | k + 1, x1, x2, x9, x12, x48, x248000, x248001, x259000, x259001, x264000, x264001, x270000, x270001 => if x48 = true then (some false) else ((laws_toGraph.f k x248000 x248001).bind fun bt271 => ((laws_eqGraph.f k x264000 x264001 bt271.1 bt271.2).bind fun t275 => (if t275 = true then ((laws_markGraph.f k x264000 x264001 1).bind fun bt276 => (if bt276.1 < 0 then (laws_FnExactWithout.j1 k x1 x2 x9 true x248000 x248001 x259000 x259001 x270000 x270001) else ((laws_eqGraph.f k x270000 x270001 x259000 x259001).bind fun t278 => (if t278 = true then (laws_FnExactWithout.j1 k x1 x2 x9 (x12 != x9) x248000 x248001 x259000 x259001 x270000 x270001) else (laws_FnExactWithout.j1 k x1 x2 x9 true x248000 x248001 x259000 x259001 x270000 x270001))))) else (some false))))
def laws_FnExactWithout.j1 : Nat → Int → Int → Bool → Bool → Int → List (S82) → Int → List (S67) → Int → List (S67) → Option (Bool)
 | 0, _, _, _, _, _, _, _, _, _, _ => none
 | k + 1, x1, x2, x9, x69, x248000, x248001, x259000, x259001, x270000, x270001 => if x69 = true then (some false) else ((laws_markGraph.f k x270000 x270001 1).bind fun bt279 => ((laws_heldGraph.f k x270000 bt279.2 1).bind fun t281 => (if t281 < 0 then (some false) else (if t281 = bt279.1 then ((laws_toGraph.f k x248000 x248001).bind fun bt282 => ((impl_Without.f k bt282.1 bt282.2 x1 x2).bind fun bt286 => ((laws_eqGraph.f k bt286.1 bt286.2.1 x259000 x259001).bind fun t292 => (if t292 = true then (laws_FnExactWithout.j2 k bt279.1 (bt286.2.2 != x9) x270000 bt279.2) else (laws_FnExactWithout.j2 k bt279.1 true x270000 bt279.2))))) else (some false)))))
def laws_FnExactWithout.j2 : Nat → Int → Bool → Int → List (S67) → Option (Bool)
 | 0, _, _, _, _ => none
 | k + 1, x14, x97, x270000, x270001 => if x97 = true then (some false) else ((laws_heldGraph.f k x270000 x270001 1).bind fun t293 => (if t293 < 0 then (some false) else (if t293 = x14 then (some true) else (some false))))
end
def laws_FnExactWithout.f (k : Nat) (a0_0 : Int) (l0_1 : List (S82)) (a1 : Int) (a2 : Int) : Option (Bool) := (laws_szGraph.f a0_0 l0_1 1048576).bind fun t248 => (if t248 < 0 then (some true) else ((laws_toGraph.f k a0_0 l0_1).bind fun bt249 => ((spec_Without.f k bt249.1 bt249.2 a1 a2).bind fun bt253 => ((laws_toGraph.f k a0_0 l0_1).bind fun bt259 => ((impl_Without.f k bt259.1 bt259.2 a1 a2).bind fun bt264 => ((laws_eqGraph.f k bt264.1 bt264.2.1 bt253.1 bt253.2.1).bind fun t270 => (if t270 = true then (laws_FnExactWithout.j0 k a1 a2 bt253.2.2 bt264.2.2 (bt264.2.2 != bt253.2.2) a0_0 l0_1 bt253.1 bt253.2.1 bt259.1 bt259.2 bt264.1 bt264.2.1) else (laws_FnExactWithout.j0 k a1 a2 bt253.2.2 bt264.2.2 true a0_0 l0_1 bt253.1 bt253.2.1 bt259.1 bt259.2 bt264.1 bt264.2.1))))))))
theorem laws_FnExactWithout.mono_l : ∀ k, (∀ y0 y1 y2 y3 y4 y5 y6 y7 y8 y9 y10 y11 y12, LeO (laws_FnExactWithout.j0 k y0 y1 y2 y3 y4 y5 y6 y7 y8 y9 y10 y11 y12) (laws_FnExactWithout.j0 (k + 1) y0 y1 y2 y3 y4 y5 y6 y7 y8 y9 y10 y11 y12)) ∧ (∀ y0 y1 y2 y3 y4 y5 y6 y7 y8 y9, LeO (laws_FnExactWithout.j1 k y0 y1 y2 y3 y4 y5 y6 y7 y8 y9) (laws_FnExactWithout.j1 (k + 1) y0 y1 y2 y3 y4 y5 y6 y7 y8 y9)) ∧ (∀ y0 y1 y2 y3, LeO (laws_FnExactWithout.j2 k y0 y1 y2 y3) (laws_FnExactWithout.j2 (k + 1) y0 y1 y2 y3))
 | 0 => ⟨fun _ _ _ _ _ _ _ _ _ _ _ _ _ r h => by simp [laws_FnExactWithout.j0] at h, fun _ _ _ _ _ _ _ _ _ _ r h => by simp [laws_FnExactWithout.j1] at h, fun _ _ _ _ r h => by simp [laws_FnExactWithout.j2] at h⟩
 | k + 1 => by
  obtain ⟨ih0, ih1, ih2⟩ := laws_FnExactWithout.mono_l k
  refine ⟨?_, ?_, ?_⟩
  ·intro y0 y1 y2 y3 y4 y5 y6 y7 y8 y9 y10 y11 y12
   unfold laws_FnExactWithout.j0
   repeat' first
   | (with_reducible exact ih0 _ _ _ _ _ _ _ _ _ _ _ _ _)
   | (with_reducible exact ih1 _ _ _ _ _ _ _ _ _ _)
   | (with_reducible exact ih2 _ _ _ _)
   | (with_reducible exact impl_Without.mono _ _ _ _ _)
   | (with_reducible exact laws_eqGraph.mono _ _ _ _ _)
   | (with_reducible exact laws_heldGraph.mono _ _ _ _)
   | (with_reducible exact laws_markGraph.mono _ _ _ _)
   | (with_reducible exact laws_toGraph.mono _ _ _)
   | (with_reducible exact spec_Without.mono _ _ _ _ _)
   | (with_reducible exact LeO.refl _)
   | (with_reducible exact LeO.none _)
   | (with_reducible refine LeO.ite ?_ ?_)
   | (with_reducible refine LeO.bind ?_ (fun _ => ?_))
   | exact ih0 _ _ _ _ _ _ _ _ _ _ _ _ _
   | exact ih1 _ _ _ _ _ _ _ _ _ _
   | exact ih2 _ _ _ _
   | exact impl_Without.mono _ _ _ _ _
   | exact laws_eqGraph.mono _ _ _ _ _
   | exact laws_heldGraph.mono _ _ _ _
   | exact laws_markGraph.mono _ _ _ _
   | exact laws_toGraph.mono _ _ _
   | exact spec_Without.mono _ _ _ _ _
   | exact LeO.none _
   | refine LeO.ite ?_ ?_
   | refine LeO.bind ?_ (fun _ => ?_)
  ·intro y0 y1 y2 y3 y4 y5 y6 y7 y8 y9
   unfold laws_FnExactWithout.j1
   repeat' first
   | (with_reducible exact ih0 _ _ _ _ _ _ _ _ _ _ _ _ _)
   | (with_reducible exact ih1 _ _ _ _ _ _ _ _ _ _)
   | (with_reducible exact ih2 _ _ _ _)
   | (with_reducible exact impl_Without.mono _ _ _ _ _)
   | (with_reducible exact laws_eqGraph.mono _ _ _ _ _)
   | (with_reducible exact laws_heldGraph.mono _ _ _ _)
   | (with_reducible exact laws_markGraph.mono _ _ _ _)
   | (with_reducible exact laws_toGraph.mono _ _ _)
   | (with_reducible exact spec_Without.mono _ _ _ _ _)
   | (with_reducible exact LeO.refl _)
   | (with_reducible exact LeO.none _)
   | (with_reducible refine LeO.ite ?_ ?_)
   | (with_reducible refine LeO.bind ?_ (fun _ => ?_))
   | exact ih0 _ _ _ _ _ _ _ _ _ _ _ _ _
   | exact ih1 _ _ _ _ _ _ _ _ _ _
   | exact ih2 _ _ _ _
   | exact impl_Without.mono _ _ _ _ _
   | exact laws_eqGraph.mono _ _ _ _ _
   | exact laws_heldGraph.mono _ _ _ _
   | exact laws_markGraph.mono _ _ _ _
   | exact laws_toGraph.mono _ _ _
   | exact spec_Without.mono _ _ _ _ _
   | exact LeO.none _
   | refine LeO.ite ?_ ?_
   | refine LeO.bind ?_ (fun _ => ?_)
  ·intro y0 y1 y2 y3
   unfold laws_FnExactWithout.j2
   repeat' first
   | (with_reducible exact ih0 _ _ _ _ _ _ _ _ _ _ _ _ _)
   | (with_reducible exact ih1 _ _ _ _ _ _ _ _ _ _)
   | (with_reducible exact ih2 _ _ _ _)
   | (with_reducible exact impl_Without.mono _ _ _ _ _)
   | (with_reducible exact laws_eqGraph.mono _ _ _ _ _)
   | (with_reducible exact laws_heldGraph.mono _ _ _ _)
   | (with_reducible exact laws_markGraph.mono _ _ _ _)
   | (with_reducible exact laws_toGraph.mono _ _ _)
   | (with_reducible exact spec_Without.mono _ _ _ _ _)
   | (with_reducible exact LeO.refl _)
   | (with_reducible exact LeO.none _)
   | (with_reducible refine LeO.ite ?_ ?_)
   | (with_reducible refine LeO.bind ?_ (fun _ => ?_))
   | exact ih0 _ _ _ _ _ _ _ _ _ _ _ _ _
   | exact ih1 _ _ _ _ _ _ _ _ _ _
   | exact ih2 _ _ _ _
   | exact impl_Without.mono _ _ _ _ _
   | exact laws_eqGraph.mono _ _ _ _ _
   | exact laws_heldGraph.mono _ _ _ _
   | exact laws_markGraph.mono _ _ _ _
   | exact laws_toGraph.mono _ _ _
   | exact spec_Without.mono _ _ _ _ _
   | exact LeO.none _
   | refine LeO.ite ?_ ?_
   | refine LeO.bind ?_ (fun _ => ?_)
theorem laws_FnExactWithout.mono : ∀ a0 a1 a2 a3 k, LeO (laws_FnExactWithout.f k a0 a1 a2 a3) (laws_FnExactWithout.f (k + 1) a0 a1 a2 a3) := by
 intro a0 a1 a2 a3 k
 obtain ⟨ih0, ih1, ih2⟩ := laws_FnExactWithout.mono_l k
 unfold laws_FnExactWithout.f
 repeat' first
   | (with_reducible exact ih0 _ _ _ _ _ _ _ _ _ _ _ _ _)
   | (with_reducible exact ih1 _ _ _ _ _ _ _ _ _ _)
   | (with_reducible exact ih2 _ _ _ _)
   | (with_reducible exact impl_Without.mono _ _ _ _ _)
   | (with_reducible exact laws_eqGraph.mono _ _ _ _ _)
   | (with_reducible exact laws_heldGraph.mono _ _ _ _)
   | (with_reducible exact laws_markGraph.mono _ _ _ _)
   | (with_reducible exact laws_toGraph.mono _ _ _)
   | (with_reducible exact spec_Without.mono _ _ _ _ _)
   | (with_reducible exact LeO.refl _)
   | (with_reducible exact LeO.none _)
   | (with_reducible refine LeO.ite ?_ ?_)
   | (with_reducible refine LeO.bind ?_ (fun _ => ?_))
   | exact ih0 _ _ _ _ _ _ _ _ _ _ _ _ _
   | exact ih1 _ _ _ _ _ _ _ _ _ _
   | exact ih2 _ _ _ _
   | exact impl_Without.mono _ _ _ _ _
   | exact laws_eqGraph.mono _ _ _ _ _
   | exact laws_heldGraph.mono _ _ _ _
   | exact laws_markGraph.mono _ _ _ _
   | exact laws_toGraph.mono _ _ _
   | exact spec_Without.mono _ _ _ _ _
   | exact LeO.none _
   | refine LeO.ite ?_ ?_
   | refine LeO.bind ?_ (fun _ => ?_)
set_option maxHeartbeats 8000000 in
set_option maxRecDepth 100000 in
theorem laws_FnExactWithout.calls (k : Nat) (a0_0 : Int) (A0_1 : Option Addr) (c0_1 : Nat) (l0_1 : List (S82)) (a1 : Int) (a2 : Int) (r : Bool) (w : World) (hr0_1 : Kd.C k82 w A0_1 l0_1.length l0_1) (hc0_1 : l0_1.length ≤ c0_1) (h : laws_FnExactWithout.f k a0_0 l0_1 a1 a2 = some r) :
  Calls Try.prog 5 #[.agg #[.int .i64 a0_0, .slice A0_1 l0_1.length c0_1], .int .i64 a1, .int .i64 a2] w fun e w' => e = .returned (.bool r) ∧ Below w.heap.size w w' := by
 have hu24 := Try.underlying24
 have hu30 := Try.underlying30
 have HR0_1 := Aside0.mk hr0_1
 have HC0_1 := Aside0.mk hc0_1
 clear hr0_1 hc0_1
 have HB := Aside0.mk (Below.refl w.heap.size w)
 have H : ((laws_szGraph.f a0_0 l0_1 1048576).bind fun t248 => (if t248 < 0 then (some true) else ((laws_toGraph.f k a0_0 l0_1).bind fun bt249 => ((spec_Without.f k bt249.1 bt249.2 a1 a2).bind fun bt253 => ((laws_toGraph.f k a0_0 l0_1).bind fun bt259 => ((impl_Without.f k bt259.1 bt259.2 a1 a2).bind fun bt264 => ((laws_eqGraph.f k bt264.1 bt264.2.1 bt253.1 bt253.2.1).bind fun t270 => (if t270 = true then (laws_FnExactWithout.j0 k a1 a2 bt253.2.2 bt264.2.2 (bt264.2.2 != bt253.2.2) a0_0 l0_1 bt253.1 bt253.2.1 bt259.1 bt259.2 bt264.1 bt264.2.1) else (laws_FnExactWithout.j0 k a1 a2 bt253.2.2 bt264.2.2 true a0_0 l0_1 bt253.1 bt253.2.1 bt259.1 bt259.2 bt264.1 bt264.2.1))))))))) = some r := h
 clear h
 replace H := Option.bind_eq_some_iff.mp H
 obtain ⟨t248, A40, H⟩ := H
 have A4 := Aside0.mk A40
 clear A40
 by_cases c5 : t248 < 0
 ·rw [if_pos c5] at H
  have c5b0 : decide (t248 < 0) = true := decide_eq_true c5
  clear c5
  obtain rfl := Option.some.inj H
  go_enter Try.func5, Try.ntmps5
  go_wp2_with (first | ((with_reducible refine gate_dst (N := 3) rfl ?_); refine box_event ?hg (N := 3) ?hd (cs := #[.int .i64 a0_0, .slice A0_1 l0_1.length c0_1]) (t := 24) ?hr ?_; (case hd => rfl); (case hg => rfl); (case hr => first | (go_simp; done) | (go_simp; rfl)); intro gb247 hg w6 hbox hb; have BK247 := Aside0.mk hbox; have GW247 := ge_ HB hg; have GE247 := ge_ HB hg; replace HB := Aside0.mk (bt_ HB hb); clear hb hbox hg; have hcz7_0 := cz_ BK247 0 (.int .i64 a0_0); have hcz7_1 := cz_ BK247 1 (.slice A0_1 l0_1.length c0_1); have hfz7_0 := blk_frozen BK247.out 0; have hfz7_1 := blk_frozen BK247.out 1) | ((with_reducible refine gate_callee (f := 15) rfl ?_); refine gl_ (some 20) Try.func15 #[.agg #[.int .i64 a0_0, .slice A0_1 l0_1.length c0_1], .int .i64 1048576] ?_; (with_reducible refine (laws_szGraph.calls a0_0 _ _ l0_1 1048576 t248 _ ?side1 ?side2 A4.out).mono ?_); (case side1 => exact cb_ HR0_1 HB); (case side2 => exact HC0_1.out); rintro e w8 ⟨rfl, hb⟩; refine ⟨_, rfl, ?_⟩; replace BK247 := Aside0.mk (bb_ BK247 hb); replace HB := Aside0.mk (bt_ HB hb); (try clear hb); (try clear hb2); (try clear hk); (try clear hi)))
  go_ret
  exact ⟨by first | rfl | (simp [errW_none, errW_some] <;> rfl) | (simp [*, errW_none, errW_some] <;> rfl), by repeat (first | (with_reducible first | exact HB.out | apply below_alloc | apply pw_below_drewN | apply below_drew1 | refine below_set ?_ GE247.out) | exact HB.out)⟩
 ·rw [if_neg c5] at H
  have c5b0 : decide (t248 < 0) = false := decide_eq_false c5
  clear c5
  replace H := Option.bind_eq_some_iff.mp H
  obtain ⟨⟨t249, t250⟩, A90, H⟩ := H
  have A9 := Aside0.mk A90
  clear A90
  replace H := Option.bind_eq_some_iff.mp H
  obtain ⟨⟨t253, t254, t257⟩, A100, H⟩ := H
  have A10 := Aside0.mk A100
  clear A100
  replace H := Option.bind_eq_some_iff.mp H
  obtain ⟨⟨t259, t260⟩, A110, H⟩ := H
  have A11 := Aside0.mk A110
  clear A110
  replace H := Option.bind_eq_some_iff.mp H
  obtain ⟨⟨t264, t265, t268⟩, A120, H⟩ := H
  have A12 := Aside0.mk A120
  clear A120
  have HC13 := Aside0.mk H
  clear H
  go_enter Try.func5, Try.ntmps5
  go_upto_region 8 with (first | ((with_reducible refine gate_dst (N := 3) rfl ?_); refine box_event ?hg (N := 3) ?hd (cs := #[.int .i64 a0_0, .slice A0_1 l0_1.length c0_1]) (t := 24) ?hr ?_; (case hd => rfl); (case hg => rfl); (case hr => first | (go_simp; done) | (go_simp; rfl)); intro gb247 hg w14 hbox hb; have BK247 := Aside0.mk hbox; have GW247 := ge_ HB hg; have GE247 := ge_ HB hg; replace HB := Aside0.mk (bt_ HB hb); clear hb hbox hg; have hcz15_0 := cz_ BK247 0 (.int .i64 a0_0); have hcz15_1 := cz_ BK247 1 (.slice A0_1 l0_1.length c0_1); have hfz15_0 := blk_frozen BK247.out 0; have hfz15_1 := blk_frozen BK247.out 1) | ((with_reducible refine gate_callee (f := 15) rfl ?_); refine gl_ (some 20) Try.func15 #[.agg #[.int .i64 a0_0, .slice A0_1 l0_1.length c0_1], .int .i64 1048576] ?_; (with_reducible refine (laws_szGraph.calls a0_0 _ _ l0_1 1048576 t248 _ ?side1 ?side2 A4.out).mono ?_); (case side1 => exact cb_ HR0_1 HB); (case side2 => exact HC0_1.out); rintro e w16 ⟨rfl, hb⟩; refine ⟨_, rfl, ?_⟩; replace BK247 := Aside0.mk (bb_ BK247 hb); replace HB := Aside0.mk (bt_ HB hb); (try clear hb); (try clear hb2); (try clear hk); (try clear hi); have hcz17_0 := cz_ BK247 0 (.int .i64 a0_0); have hcz17_1 := cz_ BK247 1 (.slice A0_1 l0_1.length c0_1); have hfz17_0 := blk_frozen BK247.out 0; have hfz17_1 := blk_frozen BK247.out 1) | ((with_reducible refine gate_callee (f := 17) rfl ?_); refine gl_ (some 25) Try.func17 #[.agg #[.int .i64 a0_0, .slice A0_1 l0_1.length c0_1]] ?_; (with_reducible refine (laws_toGraph.calls k a0_0 _ _ l0_1 t249 t250 _ ?side1 ?side2 A9.out).mono ?_); (case side1 => exact cb_ HR0_1 HB); (case side2 => exact HC0_1.out); rintro e w18 ⟨v251, rfl, ho0, hb⟩; refine ⟨_, rfl, ?_⟩; have HO252 := Aside0.mk (Kd.R_lower ho0 (bz_ HB)); replace BK247 := Aside0.mk (bb_ BK247 hb); replace HB := Aside0.mk (bt_ HB hb); (try clear hb); (try clear hb2); (try clear hk); (try clear hi); (try clear ho0); obtain ⟨Ao19, co19, eo19⟩ := Kd.R_slice HO252.out; subst eo19) | ((with_reducible refine gate_callee (f := 24) rfl ?_); refine gl_ (some 28) Try.func24 #[.agg #[.int .i64 t249, .slice Ao19 t250.length co19], .int .i64 a1, .int .i64 a2] ?_; (with_reducible refine (spec_Without.calls k t249 _ _ t250 a1 a2 t253 t254 t257 _ ?side1 ?side2 A10.out).mono ?_); (case side1 => exact rc_ HO252); (case side2 => exact (Kd.R_reads' HO252.out).2.1); rintro e w20 ⟨v255, rfl, ho0, hb⟩; refine ⟨_, rfl, ?_⟩; have HO256 := Aside0.mk (Kd.R_lower (Kd.R_new' ho0 (Kd.R_lt (hd_ HO252))) (bz_ HB)); replace HO252 := Aside0.mk (Kd.R_elder' (hd_ HO252) (Kd.R_base ho0) hb); replace BK247 := Aside0.mk (bb_ BK247 hb); replace HB := Aside0.mk (bt_ HB hb); (try clear hb); (try clear hb2); (try clear hk); (try clear hi); (try clear ho0)) | ((with_reducible refine gate_dst (N := 8) rfl ?_); refine box_event ?hg (N := 8) ?hd (cs := #[.int .i64 0, .slice none 0 0]) (t := 30) ?hr ?_; (case hd => rfl); (case hg => rfl); (case hr => first | (go_simp; done) | (go_simp; rfl)); intro gb258 hg w21 hbox hb; have BK258 := Aside0.mk hbox; have GW258 := ge_ HB hg; have GE258 := ge_ HB hg; have NB247_258 := nl_ BK247 hg; have NB258_247 := ng_ BK247 hg; replace HO252 := rb_ HO252 hb; replace HO256 := rb_ HO256 hb; replace HB := Aside0.mk (bt_ HB hb); replace BK247 := Aside0.mk (bb_ BK247 hb); clear hb hbox hg; have hnb22 := NB258_247.out; have hnc22 := NB247_258.out; have hcz23_0 := cz_ BK258 0 (.int .i64 0); have hcz23_1 := cz_ BK258 1 (.slice none 0 0); have hfz23_0 := blk_frozen BK258.out 0; have hfz23_1 := blk_frozen BK258.out 1; obtain ⟨Ao24, co24, eo24⟩ := Kd.R_slice HO256.out; subst eo24; have hcz25_0 := cz_ BK247 0 (.int .i64 a0_0); have hcz25_1 := cz_ BK247 1 (.slice A0_1 l0_1.length c0_1); have hfz25_0 := blk_frozen BK247.out 0; have hfz25_1 := blk_frozen BK247.out 1) | ((with_reducible refine gate_callee (f := 17) rfl ?_); refine gl_ (some 32) Try.func17 #[.agg #[.int .i64 a0_0, .slice A0_1 l0_1.length c0_1]] ?_; (with_reducible refine (laws_toGraph.calls k a0_0 _ _ l0_1 t259 t260 _ ?side1 ?side2 A11.out).mono ?_); (case side1 => exact Kd.C_below HR0_1.out (by repeat (first | (with_reducible first | exact HB.out | apply below_alloc | apply pw_below_drewN | apply below_drew1 | refine below_set ?_ GE247.out | refine below_set ?_ GE258.out) | exact HB.out))); (case side2 => exact HC0_1.out); rintro e w26 ⟨v261, rfl, ho0, hb⟩; refine ⟨_, rfl, ?_⟩; have HO262 := Aside0.mk (Kd.R_lower (Kd.R_new' (Kd.R_new' ho0 (Kd.R_lt (hs_ HO252 BK258))) (Kd.R_lt (hs_ HO256 BK258))) (bz_ HB)); replace HO252 := Aside0.mk (Kd.R_elder' (hs_ HO252 BK258) (Kd.R_base ho0) hb); replace HO256 := Aside0.mk (Kd.R_elder' (hs_ HO256 BK258) (Kd.R_base ho0) hb); replace BK247 := bf_ BK247 NB247_258 hb; replace BK258 := Aside0.mk (blk_below (g := gb258) (o := .cells #[.int .i64 t253, .slice Ao24 t254.length co24] 30 (0, 0)) (by (with_reducible repeat (first | refine blk_drewN ?_ _ | refine blk_drew ?_ | refine blk_alloc ?_ _)); refine blk_put (cs := #[.int .i64 t253, .slice none 0 0]) ?_ 1 _ rfl; (with_reducible repeat (first | refine blk_drewN ?_ _ | refine blk_drew ?_ | refine blk_alloc ?_ _)); refine blk_put (cs := #[.int .i64 0, .slice none 0 0]) ?_ 0 _ rfl; (with_reducible repeat (first | refine blk_drewN ?_ _ | refine blk_drew ?_ | refine blk_alloc ?_ _)); exact BK258.out) hb); replace HB := Aside0.mk (bt_ HB hb); (try clear hb); (try clear hb2); (try clear hk); (try clear hi); (try clear ho0)) | ((with_reducible refine gate_dst (N := 10) rfl ?_); refine box_event ?hg (N := 10) ?hd (cs := #[.int .i64 0, .slice none 0 0]) (t := 30) ?hr ?_; (case hd => rfl); (case hg => rfl); (case hr => first | (go_simp; done) | (go_simp; rfl)); intro gb263 hg w27 hbox hb; have BK263 := Aside0.mk hbox; have GW263 := ge_ HB hg; have GE263 := ge_ HB hg; have NB247_263 := nl_ BK247 hg; have NB263_247 := ng_ BK247 hg; have NB258_263 := nl_ BK258 hg; have NB263_258 := ng_ BK258 hg; replace HO252 := rb_ HO252 hb; replace HO256 := rb_ HO256 hb; replace HO262 := rb_ HO262 hb; replace HB := Aside0.mk (bt_ HB hb); replace BK247 := Aside0.mk (bb_ BK247 hb); replace BK258 := Aside0.mk (bb_ BK258 hb); clear hb hbox hg; have hnb28 := NB263_247.out; have hnc28 := NB247_263.out; have hnb29 := NB263_258.out; have hnc29 := NB258_263.out; have hcz30_0 := cz_ BK263 0 (.int .i64 0); have hcz30_1 := cz_ BK263 1 (.slice none 0 0); have hfz30_0 := blk_frozen BK263.out 0; have hfz30_1 := blk_frozen BK263.out 1; obtain ⟨Ao31, co31, eo31⟩ := Kd.R_slice HO262.out; subst eo31) | ((with_reducible refine gate_callee (f := 25) rfl ?_); refine gl_ (some 37) Try.func25 #[.agg #[.int .i64 t259, .slice Ao31 t260.length co31], .int .i64 a1, .int .i64 a2] ?_; (with_reducible refine (impl_Without.calls k t259 _ _ t260 a1 a2 t264 t265 t268 _ ?side1 ?side2 A12.out).mono ?_); (case side1 => refine (Kd.R_reads' (e := 67) (base := w.heap.size) (ok := fun k_ => ((True ∧ some k_ ≠ (.slice Ao19 t250.length co19 : Value).ownBlock) ∧ some k_ ≠ (.slice Ao24 t254.length co24 : Value).ownBlock)) (n := t260.length) (c := co31) ?_).2.2; exact (hs_ HO262 BK263)); (case side2 => exact (Kd.R_reads' HO262.out).2.1); rintro e w32 ⟨v266, rfl, ho0, hb⟩; refine ⟨_, rfl, ?_⟩; have HO267 := Aside0.mk (Kd.R_lower (Kd.R_new' (Kd.R_new' (Kd.R_new' ho0 (Kd.R_lt (hs_ HO252 BK263))) (Kd.R_lt (hs_ HO256 BK263))) (Kd.R_lt (hs_ HO262 BK263))) (bz_ HB)); replace HO252 := Aside0.mk (Kd.R_elder' (hs_ HO252 BK263) (Kd.R_base ho0) hb); replace HO256 := Aside0.mk (Kd.R_elder' (hs_ HO256 BK263) (Kd.R_base ho0) hb); replace HO262 := Aside0.mk (Kd.R_elder' (hs_ HO262 BK263) (Kd.R_base ho0) hb); replace BK247 := bf_ BK247 NB247_263 hb; replace BK258 := bf_ BK258 NB258_263 hb; replace BK263 := Aside0.mk (blk_below (g := gb263) (o := .cells #[.int .i64 t259, .slice Ao31 t260.length co31] 30 (0, 0)) (by (with_reducible repeat (first | refine blk_drewN ?_ _ | refine blk_drew ?_ | refine blk_alloc ?_ _)); refine blk_put (cs := #[.int .i64 t259, .slice none 0 0]) ?_ 1 _ rfl; (with_reducible repeat (first | refine blk_drewN ?_ _ | refine blk_drew ?_ | refine blk_alloc ?_ _)); refine blk_put (cs := #[.int .i64 0, .slice none 0 0]) ?_ 0 _ rfl; (with_reducible repeat (first | refine blk_drewN ?_ _ | refine blk_drew ?_ | refine blk_alloc ?_ _)); exact BK263.out) hb); replace HB := Aside0.mk (bt_ HB hb); (try clear hb); (try clear hb2); (try clear hk); (try clear hi); (try clear ho0)) | ((with_reducible refine gate_dst (N := 11) rfl ?_); refine box_event ?hg (N := 11) ?hd (cs := #[.int .i64 0, .slice none 0 0]) (t := 30) ?hr ?_; (case hd => rfl); (case hg => rfl); (case hr => first | (go_simp; done) | (go_simp; rfl)); intro gb269 hg w33 hbox hb; have BK269 := Aside0.mk hbox; have GW269 := ge_ HB hg; have GE269 := ge_ HB hg; have NB247_269 := nl_ BK247 hg; have NB269_247 := ng_ BK247 hg; have NB258_269 := nl_ BK258 hg; have NB269_258 := ng_ BK258 hg; have NB263_269 := nl_ BK263 hg; have NB269_263 := ng_ BK263 hg; replace HO252 := rb_ HO252 hb; replace HO256 := rb_ HO256 hb; replace HO262 := rb_ HO262 hb; replace HO267 := rb_ HO267 hb; replace HB := Aside0.mk (bt_ HB hb); replace BK247 := Aside0.mk (bb_ BK247 hb); replace BK258 := Aside0.mk (bb_ BK258 hb); replace BK263 := Aside0.mk (bb_ BK263 hb); clear hb hbox hg; have hnb34 := NB269_247.out; have hnc34 := NB247_269.out; have hnb35 := NB269_258.out; have hnc35 := NB258_269.out; have hnb36 := NB269_263.out; have hnc36 := NB263_269.out; have hcz37_0 := cz_ BK269 0 (.int .i64 0); have hcz37_1 := cz_ BK269 1 (.slice none 0 0); have hfz37_0 := blk_frozen BK269.out 0; have hfz37_1 := blk_frozen BK269.out 1; obtain ⟨Ao38, co38, eo38⟩ := Kd.R_slice HO267.out; subst eo38))
  (try simp only [Act.put, List.setIfInBounds_toArray, List.set_cons_zero, List.set_cons_succ])
  go_cut [48] (fun v48 wc => ∃ (kq : Nat) (x48_12 : Bool), v48 = .bool x48_12 ∧ Aside0 (laws_FnExactWithout.j0 kq a1 a2 t257 t268 x48_12 a0_0 l0_1 t253 t254 t259 t260 t264 t265 = some r) ∧ Aside0 (kq ≤ k) ∧ Aside0 (Kd.R k67 67 wc w.heap.size (fun k_ => some k_ ≠ ((.slice Ao31 t260.length co31) : Value).ownBlock ∧ some k_ ≠ ((.slice Ao38 t265.length co38) : Value).ownBlock) (.slice Ao24 t254.length co24) t254) ∧ Aside0 (Kd.R k67 67 wc w.heap.size (fun k_ => some k_ ≠ ((.slice Ao24 t254.length co24) : Value).ownBlock ∧ some k_ ≠ ((.slice Ao38 t265.length co38) : Value).ownBlock) (.slice Ao31 t260.length co31) t260) ∧ Aside0 (Kd.R k67 67 wc w.heap.size (fun k_ => some k_ ≠ ((.slice Ao24 t254.length co24) : Value).ownBlock ∧ some k_ ≠ ((.slice Ao31 t260.length co31) : Value).ownBlock) (.slice Ao38 t265.length co38) t265) ∧ Aside0 (wc.heap[gb247]? = some (.cells #[.int .i64 a0_0, (.slice A0_1 l0_1.length c0_1)] 24 (0, 0))) ∧ Aside0 (wc.heap[gb258]? = some (.cells #[.int .i64 t253, (.slice Ao24 t254.length co24)] 30 (0, 0))) ∧ Aside0 (wc.heap[gb263]? = some (.cells #[.int .i64 t259, (.slice Ao31 t260.length co31)] 30 (0, 0))) ∧ Aside0 (wc.heap[gb269]? = some (.cells #[.int .i64 t264, (.slice Ao38 t265.length co38)] 30 (0, 0))) ∧ Aside0 (Below w.heap.size w wc))
  case first =>
   have H := HC13.out
   clear HC13
   replace H := Option.bind_eq_some_iff.mp H
   obtain ⟨t270, A390, H⟩ := H
   have A39 := Aside0.mk A390
   clear A390
   by_cases c40 : t270 = true
   ·subst c40
    rw [if_pos rfl] at H
    have H' := Aside0.mk H
    clear H
    have hnb41 := NB269_247.out
    have hnc41 := NB247_269.out
    have hnb42 := NB269_258.out
    have hnc42 := NB258_269.out
    have hnb43 := NB269_263.out
    have hnc43 := NB263_269.out
    have hcz44_0 := cz_ BK269 0 (.int .i64 0)
    have hcz44_1 := cz_ BK269 1 (.slice none 0 0)
    have hfz44_0 := blk_frozen BK269.out 0
    have hfz44_1 := blk_frozen BK269.out 1
    have hnb45 := NB258_247.out
    have hnc45 := NB247_258.out
    have hnb46 := NB258_263.out
    have hnc46 := NB263_258.out
    have hcz47_0 := cz_ BK258 0 (.int .i64 t253)
    have hcz47_1 := cz_ BK258 1 (.slice Ao24 t254.length co24)
    have hfz47_0 := blk_frozen BK258.out 0
    have hfz47_1 := blk_frozen BK258.out 1
    go_wp2_with (first | ((with_reducible refine gate_callee (f := 20) rfl ?_); refine gl_ (some 42) Try.func20 #[.agg #[.int .i64 t264, .slice Ao38 t265.length co38], .agg #[.int .i64 t253, .slice Ao24 t254.length co24]] ?_; (with_reducible refine (laws_eqGraph.calls k t264 _ _ t265 t253 _ _ t254 true _ ?side1 ?side2 ?side3 ?side4 A39.out).mono ?_); (case side1 => refine (Kd.R_reads' (e := 67) (base := w.heap.size) (ok := fun k_ => (((True ∧ some k_ ≠ (.slice Ao19 t250.length co19 : Value).ownBlock) ∧ some k_ ≠ (.slice Ao24 t254.length co24 : Value).ownBlock) ∧ some k_ ≠ (.slice Ao31 t260.length co31 : Value).ownBlock)) (n := t265.length) (c := co38) ?_).2.2; exact (hs_ HO267 BK269)); (case side2 => exact (Kd.R_reads' HO267.out).2.1); (case side3 => refine (Kd.R_reads' (e := 67) (base := w.heap.size) (ok := fun k_ => (((True ∧ some k_ ≠ (.slice Ao19 t250.length co19 : Value).ownBlock) ∧ some k_ ≠ (.slice Ao31 t260.length co31 : Value).ownBlock) ∧ some k_ ≠ (.slice Ao38 t265.length co38 : Value).ownBlock)) (n := t254.length) (c := co24) ?_).2.2; exact (hs_ HO256 BK269)); (case side4 => exact (Kd.R_reads' HO256.out).2.1); rintro e w48 ⟨rfl, hb⟩; refine ⟨_, rfl, ?_⟩; replace HO252 := rs_ HO252 BK269 hb; replace HO256 := rs_ HO256 BK269 hb; replace HO262 := rs_ HO262 BK269 hb; replace HO267 := rs_ HO267 BK269 hb; replace BK247 := bf_ BK247 NB247_269 hb; replace BK258 := bf_ BK258 NB258_269 hb; replace BK263 := bf_ BK263 NB263_269 hb; replace BK269 := Aside0.mk (blk_below (g := gb269) (o := .cells #[.int .i64 t264, .slice Ao38 t265.length co38] 30 (0, 0)) (by (with_reducible repeat (first | refine blk_drewN ?_ _ | refine blk_drew ?_ | refine blk_alloc ?_ _)); refine blk_put (cs := #[.int .i64 t264, .slice none 0 0]) ?_ 1 _ rfl; (with_reducible repeat (first | refine blk_drewN ?_ _ | refine blk_drew ?_ | refine blk_alloc ?_ _)); refine blk_put (cs := #[.int .i64 0, .slice none 0 0]) ?_ 0 _ rfl; (with_reducible repeat (first | refine blk_drewN ?_ _ | refine blk_drew ?_ | refine blk_alloc ?_ _)); exact BK269.out) hb); replace HB := Aside0.mk (bt_ HB hb); (try clear hb); (try clear hb2); (try clear hk); (try clear hi)))
    go_meet
    case rel => exact ⟨_, ((t268 != t257)), (by first | rfl | (simp; done) | (simp [*]; done)), H', ⟨by first | omega | exact Nat.le_refl _⟩, ⟨by (with_reducible repeat (first | apply Kd.R_alloc | apply Kd.R_drewN | apply Kd.R_drew)); exact Kd.R_mono HO256.out (fun _ hk => by first | exact ⟨hk.1.2, hk.2⟩ | grind)⟩, ⟨by (with_reducible repeat (first | apply Kd.R_alloc | apply Kd.R_drewN | apply Kd.R_drew)); exact Kd.R_mono HO262.out (fun _ hk => by first | exact ⟨hk.1.2, hk.2⟩ | grind)⟩, ⟨by (with_reducible repeat (first | apply Kd.R_alloc | apply Kd.R_drewN | apply Kd.R_drew)); exact Kd.R_mono HO267.out (fun _ hk => by first | exact ⟨hk.1.2, hk.2⟩ | grind)⟩, ⟨by (with_reducible repeat (first | refine blk_drewN ?_ _ | refine blk_drew ?_ | refine blk_alloc ?_ _)); exact BK247.out⟩, ⟨by (with_reducible repeat (first | refine blk_drewN ?_ _ | refine blk_drew ?_ | refine blk_alloc ?_ _)); exact BK258.out⟩, ⟨by (with_reducible repeat (first | refine blk_drewN ?_ _ | refine blk_drew ?_ | refine blk_alloc ?_ _)); exact BK263.out⟩, ⟨by (with_reducible repeat (first | refine blk_drewN ?_ _ | refine blk_drew ?_ | refine blk_alloc ?_ _)); exact BK269.out⟩, ⟨by repeat (first | (with_reducible first | exact HB.out | apply below_alloc | apply pw_below_drewN | apply below_drew1 | refine below_set ?_ GE247.out | refine below_set ?_ GE258.out | refine below_set ?_ GE263.out | refine below_set ?_ GE269.out) | exact HB.out)⟩⟩
   ·replace c40 := Bool.eq_false_iff.mpr c40
    subst c40
    rw [if_neg (show ¬ (false = true) by decide)] at H
    have H' := Aside0.mk H
    clear H
    have hnb49 := NB269_247.out
    have hnc49 := NB247_269.out
    have hnb50 := NB269_258.out
    have hnc50 := NB258_269.out
    have hnb51 := NB269_263.out
    have hnc51 := NB263_269.out
    have hcz52_0 := cz_ BK269 0 (.int .i64 0)
    have hcz52_1 := cz_ BK269 1 (.slice none 0 0)
    have hfz52_0 := blk_frozen BK269.out 0
    have hfz52_1 := blk_frozen BK269.out 1
    have hnb53 := NB258_247.out
    have hnc53 := NB247_258.out
    have hnb54 := NB258_263.out
    have hnc54 := NB263_258.out
    have hcz55_0 := cz_ BK258 0 (.int .i64 t253)
    have hcz55_1 := cz_ BK258 1 (.slice Ao24 t254.length co24)
    have hfz55_0 := blk_frozen BK258.out 0
    have hfz55_1 := blk_frozen BK258.out 1
    go_wp2_with (first | ((with_reducible refine gate_callee (f := 20) rfl ?_); refine gl_ (some 42) Try.func20 #[.agg #[.int .i64 t264, .slice Ao38 t265.length co38], .agg #[.int .i64 t253, .slice Ao24 t254.length co24]] ?_; (with_reducible refine (laws_eqGraph.calls k t264 _ _ t265 t253 _ _ t254 false _ ?side1 ?side2 ?side3 ?side4 A39.out).mono ?_); (case side1 => refine (Kd.R_reads' (e := 67) (base := w.heap.size) (ok := fun k_ => (((True ∧ some k_ ≠ (.slice Ao19 t250.length co19 : Value).ownBlock) ∧ some k_ ≠ (.slice Ao24 t254.length co24 : Value).ownBlock) ∧ some k_ ≠ (.slice Ao31 t260.length co31 : Value).ownBlock)) (n := t265.length) (c := co38) ?_).2.2; exact (hs_ HO267 BK269)); (case side2 => exact (Kd.R_reads' HO267.out).2.1); (case side3 => refine (Kd.R_reads' (e := 67) (base := w.heap.size) (ok := fun k_ => (((True ∧ some k_ ≠ (.slice Ao19 t250.length co19 : Value).ownBlock) ∧ some k_ ≠ (.slice Ao31 t260.length co31 : Value).ownBlock) ∧ some k_ ≠ (.slice Ao38 t265.length co38 : Value).ownBlock)) (n := t254.length) (c := co24) ?_).2.2; exact (hs_ HO256 BK269)); (case side4 => exact (Kd.R_reads' HO256.out).2.1); rintro e w56 ⟨rfl, hb⟩; refine ⟨_, rfl, ?_⟩; replace HO252 := rs_ HO252 BK269 hb; replace HO256 := rs_ HO256 BK269 hb; replace HO262 := rs_ HO262 BK269 hb; replace HO267 := rs_ HO267 BK269 hb; replace BK247 := bf_ BK247 NB247_269 hb; replace BK258 := bf_ BK258 NB258_269 hb; replace BK263 := bf_ BK263 NB263_269 hb; replace BK269 := Aside0.mk (blk_below (g := gb269) (o := .cells #[.int .i64 t264, .slice Ao38 t265.length co38] 30 (0, 0)) (by (with_reducible repeat (first | refine blk_drewN ?_ _ | refine blk_drew ?_ | refine blk_alloc ?_ _)); refine blk_put (cs := #[.int .i64 t264, .slice none 0 0]) ?_ 1 _ rfl; (with_reducible repeat (first | refine blk_drewN ?_ _ | refine blk_drew ?_ | refine blk_alloc ?_ _)); refine blk_put (cs := #[.int .i64 0, .slice none 0 0]) ?_ 0 _ rfl; (with_reducible repeat (first | refine blk_drewN ?_ _ | refine blk_drew ?_ | refine blk_alloc ?_ _)); exact BK269.out) hb); replace HB := Aside0.mk (bt_ HB hb); (try clear hb); (try clear hb2); (try clear hk); (try clear hi)))
    go_meet
    case rel => exact ⟨_, (true), (by first | rfl | (simp; done) | (simp [*]; done)), H', ⟨by first | omega | exact Nat.le_refl _⟩, ⟨by (with_reducible repeat (first | apply Kd.R_alloc | apply Kd.R_drewN | apply Kd.R_drew)); exact Kd.R_mono HO256.out (fun _ hk => by first | exact ⟨hk.1.2, hk.2⟩ | grind)⟩, ⟨by (with_reducible repeat (first | apply Kd.R_alloc | apply Kd.R_drewN | apply Kd.R_drew)); exact Kd.R_mono HO262.out (fun _ hk => by first | exact ⟨hk.1.2, hk.2⟩ | grind)⟩, ⟨by (with_reducible repeat (first | apply Kd.R_alloc | apply Kd.R_drewN | apply Kd.R_drew)); exact Kd.R_mono HO267.out (fun _ hk => by first | exact ⟨hk.1.2, hk.2⟩ | grind)⟩, ⟨by (with_reducible repeat (first | refine blk_drewN ?_ _ | refine blk_drew ?_ | refine blk_alloc ?_ _)); exact BK247.out⟩, ⟨by (with_reducible repeat (first | refine blk_drewN ?_ _ | refine blk_drew ?_ | refine blk_alloc ?_ _)); exact BK258.out⟩, ⟨by (with_reducible repeat (first | refine blk_drewN ?_ _ | refine blk_drew ?_ | refine blk_alloc ?_ _)); exact BK263.out⟩, ⟨by (with_reducible repeat (first | refine blk_drewN ?_ _ | refine blk_drew ?_ | refine blk_alloc ?_ _)); exact BK269.out⟩, ⟨by repeat (first | (with_reducible first | exact HB.out | apply below_alloc | apply pw_below_drewN | apply below_drew1 | refine below_set ?_ GE247.out | refine below_set ?_ GE258.out | refine below_set ?_ GE263.out | refine below_set ?_ GE269.out) | exact HB.out)⟩⟩
  case rest =>
   clear HC13
   try clear c1
   try clear c2
   try clear p2
   try clear c3
   try clear c4
   try clear c5
   try clear c5b0
   try clear c15
   try clear c17
   try clear c20
   try clear c22
   try clear c24
   try clear c25
   try clear c28
   try clear c29
   try clear c34
   try clear c35
   try clear c36
   try clear c40
   try clear c41
   try clear c42
   try clear c43
   try clear c45
   try clear c46
   try clear c49
   try clear c50
   try clear c51
   try clear c53
   try clear c54
   try clear hcz15_0
   try clear hcz15_1
   try clear hcz17_0
   try clear hcz17_1
   try clear hcz23_0
   try clear hcz23_1
   try clear hcz25_0
   try clear hcz25_1
   try clear hcz30_0
   try clear hcz30_1
   try clear hcz37_0
   try clear hcz37_1
   try clear hcz44_0
   try clear hcz44_1
   try clear hcz47_0
   try clear hcz47_1
   try clear hcz52_0
   try clear hcz52_1
   try clear hcz55_0
   try clear hcz55_1
   try clear hcz7_0
   try clear hcz7_1
   try clear hfz15_0
   try clear hfz15_1
   try clear hfz17_0
   try clear hfz17_1
   try clear hfz23_0
   try clear hfz23_1
   try clear hfz25_0
   try clear hfz25_1
   try clear hfz30_0
   try clear hfz30_1
   try clear hfz37_0
   try clear hfz37_1
   try clear hfz44_0
   try clear hfz44_1
   try clear hfz47_0
   try clear hfz47_1
   try clear hfz52_0
   try clear hfz52_1
   try clear hfz55_0
   try clear hfz55_1
   try clear hfz7_0
   try clear hfz7_1
   obtain ⟨kq, x48_12, rfl, HA, HJ12, HO_259001, HO_264001, HO_270001, BK247, BK258, BK263, BK269, HB⟩ := hcut
   cases kq with
   | zero => exact absurd HA.out (by simp [laws_FnExactWithout.j0])
   | succ kj12 =>
    have H := HA.out
    clear HA
    simp only [laws_FnExactWithout.j0] at H
    by_cases c57 : x48_12 = true
    ·subst c57
     rw [if_pos rfl] at H
     obtain rfl := Option.some.inj H
     go_wp2
     go_ret
     exact ⟨by first | rfl | (simp [errW_none, errW_some] <;> rfl) | (simp [*, errW_none, errW_some] <;> rfl), by repeat (first | (with_reducible first | exact HB.out | apply below_alloc | apply pw_below_drewN | apply below_drew1 | refine below_set ?_ GE247.out | refine below_set ?_ GE258.out | refine below_set ?_ GE263.out | refine below_set ?_ GE269.out) | exact HB.out)⟩
    ·replace c57 := Bool.eq_false_iff.mpr c57
     subst c57
     rw [if_neg (show ¬ (false = true) by decide)] at H
     replace H := Option.bind_eq_some_iff.mp H
     obtain ⟨⟨t271, t272⟩, A580, H⟩ := H
     have A58 := Aside0.mk A580
     clear A580
     replace H := Option.bind_eq_some_iff.mp H
     obtain ⟨t275, A590, H⟩ := H
     have A59 := Aside0.mk A590
     clear A590
     by_cases c60 : t275 = true
     ·subst c60
      rw [if_pos rfl] at H
      replace H := Option.bind_eq_some_iff.mp H
      obtain ⟨⟨t276, t277⟩, A610, H⟩ := H
      have A61 := Aside0.mk A610
      clear A610
      have HC62 := Aside0.mk H
      clear H
      try go_wp2
      replace HO_259001 := Aside0.mk (Kd.R_drew HO_259001.out)
      replace HO_264001 := Aside0.mk (Kd.R_drew HO_264001.out)
      replace HO_270001 := Aside0.mk (Kd.R_drew HO_270001.out)
      replace BK247 := Aside0.mk (blk_drew BK247.out)
      replace BK258 := Aside0.mk (blk_drew BK258.out)
      replace BK263 := Aside0.mk (blk_drew BK263.out)
      replace BK269 := Aside0.mk (blk_drew BK269.out)
      replace HB := Aside0.mk (below_drew1 HB.out)
      refine start_ (n := 5) (S := fun w' => w'.cell? ⟨gb263, 0, none⟩ = some (.int .i64 t259) ∧ w'.cell? ⟨gb263, 1, none⟩ = some (.slice Ao31 t260.length co31) ∧ w'.cell? ⟨gb247, 0, none⟩ = some (.int .i64 a0_0) ∧ w'.cell? ⟨gb247, 1, none⟩ = some (.slice A0_1 l0_1.length c0_1)) (ds := []) ba7_0 (by kernel_rfl) rfl rfl ⟨(blk_cell BK263.out 0).trans rfl, (blk_cell BK263.out 1).trans rfl, (blk_cell BK247.out 0).trans rfl, (blk_cell BK247.out 1).trans rfl⟩ (fun hHeld => ?_)
      generalize wc.drew = w63 at HO_259001 HO_264001 HO_270001 BK247 BK258 BK263 BK269 HB hHeld ⊢
      refine take_ (i := 0) (N := some 49) (v := ?_) (a' := ?_) ba7_1 rfl rfl (by kernel_rfl) (fun _ _ _ h => h) (Or.inl ⟨by rfl, ?_⟩) hHeld ?_ ?_
      rotate_left; · rintro w' ⟨s0, s1, s2, s3⟩; go_simp; with_reducible rfl
      rotate_left; · simp only [Act.put, List.setIfInBounds_toArray, List.set_cons_zero, List.set_cons_succ, i64_w, i32_w]; rfl
      refine take_ (i := 1) (N := some 50) (v := ?_) (a' := ?_) ba7_2 rfl rfl (by kernel_rfl) (fun _ _ _ h => h) (Or.inl ⟨by rfl, ?_⟩) hHeld ?_ ?_
      rotate_left; · rintro w' ⟨s0, s1, s2, s3⟩; go_simp; with_reducible rfl
      rotate_left; · simp only [Act.put, List.setIfInBounds_toArray, List.set_cons_zero, List.set_cons_succ, i64_w, i32_w]; rfl
      refine one_ (i := 2) (N := some 51) ba7_3 rfl rfl (by kernel_rfl) (by decide) (fun K hK => ?_)
      refine gz_ Try.func17 #[.agg #[.int .i64 a0_0, .slice A0_1 l0_1.length c0_1]] ?_
      with_reducible refine (laws_toGraph.calls kj12 a0_0 _ _ l0_1 t271 t272 _ ?side1 ?side2 A58.out).mono ?_
      (case side1 => exact cb_ HR0_1 HB)
      (case side2 => exact HC0_1.out)
      rintro e w64 ⟨v273, rfl, ho0, hb⟩
      refine ⟨_, rfl, ?_⟩
      have HO274 := Aside0.mk (Kd.R_lower (Kd.R_new' (Kd.R_new' (Kd.R_new' ho0 (Kd.R_lt (hd_ HO_259001))) (Kd.R_lt (hd_ HO_264001))) (Kd.R_lt (hd_ HO_270001))) (bz_ HB))
      replace HO_259001 := Aside0.mk (Kd.R_elder' (hd_ HO_259001) (Kd.R_base ho0) hb)
      replace HO_264001 := Aside0.mk (Kd.R_elder' (hd_ HO_264001) (Kd.R_base ho0) hb)
      replace HO_270001 := Aside0.mk (Kd.R_elder' (hd_ HO_270001) (Kd.R_base ho0) hb)
      replace BK247 := Aside0.mk (bb_ BK247 hb)
      replace BK258 := Aside0.mk (bb_ BK258 hb)
      replace BK263 := Aside0.mk (bb_ BK263 hb)
      replace BK269 := Aside0.mk (bb_ BK269 hb)
      replace HB := Aside0.mk (bt_ HB hb)
      (try clear hb)
      (try clear hb2)
      (try clear hk)
      (try clear hi)
      (try clear ho0)
      obtain ⟨Ao65, co65, eo65⟩ := Kd.R_slice HO274.out
      (first | subst eo65 | (injection eo65 with f1_ f2_ f3_; have f4_ := f1_.symm; have f5_ := f3_.symm; clear f1_ f2_ f3_; subst f4_; subst f5_))
      refine hK.out _ _ ⟨(blk_cell BK263.out 0).trans rfl, (blk_cell BK263.out 1).trans rfl, (blk_cell BK247.out 0).trans rfl, (blk_cell BK247.out 1).trans rfl⟩ (fun hHeld => ?_)
      clear hK K
      refine nz_ 51 ?_
      refine one_ (i := 3) (N := some 52) ba7_4 rfl rfl (by kernel_rfl) (by decide) (fun K hK => ?_)
      refine gz_ Try.func20 #[.agg #[.int .i64 t259, .slice Ao31 t260.length co31], .agg #[.int .i64 t271, .slice Ao65 t272.length co65]] ?_
      with_reducible refine (laws_eqGraph.calls kj12 t259 _ _ t260 t271 _ _ t272 true _ ?side1 ?side2 ?side3 ?side4 A59.out).mono ?_
      (case side1 => exact rc_ HO_264001)
      (case side2 => exact (Kd.R_reads' HO_264001.out).2.1)
      (case side3 => exact rc_ HO274)
      (case side4 => exact (Kd.R_reads' HO274.out).2.1)
      rintro e w66 ⟨rfl, hb⟩
      refine ⟨_, rfl, ?_⟩
      replace HO_259001 := rb_ HO_259001 hb
      replace HO_264001 := rb_ HO_264001 hb
      replace HO_270001 := rb_ HO_270001 hb
      replace HO274 := rb_ HO274 hb
      replace BK247 := Aside0.mk (bb_ BK247 hb)
      replace BK258 := Aside0.mk (bb_ BK258 hb)
      replace BK263 := Aside0.mk (bb_ BK263 hb)
      replace BK269 := Aside0.mk (bb_ BK269 hb)
      replace HB := Aside0.mk (bt_ HB hb)
      (try clear hb)
      (try clear hb2)
      (try clear hk)
      (try clear hi)
      refine hK.out _ _ ⟨(blk_cell BK263.out 0).trans rfl, (blk_cell BK263.out 1).trans rfl, (blk_cell BK247.out 0).trans rfl, (blk_cell BK247.out 1).trans rfl⟩ (fun hHeld => ?_)
      clear hK K
      refine nz_ 52 ?_
      refine pure_ (i := 4) (N := some 53) (v := ?_) (a' := ?_) ba7_5 rfl rfl (by kernel_rfl) (fun _ _ _ h => h) (Or.inl ⟨by rfl, ?_⟩) ?_ ?_
      rotate_left; · intro w'; go_simp; with_reducible rfl
      rotate_left; · simp only [Act.put, List.setIfInBounds_toArray, List.set_cons_zero, List.set_cons_succ, i64_w, i32_w]; rfl
      refine done_ (by kernel_rfl) ?_
      have hnb67 := NB263_247.out
      have hnc67 := NB247_263.out
      have hnb68 := NB263_258.out
      have hnc68 := NB258_263.out
      have hnb69 := NB263_269.out
      have hnc69 := NB269_263.out
      have hcz70_0 := cz_ BK263 0 (.int .i64 t259)
      have hcz70_1 := cz_ BK263 1 (.slice Ao31 t260.length co31)
      have hfz70_0 := blk_frozen BK263.out 0
      have hfz70_1 := blk_frozen BK263.out 1
      go_upto_region 14 with (first | ((with_reducible refine gate_callee (f := 26) rfl ?_); refine gl_ (some 56) Try.func26 #[.agg #[.int .i64 t259, .slice Ao31 t260.length co31], .int .i64 1] ?_; (with_reducible refine (laws_markGraph.calls kj12 t259 (fun k_ => some k_ = (.slice Ao31 t260.length co31 : Value).ownBlock) (.slice Ao31 t260.length co31) t260 1 t276 t277 w _ ?side1 ?side2 A61.out).mono ?_); (case side1 => exact by_ HB); (case side2 => exact Kd.R_tight rfl HO_264001.out); rintro e w71 ⟨rfl, hy0, hb, hkp⟩; refine ⟨_, rfl, ?_⟩; replace HO_259001 := kp_ (fun k_ => some k_ ≠ (.slice Ao31 t260.length co31 : Value).ownBlock ∧ some k_ ≠ (.slice Ao38 t265.length co38 : Value).ownBlock ∧ some k_ ≠ (.slice Ao65 t272.length co65 : Value).ownBlock) (HO_259001.out) hkp; replace HO_270001 := kp_ (fun k_ => some k_ ≠ (.slice Ao24 t254.length co24 : Value).ownBlock ∧ some k_ ≠ (.slice Ao31 t260.length co31 : Value).ownBlock ∧ some k_ ≠ (.slice Ao65 t272.length co65 : Value).ownBlock) (HO_270001.out) hkp; replace BK247 := bk_ BK247 hkp (fun hs_ => (Kd.R_ne HO_264001.out BK247.out (by decide)) hs_); replace BK258 := bk_ BK258 hkp (fun hs_ => (Kd.R_ne HO_264001.out BK258.out (by decide)) hs_); replace BK263 := bk_ BK263 hkp (fun hs_ => (Kd.R_ne HO_264001.out BK263.out (by decide)) hs_); replace BK269 := bk_ BK269 hkp (fun hs_ => (Kd.R_ne HO_264001.out BK269.out (by decide)) hs_); replace HO_264001 := Aside0.mk (Kd.R_reok rfl hy0 (fun k_ e_ => HO_264001.out.1 k_ e_)); replace HO274 := kp_ (fun k_ => some k_ ≠ (.slice Ao24 t254.length co24 : Value).ownBlock ∧ some k_ ≠ (.slice Ao31 t260.length co31 : Value).ownBlock ∧ some k_ ≠ (.slice Ao38 t265.length co38 : Value).ownBlock) (HO274.out) hkp; replace HB := Aside0.mk (hb); (try clear hb); (try clear hkp); (try clear hy0)))
      (try simp only [Act.put, List.setIfInBounds_toArray, List.set_cons_zero, List.set_cons_succ])
      go_cut [69] (fun v69 wc => ∃ (kq : Nat) (x69_61 : Bool), v69 = .bool x69_61 ∧ Aside0 (laws_FnExactWithout.j1 kq a1 a2 t257 x69_61 a0_0 l0_1 t253 t254 t264 t265 = some r) ∧ Aside0 (kq ≤ kj12) ∧ Aside0 (Kd.R k67 67 wc w.heap.size (fun k_ => some k_ ≠ ((.slice Ao31 t260.length co31) : Value).ownBlock ∧ some k_ ≠ ((.slice Ao38 t265.length co38) : Value).ownBlock) (.slice Ao24 t254.length co24) t254) ∧ Aside0 (Kd.R k67 67 wc w.heap.size (fun k_ => some k_ ≠ ((.slice Ao24 t254.length co24) : Value).ownBlock ∧ some k_ ≠ ((.slice Ao38 t265.length co38) : Value).ownBlock) (.slice Ao31 t260.length co31) t277) ∧ Aside0 (Kd.R k67 67 wc w.heap.size (fun k_ => some k_ ≠ ((.slice Ao24 t254.length co24) : Value).ownBlock ∧ some k_ ≠ ((.slice Ao31 t260.length co31) : Value).ownBlock) (.slice Ao38 t265.length co38) t265) ∧ Aside0 (wc.heap[gb247]? = some (.cells #[.int .i64 a0_0, (.slice A0_1 l0_1.length c0_1)] 24 (0, 0))) ∧ Aside0 (wc.heap[gb258]? = some (.cells #[.int .i64 t253, (.slice Ao24 t254.length co24)] 30 (0, 0))) ∧ Aside0 (wc.heap[gb263]? = some (.cells #[.int .i64 t259, (.slice Ao31 t260.length co31)] 30 (0, 0))) ∧ Aside0 (wc.heap[gb269]? = some (.cells #[.int .i64 t264, (.slice Ao38 t265.length co38)] 30 (0, 0))) ∧ Aside0 (Below w.heap.size w wc))
      case first =>
       have H := HC62.out
       clear HC62
       by_cases c72 : t276 < 0
       ·rw [if_pos c72] at H
        have c72b0 : decide (t276 < 0) = true := decide_eq_true c72
        clear c72
        (first | rw [c72b0] | (simp only [i64_w, i32_w]; rw [c72b0]) | skip)
        have H' := Aside0.mk H
        clear H
        go_wp2
        go_meet
        case rel => exact ⟨_, (true), (by first | rfl | (simp; done) | (simp [*]; done)), H', ⟨by have := HJ12.out; first | omega | exact Nat.le_refl _⟩, ⟨by (with_reducible repeat (first | apply Kd.R_alloc | apply Kd.R_drewN | apply Kd.R_drew)); exact Kd.R_mono HO_259001.out (fun _ hk => by first | exact ⟨hk.1, hk.2.1⟩ | grind)⟩, ⟨by (with_reducible repeat (first | apply Kd.R_alloc | apply Kd.R_drewN | apply Kd.R_drew)); exact Kd.R_mono HO_264001.out (fun _ hk => by first | exact ⟨hk.1.1, hk.1.2⟩ | grind)⟩, ⟨by (with_reducible repeat (first | apply Kd.R_alloc | apply Kd.R_drewN | apply Kd.R_drew)); exact Kd.R_mono HO_270001.out (fun _ hk => by first | exact ⟨hk.1, hk.2.1⟩ | grind)⟩, ⟨by (with_reducible repeat (first | refine blk_drewN ?_ _ | refine blk_drew ?_ | refine blk_alloc ?_ _)); exact BK247.out⟩, ⟨by (with_reducible repeat (first | refine blk_drewN ?_ _ | refine blk_drew ?_ | refine blk_alloc ?_ _)); exact BK258.out⟩, ⟨by (with_reducible repeat (first | refine blk_drewN ?_ _ | refine blk_drew ?_ | refine blk_alloc ?_ _)); exact BK263.out⟩, ⟨by (with_reducible repeat (first | refine blk_drewN ?_ _ | refine blk_drew ?_ | refine blk_alloc ?_ _)); exact BK269.out⟩, ⟨by repeat (first | (with_reducible first | exact HB.out | apply below_alloc | apply pw_below_drewN | apply below_drew1 | refine below_set ?_ GE247.out | refine below_set ?_ GE258.out | refine below_set ?_ GE263.out | refine below_set ?_ GE269.out) | exact HB.out)⟩⟩
       ·rw [if_neg c72] at H
        have c72b0 : decide (t276 < 0) = false := decide_eq_false c72
        clear c72
        (first | rw [c72b0] | (simp only [i64_w, i32_w]; rw [c72b0]) | skip)
        replace H := Option.bind_eq_some_iff.mp H
        obtain ⟨t278, A730, H⟩ := H
        have A73 := Aside0.mk A730
        clear A730
        by_cases c74 : t278 = true
        ·subst c74
         rw [if_pos rfl] at H
         have H' := Aside0.mk H
         clear H
         have hnb75 := NB269_247.out
         have hnc75 := NB247_269.out
         have hnb76 := NB269_258.out
         have hnc76 := NB258_269.out
         have hnb77 := NB269_263.out
         have hnc77 := NB263_269.out
         have hcz78_0 := cz_ BK269 0 (.int .i64 t264)
         have hcz78_1 := cz_ BK269 1 (.slice Ao38 t265.length co38)
         have hfz78_0 := blk_frozen BK269.out 0
         have hfz78_1 := blk_frozen BK269.out 1
         have hnb79 := NB258_247.out
         have hnc79 := NB247_258.out
         have hnb80 := NB258_263.out
         have hnc80 := NB263_258.out
         have hcz81_0 := cz_ BK258 0 (.int .i64 t253)
         have hcz81_1 := cz_ BK258 1 (.slice Ao24 t254.length co24)
         have hfz81_0 := blk_frozen BK258.out 0
         have hfz81_1 := blk_frozen BK258.out 1
         go_wp2_with (first | (go_at_call 20; (with_reducible refine (laws_eqGraph.calls kj12 t264 _ _ t265 t253 _ _ t254 true _ ?side1 ?side2 ?side3 ?side4 A73.out).mono ?_); (case side1 => exact rc_ HO_270001); (case side2 => exact (Kd.R_reads' HO_270001.out).2.1); (case side3 => exact rc_ HO_259001); (case side4 => exact (Kd.R_reads' HO_259001.out).2.1); rintro e w82 ⟨rfl, hb⟩; replace HO_259001 := rb_ HO_259001 hb; replace HO_264001 := rb_ HO_264001 hb; replace HO_270001 := rb_ HO_270001 hb; replace HO274 := rb_ HO274 hb; replace BK247 := Aside0.mk (bb_ BK247 hb); replace BK258 := Aside0.mk (bb_ BK258 hb); replace BK263 := Aside0.mk (bb_ BK263 hb); replace BK269 := Aside0.mk (bb_ BK269 hb); replace HB := Aside0.mk (bt_ HB hb); (try clear hb); (try clear hb2); (try clear hk); (try clear hi)))
         go_meet
         case rel => exact ⟨_, ((t268 != t257)), (by first | rfl | (simp; done) | (simp [*]; done)), H', ⟨by have := HJ12.out; first | omega | exact Nat.le_refl _⟩, ⟨by (with_reducible repeat (first | apply Kd.R_alloc | apply Kd.R_drewN | apply Kd.R_drew)); exact Kd.R_mono HO_259001.out (fun _ hk => by first | exact ⟨hk.1, hk.2.1⟩ | grind)⟩, ⟨by (with_reducible repeat (first | apply Kd.R_alloc | apply Kd.R_drewN | apply Kd.R_drew)); exact Kd.R_mono HO_264001.out (fun _ hk => by first | exact ⟨hk.1.1, hk.1.2⟩ | grind)⟩, ⟨by (with_reducible repeat (first | apply Kd.R_alloc | apply Kd.R_drewN | apply Kd.R_drew)); exact Kd.R_mono HO_270001.out (fun _ hk => by first | exact ⟨hk.1, hk.2.1⟩ | grind)⟩, ⟨by (with_reducible repeat (first | refine blk_drewN ?_ _ | refine blk_drew ?_ | refine blk_alloc ?_ _)); exact BK247.out⟩, ⟨by (with_reducible repeat (first | refine blk_drewN ?_ _ | refine blk_drew ?_ | refine blk_alloc ?_ _)); exact BK258.out⟩, ⟨by (with_reducible repeat (first | refine blk_drewN ?_ _ | refine blk_drew ?_ | refine blk_alloc ?_ _)); exact BK263.out⟩, ⟨by (with_reducible repeat (first | refine blk_drewN ?_ _ | refine blk_drew ?_ | refine blk_alloc ?_ _)); exact BK269.out⟩, ⟨by repeat (first | (with_reducible first | exact HB.out | apply below_alloc | apply pw_below_drewN | apply below_drew1 | refine below_set ?_ GE247.out | refine below_set ?_ GE258.out | refine below_set ?_ GE263.out | refine below_set ?_ GE269.out) | exact HB.out)⟩⟩
        ·replace c74 := Bool.eq_false_iff.mpr c74
         subst c74
         rw [if_neg (show ¬ (false = true) by decide)] at H
         have H' := Aside0.mk H
         clear H
         have hnb83 := NB269_247.out
         have hnc83 := NB247_269.out
         have hnb84 := NB269_258.out
         have hnc84 := NB258_269.out
         have hnb85 := NB269_263.out
         have hnc85 := NB263_269.out
         have hcz86_0 := cz_ BK269 0 (.int .i64 t264)
         have hcz86_1 := cz_ BK269 1 (.slice Ao38 t265.length co38)
         have hfz86_0 := blk_frozen BK269.out 0
         have hfz86_1 := blk_frozen BK269.out 1
         have hnb87 := NB258_247.out
         have hnc87 := NB247_258.out
         have hnb88 := NB258_263.out
         have hnc88 := NB263_258.out
         have hcz89_0 := cz_ BK258 0 (.int .i64 t253)
         have hcz89_1 := cz_ BK258 1 (.slice Ao24 t254.length co24)
         have hfz89_0 := blk_frozen BK258.out 0
         have hfz89_1 := blk_frozen BK258.out 1
         go_wp2_with (first | (go_at_call 20; (with_reducible refine (laws_eqGraph.calls kj12 t264 _ _ t265 t253 _ _ t254 false _ ?side1 ?side2 ?side3 ?side4 A73.out).mono ?_); (case side1 => exact rc_ HO_270001); (case side2 => exact (Kd.R_reads' HO_270001.out).2.1); (case side3 => exact rc_ HO_259001); (case side4 => exact (Kd.R_reads' HO_259001.out).2.1); rintro e w90 ⟨rfl, hb⟩; replace HO_259001 := rb_ HO_259001 hb; replace HO_264001 := rb_ HO_264001 hb; replace HO_270001 := rb_ HO_270001 hb; replace HO274 := rb_ HO274 hb; replace BK247 := Aside0.mk (bb_ BK247 hb); replace BK258 := Aside0.mk (bb_ BK258 hb); replace BK263 := Aside0.mk (bb_ BK263 hb); replace BK269 := Aside0.mk (bb_ BK269 hb); replace HB := Aside0.mk (bt_ HB hb); (try clear hb); (try clear hb2); (try clear hk); (try clear hi)))
         go_meet
         case rel => exact ⟨_, (true), (by first | rfl | (simp; done) | (simp [*]; done)), H', ⟨by have := HJ12.out; first | omega | exact Nat.le_refl _⟩, ⟨by (with_reducible repeat (first | apply Kd.R_alloc | apply Kd.R_drewN | apply Kd.R_drew)); exact Kd.R_mono HO_259001.out (fun _ hk => by first | exact ⟨hk.1, hk.2.1⟩ | grind)⟩, ⟨by (with_reducible repeat (first | apply Kd.R_alloc | apply Kd.R_drewN | apply Kd.R_drew)); exact Kd.R_mono HO_264001.out (fun _ hk => by first | exact ⟨hk.1.1, hk.1.2⟩ | grind)⟩, ⟨by (with_reducible repeat (first | apply Kd.R_alloc | apply Kd.R_drewN | apply Kd.R_drew)); exact Kd.R_mono HO_270001.out (fun _ hk => by first | exact ⟨hk.1, hk.2.1⟩ | grind)⟩, ⟨by (with_reducible repeat (first | refine blk_drewN ?_ _ | refine blk_drew ?_ | refine blk_alloc ?_ _)); exact BK247.out⟩, ⟨by (with_reducible repeat (first | refine blk_drewN ?_ _ | refine blk_drew ?_ | refine blk_alloc ?_ _)); exact BK258.out⟩, ⟨by (with_reducible repeat (first | refine blk_drewN ?_ _ | refine blk_drew ?_ | refine blk_alloc ?_ _)); exact BK263.out⟩, ⟨by (with_reducible repeat (first | refine blk_drewN ?_ _ | refine blk_drew ?_ | refine blk_alloc ?_ _)); exact BK269.out⟩, ⟨by repeat (first | (with_reducible first | exact HB.out | apply below_alloc | apply pw_below_drewN | apply below_drew1 | refine below_set ?_ GE247.out | refine below_set ?_ GE258.out | refine below_set ?_ GE263.out | refine below_set ?_ GE269.out) | exact HB.out)⟩⟩
      case rest =>
       clear HC62
       try clear c1
       try clear c2
       try clear p2
       try clear c3
       try clear c4
       try clear c5
       try clear c5b0
       try clear c6
       try clear c7
       try clear c8
       try clear c15
       try clear c17
       try clear c20
       try clear c22
       try clear c24
       try clear c25
       try clear c26
       try clear c28
       try clear c29
       try clear c34
       try clear c35
       try clear c36
       try clear c40
       try clear c41
       try clear c42
       try clear c43
       try clear c45
       try clear c46
       try clear c49
       try clear c50
       try clear c51
       try clear c53
       try clear c54
       try clear c57
       try clear c60
       try clear c67
       try clear c68
       try clear c69
       try clear c72
       try clear c72b0
       try clear c74
       try clear c75
       try clear c76
       try clear c77
       try clear c79
       try clear c80
       try clear c83
       try clear c84
       try clear c85
       try clear c87
       try clear c88
       try clear hcz15_0
       try clear hcz15_1
       try clear hcz17_0
       try clear hcz17_1
       try clear hcz23_0
       try clear hcz23_1
       try clear hcz25_0
       try clear hcz25_1
       try clear hcz30_0
       try clear hcz30_1
       try clear hcz37_0
       try clear hcz37_1
       try clear hcz44_0
       try clear hcz44_1
       try clear hcz47_0
       try clear hcz47_1
       try clear hcz52_0
       try clear hcz52_1
       try clear hcz55_0
       try clear hcz55_1
       try clear hcz70_0
       try clear hcz70_1
       try clear hcz78_0
       try clear hcz78_1
       try clear hcz7_0
       try clear hcz7_1
       try clear hcz81_0
       try clear hcz81_1
       try clear hcz86_0
       try clear hcz86_1
       try clear hcz89_0
       try clear hcz89_1
       try clear hfz15_0
       try clear hfz15_1
       try clear hfz17_0
       try clear hfz17_1
       try clear hfz23_0
       try clear hfz23_1
       try clear hfz25_0
       try clear hfz25_1
       try clear hfz30_0
       try clear hfz30_1
       try clear hfz37_0
       try clear hfz37_1
       try clear hfz44_0
       try clear hfz44_1
       try clear hfz47_0
       try clear hfz47_1
       try clear hfz52_0
       try clear hfz52_1
       try clear hfz55_0
       try clear hfz55_1
       try clear hfz70_0
       try clear hfz70_1
       try clear hfz78_0
       try clear hfz78_1
       try clear hfz7_0
       try clear hfz7_1
       try clear hfz81_0
       try clear hfz81_1
       try clear hfz86_0
       try clear hfz86_1
       try clear hfz89_0
       try clear hfz89_1
       try clear p2
       obtain ⟨kq, x69_61, rfl, HA, HJ61, HO_259001, HO_264001, HO_270001, BK247, BK258, BK263, BK269, HB⟩ := hcut
       have hl264001_61 := (Kd.R_reads' HO_264001.out).1
       rw [hl264001_61] at HO_264001
       (try simp only [hl264001_61])
       (try simp only [hl264001_61] at BK247)
       (try simp only [hl264001_61] at BK258)
       (try simp only [hl264001_61] at BK263)
       (try simp only [hl264001_61] at BK269)
       (try simp only [hl264001_61] at HO_259001)
       (try simp only [hl264001_61] at HO_270001)
       cases kq with
       | zero => exact absurd HA.out (by simp [laws_FnExactWithout.j1])
       | succ kj61 =>
        have H := HA.out
        clear HA
        simp only [laws_FnExactWithout.j1] at H
        by_cases c91 : x69_61 = true
        ·subst c91
         rw [if_pos rfl] at H
         obtain rfl := Option.some.inj H
         go_wp2
         go_ret
         exact ⟨by first | rfl | (simp [errW_none, errW_some] <;> rfl) | (simp [*, errW_none, errW_some] <;> rfl), by repeat (first | (with_reducible first | exact HB.out | apply below_alloc | apply pw_below_drewN | apply below_drew1 | refine below_set ?_ GE247.out | refine below_set ?_ GE258.out | refine below_set ?_ GE263.out | refine below_set ?_ GE269.out) | exact HB.out)⟩
        ·replace c91 := Bool.eq_false_iff.mpr c91
         subst c91
         rw [if_neg (show ¬ (false = true) by decide)] at H
         replace H := Option.bind_eq_some_iff.mp H
         obtain ⟨⟨t279, t280⟩, A920, H⟩ := H
         have A92 := Aside0.mk A920
         clear A920
         replace H := Option.bind_eq_some_iff.mp H
         obtain ⟨t281, A930, H⟩ := H
         have A93 := Aside0.mk A930
         clear A930
         by_cases c94 : t281 < 0
         ·rw [if_pos c94] at H
          have c94b0 : decide (t281 < 0) = true := decide_eq_true c94
          clear c94
          obtain rfl := Option.some.inj H
          have hnb95 := NB269_247.out
          have hnc95 := NB247_269.out
          have hnb96 := NB269_258.out
          have hnc96 := NB258_269.out
          have hnb97 := NB269_263.out
          have hnc97 := NB263_269.out
          have hcz98_0 := cz_ BK269 0 (.int .i64 t264)
          have hcz98_1 := cz_ BK269 1 (.slice Ao38 t265.length co38)
          have hfz98_0 := blk_frozen BK269.out 0
          have hfz98_1 := blk_frozen BK269.out 1
          go_wp2_with (first | ((with_reducible refine gate_callee (f := 26) rfl ?_); refine gl_ (some 72) Try.func26 #[.agg #[.int .i64 t264, .slice Ao38 t265.length co38], .int .i64 1] ?_; (with_reducible refine (laws_markGraph.calls kj61 t264 (fun k_ => some k_ = (.slice Ao38 t265.length co38 : Value).ownBlock) (.slice Ao38 t265.length co38) t265 1 t279 t280 w _ ?side1 ?side2 A92.out).mono ?_); (case side1 => exact by_ HB); (case side2 => exact Kd.R_tight rfl HO_270001.out); rintro e w99 ⟨rfl, hy0, hb, hkp⟩; refine ⟨_, rfl, ?_⟩; replace HO_259001 := kp_ (fun k_ => some k_ ≠ (.slice Ao31 t277.length co31 : Value).ownBlock ∧ some k_ ≠ (.slice Ao38 t265.length co38 : Value).ownBlock) (HO_259001.out) hkp; replace HO_264001 := kp_ (fun k_ => some k_ ≠ (.slice Ao24 t254.length co24 : Value).ownBlock ∧ some k_ ≠ (.slice Ao38 t265.length co38 : Value).ownBlock) (HO_264001.out) hkp; replace BK247 := bk_ BK247 hkp (fun hs_ => (Kd.R_ne HO_270001.out BK247.out (by decide)) hs_); replace BK258 := bk_ BK258 hkp (fun hs_ => (Kd.R_ne HO_270001.out BK258.out (by decide)) hs_); replace BK263 := bk_ BK263 hkp (fun hs_ => (Kd.R_ne HO_270001.out BK263.out (by decide)) hs_); replace BK269 := bk_ BK269 hkp (fun hs_ => (Kd.R_ne HO_270001.out BK269.out (by decide)) hs_); replace HO_270001 := Aside0.mk (Kd.R_reok rfl hy0 (fun k_ e_ => HO_270001.out.1 k_ e_)); replace HB := Aside0.mk (hb); (try clear hb); (try clear hkp); (try clear hy0); have hcz100_0 := cz_ BK269 0 (.int .i64 t264); have hcz100_1 := cz_ BK269 1 (.slice Ao38 t265.length co38); have hfz100_0 := blk_frozen BK269.out 0; have hfz100_1 := blk_frozen BK269.out 1) | ((with_reducible refine gate_callee (f := 27) rfl ?_); refine goesL_ (some 75) rfl rfl Try.func27 (by kernel_rfl) rfl #[.agg #[.int .i64 t264, .slice Ao38 t280.length co38], .int .i64 1] rfl (by (try simp only [List.map_toArray, List.map_cons, List.map_nil]); first | done | (rw [show t280.length = t265.length from (Kd.R_reads' HO_270001.out).1.symm] <;> rfl) | rfl | (simp only [List.length_drop, List.length_take]; rfl)) ?_; (with_reducible refine (laws_heldGraph.calls kj61 t264 _ _ t280 1 t281 _ ?side1 ?side2 A93.out).mono ?_); (case side1 => exact rc_ HO_270001); (case side2 => rw [show t280.length = t265.length from (Kd.R_reads' HO_270001.out).1.symm]; exact (Kd.R_reads' HO_270001.out).2.1); rintro e w101 ⟨rfl, hb⟩; refine ⟨_, rfl, ?_⟩; replace HO_259001 := rb_ HO_259001 hb; replace HO_264001 := rb_ HO_264001 hb; replace HO_270001 := rb_ HO_270001 hb; replace BK247 := Aside0.mk (bb_ BK247 hb); replace BK258 := Aside0.mk (bb_ BK258 hb); replace BK263 := Aside0.mk (bb_ BK263 hb); replace BK269 := Aside0.mk (bb_ BK269 hb); replace HB := Aside0.mk (bt_ HB hb); (try clear hb); (try clear hb2); (try clear hk); (try clear hi)))
          go_ret
          exact ⟨by first | rfl | (simp [errW_none, errW_some] <;> rfl) | (simp [*, errW_none, errW_some] <;> rfl), by repeat (first | (with_reducible first | exact HB.out | apply below_alloc | apply pw_below_drewN | apply below_drew1 | refine below_set ?_ GE247.out | refine below_set ?_ GE258.out | refine below_set ?_ GE263.out | refine below_set ?_ GE269.out) | exact HB.out)⟩
         ·rw [if_neg c94] at H
          have c94b0 : decide (t281 < 0) = false := decide_eq_false c94
          clear c94
          by_cases c102 : t281 = t279
          ·rw [if_pos c102] at H
           have c102b0 : (t281 == t279) = true := beq_iff_eq.mpr c102
           have c102b1 : (t281 != t279) = false := bne_eq_false_iff_eq.mpr c102
           clear c102
           replace H := Option.bind_eq_some_iff.mp H
           obtain ⟨⟨t282, t283⟩, A1030, H⟩ := H
           have A103 := Aside0.mk A1030
           clear A1030
           replace H := Option.bind_eq_some_iff.mp H
           obtain ⟨⟨t286, t287, t290⟩, A1040, H⟩ := H
           have A104 := Aside0.mk A1040
           clear A1040
           have HC105 := Aside0.mk H
           clear H
           have hnb106 := NB269_247.out
           have hnc106 := NB247_269.out
           have hnb107 := NB269_258.out
           have hnc107 := NB258_269.out
           have hnb108 := NB269_263.out
           have hnc108 := NB263_269.out
           have hcz109_0 := cz_ BK269 0 (.int .i64 t264)
           have hcz109_1 := cz_ BK269 1 (.slice Ao38 t265.length co38)
           have hfz109_0 := blk_frozen BK269.out 0
           have hfz109_1 := blk_frozen BK269.out 1
           go_upto_region 25 with (first | ((with_reducible refine gate_callee (f := 26) rfl ?_); refine gl_ (some 72) Try.func26 #[.agg #[.int .i64 t264, .slice Ao38 t265.length co38], .int .i64 1] ?_; (with_reducible refine (laws_markGraph.calls kj61 t264 (fun k_ => some k_ = (.slice Ao38 t265.length co38 : Value).ownBlock) (.slice Ao38 t265.length co38) t265 1 t279 t280 w _ ?side1 ?side2 A92.out).mono ?_); (case side1 => exact by_ HB); (case side2 => exact Kd.R_tight rfl HO_270001.out); rintro e w110 ⟨rfl, hy0, hb, hkp⟩; refine ⟨_, rfl, ?_⟩; replace HO_259001 := kp_ (fun k_ => some k_ ≠ (.slice Ao31 t277.length co31 : Value).ownBlock ∧ some k_ ≠ (.slice Ao38 t265.length co38 : Value).ownBlock) (HO_259001.out) hkp; replace HO_264001 := kp_ (fun k_ => some k_ ≠ (.slice Ao24 t254.length co24 : Value).ownBlock ∧ some k_ ≠ (.slice Ao38 t265.length co38 : Value).ownBlock) (HO_264001.out) hkp; replace BK247 := bk_ BK247 hkp (fun hs_ => (Kd.R_ne HO_270001.out BK247.out (by decide)) hs_); replace BK258 := bk_ BK258 hkp (fun hs_ => (Kd.R_ne HO_270001.out BK258.out (by decide)) hs_); replace BK263 := bk_ BK263 hkp (fun hs_ => (Kd.R_ne HO_270001.out BK263.out (by decide)) hs_); replace BK269 := bk_ BK269 hkp (fun hs_ => (Kd.R_ne HO_270001.out BK269.out (by decide)) hs_); replace HO_270001 := Aside0.mk (Kd.R_reok rfl hy0 (fun k_ e_ => HO_270001.out.1 k_ e_)); replace HB := Aside0.mk (hb); (try clear hb); (try clear hkp); (try clear hy0); have hcz111_0 := cz_ BK269 0 (.int .i64 t264); have hcz111_1 := cz_ BK269 1 (.slice Ao38 t265.length co38); have hfz111_0 := blk_frozen BK269.out 0; have hfz111_1 := blk_frozen BK269.out 1) | ((with_reducible refine gate_callee (f := 27) rfl ?_); refine goesL_ (some 75) rfl rfl Try.func27 (by kernel_rfl) rfl #[.agg #[.int .i64 t264, .slice Ao38 t280.length co38], .int .i64 1] rfl (by (try simp only [List.map_toArray, List.map_cons, List.map_nil]); first | done | (rw [show t280.length = t265.length from (Kd.R_reads' HO_270001.out).1.symm] <;> rfl) | rfl | (simp only [List.length_drop, List.length_take]; rfl)) ?_; (with_reducible refine (laws_heldGraph.calls kj61 t264 _ _ t280 1 t281 _ ?side1 ?side2 A93.out).mono ?_); (case side1 => exact rc_ HO_270001); (case side2 => rw [show t280.length = t265.length from (Kd.R_reads' HO_270001.out).1.symm]; exact (Kd.R_reads' HO_270001.out).2.1); rintro e w112 ⟨rfl, hb⟩; refine ⟨_, rfl, ?_⟩; replace HO_259001 := rb_ HO_259001 hb; replace HO_264001 := rb_ HO_264001 hb; replace HO_270001 := rb_ HO_270001 hb; replace BK247 := Aside0.mk (bb_ BK247 hb); replace BK258 := Aside0.mk (bb_ BK258 hb); replace BK263 := Aside0.mk (bb_ BK263 hb); replace BK269 := Aside0.mk (bb_ BK269 hb); replace HB := Aside0.mk (bt_ HB hb); (try clear hb); (try clear hb2); (try clear hk); (try clear hi); have hnb113 := NB247_258.out; have hnc113 := NB258_247.out; have hnb114 := NB247_263.out; have hnc114 := NB263_247.out; have hcz115_0 := cz_ BK247 0 (.int .i64 a0_0); have hcz115_1 := cz_ BK247 1 (.slice A0_1 l0_1.length c0_1); have hfz115_0 := blk_frozen BK247.out 0; have hfz115_1 := blk_frozen BK247.out 1) | ((with_reducible refine gate_callee (f := 17) rfl ?_); refine gl_ (some 83) Try.func17 #[.agg #[.int .i64 a0_0, .slice A0_1 l0_1.length c0_1]] ?_; (with_reducible refine (laws_toGraph.calls kj61 a0_0 _ _ l0_1 t282 t283 _ ?side1 ?side2 A103.out).mono ?_); (case side1 => exact cb_ HR0_1 HB); (case side2 => exact HC0_1.out); rintro e w116 ⟨v284, rfl, ho0, hb⟩; refine ⟨_, rfl, ?_⟩; have HO285 := Aside0.mk (Kd.R_lower (Kd.R_new' (Kd.R_new' (Kd.R_new' ho0 (Kd.R_lt (hd_ HO_259001))) (Kd.R_lt (hd_ HO_264001))) (Kd.R_lt (hd_ HO_270001))) (bz_ HB)); replace HO_259001 := Aside0.mk (Kd.R_elder' (hd_ HO_259001) (Kd.R_base ho0) hb); replace HO_264001 := Aside0.mk (Kd.R_elder' (hd_ HO_264001) (Kd.R_base ho0) hb); replace HO_270001 := Aside0.mk (Kd.R_elder' (hd_ HO_270001) (Kd.R_base ho0) hb); replace BK247 := Aside0.mk (bb_ BK247 hb); replace BK258 := Aside0.mk (bb_ BK258 hb); replace BK263 := Aside0.mk (bb_ BK263 hb); replace BK269 := Aside0.mk (bb_ BK269 hb); replace HB := Aside0.mk (bt_ HB hb); (try clear hb); (try clear hb2); (try clear hk); (try clear hi); (try clear ho0); obtain ⟨Ao117, co117, eo117⟩ := Kd.R_slice HO285.out; subst eo117) | ((with_reducible refine gate_callee (f := 25) rfl ?_); refine gl_ (some 86) Try.func25 #[.agg #[.int .i64 t282, .slice Ao117 t283.length co117], .int .i64 a1, .int .i64 a2] ?_; (with_reducible refine (impl_Without.calls kj61 t282 _ _ t283 a1 a2 t286 t287 t290 _ ?side1 ?side2 A104.out).mono ?_); (case side1 => exact rc_ HO285); (case side2 => exact (Kd.R_reads' HO285.out).2.1); rintro e w118 ⟨v288, rfl, ho0, hb⟩; refine ⟨_, rfl, ?_⟩; have HO289 := Aside0.mk (Kd.R_lower (Kd.R_new' (Kd.R_new' (Kd.R_new' (Kd.R_new' ho0 (Kd.R_lt (hd_ HO_259001))) (Kd.R_lt (hd_ HO_264001))) (Kd.R_lt (hd_ HO_270001))) (Kd.R_lt (hd_ HO285))) (bz_ HB)); replace HO_259001 := Aside0.mk (Kd.R_elder' (hd_ HO_259001) (Kd.R_base ho0) hb); replace HO_264001 := Aside0.mk (Kd.R_elder' (hd_ HO_264001) (Kd.R_base ho0) hb); replace HO_270001 := Aside0.mk (Kd.R_elder' (hd_ HO_270001) (Kd.R_base ho0) hb); replace HO285 := Aside0.mk (Kd.R_elder' (hd_ HO285) (Kd.R_base ho0) hb); replace BK247 := Aside0.mk (bb_ BK247 hb); replace BK258 := Aside0.mk (bb_ BK258 hb); replace BK263 := Aside0.mk (bb_ BK263 hb); replace BK269 := Aside0.mk (bb_ BK269 hb); replace HB := Aside0.mk (bt_ HB hb); (try clear hb); (try clear hb2); (try clear hk); (try clear hi); (try clear ho0)) | ((with_reducible refine gate_dst (N := 16) rfl ?_); refine box_event ?hg (N := 16) ?hd (cs := #[.int .i64 0, .slice none 0 0]) (t := 30) ?hr ?_; (case hd => rfl); (case hg => rfl); (case hr => first | (go_simp; done) | (go_simp; rfl)); intro gb291 hg w119 hbox hb; have BK291 := Aside0.mk hbox; have GW291 := ge_ HB hg; have GE291 := ge_ HB hg; have NB247_291 := nl_ BK247 hg; have NB291_247 := ng_ BK247 hg; have NB258_291 := nl_ BK258 hg; have NB291_258 := ng_ BK258 hg; have NB263_291 := nl_ BK263 hg; have NB291_263 := ng_ BK263 hg; have NB269_291 := nl_ BK269 hg; have NB291_269 := ng_ BK269 hg; replace HO_259001 := rb_ HO_259001 hb; replace HO_264001 := rb_ HO_264001 hb; replace HO_270001 := rb_ HO_270001 hb; replace HO285 := rb_ HO285 hb; replace HO289 := rb_ HO289 hb; replace HB := Aside0.mk (bt_ HB hb); replace BK247 := Aside0.mk (bb_ BK247 hb); replace BK258 := Aside0.mk (bb_ BK258 hb); replace BK263 := Aside0.mk (bb_ BK263 hb); replace BK269 := Aside0.mk (bb_ BK269 hb); clear hb hbox hg; have hnb120 := NB291_247.out; have hnc120 := NB247_291.out; have hnb121 := NB291_258.out; have hnc121 := NB258_291.out; have hnb122 := NB291_263.out; have hnc122 := NB263_291.out; have hnb123 := NB291_269.out; have hnc123 := NB269_291.out; have hcz124_0 := cz_ BK291 0 (.int .i64 0); have hcz124_1 := cz_ BK291 1 (.slice none 0 0); have hfz124_0 := blk_frozen BK291.out 0; have hfz124_1 := blk_frozen BK291.out 1; obtain ⟨Ao125, co125, eo125⟩ := Kd.R_slice HO289.out; subst eo125))
           (try simp only [Act.put, List.setIfInBounds_toArray, List.set_cons_zero, List.set_cons_succ])
           go_cut [97] (fun v97 wc => ∃ (kq : Nat) (x97_104 : Bool), v97 = .bool x97_104 ∧ Aside0 (laws_FnExactWithout.j2 kq t279 x97_104 t264 t280 = some r) ∧ Aside0 (kq ≤ kj61) ∧ Aside0 (Kd.R k67 67 wc w.heap.size (fun k_ => some k_ ≠ ((.slice Ao31 t277.length co31) : Value).ownBlock ∧ some k_ ≠ ((.slice Ao38 t265.length co38) : Value).ownBlock ∧ some k_ ≠ ((.slice Ao125 t287.length co125) : Value).ownBlock) (.slice Ao24 t254.length co24) t254) ∧ Aside0 (Kd.R k67 67 wc w.heap.size (fun k_ => some k_ ≠ ((.slice Ao24 t254.length co24) : Value).ownBlock ∧ some k_ ≠ ((.slice Ao38 t265.length co38) : Value).ownBlock ∧ some k_ ≠ ((.slice Ao125 t287.length co125) : Value).ownBlock) (.slice Ao31 t277.length co31) t277) ∧ Aside0 (Kd.R k67 67 wc w.heap.size (fun k_ => some k_ ≠ ((.slice Ao24 t254.length co24) : Value).ownBlock ∧ some k_ ≠ ((.slice Ao31 t277.length co31) : Value).ownBlock ∧ some k_ ≠ ((.slice Ao125 t287.length co125) : Value).ownBlock) (.slice Ao38 t265.length co38) t280) ∧ Aside0 (Kd.R k67 67 wc w.heap.size (fun k_ => some k_ ≠ ((.slice Ao24 t254.length co24) : Value).ownBlock ∧ some k_ ≠ ((.slice Ao31 t277.length co31) : Value).ownBlock ∧ some k_ ≠ ((.slice Ao38 t265.length co38) : Value).ownBlock) (.slice Ao125 t287.length co125) t287) ∧ Aside0 (wc.heap[gb247]? = some (.cells #[.int .i64 a0_0, (.slice A0_1 l0_1.length c0_1)] 24 (0, 0))) ∧ Aside0 (wc.heap[gb258]? = some (.cells #[.int .i64 t253, (.slice Ao24 t254.length co24)] 30 (0, 0))) ∧ Aside0 (wc.heap[gb263]? = some (.cells #[.int .i64 t259, (.slice Ao31 t277.length co31)] 30 (0, 0))) ∧ Aside0 (wc.heap[gb269]? = some (.cells #[.int .i64 t264, (.slice Ao38 t265.length co38)] 30 (0, 0))) ∧ Aside0 (wc.heap[gb291]? = some (.cells #[.int .i64 t286, (.slice Ao125 t287.length co125)] 30 (0, 0))) ∧ Aside0 (Below w.heap.size w wc))
           case first =>
            have H := HC105.out
            clear HC105
            replace H := Option.bind_eq_some_iff.mp H
            obtain ⟨t292, A1260, H⟩ := H
            have A126 := Aside0.mk A1260
            clear A1260
            by_cases c127 : t292 = true
            ·subst c127
             rw [if_pos rfl] at H
             have H' := Aside0.mk H
             clear H
             have hnb128 := NB291_247.out
             have hnc128 := NB247_291.out
             have hnb129 := NB291_258.out
             have hnc129 := NB258_291.out
             have hnb130 := NB291_263.out
             have hnc130 := NB263_291.out
             have hnb131 := NB291_269.out
             have hnc131 := NB269_291.out
             have hcz132_0 := cz_ BK291 0 (.int .i64 0)
             have hcz132_1 := cz_ BK291 1 (.slice none 0 0)
             have hfz132_0 := blk_frozen BK291.out 0
             have hfz132_1 := blk_frozen BK291.out 1
             have hnb133 := NB258_247.out
             have hnc133 := NB247_258.out
             have hnb134 := NB258_263.out
             have hnc134 := NB263_258.out
             have hnb135 := NB258_269.out
             have hnc135 := NB269_258.out
             have hcz136_0 := cz_ BK258 0 (.int .i64 t253)
             have hcz136_1 := cz_ BK258 1 (.slice Ao24 t254.length co24)
             have hfz136_0 := blk_frozen BK258.out 0
             have hfz136_1 := blk_frozen BK258.out 1
             go_wp2_with (first | ((with_reducible refine gate_callee (f := 20) rfl ?_); refine gl_ (some 91) Try.func20 #[.agg #[.int .i64 t286, .slice Ao125 t287.length co125], .agg #[.int .i64 t253, .slice Ao24 t254.length co24]] ?_; (with_reducible refine (laws_eqGraph.calls kj61 t286 _ _ t287 t253 _ _ t254 true _ ?side1 ?side2 ?side3 ?side4 A126.out).mono ?_); (case side1 => refine (Kd.R_reads' (e := 67) (base := w.heap.size) (ok := fun k_ => ((((True ∧ some k_ ≠ (.slice Ao24 t254.length co24 : Value).ownBlock) ∧ some k_ ≠ (.slice Ao31 t277.length co31 : Value).ownBlock) ∧ some k_ ≠ (.slice Ao38 t265.length co38 : Value).ownBlock) ∧ some k_ ≠ (.slice Ao117 t283.length co117 : Value).ownBlock)) (n := t287.length) (c := co125) ?_).2.2; exact (hs_ HO289 BK291)); (case side2 => exact (Kd.R_reads' HO289.out).2.1); (case side3 => refine (Kd.R_reads' (e := 67) (base := w.heap.size) (ok := fun k_ => (((some k_ ≠ (.slice Ao31 t277.length co31 : Value).ownBlock ∧ some k_ ≠ (.slice Ao38 t265.length co38 : Value).ownBlock) ∧ some k_ ≠ (.slice Ao117 t283.length co117 : Value).ownBlock) ∧ some k_ ≠ (.slice Ao125 t287.length co125 : Value).ownBlock)) (n := t254.length) (c := co24) ?_).2.2; exact (hs_ HO_259001 BK291)); (case side4 => exact (Kd.R_reads' HO_259001.out).2.1); rintro e w137 ⟨rfl, hb⟩; refine ⟨_, rfl, ?_⟩; replace HO_259001 := rs_ HO_259001 BK291 hb; replace HO_264001 := rs_ HO_264001 BK291 hb; replace HO_270001 := rs_ HO_270001 BK291 hb; replace HO285 := rs_ HO285 BK291 hb; replace HO289 := rs_ HO289 BK291 hb; replace BK247 := bf_ BK247 NB247_291 hb; replace BK258 := bf_ BK258 NB258_291 hb; replace BK263 := bf_ BK263 NB263_291 hb; replace BK269 := bf_ BK269 NB269_291 hb; replace BK291 := Aside0.mk (blk_below (g := gb291) (o := .cells #[.int .i64 t286, .slice Ao125 t287.length co125] 30 (0, 0)) (by (with_reducible repeat (first | refine blk_drewN ?_ _ | refine blk_drew ?_ | refine blk_alloc ?_ _)); refine blk_put (cs := #[.int .i64 t286, .slice none 0 0]) ?_ 1 _ rfl; (with_reducible repeat (first | refine blk_drewN ?_ _ | refine blk_drew ?_ | refine blk_alloc ?_ _)); refine blk_put (cs := #[.int .i64 0, .slice none 0 0]) ?_ 0 _ rfl; (with_reducible repeat (first | refine blk_drewN ?_ _ | refine blk_drew ?_ | refine blk_alloc ?_ _)); exact BK291.out) hb); replace HB := Aside0.mk (bt_ HB hb); (try clear hb); (try clear hb2); (try clear hk); (try clear hi)))
             go_meet
             case rel => exact ⟨_, ((t290 != t257)), (by first | rfl | (simp; done) | (simp [*]; done)), H', ⟨by have := HJ12.out; have := HJ61.out; first | omega | exact Nat.le_refl _⟩, ⟨by (try simp only [hl264001_61]); (with_reducible repeat (first | apply Kd.R_alloc | apply Kd.R_drewN | apply Kd.R_drew)); exact Kd.R_mono HO_259001.out (fun _ hk => ⟨hk.1.1.1, ⟨hk.1.1.2, hk.2⟩⟩)⟩, ⟨by (try simp only [hl264001_61]); (with_reducible repeat (first | apply Kd.R_alloc | apply Kd.R_drewN | apply Kd.R_drew)); exact Kd.R_mono HO_264001.out (fun _ hk => ⟨hk.1.1.1, ⟨hk.1.1.2, hk.2⟩⟩)⟩, ⟨by (try simp only [hl264001_61]); (with_reducible repeat (first | apply Kd.R_alloc | apply Kd.R_drewN | apply Kd.R_drew)); exact Kd.R_mono HO_270001.out (fun _ hk => ⟨hk.1.1.1, ⟨hk.1.1.2, hk.2⟩⟩)⟩, ⟨by (try simp only [hl264001_61]); (with_reducible repeat (first | apply Kd.R_alloc | apply Kd.R_drewN | apply Kd.R_drew)); exact Kd.R_mono HO289.out (fun _ hk => ⟨hk.1.1.1.2, ⟨hk.1.1.2, hk.1.2⟩⟩)⟩, ⟨by (try simp only [hl264001_61]); (with_reducible repeat (first | refine blk_drewN ?_ _ | refine blk_drew ?_ | refine blk_alloc ?_ _)); exact BK247.out⟩, ⟨by (try simp only [hl264001_61]); (with_reducible repeat (first | refine blk_drewN ?_ _ | refine blk_drew ?_ | refine blk_alloc ?_ _)); exact BK258.out⟩, ⟨by (try simp only [hl264001_61]); (with_reducible repeat (first | refine blk_drewN ?_ _ | refine blk_drew ?_ | refine blk_alloc ?_ _)); exact BK263.out⟩, ⟨by (try simp only [hl264001_61]); (with_reducible repeat (first | refine blk_drewN ?_ _ | refine blk_drew ?_ | refine blk_alloc ?_ _)); exact BK269.out⟩, ⟨by (try simp only [hl264001_61]); (with_reducible repeat (first | refine blk_drewN ?_ _ | refine blk_drew ?_ | refine blk_alloc ?_ _)); exact BK291.out⟩, ⟨by repeat (first | (with_reducible first | exact HB.out | apply below_alloc | apply pw_below_drewN | apply below_drew1 | refine below_set ?_ GE247.out | refine below_set ?_ GE258.out | refine below_set ?_ GE263.out | refine below_set ?_ GE269.out | refine below_set ?_ GE291.out) | exact HB.out)⟩⟩
            ·replace c127 := Bool.eq_false_iff.mpr c127
             subst c127
             rw [if_neg (show ¬ (false = true) by decide)] at H
             have H' := Aside0.mk H
             clear H
             have hnb138 := NB291_247.out
             have hnc138 := NB247_291.out
             have hnb139 := NB291_258.out
             have hnc139 := NB258_291.out
             have hnb140 := NB291_263.out
             have hnc140 := NB263_291.out
             have hnb141 := NB291_269.out
             have hnc141 := NB269_291.out
             have hcz142_0 := cz_ BK291 0 (.int .i64 0)
             have hcz142_1 := cz_ BK291 1 (.slice none 0 0)
             have hfz142_0 := blk_frozen BK291.out 0
             have hfz142_1 := blk_frozen BK291.out 1
             have hnb143 := NB258_247.out
             have hnc143 := NB247_258.out
             have hnb144 := NB258_263.out
             have hnc144 := NB263_258.out
             have hnb145 := NB258_269.out
             have hnc145 := NB269_258.out
             have hcz146_0 := cz_ BK258 0 (.int .i64 t253)
             have hcz146_1 := cz_ BK258 1 (.slice Ao24 t254.length co24)
             have hfz146_0 := blk_frozen BK258.out 0
             have hfz146_1 := blk_frozen BK258.out 1
             go_wp2_with (first | ((with_reducible refine gate_callee (f := 20) rfl ?_); refine gl_ (some 91) Try.func20 #[.agg #[.int .i64 t286, .slice Ao125 t287.length co125], .agg #[.int .i64 t253, .slice Ao24 t254.length co24]] ?_; (with_reducible refine (laws_eqGraph.calls kj61 t286 _ _ t287 t253 _ _ t254 false _ ?side1 ?side2 ?side3 ?side4 A126.out).mono ?_); (case side1 => refine (Kd.R_reads' (e := 67) (base := w.heap.size) (ok := fun k_ => ((((True ∧ some k_ ≠ (.slice Ao24 t254.length co24 : Value).ownBlock) ∧ some k_ ≠ (.slice Ao31 t277.length co31 : Value).ownBlock) ∧ some k_ ≠ (.slice Ao38 t265.length co38 : Value).ownBlock) ∧ some k_ ≠ (.slice Ao117 t283.length co117 : Value).ownBlock)) (n := t287.length) (c := co125) ?_).2.2; exact (hs_ HO289 BK291)); (case side2 => exact (Kd.R_reads' HO289.out).2.1); (case side3 => refine (Kd.R_reads' (e := 67) (base := w.heap.size) (ok := fun k_ => (((some k_ ≠ (.slice Ao31 t277.length co31 : Value).ownBlock ∧ some k_ ≠ (.slice Ao38 t265.length co38 : Value).ownBlock) ∧ some k_ ≠ (.slice Ao117 t283.length co117 : Value).ownBlock) ∧ some k_ ≠ (.slice Ao125 t287.length co125 : Value).ownBlock)) (n := t254.length) (c := co24) ?_).2.2; exact (hs_ HO_259001 BK291)); (case side4 => exact (Kd.R_reads' HO_259001.out).2.1); rintro e w147 ⟨rfl, hb⟩; refine ⟨_, rfl, ?_⟩; replace HO_259001 := rs_ HO_259001 BK291 hb; replace HO_264001 := rs_ HO_264001 BK291 hb; replace HO_270001 := rs_ HO_270001 BK291 hb; replace HO285 := rs_ HO285 BK291 hb; replace HO289 := rs_ HO289 BK291 hb; replace BK247 := bf_ BK247 NB247_291 hb; replace BK258 := bf_ BK258 NB258_291 hb; replace BK263 := bf_ BK263 NB263_291 hb; replace BK269 := bf_ BK269 NB269_291 hb; replace BK291 := Aside0.mk (blk_below (g := gb291) (o := .cells #[.int .i64 t286, .slice Ao125 t287.length co125] 30 (0, 0)) (by (with_reducible repeat (first | refine blk_drewN ?_ _ | refine blk_drew ?_ | refine blk_alloc ?_ _)); refine blk_put (cs := #[.int .i64 t286, .slice none 0 0]) ?_ 1 _ rfl; (with_reducible repeat (first | refine blk_drewN ?_ _ | refine blk_drew ?_ | refine blk_alloc ?_ _)); refine blk_put (cs := #[.int .i64 0, .slice none 0 0]) ?_ 0 _ rfl; (with_reducible repeat (first | refine blk_drewN ?_ _ | refine blk_drew ?_ | refine blk_alloc ?_ _)); exact BK291.out) hb); replace HB := Aside0.mk (bt_ HB hb); (try clear hb); (try clear hb2); (try clear hk); (try clear hi)))
             go_meet
             case rel => exact ⟨_, (true), (by first | rfl | (simp; done) | (simp [*]; done)), H', ⟨by have := HJ12.out; have := HJ61.out; first | omega | exact Nat.le_refl _⟩, ⟨by (try simp only [hl264001_61]); (with_reducible repeat (first | apply Kd.R_alloc | apply Kd.R_drewN | apply Kd.R_drew)); exact Kd.R_mono HO_259001.out (fun _ hk => ⟨hk.1.1.1, ⟨hk.1.1.2, hk.2⟩⟩)⟩, ⟨by (try simp only [hl264001_61]); (with_reducible repeat (first | apply Kd.R_alloc | apply Kd.R_drewN | apply Kd.R_drew)); exact Kd.R_mono HO_264001.out (fun _ hk => ⟨hk.1.1.1, ⟨hk.1.1.2, hk.2⟩⟩)⟩, ⟨by (try simp only [hl264001_61]); (with_reducible repeat (first | apply Kd.R_alloc | apply Kd.R_drewN | apply Kd.R_drew)); exact Kd.R_mono HO_270001.out (fun _ hk => ⟨hk.1.1.1, ⟨hk.1.1.2, hk.2⟩⟩)⟩, ⟨by (try simp only [hl264001_61]); (with_reducible repeat (first | apply Kd.R_alloc | apply Kd.R_drewN | apply Kd.R_drew)); exact Kd.R_mono HO289.out (fun _ hk => ⟨hk.1.1.1.2, ⟨hk.1.1.2, hk.1.2⟩⟩)⟩, ⟨by (try simp only [hl264001_61]); (with_reducible repeat (first | refine blk_drewN ?_ _ | refine blk_drew ?_ | refine blk_alloc ?_ _)); exact BK247.out⟩, ⟨by (try simp only [hl264001_61]); (with_reducible repeat (first | refine blk_drewN ?_ _ | refine blk_drew ?_ | refine blk_alloc ?_ _)); exact BK258.out⟩, ⟨by (try simp only [hl264001_61]); (with_reducible repeat (first | refine blk_drewN ?_ _ | refine blk_drew ?_ | refine blk_alloc ?_ _)); exact BK263.out⟩, ⟨by (try simp only [hl264001_61]); (with_reducible repeat (first | refine blk_drewN ?_ _ | refine blk_drew ?_ | refine blk_alloc ?_ _)); exact BK269.out⟩, ⟨by (try simp only [hl264001_61]); (with_reducible repeat (first | refine blk_drewN ?_ _ | refine blk_drew ?_ | refine blk_alloc ?_ _)); exact BK291.out⟩, ⟨by repeat (first | (with_reducible first | exact HB.out | apply below_alloc | apply pw_below_drewN | apply below_drew1 | refine below_set ?_ GE247.out | refine below_set ?_ GE258.out | refine below_set ?_ GE263.out | refine below_set ?_ GE269.out | refine below_set ?_ GE291.out) | exact HB.out)⟩⟩
           case rest =>
            clear HC105
            try clear c1
            try clear c2
            try clear p2
            try clear c3
            try clear c4
            try clear c5
            try clear c5b0
            try clear c6
            try clear c7
            try clear c8
            try clear c9
            try clear c10
            try clear c11
            try clear c12
            try clear c13
            try clear c14
            try clear c15
            try clear c17
            try clear c20
            try clear c22
            try clear c24
            try clear c25
            try clear c26
            try clear c27
            try clear c28
            try clear c29
            try clear c34
            try clear c35
            try clear c36
            try clear c40
            try clear c41
            try clear c42
            try clear c43
            try clear c45
            try clear c46
            try clear c49
            try clear c50
            try clear c51
            try clear c53
            try clear c54
            try clear c57
            try clear c60
            try clear c67
            try clear c68
            try clear c69
            try clear c72
            try clear c72b0
            try clear c74
            try clear c75
            try clear c76
            try clear c77
            try clear c79
            try clear c80
            try clear c83
            try clear c84
            try clear c85
            try clear c87
            try clear c88
            try clear c91
            try clear c94
            try clear c94b0
            try clear c95
            try clear c96
            try clear c97
            try clear c102
            try clear c102b0
            try clear c102b1
            try clear c106
            try clear c107
            try clear c108
            try clear c113
            try clear c114
            try clear c120
            try clear c121
            try clear c122
            try clear c123
            try clear c127
            try clear c128
            try clear c129
            try clear c130
            try clear c131
            try clear c133
            try clear c134
            try clear c135
            try clear c138
            try clear c139
            try clear c140
            try clear c141
            try clear c143
            try clear c144
            try clear c145
            try clear hcz100_0
            try clear hcz100_1
            try clear hcz109_0
            try clear hcz109_1
            try clear hcz111_0
            try clear hcz111_1
            try clear hcz115_0
            try clear hcz115_1
            try clear hcz124_0
            try clear hcz124_1
            try clear hcz132_0
            try clear hcz132_1
            try clear hcz136_0
            try clear hcz136_1
            try clear hcz142_0
            try clear hcz142_1
            try clear hcz146_0
            try clear hcz146_1
            try clear hcz15_0
            try clear hcz15_1
            try clear hcz17_0
            try clear hcz17_1
            try clear hcz23_0
            try clear hcz23_1
            try clear hcz25_0
            try clear hcz25_1
            try clear hcz30_0
            try clear hcz30_1
            try clear hcz37_0
            try clear hcz37_1
            try clear hcz44_0
            try clear hcz44_1
            try clear hcz47_0
            try clear hcz47_1
            try clear hcz52_0
            try clear hcz52_1
            try clear hcz55_0
            try clear hcz55_1
            try clear hcz70_0
            try clear hcz70_1
            try clear hcz78_0
            try clear hcz78_1
            try clear hcz7_0
            try clear hcz7_1
            try clear hcz81_0
            try clear hcz81_1
            try clear hcz86_0
            try clear hcz86_1
            try clear hcz89_0
            try clear hcz89_1
            try clear hcz98_0
            try clear hcz98_1
            try clear hfz100_0
            try clear hfz100_1
            try clear hfz109_0
            try clear hfz109_1
            try clear hfz111_0
            try clear hfz111_1
            try clear hfz115_0
            try clear hfz115_1
            try clear hfz124_0
            try clear hfz124_1
            try clear hfz132_0
            try clear hfz132_1
            try clear hfz136_0
            try clear hfz136_1
            try clear hfz142_0
            try clear hfz142_1
            try clear hfz146_0
            try clear hfz146_1
            try clear hfz15_0
            try clear hfz15_1
            try clear hfz17_0
            try clear hfz17_1
            try clear hfz23_0
            try clear hfz23_1
            try clear hfz25_0
            try clear hfz25_1
            try clear hfz30_0
            try clear hfz30_1
            try clear hfz37_0
            try clear hfz37_1
            try clear hfz44_0
            try clear hfz44_1
            try clear hfz47_0
            try clear hfz47_1
            try clear hfz52_0
            try clear hfz52_1
            try clear hfz55_0
            try clear hfz55_1
            try clear hfz70_0
            try clear hfz70_1
            try clear hfz78_0
            try clear hfz78_1
            try clear hfz7_0
            try clear hfz7_1
            try clear hfz81_0
            try clear hfz81_1
            try clear hfz86_0
            try clear hfz86_1
            try clear hfz89_0
            try clear hfz89_1
            try clear hfz98_0
            try clear hfz98_1
            try clear p2
            obtain ⟨kq, x97_104, rfl, HA, HJ104, HO_259001, HO_264001, HO_270001, HO_292001, BK247, BK258, BK263, BK269, BK291, HB⟩ := hcut
            have hl270001_104 := (Kd.R_reads' HO_270001.out).1
            rw [hl270001_104] at HO_270001
            (try simp only [hl270001_104])
            (try simp only [hl270001_104] at BK247)
            (try simp only [hl270001_104] at BK258)
            (try simp only [hl270001_104] at BK263)
            (try simp only [hl270001_104] at BK269)
            (try simp only [hl270001_104] at BK291)
            (try simp only [hl270001_104] at HO_259001)
            (try simp only [hl270001_104] at HO_264001)
            (try simp only [hl270001_104] at HO_292001)
            cases kq with
            | zero => exact absurd HA.out (by simp [laws_FnExactWithout.j2])
            | succ kj104 =>
             have H := HA.out
             clear HA
             simp only [laws_FnExactWithout.j2] at H
             by_cases c148 : x97_104 = true
             ·subst c148
              rw [if_pos rfl] at H
              obtain rfl := Option.some.inj H
              go_wp2
              go_ret
              exact ⟨by first | rfl | (simp [errW_none, errW_some] <;> rfl) | (simp [*, errW_none, errW_some] <;> rfl), by repeat (first | (with_reducible first | exact HB.out | apply below_alloc | apply pw_below_drewN | apply below_drew1 | refine below_set ?_ GE247.out | refine below_set ?_ GE258.out | refine below_set ?_ GE263.out | refine below_set ?_ GE269.out | refine below_set ?_ GE291.out) | exact HB.out)⟩
             ·replace c148 := Bool.eq_false_iff.mpr c148
              subst c148
              rw [if_neg (show ¬ (false = true) by decide)] at H
              replace H := Option.bind_eq_some_iff.mp H
              obtain ⟨t293, A1490, H⟩ := H
              have A149 := Aside0.mk A1490
              clear A1490
              by_cases c150 : t293 < 0
              ·rw [if_pos c150] at H
               have c150b0 : decide (t293 < 0) = true := decide_eq_true c150
               clear c150
               obtain rfl := Option.some.inj H
               have hnb151 := NB269_247.out
               have hnc151 := NB247_269.out
               have hnb152 := NB269_258.out
               have hnc152 := NB258_269.out
               have hnb153 := NB269_263.out
               have hnc153 := NB263_269.out
               have hnb154 := NB269_291.out
               have hnc154 := NB291_269.out
               have hcz155_0 := cz_ BK269 0 (.int .i64 t264)
               have hcz155_1 := cz_ BK269 1 (.slice Ao38 t280.length co38)
               have hfz155_0 := blk_frozen BK269.out 0
               have hfz155_1 := blk_frozen BK269.out 1
               go_wp2_with (first | ((with_reducible refine gate_callee (f := 27) rfl ?_); refine gl_ (some 100) Try.func27 #[.agg #[.int .i64 t264, .slice Ao38 t280.length co38], .int .i64 1] ?_; (with_reducible refine (laws_heldGraph.calls kj104 t264 _ _ t280 1 t293 _ ?side1 ?side2 A149.out).mono ?_); (case side1 => exact rc_ HO_270001); (case side2 => exact (Kd.R_reads' HO_270001.out).2.1); rintro e w156 ⟨rfl, hb⟩; refine ⟨_, rfl, ?_⟩; replace HO_259001 := rb_ HO_259001 hb; replace HO_264001 := rb_ HO_264001 hb; replace HO_270001 := rb_ HO_270001 hb; replace HO_292001 := rb_ HO_292001 hb; replace BK247 := Aside0.mk (bb_ BK247 hb); replace BK258 := Aside0.mk (bb_ BK258 hb); replace BK263 := Aside0.mk (bb_ BK263 hb); replace BK269 := Aside0.mk (bb_ BK269 hb); replace BK291 := Aside0.mk (bb_ BK291 hb); replace HB := Aside0.mk (bt_ HB hb); (try clear hb); (try clear hb2); (try clear hk); (try clear hi)))
               go_ret
               exact ⟨by first | rfl | (simp [errW_none, errW_some] <;> rfl) | (simp [*, errW_none, errW_some] <;> rfl), by repeat (first | (with_reducible first | exact HB.out | apply below_alloc | apply pw_below_drewN | apply below_drew1 | refine below_set ?_ GE247.out | refine below_set ?_ GE258.out | refine below_set ?_ GE263.out | refine below_set ?_ GE269.out | refine below_set ?_ GE291.out) | exact HB.out)⟩
              ·rw [if_neg c150] at H
               have c150b0 : decide (t293 < 0) = false := decide_eq_false c150
               clear c150
               by_cases c157 : t293 = t279
               ·rw [if_pos c157] at H
                have c157b0 : (t293 == t279) = true := beq_iff_eq.mpr c157
                have c157b1 : (t293 != t279) = false := bne_eq_false_iff_eq.mpr c157
                clear c157
                obtain rfl := Option.some.inj H
                have hnb158 := NB269_247.out
                have hnc158 := NB247_269.out
                have hnb159 := NB269_258.out
                have hnc159 := NB258_269.out
                have hnb160 := NB269_263.out
                have hnc160 := NB263_269.out
                have hnb161 := NB269_291.out
                have hnc161 := NB291_269.out
                have hcz162_0 := cz_ BK269 0 (.int .i64 t264)
                have hcz162_1 := cz_ BK269 1 (.slice Ao38 t280.length co38)
                have hfz162_0 := blk_frozen BK269.out 0
                have hfz162_1 := blk_frozen BK269.out 1
                go_wp2_with (first | ((with_reducible refine gate_callee (f := 27) rfl ?_); refine gl_ (some 100) Try.func27 #[.agg #[.int .i64 t264, .slice Ao38 t280.length co38], .int .i64 1] ?_; (with_reducible refine (laws_heldGraph.calls kj104 t264 _ _ t280 1 t293 _ ?side1 ?side2 A149.out).mono ?_); (case side1 => exact rc_ HO_270001); (case side2 => exact (Kd.R_reads' HO_270001.out).2.1); rintro e w163 ⟨rfl, hb⟩; refine ⟨_, rfl, ?_⟩; replace HO_259001 := rb_ HO_259001 hb; replace HO_264001 := rb_ HO_264001 hb; replace HO_270001 := rb_ HO_270001 hb; replace HO_292001 := rb_ HO_292001 hb; replace BK247 := Aside0.mk (bb_ BK247 hb); replace BK258 := Aside0.mk (bb_ BK258 hb); replace BK263 := Aside0.mk (bb_ BK263 hb); replace BK269 := Aside0.mk (bb_ BK269 hb); replace BK291 := Aside0.mk (bb_ BK291 hb); replace HB := Aside0.mk (bt_ HB hb); (try clear hb); (try clear hb2); (try clear hk); (try clear hi)))
                go_ret
                exact ⟨by first | rfl | (simp [errW_none, errW_some] <;> rfl) | (simp [*, errW_none, errW_some] <;> rfl), by repeat (first | (with_reducible first | exact HB.out | apply below_alloc | apply pw_below_drewN | apply below_drew1 | refine below_set ?_ GE247.out | refine below_set ?_ GE258.out | refine below_set ?_ GE263.out | refine below_set ?_ GE269.out | refine below_set ?_ GE291.out) | exact HB.out)⟩
               ·rw [if_neg c157] at H
                have c157b0 : (t293 == t279) = false := beq_eq_false_iff_ne.mpr c157
                have c157b1 : (t293 != t279) = true := bne_iff_ne.mpr c157
                obtain rfl := Option.some.inj H
                have hnb164 := NB269_247.out
                have hnc164 := NB247_269.out
                have hnb165 := NB269_258.out
                have hnc165 := NB258_269.out
                have hnb166 := NB269_263.out
                have hnc166 := NB263_269.out
                have hnb167 := NB269_291.out
                have hnc167 := NB291_269.out
                have hcz168_0 := cz_ BK269 0 (.int .i64 t264)
                have hcz168_1 := cz_ BK269 1 (.slice Ao38 t280.length co38)
                have hfz168_0 := blk_frozen BK269.out 0
                have hfz168_1 := blk_frozen BK269.out 1
                go_wp2_with (first | ((with_reducible refine gate_callee (f := 27) rfl ?_); refine gl_ (some 100) Try.func27 #[.agg #[.int .i64 t264, .slice Ao38 t280.length co38], .int .i64 1] ?_; (with_reducible refine (laws_heldGraph.calls kj104 t264 _ _ t280 1 t293 _ ?side1 ?side2 A149.out).mono ?_); (case side1 => exact rc_ HO_270001); (case side2 => exact (Kd.R_reads' HO_270001.out).2.1); rintro e w169 ⟨rfl, hb⟩; refine ⟨_, rfl, ?_⟩; replace HO_259001 := rb_ HO_259001 hb; replace HO_264001 := rb_ HO_264001 hb; replace HO_270001 := rb_ HO_270001 hb; replace HO_292001 := rb_ HO_292001 hb; replace BK247 := Aside0.mk (bb_ BK247 hb); replace BK258 := Aside0.mk (bb_ BK258 hb); replace BK263 := Aside0.mk (bb_ BK263 hb); replace BK269 := Aside0.mk (bb_ BK269 hb); replace BK291 := Aside0.mk (bb_ BK291 hb); replace HB := Aside0.mk (bt_ HB hb); (try clear hb); (try clear hb2); (try clear hk); (try clear hi)))
                go_ret
                exact ⟨by first | rfl | (simp [errW_none, errW_some] <;> rfl) | (simp [*, errW_none, errW_some] <;> rfl), by repeat (first | (with_reducible first | exact HB.out | apply below_alloc | apply pw_below_drewN | apply below_drew1 | refine below_set ?_ GE247.out | refine below_set ?_ GE258.out | refine below_set ?_ GE263.out | refine below_set ?_ GE269.out | refine below_set ?_ GE291.out) | exact HB.out)⟩
          ·rw [if_neg c102] at H
           have c102b0 : (t281 == t279) = false := beq_eq_false_iff_ne.mpr c102
           have c102b1 : (t281 != t279) = true := bne_iff_ne.mpr c102
           obtain rfl := Option.some.inj H
           have hnb170 := NB269_247.out
           have hnc170 := NB247_269.out
           have hnb171 := NB269_258.out
           have hnc171 := NB258_269.out
           have hnb172 := NB269_263.out
           have hnc172 := NB263_269.out
           have hcz173_0 := cz_ BK269 0 (.int .i64 t264)
           have hcz173_1 := cz_ BK269 1 (.slice Ao38 t265.length co38)
           have hfz173_0 := blk_frozen BK269.out 0
           have hfz173_1 := blk_frozen BK269.out 1
           go_wp2_with (first | ((with_reducible refine gate_callee (f := 26) rfl ?_); refine gl_ (some 72) Try.func26 #[.agg #[.int .i64 t264, .slice Ao38 t265.length co38], .int .i64 1] ?_; (with_reducible refine (laws_markGraph.calls kj61 t264 (fun k_ => some k_ = (.slice Ao38 t265.length co38 : Value).ownBlock) (.slice Ao38 t265.length co38) t265 1 t279 t280 w _ ?side1 ?side2 A92.out).mono ?_); (case side1 => exact by_ HB); (case side2 => exact Kd.R_tight rfl HO_270001.out); rintro e w174 ⟨rfl, hy0, hb, hkp⟩; refine ⟨_, rfl, ?_⟩; replace HO_259001 := kp_ (fun k_ => some k_ ≠ (.slice Ao31 t277.length co31 : Value).ownBlock ∧ some k_ ≠ (.slice Ao38 t265.length co38 : Value).ownBlock) (HO_259001.out) hkp; replace HO_264001 := kp_ (fun k_ => some k_ ≠ (.slice Ao24 t254.length co24 : Value).ownBlock ∧ some k_ ≠ (.slice Ao38 t265.length co38 : Value).ownBlock) (HO_264001.out) hkp; replace BK247 := bk_ BK247 hkp (fun hs_ => (Kd.R_ne HO_270001.out BK247.out (by decide)) hs_); replace BK258 := bk_ BK258 hkp (fun hs_ => (Kd.R_ne HO_270001.out BK258.out (by decide)) hs_); replace BK263 := bk_ BK263 hkp (fun hs_ => (Kd.R_ne HO_270001.out BK263.out (by decide)) hs_); replace BK269 := bk_ BK269 hkp (fun hs_ => (Kd.R_ne HO_270001.out BK269.out (by decide)) hs_); replace HO_270001 := Aside0.mk (Kd.R_reok rfl hy0 (fun k_ e_ => HO_270001.out.1 k_ e_)); replace HB := Aside0.mk (hb); (try clear hb); (try clear hkp); (try clear hy0); have hcz175_0 := cz_ BK269 0 (.int .i64 t264); have hcz175_1 := cz_ BK269 1 (.slice Ao38 t265.length co38); have hfz175_0 := blk_frozen BK269.out 0; have hfz175_1 := blk_frozen BK269.out 1) | ((with_reducible refine gate_callee (f := 27) rfl ?_); refine goesL_ (some 75) rfl rfl Try.func27 (by kernel_rfl) rfl #[.agg #[.int .i64 t264, .slice Ao38 t280.length co38], .int .i64 1] rfl (by (try simp only [List.map_toArray, List.map_cons, List.map_nil]); first | done | (rw [show t280.length = t265.length from (Kd.R_reads' HO_270001.out).1.symm] <;> rfl) | rfl | (simp only [List.length_drop, List.length_take]; rfl)) ?_; (with_reducible refine (laws_heldGraph.calls kj61 t264 _ _ t280 1 t281 _ ?side1 ?side2 A93.out).mono ?_); (case side1 => exact rc_ HO_270001); (case side2 => rw [show t280.length = t265.length from (Kd.R_reads' HO_270001.out).1.symm]; exact (Kd.R_reads' HO_270001.out).2.1); rintro e w176 ⟨rfl, hb⟩; refine ⟨_, rfl, ?_⟩; replace HO_259001 := rb_ HO_259001 hb; replace HO_264001 := rb_ HO_264001 hb; replace HO_270001 := rb_ HO_270001 hb; replace BK247 := Aside0.mk (bb_ BK247 hb); replace BK258 := Aside0.mk (bb_ BK258 hb); replace BK263 := Aside0.mk (bb_ BK263 hb); replace BK269 := Aside0.mk (bb_ BK269 hb); replace HB := Aside0.mk (bt_ HB hb); (try clear hb); (try clear hb2); (try clear hk); (try clear hi)))
           go_ret
           exact ⟨by first | rfl | (simp [errW_none, errW_some] <;> rfl) | (simp [*, errW_none, errW_some] <;> rfl), by repeat (first | (with_reducible first | exact HB.out | apply below_alloc | apply pw_below_drewN | apply below_drew1 | refine below_set ?_ GE247.out | refine below_set ?_ GE258.out | refine below_set ?_ GE263.out | refine below_set ?_ GE269.out) | exact HB.out)⟩
     ·replace c60 := Bool.eq_false_iff.mpr c60
      subst c60
      rw [if_neg (show ¬ (false = true) by decide)] at H
      obtain rfl := Option.some.inj H
      try go_wp2
      replace HO_259001 := Aside0.mk (Kd.R_drew HO_259001.out)
      replace HO_264001 := Aside0.mk (Kd.R_drew HO_264001.out)
      replace HO_270001 := Aside0.mk (Kd.R_drew HO_270001.out)
      replace BK247 := Aside0.mk (blk_drew BK247.out)
      replace BK258 := Aside0.mk (blk_drew BK258.out)
      replace BK263 := Aside0.mk (blk_drew BK263.out)
      replace BK269 := Aside0.mk (blk_drew BK269.out)
      replace HB := Aside0.mk (below_drew1 HB.out)
      refine start_ (n := 5) (S := fun w' => w'.cell? ⟨gb263, 0, none⟩ = some (.int .i64 t259) ∧ w'.cell? ⟨gb263, 1, none⟩ = some (.slice Ao31 t260.length co31) ∧ w'.cell? ⟨gb247, 0, none⟩ = some (.int .i64 a0_0) ∧ w'.cell? ⟨gb247, 1, none⟩ = some (.slice A0_1 l0_1.length c0_1)) (ds := []) ba7_0 (by kernel_rfl) rfl rfl ⟨(blk_cell BK263.out 0).trans rfl, (blk_cell BK263.out 1).trans rfl, (blk_cell BK247.out 0).trans rfl, (blk_cell BK247.out 1).trans rfl⟩ (fun hHeld => ?_)
      generalize wc.drew = w177 at HO_259001 HO_264001 HO_270001 BK247 BK258 BK263 BK269 HB hHeld ⊢
      refine take_ (i := 0) (N := some 49) (v := ?_) (a' := ?_) ba7_1 rfl rfl (by kernel_rfl) (fun _ _ _ h => h) (Or.inl ⟨by rfl, ?_⟩) hHeld ?_ ?_
      rotate_left; · rintro w' ⟨s0, s1, s2, s3⟩; go_simp; with_reducible rfl
      rotate_left; · simp only [Act.put, List.setIfInBounds_toArray, List.set_cons_zero, List.set_cons_succ, i64_w, i32_w]; rfl
      refine take_ (i := 1) (N := some 50) (v := ?_) (a' := ?_) ba7_2 rfl rfl (by kernel_rfl) (fun _ _ _ h => h) (Or.inl ⟨by rfl, ?_⟩) hHeld ?_ ?_
      rotate_left; · rintro w' ⟨s0, s1, s2, s3⟩; go_simp; with_reducible rfl
      rotate_left; · simp only [Act.put, List.setIfInBounds_toArray, List.set_cons_zero, List.set_cons_succ, i64_w, i32_w]; rfl
      refine one_ (i := 2) (N := some 51) ba7_3 rfl rfl (by kernel_rfl) (by decide) (fun K hK => ?_)
      refine gz_ Try.func17 #[.agg #[.int .i64 a0_0, .slice A0_1 l0_1.length c0_1]] ?_
      with_reducible refine (laws_toGraph.calls kj12 a0_0 _ _ l0_1 t271 t272 _ ?side1 ?side2 A58.out).mono ?_
      (case side1 => exact cb_ HR0_1 HB)
      (case side2 => exact HC0_1.out)
      rintro e w178 ⟨v273, rfl, ho0, hb⟩
      refine ⟨_, rfl, ?_⟩
      have HO274 := Aside0.mk (Kd.R_lower (Kd.R_new' (Kd.R_new' (Kd.R_new' ho0 (Kd.R_lt (hd_ HO_259001))) (Kd.R_lt (hd_ HO_264001))) (Kd.R_lt (hd_ HO_270001))) (bz_ HB))
      replace HO_259001 := Aside0.mk (Kd.R_elder' (hd_ HO_259001) (Kd.R_base ho0) hb)
      replace HO_264001 := Aside0.mk (Kd.R_elder' (hd_ HO_264001) (Kd.R_base ho0) hb)
      replace HO_270001 := Aside0.mk (Kd.R_elder' (hd_ HO_270001) (Kd.R_base ho0) hb)
      replace BK247 := Aside0.mk (bb_ BK247 hb)
      replace BK258 := Aside0.mk (bb_ BK258 hb)
      replace BK263 := Aside0.mk (bb_ BK263 hb)
      replace BK269 := Aside0.mk (bb_ BK269 hb)
      replace HB := Aside0.mk (bt_ HB hb)
      (try clear hb)
      (try clear hb2)
      (try clear hk)
      (try clear hi)
      (try clear ho0)
      obtain ⟨Ao179, co179, eo179⟩ := Kd.R_slice HO274.out
      (first | subst eo179 | (injection eo179 with f1_ f2_ f3_; have f4_ := f1_.symm; have f5_ := f3_.symm; clear f1_ f2_ f3_; subst f4_; subst f5_))
      refine hK.out _ _ ⟨(blk_cell BK263.out 0).trans rfl, (blk_cell BK263.out 1).trans rfl, (blk_cell BK247.out 0).trans rfl, (blk_cell BK247.out 1).trans rfl⟩ (fun hHeld => ?_)
      clear hK K
      refine nz_ 51 ?_
      refine one_ (i := 3) (N := some 52) ba7_4 rfl rfl (by kernel_rfl) (by decide) (fun K hK => ?_)
      refine gz_ Try.func20 #[.agg #[.int .i64 t259, .slice Ao31 t260.length co31], .agg #[.int .i64 t271, .slice Ao179 t272.length co179]] ?_
      with_reducible refine (laws_eqGraph.calls kj12 t259 _ _ t260 t271 _ _ t272 false _ ?side1 ?side2 ?side3 ?side4 A59.out).mono ?_
      (case side1 => exact rc_ HO_264001)
      (case side2 => exact (Kd.R_reads' HO_264001.out).2.1)
      (case side3 => exact rc_ HO274)
      (case side4 => exact (Kd.R_reads' HO274.out).2.1)
      rintro e w180 ⟨rfl, hb⟩
      refine ⟨_, rfl, ?_⟩
      replace HO_259001 := rb_ HO_259001 hb
      replace HO_264001 := rb_ HO_264001 hb
      replace HO_270001 := rb_ HO_270001 hb
      replace HO274 := rb_ HO274 hb
      replace BK247 := Aside0.mk (bb_ BK247 hb)
      replace BK258 := Aside0.mk (bb_ BK258 hb)
      replace BK263 := Aside0.mk (bb_ BK263 hb)
      replace BK269 := Aside0.mk (bb_ BK269 hb)
      replace HB := Aside0.mk (bt_ HB hb)
      (try clear hb)
      (try clear hb2)
      (try clear hk)
      (try clear hi)
      refine hK.out _ _ ⟨(blk_cell BK263.out 0).trans rfl, (blk_cell BK263.out 1).trans rfl, (blk_cell BK247.out 0).trans rfl, (blk_cell BK247.out 1).trans rfl⟩ (fun hHeld => ?_)
      clear hK K
      refine nz_ 52 ?_
      refine pure_ (i := 4) (N := some 53) (v := ?_) (a' := ?_) ba7_5 rfl rfl (by kernel_rfl) (fun _ _ _ h => h) (Or.inl ⟨by rfl, ?_⟩) ?_ ?_
      rotate_left; · intro w'; go_simp; with_reducible rfl
      rotate_left; · simp only [Act.put, List.setIfInBounds_toArray, List.set_cons_zero, List.set_cons_succ, i64_w, i32_w]; rfl
      refine done_ (by kernel_rfl) ?_
      try go_wp2
      go_ret
      exact ⟨by first | rfl | (simp [errW_none, errW_some] <;> rfl) | (simp [*, errW_none, errW_some] <;> rfl), by repeat (first | (with_reducible first | exact HB.out | apply below_alloc | apply pw_below_drewN | apply below_drew1 | refine below_set ?_ GE247.out | refine below_set ?_ GE258.out | refine below_set ?_ GE263.out | refine below_set ?_ GE269.out) | exact HB.out)⟩

end Go.Proofs.Yteopiggdpadolaa.QFnExactWithout
