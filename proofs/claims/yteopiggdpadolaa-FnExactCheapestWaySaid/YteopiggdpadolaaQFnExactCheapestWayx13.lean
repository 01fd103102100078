/- Contracts of functions that the law reaches: what each call returns and what it leaves in memory. Made by this session over the print of the kit. -/
import Derived.Test.YteopiggdpadolaaQFnExactCheapestWayx0
import Derived.Test.YteopiggdpadolaaQFnExactCheapestWayx1
import Derived.Test.YteopiggdpadolaaQFnExactCheapestWayx2
import Derived.Test.YteopiggdpadolaaQFnExactCheapestWayx7
import Derived.Test.YteopiggdpadolaaQFnExactCheapestWayx12
namespace Go.Proofs.Yteopiggdpadolaa.QFnExactCheapestWay
open Go.RowKit Go.Proofs.YteopiggdpadolaaV.PrintWords Go.Proofs.YteopiggdpadolaaV.PrintLast Go.Proofs.YteopiggdpadolaaV.PrintMore
attribute [local go_sem] max2_int min2_int max_two min_two max_three min_three max_four min_four   -- for this text's walks alone
set_option linter.unusedVariables false
set_option linter.unusedSimpArgs false
def ba13_0 : Array Bool := #[false, false, false, false, false]
def ba13_1 : Array Bool := #[true, false, false, false, false]
def ba13_2 : Array Bool := #[true, true, false, false, false]
def ba13_3 : Array Bool := #[true, true, true, false, false]
def ba13_4 : Array Bool := #[true, true, true, true, false]
def ba13_5 : Array Bool := #[true, true, true, true, true]

/-! ### laws_FnExactCheapestWay: function 9 -/
mutual
def laws_FnExactCheapestWay.j0 : Nat → Int → Int → List Int → Bool → List Int → Bool → Bool → Int → List (S82) → Int → List (S67) → Option (Bool)
 | 0, _, _, _, _, _, _, _, _, _, _, _ => none
 | k + 1, x1, x2, x8, x9, x11, x12, x48, x338000, x338001, x352000, x352001 => if x48 = true then (some false) else ((laws_toGraph.f k x338000 x338001).bind fun bt357 => ((laws_eqGraph.f k x352000 x352001 bt357.1 bt357.2).bind fun t361 => (if t361 = true then ((laws_markGraph.f k x352000 x352001 1).bind fun bt362 => (if bt362.1 < 0 then (laws_FnExactCheapestWay.j1 k x1 x2 x8 x9 x11 true x338000 x338001) else ((laws_eqIntS.f k x11 x8).bind fun t364 => (if t364 = true then (laws_FnExactCheapestWay.j1 k x1 x2 x8 x9 x11 (x12 != x9) x338000 x338001) else (laws_FnExactCheapestWay.j1 k x1 x2 x8 x9 x11 true x338000 x338001))))) else (some false))))
def laws_FnExactCheapestWay.j1 : Nat → Int → Int → List Int → Bool → List Int → Bool → Int → List (S82) → Option (Bool)
 | 0, _, _, _, _, _, _, _, _ => none
 | k + 1, x1, x2, x8, x9, x11, x69, x338000, x338001 => if x69 = true then (some false) else ((laws_markIntS.f k x11 1).bind fun bt365 => ((laws_heldIntS.f k bt365.2 1).bind fun t367 => (if t367 < 0 then (some false) else (if t367 = bt365.1 then ((laws_toGraph.f k x338000 x338001).bind fun bt368 => ((impl_CheapestWay.f k bt368.1 bt368.2 x1 x2).bind fun bt372 => ((laws_eqIntS.f k bt372.1 x8).bind fun t376 => (if t376 = true then (laws_FnExactCheapestWay.j2 k bt365.2 bt365.1 (bt372.2 != x9)) else (laws_FnExactCheapestWay.j2 k bt365.2 bt365.1 true))))) else (some false)))))
def laws_FnExactCheapestWay.j2 : Nat → List Int → Int → Bool → Option (Bool)
 | 0, _, _, _ => none
 | k + 1, x11, x14, x97 => if x97 = true then (some false) else ((laws_heldIntS.f k x11 1).bind fun t377 => (if t377 < 0 then (some false) else (if t377 = x14 then (some true) else (some false))))
end
def laws_FnExactCheapestWay.f (k : Nat) (a0_0 : Int) (l0_1 : List (S82)) (a1 : Int) (a2 : Int) : Option (Bool) := (laws_szGraph.f a0_0 l0_1 1048576).bind fun t338 => (if t338 < 0 then (some true) else ((laws_toGraph.f k a0_0 l0_1).bind fun bt339 => ((spec_CheapestWay.f k bt339.1 bt339.2 a1 a2).bind fun bt343 => ((laws_toGraph.f k a0_0 l0_1).bind fun bt347 => ((impl_CheapestWay.f k bt347.1 bt347.2 a1 a2).bind fun bt352 => ((laws_eqIntS.f k bt352.1 bt343.1).bind fun t356 => (if t356 = true then (laws_FnExactCheapestWay.j0 k a1 a2 bt343.1 bt343.2 bt352.1 bt352.2 (bt352.2 != bt343.2) a0_0 l0_1 bt347.1 bt347.2) else (laws_FnExactCheapestWay.j0 k a1 a2 bt343.1 bt343.2 bt352.1 bt352.2 true a0_0 l0_1 bt347.1 bt347.2))))))))
theorem laws_FnExactCheapestWay.mono_l : ∀ k, (∀ y0 y1 y2 y3 y4 y5 y6 y7 y8 y9 y10, LeO (laws_FnExactCheapestWay.j0 k y0 y1 y2 y3 y4 y5 y6 y7 y8 y9 y10) (laws_FnExactCheapestWay.j0 (k + 1) y0 y1 y2 y3 y4 y5 y6 y7 y8 y9 y10)) ∧ (∀ y0 y1 y2 y3 y4 y5 y6 y7, LeO (laws_FnExactCheapestWay.j1 k y0 y1 y2 y3 y4 y5 y6 y7) (laws_FnExactCheapestWay.j1 (k + 1) y0 y1 y2 y3 y4 y5 y6 y7)) ∧ (∀ y0 y1 y2, LeO (laws_FnExactCheapestWay.j2 k y0 y1 y2) (laws_FnExactCheapestWay.j2 (k + 1) y0 y1 y2))
 | 0 => ⟨fun _ _ _ _ _ _ _ _ _ _ _ r h => by simp [laws_FnExactCheapestWay.j0] at h, fun _ _ _ _ _ _ _ _ r h => by simp [laws_FnExactCheapestWay.j1] at h, fun _ _ _ r h => by simp [laws_FnExactCheapestWay.j2] at h⟩
 | k + 1 => by
  obtain ⟨ih0, ih1, ih2⟩ := laws_FnExactCheapestWay.mono_l k
  refine ⟨?_, ?_, ?_⟩
  ·intro y0 y1 y2 y3 y4 y5 y6 y7 y8 y9 y10
   unfold laws_FnExactCheapestWay.j0
   repeat' first
   | (with_reducible exact ih0 _ _ _ _ _ _ _ _ _ _ _)
   | (with_reducible exact ih1 _ _ _ _ _ _ _ _)
   | (with_reducible exact ih2 _ _ _)
   | (with_reducible exact impl_CheapestWay.mono _ _ _ _ _)
   | (with_reducible exact laws_eqGraph.mono _ _ _ _ _)
   | (with_reducible exact laws_eqIntS.mono _ _ _)
   | (with_reducible exact laws_heldIntS.mono _ _ _)
   | (with_reducible exact laws_markGraph.mono _ _ _ _)
   | (with_reducible exact laws_markIntS.mono _ _ _)
   | (with_reducible exact laws_toGraph.mono _ _ _)
   | (with_reducible exact spec_CheapestWay.mono _ _ _ _ _)
   | (with_reducible exact LeO.refl _)
   | (with_reducible exact LeO.none _)
   | (with_reducible refine LeO.ite ?_ ?_)
   | (with_reducible refine LeO.bind ?_ (fun _ => ?_))
   | exact ih0 _ _ _ _ _ _ _ _ _ _ _
   | exact ih1 _ _ _ _ _ _ _ _
   | exact ih2 _ _ _
   | exact impl_CheapestWay.mono _ _ _ _ _
   | exact laws_eqGraph.mono _ _ _ _ _
   | exact laws_eqIntS.mono _ _ _
   | exact laws_heldIntS.mono _ _ _
   | exact laws_markGraph.mono _ _ _ _
   | exact laws_markIntS.mono _ _ _
   | exact laws_toGraph.mono _ _ _
   | exact spec_CheapestWay.mono _ _ _ _ _
   | exact LeO.none _
   | refine LeO.ite ?_ ?_
   | refine LeO.bind ?_ (fun _ => ?_)
  ·intro y0 y1 y2 y3 y4 y5 y6 y7
   unfold laws_FnExactCheapestWay.j1
   repeat' first
   | (with_reducible exact ih0 _ _ _ _ _ _ _ _ _ _ _)
   | (with_reducible exact ih1 _ _ _ _ _ _ _ _)
   | (with_reducible exact ih2 _ _ _)
   | (with_reducible exact impl_CheapestWay.mono _ _ _ _ _)
   | (with_reducible exact laws_eqGraph.mono _ _ _ _ _)
   | (with_reducible exact laws_eqIntS.mono _ _ _)
   | (with_reducible exact laws_heldIntS.mono _ _ _)
   | (with_reducible exact laws_markGraph.mono _ _ _ _)
   | (with_reducible exact laws_markIntS.mono _ _ _)
   | (with_reducible exact laws_toGraph.mono _ _ _)
   | (with_reducible exact spec_CheapestWay.mono _ _ _ _ _)
   | (with_reducible exact LeO.refl _)
   | (with_reducible exact LeO.none _)
   | (with_reducible refine LeO.ite ?_ ?_)
   | (with_reducible refine LeO.bind ?_ (fun _ => ?_))
   | exact ih0 _ _ _ _ _ _ _ _ _ _ _
   | exact ih1 _ _ _ _ _ _ _ _
   | exact ih2 _ _ _
   | exact impl_CheapestWay.mono _ _ _ _ _
   | exact laws_eqGraph.mono _ _ _ _ _
   | exact laws_eqIntS.mono _ _ _
   | exact laws_heldIntS.mono _ _ _
   | exact laws_markGraph.mono _ _ _ _
   | exact laws_markIntS.mono _ _ _
   | exact laws_toGraph.mono _ _ _
   | exact spec_CheapestWay.mono _ _ _ _ _
   | exact LeO.none _
   | refine LeO.ite ?_ ?_
   | refine LeO.bind ?_ (fun _ => ?_)
  ·intro y0 y1 y2
   unfold laws_FnExactCheapestWay.j2
   repeat' first
   | (with_reducible exact ih0 _ _ _ _ _ _ _ _ _ _ _)
   | (with_reducible exact ih1 _ _ _ _ _ _ _ _)
   | (with_reducible exact ih2 _ _ _)
   | (with_reducible exact impl_CheapestWay.mono _ _ _ _ _)
   | (with_reducible exact laws_eqGraph.mono _ _ _ _ _)
   | (with_reducible exact laws_eqIntS.mono _ _ _)
   | (with_reducible exact laws_heldIntS.mono _ _ _)
   | (with_reducible exact laws_markGraph.mono _ _ _ _)
   | (with_reducible exact laws_markIntS.mono _ _ _)
   | (with_reducible exact laws_toGraph.mono _ _ _)
   | (with_reducible exact spec_CheapestWay.mono _ _ _ _ _)
   | (with_reducible exact LeO.refl _)
   | (with_reducible exact LeO.none _)
   | (with_reducible refine LeO.ite ?_ ?_)
   | (with_reducible refine LeO.bind ?_ (fun _ => ?_))
   | exact ih0 _ _ _ _ _ _ _ _ _ _ _
   | exact ih1 _ _ _ _ _ _ _ _
   | exact ih2 _ _ _
   | exact impl_CheapestWay.mono _ _ _ _ _
   | exact laws_eqGraph.mono _ _ _ _ _
   | exact laws_eqIntS.mono _ _ _
   | exact laws_heldIntS.mono _ _ _
   | exact laws_markGraph.mono _ _ _ _
   | exact laws_markIntS.mono _ _ _
   | exact laws_toGraph.mono _ _ _
   | exact spec_CheapestWay.mono _ _ _ _ _
   | exact LeO.none _
   | refine LeO.ite ?_ ?_
   | refine LeO.bind ?_ (fun _ => ?_)
theorem laws_FnExactCheapestWay.mono : ∀ a0 a1 a2 a3 k, LeO (laws_FnExactCheapestWay.f k a0 a1 a2 a3) (laws_FnExactCheapestWay.f (k + 1) a0 a1 a2 a3) := by
 intro a0 a1 a2 a3 k
 obtain ⟨ih0, ih1, ih2⟩ := laws_FnExactCheapestWay.mono_l k
 unfold laws_FnExactCheapestWay.f
 repeat' first
   | (with_reducible exact ih0 _ _ _ _ _ _ _ _ _ _ _)
   | (with_reducible exact ih1 _ _ _ _ _ _ _ _)
   | (with_reducible exact ih2 _ _ _)
   | (with_reducible exact impl_CheapestWay.mono _ _ _ _ _)
   | (with_reducible exact laws_eqGraph.mono _ _ _ _ _)
   | (with_reducible exact laws_eqIntS.mono _ _ _)
   | (with_reducible exact laws_heldIntS.mono _ _ _)
   | (with_reducible exact laws_markGraph.mono _ _ _ _)
   | (with_reducible exact laws_markIntS.mono _ _ _)
   | (with_reducible exact laws_toGraph.mono _ _ _)
   | (with_reducible exact spec_CheapestWay.mono _ _ _ _ _)
   | (with_reducible exact LeO.refl _)
   | (with_reducible exact LeO.none _)
   | (with_reducible refine LeO.ite ?_ ?_)
   | (with_reducible refine LeO.bind ?_ (fun _ => ?_))
   | exact ih0 _ _ _ _ _ _ _ _ _ _ _
   | exact ih1 _ _ _ _ _ _ _ _
   | exact ih2 _ _ _
   | exact impl_CheapestWay.mono _ _ _ _ _
   | exact laws_eqGraph.mono _ _ _ _ _
   | exact laws_eqIntS.mono _ _ _
   | exact laws_heldIntS.mono _ _ _
   | exact laws_markGraph.mono _ _ _ _
   | exact laws_markIntS.mono _ _ _
   | exact laws_toGraph.mono _ _ _
   | exact spec_CheapestWay.mono _ _ _ _ _
   | exact LeO.none _
   | refine LeO.ite ?_ ?_
   | refine LeO.bind ?_ (fun _ => ?_)
set_option maxHeartbeats 8000000 in
set_option maxRecDepth 100000 in
theorem laws_FnExactCheapestWay.calls (k : Nat) (a0_0 : Int) (A0_1 : Option Addr) (c0_1 : Nat) (l0_1 : List (S82)) (a1 : Int) (a2 : Int) (r : Bool) (w : World) (hr0_1 : Kd.C k82 w A0_1 l0_1.length l0_1) (hc0_1 : l0_1.length ≤ c0_1) (h : laws_FnExactCheapestWay.f k a0_0 l0_1 a1 a2 = some r) :
  Calls Try.prog 9 #[.agg #[.int .i64 a0_0, .slice A0_1 l0_1.length c0_1], .int .i64 a1, .int .i64 a2] w fun e w' => e = .returned (.bool r) ∧ Below w.heap.size w w' := by
 have hu24 := Try.underlying24
 have hu30 := Try.underlying30
 have HR0_1 := Aside0.mk hr0_1
 have HC0_1 := Aside0.mk hc0_1
 clear hr0_1 hc0_1
 have HB := Aside0.mk (Below.refl w.heap.size w)
 have H : ((laws_szGraph.f a0_0 l0_1 1048576).bind fun t338 => (if t338 < 0 then (some true) else ((laws_toGraph.f k a0_0 l0_1).bind fun bt339 => ((spec_CheapestWay.f k bt339.1 bt339.2 a1 a2).bind fun bt343 => ((laws_toGraph.f k a0_0 l0_1).bind fun bt347 => ((impl_CheapestWay.f k bt347.1 bt347.2 a1 a2).bind fun bt352 => ((laws_eqIntS.f k bt352.1 bt343.1).bind fun t356 => (if t356 = true then (laws_FnExactCheapestWay.j0 k a1 a2 bt343.1 bt343.2 bt352.1 bt352.2 (bt352.2 != bt343.2) a0_0 l0_1 bt347.1 bt347.2) else (laws_FnExactCheapestWay.j0 k a1 a2 bt343.1 bt343.2 bt352.1 bt352.2 true a0_0 l0_1 bt347.1 bt347.2))))))))) = some r := h
 clear h
 replace H := Option.bind_eq_some_iff.mp H
 obtain ⟨t338, A40, H⟩ := H
 have A4 := Aside0.mk A40
 clear A40
 by_cases c5 : t338 < 0
 ·rw [if_pos c5] at H
  have c5b0 : decide (t338 < 0) = true := decide_eq_true c5
  clear c5
  obtain rfl := Option.some.inj H
  go_enter Try.func9, Try.ntmps9
  go_wp2_with (first | ((with_reducible refine gate_dst (N := 3) rfl ?_); refine box_event ?hg (N := 3) ?hd (cs := #[.int .i64 a0_0, .slice A0_1 l0_1.length c0_1]) (t := 24) ?hr ?_; (case hd => rfl); (case hg => rfl); (case hr => first | (go_simp; done) | (go_simp; rfl)); intro gb337 hg w6 hbox hb; have BK337 := Aside0.mk hbox; have GW337 := ge_ HB hg; have GE337 := ge_ HB hg; replace HB := Aside0.mk (bt_ HB hb); clear hb hbox hg; have hcz7_0 := cz_ BK337 0 (.int .i64 a0_0); have hcz7_1 := cz_ BK337 1 (.slice A0_1 l0_1.length c0_1); have hfz7_0 := blk_frozen BK337.out 0; have hfz7_1 := blk_frozen BK337.out 1) | ((with_reducible refine gate_callee (f := 15) rfl ?_); refine gl_ (some 20) Try.func15 #[.agg #[.int .i64 a0_0, .slice A0_1 l0_1.length c0_1], .int .i64 1048576] ?_; (with_reducible refine (laws_szGraph.calls a0_0 _ _ l0_1 1048576 t338 _ ?side1 ?side2 A4.out).mono ?_); (case side1 => exact cb_ HR0_1 HB); (case side2 => exact HC0_1.out); rintro e w8 ⟨rfl, hb⟩; refine ⟨_, rfl, ?_⟩; replace BK337 := Aside0.mk (bb_ BK337 hb); replace HB := Aside0.mk (bt_ HB hb); (try clear hb); (try clear hb2); (try clear hk); (try clear hi)))
  go_ret
  exact ⟨by first | rfl | (simp [errW_none, errW_some] <;> rfl) | (simp [*, errW_none, errW_some] <;> rfl), by repeat (first | (with_reducible first | exact HB.out | apply below_alloc | apply pw_below_drewN | apply below_drew1 | refine below_set ?_ GE337.out) | exact HB.out)⟩
 ·rw [if_neg c5] at H
  have c5b0 : decide (t338 < 0) = false := decide_eq_false c5
  clear c5
  replace H := Option.bind_eq_some_iff.mp H
  obtain ⟨⟨t339, t340⟩, A90, H⟩ := H
  have A9 := Aside0.mk A90
  clear A90
  replace H := Option.bind_eq_some_iff.mp H
  obtain ⟨⟨t343, t346⟩, A100, H⟩ := H
  have A10 := Aside0.mk A100
  clear A100
  replace H := Option.bind_eq_some_iff.mp H
  obtain ⟨⟨t347, t348⟩, A110, H⟩ := H
  have A11 := Aside0.mk A110
  clear A110
  replace H := Option.bind_eq_some_iff.mp H
  obtain ⟨⟨t352, t355⟩, A120, H⟩ := H
  have A12 := Aside0.mk A120
  clear A120
  have HC13 := Aside0.mk H
  clear H
  go_enter Try.func9, Try.ntmps9
  go_upto_region 8 with (first | ((with_reducible refine gate_dst (N := 3) rfl ?_); refine box_event ?hg (N := 3) ?hd (cs := #[.int .i64 a0_0, .slice A0_1 l0_1.length c0_1]) (t := 24) ?hr ?_; (case hd => rfl); (case hg => rfl); (case hr => first | (go_simp; done) | (go_simp; rfl)); intro gb337 hg w14 hbox hb; have BK337 := Aside0.mk hbox; have GW337 := ge_ HB hg; have GE337 := ge_ HB hg; replace HB := Aside0.mk (bt_ HB hb); clear hb hbox hg; have hcz15_0 := cz_ BK337 0 (.int .i64 a0_0); have hcz15_1 := cz_ BK337 1 (.slice A0_1 l0_1.length c0_1); have hfz15_0 := blk_frozen BK337.out 0; have hfz15_1 := blk_frozen BK337.out 1) | ((with_reducible refine gate_callee (f := 15) rfl ?_); refine gl_ (some 20) Try.func15 #[.agg #[.int .i64 a0_0, .slice A0_1 l0_1.length c0_1], .int .i64 1048576] ?_; (with_reducible refine (laws_szGraph.calls a0_0 _ _ l0_1 1048576 t338 _ ?side1 ?side2 A4.out).mono ?_); (case side1 => exact cb_ HR0_1 HB); (case side2 => exact HC0_1.out); rintro e w16 ⟨rfl, hb⟩; refine ⟨_, rfl, ?_⟩; replace BK337 := Aside0.mk (bb_ BK337 hb); replace HB := Aside0.mk (bt_ HB hb); (try clear hb); (try clear hb2); (try clear hk); (try clear hi); have hcz17_0 := cz_ BK337 0 (.int .i64 a0_0); have hcz17_1 := cz_ BK337 1 (.slice A0_1 l0_1.length c0_1); have hfz17_0 := blk_frozen BK337.out 0; have hfz17_1 := blk_frozen BK337.out 1) | ((with_reducible refine gate_callee (f := 17) rfl ?_); refine gl_ (some 25) Try.func17 #[.agg #[.int .i64 a0_0, .slice A0_1 l0_1.length c0_1]] ?_; (with_reducible refine (laws_toGraph.calls k a0_0 _ _ l0_1 t339 t340 _ ?side1 ?side2 A9.out).mono ?_); (case side1 => exact cb_ HR0_1 HB); (case side2 => exact HC0_1.out); rintro e w18 ⟨v341, rfl, ho0, hb⟩; refine ⟨_, rfl, ?_⟩; have HO342 := Aside0.mk (Kd.R_lower ho0 (bz_ HB)); replace BK337 := Aside0.mk (bb_ BK337 hb); replace HB := Aside0.mk (bt_ HB hb); (try clear hb); (try clear hb2); (try clear hk); (try clear hi); (try clear ho0); obtain ⟨Ao19, co19, eo19⟩ := Kd.R_slice HO342.out; subst eo19) | ((with_reducible refine gate_callee (f := 39) rfl ?_); refine gl_ (some 28) Try.func39 #[.agg #[.int .i64 t339, .slice Ao19 t340.length co19], .int .i64 a1, .int .i64 a2] ?_; (with_reducible refine (spec_CheapestWay.calls k t339 _ _ t340 a1 a2 t343 t346 _ ?side1 ?side2 A10.out).mono ?_); (case side1 => exact rc_ HO342); (case side2 => exact (Kd.R_reads' HO342.out).2.1); rintro e w20 ⟨v344, rfl, ho0, hb⟩; refine ⟨_, rfl, ?_⟩; have HO345 := Aside0.mk (Kd.R_lower ho0 (bz_ HB)); replace HO342 := rb_ HO342 hb; replace BK337 := Aside0.mk (bb_ BK337 hb); replace HB := Aside0.mk (bt_ HB hb); (try clear hb); (try clear hb2); (try clear hk); (try clear hi); (try clear ho0); have hcz21_0 := cz_ BK337 0 (.int .i64 a0_0); have hcz21_1 := cz_ BK337 1 (.slice A0_1 l0_1.length c0_1); have hfz21_0 := blk_frozen BK337.out 0; have hfz21_1 := blk_frozen BK337.out 1) | ((with_reducible refine gate_callee (f := 17) rfl ?_); refine gl_ (some 32) Try.func17 #[.agg #[.int .i64 a0_0, .slice A0_1 l0_1.length c0_1]] ?_; (with_reducible refine (laws_toGraph.calls k a0_0 _ _ l0_1 t347 t348 _ ?side1 ?side2 A11.out).mono ?_); (case side1 => exact cb_ HR0_1 HB); (case side2 => exact HC0_1.out); rintro e w22 ⟨v349, rfl, ho0, hb⟩; refine ⟨_, rfl, ?_⟩; have HO350 := Aside0.mk (Kd.R_lower (Kd.R_new' ho0 (Kd.R_lt (hd_ HO342))) (bz_ HB)); replace HO345 := rb_ HO345 hb; replace HO342 := Aside0.mk (Kd.R_elder' (hd_ HO342) (Kd.R_base ho0) hb); replace BK337 := Aside0.mk (bb_ BK337 hb); replace HB := Aside0.mk (bt_ HB hb); (try clear hb); (try clear hb2); (try clear hk); (try clear hi); (try clear ho0)) | ((with_reducible refine gate_dst (N := 10) rfl ?_); refine box_event ?hg (N := 10) ?hd (cs := #[.int .i64 0, .slice none 0 0]) (t := 30) ?hr ?_; (case hd => rfl); (case hg => rfl); (case hr => first | (go_simp; done) | (go_simp; rfl)); intro gb351 hg w23 hbox hb; have BK351 := Aside0.mk hbox; have GW351 := ge_ HB hg; have GE351 := ge_ HB hg; have NB337_351 := nl_ BK337 hg; have NB351_337 := ng_ BK337 hg; replace HO342 := rb_ HO342 hb; replace HO345 := rb_ HO345 hb; replace HO350 := rb_ HO350 hb; replace HB := Aside0.mk (bt_ HB hb); replace BK337 := Aside0.mk (bb_ BK337 hb); clear hb hbox hg; have hnb24 := NB351_337.out; have hnc24 := NB337_351.out; have hcz25_0 := cz_ BK351 0 (.int .i64 0); have hcz25_1 := cz_ BK351 1 (.slice none 0 0); have hfz25_0 := blk_frozen BK351.out 0; have hfz25_1 := blk_frozen BK351.out 1; obtain ⟨Ao26, co26, eo26⟩ := Kd.R_slice HO350.out; subst eo26) | ((with_reducible refine gate_callee (f := 40) rfl ?_); refine gl_ (some 37) Try.func40 #[.agg #[.int .i64 t347, .slice Ao26 t348.length co26], .int .i64 a1, .int .i64 a2] ?_; (with_reducible refine (impl_CheapestWay.calls k t347 _ _ t348 a1 a2 t352 t355 _ ?side1 ?side2 A12.out).mono ?_); (case side1 => refine (Kd.R_reads' (e := 67) (base := w.heap.size) (ok := fun k_ => (True ∧ some k_ ≠ (.slice Ao19 t340.length co19 : Value).ownBlock)) (n := t348.length) (c := co26) ?_).2.2; exact (hs_ HO350 BK351)); (case side2 => exact (Kd.R_reads' HO350.out).2.1); rintro e w27 ⟨v353, rfl, ho0, hb⟩; refine ⟨_, rfl, ?_⟩; have HO354 := Aside0.mk (Kd.R_lower (Kd.R_new' ho0 (Kd.R_lt (hs_ HO345 BK351))) (bz_ HB)); replace HO342 := rs_ HO342 BK351 hb; replace HO350 := rs_ HO350 BK351 hb; replace HO345 := Aside0.mk (Kd.R_elder' (hs_ HO345 BK351) (Kd.R_base ho0) hb); replace BK337 := bf_ BK337 NB337_351 hb; replace BK351 := Aside0.mk (blk_below (g := gb351) (o := .cells #[.int .i64 t347, .slice Ao26 t348.length co26] 30 (0, 0)) (by (with_reducible repeat (first | refine blk_drewN ?_ _ | refine blk_drew ?_ | refine blk_alloc ?_ _)); refine blk_put (cs := #[.int .i64 t347, .slice none 0 0]) ?_ 1 _ rfl; (with_reducible repeat (first | refine blk_drewN ?_ _ | refine blk_drew ?_ | refine blk_alloc ?_ _)); refine blk_put (cs := #[.int .i64 0, .slice none 0 0]) ?_ 0 _ rfl; (with_reducible repeat (first | refine blk_drewN ?_ _ | refine blk_drew ?_ | refine blk_alloc ?_ _)); exact BK351.out) hb); replace HB := Aside0.mk (bt_ HB hb); (try clear hb); (try clear hb2); (try clear hk); (try clear hi); (try clear ho0)))
  (try simp only [Act.put, List.setIfInBounds_toArray, List.set_cons_zero, List.set_cons_succ])
  go_cut [48] (fun v48 wc => ∃ (kq : Nat) (x48_12 : Bool), v48 = .bool x48_12 ∧ Aside0 (laws_FnExactCheapestWay.j0 kq a1 a2 t343 t346 t352 t355 x48_12 a0_0 l0_1 t347 t348 = some r) ∧ Aside0 (kq ≤ k) ∧ Aside0 (Kd.R (Kd.int .i64) 3 wc w.heap.size (fun k_ => some k_ ≠ (v353 : Value).ownBlock) v344 t343) ∧ Aside0 (Kd.R (Kd.int .i64) 3 wc w.heap.size (fun k_ => some k_ ≠ (v344 : Value).ownBlock) v353 t352) ∧ Aside0 (Kd.R k67 67 wc w.heap.size (fun _ => True) (.slice Ao26 t348.length co26) t348) ∧ Aside0 (wc.heap[gb337]? = some (.cells #[.int .i64 a0_0, (.slice A0_1 l0_1.length c0_1)] 24 (0, 0))) ∧ Aside0 (wc.heap[gb351]? = some (.cells #[.int .i64 t347, (.slice Ao26 t348.length co26)] 30 (0, 0))) ∧ Aside0 (Below w.heap.size w wc))
  case first =>
   have H := HC13.out
   clear HC13
   replace H := Option.bind_eq_some_iff.mp H
   obtain ⟨t356, A280, H⟩ := H
   have A28 := Aside0.mk A280
   clear A280
   by_cases c29 : t356 = true
   ·subst c29
    rw [if_pos rfl] at H
    have H' := Aside0.mk H
    clear H
    obtain ⟨Ao30, co30, eo30⟩ := Kd.R_slice HO354.out
    subst eo30
    obtain ⟨Ao31, co31, eo31⟩ := Kd.R_slice HO345.out
    subst eo31
    go_wp2_with (first | ((with_reducible refine gate_callee (f := 21) rfl ?_); refine gl_ (some 42) Try.func21 #[.slice Ao30 t352.length co30, .slice Ao31 t343.length co31] ?_; (with_reducible refine (laws_eqIntS.calls k _ _ t352 _ _ t343 true _ ?side1 ?side2 ?side3 ?side4 A28.out).mono ?_); (case side1 => exact rc_ HO354); (case side2 => exact (Kd.R_reads' HO354.out).2.1); (case side3 => exact rc_ HO345); (case side4 => exact (Kd.R_reads' HO345.out).2.1); rintro e w' ⟨rfl, ⟨nd, rfl⟩⟩; refine ⟨_, rfl, ?_⟩))
    go_meet
    case rel => exact ⟨_, ((t355 != t346)), (by first | rfl | (simp; done) | (simp [*]; done)), H', ⟨by first | omega | exact Nat.le_refl _⟩, ⟨by (with_reducible repeat (first | apply Kd.R_alloc | apply Kd.R_drewN | apply Kd.R_drew)); exact Kd.R_mono HO345.out (fun _ hk => hk.2)⟩, ⟨by (with_reducible repeat (first | apply Kd.R_alloc | apply Kd.R_drewN | apply Kd.R_drew)); exact Kd.R_mono HO354.out (fun _ hk => hk.2)⟩, ⟨by (with_reducible repeat (first | apply Kd.R_alloc | apply Kd.R_drewN | apply Kd.R_drew)); exact Kd.R_mono HO350.out (fun _ hk => trivial)⟩, ⟨by (with_reducible repeat (first | refine blk_drewN ?_ _ | refine blk_drew ?_ | refine blk_alloc ?_ _)); exact BK337.out⟩, ⟨by (with_reducible repeat (first | refine blk_drewN ?_ _ | refine blk_drew ?_ | refine blk_alloc ?_ _)); exact BK351.out⟩, ⟨by repeat (first | (with_reducible first | exact HB.out | apply below_alloc | apply pw_below_drewN | apply below_drew1 | refine below_set ?_ GE337.out | refine below_set ?_ GE351.out) | exact HB.out)⟩⟩
   ·replace c29 := Bool.eq_false_iff.mpr c29
    subst c29
    rw [if_neg (show ¬ (false = true) by decide)] at H
    have H' := Aside0.mk H
    clear H
    obtain ⟨Ao32, co32, eo32⟩ := Kd.R_slice HO354.out
    subst eo32
    obtain ⟨Ao33, co33, eo33⟩ := Kd.R_slice HO345.out
    subst eo33
    go_wp2_with (first | ((with_reducible refine gate_callee (f := 21) rfl ?_); refine gl_ (some 42) Try.func21 #[.slice Ao32 t352.length co32, .slice Ao33 t343.length co33] ?_; (with_reducible refine (laws_eqIntS.calls k _ _ t352 _ _ t343 false _ ?side1 ?side2 ?side3 ?side4 A28.out).mono ?_); (case side1 => exact rc_ HO354); (case side2 => exact (Kd.R_reads' HO354.out).2.1); (case side3 => exact rc_ HO345); (case side4 => exact (Kd.R_reads' HO345.out).2.1); rintro e w' ⟨rfl, ⟨nd, rfl⟩⟩; refine ⟨_, rfl, ?_⟩))
    go_meet
    case rel => exact ⟨_, (true), (by first | rfl | (simp; done) | (simp [*]; done)), H', ⟨by first | omega | exact Nat.le_refl _⟩, ⟨by (with_reducible repeat (first | apply Kd.R_alloc | apply Kd.R_drewN | apply Kd.R_drew)); exact Kd.R_mono HO345.out (fun _ hk => hk.2)⟩, ⟨by (with_reducible repeat (first | apply Kd.R_alloc | apply Kd.R_drewN | apply Kd.R_drew)); exact Kd.R_mono HO354.out (fun _ hk => hk.2)⟩, ⟨by (with_reducible repeat (first | apply Kd.R_alloc | apply Kd.R_drewN | apply Kd.R_drew)); exact Kd.R_mono HO350.out (fun _ hk => trivial)⟩, ⟨by (with_reducible repeat (first | refine blk_drewN ?_ _ | refine blk_drew ?_ | refine blk_alloc ?_ _)); exact BK337.out⟩, ⟨by (with_reducible repeat (first | refine blk_drewN ?_ _ | refine blk_drew ?_ | refine blk_alloc ?_ _)); exact BK351.out⟩, ⟨by repeat (first | (with_reducible first | exact HB.out | apply below_alloc | apply pw_below_drewN | apply below_drew1 | refine below_set ?_ GE337.out | refine below_set ?_ GE351.out) | exact HB.out)⟩⟩
  case rest =>
   clear HC13
   try clear c1
   try clear c2
   try clear p2
   try clear c3
   try clear c4
   try clear c5
   try clear c5b0
   try clear c9
   try clear c15
   try clear c17
   try clear c21
   try clear c24
   try clear c29
   try clear hcz15_0
   try clear hcz15_1
   try clear hcz17_0
   try clear hcz17_1
   try clear hcz21_0
   try clear hcz21_1
   try clear hcz25_0
   try clear hcz25_1
   try clear hcz7_0
   try clear hcz7_1
   try clear hfz15_0
   try clear hfz15_1
   try clear hfz17_0
   try clear hfz17_1
   try clear hfz21_0
   try clear hfz21_1
   try clear hfz25_0
   try clear hfz25_1
   try clear hfz7_0
   try clear hfz7_1
   obtain ⟨kq, x48_12, rfl, HA, HJ12, HO_8, HO_11, HO_352001, BK337, BK351, HB⟩ := hcut
   cases kq with
   | zero => exact absurd HA.out (by simp [laws_FnExactCheapestWay.j0])
   | succ kj12 =>
    have H := HA.out
    clear HA
    simp only [laws_FnExactCheapestWay.j0] at H
    by_cases c34 : x48_12 = true
    ·subst c34
     rw [if_pos rfl] at H
     obtain rfl := Option.some.inj H
     go_wp2
     go_ret
     exact ⟨by first | rfl | (simp [errW_none, errW_some] <;> rfl) | (simp [*, errW_none, errW_some] <;> rfl), by repeat (first | (with_reducible first | exact HB.out | apply below_alloc | apply pw_below_drewN | apply below_drew1 | refine below_set ?_ GE337.out | refine below_set ?_ GE351.out) | exact HB.out)⟩
    ·replace c34 := Bool.eq_false_iff.mpr c34
     subst c34
     rw [if_neg (show ¬ (false = true) by decide)] at H
     replace H := Option.bind_eq_some_iff.mp H
     obtain ⟨⟨t357, t358⟩, A350, H⟩ := H
     have A35 := Aside0.mk A350
     clear A350
     replace H := Option.bind_eq_some_iff.mp H
     obtain ⟨t361, A360, H⟩ := H
     have A36 := Aside0.mk A360
     clear A360
     by_cases c37 : t361 = true
     ·subst c37
      rw [if_pos rfl] at H
      replace H := Option.bind_eq_some_iff.mp H
      obtain ⟨⟨t362, t363⟩, A380, H⟩ := H
      have A38 := Aside0.mk A380
      clear A380
      have HC39 := Aside0.mk H
      clear H
      try go_wp2
      replace HO_8 := Aside0.mk (Kd.R_drew HO_8.out)
      replace HO_11 := Aside0.mk (Kd.R_drew HO_11.out)
      replace HO_352001 := Aside0.mk (Kd.R_drew HO_352001.out)
      replace BK337 := Aside0.mk (blk_drew BK337.out)
      replace BK351 := Aside0.mk (blk_drew BK351.out)
      replace HB := Aside0.mk (below_drew1 HB.out)
      refine start_ (n := 5) (S := fun w' => w'.cell? ⟨gb351, 0, none⟩ = some (.int .i64 t347) ∧ w'.cell? ⟨gb351, 1, none⟩ = some (.slice Ao26 t348.length co26) ∧ w'.cell? ⟨gb337, 0, none⟩ = some (.int .i64 a0_0) ∧ w'.cell? ⟨gb337, 1, none⟩ = some (.slice A0_1 l0_1.length c0_1)) (ds := []) ba13_0 (by kernel_rfl) rfl rfl ⟨(blk_cell BK351.out 0).trans rfl, (blk_cell BK351.out 1).trans rfl, (blk_cell BK337.out 0).trans rfl, (blk_cell BK337.out 1).trans rfl⟩ (fun hHeld => ?_)
      generalize wc.drew = w40 at HO_8 HO_11 HO_352001 BK337 BK351 HB hHeld ⊢
      refine take_ (i := 0) (N := some 49) (v := ?_) (a' := ?_) ba13_1 rfl rfl (by kernel_rfl) (fun _ _ _ h => h) (Or.inl ⟨by rfl, ?_⟩) hHeld ?_ ?_
      rotate_left; · rintro w' ⟨s0, s1, s2, s3⟩; go_simp; with_reducible rfl
      rotate_left; · simp only [Act.put, List.setIfInBounds_toArray, List.set_cons_zero, List.set_cons_succ, i64_w, i32_w]; rfl
      refine take_ (i := 1) (N := some 50) (v := ?_) (a' := ?_) ba13_2 rfl rfl (by kernel_rfl) (fun _ _ _ h => h) (Or.inl ⟨by rfl, ?_⟩) hHeld ?_ ?_
      rotate_left; · rintro w' ⟨s0, s1, s2, s3⟩; go_simp; with_reducible rfl
      rotate_left; · simp only [Act.put, List.setIfInBounds_toArray, List.set_cons_zero, List.set_cons_succ, i64_w, i32_w]; rfl
      refine one_ (i := 2) (N := some 51) ba13_3 rfl rfl (by kernel_rfl) (by decide) (fun K hK => ?_)
      refine gz_ Try.func17 #[.agg #[.int .i64 a0_0, .slice A0_1 l0_1.length c0_1]] ?_
      with_reducible refine (laws_toGraph.calls kj12 a0_0 _ _ l0_1 t357 t358 _ ?side1 ?side2 A35.out).mono ?_
      (case side1 => exact cb_ HR0_1 HB)
      (case side2 => exact HC0_1.out)
      rintro e w41 ⟨v359, rfl, ho0, hb⟩
      refine ⟨_, rfl, ?_⟩
      have HO360 := Aside0.mk (Kd.R_lower (Kd.R_new' ho0 (Kd.R_lt (hd_ HO_352001))) (bz_ HB))
      replace HO_8 := rb_ HO_8 hb
      replace HO_11 := rb_ HO_11 hb
      replace HO_352001 := Aside0.mk (Kd.R_elder' (hd_ HO_352001) (Kd.R_base ho0) hb)
      replace BK337 := Aside0.mk (bb_ BK337 hb)
      replace BK351 := Aside0.mk (bb_ BK351 hb)
      replace HB := Aside0.mk (bt_ HB hb)
      (try clear hb)
      (try clear hb2)
      (try clear hk)
      (try clear hi)
      (try clear ho0)
      obtain ⟨Ao42, co42, eo42⟩ := Kd.R_slice HO360.out
      (first | subst eo42 | (injection eo42 with f1_ f2_ f3_; have f4_ := f1_.symm; have f5_ := f3_.symm; clear f1_ f2_ f3_; subst f4_; subst f5_))
      refine hK.out _ _ ⟨(blk_cell BK351.out 0).trans rfl, (blk_cell BK351.out 1).trans rfl, (blk_cell BK337.out 0).trans rfl, (blk_cell BK337.out 1).trans rfl⟩ (fun hHeld => ?_)
      clear hK K
      refine nz_ 51 ?_
      refine one_ (i := 3) (N := some 52) ba13_4 rfl rfl (by kernel_rfl) (by decide) (fun K hK => ?_)
      refine gz_ Try.func20 #[.agg #[.int .i64 t347, .slice Ao26 t348.length co26], .agg #[.int .i64 t357, .slice Ao42 t358.length co42]] ?_
      with_reducible refine (laws_eqGraph.calls kj12 t347 _ _ t348 t357 _ _ t358 true _ ?side1 ?side2 ?side3 ?side4 A36.out).mono ?_
      (case side1 => exact rc_ HO_352001)
      (case side2 => exact (Kd.R_reads' HO_352001.out).2.1)
      (case side3 => exact rc_ HO360)
      (case side4 => exact (Kd.R_reads' HO360.out).2.1)
      rintro e w43 ⟨rfl, hb⟩
      refine ⟨_, rfl, ?_⟩
      replace HO_8 := rb_ HO_8 hb
      replace HO_11 := rb_ HO_11 hb
      replace HO_352001 := rb_ HO_352001 hb
      replace HO360 := rb_ HO360 hb
      replace BK337 := Aside0.mk (bb_ BK337 hb)
      replace BK351 := Aside0.mk (bb_ BK351 hb)
      replace HB := Aside0.mk (bt_ HB hb)
      (try clear hb)
      (try clear hb2)
      (try clear hk)
      (try clear hi)
      refine hK.out _ _ ⟨(blk_cell BK351.out 0).trans rfl, (blk_cell BK351.out 1).trans rfl, (blk_cell BK337.out 0).trans rfl, (blk_cell BK337.out 1).trans rfl⟩ (fun hHeld => ?_)
      clear hK K
      refine nz_ 52 ?_
      refine pure_ (i := 4) (N := some 53) (v := ?_) (a' := ?_) ba13_5 rfl rfl (by kernel_rfl) (fun _ _ _ h => h) (Or.inl ⟨by rfl, ?_⟩) ?_ ?_
      rotate_left; · intro w'; go_simp; with_reducible rfl
      rotate_left; · simp only [Act.put, List.setIfInBounds_toArray, List.set_cons_zero, List.set_cons_succ, i64_w, i32_w]; rfl
      refine done_ (by kernel_rfl) ?_
      have hnb44 := NB351_337.out
      have hnc44 := NB337_351.out
      have hcz45_0 := cz_ BK351 0 (.int .i64 t347)
      have hcz45_1 := cz_ BK351 1 (.slice Ao26 t348.length co26)
      have hfz45_0 := blk_frozen BK351.out 0
      have hfz45_1 := blk_frozen BK351.out 1
      go_upto_region 14 with (first | ((with_reducible refine gate_callee (f := 26) rfl ?_); refine gl_ (some 56) Try.func26 #[.agg #[.int .i64 t347, .slice Ao26 t348.length co26], .int .i64 1] ?_; (with_reducible refine (laws_markGraph.calls kj12 t347 (fun k_ => some k_ = (.slice Ao26 t348.length co26 : Value).ownBlock) (.slice Ao26 t348.length co26) t348 1 t362 t363 w _ ?side1 ?side2 A38.out).mono ?_); (case side1 => exact by_ HB); (case side2 => exact Kd.R_tight rfl HO_352001.out); rintro e w46 ⟨rfl, hy0, hb, hkp⟩; refine ⟨_, rfl, ?_⟩; replace HO_8 := kp_ (fun k_ => some k_ ≠ (v353 : Value).ownBlock) ((Kd.R_apart' HO_8.out (Kd.R_typed HO_352001.out) (by decide))) hkp; replace HO_11 := kp_ (fun k_ => some k_ ≠ (v344 : Value).ownBlock) ((Kd.R_apart' HO_11.out (Kd.R_typed HO_352001.out) (by decide))) hkp; replace BK337 := bk_ BK337 hkp (fun hs_ => (Kd.R_ne HO_352001.out BK337.out (by decide)) hs_); replace BK351 := bk_ BK351 hkp (fun hs_ => (Kd.R_ne HO_352001.out BK351.out (by decide)) hs_); replace HO_352001 := Aside0.mk (Kd.R_reok rfl hy0 (fun k_ e_ => HO_352001.out.1 k_ e_)); replace HO360 := kp_ (fun k_ => some k_ ≠ (.slice Ao26 t348.length co26 : Value).ownBlock) (HO360.out) hkp; replace HB := Aside0.mk (hb); (try clear hb); (try clear hkp); (try clear hy0)))
      (try simp only [Act.put, List.setIfInBounds_toArray, List.set_cons_zero, List.set_cons_succ])
      go_cut [69] (fun v69 wc => ∃ (kq : Nat) (x69_38 : Bool), v69 = .bool x69_38 ∧ Aside0 (laws_FnExactCheapestWay.j1 kq a1 a2 t343 t346 t352 x69_38 a0_0 l0_1 = some r) ∧ Aside0 (kq ≤ kj12) ∧ Aside0 (Kd.R (Kd.int .i64) 3 wc w.heap.size (fun k_ => some k_ ≠ (v353 : Value).ownBlock) v344 t343) ∧ Aside0 (Kd.R (Kd.int .i64) 3 wc w.heap.size (fun k_ => some k_ ≠ (v344 : Value).ownBlock) v353 t352) ∧ Aside0 (Kd.R k67 67 wc w.heap.size (fun _ => True) (.slice Ao26 t348.length co26) t363) ∧ Aside0 (wc.heap[gb337]? = some (.cells #[.int .i64 a0_0, (.slice A0_1 l0_1.length c0_1)] 24 (0, 0))) ∧ Aside0 (wc.heap[gb351]? = some (.cells #[.int .i64 t347, (.slice Ao26 t348.length co26)] 30 (0, 0))) ∧ Aside0 (Below w.heap.size w wc))
      case first =>
       have H := HC39.out
       clear HC39
       by_cases c47 : t362 < 0
       ·rw [if_pos c47] at H
        have c47b0 : decide (t362 < 0) = true := decide_eq_true c47
        clear c47
        (first | rw [c47b0] | (simp only [i64_w, i32_w]; rw [c47b0]) | skip)
        have H' := Aside0.mk H
        clear H
        go_wp2
        go_meet
        case rel => exact ⟨_, (true), (by first | rfl | (simp; done) | (simp [*]; done)), H', ⟨by have := HJ12.out; first | omega | exact Nat.le_refl _⟩, ⟨by (with_reducible repeat (first | apply Kd.R_alloc | apply Kd.R_drewN | apply Kd.R_drew)); exact HO_8.out⟩, ⟨by (with_reducible repeat (first | apply Kd.R_alloc | apply Kd.R_drewN | apply Kd.R_drew)); exact HO_11.out⟩, ⟨by (with_reducible repeat (first | apply Kd.R_alloc | apply Kd.R_drewN | apply Kd.R_drew)); exact Kd.R_mono HO_352001.out (fun _ hk => trivial)⟩, ⟨by (with_reducible repeat (first | refine blk_drewN ?_ _ | refine blk_drew ?_ | refine blk_alloc ?_ _)); exact BK337.out⟩, ⟨by (with_reducible repeat (first | refine blk_drewN ?_ _ | refine blk_drew ?_ | refine blk_alloc ?_ _)); exact BK351.out⟩, ⟨by repeat (first | (with_reducible first | exact HB.out | apply below_alloc | apply pw_below_drewN | apply below_drew1 | refine below_set ?_ GE337.out | refine below_set ?_ GE351.out) | exact HB.out)⟩⟩
       ·rw [if_neg c47] at H
        have c47b0 : decide (t362 < 0) = false := decide_eq_false c47
        clear c47
        (first | rw [c47b0] | (simp only [i64_w, i32_w]; rw [c47b0]) | skip)
        replace H := Option.bind_eq_some_iff.mp H
        obtain ⟨t364, A480, H⟩ := H
        have A48 := Aside0.mk A480
        clear A480
        by_cases c49 : t364 = true
        ·subst c49
         rw [if_pos rfl] at H
         have H' := Aside0.mk H
         clear H
         obtain ⟨Ao50, co50, eo50⟩ := Kd.R_slice HO_11.out
         subst eo50
         obtain ⟨Ao51, co51, eo51⟩ := Kd.R_slice HO_8.out
         subst eo51
         go_wp2_with (first | (go_at_call 21; (with_reducible refine (laws_eqIntS.calls kj12 _ _ t352 _ _ t343 true _ ?side1 ?side2 ?side3 ?side4 A48.out).mono ?_); (case side1 => exact rc_ HO_11); (case side2 => exact (Kd.R_reads' HO_11.out).2.1); (case side3 => exact rc_ HO_8); (case side4 => exact (Kd.R_reads' HO_8.out).2.1); rintro e w' ⟨rfl, ⟨nd, rfl⟩⟩))
         go_meet
         case rel => exact ⟨_, ((t355 != t346)), (by first | rfl | (simp; done) | (simp [*]; done)), H', ⟨by have := HJ12.out; first | omega | exact Nat.le_refl _⟩, ⟨by (with_reducible repeat (first | apply Kd.R_alloc | apply Kd.R_drewN | apply Kd.R_drew)); exact HO_8.out⟩, ⟨by (with_reducible repeat (first | apply Kd.R_alloc | apply Kd.R_drewN | apply Kd.R_drew)); exact HO_11.out⟩, ⟨by (with_reducible repeat (first | apply Kd.R_alloc | apply Kd.R_drewN | apply Kd.R_drew)); exact Kd.R_mono HO_352001.out (fun _ hk => trivial)⟩, ⟨by (with_reducible repeat (first | refine blk_drewN ?_ _ | refine blk_drew ?_ | refine blk_alloc ?_ _)); exact BK337.out⟩, ⟨by (with_reducible repeat (first | refine blk_drewN ?_ _ | refine blk_drew ?_ | refine blk_alloc ?_ _)); exact BK351.out⟩, ⟨by repeat (first | (with_reducible first | exact HB.out | apply below_alloc | apply pw_below_drewN | apply below_drew1 | refine below_set ?_ GE337.out | refine below_set ?_ GE351.out) | exact HB.out)⟩⟩
        ·replace c49 := Bool.eq_false_iff.mpr c49
         subst c49
         rw [if_neg (show ¬ (false = true) by decide)] at H
         have H' := Aside0.mk H
         clear H
         obtain ⟨Ao52, co52, eo52⟩ := Kd.R_slice HO_11.out
         subst eo52
         obtain ⟨Ao53, co53, eo53⟩ := Kd.R_slice HO_8.out
         subst eo53
         go_wp2_with (first | (go_at_call 21; (with_reducible refine (laws_eqIntS.calls kj12 _ _ t352 _ _ t343 false _ ?side1 ?side2 ?side3 ?side4 A48.out).mono ?_); (case side1 => exact rc_ HO_11); (case side2 => exact (Kd.R_reads' HO_11.out).2.1); (case side3 => exact rc_ HO_8); (case side4 => exact (Kd.R_reads' HO_8.out).2.1); rintro e w' ⟨rfl, ⟨nd, rfl⟩⟩))
         go_meet
         case rel => exact ⟨_, (true), (by first | rfl | (simp; done) | (simp [*]; done)), H', ⟨by have := HJ12.out; first | omega | exact Nat.le_refl _⟩, ⟨by (with_reducible repeat (first | apply Kd.R_alloc | apply Kd.R_drewN | apply Kd.R_drew)); exact HO_8.out⟩, ⟨by (with_reducible repeat (first | apply Kd.R_alloc | apply Kd.R_drewN | apply Kd.R_drew)); exact HO_11.out⟩, ⟨by (with_reducible repeat (first | apply Kd.R_alloc | apply Kd.R_drewN | apply Kd.R_drew)); exact Kd.R_mono HO_352001.out (fun _ hk => trivial)⟩, ⟨by (with_reducible repeat (first | refine blk_drewN ?_ _ | refine blk_drew ?_ | refine blk_alloc ?_ _)); exact BK337.out⟩, ⟨by (with_reducible repeat (first | refine blk_drewN ?_ _ | refine blk_drew ?_ | refine blk_alloc ?_ _)); exact BK351.out⟩, ⟨by repeat (first | (with_reducible first | exact HB.out | apply below_alloc | apply pw_below_drewN | apply below_drew1 | refine below_set ?_ GE337.out | refine below_set ?_ GE351.out) | exact HB.out)⟩⟩
      case rest =>
       clear HC39
       try clear c1
       try clear c2
       try clear p2
       try clear c3
       try clear c4
       try clear c5
       try clear c5b0
       try clear c9
       try clear c15
       try clear c17
       try clear c20
       try clear c21
       try clear c24
       try clear c26
       try clear c29
       try clear c34
       try clear c37
       try clear c39
       try clear c40
       try clear c44
       try clear c47
       try clear c47b0
       try clear c49
       try clear hcz15_0
       try clear hcz15_1
       try clear hcz17_0
       try clear hcz17_1
       try clear hcz21_0
       try clear hcz21_1
       try clear hcz25_0
       try clear hcz25_1
       try clear hcz45_0
       try clear hcz45_1
       try clear hcz7_0
       try clear hcz7_1
       try clear hfz15_0
       try clear hfz15_1
       try clear hfz17_0
       try clear hfz17_1
       try clear hfz21_0
       try clear hfz21_1
       try clear hfz25_0
       try clear hfz25_1
       try clear hfz45_0
       try clear hfz45_1
       try clear hfz7_0
       try clear hfz7_1
       try clear p2
       obtain ⟨kq, x69_38, rfl, HA, HJ38, HO_8, HO_11, HO_352001, BK337, BK351, HB⟩ := hcut
       have hl352001_38 := (Kd.R_reads' HO_352001.out).1
       rw [hl352001_38] at HO_352001
       (try simp only [hl352001_38])
       (try simp only [hl352001_38] at BK337)
       (try simp only [hl352001_38] at BK351)
       (try simp only [hl352001_38] at HO_8)
       (try simp only [hl352001_38] at HO_11)
       cases kq with
       | zero => exact absurd HA.out (by simp [laws_FnExactCheapestWay.j1])
       | succ kj38 =>
        have H := HA.out
        clear HA
        simp only [laws_FnExactCheapestWay.j1] at H
        by_cases c54 : x69_38 = true
        ·subst c54
         rw [if_pos rfl] at H
         obtain rfl := Option.some.inj H
         go_wp2
         go_ret
         exact ⟨by first | rfl | (simp [errW_none, errW_some] <;> rfl) | (simp [*, errW_none, errW_some] <;> rfl), by repeat (first | (with_reducible first | exact HB.out | apply below_alloc | apply pw_below_drewN | apply below_drew1 | refine below_set ?_ GE337.out | refine below_set ?_ GE351.out) | exact HB.out)⟩
        ·replace c54 := Bool.eq_false_iff.mpr c54
         subst c54
         rw [if_neg (show ¬ (false = true) by decide)] at H
         replace H := Option.bind_eq_some_iff.mp H
         obtain ⟨⟨t365, t366⟩, A550, H⟩ := H
         have A55 := Aside0.mk A550
         clear A550
         replace H := Option.bind_eq_some_iff.mp H
         obtain ⟨t367, A560, H⟩ := H
         have A56 := Aside0.mk A560
         clear A560
         by_cases c57 : t367 < 0
         ·rw [if_pos c57] at H
          have c57b0 : decide (t367 < 0) = true := decide_eq_true c57
          clear c57
          obtain rfl := Option.some.inj H
          obtain ⟨Ao58, co58, eo58⟩ := Kd.R_slice HO_11.out
          subst eo58
          go_wp2_with (first | ((with_reducible refine gate_callee (f := 32) rfl ?_); refine gl_ (some 72) Try.func32 #[.slice Ao58 t352.length co58, .int .i64 1] ?_; (with_reducible refine (laws_markIntS.calls kj38 (fun k_ => some k_ = (.slice Ao58 t352.length co58 : Value).ownBlock) (.slice Ao58 t352.length co58) t352 1 t365 t366 w _ ?side1 ?side2 A55.out).mono ?_); (case side1 => exact by_ HB); (case side2 => exact Kd.R_tight rfl HO_11.out); rintro e w59 ⟨rfl, hy0, hb, hkp⟩; refine ⟨_, rfl, ?_⟩; replace HO_8 := kp_ (fun k_ => some k_ ≠ (.slice Ao58 t352.length co58 : Value).ownBlock) (HO_8.out) hkp; replace HO_352001 := kp_ (fun k_ => True) ((Kd.R_apart' HO_352001.out (Kd.R_typed HO_11.out) (by decide))) hkp; replace BK337 := bk_ BK337 hkp (fun hs_ => (Kd.R_ne HO_11.out BK337.out (by decide)) hs_); replace BK351 := bk_ BK351 hkp (fun hs_ => (Kd.R_ne HO_11.out BK351.out (by decide)) hs_); replace HO_11 := Aside0.mk (Kd.R_reok rfl hy0 (fun k_ e_ => HO_11.out.1 k_ e_)); replace HB := Aside0.mk (hb); (try clear hb); (try clear hkp); (try clear hy0)) | ((with_reducible refine gate_callee (f := 33) rfl ?_); refine goesL_ (some 75) rfl rfl Try.func33 (by kernel_rfl) rfl #[.slice Ao58 t366.length co58, .int .i64 1] rfl (by (try simp only [List.map_toArray, List.map_cons, List.map_nil]); first | done | (rw [show t366.length = t352.length from (Kd.R_reads' HO_11.out).1.symm] <;> rfl) | rfl | (simp only [List.length_drop, List.length_take]; rfl)) ?_; (with_reducible refine (laws_heldIntS.calls kj38 _ _ t366 1 t367 _ ?side1 ?side2 A56.out).mono ?_); (case side1 => exact rc_ HO_11); (case side2 => rw [show t366.length = t352.length from (Kd.R_reads' HO_11.out).1.symm]; exact (Kd.R_reads' HO_11.out).2.1); rintro e w' ⟨rfl, ⟨nd, rfl⟩⟩; refine ⟨_, rfl, ?_⟩))
          go_ret
          exact ⟨by first | rfl | (simp [errW_none, errW_some] <;> rfl) | (simp [*, errW_none, errW_some] <;> rfl), by repeat (first | (with_reducible first | exact HB.out | apply below_alloc | apply pw_below_drewN | apply below_drew1 | refine below_set ?_ GE337.out | refine below_set ?_ GE351.out) | exact HB.out)⟩
         ·rw [if_neg c57] at H
          have c57b0 : decide (t367 < 0) = false := decide_eq_false c57
          clear c57
          by_cases c60 : t367 = t365
          ·rw [if_pos c60] at H
           have c60b0 : (t367 == t365) = true := beq_iff_eq.mpr c60
           have c60b1 : (t367 != t365) = false := bne_eq_false_iff_eq.mpr c60
           clear c60
           replace H := Option.bind_eq_some_iff.mp H
           obtain ⟨⟨t368, t369⟩, A610, H⟩ := H
           have A61 := Aside0.mk A610
           clear A610
           replace H := Option.bind_eq_some_iff.mp H
           obtain ⟨⟨t372, t375⟩, A620, H⟩ := H
           have A62 := Aside0.mk A620
           clear A620
           have HC63 := Aside0.mk H
           clear H
           obtain ⟨Ao64, co64, eo64⟩ := Kd.R_slice HO_11.out
           subst eo64
           go_upto_region 25 with (first | ((with_reducible refine gate_callee (f := 32) rfl ?_); refine gl_ (some 72) Try.func32 #[.slice Ao64 t352.length co64, .int .i64 1] ?_; (with_reducible refine (laws_markIntS.calls kj38 (fun k_ => some k_ = (.slice Ao64 t352.length co64 : Value).ownBlock) (.slice Ao64 t352.length co64) t352 1 t365 t366 w _ ?side1 ?side2 A55.out).mono ?_); (case side1 => exact by_ HB); (case side2 => exact Kd.R_tight rfl HO_11.out); rintro e w65 ⟨rfl, hy0, hb, hkp⟩; refine ⟨_, rfl, ?_⟩; replace HO_8 := kp_ (fun k_ => some k_ ≠ (.slice Ao64 t352.length co64 : Value).ownBlock) (HO_8.out) hkp; replace HO_352001 := kp_ (fun k_ => True) ((Kd.R_apart' HO_352001.out (Kd.R_typed HO_11.out) (by decide))) hkp; replace BK337 := bk_ BK337 hkp (fun hs_ => (Kd.R_ne HO_11.out BK337.out (by decide)) hs_); replace BK351 := bk_ BK351 hkp (fun hs_ => (Kd.R_ne HO_11.out BK351.out (by decide)) hs_); replace HO_11 := Aside0.mk (Kd.R_reok rfl hy0 (fun k_ e_ => HO_11.out.1 k_ e_)); replace HB := Aside0.mk (hb); (try clear hb); (try clear hkp); (try clear hy0)) | ((with_reducible refine gate_callee (f := 33) rfl ?_); refine goesL_ (some 75) rfl rfl Try.func33 (by kernel_rfl) rfl #[.slice Ao64 t366.length co64, .int .i64 1] rfl (by (try simp only [List.map_toArray, List.map_cons, List.map_nil]); first | done | (rw [show t366.length = t352.length from (Kd.R_reads' HO_11.out).1.symm] <;> rfl) | rfl | (simp only [List.length_drop, List.length_take]; rfl)) ?_; (with_reducible refine (laws_heldIntS.calls kj38 _ _ t366 1 t367 _ ?side1 ?side2 A56.out).mono ?_); (case side1 => exact rc_ HO_11); (case side2 => rw [show t366.length = t352.length from (Kd.R_reads' HO_11.out).1.symm]; exact (Kd.R_reads' HO_11.out).2.1); rintro e w' ⟨rfl, ⟨nd, rfl⟩⟩; refine ⟨_, rfl, ?_⟩; have hnb66 := NB337_351.out; have hnc66 := NB351_337.out; have hcz67_0 := cz_ BK337 0 (.int .i64 a0_0); have hcz67_1 := cz_ BK337 1 (.slice A0_1 l0_1.length c0_1); have hfz67_0 := blk_frozen BK337.out 0; have hfz67_1 := blk_frozen BK337.out 1) | ((with_reducible refine gate_callee (f := 17) rfl ?_); refine gl_ (some 83) Try.func17 #[.agg #[.int .i64 a0_0, .slice A0_1 l0_1.length c0_1]] ?_; (with_reducible refine (laws_toGraph.calls kj38 a0_0 _ _ l0_1 t368 t369 _ ?side1 ?side2 A61.out).mono ?_); (case side1 => exact cc_ HR0_1 HB); (case side2 => exact HC0_1.out); rintro e w68 ⟨v370, rfl, ho0, hb⟩; refine ⟨_, rfl, ?_⟩; have HO371 := Aside0.mk (Kd.R_lower (Kd.R_new' ho0 (Kd.R_lt (hd_ HO_352001))) (bz_ HB)); replace HO_8 := rb_ HO_8 hb; replace HO_11 := rb_ HO_11 hb; replace HO_352001 := Aside0.mk (Kd.R_elder' (hd_ HO_352001) (Kd.R_base ho0) hb); replace BK337 := Aside0.mk (bb_ BK337 hb); replace BK351 := Aside0.mk (bb_ BK351 hb); replace HB := Aside0.mk (bt_ HB hb); (try clear hb); (try clear hb2); (try clear hk); (try clear hi); (try clear ho0); obtain ⟨Ao69, co69, eo69⟩ := Kd.R_slice HO371.out; subst eo69) | ((with_reducible refine gate_callee (f := 40) rfl ?_); refine gl_ (some 86) Try.func40 #[.agg #[.int .i64 t368, .slice Ao69 t369.length co69], .int .i64 a1, .int .i64 a2] ?_; (with_reducible refine (impl_CheapestWay.calls kj38 t368 _ _ t369 a1 a2 t372 t375 _ ?side1 ?side2 A62.out).mono ?_); (case side1 => exact rc_ HO371); (case side2 => exact (Kd.R_reads' HO371.out).2.1); rintro e w70 ⟨v373, rfl, ho0, hb⟩; refine ⟨_, rfl, ?_⟩; have HO374 := Aside0.mk (Kd.R_lower (Kd.R_new' (Kd.R_new' ho0 (Kd.R_lt (hd_ HO_8))) (Kd.R_lt (hd_ HO_11))) (bz_ HB)); replace HO_352001 := rb_ HO_352001 hb; replace HO371 := rb_ HO371 hb; replace HO_8 := Aside0.mk (Kd.R_elder' (hd_ HO_8) (Kd.R_base ho0) hb); replace HO_11 := Aside0.mk (Kd.R_elder' (hd_ HO_11) (Kd.R_base ho0) hb); replace BK337 := Aside0.mk (bb_ BK337 hb); replace BK351 := Aside0.mk (bb_ BK351 hb); replace HB := Aside0.mk (bt_ HB hb); (try clear hb); (try clear hb2); (try clear hk); (try clear hi); (try clear ho0)))
           (try simp only [Act.put, List.setIfInBounds_toArray, List.set_cons_zero, List.set_cons_succ])
           go_cut [97] (fun v97 wc => ∃ (kq : Nat) (x97_62 : Bool), v97 = .bool x97_62 ∧ Aside0 (laws_FnExactCheapestWay.j2 kq t366 t365 x97_62 = some r) ∧ Aside0 (kq ≤ kj38) ∧ Aside0 (Kd.R (Kd.int .i64) 3 wc w.heap.size (fun _ => True) (.slice Ao64 t352.length co64) t366) ∧ Aside0 (Kd.R k67 67 wc w.heap.size (fun _ => True) (.slice Ao26 t363.length co26) t363) ∧ Aside0 (wc.heap[gb337]? = some (.cells #[.int .i64 a0_0, (.slice A0_1 l0_1.length c0_1)] 24 (0, 0))) ∧ Aside0 (wc.heap[gb351]? = some (.cells #[.int .i64 t347, (.slice Ao26 t363.length co26)] 30 (0, 0))) ∧ Aside0 (Below w.heap.size w wc))
           case first =>
            have H := HC63.out
            clear HC63
            replace H := Option.bind_eq_some_iff.mp H
            obtain ⟨t376, A710, H⟩ := H
            have A71 := Aside0.mk A710
            clear A710
            by_cases c72 : t376 = true
            ·subst c72
             rw [if_pos rfl] at H
             have H' := Aside0.mk H
             clear H
             obtain ⟨Ao73, co73, eo73⟩ := Kd.R_slice HO374.out
             subst eo73
             obtain ⟨Ao74, co74, eo74⟩ := Kd.R_slice HO_8.out
             subst eo74
             go_wp2_with (first | ((with_reducible refine gate_callee (f := 21) rfl ?_); refine gl_ (some 91) Try.func21 #[.slice Ao73 t372.length co73, .slice Ao74 t343.length co74] ?_; (with_reducible refine (laws_eqIntS.calls kj38 _ _ t372 _ _ t343 true _ ?side1 ?side2 ?side3 ?side4 A71.out).mono ?_); (case side1 => exact rc_ HO374); (case side2 => exact (Kd.R_reads' HO374.out).2.1); (case side3 => exact rc_ HO_8); (case side4 => exact (Kd.R_reads' HO_8.out).2.1); rintro e w' ⟨rfl, ⟨nd, rfl⟩⟩; refine ⟨_, rfl, ?_⟩))
             go_meet
             case rel => exact ⟨_, ((t375 != t346)), (by first | rfl | (simp; done) | (simp [*]; done)), H', ⟨by have := HJ12.out; have := HJ38.out; first | omega | exact Nat.le_refl _⟩, ⟨by (try simp only [hl352001_38]); (with_reducible repeat (first | apply Kd.R_alloc | apply Kd.R_drewN | apply Kd.R_drew)); exact Kd.R_mono HO_11.out (fun _ hk => trivial)⟩, ⟨by (try simp only [hl352001_38]); (with_reducible repeat (first | apply Kd.R_alloc | apply Kd.R_drewN | apply Kd.R_drew)); exact Kd.R_mono HO_352001.out (fun _ hk => trivial)⟩, ⟨by (try simp only [hl352001_38]); (with_reducible repeat (first | refine blk_drewN ?_ _ | refine blk_drew ?_ | refine blk_alloc ?_ _)); exact BK337.out⟩, ⟨by (try simp only [hl352001_38]); (with_reducible repeat (first | refine blk_drewN ?_ _ | refine blk_drew ?_ | refine blk_alloc ?_ _)); exact BK351.out⟩, ⟨by repeat (first | (with_reducible first | exact HB.out | apply below_alloc | apply pw_below_drewN | apply below_drew1 | refine below_set ?_ GE337.out | refine below_set ?_ GE351.out) | exact HB.out)⟩⟩
            ·replace c72 := Bool.eq_false_iff.mpr c72
             subst c72
             rw [if_neg (show ¬ (false = true) by decide)] at H
             have H' := Aside0.mk H
             clear H
             obtain ⟨Ao75, co75, eo75⟩ := Kd.R_slice HO374.out
             subst eo75
             obtain ⟨Ao76, co76, eo76⟩ := Kd.R_slice HO_8.out
             subst eo76
             go_wp2_with (first | ((with_reducible refine gate_callee (f := 21) rfl ?_); refine gl_ (some 91) Try.func21 #[.slice Ao75 t372.length co75, .slice Ao76 t343.length co76] ?_; (with_reducible refine (laws_eqIntS.calls kj38 _ _ t372 _ _ t343 false _ ?side1 ?side2 ?side3 ?side4 A71.out).mono ?_); (case side1 => exact rc_ HO374); (case side2 => exact (Kd.R_reads' HO374.out).2.1); (case side3 => exact rc_ HO_8); (case side4 => exact (Kd.R_reads' HO_8.out).2.1); rintro e w' ⟨rfl, ⟨nd, rfl⟩⟩; refine ⟨_, rfl, ?_⟩))
             go_meet
             case rel => exact ⟨_, (true), (by first | rfl | (simp; done) | (simp [*]; done)), H', ⟨by have := HJ12.out; have := HJ38.out; first | omega | exact Nat.le_refl _⟩, ⟨by (try simp only [hl352001_38]); (with_reducible repeat (first | apply Kd.R_alloc | apply Kd.R_drewN | apply Kd.R_drew)); exact Kd.R_mono HO_11.out (fun _ hk => trivial)⟩, ⟨by (try simp only [hl352001_38]); (with_reducible repeat (first | apply Kd.R_alloc | apply Kd.R_drewN | apply Kd.R_drew)); exact Kd.R_mono HO_352001.out (fun _ hk => trivial)⟩, ⟨by (try simp only [hl352001_38]); (with_reducible repeat (first | refine blk_drewN ?_ _ | refine blk_drew ?_ | refine blk_alloc ?_ _)); exact BK337.out⟩, ⟨by (try simp only [hl352001_38]); (with_reducible repeat (first | refine blk_drewN ?_ _ | refine blk_drew ?_ | refine blk_alloc ?_ _)); exact BK351.out⟩, ⟨by repeat (first | (with_reducible first | exact HB.out | apply below_alloc | apply pw_below_drewN | apply below_drew1 | refine below_set ?_ GE337.out | refine below_set ?_ GE351.out) | exact HB.out)⟩⟩
           case rest =>
            clear HC63
            try clear c1
            try clear c2
            try clear p2
            try clear c3
            try clear c4
            try clear c5
            try clear c5b0
            try clear c6
            try clear c7
            try clear c9
            try clear c15
            try clear c17
            try clear c20
            try clear c21
            try clear c24
            try clear c26
            try clear c29
            try clear c32
            try clear c33
            try clear c34
            try clear c37
            try clear c39
            try clear c40
            try clear c44
            try clear c47
            try clear c47b0
            try clear c49
            try clear c54
            try clear c57
            try clear c57b0
            try clear c60
            try clear c60b0
            try clear c60b1
            try clear c66
            try clear c72
            try clear hcz15_0
            try clear hcz15_1
            try clear hcz17_0
            try clear hcz17_1
            try clear hcz21_0
            try clear hcz21_1
            try clear hcz25_0
            try clear hcz25_1
            try clear hcz45_0
            try clear hcz45_1
            try clear hcz67_0
            try clear hcz67_1
            try clear hcz7_0
            try clear hcz7_1
            try clear hfz15_0
            try clear hfz15_1
            try clear hfz17_0
            try clear hfz17_1
            try clear hfz21_0
            try clear hfz21_1
            try clear hfz25_0
            try clear hfz25_1
            try clear hfz45_0
            try clear hfz45_1
            try clear hfz67_0
            try clear hfz67_1
            try clear hfz7_0
            try clear hfz7_1
            try clear p2
            obtain ⟨kq, x97_62, rfl, HA, HJ62, HO_11, HO_352001, BK337, BK351, HB⟩ := hcut
            have hl11_62 := (Kd.R_reads' HO_11.out).1
            rw [hl11_62] at HO_11
            (try simp only [hl11_62])
            (try simp only [hl11_62] at BK337)
            (try simp only [hl11_62] at BK351)
            (try simp only [hl11_62] at HO_352001)
            cases kq with
            | zero => exact absurd HA.out (by simp [laws_FnExactCheapestWay.j2])
            | succ kj62 =>
             have H := HA.out
             clear HA
             simp only [laws_FnExactCheapestWay.j2] at H
             by_cases c77 : x97_62 = true
             ·subst c77
              rw [if_pos rfl] at H
              obtain rfl := Option.some.inj H
              go_wp2
              go_ret
              exact ⟨by first | rfl | (simp [errW_none, errW_some] <;> rfl) | (simp [*, errW_none, errW_some] <;> rfl), by repeat (first | (with_reducible first | exact HB.out | apply below_alloc | apply pw_below_drewN | apply below_drew1 | refine below_set ?_ GE337.out | refine below_set ?_ GE351.out) | exact HB.out)⟩
             ·replace c77 := Bool.eq_false_iff.mpr c77
              subst c77
              rw [if_neg (show ¬ (false = true) by decide)] at H
              replace H := Option.bind_eq_some_iff.mp H
              obtain ⟨t377, A780, H⟩ := H
              have A78 := Aside0.mk A780
              clear A780
              by_cases c79 : t377 < 0
              ·rw [if_pos c79] at H
               have c79b0 : decide (t377 < 0) = true := decide_eq_true c79
               clear c79
               obtain rfl := Option.some.inj H
               go_wp2_with (first | ((with_reducible refine gate_callee (f := 33) rfl ?_); refine gl_ (some 100) Try.func33 #[.slice Ao64 t366.length co64, .int .i64 1] ?_; (with_reducible refine (laws_heldIntS.calls kj62 _ _ t366 1 t377 _ ?side1 ?side2 A78.out).mono ?_); (case side1 => exact rc_ HO_11); (case side2 => exact (Kd.R_reads' HO_11.out).2.1); rintro e w' ⟨rfl, ⟨nd, rfl⟩⟩; refine ⟨_, rfl, ?_⟩))
               go_ret
               exact ⟨by first | rfl | (simp [errW_none, errW_some] <;> rfl) | (simp [*, errW_none, errW_some] <;> rfl), by repeat (first | (with_reducible first | exact HB.out | apply below_alloc | apply pw_below_drewN | apply below_drew1 | refine below_set ?_ GE337.out | refine below_set ?_ GE351.out) | exact HB.out)⟩
              ·rw [if_neg c79] at H
               have c79b0 : decide (t377 < 0) = false := decide_eq_false c79
               clear c79
               by_cases c80 : t377 = t365
               ·rw [if_pos c80] at H
                have c80b0 : (t377 == t365) = true := beq_iff_eq.mpr c80
                have c80b1 : (t377 != t365) = false := bne_eq_false_iff_eq.mpr c80
                clear c80
                obtain rfl := Option.some.inj H
                go_wp2_with (first | ((with_reducible refine gate_callee (f := 33) rfl ?_); refine gl_ (some 100) Try.func33 #[.slice Ao64 t366.length co64, .int .i64 1] ?_; (with_reducible refine (laws_heldIntS.calls kj62 _ _ t366 1 t377 _ ?side1 ?side2 A78.out).mono ?_); (case side1 => exact rc_ HO_11); (case side2 => exact (Kd.R_reads' HO_11.out).2.1); rintro e w' ⟨rfl, ⟨nd, rfl⟩⟩; refine ⟨_, rfl, ?_⟩))
                go_ret
                exact ⟨by first | rfl | (simp [errW_none, errW_some] <;> rfl) | (simp [*, errW_none, errW_some] <;> rfl), by repeat (first | (with_reducible first | exact HB.out | apply below_alloc | apply pw_below_drewN | apply below_drew1 | refine below_set ?_ GE337.out | refine below_set ?_ GE351.out) | exact HB.out)⟩
               ·rw [if_neg c80] at H
                have c80b0 : (t377 == t365) = false := beq_eq_false_iff_ne.mpr c80
                have c80b1 : (t377 != t365) = true := bne_iff_ne.mpr c80
                obtain rfl := Option.some.inj H
                go_wp2_with (first | ((with_reducible refine gate_callee (f := 33) rfl ?_); refine gl_ (some 100) Try.func33 #[.slice Ao64 t366.length co64, .int .i64 1] ?_; (with_reducible refine (laws_heldIntS.calls kj62 _ _ t366 1 t377 _ ?side1 ?side2 A78.out).mono ?_); (case side1 => exact rc_ HO_11); (case side2 => exact (Kd.R_reads' HO_11.out).2.1); rintro e w' ⟨rfl, ⟨nd, rfl⟩⟩; refine ⟨_, rfl, ?_⟩))
                go_ret
                exact ⟨by first | rfl | (simp [errW_none, errW_some] <;> rfl) | (simp [*, errW_none, errW_some] <;> rfl), by repeat (first | (with_reducible first | exact HB.out | apply below_alloc | apply pw_below_drewN | apply below_drew1 | refine below_set ?_ GE337.out | refine below_set ?_ GE351.out) | exact HB.out)⟩
          ·rw [if_neg c60] at H
           have c60b0 : (t367 == t365) = false := beq_eq_false_iff_ne.mpr c60
           have c60b1 : (t367 != t365) = true := bne_iff_ne.mpr c60
           obtain rfl := Option.some.inj H
           obtain ⟨Ao81, co81, eo81⟩ := Kd.R_slice HO_11.out
           subst eo81
           go_wp2_with (first | ((with_reducible refine gate_callee (f := 32) rfl ?_); refine gl_ (some 72) Try.func32 #[.slice Ao81 t352.length co81, .int .i64 1] ?_; (with_reducible refine (laws_markIntS.calls kj38 (fun k_ => some k_ = (.slice Ao81 t352.length co81 : Value).ownBlock) (.slice Ao81 t352.length co81) t352 1 t365 t366 w _ ?side1 ?side2 A55.out).mono ?_); (case side1 => exact by_ HB); (case side2 => exact Kd.R_tight rfl HO_11.out); rintro e w82 ⟨rfl, hy0, hb, hkp⟩; refine ⟨_, rfl, ?_⟩; replace HO_8 := kp_ (fun k_ => some k_ ≠ (.slice Ao81 t352.length co81 : Value).ownBlock) (HO_8.out) hkp; replace HO_352001 := kp_ (fun k_ => True) ((Kd.R_apart' HO_352001.out (Kd.R_typed HO_11.out) (by decide))) hkp; replace BK337 := bk_ BK337 hkp (fun hs_ => (Kd.R_ne HO_11.out BK337.out (by decide)) hs_); replace BK351 := bk_ BK351 hkp (fun hs_ => (Kd.R_ne HO_11.out BK351.out (by decide)) hs_); replace HO_11 := Aside0.mk (Kd.R_reok rfl hy0 (fun k_ e_ => HO_11.out.1 k_ e_)); replace HB := Aside0.mk (hb); (try clear hb); (try clear hkp); (try clear hy0)) | ((with_reducible refine gate_callee (f := 33) rfl ?_); refine goesL_ (some 75) rfl rfl Try.func33 (by kernel_rfl) rfl #[.slice Ao81 t366.length co81, .int .i64 1] rfl (by (try simp only [List.map_toArray, List.map_cons, List.map_nil]); first | done | (rw [show t366.length = t352.length from (Kd.R_reads' HO_11.out).1.symm] <;> rfl) | rfl | (simp only [List.length_drop, List.length_take]; rfl)) ?_; (with_reducible refine (laws_heldIntS.calls kj38 _ _ t366 1 t367 _ ?side1 ?side2 A56.out).mono ?_); (case side1 => exact rc_ HO_11); (case side2 => rw [show t366.length = t352.length from (Kd.R_reads' HO_11.out).1.symm]; exact (Kd.R_reads' HO_11.out).2.1); rintro e w' ⟨rfl, ⟨nd, rfl⟩⟩; refine ⟨_, rfl, ?_⟩))
           go_ret
           exact ⟨by first | rfl | (simp [errW_none, errW_some] <;> rfl) | (simp [*, errW_none, errW_some] <;> rfl), by repeat (first | (with_reducible first | exact HB.out | apply below_alloc | apply pw_below_drewN | apply below_drew1 | refine below_set ?_ GE337.out | refine below_set ?_ GE351.out) | exact HB.out)⟩
     ·replace c37 := Bool.eq_false_iff.mpr c37
      subst c37
      rw [if_neg (show ¬ (false = true) by decide)] at H
      obtain rfl := Option.some.inj H
      try go_wp2
      replace HO_8 := Aside0.mk (Kd.R_drew HO_8.out)
      replace HO_11 := Aside0.mk (Kd.R_drew HO_11.out)
      replace HO_352001 := Aside0.mk (Kd.R_drew HO_352001.out)
      replace BK337 := Aside0.mk (blk_drew BK337.out)
      replace BK351 := Aside0.mk (blk_drew BK351.out)
      replace HB := Aside0.mk (below_drew1 HB.out)
      refine start_ (n := 5) (S := fun w' => w'.cell? ⟨gb351, 0, none⟩ = some (.int .i64 t347) ∧ w'.cell? ⟨gb351, 1, none⟩ = some (.slice Ao26 t348.length co26) ∧ w'.cell? ⟨gb337, 0, none⟩ = some (.int .i64 a0_0) ∧ w'.cell? ⟨gb337, 1, none⟩ = some (.slice A0_1 l0_1.length c0_1)) (ds := []) ba13_0 (by kernel_rfl) rfl rfl ⟨(blk_cell BK351.out 0).trans rfl, (blk_cell BK351.out 1).trans rfl, (blk_cell BK337.out 0).trans rfl, (blk_cell BK337.out 1).trans rfl⟩ (fun hHeld => ?_)
      generalize wc.drew = w83 at HO_8 HO_11 HO_352001 BK337 BK351 HB hHeld ⊢
      refine take_ (i := 0) (N := some 49) (v := ?_) (a' := ?_) ba13_1 rfl rfl (by kernel_rfl) (fun _ _ _ h => h) (Or.inl ⟨by rfl, ?_⟩) hHeld ?_ ?_
      rotate_left; · rintro w' ⟨s0, s1, s2, s3⟩; go_simp; with_reducible rfl
      rotate_left; · simp only [Act.put, List.setIfInBounds_toArray, List.set_cons_zero, List.set_cons_succ, i64_w, i32_w]; rfl
      refine take_ (i := 1) (N := some 50) (v := ?_) (a' := ?_) ba13_2 rfl rfl (by kernel_rfl) (fun _ _ _ h => h) (Or.inl ⟨by rfl, ?_⟩) hHeld ?_ ?_
      rotate_left; · rintro w' ⟨s0, s1, s2, s3⟩; go_simp; with_reducible rfl
      rotate_left; · simp only [Act.put, List.setIfInBounds_toArray, List.set_cons_zero, List.set_cons_succ, i64_w, i32_w]; rfl
      refine one_ (i := 2) (N := some 51) ba13_3 rfl rfl (by kernel_rfl) (by decide) (fun K hK => ?_)
      refine gz_ Try.func17 #[.agg #[.int .i64 a0_0, .slice A0_1 l0_1.length c0_1]] ?_
      with_reducible refine (laws_toGraph.calls kj12 a0_0 _ _ l0_1 t357 t358 _ ?side1 ?side2 A35.out).mono ?_
      (case side1 => exact cb_ HR0_1 HB)
      (case side2 => exact HC0_1.out)
      rintro e w84 ⟨v359, rfl, ho0, hb⟩
      refine ⟨_, rfl, ?_⟩
      have HO360 := Aside0.mk (Kd.R_lower (Kd.R_new' ho0 (Kd.R_lt (hd_ HO_352001))) (bz_ HB))
      replace HO_8 := rb_ HO_8 hb
      replace HO_11 := rb_ HO_11 hb
      replace HO_352001 := Aside0.mk (Kd.R_elder' (hd_ HO_352001) (Kd.R_base ho0) hb)
      replace BK337 := Aside0.mk (bb_ BK337 hb)
      replace BK351 := Aside0.mk (bb_ BK351 hb)
      replace HB := Aside0.mk (bt_ HB hb)
      (try clear hb)
      (try clear hb2)
      (try clear hk)
      (try clear hi)
      (try clear ho0)
      obtain ⟨Ao85, co85, eo85⟩ := Kd.R_slice HO360.out
      (first | subst eo85 | (injection eo85 with f1_ f2_ f3_; have f4_ := f1_.symm; have f5_ := f3_.symm; clear f1_ f2_ f3_; subst f4_; subst f5_))
      refine hK.out _ _ ⟨(blk_cell BK351.out 0).trans rfl, (blk_cell BK351.out 1).trans rfl, (blk_cell BK337.out 0).trans rfl, (blk_cell BK337.out 1).trans rfl⟩ (fun hHeld => ?_)
      clear hK K
      refine nz_ 51 ?_
      refine one_ (i := 3) (N := some 52) ba13_4 rfl rfl (by kernel_rfl) (by decide) (fun K hK => ?_)
      refine gz_ Try.func20 #[.agg #[.int .i64 t347, .slice Ao26 t348.length co26], .agg #[.int .i64 t357, .slice Ao85 t358.length co85]] ?_
      with_reducible refine (laws_eqGraph.calls kj12 t347 _ _ t348 t357 _ _ t358 false _ ?side1 ?side2 ?side3 ?side4 A36.out).mono ?_
      (case side1 => exact rc_ HO_352001)
      (case side2 => exact (Kd.R_reads' HO_352001.out).2.1)
      (case side3 => exact rc_ HO360)
      (case side4 => exact (Kd.R_reads' HO360.out).2.1)
      rintro e w86 ⟨rfl, hb⟩
      refine ⟨_, rfl, ?_⟩
      replace HO_8 := rb_ HO_8 hb
      replace HO_11 := rb_ HO_11 hb
      replace HO_352001 := rb_ HO_352001 hb
      replace HO360 := rb_ HO360 hb
      replace BK337 := Aside0.mk (bb_ BK337 hb)
      replace BK351 := Aside0.mk (bb_ BK351 hb)
      replace HB := Aside0.mk (bt_ HB hb)
      (try clear hb)
      (try clear hb2)
      (try clear hk)
      (try clear hi)
      refine hK.out _ _ ⟨(blk_cell BK351.out 0).trans rfl, (blk_cell BK351.out 1).trans rfl, (blk_cell BK337.out 0).trans rfl, (blk_cell BK337.out 1).trans rfl⟩ (fun hHeld => ?_)
      clear hK K
      refine nz_ 52 ?_
      refine pure_ (i := 4) (N := some 53) (v := ?_) (a' := ?_) ba13_5 rfl rfl (by kernel_rfl) (fun _ _ _ h => h) (Or.inl ⟨by rfl, ?_⟩) ?_ ?_
      rotate_left; · intro w'; go_simp; with_reducible rfl
      rotate_left; · simp only [Act.put, List.setIfInBounds_toArray, List.set_cons_zero, List.set_cons_succ, i64_w, i32_w]; rfl
      refine done_ (by kernel_rfl) ?_
      try go_wp2
      go_ret
      exact ⟨by first | rfl | (simp [errW_none, errW_some] <;> rfl) | (simp [*, errW_none, errW_some] <;> rfl), by repeat (first | (with_reducible first | exact HB.out | apply below_alloc | apply pw_below_drewN | apply below_drew1 | refine below_set ?_ GE337.out | refine below_set ?_ GE351.out) | exact HB.out)⟩

end Go.Proofs.Yteopiggdpadolaa.QFnExactCheapestWay
