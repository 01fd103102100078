/- Contracts of functions that the law reaches: what each call returns and what it leaves in memory. Made by this session over the print of the kit. -/
import Derived.Test.YthmahcohcphljaaQFnExactChangedx0
import Derived.Test.YthmahcohcphljaaQFnExactChangedx1
import Derived.Test.YthmahcohcphljaaQFnExactChangedx2
import Derived.Test.YthmahcohcphljaaQFnExactChangedx7
import Derived.Test.YthmahcohcphljaaQFnExactChangedx11
namespace Go.Proofs.Ythmahcohcphljaa.QFnExactChanged
open Go.RowKit Go.Proofs.YthmahcohcphljaaU.PrintWords Go.Proofs.YthmahcohcphljaaU.PrintLast Go.Proofs.YthmahcohcphljaaU.PrintMore
attribute [local go_sem] max2_int min2_int max_two min_two max_three min_three max_four min_four   -- for this text's walks alone
set_option linter.unusedVariables false
set_option linter.unusedSimpArgs false
def ba12_0 : Array Bool := #[false, false, false, false, false, false, false]
def ba12_1 : Array Bool := #[false, false, false, false, true, false, false]
def ba12_2 : Array Bool := #[true, false, false, false, true, false, false]
def ba12_3 : Array Bool := #[true, false, true, false, true, false, false]
def ba12_4 : Array Bool := #[true, true, true, false, true, false, false]
def ba12_5 : Array Bool := #[true, true, true, true, true, false, false]
def ba12_6 : Array Bool := #[true, true, true, true, true, true, false]
def ba12_7 : Array Bool := #[true, true, true, true, true, true, true]
def ba12_8 : Array Bool := #[false, false, false, false, false]
def ba12_9 : Array Bool := #[true, false, false, false, false]
def ba12_10 : Array Bool := #[true, true, false, false, false]
def ba12_11 : Array Bool := #[true, true, true, false, false]
def ba12_12 : Array Bool := #[true, true, true, true, false]
def ba12_13 : Array Bool := #[true, true, true, true, true]

/-! ### laws_FnExactChanged: function 5 -/
def laws_FnExactChanged.j0 : Nat → Int → List Int → List Int → Bool → Int → List (S88) → Int → List (S88) → Option (Bool)
 | 0, _, _, _, _, _, _, _, _ => none
 | k + 1, x2, x8, x11, x67, x301000, x301001, x302000, x302001 => if x67 = true then (some false) else ((laws_markIntS.f k x11 1).bind fun bt344 => ((laws_heldIntS.f k bt344.2 1).bind fun t346 => (if t346 < 0 then (some false) else (if t346 = bt344.1 then ((laws_toGraph.f k x301000 x301001).bind fun bt347 => ((laws_toGraph.f k x302000 x302001).bind fun bt351 => ((impl_Changed.f k bt347.1 bt347.2 bt351.1 bt351.2 x2).bind fun t355 => ((laws_eqIntS.f k t355 x8).bind fun t358 => (if t358 = true then ((laws_heldIntS.f k bt344.2 1).bind fun t359 => (if t359 < 0 then (some false) else (if t359 = bt344.1 then (some true) else (some false)))) else (some false)))))) else (some false)))))
def laws_FnExactChanged.f (k : Nat) (a0_0 : Int) (l0_1 : List (S88)) (a1_0 : Int) (l1_1 : List (S88)) (a2 : Int) : Option (Bool) := (laws_szGraph.f a0_0 l0_1 1048576).bind fun t302 => (if t302 < 0 then (some true) else ((laws_szGraph.f a1_0 l1_1 t302).bind fun t303 => (if t303 < 0 then (some true) else ((laws_toGraph.f k a0_0 l0_1).bind fun bt304 => ((laws_toGraph.f k a1_0 l1_1).bind fun bt308 => ((spec_Changed.f k bt304.1 bt304.2 bt308.1 bt308.2 a2).bind fun t312 => ((laws_toGraph.f k a0_0 l0_1).bind fun bt315 => ((laws_toGraph.f k a1_0 l1_1).bind fun bt320 => ((impl_Changed.f k bt315.1 bt315.2 bt320.1 bt320.2 a2).bind fun t325 => ((laws_eqIntS.f k t325 t312).bind fun t328 => (if t328 = true then ((laws_toGraph.f k a0_0 l0_1).bind fun bt329 => ((laws_eqGraph.f k bt315.1 bt315.2 bt329.1 bt329.2).bind fun t333 => (if t333 = true then ((laws_toGraph.f k a1_0 l1_1).bind fun bt334 => ((laws_eqGraph.f k bt320.1 bt320.2 bt334.1 bt334.2).bind fun t338 => (if t338 = true then ((laws_markGraph.f k bt315.1 bt315.2 1).bind fun bt339 => ((laws_markGraph.f k bt320.1 bt320.2 bt339.1).bind fun bt341 => (if bt341.1 < 0 then (laws_FnExactChanged.j0 k a2 t312 t325 true a0_0 l0_1 a1_0 l1_1) else ((laws_eqIntS.f k t325 t312).bind fun t343 => (laws_FnExactChanged.j0 k a2 t312 t325 (!t343) a0_0 l0_1 a1_0 l1_1))))) else (some false)))) else (some false)))) else (some false))))))))))))
theorem laws_FnExactChanged.mono_l : ∀ k, (∀ y0 y1 y2 y3 y4 y5 y6 y7, LeO (laws_FnExactChanged.j0 k y0 y1 y2 y3 y4 y5 y6 y7) (laws_FnExactChanged.j0 (k + 1) y0 y1 y2 y3 y4 y5 y6 y7))
 | 0 => fun _ _ _ _ _ _ _ _ r h => by simp [laws_FnExactChanged.j0] at h
 | k + 1 => by
  have ih0 := laws_FnExactChanged.mono_l k
  ·intro y0 y1 y2 y3 y4 y5 y6 y7
   unfold laws_FnExactChanged.j0
   repeat' first
   | (with_reducible exact ih0 _ _ _ _ _ _ _ _)
   | (with_reducible exact impl_Changed.mono _ _ _ _ _ _)
   | (with_reducible exact laws_eqGraph.mono _ _ _ _ _)
   | (with_reducible exact laws_eqIntS.mono _ _ _)
   | (with_reducible exact laws_heldIntS.mono _ _ _)
   | (with_reducible exact laws_markGraph.mono _ _ _ _)
   | (with_reducible exact laws_markIntS.mono _ _ _)
   | (with_reducible exact laws_toGraph.mono _ _ _)
   | (with_reducible exact spec_Changed.mono _ _ _ _ _ _)
   | (with_reducible exact LeO.refl _)
   | (with_reducible exact LeO.none _)
   | (with_reducible refine LeO.ite ?_ ?_)
   | (with_reducible refine LeO.bind ?_ (fun _ => ?_))
   | exact ih0 _ _ _ _ _ _ _ _
   | exact impl_Changed.mono _ _ _ _ _ _
   | exact laws_eqGraph.mono _ _ _ _ _
   | exact laws_eqIntS.mono _ _ _
   | exact laws_heldIntS.mono _ _ _
   | exact laws_markGraph.mono _ _ _ _
   | exact laws_markIntS.mono _ _ _
   | exact laws_toGraph.mono _ _ _
   | exact spec_Changed.mono _ _ _ _ _ _
   | exact LeO.none _
   | refine LeO.ite ?_ ?_
   | refine LeO.bind ?_ (fun _ => ?_)
theorem laws_FnExactChanged.mono : ∀ a0 a1 a2 a3 a4 k, LeO (laws_FnExactChanged.f k a0 a1 a2 a3 a4) (laws_FnExactChanged.f (k + 1) a0 a1 a2 a3 a4) := by
 intro a0 a1 a2 a3 a4 k
 have ih0 := laws_FnExactChanged.mono_l k
 unfold laws_FnExactChanged.f
 repeat' first
   | (with_reducible exact ih0 _ _ _ _ _ _ _ _)
   | (with_reducible exact impl_Changed.mono _ _ _ _ _ _)
   | (with_reducible exact laws_eqGraph.mono _ _ _ _ _)
   | (with_reducible exact laws_eqIntS.mono _ _ _)
   | (with_reducible exact laws_heldIntS.mono _ _ _)
   | (with_reducible exact laws_markGraph.mono _ _ _ _)
   | (with_reducible exact laws_markIntS.mono _ _ _)
   | (with_reducible exact laws_toGraph.mono _ _ _)
   | (with_reducible exact spec_Changed.mono _ _ _ _ _ _)
   | (with_reducible exact LeO.refl _)
   | (with_reducible exact LeO.none _)
   | (with_reducible refine LeO.ite ?_ ?_)
   | (with_reducible refine LeO.bind ?_ (fun _ => ?_))
   | exact ih0 _ _ _ _ _ _ _ _
   | exact impl_Changed.mono _ _ _ _ _ _
   | exact laws_eqGraph.mono _ _ _ _ _
   | exact laws_eqIntS.mono _ _ _
   | exact laws_heldIntS.mono _ _ _
   | exact laws_markGraph.mono _ _ _ _
   | exact laws_markIntS.mono _ _ _
   | exact laws_toGraph.mono _ _ _
   | exact spec_Changed.mono _ _ _ _ _ _
   | exact LeO.none _
   | refine LeO.ite ?_ ?_
   | refine LeO.bind ?_ (fun _ => ?_)
set_option maxHeartbeats 8000000 in
set_option maxRecDepth 100000 in
theorem laws_FnExactChanged.calls (k : Nat) (a0_0 : Int) (A0_1 : Option Addr) (c0_1 : Nat) (l0_1 : List (S88)) (a1_0 : Int) (A1_1 : Option Addr) (c1_1 : Nat) (l1_1 : List (S88)) (a2 : Int) (r : Bool) (w : World) (hr0_1 : Kd.C k88 w A0_1 l0_1.length l0_1) (hc0_1 : l0_1.length ≤ c0_1) (hr1_1 : Kd.C k88 w A1_1 l1_1.length l1_1) (hc1_1 : l1_1.length ≤ c1_1) (h : laws_FnExactChanged.f k a0_0 l0_1 a1_0 l1_1 a2 = some r) :
  Calls Try.prog 5 #[.agg #[.int .i64 a0_0, .slice A0_1 l0_1.length c0_1], .agg #[.int .i64 a1_0, .slice A1_1 l1_1.length c1_1], .int .i64 a2] w fun e w' => e = .returned (.bool r) ∧ Below w.heap.size w w' := by
 have hu24 := Try.underlying24
 have hu30 := Try.underlying30
 have HR0_1 := Aside0.mk hr0_1
 have HC0_1 := Aside0.mk hc0_1
 clear hr0_1 hc0_1
 have HR1_1 := Aside0.mk hr1_1
 have HC1_1 := Aside0.mk hc1_1
 clear hr1_1 hc1_1
 have HB := Aside0.mk (Below.refl w.heap.size w)
 have H : ((laws_szGraph.f a0_0 l0_1 1048576).bind fun t302 => (if t302 < 0 then (some true) else ((laws_szGraph.f a1_0 l1_1 t302).bind fun t303 => (if t303 < 0 then (some true) else ((laws_toGraph.f k a0_0 l0_1).bind fun bt304 => ((laws_toGraph.f k a1_0 l1_1).bind fun bt308 => ((spec_Changed.f k bt304.1 bt304.2 bt308.1 bt308.2 a2).bind fun t312 => ((laws_toGraph.f k a0_0 l0_1).bind fun bt315 => ((laws_toGraph.f k a1_0 l1_1).bind fun bt320 => ((impl_Changed.f k bt315.1 bt315.2 bt320.1 bt320.2 a2).bind fun t325 => ((laws_eqIntS.f k t325 t312).bind fun t328 => (if t328 = true then ((laws_toGraph.f k a0_0 l0_1).bind fun bt329 => ((laws_eqGraph.f k bt315.1 bt315.2 bt329.1 bt329.2).bind fun t333 => (if t333 = true then ((laws_toGraph.f k a1_0 l1_1).bind fun bt334 => ((laws_eqGraph.f k bt320.1 bt320.2 bt334.1 bt334.2).bind fun t338 => (if t338 = true then ((laws_markGraph.f k bt315.1 bt315.2 1).bind fun bt339 => ((laws_markGraph.f k bt320.1 bt320.2 bt339.1).bind fun bt341 => (if bt341.1 < 0 then (laws_FnExactChanged.j0 k a2 t312 t325 true a0_0 l0_1 a1_0 l1_1) else ((laws_eqIntS.f k t325 t312).bind fun t343 => (laws_FnExactChanged.j0 k a2 t312 t325 (!t343) a0_0 l0_1 a1_0 l1_1))))) else (some false)))) else (some false)))) else (some false))))))))))))) = some r := h
 clear h
 replace H := Option.bind_eq_some_iff.mp H
 obtain ⟨t302, A40, H⟩ := H
 have A4 := Aside0.mk A40
 clear A40
 by_cases c5 : t302 < 0
 ·rw [if_pos c5] at H
  have c5b0 : decide (t302 < 0) = true := decide_eq_true c5
  clear c5
  obtain rfl := Option.some.inj H
  go_enter Try.func5, Try.ntmps5
  go_wp2_with (first | ((with_reducible refine gate_dst (N := 3) rfl ?_); refine box_event ?hg (N := 3) ?hd (cs := #[.int .i64 a0_0, .slice A0_1 l0_1.length c0_1]) (t := 24) ?hr ?_; (case hd => rfl); (case hg => rfl); (case hr => first | (go_simp; done) | (go_simp; rfl)); intro gb300 hg w6 hbox hb; have BK300 := Aside0.mk hbox; have GW300 := ge_ HB hg; have GE300 := ge_ HB hg; replace HB := Aside0.mk (bt_ HB hb); clear hb hbox hg) | ((with_reducible refine gate_dst (N := 4) rfl ?_); refine box_event ?hg (N := 4) ?hd (cs := #[.int .i64 a1_0, .slice A1_1 l1_1.length c1_1]) (t := 24) ?hr ?_; (case hd => rfl); (case hg => rfl); (case hr => first | (go_simp; done) | (go_simp; rfl)); intro gb301 hg w7 hbox hb; have BK301 := Aside0.mk hbox; have GW301 := ge_ HB hg; have GE301 := ge_ HB hg; have NB300_301 := nl_ BK300 hg; have NB301_300 := ng_ BK300 hg; replace HB := Aside0.mk (bt_ HB hb); replace BK300 := Aside0.mk (bb_ BK300 hb); clear hb hbox hg; have hnb8 := NB300_301.out; have hnc8 := NB301_300.out; have hcz9_0 := cz_ BK300 0 (.int .i64 a0_0); have hcz9_1 := cz_ BK300 1 (.slice A0_1 l0_1.length c0_1); have hfz9_0 := blk_frozen BK300.out 0; have hfz9_1 := blk_frozen BK300.out 1) | ((with_reducible refine gate_callee (f := 10) rfl ?_); refine gl_ (some 18) Try.func10 #[.agg #[.int .i64 a0_0, .slice A0_1 l0_1.length c0_1], .int .i64 1048576] ?_; (with_reducible refine (laws_szGraph.calls a0_0 _ _ l0_1 1048576 t302 _ ?side1 ?side2 A4.out).mono ?_); (case side1 => exact cb_ HR0_1 HB); (case side2 => exact HC0_1.out); rintro e w10 ⟨rfl, hb⟩; refine ⟨_, rfl, ?_⟩; replace BK300 := Aside0.mk (bb_ BK300 hb); replace BK301 := Aside0.mk (bb_ BK301 hb); replace HB := Aside0.mk (bt_ HB hb); (try clear hb); (try clear hb2); (try clear hk); (try clear hi)))
  go_ret
  exact ⟨by first | rfl | (simp [errW_none, errW_some] <;> rfl) | (simp [*, errW_none, errW_some] <;> rfl), by repeat (first | (with_reducible first | exact HB.out | apply below_alloc | apply pw_below_drewN | apply below_drew1 | refine below_set ?_ GE300.out | refine below_set ?_ GE301.out) | exact HB.out)⟩
 ·rw [if_neg c5] at H
  have c5b0 : decide (t302 < 0) = false := decide_eq_false c5
  clear c5
  replace H := Option.bind_eq_some_iff.mp H
  obtain ⟨t303, A110, H⟩ := H
  have A11 := Aside0.mk A110
  clear A110
  by_cases c12 : t303 < 0
  ·rw [if_pos c12] at H
   have c12b0 : decide (t303 < 0) = true := decide_eq_true c12
   clear c12
   obtain rfl := Option.some.inj H
   go_enter Try.func5, Try.ntmps5
   go_wp2_with (first | ((with_reducible refine gate_dst (N := 3) rfl ?_); refine box_event ?hg (N := 3) ?hd (cs := #[.int .i64 a0_0, .slice A0_1 l0_1.length c0_1]) (t := 24) ?hr ?_; (case hd => rfl); (case hg => rfl); (case hr => first | (go_simp; done) | (go_simp; rfl)); intro gb300 hg w13 hbox hb; have BK300 := Aside0.mk hbox; have GW300 := ge_ HB hg; have GE300 := ge_ HB hg; replace HB := Aside0.mk (bt_ HB hb); clear hb hbox hg) | ((with_reducible refine gate_dst (N := 4) rfl ?_); refine box_event ?hg (N := 4) ?hd (cs := #[.int .i64 a1_0, .slice A1_1 l1_1.length c1_1]) (t := 24) ?hr ?_; (case hd => rfl); (case hg => rfl); (case hr => first | (go_simp; done) | (go_simp; rfl)); intro gb301 hg w14 hbox hb; have BK301 := Aside0.mk hbox; have GW301 := ge_ HB hg; have GE301 := ge_ HB hg; have NB300_301 := nl_ BK300 hg; have NB301_300 := ng_ BK300 hg; replace HB := Aside0.mk (bt_ HB hb); replace BK300 := Aside0.mk (bb_ BK300 hb); clear hb hbox hg; have hnb15 := NB300_301.out; have hnc15 := NB301_300.out; have hcz16_0 := cz_ BK300 0 (.int .i64 a0_0); have hcz16_1 := cz_ BK300 1 (.slice A0_1 l0_1.length c0_1); have hfz16_0 := blk_frozen BK300.out 0; have hfz16_1 := blk_frozen BK300.out 1) | ((with_reducible refine gate_callee (f := 10) rfl ?_); refine gl_ (some 18) Try.func10 #[.agg #[.int .i64 a0_0, .slice A0_1 l0_1.length c0_1], .int .i64 1048576] ?_; (with_reducible refine (laws_szGraph.calls a0_0 _ _ l0_1 1048576 t302 _ ?side1 ?side2 A4.out).mono ?_); (case side1 => exact cb_ HR0_1 HB); (case side2 => exact HC0_1.out); rintro e w17 ⟨rfl, hb⟩; refine ⟨_, rfl, ?_⟩; replace BK300 := Aside0.mk (bb_ BK300 hb); replace BK301 := Aside0.mk (bb_ BK301 hb); replace HB := Aside0.mk (bt_ HB hb); (try clear hb); (try clear hb2); (try clear hk); (try clear hi); have hcz18_0 := cz_ BK301 0 (.int .i64 a1_0); have hcz18_1 := cz_ BK301 1 (.slice A1_1 l1_1.length c1_1); have hfz18_0 := blk_frozen BK301.out 0; have hfz18_1 := blk_frozen BK301.out 1) | ((with_reducible refine gate_callee (f := 10) rfl ?_); refine gl_ (some 23) Try.func10 #[.agg #[.int .i64 a1_0, .slice A1_1 l1_1.length c1_1], .int .i64 t302] ?_; (with_reducible refine (laws_szGraph.calls a1_0 _ _ l1_1 t302 t303 _ ?side1 ?side2 A11.out).mono ?_); (case side1 => exact cb_ HR1_1 HB); (case side2 => exact HC1_1.out); rintro e w19 ⟨rfl, hb⟩; refine ⟨_, rfl, ?_⟩; replace BK300 := Aside0.mk (bb_ BK300 hb); replace BK301 := Aside0.mk (bb_ BK301 hb); replace HB := Aside0.mk (bt_ HB hb); (try clear hb); (try clear hb2); (try clear hk); (try clear hi)))
   go_ret
   exact ⟨by first | rfl | (simp [errW_none, errW_some] <;> rfl) | (simp [*, errW_none, errW_some] <;> rfl), by repeat (first | (with_reducible first | exact HB.out | apply below_alloc | apply pw_below_drewN | apply below_drew1 | refine below_set ?_ GE300.out | refine below_set ?_ GE301.out) | exact HB.out)⟩
  ·rw [if_neg c12] at H
   have c12b0 : decide (t303 < 0) = false := decide_eq_false c12
   clear c12
   replace H := Option.bind_eq_some_iff.mp H
   obtain ⟨⟨t304, t305⟩, A200, H⟩ := H
   have A20 := Aside0.mk A200
   clear A200
   replace H := Option.bind_eq_some_iff.mp H
   obtain ⟨⟨t308, t309⟩, A210, H⟩ := H
   have A21 := Aside0.mk A210
   clear A210
   replace H := Option.bind_eq_some_iff.mp H
   obtain ⟨t312, A220, H⟩ := H
   have A22 := Aside0.mk A220
   clear A220
   replace H := Option.bind_eq_some_iff.mp H
   obtain ⟨⟨t315, t316⟩, A230, H⟩ := H
   have A23 := Aside0.mk A230
   clear A230
   replace H := Option.bind_eq_some_iff.mp H
   obtain ⟨⟨t320, t321⟩, A240, H⟩ := H
   have A24 := Aside0.mk A240
   clear A240
   replace H := Option.bind_eq_some_iff.mp H
   obtain ⟨t325, A250, H⟩ := H
   have A25 := Aside0.mk A250
   clear A250
   replace H := Option.bind_eq_some_iff.mp H
   obtain ⟨t328, A260, H⟩ := H
   have A26 := Aside0.mk A260
   clear A260
   by_cases c27 : t328 = true
   ·subst c27
    rw [if_pos rfl] at H
    replace H := Option.bind_eq_some_iff.mp H
    obtain ⟨⟨t329, t330⟩, A280, H⟩ := H
    have A28 := Aside0.mk A280
    clear A280
    replace H := Option.bind_eq_some_iff.mp H
    obtain ⟨t333, A290, H⟩ := H
    have A29 := Aside0.mk A290
    clear A290
    by_cases c30 : t333 = true
    ·subst c30
     rw [if_pos rfl] at H
     replace H := Option.bind_eq_some_iff.mp H
     obtain ⟨⟨t334, t335⟩, A310, H⟩ := H
     have A31 := Aside0.mk A310
     clear A310
     replace H := Option.bind_eq_some_iff.mp H
     obtain ⟨t338, A320, H⟩ := H
     have A32 := Aside0.mk A320
     clear A320
     by_cases c33 : t338 = true
     ·subst c33
      rw [if_pos rfl] at H
      replace H := Option.bind_eq_some_iff.mp H
      obtain ⟨⟨t339, t340⟩, A340, H⟩ := H
      have A34 := Aside0.mk A340
      clear A340
      replace H := Option.bind_eq_some_iff.mp H
      obtain ⟨⟨t341, t342⟩, A350, H⟩ := H
      have A35 := Aside0.mk A350
      clear A350
      have HC36 := Aside0.mk H
      clear H
      go_enter Try.func5, Try.ntmps5
      try go_wp2_with (first | ((with_reducible refine gate_dst (N := 3) rfl ?_); refine box_event ?hg (N := 3) ?hd (cs := #[.int .i64 a0_0, .slice A0_1 l0_1.length c0_1]) (t := 24) ?hr ?_; (case hd => rfl); (case hg => rfl); (case hr => first | (go_simp; done) | (go_simp; rfl)); intro gb300 hg w37 hbox hb; have BK300 := Aside0.mk hbox; have GW300 := ge_ HB hg; have GE300 := ge_ HB hg; replace HB := Aside0.mk (bt_ HB hb); clear hb hbox hg) | ((with_reducible refine gate_dst (N := 4) rfl ?_); refine box_event ?hg (N := 4) ?hd (cs := #[.int .i64 a1_0, .slice A1_1 l1_1.length c1_1]) (t := 24) ?hr ?_; (case hd => rfl); (case hg => rfl); (case hr => first | (go_simp; done) | (go_simp; rfl)); intro gb301 hg w38 hbox hb; have BK301 := Aside0.mk hbox; have GW301 := ge_ HB hg; have GE301 := ge_ HB hg; have NB300_301 := nl_ BK300 hg; have NB301_300 := ng_ BK300 hg; replace HB := Aside0.mk (bt_ HB hb); replace BK300 := Aside0.mk (bb_ BK300 hb); clear hb hbox hg; have hnb39 := NB300_301.out; have hnc39 := NB301_300.out; have hcz40_0 := cz_ BK300 0 (.int .i64 a0_0); have hcz40_1 := cz_ BK300 1 (.slice A0_1 l0_1.length c0_1); have hfz40_0 := blk_frozen BK300.out 0; have hfz40_1 := blk_frozen BK300.out 1) | ((with_reducible refine gate_callee (f := 10) rfl ?_); refine gl_ (some 18) Try.func10 #[.agg #[.int .i64 a0_0, .slice A0_1 l0_1.length c0_1], .int .i64 1048576] ?_; (with_reducible refine (laws_szGraph.calls a0_0 _ _ l0_1 1048576 t302 _ ?side1 ?side2 A4.out).mono ?_); (case side1 => exact cb_ HR0_1 HB); (case side2 => exact HC0_1.out); rintro e w41 ⟨rfl, hb⟩; refine ⟨_, rfl, ?_⟩; replace BK300 := Aside0.mk (bb_ BK300 hb); replace BK301 := Aside0.mk (bb_ BK301 hb); replace HB := Aside0.mk (bt_ HB hb); (try clear hb); (try clear hb2); (try clear hk); (try clear hi); have hcz42_0 := cz_ BK301 0 (.int .i64 a1_0); have hcz42_1 := cz_ BK301 1 (.slice A1_1 l1_1.length c1_1); have hfz42_0 := blk_frozen BK301.out 0; have hfz42_1 := blk_frozen BK301.out 1) | ((with_reducible refine gate_callee (f := 10) rfl ?_); refine gl_ (some 23) Try.func10 #[.agg #[.int .i64 a1_0, .slice A1_1 l1_1.length c1_1], .int .i64 t302] ?_; (with_reducible refine (laws_szGraph.calls a1_0 _ _ l1_1 t302 t303 _ ?side1 ?side2 A11.out).mono ?_); (case side1 => exact cb_ HR1_1 HB); (case side2 => exact HC1_1.out); rintro e w43 ⟨rfl, hb⟩; refine ⟨_, rfl, ?_⟩; replace BK300 := Aside0.mk (bb_ BK300 hb); replace BK301 := Aside0.mk (bb_ BK301 hb); replace HB := Aside0.mk (bt_ HB hb); (try clear hb); (try clear hb2); (try clear hk); (try clear hi)))
      replace BK300 := Aside0.mk (blk_drew BK300.out)
      replace BK301 := Aside0.mk (blk_drew BK301.out)
      replace HB := Aside0.mk (below_drew1 HB.out)
      refine start_ (n := 7) (S := fun w' => w'.cell? ⟨gb300, 0, none⟩ = some (.int .i64 a0_0) ∧ w'.cell? ⟨gb300, 1, none⟩ = some (.slice A0_1 l0_1.length c0_1) ∧ w'.cell? ⟨gb301, 0, none⟩ = some (.int .i64 a1_0) ∧ w'.cell? ⟨gb301, 1, none⟩ = some (.slice A1_1 l1_1.length c1_1)) (ds := []) ba12_0 (by kernel_rfl) rfl rfl ⟨(blk_cell BK300.out 0).trans rfl, (blk_cell BK300.out 1).trans rfl, (blk_cell BK301.out 0).trans rfl, (blk_cell BK301.out 1).trans rfl⟩ (fun hHeld => ?_)
      generalize w43.drew = w44 at BK300 BK301 HB hHeld ⊢
      refine pure_ (i := 4) (N := some 30) (v := ?_) (a' := ?_) ba12_1 rfl rfl (by kernel_rfl) (fun _ _ _ h => h) (Or.inl ⟨by rfl, ?_⟩) ?_ ?_
      rotate_left; · intro w'; go_simp; with_reducible rfl
      rotate_left; · simp only [Act.put, List.setIfInBounds_toArray, List.set_cons_zero, List.set_cons_succ, i64_w, i32_w]; rfl
      refine take_ (i := 0) (N := some 26) (v := ?_) (a' := ?_) ba12_2 rfl rfl (by kernel_rfl) (fun _ _ _ h => h) (Or.inl ⟨by rfl, ?_⟩) hHeld ?_ ?_
      rotate_left; · rintro w' ⟨s0, s1, s2, s3⟩; go_simp; with_reducible rfl
      rotate_left; · simp only [Act.put, List.setIfInBounds_toArray, List.set_cons_zero, List.set_cons_succ, i64_w, i32_w]; rfl
      refine take_ (i := 2) (N := some 28) (v := ?_) (a' := ?_) ba12_3 rfl rfl (by kernel_rfl) (fun _ _ _ h => h) (Or.inl ⟨by rfl, ?_⟩) hHeld ?_ ?_
      rotate_left; · rintro w' ⟨s0, s1, s2, s3⟩; go_simp; with_reducible rfl
      rotate_left; · simp only [Act.put, List.setIfInBounds_toArray, List.set_cons_zero, List.set_cons_succ, i64_w, i32_w]; rfl
      refine one_ (i := 1) (N := some 27) ba12_4 rfl rfl (by kernel_rfl) (by decide) (fun K hK => ?_)
      refine gz_ Try.func12 #[.agg #[.int .i64 a0_0, .slice A0_1 l0_1.length c0_1]] ?_
      with_reducible refine (laws_toGraph.calls k a0_0 _ _ l0_1 t304 t305 _ ?side1 ?side2 A20.out).mono ?_
      (case side1 => exact cb_ HR0_1 HB)
      (case side2 => exact HC0_1.out)
      rintro e w45 ⟨v306, rfl, ho0, hb⟩
      refine ⟨_, rfl, ?_⟩
      have HO307 := Aside0.mk (Kd.R_lower ho0 (bz_ HB))
      replace BK300 := Aside0.mk (bb_ BK300 hb)
      replace BK301 := Aside0.mk (bb_ BK301 hb)
      replace HB := Aside0.mk (bt_ HB hb)
      (try clear hb)
      (try clear hb2)
      (try clear hk)
      (try clear hi)
      (try clear ho0)
      refine hK.out _ _ ⟨(blk_cell BK300.out 0).trans rfl, (blk_cell BK300.out 1).trans rfl, (blk_cell BK301.out 0).trans rfl, (blk_cell BK301.out 1).trans rfl⟩ (fun hHeld => ?_)
      clear hK K
      refine nz_ 27 ?_
      refine one_ (i := 3) (N := some 29) ba12_5 rfl rfl (by kernel_rfl) (by decide) (fun K hK => ?_)
      refine gz_ Try.func12 #[.agg #[.int .i64 a1_0, .slice A1_1 l1_1.length c1_1]] ?_
      with_reducible refine (laws_toGraph.calls k a1_0 _ _ l1_1 t308 t309 _ ?side1 ?side2 A21.out).mono ?_
      (case side1 => exact cb_ HR1_1 HB)
      (case side2 => exact HC1_1.out)
      rintro e w46 ⟨v310, rfl, ho0, hb⟩
      refine ⟨_, rfl, ?_⟩
      have HO311 := Aside0.mk (Kd.R_lower (Kd.R_new' ho0 (Kd.R_lt (hd_ HO307))) (bz_ HB))
      replace HO307 := Aside0.mk (Kd.R_elder' (hd_ HO307) (Kd.R_base ho0) hb)
      replace BK300 := Aside0.mk (bb_ BK300 hb)
      replace BK301 := Aside0.mk (bb_ BK301 hb)
      replace HB := Aside0.mk (bt_ HB hb)
      (try clear hb)
      (try clear hb2)
      (try clear hk)
      (try clear hi)
      (try clear ho0)
      obtain ⟨Ao47, co47, eo47⟩ := Kd.R_slice HO307.out
      (first | subst eo47 | (injection eo47 with f1_ f2_ f3_; have f4_ := f1_.symm; have f5_ := f3_.symm; clear f1_ f2_ f3_; subst f4_; subst f5_))
      obtain ⟨Ao48, co48, eo48⟩ := Kd.R_slice HO311.out
      (first | subst eo48 | (injection eo48 with f1_ f2_ f3_; have f4_ := f1_.symm; have f5_ := f3_.symm; clear f1_ f2_ f3_; subst f4_; subst f5_))
      refine hK.out _ _ ⟨(blk_cell BK300.out 0).trans rfl, (blk_cell BK300.out 1).trans rfl, (blk_cell BK301.out 0).trans rfl, (blk_cell BK301.out 1).trans rfl⟩ (fun hHeld => ?_)
      clear hK K
      refine nz_ 29 ?_
      refine one_ (i := 5) (N := some 31) ba12_6 rfl rfl (by kernel_rfl) (by decide) (fun K hK => ?_)
      refine gz_ Try.func21 #[.agg #[.int .i64 t304, .slice Ao47 t305.length co47], .agg #[.int .i64 t308, .slice Ao48 t309.length co48], .int .i64 a2] ?_
      with_reducible refine (spec_Changed.calls k t304 _ _ t305 t308 _ _ t309 a2 t312 _ ?side1 ?side2 ?side3 ?side4 A22.out).mono ?_
      (case side1 => exact rc_ HO307)
      (case side2 => exact (Kd.R_reads' HO307.out).2.1)
      (case side3 => exact rc_ HO311)
      (case side4 => exact (Kd.R_reads' HO311.out).2.1)
      rintro e w49 ⟨v313, rfl, ho0, hb⟩
      refine ⟨_, rfl, ?_⟩
      have HO314 := Aside0.mk (Kd.R_lower ho0 (bz_ HB))
      replace HO307 := rb_ HO307 hb
      replace HO311 := rb_ HO311 hb
      replace BK300 := Aside0.mk (bb_ BK300 hb)
      replace BK301 := Aside0.mk (bb_ BK301 hb)
      replace HB := Aside0.mk (bt_ HB hb)
      (try clear hb)
      (try clear hb2)
      (try clear hk)
      (try clear hi)
      (try clear ho0)
      refine hK.out _ _ ⟨(blk_cell BK300.out 0).trans rfl, (blk_cell BK300.out 1).trans rfl, (blk_cell BK301.out 0).trans rfl, (blk_cell BK301.out 1).trans rfl⟩ (fun hHeld => ?_)
      clear hK K
      refine nz_ 31 ?_
      refine pure_ (i := 6) (N := some 8) (v := ?_) (a' := ?_) ba12_7 rfl rfl (by kernel_rfl) (fun _ _ _ h => h) (Or.inl ⟨by rfl, ?_⟩) ?_ ?_
      rotate_left; · intro w'; go_simp; with_reducible rfl
      rotate_left; · simp only [Act.put, List.setIfInBounds_toArray, List.set_cons_zero, List.set_cons_succ, i64_w, i32_w]; rfl
      refine done_ (by kernel_rfl) ?_
      have hcz50_0 := cz_ BK300 0 (.int .i64 a0_0)
      have hcz50_1 := cz_ BK300 1 (.slice A0_1 l0_1.length c0_1)
      have hfz50_0 := blk_frozen BK300.out 0
      have hfz50_1 := blk_frozen BK300.out 1
      try go_wp2_with (first | ((with_reducible refine gate_callee (f := 12) rfl ?_); refine gl_ (some 33) Try.func12 #[.agg #[.int .i64 a0_0, .slice A0_1 l0_1.length c0_1]] ?_; (with_reducible refine (laws_toGraph.calls k a0_0 _ _ l0_1 t315 t316 _ ?side1 ?side2 A23.out).mono ?_); (case side1 => exact cb_ HR0_1 HB); (case side2 => exact HC0_1.out); rintro e w51 ⟨v317, rfl, ho0, hb⟩; refine ⟨_, rfl, ?_⟩; have HO318 := Aside0.mk (Kd.R_lower (Kd.R_new' (Kd.R_new' ho0 (Kd.R_lt (hd_ HO307))) (Kd.R_lt (hd_ HO311))) (bz_ HB)); replace HO314 := rb_ HO314 hb; replace HO307 := Aside0.mk (Kd.R_elder' (hd_ HO307) (Kd.R_base ho0) hb); replace HO311 := Aside0.mk (Kd.R_elder' (hd_ HO311) (Kd.R_base ho0) hb); replace BK300 := Aside0.mk (bb_ BK300 hb); replace BK301 := Aside0.mk (bb_ BK301 hb); replace HB := Aside0.mk (bt_ HB hb); (try clear hb); (try clear hb2); (try clear hk); (try clear hi); (try clear ho0)) | ((with_reducible refine gate_dst (N := 9) rfl ?_); refine box_event ?hg (N := 9) ?hd (cs := #[.int .i64 0, .slice none 0 0]) (t := 30) ?hr ?_; (case hd => rfl); (case hg => rfl); (case hr => first | (go_simp; done) | (go_simp; rfl)); intro gb319 hg w52 hbox hb; have BK319 := Aside0.mk hbox; have GW319 := ge_ HB hg; have GE319 := ge_ HB hg; have NB300_319 := nl_ BK300 hg; have NB319_300 := ng_ BK300 hg; have NB301_319 := nl_ BK301 hg; have NB319_301 := ng_ BK301 hg; replace HO307 := rb_ HO307 hb; replace HO311 := rb_ HO311 hb; replace HO314 := rb_ HO314 hb; replace HO318 := rb_ HO318 hb; replace HB := Aside0.mk (bt_ HB hb); replace BK300 := Aside0.mk (bb_ BK300 hb); replace BK301 := Aside0.mk (bb_ BK301 hb); clear hb hbox hg; have hnb53 := NB319_300.out; have hnc53 := NB300_319.out; have hnb54 := NB319_301.out; have hnc54 := NB301_319.out; have hcz55_0 := cz_ BK319 0 (.int .i64 0); have hcz55_1 := cz_ BK319 1 (.slice none 0 0); have hfz55_0 := blk_frozen BK319.out 0; have hfz55_1 := blk_frozen BK319.out 1; obtain ⟨Ao56, co56, eo56⟩ := Kd.R_slice HO318.out; subst eo56; have hcz57_0 := cz_ BK301 0 (.int .i64 a1_0); have hcz57_1 := cz_ BK301 1 (.slice A1_1 l1_1.length c1_1); have hfz57_0 := blk_frozen BK301.out 0; have hfz57_1 := blk_frozen BK301.out 1) | ((with_reducible refine gate_callee (f := 12) rfl ?_); refine gl_ (some 35) Try.func12 #[.agg #[.int .i64 a1_0, .slice A1_1 l1_1.length c1_1]] ?_; (with_reducible refine (laws_toGraph.calls k a1_0 _ _ l1_1 t320 t321 _ ?side1 ?side2 A24.out).mono ?_); (case side1 => exact Kd.C_below HR1_1.out (by repeat (first | (with_reducible first | exact HB.out | apply below_alloc | apply pw_below_drewN | apply below_drew1 | refine below_set ?_ GE300.out | refine below_set ?_ GE301.out | refine below_set ?_ GE319.out) | exact HB.out))); (case side2 => exact HC1_1.out); rintro e w58 ⟨v322, rfl, ho0, hb⟩; refine ⟨_, rfl, ?_⟩; have HO323 := Aside0.mk (Kd.R_lower (Kd.R_new' (Kd.R_new' (Kd.R_new' ho0 (Kd.R_lt (hs_ HO307 BK319))) (Kd.R_lt (hs_ HO311 BK319))) (Kd.R_lt (hs_ HO318 BK319))) (bz_ HB)); replace HO314 := rs_ HO314 BK319 hb; replace HO307 := Aside0.mk (Kd.R_elder' (hs_ HO307 BK319) (Kd.R_base ho0) hb); replace HO311 := Aside0.mk (Kd.R_elder' (hs_ HO311 BK319) (Kd.R_base ho0) hb); replace HO318 := Aside0.mk (Kd.R_elder' (hs_ HO318 BK319) (Kd.R_base ho0) hb); replace BK300 := bf_ BK300 NB300_319 hb; replace BK301 := bf_ BK301 NB301_319 hb; replace BK319 := Aside0.mk (blk_below (g := gb319) (o := .cells #[.int .i64 t315, .slice Ao56 t316.length co56] 30 (0, 0)) (by (with_reducible repeat (first | refine blk_drewN ?_ _ | refine blk_drew ?_ | refine blk_alloc ?_ _)); refine blk_put (cs := #[.int .i64 t315, .slice none 0 0]) ?_ 1 _ rfl; (with_reducible repeat (first | refine blk_drewN ?_ _ | refine blk_drew ?_ | refine blk_alloc ?_ _)); refine blk_put (cs := #[.int .i64 0, .slice none 0 0]) ?_ 0 _ rfl; (with_reducible repeat (first | refine blk_drewN ?_ _ | refine blk_drew ?_ | refine blk_alloc ?_ _)); exact BK319.out) hb); replace HB := Aside0.mk (bt_ HB hb); (try clear hb); (try clear hb2); (try clear hk); (try clear hi); (try clear ho0)) | ((with_reducible refine gate_dst (N := 10) rfl ?_); refine box_event ?hg (N := 10) ?hd (cs := #[.int .i64 0, .slice none 0 0]) (t := 30) ?hr ?_; (case hd => rfl); (case hg => rfl); (case hr => first | (go_simp; done) | (go_simp; rfl)); intro gb324 hg w59 hbox hb; have BK324 := Aside0.mk hbox; have GW324 := ge_ HB hg; have GE324 := ge_ HB hg; have NB300_324 := nl_ BK300 hg; have NB324_300 := ng_ BK300 hg; have NB301_324 := nl_ BK301 hg; have NB324_301 := ng_ BK301 hg; have NB319_324 := nl_ BK319 hg; have NB324_319 := ng_ BK319 hg; replace HO307 := rb_ HO307 hb; replace HO311 := rb_ HO311 hb; replace HO314 := rb_ HO314 hb; replace HO318 := rb_ HO318 hb; replace HO323 := rb_ HO323 hb; replace HB := Aside0.mk (bt_ HB hb); replace BK300 := Aside0.mk (bb_ BK300 hb); replace BK301 := Aside0.mk (bb_ BK301 hb); replace BK319 := Aside0.mk (bb_ BK319 hb); clear hb hbox hg; have hnb60 := NB324_300.out; have hnc60 := NB300_324.out; have hnb61 := NB324_301.out; have hnc61 := NB301_324.out; have hnb62 := NB324_319.out; have hnc62 := NB319_324.out; have hcz63_0 := cz_ BK324 0 (.int .i64 0); have hcz63_1 := cz_ BK324 1 (.slice none 0 0); have hfz63_0 := blk_frozen BK324.out 0; have hfz63_1 := blk_frozen BK324.out 1; obtain ⟨Ao64, co64, eo64⟩ := Kd.R_slice HO323.out; subst eo64; have hcz65_0 := cz_ BK319 0 (.int .i64 t315); have hcz65_1 := cz_ BK319 1 (.slice Ao56 t316.length co56); have hfz65_0 := blk_frozen BK319.out 0; have hfz65_1 := blk_frozen BK319.out 1) | ((with_reducible refine gate_callee (f := 22) rfl ?_); refine gl_ (some 39) Try.func22 #[.agg #[.int .i64 t315, .slice Ao56 t316.length co56], .agg #[.int .i64 t320, .slice Ao64 t321.length co64], .int .i64 a2] ?_; (with_reducible refine (impl_Changed.calls k t315 _ _ t316 t320 _ _ t321 a2 t325 _ ?side1 ?side2 ?side3 ?side4 A25.out).mono ?_); (case side1 => refine (Kd.R_reads' (e := 76) (base := w.heap.size) (ok := fun k_ => (((True ∧ some k_ ≠ (.slice Ao47 t305.length co47 : Value).ownBlock) ∧ some k_ ≠ (.slice Ao48 t309.length co48 : Value).ownBlock) ∧ some k_ ≠ (.slice Ao64 t321.length co64 : Value).ownBlock)) (n := t316.length) (c := co56) ?_).2.2; exact (hs_ HO318 BK324)); (case side2 => exact (Kd.R_reads' HO318.out).2.1); (case side3 => refine (Kd.R_reads' (e := 76) (base := w.heap.size) (ok := fun k_ => (((True ∧ some k_ ≠ (.slice Ao47 t305.length co47 : Value).ownBlock) ∧ some k_ ≠ (.slice Ao48 t309.length co48 : Value).ownBlock) ∧ some k_ ≠ (.slice Ao56 t316.length co56 : Value).ownBlock)) (n := t321.length) (c := co64) ?_).2.2; exact (hs_ HO323 BK324)); (case side4 => exact (Kd.R_reads' HO323.out).2.1); rintro e w66 ⟨v326, rfl, ho0, hb⟩; refine ⟨_, rfl, ?_⟩; have HO327 := Aside0.mk (Kd.R_lower (Kd.R_new' ho0 (Kd.R_lt (hs_ HO314 BK324))) (bz_ HB)); replace HO307 := rs_ HO307 BK324 hb; replace HO311 := rs_ HO311 BK324 hb; replace HO318 := rs_ HO318 BK324 hb; replace HO323 := rs_ HO323 BK324 hb; replace HO314 := Aside0.mk (Kd.R_elder' (hs_ HO314 BK324) (Kd.R_base ho0) hb); replace BK300 := bf_ BK300 NB300_324 hb; replace BK301 := bf_ BK301 NB301_324 hb; replace BK319 := bf_ BK319 NB319_324 hb; replace BK324 := Aside0.mk (blk_below (g := gb324) (o := .cells #[.int .i64 t320, .slice Ao64 t321.length co64] 30 (0, 0)) (by (with_reducible repeat (first | refine blk_drewN ?_ _ | refine blk_drew ?_ | refine blk_alloc ?_ _)); refine blk_put (cs := #[.int .i64 t320, .slice none 0 0]) ?_ 1 _ rfl; (with_reducible repeat (first | refine blk_drewN ?_ _ | refine blk_drew ?_ | refine blk_alloc ?_ _)); refine blk_put (cs := #[.int .i64 0, .slice none 0 0]) ?_ 0 _ rfl; (with_reducible repeat (first | refine blk_drewN ?_ _ | refine blk_drew ?_ | refine blk_alloc ?_ _)); exact BK324.out) hb); replace HB := Aside0.mk (bt_ HB hb); (try clear hb); (try clear hb2); (try clear hk); (try clear hi); (try clear ho0); obtain ⟨Ao67, co67, eo67⟩ := Kd.R_slice HO327.out; subst eo67; obtain ⟨Ao68, co68, eo68⟩ := Kd.R_slice HO314.out; subst eo68) | ((with_reducible refine gate_callee (f := 14) rfl ?_); refine gl_ (some 42) Try.func14 #[.slice Ao67 t325.length co67, .slice Ao68 t312.length co68] ?_; (with_reducible refine (laws_eqIntS.calls k _ _ t325 _ _ t312 true _ ?side1 ?side2 ?side3 ?side4 A26.out).mono ?_); (case side1 => exact rc_ HO327); (case side2 => exact (Kd.R_reads' HO327.out).2.1); (case side3 => exact rc_ HO314); (case side4 => exact (Kd.R_reads' HO314.out).2.1); rintro e w' ⟨rfl, ⟨nd, rfl⟩⟩; refine ⟨_, rfl, ?_⟩))
      (try (rw [drewN_self w66]; generalize hq_ : World.drewN w66 _ = w66; replace HO307 : Aside0 (Kd.R k76 76 w66 w.heap.size (fun k_ => some k_ ≠ (.slice Ao48 t309.length co48 : Value).ownBlock ∧ some k_ ≠ (.slice Ao56 t316.length co56 : Value).ownBlock ∧ some k_ ≠ (.slice Ao64 t321.length co64 : Value).ownBlock) (.slice Ao47 t305.length co47) t305) := ⟨by rw [← hq_]; exact (by (with_reducible repeat (first | apply Kd.R_alloc | apply Kd.R_drewN | apply Kd.R_drew)); exact Kd.R_mono HO307.out (fun _ hk => ⟨hk.1.1.2, ⟨hk.1.2, hk.2⟩⟩))⟩; replace HO311 : Aside0 (Kd.R k76 76 w66 w.heap.size (fun k_ => some k_ ≠ (.slice Ao47 t305.length co47 : Value).ownBlock ∧ some k_ ≠ (.slice Ao56 t316.length co56 : Value).ownBlock ∧ some k_ ≠ (.slice Ao64 t321.length co64 : Value).ownBlock) (.slice Ao48 t309.length co48) t309) := ⟨by rw [← hq_]; exact (by (with_reducible repeat (first | apply Kd.R_alloc | apply Kd.R_drewN | apply Kd.R_drew)); exact Kd.R_mono HO311.out (fun _ hk => ⟨hk.1.1.2, ⟨hk.1.2, hk.2⟩⟩))⟩; replace HO314 : Aside0 (Kd.R (Kd.int .i64) 3 w66 w.heap.size (fun k_ => some k_ ≠ (.slice Ao67 t325.length co67 : Value).ownBlock) (.slice Ao68 t312.length co68) t312) := ⟨by rw [← hq_]; exact (by (with_reducible repeat (first | apply Kd.R_alloc | apply Kd.R_drewN | apply Kd.R_drew)); exact Kd.R_mono HO314.out (fun _ hk => hk.2))⟩; replace HO318 : Aside0 (Kd.R k76 76 w66 w.heap.size (fun k_ => some k_ ≠ (.slice Ao47 t305.length co47 : Value).ownBlock ∧ some k_ ≠ (.slice Ao48 t309.length co48 : Value).ownBlock ∧ some k_ ≠ (.slice Ao64 t321.length co64 : Value).ownBlock) (.slice Ao56 t316.length co56) t316) := ⟨by rw [← hq_]; exact (by (with_reducible repeat (first | apply Kd.R_alloc | apply Kd.R_drewN | apply Kd.R_drew)); exact Kd.R_mono HO318.out (fun _ hk => ⟨hk.1.1.2, ⟨hk.1.2, hk.2⟩⟩))⟩; replace HO323 : Aside0 (Kd.R k76 76 w66 w.heap.size (fun k_ => some k_ ≠ (.slice Ao47 t305.length co47 : Value).ownBlock ∧ some k_ ≠ (.slice Ao48 t309.length co48 : Value).ownBlock ∧ some k_ ≠ (.slice Ao56 t316.length co56 : Value).ownBlock) (.slice Ao64 t321.length co64) t321) := ⟨by rw [← hq_]; exact (by (with_reducible repeat (first | apply Kd.R_alloc | apply Kd.R_drewN | apply Kd.R_drew)); exact Kd.R_mono HO323.out (fun _ hk => ⟨hk.1.1.2, ⟨hk.1.2, hk.2⟩⟩))⟩; replace HO327 : Aside0 (Kd.R (Kd.int .i64) 3 w66 w.heap.size (fun k_ => some k_ ≠ (.slice Ao68 t312.length co68 : Value).ownBlock) (.slice Ao67 t325.length co67) t325) := ⟨by rw [← hq_]; exact (by (with_reducible repeat (first | apply Kd.R_alloc | apply Kd.R_drewN | apply Kd.R_drew)); exact Kd.R_mono HO327.out (fun _ hk => hk.2))⟩; replace BK300 : Aside0 (w66.heap[gb300]? = some (.cells #[.int .i64 a0_0, .slice A0_1 l0_1.length c0_1] 24 (0, 0))) := ⟨by rw [← hq_]; exact (by (with_reducible repeat (first | refine blk_drewN ?_ _ | refine blk_drew ?_ | refine blk_alloc ?_ _)); exact BK300.out)⟩; replace BK301 : Aside0 (w66.heap[gb301]? = some (.cells #[.int .i64 a1_0, .slice A1_1 l1_1.length c1_1] 24 (0, 0))) := ⟨by rw [← hq_]; exact (by (with_reducible repeat (first | refine blk_drewN ?_ _ | refine blk_drew ?_ | refine blk_alloc ?_ _)); exact BK301.out)⟩; replace BK319 : Aside0 (w66.heap[gb319]? = some (.cells #[.int .i64 t315, .slice Ao56 t316.length co56] 30 (0, 0))) := ⟨by rw [← hq_]; exact (by (with_reducible repeat (first | refine blk_drewN ?_ _ | refine blk_drew ?_ | refine blk_alloc ?_ _)); exact BK319.out)⟩; replace BK324 : Aside0 (w66.heap[gb324]? = some (.cells #[.int .i64 t320, .slice Ao64 t321.length co64] 30 (0, 0))) := ⟨by rw [← hq_]; exact (by (with_reducible repeat (first | refine blk_drewN ?_ _ | refine blk_drew ?_ | refine blk_alloc ?_ _)); exact BK324.out)⟩; replace HB : Aside0 (Below w.heap.size w w66) := ⟨by rw [← hq_]; exact (by repeat (first | (with_reducible first | exact HB.out | apply below_alloc | apply pw_below_drewN | apply below_drew1 | refine below_set ?_ GE300.out | refine below_set ?_ GE301.out | refine below_set ?_ GE319.out | refine below_set ?_ GE324.out) | exact HB.out))⟩; clear hq_))
      replace HO307 := Aside0.mk (Kd.R_drew HO307.out)
      replace HO311 := Aside0.mk (Kd.R_drew HO311.out)
      replace HO314 := Aside0.mk (Kd.R_drew HO314.out)
      replace HO318 := Aside0.mk (Kd.R_drew HO318.out)
      replace HO323 := Aside0.mk (Kd.R_drew HO323.out)
      replace HO327 := Aside0.mk (Kd.R_drew HO327.out)
      replace BK300 := Aside0.mk (blk_drew BK300.out)
      replace BK301 := Aside0.mk (blk_drew BK301.out)
      replace BK319 := Aside0.mk (blk_drew BK319.out)
      replace BK324 := Aside0.mk (blk_drew BK324.out)
      replace HB := Aside0.mk (below_drew1 HB.out)
      refine start_ (n := 5) (S := fun w' => w'.cell? ⟨gb319, 0, none⟩ = some (.int .i64 t315) ∧ w'.cell? ⟨gb319, 1, none⟩ = some (.slice Ao56 t316.length co56) ∧ w'.cell? ⟨gb300, 0, none⟩ = some (.int .i64 a0_0) ∧ w'.cell? ⟨gb300, 1, none⟩ = some (.slice A0_1 l0_1.length c0_1)) (ds := []) ba12_8 (by kernel_rfl) rfl rfl ⟨(blk_cell BK319.out 0).trans rfl, (blk_cell BK319.out 1).trans rfl, (blk_cell BK300.out 0).trans rfl, (blk_cell BK300.out 1).trans rfl⟩ (fun hHeld => ?_)
      generalize w66.drew = w69 at HO307 HO311 HO314 HO318 HO323 HO327 BK300 BK301 BK319 BK324 HB hHeld ⊢
      refine take_ (i := 0) (N := some 44) (v := ?_) (a' := ?_) ba12_9 rfl rfl (by kernel_rfl) (fun _ _ _ h => h) (Or.inl ⟨by rfl, ?_⟩) hHeld ?_ ?_
      rotate_left; · rintro w' ⟨s0, s1, s2, s3⟩; go_simp; with_reducible rfl
      rotate_left; · simp only [Act.put, List.setIfInBounds_toArray, List.set_cons_zero, List.set_cons_succ, i64_w, i32_w]; rfl
      refine take_ (i := 1) (N := some 45) (v := ?_) (a' := ?_) ba12_10 rfl rfl (by kernel_rfl) (fun _ _ _ h => h) (Or.inl ⟨by rfl, ?_⟩) hHeld ?_ ?_
      rotate_left; · rintro w' ⟨s0, s1, s2, s3⟩; go_simp; with_reducible rfl
      rotate_left; · simp only [Act.put, List.setIfInBounds_toArray, List.set_cons_zero, List.set_cons_succ, i64_w, i32_w]; rfl
      refine one_ (i := 2) (N := some 46) ba12_11 rfl rfl (by kernel_rfl) (by decide) (fun K hK => ?_)
      refine gz_ Try.func12 #[.agg #[.int .i64 a0_0, .slice A0_1 l0_1.length c0_1]] ?_
      with_reducible refine (laws_toGraph.calls k a0_0 _ _ l0_1 t329 t330 _ ?side1 ?side2 A28.out).mono ?_
      (case side1 => exact cb_ HR0_1 HB)
      (case side2 => exact HC0_1.out)
      rintro e w70 ⟨v331, rfl, ho0, hb⟩
      refine ⟨_, rfl, ?_⟩
      have HO332 := Aside0.mk (Kd.R_lower (Kd.R_new' (Kd.R_new' (Kd.R_new' (Kd.R_new' ho0 (Kd.R_lt (hd_ HO307))) (Kd.R_lt (hd_ HO311))) (Kd.R_lt (hd_ HO318))) (Kd.R_lt (hd_ HO323))) (bz_ HB))
      replace HO314 := rb_ HO314 hb
      replace HO327 := rb_ HO327 hb
      replace HO307 := Aside0.mk (Kd.R_elder' (hd_ HO307) (Kd.R_base ho0) hb)
      replace HO311 := Aside0.mk (Kd.R_elder' (hd_ HO311) (Kd.R_base ho0) hb)
      replace HO318 := Aside0.mk (Kd.R_elder' (hd_ HO318) (Kd.R_base ho0) hb)
      replace HO323 := Aside0.mk (Kd.R_elder' (hd_ HO323) (Kd.R_base ho0) hb)
      replace BK300 := Aside0.mk (bb_ BK300 hb)
      replace BK301 := Aside0.mk (bb_ BK301 hb)
      replace BK319 := Aside0.mk (bb_ BK319 hb)
      replace BK324 := Aside0.mk (bb_ BK324 hb)
      replace HB := Aside0.mk (bt_ HB hb)
      (try clear hb)
      (try clear hb2)
      (try clear hk)
      (try clear hi)
      (try clear ho0)
      obtain ⟨Ao71, co71, eo71⟩ := Kd.R_slice HO332.out
      (first | subst eo71 | (injection eo71 with f1_ f2_ f3_; have f4_ := f1_.symm; have f5_ := f3_.symm; clear f1_ f2_ f3_; subst f4_; subst f5_))
      refine hK.out _ _ ⟨(blk_cell BK319.out 0).trans rfl, (blk_cell BK319.out 1).trans rfl, (blk_cell BK300.out 0).trans rfl, (blk_cell BK300.out 1).trans rfl⟩ (fun hHeld => ?_)
      clear hK K
      refine nz_ 46 ?_
      refine one_ (i := 3) (N := some 47) ba12_12 rfl rfl (by kernel_rfl) (by decide) (fun K hK => ?_)
      refine gz_ Try.func15 #[.agg #[.int .i64 t315, .slice Ao56 t316.length co56], .agg #[.int .i64 t329, .slice Ao71 t330.length co71]] ?_
      with_reducible refine (laws_eqGraph.calls k t315 _ _ t316 t329 _ _ t330 true _ ?side1 ?side2 ?side3 ?side4 A29.out).mono ?_
      (case side1 => exact rc_ HO318)
      (case side2 => exact (Kd.R_reads' HO318.out).2.1)
      (case side3 => exact rc_ HO332)
      (case side4 => exact (Kd.R_reads' HO332.out).2.1)
      rintro e w72 ⟨rfl, hb⟩
      refine ⟨_, rfl, ?_⟩
      replace HO307 := rb_ HO307 hb
      replace HO311 := rb_ HO311 hb
      replace HO314 := rb_ HO314 hb
      replace HO318 := rb_ HO318 hb
      replace HO323 := rb_ HO323 hb
      replace HO327 := rb_ HO327 hb
      replace HO332 := rb_ HO332 hb
      replace BK300 := Aside0.mk (bb_ BK300 hb)
      replace BK301 := Aside0.mk (bb_ BK301 hb)
      replace BK319 := Aside0.mk (bb_ BK319 hb)
      replace BK324 := Aside0.mk (bb_ BK324 hb)
      replace HB := Aside0.mk (bt_ HB hb)
      (try clear hb)
      (try clear hb2)
      (try clear hk)
      (try clear hi)
      refine hK.out _ _ ⟨(blk_cell BK319.out 0).trans rfl, (blk_cell BK319.out 1).trans rfl, (blk_cell BK300.out 0).trans rfl, (blk_cell BK300.out 1).trans rfl⟩ (fun hHeld => ?_)
      clear hK K
      refine nz_ 47 ?_
      refine pure_ (i := 4) (N := some 48) (v := ?_) (a' := ?_) ba12_13 rfl rfl (by kernel_rfl) (fun _ _ _ h => h) (Or.inl ⟨by rfl, ?_⟩) ?_ ?_
      rotate_left; · intro w'; go_simp; with_reducible rfl
      rotate_left; · simp only [Act.put, List.setIfInBounds_toArray, List.set_cons_zero, List.set_cons_succ, i64_w, i32_w]; rfl
      refine done_ (by kernel_rfl) ?_
      try go_wp2
      replace HO307 := Aside0.mk (Kd.R_drew HO307.out)
      replace HO311 := Aside0.mk (Kd.R_drew HO311.out)
      replace HO314 := Aside0.mk (Kd.R_drew HO314.out)
      replace HO318 := Aside0.mk (Kd.R_drew HO318.out)
      replace HO323 := Aside0.mk (Kd.R_drew HO323.out)
      replace HO327 := Aside0.mk (Kd.R_drew HO327.out)
      replace HO332 := Aside0.mk (Kd.R_drew HO332.out)
      replace BK300 := Aside0.mk (blk_drew BK300.out)
      replace BK301 := Aside0.mk (blk_drew BK301.out)
      replace BK319 := Aside0.mk (blk_drew BK319.out)
      replace BK324 := Aside0.mk (blk_drew BK324.out)
      replace HB := Aside0.mk (below_drew1 HB.out)
      refine start_ (n := 5) (S := fun w' => w'.cell? ⟨gb324, 0, none⟩ = some (.int .i64 t320) ∧ w'.cell? ⟨gb324, 1, none⟩ = some (.slice Ao64 t321.length co64) ∧ w'.cell? ⟨gb301, 0, none⟩ = some (.int .i64 a1_0) ∧ w'.cell? ⟨gb301, 1, none⟩ = some (.slice A1_1 l1_1.length c1_1)) (ds := []) ba12_8 (by kernel_rfl) rfl rfl ⟨(blk_cell BK324.out 0).trans rfl, (blk_cell BK324.out 1).trans rfl, (blk_cell BK301.out 0).trans rfl, (blk_cell BK301.out 1).trans rfl⟩ (fun hHeld => ?_)
      generalize w72.drew = w73 at HO307 HO311 HO314 HO318 HO323 HO327 HO332 BK300 BK301 BK319 BK324 HB hHeld ⊢
      refine take_ (i := 0) (N := some 49) (v := ?_) (a' := ?_) ba12_9 rfl rfl (by kernel_rfl) (fun _ _ _ h => h) (Or.inl ⟨by rfl, ?_⟩) hHeld ?_ ?_
      rotate_left; · rintro w' ⟨s0, s1, s2, s3⟩; go_simp; with_reducible rfl
      rotate_left; · simp only [Act.put, List.setIfInBounds_toArray, List.set_cons_zero, List.set_cons_succ, i64_w, i32_w]; rfl
      refine take_ (i := 1) (N := some 50) (v := ?_) (a' := ?_) ba12_10 rfl rfl (by kernel_rfl) (fun _ _ _ h => h) (Or.inl ⟨by rfl, ?_⟩) hHeld ?_ ?_
      rotate_left; · rintro w' ⟨s0, s1, s2, s3⟩; go_simp; with_reducible rfl
      rotate_left; · simp only [Act.put, List.setIfInBounds_toArray, List.set_cons_zero, List.set_cons_succ, i64_w, i32_w]; rfl
      refine one_ (i := 2) (N := some 51) ba12_11 rfl rfl (by kernel_rfl) (by decide) (fun K hK => ?_)
      refine gz_ Try.func12 #[.agg #[.int .i64 a1_0, .slice A1_1 l1_1.length c1_1]] ?_
      with_reducible refine (laws_toGraph.calls k a1_0 _ _ l1_1 t334 t335 _ ?side1 ?side2 A31.out).mono ?_
      (case side1 => exact cb_ HR1_1 HB)
      (case side2 => exact HC1_1.out)
      rintro e w74 ⟨v336, rfl, ho0, hb⟩
      refine ⟨_, rfl, ?_⟩
      have HO337 := Aside0.mk (Kd.R_lower (Kd.R_new' (Kd.R_new' (Kd.R_new' (Kd.R_new' (Kd.R_new' ho0 (Kd.R_lt (hd_ HO307))) (Kd.R_lt (hd_ HO311))) (Kd.R_lt (hd_ HO318))) (Kd.R_lt (hd_ HO323))) (Kd.R_lt (hd_ HO332))) (bz_ HB))
      replace HO314 := rb_ HO314 hb
      replace HO327 := rb_ HO327 hb
      replace HO307 := Aside0.mk (Kd.R_elder' (hd_ HO307) (Kd.R_base ho0) hb)
      replace HO311 := Aside0.mk (Kd.R_elder' (hd_ HO311) (Kd.R_base ho0) hb)
      replace HO318 := Aside0.mk (Kd.R_elder' (hd_ HO318) (Kd.R_base ho0) hb)
      replace HO323 := Aside0.mk (Kd.R_elder' (hd_ HO323) (Kd.R_base ho0) hb)
      replace HO332 := Aside0.mk (Kd.R_elder' (hd_ HO332) (Kd.R_base ho0) hb)
      replace BK300 := Aside0.mk (bb_ BK300 hb)
      replace BK301 := Aside0.mk (bb_ BK301 hb)
      replace BK319 := Aside0.mk (bb_ BK319 hb)
      replace BK324 := Aside0.mk (bb_ BK324 hb)
      replace HB := Aside0.mk (bt_ HB hb)
      (try clear hb)
      (try clear hb2)
      (try clear hk)
      (try clear hi)
      (try clear ho0)
      obtain ⟨Ao75, co75, eo75⟩ := Kd.R_slice HO337.out
      (first | subst eo75 | (injection eo75 with f1_ f2_ f3_; have f4_ := f1_.symm; have f5_ := f3_.symm; clear f1_ f2_ f3_; subst f4_; subst f5_))
      refine hK.out _ _ ⟨(blk_cell BK324.out 0).trans rfl, (blk_cell BK324.out 1).trans rfl, (blk_cell BK301.out 0).trans rfl, (blk_cell BK301.out 1).trans rfl⟩ (fun hHeld => ?_)
      clear hK K
      refine nz_ 51 ?_
      refine one_ (i := 3) (N := some 52) ba12_12 rfl rfl (by kernel_rfl) (by decide) (fun K hK => ?_)
      refine gz_ Try.func15 #[.agg #[.int .i64 t320, .slice Ao64 t321.length co64], .agg #[.int .i64 t334, .slice Ao75 t335.length co75]] ?_
      with_reducible refine (laws_eqGraph.calls k t320 _ _ t321 t334 _ _ t335 true _ ?side1 ?side2 ?side3 ?side4 A32.out).mono ?_
      (case side1 => exact rc_ HO323)
      (case side2 => exact (Kd.R_reads' HO323.out).2.1)
      (case side3 => exact rc_ HO337)
      (case side4 => exact (Kd.R_reads' HO337.out).2.1)
      rintro e w76 ⟨rfl, hb⟩
      refine ⟨_, rfl, ?_⟩
      replace HO307 := rb_ HO307 hb
      replace HO311 := rb_ HO311 hb
      replace HO314 := rb_ HO314 hb
      replace HO318 := rb_ HO318 hb
      replace HO323 := rb_ HO323 hb
      replace HO327 := rb_ HO327 hb
      replace HO332 := rb_ HO332 hb
      replace HO337 := rb_ HO337 hb
      replace BK300 := Aside0.mk (bb_ BK300 hb)
      replace BK301 := Aside0.mk (bb_ BK301 hb)
      replace BK319 := Aside0.mk (bb_ BK319 hb)
      replace BK324 := Aside0.mk (bb_ BK324 hb)
      replace HB := Aside0.mk (bt_ HB hb)
      (try clear hb)
      (try clear hb2)
      (try clear hk)
      (try clear hi)
      refine hK.out _ _ ⟨(blk_cell BK324.out 0).trans rfl, (blk_cell BK324.out 1).trans rfl, (blk_cell BK301.out 0).trans rfl, (blk_cell BK301.out 1).trans rfl⟩ (fun hHeld => ?_)
      clear hK K
      refine nz_ 52 ?_
      refine pure_ (i := 4) (N := some 53) (v := ?_) (a' := ?_) ba12_13 rfl rfl (by kernel_rfl) (fun _ _ _ h => h) (Or.inl ⟨by rfl, ?_⟩) ?_ ?_
      rotate_left; · intro w'; go_simp; with_reducible rfl
      rotate_left; · simp only [Act.put, List.setIfInBounds_toArray, List.set_cons_zero, List.set_cons_succ, i64_w, i32_w]; rfl
      refine done_ (by kernel_rfl) ?_
      have hcz77_0 := cz_ BK319 0 (.int .i64 t315)
      have hcz77_1 := cz_ BK319 1 (.slice Ao56 t316.length co56)
      have hfz77_0 := blk_frozen BK319.out 0
      have hfz77_1 := blk_frozen BK319.out 1
      go_upto_region 21 with (first | ((with_reducible refine gate_callee (f := 16) rfl ?_); refine gl_ (some 56) Try.func16 #[.agg #[.int .i64 t315, .slice Ao56 t316.length co56], .int .i64 1] ?_; (with_reducible refine (laws_markGraph.calls k t315 (fun k_ => some k_ = (.slice Ao56 t316.length co56 : Value).ownBlock) (.slice Ao56 t316.length co56) t316 1 t339 t340 w _ ?side1 ?side2 A34.out).mono ?_); (case side1 => exact by_ HB); (case side2 => exact Kd.R_tight rfl HO318.out); rintro e w78 ⟨rfl, hy0, hb, hkp⟩; refine ⟨_, rfl, ?_⟩; replace BK300 := bk_ BK300 hkp (fun hs_ => (Kd.R_ne HO318.out BK300.out (by decide)) hs_); replace BK301 := bk_ BK301 hkp (fun hs_ => (Kd.R_ne HO318.out BK301.out (by decide)) hs_); replace HO307 := kp_ (fun k_ => some k_ ≠ (.slice Ao48 t309.length co48 : Value).ownBlock ∧ some k_ ≠ (.slice Ao56 t316.length co56 : Value).ownBlock ∧ some k_ ≠ (.slice Ao64 t321.length co64 : Value).ownBlock ∧ some k_ ≠ (.slice Ao71 t330.length co71 : Value).ownBlock ∧ some k_ ≠ (.slice Ao75 t335.length co75 : Value).ownBlock) (HO307.out) hkp; replace HO311 := kp_ (fun k_ => some k_ ≠ (.slice Ao47 t305.length co47 : Value).ownBlock ∧ some k_ ≠ (.slice Ao56 t316.length co56 : Value).ownBlock ∧ some k_ ≠ (.slice Ao64 t321.length co64 : Value).ownBlock ∧ some k_ ≠ (.slice Ao71 t330.length co71 : Value).ownBlock ∧ some k_ ≠ (.slice Ao75 t335.length co75 : Value).ownBlock) (HO311.out) hkp; replace HO314 := kp_ (fun k_ => some k_ ≠ (.slice Ao67 t325.length co67 : Value).ownBlock) ((Kd.R_apart' HO314.out (Kd.R_typed HO318.out) (by decide))) hkp; replace BK319 := bk_ BK319 hkp (fun hs_ => (Kd.R_ne HO318.out BK319.out (by decide)) hs_); replace HO323 := kp_ (fun k_ => some k_ ≠ (.slice Ao47 t305.length co47 : Value).ownBlock ∧ some k_ ≠ (.slice Ao48 t309.length co48 : Value).ownBlock ∧ some k_ ≠ (.slice Ao56 t316.length co56 : Value).ownBlock ∧ some k_ ≠ (.slice Ao71 t330.length co71 : Value).ownBlock ∧ some k_ ≠ (.slice Ao75 t335.length co75 : Value).ownBlock) (HO323.out) hkp; replace BK324 := bk_ BK324 hkp (fun hs_ => (Kd.R_ne HO318.out BK324.out (by decide)) hs_); replace HO327 := kp_ (fun k_ => some k_ ≠ (.slice Ao68 t312.length co68 : Value).ownBlock) ((Kd.R_apart' HO327.out (Kd.R_typed HO318.out) (by decide))) hkp; replace HO318 := Aside0.mk (Kd.R_reok rfl hy0 (fun k_ e_ => HO318.out.1 k_ e_)); replace HO332 := kp_ (fun k_ => some k_ ≠ (.slice Ao47 t305.length co47 : Value).ownBlock ∧ some k_ ≠ (.slice Ao48 t309.length co48 : Value).ownBlock ∧ some k_ ≠ (.slice Ao56 t316.length co56 : Value).ownBlock ∧ some k_ ≠ (.slice Ao64 t321.length co64 : Value).ownBlock ∧ some k_ ≠ (.slice Ao75 t335.length co75 : Value).ownBlock) (HO332.out) hkp; replace HO337 := kp_ (fun k_ => some k_ ≠ (.slice Ao47 t305.length co47 : Value).ownBlock ∧ some k_ ≠ (.slice Ao48 t309.length co48 : Value).ownBlock ∧ some k_ ≠ (.slice Ao56 t316.length co56 : Value).ownBlock ∧ some k_ ≠ (.slice Ao64 t321.length co64 : Value).ownBlock ∧ some k_ ≠ (.slice Ao71 t330.length co71 : Value).ownBlock) (HO337.out) hkp; replace HB := Aside0.mk (hb); (try clear hb); (try clear hkp); (try clear hy0); have hcz79_0 := cz_ BK324 0 (.int .i64 t320); have hcz79_1 := cz_ BK324 1 (.slice Ao64 t321.length co64); have hfz79_0 := blk_frozen BK324.out 0; have hfz79_1 := blk_frozen BK324.out 1) | ((with_reducible refine gate_callee (f := 16) rfl ?_); refine gl_ (some 59) Try.func16 #[.agg #[.int .i64 t320, .slice Ao64 t321.length co64], .int .i64 t339] ?_; (with_reducible refine (laws_markGraph.calls k t320 (fun k_ => some k_ = (.slice Ao64 t321.length co64 : Value).ownBlock) (.slice Ao64 t321.length co64) t321 t339 t341 t342 w _ ?side1 ?side2 A35.out).mono ?_); (case side1 => exact by_ HB); (case side2 => exact Kd.R_tight rfl HO323.out); rintro e w80 ⟨rfl, hy0, hb, hkp⟩; refine ⟨_, rfl, ?_⟩; replace BK300 := bk_ BK300 hkp (fun hs_ => (Kd.R_ne HO323.out BK300.out (by decide)) hs_); replace BK301 := bk_ BK301 hkp (fun hs_ => (Kd.R_ne HO323.out BK301.out (by decide)) hs_); replace HO307 := kp_ (fun k_ => some k_ ≠ (.slice Ao48 t309.length co48 : Value).ownBlock ∧ some k_ ≠ (.slice Ao56 t316.length co56 : Value).ownBlock ∧ some k_ ≠ (.slice Ao64 t321.length co64 : Value).ownBlock ∧ some k_ ≠ (.slice Ao71 t330.length co71 : Value).ownBlock ∧ some k_ ≠ (.slice Ao75 t335.length co75 : Value).ownBlock) (HO307.out) hkp; replace HO311 := kp_ (fun k_ => some k_ ≠ (.slice Ao47 t305.length co47 : Value).ownBlock ∧ some k_ ≠ (.slice Ao56 t316.length co56 : Value).ownBlock ∧ some k_ ≠ (.slice Ao64 t321.length co64 : Value).ownBlock ∧ some k_ ≠ (.slice Ao71 t330.length co71 : Value).ownBlock ∧ some k_ ≠ (.slice Ao75 t335.length co75 : Value).ownBlock) (HO311.out) hkp; replace HO314 := kp_ (fun k_ => some k_ ≠ (.slice Ao67 t325.length co67 : Value).ownBlock) ((Kd.R_apart' HO314.out (Kd.R_typed HO323.out) (by decide))) hkp; replace HO318 := kp_ (fun k_ => some k_ ≠ (.slice Ao47 t305.length co47 : Value).ownBlock ∧ some k_ ≠ (.slice Ao48 t309.length co48 : Value).ownBlock ∧ some k_ ≠ (.slice Ao64 t321.length co64 : Value).ownBlock ∧ some k_ ≠ (.slice Ao71 t330.length co71 : Value).ownBlock ∧ some k_ ≠ (.slice Ao75 t335.length co75 : Value).ownBlock) (HO318.out) hkp; replace BK319 := bk_ BK319 hkp (fun hs_ => (Kd.R_ne HO323.out BK319.out (by decide)) hs_); replace BK324 := bk_ BK324 hkp (fun hs_ => (Kd.R_ne HO323.out BK324.out (by decide)) hs_); replace HO327 := kp_ (fun k_ => some k_ ≠ (.slice Ao68 t312.length co68 : Value).ownBlock) ((Kd.R_apart' HO327.out (Kd.R_typed HO323.out) (by decide))) hkp; replace HO323 := Aside0.mk (Kd.R_reok rfl hy0 (fun k_ e_ => HO323.out.1 k_ e_)); replace HO332 := kp_ (fun k_ => some k_ ≠ (.slice Ao47 t305.length co47 : Value).ownBlock ∧ some k_ ≠ (.slice Ao48 t309.length co48 : Value).ownBlock ∧ some k_ ≠ (.slice Ao56 t316.length co56 : Value).ownBlock ∧ some k_ ≠ (.slice Ao64 t321.length co64 : Value).ownBlock ∧ some k_ ≠ (.slice Ao75 t335.length co75 : Value).ownBlock) (HO332.out) hkp; replace HO337 := kp_ (fun k_ => some k_ ≠ (.slice Ao47 t305.length co47 : Value).ownBlock ∧ some k_ ≠ (.slice Ao48 t309.length co48 : Value).ownBlock ∧ some k_ ≠ (.slice Ao56 t316.length co56 : Value).ownBlock ∧ some k_ ≠ (.slice Ao64 t321.length co64 : Value).ownBlock ∧ some k_ ≠ (.slice Ao71 t330.length co71 : Value).ownBlock) (HO337.out) hkp; replace HB := Aside0.mk (hb); (try clear hb); (try clear hkp); (try clear hy0)))
      (try simp only [Act.put, List.setIfInBounds_toArray, List.set_cons_zero, List.set_cons_succ])
      go_cut [67] (fun v67 wc => ∃ (kq : Nat) (x67_35 : Bool), v67 = .bool x67_35 ∧ Aside0 (laws_FnExactChanged.j0 kq a2 t312 t325 x67_35 a0_0 l0_1 a1_0 l1_1 = some r) ∧ Aside0 (kq ≤ k) ∧ Aside0 (Kd.R (Kd.int .i64) 3 wc w.heap.size (fun k_ => some k_ ≠ ((.slice Ao67 t325.length co67) : Value).ownBlock) (.slice Ao68 t312.length co68) t312) ∧ Aside0 (Kd.R (Kd.int .i64) 3 wc w.heap.size (fun k_ => some k_ ≠ ((.slice Ao68 t312.length co68) : Value).ownBlock) (.slice Ao67 t325.length co67) t325) ∧ Aside0 (Kd.R k76 76 wc w.heap.size (fun k_ => some k_ ≠ ((.slice Ao64 t321.length co64) : Value).ownBlock) (.slice Ao56 t316.length co56) t340) ∧ Aside0 (Kd.R k76 76 wc w.heap.size (fun k_ => some k_ ≠ ((.slice Ao56 t316.length co56) : Value).ownBlock) (.slice Ao64 t321.length co64) t342) ∧ Aside0 (wc.heap[gb300]? = some (.cells #[.int .i64 a0_0, (.slice A0_1 l0_1.length c0_1)] 24 (0, 0))) ∧ Aside0 (wc.heap[gb301]? = some (.cells #[.int .i64 a1_0, (.slice A1_1 l1_1.length c1_1)] 24 (0, 0))) ∧ Aside0 (wc.heap[gb319]? = some (.cells #[.int .i64 t315, (.slice Ao56 t316.length co56)] 30 (0, 0))) ∧ Aside0 (wc.heap[gb324]? = some (.cells #[.int .i64 t320, (.slice Ao64 t321.length co64)] 30 (0, 0))) ∧ Aside0 (Below w.heap.size w wc))
      case first =>
       have H := HC36.out
       clear HC36
       by_cases c81 : t341 < 0
       ·rw [if_pos c81] at H
        have c81b0 : decide (t341 < 0) = true := decide_eq_true c81
        clear c81
        (first | rw [c81b0] | (simp only [i64_w, i32_w]; rw [c81b0]) | skip)
        have H' := Aside0.mk H
        clear H
        go_wp2
        go_meet
        case rel => exact ⟨_, (true), (by first | rfl | (simp; done) | (simp [*]; done)), H', ⟨by first | omega | exact Nat.le_refl _⟩, ⟨by (with_reducible repeat (first | apply Kd.R_alloc | apply Kd.R_drewN | apply Kd.R_drew)); exact HO314.out⟩, ⟨by (with_reducible repeat (first | apply Kd.R_alloc | apply Kd.R_drewN | apply Kd.R_drew)); exact HO327.out⟩, ⟨by (with_reducible repeat (first | apply Kd.R_alloc | apply Kd.R_drewN | apply Kd.R_drew)); exact Kd.R_mono HO318.out (fun _ hk => hk.2.2.1)⟩, ⟨by (with_reducible repeat (first | apply Kd.R_alloc | apply Kd.R_drewN | apply Kd.R_drew)); exact Kd.R_mono HO323.out (fun _ hk => hk.2.2.1)⟩, ⟨by (with_reducible repeat (first | refine blk_drewN ?_ _ | refine blk_drew ?_ | refine blk_alloc ?_ _)); exact BK300.out⟩, ⟨by (with_reducible repeat (first | refine blk_drewN ?_ _ | refine blk_drew ?_ | refine blk_alloc ?_ _)); exact BK301.out⟩, ⟨by (with_reducible repeat (first | refine blk_drewN ?_ _ | refine blk_drew ?_ | refine blk_alloc ?_ _)); exact BK319.out⟩, ⟨by (with_reducible repeat (first | refine blk_drewN ?_ _ | refine blk_drew ?_ | refine blk_alloc ?_ _)); exact BK324.out⟩, ⟨by repeat (first | (with_reducible first | exact HB.out | apply below_alloc | apply pw_below_drewN | apply below_drew1 | refine below_set ?_ GE300.out | refine below_set ?_ GE301.out | refine below_set ?_ GE319.out | refine below_set ?_ GE324.out) | exact HB.out)⟩⟩
       ·rw [if_neg c81] at H
        have c81b0 : decide (t341 < 0) = false := decide_eq_false c81
        clear c81
        (first | rw [c81b0] | (simp only [i64_w, i32_w]; rw [c81b0]) | skip)
        replace H := Option.bind_eq_some_iff.mp H
        obtain ⟨t343, A820, H⟩ := H
        have A82 := Aside0.mk A820
        clear A820
        have H' := Aside0.mk H
        clear H
        go_wp2_with (first | (go_at_call 14; (with_reducible refine (laws_eqIntS.calls k _ _ t325 _ _ t312 t343 _ ?side1 ?side2 ?side3 ?side4 A82.out).mono ?_); (case side1 => exact rc_ HO327); (case side2 => exact (Kd.R_reads' HO327.out).2.1); (case side3 => exact rc_ HO314); (case side4 => exact (Kd.R_reads' HO314.out).2.1); rintro e w' ⟨rfl, ⟨nd, rfl⟩⟩))
        go_meet
        case rel => exact ⟨_, (!t343), (by first | rfl | (simp; done) | (simp [*]; done)), H', ⟨by first | omega | exact Nat.le_refl _⟩, ⟨by (with_reducible repeat (first | apply Kd.R_alloc | apply Kd.R_drewN | apply Kd.R_drew)); exact HO314.out⟩, ⟨by (with_reducible repeat (first | apply Kd.R_alloc | apply Kd.R_drewN | apply Kd.R_drew)); exact HO327.out⟩, ⟨by (with_reducible repeat (first | apply Kd.R_alloc | apply Kd.R_drewN | apply Kd.R_drew)); exact Kd.R_mono HO318.out (fun _ hk => hk.2.2.1)⟩, ⟨by (with_reducible repeat (first | apply Kd.R_alloc | apply Kd.R_drewN | apply Kd.R_drew)); exact Kd.R_mono HO323.out (fun _ hk => hk.2.2.1)⟩, ⟨by (with_reducible repeat (first | refine blk_drewN ?_ _ | refine blk_drew ?_ | refine blk_alloc ?_ _)); exact BK300.out⟩, ⟨by (with_reducible repeat (first | refine blk_drewN ?_ _ | refine blk_drew ?_ | refine blk_alloc ?_ _)); exact BK301.out⟩, ⟨by (with_reducible repeat (first | refine blk_drewN ?_ _ | refine blk_drew ?_ | refine blk_alloc ?_ _)); exact BK319.out⟩, ⟨by (with_reducible repeat (first | refine blk_drewN ?_ _ | refine blk_drew ?_ | refine blk_alloc ?_ _)); exact BK324.out⟩, ⟨by repeat (first | (with_reducible first | exact HB.out | apply below_alloc | apply pw_below_drewN | apply below_drew1 | refine below_set ?_ GE300.out | refine below_set ?_ GE301.out | refine below_set ?_ GE319.out | refine below_set ?_ GE324.out) | exact HB.out)⟩⟩
      case rest =>
       clear HC36
       try clear c1
       try clear c2
       try clear p2
       try clear c3
       try clear c5
       try clear c6
       try clear c8
       try clear c10
       try clear c12
       try clear c14
       try clear c15
       try clear c16
       try clear c21
       try clear c22
       try clear c30
       try clear c33
       try clear c39
       try clear c53
       try clear c54
       try clear c60
       try clear c61
       try clear c62
       try clear c81
       try clear c81b0
       try clear hcz40_0
       try clear hcz40_1
       try clear hcz42_0
       try clear hcz42_1
       try clear hcz50_0
       try clear hcz50_1
       try clear hcz55_0
       try clear hcz55_1
       try clear hcz57_0
       try clear hcz57_1
       try clear hcz63_0
       try clear hcz63_1
       try clear hcz65_0
       try clear hcz65_1
       try clear hcz77_0
       try clear hcz77_1
       try clear hcz79_0
       try clear hcz79_1
       try clear hfz40_0
       try clear hfz40_1
       try clear hfz42_0
       try clear hfz42_1
       try clear hfz50_0
       try clear hfz50_1
       try clear hfz55_0
       try clear hfz55_1
       try clear hfz57_0
       try clear hfz57_1
       try clear hfz63_0
       try clear hfz63_1
       try clear hfz65_0
       try clear hfz65_1
       try clear hfz77_0
       try clear hfz77_1
       try clear hfz79_0
       try clear hfz79_1
       obtain ⟨kq, x67_35, rfl, HA, HJ35, HO_8, HO_11, HO_320001, HO_325001, BK300, BK301, BK319, BK324, HB⟩ := hcut
       have hl320001_35 := (Kd.R_reads' HO_320001.out).1
       rw [hl320001_35] at HO_320001
       (try simp only [hl320001_35])
       (try simp only [hl320001_35] at BK300)
       (try simp only [hl320001_35] at BK301)
       (try simp only [hl320001_35] at BK319)
       (try simp only [hl320001_35] at BK324)
       (try simp only [hl320001_35] at HO_8)
       (try simp only [hl320001_35] at HO_11)
       (try simp only [hl320001_35] at HO_325001)
       have hl325001_35 := (Kd.R_reads' HO_325001.out).1
       rw [hl325001_35] at HO_325001
       (try simp only [hl325001_35])
       (try simp only [hl325001_35] at BK300)
       (try simp only [hl325001_35] at BK301)
       (try simp only [hl325001_35] at BK319)
       (try simp only [hl325001_35] at BK324)
       (try simp only [hl325001_35] at HO_8)
       (try simp only [hl325001_35] at HO_11)
       (try simp only [hl325001_35] at HO_320001)
       cases kq with
       | zero => exact absurd HA.out (by simp [laws_FnExactChanged.j0])
       | succ kj35 =>
        have H := HA.out
        clear HA
        simp only [laws_FnExactChanged.j0] at H
        by_cases c83 : x67_35 = true
        ·subst c83
         rw [if_pos rfl] at H
         obtain rfl := Option.some.inj H
         go_wp2
         go_ret
         exact ⟨by first | rfl | (simp [errW_none, errW_some] <;> rfl) | (simp [*, errW_none, errW_some] <;> rfl), by repeat (first | (with_reducible first | exact HB.out | apply below_alloc | apply pw_below_drewN | apply below_drew1 | refine below_set ?_ GE300.out | refine below_set ?_ GE301.out | refine below_set ?_ GE319.out | refine below_set ?_ GE324.out) | exact HB.out)⟩
        ·replace c83 := Bool.eq_false_iff.mpr c83
         subst c83
         rw [if_neg (show ¬ (false = true) by decide)] at H
         replace H := Option.bind_eq_some_iff.mp H
         obtain ⟨⟨t344, t345⟩, A840, H⟩ := H
         have A84 := Aside0.mk A840
         clear A840
         replace H := Option.bind_eq_some_iff.mp H
         obtain ⟨t346, A850, H⟩ := H
         have A85 := Aside0.mk A850
         clear A850
         by_cases c86 : t346 < 0
         ·rw [if_pos c86] at H
          have c86b0 : decide (t346 < 0) = true := decide_eq_true c86
          clear c86
          obtain rfl := Option.some.inj H
          go_wp2_with (first | ((with_reducible refine gate_callee (f := 17) rfl ?_); refine gl_ (some 70) Try.func17 #[.slice Ao67 t325.length co67, .int .i64 1] ?_; (with_reducible refine (laws_markIntS.calls kj35 (fun k_ => some k_ = (.slice Ao67 t325.length co67 : Value).ownBlock) (.slice Ao67 t325.length co67) t325 1 t344 t345 w _ ?side1 ?side2 A84.out).mono ?_); (case side1 => exact by_ HB); (case side2 => exact Kd.R_tight rfl HO_11.out); rintro e w87 ⟨rfl, hy0, hb, hkp⟩; refine ⟨_, rfl, ?_⟩; replace HO_8 := kp_ (fun k_ => some k_ ≠ (.slice Ao67 t325.length co67 : Value).ownBlock) (HO_8.out) hkp; replace HO_320001 := kp_ (fun k_ => some k_ ≠ (.slice Ao64 t342.length co64 : Value).ownBlock) ((Kd.R_apart' HO_320001.out (Kd.R_typed HO_11.out) (by decide))) hkp; replace HO_325001 := kp_ (fun k_ => some k_ ≠ (.slice Ao56 t340.length co56 : Value).ownBlock) ((Kd.R_apart' HO_325001.out (Kd.R_typed HO_11.out) (by decide))) hkp; replace BK300 := bk_ BK300 hkp (fun hs_ => (Kd.R_ne HO_11.out BK300.out (by decide)) hs_); replace BK301 := bk_ BK301 hkp (fun hs_ => (Kd.R_ne HO_11.out BK301.out (by decide)) hs_); replace BK319 := bk_ BK319 hkp (fun hs_ => (Kd.R_ne HO_11.out BK319.out (by decide)) hs_); replace BK324 := bk_ BK324 hkp (fun hs_ => (Kd.R_ne HO_11.out BK324.out (by decide)) hs_); replace HO_11 := Aside0.mk (Kd.R_reok rfl hy0 (fun k_ e_ => HO_11.out.1 k_ e_)); replace HB := Aside0.mk (hb); (try clear hb); (try clear hkp); (try clear hy0)) | ((with_reducible refine gate_callee (f := 18) rfl ?_); refine goesL_ (some 73) rfl rfl Try.func18 (by kernel_rfl) rfl #[.slice Ao67 t345.length co67, .int .i64 1] rfl (by (try simp only [List.map_toArray, List.map_cons, List.map_nil]); first | done | (rw [show t345.length = t325.length from (Kd.R_reads' HO_11.out).1.symm] <;> rfl) | rfl | (simp only [List.length_drop, List.length_take]; rfl)) ?_; (with_reducible refine (laws_heldIntS.calls kj35 _ _ t345 1 t346 _ ?side1 ?side2 A85.out).mono ?_); (case side1 => exact rc_ HO_11); (case side2 => rw [show t345.length = t325.length from (Kd.R_reads' HO_11.out).1.symm]; exact (Kd.R_reads' HO_11.out).2.1); rintro e w' ⟨rfl, ⟨nd, rfl⟩⟩; refine ⟨_, rfl, ?_⟩))
          go_ret
          exact ⟨by first | rfl | (simp [errW_none, errW_some] <;> rfl) | (simp [*, errW_none, errW_some] <;> rfl), by repeat (first | (with_reducible first | exact HB.out | apply below_alloc | apply pw_below_drewN | apply below_drew1 | refine below_set ?_ GE300.out | refine below_set ?_ GE301.out | refine below_set ?_ GE319.out | refine below_set ?_ GE324.out) | exact HB.out)⟩
         ·rw [if_neg c86] at H
          have c86b0 : decide (t346 < 0) = false := decide_eq_false c86
          clear c86
          by_cases c88 : t346 = t344
          ·rw [if_pos c88] at H
           have c88b0 : (t346 == t344) = true := beq_iff_eq.mpr c88
           have c88b1 : (t346 != t344) = false := bne_eq_false_iff_eq.mpr c88
           clear c88
           replace H := Option.bind_eq_some_iff.mp H
           obtain ⟨⟨t347, t348⟩, A890, H⟩ := H
           have A89 := Aside0.mk A890
           clear A890
           replace H := Option.bind_eq_some_iff.mp H
           obtain ⟨⟨t351, t352⟩, A900, H⟩ := H
           have A90 := Aside0.mk A900
           clear A900
           replace H := Option.bind_eq_some_iff.mp H
           obtain ⟨t355, A910, H⟩ := H
           have A91 := Aside0.mk A910
           clear A910
           replace H := Option.bind_eq_some_iff.mp H
           obtain ⟨t358, A920, H⟩ := H
           have A92 := Aside0.mk A920
           clear A920
           by_cases c93 : t358 = true
           ·subst c93
            rw [if_pos rfl] at H
            replace H := Option.bind_eq_some_iff.mp H
            obtain ⟨t359, A940, H⟩ := H
            have A94 := Aside0.mk A940
            clear A940
            by_cases c95 : t359 < 0
            ·rw [if_pos c95] at H
             have c95b0 : decide (t359 < 0) = true := decide_eq_true c95
             clear c95
             obtain rfl := Option.some.inj H
             try go_wp2_with (first | ((with_reducible refine gate_callee (f := 17) rfl ?_); refine gl_ (some 70) Try.func17 #[.slice Ao67 t325.length co67, .int .i64 1] ?_; (with_reducible refine (laws_markIntS.calls kj35 (fun k_ => some k_ = (.slice Ao67 t325.length co67 : Value).ownBlock) (.slice Ao67 t325.length co67) t325 1 t344 t345 w _ ?side1 ?side2 A84.out).mono ?_); (case side1 => exact by_ HB); (case side2 => exact Kd.R_tight rfl HO_11.out); rintro e w96 ⟨rfl, hy0, hb, hkp⟩; refine ⟨_, rfl, ?_⟩; replace HO_8 := kp_ (fun k_ => some k_ ≠ (.slice Ao67 t325.length co67 : Value).ownBlock) (HO_8.out) hkp; replace HO_320001 := kp_ (fun k_ => some k_ ≠ (.slice Ao64 t342.length co64 : Value).ownBlock) ((Kd.R_apart' HO_320001.out (Kd.R_typed HO_11.out) (by decide))) hkp; replace HO_325001 := kp_ (fun k_ => some k_ ≠ (.slice Ao56 t340.length co56 : Value).ownBlock) ((Kd.R_apart' HO_325001.out (Kd.R_typed HO_11.out) (by decide))) hkp; replace BK300 := bk_ BK300 hkp (fun hs_ => (Kd.R_ne HO_11.out BK300.out (by decide)) hs_); replace BK301 := bk_ BK301 hkp (fun hs_ => (Kd.R_ne HO_11.out BK301.out (by decide)) hs_); replace BK319 := bk_ BK319 hkp (fun hs_ => (Kd.R_ne HO_11.out BK319.out (by decide)) hs_); replace BK324 := bk_ BK324 hkp (fun hs_ => (Kd.R_ne HO_11.out BK324.out (by decide)) hs_); replace HO_11 := Aside0.mk (Kd.R_reok rfl hy0 (fun k_ e_ => HO_11.out.1 k_ e_)); replace HB := Aside0.mk (hb); (try clear hb); (try clear hkp); (try clear hy0)) | ((with_reducible refine gate_callee (f := 18) rfl ?_); refine goesL_ (some 73) rfl rfl Try.func18 (by kernel_rfl) rfl #[.slice Ao67 t345.length co67, .int .i64 1] rfl (by (try simp only [List.map_toArray, List.map_cons, List.map_nil]); first | done | (rw [show t345.length = t325.length from (Kd.R_reads' HO_11.out).1.symm] <;> rfl) | rfl | (simp only [List.length_drop, List.length_take]; rfl)) ?_; (with_reducible refine (laws_heldIntS.calls kj35 _ _ t345 1 t346 _ ?side1 ?side2 A85.out).mono ?_); (case side1 => exact rc_ HO_11); (case side2 => rw [show t345.length = t325.length from (Kd.R_reads' HO_11.out).1.symm]; exact (Kd.R_reads' HO_11.out).2.1); rintro e w' ⟨rfl, ⟨nd, rfl⟩⟩; refine ⟨_, rfl, ?_⟩))
             (try (rw [drewN_self w96]; generalize hq_ : World.drewN w96 _ = w96; replace HO_11 : Aside0 (Kd.R (Kd.int .i64) 3 w96 w.heap.size (fun k_ => some k_ ≠ (.slice Ao68 t312.length co68 : Value).ownBlock) (.slice Ao67 t325.length co67) t345) := ⟨by rw [← hq_]; exact (hd_ HO_11)⟩; replace HO_320001 : Aside0 (Kd.R k76 76 w96 w.heap.size (fun k_ => some k_ ≠ (.slice Ao64 t342.length co64 : Value).ownBlock) (.slice Ao56 t340.length co56) t340) := ⟨by rw [← hq_]; exact (hd_ HO_320001)⟩; replace HO_325001 : Aside0 (Kd.R k76 76 w96 w.heap.size (fun k_ => some k_ ≠ (.slice Ao56 t340.length co56 : Value).ownBlock) (.slice Ao64 t342.length co64) t342) := ⟨by rw [← hq_]; exact (hd_ HO_325001)⟩; replace HO_8 : Aside0 (Kd.R (Kd.int .i64) 3 w96 w.heap.size (fun k_ => some k_ ≠ (.slice Ao67 t325.length co67 : Value).ownBlock) (.slice Ao68 t312.length co68) t312) := ⟨by rw [← hq_]; exact (hd_ HO_8)⟩; replace BK300 : Aside0 (w96.heap[gb300]? = some (.cells #[.int .i64 a0_0, .slice A0_1 l0_1.length c0_1] 24 (0, 0))) := ⟨by rw [← hq_]; exact (by (with_reducible repeat (first | refine blk_drewN ?_ _ | refine blk_drew ?_ | refine blk_alloc ?_ _)); exact BK300.out)⟩; replace BK301 : Aside0 (w96.heap[gb301]? = some (.cells #[.int .i64 a1_0, .slice A1_1 l1_1.length c1_1] 24 (0, 0))) := ⟨by rw [← hq_]; exact (by (with_reducible repeat (first | refine blk_drewN ?_ _ | refine blk_drew ?_ | refine blk_alloc ?_ _)); exact BK301.out)⟩; replace BK319 : Aside0 (w96.heap[gb319]? = some (.cells #[.int .i64 t315, .slice Ao56 t340.length co56] 30 (0, 0))) := ⟨by rw [← hq_]; exact (by (with_reducible repeat (first | refine blk_drewN ?_ _ | refine blk_drew ?_ | refine blk_alloc ?_ _)); exact BK319.out)⟩; replace BK324 : Aside0 (w96.heap[gb324]? = some (.cells #[.int .i64 t320, .slice Ao64 t342.length co64] 30 (0, 0))) := ⟨by rw [← hq_]; exact (by (with_reducible repeat (first | refine blk_drewN ?_ _ | refine blk_drew ?_ | refine blk_alloc ?_ _)); exact BK324.out)⟩; replace HB : Aside0 (Below w.heap.size w w96) := ⟨by rw [← hq_]; exact (by repeat (first | (with_reducible first | exact HB.out | apply below_alloc | apply pw_below_drewN | apply below_drew1 | refine below_set ?_ GE300.out | refine below_set ?_ GE301.out | refine below_set ?_ GE319.out | refine below_set ?_ GE324.out) | exact HB.out))⟩; clear hq_))
             replace HO_8 := Aside0.mk (Kd.R_drew HO_8.out)
             replace HO_11 := Aside0.mk (Kd.R_drew HO_11.out)
             replace HO_320001 := Aside0.mk (Kd.R_drew HO_320001.out)
             replace HO_325001 := Aside0.mk (Kd.R_drew HO_325001.out)
             replace BK300 := Aside0.mk (blk_drew BK300.out)
             replace BK301 := Aside0.mk (blk_drew BK301.out)
             replace BK319 := Aside0.mk (blk_drew BK319.out)
             replace BK324 := Aside0.mk (blk_drew BK324.out)
             replace HB := Aside0.mk (below_drew1 HB.out)
             refine start_ (n := 7) (S := fun w' => w'.cell? ⟨gb300, 0, none⟩ = some (.int .i64 a0_0) ∧ w'.cell? ⟨gb300, 1, none⟩ = some (.slice A0_1 l0_1.length c0_1) ∧ w'.cell? ⟨gb301, 0, none⟩ = some (.int .i64 a1_0) ∧ w'.cell? ⟨gb301, 1, none⟩ = some (.slice A1_1 l1_1.length c1_1)) (ds := []) ba12_0 (by kernel_rfl) rfl rfl ⟨(blk_cell BK300.out 0).trans rfl, (blk_cell BK300.out 1).trans rfl, (blk_cell BK301.out 0).trans rfl, (blk_cell BK301.out 1).trans rfl⟩ (fun hHeld => ?_)
             generalize w96.drew = w97 at HO_8 HO_11 HO_320001 HO_325001 BK300 BK301 BK319 BK324 HB hHeld ⊢
             refine pure_ (i := 4) (N := some 83) (v := ?_) (a' := ?_) ba12_1 rfl rfl (by kernel_rfl) (fun _ _ _ h => h) (Or.inl ⟨by rfl, ?_⟩) ?_ ?_
             rotate_left; · intro w'; go_simp; with_reducible rfl
             rotate_left; · simp only [Act.put, List.setIfInBounds_toArray, List.set_cons_zero, List.set_cons_succ, i64_w, i32_w]; rfl
             refine take_ (i := 0) (N := some 79) (v := ?_) (a' := ?_) ba12_2 rfl rfl (by kernel_rfl) (fun _ _ _ h => h) (Or.inl ⟨by rfl, ?_⟩) hHeld ?_ ?_
             rotate_left; · rintro w' ⟨s0, s1, s2, s3⟩; go_simp; with_reducible rfl
             rotate_left; · simp only [Act.put, List.setIfInBounds_toArray, List.set_cons_zero, List.set_cons_succ, i64_w, i32_w]; rfl
             refine take_ (i := 2) (N := some 81) (v := ?_) (a' := ?_) ba12_3 rfl rfl (by kernel_rfl) (fun _ _ _ h => h) (Or.inl ⟨by rfl, ?_⟩) hHeld ?_ ?_
             rotate_left; · rintro w' ⟨s0, s1, s2, s3⟩; go_simp; with_reducible rfl
             rotate_left; · simp only [Act.put, List.setIfInBounds_toArray, List.set_cons_zero, List.set_cons_succ, i64_w, i32_w]; rfl
             refine one_ (i := 1) (N := some 80) ba12_4 rfl rfl (by kernel_rfl) (by decide) (fun K hK => ?_)
             refine gz_ Try.func12 #[.agg #[.int .i64 a0_0, .slice A0_1 l0_1.length c0_1]] ?_
             with_reducible refine (laws_toGraph.calls kj35 a0_0 _ _ l0_1 t347 t348 _ ?side1 ?side2 A89.out).mono ?_
             (case side1 => exact cb_ HR0_1 HB)
             (case side2 => exact HC0_1.out)
             rintro e w98 ⟨v349, rfl, ho0, hb⟩
             refine ⟨_, rfl, ?_⟩
             have HO350 := Aside0.mk (Kd.R_lower (Kd.R_new' (Kd.R_new' ho0 (Kd.R_lt (hd_ HO_320001))) (Kd.R_lt (hd_ HO_325001))) (bz_ HB))
             replace HO_8 := rb_ HO_8 hb
             replace HO_11 := rb_ HO_11 hb
             replace HO_320001 := Aside0.mk (Kd.R_elder' (hd_ HO_320001) (Kd.R_base ho0) hb)
             replace HO_325001 := Aside0.mk (Kd.R_elder' (hd_ HO_325001) (Kd.R_base ho0) hb)
             replace BK300 := Aside0.mk (bb_ BK300 hb)
             replace BK301 := Aside0.mk (bb_ BK301 hb)
             replace BK319 := Aside0.mk (bb_ BK319 hb)
             replace BK324 := Aside0.mk (bb_ BK324 hb)
             replace HB := Aside0.mk (bt_ HB hb)
             (try clear hb)
             (try clear hb2)
             (try clear hk)
             (try clear hi)
             (try clear ho0)
             refine hK.out _ _ ⟨(blk_cell BK300.out 0).trans rfl, (blk_cell BK300.out 1).trans rfl, (blk_cell BK301.out 0).trans rfl, (blk_cell BK301.out 1).trans rfl⟩ (fun hHeld => ?_)
             clear hK K
             refine nz_ 80 ?_
             refine one_ (i := 3) (N := some 82) ba12_5 rfl rfl (by kernel_rfl) (by decide) (fun K hK => ?_)
             refine gz_ Try.func12 #[.agg #[.int .i64 a1_0, .slice A1_1 l1_1.length c1_1]] ?_
             with_reducible refine (laws_toGraph.calls kj35 a1_0 _ _ l1_1 t351 t352 _ ?side1 ?side2 A90.out).mono ?_
             (case side1 => exact cb_ HR1_1 HB)
             (case side2 => exact HC1_1.out)
             rintro e w99 ⟨v353, rfl, ho0, hb⟩
             refine ⟨_, rfl, ?_⟩
             have HO354 := Aside0.mk (Kd.R_lower (Kd.R_new' (Kd.R_new' (Kd.R_new' ho0 (Kd.R_lt (hd_ HO_320001))) (Kd.R_lt (hd_ HO_325001))) (Kd.R_lt (hd_ HO350))) (bz_ HB))
             replace HO_8 := rb_ HO_8 hb
             replace HO_11 := rb_ HO_11 hb
             replace HO_320001 := Aside0.mk (Kd.R_elder' (hd_ HO_320001) (Kd.R_base ho0) hb)
             replace HO_325001 := Aside0.mk (Kd.R_elder' (hd_ HO_325001) (Kd.R_base ho0) hb)
             replace HO350 := Aside0.mk (Kd.R_elder' (hd_ HO350) (Kd.R_base ho0) hb)
             replace BK300 := Aside0.mk (bb_ BK300 hb)
             replace BK301 := Aside0.mk (bb_ BK301 hb)
             replace BK319 := Aside0.mk (bb_ BK319 hb)
             replace BK324 := Aside0.mk (bb_ BK324 hb)
             replace HB := Aside0.mk (bt_ HB hb)
             (try clear hb)
             (try clear hb2)
             (try clear hk)
             (try clear hi)
             (try clear ho0)
             obtain ⟨Ao100, co100, eo100⟩ := Kd.R_slice HO350.out
             (first | subst eo100 | (injection eo100 with f1_ f2_ f3_; have f4_ := f1_.symm; have f5_ := f3_.symm; clear f1_ f2_ f3_; subst f4_; subst f5_))
             obtain ⟨Ao101, co101, eo101⟩ := Kd.R_slice HO354.out
             (first | subst eo101 | (injection eo101 with f1_ f2_ f3_; have f4_ := f1_.symm; have f5_ := f3_.symm; clear f1_ f2_ f3_; subst f4_; subst f5_))
             refine hK.out _ _ ⟨(blk_cell BK300.out 0).trans rfl, (blk_cell BK300.out 1).trans rfl, (blk_cell BK301.out 0).trans rfl, (blk_cell BK301.out 1).trans rfl⟩ (fun hHeld => ?_)
             clear hK K
             refine nz_ 82 ?_
             refine one_ (i := 5) (N := some 84) ba12_6 rfl rfl (by kernel_rfl) (by decide) (fun K hK => ?_)
             refine gz_ Try.func22 #[.agg #[.int .i64 t347, .slice Ao100 t348.length co100], .agg #[.int .i64 t351, .slice Ao101 t352.length co101], .int .i64 a2] ?_
             with_reducible refine (impl_Changed.calls kj35 t347 _ _ t348 t351 _ _ t352 a2 t355 _ ?side1 ?side2 ?side3 ?side4 A91.out).mono ?_
             (case side1 => exact rc_ HO350)
             (case side2 => exact (Kd.R_reads' HO350.out).2.1)
             (case side3 => exact rc_ HO354)
             (case side4 => exact (Kd.R_reads' HO354.out).2.1)
             rintro e w102 ⟨v356, rfl, ho0, hb⟩
             refine ⟨_, rfl, ?_⟩
             have HO357 := Aside0.mk (Kd.R_lower (Kd.R_new' (Kd.R_new' ho0 (Kd.R_lt (hd_ HO_8))) (Kd.R_lt (hd_ HO_11))) (bz_ HB))
             replace HO_320001 := rb_ HO_320001 hb
             replace HO_325001 := rb_ HO_325001 hb
             replace HO350 := rb_ HO350 hb
             replace HO354 := rb_ HO354 hb
             replace HO_8 := Aside0.mk (Kd.R_elder' (hd_ HO_8) (Kd.R_base ho0) hb)
             replace HO_11 := Aside0.mk (Kd.R_elder' (hd_ HO_11) (Kd.R_base ho0) hb)
             replace BK300 := Aside0.mk (bb_ BK300 hb)
             replace BK301 := Aside0.mk (bb_ BK301 hb)
             replace BK319 := Aside0.mk (bb_ BK319 hb)
             replace BK324 := Aside0.mk (bb_ BK324 hb)
             replace HB := Aside0.mk (bt_ HB hb)
             (try clear hb)
             (try clear hb2)
             (try clear hk)
             (try clear hi)
             (try clear ho0)
             refine hK.out _ _ ⟨(blk_cell BK300.out 0).trans rfl, (blk_cell BK300.out 1).trans rfl, (blk_cell BK301.out 0).trans rfl, (blk_cell BK301.out 1).trans rfl⟩ (fun hHeld => ?_)
             clear hK K
             refine nz_ 84 ?_
             refine pure_ (i := 6) (N := some 15) (v := ?_) (a' := ?_) ba12_7 rfl rfl (by kernel_rfl) (fun _ _ _ h => h) (Or.inl ⟨by rfl, ?_⟩) ?_ ?_
             rotate_left; · intro w'; go_simp; with_reducible rfl
             rotate_left; · simp only [Act.put, List.setIfInBounds_toArray, List.set_cons_zero, List.set_cons_succ, i64_w, i32_w]; rfl
             refine done_ (by kernel_rfl) ?_
             obtain ⟨Ao103, co103, eo103⟩ := Kd.R_slice HO357.out
             subst eo103
             try go_wp2_with (first | ((with_reducible refine gate_callee (f := 14) rfl ?_); refine gl_ (some 87) Try.func14 #[.slice Ao103 t355.length co103, .slice Ao68 t312.length co68] ?_; (with_reducible refine (laws_eqIntS.calls kj35 _ _ t355 _ _ t312 true _ ?side1 ?side2 ?side3 ?side4 A92.out).mono ?_); (case side1 => exact rc_ HO357); (case side2 => exact (Kd.R_reads' HO357.out).2.1); (case side3 => exact rc_ HO_8); (case side4 => exact (Kd.R_reads' HO_8.out).2.1); rintro e w' ⟨rfl, ⟨nd, rfl⟩⟩; refine ⟨_, rfl, ?_⟩) | ((with_reducible refine gate_callee (f := 18) rfl ?_); refine goesL_ (some 91) rfl rfl Try.func18 (by kernel_rfl) rfl #[.slice Ao67 t345.length co67, .int .i64 1] rfl (by (try simp only [List.map_toArray, List.map_cons, List.map_nil]); first | done | (rw [show t345.length = t325.length from (Kd.R_reads' HO_11.out).1.symm] <;> rfl) | rfl | (simp only [List.length_drop, List.length_take]; rfl)) ?_; (with_reducible refine (laws_heldIntS.calls kj35 _ _ t345 1 t359 _ ?side1 ?side2 A94.out).mono ?_); (case side1 => exact rc_ HO_11); (case side2 => rw [show t345.length = t325.length from (Kd.R_reads' HO_11.out).1.symm]; exact (Kd.R_reads' HO_11.out).2.1); rintro e w' ⟨rfl, ⟨nd, rfl⟩⟩; refine ⟨_, rfl, ?_⟩))
             go_ret
             exact ⟨by first | rfl | (simp [errW_none, errW_some] <;> rfl) | (simp [*, errW_none, errW_some] <;> rfl), by repeat (first | (with_reducible first | exact HB.out | apply below_alloc | apply pw_below_drewN | apply below_drew1 | refine below_set ?_ GE300.out | refine below_set ?_ GE301.out | refine below_set ?_ GE319.out | refine below_set ?_ GE324.out) | exact HB.out)⟩
            ·rw [if_neg c95] at H
             have c95b0 : decide (t359 < 0) = false := decide_eq_false c95
             clear c95
             by_cases c104 : t359 = t344
             ·rw [if_pos c104] at H
              have c104b0 : (t359 == t344) = true := beq_iff_eq.mpr c104
              have c104b1 : (t359 != t344) = false := bne_eq_false_iff_eq.mpr c104
              clear c104
              obtain rfl := Option.some.inj H
              try go_wp2_with (first | ((with_reducible refine gate_callee (f := 17) rfl ?_); refine gl_ (some 70) Try.func17 #[.slice Ao67 t325.length co67, .int .i64 1] ?_; (with_reducible refine (laws_markIntS.calls kj35 (fun k_ => some k_ = (.slice Ao67 t325.length co67 : Value).ownBlock) (.slice Ao67 t325.length co67) t325 1 t344 t345 w _ ?side1 ?side2 A84.out).mono ?_); (case side1 => exact by_ HB); (case side2 => exact Kd.R_tight rfl HO_11.out); rintro e w105 ⟨rfl, hy0, hb, hkp⟩; refine ⟨_, rfl, ?_⟩; replace HO_8 := kp_ (fun k_ => some k_ ≠ (.slice Ao67 t325.length co67 : Value).ownBlock) (HO_8.out) hkp; replace HO_320001 := kp_ (fun k_ => some k_ ≠ (.slice Ao64 t342.length co64 : Value).ownBlock) ((Kd.R_apart' HO_320001.out (Kd.R_typed HO_11.out) (by decide))) hkp; replace HO_325001 := kp_ (fun k_ => some k_ ≠ (.slice Ao56 t340.length co56 : Value).ownBlock) ((Kd.R_apart' HO_325001.out (Kd.R_typed HO_11.out) (by decide))) hkp; replace BK300 := bk_ BK300 hkp (fun hs_ => (Kd.R_ne HO_11.out BK300.out (by decide)) hs_); replace BK301 := bk_ BK301 hkp (fun hs_ => (Kd.R_ne HO_11.out BK301.out (by decide)) hs_); replace BK319 := bk_ BK319 hkp (fun hs_ => (Kd.R_ne HO_11.out BK319.out (by decide)) hs_); replace BK324 := bk_ BK324 hkp (fun hs_ => (Kd.R_ne HO_11.out BK324.out (by decide)) hs_); replace HO_11 := Aside0.mk (Kd.R_reok rfl hy0 (fun k_ e_ => HO_11.out.1 k_ e_)); replace HB := Aside0.mk (hb); (try clear hb); (try clear hkp); (try clear hy0)) | ((with_reducible refine gate_callee (f := 18) rfl ?_); refine goesL_ (some 73) rfl rfl Try.func18 (by kernel_rfl) rfl #[.slice Ao67 t345.length co67, .int .i64 1] rfl (by (try simp only [List.map_toArray, List.map_cons, List.map_nil]); first | done | (rw [show t345.length = t325.length from (Kd.R_reads' HO_11.out).1.symm] <;> rfl) | rfl | (simp only [List.length_drop, List.length_take]; rfl)) ?_; (with_reducible refine (laws_heldIntS.calls kj35 _ _ t345 1 t346 _ ?side1 ?side2 A85.out).mono ?_); (case side1 => exact rc_ HO_11); (case side2 => rw [show t345.length = t325.length from (Kd.R_reads' HO_11.out).1.symm]; exact (Kd.R_reads' HO_11.out).2.1); rintro e w' ⟨rfl, ⟨nd, rfl⟩⟩; refine ⟨_, rfl, ?_⟩))
              (try (rw [drewN_self w105]; generalize hq_ : World.drewN w105 _ = w105; replace HO_11 : Aside0 (Kd.R (Kd.int .i64) 3 w105 w.heap.size (fun k_ => some k_ ≠ (.slice Ao68 t312.length co68 : Value).ownBlock) (.slice Ao67 t325.length co67) t345) := ⟨by rw [← hq_]; exact (hd_ HO_11)⟩; replace HO_320001 : Aside0 (Kd.R k76 76 w105 w.heap.size (fun k_ => some k_ ≠ (.slice Ao64 t342.length co64 : Value).ownBlock) (.slice Ao56 t340.length co56) t340) := ⟨by rw [← hq_]; exact (hd_ HO_320001)⟩; replace HO_325001 : Aside0 (Kd.R k76 76 w105 w.heap.size (fun k_ => some k_ ≠ (.slice Ao56 t340.length co56 : Value).ownBlock) (.slice Ao64 t342.length co64) t342) := ⟨by rw [← hq_]; exact (hd_ HO_325001)⟩; replace HO_8 : Aside0 (Kd.R (Kd.int .i64) 3 w105 w.heap.size (fun k_ => some k_ ≠ (.slice Ao67 t325.length co67 : Value).ownBlock) (.slice Ao68 t312.length co68) t312) := ⟨by rw [← hq_]; exact (hd_ HO_8)⟩; replace BK300 : Aside0 (w105.heap[gb300]? = some (.cells #[.int .i64 a0_0, .slice A0_1 l0_1.length c0_1] 24 (0, 0))) := ⟨by rw [← hq_]; exact (by (with_reducible repeat (first | refine blk_drewN ?_ _ | refine blk_drew ?_ | refine blk_alloc ?_ _)); exact BK300.out)⟩; replace BK301 : Aside0 (w105.heap[gb301]? = some (.cells #[.int .i64 a1_0, .slice A1_1 l1_1.length c1_1] 24 (0, 0))) := ⟨by rw [← hq_]; exact (by (with_reducible repeat (first | refine blk_drewN ?_ _ | refine blk_drew ?_ | refine blk_alloc ?_ _)); exact BK301.out)⟩; replace BK319 : Aside0 (w105.heap[gb319]? = some (.cells #[.int .i64 t315, .slice Ao56 t340.length co56] 30 (0, 0))) := ⟨by rw [← hq_]; exact (by (with_reducible repeat (first | refine blk_drewN ?_ _ | refine blk_drew ?_ | refine blk_alloc ?_ _)); exact BK319.out)⟩; replace BK324 : Aside0 (w105.heap[gb324]? = some (.cells #[.int .i64 t320, .slice Ao64 t342.length co64] 30 (0, 0))) := ⟨by rw [← hq_]; exact (by (with_reducible repeat (first | refine blk_drewN ?_ _ | refine blk_drew ?_ | refine blk_alloc ?_ _)); exact BK324.out)⟩; replace HB : Aside0 (Below w.heap.size w w105) := ⟨by rw [← hq_]; exact (by repeat (first | (with_reducible first | exact HB.out | apply below_alloc | apply pw_below_drewN | apply below_drew1 | refine below_set ?_ GE300.out | refine below_set ?_ GE301.out | refine below_set ?_ GE319.out | refine below_set ?_ GE324.out) | exact HB.out))⟩; clear hq_))
              replace HO_8 := Aside0.mk (Kd.R_drew HO_8.out)
              replace HO_11 := Aside0.mk (Kd.R_drew HO_11.out)
              replace HO_320001 := Aside0.mk (Kd.R_drew HO_320001.out)
              replace HO_325001 := Aside0.mk (Kd.R_drew HO_325001.out)
              replace BK300 := Aside0.mk (blk_drew BK300.out)
              replace BK301 := Aside0.mk (blk_drew BK301.out)
              replace BK319 := Aside0.mk (blk_drew BK319.out)
              replace BK324 := Aside0.mk (blk_drew BK324.out)
              replace HB := Aside0.mk (below_drew1 HB.out)
              refine start_ (n := 7) (S := fun w' => w'.cell? ⟨gb300, 0, none⟩ = some (.int .i64 a0_0) ∧ w'.cell? ⟨gb300, 1, none⟩ = some (.slice A0_1 l0_1.length c0_1) ∧ w'.cell? ⟨gb301, 0, none⟩ = some (.int .i64 a1_0) ∧ w'.cell? ⟨gb301, 1, none⟩ = some (.slice A1_1 l1_1.length c1_1)) (ds := []) ba12_0 (by kernel_rfl) rfl rfl ⟨(blk_cell BK300.out 0).trans rfl, (blk_cell BK300.out 1).trans rfl, (blk_cell BK301.out 0).trans rfl, (blk_cell BK301.out 1).trans rfl⟩ (fun hHeld => ?_)
              generalize w105.drew = w106 at HO_8 HO_11 HO_320001 HO_325001 BK300 BK301 BK319 BK324 HB hHeld ⊢
              refine pure_ (i := 4) (N := some 83) (v := ?_) (a' := ?_) ba12_1 rfl rfl (by kernel_rfl) (fun _ _ _ h => h) (Or.inl ⟨by rfl, ?_⟩) ?_ ?_
              rotate_left; · intro w'; go_simp; with_reducible rfl
              rotate_left; · simp only [Act.put, List.setIfInBounds_toArray, List.set_cons_zero, List.set_cons_succ, i64_w, i32_w]; rfl
              refine take_ (i := 0) (N := some 79) (v := ?_) (a' := ?_) ba12_2 rfl rfl (by kernel_rfl) (fun _ _ _ h => h) (Or.inl ⟨by rfl, ?_⟩) hHeld ?_ ?_
              rotate_left; · rintro w' ⟨s0, s1, s2, s3⟩; go_simp; with_reducible rfl
              rotate_left; · simp only [Act.put, List.setIfInBounds_toArray, List.set_cons_zero, List.set_cons_succ, i64_w, i32_w]; rfl
              refine take_ (i := 2) (N := some 81) (v := ?_) (a' := ?_) ba12_3 rfl rfl (by kernel_rfl) (fun _ _ _ h => h) (Or.inl ⟨by rfl, ?_⟩) hHeld ?_ ?_
              rotate_left; · rintro w' ⟨s0, s1, s2, s3⟩; go_simp; with_reducible rfl
              rotate_left; · simp only [Act.put, List.setIfInBounds_toArray, List.set_cons_zero, List.set_cons_succ, i64_w, i32_w]; rfl
              refine one_ (i := 1) (N := some 80) ba12_4 rfl rfl (by kernel_rfl) (by decide) (fun K hK => ?_)
              refine gz_ Try.func12 #[.agg #[.int .i64 a0_0, .slice A0_1 l0_1.length c0_1]] ?_
              with_reducible refine (laws_toGraph.calls kj35 a0_0 _ _ l0_1 t347 t348 _ ?side1 ?side2 A89.out).mono ?_
              (case side1 => exact cb_ HR0_1 HB)
              (case side2 => exact HC0_1.out)
              rintro e w107 ⟨v349, rfl, ho0, hb⟩
              refine ⟨_, rfl, ?_⟩
              have HO350 := Aside0.mk (Kd.R_lower (Kd.R_new' (Kd.R_new' ho0 (Kd.R_lt (hd_ HO_320001))) (Kd.R_lt (hd_ HO_325001))) (bz_ HB))
              replace HO_8 := rb_ HO_8 hb
              replace HO_11 := rb_ HO_11 hb
              replace HO_320001 := Aside0.mk (Kd.R_elder' (hd_ HO_320001) (Kd.R_base ho0) hb)
              replace HO_325001 := Aside0.mk (Kd.R_elder' (hd_ HO_325001) (Kd.R_base ho0) hb)
              replace BK300 := Aside0.mk (bb_ BK300 hb)
              replace BK301 := Aside0.mk (bb_ BK301 hb)
              replace BK319 := Aside0.mk (bb_ BK319 hb)
              replace BK324 := Aside0.mk (bb_ BK324 hb)
              replace HB := Aside0.mk (bt_ HB hb)
              (try clear hb)
              (try clear hb2)
              (try clear hk)
              (try clear hi)
              (try clear ho0)
              refine hK.out _ _ ⟨(blk_cell BK300.out 0).trans rfl, (blk_cell BK300.out 1).trans rfl, (blk_cell BK301.out 0).trans rfl, (blk_cell BK301.out 1).trans rfl⟩ (fun hHeld => ?_)
              clear hK K
              refine nz_ 80 ?_
              refine one_ (i := 3) (N := some 82) ba12_5 rfl rfl (by kernel_rfl) (by decide) (fun K hK => ?_)
              refine gz_ Try.func12 #[.agg #[.int .i64 a1_0, .slice A1_1 l1_1.length c1_1]] ?_
              with_reducible refine (laws_toGraph.calls kj35 a1_0 _ _ l1_1 t351 t352 _ ?side1 ?side2 A90.out).mono ?_
              (case side1 => exact cb_ HR1_1 HB)
              (case side2 => exact HC1_1.out)
              rintro e w108 ⟨v353, rfl, ho0, hb⟩
              refine ⟨_, rfl, ?_⟩
              have HO354 := Aside0.mk (Kd.R_lower (Kd.R_new' (Kd.R_new' (Kd.R_new' ho0 (Kd.R_lt (hd_ HO_320001))) (Kd.R_lt (hd_ HO_325001))) (Kd.R_lt (hd_ HO350))) (bz_ HB))
              replace HO_8 := rb_ HO_8 hb
              replace HO_11 := rb_ HO_11 hb
              replace HO_320001 := Aside0.mk (Kd.R_elder' (hd_ HO_320001) (Kd.R_base ho0) hb)
              replace HO_325001 := Aside0.mk (Kd.R_elder' (hd_ HO_325001) (Kd.R_base ho0) hb)
              replace HO350 := Aside0.mk (Kd.R_elder' (hd_ HO350) (Kd.R_base ho0) hb)
              replace BK300 := Aside0.mk (bb_ BK300 hb)
              replace BK301 := Aside0.mk (bb_ BK301 hb)
              replace BK319 := Aside0.mk (bb_ BK319 hb)
              replace BK324 := Aside0.mk (bb_ BK324 hb)
              replace HB := Aside0.mk (bt_ HB hb)
              (try clear hb)
              (try clear hb2)
              (try clear hk)
              (try clear hi)
              (try clear ho0)
              obtain ⟨Ao109, co109, eo109⟩ := Kd.R_slice HO350.out
              (first | subst eo109 | (injection eo109 with f1_ f2_ f3_; have f4_ := f1_.symm; have f5_ := f3_.symm; clear f1_ f2_ f3_; subst f4_; subst f5_))
              obtain ⟨Ao110, co110, eo110⟩ := Kd.R_slice HO354.out
              (first | subst eo110 | (injection eo110 with f1_ f2_ f3_; have f4_ := f1_.symm; have f5_ := f3_.symm; clear f1_ f2_ f3_; subst f4_; subst f5_))
              refine hK.out _ _ ⟨(blk_cell BK300.out 0).trans rfl, (blk_cell BK300.out 1).trans rfl, (blk_cell BK301.out 0).trans rfl, (blk_cell BK301.out 1).trans rfl⟩ (fun hHeld => ?_)
              clear hK K
              refine nz_ 82 ?_
              refine one_ (i := 5) (N := some 84) ba12_6 rfl rfl (by kernel_rfl) (by decide) (fun K hK => ?_)
              refine gz_ Try.func22 #[.agg #[.int .i64 t347, .slice Ao109 t348.length co109], .agg #[.int .i64 t351, .slice Ao110 t352.length co110], .int .i64 a2] ?_
              with_reducible refine (impl_Changed.calls kj35 t347 _ _ t348 t351 _ _ t352 a2 t355 _ ?side1 ?side2 ?side3 ?side4 A91.out).mono ?_
              (case side1 => exact rc_ HO350)
              (case side2 => exact (Kd.R_reads' HO350.out).2.1)
              (case side3 => exact rc_ HO354)
              (case side4 => exact (Kd.R_reads' HO354.out).2.1)
              rintro e w111 ⟨v356, rfl, ho0, hb⟩
              refine ⟨_, rfl, ?_⟩
              have HO357 := Aside0.mk (Kd.R_lower (Kd.R_new' (Kd.R_new' ho0 (Kd.R_lt (hd_ HO_8))) (Kd.R_lt (hd_ HO_11))) (bz_ HB))
              replace HO_320001 := rb_ HO_320001 hb
              replace HO_325001 := rb_ HO_325001 hb
              replace HO350 := rb_ HO350 hb
              replace HO354 := rb_ HO354 hb
              replace HO_8 := Aside0.mk (Kd.R_elder' (hd_ HO_8) (Kd.R_base ho0) hb)
              replace HO_11 := Aside0.mk (Kd.R_elder' (hd_ HO_11) (Kd.R_base ho0) hb)
              replace BK300 := Aside0.mk (bb_ BK300 hb)
              replace BK301 := Aside0.mk (bb_ BK301 hb)
              replace BK319 := Aside0.mk (bb_ BK319 hb)
              replace BK324 := Aside0.mk (bb_ BK324 hb)
              replace HB := Aside0.mk (bt_ HB hb)
              (try clear hb)
              (try clear hb2)
              (try clear hk)
              (try clear hi)
              (try clear ho0)
              refine hK.out _ _ ⟨(blk_cell BK300.out 0).trans rfl, (blk_cell BK300.out 1).trans rfl, (blk_cell BK301.out 0).trans rfl, (blk_cell BK301.out 1).trans rfl⟩ (fun hHeld => ?_)
              clear hK K
              refine nz_ 84 ?_
              refine pure_ (i := 6) (N := some 15) (v := ?_) (a' := ?_) ba12_7 rfl rfl (by kernel_rfl) (fun _ _ _ h => h) (Or.inl ⟨by rfl, ?_⟩) ?_ ?_
              rotate_left; · intro w'; go_simp; with_reducible rfl
              rotate_left; · simp only [Act.put, List.setIfInBounds_toArray, List.set_cons_zero, List.set_cons_succ, i64_w, i32_w]; rfl
              refine done_ (by kernel_rfl) ?_
              obtain ⟨Ao112, co112, eo112⟩ := Kd.R_slice HO357.out
              subst eo112
              try go_wp2_with (first | ((with_reducible refine gate_callee (f := 14) rfl ?_); refine gl_ (some 87) Try.func14 #[.slice Ao112 t355.length co112, .slice Ao68 t312.length co68] ?_; (with_reducible refine (laws_eqIntS.calls kj35 _ _ t355 _ _ t312 true _ ?side1 ?side2 ?side3 ?side4 A92.out).mono ?_); (case side1 => exact rc_ HO357); (case side2 => exact (Kd.R_reads' HO357.out).2.1); (case side3 => exact rc_ HO_8); (case side4 => exact (Kd.R_reads' HO_8.out).2.1); rintro e w' ⟨rfl, ⟨nd, rfl⟩⟩; refine ⟨_, rfl, ?_⟩) | ((with_reducible refine gate_callee (f := 18) rfl ?_); refine goesL_ (some 91) rfl rfl Try.func18 (by kernel_rfl) rfl #[.slice Ao67 t345.length co67, .int .i64 1] rfl (by (try simp only [List.map_toArray, List.map_cons, List.map_nil]); first | done | (rw [show t345.length = t325.length from (Kd.R_reads' HO_11.out).1.symm] <;> rfl) | rfl | (simp only [List.length_drop, List.length_take]; rfl)) ?_; (with_reducible refine (laws_heldIntS.calls kj35 _ _ t345 1 t359 _ ?side1 ?side2 A94.out).mono ?_); (case side1 => exact rc_ HO_11); (case side2 => rw [show t345.length = t325.length from (Kd.R_reads' HO_11.out).1.symm]; exact (Kd.R_reads' HO_11.out).2.1); rintro e w' ⟨rfl, ⟨nd, rfl⟩⟩; refine ⟨_, rfl, ?_⟩))
              go_ret
              exact ⟨by first | rfl | (simp [errW_none, errW_some] <;> rfl) | (simp [*, errW_none, errW_some] <;> rfl), by repeat (first | (with_reducible first | exact HB.out | apply below_alloc | apply pw_below_drewN | apply below_drew1 | refine below_set ?_ GE300.out | refine below_set ?_ GE301.out | refine below_set ?_ GE319.out | refine below_set ?_ GE324.out) | exact HB.out)⟩
             ·rw [if_neg c104] at H
              have c104b0 : (t359 == t344) = false := beq_eq_false_iff_ne.mpr c104
              have c104b1 : (t359 != t344) = true := bne_iff_ne.mpr c104
              obtain rfl := Option.some.inj H
              try go_wp2_with (first | ((with_reducible refine gate_callee (f := 17) rfl ?_); refine gl_ (some 70) Try.func17 #[.slice Ao67 t325.length co67, .int .i64 1] ?_; (with_reducible refine (laws_markIntS.calls kj35 (fun k_ => some k_ = (.slice Ao67 t325.length co67 : Value).ownBlock) (.slice Ao67 t325.length co67) t325 1 t344 t345 w _ ?side1 ?side2 A84.out).mono ?_); (case side1 => exact by_ HB); (case side2 => exact Kd.R_tight rfl HO_11.out); rintro e w113 ⟨rfl, hy0, hb, hkp⟩; refine ⟨_, rfl, ?_⟩; replace HO_8 := kp_ (fun k_ => some k_ ≠ (.slice Ao67 t325.length co67 : Value).ownBlock) (HO_8.out) hkp; replace HO_320001 := kp_ (fun k_ => some k_ ≠ (.slice Ao64 t342.length co64 : Value).ownBlock) ((Kd.R_apart' HO_320001.out (Kd.R_typed HO_11.out) (by decide))) hkp; replace HO_325001 := kp_ (fun k_ => some k_ ≠ (.slice Ao56 t340.length co56 : Value).ownBlock) ((Kd.R_apart' HO_325001.out (Kd.R_typed HO_11.out) (by decide))) hkp; replace BK300 := bk_ BK300 hkp (fun hs_ => (Kd.R_ne HO_11.out BK300.out (by decide)) hs_); replace BK301 := bk_ BK301 hkp (fun hs_ => (Kd.R_ne HO_11.out BK301.out (by decide)) hs_); replace BK319 := bk_ BK319 hkp (fun hs_ => (Kd.R_ne HO_11.out BK319.out (by decide)) hs_); replace BK324 := bk_ BK324 hkp (fun hs_ => (Kd.R_ne HO_11.out BK324.out (by decide)) hs_); replace HO_11 := Aside0.mk (Kd.R_reok rfl hy0 (fun k_ e_ => HO_11.out.1 k_ e_)); replace HB := Aside0.mk (hb); (try clear hb); (try clear hkp); (try clear hy0)) | ((with_reducible refine gate_callee (f := 18) rfl ?_); refine goesL_ (some 73) rfl rfl Try.func18 (by kernel_rfl) rfl #[.slice Ao67 t345.length co67, .int .i64 1] rfl (by (try simp only [List.map_toArray, List.map_cons, List.map_nil]); first | done | (rw [show t345.length = t325.length from (Kd.R_reads' HO_11.out).1.symm] <;> rfl) | rfl | (simp only [List.length_drop, List.length_take]; rfl)) ?_; (with_reducible refine (laws_heldIntS.calls kj35 _ _ t345 1 t346 _ ?side1 ?side2 A85.out).mono ?_); (case side1 => exact rc_ HO_11); (case side2 => rw [show t345.length = t325.length from (Kd.R_reads' HO_11.out).1.symm]; exact (Kd.R_reads' HO_11.out).2.1); rintro e w' ⟨rfl, ⟨nd, rfl⟩⟩; refine ⟨_, rfl, ?_⟩))
              (try (rw [drewN_self w113]; generalize hq_ : World.drewN w113 _ = w113; replace HO_11 : Aside0 (Kd.R (Kd.int .i64) 3 w113 w.heap.size (fun k_ => some k_ ≠ (.slice Ao68 t312.length co68 : Value).ownBlock) (.slice Ao67 t325.length co67) t345) := ⟨by rw [← hq_]; exact (hd_ HO_11)⟩; replace HO_320001 : Aside0 (Kd.R k76 76 w113 w.heap.size (fun k_ => some k_ ≠ (.slice Ao64 t342.length co64 : Value).ownBlock) (.slice Ao56 t340.length co56) t340) := ⟨by rw [← hq_]; exact (hd_ HO_320001)⟩; replace HO_325001 : Aside0 (Kd.R k76 76 w113 w.heap.size (fun k_ => some k_ ≠ (.slice Ao56 t340.length co56 : Value).ownBlock) (.slice Ao64 t342.length co64) t342) := ⟨by rw [← hq_]; exact (hd_ HO_325001)⟩; replace HO_8 : Aside0 (Kd.R (Kd.int .i64) 3 w113 w.heap.size (fun k_ => some k_ ≠ (.slice Ao67 t325.length co67 : Value).ownBlock) (.slice Ao68 t312.length co68) t312) := ⟨by rw [← hq_]; exact (hd_ HO_8)⟩; replace BK300 : Aside0 (w113.heap[gb300]? = some (.cells #[.int .i64 a0_0, .slice A0_1 l0_1.length c0_1] 24 (0, 0))) := ⟨by rw [← hq_]; exact (by (with_reducible repeat (first | refine blk_drewN ?_ _ | refine blk_drew ?_ | refine blk_alloc ?_ _)); exact BK300.out)⟩; replace BK301 : Aside0 (w113.heap[gb301]? = some (.cells #[.int .i64 a1_0, .slice A1_1 l1_1.length c1_1] 24 (0, 0))) := ⟨by rw [← hq_]; exact (by (with_reducible repeat (first | refine blk_drewN ?_ _ | refine blk_drew ?_ | refine blk_alloc ?_ _)); exact BK301.out)⟩; replace BK319 : Aside0 (w113.heap[gb319]? = some (.cells #[.int .i64 t315, .slice Ao56 t340.length co56] 30 (0, 0))) := ⟨by rw [← hq_]; exact (by (with_reducible repeat (first | refine blk_drewN ?_ _ | refine blk_drew ?_ | refine blk_alloc ?_ _)); exact BK319.out)⟩; replace BK324 : Aside0 (w113.heap[gb324]? = some (.cells #[.int .i64 t320, .slice Ao64 t342.length co64] 30 (0, 0))) := ⟨by rw [← hq_]; exact (by (with_reducible repeat (first | refine blk_drewN ?_ _ | refine blk_drew ?_ | refine blk_alloc ?_ _)); exact BK324.out)⟩; replace HB : Aside0 (Below w.heap.size w w113) := ⟨by rw [← hq_]; exact (by repeat (first | (with_reducible first | exact HB.out | apply below_alloc | apply pw_below_drewN | apply below_drew1 | refine below_set ?_ GE300.out | refine below_set ?_ GE301.out | refine below_set ?_ GE319.out | refine below_set ?_ GE324.out) | exact HB.out))⟩; clear hq_))
              replace HO_8 := Aside0.mk (Kd.R_drew HO_8.out)
              replace HO_11 := Aside0.mk (Kd.R_drew HO_11.out)
              replace HO_320001 := Aside0.mk (Kd.R_drew HO_320001.out)
              replace HO_325001 := Aside0.mk (Kd.R_drew HO_325001.out)
              replace BK300 := Aside0.mk (blk_drew BK300.out)
              replace BK301 := Aside0.mk (blk_drew BK301.out)
              replace BK319 := Aside0.mk (blk_drew BK319.out)
              replace BK324 := Aside0.mk (blk_drew BK324.out)
              replace HB := Aside0.mk (below_drew1 HB.out)
              refine start_ (n := 7) (S := fun w' => w'.cell? ⟨gb300, 0, none⟩ = some (.int .i64 a0_0) ∧ w'.cell? ⟨gb300, 1, none⟩ = some (.slice A0_1 l0_1.length c0_1) ∧ w'.cell? ⟨gb301, 0, none⟩ = some (.int .i64 a1_0) ∧ w'.cell? ⟨gb301, 1, none⟩ = some (.slice A1_1 l1_1.length c1_1)) (ds := []) ba12_0 (by kernel_rfl) rfl rfl ⟨(blk_cell BK300.out 0).trans rfl, (blk_cell BK300.out 1).trans rfl, (blk_cell BK301.out 0).trans rfl, (blk_cell BK301.out 1).trans rfl⟩ (fun hHeld => ?_)
              generalize w113.drew = w114 at HO_8 HO_11 HO_320001 HO_325001 BK300 BK301 BK319 BK324 HB hHeld ⊢
              refine pure_ (i := 4) (N := some 83) (v := ?_) (a' := ?_) ba12_1 rfl rfl (by kernel_rfl) (fun _ _ _ h => h) (Or.inl ⟨by rfl, ?_⟩) ?_ ?_
              rotate_left; · intro w'; go_simp; with_reducible rfl
              rotate_left; · simp only [Act.put, List.setIfInBounds_toArray, List.set_cons_zero, List.set_cons_succ, i64_w, i32_w]; rfl
              refine take_ (i := 0) (N := some 79) (v := ?_) (a' := ?_) ba12_2 rfl rfl (by kernel_rfl) (fun _ _ _ h => h) (Or.inl ⟨by rfl, ?_⟩) hHeld ?_ ?_
              rotate_left; · rintro w' ⟨s0, s1, s2, s3⟩; go_simp; with_reducible rfl
              rotate_left; · simp only [Act.put, List.setIfInBounds_toArray, List.set_cons_zero, List.set_cons_succ, i64_w, i32_w]; rfl
              refine take_ (i := 2) (N := some 81) (v := ?_) (a' := ?_) ba12_3 rfl rfl (by kernel_rfl) (fun _ _ _ h => h) (Or.inl ⟨by rfl, ?_⟩) hHeld ?_ ?_
              rotate_left; · rintro w' ⟨s0, s1, s2, s3⟩; go_simp; with_reducible rfl
              rotate_left; · simp only [Act.put, List.setIfInBounds_toArray, List.set_cons_zero, List.set_cons_succ, i64_w, i32_w]; rfl
              refine one_ (i := 1) (N := some 80) ba12_4 rfl rfl (by kernel_rfl) (by decide) (fun K hK => ?_)
              refine gz_ Try.func12 #[.agg #[.int .i64 a0_0, .slice A0_1 l0_1.length c0_1]] ?_
              with_reducible refine (laws_toGraph.calls kj35 a0_0 _ _ l0_1 t347 t348 _ ?side1 ?side2 A89.out).mono ?_
              (case side1 => exact cb_ HR0_1 HB)
              (case side2 => exact HC0_1.out)
              rintro e w115 ⟨v349, rfl, ho0, hb⟩
              refine ⟨_, rfl, ?_⟩
              have HO350 := Aside0.mk (Kd.R_lower (Kd.R_new' (Kd.R_new' ho0 (Kd.R_lt (hd_ HO_320001))) (Kd.R_lt (hd_ HO_325001))) (bz_ HB))
              replace HO_8 := rb_ HO_8 hb
              replace HO_11 := rb_ HO_11 hb
              replace HO_320001 := Aside0.mk (Kd.R_elder' (hd_ HO_320001) (Kd.R_base ho0) hb)
              replace HO_325001 := Aside0.mk (Kd.R_elder' (hd_ HO_325001) (Kd.R_base ho0) hb)
              replace BK300 := Aside0.mk (bb_ BK300 hb)
              replace BK301 := Aside0.mk (bb_ BK301 hb)
              replace BK319 := Aside0.mk (bb_ BK319 hb)
              replace BK324 := Aside0.mk (bb_ BK324 hb)
              replace HB := Aside0.mk (bt_ HB hb)
              (try clear hb)
              (try clear hb2)
              (try clear hk)
              (try clear hi)
              (try clear ho0)
              refine hK.out _ _ ⟨(blk_cell BK300.out 0).trans rfl, (blk_cell BK300.out 1).trans rfl, (blk_cell BK301.out 0).trans rfl, (blk_cell BK301.out 1).trans rfl⟩ (fun hHeld => ?_)
              clear hK K
              refine nz_ 80 ?_
              refine one_ (i := 3) (N := some 82) ba12_5 rfl rfl (by kernel_rfl) (by decide) (fun K hK => ?_)
              refine gz_ Try.func12 #[.agg #[.int .i64 a1_0, .slice A1_1 l1_1.length c1_1]] ?_
              with_reducible refine (laws_toGraph.calls kj35 a1_0 _ _ l1_1 t351 t352 _ ?side1 ?side2 A90.out).mono ?_
              (case side1 => exact cb_ HR1_1 HB)
              (case side2 => exact HC1_1.out)
              rintro e w116 ⟨v353, rfl, ho0, hb⟩
              refine ⟨_, rfl, ?_⟩
              have HO354 := Aside0.mk (Kd.R_lower (Kd.R_new' (Kd.R_new' (Kd.R_new' ho0 (Kd.R_lt (hd_ HO_320001))) (Kd.R_lt (hd_ HO_325001))) (Kd.R_lt (hd_ HO350))) (bz_ HB))
              replace HO_8 := rb_ HO_8 hb
              replace HO_11 := rb_ HO_11 hb
              replace HO_320001 := Aside0.mk (Kd.R_elder' (hd_ HO_320001) (Kd.R_base ho0) hb)
              replace HO_325001 := Aside0.mk (Kd.R_elder' (hd_ HO_325001) (Kd.R_base ho0) hb)
              replace HO350 := Aside0.mk (Kd.R_elder' (hd_ HO350) (Kd.R_base ho0) hb)
              replace BK300 := Aside0.mk (bb_ BK300 hb)
              replace BK301 := Aside0.mk (bb_ BK301 hb)
              replace BK319 := Aside0.mk (bb_ BK319 hb)
              replace BK324 := Aside0.mk (bb_ BK324 hb)
              replace HB := Aside0.mk (bt_ HB hb)
              (try clear hb)
              (try clear hb2)
              (try clear hk)
              (try clear hi)
              (try clear ho0)
              obtain ⟨Ao117, co117, eo117⟩ := Kd.R_slice HO350.out
              (first | subst eo117 | (injection eo117 with f1_ f2_ f3_; have f4_ := f1_.symm; have f5_ := f3_.symm; clear f1_ f2_ f3_; subst f4_; subst f5_))
              obtain ⟨Ao118, co118, eo118⟩ := Kd.R_slice HO354.out
              (first | subst eo118 | (injection eo118 with f1_ f2_ f3_; have f4_ := f1_.symm; have f5_ := f3_.symm; clear f1_ f2_ f3_; subst f4_; subst f5_))
              refine hK.out _ _ ⟨(blk_cell BK300.out 0).trans rfl, (blk_cell BK300.out 1).trans rfl, (blk_cell BK301.out 0).trans rfl, (blk_cell BK301.out 1).trans rfl⟩ (fun hHeld => ?_)
              clear hK K
              refine nz_ 82 ?_
              refine one_ (i := 5) (N := some 84) ba12_6 rfl rfl (by kernel_rfl) (by decide) (fun K hK => ?_)
              refine gz_ Try.func22 #[.agg #[.int .i64 t347, .slice Ao117 t348.length co117], .agg #[.int .i64 t351, .slice Ao118 t352.length co118], .int .i64 a2] ?_
              with_reducible refine (impl_Changed.calls kj35 t347 _ _ t348 t351 _ _ t352 a2 t355 _ ?side1 ?side2 ?side3 ?side4 A91.out).mono ?_
              (case side1 => exact rc_ HO350)
              (case side2 => exact (Kd.R_reads' HO350.out).2.1)
              (case side3 => exact rc_ HO354)
              (case side4 => exact (Kd.R_reads' HO354.out).2.1)
              rintro e w119 ⟨v356, rfl, ho0, hb⟩
              refine ⟨_, rfl, ?_⟩
              have HO357 := Aside0.mk (Kd.R_lower (Kd.R_new' (Kd.R_new' ho0 (Kd.R_lt (hd_ HO_8))) (Kd.R_lt (hd_ HO_11))) (bz_ HB))
              replace HO_320001 := rb_ HO_320001 hb
              replace HO_325001 := rb_ HO_325001 hb
              replace HO350 := rb_ HO350 hb
              replace HO354 := rb_ HO354 hb
              replace HO_8 := Aside0.mk (Kd.R_elder' (hd_ HO_8) (Kd.R_base ho0) hb)
              replace HO_11 := Aside0.mk (Kd.R_elder' (hd_ HO_11) (Kd.R_base ho0) hb)
              replace BK300 := Aside0.mk (bb_ BK300 hb)
              replace BK301 := Aside0.mk (bb_ BK301 hb)
              replace BK319 := Aside0.mk (bb_ BK319 hb)
              replace BK324 := Aside0.mk (bb_ BK324 hb)
              replace HB := Aside0.mk (bt_ HB hb)
              (try clear hb)
              (try clear hb2)
              (try clear hk)
              (try clear hi)
              (try clear ho0)
              refine hK.out _ _ ⟨(blk_cell BK300.out 0).trans rfl, (blk_cell BK300.out 1).trans rfl, (blk_cell BK301.out 0).trans rfl, (blk_cell BK301.out 1).trans rfl⟩ (fun hHeld => ?_)
              clear hK K
              refine nz_ 84 ?_
              refine pure_ (i := 6) (N := some 15) (v := ?_) (a' := ?_) ba12_7 rfl rfl (by kernel_rfl) (fun _ _ _ h => h) (Or.inl ⟨by rfl, ?_⟩) ?_ ?_
              rotate_left; · intro w'; go_simp; with_reducible rfl
              rotate_left; · simp only [Act.put, List.setIfInBounds_toArray, List.set_cons_zero, List.set_cons_succ, i64_w, i32_w]; rfl
              refine done_ (by kernel_rfl) ?_
              obtain ⟨Ao120, co120, eo120⟩ := Kd.R_slice HO357.out
              subst eo120
              try go_wp2_with (first | ((with_reducible refine gate_callee (f := 14) rfl ?_); refine gl_ (some 87) Try.func14 #[.slice Ao120 t355.length co120, .slice Ao68 t312.length co68] ?_; (with_reducible refine (laws_eqIntS.calls kj35 _ _ t355 _ _ t312 true _ ?side1 ?side2 ?side3 ?side4 A92.out).mono ?_); (case side1 => exact rc_ HO357); (case side2 => exact (Kd.R_reads' HO357.out).2.1); (case side3 => exact rc_ HO_8); (case side4 => exact (Kd.R_reads' HO_8.out).2.1); rintro e w' ⟨rfl, ⟨nd, rfl⟩⟩; refine ⟨_, rfl, ?_⟩) | ((with_reducible refine gate_callee (f := 18) rfl ?_); refine goesL_ (some 91) rfl rfl Try.func18 (by kernel_rfl) rfl #[.slice Ao67 t345.length co67, .int .i64 1] rfl (by (try simp only [List.map_toArray, List.map_cons, List.map_nil]); first | done | (rw [show t345.length = t325.length from (Kd.R_reads' HO_11.out).1.symm] <;> rfl) | rfl | (simp only [List.length_drop, List.length_take]; rfl)) ?_; (with_reducible refine (laws_heldIntS.calls kj35 _ _ t345 1 t359 _ ?side1 ?side2 A94.out).mono ?_); (case side1 => exact rc_ HO_11); (case side2 => rw [show t345.length = t325.length from (Kd.R_reads' HO_11.out).1.symm]; exact (Kd.R_reads' HO_11.out).2.1); rintro e w' ⟨rfl, ⟨nd, rfl⟩⟩; refine ⟨_, rfl, ?_⟩))
              go_ret
              exact ⟨by first | rfl | (simp [errW_none, errW_some] <;> rfl) | (simp [*, errW_none, errW_some] <;> rfl), by repeat (first | (with_reducible first | exact HB.out | apply below_alloc | apply pw_below_drewN | apply below_drew1 | refine below_set ?_ GE300.out | refine below_set ?_ GE301.out | refine below_set ?_ GE319.out | refine below_set ?_ GE324.out) | exact HB.out)⟩
           ·replace c93 := Bool.eq_false_iff.mpr c93
            subst c93
            rw [if_neg (show ¬ (false = true) by decide)] at H
            obtain rfl := Option.some.inj H
            try go_wp2_with (first | ((with_reducible refine gate_callee (f := 17) rfl ?_); refine gl_ (some 70) Try.func17 #[.slice Ao67 t325.length co67, .int .i64 1] ?_; (with_reducible refine (laws_markIntS.calls kj35 (fun k_ => some k_ = (.slice Ao67 t325.length co67 : Value).ownBlock) (.slice Ao67 t325.length co67) t325 1 t344 t345 w _ ?side1 ?side2 A84.out).mono ?_); (case side1 => exact by_ HB); (case side2 => exact Kd.R_tight rfl HO_11.out); rintro e w121 ⟨rfl, hy0, hb, hkp⟩; refine ⟨_, rfl, ?_⟩; replace HO_8 := kp_ (fun k_ => some k_ ≠ (.slice Ao67 t325.length co67 : Value).ownBlock) (HO_8.out) hkp; replace HO_320001 := kp_ (fun k_ => some k_ ≠ (.slice Ao64 t342.length co64 : Value).ownBlock) ((Kd.R_apart' HO_320001.out (Kd.R_typed HO_11.out) (by decide))) hkp; replace HO_325001 := kp_ (fun k_ => some k_ ≠ (.slice Ao56 t340.length co56 : Value).ownBlock) ((Kd.R_apart' HO_325001.out (Kd.R_typed HO_11.out) (by decide))) hkp; replace BK300 := bk_ BK300 hkp (fun hs_ => (Kd.R_ne HO_11.out BK300.out (by decide)) hs_); replace BK301 := bk_ BK301 hkp (fun hs_ => (Kd.R_ne HO_11.out BK301.out (by decide)) hs_); replace BK319 := bk_ BK319 hkp (fun hs_ => (Kd.R_ne HO_11.out BK319.out (by decide)) hs_); replace BK324 := bk_ BK324 hkp (fun hs_ => (Kd.R_ne HO_11.out BK324.out (by decide)) hs_); replace HO_11 := Aside0.mk (Kd.R_reok rfl hy0 (fun k_ e_ => HO_11.out.1 k_ e_)); replace HB := Aside0.mk (hb); (try clear hb); (try clear hkp); (try clear hy0)) | ((with_reducible refine gate_callee (f := 18) rfl ?_); refine goesL_ (some 73) rfl rfl Try.func18 (by kernel_rfl) rfl #[.slice Ao67 t345.length co67, .int .i64 1] rfl (by (try simp only [List.map_toArray, List.map_cons, List.map_nil]); first | done | (rw [show t345.length = t325.length from (Kd.R_reads' HO_11.out).1.symm] <;> rfl) | rfl | (simp only [List.length_drop, List.length_take]; rfl)) ?_; (with_reducible refine (laws_heldIntS.calls kj35 _ _ t345 1 t346 _ ?side1 ?side2 A85.out).mono ?_); (case side1 => exact rc_ HO_11); (case side2 => rw [show t345.length = t325.length from (Kd.R_reads' HO_11.out).1.symm]; exact (Kd.R_reads' HO_11.out).2.1); rintro e w' ⟨rfl, ⟨nd, rfl⟩⟩; refine ⟨_, rfl, ?_⟩))
            (try (rw [drewN_self w121]; generalize hq_ : World.drewN w121 _ = w121; replace HO_11 : Aside0 (Kd.R (Kd.int .i64) 3 w121 w.heap.size (fun k_ => some k_ ≠ (.slice Ao68 t312.length co68 : Value).ownBlock) (.slice Ao67 t325.length co67) t345) := ⟨by rw [← hq_]; exact (hd_ HO_11)⟩; replace HO_320001 : Aside0 (Kd.R k76 76 w121 w.heap.size (fun k_ => some k_ ≠ (.slice Ao64 t342.length co64 : Value).ownBlock) (.slice Ao56 t340.length co56) t340) := ⟨by rw [← hq_]; exact (hd_ HO_320001)⟩; replace HO_325001 : Aside0 (Kd.R k76 76 w121 w.heap.size (fun k_ => some k_ ≠ (.slice Ao56 t340.length co56 : Value).ownBlock) (.slice Ao64 t342.length co64) t342) := ⟨by rw [← hq_]; exact (hd_ HO_325001)⟩; replace HO_8 : Aside0 (Kd.R (Kd.int .i64) 3 w121 w.heap.size (fun k_ => some k_ ≠ (.slice Ao67 t325.length co67 : Value).ownBlock) (.slice Ao68 t312.length co68) t312) := ⟨by rw [← hq_]; exact (hd_ HO_8)⟩; replace BK300 : Aside0 (w121.heap[gb300]? = some (.cells #[.int .i64 a0_0, .slice A0_1 l0_1.length c0_1] 24 (0, 0))) := ⟨by rw [← hq_]; exact (by (with_reducible repeat (first | refine blk_drewN ?_ _ | refine blk_drew ?_ | refine blk_alloc ?_ _)); exact BK300.out)⟩; replace BK301 : Aside0 (w121.heap[gb301]? = some (.cells #[.int .i64 a1_0, .slice A1_1 l1_1.length c1_1] 24 (0, 0))) := ⟨by rw [← hq_]; exact (by (with_reducible repeat (first | refine blk_drewN ?_ _ | refine blk_drew ?_ | refine blk_alloc ?_ _)); exact BK301.out)⟩; replace BK319 : Aside0 (w121.heap[gb319]? = some (.cells #[.int .i64 t315, .slice Ao56 t340.length co56] 30 (0, 0))) := ⟨by rw [← hq_]; exact (by (with_reducible repeat (first | refine blk_drewN ?_ _ | refine blk_drew ?_ | refine blk_alloc ?_ _)); exact BK319.out)⟩; replace BK324 : Aside0 (w121.heap[gb324]? = some (.cells #[.int .i64 t320, .slice Ao64 t342.length co64] 30 (0, 0))) := ⟨by rw [← hq_]; exact (by (with_reducible repeat (first | refine blk_drewN ?_ _ | refine blk_drew ?_ | refine blk_alloc ?_ _)); exact BK324.out)⟩; replace HB : Aside0 (Below w.heap.size w w121) := ⟨by rw [← hq_]; exact (by repeat (first | (with_reducible first | exact HB.out | apply below_alloc | apply pw_below_drewN | apply below_drew1 | refine below_set ?_ GE300.out | refine below_set ?_ GE301.out | refine below_set ?_ GE319.out | refine below_set ?_ GE324.out) | exact HB.out))⟩; clear hq_))
            replace HO_8 := Aside0.mk (Kd.R_drew HO_8.out)
            replace HO_11 := Aside0.mk (Kd.R_drew HO_11.out)
            replace HO_320001 := Aside0.mk (Kd.R_drew HO_320001.out)
            replace HO_325001 := Aside0.mk (Kd.R_drew HO_325001.out)
            replace BK300 := Aside0.mk (blk_drew BK300.out)
            replace BK301 := Aside0.mk (blk_drew BK301.out)
            replace BK319 := Aside0.mk (blk_drew BK319.out)
            replace BK324 := Aside0.mk (blk_drew BK324.out)
            replace HB := Aside0.mk (below_drew1 HB.out)
            refine start_ (n := 7) (S := fun w' => w'.cell? ⟨gb300, 0, none⟩ = some (.int .i64 a0_0) ∧ w'.cell? ⟨gb300, 1, none⟩ = some (.slice A0_1 l0_1.length c0_1) ∧ w'.cell? ⟨gb301, 0, none⟩ = some (.int .i64 a1_0) ∧ w'.cell? ⟨gb301, 1, none⟩ = some (.slice A1_1 l1_1.length c1_1)) (ds := []) ba12_0 (by kernel_rfl) rfl rfl ⟨(blk_cell BK300.out 0).trans rfl, (blk_cell BK300.out 1).trans rfl, (blk_cell BK301.out 0).trans rfl, (blk_cell BK301.out 1).trans rfl⟩ (fun hHeld => ?_)
            generalize w121.drew = w122 at HO_8 HO_11 HO_320001 HO_325001 BK300 BK301 BK319 BK324 HB hHeld ⊢
            refine pure_ (i := 4) (N := some 83) (v := ?_) (a' := ?_) ba12_1 rfl rfl (by kernel_rfl) (fun _ _ _ h => h) (Or.inl ⟨by rfl, ?_⟩) ?_ ?_
            rotate_left; · intro w'; go_simp; with_reducible rfl
            rotate_left; · simp only [Act.put, List.setIfInBounds_toArray, List.set_cons_zero, List.set_cons_succ, i64_w, i32_w]; rfl
            refine take_ (i := 0) (N := some 79) (v := ?_) (a' := ?_) ba12_2 rfl rfl (by kernel_rfl) (fun _ _ _ h => h) (Or.inl ⟨by rfl, ?_⟩) hHeld ?_ ?_
            rotate_left; · rintro w' ⟨s0, s1, s2, s3⟩; go_simp; with_reducible rfl
            rotate_left; · simp only [Act.put, List.setIfInBounds_toArray, List.set_cons_zero, List.set_cons_succ, i64_w, i32_w]; rfl
            refine take_ (i := 2) (N := some 81) (v := ?_) (a' := ?_) ba12_3 rfl rfl (by kernel_rfl) (fun _ _ _ h => h) (Or.inl ⟨by rfl, ?_⟩) hHeld ?_ ?_
            rotate_left; · rintro w' ⟨s0, s1, s2, s3⟩; go_simp; with_reducible rfl
            rotate_left; · simp only [Act.put, List.setIfInBounds_toArray, List.set_cons_zero, List.set_cons_succ, i64_w, i32_w]; rfl
            refine one_ (i := 1) (N := some 80) ba12_4 rfl rfl (by kernel_rfl) (by decide) (fun K hK => ?_)
            refine gz_ Try.func12 #[.agg #[.int .i64 a0_0, .slice A0_1 l0_1.length c0_1]] ?_
            with_reducible refine (laws_toGraph.calls kj35 a0_0 _ _ l0_1 t347 t348 _ ?side1 ?side2 A89.out).mono ?_
            (case side1 => exact cb_ HR0_1 HB)
            (case side2 => exact HC0_1.out)
            rintro e w123 ⟨v349, rfl, ho0, hb⟩
            refine ⟨_, rfl, ?_⟩
            have HO350 := Aside0.mk (Kd.R_lower (Kd.R_new' (Kd.R_new' ho0 (Kd.R_lt (hd_ HO_320001))) (Kd.R_lt (hd_ HO_325001))) (bz_ HB))
            replace HO_8 := rb_ HO_8 hb
            replace HO_11 := rb_ HO_11 hb
            replace HO_320001 := Aside0.mk (Kd.R_elder' (hd_ HO_320001) (Kd.R_base ho0) hb)
            replace HO_325001 := Aside0.mk (Kd.R_elder' (hd_ HO_325001) (Kd.R_base ho0) hb)
            replace BK300 := Aside0.mk (bb_ BK300 hb)
            replace BK301 := Aside0.mk (bb_ BK301 hb)
            replace BK319 := Aside0.mk (bb_ BK319 hb)
            replace BK324 := Aside0.mk (bb_ BK324 hb)
            replace HB := Aside0.mk (bt_ HB hb)
            (try clear hb)
            (try clear hb2)
            (try clear hk)
            (try clear hi)
            (try clear ho0)
            refine hK.out _ _ ⟨(blk_cell BK300.out 0).trans rfl, (blk_cell BK300.out 1).trans rfl, (blk_cell BK301.out 0).trans rfl, (blk_cell BK301.out 1).trans rfl⟩ (fun hHeld => ?_)
            clear hK K
            refine nz_ 80 ?_
            refine one_ (i := 3) (N := some 82) ba12_5 rfl rfl (by kernel_rfl) (by decide) (fun K hK => ?_)
            refine gz_ Try.func12 #[.agg #[.int .i64 a1_0, .slice A1_1 l1_1.length c1_1]] ?_
            with_reducible refine (laws_toGraph.calls kj35 a1_0 _ _ l1_1 t351 t352 _ ?side1 ?side2 A90.out).mono ?_
            (case side1 => exact cb_ HR1_1 HB)
            (case side2 => exact HC1_1.out)
            rintro e w124 ⟨v353, rfl, ho0, hb⟩
            refine ⟨_, rfl, ?_⟩
            have HO354 := Aside0.mk (Kd.R_lower (Kd.R_new' (Kd.R_new' (Kd.R_new' ho0 (Kd.R_lt (hd_ HO_320001))) (Kd.R_lt (hd_ HO_325001))) (Kd.R_lt (hd_ HO350))) (bz_ HB))
            replace HO_8 := rb_ HO_8 hb
            replace HO_11 := rb_ HO_11 hb
            replace HO_320001 := Aside0.mk (Kd.R_elder' (hd_ HO_320001) (Kd.R_base ho0) hb)
            replace HO_325001 := Aside0.mk (Kd.R_elder' (hd_ HO_325001) (Kd.R_base ho0) hb)
            replace HO350 := Aside0.mk (Kd.R_elder' (hd_ HO350) (Kd.R_base ho0) hb)
            replace BK300 := Aside0.mk (bb_ BK300 hb)
            replace BK301 := Aside0.mk (bb_ BK301 hb)
            replace BK319 := Aside0.mk (bb_ BK319 hb)
            replace BK324 := Aside0.mk (bb_ BK324 hb)
            replace HB := Aside0.mk (bt_ HB hb)
            (try clear hb)
            (try clear hb2)
            (try clear hk)
            (try clear hi)
            (try clear ho0)
            obtain ⟨Ao125, co125, eo125⟩ := Kd.R_slice HO350.out
            (first | subst eo125 | (injection eo125 with f1_ f2_ f3_; have f4_ := f1_.symm; have f5_ := f3_.symm; clear f1_ f2_ f3_; subst f4_; subst f5_))
            obtain ⟨Ao126, co126, eo126⟩ := Kd.R_slice HO354.out
            (first | subst eo126 | (injection eo126 with f1_ f2_ f3_; have f4_ := f1_.symm; have f5_ := f3_.symm; clear f1_ f2_ f3_; subst f4_; subst f5_))
            refine hK.out _ _ ⟨(blk_cell BK300.out 0).trans rfl, (blk_cell BK300.out 1).trans rfl, (blk_cell BK301.out 0).trans rfl, (blk_cell BK301.out 1).trans rfl⟩ (fun hHeld => ?_)
            clear hK K
            refine nz_ 82 ?_
            refine one_ (i := 5) (N := some 84) ba12_6 rfl rfl (by kernel_rfl) (by decide) (fun K hK => ?_)
            refine gz_ Try.func22 #[.agg #[.int .i64 t347, .slice Ao125 t348.length co125], .agg #[.int .i64 t351, .slice Ao126 t352.length co126], .int .i64 a2] ?_
            with_reducible refine (impl_Changed.calls kj35 t347 _ _ t348 t351 _ _ t352 a2 t355 _ ?side1 ?side2 ?side3 ?side4 A91.out).mono ?_
            (case side1 => exact rc_ HO350)
            (case side2 => exact (Kd.R_reads' HO350.out).2.1)
            (case side3 => exact rc_ HO354)
            (case side4 => exact (Kd.R_reads' HO354.out).2.1)
            rintro e w127 ⟨v356, rfl, ho0, hb⟩
            refine ⟨_, rfl, ?_⟩
            have HO357 := Aside0.mk (Kd.R_lower (Kd.R_new' (Kd.R_new' ho0 (Kd.R_lt (hd_ HO_8))) (Kd.R_lt (hd_ HO_11))) (bz_ HB))
            replace HO_320001 := rb_ HO_320001 hb
            replace HO_325001 := rb_ HO_325001 hb
            replace HO350 := rb_ HO350 hb
            replace HO354 := rb_ HO354 hb
            replace HO_8 := Aside0.mk (Kd.R_elder' (hd_ HO_8) (Kd.R_base ho0) hb)
            replace HO_11 := Aside0.mk (Kd.R_elder' (hd_ HO_11) (Kd.R_base ho0) hb)
            replace BK300 := Aside0.mk (bb_ BK300 hb)
            replace BK301 := Aside0.mk (bb_ BK301 hb)
            replace BK319 := Aside0.mk (bb_ BK319 hb)
            replace BK324 := Aside0.mk (bb_ BK324 hb)
            replace HB := Aside0.mk (bt_ HB hb)
            (try clear hb)
            (try clear hb2)
            (try clear hk)
            (try clear hi)
            (try clear ho0)
            refine hK.out _ _ ⟨(blk_cell BK300.out 0).trans rfl, (blk_cell BK300.out 1).trans rfl, (blk_cell BK301.out 0).trans rfl, (blk_cell BK301.out 1).trans rfl⟩ (fun hHeld => ?_)
            clear hK K
            refine nz_ 84 ?_
            refine pure_ (i := 6) (N := some 15) (v := ?_) (a' := ?_) ba12_7 rfl rfl (by kernel_rfl) (fun _ _ _ h => h) (Or.inl ⟨by rfl, ?_⟩) ?_ ?_
            rotate_left; · intro w'; go_simp; with_reducible rfl
            rotate_left; · simp only [Act.put, List.setIfInBounds_toArray, List.set_cons_zero, List.set_cons_succ, i64_w, i32_w]; rfl
            refine done_ (by kernel_rfl) ?_
            obtain ⟨Ao128, co128, eo128⟩ := Kd.R_slice HO357.out
            subst eo128
            try go_wp2_with (first | ((with_reducible refine gate_callee (f := 14) rfl ?_); refine gl_ (some 87) Try.func14 #[.slice Ao128 t355.length co128, .slice Ao68 t312.length co68] ?_; (with_reducible refine (laws_eqIntS.calls kj35 _ _ t355 _ _ t312 false _ ?side1 ?side2 ?side3 ?side4 A92.out).mono ?_); (case side1 => exact rc_ HO357); (case side2 => exact (Kd.R_reads' HO357.out).2.1); (case side3 => exact rc_ HO_8); (case side4 => exact (Kd.R_reads' HO_8.out).2.1); rintro e w' ⟨rfl, ⟨nd, rfl⟩⟩; refine ⟨_, rfl, ?_⟩))
            go_ret
            exact ⟨by first | rfl | (simp [errW_none, errW_some] <;> rfl) | (simp [*, errW_none, errW_some] <;> rfl), by repeat (first | (with_reducible first | exact HB.out | apply below_alloc | apply pw_below_drewN | apply below_drew1 | refine below_set ?_ GE300.out | refine below_set ?_ GE301.out | refine below_set ?_ GE319.out | refine below_set ?_ GE324.out) | exact HB.out)⟩
          ·rw [if_neg c88] at H
           have c88b0 : (t346 == t344) = false := beq_eq_false_iff_ne.mpr c88
           have c88b1 : (t346 != t344) = true := bne_iff_ne.mpr c88
           obtain rfl := Option.some.inj H
           go_wp2_with (first | ((with_reducible refine gate_callee (f := 17) rfl ?_); refine gl_ (some 70) Try.func17 #[.slice Ao67 t325.length co67, .int .i64 1] ?_; (with_reducible refine (laws_markIntS.calls kj35 (fun k_ => some k_ = (.slice Ao67 t325.length co67 : Value).ownBlock) (.slice Ao67 t325.length co67) t325 1 t344 t345 w _ ?side1 ?side2 A84.out).mono ?_); (case side1 => exact by_ HB); (case side2 => exact Kd.R_tight rfl HO_11.out); rintro e w129 ⟨rfl, hy0, hb, hkp⟩; refine ⟨_, rfl, ?_⟩; replace HO_8 := kp_ (fun k_ => some k_ ≠ (.slice Ao67 t325.length co67 : Value).ownBlock) (HO_8.out) hkp; replace HO_320001 := kp_ (fun k_ => some k_ ≠ (.slice Ao64 t342.length co64 : Value).ownBlock) ((Kd.R_apart' HO_320001.out (Kd.R_typed HO_11.out) (by decide))) hkp; replace HO_325001 := kp_ (fun k_ => some k_ ≠ (.slice Ao56 t340.length co56 : Value).ownBlock) ((Kd.R_apart' HO_325001.out (Kd.R_typed HO_11.out) (by decide))) hkp; replace BK300 := bk_ BK300 hkp (fun hs_ => (Kd.R_ne HO_11.out BK300.out (by decide)) hs_); replace BK301 := bk_ BK301 hkp (fun hs_ => (Kd.R_ne HO_11.out BK301.out (by decide)) hs_); replace BK319 := bk_ BK319 hkp (fun hs_ => (Kd.R_ne HO_11.out BK319.out (by decide)) hs_); replace BK324 := bk_ BK324 hkp (fun hs_ => (Kd.R_ne HO_11.out BK324.out (by decide)) hs_); replace HO_11 := Aside0.mk (Kd.R_reok rfl hy0 (fun k_ e_ => HO_11.out.1 k_ e_)); replace HB := Aside0.mk (hb); (try clear hb); (try clear hkp); (try clear hy0)) | ((with_reducible refine gate_callee (f := 18) rfl ?_); refine goesL_ (some 73) rfl rfl Try.func18 (by kernel_rfl) rfl #[.slice Ao67 t345.length co67, .int .i64 1] rfl (by (try simp only [List.map_toArray, List.map_cons, List.map_nil]); first | done | (rw [show t345.length = t325.length from (Kd.R_reads' HO_11.out).1.symm] <;> rfl) | rfl | (simp only [List.length_drop, List.length_take]; rfl)) ?_; (with_reducible refine (laws_heldIntS.calls kj35 _ _ t345 1 t346 _ ?side1 ?side2 A85.out).mono ?_); (case side1 => exact rc_ HO_11); (case side2 => rw [show t345.length = t325.length from (Kd.R_reads' HO_11.out).1.symm]; exact (Kd.R_reads' HO_11.out).2.1); rintro e w' ⟨rfl, ⟨nd, rfl⟩⟩; refine ⟨_, rfl, ?_⟩))
           go_ret
           exact ⟨by first | rfl | (simp [errW_none, errW_some] <;> rfl) | (simp [*, errW_none, errW_some] <;> rfl), by repeat (first | (with_reducible first | exact HB.out | apply below_alloc | apply pw_below_drewN | apply below_drew1 | refine below_set ?_ GE300.out | refine below_set ?_ GE301.out | refine below_set ?_ GE319.out | refine below_set ?_ GE324.out) | exact HB.out)⟩
     ·replace c33 := Bool.eq_false_iff.mpr c33
      subst c33
      rw [if_neg (show ¬ (false = true) by decide)] at H
      obtain rfl := Option.some.inj H
      go_enter Try.func5, Try.ntmps5
      try go_wp2_with (first | ((with_reducible refine gate_dst (N := 3) rfl ?_); refine box_event ?hg (N := 3) ?hd (cs := #[.int .i64 a0_0, .slice A0_1 l0_1.length c0_1]) (t := 24) ?hr ?_; (case hd => rfl); (case hg => rfl); (case hr => first | (go_simp; done) | (go_simp; rfl)); intro gb300 hg w130 hbox hb; have BK300 := Aside0.mk hbox; have GW300 := ge_ HB hg; have GE300 := ge_ HB hg; replace HB := Aside0.mk (bt_ HB hb); clear hb hbox hg) | ((with_reducible refine gate_dst (N := 4) rfl ?_); refine box_event ?hg (N := 4) ?hd (cs := #[.int .i64 a1_0, .slice A1_1 l1_1.length c1_1]) (t := 24) ?hr ?_; (case hd => rfl); (case hg => rfl); (case hr => first | (go_simp; done) | (go_simp; rfl)); intro gb301 hg w131 hbox hb; have BK301 := Aside0.mk hbox; have GW301 := ge_ HB hg; have GE301 := ge_ HB hg; have NB300_301 := nl_ BK300 hg; have NB301_300 := ng_ BK300 hg; replace HB := Aside0.mk (bt_ HB hb); replace BK300 := Aside0.mk (bb_ BK300 hb); clear hb hbox hg; have hnb132 := NB300_301.out; have hnc132 := NB301_300.out; have hcz133_0 := cz_ BK300 0 (.int .i64 a0_0); have hcz133_1 := cz_ BK300 1 (.slice A0_1 l0_1.length c0_1); have hfz133_0 := blk_frozen BK300.out 0; have hfz133_1 := blk_frozen BK300.out 1) | ((with_reducible refine gate_callee (f := 10) rfl ?_); refine gl_ (some 18) Try.func10 #[.agg #[.int .i64 a0_0, .slice A0_1 l0_1.length c0_1], .int .i64 1048576] ?_; (with_reducible refine (laws_szGraph.calls a0_0 _ _ l0_1 1048576 t302 _ ?side1 ?side2 A4.out).mono ?_); (case side1 => exact cb_ HR0_1 HB); (case side2 => exact HC0_1.out); rintro e w134 ⟨rfl, hb⟩; refine ⟨_, rfl, ?_⟩; replace BK300 := Aside0.mk (bb_ BK300 hb); replace BK301 := Aside0.mk (bb_ BK301 hb); replace HB := Aside0.mk (bt_ HB hb); (try clear hb); (try clear hb2); (try clear hk); (try clear hi); have hcz135_0 := cz_ BK301 0 (.int .i64 a1_0); have hcz135_1 := cz_ BK301 1 (.slice A1_1 l1_1.length c1_1); have hfz135_0 := blk_frozen BK301.out 0; have hfz135_1 := blk_frozen BK301.out 1) | ((with_reducible refine gate_callee (f := 10) rfl ?_); refine gl_ (some 23) Try.func10 #[.agg #[.int .i64 a1_0, .slice A1_1 l1_1.length c1_1], .int .i64 t302] ?_; (with_reducible refine (laws_szGraph.calls a1_0 _ _ l1_1 t302 t303 _ ?side1 ?side2 A11.out).mono ?_); (case side1 => exact cb_ HR1_1 HB); (case side2 => exact HC1_1.out); rintro e w136 ⟨rfl, hb⟩; refine ⟨_, rfl, ?_⟩; replace BK300 := Aside0.mk (bb_ BK300 hb); replace BK301 := Aside0.mk (bb_ BK301 hb); replace HB := Aside0.mk (bt_ HB hb); (try clear hb); (try clear hb2); (try clear hk); (try clear hi)))
      replace BK300 := Aside0.mk (blk_drew BK300.out)
      replace BK301 := Aside0.mk (blk_drew BK301.out)
      replace HB := Aside0.mk (below_drew1 HB.out)
      refine start_ (n := 7) (S := fun w' => w'.cell? ⟨gb300, 0, none⟩ = some (.int .i64 a0_0) ∧ w'.cell? ⟨gb300, 1, none⟩ = some (.slice A0_1 l0_1.length c0_1) ∧ w'.cell? ⟨gb301, 0, none⟩ = some (.int .i64 a1_0) ∧ w'.cell? ⟨gb301, 1, none⟩ = some (.slice A1_1 l1_1.length c1_1)) (ds := []) ba12_0 (by kernel_rfl) rfl rfl ⟨(blk_cell BK300.out 0).trans rfl, (blk_cell BK300.out 1).trans rfl, (blk_cell BK301.out 0).trans rfl, (blk_cell BK301.out 1).trans rfl⟩ (fun hHeld => ?_)
      generalize w136.drew = w137 at BK300 BK301 HB hHeld ⊢
      refine pure_ (i := 4) (N := some 30) (v := ?_) (a' := ?_) ba12_1 rfl rfl (by kernel_rfl) (fun _ _ _ h => h) (Or.inl ⟨by rfl, ?_⟩) ?_ ?_
      rotate_left; · intro w'; go_simp; with_reducible rfl
      rotate_left; · simp only [Act.put, List.setIfInBounds_toArray, List.set_cons_zero, List.set_cons_succ, i64_w, i32_w]; rfl
      refine take_ (i := 0) (N := some 26) (v := ?_) (a' := ?_) ba12_2 rfl rfl (by kernel_rfl) (fun _ _ _ h => h) (Or.inl ⟨by rfl, ?_⟩) hHeld ?_ ?_
      rotate_left; · rintro w' ⟨s0, s1, s2, s3⟩; go_simp; with_reducible rfl
      rotate_left; · simp only [Act.put, List.setIfInBounds_toArray, List.set_cons_zero, List.set_cons_succ, i64_w, i32_w]; rfl
      refine take_ (i := 2) (N := some 28) (v := ?_) (a' := ?_) ba12_3 rfl rfl (by kernel_rfl) (fun _ _ _ h => h) (Or.inl ⟨by rfl, ?_⟩) hHeld ?_ ?_
      rotate_left; · rintro w' ⟨s0, s1, s2, s3⟩; go_simp; with_reducible rfl
      rotate_left; · simp only [Act.put, List.setIfInBounds_toArray, List.set_cons_zero, List.set_cons_succ, i64_w, i32_w]; rfl
      refine one_ (i := 1) (N := some 27) ba12_4 rfl rfl (by kernel_rfl) (by decide) (fun K hK => ?_)
      refine gz_ Try.func12 #[.agg #[.int .i64 a0_0, .slice A0_1 l0_1.length c0_1]] ?_
      with_reducible refine (laws_toGraph.calls k a0_0 _ _ l0_1 t304 t305 _ ?side1 ?side2 A20.out).mono ?_
      (case side1 => exact cb_ HR0_1 HB)
      (case side2 => exact HC0_1.out)
      rintro e w138 ⟨v306, rfl, ho0, hb⟩
      refine ⟨_, rfl, ?_⟩
      have HO307 := Aside0.mk (Kd.R_lower ho0 (bz_ HB))
      replace BK300 := Aside0.mk (bb_ BK300 hb)
      replace BK301 := Aside0.mk (bb_ BK301 hb)
      replace HB := Aside0.mk (bt_ HB hb)
      (try clear hb)
      (try clear hb2)
      (try clear hk)
      (try clear hi)
      (try clear ho0)
      refine hK.out _ _ ⟨(blk_cell BK300.out 0).trans rfl, (blk_cell BK300.out 1).trans rfl, (blk_cell BK301.out 0).trans rfl, (blk_cell BK301.out 1).trans rfl⟩ (fun hHeld => ?_)
      clear hK K
      refine nz_ 27 ?_
      refine one_ (i := 3) (N := some 29) ba12_5 rfl rfl (by kernel_rfl) (by decide) (fun K hK => ?_)
      refine gz_ Try.func12 #[.agg #[.int .i64 a1_0, .slice A1_1 l1_1.length c1_1]] ?_
      with_reducible refine (laws_toGraph.calls k a1_0 _ _ l1_1 t308 t309 _ ?side1 ?side2 A21.out).mono ?_
      (case side1 => exact cb_ HR1_1 HB)
      (case side2 => exact HC1_1.out)
      rintro e w139 ⟨v310, rfl, ho0, hb⟩
      refine ⟨_, rfl, ?_⟩
      have HO311 := Aside0.mk (Kd.R_lower (Kd.R_new' ho0 (Kd.R_lt (hd_ HO307))) (bz_ HB))
      replace HO307 := Aside0.mk (Kd.R_elder' (hd_ HO307) (Kd.R_base ho0) hb)
      replace BK300 := Aside0.mk (bb_ BK300 hb)
      replace BK301 := Aside0.mk (bb_ BK301 hb)
      replace HB := Aside0.mk (bt_ HB hb)
      (try clear hb)
      (try clear hb2)
      (try clear hk)
      (try clear hi)
      (try clear ho0)
      obtain ⟨Ao140, co140, eo140⟩ := Kd.R_slice HO307.out
      (first | subst eo140 | (injection eo140 with f1_ f2_ f3_; have f4_ := f1_.symm; have f5_ := f3_.symm; clear f1_ f2_ f3_; subst f4_; subst f5_))
      obtain ⟨Ao141, co141, eo141⟩ := Kd.R_slice HO311.out
      (first | subst eo141 | (injection eo141 with f1_ f2_ f3_; have f4_ := f1_.symm; have f5_ := f3_.symm; clear f1_ f2_ f3_; subst f4_; subst f5_))
      refine hK.out _ _ ⟨(blk_cell BK300.out 0).trans rfl, (blk_cell BK300.out 1).trans rfl, (blk_cell BK301.out 0).trans rfl, (blk_cell BK301.out 1).trans rfl⟩ (fun hHeld => ?_)
      clear hK K
      refine nz_ 29 ?_
      refine one_ (i := 5) (N := some 31) ba12_6 rfl rfl (by kernel_rfl) (by decide) (fun K hK => ?_)
      refine gz_ Try.func21 #[.agg #[.int .i64 t304, .slice Ao140 t305.length co140], .agg #[.int .i64 t308, .slice Ao141 t309.length co141], .int .i64 a2] ?_
      with_reducible refine (spec_Changed.calls k t304 _ _ t305 t308 _ _ t309 a2 t312 _ ?side1 ?side2 ?side3 ?side4 A22.out).mono ?_
      (case side1 => exact rc_ HO307)
      (case side2 => exact (Kd.R_reads' HO307.out).2.1)
      (case side3 => exact rc_ HO311)
      (case side4 => exact (Kd.R_reads' HO311.out).2.1)
      rintro e w142 ⟨v313, rfl, ho0, hb⟩
      refine ⟨_, rfl, ?_⟩
      have HO314 := Aside0.mk (Kd.R_lower ho0 (bz_ HB))
      replace HO307 := rb_ HO307 hb
      replace HO311 := rb_ HO311 hb
      replace BK300 := Aside0.mk (bb_ BK300 hb)
      replace BK301 := Aside0.mk (bb_ BK301 hb)
      replace HB := Aside0.mk (bt_ HB hb)
      (try clear hb)
      (try clear hb2)
      (try clear hk)
      (try clear hi)
      (try clear ho0)
      refine hK.out _ _ ⟨(blk_cell BK300.out 0).trans rfl, (blk_cell BK300.out 1).trans rfl, (blk_cell BK301.out 0).trans rfl, (blk_cell BK301.out 1).trans rfl⟩ (fun hHeld => ?_)
      clear hK K
      refine nz_ 31 ?_
      refine pure_ (i := 6) (N := some 8) (v := ?_) (a' := ?_) ba12_7 rfl rfl (by kernel_rfl) (fun _ _ _ h => h) (Or.inl ⟨by rfl, ?_⟩) ?_ ?_
      rotate_left; · intro w'; go_simp; with_reducible rfl
      rotate_left; · simp only [Act.put, List.setIfInBounds_toArray, List.set_cons_zero, List.set_cons_succ, i64_w, i32_w]; rfl
      refine done_ (by kernel_rfl) ?_
      have hcz143_0 := cz_ BK300 0 (.int .i64 a0_0)
      have hcz143_1 := cz_ BK300 1 (.slice A0_1 l0_1.length c0_1)
      have hfz143_0 := blk_frozen BK300.out 0
      have hfz143_1 := blk_frozen BK300.out 1
      try go_wp2_with (first | ((with_reducible refine gate_callee (f := 12) rfl ?_); refine gl_ (some 33) Try.func12 #[.agg #[.int .i64 a0_0, .slice A0_1 l0_1.length c0_1]] ?_; (with_reducible refine (laws_toGraph.calls k a0_0 _ _ l0_1 t315 t316 _ ?side1 ?side2 A23.out).mono ?_); (case side1 => exact cb_ HR0_1 HB); (case side2 => exact HC0_1.out); rintro e w144 ⟨v317, rfl, ho0, hb⟩; refine ⟨_, rfl, ?_⟩; have HO318 := Aside0.mk (Kd.R_lower (Kd.R_new' (Kd.R_new' ho0 (Kd.R_lt (hd_ HO307))) (Kd.R_lt (hd_ HO311))) (bz_ HB)); replace HO314 := rb_ HO314 hb; replace HO307 := Aside0.mk (Kd.R_elder' (hd_ HO307) (Kd.R_base ho0) hb); replace HO311 := Aside0.mk (Kd.R_elder' (hd_ HO311) (Kd.R_base ho0) hb); replace BK300 := Aside0.mk (bb_ BK300 hb); replace BK301 := Aside0.mk (bb_ BK301 hb); replace HB := Aside0.mk (bt_ HB hb); (try clear hb); (try clear hb2); (try clear hk); (try clear hi); (try clear ho0)) | ((with_reducible refine gate_dst (N := 9) rfl ?_); refine box_event ?hg (N := 9) ?hd (cs := #[.int .i64 0, .slice none 0 0]) (t := 30) ?hr ?_; (case hd => rfl); (case hg => rfl); (case hr => first | (go_simp; done) | (go_simp; rfl)); intro gb319 hg w145 hbox hb; have BK319 := Aside0.mk hbox; have GW319 := ge_ HB hg; have GE319 := ge_ HB hg; have NB300_319 := nl_ BK300 hg; have NB319_300 := ng_ BK300 hg; have NB301_319 := nl_ BK301 hg; have NB319_301 := ng_ BK301 hg; replace HO307 := rb_ HO307 hb; replace HO311 := rb_ HO311 hb; replace HO314 := rb_ HO314 hb; replace HO318 := rb_ HO318 hb; replace HB := Aside0.mk (bt_ HB hb); replace BK300 := Aside0.mk (bb_ BK300 hb); replace BK301 := Aside0.mk (bb_ BK301 hb); clear hb hbox hg; have hnb146 := NB319_300.out; have hnc146 := NB300_319.out; have hnb147 := NB319_301.out; have hnc147 := NB301_319.out; have hcz148_0 := cz_ BK319 0 (.int .i64 0); have hcz148_1 := cz_ BK319 1 (.slice none 0 0); have hfz148_0 := blk_frozen BK319.out 0; have hfz148_1 := blk_frozen BK319.out 1; obtain ⟨Ao149, co149, eo149⟩ := Kd.R_slice HO318.out; subst eo149; have hcz150_0 := cz_ BK301 0 (.int .i64 a1_0); have hcz150_1 := cz_ BK301 1 (.slice A1_1 l1_1.length c1_1); have hfz150_0 := blk_frozen BK301.out 0; have hfz150_1 := blk_frozen BK301.out 1) | ((with_reducible refine gate_callee (f := 12) rfl ?_); refine gl_ (some 35) Try.func12 #[.agg #[.int .i64 a1_0, .slice A1_1 l1_1.length c1_1]] ?_; (with_reducible refine (laws_toGraph.calls k a1_0 _ _ l1_1 t320 t321 _ ?side1 ?side2 A24.out).mono ?_); (case side1 => exact Kd.C_below HR1_1.out (by repeat (first | (with_reducible first | exact HB.out | apply below_alloc | apply pw_below_drewN | apply below_drew1 | refine below_set ?_ GE300.out | refine below_set ?_ GE301.out | refine below_set ?_ GE319.out) | exact HB.out))); (case side2 => exact HC1_1.out); rintro e w151 ⟨v322, rfl, ho0, hb⟩; refine ⟨_, rfl, ?_⟩; have HO323 := Aside0.mk (Kd.R_lower (Kd.R_new' (Kd.R_new' (Kd.R_new' ho0 (Kd.R_lt (hs_ HO307 BK319))) (Kd.R_lt (hs_ HO311 BK319))) (Kd.R_lt (hs_ HO318 BK319))) (bz_ HB)); replace HO314 := rs_ HO314 BK319 hb; replace HO307 := Aside0.mk (Kd.R_elder' (hs_ HO307 BK319) (Kd.R_base ho0) hb); replace HO311 := Aside0.mk (Kd.R_elder' (hs_ HO311 BK319) (Kd.R_base ho0) hb); replace HO318 := Aside0.mk (Kd.R_elder' (hs_ HO318 BK319) (Kd.R_base ho0) hb); replace BK300 := bf_ BK300 NB300_319 hb; replace BK301 := bf_ BK301 NB301_319 hb; replace BK319 := Aside0.mk (blk_below (g := gb319) (o := .cells #[.int .i64 t315, .slice Ao149 t316.length co149] 30 (0, 0)) (by (with_reducible repeat (first | refine blk_drewN ?_ _ | refine blk_drew ?_ | refine blk_alloc ?_ _)); refine blk_put (cs := #[.int .i64 t315, .slice none 0 0]) ?_ 1 _ rfl; (with_reducible repeat (first | refine blk_drewN ?_ _ | refine blk_drew ?_ | refine blk_alloc ?_ _)); refine blk_put (cs := #[.int .i64 0, .slice none 0 0]) ?_ 0 _ rfl; (with_reducible repeat (first | refine blk_drewN ?_ _ | refine blk_drew ?_ | refine blk_alloc ?_ _)); exact BK319.out) hb); replace HB := Aside0.mk (bt_ HB hb); (try clear hb); (try clear hb2); (try clear hk); (try clear hi); (try clear ho0)) | ((with_reducible refine gate_dst (N := 10) rfl ?_); refine box_event ?hg (N := 10) ?hd (cs := #[.int .i64 0, .slice none 0 0]) (t := 30) ?hr ?_; (case hd => rfl); (case hg => rfl); (case hr => first | (go_simp; done) | (go_simp; rfl)); intro gb324 hg w152 hbox hb; have BK324 := Aside0.mk hbox; have GW324 := ge_ HB hg; have GE324 := ge_ HB hg; have NB300_324 := nl_ BK300 hg; have NB324_300 := ng_ BK300 hg; have NB301_324 := nl_ BK301 hg; have NB324_301 := ng_ BK301 hg; have NB319_324 := nl_ BK319 hg; have NB324_319 := ng_ BK319 hg; replace HO307 := rb_ HO307 hb; replace HO311 := rb_ HO311 hb; replace HO314 := rb_ HO314 hb; replace HO318 := rb_ HO318 hb; replace HO323 := rb_ HO323 hb; replace HB := Aside0.mk (bt_ HB hb); replace BK300 := Aside0.mk (bb_ BK300 hb); replace BK301 := Aside0.mk (bb_ BK301 hb); replace BK319 := Aside0.mk (bb_ BK319 hb); clear hb hbox hg; have hnb153 := NB324_300.out; have hnc153 := NB300_324.out; have hnb154 := NB324_301.out; have hnc154 := NB301_324.out; have hnb155 := NB324_319.out; have hnc155 := NB319_324.out; have hcz156_0 := cz_ BK324 0 (.int .i64 0); have hcz156_1 := cz_ BK324 1 (.slice none 0 0); have hfz156_0 := blk_frozen BK324.out 0; have hfz156_1 := blk_frozen BK324.out 1; obtain ⟨Ao157, co157, eo157⟩ := Kd.R_slice HO323.out; subst eo157; have hcz158_0 := cz_ BK319 0 (.int .i64 t315); have hcz158_1 := cz_ BK319 1 (.slice Ao149 t316.length co149); have hfz158_0 := blk_frozen BK319.out 0; have hfz158_1 := blk_frozen BK319.out 1) | ((with_reducible refine gate_callee (f := 22) rfl ?_); refine gl_ (some 39) Try.func22 #[.agg #[.int .i64 t315, .slice Ao149 t316.length co149], .agg #[.int .i64 t320, .slice Ao157 t321.length co157], .int .i64 a2] ?_; (with_reducible refine (impl_Changed.calls k t315 _ _ t316 t320 _ _ t321 a2 t325 _ ?side1 ?side2 ?side3 ?side4 A25.out).mono ?_); (case side1 => refine (Kd.R_reads' (e := 76) (base := w.heap.size) (ok := fun k_ => (((True ∧ some k_ ≠ (.slice Ao140 t305.length co140 : Value).ownBlock) ∧ some k_ ≠ (.slice Ao141 t309.length co141 : Value).ownBlock) ∧ some k_ ≠ (.slice Ao157 t321.length co157 : Value).ownBlock)) (n := t316.length) (c := co149) ?_).2.2; exact (hs_ HO318 BK324)); (case side2 => exact (Kd.R_reads' HO318.out).2.1); (case side3 => refine (Kd.R_reads' (e := 76) (base := w.heap.size) (ok := fun k_ => (((True ∧ some k_ ≠ (.slice Ao140 t305.length co140 : Value).ownBlock) ∧ some k_ ≠ (.slice Ao141 t309.length co141 : Value).ownBlock) ∧ some k_ ≠ (.slice Ao149 t316.length co149 : Value).ownBlock)) (n := t321.length) (c := co157) ?_).2.2; exact (hs_ HO323 BK324)); (case side4 => exact (Kd.R_reads' HO323.out).2.1); rintro e w159 ⟨v326, rfl, ho0, hb⟩; refine ⟨_, rfl, ?_⟩; have HO327 := Aside0.mk (Kd.R_lower (Kd.R_new' ho0 (Kd.R_lt (hs_ HO314 BK324))) (bz_ HB)); replace HO307 := rs_ HO307 BK324 hb; replace HO311 := rs_ HO311 BK324 hb; replace HO318 := rs_ HO318 BK324 hb; replace HO323 := rs_ HO323 BK324 hb; replace HO314 := Aside0.mk (Kd.R_elder' (hs_ HO314 BK324) (Kd.R_base ho0) hb); replace BK300 := bf_ BK300 NB300_324 hb; replace BK301 := bf_ BK301 NB301_324 hb; replace BK319 := bf_ BK319 NB319_324 hb; replace BK324 := Aside0.mk (blk_below (g := gb324) (o := .cells #[.int .i64 t320, .slice Ao157 t321.length co157] 30 (0, 0)) (by (with_reducible repeat (first | refine blk_drewN ?_ _ | refine blk_drew ?_ | refine blk_alloc ?_ _)); refine blk_put (cs := #[.int .i64 t320, .slice none 0 0]) ?_ 1 _ rfl; (with_reducible repeat (first | refine blk_drewN ?_ _ | refine blk_drew ?_ | refine blk_alloc ?_ _)); refine blk_put (cs := #[.int .i64 0, .slice none 0 0]) ?_ 0 _ rfl; (with_reducible repeat (first | refine blk_drewN ?_ _ | refine blk_drew ?_ | refine blk_alloc ?_ _)); exact BK324.out) hb); replace HB := Aside0.mk (bt_ HB hb); (try clear hb); (try clear hb2); (try clear hk); (try clear hi); (try clear ho0); obtain ⟨Ao160, co160, eo160⟩ := Kd.R_slice HO327.out; subst eo160; obtain ⟨Ao161, co161, eo161⟩ := Kd.R_slice HO314.out; subst eo161) | ((with_reducible refine gate_callee (f := 14) rfl ?_); refine gl_ (some 42) Try.func14 #[.slice Ao160 t325.length co160, .slice Ao161 t312.length co161] ?_; (with_reducible refine (laws_eqIntS.calls k _ _ t325 _ _ t312 true _ ?side1 ?side2 ?side3 ?side4 A26.out).mono ?_); (case side1 => exact rc_ HO327); (case side2 => exact (Kd.R_reads' HO327.out).2.1); (case side3 => exact rc_ HO314); (case side4 => exact (Kd.R_reads' HO314.out).2.1); rintro e w' ⟨rfl, ⟨nd, rfl⟩⟩; refine ⟨_, rfl, ?_⟩))
      (try (rw [drewN_self w159]; generalize hq_ : World.drewN w159 _ = w159; replace HO307 : Aside0 (Kd.R k76 76 w159 w.heap.size (fun k_ => some k_ ≠ (.slice Ao141 t309.length co141 : Value).ownBlock ∧ some k_ ≠ (.slice Ao149 t316.length co149 : Value).ownBlock ∧ some k_ ≠ (.slice Ao157 t321.length co157 : Value).ownBlock) (.slice Ao140 t305.length co140) t305) := ⟨by rw [← hq_]; exact (by (with_reducible repeat (first | apply Kd.R_alloc | apply Kd.R_drewN | apply Kd.R_drew)); exact Kd.R_mono HO307.out (fun _ hk => ⟨hk.1.1.2, ⟨hk.1.2, hk.2⟩⟩))⟩; replace HO311 : Aside0 (Kd.R k76 76 w159 w.heap.size (fun k_ => some k_ ≠ (.slice Ao140 t305.length co140 : Value).ownBlock ∧ some k_ ≠ (.slice Ao149 t316.length co149 : Value).ownBlock ∧ some k_ ≠ (.slice Ao157 t321.length co157 : Value).ownBlock) (.slice Ao141 t309.length co141) t309) := ⟨by rw [← hq_]; exact (by (with_reducible repeat (first | apply Kd.R_alloc | apply Kd.R_drewN | apply Kd.R_drew)); exact Kd.R_mono HO311.out (fun _ hk => ⟨hk.1.1.2, ⟨hk.1.2, hk.2⟩⟩))⟩; replace HO314 : Aside0 (Kd.R (Kd.int .i64) 3 w159 w.heap.size (fun k_ => some k_ ≠ (.slice Ao160 t325.length co160 : Value).ownBlock) (.slice Ao161 t312.length co161) t312) := ⟨by rw [← hq_]; exact (by (with_reducible repeat (first | apply Kd.R_alloc | apply Kd.R_drewN | apply Kd.R_drew)); exact Kd.R_mono HO314.out (fun _ hk => hk.2))⟩; replace HO318 : Aside0 (Kd.R k76 76 w159 w.heap.size (fun k_ => some k_ ≠ (.slice Ao140 t305.length co140 : Value).ownBlock ∧ some k_ ≠ (.slice Ao141 t309.length co141 : Value).ownBlock ∧ some k_ ≠ (.slice Ao157 t321.length co157 : Value).ownBlock) (.slice Ao149 t316.length co149) t316) := ⟨by rw [← hq_]; exact (by (with_reducible repeat (first | apply Kd.R_alloc | apply Kd.R_drewN | apply Kd.R_drew)); exact Kd.R_mono HO318.out (fun _ hk => ⟨hk.1.1.2, ⟨hk.1.2, hk.2⟩⟩))⟩; replace HO323 : Aside0 (Kd.R k76 76 w159 w.heap.size (fun k_ => some k_ ≠ (.slice Ao140 t305.length co140 : Value).ownBlock ∧ some k_ ≠ (.slice Ao141 t309.length co141 : Value).ownBlock ∧ some k_ ≠ (.slice Ao149 t316.length co149 : Value).ownBlock) (.slice Ao157 t321.length co157) t321) := ⟨by rw [← hq_]; exact (by (with_reducible repeat (first | apply Kd.R_alloc | apply Kd.R_drewN | apply Kd.R_drew)); exact Kd.R_mono HO323.out (fun _ hk => ⟨hk.1.1.2, ⟨hk.1.2, hk.2⟩⟩))⟩; replace HO327 : Aside0 (Kd.R (Kd.int .i64) 3 w159 w.heap.size (fun k_ => some k_ ≠ (.slice Ao161 t312.length co161 : Value).ownBlock) (.slice Ao160 t325.length co160) t325) := ⟨by rw [← hq_]; exact (by (with_reducible repeat (first | apply Kd.R_alloc | apply Kd.R_drewN | apply Kd.R_drew)); exact Kd.R_mono HO327.out (fun _ hk => hk.2))⟩; replace BK300 : Aside0 (w159.heap[gb300]? = some (.cells #[.int .i64 a0_0, .slice A0_1 l0_1.length c0_1] 24 (0, 0))) := ⟨by rw [← hq_]; exact (by (with_reducible repeat (first | refine blk_drewN ?_ _ | refine blk_drew ?_ | refine blk_alloc ?_ _)); exact BK300.out)⟩; replace BK301 : Aside0 (w159.heap[gb301]? = some (.cells #[.int .i64 a1_0, .slice A1_1 l1_1.length c1_1] 24 (0, 0))) := ⟨by rw [← hq_]; exact (by (with_reducible repeat (first | refine blk_drewN ?_ _ | refine blk_drew ?_ | refine blk_alloc ?_ _)); exact BK301.out)⟩; replace BK319 : Aside0 (w159.heap[gb319]? = some (.cells #[.int .i64 t315, .slice Ao149 t316.length co149] 30 (0, 0))) := ⟨by rw [← hq_]; exact (by (with_reducible repeat (first | refine blk_drewN ?_ _ | refine blk_drew ?_ | refine blk_alloc ?_ _)); exact BK319.out)⟩; replace BK324 : Aside0 (w159.heap[gb324]? = some (.cells #[.int .i64 t320, .slice Ao157 t321.length co157] 30 (0, 0))) := ⟨by rw [← hq_]; exact (by (with_reducible repeat (first | refine blk_drewN ?_ _ | refine blk_drew ?_ | refine blk_alloc ?_ _)); exact BK324.out)⟩; replace HB : Aside0 (Below w.heap.size w w159) := ⟨by rw [← hq_]; exact (by repeat (first | (with_reducible first | exact HB.out | apply below_alloc | apply pw_below_drewN | apply below_drew1 | refine below_set ?_ GE300.out | refine below_set ?_ GE301.out | refine below_set ?_ GE319.out | refine below_set ?_ GE324.out) | exact HB.out))⟩; clear hq_))
      replace HO307 := Aside0.mk (Kd.R_drew HO307.out)
      replace HO311 := Aside0.mk (Kd.R_drew HO311.out)
      replace HO314 := Aside0.mk (Kd.R_drew HO314.out)
      replace HO318 := Aside0.mk (Kd.R_drew HO318.out)
      replace HO323 := Aside0.mk (Kd.R_drew HO323.out)
      replace HO327 := Aside0.mk (Kd.R_drew HO327.out)
      replace BK300 := Aside0.mk (blk_drew BK300.out)
      replace BK301 := Aside0.mk (blk_drew BK301.out)
      replace BK319 := Aside0.mk (blk_drew BK319.out)
      replace BK324 := Aside0.mk (blk_drew BK324.out)
      replace HB := Aside0.mk (below_drew1 HB.out)
      refine start_ (n := 5) (S := fun w' => w'.cell? ⟨gb319, 0, none⟩ = some (.int .i64 t315) ∧ w'.cell? ⟨gb319, 1, none⟩ = some (.slice Ao149 t316.length co149) ∧ w'.cell? ⟨gb300, 0, none⟩ = some (.int .i64 a0_0) ∧ w'.cell? ⟨gb300, 1, none⟩ = some (.slice A0_1 l0_1.length c0_1)) (ds := []) ba12_8 (by kernel_rfl) rfl rfl ⟨(blk_cell BK319.out 0).trans rfl, (blk_cell BK319.out 1).trans rfl, (blk_cell BK300.out 0).trans rfl, (blk_cell BK300.out 1).trans rfl⟩ (fun hHeld => ?_)
      generalize w159.drew = w162 at HO307 HO311 HO314 HO318 HO323 HO327 BK300 BK301 BK319 BK324 HB hHeld ⊢
      refine take_ (i := 0) (N := some 44) (v := ?_) (a' := ?_) ba12_9 rfl rfl (by kernel_rfl) (fun _ _ _ h => h) (Or.inl ⟨by rfl, ?_⟩) hHeld ?_ ?_
      rotate_left; · rintro w' ⟨s0, s1, s2, s3⟩; go_simp; with_reducible rfl
      rotate_left; · simp only [Act.put, List.setIfInBounds_toArray, List.set_cons_zero, List.set_cons_succ, i64_w, i32_w]; rfl
      refine take_ (i := 1) (N := some 45) (v := ?_) (a' := ?_) ba12_10 rfl rfl (by kernel_rfl) (fun _ _ _ h => h) (Or.inl ⟨by rfl, ?_⟩) hHeld ?_ ?_
      rotate_left; · rintro w' ⟨s0, s1, s2, s3⟩; go_simp; with_reducible rfl
      rotate_left; · simp only [Act.put, List.setIfInBounds_toArray, List.set_cons_zero, List.set_cons_succ, i64_w, i32_w]; rfl
      refine one_ (i := 2) (N := some 46) ba12_11 rfl rfl (by kernel_rfl) (by decide) (fun K hK => ?_)
      refine gz_ Try.func12 #[.agg #[.int .i64 a0_0, .slice A0_1 l0_1.length c0_1]] ?_
      with_reducible refine (laws_toGraph.calls k a0_0 _ _ l0_1 t329 t330 _ ?side1 ?side2 A28.out).mono ?_
      (case side1 => exact cb_ HR0_1 HB)
      (case side2 => exact HC0_1.out)
      rintro e w163 ⟨v331, rfl, ho0, hb⟩
      refine ⟨_, rfl, ?_⟩
      have HO332 := Aside0.mk (Kd.R_lower (Kd.R_new' (Kd.R_new' (Kd.R_new' (Kd.R_new' ho0 (Kd.R_lt (hd_ HO307))) (Kd.R_lt (hd_ HO311))) (Kd.R_lt (hd_ HO318))) (Kd.R_lt (hd_ HO323))) (bz_ HB))
      replace HO314 := rb_ HO314 hb
      replace HO327 := rb_ HO327 hb
      replace HO307 := Aside0.mk (Kd.R_elder' (hd_ HO307) (Kd.R_base ho0) hb)
      replace HO311 := Aside0.mk (Kd.R_elder' (hd_ HO311) (Kd.R_base ho0) hb)
      replace HO318 := Aside0.mk (Kd.R_elder' (hd_ HO318) (Kd.R_base ho0) hb)
      replace HO323 := Aside0.mk (Kd.R_elder' (hd_ HO323) (Kd.R_base ho0) hb)
      replace BK300 := Aside0.mk (bb_ BK300 hb)
      replace BK301 := Aside0.mk (bb_ BK301 hb)
      replace BK319 := Aside0.mk (bb_ BK319 hb)
      replace BK324 := Aside0.mk (bb_ BK324 hb)
      replace HB := Aside0.mk (bt_ HB hb)
      (try clear hb)
      (try clear hb2)
      (try clear hk)
      (try clear hi)
      (try clear ho0)
      obtain ⟨Ao164, co164, eo164⟩ := Kd.R_slice HO332.out
      (first | subst eo164 | (injection eo164 with f1_ f2_ f3_; have f4_ := f1_.symm; have f5_ := f3_.symm; clear f1_ f2_ f3_; subst f4_; subst f5_))
      refine hK.out _ _ ⟨(blk_cell BK319.out 0).trans rfl, (blk_cell BK319.out 1).trans rfl, (blk_cell BK300.out 0).trans rfl, (blk_cell BK300.out 1).trans rfl⟩ (fun hHeld => ?_)
      clear hK K
      refine nz_ 46 ?_
      refine one_ (i := 3) (N := some 47) ba12_12 rfl rfl (by kernel_rfl) (by decide) (fun K hK => ?_)
      refine gz_ Try.func15 #[.agg #[.int .i64 t315, .slice Ao149 t316.length co149], .agg #[.int .i64 t329, .slice Ao164 t330.length co164]] ?_
      with_reducible refine (laws_eqGraph.calls k t315 _ _ t316 t329 _ _ t330 true _ ?side1 ?side2 ?side3 ?side4 A29.out).mono ?_
      (case side1 => exact rc_ HO318)
      (case side2 => exact (Kd.R_reads' HO318.out).2.1)
      (case side3 => exact rc_ HO332)
      (case side4 => exact (Kd.R_reads' HO332.out).2.1)
      rintro e w165 ⟨rfl, hb⟩
      refine ⟨_, rfl, ?_⟩
      replace HO307 := rb_ HO307 hb
      replace HO311 := rb_ HO311 hb
      replace HO314 := rb_ HO314 hb
      replace HO318 := rb_ HO318 hb
      replace HO323 := rb_ HO323 hb
      replace HO327 := rb_ HO327 hb
      replace HO332 := rb_ HO332 hb
      replace BK300 := Aside0.mk (bb_ BK300 hb)
      replace BK301 := Aside0.mk (bb_ BK301 hb)
      replace BK319 := Aside0.mk (bb_ BK319 hb)
      replace BK324 := Aside0.mk (bb_ BK324 hb)
      replace HB := Aside0.mk (bt_ HB hb)
      (try clear hb)
      (try clear hb2)
      (try clear hk)
      (try clear hi)
      refine hK.out _ _ ⟨(blk_cell BK319.out 0).trans rfl, (blk_cell BK319.out 1).trans rfl, (blk_cell BK300.out 0).trans rfl, (blk_cell BK300.out 1).trans rfl⟩ (fun hHeld => ?_)
      clear hK K
      refine nz_ 47 ?_
      refine pure_ (i := 4) (N := some 48) (v := ?_) (a' := ?_) ba12_13 rfl rfl (by kernel_rfl) (fun _ _ _ h => h) (Or.inl ⟨by rfl, ?_⟩) ?_ ?_
      rotate_left; · intro w'; go_simp; with_reducible rfl
      rotate_left; · simp only [Act.put, List.setIfInBounds_toArray, List.set_cons_zero, List.set_cons_succ, i64_w, i32_w]; rfl
      refine done_ (by kernel_rfl) ?_
      try go_wp2
      replace HO307 := Aside0.mk (Kd.R_drew HO307.out)
      replace HO311 := Aside0.mk (Kd.R_drew HO311.out)
      replace HO314 := Aside0.mk (Kd.R_drew HO314.out)
      replace HO318 := Aside0.mk (Kd.R_drew HO318.out)
      replace HO323 := Aside0.mk (Kd.R_drew HO323.out)
      replace HO327 := Aside0.mk (Kd.R_drew HO327.out)
      replace HO332 := Aside0.mk (Kd.R_drew HO332.out)
      replace BK300 := Aside0.mk (blk_drew BK300.out)
      replace BK301 := Aside0.mk (blk_drew BK301.out)
      replace BK319 := Aside0.mk (blk_drew BK319.out)
      replace BK324 := Aside0.mk (blk_drew BK324.out)
      replace HB := Aside0.mk (below_drew1 HB.out)
      refine start_ (n := 5) (S := fun w' => w'.cell? ⟨gb324, 0, none⟩ = some (.int .i64 t320) ∧ w'.cell? ⟨gb324, 1, none⟩ = some (.slice Ao157 t321.length co157) ∧ w'.cell? ⟨gb301, 0, none⟩ = some (.int .i64 a1_0) ∧ w'.cell? ⟨gb301, 1, none⟩ = some (.slice A1_1 l1_1.length c1_1)) (ds := []) ba12_8 (by kernel_rfl) rfl rfl ⟨(blk_cell BK324.out 0).trans rfl, (blk_cell BK324.out 1).trans rfl, (blk_cell BK301.out 0).trans rfl, (blk_cell BK301.out 1).trans rfl⟩ (fun hHeld => ?_)
      generalize w165.drew = w166 at HO307 HO311 HO314 HO318 HO323 HO327 HO332 BK300 BK301 BK319 BK324 HB hHeld ⊢
      refine take_ (i := 0) (N := some 49) (v := ?_) (a' := ?_) ba12_9 rfl rfl (by kernel_rfl) (fun _ _ _ h => h) (Or.inl ⟨by rfl, ?_⟩) hHeld ?_ ?_
      rotate_left; · rintro w' ⟨s0, s1, s2, s3⟩; go_simp; with_reducible rfl
      rotate_left; · simp only [Act.put, List.setIfInBounds_toArray, List.set_cons_zero, List.set_cons_succ, i64_w, i32_w]; rfl
      refine take_ (i := 1) (N := some 50) (v := ?_) (a' := ?_) ba12_10 rfl rfl (by kernel_rfl) (fun _ _ _ h => h) (Or.inl ⟨by rfl, ?_⟩) hHeld ?_ ?_
      rotate_left; · rintro w' ⟨s0, s1, s2, s3⟩; go_simp; with_reducible rfl
      rotate_left; · simp only [Act.put, List.setIfInBounds_toArray, List.set_cons_zero, List.set_cons_succ, i64_w, i32_w]; rfl
      refine one_ (i := 2) (N := some 51) ba12_11 rfl rfl (by kernel_rfl) (by decide) (fun K hK => ?_)
      refine gz_ Try.func12 #[.agg #[.int .i64 a1_0, .slice A1_1 l1_1.length c1_1]] ?_
      with_reducible refine (laws_toGraph.calls k a1_0 _ _ l1_1 t334 t335 _ ?side1 ?side2 A31.out).mono ?_
      (case side1 => exact cb_ HR1_1 HB)
      (case side2 => exact HC1_1.out)
      rintro e w167 ⟨v336, rfl, ho0, hb⟩
      refine ⟨_, rfl, ?_⟩
      have HO337 := Aside0.mk (Kd.R_lower (Kd.R_new' (Kd.R_new' (Kd.R_new' (Kd.R_new' (Kd.R_new' ho0 (Kd.R_lt (hd_ HO307))) (Kd.R_lt (hd_ HO311))) (Kd.R_lt (hd_ HO318))) (Kd.R_lt (hd_ HO323))) (Kd.R_lt (hd_ HO332))) (bz_ HB))
      replace HO314 := rb_ HO314 hb
      replace HO327 := rb_ HO327 hb
      replace HO307 := Aside0.mk (Kd.R_elder' (hd_ HO307) (Kd.R_base ho0) hb)
      replace HO311 := Aside0.mk (Kd.R_elder' (hd_ HO311) (Kd.R_base ho0) hb)
      replace HO318 := Aside0.mk (Kd.R_elder' (hd_ HO318) (Kd.R_base ho0) hb)
      replace HO323 := Aside0.mk (Kd.R_elder' (hd_ HO323) (Kd.R_base ho0) hb)
      replace HO332 := Aside0.mk (Kd.R_elder' (hd_ HO332) (Kd.R_base ho0) hb)
      replace BK300 := Aside0.mk (bb_ BK300 hb)
      replace BK301 := Aside0.mk (bb_ BK301 hb)
      replace BK319 := Aside0.mk (bb_ BK319 hb)
      replace BK324 := Aside0.mk (bb_ BK324 hb)
      replace HB := Aside0.mk (bt_ HB hb)
      (try clear hb)
      (try clear hb2)
      (try clear hk)
      (try clear hi)
      (try clear ho0)
      obtain ⟨Ao168, co168, eo168⟩ := Kd.R_slice HO337.out
      (first | subst eo168 | (injection eo168 with f1_ f2_ f3_; have f4_ := f1_.symm; have f5_ := f3_.symm; clear f1_ f2_ f3_; subst f4_; subst f5_))
      refine hK.out _ _ ⟨(blk_cell BK324.out 0).trans rfl, (blk_cell BK324.out 1).trans rfl, (blk_cell BK301.out 0).trans rfl, (blk_cell BK301.out 1).trans rfl⟩ (fun hHeld => ?_)
      clear hK K
      refine nz_ 51 ?_
      refine one_ (i := 3) (N := some 52) ba12_12 rfl rfl (by kernel_rfl) (by decide) (fun K hK => ?_)
      refine gz_ Try.func15 #[.agg #[.int .i64 t320, .slice Ao157 t321.length co157], .agg #[.int .i64 t334, .slice Ao168 t335.length co168]] ?_
      with_reducible refine (laws_eqGraph.calls k t320 _ _ t321 t334 _ _ t335 false _ ?side1 ?side2 ?side3 ?side4 A32.out).mono ?_
      (case side1 => exact rc_ HO323)
      (case side2 => exact (Kd.R_reads' HO323.out).2.1)
      (case side3 => exact rc_ HO337)
      (case side4 => exact (Kd.R_reads' HO337.out).2.1)
      rintro e w169 ⟨rfl, hb⟩
      refine ⟨_, rfl, ?_⟩
      replace HO307 := rb_ HO307 hb
      replace HO311 := rb_ HO311 hb
      replace HO314 := rb_ HO314 hb
      replace HO318 := rb_ HO318 hb
      replace HO323 := rb_ HO323 hb
      replace HO327 := rb_ HO327 hb
      replace HO332 := rb_ HO332 hb
      replace HO337 := rb_ HO337 hb
      replace BK300 := Aside0.mk (bb_ BK300 hb)
      replace BK301 := Aside0.mk (bb_ BK301 hb)
      replace BK319 := Aside0.mk (bb_ BK319 hb)
      replace BK324 := Aside0.mk (bb_ BK324 hb)
      replace HB := Aside0.mk (bt_ HB hb)
      (try clear hb)
      (try clear hb2)
      (try clear hk)
      (try clear hi)
      refine hK.out _ _ ⟨(blk_cell BK324.out 0).trans rfl, (blk_cell BK324.out 1).trans rfl, (blk_cell BK301.out 0).trans rfl, (blk_cell BK301.out 1).trans rfl⟩ (fun hHeld => ?_)
      clear hK K
      refine nz_ 52 ?_
      refine pure_ (i := 4) (N := some 53) (v := ?_) (a' := ?_) ba12_13 rfl rfl (by kernel_rfl) (fun _ _ _ h => h) (Or.inl ⟨by rfl, ?_⟩) ?_ ?_
      rotate_left; · intro w'; go_simp; with_reducible rfl
      rotate_left; · simp only [Act.put, List.setIfInBounds_toArray, List.set_cons_zero, List.set_cons_succ, i64_w, i32_w]; rfl
      refine done_ (by kernel_rfl) ?_
      try go_wp2
      go_ret
      exact ⟨by first | rfl | (simp [errW_none, errW_some] <;> rfl) | (simp [*, errW_none, errW_some] <;> rfl), by repeat (first | (with_reducible first | exact HB.out | apply below_alloc | apply pw_below_drewN | apply below_drew1 | refine below_set ?_ GE300.out | refine below_set ?_ GE301.out | refine below_set ?_ GE319.out | refine below_set ?_ GE324.out) | exact HB.out)⟩
    ·replace c30 := Bool.eq_false_iff.mpr c30
     subst c30
     rw [if_neg (show ¬ (false = true) by decide)] at H
     obtain rfl := Option.some.inj H
     go_enter Try.func5, Try.ntmps5
     try go_wp2_with (first | ((with_reducible refine gate_dst (N := 3) rfl ?_); refine box_event ?hg (N := 3) ?hd (cs := #[.int .i64 a0_0, .slice A0_1 l0_1.length c0_1]) (t := 24) ?hr ?_; (case hd => rfl); (case hg => rfl); (case hr => first | (go_simp; done) | (go_simp; rfl)); intro gb300 hg w170 hbox hb; have BK300 := Aside0.mk hbox; have GW300 := ge_ HB hg; have GE300 := ge_ HB hg; replace HB := Aside0.mk (bt_ HB hb); clear hb hbox hg) | ((with_reducible refine gate_dst (N := 4) rfl ?_); refine box_event ?hg (N := 4) ?hd (cs := #[.int .i64 a1_0, .slice A1_1 l1_1.length c1_1]) (t := 24) ?hr ?_; (case hd => rfl); (case hg => rfl); (case hr => first | (go_simp; done) | (go_simp; rfl)); intro gb301 hg w171 hbox hb; have BK301 := Aside0.mk hbox; have GW301 := ge_ HB hg; have GE301 := ge_ HB hg; have NB300_301 := nl_ BK300 hg; have NB301_300 := ng_ BK300 hg; replace HB := Aside0.mk (bt_ HB hb); replace BK300 := Aside0.mk (bb_ BK300 hb); clear hb hbox hg; have hnb172 := NB300_301.out; have hnc172 := NB301_300.out; have hcz173_0 := cz_ BK300 0 (.int .i64 a0_0); have hcz173_1 := cz_ BK300 1 (.slice A0_1 l0_1.length c0_1); have hfz173_0 := blk_frozen BK300.out 0; have hfz173_1 := blk_frozen BK300.out 1) | ((with_reducible refine gate_callee (f := 10) rfl ?_); refine gl_ (some 18) Try.func10 #[.agg #[.int .i64 a0_0, .slice A0_1 l0_1.length c0_1], .int .i64 1048576] ?_; (with_reducible refine (laws_szGraph.calls a0_0 _ _ l0_1 1048576 t302 _ ?side1 ?side2 A4.out).mono ?_); (case side1 => exact cb_ HR0_1 HB); (case side2 => exact HC0_1.out); rintro e w174 ⟨rfl, hb⟩; refine ⟨_, rfl, ?_⟩; replace BK300 := Aside0.mk (bb_ BK300 hb); replace BK301 := Aside0.mk (bb_ BK301 hb); replace HB := Aside0.mk (bt_ HB hb); (try clear hb); (try clear hb2); (try clear hk); (try clear hi); have hcz175_0 := cz_ BK301 0 (.int .i64 a1_0); have hcz175_1 := cz_ BK301 1 (.slice A1_1 l1_1.length c1_1); have hfz175_0 := blk_frozen BK301.out 0; have hfz175_1 := blk_frozen BK301.out 1) | ((with_reducible refine gate_callee (f := 10) rfl ?_); refine gl_ (some 23) Try.func10 #[.agg #[.int .i64 a1_0, .slice A1_1 l1_1.length c1_1], .int .i64 t302] ?_; (with_reducible refine (laws_szGraph.calls a1_0 _ _ l1_1 t302 t303 _ ?side1 ?side2 A11.out).mono ?_); (case side1 => exact cb_ HR1_1 HB); (case side2 => exact HC1_1.out); rintro e w176 ⟨rfl, hb⟩; refine ⟨_, rfl, ?_⟩; replace BK300 := Aside0.mk (bb_ BK300 hb); replace BK301 := Aside0.mk (bb_ BK301 hb); replace HB := Aside0.mk (bt_ HB hb); (try clear hb); (try clear hb2); (try clear hk); (try clear hi)))
     replace BK300 := Aside0.mk (blk_drew BK300.out)
     replace BK301 := Aside0.mk (blk_drew BK301.out)
     replace HB := Aside0.mk (below_drew1 HB.out)
     refine start_ (n := 7) (S := fun w' => w'.cell? ⟨gb300, 0, none⟩ = some (.int .i64 a0_0) ∧ w'.cell? ⟨gb300, 1, none⟩ = some (.slice A0_1 l0_1.length c0_1) ∧ w'.cell? ⟨gb301, 0, none⟩ = some (.int .i64 a1_0) ∧ w'.cell? ⟨gb301, 1, none⟩ = some (.slice A1_1 l1_1.length c1_1)) (ds := []) ba12_0 (by kernel_rfl) rfl rfl ⟨(blk_cell BK300.out 0).trans rfl, (blk_cell BK300.out 1).trans rfl, (blk_cell BK301.out 0).trans rfl, (blk_cell BK301.out 1).trans rfl⟩ (fun hHeld => ?_)
     generalize w176.drew = w177 at BK300 BK301 HB hHeld ⊢
     refine pure_ (i := 4) (N := some 30) (v := ?_) (a' := ?_) ba12_1 rfl rfl (by kernel_rfl) (fun _ _ _ h => h) (Or.inl ⟨by rfl, ?_⟩) ?_ ?_
     rotate_left; · intro w'; go_simp; with_reducible rfl
     rotate_left; · simp only [Act.put, List.setIfInBounds_toArray, List.set_cons_zero, List.set_cons_succ, i64_w, i32_w]; rfl
     refine take_ (i := 0) (N := some 26) (v := ?_) (a' := ?_) ba12_2 rfl rfl (by kernel_rfl) (fun _ _ _ h => h) (Or.inl ⟨by rfl, ?_⟩) hHeld ?_ ?_
     rotate_left; · rintro w' ⟨s0, s1, s2, s3⟩; go_simp; with_reducible rfl
     rotate_left; · simp only [Act.put, List.setIfInBounds_toArray, List.set_cons_zero, List.set_cons_succ, i64_w, i32_w]; rfl
     refine take_ (i := 2) (N := some 28) (v := ?_) (a' := ?_) ba12_3 rfl rfl (by kernel_rfl) (fun _ _ _ h => h) (Or.inl ⟨by rfl, ?_⟩) hHeld ?_ ?_
     rotate_left; · rintro w' ⟨s0, s1, s2, s3⟩; go_simp; with_reducible rfl
     rotate_left; · simp only [Act.put, List.setIfInBounds_toArray, List.set_cons_zero, List.set_cons_succ, i64_w, i32_w]; rfl
     refine one_ (i := 1) (N := some 27) ba12_4 rfl rfl (by kernel_rfl) (by decide) (fun K hK => ?_)
     refine gz_ Try.func12 #[.agg #[.int .i64 a0_0, .slice A0_1 l0_1.length c0_1]] ?_
     with_reducible refine (laws_toGraph.calls k a0_0 _ _ l0_1 t304 t305 _ ?side1 ?side2 A20.out).mono ?_
     (case side1 => exact cb_ HR0_1 HB)
     (case side2 => exact HC0_1.out)
     rintro e w178 ⟨v306, rfl, ho0, hb⟩
     refine ⟨_, rfl, ?_⟩
     have HO307 := Aside0.mk (Kd.R_lower ho0 (bz_ HB))
     replace BK300 := Aside0.mk (bb_ BK300 hb)
     replace BK301 := Aside0.mk (bb_ BK301 hb)
     replace HB := Aside0.mk (bt_ HB hb)
     (try clear hb)
     (try clear hb2)
     (try clear hk)
     (try clear hi)
     (try clear ho0)
     refine hK.out _ _ ⟨(blk_cell BK300.out 0).trans rfl, (blk_cell BK300.out 1).trans rfl, (blk_cell BK301.out 0).trans rfl, (blk_cell BK301.out 1).trans rfl⟩ (fun hHeld => ?_)
     clear hK K
     refine nz_ 27 ?_
     refine one_ (i := 3) (N := some 29) ba12_5 rfl rfl (by kernel_rfl) (by decide) (fun K hK => ?_)
     refine gz_ Try.func12 #[.agg #[.int .i64 a1_0, .slice A1_1 l1_1.length c1_1]] ?_
     with_reducible refine (laws_toGraph.calls k a1_0 _ _ l1_1 t308 t309 _ ?side1 ?side2 A21.out).mono ?_
     (case side1 => exact cb_ HR1_1 HB)
     (case side2 => exact HC1_1.out)
     rintro e w179 ⟨v310, rfl, ho0, hb⟩
     refine ⟨_, rfl, ?_⟩
     have HO311 := Aside0.mk (Kd.R_lower (Kd.R_new' ho0 (Kd.R_lt (hd_ HO307))) (bz_ HB))
     replace HO307 := Aside0.mk (Kd.R_elder' (hd_ HO307) (Kd.R_base ho0) hb)
     replace BK300 := Aside0.mk (bb_ BK300 hb)
     replace BK301 := Aside0.mk (bb_ BK301 hb)
     replace HB := Aside0.mk (bt_ HB hb)
     (try clear hb)
     (try clear hb2)
     (try clear hk)
     (try clear hi)
     (try clear ho0)
     obtain ⟨Ao180, co180, eo180⟩ := Kd.R_slice HO307.out
     (first | subst eo180 | (injection eo180 with f1_ f2_ f3_; have f4_ := f1_.symm; have f5_ := f3_.symm; clear f1_ f2_ f3_; subst f4_; subst f5_))
     obtain ⟨Ao181, co181, eo181⟩ := Kd.R_slice HO311.out
     (first | subst eo181 | (injection eo181 with f1_ f2_ f3_; have f4_ := f1_.symm; have f5_ := f3_.symm; clear f1_ f2_ f3_; subst f4_; subst f5_))
     refine hK.out _ _ ⟨(blk_cell BK300.out 0).trans rfl, (blk_cell BK300.out 1).trans rfl, (blk_cell BK301.out 0).trans rfl, (blk_cell BK301.out 1).trans rfl⟩ (fun hHeld => ?_)
     clear hK K
     refine nz_ 29 ?_
     refine one_ (i := 5) (N := some 31) ba12_6 rfl rfl (by kernel_rfl) (by decide) (fun K hK => ?_)
     refine gz_ Try.func21 #[.agg #[.int .i64 t304, .slice Ao180 t305.length co180], .agg #[.int .i64 t308, .slice Ao181 t309.length co181], .int .i64 a2] ?_
     with_reducible refine (spec_Changed.calls k t304 _ _ t305 t308 _ _ t309 a2 t312 _ ?side1 ?side2 ?side3 ?side4 A22.out).mono ?_
     (case side1 => exact rc_ HO307)
     (case side2 => exact (Kd.R_reads' HO307.out).2.1)
     (case side3 => exact rc_ HO311)
     (case side4 => exact (Kd.R_reads' HO311.out).2.1)
     rintro e w182 ⟨v313, rfl, ho0, hb⟩
     refine ⟨_, rfl, ?_⟩
     have HO314 := Aside0.mk (Kd.R_lower ho0 (bz_ HB))
     replace HO307 := rb_ HO307 hb
     replace HO311 := rb_ HO311 hb
     replace BK300 := Aside0.mk (bb_ BK300 hb)
     replace BK301 := Aside0.mk (bb_ BK301 hb)
     replace HB := Aside0.mk (bt_ HB hb)
     (try clear hb)
     (try clear hb2)
     (try clear hk)
     (try clear hi)
     (try clear ho0)
     refine hK.out _ _ ⟨(blk_cell BK300.out 0).trans rfl, (blk_cell BK300.out 1).trans rfl, (blk_cell BK301.out 0).trans rfl, (blk_cell BK301.out 1).trans rfl⟩ (fun hHeld => ?_)
     clear hK K
     refine nz_ 31 ?_
     refine pure_ (i := 6) (N := some 8) (v := ?_) (a' := ?_) ba12_7 rfl rfl (by kernel_rfl) (fun _ _ _ h => h) (Or.inl ⟨by rfl, ?_⟩) ?_ ?_
     rotate_left; · intro w'; go_simp; with_reducible rfl
     rotate_left; · simp only [Act.put, List.setIfInBounds_toArray, List.set_cons_zero, List.set_cons_succ, i64_w, i32_w]; rfl
     refine done_ (by kernel_rfl) ?_
     have hcz183_0 := cz_ BK300 0 (.int .i64 a0_0)
     have hcz183_1 := cz_ BK300 1 (.slice A0_1 l0_1.length c0_1)
     have hfz183_0 := blk_frozen BK300.out 0
     have hfz183_1 := blk_frozen BK300.out 1
     try go_wp2_with (first | ((with_reducible refine gate_callee (f := 12) rfl ?_); refine gl_ (some 33) Try.func12 #[.agg #[.int .i64 a0_0, .slice A0_1 l0_1.length c0_1]] ?_; (with_reducible refine (laws_toGraph.calls k a0_0 _ _ l0_1 t315 t316 _ ?side1 ?side2 A23.out).mono ?_); (case side1 => exact cb_ HR0_1 HB); (case side2 => exact HC0_1.out); rintro e w184 ⟨v317, rfl, ho0, hb⟩; refine ⟨_, rfl, ?_⟩; have HO318 := Aside0.mk (Kd.R_lower (Kd.R_new' (Kd.R_new' ho0 (Kd.R_lt (hd_ HO307))) (Kd.R_lt (hd_ HO311))) (bz_ HB)); replace HO314 := rb_ HO314 hb; replace HO307 := Aside0.mk (Kd.R_elder' (hd_ HO307) (Kd.R_base ho0) hb); replace HO311 := Aside0.mk (Kd.R_elder' (hd_ HO311) (Kd.R_base ho0) hb); replace BK300 := Aside0.mk (bb_ BK300 hb); replace BK301 := Aside0.mk (bb_ BK301 hb); replace HB := Aside0.mk (bt_ HB hb); (try clear hb); (try clear hb2); (try clear hk); (try clear hi); (try clear ho0)) | ((with_reducible refine gate_dst (N := 9) rfl ?_); refine box_event ?hg (N := 9) ?hd (cs := #[.int .i64 0, .slice none 0 0]) (t := 30) ?hr ?_; (case hd => rfl); (case hg => rfl); (case hr => first | (go_simp; done) | (go_simp; rfl)); intro gb319 hg w185 hbox hb; have BK319 := Aside0.mk hbox; have GW319 := ge_ HB hg; have GE319 := ge_ HB hg; have NB300_319 := nl_ BK300 hg; have NB319_300 := ng_ BK300 hg; have NB301_319 := nl_ BK301 hg; have NB319_301 := ng_ BK301 hg; replace HO307 := rb_ HO307 hb; replace HO311 := rb_ HO311 hb; replace HO314 := rb_ HO314 hb; replace HO318 := rb_ HO318 hb; replace HB := Aside0.mk (bt_ HB hb); replace BK300 := Aside0.mk (bb_ BK300 hb); replace BK301 := Aside0.mk (bb_ BK301 hb); clear hb hbox hg; have hnb186 := NB319_300.out; have hnc186 := NB300_319.out; have hnb187 := NB319_301.out; have hnc187 := NB301_319.out; have hcz188_0 := cz_ BK319 0 (.int .i64 0); have hcz188_1 := cz_ BK319 1 (.slice none 0 0); have hfz188_0 := blk_frozen BK319.out 0; have hfz188_1 := blk_frozen BK319.out 1; obtain ⟨Ao189, co189, eo189⟩ := Kd.R_slice HO318.out; subst eo189; have hcz190_0 := cz_ BK301 0 (.int .i64 a1_0); have hcz190_1 := cz_ BK301 1 (.slice A1_1 l1_1.length c1_1); have hfz190_0 := blk_frozen BK301.out 0; have hfz190_1 := blk_frozen BK301.out 1) | ((with_reducible refine gate_callee (f := 12) rfl ?_); refine gl_ (some 35) Try.func12 #[.agg #[.int .i64 a1_0, .slice A1_1 l1_1.length c1_1]] ?_; (with_reducible refine (laws_toGraph.calls k a1_0 _ _ l1_1 t320 t321 _ ?side1 ?side2 A24.out).mono ?_); (case side1 => exact Kd.C_below HR1_1.out (by repeat (first | (with_reducible first | exact HB.out | apply below_alloc | apply pw_below_drewN | apply below_drew1 | refine below_set ?_ GE300.out | refine below_set ?_ GE301.out | refine below_set ?_ GE319.out) | exact HB.out))); (case side2 => exact HC1_1.out); rintro e w191 ⟨v322, rfl, ho0, hb⟩; refine ⟨_, rfl, ?_⟩; have HO323 := Aside0.mk (Kd.R_lower (Kd.R_new' (Kd.R_new' (Kd.R_new' ho0 (Kd.R_lt (hs_ HO307 BK319))) (Kd.R_lt (hs_ HO311 BK319))) (Kd.R_lt (hs_ HO318 BK319))) (bz_ HB)); replace HO314 := rs_ HO314 BK319 hb; replace HO307 := Aside0.mk (Kd.R_elder' (hs_ HO307 BK319) (Kd.R_base ho0) hb); replace HO311 := Aside0.mk (Kd.R_elder' (hs_ HO311 BK319) (Kd.R_base ho0) hb); replace HO318 := Aside0.mk (Kd.R_elder' (hs_ HO318 BK319) (Kd.R_base ho0) hb); replace BK300 := bf_ BK300 NB300_319 hb; replace BK301 := bf_ BK301 NB301_319 hb; replace BK319 := Aside0.mk (blk_below (g := gb319) (o := .cells #[.int .i64 t315, .slice Ao189 t316.length co189] 30 (0, 0)) (by (with_reducible repeat (first | refine blk_drewN ?_ _ | refine blk_drew ?_ | refine blk_alloc ?_ _)); refine blk_put (cs := #[.int .i64 t315, .slice none 0 0]) ?_ 1 _ rfl; (with_reducible repeat (first | refine blk_drewN ?_ _ | refine blk_drew ?_ | refine blk_alloc ?_ _)); refine blk_put (cs := #[.int .i64 0, .slice none 0 0]) ?_ 0 _ rfl; (with_reducible repeat (first | refine blk_drewN ?_ _ | refine blk_drew ?_ | refine blk_alloc ?_ _)); exact BK319.out) hb); replace HB := Aside0.mk (bt_ HB hb); (try clear hb); (try clear hb2); (try clear hk); (try clear hi); (try clear ho0)) | ((with_reducible refine gate_dst (N := 10) rfl ?_); refine box_event ?hg (N := 10) ?hd (cs := #[.int .i64 0, .slice none 0 0]) (t := 30) ?hr ?_; (case hd => rfl); (case hg => rfl); (case hr => first | (go_simp; done) | (go_simp; rfl)); intro gb324 hg w192 hbox hb; have BK324 := Aside0.mk hbox; have GW324 := ge_ HB hg; have GE324 := ge_ HB hg; have NB300_324 := nl_ BK300 hg; have NB324_300 := ng_ BK300 hg; have NB301_324 := nl_ BK301 hg; have NB324_301 := ng_ BK301 hg; have NB319_324 := nl_ BK319 hg; have NB324_319 := ng_ BK319 hg; replace HO307 := rb_ HO307 hb; replace HO311 := rb_ HO311 hb; replace HO314 := rb_ HO314 hb; replace HO318 := rb_ HO318 hb; replace HO323 := rb_ HO323 hb; replace HB := Aside0.mk (bt_ HB hb); replace BK300 := Aside0.mk (bb_ BK300 hb); replace BK301 := Aside0.mk (bb_ BK301 hb); replace BK319 := Aside0.mk (bb_ BK319 hb); clear hb hbox hg; have hnb193 := NB324_300.out; have hnc193 := NB300_324.out; have hnb194 := NB324_301.out; have hnc194 := NB301_324.out; have hnb195 := NB324_319.out; have hnc195 := NB319_324.out; have hcz196_0 := cz_ BK324 0 (.int .i64 0); have hcz196_1 := cz_ BK324 1 (.slice none 0 0); have hfz196_0 := blk_frozen BK324.out 0; have hfz196_1 := blk_frozen BK324.out 1; obtain ⟨Ao197, co197, eo197⟩ := Kd.R_slice HO323.out; subst eo197; have hcz198_0 := cz_ BK319 0 (.int .i64 t315); have hcz198_1 := cz_ BK319 1 (.slice Ao189 t316.length co189); have hfz198_0 := blk_frozen BK319.out 0; have hfz198_1 := blk_frozen BK319.out 1) | ((with_reducible refine gate_callee (f := 22) rfl ?_); refine gl_ (some 39) Try.func22 #[.agg #[.int .i64 t315, .slice Ao189 t316.length co189], .agg #[.int .i64 t320, .slice Ao197 t321.length co197], .int .i64 a2] ?_; (with_reducible refine (impl_Changed.calls k t315 _ _ t316 t320 _ _ t321 a2 t325 _ ?side1 ?side2 ?side3 ?side4 A25.out).mono ?_); (case side1 => refine (Kd.R_reads' (e := 76) (base := w.heap.size) (ok := fun k_ => (((True ∧ some k_ ≠ (.slice Ao180 t305.length co180 : Value).ownBlock) ∧ some k_ ≠ (.slice Ao181 t309.length co181 : Value).ownBlock) ∧ some k_ ≠ (.slice Ao197 t321.length co197 : Value).ownBlock)) (n := t316.length) (c := co189) ?_).2.2; exact (hs_ HO318 BK324)); (case side2 => exact (Kd.R_reads' HO318.out).2.1); (case side3 => refine (Kd.R_reads' (e := 76) (base := w.heap.size) (ok := fun k_ => (((True ∧ some k_ ≠ (.slice Ao180 t305.length co180 : Value).ownBlock) ∧ some k_ ≠ (.slice Ao181 t309.length co181 : Value).ownBlock) ∧ some k_ ≠ (.slice Ao189 t316.length co189 : Value).ownBlock)) (n := t321.length) (c := co197) ?_).2.2; exact (hs_ HO323 BK324)); (case side4 => exact (Kd.R_reads' HO323.out).2.1); rintro e w199 ⟨v326, rfl, ho0, hb⟩; refine ⟨_, rfl, ?_⟩; have HO327 := Aside0.mk (Kd.R_lower (Kd.R_new' ho0 (Kd.R_lt (hs_ HO314 BK324))) (bz_ HB)); replace HO307 := rs_ HO307 BK324 hb; replace HO311 := rs_ HO311 BK324 hb; replace HO318 := rs_ HO318 BK324 hb; replace HO323 := rs_ HO323 BK324 hb; replace HO314 := Aside0.mk (Kd.R_elder' (hs_ HO314 BK324) (Kd.R_base ho0) hb); replace BK300 := bf_ BK300 NB300_324 hb; replace BK301 := bf_ BK301 NB301_324 hb; replace BK319 := bf_ BK319 NB319_324 hb; replace BK324 := Aside0.mk (blk_below (g := gb324) (o := .cells #[.int .i64 t320, .slice Ao197 t321.length co197] 30 (0, 0)) (by (with_reducible repeat (first | refine blk_drewN ?_ _ | refine blk_drew ?_ | refine blk_alloc ?_ _)); refine blk_put (cs := #[.int .i64 t320, .slice none 0 0]) ?_ 1 _ rfl; (with_reducible repeat (first | refine blk_drewN ?_ _ | refine blk_drew ?_ | refine blk_alloc ?_ _)); refine blk_put (cs := #[.int .i64 0, .slice none 0 0]) ?_ 0 _ rfl; (with_reducible repeat (first | refine blk_drewN ?_ _ | refine blk_drew ?_ | refine blk_alloc ?_ _)); exact BK324.out) hb); replace HB := Aside0.mk (bt_ HB hb); (try clear hb); (try clear hb2); (try clear hk); (try clear hi); (try clear ho0); obtain ⟨Ao200, co200, eo200⟩ := Kd.R_slice HO327.out; subst eo200; obtain ⟨Ao201, co201, eo201⟩ := Kd.R_slice HO314.out; subst eo201) | ((with_reducible refine gate_callee (f := 14) rfl ?_); refine gl_ (some 42) Try.func14 #[.slice Ao200 t325.length co200, .slice Ao201 t312.length co201] ?_; (with_reducible refine (laws_eqIntS.calls k _ _ t325 _ _ t312 true _ ?side1 ?side2 ?side3 ?side4 A26.out).mono ?_); (case side1 => exact rc_ HO327); (case side2 => exact (Kd.R_reads' HO327.out).2.1); (case side3 => exact rc_ HO314); (case side4 => exact (Kd.R_reads' HO314.out).2.1); rintro e w' ⟨rfl, ⟨nd, rfl⟩⟩; refine ⟨_, rfl, ?_⟩))
     (try (rw [drewN_self w199]; generalize hq_ : World.drewN w199 _ = w199; replace HO307 : Aside0 (Kd.R k76 76 w199 w.heap.size (fun k_ => some k_ ≠ (.slice Ao181 t309.length co181 : Value).ownBlock ∧ some k_ ≠ (.slice Ao189 t316.length co189 : Value).ownBlock ∧ some k_ ≠ (.slice Ao197 t321.length co197 : Value).ownBlock) (.slice Ao180 t305.length co180) t305) := ⟨by rw [← hq_]; exact (by (with_reducible repeat (first | apply Kd.R_alloc | apply Kd.R_drewN | apply Kd.R_drew)); exact Kd.R_mono HO307.out (fun _ hk => ⟨hk.1.1.2, ⟨hk.1.2, hk.2⟩⟩))⟩; replace HO311 : Aside0 (Kd.R k76 76 w199 w.heap.size (fun k_ => some k_ ≠ (.slice Ao180 t305.length co180 : Value).ownBlock ∧ some k_ ≠ (.slice Ao189 t316.length co189 : Value).ownBlock ∧ some k_ ≠ (.slice Ao197 t321.length co197 : Value).ownBlock) (.slice Ao181 t309.length co181) t309) := ⟨by rw [← hq_]; exact (by (with_reducible repeat (first | apply Kd.R_alloc | apply Kd.R_drewN | apply Kd.R_drew)); exact Kd.R_mono HO311.out (fun _ hk => ⟨hk.1.1.2, ⟨hk.1.2, hk.2⟩⟩))⟩; replace HO314 : Aside0 (Kd.R (Kd.int .i64) 3 w199 w.heap.size (fun k_ => some k_ ≠ (.slice Ao200 t325.length co200 : Value).ownBlock) (.slice Ao201 t312.length co201) t312) := ⟨by rw [← hq_]; exact (by (with_reducible repeat (first | apply Kd.R_alloc | apply Kd.R_drewN | apply Kd.R_drew)); exact Kd.R_mono HO314.out (fun _ hk => hk.2))⟩; replace HO318 : Aside0 (Kd.R k76 76 w199 w.heap.size (fun k_ => some k_ ≠ (.slice Ao180 t305.length co180 : Value).ownBlock ∧ some k_ ≠ (.slice Ao181 t309.length co181 : Value).ownBlock ∧ some k_ ≠ (.slice Ao197 t321.length co197 : Value).ownBlock) (.slice Ao189 t316.length co189) t316) := ⟨by rw [← hq_]; exact (by (with_reducible repeat (first | apply Kd.R_alloc | apply Kd.R_drewN | apply Kd.R_drew)); exact Kd.R_mono HO318.out (fun _ hk => ⟨hk.1.1.2, ⟨hk.1.2, hk.2⟩⟩))⟩; replace HO323 : Aside0 (Kd.R k76 76 w199 w.heap.size (fun k_ => some k_ ≠ (.slice Ao180 t305.length co180 : Value).ownBlock ∧ some k_ ≠ (.slice Ao181 t309.length co181 : Value).ownBlock ∧ some k_ ≠ (.slice Ao189 t316.length co189 : Value).ownBlock) (.slice Ao197 t321.length co197) t321) := ⟨by rw [← hq_]; exact (by (with_reducible repeat (first | apply Kd.R_alloc | apply Kd.R_drewN | apply Kd.R_drew)); exact Kd.R_mono HO323.out (fun _ hk => ⟨hk.1.1.2, ⟨hk.1.2, hk.2⟩⟩))⟩; replace HO327 : Aside0 (Kd.R (Kd.int .i64) 3 w199 w.heap.size (fun k_ => some k_ ≠ (.slice Ao201 t312.length co201 : Value).ownBlock) (.slice Ao200 t325.length co200) t325) := ⟨by rw [← hq_]; exact (by (with_reducible repeat (first | apply Kd.R_alloc | apply Kd.R_drewN | apply Kd.R_drew)); exact Kd.R_mono HO327.out (fun _ hk => hk.2))⟩; replace BK300 : Aside0 (w199.heap[gb300]? = some (.cells #[.int .i64 a0_0, .slice A0_1 l0_1.length c0_1] 24 (0, 0))) := ⟨by rw [← hq_]; exact (by (with_reducible repeat (first | refine blk_drewN ?_ _ | refine blk_drew ?_ | refine blk_alloc ?_ _)); exact BK300.out)⟩; replace BK301 : Aside0 (w199.heap[gb301]? = some (.cells #[.int .i64 a1_0, .slice A1_1 l1_1.length c1_1] 24 (0, 0))) := ⟨by rw [← hq_]; exact (by (with_reducible repeat (first | refine blk_drewN ?_ _ | refine blk_drew ?_ | refine blk_alloc ?_ _)); exact BK301.out)⟩; replace BK319 : Aside0 (w199.heap[gb319]? = some (.cells #[.int .i64 t315, .slice Ao189 t316.length co189] 30 (0, 0))) := ⟨by rw [← hq_]; exact (by (with_reducible repeat (first | refine blk_drewN ?_ _ | refine blk_drew ?_ | refine blk_alloc ?_ _)); exact BK319.out)⟩; replace BK324 : Aside0 (w199.heap[gb324]? = some (.cells #[.int .i64 t320, .slice Ao197 t321.length co197] 30 (0, 0))) := ⟨by rw [← hq_]; exact (by (with_reducible repeat (first | refine blk_drewN ?_ _ | refine blk_drew ?_ | refine blk_alloc ?_ _)); exact BK324.out)⟩; replace HB : Aside0 (Below w.heap.size w w199) := ⟨by rw [← hq_]; exact (by repeat (first | (with_reducible first | exact HB.out | apply below_alloc | apply pw_below_drewN | apply below_drew1 | refine below_set ?_ GE300.out | refine below_set ?_ GE301.out | refine below_set ?_ GE319.out | refine below_set ?_ GE324.out) | exact HB.out))⟩; clear hq_))
     replace HO307 := Aside0.mk (Kd.R_drew HO307.out)
     replace HO311 := Aside0.mk (Kd.R_drew HO311.out)
     replace HO314 := Aside0.mk (Kd.R_drew HO314.out)
     replace HO318 := Aside0.mk (Kd.R_drew HO318.out)
     replace HO323 := Aside0.mk (Kd.R_drew HO323.out)
     replace HO327 := Aside0.mk (Kd.R_drew HO327.out)
     replace BK300 := Aside0.mk (blk_drew BK300.out)
     replace BK301 := Aside0.mk (blk_drew BK301.out)
     replace BK319 := Aside0.mk (blk_drew BK319.out)
     replace BK324 := Aside0.mk (blk_drew BK324.out)
     replace HB := Aside0.mk (below_drew1 HB.out)
     refine start_ (n := 5) (S := fun w' => w'.cell? ⟨gb319, 0, none⟩ = some (.int .i64 t315) ∧ w'.cell? ⟨gb319, 1, none⟩ = some (.slice Ao189 t316.length co189) ∧ w'.cell? ⟨gb300, 0, none⟩ = some (.int .i64 a0_0) ∧ w'.cell? ⟨gb300, 1, none⟩ = some (.slice A0_1 l0_1.length c0_1)) (ds := []) ba12_8 (by kernel_rfl) rfl rfl ⟨(blk_cell BK319.out 0).trans rfl, (blk_cell BK319.out 1).trans rfl, (blk_cell BK300.out 0).trans rfl, (blk_cell BK300.out 1).trans rfl⟩ (fun hHeld => ?_)
     generalize w199.drew = w202 at HO307 HO311 HO314 HO318 HO323 HO327 BK300 BK301 BK319 BK324 HB hHeld ⊢
     refine take_ (i := 0) (N := some 44) (v := ?_) (a' := ?_) ba12_9 rfl rfl (by kernel_rfl) (fun _ _ _ h => h) (Or.inl ⟨by rfl, ?_⟩) hHeld ?_ ?_
     rotate_left; · rintro w' ⟨s0, s1, s2, s3⟩; go_simp; with_reducible rfl
     rotate_left; · simp only [Act.put, List.setIfInBounds_toArray, List.set_cons_zero, List.set_cons_succ, i64_w, i32_w]; rfl
     refine take_ (i := 1) (N := some 45) (v := ?_) (a' := ?_) ba12_10 rfl rfl (by kernel_rfl) (fun _ _ _ h => h) (Or.inl ⟨by rfl, ?_⟩) hHeld ?_ ?_
     rotate_left; · rintro w' ⟨s0, s1, s2, s3⟩; go_simp; with_reducible rfl
     rotate_left; · simp only [Act.put, List.setIfInBounds_toArray, List.set_cons_zero, List.set_cons_succ, i64_w, i32_w]; rfl
     refine one_ (i := 2) (N := some 46) ba12_11 rfl rfl (by kernel_rfl) (by decide) (fun K hK => ?_)
     refine gz_ Try.func12 #[.agg #[.int .i64 a0_0, .slice A0_1 l0_1.length c0_1]] ?_
     with_reducible refine (laws_toGraph.calls k a0_0 _ _ l0_1 t329 t330 _ ?side1 ?side2 A28.out).mono ?_
     (case side1 => exact cb_ HR0_1 HB)
     (case side2 => exact HC0_1.out)
     rintro e w203 ⟨v331, rfl, ho0, hb⟩
     refine ⟨_, rfl, ?_⟩
     have HO332 := Aside0.mk (Kd.R_lower (Kd.R_new' (Kd.R_new' (Kd.R_new' (Kd.R_new' ho0 (Kd.R_lt (hd_ HO307))) (Kd.R_lt (hd_ HO311))) (Kd.R_lt (hd_ HO318))) (Kd.R_lt (hd_ HO323))) (bz_ HB))
     replace HO314 := rb_ HO314 hb
     replace HO327 := rb_ HO327 hb
     replace HO307 := Aside0.mk (Kd.R_elder' (hd_ HO307) (Kd.R_base ho0) hb)
     replace HO311 := Aside0.mk (Kd.R_elder' (hd_ HO311) (Kd.R_base ho0) hb)
     replace HO318 := Aside0.mk (Kd.R_elder' (hd_ HO318) (Kd.R_base ho0) hb)
     replace HO323 := Aside0.mk (Kd.R_elder' (hd_ HO323) (Kd.R_base ho0) hb)
     replace BK300 := Aside0.mk (bb_ BK300 hb)
     replace BK301 := Aside0.mk (bb_ BK301 hb)
     replace BK319 := Aside0.mk (bb_ BK319 hb)
     replace BK324 := Aside0.mk (bb_ BK324 hb)
     replace HB := Aside0.mk (bt_ HB hb)
     (try clear hb)
     (try clear hb2)
     (try clear hk)
     (try clear hi)
     (try clear ho0)
     obtain ⟨Ao204, co204, eo204⟩ := Kd.R_slice HO332.out
     (first | subst eo204 | (injection eo204 with f1_ f2_ f3_; have f4_ := f1_.symm; have f5_ := f3_.symm; clear f1_ f2_ f3_; subst f4_; subst f5_))
     refine hK.out _ _ ⟨(blk_cell BK319.out 0).trans rfl, (blk_cell BK319.out 1).trans rfl, (blk_cell BK300.out 0).trans rfl, (blk_cell BK300.out 1).trans rfl⟩ (fun hHeld => ?_)
     clear hK K
     refine nz_ 46 ?_
     refine one_ (i := 3) (N := some 47) ba12_12 rfl rfl (by kernel_rfl) (by decide) (fun K hK => ?_)
     refine gz_ Try.func15 #[.agg #[.int .i64 t315, .slice Ao189 t316.length co189], .agg #[.int .i64 t329, .slice Ao204 t330.length co204]] ?_
     with_reducible refine (laws_eqGraph.calls k t315 _ _ t316 t329 _ _ t330 false _ ?side1 ?side2 ?side3 ?side4 A29.out).mono ?_
     (case side1 => exact rc_ HO318)
     (case side2 => exact (Kd.R_reads' HO318.out).2.1)
     (case side3 => exact rc_ HO332)
     (case side4 => exact (Kd.R_reads' HO332.out).2.1)
     rintro e w205 ⟨rfl, hb⟩
     refine ⟨_, rfl, ?_⟩
     replace HO307 := rb_ HO307 hb
     replace HO311 := rb_ HO311 hb
     replace HO314 := rb_ HO314 hb
     replace HO318 := rb_ HO318 hb
     replace HO323 := rb_ HO323 hb
     replace HO327 := rb_ HO327 hb
     replace HO332 := rb_ HO332 hb
     replace BK300 := Aside0.mk (bb_ BK300 hb)
     replace BK301 := Aside0.mk (bb_ BK301 hb)
     replace BK319 := Aside0.mk (bb_ BK319 hb)
     replace BK324 := Aside0.mk (bb_ BK324 hb)
     replace HB := Aside0.mk (bt_ HB hb)
     (try clear hb)
     (try clear hb2)
     (try clear hk)
     (try clear hi)
     refine hK.out _ _ ⟨(blk_cell BK319.out 0).trans rfl, (blk_cell BK319.out 1).trans rfl, (blk_cell BK300.out 0).trans rfl, (blk_cell BK300.out 1).trans rfl⟩ (fun hHeld => ?_)
     clear hK K
     refine nz_ 47 ?_
     refine pure_ (i := 4) (N := some 48) (v := ?_) (a' := ?_) ba12_13 rfl rfl (by kernel_rfl) (fun _ _ _ h => h) (Or.inl ⟨by rfl, ?_⟩) ?_ ?_
     rotate_left; · intro w'; go_simp; with_reducible rfl
     rotate_left; · simp only [Act.put, List.setIfInBounds_toArray, List.set_cons_zero, List.set_cons_succ, i64_w, i32_w]; rfl
     refine done_ (by kernel_rfl) ?_
     try go_wp2
     go_ret
     exact ⟨by first | rfl | (simp [errW_none, errW_some] <;> rfl) | (simp [*, errW_none, errW_some] <;> rfl), by repeat (first | (with_reducible first | exact HB.out | apply below_alloc | apply pw_below_drewN | apply below_drew1 | refine below_set ?_ GE300.out | refine below_set ?_ GE301.out | refine below_set ?_ GE319.out | refine below_set ?_ GE324.out) | exact HB.out)⟩
   ·replace c27 := Bool.eq_false_iff.mpr c27
    subst c27
    rw [if_neg (show ¬ (false = true) by decide)] at H
    obtain rfl := Option.some.inj H
    go_enter Try.func5, Try.ntmps5
    try go_wp2_with (first | ((with_reducible refine gate_dst (N := 3) rfl ?_); refine box_event ?hg (N := 3) ?hd (cs := #[.int .i64 a0_0, .slice A0_1 l0_1.length c0_1]) (t := 24) ?hr ?_; (case hd => rfl); (case hg => rfl); (case hr => first | (go_simp; done) | (go_simp; rfl)); intro gb300 hg w206 hbox hb; have BK300 := Aside0.mk hbox; have GW300 := ge_ HB hg; have GE300 := ge_ HB hg; replace HB := Aside0.mk (bt_ HB hb); clear hb hbox hg) | ((with_reducible refine gate_dst (N := 4) rfl ?_); refine box_event ?hg (N := 4) ?hd (cs := #[.int .i64 a1_0, .slice A1_1 l1_1.length c1_1]) (t := 24) ?hr ?_; (case hd => rfl); (case hg => rfl); (case hr => first | (go_simp; done) | (go_simp; rfl)); intro gb301 hg w207 hbox hb; have BK301 := Aside0.mk hbox; have GW301 := ge_ HB hg; have GE301 := ge_ HB hg; have NB300_301 := nl_ BK300 hg; have NB301_300 := ng_ BK300 hg; replace HB := Aside0.mk (bt_ HB hb); replace BK300 := Aside0.mk (bb_ BK300 hb); clear hb hbox hg; have hnb208 := NB300_301.out; have hnc208 := NB301_300.out; have hcz209_0 := cz_ BK300 0 (.int .i64 a0_0); have hcz209_1 := cz_ BK300 1 (.slice A0_1 l0_1.length c0_1); have hfz209_0 := blk_frozen BK300.out 0; have hfz209_1 := blk_frozen BK300.out 1) | ((with_reducible refine gate_callee (f := 10) rfl ?_); refine gl_ (some 18) Try.func10 #[.agg #[.int .i64 a0_0, .slice A0_1 l0_1.length c0_1], .int .i64 1048576] ?_; (with_reducible refine (laws_szGraph.calls a0_0 _ _ l0_1 1048576 t302 _ ?side1 ?side2 A4.out).mono ?_); (case side1 => exact cb_ HR0_1 HB); (case side2 => exact HC0_1.out); rintro e w210 ⟨rfl, hb⟩; refine ⟨_, rfl, ?_⟩; replace BK300 := Aside0.mk (bb_ BK300 hb); replace BK301 := Aside0.mk (bb_ BK301 hb); replace HB := Aside0.mk (bt_ HB hb); (try clear hb); (try clear hb2); (try clear hk); (try clear hi); have hcz211_0 := cz_ BK301 0 (.int .i64 a1_0); have hcz211_1 := cz_ BK301 1 (.slice A1_1 l1_1.length c1_1); have hfz211_0 := blk_frozen BK301.out 0; have hfz211_1 := blk_frozen BK301.out 1) | ((with_reducible refine gate_callee (f := 10) rfl ?_); refine gl_ (some 23) Try.func10 #[.agg #[.int .i64 a1_0, .slice A1_1 l1_1.length c1_1], .int .i64 t302] ?_; (with_reducible refine (laws_szGraph.calls a1_0 _ _ l1_1 t302 t303 _ ?side1 ?side2 A11.out).mono ?_); (case side1 => exact cb_ HR1_1 HB); (case side2 => exact HC1_1.out); rintro e w212 ⟨rfl, hb⟩; refine ⟨_, rfl, ?_⟩; replace BK300 := Aside0.mk (bb_ BK300 hb); replace BK301 := Aside0.mk (bb_ BK301 hb); replace HB := Aside0.mk (bt_ HB hb); (try clear hb); (try clear hb2); (try clear hk); (try clear hi)))
    replace BK300 := Aside0.mk (blk_drew BK300.out)
    replace BK301 := Aside0.mk (blk_drew BK301.out)
    replace HB := Aside0.mk (below_drew1 HB.out)
    refine start_ (n := 7) (S := fun w' => w'.cell? ⟨gb300, 0, none⟩ = some (.int .i64 a0_0) ∧ w'.cell? ⟨gb300, 1, none⟩ = some (.slice A0_1 l0_1.length c0_1) ∧ w'.cell? ⟨gb301, 0, none⟩ = some (.int .i64 a1_0) ∧ w'.cell? ⟨gb301, 1, none⟩ = some (.slice A1_1 l1_1.length c1_1)) (ds := []) ba12_0 (by kernel_rfl) rfl rfl ⟨(blk_cell BK300.out 0).trans rfl, (blk_cell BK300.out 1).trans rfl, (blk_cell BK301.out 0).trans rfl, (blk_cell BK301.out 1).trans rfl⟩ (fun hHeld => ?_)
    generalize w212.drew = w213 at BK300 BK301 HB hHeld ⊢
    refine pure_ (i := 4) (N := some 30) (v := ?_) (a' := ?_) ba12_1 rfl rfl (by kernel_rfl) (fun _ _ _ h => h) (Or.inl ⟨by rfl, ?_⟩) ?_ ?_
    rotate_left; · intro w'; go_simp; with_reducible rfl
    rotate_left; · simp only [Act.put, List.setIfInBounds_toArray, List.set_cons_zero, List.set_cons_succ, i64_w, i32_w]; rfl
    refine take_ (i := 0) (N := some 26) (v := ?_) (a' := ?_) ba12_2 rfl rfl (by kernel_rfl) (fun _ _ _ h => h) (Or.inl ⟨by rfl, ?_⟩) hHeld ?_ ?_
    rotate_left; · rintro w' ⟨s0, s1, s2, s3⟩; go_simp; with_reducible rfl
    rotate_left; · simp only [Act.put, List.setIfInBounds_toArray, List.set_cons_zero, List.set_cons_succ, i64_w, i32_w]; rfl
    refine take_ (i := 2) (N := some 28) (v := ?_) (a' := ?_) ba12_3 rfl rfl (by kernel_rfl) (fun _ _ _ h => h) (Or.inl ⟨by rfl, ?_⟩) hHeld ?_ ?_
    rotate_left; · rintro w' ⟨s0, s1, s2, s3⟩; go_simp; with_reducible rfl
    rotate_left; · simp only [Act.put, List.setIfInBounds_toArray, List.set_cons_zero, List.set_cons_succ, i64_w, i32_w]; rfl
    refine one_ (i := 1) (N := some 27) ba12_4 rfl rfl (by kernel_rfl) (by decide) (fun K hK => ?_)
    refine gz_ Try.func12 #[.agg #[.int .i64 a0_0, .slice A0_1 l0_1.length c0_1]] ?_
    with_reducible refine (laws_toGraph.calls k a0_0 _ _ l0_1 t304 t305 _ ?side1 ?side2 A20.out).mono ?_
    (case side1 => exact cb_ HR0_1 HB)
    (case side2 => exact HC0_1.out)
    rintro e w214 ⟨v306, rfl, ho0, hb⟩
    refine ⟨_, rfl, ?_⟩
    have HO307 := Aside0.mk (Kd.R_lower ho0 (bz_ HB))
    replace BK300 := Aside0.mk (bb_ BK300 hb)
    replace BK301 := Aside0.mk (bb_ BK301 hb)
    replace HB := Aside0.mk (bt_ HB hb)
    (try clear hb)
    (try clear hb2)
    (try clear hk)
    (try clear hi)
    (try clear ho0)
    refine hK.out _ _ ⟨(blk_cell BK300.out 0).trans rfl, (blk_cell BK300.out 1).trans rfl, (blk_cell BK301.out 0).trans rfl, (blk_cell BK301.out 1).trans rfl⟩ (fun hHeld => ?_)
    clear hK K
    refine nz_ 27 ?_
    refine one_ (i := 3) (N := some 29) ba12_5 rfl rfl (by kernel_rfl) (by decide) (fun K hK => ?_)
    refine gz_ Try.func12 #[.agg #[.int .i64 a1_0, .slice A1_1 l1_1.length c1_1]] ?_
    with_reducible refine (laws_toGraph.calls k a1_0 _ _ l1_1 t308 t309 _ ?side1 ?side2 A21.out).mono ?_
    (case side1 => exact cb_ HR1_1 HB)
    (case side2 => exact HC1_1.out)
    rintro e w215 ⟨v310, rfl, ho0, hb⟩
    refine ⟨_, rfl, ?_⟩
    have HO311 := Aside0.mk (Kd.R_lower (Kd.R_new' ho0 (Kd.R_lt (hd_ HO307))) (bz_ HB))
    replace HO307 := Aside0.mk (Kd.R_elder' (hd_ HO307) (Kd.R_base ho0) hb)
    replace BK300 := Aside0.mk (bb_ BK300 hb)
    replace BK301 := Aside0.mk (bb_ BK301 hb)
    replace HB := Aside0.mk (bt_ HB hb)
    (try clear hb)
    (try clear hb2)
    (try clear hk)
    (try clear hi)
    (try clear ho0)
    obtain ⟨Ao216, co216, eo216⟩ := Kd.R_slice HO307.out
    (first | subst eo216 | (injection eo216 with f1_ f2_ f3_; have f4_ := f1_.symm; have f5_ := f3_.symm; clear f1_ f2_ f3_; subst f4_; subst f5_))
    obtain ⟨Ao217, co217, eo217⟩ := Kd.R_slice HO311.out
    (first | subst eo217 | (injection eo217 with f1_ f2_ f3_; have f4_ := f1_.symm; have f5_ := f3_.symm; clear f1_ f2_ f3_; subst f4_; subst f5_))
    refine hK.out _ _ ⟨(blk_cell BK300.out 0).trans rfl, (blk_cell BK300.out 1).trans rfl, (blk_cell BK301.out 0).trans rfl, (blk_cell BK301.out 1).trans rfl⟩ (fun hHeld => ?_)
    clear hK K
    refine nz_ 29 ?_
    refine one_ (i := 5) (N := some 31) ba12_6 rfl rfl (by kernel_rfl) (by decide) (fun K hK => ?_)
    refine gz_ Try.func21 #[.agg #[.int .i64 t304, .slice Ao216 t305.length co216], .agg #[.int .i64 t308, .slice Ao217 t309.length co217], .int .i64 a2] ?_
    with_reducible refine (spec_Changed.calls k t304 _ _ t305 t308 _ _ t309 a2 t312 _ ?side1 ?side2 ?side3 ?side4 A22.out).mono ?_
    (case side1 => exact rc_ HO307)
    (case side2 => exact (Kd.R_reads' HO307.out).2.1)
    (case side3 => exact rc_ HO311)
    (case side4 => exact (Kd.R_reads' HO311.out).2.1)
    rintro e w218 ⟨v313, rfl, ho0, hb⟩
    refine ⟨_, rfl, ?_⟩
    have HO314 := Aside0.mk (Kd.R_lower ho0 (bz_ HB))
    replace HO307 := rb_ HO307 hb
    replace HO311 := rb_ HO311 hb
    replace BK300 := Aside0.mk (bb_ BK300 hb)
    replace BK301 := Aside0.mk (bb_ BK301 hb)
    replace HB := Aside0.mk (bt_ HB hb)
    (try clear hb)
    (try clear hb2)
    (try clear hk)
    (try clear hi)
    (try clear ho0)
    refine hK.out _ _ ⟨(blk_cell BK300.out 0).trans rfl, (blk_cell BK300.out 1).trans rfl, (blk_cell BK301.out 0).trans rfl, (blk_cell BK301.out 1).trans rfl⟩ (fun hHeld => ?_)
    clear hK K
    refine nz_ 31 ?_
    refine pure_ (i := 6) (N := some 8) (v := ?_) (a' := ?_) ba12_7 rfl rfl (by kernel_rfl) (fun _ _ _ h => h) (Or.inl ⟨by rfl, ?_⟩) ?_ ?_
    rotate_left; · intro w'; go_simp; with_reducible rfl
    rotate_left; · simp only [Act.put, List.setIfInBounds_toArray, List.set_cons_zero, List.set_cons_succ, i64_w, i32_w]; rfl
    refine done_ (by kernel_rfl) ?_
    have hcz219_0 := cz_ BK300 0 (.int .i64 a0_0)
    have hcz219_1 := cz_ BK300 1 (.slice A0_1 l0_1.length c0_1)
    have hfz219_0 := blk_frozen BK300.out 0
    have hfz219_1 := blk_frozen BK300.out 1
    try go_wp2_with (first | ((with_reducible refine gate_callee (f := 12) rfl ?_); refine gl_ (some 33) Try.func12 #[.agg #[.int .i64 a0_0, .slice A0_1 l0_1.length c0_1]] ?_; (with_reducible refine (laws_toGraph.calls k a0_0 _ _ l0_1 t315 t316 _ ?side1 ?side2 A23.out).mono ?_); (case side1 => exact cb_ HR0_1 HB); (case side2 => exact HC0_1.out); rintro e w220 ⟨v317, rfl, ho0, hb⟩; refine ⟨_, rfl, ?_⟩; have HO318 := Aside0.mk (Kd.R_lower (Kd.R_new' (Kd.R_new' ho0 (Kd.R_lt (hd_ HO307))) (Kd.R_lt (hd_ HO311))) (bz_ HB)); replace HO314 := rb_ HO314 hb; replace HO307 := Aside0.mk (Kd.R_elder' (hd_ HO307) (Kd.R_base ho0) hb); replace HO311 := Aside0.mk (Kd.R_elder' (hd_ HO311) (Kd.R_base ho0) hb); replace BK300 := Aside0.mk (bb_ BK300 hb); replace BK301 := Aside0.mk (bb_ BK301 hb); replace HB := Aside0.mk (bt_ HB hb); (try clear hb); (try clear hb2); (try clear hk); (try clear hi); (try clear ho0)) | ((with_reducible refine gate_dst (N := 9) rfl ?_); refine box_event ?hg (N := 9) ?hd (cs := #[.int .i64 0, .slice none 0 0]) (t := 30) ?hr ?_; (case hd => rfl); (case hg => rfl); (case hr => first | (go_simp; done) | (go_simp; rfl)); intro gb319 hg w221 hbox hb; have BK319 := Aside0.mk hbox; have GW319 := ge_ HB hg; have GE319 := ge_ HB hg; have NB300_319 := nl_ BK300 hg; have NB319_300 := ng_ BK300 hg; have NB301_319 := nl_ BK301 hg; have NB319_301 := ng_ BK301 hg; replace HO307 := rb_ HO307 hb; replace HO311 := rb_ HO311 hb; replace HO314 := rb_ HO314 hb; replace HO318 := rb_ HO318 hb; replace HB := Aside0.mk (bt_ HB hb); replace BK300 := Aside0.mk (bb_ BK300 hb); replace BK301 := Aside0.mk (bb_ BK301 hb); clear hb hbox hg; have hnb222 := NB319_300.out; have hnc222 := NB300_319.out; have hnb223 := NB319_301.out; have hnc223 := NB301_319.out; have hcz224_0 := cz_ BK319 0 (.int .i64 0); have hcz224_1 := cz_ BK319 1 (.slice none 0 0); have hfz224_0 := blk_frozen BK319.out 0; have hfz224_1 := blk_frozen BK319.out 1; obtain ⟨Ao225, co225, eo225⟩ := Kd.R_slice HO318.out; subst eo225; have hcz226_0 := cz_ BK301 0 (.int .i64 a1_0); have hcz226_1 := cz_ BK301 1 (.slice A1_1 l1_1.length c1_1); have hfz226_0 := blk_frozen BK301.out 0; have hfz226_1 := blk_frozen BK301.out 1) | ((with_reducible refine gate_callee (f := 12) rfl ?_); refine gl_ (some 35) Try.func12 #[.agg #[.int .i64 a1_0, .slice A1_1 l1_1.length c1_1]] ?_; (with_reducible refine (laws_toGraph.calls k a1_0 _ _ l1_1 t320 t321 _ ?side1 ?side2 A24.out).mono ?_); (case side1 => exact Kd.C_below HR1_1.out (by repeat (first | (with_reducible first | exact HB.out | apply below_alloc | apply pw_below_drewN | apply below_drew1 | refine below_set ?_ GE300.out | refine below_set ?_ GE301.out | refine below_set ?_ GE319.out) | exact HB.out))); (case side2 => exact HC1_1.out); rintro e w227 ⟨v322, rfl, ho0, hb⟩; refine ⟨_, rfl, ?_⟩; have HO323 := Aside0.mk (Kd.R_lower (Kd.R_new' (Kd.R_new' (Kd.R_new' ho0 (Kd.R_lt (hs_ HO307 BK319))) (Kd.R_lt (hs_ HO311 BK319))) (Kd.R_lt (hs_ HO318 BK319))) (bz_ HB)); replace HO314 := rs_ HO314 BK319 hb; replace HO307 := Aside0.mk (Kd.R_elder' (hs_ HO307 BK319) (Kd.R_base ho0) hb); replace HO311 := Aside0.mk (Kd.R_elder' (hs_ HO311 BK319) (Kd.R_base ho0) hb); replace HO318 := Aside0.mk (Kd.R_elder' (hs_ HO318 BK319) (Kd.R_base ho0) hb); replace BK300 := bf_ BK300 NB300_319 hb; replace BK301 := bf_ BK301 NB301_319 hb; replace BK319 := Aside0.mk (blk_below (g := gb319) (o := .cells #[.int .i64 t315, .slice Ao225 t316.length co225] 30 (0, 0)) (by (with_reducible repeat (first | refine blk_drewN ?_ _ | refine blk_drew ?_ | refine blk_alloc ?_ _)); refine blk_put (cs := #[.int .i64 t315, .slice none 0 0]) ?_ 1 _ rfl; (with_reducible repeat (first | refine blk_drewN ?_ _ | refine blk_drew ?_ | refine blk_alloc ?_ _)); refine blk_put (cs := #[.int .i64 0, .slice none 0 0]) ?_ 0 _ rfl; (with_reducible repeat (first | refine blk_drewN ?_ _ | refine blk_drew ?_ | refine blk_alloc ?_ _)); exact BK319.out) hb); replace HB := Aside0.mk (bt_ HB hb); (try clear hb); (try clear hb2); (try clear hk); (try clear hi); (try clear ho0)) | ((with_reducible refine gate_dst (N := 10) rfl ?_); refine box_event ?hg (N := 10) ?hd (cs := #[.int .i64 0, .slice none 0 0]) (t := 30) ?hr ?_; (case hd => rfl); (case hg => rfl); (case hr => first | (go_simp; done) | (go_simp; rfl)); intro gb324 hg w228 hbox hb; have BK324 := Aside0.mk hbox; have GW324 := ge_ HB hg; have GE324 := ge_ HB hg; have NB300_324 := nl_ BK300 hg; have NB324_300 := ng_ BK300 hg; have NB301_324 := nl_ BK301 hg; have NB324_301 := ng_ BK301 hg; have NB319_324 := nl_ BK319 hg; have NB324_319 := ng_ BK319 hg; replace HO307 := rb_ HO307 hb; replace HO311 := rb_ HO311 hb; replace HO314 := rb_ HO314 hb; replace HO318 := rb_ HO318 hb; replace HO323 := rb_ HO323 hb; replace HB := Aside0.mk (bt_ HB hb); replace BK300 := Aside0.mk (bb_ BK300 hb); replace BK301 := Aside0.mk (bb_ BK301 hb); replace BK319 := Aside0.mk (bb_ BK319 hb); clear hb hbox hg; have hnb229 := NB324_300.out; have hnc229 := NB300_324.out; have hnb230 := NB324_301.out; have hnc230 := NB301_324.out; have hnb231 := NB324_319.out; have hnc231 := NB319_324.out; have hcz232_0 := cz_ BK324 0 (.int .i64 0); have hcz232_1 := cz_ BK324 1 (.slice none 0 0); have hfz232_0 := blk_frozen BK324.out 0; have hfz232_1 := blk_frozen BK324.out 1; obtain ⟨Ao233, co233, eo233⟩ := Kd.R_slice HO323.out; subst eo233; have hcz234_0 := cz_ BK319 0 (.int .i64 t315); have hcz234_1 := cz_ BK319 1 (.slice Ao225 t316.length co225); have hfz234_0 := blk_frozen BK319.out 0; have hfz234_1 := blk_frozen BK319.out 1) | ((with_reducible refine gate_callee (f := 22) rfl ?_); refine gl_ (some 39) Try.func22 #[.agg #[.int .i64 t315, .slice Ao225 t316.length co225], .agg #[.int .i64 t320, .slice Ao233 t321.length co233], .int .i64 a2] ?_; (with_reducible refine (impl_Changed.calls k t315 _ _ t316 t320 _ _ t321 a2 t325 _ ?side1 ?side2 ?side3 ?side4 A25.out).mono ?_); (case side1 => refine (Kd.R_reads' (e := 76) (base := w.heap.size) (ok := fun k_ => (((True ∧ some k_ ≠ (.slice Ao216 t305.length co216 : Value).ownBlock) ∧ some k_ ≠ (.slice Ao217 t309.length co217 : Value).ownBlock) ∧ some k_ ≠ (.slice Ao233 t321.length co233 : Value).ownBlock)) (n := t316.length) (c := co225) ?_).2.2; exact (hs_ HO318 BK324)); (case side2 => exact (Kd.R_reads' HO318.out).2.1); (case side3 => refine (Kd.R_reads' (e := 76) (base := w.heap.size) (ok := fun k_ => (((True ∧ some k_ ≠ (.slice Ao216 t305.length co216 : Value).ownBlock) ∧ some k_ ≠ (.slice Ao217 t309.length co217 : Value).ownBlock) ∧ some k_ ≠ (.slice Ao225 t316.length co225 : Value).ownBlock)) (n := t321.length) (c := co233) ?_).2.2; exact (hs_ HO323 BK324)); (case side4 => exact (Kd.R_reads' HO323.out).2.1); rintro e w235 ⟨v326, rfl, ho0, hb⟩; refine ⟨_, rfl, ?_⟩; have HO327 := Aside0.mk (Kd.R_lower (Kd.R_new' ho0 (Kd.R_lt (hs_ HO314 BK324))) (bz_ HB)); replace HO307 := rs_ HO307 BK324 hb; replace HO311 := rs_ HO311 BK324 hb; replace HO318 := rs_ HO318 BK324 hb; replace HO323 := rs_ HO323 BK324 hb; replace HO314 := Aside0.mk (Kd.R_elder' (hs_ HO314 BK324) (Kd.R_base ho0) hb); replace BK300 := bf_ BK300 NB300_324 hb; replace BK301 := bf_ BK301 NB301_324 hb; replace BK319 := bf_ BK319 NB319_324 hb; replace BK324 := Aside0.mk (blk_below (g := gb324) (o := .cells #[.int .i64 t320, .slice Ao233 t321.length co233] 30 (0, 0)) (by (with_reducible repeat (first | refine blk_drewN ?_ _ | refine blk_drew ?_ | refine blk_alloc ?_ _)); refine blk_put (cs := #[.int .i64 t320, .slice none 0 0]) ?_ 1 _ rfl; (with_reducible repeat (first | refine blk_drewN ?_ _ | refine blk_drew ?_ | refine blk_alloc ?_ _)); refine blk_put (cs := #[.int .i64 0, .slice none 0 0]) ?_ 0 _ rfl; (with_reducible repeat (first | refine blk_drewN ?_ _ | refine blk_drew ?_ | refine blk_alloc ?_ _)); exact BK324.out) hb); replace HB := Aside0.mk (bt_ HB hb); (try clear hb); (try clear hb2); (try clear hk); (try clear hi); (try clear ho0); obtain ⟨Ao236, co236, eo236⟩ := Kd.R_slice HO327.out; subst eo236; obtain ⟨Ao237, co237, eo237⟩ := Kd.R_slice HO314.out; subst eo237) | ((with_reducible refine gate_callee (f := 14) rfl ?_); refine gl_ (some 42) Try.func14 #[.slice Ao236 t325.length co236, .slice Ao237 t312.length co237] ?_; (with_reducible refine (laws_eqIntS.calls k _ _ t325 _ _ t312 false _ ?side1 ?side2 ?side3 ?side4 A26.out).mono ?_); (case side1 => exact rc_ HO327); (case side2 => exact (Kd.R_reads' HO327.out).2.1); (case side3 => exact rc_ HO314); (case side4 => exact (Kd.R_reads' HO314.out).2.1); rintro e w' ⟨rfl, ⟨nd, rfl⟩⟩; refine ⟨_, rfl, ?_⟩))
    go_ret
    exact ⟨by first | rfl | (simp [errW_none, errW_some] <;> rfl) | (simp [*, errW_none, errW_some] <;> rfl), by repeat (first | (with_reducible first | exact HB.out | apply below_alloc | apply pw_below_drewN | apply below_drew1 | refine below_set ?_ GE300.out | refine below_set ?_ GE301.out | refine below_set ?_ GE319.out | refine below_set ?_ GE324.out) | exact HB.out)⟩

end Go.Proofs.Ythmahcohcphljaa.QFnExactChanged
