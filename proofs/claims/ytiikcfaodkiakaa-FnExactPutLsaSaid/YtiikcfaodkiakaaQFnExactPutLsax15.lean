/- Contracts of functions that the law reaches: what each call returns and what it leaves in memory. Made by this session over the print of the kit. -/
import Derived.Test.YtiikcfaodkiakaaQFnExactPutLsax0
import Derived.Test.YtiikcfaodkiakaaQFnExactPutLsax1
import Derived.Test.YtiikcfaodkiakaaQFnExactPutLsax3
import Derived.Test.YtiikcfaodkiakaaQFnExactPutLsax8
import Derived.Test.YtiikcfaodkiakaaQFnExactPutLsax14
namespace Go.Proofs.Ytiikcfaodkiakaa.QFnExactPutLsa
open Go.RowKit Go.Proofs.YtiikcfaodkiakaaU.PrintWords Go.Proofs.YtiikcfaodkiakaaU.PrintLast Go.Proofs.YtiikcfaodkiakaaU.PrintMore
attribute [local go_sem] max2_int min2_int max_two min_two max_three min_three max_four min_four   -- for this text's walks alone
set_option linter.unusedVariables false
set_option linter.unusedSimpArgs false
def ba15_0 : Array Bool := #[false, false, false, false, false]
def ba15_1 : Array Bool := #[true, false, false, false, false]
def ba15_2 : Array Bool := #[true, true, false, false, false]
def ba15_3 : Array Bool := #[true, true, true, false, false]
def ba15_4 : Array Bool := #[true, true, true, true, false]
def ba15_5 : Array Bool := #[true, true, true, true, true]

/-! ### laws_FnExactPutLsa: function 10 -/
def laws_FnExactPutLsa.j0 : Nat → List Int → List Int → Bool → Int → Int → Int → List (S85) → List (S89) → Option (Bool)
 | 0, _, _, _, _, _, _, _, _ => none
 | k + 1, x4, x6, x42, x374000, x374001, x374002, x374003, x374004 => if x42 = true then (some false) else ((laws_markByteS.f k x6 1).bind fun bt415 => ((laws_heldByteS.f k bt415.2 1).bind fun t417 => (if t417 < 0 then (some false) else (if t417 = bt415.1 then ((laws_toLsa.f k x374000 x374001 x374002 x374003 x374004).bind fun bt418 => ((impl_PutLsa.f k bt418.1 bt418.2.1 bt418.2.2.1 bt418.2.2.2.1 bt418.2.2.2.2).bind fun t427 => ((laws_eqByteS.f k t427 x4).bind fun t430 => (if t430 = true then ((laws_heldByteS.f k bt415.2 1).bind fun t431 => (if t431 < 0 then (some false) else (if t431 = bt415.1 then (some true) else (some false)))) else (some false))))) else (some false)))))
def laws_FnExactPutLsa.f (k : Nat) (a0_0 : Int) (a0_1 : Int) (a0_2 : Int) (l0_3 : List (S85)) (l0_4 : List (S89)) : Option (Bool) := (laws_szLsa.f a0_0 a0_1 a0_2 l0_3 l0_4 1048576).bind fun t374 => (if t374 < 0 then (some true) else ((laws_toLsa.f k a0_0 a0_1 a0_2 l0_3 l0_4).bind fun bt375 => ((spec_PutLsa.f k bt375.1 bt375.2.1 bt375.2.2.1 bt375.2.2.2.1 bt375.2.2.2.2).bind fun t384 => ((laws_toLsa.f k a0_0 a0_1 a0_2 l0_3 l0_4).bind fun bt387 => ((impl_PutLsa.f k bt387.1 bt387.2.1 bt387.2.2.1 bt387.2.2.2.1 bt387.2.2.2.2).bind fun t397 => ((laws_eqByteS.f k t397 t384).bind fun t400 => (if t400 = true then ((laws_toLsa.f k a0_0 a0_1 a0_2 l0_3 l0_4).bind fun bt401 => ((laws_eqLsa.f k bt387.1 bt387.2.1 bt387.2.2.1 bt387.2.2.2.1 bt387.2.2.2.2 bt401.1 bt401.2.1 bt401.2.2.1 bt401.2.2.2.1 bt401.2.2.2.2).bind fun t410 => (if t410 = true then ((laws_markLsa.f k bt387.1 bt387.2.1 bt387.2.2.1 bt387.2.2.2.1 bt387.2.2.2.2 1).bind fun bt411 => (if bt411.1 < 0 then (laws_FnExactPutLsa.j0 k t384 t397 true a0_0 a0_1 a0_2 l0_3 l0_4) else ((laws_eqByteS.f k t397 t384).bind fun t414 => (laws_FnExactPutLsa.j0 k t384 t397 (!t414) a0_0 a0_1 a0_2 l0_3 l0_4)))) else (some false)))) else (some false))))))))
theorem laws_FnExactPutLsa.mono_l : ∀ k, (∀ y0 y1 y2 y3 y4 y5 y6 y7, LeO (laws_FnExactPutLsa.j0 k y0 y1 y2 y3 y4 y5 y6 y7) (laws_FnExactPutLsa.j0 (k + 1) y0 y1 y2 y3 y4 y5 y6 y7))
 | 0 => fun _ _ _ _ _ _ _ _ r h => by simp [laws_FnExactPutLsa.j0] at h
 | k + 1 => by
  have ih0 := laws_FnExactPutLsa.mono_l k
  ·intro y0 y1 y2 y3 y4 y5 y6 y7
   unfold laws_FnExactPutLsa.j0
   repeat' first
   | (with_reducible exact ih0 _ _ _ _ _ _ _ _)
   | (with_reducible exact impl_PutLsa.mono _ _ _ _ _ _)
   | (with_reducible exact laws_eqByteS.mono _ _ _)
   | (with_reducible exact laws_eqLsa.mono _ _ _ _ _ _ _ _ _ _ _)
   | (with_reducible exact laws_heldByteS.mono _ _ _)
   | (with_reducible exact laws_markByteS.mono _ _ _)
   | (with_reducible exact laws_markLsa.mono _ _ _ _ _ _ _)
   | (with_reducible exact laws_toLsa.mono _ _ _ _ _ _)
   | (with_reducible exact spec_PutLsa.mono _ _ _ _ _ _)
   | (with_reducible exact LeO.refl _)
   | (with_reducible exact LeO.none _)
   | (with_reducible refine LeO.ite ?_ ?_)
   | (with_reducible refine LeO.bind ?_ (fun _ => ?_))
   | exact ih0 _ _ _ _ _ _ _ _
   | exact impl_PutLsa.mono _ _ _ _ _ _
   | exact laws_eqByteS.mono _ _ _
   | exact laws_eqLsa.mono _ _ _ _ _ _ _ _ _ _ _
   | exact laws_heldByteS.mono _ _ _
   | exact laws_markByteS.mono _ _ _
   | exact laws_markLsa.mono _ _ _ _ _ _ _
   | exact laws_toLsa.mono _ _ _ _ _ _
   | exact spec_PutLsa.mono _ _ _ _ _ _
   | exact LeO.none _
   | refine LeO.ite ?_ ?_
   | refine LeO.bind ?_ (fun _ => ?_)
theorem laws_FnExactPutLsa.mono : ∀ a0 a1 a2 a3 a4 k, LeO (laws_FnExactPutLsa.f k a0 a1 a2 a3 a4) (laws_FnExactPutLsa.f (k + 1) a0 a1 a2 a3 a4) := by
 intro a0 a1 a2 a3 a4 k
 have ih0 := laws_FnExactPutLsa.mono_l k
 unfold laws_FnExactPutLsa.f
 repeat' first
   | (with_reducible exact ih0 _ _ _ _ _ _ _ _)
   | (with_reducible exact impl_PutLsa.mono _ _ _ _ _ _)
   | (with_reducible exact laws_eqByteS.mono _ _ _)
   | (with_reducible exact laws_eqLsa.mono _ _ _ _ _ _ _ _ _ _ _)
   | (with_reducible exact laws_heldByteS.mono _ _ _)
   | (with_reducible exact laws_markByteS.mono _ _ _)
   | (with_reducible exact laws_markLsa.mono _ _ _ _ _ _ _)
   | (with_reducible exact laws_toLsa.mono _ _ _ _ _ _)
   | (with_reducible exact spec_PutLsa.mono _ _ _ _ _ _)
   | (with_reducible exact LeO.refl _)
   | (with_reducible exact LeO.none _)
   | (with_reducible refine LeO.ite ?_ ?_)
   | (with_reducible refine LeO.bind ?_ (fun _ => ?_))
   | exact ih0 _ _ _ _ _ _ _ _
   | exact impl_PutLsa.mono _ _ _ _ _ _
   | exact laws_eqByteS.mono _ _ _
   | exact laws_eqLsa.mono _ _ _ _ _ _ _ _ _ _ _
   | exact laws_heldByteS.mono _ _ _
   | exact laws_markByteS.mono _ _ _
   | exact laws_markLsa.mono _ _ _ _ _ _ _
   | exact laws_toLsa.mono _ _ _ _ _ _
   | exact spec_PutLsa.mono _ _ _ _ _ _
   | exact LeO.none _
   | refine LeO.ite ?_ ?_
   | refine LeO.bind ?_ (fun _ => ?_)
set_option maxHeartbeats 8000000 in
set_option maxRecDepth 100000 in
theorem laws_FnExactPutLsa.calls (k : Nat) (a0_0 : Int) (a0_1 : Int) (a0_2 : Int) (A0_3 : Option Addr) (c0_3 : Nat) (l0_3 : List (S85)) (A0_4 : Option Addr) (c0_4 : Nat) (l0_4 : List (S89)) (r : Bool) (w : World) (hr0_3 : Kd.C k85 w A0_3 l0_3.length l0_3) (hc0_3 : l0_3.length ≤ c0_3) (hr0_4 : Kd.C k89 w A0_4 l0_4.length l0_4) (hc0_4 : l0_4.length ≤ c0_4) (h : laws_FnExactPutLsa.f k a0_0 a0_1 a0_2 l0_3 l0_4 = some r) :
  Calls Try.prog 10 #[.agg #[.int .i64 a0_0, .int .i64 a0_1, .int .i64 a0_2, .slice A0_3 l0_3.length c0_3, .slice A0_4 l0_4.length c0_4]] w fun e w' => e = .returned (.bool r) ∧ Below w.heap.size w w' := by
 have hu25 := Try.underlying25
 have hu31 := Try.underlying31
 have HR0_3 := Aside0.mk hr0_3
 have HC0_3 := Aside0.mk hc0_3
 clear hr0_3 hc0_3
 have HR0_4 := Aside0.mk hr0_4
 have HC0_4 := Aside0.mk hc0_4
 clear hr0_4 hc0_4
 have HB := Aside0.mk (Below.refl w.heap.size w)
 have H : ((laws_szLsa.f a0_0 a0_1 a0_2 l0_3 l0_4 1048576).bind fun t374 => (if t374 < 0 then (some true) else ((laws_toLsa.f k a0_0 a0_1 a0_2 l0_3 l0_4).bind fun bt375 => ((spec_PutLsa.f k bt375.1 bt375.2.1 bt375.2.2.1 bt375.2.2.2.1 bt375.2.2.2.2).bind fun t384 => ((laws_toLsa.f k a0_0 a0_1 a0_2 l0_3 l0_4).bind fun bt387 => ((impl_PutLsa.f k bt387.1 bt387.2.1 bt387.2.2.1 bt387.2.2.2.1 bt387.2.2.2.2).bind fun t397 => ((laws_eqByteS.f k t397 t384).bind fun t400 => (if t400 = true then ((laws_toLsa.f k a0_0 a0_1 a0_2 l0_3 l0_4).bind fun bt401 => ((laws_eqLsa.f k bt387.1 bt387.2.1 bt387.2.2.1 bt387.2.2.2.1 bt387.2.2.2.2 bt401.1 bt401.2.1 bt401.2.2.1 bt401.2.2.2.1 bt401.2.2.2.2).bind fun t410 => (if t410 = true then ((laws_markLsa.f k bt387.1 bt387.2.1 bt387.2.2.1 bt387.2.2.2.1 bt387.2.2.2.2 1).bind fun bt411 => (if bt411.1 < 0 then (laws_FnExactPutLsa.j0 k t384 t397 true a0_0 a0_1 a0_2 l0_3 l0_4) else ((laws_eqByteS.f k t397 t384).bind fun t414 => (laws_FnExactPutLsa.j0 k t384 t397 (!t414) a0_0 a0_1 a0_2 l0_3 l0_4)))) else (some false)))) else (some false))))))))) = some r := h
 clear h
 replace H := Option.bind_eq_some_iff.mp H
 obtain ⟨t374, A20, H⟩ := H
 have A2 := Aside0.mk A20
 clear A20
 by_cases c3 : t374 < 0
 ·rw [if_pos c3] at H
  have c3b0 : decide (t374 < 0) = true := decide_eq_true c3
  clear c3
  obtain rfl := Option.some.inj H
  go_enter Try.func10, Try.ntmps10
  go_wp2_with (first | ((with_reducible refine gate_dst (N := 1) rfl ?_); refine box_event ?hg (N := 1) ?hd (cs := #[.int .i64 a0_0, .int .i64 a0_1, .int .i64 a0_2, .slice A0_3 l0_3.length c0_3, .slice A0_4 l0_4.length c0_4]) (t := 25) ?hr ?_; (case hd => rfl); (case hg => rfl); (case hr => first | (go_simp; done) | (go_simp; rfl)); intro gb373 hg w4 hbox hb; have BK373 := Aside0.mk hbox; have GW373 := ge_ HB hg; have GE373 := ge_ HB hg; replace HB := Aside0.mk (bt_ HB hb); clear hb hbox hg; have hcz5_0 := cz_ BK373 0 (.int .i64 a0_0); have hcz5_1 := cz_ BK373 1 (.int .i64 a0_1); have hcz5_2 := cz_ BK373 2 (.int .i64 a0_2); have hcz5_3 := cz_ BK373 3 (.slice A0_3 l0_3.length c0_3); have hcz5_4 := cz_ BK373 4 (.slice A0_4 l0_4.length c0_4); have hfz5_0 := blk_frozen BK373.out 0; have hfz5_1 := blk_frozen BK373.out 1; have hfz5_2 := blk_frozen BK373.out 2; have hfz5_3 := blk_frozen BK373.out 3; have hfz5_4 := blk_frozen BK373.out 4) | ((with_reducible refine gate_callee (f := 13) rfl ?_); refine gl_ (some 13) Try.func13 #[.agg #[.int .i64 a0_0, .int .i64 a0_1, .int .i64 a0_2, .slice A0_3 l0_3.length c0_3, .slice A0_4 l0_4.length c0_4], .int .i64 1048576] ?_; (with_reducible refine (laws_szLsa.calls a0_0 a0_1 a0_2 _ _ l0_3 _ _ l0_4 1048576 t374 _ ?side1 ?side2 ?side3 ?side4 A2.out).mono ?_); (case side1 => exact cb_ HR0_3 HB); (case side2 => exact HC0_3.out); (case side3 => exact cb_ HR0_4 HB); (case side4 => exact HC0_4.out); rintro e w6 ⟨rfl, hb⟩; refine ⟨_, rfl, ?_⟩; replace BK373 := Aside0.mk (bb_ BK373 hb); replace HB := Aside0.mk (bt_ HB hb); (try clear hb); (try clear hb2); (try clear hk); (try clear hi)))
  go_ret
  exact ⟨by first | rfl | (simp [errW_none, errW_some] <;> rfl) | (simp [*, errW_none, errW_some] <;> rfl), by repeat (first | (with_reducible first | exact HB.out | apply below_alloc | apply pw_below_drewN | apply below_drew1 | refine below_set ?_ GE373.out) | exact HB.out)⟩
 ·rw [if_neg c3] at H
  have c3b0 : decide (t374 < 0) = false := decide_eq_false c3
  clear c3
  replace H := Option.bind_eq_some_iff.mp H
  obtain ⟨⟨t375, t376, t377, t378, t381⟩, A70, H⟩ := H
  have A7 := Aside0.mk A70
  clear A70
  replace H := Option.bind_eq_some_iff.mp H
  obtain ⟨t384, A80, H⟩ := H
  have A8 := Aside0.mk A80
  clear A80
  replace H := Option.bind_eq_some_iff.mp H
  obtain ⟨⟨t387, t388, t389, t390, t393⟩, A90, H⟩ := H
  have A9 := Aside0.mk A90
  clear A90
  replace H := Option.bind_eq_some_iff.mp H
  obtain ⟨t397, A100, H⟩ := H
  have A10 := Aside0.mk A100
  clear A100
  replace H := Option.bind_eq_some_iff.mp H
  obtain ⟨t400, A110, H⟩ := H
  have A11 := Aside0.mk A110
  clear A110
  by_cases c12 : t400 = true
  ·subst c12
   rw [if_pos rfl] at H
   replace H := Option.bind_eq_some_iff.mp H
   obtain ⟨⟨t401, t402, t403, t404, t407⟩, A130, H⟩ := H
   have A13 := Aside0.mk A130
   clear A130
   replace H := Option.bind_eq_some_iff.mp H
   obtain ⟨t410, A140, H⟩ := H
   have A14 := Aside0.mk A140
   clear A140
   by_cases c15 : t410 = true
   ·subst c15
    rw [if_pos rfl] at H
    replace H := Option.bind_eq_some_iff.mp H
    obtain ⟨⟨t411, t412, t413⟩, A160, H⟩ := H
    have A16 := Aside0.mk A160
    clear A160
    have HC17 := Aside0.mk H
    clear H
    go_enter Try.func10, Try.ntmps10
    try go_wp2_with (first | ((with_reducible refine gate_dst (N := 1) rfl ?_); refine box_event ?hg (N := 1) ?hd (cs := #[.int .i64 a0_0, .int .i64 a0_1, .int .i64 a0_2, .slice A0_3 l0_3.length c0_3, .slice A0_4 l0_4.length c0_4]) (t := 25) ?hr ?_; (case hd => rfl); (case hg => rfl); (case hr => first | (go_simp; done) | (go_simp; rfl)); intro gb373 hg w18 hbox hb; have BK373 := Aside0.mk hbox; have GW373 := ge_ HB hg; have GE373 := ge_ HB hg; replace HB := Aside0.mk (bt_ HB hb); clear hb hbox hg; have hcz19_0 := cz_ BK373 0 (.int .i64 a0_0); have hcz19_1 := cz_ BK373 1 (.int .i64 a0_1); have hcz19_2 := cz_ BK373 2 (.int .i64 a0_2); have hcz19_3 := cz_ BK373 3 (.slice A0_3 l0_3.length c0_3); have hcz19_4 := cz_ BK373 4 (.slice A0_4 l0_4.length c0_4); have hfz19_0 := blk_frozen BK373.out 0; have hfz19_1 := blk_frozen BK373.out 1; have hfz19_2 := blk_frozen BK373.out 2; have hfz19_3 := blk_frozen BK373.out 3; have hfz19_4 := blk_frozen BK373.out 4) | ((with_reducible refine gate_callee (f := 13) rfl ?_); refine gl_ (some 13) Try.func13 #[.agg #[.int .i64 a0_0, .int .i64 a0_1, .int .i64 a0_2, .slice A0_3 l0_3.length c0_3, .slice A0_4 l0_4.length c0_4], .int .i64 1048576] ?_; (with_reducible refine (laws_szLsa.calls a0_0 a0_1 a0_2 _ _ l0_3 _ _ l0_4 1048576 t374 _ ?side1 ?side2 ?side3 ?side4 A2.out).mono ?_); (case side1 => exact cb_ HR0_3 HB); (case side2 => exact HC0_3.out); (case side3 => exact cb_ HR0_4 HB); (case side4 => exact HC0_4.out); rintro e w20 ⟨rfl, hb⟩; refine ⟨_, rfl, ?_⟩; replace BK373 := Aside0.mk (bb_ BK373 hb); replace HB := Aside0.mk (bt_ HB hb); (try clear hb); (try clear hb2); (try clear hk); (try clear hi); have hcz21_0 := cz_ BK373 0 (.int .i64 a0_0); have hcz21_1 := cz_ BK373 1 (.int .i64 a0_1); have hcz21_2 := cz_ BK373 2 (.int .i64 a0_2); have hcz21_3 := cz_ BK373 3 (.slice A0_3 l0_3.length c0_3); have hcz21_4 := cz_ BK373 4 (.slice A0_4 l0_4.length c0_4); have hfz21_0 := blk_frozen BK373.out 0; have hfz21_1 := blk_frozen BK373.out 1; have hfz21_2 := blk_frozen BK373.out 2; have hfz21_3 := blk_frozen BK373.out 3; have hfz21_4 := blk_frozen BK373.out 4) | ((with_reducible refine gate_callee (f := 15) rfl ?_); refine gl_ (some 17) Try.func15 #[.agg #[.int .i64 a0_0, .int .i64 a0_1, .int .i64 a0_2, .slice A0_3 l0_3.length c0_3, .slice A0_4 l0_4.length c0_4]] ?_; (with_reducible refine (laws_toLsa.calls k a0_0 a0_1 a0_2 _ _ l0_3 _ _ l0_4 t375 t376 t377 t378 t381 _ ?side1 ?side2 ?side3 ?side4 A7.out).mono ?_); (case side1 => exact cb_ HR0_3 HB); (case side2 => exact HC0_3.out); (case side3 => exact cb_ HR0_4 HB); (case side4 => exact HC0_4.out); rintro e w22 ⟨v379, v382, rfl, ho0, ho1, hb⟩; refine ⟨_, rfl, ?_⟩; have HO380 := Aside0.mk (Kd.R_lower ho0 (bz_ HB)); have HO383 := Aside0.mk (Kd.R_lower ho1 (bz_ HB)); replace BK373 := Aside0.mk (bb_ BK373 hb); replace HB := Aside0.mk (bt_ HB hb); (try clear hb); (try clear hb2); (try clear hk); (try clear hi); (try clear ho0); (try clear ho1); obtain ⟨Ao23, co23, eo23⟩ := Kd.R_slice HO380.out; subst eo23; obtain ⟨Ao24, co24, eo24⟩ := Kd.R_slice HO383.out; subst eo24) | ((with_reducible refine gate_callee (f := 46) rfl ?_); refine gl_ (some 18) Try.func46 #[.agg #[.int .i64 t375, .int .i64 t376, .int .i64 t377, .slice Ao23 t378.length co23, .slice Ao24 t381.length co24]] ?_; (with_reducible refine (spec_PutLsa.calls k t375 t376 t377 _ _ t378 _ _ t381 t384 _ ?side1 ?side2 ?side3 ?side4 A8.out).mono ?_); (case side1 => exact rc_ HO380); (case side2 => exact (Kd.R_reads' HO380.out).2.1); (case side3 => exact rc_ HO383); (case side4 => exact (Kd.R_reads' HO383.out).2.1); rintro e w25 ⟨v385, rfl, ho0, hb⟩; refine ⟨_, rfl, ?_⟩; have HO386 := Aside0.mk (Kd.R_lower ho0 (bz_ HB)); replace HO380 := rb_ HO380 hb; replace HO383 := rb_ HO383 hb; replace BK373 := Aside0.mk (bb_ BK373 hb); replace HB := Aside0.mk (bt_ HB hb); (try clear hb); (try clear hb2); (try clear hk); (try clear hi); (try clear ho0); have hcz26_0 := cz_ BK373 0 (.int .i64 a0_0); have hcz26_1 := cz_ BK373 1 (.int .i64 a0_1); have hcz26_2 := cz_ BK373 2 (.int .i64 a0_2); have hcz26_3 := cz_ BK373 3 (.slice A0_3 l0_3.length c0_3); have hcz26_4 := cz_ BK373 4 (.slice A0_4 l0_4.length c0_4); have hfz26_0 := blk_frozen BK373.out 0; have hfz26_1 := blk_frozen BK373.out 1; have hfz26_2 := blk_frozen BK373.out 2; have hfz26_3 := blk_frozen BK373.out 3; have hfz26_4 := blk_frozen BK373.out 4) | ((with_reducible refine gate_callee (f := 15) rfl ?_); refine gl_ (some 20) Try.func15 #[.agg #[.int .i64 a0_0, .int .i64 a0_1, .int .i64 a0_2, .slice A0_3 l0_3.length c0_3, .slice A0_4 l0_4.length c0_4]] ?_; (with_reducible refine (laws_toLsa.calls k a0_0 a0_1 a0_2 _ _ l0_3 _ _ l0_4 t387 t388 t389 t390 t393 _ ?side1 ?side2 ?side3 ?side4 A9.out).mono ?_); (case side1 => exact cb_ HR0_3 HB); (case side2 => exact HC0_3.out); (case side3 => exact cb_ HR0_4 HB); (case side4 => exact HC0_4.out); rintro e w27 ⟨v391, v394, rfl, ho0, ho1, hb⟩; refine ⟨_, rfl, ?_⟩; have HO392 := Aside0.mk (Kd.R_lower (Kd.R_new' ho0 (Kd.R_lt (hd_ HO380))) (bz_ HB)); have HO395 := Aside0.mk (Kd.R_lower (Kd.R_new' ho1 (Kd.R_lt (hd_ HO383))) (bz_ HB)); replace HO386 := rb_ HO386 hb; replace HO380 := Aside0.mk (Kd.R_elder' (hd_ HO380) (Kd.R_base ho0) hb); replace HO383 := Aside0.mk (Kd.R_elder' (hd_ HO383) (Kd.R_base ho1) hb); replace BK373 := Aside0.mk (bb_ BK373 hb); replace HB := Aside0.mk (bt_ HB hb); (try clear hb); (try clear hb2); (try clear hk); (try clear hi); (try clear ho0); (try clear ho1)) | ((with_reducible refine gate_dst (N := 5) rfl ?_); refine box_event ?hg (N := 5) ?hd (cs := #[.int .i64 0, .int .i64 0, .int .i64 0, .slice none 0 0, .slice none 0 0]) (t := 31) ?hr ?_; (case hd => rfl); (case hg => rfl); (case hr => first | (go_simp; done) | (go_simp; rfl)); intro gb396 hg w28 hbox hb; have BK396 := Aside0.mk hbox; have GW396 := ge_ HB hg; have GE396 := ge_ HB hg; have NB373_396 := nl_ BK373 hg; have NB396_373 := ng_ BK373 hg; replace HO380 := rb_ HO380 hb; replace HO383 := rb_ HO383 hb; replace HO386 := rb_ HO386 hb; replace HO392 := rb_ HO392 hb; replace HO395 := rb_ HO395 hb; replace HB := Aside0.mk (bt_ HB hb); replace BK373 := Aside0.mk (bb_ BK373 hb); clear hb hbox hg; have hnb29 := NB396_373.out; have hnc29 := NB373_396.out; have hcz30_0 := cz_ BK396 0 (.int .i64 0); have hcz30_1 := cz_ BK396 1 (.int .i64 0); have hcz30_2 := cz_ BK396 2 (.int .i64 0); have hcz30_3 := cz_ BK396 3 (.slice none 0 0); have hcz30_4 := cz_ BK396 4 (.slice none 0 0); have hfz30_0 := blk_frozen BK396.out 0; have hfz30_1 := blk_frozen BK396.out 1; have hfz30_2 := blk_frozen BK396.out 2; have hfz30_3 := blk_frozen BK396.out 3; have hfz30_4 := blk_frozen BK396.out 4; obtain ⟨Ao31, co31, eo31⟩ := Kd.R_slice HO392.out; subst eo31; obtain ⟨Ao32, co32, eo32⟩ := Kd.R_slice HO395.out; subst eo32) | ((with_reducible refine gate_callee (f := 47) rfl ?_); refine gl_ (some 22) Try.func47 #[.agg #[.int .i64 t387, .int .i64 t388, .int .i64 t389, .slice Ao31 t390.length co31, .slice Ao32 t393.length co32]] ?_; (with_reducible refine (impl_PutLsa.calls k t387 t388 t389 _ _ t390 _ _ t393 t397 _ ?side1 ?side2 ?side3 ?side4 A10.out).mono ?_); (case side1 => refine (Kd.R_reads' (e := 70) (base := w.heap.size) (ok := fun k_ => (True ∧ some k_ ≠ (.slice Ao23 t378.length co23 : Value).ownBlock)) (n := t390.length) (c := co31) ?_).2.2; exact (hs_ HO392 BK396)); (case side2 => exact (Kd.R_reads' HO392.out).2.1); (case side3 => refine (Kd.R_reads' (e := 74) (base := w.heap.size) (ok := fun k_ => (True ∧ some k_ ≠ (.slice Ao24 t381.length co24 : Value).ownBlock)) (n := t393.length) (c := co32) ?_).2.2; exact (hs_ HO395 BK396)); (case side4 => exact (Kd.R_reads' HO395.out).2.1); rintro e w33 ⟨v398, rfl, ho0, hb⟩; refine ⟨_, rfl, ?_⟩; have HO399 := Aside0.mk (Kd.R_lower (Kd.R_new' ho0 (Kd.R_lt (hs_ HO386 BK396))) (bz_ HB)); replace HO380 := rs_ HO380 BK396 hb; replace HO383 := rs_ HO383 BK396 hb; replace HO392 := rs_ HO392 BK396 hb; replace HO395 := rs_ HO395 BK396 hb; replace HO386 := Aside0.mk (Kd.R_elder' (hs_ HO386 BK396) (Kd.R_base ho0) hb); replace BK373 := bf_ BK373 NB373_396 hb; replace BK396 := Aside0.mk (blk_below (g := gb396) (o := .cells #[.int .i64 t387, .int .i64 t388, .int .i64 t389, .slice Ao31 t390.length co31, .slice Ao32 t393.length co32] 31 (0, 0)) (by (with_reducible repeat (first | refine blk_drewN ?_ _ | refine blk_drew ?_ | refine blk_alloc ?_ _)); refine blk_put (cs := #[.int .i64 t387, .int .i64 t388, .int .i64 t389, .slice Ao31 t390.length co31, .slice none 0 0]) ?_ 4 _ rfl; (with_reducible repeat (first | refine blk_drewN ?_ _ | refine blk_drew ?_ | refine blk_alloc ?_ _)); refine blk_put (cs := #[.int .i64 t387, .int .i64 t388, .int .i64 t389, .slice none 0 0, .slice none 0 0]) ?_ 3 _ rfl; (with_reducible repeat (first | refine blk_drewN ?_ _ | refine blk_drew ?_ | refine blk_alloc ?_ _)); refine blk_put (cs := #[.int .i64 t387, .int .i64 t388, .int .i64 0, .slice none 0 0, .slice none 0 0]) ?_ 2 _ rfl; (with_reducible repeat (first | refine blk_drewN ?_ _ | refine blk_drew ?_ | refine blk_alloc ?_ _)); refine blk_put (cs := #[.int .i64 t387, .int .i64 0, .int .i64 0, .slice none 0 0, .slice none 0 0]) ?_ 1 _ rfl; (with_reducible repeat (first | refine blk_drewN ?_ _ | refine blk_drew ?_ | refine blk_alloc ?_ _)); refine blk_put (cs := #[.int .i64 0, .int .i64 0, .int .i64 0, .slice none 0 0, .slice none 0 0]) ?_ 0 _ rfl; (with_reducible repeat (first | refine blk_drewN ?_ _ | refine blk_drew ?_ | refine blk_alloc ?_ _)); exact BK396.out) hb); replace HB := Aside0.mk (bt_ HB hb); (try clear hb); (try clear hb2); (try clear hk); (try clear hi); (try clear ho0); obtain ⟨Ao34, co34, eo34⟩ := Kd.R_slice HO399.out; subst eo34; obtain ⟨Ao35, co35, eo35⟩ := Kd.R_slice HO386.out; subst eo35) | ((with_reducible refine gate_callee (f := 43) rfl ?_); refine gl_ (some 25) Try.func43 #[.slice Ao34 t397.length co34, .slice Ao35 t384.length co35] ?_; (with_reducible refine (laws_eqByteS.calls k _ _ t397 _ _ t384 true _ ?side1 ?side2 ?side3 ?side4 A11.out).mono ?_); (case side1 => exact rc_ HO399); (case side2 => exact (Kd.R_reads' HO399.out).2.1); (case side3 => exact rc_ HO386); (case side4 => exact (Kd.R_reads' HO386.out).2.1); rintro e w' ⟨rfl, ⟨nd, rfl⟩⟩; refine ⟨_, rfl, ?_⟩))
    (try (rw [drewN_self w33]; generalize hq_ : World.drewN w33 _ = w33; replace HO380 : Aside0 (Kd.R k70 70 w33 w.heap.size (fun k_ => some k_ ≠ (.slice Ao31 t390.length co31 : Value).ownBlock) (.slice Ao23 t378.length co23) t378) := ⟨by rw [← hq_]; exact (by (with_reducible repeat (first | apply Kd.R_alloc | apply Kd.R_drewN | apply Kd.R_drew)); exact Kd.R_mono HO380.out (fun _ hk => hk.2))⟩; replace HO383 : Aside0 (Kd.R k74 74 w33 w.heap.size (fun k_ => some k_ ≠ (.slice Ao32 t393.length co32 : Value).ownBlock) (.slice Ao24 t381.length co24) t381) := ⟨by rw [← hq_]; exact (by (with_reducible repeat (first | apply Kd.R_alloc | apply Kd.R_drewN | apply Kd.R_drew)); exact Kd.R_mono HO383.out (fun _ hk => hk.2))⟩; replace HO386 : Aside0 (Kd.R (Kd.int .u8) 5 w33 w.heap.size (fun k_ => some k_ ≠ (.slice Ao34 t397.length co34 : Value).ownBlock) (.slice Ao35 t384.length co35) t384) := ⟨by rw [← hq_]; exact (by (with_reducible repeat (first | apply Kd.R_alloc | apply Kd.R_drewN | apply Kd.R_drew)); exact Kd.R_mono HO386.out (fun _ hk => hk.2))⟩; replace HO392 : Aside0 (Kd.R k70 70 w33 w.heap.size (fun k_ => some k_ ≠ (.slice Ao23 t378.length co23 : Value).ownBlock) (.slice Ao31 t390.length co31) t390) := ⟨by rw [← hq_]; exact (by (with_reducible repeat (first | apply Kd.R_alloc | apply Kd.R_drewN | apply Kd.R_drew)); exact Kd.R_mono HO392.out (fun _ hk => hk.2))⟩; replace HO395 : Aside0 (Kd.R k74 74 w33 w.heap.size (fun k_ => some k_ ≠ (.slice Ao24 t381.length co24 : Value).ownBlock) (.slice Ao32 t393.length co32) t393) := ⟨by rw [← hq_]; exact (by (with_reducible repeat (first | apply Kd.R_alloc | apply Kd.R_drewN | apply Kd.R_drew)); exact Kd.R_mono HO395.out (fun _ hk => hk.2))⟩; replace HO399 : Aside0 (Kd.R (Kd.int .u8) 5 w33 w.heap.size (fun k_ => some k_ ≠ (.slice Ao35 t384.length co35 : Value).ownBlock) (.slice Ao34 t397.length co34) t397) := ⟨by rw [← hq_]; exact (by (with_reducible repeat (first | apply Kd.R_alloc | apply Kd.R_drewN | apply Kd.R_drew)); exact Kd.R_mono HO399.out (fun _ hk => hk.2))⟩; replace BK373 : Aside0 (w33.heap[gb373]? = some (.cells #[.int .i64 a0_0, .int .i64 a0_1, .int .i64 a0_2, .slice A0_3 l0_3.length c0_3, .slice A0_4 l0_4.length c0_4] 25 (0, 0))) := ⟨by rw [← hq_]; exact (by (with_reducible repeat (first | refine blk_drewN ?_ _ | refine blk_drew ?_ | refine blk_alloc ?_ _)); exact BK373.out)⟩; replace BK396 : Aside0 (w33.heap[gb396]? = some (.cells #[.int .i64 t387, .int .i64 t388, .int .i64 t389, .slice Ao31 t390.length co31, .slice Ao32 t393.length co32] 31 (0, 0))) := ⟨by rw [← hq_]; exact (by (with_reducible repeat (first | refine blk_drewN ?_ _ | refine blk_drew ?_ | refine blk_alloc ?_ _)); exact BK396.out)⟩; replace HB : Aside0 (Below w.heap.size w w33) := ⟨by rw [← hq_]; exact (by repeat (first | (with_reducible first | exact HB.out | apply below_alloc | apply pw_below_drewN | apply below_drew1 | refine below_set ?_ GE373.out | refine below_set ?_ GE396.out) | exact HB.out))⟩; clear hq_))
    replace HO380 := Aside0.mk (Kd.R_drew HO380.out)
    replace HO383 := Aside0.mk (Kd.R_drew HO383.out)
    replace HO386 := Aside0.mk (Kd.R_drew HO386.out)
    replace HO392 := Aside0.mk (Kd.R_drew HO392.out)
    replace HO395 := Aside0.mk (Kd.R_drew HO395.out)
    replace HO399 := Aside0.mk (Kd.R_drew HO399.out)
    replace BK373 := Aside0.mk (blk_drew BK373.out)
    replace BK396 := Aside0.mk (blk_drew BK396.out)
    replace HB := Aside0.mk (below_drew1 HB.out)
    refine start_ (n := 5) (S := fun w' => w'.cell? ⟨gb396, 0, none⟩ = some (.int .i64 t387) ∧ w'.cell? ⟨gb396, 1, none⟩ = some (.int .i64 t388) ∧ w'.cell? ⟨gb396, 2, none⟩ = some (.int .i64 t389) ∧ w'.cell? ⟨gb396, 3, none⟩ = some (.slice Ao31 t390.length co31) ∧ w'.cell? ⟨gb396, 4, none⟩ = some (.slice Ao32 t393.length co32) ∧ w'.cell? ⟨gb373, 0, none⟩ = some (.int .i64 a0_0) ∧ w'.cell? ⟨gb373, 1, none⟩ = some (.int .i64 a0_1) ∧ w'.cell? ⟨gb373, 2, none⟩ = some (.int .i64 a0_2) ∧ w'.cell? ⟨gb373, 3, none⟩ = some (.slice A0_3 l0_3.length c0_3) ∧ w'.cell? ⟨gb373, 4, none⟩ = some (.slice A0_4 l0_4.length c0_4)) (ds := []) ba15_0 (by kernel_rfl) rfl rfl ⟨(blk_cell BK396.out 0).trans rfl, (blk_cell BK396.out 1).trans rfl, (blk_cell BK396.out 2).trans rfl, (blk_cell BK396.out 3).trans rfl, (blk_cell BK396.out 4).trans rfl, (blk_cell BK373.out 0).trans rfl, (blk_cell BK373.out 1).trans rfl, (blk_cell BK373.out 2).trans rfl, (blk_cell BK373.out 3).trans rfl, (blk_cell BK373.out 4).trans rfl⟩ (fun hHeld => ?_)
    generalize w33.drew = w36 at HO380 HO383 HO386 HO392 HO395 HO399 BK373 BK396 HB hHeld ⊢
    refine take_ (i := 0) (N := some 27) (v := ?_) (a' := ?_) ba15_1 rfl rfl (by kernel_rfl) (fun _ _ _ h => h) (Or.inl ⟨by rfl, ?_⟩) hHeld ?_ ?_
    rotate_left; · rintro w' ⟨s0, s1, s2, s3, s4, s5, s6, s7, s8, s9⟩; go_simp; with_reducible rfl
    rotate_left; · simp only [Act.put, List.setIfInBounds_toArray, List.set_cons_zero, List.set_cons_succ, i64_w, i32_w]; rfl
    refine take_ (i := 1) (N := some 28) (v := ?_) (a' := ?_) ba15_2 rfl rfl (by kernel_rfl) (fun _ _ _ h => h) (Or.inl ⟨by rfl, ?_⟩) hHeld ?_ ?_
    rotate_left; · rintro w' ⟨s0, s1, s2, s3, s4, s5, s6, s7, s8, s9⟩; go_simp; with_reducible rfl
    rotate_left; · simp only [Act.put, List.setIfInBounds_toArray, List.set_cons_zero, List.set_cons_succ, i64_w, i32_w]; rfl
    refine one_ (i := 2) (N := some 29) ba15_3 rfl rfl (by kernel_rfl) (by decide) (fun K hK => ?_)
    refine gz_ Try.func15 #[.agg #[.int .i64 a0_0, .int .i64 a0_1, .int .i64 a0_2, .slice A0_3 l0_3.length c0_3, .slice A0_4 l0_4.length c0_4]] ?_
    with_reducible refine (laws_toLsa.calls k a0_0 a0_1 a0_2 _ _ l0_3 _ _ l0_4 t401 t402 t403 t404 t407 _ ?side1 ?side2 ?side3 ?side4 A13.out).mono ?_
    (case side1 => exact cb_ HR0_3 HB)
    (case side2 => exact HC0_3.out)
    (case side3 => exact cb_ HR0_4 HB)
    (case side4 => exact HC0_4.out)
    rintro e w37 ⟨v405, v408, rfl, ho0, ho1, hb⟩
    refine ⟨_, rfl, ?_⟩
    have HO406 := Aside0.mk (Kd.R_lower (Kd.R_new' (Kd.R_new' ho0 (Kd.R_lt (hd_ HO380))) (Kd.R_lt (hd_ HO392))) (bz_ HB))
    have HO409 := Aside0.mk (Kd.R_lower (Kd.R_new' (Kd.R_new' ho1 (Kd.R_lt (hd_ HO383))) (Kd.R_lt (hd_ HO395))) (bz_ HB))
    replace HO386 := rb_ HO386 hb
    replace HO399 := rb_ HO399 hb
    replace HO380 := Aside0.mk (Kd.R_elder' (hd_ HO380) (Kd.R_base ho0) hb)
    replace HO392 := Aside0.mk (Kd.R_elder' (hd_ HO392) (Kd.R_base ho0) hb)
    replace HO383 := Aside0.mk (Kd.R_elder' (hd_ HO383) (Kd.R_base ho1) hb)
    replace HO395 := Aside0.mk (Kd.R_elder' (hd_ HO395) (Kd.R_base ho1) hb)
    replace BK373 := Aside0.mk (bb_ BK373 hb)
    replace BK396 := Aside0.mk (bb_ BK396 hb)
    replace HB := Aside0.mk (bt_ HB hb)
    (try clear hb)
    (try clear hb2)
    (try clear hk)
    (try clear hi)
    (try clear ho0)
    (try clear ho1)
    obtain ⟨Ao38, co38, eo38⟩ := Kd.R_slice HO406.out
    (first | subst eo38 | (injection eo38 with f1_ f2_ f3_; have f4_ := f1_.symm; have f5_ := f3_.symm; clear f1_ f2_ f3_; subst f4_; subst f5_))
    obtain ⟨Ao39, co39, eo39⟩ := Kd.R_slice HO409.out
    (first | subst eo39 | (injection eo39 with f1_ f2_ f3_; have f4_ := f1_.symm; have f5_ := f3_.symm; clear f1_ f2_ f3_; subst f4_; subst f5_))
    refine hK.out _ _ ⟨(blk_cell BK396.out 0).trans rfl, (blk_cell BK396.out 1).trans rfl, (blk_cell BK396.out 2).trans rfl, (blk_cell BK396.out 3).trans rfl, (blk_cell BK396.out 4).trans rfl, (blk_cell BK373.out 0).trans rfl, (blk_cell BK373.out 1).trans rfl, (blk_cell BK373.out 2).trans rfl, (blk_cell BK373.out 3).trans rfl, (blk_cell BK373.out 4).trans rfl⟩ (fun hHeld => ?_)
    clear hK K
    refine nz_ 29 ?_
    refine one_ (i := 3) (N := some 30) ba15_4 rfl rfl (by kernel_rfl) (by decide) (fun K hK => ?_)
    refine gz_ Try.func17 #[.agg #[.int .i64 t387, .int .i64 t388, .int .i64 t389, .slice Ao31 t390.length co31, .slice Ao32 t393.length co32], .agg #[.int .i64 t401, .int .i64 t402, .int .i64 t403, .slice Ao38 t404.length co38, .slice Ao39 t407.length co39]] ?_
    with_reducible refine (laws_eqLsa.calls k t387 t388 t389 _ _ t390 _ _ t393 t401 t402 t403 _ _ t404 _ _ t407 true _ ?side1 ?side2 ?side3 ?side4 ?side5 ?side6 ?side7 ?side8 A14.out).mono ?_
    (case side1 => exact rc_ HO392)
    (case side2 => exact (Kd.R_reads' HO392.out).2.1)
    (case side3 => exact rc_ HO395)
    (case side4 => exact (Kd.R_reads' HO395.out).2.1)
    (case side5 => exact rc_ HO406)
    (case side6 => exact (Kd.R_reads' HO406.out).2.1)
    (case side7 => exact rc_ HO409)
    (case side8 => exact (Kd.R_reads' HO409.out).2.1)
    rintro e w40 ⟨rfl, hb⟩
    refine ⟨_, rfl, ?_⟩
    replace HO380 := rb_ HO380 hb
    replace HO383 := rb_ HO383 hb
    replace HO386 := rb_ HO386 hb
    replace HO392 := rb_ HO392 hb
    replace HO395 := rb_ HO395 hb
    replace HO399 := rb_ HO399 hb
    replace HO406 := rb_ HO406 hb
    replace HO409 := rb_ HO409 hb
    replace BK373 := Aside0.mk (bb_ BK373 hb)
    replace BK396 := Aside0.mk (bb_ BK396 hb)
    replace HB := Aside0.mk (bt_ HB hb)
    (try clear hb)
    (try clear hb2)
    (try clear hk)
    (try clear hi)
    refine hK.out _ _ ⟨(blk_cell BK396.out 0).trans rfl, (blk_cell BK396.out 1).trans rfl, (blk_cell BK396.out 2).trans rfl, (blk_cell BK396.out 3).trans rfl, (blk_cell BK396.out 4).trans rfl, (blk_cell BK373.out 0).trans rfl, (blk_cell BK373.out 1).trans rfl, (blk_cell BK373.out 2).trans rfl, (blk_cell BK373.out 3).trans rfl, (blk_cell BK373.out 4).trans rfl⟩ (fun hHeld => ?_)
    clear hK K
    refine nz_ 30 ?_
    refine pure_ (i := 4) (N := some 31) (v := ?_) (a' := ?_) ba15_5 rfl rfl (by kernel_rfl) (fun _ _ _ h => h) (Or.inl ⟨by rfl, ?_⟩) ?_ ?_
    rotate_left; · intro w'; go_simp; with_reducible rfl
    rotate_left; · simp only [Act.put, List.setIfInBounds_toArray, List.set_cons_zero, List.set_cons_succ, i64_w, i32_w]; rfl
    refine done_ (by kernel_rfl) ?_
    have hcz41_0 := cz_ BK396 0 (.int .i64 t387)
    have hcz41_1 := cz_ BK396 1 (.int .i64 t388)
    have hcz41_2 := cz_ BK396 2 (.int .i64 t389)
    have hcz41_3 := cz_ BK396 3 (.slice Ao31 t390.length co31)
    have hcz41_4 := cz_ BK396 4 (.slice Ao32 t393.length co32)
    have hfz41_0 := blk_frozen BK396.out 0
    have hfz41_1 := blk_frozen BK396.out 1
    have hfz41_2 := blk_frozen BK396.out 2
    have hfz41_3 := blk_frozen BK396.out 3
    have hfz41_4 := blk_frozen BK396.out 4
    go_upto_region 14 with (first | ((with_reducible refine gate_callee (f := 35) rfl ?_); refine gl_ (some 34) Try.func35 #[.agg #[.int .i64 t387, .int .i64 t388, .int .i64 t389, .slice Ao31 t390.length co31, .slice Ao32 t393.length co32], .int .i64 1] ?_; (with_reducible refine (laws_markLsa.calls k t387 t388 t389 (fun k_ => some k_ = (.slice Ao31 t390.length co31 : Value).ownBlock) (.slice Ao31 t390.length co31) t390 (fun k_ => some k_ = (.slice Ao32 t393.length co32 : Value).ownBlock) (.slice Ao32 t393.length co32) t393 1 t411 t412 t413 w _ ?side1 ?side2 ?side3 A16.out).mono ?_); (case side1 => exact by_ HB); (case side2 => exact Kd.R_tight rfl HO392.out); (case side3 => exact Kd.R_tight rfl HO395.out); rintro e w42 ⟨rfl, hy0, hy1, hb, hkp⟩; refine ⟨_, rfl, ?_⟩; replace BK373 := bk_ BK373 hkp (fun hs_ => Or.elim hs_ (Kd.R_ne HO392.out BK373.out (by decide)) (Kd.R_ne HO395.out BK373.out (by decide))); replace HO380 := kp_ (fun k_ => some k_ ≠ (.slice Ao31 t390.length co31 : Value).ownBlock ∧ some k_ ≠ (.slice Ao38 t404.length co38 : Value).ownBlock) ((Kd.R_apart' HO380.out (Kd.R_typed HO395.out) (by decide))) hkp; replace HO383 := kp_ (fun k_ => some k_ ≠ (.slice Ao32 t393.length co32 : Value).ownBlock ∧ some k_ ≠ (.slice Ao39 t407.length co39 : Value).ownBlock) ((Kd.R_apart' HO383.out (Kd.R_typed HO392.out) (by decide))) hkp; replace HO386 := kp_ (fun k_ => some k_ ≠ (.slice Ao34 t397.length co34 : Value).ownBlock) ((Kd.R_apart' (Kd.R_apart' HO386.out (Kd.R_typed HO392.out) (by decide)) (Kd.R_typed HO395.out) (by decide))) hkp; replace BK396 := bk_ BK396 hkp (fun hs_ => Or.elim hs_ (Kd.R_ne HO392.out BK396.out (by decide)) (Kd.R_ne HO395.out BK396.out (by decide))); replace HO399 := kp_ (fun k_ => some k_ ≠ (.slice Ao35 t384.length co35 : Value).ownBlock) ((Kd.R_apart' (Kd.R_apart' HO399.out (Kd.R_typed HO392.out) (by decide)) (Kd.R_typed HO395.out) (by decide))) hkp; replace HO406 := kp_ (fun k_ => some k_ ≠ (.slice Ao23 t378.length co23 : Value).ownBlock ∧ some k_ ≠ (.slice Ao31 t390.length co31 : Value).ownBlock) ((Kd.R_apart' HO406.out (Kd.R_typed HO395.out) (by decide))) hkp; replace HO395 := Aside0.mk (Kd.R_reok rfl hy1 (fun k_ e_ => HO395.out.1 k_ e_)); replace HO409 := kp_ (fun k_ => some k_ ≠ (.slice Ao24 t381.length co24 : Value).ownBlock ∧ some k_ ≠ (.slice Ao32 t393.length co32 : Value).ownBlock) ((Kd.R_apart' HO409.out (Kd.R_typed HO392.out) (by decide))) hkp; replace HO392 := Aside0.mk (Kd.R_reok rfl hy0 (fun k_ e_ => HO392.out.1 k_ e_)); replace HB := Aside0.mk (hb); (try clear hb); (try clear hkp); (try clear hy0); (try clear hy1)))
    (try simp only [Act.put, List.setIfInBounds_toArray, List.set_cons_zero, List.set_cons_succ])
    go_cut [42] (fun v42 wc => ∃ (kq : Nat) (x42_16 : Bool), v42 = .bool x42_16 ∧ Aside0 (laws_FnExactPutLsa.j0 kq t384 t397 x42_16 a0_0 a0_1 a0_2 l0_3 l0_4 = some r) ∧ Aside0 (kq ≤ k) ∧ Aside0 (Kd.R (Kd.int .u8) 5 wc w.heap.size (fun k_ => some k_ ≠ ((.slice Ao34 t397.length co34) : Value).ownBlock) (.slice Ao35 t384.length co35) t384) ∧ Aside0 (Kd.R (Kd.int .u8) 5 wc w.heap.size (fun k_ => some k_ ≠ ((.slice Ao35 t384.length co35) : Value).ownBlock) (.slice Ao34 t397.length co34) t397) ∧ Aside0 (Kd.R k70 70 wc w.heap.size (fun _ => True) (.slice Ao31 t390.length co31) t412) ∧ Aside0 (Kd.R k74 74 wc w.heap.size (fun _ => True) (.slice Ao32 t393.length co32) t413) ∧ Aside0 (wc.heap[gb373]? = some (.cells #[.int .i64 a0_0, .int .i64 a0_1, .int .i64 a0_2, (.slice A0_3 l0_3.length c0_3), (.slice A0_4 l0_4.length c0_4)] 25 (0, 0))) ∧ Aside0 (wc.heap[gb396]? = some (.cells #[.int .i64 t387, .int .i64 t388, .int .i64 t389, (.slice Ao31 t390.length co31), (.slice Ao32 t393.length co32)] 31 (0, 0))) ∧ Aside0 (Below w.heap.size w wc))
    case first =>
     have H := HC17.out
     clear HC17
     by_cases c43 : t411 < 0
     ·rw [if_pos c43] at H
      have c43b0 : decide (t411 < 0) = true := decide_eq_true c43
      clear c43
      (first | rw [c43b0] | (simp only [i64_w, i32_w]; rw [c43b0]) | skip)
      have H' := Aside0.mk H
      clear H
      go_wp2
      go_meet
      case rel => exact ⟨_, (true), (by first | rfl | (simp; done) | (simp [*]; done)), H', ⟨by first | omega | exact Nat.le_refl _⟩, ⟨by (with_reducible repeat (first | apply Kd.R_alloc | apply Kd.R_drewN | apply Kd.R_drew)); exact HO386.out⟩, ⟨by (with_reducible repeat (first | apply Kd.R_alloc | apply Kd.R_drewN | apply Kd.R_drew)); exact HO399.out⟩, ⟨by (with_reducible repeat (first | apply Kd.R_alloc | apply Kd.R_drewN | apply Kd.R_drew)); exact Kd.R_mono HO392.out (fun _ hk => trivial)⟩, ⟨by (with_reducible repeat (first | apply Kd.R_alloc | apply Kd.R_drewN | apply Kd.R_drew)); exact Kd.R_mono HO395.out (fun _ hk => trivial)⟩, ⟨by (with_reducible repeat (first | refine blk_drewN ?_ _ | refine blk_drew ?_ | refine blk_alloc ?_ _)); exact BK373.out⟩, ⟨by (with_reducible repeat (first | refine blk_drewN ?_ _ | refine blk_drew ?_ | refine blk_alloc ?_ _)); exact BK396.out⟩, ⟨by repeat (first | (with_reducible first | exact HB.out | apply below_alloc | apply pw_below_drewN | apply below_drew1 | refine below_set ?_ GE373.out | refine below_set ?_ GE396.out) | exact HB.out)⟩⟩
     ·rw [if_neg c43] at H
      have c43b0 : decide (t411 < 0) = false := decide_eq_false c43
      clear c43
      (first | rw [c43b0] | (simp only [i64_w, i32_w]; rw [c43b0]) | skip)
      replace H := Option.bind_eq_some_iff.mp H
      obtain ⟨t414, A440, H⟩ := H
      have A44 := Aside0.mk A440
      clear A440
      have H' := Aside0.mk H
      clear H
      go_wp2_with (first | (go_at_call 43; (with_reducible refine (laws_eqByteS.calls k _ _ t397 _ _ t384 t414 _ ?side1 ?side2 ?side3 ?side4 A44.out).mono ?_); (case side1 => exact rc_ HO399); (case side2 => exact (Kd.R_reads' HO399.out).2.1); (case side3 => exact rc_ HO386); (case side4 => exact (Kd.R_reads' HO386.out).2.1); rintro e w' ⟨rfl, ⟨nd, rfl⟩⟩))
      go_meet
      case rel => exact ⟨_, (!t414), (by first | rfl | (simp; done) | (simp [*]; done)), H', ⟨by first | omega | exact Nat.le_refl _⟩, ⟨by (with_reducible repeat (first | apply Kd.R_alloc | apply Kd.R_drewN | apply Kd.R_drew)); exact HO386.out⟩, ⟨by (with_reducible repeat (first | apply Kd.R_alloc | apply Kd.R_drewN | apply Kd.R_drew)); exact HO399.out⟩, ⟨by (with_reducible repeat (first | apply Kd.R_alloc | apply Kd.R_drewN | apply Kd.R_drew)); exact Kd.R_mono HO392.out (fun _ hk => trivial)⟩, ⟨by (with_reducible repeat (first | apply Kd.R_alloc | apply Kd.R_drewN | apply Kd.R_drew)); exact Kd.R_mono HO395.out (fun _ hk => trivial)⟩, ⟨by (with_reducible repeat (first | refine blk_drewN ?_ _ | refine blk_drew ?_ | refine blk_alloc ?_ _)); exact BK373.out⟩, ⟨by (with_reducible repeat (first | refine blk_drewN ?_ _ | refine blk_drew ?_ | refine blk_alloc ?_ _)); exact BK396.out⟩, ⟨by repeat (first | (with_reducible first | exact HB.out | apply below_alloc | apply pw_below_drewN | apply below_drew1 | refine below_set ?_ GE373.out | refine below_set ?_ GE396.out) | exact HB.out)⟩⟩
    case rest =>
     clear HC17
     try clear c1
     try clear c2
     try clear p2
     try clear c3
     try clear c3b0
     try clear c4
     try clear c10
     try clear c12
     try clear c13
     try clear c15
     try clear c17
     try clear c29
     try clear c35
     try clear c43
     try clear c43b0
     try clear hcz19_0
     try clear hcz19_1
     try clear hcz19_2
     try clear hcz19_3
     try clear hcz19_4
     try clear hcz21_0
     try clear hcz21_1
     try clear hcz21_2
     try clear hcz21_3
     try clear hcz21_4
     try clear hcz26_0
     try clear hcz26_1
     try clear hcz26_2
     try clear hcz26_3
     try clear hcz26_4
     try clear hcz30_0
     try clear hcz30_1
     try clear hcz30_2
     try clear hcz30_3
     try clear hcz30_4
     try clear hcz41_0
     try clear hcz41_1
     try clear hcz41_2
     try clear hcz41_3
     try clear hcz41_4
     try clear hcz5_0
     try clear hcz5_1
     try clear hcz5_2
     try clear hcz5_3
     try clear hcz5_4
     try clear hfz19_0
     try clear hfz19_1
     try clear hfz19_2
     try clear hfz19_3
     try clear hfz19_4
     try clear hfz21_0
     try clear hfz21_1
     try clear hfz21_2
     try clear hfz21_3
     try clear hfz21_4
     try clear hfz26_0
     try clear hfz26_1
     try clear hfz26_2
     try clear hfz26_3
     try clear hfz26_4
     try clear hfz30_0
     try clear hfz30_1
     try clear hfz30_2
     try clear hfz30_3
     try clear hfz30_4
     try clear hfz41_0
     try clear hfz41_1
     try clear hfz41_2
     try clear hfz41_3
     try clear hfz41_4
     try clear hfz5_0
     try clear hfz5_1
     try clear hfz5_2
     try clear hfz5_3
     try clear hfz5_4
     obtain ⟨kq, x42_16, rfl, HA, HJ16, HO_4, HO_6, HO_397003, HO_397004, BK373, BK396, HB⟩ := hcut
     have hl397003_16 := (Kd.R_reads' HO_397003.out).1
     rw [hl397003_16] at HO_397003
     (try simp only [hl397003_16])
     (try simp only [hl397003_16] at BK373)
     (try simp only [hl397003_16] at BK396)
     (try simp only [hl397003_16] at HO_4)
     (try simp only [hl397003_16] at HO_6)
     (try simp only [hl397003_16] at HO_397004)
     have hl397004_16 := (Kd.R_reads' HO_397004.out).1
     rw [hl397004_16] at HO_397004
     (try simp only [hl397004_16])
     (try simp only [hl397004_16] at BK373)
     (try simp only [hl397004_16] at BK396)
     (try simp only [hl397004_16] at HO_4)
     (try simp only [hl397004_16] at HO_6)
     (try simp only [hl397004_16] at HO_397003)
     cases kq with
     | zero => exact absurd HA.out (by simp [laws_FnExactPutLsa.j0])
     | succ kj16 =>
      have H := HA.out
      clear HA
      simp only [laws_FnExactPutLsa.j0] at H
      by_cases c45 : x42_16 = true
      ·subst c45
       rw [if_pos rfl] at H
       obtain rfl := Option.some.inj H
       go_wp2
       go_ret
       exact ⟨by first | rfl | (simp [errW_none, errW_some] <;> rfl) | (simp [*, errW_none, errW_some] <;> rfl), by repeat (first | (with_reducible first | exact HB.out | apply below_alloc | apply pw_below_drewN | apply below_drew1 | refine below_set ?_ GE373.out | refine below_set ?_ GE396.out) | exact HB.out)⟩
      ·replace c45 := Bool.eq_false_iff.mpr c45
       subst c45
       rw [if_neg (show ¬ (false = true) by decide)] at H
       replace H := Option.bind_eq_some_iff.mp H
       obtain ⟨⟨t415, t416⟩, A460, H⟩ := H
       have A46 := Aside0.mk A460
       clear A460
       replace H := Option.bind_eq_some_iff.mp H
       obtain ⟨t417, A470, H⟩ := H
       have A47 := Aside0.mk A470
       clear A470
       by_cases c48 : t417 < 0
       ·rw [if_pos c48] at H
        have c48b0 : decide (t417 < 0) = true := decide_eq_true c48
        clear c48
        obtain rfl := Option.some.inj H
        go_wp2_with (first | ((with_reducible refine gate_callee (f := 44) rfl ?_); refine gl_ (some 45) Try.func44 #[.slice Ao34 t397.length co34, .int .i64 1] ?_; (with_reducible refine (laws_markByteS.calls kj16 (fun k_ => some k_ = (.slice Ao34 t397.length co34 : Value).ownBlock) (.slice Ao34 t397.length co34) t397 1 t415 t416 w _ ?side1 ?side2 A46.out).mono ?_); (case side1 => exact by_ HB); (case side2 => exact Kd.R_tight rfl HO_6.out); rintro e w49 ⟨rfl, hy0, hb, hkp⟩; refine ⟨_, rfl, ?_⟩; replace HO_4 := kp_ (fun k_ => some k_ ≠ (.slice Ao34 t397.length co34 : Value).ownBlock) (HO_4.out) hkp; replace HO_397003 := kp_ (fun k_ => True) ((Kd.R_apart' HO_397003.out (Kd.R_typed HO_6.out) (by decide))) hkp; replace HO_397004 := kp_ (fun k_ => True) ((Kd.R_apart' HO_397004.out (Kd.R_typed HO_6.out) (by decide))) hkp; replace BK373 := bk_ BK373 hkp (fun hs_ => (Kd.R_ne HO_6.out BK373.out (by decide)) hs_); replace BK396 := bk_ BK396 hkp (fun hs_ => (Kd.R_ne HO_6.out BK396.out (by decide)) hs_); replace HO_6 := Aside0.mk (Kd.R_reok rfl hy0 (fun k_ e_ => HO_6.out.1 k_ e_)); replace HB := Aside0.mk (hb); (try clear hb); (try clear hkp); (try clear hy0)) | ((with_reducible refine gate_callee (f := 45) rfl ?_); refine goesL_ (some 48) rfl rfl Try.func45 (by kernel_rfl) rfl #[.slice Ao34 t416.length co34, .int .i64 1] rfl (by (try simp only [List.map_toArray, List.map_cons, List.map_nil]); first | done | (rw [show t416.length = t397.length from (Kd.R_reads' HO_6.out).1.symm] <;> rfl) | rfl | (simp only [List.length_drop, List.length_take]; rfl)) ?_; (with_reducible refine (laws_heldByteS.calls kj16 _ _ t416 1 t417 _ ?side1 ?side2 A47.out).mono ?_); (case side1 => exact rc_ HO_6); (case side2 => rw [show t416.length = t397.length from (Kd.R_reads' HO_6.out).1.symm]; exact (Kd.R_reads' HO_6.out).2.1); rintro e w' ⟨rfl, ⟨nd, rfl⟩⟩; refine ⟨_, rfl, ?_⟩))
        go_ret
        exact ⟨by first | rfl | (simp [errW_none, errW_some] <;> rfl) | (simp [*, errW_none, errW_some] <;> rfl), by repeat (first | (with_reducible first | exact HB.out | apply below_alloc | apply pw_below_drewN | apply below_drew1 | refine below_set ?_ GE373.out | refine below_set ?_ GE396.out) | exact HB.out)⟩
       ·rw [if_neg c48] at H
        have c48b0 : decide (t417 < 0) = false := decide_eq_false c48
        clear c48
        by_cases c50 : t417 = t415
        ·rw [if_pos c50] at H
         have c50b0 : (t417 == t415) = true := beq_iff_eq.mpr c50
         have c50b1 : (t417 != t415) = false := bne_eq_false_iff_eq.mpr c50
         clear c50
         replace H := Option.bind_eq_some_iff.mp H
         obtain ⟨⟨t418, t419, t420, t421, t424⟩, A510, H⟩ := H
         have A51 := Aside0.mk A510
         clear A510
         replace H := Option.bind_eq_some_iff.mp H
         obtain ⟨t427, A520, H⟩ := H
         have A52 := Aside0.mk A520
         clear A520
         replace H := Option.bind_eq_some_iff.mp H
         obtain ⟨t430, A530, H⟩ := H
         have A53 := Aside0.mk A530
         clear A530
         by_cases c54 : t430 = true
         ·subst c54
          rw [if_pos rfl] at H
          replace H := Option.bind_eq_some_iff.mp H
          obtain ⟨t431, A550, H⟩ := H
          have A55 := Aside0.mk A550
          clear A550
          by_cases c56 : t431 < 0
          ·rw [if_pos c56] at H
           have c56b0 : decide (t431 < 0) = true := decide_eq_true c56
           clear c56
           obtain rfl := Option.some.inj H
           go_wp2_with (first | ((with_reducible refine gate_callee (f := 44) rfl ?_); refine gl_ (some 45) Try.func44 #[.slice Ao34 t397.length co34, .int .i64 1] ?_; (with_reducible refine (laws_markByteS.calls kj16 (fun k_ => some k_ = (.slice Ao34 t397.length co34 : Value).ownBlock) (.slice Ao34 t397.length co34) t397 1 t415 t416 w _ ?side1 ?side2 A46.out).mono ?_); (case side1 => exact by_ HB); (case side2 => exact Kd.R_tight rfl HO_6.out); rintro e w57 ⟨rfl, hy0, hb, hkp⟩; refine ⟨_, rfl, ?_⟩; replace HO_4 := kp_ (fun k_ => some k_ ≠ (.slice Ao34 t397.length co34 : Value).ownBlock) (HO_4.out) hkp; replace HO_397003 := kp_ (fun k_ => True) ((Kd.R_apart' HO_397003.out (Kd.R_typed HO_6.out) (by decide))) hkp; replace HO_397004 := kp_ (fun k_ => True) ((Kd.R_apart' HO_397004.out (Kd.R_typed HO_6.out) (by decide))) hkp; replace BK373 := bk_ BK373 hkp (fun hs_ => (Kd.R_ne HO_6.out BK373.out (by decide)) hs_); replace BK396 := bk_ BK396 hkp (fun hs_ => (Kd.R_ne HO_6.out BK396.out (by decide)) hs_); replace HO_6 := Aside0.mk (Kd.R_reok rfl hy0 (fun k_ e_ => HO_6.out.1 k_ e_)); replace HB := Aside0.mk (hb); (try clear hb); (try clear hkp); (try clear hy0)) | ((with_reducible refine gate_callee (f := 45) rfl ?_); refine goesL_ (some 48) rfl rfl Try.func45 (by kernel_rfl) rfl #[.slice Ao34 t416.length co34, .int .i64 1] rfl (by (try simp only [List.map_toArray, List.map_cons, List.map_nil]); first | done | (rw [show t416.length = t397.length from (Kd.R_reads' HO_6.out).1.symm] <;> rfl) | rfl | (simp only [List.length_drop, List.length_take]; rfl)) ?_; (with_reducible refine (laws_heldByteS.calls kj16 _ _ t416 1 t417 _ ?side1 ?side2 A47.out).mono ?_); (case side1 => exact rc_ HO_6); (case side2 => rw [show t416.length = t397.length from (Kd.R_reads' HO_6.out).1.symm]; exact (Kd.R_reads' HO_6.out).2.1); rintro e w' ⟨rfl, ⟨nd, rfl⟩⟩; refine ⟨_, rfl, ?_⟩; have hnb58 := NB373_396.out; have hnc58 := NB396_373.out; have hcz59_0 := cz_ BK373 0 (.int .i64 a0_0); have hcz59_1 := cz_ BK373 1 (.int .i64 a0_1); have hcz59_2 := cz_ BK373 2 (.int .i64 a0_2); have hcz59_3 := cz_ BK373 3 (.slice A0_3 l0_3.length c0_3); have hcz59_4 := cz_ BK373 4 (.slice A0_4 l0_4.length c0_4); have hfz59_0 := blk_frozen BK373.out 0; have hfz59_1 := blk_frozen BK373.out 1; have hfz59_2 := blk_frozen BK373.out 2; have hfz59_3 := blk_frozen BK373.out 3; have hfz59_4 := blk_frozen BK373.out 4) | ((with_reducible refine gate_callee (f := 15) rfl ?_); refine gl_ (some 55) Try.func15 #[.agg #[.int .i64 a0_0, .int .i64 a0_1, .int .i64 a0_2, .slice A0_3 l0_3.length c0_3, .slice A0_4 l0_4.length c0_4]] ?_; (with_reducible refine (laws_toLsa.calls kj16 a0_0 a0_1 a0_2 _ _ l0_3 _ _ l0_4 t418 t419 t420 t421 t424 _ ?side1 ?side2 ?side3 ?side4 A51.out).mono ?_); (case side1 => exact cc_ HR0_3 HB); (case side2 => exact HC0_3.out); (case side3 => exact cc_ HR0_4 HB); (case side4 => exact HC0_4.out); rintro e w60 ⟨v422, v425, rfl, ho0, ho1, hb⟩; refine ⟨_, rfl, ?_⟩; have HO423 := Aside0.mk (Kd.R_lower (Kd.R_new' ho0 (Kd.R_lt (hd_ HO_397003))) (bz_ HB)); have HO426 := Aside0.mk (Kd.R_lower (Kd.R_new' ho1 (Kd.R_lt (hd_ HO_397004))) (bz_ HB)); replace HO_4 := rb_ HO_4 hb; replace HO_6 := rb_ HO_6 hb; replace HO_397003 := Aside0.mk (Kd.R_elder' (hd_ HO_397003) (Kd.R_base ho0) hb); replace HO_397004 := Aside0.mk (Kd.R_elder' (hd_ HO_397004) (Kd.R_base ho1) hb); replace BK373 := Aside0.mk (bb_ BK373 hb); replace BK396 := Aside0.mk (bb_ BK396 hb); replace HB := Aside0.mk (bt_ HB hb); (try clear hb); (try clear hb2); (try clear hk); (try clear hi); (try clear ho0); (try clear ho1); obtain ⟨Ao61, co61, eo61⟩ := Kd.R_slice HO423.out; subst eo61; obtain ⟨Ao62, co62, eo62⟩ := Kd.R_slice HO426.out; subst eo62) | ((with_reducible refine gate_callee (f := 47) rfl ?_); refine gl_ (some 56) Try.func47 #[.agg #[.int .i64 t418, .int .i64 t419, .int .i64 t420, .slice Ao61 t421.length co61, .slice Ao62 t424.length co62]] ?_; (with_reducible refine (impl_PutLsa.calls kj16 t418 t419 t420 _ _ t421 _ _ t424 t427 _ ?side1 ?side2 ?side3 ?side4 A52.out).mono ?_); (case side1 => exact rc_ HO423); (case side2 => exact (Kd.R_reads' HO423.out).2.1); (case side3 => exact rc_ HO426); (case side4 => exact (Kd.R_reads' HO426.out).2.1); rintro e w63 ⟨v428, rfl, ho0, hb⟩; refine ⟨_, rfl, ?_⟩; have HO429 := Aside0.mk (Kd.R_lower (Kd.R_new' (Kd.R_new' ho0 (Kd.R_lt (hd_ HO_4))) (Kd.R_lt (hd_ HO_6))) (bz_ HB)); replace HO_397003 := rb_ HO_397003 hb; replace HO_397004 := rb_ HO_397004 hb; replace HO423 := rb_ HO423 hb; replace HO426 := rb_ HO426 hb; replace HO_4 := Aside0.mk (Kd.R_elder' (hd_ HO_4) (Kd.R_base ho0) hb); replace HO_6 := Aside0.mk (Kd.R_elder' (hd_ HO_6) (Kd.R_base ho0) hb); replace BK373 := Aside0.mk (bb_ BK373 hb); replace BK396 := Aside0.mk (bb_ BK396 hb); replace HB := Aside0.mk (bt_ HB hb); (try clear hb); (try clear hb2); (try clear hk); (try clear hi); (try clear ho0); obtain ⟨Ao64, co64, eo64⟩ := Kd.R_slice HO429.out; subst eo64) | ((with_reducible refine gate_callee (f := 43) rfl ?_); refine gl_ (some 59) Try.func43 #[.slice Ao64 t427.length co64, .slice Ao35 t384.length co35] ?_; (with_reducible refine (laws_eqByteS.calls kj16 _ _ t427 _ _ t384 true _ ?side1 ?side2 ?side3 ?side4 A53.out).mono ?_); (case side1 => exact rc_ HO429); (case side2 => exact (Kd.R_reads' HO429.out).2.1); (case side3 => exact rc_ HO_4); (case side4 => exact (Kd.R_reads' HO_4.out).2.1); rintro e w' ⟨rfl, ⟨nd, rfl⟩⟩; refine ⟨_, rfl, ?_⟩) | ((with_reducible refine gate_callee (f := 45) rfl ?_); refine goesL_ (some 63) rfl rfl Try.func45 (by kernel_rfl) rfl #[.slice Ao34 t416.length co34, .int .i64 1] rfl (by (try simp only [List.map_toArray, List.map_cons, List.map_nil]); first | done | (rw [show t416.length = t397.length from (Kd.R_reads' HO_6.out).1.symm] <;> rfl) | rfl | (simp only [List.length_drop, List.length_take]; rfl)) ?_; (with_reducible refine (laws_heldByteS.calls kj16 _ _ t416 1 t431 _ ?side1 ?side2 A55.out).mono ?_); (case side1 => exact rc_ HO_6); (case side2 => rw [show t416.length = t397.length from (Kd.R_reads' HO_6.out).1.symm]; exact (Kd.R_reads' HO_6.out).2.1); rintro e w' ⟨rfl, ⟨nd, rfl⟩⟩; refine ⟨_, rfl, ?_⟩))
           go_ret
           exact ⟨by first | rfl | (simp [errW_none, errW_some] <;> rfl) | (simp [*, errW_none, errW_some] <;> rfl), by repeat (first | (with_reducible first | exact HB.out | apply below_alloc | apply pw_below_drewN | apply below_drew1 | refine below_set ?_ GE373.out | refine below_set ?_ GE396.out) | exact HB.out)⟩
          ·rw [if_neg c56] at H
           have c56b0 : decide (t431 < 0) = false := decide_eq_false c56
           clear c56
           by_cases c65 : t431 = t415
           ·rw [if_pos c65] at H
            have c65b0 : (t431 == t415) = true := beq_iff_eq.mpr c65
            have c65b1 : (t431 != t415) = false := bne_eq_false_iff_eq.mpr c65
            clear c65
            obtain rfl := Option.some.inj H
            go_wp2_with (first | ((with_reducible refine gate_callee (f := 44) rfl ?_); refine gl_ (some 45) Try.func44 #[.slice Ao34 t397.length co34, .int .i64 1] ?_; (with_reducible refine (laws_markByteS.calls kj16 (fun k_ => some k_ = (.slice Ao34 t397.length co34 : Value).ownBlock) (.slice Ao34 t397.length co34) t397 1 t415 t416 w _ ?side1 ?side2 A46.out).mono ?_); (case side1 => exact by_ HB); (case side2 => exact Kd.R_tight rfl HO_6.out); rintro e w66 ⟨rfl, hy0, hb, hkp⟩; refine ⟨_, rfl, ?_⟩; replace HO_4 := kp_ (fun k_ => some k_ ≠ (.slice Ao34 t397.length co34 : Value).ownBlock) (HO_4.out) hkp; replace HO_397003 := kp_ (fun k_ => True) ((Kd.R_apart' HO_397003.out (Kd.R_typed HO_6.out) (by decide))) hkp; replace HO_397004 := kp_ (fun k_ => True) ((Kd.R_apart' HO_397004.out (Kd.R_typed HO_6.out) (by decide))) hkp; replace BK373 := bk_ BK373 hkp (fun hs_ => (Kd.R_ne HO_6.out BK373.out (by decide)) hs_); replace BK396 := bk_ BK396 hkp (fun hs_ => (Kd.R_ne HO_6.out BK396.out (by decide)) hs_); replace HO_6 := Aside0.mk (Kd.R_reok rfl hy0 (fun k_ e_ => HO_6.out.1 k_ e_)); replace HB := Aside0.mk (hb); (try clear hb); (try clear hkp); (try clear hy0)) | ((with_reducible refine gate_callee (f := 45) rfl ?_); refine goesL_ (some 48) rfl rfl Try.func45 (by kernel_rfl) rfl #[.slice Ao34 t416.length co34, .int .i64 1] rfl (by (try simp only [List.map_toArray, List.map_cons, List.map_nil]); first | done | (rw [show t416.length = t397.length from (Kd.R_reads' HO_6.out).1.symm] <;> rfl) | rfl | (simp only [List.length_drop, List.length_take]; rfl)) ?_; (with_reducible refine (laws_heldByteS.calls kj16 _ _ t416 1 t417 _ ?side1 ?side2 A47.out).mono ?_); (case side1 => exact rc_ HO_6); (case side2 => rw [show t416.length = t397.length from (Kd.R_reads' HO_6.out).1.symm]; exact (Kd.R_reads' HO_6.out).2.1); rintro e w' ⟨rfl, ⟨nd, rfl⟩⟩; refine ⟨_, rfl, ?_⟩; have hnb67 := NB373_396.out; have hnc67 := NB396_373.out; have hcz68_0 := cz_ BK373 0 (.int .i64 a0_0); have hcz68_1 := cz_ BK373 1 (.int .i64 a0_1); have hcz68_2 := cz_ BK373 2 (.int .i64 a0_2); have hcz68_3 := cz_ BK373 3 (.slice A0_3 l0_3.length c0_3); have hcz68_4 := cz_ BK373 4 (.slice A0_4 l0_4.length c0_4); have hfz68_0 := blk_frozen BK373.out 0; have hfz68_1 := blk_frozen BK373.out 1; have hfz68_2 := blk_frozen BK373.out 2; have hfz68_3 := blk_frozen BK373.out 3; have hfz68_4 := blk_frozen BK373.out 4) | ((with_reducible refine gate_callee (f := 15) rfl ?_); refine gl_ (some 55) Try.func15 #[.agg #[.int .i64 a0_0, .int .i64 a0_1, .int .i64 a0_2, .slice A0_3 l0_3.length c0_3, .slice A0_4 l0_4.length c0_4]] ?_; (with_reducible refine (laws_toLsa.calls kj16 a0_0 a0_1 a0_2 _ _ l0_3 _ _ l0_4 t418 t419 t420 t421 t424 _ ?side1 ?side2 ?side3 ?side4 A51.out).mono ?_); (case side1 => exact cc_ HR0_3 HB); (case side2 => exact HC0_3.out); (case side3 => exact cc_ HR0_4 HB); (case side4 => exact HC0_4.out); rintro e w69 ⟨v422, v425, rfl, ho0, ho1, hb⟩; refine ⟨_, rfl, ?_⟩; have HO423 := Aside0.mk (Kd.R_lower (Kd.R_new' ho0 (Kd.R_lt (hd_ HO_397003))) (bz_ HB)); have HO426 := Aside0.mk (Kd.R_lower (Kd.R_new' ho1 (Kd.R_lt (hd_ HO_397004))) (bz_ HB)); replace HO_4 := rb_ HO_4 hb; replace HO_6 := rb_ HO_6 hb; replace HO_397003 := Aside0.mk (Kd.R_elder' (hd_ HO_397003) (Kd.R_base ho0) hb); replace HO_397004 := Aside0.mk (Kd.R_elder' (hd_ HO_397004) (Kd.R_base ho1) hb); replace BK373 := Aside0.mk (bb_ BK373 hb); replace BK396 := Aside0.mk (bb_ BK396 hb); replace HB := Aside0.mk (bt_ HB hb); (try clear hb); (try clear hb2); (try clear hk); (try clear hi); (try clear ho0); (try clear ho1); obtain ⟨Ao70, co70, eo70⟩ := Kd.R_slice HO423.out; subst eo70; obtain ⟨Ao71, co71, eo71⟩ := Kd.R_slice HO426.out; subst eo71) | ((with_reducible refine gate_callee (f := 47) rfl ?_); refine gl_ (some 56) Try.func47 #[.agg #[.int .i64 t418, .int .i64 t419, .int .i64 t420, .slice Ao70 t421.length co70, .slice Ao71 t424.length co71]] ?_; (with_reducible refine (impl_PutLsa.calls kj16 t418 t419 t420 _ _ t421 _ _ t424 t427 _ ?side1 ?side2 ?side3 ?side4 A52.out).mono ?_); (case side1 => exact rc_ HO423); (case side2 => exact (Kd.R_reads' HO423.out).2.1); (case side3 => exact rc_ HO426); (case side4 => exact (Kd.R_reads' HO426.out).2.1); rintro e w72 ⟨v428, rfl, ho0, hb⟩; refine ⟨_, rfl, ?_⟩; have HO429 := Aside0.mk (Kd.R_lower (Kd.R_new' (Kd.R_new' ho0 (Kd.R_lt (hd_ HO_4))) (Kd.R_lt (hd_ HO_6))) (bz_ HB)); replace HO_397003 := rb_ HO_397003 hb; replace HO_397004 := rb_ HO_397004 hb; replace HO423 := rb_ HO423 hb; replace HO426 := rb_ HO426 hb; replace HO_4 := Aside0.mk (Kd.R_elder' (hd_ HO_4) (Kd.R_base ho0) hb); replace HO_6 := Aside0.mk (Kd.R_elder' (hd_ HO_6) (Kd.R_base ho0) hb); replace BK373 := Aside0.mk (bb_ BK373 hb); replace BK396 := Aside0.mk (bb_ BK396 hb); replace HB := Aside0.mk (bt_ HB hb); (try clear hb); (try clear hb2); (try clear hk); (try clear hi); (try clear ho0); obtain ⟨Ao73, co73, eo73⟩ := Kd.R_slice HO429.out; subst eo73) | ((with_reducible refine gate_callee (f := 43) rfl ?_); refine gl_ (some 59) Try.func43 #[.slice Ao73 t427.length co73, .slice Ao35 t384.length co35] ?_; (with_reducible refine (laws_eqByteS.calls kj16 _ _ t427 _ _ t384 true _ ?side1 ?side2 ?side3 ?side4 A53.out).mono ?_); (case side1 => exact rc_ HO429); (case side2 => exact (Kd.R_reads' HO429.out).2.1); (case side3 => exact rc_ HO_4); (case side4 => exact (Kd.R_reads' HO_4.out).2.1); rintro e w' ⟨rfl, ⟨nd, rfl⟩⟩; refine ⟨_, rfl, ?_⟩) | ((with_reducible refine gate_callee (f := 45) rfl ?_); refine goesL_ (some 63) rfl rfl Try.func45 (by kernel_rfl) rfl #[.slice Ao34 t416.length co34, .int .i64 1] rfl (by (try simp only [List.map_toArray, List.map_cons, List.map_nil]); first | done | (rw [show t416.length = t397.length from (Kd.R_reads' HO_6.out).1.symm] <;> rfl) | rfl | (simp only [List.length_drop, List.length_take]; rfl)) ?_; (with_reducible refine (laws_heldByteS.calls kj16 _ _ t416 1 t431 _ ?side1 ?side2 A55.out).mono ?_); (case side1 => exact rc_ HO_6); (case side2 => rw [show t416.length = t397.length from (Kd.R_reads' HO_6.out).1.symm]; exact (Kd.R_reads' HO_6.out).2.1); rintro e w' ⟨rfl, ⟨nd, rfl⟩⟩; refine ⟨_, rfl, ?_⟩))
            go_ret
            exact ⟨by first | rfl | (simp [errW_none, errW_some] <;> rfl) | (simp [*, errW_none, errW_some] <;> rfl), by repeat (first | (with_reducible first | exact HB.out | apply below_alloc | apply pw_below_drewN | apply below_drew1 | refine below_set ?_ GE373.out | refine below_set ?_ GE396.out) | exact HB.out)⟩
           ·rw [if_neg c65] at H
            have c65b0 : (t431 == t415) = false := beq_eq_false_iff_ne.mpr c65
            have c65b1 : (t431 != t415) = true := bne_iff_ne.mpr c65
            obtain rfl := Option.some.inj H
            go_wp2_with (first | ((with_reducible refine gate_callee (f := 44) rfl ?_); refine gl_ (some 45) Try.func44 #[.slice Ao34 t397.length co34, .int .i64 1] ?_; (with_reducible refine (laws_markByteS.calls kj16 (fun k_ => some k_ = (.slice Ao34 t397.length co34 : Value).ownBlock) (.slice Ao34 t397.length co34) t397 1 t415 t416 w _ ?side1 ?side2 A46.out).mono ?_); (case side1 => exact by_ HB); (case side2 => exact Kd.R_tight rfl HO_6.out); rintro e w74 ⟨rfl, hy0, hb, hkp⟩; refine ⟨_, rfl, ?_⟩; replace HO_4 := kp_ (fun k_ => some k_ ≠ (.slice Ao34 t397.length co34 : Value).ownBlock) (HO_4.out) hkp; replace HO_397003 := kp_ (fun k_ => True) ((Kd.R_apart' HO_397003.out (Kd.R_typed HO_6.out) (by decide))) hkp; replace HO_397004 := kp_ (fun k_ => True) ((Kd.R_apart' HO_397004.out (Kd.R_typed HO_6.out) (by decide))) hkp; replace BK373 := bk_ BK373 hkp (fun hs_ => (Kd.R_ne HO_6.out BK373.out (by decide)) hs_); replace BK396 := bk_ BK396 hkp (fun hs_ => (Kd.R_ne HO_6.out BK396.out (by decide)) hs_); replace HO_6 := Aside0.mk (Kd.R_reok rfl hy0 (fun k_ e_ => HO_6.out.1 k_ e_)); replace HB := Aside0.mk (hb); (try clear hb); (try clear hkp); (try clear hy0)) | ((with_reducible refine gate_callee (f := 45) rfl ?_); refine goesL_ (some 48) rfl rfl Try.func45 (by kernel_rfl) rfl #[.slice Ao34 t416.length co34, .int .i64 1] rfl (by (try simp only [List.map_toArray, List.map_cons, List.map_nil]); first | done | (rw [show t416.length = t397.length from (Kd.R_reads' HO_6.out).1.symm] <;> rfl) | rfl | (simp only [List.length_drop, List.length_take]; rfl)) ?_; (with_reducible refine (laws_heldByteS.calls kj16 _ _ t416 1 t417 _ ?side1 ?side2 A47.out).mono ?_); (case side1 => exact rc_ HO_6); (case side2 => rw [show t416.length = t397.length from (Kd.R_reads' HO_6.out).1.symm]; exact (Kd.R_reads' HO_6.out).2.1); rintro e w' ⟨rfl, ⟨nd, rfl⟩⟩; refine ⟨_, rfl, ?_⟩; have hnb75 := NB373_396.out; have hnc75 := NB396_373.out; have hcz76_0 := cz_ BK373 0 (.int .i64 a0_0); have hcz76_1 := cz_ BK373 1 (.int .i64 a0_1); have hcz76_2 := cz_ BK373 2 (.int .i64 a0_2); have hcz76_3 := cz_ BK373 3 (.slice A0_3 l0_3.length c0_3); have hcz76_4 := cz_ BK373 4 (.slice A0_4 l0_4.length c0_4); have hfz76_0 := blk_frozen BK373.out 0; have hfz76_1 := blk_frozen BK373.out 1; have hfz76_2 := blk_frozen BK373.out 2; have hfz76_3 := blk_frozen BK373.out 3; have hfz76_4 := blk_frozen BK373.out 4) | ((with_reducible refine gate_callee (f := 15) rfl ?_); refine gl_ (some 55) Try.func15 #[.agg #[.int .i64 a0_0, .int .i64 a0_1, .int .i64 a0_2, .slice A0_3 l0_3.length c0_3, .slice A0_4 l0_4.length c0_4]] ?_; (with_reducible refine (laws_toLsa.calls kj16 a0_0 a0_1 a0_2 _ _ l0_3 _ _ l0_4 t418 t419 t420 t421 t424 _ ?side1 ?side2 ?side3 ?side4 A51.out).mono ?_); (case side1 => exact cc_ HR0_3 HB); (case side2 => exact HC0_3.out); (case side3 => exact cc_ HR0_4 HB); (case side4 => exact HC0_4.out); rintro e w77 ⟨v422, v425, rfl, ho0, ho1, hb⟩; refine ⟨_, rfl, ?_⟩; have HO423 := Aside0.mk (Kd.R_lower (Kd.R_new' ho0 (Kd.R_lt (hd_ HO_397003))) (bz_ HB)); have HO426 := Aside0.mk (Kd.R_lower (Kd.R_new' ho1 (Kd.R_lt (hd_ HO_397004))) (bz_ HB)); replace HO_4 := rb_ HO_4 hb; replace HO_6 := rb_ HO_6 hb; replace HO_397003 := Aside0.mk (Kd.R_elder' (hd_ HO_397003) (Kd.R_base ho0) hb); replace HO_397004 := Aside0.mk (Kd.R_elder' (hd_ HO_397004) (Kd.R_base ho1) hb); replace BK373 := Aside0.mk (bb_ BK373 hb); replace BK396 := Aside0.mk (bb_ BK396 hb); replace HB := Aside0.mk (bt_ HB hb); (try clear hb); (try clear hb2); (try clear hk); (try clear hi); (try clear ho0); (try clear ho1); obtain ⟨Ao78, co78, eo78⟩ := Kd.R_slice HO423.out; subst eo78; obtain ⟨Ao79, co79, eo79⟩ := Kd.R_slice HO426.out; subst eo79) | ((with_reducible refine gate_callee (f := 47) rfl ?_); refine gl_ (some 56) Try.func47 #[.agg #[.int .i64 t418, .int .i64 t419, .int .i64 t420, .slice Ao78 t421.length co78, .slice Ao79 t424.length co79]] ?_; (with_reducible refine (impl_PutLsa.calls kj16 t418 t419 t420 _ _ t421 _ _ t424 t427 _ ?side1 ?side2 ?side3 ?side4 A52.out).mono ?_); (case side1 => exact rc_ HO423); (case side2 => exact (Kd.R_reads' HO423.out).2.1); (case side3 => exact rc_ HO426); (case side4 => exact (Kd.R_reads' HO426.out).2.1); rintro e w80 ⟨v428, rfl, ho0, hb⟩; refine ⟨_, rfl, ?_⟩; have HO429 := Aside0.mk (Kd.R_lower (Kd.R_new' (Kd.R_new' ho0 (Kd.R_lt (hd_ HO_4))) (Kd.R_lt (hd_ HO_6))) (bz_ HB)); replace HO_397003 := rb_ HO_397003 hb; replace HO_397004 := rb_ HO_397004 hb; replace HO423 := rb_ HO423 hb; replace HO426 := rb_ HO426 hb; replace HO_4 := Aside0.mk (Kd.R_elder' (hd_ HO_4) (Kd.R_base ho0) hb); replace HO_6 := Aside0.mk (Kd.R_elder' (hd_ HO_6) (Kd.R_base ho0) hb); replace BK373 := Aside0.mk (bb_ BK373 hb); replace BK396 := Aside0.mk (bb_ BK396 hb); replace HB := Aside0.mk (bt_ HB hb); (try clear hb); (try clear hb2); (try clear hk); (try clear hi); (try clear ho0); obtain ⟨Ao81, co81, eo81⟩ := Kd.R_slice HO429.out; subst eo81) | ((with_reducible refine gate_callee (f := 43) rfl ?_); refine gl_ (some 59) Try.func43 #[.slice Ao81 t427.length co81, .slice Ao35 t384.length co35] ?_; (with_reducible refine (laws_eqByteS.calls kj16 _ _ t427 _ _ t384 true _ ?side1 ?side2 ?side3 ?side4 A53.out).mono ?_); (case side1 => exact rc_ HO429); (case side2 => exact (Kd.R_reads' HO429.out).2.1); (case side3 => exact rc_ HO_4); (case side4 => exact (Kd.R_reads' HO_4.out).2.1); rintro e w' ⟨rfl, ⟨nd, rfl⟩⟩; refine ⟨_, rfl, ?_⟩) | ((with_reducible refine gate_callee (f := 45) rfl ?_); refine goesL_ (some 63) rfl rfl Try.func45 (by kernel_rfl) rfl #[.slice Ao34 t416.length co34, .int .i64 1] rfl (by (try simp only [List.map_toArray, List.map_cons, List.map_nil]); first | done | (rw [show t416.length = t397.length from (Kd.R_reads' HO_6.out).1.symm] <;> rfl) | rfl | (simp only [List.length_drop, List.length_take]; rfl)) ?_; (with_reducible refine (laws_heldByteS.calls kj16 _ _ t416 1 t431 _ ?side1 ?side2 A55.out).mono ?_); (case side1 => exact rc_ HO_6); (case side2 => rw [show t416.length = t397.length from (Kd.R_reads' HO_6.out).1.symm]; exact (Kd.R_reads' HO_6.out).2.1); rintro e w' ⟨rfl, ⟨nd, rfl⟩⟩; refine ⟨_, rfl, ?_⟩))
            go_ret
            exact ⟨by first | rfl | (simp [errW_none, errW_some] <;> rfl) | (simp [*, errW_none, errW_some] <;> rfl), by repeat (first | (with_reducible first | exact HB.out | apply below_alloc | apply pw_below_drewN | apply below_drew1 | refine below_set ?_ GE373.out | refine below_set ?_ GE396.out) | exact HB.out)⟩
         ·replace c54 := Bool.eq_false_iff.mpr c54
          subst c54
          rw [if_neg (show ¬ (false = true) by decide)] at H
          obtain rfl := Option.some.inj H
          go_wp2_with (first | ((with_reducible refine gate_callee (f := 44) rfl ?_); refine gl_ (some 45) Try.func44 #[.slice Ao34 t397.length co34, .int .i64 1] ?_; (with_reducible refine (laws_markByteS.calls kj16 (fun k_ => some k_ = (.slice Ao34 t397.length co34 : Value).ownBlock) (.slice Ao34 t397.length co34) t397 1 t415 t416 w _ ?side1 ?side2 A46.out).mono ?_); (case side1 => exact by_ HB); (case side2 => exact Kd.R_tight rfl HO_6.out); rintro e w82 ⟨rfl, hy0, hb, hkp⟩; refine ⟨_, rfl, ?_⟩; replace HO_4 := kp_ (fun k_ => some k_ ≠ (.slice Ao34 t397.length co34 : Value).ownBlock) (HO_4.out) hkp; replace HO_397003 := kp_ (fun k_ => True) ((Kd.R_apart' HO_397003.out (Kd.R_typed HO_6.out) (by decide))) hkp; replace HO_397004 := kp_ (fun k_ => True) ((Kd.R_apart' HO_397004.out (Kd.R_typed HO_6.out) (by decide))) hkp; replace BK373 := bk_ BK373 hkp (fun hs_ => (Kd.R_ne HO_6.out BK373.out (by decide)) hs_); replace BK396 := bk_ BK396 hkp (fun hs_ => (Kd.R_ne HO_6.out BK396.out (by decide)) hs_); replace HO_6 := Aside0.mk (Kd.R_reok rfl hy0 (fun k_ e_ => HO_6.out.1 k_ e_)); replace HB := Aside0.mk (hb); (try clear hb); (try clear hkp); (try clear hy0)) | ((with_reducible refine gate_callee (f := 45) rfl ?_); refine goesL_ (some 48) rfl rfl Try.func45 (by kernel_rfl) rfl #[.slice Ao34 t416.length co34, .int .i64 1] rfl (by (try simp only [List.map_toArray, List.map_cons, List.map_nil]); first | done | (rw [show t416.length = t397.length from (Kd.R_reads' HO_6.out).1.symm] <;> rfl) | rfl | (simp only [List.length_drop, List.length_take]; rfl)) ?_; (with_reducible refine (laws_heldByteS.calls kj16 _ _ t416 1 t417 _ ?side1 ?side2 A47.out).mono ?_); (case side1 => exact rc_ HO_6); (case side2 => rw [show t416.length = t397.length from (Kd.R_reads' HO_6.out).1.symm]; exact (Kd.R_reads' HO_6.out).2.1); rintro e w' ⟨rfl, ⟨nd, rfl⟩⟩; refine ⟨_, rfl, ?_⟩; have hnb83 := NB373_396.out; have hnc83 := NB396_373.out; have hcz84_0 := cz_ BK373 0 (.int .i64 a0_0); have hcz84_1 := cz_ BK373 1 (.int .i64 a0_1); have hcz84_2 := cz_ BK373 2 (.int .i64 a0_2); have hcz84_3 := cz_ BK373 3 (.slice A0_3 l0_3.length c0_3); have hcz84_4 := cz_ BK373 4 (.slice A0_4 l0_4.length c0_4); have hfz84_0 := blk_frozen BK373.out 0; have hfz84_1 := blk_frozen BK373.out 1; have hfz84_2 := blk_frozen BK373.out 2; have hfz84_3 := blk_frozen BK373.out 3; have hfz84_4 := blk_frozen BK373.out 4) | ((with_reducible refine gate_callee (f := 15) rfl ?_); refine gl_ (some 55) Try.func15 #[.agg #[.int .i64 a0_0, .int .i64 a0_1, .int .i64 a0_2, .slice A0_3 l0_3.length c0_3, .slice A0_4 l0_4.length c0_4]] ?_; (with_reducible refine (laws_toLsa.calls kj16 a0_0 a0_1 a0_2 _ _ l0_3 _ _ l0_4 t418 t419 t420 t421 t424 _ ?side1 ?side2 ?side3 ?side4 A51.out).mono ?_); (case side1 => exact cc_ HR0_3 HB); (case side2 => exact HC0_3.out); (case side3 => exact cc_ HR0_4 HB); (case side4 => exact HC0_4.out); rintro e w85 ⟨v422, v425, rfl, ho0, ho1, hb⟩; refine ⟨_, rfl, ?_⟩; have HO423 := Aside0.mk (Kd.R_lower (Kd.R_new' ho0 (Kd.R_lt (hd_ HO_397003))) (bz_ HB)); have HO426 := Aside0.mk (Kd.R_lower (Kd.R_new' ho1 (Kd.R_lt (hd_ HO_397004))) (bz_ HB)); replace HO_4 := rb_ HO_4 hb; replace HO_6 := rb_ HO_6 hb; replace HO_397003 := Aside0.mk (Kd.R_elder' (hd_ HO_397003) (Kd.R_base ho0) hb); replace HO_397004 := Aside0.mk (Kd.R_elder' (hd_ HO_397004) (Kd.R_base ho1) hb); replace BK373 := Aside0.mk (bb_ BK373 hb); replace BK396 := Aside0.mk (bb_ BK396 hb); replace HB := Aside0.mk (bt_ HB hb); (try clear hb); (try clear hb2); (try clear hk); (try clear hi); (try clear ho0); (try clear ho1); obtain ⟨Ao86, co86, eo86⟩ := Kd.R_slice HO423.out; subst eo86; obtain ⟨Ao87, co87, eo87⟩ := Kd.R_slice HO426.out; subst eo87) | ((with_reducible refine gate_callee (f := 47) rfl ?_); refine gl_ (some 56) Try.func47 #[.agg #[.int .i64 t418, .int .i64 t419, .int .i64 t420, .slice Ao86 t421.length co86, .slice Ao87 t424.length co87]] ?_; (with_reducible refine (impl_PutLsa.calls kj16 t418 t419 t420 _ _ t421 _ _ t424 t427 _ ?side1 ?side2 ?side3 ?side4 A52.out).mono ?_); (case side1 => exact rc_ HO423); (case side2 => exact (Kd.R_reads' HO423.out).2.1); (case side3 => exact rc_ HO426); (case side4 => exact (Kd.R_reads' HO426.out).2.1); rintro e w88 ⟨v428, rfl, ho0, hb⟩; refine ⟨_, rfl, ?_⟩; have HO429 := Aside0.mk (Kd.R_lower (Kd.R_new' (Kd.R_new' ho0 (Kd.R_lt (hd_ HO_4))) (Kd.R_lt (hd_ HO_6))) (bz_ HB)); replace HO_397003 := rb_ HO_397003 hb; replace HO_397004 := rb_ HO_397004 hb; replace HO423 := rb_ HO423 hb; replace HO426 := rb_ HO426 hb; replace HO_4 := Aside0.mk (Kd.R_elder' (hd_ HO_4) (Kd.R_base ho0) hb); replace HO_6 := Aside0.mk (Kd.R_elder' (hd_ HO_6) (Kd.R_base ho0) hb); replace BK373 := Aside0.mk (bb_ BK373 hb); replace BK396 := Aside0.mk (bb_ BK396 hb); replace HB := Aside0.mk (bt_ HB hb); (try clear hb); (try clear hb2); (try clear hk); (try clear hi); (try clear ho0); obtain ⟨Ao89, co89, eo89⟩ := Kd.R_slice HO429.out; subst eo89) | ((with_reducible refine gate_callee (f := 43) rfl ?_); refine gl_ (some 59) Try.func43 #[.slice Ao89 t427.length co89, .slice Ao35 t384.length co35] ?_; (with_reducible refine (laws_eqByteS.calls kj16 _ _ t427 _ _ t384 false _ ?side1 ?side2 ?side3 ?side4 A53.out).mono ?_); (case side1 => exact rc_ HO429); (case side2 => exact (Kd.R_reads' HO429.out).2.1); (case side3 => exact rc_ HO_4); (case side4 => exact (Kd.R_reads' HO_4.out).2.1); rintro e w' ⟨rfl, ⟨nd, rfl⟩⟩; refine ⟨_, rfl, ?_⟩))
          go_ret
          exact ⟨by first | rfl | (simp [errW_none, errW_some] <;> rfl) | (simp [*, errW_none, errW_some] <;> rfl), by repeat (first | (with_reducible first | exact HB.out | apply below_alloc | apply pw_below_drewN | apply below_drew1 | refine below_set ?_ GE373.out | refine below_set ?_ GE396.out) | exact HB.out)⟩
        ·rw [if_neg c50] at H
         have c50b0 : (t417 == t415) = false := beq_eq_false_iff_ne.mpr c50
         have c50b1 : (t417 != t415) = true := bne_iff_ne.mpr c50
         obtain rfl := Option.some.inj H
         go_wp2_with (first | ((with_reducible refine gate_callee (f := 44) rfl ?_); refine gl_ (some 45) Try.func44 #[.slice Ao34 t397.length co34, .int .i64 1] ?_; (with_reducible refine (laws_markByteS.calls kj16 (fun k_ => some k_ = (.slice Ao34 t397.length co34 : Value).ownBlock) (.slice Ao34 t397.length co34) t397 1 t415 t416 w _ ?side1 ?side2 A46.out).mono ?_); (case side1 => exact by_ HB); (case side2 => exact Kd.R_tight rfl HO_6.out); rintro e w90 ⟨rfl, hy0, hb, hkp⟩; refine ⟨_, rfl, ?_⟩; replace HO_4 := kp_ (fun k_ => some k_ ≠ (.slice Ao34 t397.length co34 : Value).ownBlock) (HO_4.out) hkp; replace HO_397003 := kp_ (fun k_ => True) ((Kd.R_apart' HO_397003.out (Kd.R_typed HO_6.out) (by decide))) hkp; replace HO_397004 := kp_ (fun k_ => True) ((Kd.R_apart' HO_397004.out (Kd.R_typed HO_6.out) (by decide))) hkp; replace BK373 := bk_ BK373 hkp (fun hs_ => (Kd.R_ne HO_6.out BK373.out (by decide)) hs_); replace BK396 := bk_ BK396 hkp (fun hs_ => (Kd.R_ne HO_6.out BK396.out (by decide)) hs_); replace HO_6 := Aside0.mk (Kd.R_reok rfl hy0 (fun k_ e_ => HO_6.out.1 k_ e_)); replace HB := Aside0.mk (hb); (try clear hb); (try clear hkp); (try clear hy0)) | ((with_reducible refine gate_callee (f := 45) rfl ?_); refine goesL_ (some 48) rfl rfl Try.func45 (by kernel_rfl) rfl #[.slice Ao34 t416.length co34, .int .i64 1] rfl (by (try simp only [List.map_toArray, List.map_cons, List.map_nil]); first | done | (rw [show t416.length = t397.length from (Kd.R_reads' HO_6.out).1.symm] <;> rfl) | rfl | (simp only [List.length_drop, List.length_take]; rfl)) ?_; (with_reducible refine (laws_heldByteS.calls kj16 _ _ t416 1 t417 _ ?side1 ?side2 A47.out).mono ?_); (case side1 => exact rc_ HO_6); (case side2 => rw [show t416.length = t397.length from (Kd.R_reads' HO_6.out).1.symm]; exact (Kd.R_reads' HO_6.out).2.1); rintro e w' ⟨rfl, ⟨nd, rfl⟩⟩; refine ⟨_, rfl, ?_⟩))
         go_ret
         exact ⟨by first | rfl | (simp [errW_none, errW_some] <;> rfl) | (simp [*, errW_none, errW_some] <;> rfl), by repeat (first | (with_reducible first | exact HB.out | apply below_alloc | apply pw_below_drewN | apply below_drew1 | refine below_set ?_ GE373.out | refine below_set ?_ GE396.out) | exact HB.out)⟩
   ·replace c15 := Bool.eq_false_iff.mpr c15
    subst c15
    rw [if_neg (show ¬ (false = true) by decide)] at H
    obtain rfl := Option.some.inj H
    go_enter Try.func10, Try.ntmps10
    try go_wp2_with (first | ((with_reducible refine gate_dst (N := 1) rfl ?_); refine box_event ?hg (N := 1) ?hd (cs := #[.int .i64 a0_0, .int .i64 a0_1, .int .i64 a0_2, .slice A0_3 l0_3.length c0_3, .slice A0_4 l0_4.length c0_4]) (t := 25) ?hr ?_; (case hd => rfl); (case hg => rfl); (case hr => first | (go_simp; done) | (go_simp; rfl)); intro gb373 hg w91 hbox hb; have BK373 := Aside0.mk hbox; have GW373 := ge_ HB hg; have GE373 := ge_ HB hg; replace HB := Aside0.mk (bt_ HB hb); clear hb hbox hg; have hcz92_0 := cz_ BK373 0 (.int .i64 a0_0); have hcz92_1 := cz_ BK373 1 (.int .i64 a0_1); have hcz92_2 := cz_ BK373 2 (.int .i64 a0_2); have hcz92_3 := cz_ BK373 3 (.slice A0_3 l0_3.length c0_3); have hcz92_4 := cz_ BK373 4 (.slice A0_4 l0_4.length c0_4); have hfz92_0 := blk_frozen BK373.out 0; have hfz92_1 := blk_frozen BK373.out 1; have hfz92_2 := blk_frozen BK373.out 2; have hfz92_3 := blk_frozen BK373.out 3; have hfz92_4 := blk_frozen BK373.out 4) | ((with_reducible refine gate_callee (f := 13) rfl ?_); refine gl_ (some 13) Try.func13 #[.agg #[.int .i64 a0_0, .int .i64 a0_1, .int .i64 a0_2, .slice A0_3 l0_3.length c0_3, .slice A0_4 l0_4.length c0_4], .int .i64 1048576] ?_; (with_reducible refine (laws_szLsa.calls a0_0 a0_1 a0_2 _ _ l0_3 _ _ l0_4 1048576 t374 _ ?side1 ?side2 ?side3 ?side4 A2.out).mono ?_); (case side1 => exact cb_ HR0_3 HB); (case side2 => exact HC0_3.out); (case side3 => exact cb_ HR0_4 HB); (case side4 => exact HC0_4.out); rintro e w93 ⟨rfl, hb⟩; refine ⟨_, rfl, ?_⟩; replace BK373 := Aside0.mk (bb_ BK373 hb); replace HB := Aside0.mk (bt_ HB hb); (try clear hb); (try clear hb2); (try clear hk); (try clear hi); have hcz94_0 := cz_ BK373 0 (.int .i64 a0_0); have hcz94_1 := cz_ BK373 1 (.int .i64 a0_1); have hcz94_2 := cz_ BK373 2 (.int .i64 a0_2); have hcz94_3 := cz_ BK373 3 (.slice A0_3 l0_3.length c0_3); have hcz94_4 := cz_ BK373 4 (.slice A0_4 l0_4.length c0_4); have hfz94_0 := blk_frozen BK373.out 0; have hfz94_1 := blk_frozen BK373.out 1; have hfz94_2 := blk_frozen BK373.out 2; have hfz94_3 := blk_frozen BK373.out 3; have hfz94_4 := blk_frozen BK373.out 4) | ((with_reducible refine gate_callee (f := 15) rfl ?_); refine gl_ (some 17) Try.func15 #[.agg #[.int .i64 a0_0, .int .i64 a0_1, .int .i64 a0_2, .slice A0_3 l0_3.length c0_3, .slice A0_4 l0_4.length c0_4]] ?_; (with_reducible refine (laws_toLsa.calls k a0_0 a0_1 a0_2 _ _ l0_3 _ _ l0_4 t375 t376 t377 t378 t381 _ ?side1 ?side2 ?side3 ?side4 A7.out).mono ?_); (case side1 => exact cb_ HR0_3 HB); (case side2 => exact HC0_3.out); (case side3 => exact cb_ HR0_4 HB); (case side4 => exact HC0_4.out); rintro e w95 ⟨v379, v382, rfl, ho0, ho1, hb⟩; refine ⟨_, rfl, ?_⟩; have HO380 := Aside0.mk (Kd.R_lower ho0 (bz_ HB)); have HO383 := Aside0.mk (Kd.R_lower ho1 (bz_ HB)); replace BK373 := Aside0.mk (bb_ BK373 hb); replace HB := Aside0.mk (bt_ HB hb); (try clear hb); (try clear hb2); (try clear hk); (try clear hi); (try clear ho0); (try clear ho1); obtain ⟨Ao96, co96, eo96⟩ := Kd.R_slice HO380.out; subst eo96; obtain ⟨Ao97, co97, eo97⟩ := Kd.R_slice HO383.out; subst eo97) | ((with_reducible refine gate_callee (f := 46) rfl ?_); refine gl_ (some 18) Try.func46 #[.agg #[.int .i64 t375, .int .i64 t376, .int .i64 t377, .slice Ao96 t378.length co96, .slice Ao97 t381.length co97]] ?_; (with_reducible refine (spec_PutLsa.calls k t375 t376 t377 _ _ t378 _ _ t381 t384 _ ?side1 ?side2 ?side3 ?side4 A8.out).mono ?_); (case side1 => exact rc_ HO380); (case side2 => exact (Kd.R_reads' HO380.out).2.1); (case side3 => exact rc_ HO383); (case side4 => exact (Kd.R_reads' HO383.out).2.1); rintro e w98 ⟨v385, rfl, ho0, hb⟩; refine ⟨_, rfl, ?_⟩; have HO386 := Aside0.mk (Kd.R_lower ho0 (bz_ HB)); replace HO380 := rb_ HO380 hb; replace HO383 := rb_ HO383 hb; replace BK373 := Aside0.mk (bb_ BK373 hb); replace HB := Aside0.mk (bt_ HB hb); (try clear hb); (try clear hb2); (try clear hk); (try clear hi); (try clear ho0); have hcz99_0 := cz_ BK373 0 (.int .i64 a0_0); have hcz99_1 := cz_ BK373 1 (.int .i64 a0_1); have hcz99_2 := cz_ BK373 2 (.int .i64 a0_2); have hcz99_3 := cz_ BK373 3 (.slice A0_3 l0_3.length c0_3); have hcz99_4 := cz_ BK373 4 (.slice A0_4 l0_4.length c0_4); have hfz99_0 := blk_frozen BK373.out 0; have hfz99_1 := blk_frozen BK373.out 1; have hfz99_2 := blk_frozen BK373.out 2; have hfz99_3 := blk_frozen BK373.out 3; have hfz99_4 := blk_frozen BK373.out 4) | ((with_reducible refine gate_callee (f := 15) rfl ?_); refine gl_ (some 20) Try.func15 #[.agg #[.int .i64 a0_0, .int .i64 a0_1, .int .i64 a0_2, .slice A0_3 l0_3.length c0_3, .slice A0_4 l0_4.length c0_4]] ?_; (with_reducible refine (laws_toLsa.calls k a0_0 a0_1 a0_2 _ _ l0_3 _ _ l0_4 t387 t388 t389 t390 t393 _ ?side1 ?side2 ?side3 ?side4 A9.out).mono ?_); (case side1 => exact cb_ HR0_3 HB); (case side2 => exact HC0_3.out); (case side3 => exact cb_ HR0_4 HB); (case side4 => exact HC0_4.out); rintro e w100 ⟨v391, v394, rfl, ho0, ho1, hb⟩; refine ⟨_, rfl, ?_⟩; have HO392 := Aside0.mk (Kd.R_lower (Kd.R_new' ho0 (Kd.R_lt (hd_ HO380))) (bz_ HB)); have HO395 := Aside0.mk (Kd.R_lower (Kd.R_new' ho1 (Kd.R_lt (hd_ HO383))) (bz_ HB)); replace HO386 := rb_ HO386 hb; replace HO380 := Aside0.mk (Kd.R_elder' (hd_ HO380) (Kd.R_base ho0) hb); replace HO383 := Aside0.mk (Kd.R_elder' (hd_ HO383) (Kd.R_base ho1) hb); replace BK373 := Aside0.mk (bb_ BK373 hb); replace HB := Aside0.mk (bt_ HB hb); (try clear hb); (try clear hb2); (try clear hk); (try clear hi); (try clear ho0); (try clear ho1)) | ((with_reducible refine gate_dst (N := 5) rfl ?_); refine box_event ?hg (N := 5) ?hd (cs := #[.int .i64 0, .int .i64 0, .int .i64 0, .slice none 0 0, .slice none 0 0]) (t := 31) ?hr ?_; (case hd => rfl); (case hg => rfl); (case hr => first | (go_simp; done) | (go_simp; rfl)); intro gb396 hg w101 hbox hb; have BK396 := Aside0.mk hbox; have GW396 := ge_ HB hg; have GE396 := ge_ HB hg; have NB373_396 := nl_ BK373 hg; have NB396_373 := ng_ BK373 hg; replace HO380 := rb_ HO380 hb; replace HO383 := rb_ HO383 hb; replace HO386 := rb_ HO386 hb; replace HO392 := rb_ HO392 hb; replace HO395 := rb_ HO395 hb; replace HB := Aside0.mk (bt_ HB hb); replace BK373 := Aside0.mk (bb_ BK373 hb); clear hb hbox hg; have hnb102 := NB396_373.out; have hnc102 := NB373_396.out; have hcz103_0 := cz_ BK396 0 (.int .i64 0); have hcz103_1 := cz_ BK396 1 (.int .i64 0); have hcz103_2 := cz_ BK396 2 (.int .i64 0); have hcz103_3 := cz_ BK396 3 (.slice none 0 0); have hcz103_4 := cz_ BK396 4 (.slice none 0 0); have hfz103_0 := blk_frozen BK396.out 0; have hfz103_1 := blk_frozen BK396.out 1; have hfz103_2 := blk_frozen BK396.out 2; have hfz103_3 := blk_frozen BK396.out 3; have hfz103_4 := blk_frozen BK396.out 4; obtain ⟨Ao104, co104, eo104⟩ := Kd.R_slice HO392.out; subst eo104; obtain ⟨Ao105, co105, eo105⟩ := Kd.R_slice HO395.out; subst eo105) | ((with_reducible refine gate_callee (f := 47) rfl ?_); refine gl_ (some 22) Try.func47 #[.agg #[.int .i64 t387, .int .i64 t388, .int .i64 t389, .slice Ao104 t390.length co104, .slice Ao105 t393.length co105]] ?_; (with_reducible refine (impl_PutLsa.calls k t387 t388 t389 _ _ t390 _ _ t393 t397 _ ?side1 ?side2 ?side3 ?side4 A10.out).mono ?_); (case side1 => refine (Kd.R_reads' (e := 70) (base := w.heap.size) (ok := fun k_ => (True ∧ some k_ ≠ (.slice Ao96 t378.length co96 : Value).ownBlock)) (n := t390.length) (c := co104) ?_).2.2; exact (hs_ HO392 BK396)); (case side2 => exact (Kd.R_reads' HO392.out).2.1); (case side3 => refine (Kd.R_reads' (e := 74) (base := w.heap.size) (ok := fun k_ => (True ∧ some k_ ≠ (.slice Ao97 t381.length co97 : Value).ownBlock)) (n := t393.length) (c := co105) ?_).2.2; exact (hs_ HO395 BK396)); (case side4 => exact (Kd.R_reads' HO395.out).2.1); rintro e w106 ⟨v398, rfl, ho0, hb⟩; refine ⟨_, rfl, ?_⟩; have HO399 := Aside0.mk (Kd.R_lower (Kd.R_new' ho0 (Kd.R_lt (hs_ HO386 BK396))) (bz_ HB)); replace HO380 := rs_ HO380 BK396 hb; replace HO383 := rs_ HO383 BK396 hb; replace HO392 := rs_ HO392 BK396 hb; replace HO395 := rs_ HO395 BK396 hb; replace HO386 := Aside0.mk (Kd.R_elder' (hs_ HO386 BK396) (Kd.R_base ho0) hb); replace BK373 := bf_ BK373 NB373_396 hb; replace BK396 := Aside0.mk (blk_below (g := gb396) (o := .cells #[.int .i64 t387, .int .i64 t388, .int .i64 t389, .slice Ao104 t390.length co104, .slice Ao105 t393.length co105] 31 (0, 0)) (by (with_reducible repeat (first | refine blk_drewN ?_ _ | refine blk_drew ?_ | refine blk_alloc ?_ _)); refine blk_put (cs := #[.int .i64 t387, .int .i64 t388, .int .i64 t389, .slice Ao104 t390.length co104, .slice none 0 0]) ?_ 4 _ rfl; (with_reducible repeat (first | refine blk_drewN ?_ _ | refine blk_drew ?_ | refine blk_alloc ?_ _)); refine blk_put (cs := #[.int .i64 t387, .int .i64 t388, .int .i64 t389, .slice none 0 0, .slice none 0 0]) ?_ 3 _ rfl; (with_reducible repeat (first | refine blk_drewN ?_ _ | refine blk_drew ?_ | refine blk_alloc ?_ _)); refine blk_put (cs := #[.int .i64 t387, .int .i64 t388, .int .i64 0, .slice none 0 0, .slice none 0 0]) ?_ 2 _ rfl; (with_reducible repeat (first | refine blk_drewN ?_ _ | refine blk_drew ?_ | refine blk_alloc ?_ _)); refine blk_put (cs := #[.int .i64 t387, .int .i64 0, .int .i64 0, .slice none 0 0, .slice none 0 0]) ?_ 1 _ rfl; (with_reducible repeat (first | refine blk_drewN ?_ _ | refine blk_drew ?_ | refine blk_alloc ?_ _)); refine blk_put (cs := #[.int .i64 0, .int .i64 0, .int .i64 0, .slice none 0 0, .slice none 0 0]) ?_ 0 _ rfl; (with_reducible repeat (first | refine blk_drewN ?_ _ | refine blk_drew ?_ | refine blk_alloc ?_ _)); exact BK396.out) hb); replace HB := Aside0.mk (bt_ HB hb); (try clear hb); (try clear hb2); (try clear hk); (try clear hi); (try clear ho0); obtain ⟨Ao107, co107, eo107⟩ := Kd.R_slice HO399.out; subst eo107; obtain ⟨Ao108, co108, eo108⟩ := Kd.R_slice HO386.out; subst eo108) | ((with_reducible refine gate_callee (f := 43) rfl ?_); refine gl_ (some 25) Try.func43 #[.slice Ao107 t397.length co107, .slice Ao108 t384.length co108] ?_; (with_reducible refine (laws_eqByteS.calls k _ _ t397 _ _ t384 true _ ?side1 ?side2 ?side3 ?side4 A11.out).mono ?_); (case side1 => exact rc_ HO399); (case side2 => exact (Kd.R_reads' HO399.out).2.1); (case side3 => exact rc_ HO386); (case side4 => exact (Kd.R_reads' HO386.out).2.1); rintro e w' ⟨rfl, ⟨nd, rfl⟩⟩; refine ⟨_, rfl, ?_⟩))
    (try (rw [drewN_self w106]; generalize hq_ : World.drewN w106 _ = w106; replace HO380 : Aside0 (Kd.R k70 70 w106 w.heap.size (fun k_ => some k_ ≠ (.slice Ao104 t390.length co104 : Value).ownBlock) (.slice Ao96 t378.length co96) t378) := ⟨by rw [← hq_]; exact (by (with_reducible repeat (first | apply Kd.R_alloc | apply Kd.R_drewN | apply Kd.R_drew)); exact Kd.R_mono HO380.out (fun _ hk => hk.2))⟩; replace HO383 : Aside0 (Kd.R k74 74 w106 w.heap.size (fun k_ => some k_ ≠ (.slice Ao105 t393.length co105 : Value).ownBlock) (.slice Ao97 t381.length co97) t381) := ⟨by rw [← hq_]; exact (by (with_reducible repeat (first | apply Kd.R_alloc | apply Kd.R_drewN | apply Kd.R_drew)); exact Kd.R_mono HO383.out (fun _ hk => hk.2))⟩; replace HO386 : Aside0 (Kd.R (Kd.int .u8) 5 w106 w.heap.size (fun k_ => some k_ ≠ (.slice Ao107 t397.length co107 : Value).ownBlock) (.slice Ao108 t384.length co108) t384) := ⟨by rw [← hq_]; exact (by (with_reducible repeat (first | apply Kd.R_alloc | apply Kd.R_drewN | apply Kd.R_drew)); exact Kd.R_mono HO386.out (fun _ hk => hk.2))⟩; replace HO392 : Aside0 (Kd.R k70 70 w106 w.heap.size (fun k_ => some k_ ≠ (.slice Ao96 t378.length co96 : Value).ownBlock) (.slice Ao104 t390.length co104) t390) := ⟨by rw [← hq_]; exact (by (with_reducible repeat (first | apply Kd.R_alloc | apply Kd.R_drewN | apply Kd.R_drew)); exact Kd.R_mono HO392.out (fun _ hk => hk.2))⟩; replace HO395 : Aside0 (Kd.R k74 74 w106 w.heap.size (fun k_ => some k_ ≠ (.slice Ao97 t381.length co97 : Value).ownBlock) (.slice Ao105 t393.length co105) t393) := ⟨by rw [← hq_]; exact (by (with_reducible repeat (first | apply Kd.R_alloc | apply Kd.R_drewN | apply Kd.R_drew)); exact Kd.R_mono HO395.out (fun _ hk => hk.2))⟩; replace HO399 : Aside0 (Kd.R (Kd.int .u8) 5 w106 w.heap.size (fun k_ => some k_ ≠ (.slice Ao108 t384.length co108 : Value).ownBlock) (.slice Ao107 t397.length co107) t397) := ⟨by rw [← hq_]; exact (by (with_reducible repeat (first | apply Kd.R_alloc | apply Kd.R_drewN | apply Kd.R_drew)); exact Kd.R_mono HO399.out (fun _ hk => hk.2))⟩; replace BK373 : Aside0 (w106.heap[gb373]? = some (.cells #[.int .i64 a0_0, .int .i64 a0_1, .int .i64 a0_2, .slice A0_3 l0_3.length c0_3, .slice A0_4 l0_4.length c0_4] 25 (0, 0))) := ⟨by rw [← hq_]; exact (by (with_reducible repeat (first | refine blk_drewN ?_ _ | refine blk_drew ?_ | refine blk_alloc ?_ _)); exact BK373.out)⟩; replace BK396 : Aside0 (w106.heap[gb396]? = some (.cells #[.int .i64 t387, .int .i64 t388, .int .i64 t389, .slice Ao104 t390.length co104, .slice Ao105 t393.length co105] 31 (0, 0))) := ⟨by rw [← hq_]; exact (by (with_reducible repeat (first | refine blk_drewN ?_ _ | refine blk_drew ?_ | refine blk_alloc ?_ _)); exact BK396.out)⟩; replace HB : Aside0 (Below w.heap.size w w106) := ⟨by rw [← hq_]; exact (by repeat (first | (with_reducible first | exact HB.out | apply below_alloc | apply pw_below_drewN | apply below_drew1 | refine below_set ?_ GE373.out | refine below_set ?_ GE396.out) | exact HB.out))⟩; clear hq_))
    replace HO380 := Aside0.mk (Kd.R_drew HO380.out)
    replace HO383 := Aside0.mk (Kd.R_drew HO383.out)
    replace HO386 := Aside0.mk (Kd.R_drew HO386.out)
    replace HO392 := Aside0.mk (Kd.R_drew HO392.out)
    replace HO395 := Aside0.mk (Kd.R_drew HO395.out)
    replace HO399 := Aside0.mk (Kd.R_drew HO399.out)
    replace BK373 := Aside0.mk (blk_drew BK373.out)
    replace BK396 := Aside0.mk (blk_drew BK396.out)
    replace HB := Aside0.mk (below_drew1 HB.out)
    refine start_ (n := 5) (S := fun w' => w'.cell? ⟨gb396, 0, none⟩ = some (.int .i64 t387) ∧ w'.cell? ⟨gb396, 1, none⟩ = some (.int .i64 t388) ∧ w'.cell? ⟨gb396, 2, none⟩ = some (.int .i64 t389) ∧ w'.cell? ⟨gb396, 3, none⟩ = some (.slice Ao104 t390.length co104) ∧ w'.cell? ⟨gb396, 4, none⟩ = some (.slice Ao105 t393.length co105) ∧ w'.cell? ⟨gb373, 0, none⟩ = some (.int .i64 a0_0) ∧ w'.cell? ⟨gb373, 1, none⟩ = some (.int .i64 a0_1) ∧ w'.cell? ⟨gb373, 2, none⟩ = some (.int .i64 a0_2) ∧ w'.cell? ⟨gb373, 3, none⟩ = some (.slice A0_3 l0_3.length c0_3) ∧ w'.cell? ⟨gb373, 4, none⟩ = some (.slice A0_4 l0_4.length c0_4)) (ds := []) ba15_0 (by kernel_rfl) rfl rfl ⟨(blk_cell BK396.out 0).trans rfl, (blk_cell BK396.out 1).trans rfl, (blk_cell BK396.out 2).trans rfl, (blk_cell BK396.out 3).trans rfl, (blk_cell BK396.out 4).trans rfl, (blk_cell BK373.out 0).trans rfl, (blk_cell BK373.out 1).trans rfl, (blk_cell BK373.out 2).trans rfl, (blk_cell BK373.out 3).trans rfl, (blk_cell BK373.out 4).trans rfl⟩ (fun hHeld => ?_)
    generalize w106.drew = w109 at HO380 HO383 HO386 HO392 HO395 HO399 BK373 BK396 HB hHeld ⊢
    refine take_ (i := 0) (N := some 27) (v := ?_) (a' := ?_) ba15_1 rfl rfl (by kernel_rfl) (fun _ _ _ h => h) (Or.inl ⟨by rfl, ?_⟩) hHeld ?_ ?_
    rotate_left; · rintro w' ⟨s0, s1, s2, s3, s4, s5, s6, s7, s8, s9⟩; go_simp; with_reducible rfl
    rotate_left; · simp only [Act.put, List.setIfInBounds_toArray, List.set_cons_zero, List.set_cons_succ, i64_w, i32_w]; rfl
    refine take_ (i := 1) (N := some 28) (v := ?_) (a' := ?_) ba15_2 rfl rfl (by kernel_rfl) (fun _ _ _ h => h) (Or.inl ⟨by rfl, ?_⟩) hHeld ?_ ?_
    rotate_left; · rintro w' ⟨s0, s1, s2, s3, s4, s5, s6, s7, s8, s9⟩; go_simp; with_reducible rfl
    rotate_left; · simp only [Act.put, List.setIfInBounds_toArray, List.set_cons_zero, List.set_cons_succ, i64_w, i32_w]; rfl
    refine one_ (i := 2) (N := some 29) ba15_3 rfl rfl (by kernel_rfl) (by decide) (fun K hK => ?_)
    refine gz_ Try.func15 #[.agg #[.int .i64 a0_0, .int .i64 a0_1, .int .i64 a0_2, .slice A0_3 l0_3.length c0_3, .slice A0_4 l0_4.length c0_4]] ?_
    with_reducible refine (laws_toLsa.calls k a0_0 a0_1 a0_2 _ _ l0_3 _ _ l0_4 t401 t402 t403 t404 t407 _ ?side1 ?side2 ?side3 ?side4 A13.out).mono ?_
    (case side1 => exact cb_ HR0_3 HB)
    (case side2 => exact HC0_3.out)
    (case side3 => exact cb_ HR0_4 HB)
    (case side4 => exact HC0_4.out)
    rintro e w110 ⟨v405, v408, rfl, ho0, ho1, hb⟩
    refine ⟨_, rfl, ?_⟩
    have HO406 := Aside0.mk (Kd.R_lower (Kd.R_new' (Kd.R_new' ho0 (Kd.R_lt (hd_ HO380))) (Kd.R_lt (hd_ HO392))) (bz_ HB))
    have HO409 := Aside0.mk (Kd.R_lower (Kd.R_new' (Kd.R_new' ho1 (Kd.R_lt (hd_ HO383))) (Kd.R_lt (hd_ HO395))) (bz_ HB))
    replace HO386 := rb_ HO386 hb
    replace HO399 := rb_ HO399 hb
    replace HO380 := Aside0.mk (Kd.R_elder' (hd_ HO380) (Kd.R_base ho0) hb)
    replace HO392 := Aside0.mk (Kd.R_elder' (hd_ HO392) (Kd.R_base ho0) hb)
    replace HO383 := Aside0.mk (Kd.R_elder' (hd_ HO383) (Kd.R_base ho1) hb)
    replace HO395 := Aside0.mk (Kd.R_elder' (hd_ HO395) (Kd.R_base ho1) hb)
    replace BK373 := Aside0.mk (bb_ BK373 hb)
    replace BK396 := Aside0.mk (bb_ BK396 hb)
    replace HB := Aside0.mk (bt_ HB hb)
    (try clear hb)
    (try clear hb2)
    (try clear hk)
    (try clear hi)
    (try clear ho0)
    (try clear ho1)
    obtain ⟨Ao111, co111, eo111⟩ := Kd.R_slice HO406.out
    (first | subst eo111 | (injection eo111 with f1_ f2_ f3_; have f4_ := f1_.symm; have f5_ := f3_.symm; clear f1_ f2_ f3_; subst f4_; subst f5_))
    obtain ⟨Ao112, co112, eo112⟩ := Kd.R_slice HO409.out
    (first | subst eo112 | (injection eo112 with f1_ f2_ f3_; have f4_ := f1_.symm; have f5_ := f3_.symm; clear f1_ f2_ f3_; subst f4_; subst f5_))
    refine hK.out _ _ ⟨(blk_cell BK396.out 0).trans rfl, (blk_cell BK396.out 1).trans rfl, (blk_cell BK396.out 2).trans rfl, (blk_cell BK396.out 3).trans rfl, (blk_cell BK396.out 4).trans rfl, (blk_cell BK373.out 0).trans rfl, (blk_cell BK373.out 1).trans rfl, (blk_cell BK373.out 2).trans rfl, (blk_cell BK373.out 3).trans rfl, (blk_cell BK373.out 4).trans rfl⟩ (fun hHeld => ?_)
    clear hK K
    refine nz_ 29 ?_
    refine one_ (i := 3) (N := some 30) ba15_4 rfl rfl (by kernel_rfl) (by decide) (fun K hK => ?_)
    refine gz_ Try.func17 #[.agg #[.int .i64 t387, .int .i64 t388, .int .i64 t389, .slice Ao104 t390.length co104, .slice Ao105 t393.length co105], .agg #[.int .i64 t401, .int .i64 t402, .int .i64 t403, .slice Ao111 t404.length co111, .slice Ao112 t407.length co112]] ?_
    with_reducible refine (laws_eqLsa.calls k t387 t388 t389 _ _ t390 _ _ t393 t401 t402 t403 _ _ t404 _ _ t407 false _ ?side1 ?side2 ?side3 ?side4 ?side5 ?side6 ?side7 ?side8 A14.out).mono ?_
    (case side1 => exact rc_ HO392)
    (case side2 => exact (Kd.R_reads' HO392.out).2.1)
    (case side3 => exact rc_ HO395)
    (case side4 => exact (Kd.R_reads' HO395.out).2.1)
    (case side5 => exact rc_ HO406)
    (case side6 => exact (Kd.R_reads' HO406.out).2.1)
    (case side7 => exact rc_ HO409)
    (case side8 => exact (Kd.R_reads' HO409.out).2.1)
    rintro e w113 ⟨rfl, hb⟩
    refine ⟨_, rfl, ?_⟩
    replace HO380 := rb_ HO380 hb
    replace HO383 := rb_ HO383 hb
    replace HO386 := rb_ HO386 hb
    replace HO392 := rb_ HO392 hb
    replace HO395 := rb_ HO395 hb
    replace HO399 := rb_ HO399 hb
    replace HO406 := rb_ HO406 hb
    replace HO409 := rb_ HO409 hb
    replace BK373 := Aside0.mk (bb_ BK373 hb)
    replace BK396 := Aside0.mk (bb_ BK396 hb)
    replace HB := Aside0.mk (bt_ HB hb)
    (try clear hb)
    (try clear hb2)
    (try clear hk)
    (try clear hi)
    refine hK.out _ _ ⟨(blk_cell BK396.out 0).trans rfl, (blk_cell BK396.out 1).trans rfl, (blk_cell BK396.out 2).trans rfl, (blk_cell BK396.out 3).trans rfl, (blk_cell BK396.out 4).trans rfl, (blk_cell BK373.out 0).trans rfl, (blk_cell BK373.out 1).trans rfl, (blk_cell BK373.out 2).trans rfl, (blk_cell BK373.out 3).trans rfl, (blk_cell BK373.out 4).trans rfl⟩ (fun hHeld => ?_)
    clear hK K
    refine nz_ 30 ?_
    refine pure_ (i := 4) (N := some 31) (v := ?_) (a' := ?_) ba15_5 rfl rfl (by kernel_rfl) (fun _ _ _ h => h) (Or.inl ⟨by rfl, ?_⟩) ?_ ?_
    rotate_left; · intro w'; go_simp; with_reducible rfl
    rotate_left; · simp only [Act.put, List.setIfInBounds_toArray, List.set_cons_zero, List.set_cons_succ, i64_w, i32_w]; rfl
    refine done_ (by kernel_rfl) ?_
    try go_wp2
    go_ret
    exact ⟨by first | rfl | (simp [errW_none, errW_some] <;> rfl) | (simp [*, errW_none, errW_some] <;> rfl), by repeat (first | (with_reducible first | exact HB.out | apply below_alloc | apply pw_below_drewN | apply below_drew1 | refine below_set ?_ GE373.out | refine below_set ?_ GE396.out) | exact HB.out)⟩
  ·replace c12 := Bool.eq_false_iff.mpr c12
   subst c12
   rw [if_neg (show ¬ (false = true) by decide)] at H
   obtain rfl := Option.some.inj H
   go_enter Try.func10, Try.ntmps10
   go_wp2_with (first | ((with_reducible refine gate_dst (N := 1) rfl ?_); refine box_event ?hg (N := 1) ?hd (cs := #[.int .i64 a0_0, .int .i64 a0_1, .int .i64 a0_2, .slice A0_3 l0_3.length c0_3, .slice A0_4 l0_4.length c0_4]) (t := 25) ?hr ?_; (case hd => rfl); (case hg => rfl); (case hr => first | (go_simp; done) | (go_simp; rfl)); intro gb373 hg w114 hbox hb; have BK373 := Aside0.mk hbox; have GW373 := ge_ HB hg; have GE373 := ge_ HB hg; replace HB := Aside0.mk (bt_ HB hb); clear hb hbox hg; have hcz115_0 := cz_ BK373 0 (.int .i64 a0_0); have hcz115_1 := cz_ BK373 1 (.int .i64 a0_1); have hcz115_2 := cz_ BK373 2 (.int .i64 a0_2); have hcz115_3 := cz_ BK373 3 (.slice A0_3 l0_3.length c0_3); have hcz115_4 := cz_ BK373 4 (.slice A0_4 l0_4.length c0_4); have hfz115_0 := blk_frozen BK373.out 0; have hfz115_1 := blk_frozen BK373.out 1; have hfz115_2 := blk_frozen BK373.out 2; have hfz115_3 := blk_frozen BK373.out 3; have hfz115_4 := blk_frozen BK373.out 4) | ((with_reducible refine gate_callee (f := 13) rfl ?_); refine gl_ (some 13) Try.func13 #[.agg #[.int .i64 a0_0, .int .i64 a0_1, .int .i64 a0_2, .slice A0_3 l0_3.length c0_3, .slice A0_4 l0_4.length c0_4], .int .i64 1048576] ?_; (with_reducible refine (laws_szLsa.calls a0_0 a0_1 a0_2 _ _ l0_3 _ _ l0_4 1048576 t374 _ ?side1 ?side2 ?side3 ?side4 A2.out).mono ?_); (case side1 => exact cb_ HR0_3 HB); (case side2 => exact HC0_3.out); (case side3 => exact cb_ HR0_4 HB); (case side4 => exact HC0_4.out); rintro e w116 ⟨rfl, hb⟩; refine ⟨_, rfl, ?_⟩; replace BK373 := Aside0.mk (bb_ BK373 hb); replace HB := Aside0.mk (bt_ HB hb); (try clear hb); (try clear hb2); (try clear hk); (try clear hi); have hcz117_0 := cz_ BK373 0 (.int .i64 a0_0); have hcz117_1 := cz_ BK373 1 (.int .i64 a0_1); have hcz117_2 := cz_ BK373 2 (.int .i64 a0_2); have hcz117_3 := cz_ BK373 3 (.slice A0_3 l0_3.length c0_3); have hcz117_4 := cz_ BK373 4 (.slice A0_4 l0_4.length c0_4); have hfz117_0 := blk_frozen BK373.out 0; have hfz117_1 := blk_frozen BK373.out 1; have hfz117_2 := blk_frozen BK373.out 2; have hfz117_3 := blk_frozen BK373.out 3; have hfz117_4 := blk_frozen BK373.out 4) | ((with_reducible refine gate_callee (f := 15) rfl ?_); refine gl_ (some 17) Try.func15 #[.agg #[.int .i64 a0_0, .int .i64 a0_1, .int .i64 a0_2, .slice A0_3 l0_3.length c0_3, .slice A0_4 l0_4.length c0_4]] ?_; (with_reducible refine (laws_toLsa.calls k a0_0 a0_1 a0_2 _ _ l0_3 _ _ l0_4 t375 t376 t377 t378 t381 _ ?side1 ?side2 ?side3 ?side4 A7.out).mono ?_); (case side1 => exact cb_ HR0_3 HB); (case side2 => exact HC0_3.out); (case side3 => exact cb_ HR0_4 HB); (case side4 => exact HC0_4.out); rintro e w118 ⟨v379, v382, rfl, ho0, ho1, hb⟩; refine ⟨_, rfl, ?_⟩; have HO380 := Aside0.mk (Kd.R_lower ho0 (bz_ HB)); have HO383 := Aside0.mk (Kd.R_lower ho1 (bz_ HB)); replace BK373 := Aside0.mk (bb_ BK373 hb); replace HB := Aside0.mk (bt_ HB hb); (try clear hb); (try clear hb2); (try clear hk); (try clear hi); (try clear ho0); (try clear ho1); obtain ⟨Ao119, co119, eo119⟩ := Kd.R_slice HO380.out; subst eo119; obtain ⟨Ao120, co120, eo120⟩ := Kd.R_slice HO383.out; subst eo120) | ((with_reducible refine gate_callee (f := 46) rfl ?_); refine gl_ (some 18) Try.func46 #[.agg #[.int .i64 t375, .int .i64 t376, .int .i64 t377, .slice Ao119 t378.length co119, .slice Ao120 t381.length co120]] ?_; (with_reducible refine (spec_PutLsa.calls k t375 t376 t377 _ _ t378 _ _ t381 t384 _ ?side1 ?side2 ?side3 ?side4 A8.out).mono ?_); (case side1 => exact rc_ HO380); (case side2 => exact (Kd.R_reads' HO380.out).2.1); (case side3 => exact rc_ HO383); (case side4 => exact (Kd.R_reads' HO383.out).2.1); rintro e w121 ⟨v385, rfl, ho0, hb⟩; refine ⟨_, rfl, ?_⟩; have HO386 := Aside0.mk (Kd.R_lower ho0 (bz_ HB)); replace HO380 := rb_ HO380 hb; replace HO383 := rb_ HO383 hb; replace BK373 := Aside0.mk (bb_ BK373 hb); replace HB := Aside0.mk (bt_ HB hb); (try clear hb); (try clear hb2); (try clear hk); (try clear hi); (try clear ho0); have hcz122_0 := cz_ BK373 0 (.int .i64 a0_0); have hcz122_1 := cz_ BK373 1 (.int .i64 a0_1); have hcz122_2 := cz_ BK373 2 (.int .i64 a0_2); have hcz122_3 := cz_ BK373 3 (.slice A0_3 l0_3.length c0_3); have hcz122_4 := cz_ BK373 4 (.slice A0_4 l0_4.length c0_4); have hfz122_0 := blk_frozen BK373.out 0; have hfz122_1 := blk_frozen BK373.out 1; have hfz122_2 := blk_frozen BK373.out 2; have hfz122_3 := blk_frozen BK373.out 3; have hfz122_4 := blk_frozen BK373.out 4) | ((with_reducible refine gate_callee (f := 15) rfl ?_); refine gl_ (some 20) Try.func15 #[.agg #[.int .i64 a0_0, .int .i64 a0_1, .int .i64 a0_2, .slice A0_3 l0_3.length c0_3, .slice A0_4 l0_4.length c0_4]] ?_; (with_reducible refine (laws_toLsa.calls k a0_0 a0_1 a0_2 _ _ l0_3 _ _ l0_4 t387 t388 t389 t390 t393 _ ?side1 ?side2 ?side3 ?side4 A9.out).mono ?_); (case side1 => exact cb_ HR0_3 HB); (case side2 => exact HC0_3.out); (case side3 => exact cb_ HR0_4 HB); (case side4 => exact HC0_4.out); rintro e w123 ⟨v391, v394, rfl, ho0, ho1, hb⟩; refine ⟨_, rfl, ?_⟩; have HO392 := Aside0.mk (Kd.R_lower (Kd.R_new' ho0 (Kd.R_lt (hd_ HO380))) (bz_ HB)); have HO395 := Aside0.mk (Kd.R_lower (Kd.R_new' ho1 (Kd.R_lt (hd_ HO383))) (bz_ HB)); replace HO386 := rb_ HO386 hb; replace HO380 := Aside0.mk (Kd.R_elder' (hd_ HO380) (Kd.R_base ho0) hb); replace HO383 := Aside0.mk (Kd.R_elder' (hd_ HO383) (Kd.R_base ho1) hb); replace BK373 := Aside0.mk (bb_ BK373 hb); replace HB := Aside0.mk (bt_ HB hb); (try clear hb); (try clear hb2); (try clear hk); (try clear hi); (try clear ho0); (try clear ho1)) | ((with_reducible refine gate_dst (N := 5) rfl ?_); refine box_event ?hg (N := 5) ?hd (cs := #[.int .i64 0, .int .i64 0, .int .i64 0, .slice none 0 0, .slice none 0 0]) (t := 31) ?hr ?_; (case hd => rfl); (case hg => rfl); (case hr => first | (go_simp; done) | (go_simp; rfl)); intro gb396 hg w124 hbox hb; have BK396 := Aside0.mk hbox; have GW396 := ge_ HB hg; have GE396 := ge_ HB hg; have NB373_396 := nl_ BK373 hg; have NB396_373 := ng_ BK373 hg; replace HO380 := rb_ HO380 hb; replace HO383 := rb_ HO383 hb; replace HO386 := rb_ HO386 hb; replace HO392 := rb_ HO392 hb; replace HO395 := rb_ HO395 hb; replace HB := Aside0.mk (bt_ HB hb); replace BK373 := Aside0.mk (bb_ BK373 hb); clear hb hbox hg; have hnb125 := NB396_373.out; have hnc125 := NB373_396.out; have hcz126_0 := cz_ BK396 0 (.int .i64 0); have hcz126_1 := cz_ BK396 1 (.int .i64 0); have hcz126_2 := cz_ BK396 2 (.int .i64 0); have hcz126_3 := cz_ BK396 3 (.slice none 0 0); have hcz126_4 := cz_ BK396 4 (.slice none 0 0); have hfz126_0 := blk_frozen BK396.out 0; have hfz126_1 := blk_frozen BK396.out 1; have hfz126_2 := blk_frozen BK396.out 2; have hfz126_3 := blk_frozen BK396.out 3; have hfz126_4 := blk_frozen BK396.out 4; obtain ⟨Ao127, co127, eo127⟩ := Kd.R_slice HO392.out; subst eo127; obtain ⟨Ao128, co128, eo128⟩ := Kd.R_slice HO395.out; subst eo128) | ((with_reducible refine gate_callee (f := 47) rfl ?_); refine gl_ (some 22) Try.func47 #[.agg #[.int .i64 t387, .int .i64 t388, .int .i64 t389, .slice Ao127 t390.length co127, .slice Ao128 t393.length co128]] ?_; (with_reducible refine (impl_PutLsa.calls k t387 t388 t389 _ _ t390 _ _ t393 t397 _ ?side1 ?side2 ?side3 ?side4 A10.out).mono ?_); (case side1 => refine (Kd.R_reads' (e := 70) (base := w.heap.size) (ok := fun k_ => (True ∧ some k_ ≠ (.slice Ao119 t378.length co119 : Value).ownBlock)) (n := t390.length) (c := co127) ?_).2.2; exact (hs_ HO392 BK396)); (case side2 => exact (Kd.R_reads' HO392.out).2.1); (case side3 => refine (Kd.R_reads' (e := 74) (base := w.heap.size) (ok := fun k_ => (True ∧ some k_ ≠ (.slice Ao120 t381.length co120 : Value).ownBlock)) (n := t393.length) (c := co128) ?_).2.2; exact (hs_ HO395 BK396)); (case side4 => exact (Kd.R_reads' HO395.out).2.1); rintro e w129 ⟨v398, rfl, ho0, hb⟩; refine ⟨_, rfl, ?_⟩; have HO399 := Aside0.mk (Kd.R_lower (Kd.R_new' ho0 (Kd.R_lt (hs_ HO386 BK396))) (bz_ HB)); replace HO380 := rs_ HO380 BK396 hb; replace HO383 := rs_ HO383 BK396 hb; replace HO392 := rs_ HO392 BK396 hb; replace HO395 := rs_ HO395 BK396 hb; replace HO386 := Aside0.mk (Kd.R_elder' (hs_ HO386 BK396) (Kd.R_base ho0) hb); replace BK373 := bf_ BK373 NB373_396 hb; replace BK396 := Aside0.mk (blk_below (g := gb396) (o := .cells #[.int .i64 t387, .int .i64 t388, .int .i64 t389, .slice Ao127 t390.length co127, .slice Ao128 t393.length co128] 31 (0, 0)) (by (with_reducible repeat (first | refine blk_drewN ?_ _ | refine blk_drew ?_ | refine blk_alloc ?_ _)); refine blk_put (cs := #[.int .i64 t387, .int .i64 t388, .int .i64 t389, .slice Ao127 t390.length co127, .slice none 0 0]) ?_ 4 _ rfl; (with_reducible repeat (first | refine blk_drewN ?_ _ | refine blk_drew ?_ | refine blk_alloc ?_ _)); refine blk_put (cs := #[.int .i64 t387, .int .i64 t388, .int .i64 t389, .slice none 0 0, .slice none 0 0]) ?_ 3 _ rfl; (with_reducible repeat (first | refine blk_drewN ?_ _ | refine blk_drew ?_ | refine blk_alloc ?_ _)); refine blk_put (cs := #[.int .i64 t387, .int .i64 t388, .int .i64 0, .slice none 0 0, .slice none 0 0]) ?_ 2 _ rfl; (with_reducible repeat (first | refine blk_drewN ?_ _ | refine blk_drew ?_ | refine blk_alloc ?_ _)); refine blk_put (cs := #[.int .i64 t387, .int .i64 0, .int .i64 0, .slice none 0 0, .slice none 0 0]) ?_ 1 _ rfl; (with_reducible repeat (first | refine blk_drewN ?_ _ | refine blk_drew ?_ | refine blk_alloc ?_ _)); refine blk_put (cs := #[.int .i64 0, .int .i64 0, .int .i64 0, .slice none 0 0, .slice none 0 0]) ?_ 0 _ rfl; (with_reducible repeat (first | refine blk_drewN ?_ _ | refine blk_drew ?_ | refine blk_alloc ?_ _)); exact BK396.out) hb); replace HB := Aside0.mk (bt_ HB hb); (try clear hb); (try clear hb2); (try clear hk); (try clear hi); (try clear ho0); obtain ⟨Ao130, co130, eo130⟩ := Kd.R_slice HO399.out; subst eo130; obtain ⟨Ao131, co131, eo131⟩ := Kd.R_slice HO386.out; subst eo131) | ((with_reducible refine gate_callee (f := 43) rfl ?_); refine gl_ (some 25) Try.func43 #[.slice Ao130 t397.length co130, .slice Ao131 t384.length co131] ?_; (with_reducible refine (laws_eqByteS.calls k _ _ t397 _ _ t384 false _ ?side1 ?side2 ?side3 ?side4 A11.out).mono ?_); (case side1 => exact rc_ HO399); (case side2 => exact (Kd.R_reads' HO399.out).2.1); (case side3 => exact rc_ HO386); (case side4 => exact (Kd.R_reads' HO386.out).2.1); rintro e w' ⟨rfl, ⟨nd, rfl⟩⟩; refine ⟨_, rfl, ?_⟩))
   go_ret
   exact ⟨by first | rfl | (simp [errW_none, errW_some] <;> rfl) | (simp [*, errW_none, errW_some] <;> rfl), by repeat (first | (with_reducible first | exact HB.out | apply below_alloc | apply pw_below_drewN | apply below_drew1 | refine below_set ?_ GE373.out | refine below_set ?_ GE396.out) | exact HB.out)⟩

end Go.Proofs.Ytiikcfaodkiakaa.QFnExactPutLsa
