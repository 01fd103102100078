/- Contracts of functions that the law reaches: what each call returns and what it leaves in memory. Made by this session over the print of the kit. -/
import Derived.Test.YtiikcfaodkiakaaQFnExactLsaBytesx0
import Derived.Test.YtiikcfaodkiakaaQFnExactLsaBytesx1
import Derived.Test.YtiikcfaodkiakaaQFnExactLsaBytesx3
import Derived.Test.YtiikcfaodkiakaaQFnExactLsaBytesx6
import Derived.Test.YtiikcfaodkiakaaQFnExactLsaBytesx12
import Derived.Test.YtiikcfaodkiakaaQFnExactLsaBytesx13
namespace Go.Proofs.Ytiikcfaodkiakaa.QFnExactLsaBytes
open Go.RowKit Go.Proofs.YtiikcfaodkiakaaU.PrintWords Go.Proofs.YtiikcfaodkiakaaU.PrintLast Go.Proofs.YtiikcfaodkiakaaU.PrintMore
attribute [local go_sem] max2_int min2_int max_two min_two max_three min_three max_four min_four   -- for this text's walks alone
set_option linter.unusedVariables false
set_option linter.unusedSimpArgs false
def ba14_0 : Array Bool := #[false, false, false, false, false]
def ba14_1 : Array Bool := #[true, false, false, false, false]
def ba14_2 : Array Bool := #[true, true, false, false, false]
def ba14_3 : Array Bool := #[true, true, true, false, false]
def ba14_4 : Array Bool := #[true, true, true, true, false]
def ba14_5 : Array Bool := #[true, true, true, true, true]

/-! ### laws_FnExactLsaBytes: function 9 -/
def laws_FnExactLsaBytes.j0 : Nat → List Int → List Int → Bool → Int → Int → Int → List (S85) → List (S89) → Option (Bool)
 | 0, _, _, _, _, _, _, _, _ => none
 | k + 1, x4, x6, x42, x335000, x335001, x335002, x335003, x335004 => if x42 = true then (some false) else ((laws_markByteS.f k x6 1).bind fun bt376 => ((laws_heldByteS.f k bt376.2 1).bind fun t378 => (if t378 < 0 then (some false) else (if t378 = bt376.1 then ((laws_toLsa.f k x335000 x335001 x335002 x335003 x335004).bind fun bt379 => ((impl_LsaBytes.f k bt379.1 bt379.2.1 bt379.2.2.1 bt379.2.2.2.1 bt379.2.2.2.2).bind fun t388 => ((laws_eqByteS.f k t388 x4).bind fun t391 => (if t391 = true then ((laws_heldByteS.f k bt376.2 1).bind fun t392 => (if t392 < 0 then (some false) else (if t392 = bt376.1 then (some true) else (some false)))) else (some false))))) else (some false)))))
def laws_FnExactLsaBytes.f (k : Nat) (a0_0 : Int) (a0_1 : Int) (a0_2 : Int) (l0_3 : List (S85)) (l0_4 : List (S89)) : Option (Bool) := (laws_szLsa.f a0_0 a0_1 a0_2 l0_3 l0_4 1048576).bind fun t335 => (if t335 < 0 then (some true) else ((laws_toLsa.f k a0_0 a0_1 a0_2 l0_3 l0_4).bind fun bt336 => ((spec_LsaBytes.f k bt336.1 bt336.2.1 bt336.2.2.1 bt336.2.2.2.1 bt336.2.2.2.2).bind fun t345 => ((laws_toLsa.f k a0_0 a0_1 a0_2 l0_3 l0_4).bind fun bt348 => ((impl_LsaBytes.f k bt348.1 bt348.2.1 bt348.2.2.1 bt348.2.2.2.1 bt348.2.2.2.2).bind fun t358 => ((laws_eqByteS.f k t358 t345).bind fun t361 => (if t361 = true then ((laws_toLsa.f k a0_0 a0_1 a0_2 l0_3 l0_4).bind fun bt362 => ((laws_eqLsa.f k bt348.1 bt348.2.1 bt348.2.2.1 bt348.2.2.2.1 bt348.2.2.2.2 bt362.1 bt362.2.1 bt362.2.2.1 bt362.2.2.2.1 bt362.2.2.2.2).bind fun t371 => (if t371 = true then ((laws_markLsa.f k bt348.1 bt348.2.1 bt348.2.2.1 bt348.2.2.2.1 bt348.2.2.2.2 1).bind fun bt372 => (if bt372.1 < 0 then (laws_FnExactLsaBytes.j0 k t345 t358 true a0_0 a0_1 a0_2 l0_3 l0_4) else ((laws_eqByteS.f k t358 t345).bind fun t375 => (laws_FnExactLsaBytes.j0 k t345 t358 (!t375) a0_0 a0_1 a0_2 l0_3 l0_4)))) else (some false)))) else (some false))))))))
theorem laws_FnExactLsaBytes.mono_l : ∀ k, (∀ y0 y1 y2 y3 y4 y5 y6 y7, LeO (laws_FnExactLsaBytes.j0 k y0 y1 y2 y3 y4 y5 y6 y7) (laws_FnExactLsaBytes.j0 (k + 1) y0 y1 y2 y3 y4 y5 y6 y7))
 | 0 => fun _ _ _ _ _ _ _ _ r h => by simp [laws_FnExactLsaBytes.j0] at h
 | k + 1 => by
  have ih0 := laws_FnExactLsaBytes.mono_l k
  ·intro y0 y1 y2 y3 y4 y5 y6 y7
   unfold laws_FnExactLsaBytes.j0
   repeat' first
   | (with_reducible exact ih0 _ _ _ _ _ _ _ _)
   | (with_reducible exact impl_LsaBytes.mono _ _ _ _ _ _)
   | (with_reducible exact laws_eqByteS.mono _ _ _)
   | (with_reducible exact laws_eqLsa.mono _ _ _ _ _ _ _ _ _ _ _)
   | (with_reducible exact laws_heldByteS.mono _ _ _)
   | (with_reducible exact laws_markByteS.mono _ _ _)
   | (with_reducible exact laws_markLsa.mono _ _ _ _ _ _ _)
   | (with_reducible exact laws_toLsa.mono _ _ _ _ _ _)
   | (with_reducible exact spec_LsaBytes.mono _ _ _ _ _ _)
   | (with_reducible exact LeO.refl _)
   | (with_reducible exact LeO.none _)
   | (with_reducible refine LeO.ite ?_ ?_)
   | (with_reducible refine LeO.bind ?_ (fun _ => ?_))
   | exact ih0 _ _ _ _ _ _ _ _
   | exact impl_LsaBytes.mono _ _ _ _ _ _
   | exact laws_eqByteS.mono _ _ _
   | exact laws_eqLsa.mono _ _ _ _ _ _ _ _ _ _ _
   | exact laws_heldByteS.mono _ _ _
   | exact laws_markByteS.mono _ _ _
   | exact laws_markLsa.mono _ _ _ _ _ _ _
   | exact laws_toLsa.mono _ _ _ _ _ _
   | exact spec_LsaBytes.mono _ _ _ _ _ _
   | exact LeO.none _
   | refine LeO.ite ?_ ?_
   | refine LeO.bind ?_ (fun _ => ?_)
theorem laws_FnExactLsaBytes.mono : ∀ a0 a1 a2 a3 a4 k, LeO (laws_FnExactLsaBytes.f k a0 a1 a2 a3 a4) (laws_FnExactLsaBytes.f (k + 1) a0 a1 a2 a3 a4) := by
 intro a0 a1 a2 a3 a4 k
 have ih0 := laws_FnExactLsaBytes.mono_l k
 unfold laws_FnExactLsaBytes.f
 repeat' first
   | (with_reducible exact ih0 _ _ _ _ _ _ _ _)
   | (with_reducible exact impl_LsaBytes.mono _ _ _ _ _ _)
   | (with_reducible exact laws_eqByteS.mono _ _ _)
   | (with_reducible exact laws_eqLsa.mono _ _ _ _ _ _ _ _ _ _ _)
   | (with_reducible exact laws_heldByteS.mono _ _ _)
   | (with_reducible exact laws_markByteS.mono _ _ _)
   | (with_reducible exact laws_markLsa.mono _ _ _ _ _ _ _)
   | (with_reducible exact laws_toLsa.mono _ _ _ _ _ _)
   | (with_reducible exact spec_LsaBytes.mono _ _ _ _ _ _)
   | (with_reducible exact LeO.refl _)
   | (with_reducible exact LeO.none _)
   | (with_reducible refine LeO.ite ?_ ?_)
   | (with_reducible refine LeO.bind ?_ (fun _ => ?_))
   | exact ih0 _ _ _ _ _ _ _ _
   | exact impl_LsaBytes.mono _ _ _ _ _ _
   | exact laws_eqByteS.mono _ _ _
   | exact laws_eqLsa.mono _ _ _ _ _ _ _ _ _ _ _
   | exact laws_heldByteS.mono _ _ _
   | exact laws_markByteS.mono _ _ _
   | exact laws_markLsa.mono _ _ _ _ _ _ _
   | exact laws_toLsa.mono _ _ _ _ _ _
   | exact spec_LsaBytes.mono _ _ _ _ _ _
   | exact LeO.none _
   | refine LeO.ite ?_ ?_
   | refine LeO.bind ?_ (fun _ => ?_)
set_option maxHeartbeats 8000000 in
set_option maxRecDepth 100000 in
theorem laws_FnExactLsaBytes.calls (k : Nat) (a0_0 : Int) (a0_1 : Int) (a0_2 : Int) (A0_3 : Option Addr) (c0_3 : Nat) (l0_3 : List (S85)) (A0_4 : Option Addr) (c0_4 : Nat) (l0_4 : List (S89)) (r : Bool) (w : World) (hr0_3 : Kd.C k85 w A0_3 l0_3.length l0_3) (hc0_3 : l0_3.length ≤ c0_3) (hr0_4 : Kd.C k89 w A0_4 l0_4.length l0_4) (hc0_4 : l0_4.length ≤ c0_4) (h : laws_FnExactLsaBytes.f k a0_0 a0_1 a0_2 l0_3 l0_4 = some r) :
  Calls Try.prog 9 #[.agg #[.int .i64 a0_0, .int .i64 a0_1, .int .i64 a0_2, .slice A0_3 l0_3.length c0_3, .slice A0_4 l0_4.length c0_4]] w fun e w' => e = .returned (.bool r) ∧ Below w.heap.size w w' := by
 have hu25 := Try.underlying25
 have hu31 := Try.underlying31
 have HR0_3 := Aside0.mk hr0_3
 have HC0_3 := Aside0.mk hc0_3
 clear hr0_3 hc0_3
 have HR0_4 := Aside0.mk hr0_4
 have HC0_4 := Aside0.mk hc0_4
 clear hr0_4 hc0_4
 have HB := Aside0.mk (Below.refl w.heap.size w)
 have H : ((laws_szLsa.f a0_0 a0_1 a0_2 l0_3 l0_4 1048576).bind fun t335 => (if t335 < 0 then (some true) else ((laws_toLsa.f k a0_0 a0_1 a0_2 l0_3 l0_4).bind fun bt336 => ((spec_LsaBytes.f k bt336.1 bt336.2.1 bt336.2.2.1 bt336.2.2.2.1 bt336.2.2.2.2).bind fun t345 => ((laws_toLsa.f k a0_0 a0_1 a0_2 l0_3 l0_4).bind fun bt348 => ((impl_LsaBytes.f k bt348.1 bt348.2.1 bt348.2.2.1 bt348.2.2.2.1 bt348.2.2.2.2).bind fun t358 => ((laws_eqByteS.f k t358 t345).bind fun t361 => (if t361 = true then ((laws_toLsa.f k a0_0 a0_1 a0_2 l0_3 l0_4).bind fun bt362 => ((laws_eqLsa.f k bt348.1 bt348.2.1 bt348.2.2.1 bt348.2.2.2.1 bt348.2.2.2.2 bt362.1 bt362.2.1 bt362.2.2.1 bt362.2.2.2.1 bt362.2.2.2.2).bind fun t371 => (if t371 = true then ((laws_markLsa.f k bt348.1 bt348.2.1 bt348.2.2.1 bt348.2.2.2.1 bt348.2.2.2.2 1).bind fun bt372 => (if bt372.1 < 0 then (laws_FnExactLsaBytes.j0 k t345 t358 true a0_0 a0_1 a0_2 l0_3 l0_4) else ((laws_eqByteS.f k t358 t345).bind fun t375 => (laws_FnExactLsaBytes.j0 k t345 t358 (!t375) a0_0 a0_1 a0_2 l0_3 l0_4)))) else (some false)))) else (some false))))))))) = some r := h
 clear h
 replace H := Option.bind_eq_some_iff.mp H
 obtain ⟨t335, A20, H⟩ := H
 have A2 := Aside0.mk A20
 clear A20
 by_cases c3 : t335 < 0
 ·rw [if_pos c3] at H
  have c3b0 : decide (t335 < 0) = true := decide_eq_true c3
  clear c3
  obtain rfl := Option.some.inj H
  go_enter Try.func9, Try.ntmps9
  go_wp2_with (first | ((with_reducible refine gate_dst (N := 1) rfl ?_); refine box_event ?hg (N := 1) ?hd (cs := #[.int .i64 a0_0, .int .i64 a0_1, .int .i64 a0_2, .slice A0_3 l0_3.length c0_3, .slice A0_4 l0_4.length c0_4]) (t := 25) ?hr ?_; (case hd => rfl); (case hg => rfl); (case hr => first | (go_simp; done) | (go_simp; rfl)); intro gb334 hg w4 hbox hb; have BK334 := Aside0.mk hbox; have GW334 := ge_ HB hg; have GE334 := ge_ HB hg; replace HB := Aside0.mk (bt_ HB hb); clear hb hbox hg; have hcz5_0 := cz_ BK334 0 (.int .i64 a0_0); have hcz5_1 := cz_ BK334 1 (.int .i64 a0_1); have hcz5_2 := cz_ BK334 2 (.int .i64 a0_2); have hcz5_3 := cz_ BK334 3 (.slice A0_3 l0_3.length c0_3); have hcz5_4 := cz_ BK334 4 (.slice A0_4 l0_4.length c0_4); have hfz5_0 := blk_frozen BK334.out 0; have hfz5_1 := blk_frozen BK334.out 1; have hfz5_2 := blk_frozen BK334.out 2; have hfz5_3 := blk_frozen BK334.out 3; have hfz5_4 := blk_frozen BK334.out 4) | ((with_reducible refine gate_callee (f := 13) rfl ?_); refine gl_ (some 13) Try.func13 #[.agg #[.int .i64 a0_0, .int .i64 a0_1, .int .i64 a0_2, .slice A0_3 l0_3.length c0_3, .slice A0_4 l0_4.length c0_4], .int .i64 1048576] ?_; (with_reducible refine (laws_szLsa.calls a0_0 a0_1 a0_2 _ _ l0_3 _ _ l0_4 1048576 t335 _ ?side1 ?side2 ?side3 ?side4 A2.out).mono ?_); (case side1 => exact cb_ HR0_3 HB); (case side2 => exact HC0_3.out); (case side3 => exact cb_ HR0_4 HB); (case side4 => exact HC0_4.out); rintro e w6 ⟨rfl, hb⟩; refine ⟨_, rfl, ?_⟩; replace BK334 := Aside0.mk (bb_ BK334 hb); replace HB := Aside0.mk (bt_ HB hb); (try clear hb); (try clear hb2); (try clear hk); (try clear hi)))
  go_ret
  exact ⟨by first | rfl | (simp [errW_none, errW_some] <;> rfl) | (simp [*, errW_none, errW_some] <;> rfl), by repeat (first | (with_reducible first | exact HB.out | apply below_alloc | apply pw_below_drewN | apply below_drew1 | refine below_set ?_ GE334.out) | exact HB.out)⟩
 ·rw [if_neg c3] at H
  have c3b0 : decide (t335 < 0) = false := decide_eq_false c3
  clear c3
  replace H := Option.bind_eq_some_iff.mp H
  obtain ⟨⟨t336, t337, t338, t339, t342⟩, A70, H⟩ := H
  have A7 := Aside0.mk A70
  clear A70
  replace H := Option.bind_eq_some_iff.mp H
  obtain ⟨t345, A80, H⟩ := H
  have A8 := Aside0.mk A80
  clear A80
  replace H := Option.bind_eq_some_iff.mp H
  obtain ⟨⟨t348, t349, t350, t351, t354⟩, A90, H⟩ := H
  have A9 := Aside0.mk A90
  clear A90
  replace H := Option.bind_eq_some_iff.mp H
  obtain ⟨t358, A100, H⟩ := H
  have A10 := Aside0.mk A100
  clear A100
  replace H := Option.bind_eq_some_iff.mp H
  obtain ⟨t361, A110, H⟩ := H
  have A11 := Aside0.mk A110
  clear A110
  by_cases c12 : t361 = true
  ·subst c12
   rw [if_pos rfl] at H
   replace H := Option.bind_eq_some_iff.mp H
   obtain ⟨⟨t362, t363, t364, t365, t368⟩, A130, H⟩ := H
   have A13 := Aside0.mk A130
   clear A130
   replace H := Option.bind_eq_some_iff.mp H
   obtain ⟨t371, A140, H⟩ := H
   have A14 := Aside0.mk A140
   clear A140
   by_cases c15 : t371 = true
   ·subst c15
    rw [if_pos rfl] at H
    replace H := Option.bind_eq_some_iff.mp H
    obtain ⟨⟨t372, t373, t374⟩, A160, H⟩ := H
    have A16 := Aside0.mk A160
    clear A160
    have HC17 := Aside0.mk H
    clear H
    go_enter Try.func9, Try.ntmps9
    try go_wp2_with (first | ((with_reducible refine gate_dst (N := 1) rfl ?_); refine box_event ?hg (N := 1) ?hd (cs := #[.int .i64 a0_0, .int .i64 a0_1, .int .i64 a0_2, .slice A0_3 l0_3.length c0_3, .slice A0_4 l0_4.length c0_4]) (t := 25) ?hr ?_; (case hd => rfl); (case hg => rfl); (case hr => first | (go_simp; done) | (go_simp; rfl)); intro gb334 hg w18 hbox hb; have BK334 := Aside0.mk hbox; have GW334 := ge_ HB hg; have GE334 := ge_ HB hg; replace HB := Aside0.mk (bt_ HB hb); clear hb hbox hg; have hcz19_0 := cz_ BK334 0 (.int .i64 a0_0); have hcz19_1 := cz_ BK334 1 (.int .i64 a0_1); have hcz19_2 := cz_ BK334 2 (.int .i64 a0_2); have hcz19_3 := cz_ BK334 3 (.slice A0_3 l0_3.length c0_3); have hcz19_4 := cz_ BK334 4 (.slice A0_4 l0_4.length c0_4); have hfz19_0 := blk_frozen BK334.out 0; have hfz19_1 := blk_frozen BK334.out 1; have hfz19_2 := blk_frozen BK334.out 2; have hfz19_3 := blk_frozen BK334.out 3; have hfz19_4 := blk_frozen BK334.out 4) | ((with_reducible refine gate_callee (f := 13) rfl ?_); refine gl_ (some 13) Try.func13 #[.agg #[.int .i64 a0_0, .int .i64 a0_1, .int .i64 a0_2, .slice A0_3 l0_3.length c0_3, .slice A0_4 l0_4.length c0_4], .int .i64 1048576] ?_; (with_reducible refine (laws_szLsa.calls a0_0 a0_1 a0_2 _ _ l0_3 _ _ l0_4 1048576 t335 _ ?side1 ?side2 ?side3 ?side4 A2.out).mono ?_); (case side1 => exact cb_ HR0_3 HB); (case side2 => exact HC0_3.out); (case side3 => exact cb_ HR0_4 HB); (case side4 => exact HC0_4.out); rintro e w20 ⟨rfl, hb⟩; refine ⟨_, rfl, ?_⟩; replace BK334 := Aside0.mk (bb_ BK334 hb); replace HB := Aside0.mk (bt_ HB hb); (try clear hb); (try clear hb2); (try clear hk); (try clear hi); have hcz21_0 := cz_ BK334 0 (.int .i64 a0_0); have hcz21_1 := cz_ BK334 1 (.int .i64 a0_1); have hcz21_2 := cz_ BK334 2 (.int .i64 a0_2); have hcz21_3 := cz_ BK334 3 (.slice A0_3 l0_3.length c0_3); have hcz21_4 := cz_ BK334 4 (.slice A0_4 l0_4.length c0_4); have hfz21_0 := blk_frozen BK334.out 0; have hfz21_1 := blk_frozen BK334.out 1; have hfz21_2 := blk_frozen BK334.out 2; have hfz21_3 := blk_frozen BK334.out 3; have hfz21_4 := blk_frozen BK334.out 4) | ((with_reducible refine gate_callee (f := 15) rfl ?_); refine gl_ (some 17) Try.func15 #[.agg #[.int .i64 a0_0, .int .i64 a0_1, .int .i64 a0_2, .slice A0_3 l0_3.length c0_3, .slice A0_4 l0_4.length c0_4]] ?_; (with_reducible refine (laws_toLsa.calls k a0_0 a0_1 a0_2 _ _ l0_3 _ _ l0_4 t336 t337 t338 t339 t342 _ ?side1 ?side2 ?side3 ?side4 A7.out).mono ?_); (case side1 => exact cb_ HR0_3 HB); (case side2 => exact HC0_3.out); (case side3 => exact cb_ HR0_4 HB); (case side4 => exact HC0_4.out); rintro e w22 ⟨v340, v343, rfl, ho0, ho1, hb⟩; refine ⟨_, rfl, ?_⟩; have HO341 := Aside0.mk (Kd.R_lower ho0 (bz_ HB)); have HO344 := Aside0.mk (Kd.R_lower ho1 (bz_ HB)); replace BK334 := Aside0.mk (bb_ BK334 hb); replace HB := Aside0.mk (bt_ HB hb); (try clear hb); (try clear hb2); (try clear hk); (try clear hi); (try clear ho0); (try clear ho1); obtain ⟨Ao23, co23, eo23⟩ := Kd.R_slice HO341.out; subst eo23; obtain ⟨Ao24, co24, eo24⟩ := Kd.R_slice HO344.out; subst eo24) | ((with_reducible refine gate_callee (f := 41) rfl ?_); refine gl_ (some 18) Try.func41 #[.agg #[.int .i64 t336, .int .i64 t337, .int .i64 t338, .slice Ao23 t339.length co23, .slice Ao24 t342.length co24]] ?_; (with_reducible refine (spec_LsaBytes.calls k t336 t337 t338 _ _ t339 _ _ t342 t345 _ ?side1 ?side2 ?side3 ?side4 A8.out).mono ?_); (case side1 => exact rc_ HO341); (case side2 => exact (Kd.R_reads' HO341.out).2.1); (case side3 => exact rc_ HO344); (case side4 => exact (Kd.R_reads' HO344.out).2.1); rintro e w25 ⟨v346, rfl, ho0, hb⟩; refine ⟨_, rfl, ?_⟩; have HO347 := Aside0.mk (Kd.R_lower ho0 (bz_ HB)); replace HO341 := rb_ HO341 hb; replace HO344 := rb_ HO344 hb; replace BK334 := Aside0.mk (bb_ BK334 hb); replace HB := Aside0.mk (bt_ HB hb); (try clear hb); (try clear hb2); (try clear hk); (try clear hi); (try clear ho0); have hcz26_0 := cz_ BK334 0 (.int .i64 a0_0); have hcz26_1 := cz_ BK334 1 (.int .i64 a0_1); have hcz26_2 := cz_ BK334 2 (.int .i64 a0_2); have hcz26_3 := cz_ BK334 3 (.slice A0_3 l0_3.length c0_3); have hcz26_4 := cz_ BK334 4 (.slice A0_4 l0_4.length c0_4); have hfz26_0 := blk_frozen BK334.out 0; have hfz26_1 := blk_frozen BK334.out 1; have hfz26_2 := blk_frozen BK334.out 2; have hfz26_3 := blk_frozen BK334.out 3; have hfz26_4 := blk_frozen BK334.out 4) | ((with_reducible refine gate_callee (f := 15) rfl ?_); refine gl_ (some 20) Try.func15 #[.agg #[.int .i64 a0_0, .int .i64 a0_1, .int .i64 a0_2, .slice A0_3 l0_3.length c0_3, .slice A0_4 l0_4.length c0_4]] ?_; (with_reducible refine (laws_toLsa.calls k a0_0 a0_1 a0_2 _ _ l0_3 _ _ l0_4 t348 t349 t350 t351 t354 _ ?side1 ?side2 ?side3 ?side4 A9.out).mono ?_); (case side1 => exact cb_ HR0_3 HB); (case side2 => exact HC0_3.out); (case side3 => exact cb_ HR0_4 HB); (case side4 => exact HC0_4.out); rintro e w27 ⟨v352, v355, rfl, ho0, ho1, hb⟩; refine ⟨_, rfl, ?_⟩; have HO353 := Aside0.mk (Kd.R_lower (Kd.R_new' ho0 (Kd.R_lt (hd_ HO341))) (bz_ HB)); have HO356 := Aside0.mk (Kd.R_lower (Kd.R_new' ho1 (Kd.R_lt (hd_ HO344))) (bz_ HB)); replace HO347 := rb_ HO347 hb; replace HO341 := Aside0.mk (Kd.R_elder' (hd_ HO341) (Kd.R_base ho0) hb); replace HO344 := Aside0.mk (Kd.R_elder' (hd_ HO344) (Kd.R_base ho1) hb); replace BK334 := Aside0.mk (bb_ BK334 hb); replace HB := Aside0.mk (bt_ HB hb); (try clear hb); (try clear hb2); (try clear hk); (try clear hi); (try clear ho0); (try clear ho1)) | ((with_reducible refine gate_dst (N := 5) rfl ?_); refine box_event ?hg (N := 5) ?hd (cs := #[.int .i64 0, .int .i64 0, .int .i64 0, .slice none 0 0, .slice none 0 0]) (t := 31) ?hr ?_; (case hd => rfl); (case hg => rfl); (case hr => first | (go_simp; done) | (go_simp; rfl)); intro gb357 hg w28 hbox hb; have BK357 := Aside0.mk hbox; have GW357 := ge_ HB hg; have GE357 := ge_ HB hg; have NB334_357 := nl_ BK334 hg; have NB357_334 := ng_ BK334 hg; replace HO341 := rb_ HO341 hb; replace HO344 := rb_ HO344 hb; replace HO347 := rb_ HO347 hb; replace HO353 := rb_ HO353 hb; replace HO356 := rb_ HO356 hb; replace HB := Aside0.mk (bt_ HB hb); replace BK334 := Aside0.mk (bb_ BK334 hb); clear hb hbox hg; have hnb29 := NB357_334.out; have hnc29 := NB334_357.out; have hcz30_0 := cz_ BK357 0 (.int .i64 0); have hcz30_1 := cz_ BK357 1 (.int .i64 0); have hcz30_2 := cz_ BK357 2 (.int .i64 0); have hcz30_3 := cz_ BK357 3 (.slice none 0 0); have hcz30_4 := cz_ BK357 4 (.slice none 0 0); have hfz30_0 := blk_frozen BK357.out 0; have hfz30_1 := blk_frozen BK357.out 1; have hfz30_2 := blk_frozen BK357.out 2; have hfz30_3 := blk_frozen BK357.out 3; have hfz30_4 := blk_frozen BK357.out 4; obtain ⟨Ao31, co31, eo31⟩ := Kd.R_slice HO353.out; subst eo31; obtain ⟨Ao32, co32, eo32⟩ := Kd.R_slice HO356.out; subst eo32) | ((with_reducible refine gate_callee (f := 42) rfl ?_); refine gl_ (some 22) Try.func42 #[.agg #[.int .i64 t348, .int .i64 t349, .int .i64 t350, .slice Ao31 t351.length co31, .slice Ao32 t354.length co32]] ?_; (with_reducible refine (impl_LsaBytes.calls k t348 t349 t350 _ _ t351 _ _ t354 t358 _ ?side1 ?side2 ?side3 ?side4 A10.out).mono ?_); (case side1 => refine (Kd.R_reads' (e := 70) (base := w.heap.size) (ok := fun k_ => (True ∧ some k_ ≠ (.slice Ao23 t339.length co23 : Value).ownBlock)) (n := t351.length) (c := co31) ?_).2.2; exact (hs_ HO353 BK357)); (case side2 => exact (Kd.R_reads' HO353.out).2.1); (case side3 => refine (Kd.R_reads' (e := 74) (base := w.heap.size) (ok := fun k_ => (True ∧ some k_ ≠ (.slice Ao24 t342.length co24 : Value).ownBlock)) (n := t354.length) (c := co32) ?_).2.2; exact (hs_ HO356 BK357)); (case side4 => exact (Kd.R_reads' HO356.out).2.1); rintro e w33 ⟨v359, rfl, ho0, hb⟩; refine ⟨_, rfl, ?_⟩; have HO360 := Aside0.mk (Kd.R_lower (Kd.R_new' ho0 (Kd.R_lt (hs_ HO347 BK357))) (bz_ HB)); replace HO341 := rs_ HO341 BK357 hb; replace HO344 := rs_ HO344 BK357 hb; replace HO353 := rs_ HO353 BK357 hb; replace HO356 := rs_ HO356 BK357 hb; replace HO347 := Aside0.mk (Kd.R_elder' (hs_ HO347 BK357) (Kd.R_base ho0) hb); replace BK334 := bf_ BK334 NB334_357 hb; replace BK357 := Aside0.mk (blk_below (g := gb357) (o := .cells #[.int .i64 t348, .int .i64 t349, .int .i64 t350, .slice Ao31 t351.length co31, .slice Ao32 t354.length co32] 31 (0, 0)) (by (with_reducible repeat (first | refine blk_drewN ?_ _ | refine blk_drew ?_ | refine blk_alloc ?_ _)); refine blk_put (cs := #[.int .i64 t348, .int .i64 t349, .int .i64 t350, .slice Ao31 t351.length co31, .slice none 0 0]) ?_ 4 _ rfl; (with_reducible repeat (first | refine blk_drewN ?_ _ | refine blk_drew ?_ | refine blk_alloc ?_ _)); refine blk_put (cs := #[.int .i64 t348, .int .i64 t349, .int .i64 t350, .slice none 0 0, .slice none 0 0]) ?_ 3 _ rfl; (with_reducible repeat (first | refine blk_drewN ?_ _ | refine blk_drew ?_ | refine blk_alloc ?_ _)); refine blk_put (cs := #[.int .i64 t348, .int .i64 t349, .int .i64 0, .slice none 0 0, .slice none 0 0]) ?_ 2 _ rfl; (with_reducible repeat (first | refine blk_drewN ?_ _ | refine blk_drew ?_ | refine blk_alloc ?_ _)); refine blk_put (cs := #[.int .i64 t348, .int .i64 0, .int .i64 0, .slice none 0 0, .slice none 0 0]) ?_ 1 _ rfl; (with_reducible repeat (first | refine blk_drewN ?_ _ | refine blk_drew ?_ | refine blk_alloc ?_ _)); refine blk_put (cs := #[.int .i64 0, .int .i64 0, .int .i64 0, .slice none 0 0, .slice none 0 0]) ?_ 0 _ rfl; (with_reducible repeat (first | refine blk_drewN ?_ _ | refine blk_drew ?_ | refine blk_alloc ?_ _)); exact BK357.out) hb); replace HB := Aside0.mk (bt_ HB hb); (try clear hb); (try clear hb2); (try clear hk); (try clear hi); (try clear ho0); obtain ⟨Ao34, co34, eo34⟩ := Kd.R_slice HO360.out; subst eo34; obtain ⟨Ao35, co35, eo35⟩ := Kd.R_slice HO347.out; subst eo35) | ((with_reducible refine gate_callee (f := 43) rfl ?_); refine gl_ (some 25) Try.func43 #[.slice Ao34 t358.length co34, .slice Ao35 t345.length co35] ?_; (with_reducible refine (laws_eqByteS.calls k _ _ t358 _ _ t345 true _ ?side1 ?side2 ?side3 ?side4 A11.out).mono ?_); (case side1 => exact rc_ HO360); (case side2 => exact (Kd.R_reads' HO360.out).2.1); (case side3 => exact rc_ HO347); (case side4 => exact (Kd.R_reads' HO347.out).2.1); rintro e w' ⟨rfl, ⟨nd, rfl⟩⟩; refine ⟨_, rfl, ?_⟩))
    (try (rw [drewN_self w33]; generalize hq_ : World.drewN w33 _ = w33; replace HO341 : Aside0 (Kd.R k70 70 w33 w.heap.size (fun k_ => some k_ ≠ (.slice Ao31 t351.length co31 : Value).ownBlock) (.slice Ao23 t339.length co23) t339) := ⟨by rw [← hq_]; exact (by (with_reducible repeat (first | apply Kd.R_alloc | apply Kd.R_drewN | apply Kd.R_drew)); exact Kd.R_mono HO341.out (fun _ hk => hk.2))⟩; replace HO344 : Aside0 (Kd.R k74 74 w33 w.heap.size (fun k_ => some k_ ≠ (.slice Ao32 t354.length co32 : Value).ownBlock) (.slice Ao24 t342.length co24) t342) := ⟨by rw [← hq_]; exact (by (with_reducible repeat (first | apply Kd.R_alloc | apply Kd.R_drewN | apply Kd.R_drew)); exact Kd.R_mono HO344.out (fun _ hk => hk.2))⟩; replace HO347 : Aside0 (Kd.R (Kd.int .u8) 5 w33 w.heap.size (fun k_ => some k_ ≠ (.slice Ao34 t358.length co34 : Value).ownBlock) (.slice Ao35 t345.length co35) t345) := ⟨by rw [← hq_]; exact (by (with_reducible repeat (first | apply Kd.R_alloc | apply Kd.R_drewN | apply Kd.R_drew)); exact Kd.R_mono HO347.out (fun _ hk => hk.2))⟩; replace HO353 : Aside0 (Kd.R k70 70 w33 w.heap.size (fun k_ => some k_ ≠ (.slice Ao23 t339.length co23 : Value).ownBlock) (.slice Ao31 t351.length co31) t351) := ⟨by rw [← hq_]; exact (by (with_reducible repeat (first | apply Kd.R_alloc | apply Kd.R_drewN | apply Kd.R_drew)); exact Kd.R_mono HO353.out (fun _ hk => hk.2))⟩; replace HO356 : Aside0 (Kd.R k74 74 w33 w.heap.size (fun k_ => some k_ ≠ (.slice Ao24 t342.length co24 : Value).ownBlock) (.slice Ao32 t354.length co32) t354) := ⟨by rw [← hq_]; exact (by (with_reducible repeat (first | apply Kd.R_alloc | apply Kd.R_drewN | apply Kd.R_drew)); exact Kd.R_mono HO356.out (fun _ hk => hk.2))⟩; replace HO360 : Aside0 (Kd.R (Kd.int .u8) 5 w33 w.heap.size (fun k_ => some k_ ≠ (.slice Ao35 t345.length co35 : Value).ownBlock) (.slice Ao34 t358.length co34) t358) := ⟨by rw [← hq_]; exact (by (with_reducible repeat (first | apply Kd.R_alloc | apply Kd.R_drewN | apply Kd.R_drew)); exact Kd.R_mono HO360.out (fun _ hk => hk.2))⟩; replace BK334 : Aside0 (w33.heap[gb334]? = some (.cells #[.int .i64 a0_0, .int .i64 a0_1, .int .i64 a0_2, .slice A0_3 l0_3.length c0_3, .slice A0_4 l0_4.length c0_4] 25 (0, 0))) := ⟨by rw [← hq_]; exact (by (with_reducible repeat (first | refine blk_drewN ?_ _ | refine blk_drew ?_ | refine blk_alloc ?_ _)); exact BK334.out)⟩; replace BK357 : Aside0 (w33.heap[gb357]? = some (.cells #[.int .i64 t348, .int .i64 t349, .int .i64 t350, .slice Ao31 t351.length co31, .slice Ao32 t354.length co32] 31 (0, 0))) := ⟨by rw [← hq_]; exact (by (with_reducible repeat (first | refine blk_drewN ?_ _ | refine blk_drew ?_ | refine blk_alloc ?_ _)); exact BK357.out)⟩; replace HB : Aside0 (Below w.heap.size w w33) := ⟨by rw [← hq_]; exact (by repeat (first | (with_reducible first | exact HB.out | apply below_alloc | apply pw_below_drewN | apply below_drew1 | refine below_set ?_ GE334.out | refine below_set ?_ GE357.out) | exact HB.out))⟩; clear hq_))
    replace HO341 := Aside0.mk (Kd.R_drew HO341.out)
    replace HO344 := Aside0.mk (Kd.R_drew HO344.out)
    replace HO347 := Aside0.mk (Kd.R_drew HO347.out)
    replace HO353 := Aside0.mk (Kd.R_drew HO353.out)
    replace HO356 := Aside0.mk (Kd.R_drew HO356.out)
    replace HO360 := Aside0.mk (Kd.R_drew HO360.out)
    replace BK334 := Aside0.mk (blk_drew BK334.out)
    replace BK357 := Aside0.mk (blk_drew BK357.out)
    replace HB := Aside0.mk (below_drew1 HB.out)
    refine start_ (n := 5) (S := fun w' => w'.cell? ⟨gb357, 0, none⟩ = some (.int .i64 t348) ∧ w'.cell? ⟨gb357, 1, none⟩ = some (.int .i64 t349) ∧ w'.cell? ⟨gb357, 2, none⟩ = some (.int .i64 t350) ∧ w'.cell? ⟨gb357, 3, none⟩ = some (.slice Ao31 t351.length co31) ∧ w'.cell? ⟨gb357, 4, none⟩ = some (.slice Ao32 t354.length co32) ∧ w'.cell? ⟨gb334, 0, none⟩ = some (.int .i64 a0_0) ∧ w'.cell? ⟨gb334, 1, none⟩ = some (.int .i64 a0_1) ∧ w'.cell? ⟨gb334, 2, none⟩ = some (.int .i64 a0_2) ∧ w'.cell? ⟨gb334, 3, none⟩ = some (.slice A0_3 l0_3.length c0_3) ∧ w'.cell? ⟨gb334, 4, none⟩ = some (.slice A0_4 l0_4.length c0_4)) (ds := []) ba14_0 (by kernel_rfl) rfl rfl ⟨(blk_cell BK357.out 0).trans rfl, (blk_cell BK357.out 1).trans rfl, (blk_cell BK357.out 2).trans rfl, (blk_cell BK357.out 3).trans rfl, (blk_cell BK357.out 4).trans rfl, (blk_cell BK334.out 0).trans rfl, (blk_cell BK334.out 1).trans rfl, (blk_cell BK334.out 2).trans rfl, (blk_cell BK334.out 3).trans rfl, (blk_cell BK334.out 4).trans rfl⟩ (fun hHeld => ?_)
    generalize w33.drew = w36 at HO341 HO344 HO347 HO353 HO356 HO360 BK334 BK357 HB hHeld ⊢
    refine take_ (i := 0) (N := some 27) (v := ?_) (a' := ?_) ba14_1 rfl rfl (by kernel_rfl) (fun _ _ _ h => h) (Or.inl ⟨by rfl, ?_⟩) hHeld ?_ ?_
    rotate_left; · rintro w' ⟨s0, s1, s2, s3, s4, s5, s6, s7, s8, s9⟩; go_simp; with_reducible rfl
    rotate_left; · simp only [Act.put, List.setIfInBounds_toArray, List.set_cons_zero, List.set_cons_succ, i64_w, i32_w]; rfl
    refine take_ (i := 1) (N := some 28) (v := ?_) (a' := ?_) ba14_2 rfl rfl (by kernel_rfl) (fun _ _ _ h => h) (Or.inl ⟨by rfl, ?_⟩) hHeld ?_ ?_
    rotate_left; · rintro w' ⟨s0, s1, s2, s3, s4, s5, s6, s7, s8, s9⟩; go_simp; with_reducible rfl
    rotate_left; · simp only [Act.put, List.setIfInBounds_toArray, List.set_cons_zero, List.set_cons_succ, i64_w, i32_w]; rfl
    refine one_ (i := 2) (N := some 29) ba14_3 rfl rfl (by kernel_rfl) (by decide) (fun K hK => ?_)
    refine gz_ Try.func15 #[.agg #[.int .i64 a0_0, .int .i64 a0_1, .int .i64 a0_2, .slice A0_3 l0_3.length c0_3, .slice A0_4 l0_4.length c0_4]] ?_
    with_reducible refine (laws_toLsa.calls k a0_0 a0_1 a0_2 _ _ l0_3 _ _ l0_4 t362 t363 t364 t365 t368 _ ?side1 ?side2 ?side3 ?side4 A13.out).mono ?_
    (case side1 => exact cb_ HR0_3 HB)
    (case side2 => exact HC0_3.out)
    (case side3 => exact cb_ HR0_4 HB)
    (case side4 => exact HC0_4.out)
    rintro e w37 ⟨v366, v369, rfl, ho0, ho1, hb⟩
    refine ⟨_, rfl, ?_⟩
    have HO367 := Aside0.mk (Kd.R_lower (Kd.R_new' (Kd.R_new' ho0 (Kd.R_lt (hd_ HO341))) (Kd.R_lt (hd_ HO353))) (bz_ HB))
    have HO370 := Aside0.mk (Kd.R_lower (Kd.R_new' (Kd.R_new' ho1 (Kd.R_lt (hd_ HO344))) (Kd.R_lt (hd_ HO356))) (bz_ HB))
    replace HO347 := rb_ HO347 hb
    replace HO360 := rb_ HO360 hb
    replace HO341 := Aside0.mk (Kd.R_elder' (hd_ HO341) (Kd.R_base ho0) hb)
    replace HO353 := Aside0.mk (Kd.R_elder' (hd_ HO353) (Kd.R_base ho0) hb)
    replace HO344 := Aside0.mk (Kd.R_elder' (hd_ HO344) (Kd.R_base ho1) hb)
    replace HO356 := Aside0.mk (Kd.R_elder' (hd_ HO356) (Kd.R_base ho1) hb)
    replace BK334 := Aside0.mk (bb_ BK334 hb)
    replace BK357 := Aside0.mk (bb_ BK357 hb)
    replace HB := Aside0.mk (bt_ HB hb)
    (try clear hb)
    (try clear hb2)
    (try clear hk)
    (try clear hi)
    (try clear ho0)
    (try clear ho1)
    obtain ⟨Ao38, co38, eo38⟩ := Kd.R_slice HO367.out
    (first | subst eo38 | (injection eo38 with f1_ f2_ f3_; have f4_ := f1_.symm; have f5_ := f3_.symm; clear f1_ f2_ f3_; subst f4_; subst f5_))
    obtain ⟨Ao39, co39, eo39⟩ := Kd.R_slice HO370.out
    (first | subst eo39 | (injection eo39 with f1_ f2_ f3_; have f4_ := f1_.symm; have f5_ := f3_.symm; clear f1_ f2_ f3_; subst f4_; subst f5_))
    refine hK.out _ _ ⟨(blk_cell BK357.out 0).trans rfl, (blk_cell BK357.out 1).trans rfl, (blk_cell BK357.out 2).trans rfl, (blk_cell BK357.out 3).trans rfl, (blk_cell BK357.out 4).trans rfl, (blk_cell BK334.out 0).trans rfl, (blk_cell BK334.out 1).trans rfl, (blk_cell BK334.out 2).trans rfl, (blk_cell BK334.out 3).trans rfl, (blk_cell BK334.out 4).trans rfl⟩ (fun hHeld => ?_)
    clear hK K
    refine nz_ 29 ?_
    refine one_ (i := 3) (N := some 30) ba14_4 rfl rfl (by kernel_rfl) (by decide) (fun K hK => ?_)
    refine gz_ Try.func17 #[.agg #[.int .i64 t348, .int .i64 t349, .int .i64 t350, .slice Ao31 t351.length co31, .slice Ao32 t354.length co32], .agg #[.int .i64 t362, .int .i64 t363, .int .i64 t364, .slice Ao38 t365.length co38, .slice Ao39 t368.length co39]] ?_
    with_reducible refine (laws_eqLsa.calls k t348 t349 t350 _ _ t351 _ _ t354 t362 t363 t364 _ _ t365 _ _ t368 true _ ?side1 ?side2 ?side3 ?side4 ?side5 ?side6 ?side7 ?side8 A14.out).mono ?_
    (case side1 => exact rc_ HO353)
    (case side2 => exact (Kd.R_reads' HO353.out).2.1)
    (case side3 => exact rc_ HO356)
    (case side4 => exact (Kd.R_reads' HO356.out).2.1)
    (case side5 => exact rc_ HO367)
    (case side6 => exact (Kd.R_reads' HO367.out).2.1)
    (case side7 => exact rc_ HO370)
    (case side8 => exact (Kd.R_reads' HO370.out).2.1)
    rintro e w40 ⟨rfl, hb⟩
    refine ⟨_, rfl, ?_⟩
    replace HO341 := rb_ HO341 hb
    replace HO344 := rb_ HO344 hb
    replace HO347 := rb_ HO347 hb
    replace HO353 := rb_ HO353 hb
    replace HO356 := rb_ HO356 hb
    replace HO360 := rb_ HO360 hb
    replace HO367 := rb_ HO367 hb
    replace HO370 := rb_ HO370 hb
    replace BK334 := Aside0.mk (bb_ BK334 hb)
    replace BK357 := Aside0.mk (bb_ BK357 hb)
    replace HB := Aside0.mk (bt_ HB hb)
    (try clear hb)
    (try clear hb2)
    (try clear hk)
    (try clear hi)
    refine hK.out _ _ ⟨(blk_cell BK357.out 0).trans rfl, (blk_cell BK357.out 1).trans rfl, (blk_cell BK357.out 2).trans rfl, (blk_cell BK357.out 3).trans rfl, (blk_cell BK357.out 4).trans rfl, (blk_cell BK334.out 0).trans rfl, (blk_cell BK334.out 1).trans rfl, (blk_cell BK334.out 2).trans rfl, (blk_cell BK334.out 3).trans rfl, (blk_cell BK334.out 4).trans rfl⟩ (fun hHeld => ?_)
    clear hK K
    refine nz_ 30 ?_
    refine pure_ (i := 4) (N := some 31) (v := ?_) (a' := ?_) ba14_5 rfl rfl (by kernel_rfl) (fun _ _ _ h => h) (Or.inl ⟨by rfl, ?_⟩) ?_ ?_
    rotate_left; · intro w'; go_simp; with_reducible rfl
    rotate_left; · simp only [Act.put, List.setIfInBounds_toArray, List.set_cons_zero, List.set_cons_succ, i64_w, i32_w]; rfl
    refine done_ (by kernel_rfl) ?_
    have hcz41_0 := cz_ BK357 0 (.int .i64 t348)
    have hcz41_1 := cz_ BK357 1 (.int .i64 t349)
    have hcz41_2 := cz_ BK357 2 (.int .i64 t350)
    have hcz41_3 := cz_ BK357 3 (.slice Ao31 t351.length co31)
    have hcz41_4 := cz_ BK357 4 (.slice Ao32 t354.length co32)
    have hfz41_0 := blk_frozen BK357.out 0
    have hfz41_1 := blk_frozen BK357.out 1
    have hfz41_2 := blk_frozen BK357.out 2
    have hfz41_3 := blk_frozen BK357.out 3
    have hfz41_4 := blk_frozen BK357.out 4
    go_upto_region 14 with (first | ((with_reducible refine gate_callee (f := 35) rfl ?_); refine gl_ (some 34) Try.func35 #[.agg #[.int .i64 t348, .int .i64 t349, .int .i64 t350, .slice Ao31 t351.length co31, .slice Ao32 t354.length co32], .int .i64 1] ?_; (with_reducible refine (laws_markLsa.calls k t348 t349 t350 (fun k_ => some k_ = (.slice Ao31 t351.length co31 : Value).ownBlock) (.slice Ao31 t351.length co31) t351 (fun k_ => some k_ = (.slice Ao32 t354.length co32 : Value).ownBlock) (.slice Ao32 t354.length co32) t354 1 t372 t373 t374 w _ ?side1 ?side2 ?side3 A16.out).mono ?_); (case side1 => exact by_ HB); (case side2 => exact Kd.R_tight rfl HO353.out); (case side3 => exact Kd.R_tight rfl HO356.out); rintro e w42 ⟨rfl, hy0, hy1, hb, hkp⟩; refine ⟨_, rfl, ?_⟩; replace BK334 := bk_ BK334 hkp (fun hs_ => Or.elim hs_ (Kd.R_ne HO353.out BK334.out (by decide)) (Kd.R_ne HO356.out BK334.out (by decide))); replace HO341 := kp_ (fun k_ => some k_ ≠ (.slice Ao31 t351.length co31 : Value).ownBlock ∧ some k_ ≠ (.slice Ao38 t365.length co38 : Value).ownBlock) ((Kd.R_apart' HO341.out (Kd.R_typed HO356.out) (by decide))) hkp; replace HO344 := kp_ (fun k_ => some k_ ≠ (.slice Ao32 t354.length co32 : Value).ownBlock ∧ some k_ ≠ (.slice Ao39 t368.length co39 : Value).ownBlock) ((Kd.R_apart' HO344.out (Kd.R_typed HO353.out) (by decide))) hkp; replace HO347 := kp_ (fun k_ => some k_ ≠ (.slice Ao34 t358.length co34 : Value).ownBlock) ((Kd.R_apart' (Kd.R_apart' HO347.out (Kd.R_typed HO353.out) (by decide)) (Kd.R_typed HO356.out) (by decide))) hkp; replace BK357 := bk_ BK357 hkp (fun hs_ => Or.elim hs_ (Kd.R_ne HO353.out BK357.out (by decide)) (Kd.R_ne HO356.out BK357.out (by decide))); replace HO360 := kp_ (fun k_ => some k_ ≠ (.slice Ao35 t345.length co35 : Value).ownBlock) ((Kd.R_apart' (Kd.R_apart' HO360.out (Kd.R_typed HO353.out) (by decide)) (Kd.R_typed HO356.out) (by decide))) hkp; replace HO367 := kp_ (fun k_ => some k_ ≠ (.slice Ao23 t339.length co23 : Value).ownBlock ∧ some k_ ≠ (.slice Ao31 t351.length co31 : Value).ownBlock) ((Kd.R_apart' HO367.out (Kd.R_typed HO356.out) (by decide))) hkp; replace HO356 := Aside0.mk (Kd.R_reok rfl hy1 (fun k_ e_ => HO356.out.1 k_ e_)); replace HO370 := kp_ (fun k_ => some k_ ≠ (.slice Ao24 t342.length co24 : Value).ownBlock ∧ some k_ ≠ (.slice Ao32 t354.length co32 : Value).ownBlock) ((Kd.R_apart' HO370.out (Kd.R_typed HO353.out) (by decide))) hkp; replace HO353 := Aside0.mk (Kd.R_reok rfl hy0 (fun k_ e_ => HO353.out.1 k_ e_)); replace HB := Aside0.mk (hb); (try clear hb); (try clear hkp); (try clear hy0); (try clear hy1)))
    (try simp only [Act.put, List.setIfInBounds_toArray, List.set_cons_zero, List.set_cons_succ])
    go_cut [42] (fun v42 wc => ∃ (kq : Nat) (x42_16 : Bool), v42 = .bool x42_16 ∧ Aside0 (laws_FnExactLsaBytes.j0 kq t345 t358 x42_16 a0_0 a0_1 a0_2 l0_3 l0_4 = some r) ∧ Aside0 (kq ≤ k) ∧ Aside0 (Kd.R (Kd.int .u8) 5 wc w.heap.size (fun k_ => some k_ ≠ ((.slice Ao34 t358.length co34) : Value).ownBlock) (.slice Ao35 t345.length co35) t345) ∧ Aside0 (Kd.R (Kd.int .u8) 5 wc w.heap.size (fun k_ => some k_ ≠ ((.slice Ao35 t345.length co35) : Value).ownBlock) (.slice Ao34 t358.length co34) t358) ∧ Aside0 (Kd.R k70 70 wc w.heap.size (fun _ => True) (.slice Ao31 t351.length co31) t373) ∧ Aside0 (Kd.R k74 74 wc w.heap.size (fun _ => True) (.slice Ao32 t354.length co32) t374) ∧ Aside0 (wc.heap[gb334]? = some (.cells #[.int .i64 a0_0, .int .i64 a0_1, .int .i64 a0_2, (.slice A0_3 l0_3.length c0_3), (.slice A0_4 l0_4.length c0_4)] 25 (0, 0))) ∧ Aside0 (wc.heap[gb357]? = some (.cells #[.int .i64 t348, .int .i64 t349, .int .i64 t350, (.slice Ao31 t351.length co31), (.slice Ao32 t354.length co32)] 31 (0, 0))) ∧ Aside0 (Below w.heap.size w wc))
    case first =>
     have H := HC17.out
     clear HC17
     by_cases c43 : t372 < 0
     ·rw [if_pos c43] at H
      have c43b0 : decide (t372 < 0) = true := decide_eq_true c43
      clear c43
      (first | rw [c43b0] | (simp only [i64_w, i32_w]; rw [c43b0]) | skip)
      have H' := Aside0.mk H
      clear H
      go_wp2
      go_meet
      case rel => exact ⟨_, (true), (by first | rfl | (simp; done) | (simp [*]; done)), H', ⟨by first | omega | exact Nat.le_refl _⟩, ⟨by (with_reducible repeat (first | apply Kd.R_alloc | apply Kd.R_drewN | apply Kd.R_drew)); exact HO347.out⟩, ⟨by (with_reducible repeat (first | apply Kd.R_alloc | apply Kd.R_drewN | apply Kd.R_drew)); exact HO360.out⟩, ⟨by (with_reducible repeat (first | apply Kd.R_alloc | apply Kd.R_drewN | apply Kd.R_drew)); exact Kd.R_mono HO353.out (fun _ hk => trivial)⟩, ⟨by (with_reducible repeat (first | apply Kd.R_alloc | apply Kd.R_drewN | apply Kd.R_drew)); exact Kd.R_mono HO356.out (fun _ hk => trivial)⟩, ⟨by (with_reducible repeat (first | refine blk_drewN ?_ _ | refine blk_drew ?_ | refine blk_alloc ?_ _)); exact BK334.out⟩, ⟨by (with_reducible repeat (first | refine blk_drewN ?_ _ | refine blk_drew ?_ | refine blk_alloc ?_ _)); exact BK357.out⟩, ⟨by repeat (first | (with_reducible first | exact HB.out | apply below_alloc | apply pw_below_drewN | apply below_drew1 | refine below_set ?_ GE334.out | refine below_set ?_ GE357.out) | exact HB.out)⟩⟩
     ·rw [if_neg c43] at H
      have c43b0 : decide (t372 < 0) = false := decide_eq_false c43
      clear c43
      (first | rw [c43b0] | (simp only [i64_w, i32_w]; rw [c43b0]) | skip)
      replace H := Option.bind_eq_some_iff.mp H
      obtain ⟨t375, A440, H⟩ := H
      have A44 := Aside0.mk A440
      clear A440
      have H' := Aside0.mk H
      clear H
      go_wp2_with (first | (go_at_call 43; (with_reducible refine (laws_eqByteS.calls k _ _ t358 _ _ t345 t375 _ ?side1 ?side2 ?side3 ?side4 A44.out).mono ?_); (case side1 => exact rc_ HO360); (case side2 => exact (Kd.R_reads' HO360.out).2.1); (case side3 => exact rc_ HO347); (case side4 => exact (Kd.R_reads' HO347.out).2.1); rintro e w' ⟨rfl, ⟨nd, rfl⟩⟩))
      go_meet
      case rel => exact ⟨_, (!t375), (by first | rfl | (simp; done) | (simp [*]; done)), H', ⟨by first | omega | exact Nat.le_refl _⟩, ⟨by (with_reducible repeat (first | apply Kd.R_alloc | apply Kd.R_drewN | apply Kd.R_drew)); exact HO347.out⟩, ⟨by (with_reducible repeat (first | apply Kd.R_alloc | apply Kd.R_drewN | apply Kd.R_drew)); exact HO360.out⟩, ⟨by (with_reducible repeat (first | apply Kd.R_alloc | apply Kd.R_drewN | apply Kd.R_drew)); exact Kd.R_mono HO353.out (fun _ hk => trivial)⟩, ⟨by (with_reducible repeat (first | apply Kd.R_alloc | apply Kd.R_drewN | apply Kd.R_drew)); exact Kd.R_mono HO356.out (fun _ hk => trivial)⟩, ⟨by (with_reducible repeat (first | refine blk_drewN ?_ _ | refine blk_drew ?_ | refine blk_alloc ?_ _)); exact BK334.out⟩, ⟨by (with_reducible repeat (first | refine blk_drewN ?_ _ | refine blk_drew ?_ | refine blk_alloc ?_ _)); exact BK357.out⟩, ⟨by repeat (first | (with_reducible first | exact HB.out | apply below_alloc | apply pw_below_drewN | apply below_drew1 | refine below_set ?_ GE334.out | refine below_set ?_ GE357.out) | exact HB.out)⟩⟩
    case rest =>
     clear HC17
     try clear c1
     try clear c2
     try clear p2
     try clear c3
     try clear c3b0
     try clear c4
     try clear c9
     try clear c12
     try clear c13
     try clear c15
     try clear c17
     try clear c29
     try clear c35
     try clear c41
     try clear c42
     try clear c43
     try clear c43b0
     try clear hcz19_0
     try clear hcz19_1
     try clear hcz19_2
     try clear hcz19_3
     try clear hcz19_4
     try clear hcz21_0
     try clear hcz21_1
     try clear hcz21_2
     try clear hcz21_3
     try clear hcz21_4
     try clear hcz26_0
     try clear hcz26_1
     try clear hcz26_2
     try clear hcz26_3
     try clear hcz26_4
     try clear hcz30_0
     try clear hcz30_1
     try clear hcz30_2
     try clear hcz30_3
     try clear hcz30_4
     try clear hcz41_0
     try clear hcz41_1
     try clear hcz41_2
     try clear hcz41_3
     try clear hcz41_4
     try clear hcz5_0
     try clear hcz5_1
     try clear hcz5_2
     try clear hcz5_3
     try clear hcz5_4
     try clear hfz19_0
     try clear hfz19_1
     try clear hfz19_2
     try clear hfz19_3
     try clear hfz19_4
     try clear hfz21_0
     try clear hfz21_1
     try clear hfz21_2
     try clear hfz21_3
     try clear hfz21_4
     try clear hfz26_0
     try clear hfz26_1
     try clear hfz26_2
     try clear hfz26_3
     try clear hfz26_4
     try clear hfz30_0
     try clear hfz30_1
     try clear hfz30_2
     try clear hfz30_3
     try clear hfz30_4
     try clear hfz41_0
     try clear hfz41_1
     try clear hfz41_2
     try clear hfz41_3
     try clear hfz41_4
     try clear hfz5_0
     try clear hfz5_1
     try clear hfz5_2
     try clear hfz5_3
     try clear hfz5_4
     obtain ⟨kq, x42_16, rfl, HA, HJ16, HO_4, HO_6, HO_358003, HO_358004, BK334, BK357, HB⟩ := hcut
     have hl358003_16 := (Kd.R_reads' HO_358003.out).1
     rw [hl358003_16] at HO_358003
     (try simp only [hl358003_16])
     (try simp only [hl358003_16] at BK334)
     (try simp only [hl358003_16] at BK357)
     (try simp only [hl358003_16] at HO_4)
     (try simp only [hl358003_16] at HO_6)
     (try simp only [hl358003_16] at HO_358004)
     have hl358004_16 := (Kd.R_reads' HO_358004.out).1
     rw [hl358004_16] at HO_358004
     (try simp only [hl358004_16])
     (try simp only [hl358004_16] at BK334)
     (try simp only [hl358004_16] at BK357)
     (try simp only [hl358004_16] at HO_4)
     (try simp only [hl358004_16] at HO_6)
     (try simp only [hl358004_16] at HO_358003)
     cases kq with
     | zero => exact absurd HA.out (by simp [laws_FnExactLsaBytes.j0])
     | succ kj16 =>
      have H := HA.out
      clear HA
      simp only [laws_FnExactLsaBytes.j0] at H
      by_cases c45 : x42_16 = true
      ·subst c45
       rw [if_pos rfl] at H
       obtain rfl := Option.some.inj H
       go_wp2
       go_ret
       exact ⟨by first | rfl | (simp [errW_none, errW_some] <;> rfl) | (simp [*, errW_none, errW_some] <;> rfl), by repeat (first | (with_reducible first | exact HB.out | apply below_alloc | apply pw_below_drewN | apply below_drew1 | refine below_set ?_ GE334.out | refine below_set ?_ GE357.out) | exact HB.out)⟩
      ·replace c45 := Bool.eq_false_iff.mpr c45
       subst c45
       rw [if_neg (show ¬ (false = true) by decide)] at H
       replace H := Option.bind_eq_some_iff.mp H
       obtain ⟨⟨t376, t377⟩, A460, H⟩ := H
       have A46 := Aside0.mk A460
       clear A460
       replace H := Option.bind_eq_some_iff.mp H
       obtain ⟨t378, A470, H⟩ := H
       have A47 := Aside0.mk A470
       clear A470
       by_cases c48 : t378 < 0
       ·rw [if_pos c48] at H
        have c48b0 : decide (t378 < 0) = true := decide_eq_true c48
        clear c48
        obtain rfl := Option.some.inj H
        go_wp2_with (first | ((with_reducible refine gate_callee (f := 44) rfl ?_); refine gl_ (some 45) Try.func44 #[.slice Ao34 t358.length co34, .int .i64 1] ?_; (with_reducible refine (laws_markByteS.calls kj16 (fun k_ => some k_ = (.slice Ao34 t358.length co34 : Value).ownBlock) (.slice Ao34 t358.length co34) t358 1 t376 t377 w _ ?side1 ?side2 A46.out).mono ?_); (case side1 => exact by_ HB); (case side2 => exact Kd.R_tight rfl HO_6.out); rintro e w49 ⟨rfl, hy0, hb, hkp⟩; refine ⟨_, rfl, ?_⟩; replace HO_4 := kp_ (fun k_ => some k_ ≠ (.slice Ao34 t358.length co34 : Value).ownBlock) (HO_4.out) hkp; replace HO_358003 := kp_ (fun k_ => True) ((Kd.R_apart' HO_358003.out (Kd.R_typed HO_6.out) (by decide))) hkp; replace HO_358004 := kp_ (fun k_ => True) ((Kd.R_apart' HO_358004.out (Kd.R_typed HO_6.out) (by decide))) hkp; replace BK334 := bk_ BK334 hkp (fun hs_ => (Kd.R_ne HO_6.out BK334.out (by decide)) hs_); replace BK357 := bk_ BK357 hkp (fun hs_ => (Kd.R_ne HO_6.out BK357.out (by decide)) hs_); replace HO_6 := Aside0.mk (Kd.R_reok rfl hy0 (fun k_ e_ => HO_6.out.1 k_ e_)); replace HB := Aside0.mk (hb); (try clear hb); (try clear hkp); (try clear hy0)) | ((with_reducible refine gate_callee (f := 45) rfl ?_); refine goesL_ (some 48) rfl rfl Try.func45 (by kernel_rfl) rfl #[.slice Ao34 t377.length co34, .int .i64 1] rfl (by (try simp only [List.map_toArray, List.map_cons, List.map_nil]); first | done | (rw [show t377.length = t358.length from (Kd.R_reads' HO_6.out).1.symm] <;> rfl) | rfl | (simp only [List.length_drop, List.length_take]; rfl)) ?_; (with_reducible refine (laws_heldByteS.calls kj16 _ _ t377 1 t378 _ ?side1 ?side2 A47.out).mono ?_); (case side1 => exact rc_ HO_6); (case side2 => rw [show t377.length = t358.length from (Kd.R_reads' HO_6.out).1.symm]; exact (Kd.R_reads' HO_6.out).2.1); rintro e w' ⟨rfl, ⟨nd, rfl⟩⟩; refine ⟨_, rfl, ?_⟩))
        go_ret
        exact ⟨by first | rfl | (simp [errW_none, errW_some] <;> rfl) | (simp [*, errW_none, errW_some] <;> rfl), by repeat (first | (with_reducible first | exact HB.out | apply below_alloc | apply pw_below_drewN | apply below_drew1 | refine below_set ?_ GE334.out | refine below_set ?_ GE357.out) | exact HB.out)⟩
       ·rw [if_neg c48] at H
        have c48b0 : decide (t378 < 0) = false := decide_eq_false c48
        clear c48
        by_cases c50 : t378 = t376
        ·rw [if_pos c50] at H
         have c50b0 : (t378 == t376) = true := beq_iff_eq.mpr c50
         have c50b1 : (t378 != t376) = false := bne_eq_false_iff_eq.mpr c50
         clear c50
         replace H := Option.bind_eq_some_iff.mp H
         obtain ⟨⟨t379, t380, t381, t382, t385⟩, A510, H⟩ := H
         have A51 := Aside0.mk A510
         clear A510
         replace H := Option.bind_eq_some_iff.mp H
         obtain ⟨t388, A520, H⟩ := H
         have A52 := Aside0.mk A520
         clear A520
         replace H := Option.bind_eq_some_iff.mp H
         obtain ⟨t391, A530, H⟩ := H
         have A53 := Aside0.mk A530
         clear A530
         by_cases c54 : t391 = true
         ·subst c54
          rw [if_pos rfl] at H
          replace H := Option.bind_eq_some_iff.mp H
          obtain ⟨t392, A550, H⟩ := H
          have A55 := Aside0.mk A550
          clear A550
          by_cases c56 : t392 < 0
          ·rw [if_pos c56] at H
           have c56b0 : decide (t392 < 0) = true := decide_eq_true c56
           clear c56
           obtain rfl := Option.some.inj H
           go_wp2_with (first | ((with_reducible refine gate_callee (f := 44) rfl ?_); refine gl_ (some 45) Try.func44 #[.slice Ao34 t358.length co34, .int .i64 1] ?_; (with_reducible refine (laws_markByteS.calls kj16 (fun k_ => some k_ = (.slice Ao34 t358.length co34 : Value).ownBlock) (.slice Ao34 t358.length co34) t358 1 t376 t377 w _ ?side1 ?side2 A46.out).mono ?_); (case side1 => exact by_ HB); (case side2 => exact Kd.R_tight rfl HO_6.out); rintro e w57 ⟨rfl, hy0, hb, hkp⟩; refine ⟨_, rfl, ?_⟩; replace HO_4 := kp_ (fun k_ => some k_ ≠ (.slice Ao34 t358.length co34 : Value).ownBlock) (HO_4.out) hkp; replace HO_358003 := kp_ (fun k_ => True) ((Kd.R_apart' HO_358003.out (Kd.R_typed HO_6.out) (by decide))) hkp; replace HO_358004 := kp_ (fun k_ => True) ((Kd.R_apart' HO_358004.out (Kd.R_typed HO_6.out) (by decide))) hkp; replace BK334 := bk_ BK334 hkp (fun hs_ => (Kd.R_ne HO_6.out BK334.out (by decide)) hs_); replace BK357 := bk_ BK357 hkp (fun hs_ => (Kd.R_ne HO_6.out BK357.out (by decide)) hs_); replace HO_6 := Aside0.mk (Kd.R_reok rfl hy0 (fun k_ e_ => HO_6.out.1 k_ e_)); replace HB := Aside0.mk (hb); (try clear hb); (try clear hkp); (try clear hy0)) | ((with_reducible refine gate_callee (f := 45) rfl ?_); refine goesL_ (some 48) rfl rfl Try.func45 (by kernel_rfl) rfl #[.slice Ao34 t377.length co34, .int .i64 1] rfl (by (try simp only [List.map_toArray, List.map_cons, List.map_nil]); first | done | (rw [show t377.length = t358.length from (Kd.R_reads' HO_6.out).1.symm] <;> rfl) | rfl | (simp only [List.length_drop, List.length_take]; rfl)) ?_; (with_reducible refine (laws_heldByteS.calls kj16 _ _ t377 1 t378 _ ?side1 ?side2 A47.out).mono ?_); (case side1 => exact rc_ HO_6); (case side2 => rw [show t377.length = t358.length from (Kd.R_reads' HO_6.out).1.symm]; exact (Kd.R_reads' HO_6.out).2.1); rintro e w' ⟨rfl, ⟨nd, rfl⟩⟩; refine ⟨_, rfl, ?_⟩; have hnb58 := NB334_357.out; have hnc58 := NB357_334.out; have hcz59_0 := cz_ BK334 0 (.int .i64 a0_0); have hcz59_1 := cz_ BK334 1 (.int .i64 a0_1); have hcz59_2 := cz_ BK334 2 (.int .i64 a0_2); have hcz59_3 := cz_ BK334 3 (.slice A0_3 l0_3.length c0_3); have hcz59_4 := cz_ BK334 4 (.slice A0_4 l0_4.length c0_4); have hfz59_0 := blk_frozen BK334.out 0; have hfz59_1 := blk_frozen BK334.out 1; have hfz59_2 := blk_frozen BK334.out 2; have hfz59_3 := blk_frozen BK334.out 3; have hfz59_4 := blk_frozen BK334.out 4) | ((with_reducible refine gate_callee (f := 15) rfl ?_); refine gl_ (some 55) Try.func15 #[.agg #[.int .i64 a0_0, .int .i64 a0_1, .int .i64 a0_2, .slice A0_3 l0_3.length c0_3, .slice A0_4 l0_4.length c0_4]] ?_; (with_reducible refine (laws_toLsa.calls kj16 a0_0 a0_1 a0_2 _ _ l0_3 _ _ l0_4 t379 t380 t381 t382 t385 _ ?side1 ?side2 ?side3 ?side4 A51.out).mono ?_); (case side1 => exact cc_ HR0_3 HB); (case side2 => exact HC0_3.out); (case side3 => exact cc_ HR0_4 HB); (case side4 => exact HC0_4.out); rintro e w60 ⟨v383, v386, rfl, ho0, ho1, hb⟩; refine ⟨_, rfl, ?_⟩; have HO384 := Aside0.mk (Kd.R_lower (Kd.R_new' ho0 (Kd.R_lt (hd_ HO_358003))) (bz_ HB)); have HO387 := Aside0.mk (Kd.R_lower (Kd.R_new' ho1 (Kd.R_lt (hd_ HO_358004))) (bz_ HB)); replace HO_4 := rb_ HO_4 hb; replace HO_6 := rb_ HO_6 hb; replace HO_358003 := Aside0.mk (Kd.R_elder' (hd_ HO_358003) (Kd.R_base ho0) hb); replace HO_358004 := Aside0.mk (Kd.R_elder' (hd_ HO_358004) (Kd.R_base ho1) hb); replace BK334 := Aside0.mk (bb_ BK334 hb); replace BK357 := Aside0.mk (bb_ BK357 hb); replace HB := Aside0.mk (bt_ HB hb); (try clear hb); (try clear hb2); (try clear hk); (try clear hi); (try clear ho0); (try clear ho1); obtain ⟨Ao61, co61, eo61⟩ := Kd.R_slice HO384.out; subst eo61; obtain ⟨Ao62, co62, eo62⟩ := Kd.R_slice HO387.out; subst eo62) | ((with_reducible refine gate_callee (f := 42) rfl ?_); refine gl_ (some 56) Try.func42 #[.agg #[.int .i64 t379, .int .i64 t380, .int .i64 t381, .slice Ao61 t382.length co61, .slice Ao62 t385.length co62]] ?_; (with_reducible refine (impl_LsaBytes.calls kj16 t379 t380 t381 _ _ t382 _ _ t385 t388 _ ?side1 ?side2 ?side3 ?side4 A52.out).mono ?_); (case side1 => exact rc_ HO384); (case side2 => exact (Kd.R_reads' HO384.out).2.1); (case side3 => exact rc_ HO387); (case side4 => exact (Kd.R_reads' HO387.out).2.1); rintro e w63 ⟨v389, rfl, ho0, hb⟩; refine ⟨_, rfl, ?_⟩; have HO390 := Aside0.mk (Kd.R_lower (Kd.R_new' (Kd.R_new' ho0 (Kd.R_lt (hd_ HO_4))) (Kd.R_lt (hd_ HO_6))) (bz_ HB)); replace HO_358003 := rb_ HO_358003 hb; replace HO_358004 := rb_ HO_358004 hb; replace HO384 := rb_ HO384 hb; replace HO387 := rb_ HO387 hb; replace HO_4 := Aside0.mk (Kd.R_elder' (hd_ HO_4) (Kd.R_base ho0) hb); replace HO_6 := Aside0.mk (Kd.R_elder' (hd_ HO_6) (Kd.R_base ho0) hb); replace BK334 := Aside0.mk (bb_ BK334 hb); replace BK357 := Aside0.mk (bb_ BK357 hb); replace HB := Aside0.mk (bt_ HB hb); (try clear hb); (try clear hb2); (try clear hk); (try clear hi); (try clear ho0); obtain ⟨Ao64, co64, eo64⟩ := Kd.R_slice HO390.out; subst eo64) | ((with_reducible refine gate_callee (f := 43) rfl ?_); refine gl_ (some 59) Try.func43 #[.slice Ao64 t388.length co64, .slice Ao35 t345.length co35] ?_; (with_reducible refine (laws_eqByteS.calls kj16 _ _ t388 _ _ t345 true _ ?side1 ?side2 ?side3 ?side4 A53.out).mono ?_); (case side1 => exact rc_ HO390); (case side2 => exact (Kd.R_reads' HO390.out).2.1); (case side3 => exact rc_ HO_4); (case side4 => exact (Kd.R_reads' HO_4.out).2.1); rintro e w' ⟨rfl, ⟨nd, rfl⟩⟩; refine ⟨_, rfl, ?_⟩) | ((with_reducible refine gate_callee (f := 45) rfl ?_); refine goesL_ (some 63) rfl rfl Try.func45 (by kernel_rfl) rfl #[.slice Ao34 t377.length co34, .int .i64 1] rfl (by (try simp only [List.map_toArray, List.map_cons, List.map_nil]); first | done | (rw [show t377.length = t358.length from (Kd.R_reads' HO_6.out).1.symm] <;> rfl) | rfl | (simp only [List.length_drop, List.length_take]; rfl)) ?_; (with_reducible refine (laws_heldByteS.calls kj16 _ _ t377 1 t392 _ ?side1 ?side2 A55.out).mono ?_); (case side1 => exact rc_ HO_6); (case side2 => rw [show t377.length = t358.length from (Kd.R_reads' HO_6.out).1.symm]; exact (Kd.R_reads' HO_6.out).2.1); rintro e w' ⟨rfl, ⟨nd, rfl⟩⟩; refine ⟨_, rfl, ?_⟩))
           go_ret
           exact ⟨by first | rfl | (simp [errW_none, errW_some] <;> rfl) | (simp [*, errW_none, errW_some] <;> rfl), by repeat (first | (with_reducible first | exact HB.out | apply below_alloc | apply pw_below_drewN | apply below_drew1 | refine below_set ?_ GE334.out | refine below_set ?_ GE357.out) | exact HB.out)⟩
          ·rw [if_neg c56] at H
           have c56b0 : decide (t392 < 0) = false := decide_eq_false c56
           clear c56
           by_cases c65 : t392 = t376
           ·rw [if_pos c65] at H
            have c65b0 : (t392 == t376) = true := beq_iff_eq.mpr c65
            have c65b1 : (t392 != t376) = false := bne_eq_false_iff_eq.mpr c65
            clear c65
            obtain rfl := Option.some.inj H
            go_wp2_with (first | ((with_reducible refine gate_callee (f := 44) rfl ?_); refine gl_ (some 45) Try.func44 #[.slice Ao34 t358.length co34, .int .i64 1] ?_; (with_reducible refine (laws_markByteS.calls kj16 (fun k_ => some k_ = (.slice Ao34 t358.length co34 : Value).ownBlock) (.slice Ao34 t358.length co34) t358 1 t376 t377 w _ ?side1 ?side2 A46.out).mono ?_); (case side1 => exact by_ HB); (case side2 => exact Kd.R_tight rfl HO_6.out); rintro e w66 ⟨rfl, hy0, hb, hkp⟩; refine ⟨_, rfl, ?_⟩; replace HO_4 := kp_ (fun k_ => some k_ ≠ (.slice Ao34 t358.length co34 : Value).ownBlock) (HO_4.out) hkp; replace HO_358003 := kp_ (fun k_ => True) ((Kd.R_apart' HO_358003.out (Kd.R_typed HO_6.out) (by decide))) hkp; replace HO_358004 := kp_ (fun k_ => True) ((Kd.R_apart' HO_358004.out (Kd.R_typed HO_6.out) (by decide))) hkp; replace BK334 := bk_ BK334 hkp (fun hs_ => (Kd.R_ne HO_6.out BK334.out (by decide)) hs_); replace BK357 := bk_ BK357 hkp (fun hs_ => (Kd.R_ne HO_6.out BK357.out (by decide)) hs_); replace HO_6 := Aside0.mk (Kd.R_reok rfl hy0 (fun k_ e_ => HO_6.out.1 k_ e_)); replace HB := Aside0.mk (hb); (try clear hb); (try clear hkp); (try clear hy0)) | ((with_reducible refine gate_callee (f := 45) rfl ?_); refine goesL_ (some 48) rfl rfl Try.func45 (by kernel_rfl) rfl #[.slice Ao34 t377.length co34, .int .i64 1] rfl (by (try simp only [List.map_toArray, List.map_cons, List.map_nil]); first | done | (rw [show t377.length = t358.length from (Kd.R_reads' HO_6.out).1.symm] <;> rfl) | rfl | (simp only [List.length_drop, List.length_take]; rfl)) ?_; (with_reducible refine (laws_heldByteS.calls kj16 _ _ t377 1 t378 _ ?side1 ?side2 A47.out).mono ?_); (case side1 => exact rc_ HO_6); (case side2 => rw [show t377.length = t358.length from (Kd.R_reads' HO_6.out).1.symm]; exact (Kd.R_reads' HO_6.out).2.1); rintro e w' ⟨rfl, ⟨nd, rfl⟩⟩; refine ⟨_, rfl, ?_⟩; have hnb67 := NB334_357.out; have hnc67 := NB357_334.out; have hcz68_0 := cz_ BK334 0 (.int .i64 a0_0); have hcz68_1 := cz_ BK334 1 (.int .i64 a0_1); have hcz68_2 := cz_ BK334 2 (.int .i64 a0_2); have hcz68_3 := cz_ BK334 3 (.slice A0_3 l0_3.length c0_3); have hcz68_4 := cz_ BK334 4 (.slice A0_4 l0_4.length c0_4); have hfz68_0 := blk_frozen BK334.out 0; have hfz68_1 := blk_frozen BK334.out 1; have hfz68_2 := blk_frozen BK334.out 2; have hfz68_3 := blk_frozen BK334.out 3; have hfz68_4 := blk_frozen BK334.out 4) | ((with_reducible refine gate_callee (f := 15) rfl ?_); refine gl_ (some 55) Try.func15 #[.agg #[.int .i64 a0_0, .int .i64 a0_1, .int .i64 a0_2, .slice A0_3 l0_3.length c0_3, .slice A0_4 l0_4.length c0_4]] ?_; (with_reducible refine (laws_toLsa.calls kj16 a0_0 a0_1 a0_2 _ _ l0_3 _ _ l0_4 t379 t380 t381 t382 t385 _ ?side1 ?side2 ?side3 ?side4 A51.out).mono ?_); (case side1 => exact cc_ HR0_3 HB); (case side2 => exact HC0_3.out); (case side3 => exact cc_ HR0_4 HB); (case side4 => exact HC0_4.out); rintro e w69 ⟨v383, v386, rfl, ho0, ho1, hb⟩; refine ⟨_, rfl, ?_⟩; have HO384 := Aside0.mk (Kd.R_lower (Kd.R_new' ho0 (Kd.R_lt (hd_ HO_358003))) (bz_ HB)); have HO387 := Aside0.mk (Kd.R_lower (Kd.R_new' ho1 (Kd.R_lt (hd_ HO_358004))) (bz_ HB)); replace HO_4 := rb_ HO_4 hb; replace HO_6 := rb_ HO_6 hb; replace HO_358003 := Aside0.mk (Kd.R_elder' (hd_ HO_358003) (Kd.R_base ho0) hb); replace HO_358004 := Aside0.mk (Kd.R_elder' (hd_ HO_358004) (Kd.R_base ho1) hb); replace BK334 := Aside0.mk (bb_ BK334 hb); replace BK357 := Aside0.mk (bb_ BK357 hb); replace HB := Aside0.mk (bt_ HB hb); (try clear hb); (try clear hb2); (try clear hk); (try clear hi); (try clear ho0); (try clear ho1); obtain ⟨Ao70, co70, eo70⟩ := Kd.R_slice HO384.out; subst eo70; obtain ⟨Ao71, co71, eo71⟩ := Kd.R_slice HO387.out; subst eo71) | ((with_reducible refine gate_callee (f := 42) rfl ?_); refine gl_ (some 56) Try.func42 #[.agg #[.int .i64 t379, .int .i64 t380, .int .i64 t381, .slice Ao70 t382.length co70, .slice Ao71 t385.length co71]] ?_; (with_reducible refine (impl_LsaBytes.calls kj16 t379 t380 t381 _ _ t382 _ _ t385 t388 _ ?side1 ?side2 ?side3 ?side4 A52.out).mono ?_); (case side1 => exact rc_ HO384); (case side2 => exact (Kd.R_reads' HO384.out).2.1); (case side3 => exact rc_ HO387); (case side4 => exact (Kd.R_reads' HO387.out).2.1); rintro e w72 ⟨v389, rfl, ho0, hb⟩; refine ⟨_, rfl, ?_⟩; have HO390 := Aside0.mk (Kd.R_lower (Kd.R_new' (Kd.R_new' ho0 (Kd.R_lt (hd_ HO_4))) (Kd.R_lt (hd_ HO_6))) (bz_ HB)); replace HO_358003 := rb_ HO_358003 hb; replace HO_358004 := rb_ HO_358004 hb; replace HO384 := rb_ HO384 hb; replace HO387 := rb_ HO387 hb; replace HO_4 := Aside0.mk (Kd.R_elder' (hd_ HO_4) (Kd.R_base ho0) hb); replace HO_6 := Aside0.mk (Kd.R_elder' (hd_ HO_6) (Kd.R_base ho0) hb); replace BK334 := Aside0.mk (bb_ BK334 hb); replace BK357 := Aside0.mk (bb_ BK357 hb); replace HB := Aside0.mk (bt_ HB hb); (try clear hb); (try clear hb2); (try clear hk); (try clear hi); (try clear ho0); obtain ⟨Ao73, co73, eo73⟩ := Kd.R_slice HO390.out; subst eo73) | ((with_reducible refine gate_callee (f := 43) rfl ?_); refine gl_ (some 59) Try.func43 #[.slice Ao73 t388.length co73, .slice Ao35 t345.length co35] ?_; (with_reducible refine (laws_eqByteS.calls kj16 _ _ t388 _ _ t345 true _ ?side1 ?side2 ?side3 ?side4 A53.out).mono ?_); (case side1 => exact rc_ HO390); (case side2 => exact (Kd.R_reads' HO390.out).2.1); (case side3 => exact rc_ HO_4); (case side4 => exact (Kd.R_reads' HO_4.out).2.1); rintro e w' ⟨rfl, ⟨nd, rfl⟩⟩; refine ⟨_, rfl, ?_⟩) | ((with_reducible refine gate_callee (f := 45) rfl ?_); refine goesL_ (some 63) rfl rfl Try.func45 (by kernel_rfl) rfl #[.slice Ao34 t377.length co34, .int .i64 1] rfl (by (try simp only [List.map_toArray, List.map_cons, List.map_nil]); first | done | (rw [show t377.length = t358.length from (Kd.R_reads' HO_6.out).1.symm] <;> rfl) | rfl | (simp only [List.length_drop, List.length_take]; rfl)) ?_; (with_reducible refine (laws_heldByteS.calls kj16 _ _ t377 1 t392 _ ?side1 ?side2 A55.out).mono ?_); (case side1 => exact rc_ HO_6); (case side2 => rw [show t377.length = t358.length from (Kd.R_reads' HO_6.out).1.symm]; exact (Kd.R_reads' HO_6.out).2.1); rintro e w' ⟨rfl, ⟨nd, rfl⟩⟩; refine ⟨_, rfl, ?_⟩))
            go_ret
            exact ⟨by first | rfl | (simp [errW_none, errW_some] <;> rfl) | (simp [*, errW_none, errW_some] <;> rfl), by repeat (first | (with_reducible first | exact HB.out | apply below_alloc | apply pw_below_drewN | apply below_drew1 | refine below_set ?_ GE334.out | refine below_set ?_ GE357.out) | exact HB.out)⟩
           ·rw [if_neg c65] at H
            have c65b0 : (t392 == t376) = false := beq_eq_false_iff_ne.mpr c65
            have c65b1 : (t392 != t376) = true := bne_iff_ne.mpr c65
            obtain rfl := Option.some.inj H
            go_wp2_with (first | ((with_reducible refine gate_callee (f := 44) rfl ?_); refine gl_ (some 45) Try.func44 #[.slice Ao34 t358.length co34, .int .i64 1] ?_; (with_reducible refine (laws_markByteS.calls kj16 (fun k_ => some k_ = (.slice Ao34 t358.length co34 : Value).ownBlock) (.slice Ao34 t358.length co34) t358 1 t376 t377 w _ ?side1 ?side2 A46.out).mono ?_); (case side1 => exact by_ HB); (case side2 => exact Kd.R_tight rfl HO_6.out); rintro e w74 ⟨rfl, hy0, hb, hkp⟩; refine ⟨_, rfl, ?_⟩; replace HO_4 := kp_ (fun k_ => some k_ ≠ (.slice Ao34 t358.length co34 : Value).ownBlock) (HO_4.out) hkp; replace HO_358003 := kp_ (fun k_ => True) ((Kd.R_apart' HO_358003.out (Kd.R_typed HO_6.out) (by decide))) hkp; replace HO_358004 := kp_ (fun k_ => True) ((Kd.R_apart' HO_358004.out (Kd.R_typed HO_6.out) (by decide))) hkp; replace BK334 := bk_ BK334 hkp (fun hs_ => (Kd.R_ne HO_6.out BK334.out (by decide)) hs_); replace BK357 := bk_ BK357 hkp (fun hs_ => (Kd.R_ne HO_6.out BK357.out (by decide)) hs_); replace HO_6 := Aside0.mk (Kd.R_reok rfl hy0 (fun k_ e_ => HO_6.out.1 k_ e_)); replace HB := Aside0.mk (hb); (try clear hb); (try clear hkp); (try clear hy0)) | ((with_reducible refine gate_callee (f := 45) rfl ?_); refine goesL_ (some 48) rfl rfl Try.func45 (by kernel_rfl) rfl #[.slice Ao34 t377.length co34, .int .i64 1] rfl (by (try simp only [List.map_toArray, List.map_cons, List.map_nil]); first | done | (rw [show t377.length = t358.length from (Kd.R_reads' HO_6.out).1.symm] <;> rfl) | rfl | (simp only [List.length_drop, List.length_take]; rfl)) ?_; (with_reducible refine (laws_heldByteS.calls kj16 _ _ t377 1 t378 _ ?side1 ?side2 A47.out).mono ?_); (case side1 => exact rc_ HO_6); (case side2 => rw [show t377.length = t358.length from (Kd.R_reads' HO_6.out).1.symm]; exact (Kd.R_reads' HO_6.out).2.1); rintro e w' ⟨rfl, ⟨nd, rfl⟩⟩; refine ⟨_, rfl, ?_⟩; have hnb75 := NB334_357.out; have hnc75 := NB357_334.out; have hcz76_0 := cz_ BK334 0 (.int .i64 a0_0); have hcz76_1 := cz_ BK334 1 (.int .i64 a0_1); have hcz76_2 := cz_ BK334 2 (.int .i64 a0_2); have hcz76_3 := cz_ BK334 3 (.slice A0_3 l0_3.length c0_3); have hcz76_4 := cz_ BK334 4 (.slice A0_4 l0_4.length c0_4); have hfz76_0 := blk_frozen BK334.out 0; have hfz76_1 := blk_frozen BK334.out 1; have hfz76_2 := blk_frozen BK334.out 2; have hfz76_3 := blk_frozen BK334.out 3; have hfz76_4 := blk_frozen BK334.out 4) | ((with_reducible refine gate_callee (f := 15) rfl ?_); refine gl_ (some 55) Try.func15 #[.agg #[.int .i64 a0_0, .int .i64 a0_1, .int .i64 a0_2, .slice A0_3 l0_3.length c0_3, .slice A0_4 l0_4.length c0_4]] ?_; (with_reducible refine (laws_toLsa.calls kj16 a0_0 a0_1 a0_2 _ _ l0_3 _ _ l0_4 t379 t380 t381 t382 t385 _ ?side1 ?side2 ?side3 ?side4 A51.out).mono ?_); (case side1 => exact cc_ HR0_3 HB); (case side2 => exact HC0_3.out); (case side3 => exact cc_ HR0_4 HB); (case side4 => exact HC0_4.out); rintro e w77 ⟨v383, v386, rfl, ho0, ho1, hb⟩; refine ⟨_, rfl, ?_⟩; have HO384 := Aside0.mk (Kd.R_lower (Kd.R_new' ho0 (Kd.R_lt (hd_ HO_358003))) (bz_ HB)); have HO387 := Aside0.mk (Kd.R_lower (Kd.R_new' ho1 (Kd.R_lt (hd_ HO_358004))) (bz_ HB)); replace HO_4 := rb_ HO_4 hb; replace HO_6 := rb_ HO_6 hb; replace HO_358003 := Aside0.mk (Kd.R_elder' (hd_ HO_358003) (Kd.R_base ho0) hb); replace HO_358004 := Aside0.mk (Kd.R_elder' (hd_ HO_358004) (Kd.R_base ho1) hb); replace BK334 := Aside0.mk (bb_ BK334 hb); replace BK357 := Aside0.mk (bb_ BK357 hb); replace HB := Aside0.mk (bt_ HB hb); (try clear hb); (try clear hb2); (try clear hk); (try clear hi); (try clear ho0); (try clear ho1); obtain ⟨Ao78, co78, eo78⟩ := Kd.R_slice HO384.out; subst eo78; obtain ⟨Ao79, co79, eo79⟩ := Kd.R_slice HO387.out; subst eo79) | ((with_reducible refine gate_callee (f := 42) rfl ?_); refine gl_ (some 56) Try.func42 #[.agg #[.int .i64 t379, .int .i64 t380, .int .i64 t381, .slice Ao78 t382.length co78, .slice Ao79 t385.length co79]] ?_; (with_reducible refine (impl_LsaBytes.calls kj16 t379 t380 t381 _ _ t382 _ _ t385 t388 _ ?side1 ?side2 ?side3 ?side4 A52.out).mono ?_); (case side1 => exact rc_ HO384); (case side2 => exact (Kd.R_reads' HO384.out).2.1); (case side3 => exact rc_ HO387); (case side4 => exact (Kd.R_reads' HO387.out).2.1); rintro e w80 ⟨v389, rfl, ho0, hb⟩; refine ⟨_, rfl, ?_⟩; have HO390 := Aside0.mk (Kd.R_lower (Kd.R_new' (Kd.R_new' ho0 (Kd.R_lt (hd_ HO_4))) (Kd.R_lt (hd_ HO_6))) (bz_ HB)); replace HO_358003 := rb_ HO_358003 hb; replace HO_358004 := rb_ HO_358004 hb; replace HO384 := rb_ HO384 hb; replace HO387 := rb_ HO387 hb; replace HO_4 := Aside0.mk (Kd.R_elder' (hd_ HO_4) (Kd.R_base ho0) hb); replace HO_6 := Aside0.mk (Kd.R_elder' (hd_ HO_6) (Kd.R_base ho0) hb); replace BK334 := Aside0.mk (bb_ BK334 hb); replace BK357 := Aside0.mk (bb_ BK357 hb); replace HB := Aside0.mk (bt_ HB hb); (try clear hb); (try clear hb2); (try clear hk); (try clear hi); (try clear ho0); obtain ⟨Ao81, co81, eo81⟩ := Kd.R_slice HO390.out; subst eo81) | ((with_reducible refine gate_callee (f := 43) rfl ?_); refine gl_ (some 59) Try.func43 #[.slice Ao81 t388.length co81, .slice Ao35 t345.length co35] ?_; (with_reducible refine (laws_eqByteS.calls kj16 _ _ t388 _ _ t345 true _ ?side1 ?side2 ?side3 ?side4 A53.out).mono ?_); (case side1 => exact rc_ HO390); (case side2 => exact (Kd.R_reads' HO390.out).2.1); (case side3 => exact rc_ HO_4); (case side4 => exact (Kd.R_reads' HO_4.out).2.1); rintro e w' ⟨rfl, ⟨nd, rfl⟩⟩; refine ⟨_, rfl, ?_⟩) | ((with_reducible refine gate_callee (f := 45) rfl ?_); refine goesL_ (some 63) rfl rfl Try.func45 (by kernel_rfl) rfl #[.slice Ao34 t377.length co34, .int .i64 1] rfl (by (try simp only [List.map_toArray, List.map_cons, List.map_nil]); first | done | (rw [show t377.length = t358.length from (Kd.R_reads' HO_6.out).1.symm] <;> rfl) | rfl | (simp only [List.length_drop, List.length_take]; rfl)) ?_; (with_reducible refine (laws_heldByteS.calls kj16 _ _ t377 1 t392 _ ?side1 ?side2 A55.out).mono ?_); (case side1 => exact rc_ HO_6); (case side2 => rw [show t377.length = t358.length from (Kd.R_reads' HO_6.out).1.symm]; exact (Kd.R_reads' HO_6.out).2.1); rintro e w' ⟨rfl, ⟨nd, rfl⟩⟩; refine ⟨_, rfl, ?_⟩))
            go_ret
            exact ⟨by first | rfl | (simp [errW_none, errW_some] <;> rfl) | (simp [*, errW_none, errW_some] <;> rfl), by repeat (first | (with_reducible first | exact HB.out | apply below_alloc | apply pw_below_drewN | apply below_drew1 | refine below_set ?_ GE334.out | refine below_set ?_ GE357.out) | exact HB.out)⟩
         ·replace c54 := Bool.eq_false_iff.mpr c54
          subst c54
          rw [if_neg (show ¬ (false = true) by decide)] at H
          obtain rfl := Option.some.inj H
          go_wp2_with (first | ((with_reducible refine gate_callee (f := 44) rfl ?_); refine gl_ (some 45) Try.func44 #[.slice Ao34 t358.length co34, .int .i64 1] ?_; (with_reducible refine (laws_markByteS.calls kj16 (fun k_ => some k_ = (.slice Ao34 t358.length co34 : Value).ownBlock) (.slice Ao34 t358.length co34) t358 1 t376 t377 w _ ?side1 ?side2 A46.out).mono ?_); (case side1 => exact by_ HB); (case side2 => exact Kd.R_tight rfl HO_6.out); rintro e w82 ⟨rfl, hy0, hb, hkp⟩; refine ⟨_, rfl, ?_⟩; replace HO_4 := kp_ (fun k_ => some k_ ≠ (.slice Ao34 t358.length co34 : Value).ownBlock) (HO_4.out) hkp; replace HO_358003 := kp_ (fun k_ => True) ((Kd.R_apart' HO_358003.out (Kd.R_typed HO_6.out) (by decide))) hkp; replace HO_358004 := kp_ (fun k_ => True) ((Kd.R_apart' HO_358004.out (Kd.R_typed HO_6.out) (by decide))) hkp; replace BK334 := bk_ BK334 hkp (fun hs_ => (Kd.R_ne HO_6.out BK334.out (by decide)) hs_); replace BK357 := bk_ BK357 hkp (fun hs_ => (Kd.R_ne HO_6.out BK357.out (by decide)) hs_); replace HO_6 := Aside0.mk (Kd.R_reok rfl hy0 (fun k_ e_ => HO_6.out.1 k_ e_)); replace HB := Aside0.mk (hb); (try clear hb); (try clear hkp); (try clear hy0)) | ((with_reducible refine gate_callee (f := 45) rfl ?_); refine goesL_ (some 48) rfl rfl Try.func45 (by kernel_rfl) rfl #[.slice Ao34 t377.length co34, .int .i64 1] rfl (by (try simp only [List.map_toArray, List.map_cons, List.map_nil]); first | done | (rw [show t377.length = t358.length from (Kd.R_reads' HO_6.out).1.symm] <;> rfl) | rfl | (simp only [List.length_drop, List.length_take]; rfl)) ?_; (with_reducible refine (laws_heldByteS.calls kj16 _ _ t377 1 t378 _ ?side1 ?side2 A47.out).mono ?_); (case side1 => exact rc_ HO_6); (case side2 => rw [show t377.length = t358.length from (Kd.R_reads' HO_6.out).1.symm]; exact (Kd.R_reads' HO_6.out).2.1); rintro e w' ⟨rfl, ⟨nd, rfl⟩⟩; refine ⟨_, rfl, ?_⟩; have hnb83 := NB334_357.out; have hnc83 := NB357_334.out; have hcz84_0 := cz_ BK334 0 (.int .i64 a0_0); have hcz84_1 := cz_ BK334 1 (.int .i64 a0_1); have hcz84_2 := cz_ BK334 2 (.int .i64 a0_2); have hcz84_3 := cz_ BK334 3 (.slice A0_3 l0_3.length c0_3); have hcz84_4 := cz_ BK334 4 (.slice A0_4 l0_4.length c0_4); have hfz84_0 := blk_frozen BK334.out 0; have hfz84_1 := blk_frozen BK334.out 1; have hfz84_2 := blk_frozen BK334.out 2; have hfz84_3 := blk_frozen BK334.out 3; have hfz84_4 := blk_frozen BK334.out 4) | ((with_reducible refine gate_callee (f := 15) rfl ?_); refine gl_ (some 55) Try.func15 #[.agg #[.int .i64 a0_0, .int .i64 a0_1, .int .i64 a0_2, .slice A0_3 l0_3.length c0_3, .slice A0_4 l0_4.length c0_4]] ?_; (with_reducible refine (laws_toLsa.calls kj16 a0_0 a0_1 a0_2 _ _ l0_3 _ _ l0_4 t379 t380 t381 t382 t385 _ ?side1 ?side2 ?side3 ?side4 A51.out).mono ?_); (case side1 => exact cc_ HR0_3 HB); (case side2 => exact HC0_3.out); (case side3 => exact cc_ HR0_4 HB); (case side4 => exact HC0_4.out); rintro e w85 ⟨v383, v386, rfl, ho0, ho1, hb⟩; refine ⟨_, rfl, ?_⟩; have HO384 := Aside0.mk (Kd.R_lower (Kd.R_new' ho0 (Kd.R_lt (hd_ HO_358003))) (bz_ HB)); have HO387 := Aside0.mk (Kd.R_lower (Kd.R_new' ho1 (Kd.R_lt (hd_ HO_358004))) (bz_ HB)); replace HO_4 := rb_ HO_4 hb; replace HO_6 := rb_ HO_6 hb; replace HO_358003 := Aside0.mk (Kd.R_elder' (hd_ HO_358003) (Kd.R_base ho0) hb); replace HO_358004 := Aside0.mk (Kd.R_elder' (hd_ HO_358004) (Kd.R_base ho1) hb); replace BK334 := Aside0.mk (bb_ BK334 hb); replace BK357 := Aside0.mk (bb_ BK357 hb); replace HB := Aside0.mk (bt_ HB hb); (try clear hb); (try clear hb2); (try clear hk); (try clear hi); (try clear ho0); (try clear ho1); obtain ⟨Ao86, co86, eo86⟩ := Kd.R_slice HO384.out; subst eo86; obtain ⟨Ao87, co87, eo87⟩ := Kd.R_slice HO387.out; subst eo87) | ((with_reducible refine gate_callee (f := 42) rfl ?_); refine gl_ (some 56) Try.func42 #[.agg #[.int .i64 t379, .int .i64 t380, .int .i64 t381, .slice Ao86 t382.length co86, .slice Ao87 t385.length co87]] ?_; (with_reducible refine (impl_LsaBytes.calls kj16 t379 t380 t381 _ _ t382 _ _ t385 t388 _ ?side1 ?side2 ?side3 ?side4 A52.out).mono ?_); (case side1 => exact rc_ HO384); (case side2 => exact (Kd.R_reads' HO384.out).2.1); (case side3 => exact rc_ HO387); (case side4 => exact (Kd.R_reads' HO387.out).2.1); rintro e w88 ⟨v389, rfl, ho0, hb⟩; refine ⟨_, rfl, ?_⟩; have HO390 := Aside0.mk (Kd.R_lower (Kd.R_new' (Kd.R_new' ho0 (Kd.R_lt (hd_ HO_4))) (Kd.R_lt (hd_ HO_6))) (bz_ HB)); replace HO_358003 := rb_ HO_358003 hb; replace HO_358004 := rb_ HO_358004 hb; replace HO384 := rb_ HO384 hb; replace HO387 := rb_ HO387 hb; replace HO_4 := Aside0.mk (Kd.R_elder' (hd_ HO_4) (Kd.R_base ho0) hb); replace HO_6 := Aside0.mk (Kd.R_elder' (hd_ HO_6) (Kd.R_base ho0) hb); replace BK334 := Aside0.mk (bb_ BK334 hb); replace BK357 := Aside0.mk (bb_ BK357 hb); replace HB := Aside0.mk (bt_ HB hb); (try clear hb); (try clear hb2); (try clear hk); (try clear hi); (try clear ho0); obtain ⟨Ao89, co89, eo89⟩ := Kd.R_slice HO390.out; subst eo89) | ((with_reducible refine gate_callee (f := 43) rfl ?_); refine gl_ (some 59) Try.func43 #[.slice Ao89 t388.length co89, .slice Ao35 t345.length co35] ?_; (with_reducible refine (laws_eqByteS.calls kj16 _ _ t388 _ _ t345 false _ ?side1 ?side2 ?side3 ?side4 A53.out).mono ?_); (case side1 => exact rc_ HO390); (case side2 => exact (Kd.R_reads' HO390.out).2.1); (case side3 => exact rc_ HO_4); (case side4 => exact (Kd.R_reads' HO_4.out).2.1); rintro e w' ⟨rfl, ⟨nd, rfl⟩⟩; refine ⟨_, rfl, ?_⟩))
          go_ret
          exact ⟨by first | rfl | (simp [errW_none, errW_some] <;> rfl) | (simp [*, errW_none, errW_some] <;> rfl), by repeat (first | (with_reducible first | exact HB.out | apply below_alloc | apply pw_below_drewN | apply below_drew1 | refine below_set ?_ GE334.out | refine below_set ?_ GE357.out) | exact HB.out)⟩
        ·rw [if_neg c50] at H
         have c50b0 : (t378 == t376) = false := beq_eq_false_iff_ne.mpr c50
         have c50b1 : (t378 != t376) = true := bne_iff_ne.mpr c50
         obtain rfl := Option.some.inj H
         go_wp2_with (first | ((with_reducible refine gate_callee (f := 44) rfl ?_); refine gl_ (some 45) Try.func44 #[.slice Ao34 t358.length co34, .int .i64 1] ?_; (with_reducible refine (laws_markByteS.calls kj16 (fun k_ => some k_ = (.slice Ao34 t358.length co34 : Value).ownBlock) (.slice Ao34 t358.length co34) t358 1 t376 t377 w _ ?side1 ?side2 A46.out).mono ?_); (case side1 => exact by_ HB); (case side2 => exact Kd.R_tight rfl HO_6.out); rintro e w90 ⟨rfl, hy0, hb, hkp⟩; refine ⟨_, rfl, ?_⟩; replace HO_4 := kp_ (fun k_ => some k_ ≠ (.slice Ao34 t358.length co34 : Value).ownBlock) (HO_4.out) hkp; replace HO_358003 := kp_ (fun k_ => True) ((Kd.R_apart' HO_358003.out (Kd.R_typed HO_6.out) (by decide))) hkp; replace HO_358004 := kp_ (fun k_ => True) ((Kd.R_apart' HO_358004.out (Kd.R_typed HO_6.out) (by decide))) hkp; replace BK334 := bk_ BK334 hkp (fun hs_ => (Kd.R_ne HO_6.out BK334.out (by decide)) hs_); replace BK357 := bk_ BK357 hkp (fun hs_ => (Kd.R_ne HO_6.out BK357.out (by decide)) hs_); replace HO_6 := Aside0.mk (Kd.R_reok rfl hy0 (fun k_ e_ => HO_6.out.1 k_ e_)); replace HB := Aside0.mk (hb); (try clear hb); (try clear hkp); (try clear hy0)) | ((with_reducible refine gate_callee (f := 45) rfl ?_); refine goesL_ (some 48) rfl rfl Try.func45 (by kernel_rfl) rfl #[.slice Ao34 t377.length co34, .int .i64 1] rfl (by (try simp only [List.map_toArray, List.map_cons, List.map_nil]); first | done | (rw [show t377.length = t358.length from (Kd.R_reads' HO_6.out).1.symm] <;> rfl) | rfl | (simp only [List.length_drop, List.length_take]; rfl)) ?_; (with_reducible refine (laws_heldByteS.calls kj16 _ _ t377 1 t378 _ ?side1 ?side2 A47.out).mono ?_); (case side1 => exact rc_ HO_6); (case side2 => rw [show t377.length = t358.length from (Kd.R_reads' HO_6.out).1.symm]; exact (Kd.R_reads' HO_6.out).2.1); rintro e w' ⟨rfl, ⟨nd, rfl⟩⟩; refine ⟨_, rfl, ?_⟩))
         go_ret
         exact ⟨by first | rfl | (simp [errW_none, errW_some] <;> rfl) | (simp [*, errW_none, errW_some] <;> rfl), by repeat (first | (with_reducible first | exact HB.out | apply below_alloc | apply pw_below_drewN | apply below_drew1 | refine below_set ?_ GE334.out | refine below_set ?_ GE357.out) | exact HB.out)⟩
   ·replace c15 := Bool.eq_false_iff.mpr c15
    subst c15
    rw [if_neg (show ¬ (false = true) by decide)] at H
    obtain rfl := Option.some.inj H
    go_enter Try.func9, Try.ntmps9
    try go_wp2_with (first | ((with_reducible refine gate_dst (N := 1) rfl ?_); refine box_event ?hg (N := 1) ?hd (cs := #[.int .i64 a0_0, .int .i64 a0_1, .int .i64 a0_2, .slice A0_3 l0_3.length c0_3, .slice A0_4 l0_4.length c0_4]) (t := 25) ?hr ?_; (case hd => rfl); (case hg => rfl); (case hr => first | (go_simp; done) | (go_simp; rfl)); intro gb334 hg w91 hbox hb; have BK334 := Aside0.mk hbox; have GW334 := ge_ HB hg; have GE334 := ge_ HB hg; replace HB := Aside0.mk (bt_ HB hb); clear hb hbox hg; have hcz92_0 := cz_ BK334 0 (.int .i64 a0_0); have hcz92_1 := cz_ BK334 1 (.int .i64 a0_1); have hcz92_2 := cz_ BK334 2 (.int .i64 a0_2); have hcz92_3 := cz_ BK334 3 (.slice A0_3 l0_3.length c0_3); have hcz92_4 := cz_ BK334 4 (.slice A0_4 l0_4.length c0_4); have hfz92_0 := blk_frozen BK334.out 0; have hfz92_1 := blk_frozen BK334.out 1; have hfz92_2 := blk_frozen BK334.out 2; have hfz92_3 := blk_frozen BK334.out 3; have hfz92_4 := blk_frozen BK334.out 4) | ((with_reducible refine gate_callee (f := 13) rfl ?_); refine gl_ (some 13) Try.func13 #[.agg #[.int .i64 a0_0, .int .i64 a0_1, .int .i64 a0_2, .slice A0_3 l0_3.length c0_3, .slice A0_4 l0_4.length c0_4], .int .i64 1048576] ?_; (with_reducible refine (laws_szLsa.calls a0_0 a0_1 a0_2 _ _ l0_3 _ _ l0_4 1048576 t335 _ ?side1 ?side2 ?side3 ?side4 A2.out).mono ?_); (case side1 => exact cb_ HR0_3 HB); (case side2 => exact HC0_3.out); (case side3 => exact cb_ HR0_4 HB); (case side4 => exact HC0_4.out); rintro e w93 ⟨rfl, hb⟩; refine ⟨_, rfl, ?_⟩; replace BK334 := Aside0.mk (bb_ BK334 hb); replace HB := Aside0.mk (bt_ HB hb); (try clear hb); (try clear hb2); (try clear hk); (try clear hi); have hcz94_0 := cz_ BK334 0 (.int .i64 a0_0); have hcz94_1 := cz_ BK334 1 (.int .i64 a0_1); have hcz94_2 := cz_ BK334 2 (.int .i64 a0_2); have hcz94_3 := cz_ BK334 3 (.slice A0_3 l0_3.length c0_3); have hcz94_4 := cz_ BK334 4 (.slice A0_4 l0_4.length c0_4); have hfz94_0 := blk_frozen BK334.out 0; have hfz94_1 := blk_frozen BK334.out 1; have hfz94_2 := blk_frozen BK334.out 2; have hfz94_3 := blk_frozen BK334.out 3; have hfz94_4 := blk_frozen BK334.out 4) | ((with_reducible refine gate_callee (f := 15) rfl ?_); refine gl_ (some 17) Try.func15 #[.agg #[.int .i64 a0_0, .int .i64 a0_1, .int .i64 a0_2, .slice A0_3 l0_3.length c0_3, .slice A0_4 l0_4.length c0_4]] ?_; (with_reducible refine (laws_toLsa.calls k a0_0 a0_1 a0_2 _ _ l0_3 _ _ l0_4 t336 t337 t338 t339 t342 _ ?side1 ?side2 ?side3 ?side4 A7.out).mono ?_); (case side1 => exact cb_ HR0_3 HB); (case side2 => exact HC0_3.out); (case side3 => exact cb_ HR0_4 HB); (case side4 => exact HC0_4.out); rintro e w95 ⟨v340, v343, rfl, ho0, ho1, hb⟩; refine ⟨_, rfl, ?_⟩; have HO341 := Aside0.mk (Kd.R_lower ho0 (bz_ HB)); have HO344 := Aside0.mk (Kd.R_lower ho1 (bz_ HB)); replace BK334 := Aside0.mk (bb_ BK334 hb); replace HB := Aside0.mk (bt_ HB hb); (try clear hb); (try clear hb2); (try clear hk); (try clear hi); (try clear ho0); (try clear ho1); obtain ⟨Ao96, co96, eo96⟩ := Kd.R_slice HO341.out; subst eo96; obtain ⟨Ao97, co97, eo97⟩ := Kd.R_slice HO344.out; subst eo97) | ((with_reducible refine gate_callee (f := 41) rfl ?_); refine gl_ (some 18) Try.func41 #[.agg #[.int .i64 t336, .int .i64 t337, .int .i64 t338, .slice Ao96 t339.length co96, .slice Ao97 t342.length co97]] ?_; (with_reducible refine (spec_LsaBytes.calls k t336 t337 t338 _ _ t339 _ _ t342 t345 _ ?side1 ?side2 ?side3 ?side4 A8.out).mono ?_); (case side1 => exact rc_ HO341); (case side2 => exact (Kd.R_reads' HO341.out).2.1); (case side3 => exact rc_ HO344); (case side4 => exact (Kd.R_reads' HO344.out).2.1); rintro e w98 ⟨v346, rfl, ho0, hb⟩; refine ⟨_, rfl, ?_⟩; have HO347 := Aside0.mk (Kd.R_lower ho0 (bz_ HB)); replace HO341 := rb_ HO341 hb; replace HO344 := rb_ HO344 hb; replace BK334 := Aside0.mk (bb_ BK334 hb); replace HB := Aside0.mk (bt_ HB hb); (try clear hb); (try clear hb2); (try clear hk); (try clear hi); (try clear ho0); have hcz99_0 := cz_ BK334 0 (.int .i64 a0_0); have hcz99_1 := cz_ BK334 1 (.int .i64 a0_1); have hcz99_2 := cz_ BK334 2 (.int .i64 a0_2); have hcz99_3 := cz_ BK334 3 (.slice A0_3 l0_3.length c0_3); have hcz99_4 := cz_ BK334 4 (.slice A0_4 l0_4.length c0_4); have hfz99_0 := blk_frozen BK334.out 0; have hfz99_1 := blk_frozen BK334.out 1; have hfz99_2 := blk_frozen BK334.out 2; have hfz99_3 := blk_frozen BK334.out 3; have hfz99_4 := blk_frozen BK334.out 4) | ((with_reducible refine gate_callee (f := 15) rfl ?_); refine gl_ (some 20) Try.func15 #[.agg #[.int .i64 a0_0, .int .i64 a0_1, .int .i64 a0_2, .slice A0_3 l0_3.length c0_3, .slice A0_4 l0_4.length c0_4]] ?_; (with_reducible refine (laws_toLsa.calls k a0_0 a0_1 a0_2 _ _ l0_3 _ _ l0_4 t348 t349 t350 t351 t354 _ ?side1 ?side2 ?side3 ?side4 A9.out).mono ?_); (case side1 => exact cb_ HR0_3 HB); (case side2 => exact HC0_3.out); (case side3 => exact cb_ HR0_4 HB); (case side4 => exact HC0_4.out); rintro e w100 ⟨v352, v355, rfl, ho0, ho1, hb⟩; refine ⟨_, rfl, ?_⟩; have HO353 := Aside0.mk (Kd.R_lower (Kd.R_new' ho0 (Kd.R_lt (hd_ HO341))) (bz_ HB)); have HO356 := Aside0.mk (Kd.R_lower (Kd.R_new' ho1 (Kd.R_lt (hd_ HO344))) (bz_ HB)); replace HO347 := rb_ HO347 hb; replace HO341 := Aside0.mk (Kd.R_elder' (hd_ HO341) (Kd.R_base ho0) hb); replace HO344 := Aside0.mk (Kd.R_elder' (hd_ HO344) (Kd.R_base ho1) hb); replace BK334 := Aside0.mk (bb_ BK334 hb); replace HB := Aside0.mk (bt_ HB hb); (try clear hb); (try clear hb2); (try clear hk); (try clear hi); (try clear ho0); (try clear ho1)) | ((with_reducible refine gate_dst (N := 5) rfl ?_); refine box_event ?hg (N := 5) ?hd (cs := #[.int .i64 0, .int .i64 0, .int .i64 0, .slice none 0 0, .slice none 0 0]) (t := 31) ?hr ?_; (case hd => rfl); (case hg => rfl); (case hr => first | (go_simp; done) | (go_simp; rfl)); intro gb357 hg w101 hbox hb; have BK357 := Aside0.mk hbox; have GW357 := ge_ HB hg; have GE357 := ge_ HB hg; have NB334_357 := nl_ BK334 hg; have NB357_334 := ng_ BK334 hg; replace HO341 := rb_ HO341 hb; replace HO344 := rb_ HO344 hb; replace HO347 := rb_ HO347 hb; replace HO353 := rb_ HO353 hb; replace HO356 := rb_ HO356 hb; replace HB := Aside0.mk (bt_ HB hb); replace BK334 := Aside0.mk (bb_ BK334 hb); clear hb hbox hg; have hnb102 := NB357_334.out; have hnc102 := NB334_357.out; have hcz103_0 := cz_ BK357 0 (.int .i64 0); have hcz103_1 := cz_ BK357 1 (.int .i64 0); have hcz103_2 := cz_ BK357 2 (.int .i64 0); have hcz103_3 := cz_ BK357 3 (.slice none 0 0); have hcz103_4 := cz_ BK357 4 (.slice none 0 0); have hfz103_0 := blk_frozen BK357.out 0; have hfz103_1 := blk_frozen BK357.out 1; have hfz103_2 := blk_frozen BK357.out 2; have hfz103_3 := blk_frozen BK357.out 3; have hfz103_4 := blk_frozen BK357.out 4; obtain ⟨Ao104, co104, eo104⟩ := Kd.R_slice HO353.out; subst eo104; obtain ⟨Ao105, co105, eo105⟩ := Kd.R_slice HO356.out; subst eo105) | ((with_reducible refine gate_callee (f := 42) rfl ?_); refine gl_ (some 22) Try.func42 #[.agg #[.int .i64 t348, .int .i64 t349, .int .i64 t350, .slice Ao104 t351.length co104, .slice Ao105 t354.length co105]] ?_; (with_reducible refine (impl_LsaBytes.calls k t348 t349 t350 _ _ t351 _ _ t354 t358 _ ?side1 ?side2 ?side3 ?side4 A10.out).mono ?_); (case side1 => refine (Kd.R_reads' (e := 70) (base := w.heap.size) (ok := fun k_ => (True ∧ some k_ ≠ (.slice Ao96 t339.length co96 : Value).ownBlock)) (n := t351.length) (c := co104) ?_).2.2; exact (hs_ HO353 BK357)); (case side2 => exact (Kd.R_reads' HO353.out).2.1); (case side3 => refine (Kd.R_reads' (e := 74) (base := w.heap.size) (ok := fun k_ => (True ∧ some k_ ≠ (.slice Ao97 t342.length co97 : Value).ownBlock)) (n := t354.length) (c := co105) ?_).2.2; exact (hs_ HO356 BK357)); (case side4 => exact (Kd.R_reads' HO356.out).2.1); rintro e w106 ⟨v359, rfl, ho0, hb⟩; refine ⟨_, rfl, ?_⟩; have HO360 := Aside0.mk (Kd.R_lower (Kd.R_new' ho0 (Kd.R_lt (hs_ HO347 BK357))) (bz_ HB)); replace HO341 := rs_ HO341 BK357 hb; replace HO344 := rs_ HO344 BK357 hb; replace HO353 := rs_ HO353 BK357 hb; replace HO356 := rs_ HO356 BK357 hb; replace HO347 := Aside0.mk (Kd.R_elder' (hs_ HO347 BK357) (Kd.R_base ho0) hb); replace BK334 := bf_ BK334 NB334_357 hb; replace BK357 := Aside0.mk (blk_below (g := gb357) (o := .cells #[.int .i64 t348, .int .i64 t349, .int .i64 t350, .slice Ao104 t351.length co104, .slice Ao105 t354.length co105] 31 (0, 0)) (by (with_reducible repeat (first | refine blk_drewN ?_ _ | refine blk_drew ?_ | refine blk_alloc ?_ _)); refine blk_put (cs := #[.int .i64 t348, .int .i64 t349, .int .i64 t350, .slice Ao104 t351.length co104, .slice none 0 0]) ?_ 4 _ rfl; (with_reducible repeat (first | refine blk_drewN ?_ _ | refine blk_drew ?_ | refine blk_alloc ?_ _)); refine blk_put (cs := #[.int .i64 t348, .int .i64 t349, .int .i64 t350, .slice none 0 0, .slice none 0 0]) ?_ 3 _ rfl; (with_reducible repeat (first | refine blk_drewN ?_ _ | refine blk_drew ?_ | refine blk_alloc ?_ _)); refine blk_put (cs := #[.int .i64 t348, .int .i64 t349, .int .i64 0, .slice none 0 0, .slice none 0 0]) ?_ 2 _ rfl; (with_reducible repeat (first | refine blk_drewN ?_ _ | refine blk_drew ?_ | refine blk_alloc ?_ _)); refine blk_put (cs := #[.int .i64 t348, .int .i64 0, .int .i64 0, .slice none 0 0, .slice none 0 0]) ?_ 1 _ rfl; (with_reducible repeat (first | refine blk_drewN ?_ _ | refine blk_drew ?_ | refine blk_alloc ?_ _)); refine blk_put (cs := #[.int .i64 0, .int .i64 0, .int .i64 0, .slice none 0 0, .slice none 0 0]) ?_ 0 _ rfl; (with_reducible repeat (first | refine blk_drewN ?_ _ | refine blk_drew ?_ | refine blk_alloc ?_ _)); exact BK357.out) hb); replace HB := Aside0.mk (bt_ HB hb); (try clear hb); (try clear hb2); (try clear hk); (try clear hi); (try clear ho0); obtain ⟨Ao107, co107, eo107⟩ := Kd.R_slice HO360.out; subst eo107; obtain ⟨Ao108, co108, eo108⟩ := Kd.R_slice HO347.out; subst eo108) | ((with_reducible refine gate_callee (f := 43) rfl ?_); refine gl_ (some 25) Try.func43 #[.slice Ao107 t358.length co107, .slice Ao108 t345.length co108] ?_; (with_reducible refine (laws_eqByteS.calls k _ _ t358 _ _ t345 true _ ?side1 ?side2 ?side3 ?side4 A11.out).mono ?_); (case side1 => exact rc_ HO360); (case side2 => exact (Kd.R_reads' HO360.out).2.1); (case side3 => exact rc_ HO347); (case side4 => exact (Kd.R_reads' HO347.out).2.1); rintro e w' ⟨rfl, ⟨nd, rfl⟩⟩; refine ⟨_, rfl, ?_⟩))
    (try (rw [drewN_self w106]; generalize hq_ : World.drewN w106 _ = w106; replace HO341 : Aside0 (Kd.R k70 70 w106 w.heap.size (fun k_ => some k_ ≠ (.slice Ao104 t351.length co104 : Value).ownBlock) (.slice Ao96 t339.length co96) t339) := ⟨by rw [← hq_]; exact (by (with_reducible repeat (first | apply Kd.R_alloc | apply Kd.R_drewN | apply Kd.R_drew)); exact Kd.R_mono HO341.out (fun _ hk => hk.2))⟩; replace HO344 : Aside0 (Kd.R k74 74 w106 w.heap.size (fun k_ => some k_ ≠ (.slice Ao105 t354.length co105 : Value).ownBlock) (.slice Ao97 t342.length co97) t342) := ⟨by rw [← hq_]; exact (by (with_reducible repeat (first | apply Kd.R_alloc | apply Kd.R_drewN | apply Kd.R_drew)); exact Kd.R_mono HO344.out (fun _ hk => hk.2))⟩; replace HO347 : Aside0 (Kd.R (Kd.int .u8) 5 w106 w.heap.size (fun k_ => some k_ ≠ (.slice Ao107 t358.length co107 : Value).ownBlock) (.slice Ao108 t345.length co108) t345) := ⟨by rw [← hq_]; exact (by (with_reducible repeat (first | apply Kd.R_alloc | apply Kd.R_drewN | apply Kd.R_drew)); exact Kd.R_mono HO347.out (fun _ hk => hk.2))⟩; replace HO353 : Aside0 (Kd.R k70 70 w106 w.heap.size (fun k_ => some k_ ≠ (.slice Ao96 t339.length co96 : Value).ownBlock) (.slice Ao104 t351.length co104) t351) := ⟨by rw [← hq_]; exact (by (with_reducible repeat (first | apply Kd.R_alloc | apply Kd.R_drewN | apply Kd.R_drew)); exact Kd.R_mono HO353.out (fun _ hk => hk.2))⟩; replace HO356 : Aside0 (Kd.R k74 74 w106 w.heap.size (fun k_ => some k_ ≠ (.slice Ao97 t342.length co97 : Value).ownBlock) (.slice Ao105 t354.length co105) t354) := ⟨by rw [← hq_]; exact (by (with_reducible repeat (first | apply Kd.R_alloc | apply Kd.R_drewN | apply Kd.R_drew)); exact Kd.R_mono HO356.out (fun _ hk => hk.2))⟩; replace HO360 : Aside0 (Kd.R (Kd.int .u8) 5 w106 w.heap.size (fun k_ => some k_ ≠ (.slice Ao108 t345.length co108 : Value).ownBlock) (.slice Ao107 t358.length co107) t358) := ⟨by rw [← hq_]; exact (by (with_reducible repeat (first | apply Kd.R_alloc | apply Kd.R_drewN | apply Kd.R_drew)); exact Kd.R_mono HO360.out (fun _ hk => hk.2))⟩; replace BK334 : Aside0 (w106.heap[gb334]? = some (.cells #[.int .i64 a0_0, .int .i64 a0_1, .int .i64 a0_2, .slice A0_3 l0_3.length c0_3, .slice A0_4 l0_4.length c0_4] 25 (0, 0))) := ⟨by rw [← hq_]; exact (by (with_reducible repeat (first | refine blk_drewN ?_ _ | refine blk_drew ?_ | refine blk_alloc ?_ _)); exact BK334.out)⟩; replace BK357 : Aside0 (w106.heap[gb357]? = some (.cells #[.int .i64 t348, .int .i64 t349, .int .i64 t350, .slice Ao104 t351.length co104, .slice Ao105 t354.length co105] 31 (0, 0))) := ⟨by rw [← hq_]; exact (by (with_reducible repeat (first | refine blk_drewN ?_ _ | refine blk_drew ?_ | refine blk_alloc ?_ _)); exact BK357.out)⟩; replace HB : Aside0 (Below w.heap.size w w106) := ⟨by rw [← hq_]; exact (by repeat (first | (with_reducible first | exact HB.out | apply below_alloc | apply pw_below_drewN | apply below_drew1 | refine below_set ?_ GE334.out | refine below_set ?_ GE357.out) | exact HB.out))⟩; clear hq_))
    replace HO341 := Aside0.mk (Kd.R_drew HO341.out)
    replace HO344 := Aside0.mk (Kd.R_drew HO344.out)
    replace HO347 := Aside0.mk (Kd.R_drew HO347.out)
    replace HO353 := Aside0.mk (Kd.R_drew HO353.out)
    replace HO356 := Aside0.mk (Kd.R_drew HO356.out)
    replace HO360 := Aside0.mk (Kd.R_drew HO360.out)
    replace BK334 := Aside0.mk (blk_drew BK334.out)
    replace BK357 := Aside0.mk (blk_drew BK357.out)
    replace HB := Aside0.mk (below_drew1 HB.out)
    refine start_ (n := 5) (S := fun w' => w'.cell? ⟨gb357, 0, none⟩ = some (.int .i64 t348) ∧ w'.cell? ⟨gb357, 1, none⟩ = some (.int .i64 t349) ∧ w'.cell? ⟨gb357, 2, none⟩ = some (.int .i64 t350) ∧ w'.cell? ⟨gb357, 3, none⟩ = some (.slice Ao104 t351.length co104) ∧ w'.cell? ⟨gb357, 4, none⟩ = some (.slice Ao105 t354.length co105) ∧ w'.cell? ⟨gb334, 0, none⟩ = some (.int .i64 a0_0) ∧ w'.cell? ⟨gb334, 1, none⟩ = some (.int .i64 a0_1) ∧ w'.cell? ⟨gb334, 2, none⟩ = some (.int .i64 a0_2) ∧ w'.cell? ⟨gb334, 3, none⟩ = some (.slice A0_3 l0_3.length c0_3) ∧ w'.cell? ⟨gb334, 4, none⟩ = some (.slice A0_4 l0_4.length c0_4)) (ds := []) ba14_0 (by kernel_rfl) rfl rfl ⟨(blk_cell BK357.out 0).trans rfl, (blk_cell BK357.out 1).trans rfl, (blk_cell BK357.out 2).trans rfl, (blk_cell BK357.out 3).trans rfl, (blk_cell BK357.out 4).trans rfl, (blk_cell BK334.out 0).trans rfl, (blk_cell BK334.out 1).trans rfl, (blk_cell BK334.out 2).trans rfl, (blk_cell BK334.out 3).trans rfl, (blk_cell BK334.out 4).trans rfl⟩ (fun hHeld => ?_)
    generalize w106.drew = w109 at HO341 HO344 HO347 HO353 HO356 HO360 BK334 BK357 HB hHeld ⊢
    refine take_ (i := 0) (N := some 27) (v := ?_) (a' := ?_) ba14_1 rfl rfl (by kernel_rfl) (fun _ _ _ h => h) (Or.inl ⟨by rfl, ?_⟩) hHeld ?_ ?_
    rotate_left; · rintro w' ⟨s0, s1, s2, s3, s4, s5, s6, s7, s8, s9⟩; go_simp; with_reducible rfl
    rotate_left; · simp only [Act.put, List.setIfInBounds_toArray, List.set_cons_zero, List.set_cons_succ, i64_w, i32_w]; rfl
    refine take_ (i := 1) (N := some 28) (v := ?_) (a' := ?_) ba14_2 rfl rfl (by kernel_rfl) (fun _ _ _ h => h) (Or.inl ⟨by rfl, ?_⟩) hHeld ?_ ?_
    rotate_left; · rintro w' ⟨s0, s1, s2, s3, s4, s5, s6, s7, s8, s9⟩; go_simp; with_reducible rfl
    rotate_left; · simp only [Act.put, List.setIfInBounds_toArray, List.set_cons_zero, List.set_cons_succ, i64_w, i32_w]; rfl
    refine one_ (i := 2) (N := some 29) ba14_3 rfl rfl (by kernel_rfl) (by decide) (fun K hK => ?_)
    refine gz_ Try.func15 #[.agg #[.int .i64 a0_0, .int .i64 a0_1, .int .i64 a0_2, .slice A0_3 l0_3.length c0_3, .slice A0_4 l0_4.length c0_4]] ?_
    with_reducible refine (laws_toLsa.calls k a0_0 a0_1 a0_2 _ _ l0_3 _ _ l0_4 t362 t363 t364 t365 t368 _ ?side1 ?side2 ?side3 ?side4 A13.out).mono ?_
    (case side1 => exact cb_ HR0_3 HB)
    (case side2 => exact HC0_3.out)
    (case side3 => exact cb_ HR0_4 HB)
    (case side4 => exact HC0_4.out)
    rintro e w110 ⟨v366, v369, rfl, ho0, ho1, hb⟩
    refine ⟨_, rfl, ?_⟩
    have HO367 := Aside0.mk (Kd.R_lower (Kd.R_new' (Kd.R_new' ho0 (Kd.R_lt (hd_ HO341))) (Kd.R_lt (hd_ HO353))) (bz_ HB))
    have HO370 := Aside0.mk (Kd.R_lower (Kd.R_new' (Kd.R_new' ho1 (Kd.R_lt (hd_ HO344))) (Kd.R_lt (hd_ HO356))) (bz_ HB))
    replace HO347 := rb_ HO347 hb
    replace HO360 := rb_ HO360 hb
    replace HO341 := Aside0.mk (Kd.R_elder' (hd_ HO341) (Kd.R_base ho0) hb)
    replace HO353 := Aside0.mk (Kd.R_elder' (hd_ HO353) (Kd.R_base ho0) hb)
    replace HO344 := Aside0.mk (Kd.R_elder' (hd_ HO344) (Kd.R_base ho1) hb)
    replace HO356 := Aside0.mk (Kd.R_elder' (hd_ HO356) (Kd.R_base ho1) hb)
    replace BK334 := Aside0.mk (bb_ BK334 hb)
    replace BK357 := Aside0.mk (bb_ BK357 hb)
    replace HB := Aside0.mk (bt_ HB hb)
    (try clear hb)
    (try clear hb2)
    (try clear hk)
    (try clear hi)
    (try clear ho0)
    (try clear ho1)
    obtain ⟨Ao111, co111, eo111⟩ := Kd.R_slice HO367.out
    (first | subst eo111 | (injection eo111 with f1_ f2_ f3_; have f4_ := f1_.symm; have f5_ := f3_.symm; clear f1_ f2_ f3_; subst f4_; subst f5_))
    obtain ⟨Ao112, co112, eo112⟩ := Kd.R_slice HO370.out
    (first | subst eo112 | (injection eo112 with f1_ f2_ f3_; have f4_ := f1_.symm; have f5_ := f3_.symm; clear f1_ f2_ f3_; subst f4_; subst f5_))
    refine hK.out _ _ ⟨(blk_cell BK357.out 0).trans rfl, (blk_cell BK357.out 1).trans rfl, (blk_cell BK357.out 2).trans rfl, (blk_cell BK357.out 3).trans rfl, (blk_cell BK357.out 4).trans rfl, (blk_cell BK334.out 0).trans rfl, (blk_cell BK334.out 1).trans rfl, (blk_cell BK334.out 2).trans rfl, (blk_cell BK334.out 3).trans rfl, (blk_cell BK334.out 4).trans rfl⟩ (fun hHeld => ?_)
    clear hK K
    refine nz_ 29 ?_
    refine one_ (i := 3) (N := some 30) ba14_4 rfl rfl (by kernel_rfl) (by decide) (fun K hK => ?_)
    refine gz_ Try.func17 #[.agg #[.int .i64 t348, .int .i64 t349, .int .i64 t350, .slice Ao104 t351.length co104, .slice Ao105 t354.length co105], .agg #[.int .i64 t362, .int .i64 t363, .int .i64 t364, .slice Ao111 t365.length co111, .slice Ao112 t368.length co112]] ?_
    with_reducible refine (laws_eqLsa.calls k t348 t349 t350 _ _ t351 _ _ t354 t362 t363 t364 _ _ t365 _ _ t368 false _ ?side1 ?side2 ?side3 ?side4 ?side5 ?side6 ?side7 ?side8 A14.out).mono ?_
    (case side1 => exact rc_ HO353)
    (case side2 => exact (Kd.R_reads' HO353.out).2.1)
    (case side3 => exact rc_ HO356)
    (case side4 => exact (Kd.R_reads' HO356.out).2.1)
    (case side5 => exact rc_ HO367)
    (case side6 => exact (Kd.R_reads' HO367.out).2.1)
    (case side7 => exact rc_ HO370)
    (case side8 => exact (Kd.R_reads' HO370.out).2.1)
    rintro e w113 ⟨rfl, hb⟩
    refine ⟨_, rfl, ?_⟩
    replace HO341 := rb_ HO341 hb
    replace HO344 := rb_ HO344 hb
    replace HO347 := rb_ HO347 hb
    replace HO353 := rb_ HO353 hb
    replace HO356 := rb_ HO356 hb
    replace HO360 := rb_ HO360 hb
    replace HO367 := rb_ HO367 hb
    replace HO370 := rb_ HO370 hb
    replace BK334 := Aside0.mk (bb_ BK334 hb)
    replace BK357 := Aside0.mk (bb_ BK357 hb)
    replace HB := Aside0.mk (bt_ HB hb)
    (try clear hb)
    (try clear hb2)
    (try clear hk)
    (try clear hi)
    refine hK.out _ _ ⟨(blk_cell BK357.out 0).trans rfl, (blk_cell BK357.out 1).trans rfl, (blk_cell BK357.out 2).trans rfl, (blk_cell BK357.out 3).trans rfl, (blk_cell BK357.out 4).trans rfl, (blk_cell BK334.out 0).trans rfl, (blk_cell BK334.out 1).trans rfl, (blk_cell BK334.out 2).trans rfl, (blk_cell BK334.out 3).trans rfl, (blk_cell BK334.out 4).trans rfl⟩ (fun hHeld => ?_)
    clear hK K
    refine nz_ 30 ?_
    refine pure_ (i := 4) (N := some 31) (v := ?_) (a' := ?_) ba14_5 rfl rfl (by kernel_rfl) (fun _ _ _ h => h) (Or.inl ⟨by rfl, ?_⟩) ?_ ?_
    rotate_left; · intro w'; go_simp; with_reducible rfl
    rotate_left; · simp only [Act.put, List.setIfInBounds_toArray, List.set_cons_zero, List.set_cons_succ, i64_w, i32_w]; rfl
    refine done_ (by kernel_rfl) ?_
    try go_wp2
    go_ret
    exact ⟨by first | rfl | (simp [errW_none, errW_some] <;> rfl) | (simp [*, errW_none, errW_some] <;> rfl), by repeat (first | (with_reducible first | exact HB.out | apply below_alloc | apply pw_below_drewN | apply below_drew1 | refine below_set ?_ GE334.out | refine below_set ?_ GE357.out) | exact HB.out)⟩
  ·replace c12 := Bool.eq_false_iff.mpr c12
   subst c12
   rw [if_neg (show ¬ (false = true) by decide)] at H
   obtain rfl := Option.some.inj H
   go_enter Try.func9, Try.ntmps9
   go_wp2_with (first | ((with_reducible refine gate_dst (N := 1) rfl ?_); refine box_event ?hg (N := 1) ?hd (cs := #[.int .i64 a0_0, .int .i64 a0_1, .int .i64 a0_2, .slice A0_3 l0_3.length c0_3, .slice A0_4 l0_4.length c0_4]) (t := 25) ?hr ?_; (case hd => rfl); (case hg => rfl); (case hr => first | (go_simp; done) | (go_simp; rfl)); intro gb334 hg w114 hbox hb; have BK334 := Aside0.mk hbox; have GW334 := ge_ HB hg; have GE334 := ge_ HB hg; replace HB := Aside0.mk (bt_ HB hb); clear hb hbox hg; have hcz115_0 := cz_ BK334 0 (.int .i64 a0_0); have hcz115_1 := cz_ BK334 1 (.int .i64 a0_1); have hcz115_2 := cz_ BK334 2 (.int .i64 a0_2); have hcz115_3 := cz_ BK334 3 (.slice A0_3 l0_3.length c0_3); have hcz115_4 := cz_ BK334 4 (.slice A0_4 l0_4.length c0_4); have hfz115_0 := blk_frozen BK334.out 0; have hfz115_1 := blk_frozen BK334.out 1; have hfz115_2 := blk_frozen BK334.out 2; have hfz115_3 := blk_frozen BK334.out 3; have hfz115_4 := blk_frozen BK334.out 4) | ((with_reducible refine gate_callee (f := 13) rfl ?_); refine gl_ (some 13) Try.func13 #[.agg #[.int .i64 a0_0, .int .i64 a0_1, .int .i64 a0_2, .slice A0_3 l0_3.length c0_3, .slice A0_4 l0_4.length c0_4], .int .i64 1048576] ?_; (with_reducible refine (laws_szLsa.calls a0_0 a0_1 a0_2 _ _ l0_3 _ _ l0_4 1048576 t335 _ ?side1 ?side2 ?side3 ?side4 A2.out).mono ?_); (case side1 => exact cb_ HR0_3 HB); (case side2 => exact HC0_3.out); (case side3 => exact cb_ HR0_4 HB); (case side4 => exact HC0_4.out); rintro e w116 ⟨rfl, hb⟩; refine ⟨_, rfl, ?_⟩; replace BK334 := Aside0.mk (bb_ BK334 hb); replace HB := Aside0.mk (bt_ HB hb); (try clear hb); (try clear hb2); (try clear hk); (try clear hi); have hcz117_0 := cz_ BK334 0 (.int .i64 a0_0); have hcz117_1 := cz_ BK334 1 (.int .i64 a0_1); have hcz117_2 := cz_ BK334 2 (.int .i64 a0_2); have hcz117_3 := cz_ BK334 3 (.slice A0_3 l0_3.length c0_3); have hcz117_4 := cz_ BK334 4 (.slice A0_4 l0_4.length c0_4); have hfz117_0 := blk_frozen BK334.out 0; have hfz117_1 := blk_frozen BK334.out 1; have hfz117_2 := blk_frozen BK334.out 2; have hfz117_3 := blk_frozen BK334.out 3; have hfz117_4 := blk_frozen BK334.out 4) | ((with_reducible refine gate_callee (f := 15) rfl ?_); refine gl_ (some 17) Try.func15 #[.agg #[.int .i64 a0_0, .int .i64 a0_1, .int .i64 a0_2, .slice A0_3 l0_3.length c0_3, .slice A0_4 l0_4.length c0_4]] ?_; (with_reducible refine (laws_toLsa.calls k a0_0 a0_1 a0_2 _ _ l0_3 _ _ l0_4 t336 t337 t338 t339 t342 _ ?side1 ?side2 ?side3 ?side4 A7.out).mono ?_); (case side1 => exact cb_ HR0_3 HB); (case side2 => exact HC0_3.out); (case side3 => exact cb_ HR0_4 HB); (case side4 => exact HC0_4.out); rintro e w118 ⟨v340, v343, rfl, ho0, ho1, hb⟩; refine ⟨_, rfl, ?_⟩; have HO341 := Aside0.mk (Kd.R_lower ho0 (bz_ HB)); have HO344 := Aside0.mk (Kd.R_lower ho1 (bz_ HB)); replace BK334 := Aside0.mk (bb_ BK334 hb); replace HB := Aside0.mk (bt_ HB hb); (try clear hb); (try clear hb2); (try clear hk); (try clear hi); (try clear ho0); (try clear ho1); obtain ⟨Ao119, co119, eo119⟩ := Kd.R_slice HO341.out; subst eo119; obtain ⟨Ao120, co120, eo120⟩ := Kd.R_slice HO344.out; subst eo120) | ((with_reducible refine gate_callee (f := 41) rfl ?_); refine gl_ (some 18) Try.func41 #[.agg #[.int .i64 t336, .int .i64 t337, .int .i64 t338, .slice Ao119 t339.length co119, .slice Ao120 t342.length co120]] ?_; (with_reducible refine (spec_LsaBytes.calls k t336 t337 t338 _ _ t339 _ _ t342 t345 _ ?side1 ?side2 ?side3 ?side4 A8.out).mono ?_); (case side1 => exact rc_ HO341); (case side2 => exact (Kd.R_reads' HO341.out).2.1); (case side3 => exact rc_ HO344); (case side4 => exact (Kd.R_reads' HO344.out).2.1); rintro e w121 ⟨v346, rfl, ho0, hb⟩; refine ⟨_, rfl, ?_⟩; have HO347 := Aside0.mk (Kd.R_lower ho0 (bz_ HB)); replace HO341 := rb_ HO341 hb; replace HO344 := rb_ HO344 hb; replace BK334 := Aside0.mk (bb_ BK334 hb); replace HB := Aside0.mk (bt_ HB hb); (try clear hb); (try clear hb2); (try clear hk); (try clear hi); (try clear ho0); have hcz122_0 := cz_ BK334 0 (.int .i64 a0_0); have hcz122_1 := cz_ BK334 1 (.int .i64 a0_1); have hcz122_2 := cz_ BK334 2 (.int .i64 a0_2); have hcz122_3 := cz_ BK334 3 (.slice A0_3 l0_3.length c0_3); have hcz122_4 := cz_ BK334 4 (.slice A0_4 l0_4.length c0_4); have hfz122_0 := blk_frozen BK334.out 0; have hfz122_1 := blk_frozen BK334.out 1; have hfz122_2 := blk_frozen BK334.out 2; have hfz122_3 := blk_frozen BK334.out 3; have hfz122_4 := blk_frozen BK334.out 4) | ((with_reducible refine gate_callee (f := 15) rfl ?_); refine gl_ (some 20) Try.func15 #[.agg #[.int .i64 a0_0, .int .i64 a0_1, .int .i64 a0_2, .slice A0_3 l0_3.length c0_3, .slice A0_4 l0_4.length c0_4]] ?_; (with_reducible refine (laws_toLsa.calls k a0_0 a0_1 a0_2 _ _ l0_3 _ _ l0_4 t348 t349 t350 t351 t354 _ ?side1 ?side2 ?side3 ?side4 A9.out).mono ?_); (case side1 => exact cb_ HR0_3 HB); (case side2 => exact HC0_3.out); (case side3 => exact cb_ HR0_4 HB); (case side4 => exact HC0_4.out); rintro e w123 ⟨v352, v355, rfl, ho0, ho1, hb⟩; refine ⟨_, rfl, ?_⟩; have HO353 := Aside0.mk (Kd.R_lower (Kd.R_new' ho0 (Kd.R_lt (hd_ HO341))) (bz_ HB)); have HO356 := Aside0.mk (Kd.R_lower (Kd.R_new' ho1 (Kd.R_lt (hd_ HO344))) (bz_ HB)); replace HO347 := rb_ HO347 hb; replace HO341 := Aside0.mk (Kd.R_elder' (hd_ HO341) (Kd.R_base ho0) hb); replace HO344 := Aside0.mk (Kd.R_elder' (hd_ HO344) (Kd.R_base ho1) hb); replace BK334 := Aside0.mk (bb_ BK334 hb); replace HB := Aside0.mk (bt_ HB hb); (try clear hb); (try clear hb2); (try clear hk); (try clear hi); (try clear ho0); (try clear ho1)) | ((with_reducible refine gate_dst (N := 5) rfl ?_); refine box_event ?hg (N := 5) ?hd (cs := #[.int .i64 0, .int .i64 0, .int .i64 0, .slice none 0 0, .slice none 0 0]) (t := 31) ?hr ?_; (case hd => rfl); (case hg => rfl); (case hr => first | (go_simp; done) | (go_simp; rfl)); intro gb357 hg w124 hbox hb; have BK357 := Aside0.mk hbox; have GW357 := ge_ HB hg; have GE357 := ge_ HB hg; have NB334_357 := nl_ BK334 hg; have NB357_334 := ng_ BK334 hg; replace HO341 := rb_ HO341 hb; replace HO344 := rb_ HO344 hb; replace HO347 := rb_ HO347 hb; replace HO353 := rb_ HO353 hb; replace HO356 := rb_ HO356 hb; replace HB := Aside0.mk (bt_ HB hb); replace BK334 := Aside0.mk (bb_ BK334 hb); clear hb hbox hg; have hnb125 := NB357_334.out; have hnc125 := NB334_357.out; have hcz126_0 := cz_ BK357 0 (.int .i64 0); have hcz126_1 := cz_ BK357 1 (.int .i64 0); have hcz126_2 := cz_ BK357 2 (.int .i64 0); have hcz126_3 := cz_ BK357 3 (.slice none 0 0); have hcz126_4 := cz_ BK357 4 (.slice none 0 0); have hfz126_0 := blk_frozen BK357.out 0; have hfz126_1 := blk_frozen BK357.out 1; have hfz126_2 := blk_frozen BK357.out 2; have hfz126_3 := blk_frozen BK357.out 3; have hfz126_4 := blk_frozen BK357.out 4; obtain ⟨Ao127, co127, eo127⟩ := Kd.R_slice HO353.out; subst eo127; obtain ⟨Ao128, co128, eo128⟩ := Kd.R_slice HO356.out; subst eo128) | ((with_reducible refine gate_callee (f := 42) rfl ?_); refine gl_ (some 22) Try.func42 #[.agg #[.int .i64 t348, .int .i64 t349, .int .i64 t350, .slice Ao127 t351.length co127, .slice Ao128 t354.length co128]] ?_; (with_reducible refine (impl_LsaBytes.calls k t348 t349 t350 _ _ t351 _ _ t354 t358 _ ?side1 ?side2 ?side3 ?side4 A10.out).mono ?_); (case side1 => refine (Kd.R_reads' (e := 70) (base := w.heap.size) (ok := fun k_ => (True ∧ some k_ ≠ (.slice Ao119 t339.length co119 : Value).ownBlock)) (n := t351.length) (c := co127) ?_).2.2; exact (hs_ HO353 BK357)); (case side2 => exact (Kd.R_reads' HO353.out).2.1); (case side3 => refine (Kd.R_reads' (e := 74) (base := w.heap.size) (ok := fun k_ => (True ∧ some k_ ≠ (.slice Ao120 t342.length co120 : Value).ownBlock)) (n := t354.length) (c := co128) ?_).2.2; exact (hs_ HO356 BK357)); (case side4 => exact (Kd.R_reads' HO356.out).2.1); rintro e w129 ⟨v359, rfl, ho0, hb⟩; refine ⟨_, rfl, ?_⟩; have HO360 := Aside0.mk (Kd.R_lower (Kd.R_new' ho0 (Kd.R_lt (hs_ HO347 BK357))) (bz_ HB)); replace HO341 := rs_ HO341 BK357 hb; replace HO344 := rs_ HO344 BK357 hb; replace HO353 := rs_ HO353 BK357 hb; replace HO356 := rs_ HO356 BK357 hb; replace HO347 := Aside0.mk (Kd.R_elder' (hs_ HO347 BK357) (Kd.R_base ho0) hb); replace BK334 := bf_ BK334 NB334_357 hb; replace BK357 := Aside0.mk (blk_below (g := gb357) (o := .cells #[.int .i64 t348, .int .i64 t349, .int .i64 t350, .slice Ao127 t351.length co127, .slice Ao128 t354.length co128] 31 (0, 0)) (by (with_reducible repeat (first | refine blk_drewN ?_ _ | refine blk_drew ?_ | refine blk_alloc ?_ _)); refine blk_put (cs := #[.int .i64 t348, .int .i64 t349, .int .i64 t350, .slice Ao127 t351.length co127, .slice none 0 0]) ?_ 4 _ rfl; (with_reducible repeat (first | refine blk_drewN ?_ _ | refine blk_drew ?_ | refine blk_alloc ?_ _)); refine blk_put (cs := #[.int .i64 t348, .int .i64 t349, .int .i64 t350, .slice none 0 0, .slice none 0 0]) ?_ 3 _ rfl; (with_reducible repeat (first | refine blk_drewN ?_ _ | refine blk_drew ?_ | refine blk_alloc ?_ _)); refine blk_put (cs := #[.int .i64 t348, .int .i64 t349, .int .i64 0, .slice none 0 0, .slice none 0 0]) ?_ 2 _ rfl; (with_reducible repeat (first | refine blk_drewN ?_ _ | refine blk_drew ?_ | refine blk_alloc ?_ _)); refine blk_put (cs := #[.int .i64 t348, .int .i64 0, .int .i64 0, .slice none 0 0, .slice none 0 0]) ?_ 1 _ rfl; (with_reducible repeat (first | refine blk_drewN ?_ _ | refine blk_drew ?_ | refine blk_alloc ?_ _)); refine blk_put (cs := #[.int .i64 0, .int .i64 0, .int .i64 0, .slice none 0 0, .slice none 0 0]) ?_ 0 _ rfl; (with_reducible repeat (first | refine blk_drewN ?_ _ | refine blk_drew ?_ | refine blk_alloc ?_ _)); exact BK357.out) hb); replace HB := Aside0.mk (bt_ HB hb); (try clear hb); (try clear hb2); (try clear hk); (try clear hi); (try clear ho0); obtain ⟨Ao130, co130, eo130⟩ := Kd.R_slice HO360.out; subst eo130; obtain ⟨Ao131, co131, eo131⟩ := Kd.R_slice HO347.out; subst eo131) | ((with_reducible refine gate_callee (f := 43) rfl ?_); refine gl_ (some 25) Try.func43 #[.slice Ao130 t358.length co130, .slice Ao131 t345.length co131] ?_; (with_reducible refine (laws_eqByteS.calls k _ _ t358 _ _ t345 false _ ?side1 ?side2 ?side3 ?side4 A11.out).mono ?_); (case side1 => exact rc_ HO360); (case side2 => exact (Kd.R_reads' HO360.out).2.1); (case side3 => exact rc_ HO347); (case side4 => exact (Kd.R_reads' HO347.out).2.1); rintro e w' ⟨rfl, ⟨nd, rfl⟩⟩; refine ⟨_, rfl, ?_⟩))
   go_ret
   exact ⟨by first | rfl | (simp [errW_none, errW_some] <;> rfl) | (simp [*, errW_none, errW_some] <;> rfl), by repeat (first | (with_reducible first | exact HB.out | apply below_alloc | apply pw_below_drewN | apply below_drew1 | refine below_set ?_ GE334.out | refine below_set ?_ GE357.out) | exact HB.out)⟩

end Go.Proofs.Ytiikcfaodkiakaa.QFnExactLsaBytes
