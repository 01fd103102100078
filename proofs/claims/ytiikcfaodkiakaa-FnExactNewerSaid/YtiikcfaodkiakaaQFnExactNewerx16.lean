/- Contracts of functions that the law reaches: what each call returns and what it leaves in memory. Made by this session over the print of the kit. -/
import Derived.Test.YtiikcfaodkiakaaQFnExactNewerx0
import Derived.Test.YtiikcfaodkiakaaQFnExactNewerx14
import Derived.Test.YtiikcfaodkiakaaQFnExactNewerx15
namespace Go.Proofs.Ytiikcfaodkiakaa.QFnExactNewer
open Go.RowKit Go.Proofs.YtiikcfaodkiakaaY.PrintWords Go.Proofs.YtiikcfaodkiakaaY.PrintLast Go.Proofs.YtiikcfaodkiakaaY.PrintMore
attribute [local go_sem] max2_int min2_int max_two min_two max_three min_three max_four min_four   -- for this text's walks alone
set_option linter.unusedVariables false
set_option linter.unusedSimpArgs false
def ba16_0 : Array Bool := #[false, false, false, false, false, false, false, false, false, false, false, false, false]
def ba16_1 : Array Bool := #[true, false, false, false, false, false, false, false, false, false, false, false, false]
def ba16_2 : Array Bool := #[true, false, true, false, false, false, false, false, false, false, false, false, false]
def ba16_3 : Array Bool := #[true, true, true, false, false, false, false, false, false, false, false, false, false]
def ba16_4 : Array Bool := #[true, true, true, true, false, false, false, false, false, false, false, false, false]
def ba16_5 : Array Bool := #[true, true, true, true, false, true, false, false, false, false, false, false, false]
def ba16_6 : Array Bool := #[true, true, true, true, false, true, false, true, false, false, false, false, false]
def ba16_7 : Array Bool := #[true, true, true, true, true, true, false, true, false, false, false, false, false]
def ba16_8 : Array Bool := #[true, true, true, true, true, true, true, true, false, false, false, false, false]
def ba16_9 : Array Bool := #[true, true, true, true, true, true, true, true, true, false, false, false, false]
def ba16_10 : Array Bool := #[true, true, true, true, true, true, true, true, true, true, false, false, false]
def ba16_11 : Array Bool := #[true, true, true, true, true, true, true, true, true, true, true, false, false]
def ba16_12 : Array Bool := #[true, true, true, true, true, true, true, true, true, true, true, true, false]
def ba16_13 : Array Bool := #[true, true, true, true, true, true, true, true, true, true, true, true, true]
def ba16_14 : Array Bool := #[false, false, false, false, false, false, false, false]
def ba16_15 : Array Bool := #[true, false, false, false, false, false, false, false]
def ba16_16 : Array Bool := #[true, false, false, true, false, false, false, false]
def ba16_17 : Array Bool := #[true, true, false, true, false, false, false, false]
def ba16_18 : Array Bool := #[true, true, false, true, true, false, false, false]
def ba16_19 : Array Bool := #[true, true, true, true, true, false, false, false]
def ba16_20 : Array Bool := #[true, true, true, true, true, true, false, false]
def ba16_21 : Array Bool := #[true, true, true, true, true, true, true, false]
def ba16_22 : Array Bool := #[true, true, true, true, true, true, true, true]

/-! ### impl_newer: function 80 -/
def impl_newer.f (k : Nat) (a0_0 : Int) (a0_1 : Int) (a0_2 : Int) (l0_3 : List (S70)) (l0_4 : List (S74)) (a1_0 : Int) (a1_1 : Int) (a1_2 : Int) (l1_3 : List (S70)) (l1_4 : List (S74)) : Option (Int) := (cmp_Compare_int.f a0_1 a1_1).bind fun t345 => ((impl_Lsa_sum.f k a0_0 a0_1 a0_2 l0_3 l0_4).bind fun t346 => ((impl_Lsa_sum.f k a1_0 a1_1 a1_2 l1_3 l1_4).bind fun t347 => ((cmp_Compare_int.f t346 t347).bind fun t348 => ((cmp_Or_int.f k (([t345, t348] : List Int))).bind fun t352 => (if t352 = 0 then ((impl_newer_1.f a0_0 a0_1 a0_2 l0_3 l0_4).bind fun t353 => ((impl_newer_1.f a1_0 a1_1 a1_2 l1_3 l1_4).bind fun t354 => (if (t353 != t354) = true then ((impl_newer_1.f a0_0 a0_1 a0_2 l0_3 l0_4).bind fun t355 => (if t355 = true then (some 1) else (some (-1)))) else (if (wrap64 (a0_2 - a1_2)) > 10 then (some (-1)) else (if (wrap64 (a1_2 - a0_2)) > 10 then (some 1) else (some 0)))))) else (some t352))))))
theorem impl_newer.mono : ∀ a0 a1 a2 a3 a4 a5 a6 a7 a8 a9 k, LeO (impl_newer.f k a0 a1 a2 a3 a4 a5 a6 a7 a8 a9) (impl_newer.f (k + 1) a0 a1 a2 a3 a4 a5 a6 a7 a8 a9) := by
 intro a0 a1 a2 a3 a4 a5 a6 a7 a8 a9 k
 unfold impl_newer.f
 repeat' first
   | (with_reducible exact cmp_Or_int.mono _ _)
   | (with_reducible exact impl_Lsa_sum.mono _ _ _ _ _ _)
   | (with_reducible exact LeO.refl _)
   | (with_reducible exact LeO.none _)
   | (with_reducible refine LeO.ite ?_ ?_)
   | (with_reducible refine LeO.bind ?_ (fun _ => ?_))
   | exact cmp_Or_int.mono _ _
   | exact impl_Lsa_sum.mono _ _ _ _ _ _
   | exact LeO.none _
   | refine LeO.ite ?_ ?_
   | refine LeO.bind ?_ (fun _ => ?_)
def impl_newer.T1 : Bool × List (List Nat × List Nat) := (true, [([], []), ([0], [0]), ([], []), ([2], [2]), ([1, 3], [1, 3]), ([], []), ([5, 4], [5]), ([], []), ([7, 6], [7]), ([6, 8, 8], [6, 8]), ([4, 9], [4, 9]), ([10, 9], [10]), ([11, 11, 0, 1, 2, 3, 4, 5, 6, 7, 8, 9, 10, 11], [11])])
def impl_newer.B1 : List Nat := [0, 1, 0, 4, 15, 0, 63, 0, 255, 511, 1023, 2047, 4095]
theorem impl_newer.tab1 : rtab .any (opsOf Try.f80 1) = impl_newer.T1 := by kernel_rfl
theorem impl_newer.bits1 : waitsOk impl_newer.T1.2 impl_newer.B1 = true := by kernel_rfl
def impl_newer.T5 : Bool × List (List Nat × List Nat) := (true, [([], []), ([], []), ([0, 1], [0, 1]), ([], []), ([], []), ([3, 4, 2], [3, 4]), ([2, 5], [2, 5]), ([6, 5], [6])])
def impl_newer.B5 : List Nat := [0, 0, 3, 0, 0, 31, 63, 127]
theorem impl_newer.tab5 : rtab .any (opsOf Try.f80 5) = impl_newer.T5 := by kernel_rfl
theorem impl_newer.bits5 : waitsOk impl_newer.T5.2 impl_newer.B5 = true := by kernel_rfl
set_option maxHeartbeats 8000000 in
set_option maxRecDepth 100000 in
theorem impl_newer.calls (k : Nat) (a0_0 : Int) (a0_1 : Int) (a0_2 : Int) (A0_3 : Option Addr) (c0_3 : Nat) (l0_3 : List (S70)) (A0_4 : Option Addr) (c0_4 : Nat) (l0_4 : List (S74)) (a1_0 : Int) (a1_1 : Int) (a1_2 : Int) (A1_3 : Option Addr) (c1_3 : Nat) (l1_3 : List (S70)) (A1_4 : Option Addr) (c1_4 : Nat) (l1_4 : List (S74)) (r : Int) (w : World) (hr0_3 : Kd.C k70 w A0_3 l0_3.length l0_3) (hc0_3 : l0_3.length ≤ c0_3) (hr0_4 : Kd.C k74 w A0_4 l0_4.length l0_4) (hc0_4 : l0_4.length ≤ c0_4) (hr1_3 : Kd.C k70 w A1_3 l1_3.length l1_3) (hc1_3 : l1_3.length ≤ c1_3) (hr1_4 : Kd.C k74 w A1_4 l1_4.length l1_4) (hc1_4 : l1_4.length ≤ c1_4) (h : impl_newer.f k a0_0 a0_1 a0_2 l0_3 l0_4 a1_0 a1_1 a1_2 l1_3 l1_4 = some r) :
  Calls Try.prog 80 #[.agg #[.int .i64 a0_0, .int .i64 a0_1, .int .i64 a0_2, .slice A0_3 l0_3.length c0_3, .slice A0_4 l0_4.length c0_4], .agg #[.int .i64 a1_0, .int .i64 a1_1, .int .i64 a1_2, .slice A1_3 l1_3.length c1_3, .slice A1_4 l1_4.length c1_4]] w fun e w' => e = .returned (.int .i64 r) ∧ Below w.heap.size w w' := by
 have hu31 := Try.underlying31
 have HR0_3 := Aside0.mk hr0_3
 have HC0_3 := Aside0.mk hc0_3
 clear hr0_3 hc0_3
 have HR0_4 := Aside0.mk hr0_4
 have HC0_4 := Aside0.mk hc0_4
 clear hr0_4 hc0_4
 have HR1_3 := Aside0.mk hr1_3
 have HC1_3 := Aside0.mk hc1_3
 clear hr1_3 hc1_3
 have HR1_4 := Aside0.mk hr1_4
 have HC1_4 := Aside0.mk hc1_4
 clear hr1_4 hc1_4
 have HB := Aside0.mk (Below.refl w.heap.size w)
 have H : ((cmp_Compare_int.f a0_1 a1_1).bind fun t345 => ((impl_Lsa_sum.f k a0_0 a0_1 a0_2 l0_3 l0_4).bind fun t346 => ((impl_Lsa_sum.f k a1_0 a1_1 a1_2 l1_3 l1_4).bind fun t347 => ((cmp_Compare_int.f t346 t347).bind fun t348 => ((cmp_Or_int.f k (([t345, t348] : List Int))).bind fun t352 => (if t352 = 0 then ((impl_newer_1.f a0_0 a0_1 a0_2 l0_3 l0_4).bind fun t353 => ((impl_newer_1.f a1_0 a1_1 a1_2 l1_3 l1_4).bind fun t354 => (if (t353 != t354) = true then ((impl_newer_1.f a0_0 a0_1 a0_2 l0_3 l0_4).bind fun t355 => (if t355 = true then (some 1) else (some (-1)))) else (if (wrap64 (a0_2 - a1_2)) > 10 then (some (-1)) else (if (wrap64 (a1_2 - a0_2)) > 10 then (some 1) else (some 0)))))) else (some t352))))))) = some r := h
 clear h
 replace H := Option.bind_eq_some_iff.mp H
 obtain ⟨t345, A30, H⟩ := H
 have A3 := Aside0.mk A30
 clear A30
 replace H := Option.bind_eq_some_iff.mp H
 obtain ⟨t346, A40, H⟩ := H
 have A4 := Aside0.mk A40
 clear A40
 replace H := Option.bind_eq_some_iff.mp H
 obtain ⟨t347, A50, H⟩ := H
 have A5 := Aside0.mk A50
 clear A50
 replace H := Option.bind_eq_some_iff.mp H
 obtain ⟨t348, A60, H⟩ := H
 have A6 := Aside0.mk A60
 clear A60
 obtain ⟨y349, hy349⟩ : ∃ y_ : List Int, y_ = (([t345, t348] : List Int)) := ⟨_, rfl⟩
 replace H : ((cmp_Or_int.f k y349).bind fun t352 => (if t352 = 0 then ((impl_newer_1.f a0_0 a0_1 a0_2 l0_3 l0_4).bind fun t353 => ((impl_newer_1.f a1_0 a1_1 a1_2 l1_3 l1_4).bind fun t354 => (if (t353 != t354) = true then ((impl_newer_1.f a0_0 a0_1 a0_2 l0_3 l0_4).bind fun t355 => (if t355 = true then (some 1) else (some (-1)))) else (if (wrap64 (a0_2 - a1_2)) > 10 then (some (-1)) else (if (wrap64 (a1_2 - a0_2)) > 10 then (some 1) else (some 0)))))) else (some t352))) = some r := by first | (rw [hy349]; with_reducible exact H) | (have H2_ := (Option.bind_some _ _).symm.trans H; rw [hy349]; with_reducible exact H2_) | (have H2_ := (Option.bind_some _ _).symm.trans H; with_reducible exact H2_) | with_reducible exact H | (rw [hy349]; exact H) | exact H
 have Ny349 := Aside0.mk hy349
 clear hy349
 replace H := Option.bind_eq_some_iff.mp H
 obtain ⟨t352, A70, H⟩ := H
 have A7 := Aside0.mk A70
 clear A70
 by_cases c8 : t352 = 0
 ·rw [if_pos c8] at H
  have c8b0 : (t352 == 0) = true := beq_iff_eq.mpr c8
  have c8b1 : (t352 != 0) = false := bne_eq_false_iff_eq.mpr c8
  clear c8
  replace H := Option.bind_eq_some_iff.mp H
  obtain ⟨t353, A90, H⟩ := H
  have A9 := Aside0.mk A90
  clear A90
  replace H := Option.bind_eq_some_iff.mp H
  obtain ⟨t354, A100, H⟩ := H
  have A10 := Aside0.mk A100
  clear A100
  by_cases c11 : (t353 != t354) = true
  ·rw [if_pos c11] at H
   have c11b0 : (t353 != t354) = true := c11
   (try (have c11b1 : decide (t353 = t354) = false := by simpa using c11))
   (try (have c11b2 : (t353 == t354) = false := by simpa using c11))
   (try (have c11b3 : ¬ (t353 = t354) := by simpa using c11))
   clear c11
   replace H := Option.bind_eq_some_iff.mp H
   obtain ⟨t355, A120, H⟩ := H
   have A12 := Aside0.mk A120
   clear A120
   by_cases c13 : t355 = true
   ·subst c13
    rw [if_pos rfl] at H
    obtain rfl := Option.some.inj H
    go_enter Try.func80, Try.ntmps80
    try go_wp2_with (first | ((with_reducible refine gate_dst (N := 2) rfl ?_); refine box_event ?hg (N := 2) ?hd (cs := #[.int .i64 a0_0, .int .i64 a0_1, .int .i64 a0_2, .slice A0_3 l0_3.length c0_3, .slice A0_4 l0_4.length c0_4]) (t := 31) ?hr ?_; (case hd => rfl); (case hg => rfl); (case hr => first | (go_simp; done) | (go_simp; rfl)); intro gb343 hg w14 hbox hb; have BK343 := Aside0.mk hbox; have GW343 := ge_ HB hg; have GE343 := ge_ HB hg; replace HB := Aside0.mk (bt_ HB hb); clear hb hbox hg) | ((with_reducible refine gate_dst (N := 3) rfl ?_); refine box_event ?hg (N := 3) ?hd (cs := #[.int .i64 a1_0, .int .i64 a1_1, .int .i64 a1_2, .slice A1_3 l1_3.length c1_3, .slice A1_4 l1_4.length c1_4]) (t := 31) ?hr ?_; (case hd => rfl); (case hg => rfl); (case hr => first | (go_simp; done) | (go_simp; rfl)); intro gb344 hg w15 hbox hb; have BK344 := Aside0.mk hbox; have GW344 := ge_ HB hg; have GE344 := ge_ HB hg; have NB343_344 := nl_ BK343 hg; have NB344_343 := ng_ BK343 hg; replace HB := Aside0.mk (bt_ HB hb); replace BK343 := Aside0.mk (bb_ BK343 hb); clear hb hbox hg))
    replace BK343 := Aside0.mk (blk_drew BK343.out)
    replace BK344 := Aside0.mk (blk_drew BK344.out)
    replace HB := Aside0.mk (below_drew1 HB.out)
    refine start_ (n := 13) (S := fun w' => w'.cell? ⟨gb343, 0, none⟩ = some (.int .i64 a0_0) ∧ w'.cell? ⟨gb343, 1, none⟩ = some (.int .i64 a0_1) ∧ w'.cell? ⟨gb343, 2, none⟩ = some (.int .i64 a0_2) ∧ w'.cell? ⟨gb343, 3, none⟩ = some (.slice A0_3 l0_3.length c0_3) ∧ w'.cell? ⟨gb343, 4, none⟩ = some (.slice A0_4 l0_4.length c0_4) ∧ w'.cell? ⟨gb344, 0, none⟩ = some (.int .i64 a1_0) ∧ w'.cell? ⟨gb344, 1, none⟩ = some (.int .i64 a1_1) ∧ w'.cell? ⟨gb344, 2, none⟩ = some (.int .i64 a1_2) ∧ w'.cell? ⟨gb344, 3, none⟩ = some (.slice A1_3 l1_3.length c1_3) ∧ w'.cell? ⟨gb344, 4, none⟩ = some (.slice A1_4 l1_4.length c1_4)) (ds := []) ba16_0 (by kernel_rfl) rfl rfl ⟨(blk_cell BK343.out 0).trans rfl, (blk_cell BK343.out 1).trans rfl, (blk_cell BK343.out 2).trans rfl, (blk_cell BK343.out 3).trans rfl, (blk_cell BK343.out 4).trans rfl, (blk_cell BK344.out 0).trans rfl, (blk_cell BK344.out 1).trans rfl, (blk_cell BK344.out 2).trans rfl, (blk_cell BK344.out 3).trans rfl, (blk_cell BK344.out 4).trans rfl⟩ (fun hHeld => ?_); refine with_tabW impl_newer.tab1 impl_newer.bits1 (fun HT_ HW_ => ?_)
    generalize w15.drew = w16 at BK343 BK344 HB hHeld ⊢
    refine pz_ 0 7 ba16_1 HT_ ?_
    refine pz_ 2 9 ba16_2 HT_ ?_
    refine pt_ 1 8 ba16_3 HT_ HW_ hHeld ?_
    refine pt_ 3 10 ba16_4 HT_ HW_ hHeld ?_
    refine pt_ 5 12 ba16_5 HT_ HW_ hHeld ?_
    refine pt_ 7 14 ba16_6 HT_ HW_ hHeld ?_
    refine one_ (i := 4) (N := some 11) ba16_7 rfl rfl (one_of HT_.out (by kernel_rfl)) (by decide) (fun K hK => ?_)
    refine gz_ Try.func90 #[.int .i64 a0_1, .int .i64 a1_1] ?_
    with_reducible refine (cmp_Compare_int.calls a0_1 a1_1 t345 _ A3.out).mono ?_
    rintro e w' ⟨rfl, ⟨nd, rfl⟩⟩
    refine ⟨_, rfl, ?_⟩
    refine hK.out _ _ ⟨(blk_cell BK343.out 0).trans rfl, (blk_cell BK343.out 1).trans rfl, (blk_cell BK343.out 2).trans rfl, (blk_cell BK343.out 3).trans rfl, (blk_cell BK343.out 4).trans rfl, (blk_cell BK344.out 0).trans rfl, (blk_cell BK344.out 1).trans rfl, (blk_cell BK344.out 2).trans rfl, (blk_cell BK344.out 3).trans rfl, (blk_cell BK344.out 4).trans rfl⟩ (fun hHeld => ?_)
    clear hK K
    refine nz_ 11 ?_
    refine one_ (i := 6) (N := some 13) ba16_8 rfl rfl (one_of HT_.out (by kernel_rfl)) (by decide) (fun K hK => ?_)
    refine gz_ Try.func63 #[.agg #[.int .i64 a0_0, .int .i64 a0_1, .int .i64 a0_2, .slice A0_3 l0_3.length c0_3, .slice A0_4 l0_4.length c0_4]] ?_
    with_reducible refine (impl_Lsa_sum.calls k a0_0 a0_1 a0_2 _ _ l0_3 _ _ l0_4 t346 _ ?side1 ?side2 ?side3 ?side4 A4.out).mono ?_
    (case side1 => exact cc_ HR0_3 HB)
    (case side2 => exact HC0_3.out)
    (case side3 => exact cc_ HR0_4 HB)
    (case side4 => exact HC0_4.out)
    rintro e w17 ⟨rfl, hb⟩
    refine ⟨_, rfl, ?_⟩
    replace BK343 := Aside0.mk (bb_ BK343 hb)
    replace BK344 := Aside0.mk (bb_ BK344 hb)
    replace HB := Aside0.mk (bt_ HB hb)
    (try clear hb)
    (try clear hb2)
    (try clear hk)
    (try clear hi)
    refine hK.out _ _ ⟨(blk_cell BK343.out 0).trans rfl, (blk_cell BK343.out 1).trans rfl, (blk_cell BK343.out 2).trans rfl, (blk_cell BK343.out 3).trans rfl, (blk_cell BK343.out 4).trans rfl, (blk_cell BK344.out 0).trans rfl, (blk_cell BK344.out 1).trans rfl, (blk_cell BK344.out 2).trans rfl, (blk_cell BK344.out 3).trans rfl, (blk_cell BK344.out 4).trans rfl⟩ (fun hHeld => ?_)
    clear hK K
    refine nz_ 13 ?_
    refine one_ (i := 8) (N := some 15) ba16_9 rfl rfl (one_of HT_.out (by kernel_rfl)) (by decide) (fun K hK => ?_)
    refine gz_ Try.func63 #[.agg #[.int .i64 a1_0, .int .i64 a1_1, .int .i64 a1_2, .slice A1_3 l1_3.length c1_3, .slice A1_4 l1_4.length c1_4]] ?_
    with_reducible refine (impl_Lsa_sum.calls k a1_0 a1_1 a1_2 _ _ l1_3 _ _ l1_4 t347 _ ?side1 ?side2 ?side3 ?side4 A5.out).mono ?_
    (case side1 => exact cb_ HR1_3 HB)
    (case side2 => exact HC1_3.out)
    (case side3 => exact cb_ HR1_4 HB)
    (case side4 => exact HC1_4.out)
    rintro e w18 ⟨rfl, hb⟩
    refine ⟨_, rfl, ?_⟩
    replace BK343 := Aside0.mk (bb_ BK343 hb)
    replace BK344 := Aside0.mk (bb_ BK344 hb)
    replace HB := Aside0.mk (bt_ HB hb)
    (try clear hb)
    (try clear hb2)
    (try clear hk)
    (try clear hi)
    refine hK.out _ _ ⟨(blk_cell BK343.out 0).trans rfl, (blk_cell BK343.out 1).trans rfl, (blk_cell BK343.out 2).trans rfl, (blk_cell BK343.out 3).trans rfl, (blk_cell BK343.out 4).trans rfl, (blk_cell BK344.out 0).trans rfl, (blk_cell BK344.out 1).trans rfl, (blk_cell BK344.out 2).trans rfl, (blk_cell BK344.out 3).trans rfl, (blk_cell BK344.out 4).trans rfl⟩ (fun hHeld => ?_)
    clear hK K
    refine nz_ 15 ?_
    refine one_ (i := 9) (N := some 16) ba16_10 rfl rfl (one_of HT_.out (by kernel_rfl)) (by decide) (fun K hK => ?_)
    refine gz_ Try.func90 #[.int .i64 t346, .int .i64 t347] ?_
    with_reducible refine (cmp_Compare_int.calls t346 t347 t348 _ A6.out).mono ?_
    rintro e w' ⟨rfl, ⟨nd, rfl⟩⟩
    refine ⟨_, rfl, ?_⟩
    refine hK.out _ _ ⟨(blk_cell BK343.out 0).trans rfl, (blk_cell BK343.out 1).trans rfl, (blk_cell BK343.out 2).trans rfl, (blk_cell BK343.out 3).trans rfl, (blk_cell BK343.out 4).trans rfl, (blk_cell BK344.out 0).trans rfl, (blk_cell BK344.out 1).trans rfl, (blk_cell BK344.out 2).trans rfl, (blk_cell BK344.out 3).trans rfl, (blk_cell BK344.out 4).trans rfl⟩ (fun hHeld => ?_)
    clear hK K
    refine nz_ 16 ?_
    refine one_ (i := 10) (N := some 17) ba16_11 rfl rfl (one_of HT_.out (by kernel_rfl)) (by decide) (fun K hK => ?_)
    refine Kd.R_lit_step (Kd.int .i64) _ 3 ?hg (N := 17) ?hd (xs := ([t345, t348] : List Int)) (inner := [.int .i64 t345, .int .i64 t348]) (ok := fun _ => True) (okp := fun _ => True) ?hr ?hp (fun _ hk => hk) trivial (Below.refl _ _) (Nat.le_refl _) (by simp) ?_; (case hd => rfl); (case hg => rfl); (case hr => first | (go_simp; done) | (go_simp; rfl)); (case hp => exact (Reps.one (show Kd.M (Kd.int .i64) _ _ _ t345 [.int .i64 t345] from rfl) (Reps.one (show Kd.M (Kd.int .i64) _ _ _ t348 [.int .i64 t348] from rfl) (Reps.none _ _))))
    intro v350 w19 ho20 hb hg_ hnew_
    clear hg_ hnew_
    (first | rw [← Ny349.out] at ho20 | (simp only [Int.reduceToNat] at ho20; rw [← Ny349.out] at ho20))
    have HO351 := Aside0.mk (Kd.R_lower ho20 (bz_ HB))
    replace BK343 := Aside0.mk (bb_ BK343 hb)
    replace BK344 := Aside0.mk (bb_ BK344 hb)
    replace HB := Aside0.mk (bt_ HB hb)
    clear hb ho20
    obtain ⟨Ao21, co21, eo21⟩ := Kd.R_slice HO351.out
    (first | subst eo21 | (injection eo21 with f1_ f2_ f3_; have f4_ := f1_.symm; have f5_ := f3_.symm; clear f1_ f2_ f3_; subst f4_; subst f5_))
    refine hK.out _ _ ⟨(blk_cell BK343.out 0).trans rfl, (blk_cell BK343.out 1).trans rfl, (blk_cell BK343.out 2).trans rfl, (blk_cell BK343.out 3).trans rfl, (blk_cell BK343.out 4).trans rfl, (blk_cell BK344.out 0).trans rfl, (blk_cell BK344.out 1).trans rfl, (blk_cell BK344.out 2).trans rfl, (blk_cell BK344.out 3).trans rfl, (blk_cell BK344.out 4).trans rfl⟩ (fun hHeld => ?_)
    clear hK K
    refine nz_ 17 ?_
    refine one_ (i := 11) (N := some 18) ba16_12 rfl rfl (one_of HT_.out (by kernel_rfl)) (by decide) (fun K hK => ?_)
    refine gz_ Try.func89 #[.slice Ao21 y349.length co21] ?_
    with_reducible refine (cmp_Or_int.calls k _ _ y349 t352 _ ?side1 ?side2 A7.out).mono ?_
    (case side1 => exact rc_ HO351)
    (case side2 => exact (Kd.R_reads' HO351.out).2.1)
    rintro e w' ⟨rfl, ⟨nd, rfl⟩⟩
    refine ⟨_, rfl, ?_⟩
    refine hK.out _ _ ⟨(blk_cell BK343.out 0).trans rfl, (blk_cell BK343.out 1).trans rfl, (blk_cell BK343.out 2).trans rfl, (blk_cell BK343.out 3).trans rfl, (blk_cell BK343.out 4).trans rfl, (blk_cell BK344.out 0).trans rfl, (blk_cell BK344.out 1).trans rfl, (blk_cell BK344.out 2).trans rfl, (blk_cell BK344.out 3).trans rfl, (blk_cell BK344.out 4).trans rfl⟩ (fun hHeld => ?_)
    clear hK K
    refine nz_ 18 ?_
    refine pz_ 12 5 ba16_13 HT_ ?_
    refine done_ (done_of HT_.out (by kernel_rfl)) ?_
    try go_wp2
    (try (rw [drewN_self w19]; generalize hq_ : World.drewN w19 _ = w19; replace HO351 : Aside0 (Kd.R (Kd.int .i64) 3 w19 w.heap.size (fun _ => True) (.slice Ao21 y349.length co21) y349) := ⟨by rw [← hq_]; exact (hd_ HO351)⟩; replace BK343 : Aside0 (w19.heap[gb343]? = some (.cells #[.int .i64 a0_0, .int .i64 a0_1, .int .i64 a0_2, .slice A0_3 l0_3.length c0_3, .slice A0_4 l0_4.length c0_4] 31 (0, 0))) := ⟨by rw [← hq_]; exact (by (with_reducible repeat (first | refine blk_drewN ?_ _ | refine blk_drew ?_ | refine blk_alloc ?_ _)); exact BK343.out)⟩; replace BK344 : Aside0 (w19.heap[gb344]? = some (.cells #[.int .i64 a1_0, .int .i64 a1_1, .int .i64 a1_2, .slice A1_3 l1_3.length c1_3, .slice A1_4 l1_4.length c1_4] 31 (0, 0))) := ⟨by rw [← hq_]; exact (by (with_reducible repeat (first | refine blk_drewN ?_ _ | refine blk_drew ?_ | refine blk_alloc ?_ _)); exact BK344.out)⟩; replace HB : Aside0 (Below w.heap.size w w19) := ⟨by rw [← hq_]; exact (by repeat (first | (with_reducible first | exact HB.out | apply below_alloc | apply pw_below_drewN | apply below_drew1 | refine below_set ?_ GE343.out | refine below_set ?_ GE344.out) | exact HB.out))⟩; clear hq_))
    replace HO351 := Aside0.mk (Kd.R_drew HO351.out)
    replace BK343 := Aside0.mk (blk_drew BK343.out)
    replace BK344 := Aside0.mk (blk_drew BK344.out)
    replace HB := Aside0.mk (below_drew1 HB.out)
    refine start_ (n := 8) (S := fun w' => w'.cell? ⟨gb343, 0, none⟩ = some (.int .i64 a0_0) ∧ w'.cell? ⟨gb343, 1, none⟩ = some (.int .i64 a0_1) ∧ w'.cell? ⟨gb343, 2, none⟩ = some (.int .i64 a0_2) ∧ w'.cell? ⟨gb343, 3, none⟩ = some (.slice A0_3 l0_3.length c0_3) ∧ w'.cell? ⟨gb343, 4, none⟩ = some (.slice A0_4 l0_4.length c0_4) ∧ w'.cell? ⟨gb344, 0, none⟩ = some (.int .i64 a1_0) ∧ w'.cell? ⟨gb344, 1, none⟩ = some (.int .i64 a1_1) ∧ w'.cell? ⟨gb344, 2, none⟩ = some (.int .i64 a1_2) ∧ w'.cell? ⟨gb344, 3, none⟩ = some (.slice A1_3 l1_3.length c1_3) ∧ w'.cell? ⟨gb344, 4, none⟩ = some (.slice A1_4 l1_4.length c1_4)) (ds := []) ba16_14 (by kernel_rfl) rfl rfl ⟨(blk_cell BK343.out 0).trans rfl, (blk_cell BK343.out 1).trans rfl, (blk_cell BK343.out 2).trans rfl, (blk_cell BK343.out 3).trans rfl, (blk_cell BK343.out 4).trans rfl, (blk_cell BK344.out 0).trans rfl, (blk_cell BK344.out 1).trans rfl, (blk_cell BK344.out 2).trans rfl, (blk_cell BK344.out 3).trans rfl, (blk_cell BK344.out 4).trans rfl⟩ (fun hHeld => ?_); refine with_tabW impl_newer.tab5 impl_newer.bits5 (fun HT_ HW_ => ?_)
    generalize w19.drew = w22 at HO351 BK343 BK344 HB hHeld ⊢
    refine pz_ 0 23 ba16_15 HT_ ?_
    refine pz_ 3 26 ba16_16 HT_ ?_
    refine pt_ 1 24 ba16_17 HT_ HW_ hHeld ?_
    refine pt_ 4 27 ba16_18 HT_ HW_ hHeld ?_
    refine one_ (i := 2) (N := some 25) ba16_19 rfl rfl (one_of HT_.out (by kernel_rfl)) (by decide) (fun K hK => ?_)
    refine goesU_ Try.func91 (by kernel_rfl) rfl #[.agg #[.int .i64 a0_0, .int .i64 a0_1, .int .i64 a0_2, .slice A0_3 l0_3.length c0_3, .slice A0_4 l0_4.length c0_4]] (by rfl) rfl rfl (by (try simp only [List.map_toArray, List.map_cons, List.map_nil]); first | done | rfl | (simp only [List.length_drop, List.length_take]; rfl)) ?_
    with_reducible refine (impl_newer_1.calls a0_0 a0_1 a0_2 _ _ l0_3 _ _ l0_4 t353 _ ?side1 ?side2 ?side3 ?side4 A9.out).mono ?_
    (case side1 => exact cb_ HR0_3 HB)
    (case side2 => exact HC0_3.out)
    (case side3 => exact cb_ HR0_4 HB)
    (case side4 => exact HC0_4.out)
    rintro e w23 ⟨rfl, hb⟩
    refine ⟨_, rfl, ?_⟩
    replace HO351 := rb_ HO351 hb
    replace BK343 := Aside0.mk (bb_ BK343 hb)
    replace BK344 := Aside0.mk (bb_ BK344 hb)
    replace HB := Aside0.mk (bt_ HB hb)
    (try clear hb)
    (try clear hb2)
    (try clear hk)
    (try clear hi)
    refine hK.out _ _ ⟨(blk_cell BK343.out 0).trans rfl, (blk_cell BK343.out 1).trans rfl, (blk_cell BK343.out 2).trans rfl, (blk_cell BK343.out 3).trans rfl, (blk_cell BK343.out 4).trans rfl, (blk_cell BK344.out 0).trans rfl, (blk_cell BK344.out 1).trans rfl, (blk_cell BK344.out 2).trans rfl, (blk_cell BK344.out 3).trans rfl, (blk_cell BK344.out 4).trans rfl⟩ (fun hHeld => ?_)
    clear hK K
    refine nz_ 25 ?_
    refine one_ (i := 5) (N := some 28) ba16_20 rfl rfl (one_of HT_.out (by kernel_rfl)) (by decide) (fun K hK => ?_)
    refine goesU_ Try.func91 (by kernel_rfl) rfl #[.agg #[.int .i64 a1_0, .int .i64 a1_1, .int .i64 a1_2, .slice A1_3 l1_3.length c1_3, .slice A1_4 l1_4.length c1_4]] (by rfl) rfl rfl (by (try simp only [List.map_toArray, List.map_cons, List.map_nil]); first | done | rfl | (simp only [List.length_drop, List.length_take]; rfl)) ?_
    with_reducible refine (impl_newer_1.calls a1_0 a1_1 a1_2 _ _ l1_3 _ _ l1_4 t354 _ ?side1 ?side2 ?side3 ?side4 A10.out).mono ?_
    (case side1 => exact cb_ HR1_3 HB)
    (case side2 => exact HC1_3.out)
    (case side3 => exact cb_ HR1_4 HB)
    (case side4 => exact HC1_4.out)
    rintro e w24 ⟨rfl, hb⟩
    refine ⟨_, rfl, ?_⟩
    replace HO351 := rb_ HO351 hb
    replace BK343 := Aside0.mk (bb_ BK343 hb)
    replace BK344 := Aside0.mk (bb_ BK344 hb)
    replace HB := Aside0.mk (bt_ HB hb)
    (try clear hb)
    (try clear hb2)
    (try clear hk)
    (try clear hi)
    refine hK.out _ _ ⟨(blk_cell BK343.out 0).trans rfl, (blk_cell BK343.out 1).trans rfl, (blk_cell BK343.out 2).trans rfl, (blk_cell BK343.out 3).trans rfl, (blk_cell BK343.out 4).trans rfl, (blk_cell BK344.out 0).trans rfl, (blk_cell BK344.out 1).trans rfl, (blk_cell BK344.out 2).trans rfl, (blk_cell BK344.out 3).trans rfl, (blk_cell BK344.out 4).trans rfl⟩ (fun hHeld => ?_)
    clear hK K
    refine nz_ 28 ?_
    refine pz_ 6 29 ba16_21 HT_ ?_
    refine pz_ 7 22 ba16_22 HT_ ?_
    refine done_ (done_of HT_.out (by kernel_rfl)) ?_
    have hnb25 := NB343_344.out
    have hnc25 := NB344_343.out
    have hcz26_0 := cz_ BK343 0 (.int .i64 a0_0)
    have hcz26_1 := cz_ BK343 1 (.int .i64 a0_1)
    have hcz26_2 := cz_ BK343 2 (.int .i64 a0_2)
    have hcz26_3 := cz_ BK343 3 (.slice A0_3 l0_3.length c0_3)
    have hcz26_4 := cz_ BK343 4 (.slice A0_4 l0_4.length c0_4)
    have hfz26_0 := blk_frozen BK343.out 0
    have hfz26_1 := blk_frozen BK343.out 1
    have hfz26_2 := blk_frozen BK343.out 2
    have hfz26_3 := blk_frozen BK343.out 3
    have hfz26_4 := blk_frozen BK343.out 4
    try go_wp2_with (first | ((with_reducible refine gate_dst (N := 32) rfl ?_); refine goesT_ (some 32) rfl rfl Try.func91 (by kernel_rfl) rfl #[.agg #[.int .i64 a0_0, .int .i64 a0_1, .int .i64 a0_2, .slice A0_3 l0_3.length c0_3, .slice A0_4 l0_4.length c0_4]] rfl (by (try simp only [List.map_toArray, List.map_cons, List.map_nil]); first | done | rfl | (simp only [List.length_drop, List.length_take]; rfl)) ?_; (with_reducible refine (impl_newer_1.calls a0_0 a0_1 a0_2 _ _ l0_3 _ _ l0_4 true _ ?side1 ?side2 ?side3 ?side4 A12.out).mono ?_); (case side1 => exact cb_ HR0_3 HB); (case side2 => exact HC0_3.out); (case side3 => exact cb_ HR0_4 HB); (case side4 => exact HC0_4.out); rintro e w27 ⟨rfl, hb⟩; refine ⟨_, rfl, ?_⟩; replace HO351 := rb_ HO351 hb; replace BK343 := Aside0.mk (bb_ BK343 hb); replace BK344 := Aside0.mk (bb_ BK344 hb); replace HB := Aside0.mk (bt_ HB hb); (try clear hb); (try clear hb2); (try clear hk); (try clear hi)))
    go_ret
    exact ⟨by first | rfl | (simp [errW_none, errW_some] <;> rfl) | (simp [*, errW_none, errW_some] <;> rfl), by repeat (first | (with_reducible first | exact HB.out | apply below_alloc | apply pw_below_drewN | apply below_drew1 | refine below_set ?_ GE343.out | refine below_set ?_ GE344.out) | exact HB.out)⟩
   ·replace c13 := Bool.eq_false_iff.mpr c13
    subst c13
    rw [if_neg (show ¬ (false = true) by decide)] at H
    obtain rfl := Option.some.inj H
    go_enter Try.func80, Try.ntmps80
    try go_wp2_with (first | ((with_reducible refine gate_dst (N := 2) rfl ?_); refine box_event ?hg (N := 2) ?hd (cs := #[.int .i64 a0_0, .int .i64 a0_1, .int .i64 a0_2, .slice A0_3 l0_3.length c0_3, .slice A0_4 l0_4.length c0_4]) (t := 31) ?hr ?_; (case hd => rfl); (case hg => rfl); (case hr => first | (go_simp; done) | (go_simp; rfl)); intro gb343 hg w28 hbox hb; have BK343 := Aside0.mk hbox; have GW343 := ge_ HB hg; have GE343 := ge_ HB hg; replace HB := Aside0.mk (bt_ HB hb); clear hb hbox hg) | ((with_reducible refine gate_dst (N := 3) rfl ?_); refine box_event ?hg (N := 3) ?hd (cs := #[.int .i64 a1_0, .int .i64 a1_1, .int .i64 a1_2, .slice A1_3 l1_3.length c1_3, .slice A1_4 l1_4.length c1_4]) (t := 31) ?hr ?_; (case hd => rfl); (case hg => rfl); (case hr => first | (go_simp; done) | (go_simp; rfl)); intro gb344 hg w29 hbox hb; have BK344 := Aside0.mk hbox; have GW344 := ge_ HB hg; have GE344 := ge_ HB hg; have NB343_344 := nl_ BK343 hg; have NB344_343 := ng_ BK343 hg; replace HB := Aside0.mk (bt_ HB hb); replace BK343 := Aside0.mk (bb_ BK343 hb); clear hb hbox hg))
    replace BK343 := Aside0.mk (blk_drew BK343.out)
    replace BK344 := Aside0.mk (blk_drew BK344.out)
    replace HB := Aside0.mk (below_drew1 HB.out)
    refine start_ (n := 13) (S := fun w' => w'.cell? ⟨gb343, 0, none⟩ = some (.int .i64 a0_0) ∧ w'.cell? ⟨gb343, 1, none⟩ = some (.int .i64 a0_1) ∧ w'.cell? ⟨gb343, 2, none⟩ = some (.int .i64 a0_2) ∧ w'.cell? ⟨gb343, 3, none⟩ = some (.slice A0_3 l0_3.length c0_3) ∧ w'.cell? ⟨gb343, 4, none⟩ = some (.slice A0_4 l0_4.length c0_4) ∧ w'.cell? ⟨gb344, 0, none⟩ = some (.int .i64 a1_0) ∧ w'.cell? ⟨gb344, 1, none⟩ = some (.int .i64 a1_1) ∧ w'.cell? ⟨gb344, 2, none⟩ = some (.int .i64 a1_2) ∧ w'.cell? ⟨gb344, 3, none⟩ = some (.slice A1_3 l1_3.length c1_3) ∧ w'.cell? ⟨gb344, 4, none⟩ = some (.slice A1_4 l1_4.length c1_4)) (ds := []) ba16_0 (by kernel_rfl) rfl rfl ⟨(blk_cell BK343.out 0).trans rfl, (blk_cell BK343.out 1).trans rfl, (blk_cell BK343.out 2).trans rfl, (blk_cell BK343.out 3).trans rfl, (blk_cell BK343.out 4).trans rfl, (blk_cell BK344.out 0).trans rfl, (blk_cell BK344.out 1).trans rfl, (blk_cell BK344.out 2).trans rfl, (blk_cell BK344.out 3).trans rfl, (blk_cell BK344.out 4).trans rfl⟩ (fun hHeld => ?_); refine with_tabW impl_newer.tab1 impl_newer.bits1 (fun HT_ HW_ => ?_)
    generalize w29.drew = w30 at BK343 BK344 HB hHeld ⊢
    refine pz_ 0 7 ba16_1 HT_ ?_
    refine pz_ 2 9 ba16_2 HT_ ?_
    refine pt_ 1 8 ba16_3 HT_ HW_ hHeld ?_
    refine pt_ 3 10 ba16_4 HT_ HW_ hHeld ?_
    refine pt_ 5 12 ba16_5 HT_ HW_ hHeld ?_
    refine pt_ 7 14 ba16_6 HT_ HW_ hHeld ?_
    refine one_ (i := 4) (N := some 11) ba16_7 rfl rfl (one_of HT_.out (by kernel_rfl)) (by decide) (fun K hK => ?_)
    refine gz_ Try.func90 #[.int .i64 a0_1, .int .i64 a1_1] ?_
    with_reducible refine (cmp_Compare_int.calls a0_1 a1_1 t345 _ A3.out).mono ?_
    rintro e w' ⟨rfl, ⟨nd, rfl⟩⟩
    refine ⟨_, rfl, ?_⟩
    refine hK.out _ _ ⟨(blk_cell BK343.out 0).trans rfl, (blk_cell BK343.out 1).trans rfl, (blk_cell BK343.out 2).trans rfl, (blk_cell BK343.out 3).trans rfl, (blk_cell BK343.out 4).trans rfl, (blk_cell BK344.out 0).trans rfl, (blk_cell BK344.out 1).trans rfl, (blk_cell BK344.out 2).trans rfl, (blk_cell BK344.out 3).trans rfl, (blk_cell BK344.out 4).trans rfl⟩ (fun hHeld => ?_)
    clear hK K
    refine nz_ 11 ?_
    refine one_ (i := 6) (N := some 13) ba16_8 rfl rfl (one_of HT_.out (by kernel_rfl)) (by decide) (fun K hK => ?_)
    refine gz_ Try.func63 #[.agg #[.int .i64 a0_0, .int .i64 a0_1, .int .i64 a0_2, .slice A0_3 l0_3.length c0_3, .slice A0_4 l0_4.length c0_4]] ?_
    with_reducible refine (impl_Lsa_sum.calls k a0_0 a0_1 a0_2 _ _ l0_3 _ _ l0_4 t346 _ ?side1 ?side2 ?side3 ?side4 A4.out).mono ?_
    (case side1 => exact cc_ HR0_3 HB)
    (case side2 => exact HC0_3.out)
    (case side3 => exact cc_ HR0_4 HB)
    (case side4 => exact HC0_4.out)
    rintro e w31 ⟨rfl, hb⟩
    refine ⟨_, rfl, ?_⟩
    replace BK343 := Aside0.mk (bb_ BK343 hb)
    replace BK344 := Aside0.mk (bb_ BK344 hb)
    replace HB := Aside0.mk (bt_ HB hb)
    (try clear hb)
    (try clear hb2)
    (try clear hk)
    (try clear hi)
    refine hK.out _ _ ⟨(blk_cell BK343.out 0).trans rfl, (blk_cell BK343.out 1).trans rfl, (blk_cell BK343.out 2).trans rfl, (blk_cell BK343.out 3).trans rfl, (blk_cell BK343.out 4).trans rfl, (blk_cell BK344.out 0).trans rfl, (blk_cell BK344.out 1).trans rfl, (blk_cell BK344.out 2).trans rfl, (blk_cell BK344.out 3).trans rfl, (blk_cell BK344.out 4).trans rfl⟩ (fun hHeld => ?_)
    clear hK K
    refine nz_ 13 ?_
    refine one_ (i := 8) (N := some 15) ba16_9 rfl rfl (one_of HT_.out (by kernel_rfl)) (by decide) (fun K hK => ?_)
    refine gz_ Try.func63 #[.agg #[.int .i64 a1_0, .int .i64 a1_1, .int .i64 a1_2, .slice A1_3 l1_3.length c1_3, .slice A1_4 l1_4.length c1_4]] ?_
    with_reducible refine (impl_Lsa_sum.calls k a1_0 a1_1 a1_2 _ _ l1_3 _ _ l1_4 t347 _ ?side1 ?side2 ?side3 ?side4 A5.out).mono ?_
    (case side1 => exact cb_ HR1_3 HB)
    (case side2 => exact HC1_3.out)
    (case side3 => exact cb_ HR1_4 HB)
    (case side4 => exact HC1_4.out)
    rintro e w32 ⟨rfl, hb⟩
    refine ⟨_, rfl, ?_⟩
    replace BK343 := Aside0.mk (bb_ BK343 hb)
    replace BK344 := Aside0.mk (bb_ BK344 hb)
    replace HB := Aside0.mk (bt_ HB hb)
    (try clear hb)
    (try clear hb2)
    (try clear hk)
    (try clear hi)
    refine hK.out _ _ ⟨(blk_cell BK343.out 0).trans rfl, (blk_cell BK343.out 1).trans rfl, (blk_cell BK343.out 2).trans rfl, (blk_cell BK343.out 3).trans rfl, (blk_cell BK343.out 4).trans rfl, (blk_cell BK344.out 0).trans rfl, (blk_cell BK344.out 1).trans rfl, (blk_cell BK344.out 2).trans rfl, (blk_cell BK344.out 3).trans rfl, (blk_cell BK344.out 4).trans rfl⟩ (fun hHeld => ?_)
    clear hK K
    refine nz_ 15 ?_
    refine one_ (i := 9) (N := some 16) ba16_10 rfl rfl (one_of HT_.out (by kernel_rfl)) (by decide) (fun K hK => ?_)
    refine gz_ Try.func90 #[.int .i64 t346, .int .i64 t347] ?_
    with_reducible refine (cmp_Compare_int.calls t346 t347 t348 _ A6.out).mono ?_
    rintro e w' ⟨rfl, ⟨nd, rfl⟩⟩
    refine ⟨_, rfl, ?_⟩
    refine hK.out _ _ ⟨(blk_cell BK343.out 0).trans rfl, (blk_cell BK343.out 1).trans rfl, (blk_cell BK343.out 2).trans rfl, (blk_cell BK343.out 3).trans rfl, (blk_cell BK343.out 4).trans rfl, (blk_cell BK344.out 0).trans rfl, (blk_cell BK344.out 1).trans rfl, (blk_cell BK344.out 2).trans rfl, (blk_cell BK344.out 3).trans rfl, (blk_cell BK344.out 4).trans rfl⟩ (fun hHeld => ?_)
    clear hK K
    refine nz_ 16 ?_
    refine one_ (i := 10) (N := some 17) ba16_11 rfl rfl (one_of HT_.out (by kernel_rfl)) (by decide) (fun K hK => ?_)
    refine Kd.R_lit_step (Kd.int .i64) _ 3 ?hg (N := 17) ?hd (xs := ([t345, t348] : List Int)) (inner := [.int .i64 t345, .int .i64 t348]) (ok := fun _ => True) (okp := fun _ => True) ?hr ?hp (fun _ hk => hk) trivial (Below.refl _ _) (Nat.le_refl _) (by simp) ?_; (case hd => rfl); (case hg => rfl); (case hr => first | (go_simp; done) | (go_simp; rfl)); (case hp => exact (Reps.one (show Kd.M (Kd.int .i64) _ _ _ t345 [.int .i64 t345] from rfl) (Reps.one (show Kd.M (Kd.int .i64) _ _ _ t348 [.int .i64 t348] from rfl) (Reps.none _ _))))
    intro v350 w33 ho34 hb hg_ hnew_
    clear hg_ hnew_
    (first | rw [← Ny349.out] at ho34 | (simp only [Int.reduceToNat] at ho34; rw [← Ny349.out] at ho34))
    have HO351 := Aside0.mk (Kd.R_lower ho34 (bz_ HB))
    replace BK343 := Aside0.mk (bb_ BK343 hb)
    replace BK344 := Aside0.mk (bb_ BK344 hb)
    replace HB := Aside0.mk (bt_ HB hb)
    clear hb ho34
    obtain ⟨Ao35, co35, eo35⟩ := Kd.R_slice HO351.out
    (first | subst eo35 | (injection eo35 with f1_ f2_ f3_; have f4_ := f1_.symm; have f5_ := f3_.symm; clear f1_ f2_ f3_; subst f4_; subst f5_))
    refine hK.out _ _ ⟨(blk_cell BK343.out 0).trans rfl, (blk_cell BK343.out 1).trans rfl, (blk_cell BK343.out 2).trans rfl, (blk_cell BK343.out 3).trans rfl, (blk_cell BK343.out 4).trans rfl, (blk_cell BK344.out 0).trans rfl, (blk_cell BK344.out 1).trans rfl, (blk_cell BK344.out 2).trans rfl, (blk_cell BK344.out 3).trans rfl, (blk_cell BK344.out 4).trans rfl⟩ (fun hHeld => ?_)
    clear hK K
    refine nz_ 17 ?_
    refine one_ (i := 11) (N := some 18) ba16_12 rfl rfl (one_of HT_.out (by kernel_rfl)) (by decide) (fun K hK => ?_)
    refine gz_ Try.func89 #[.slice Ao35 y349.length co35] ?_
    with_reducible refine (cmp_Or_int.calls k _ _ y349 t352 _ ?side1 ?side2 A7.out).mono ?_
    (case side1 => exact rc_ HO351)
    (case side2 => exact (Kd.R_reads' HO351.out).2.1)
    rintro e w' ⟨rfl, ⟨nd, rfl⟩⟩
    refine ⟨_, rfl, ?_⟩
    refine hK.out _ _ ⟨(blk_cell BK343.out 0).trans rfl, (blk_cell BK343.out 1).trans rfl, (blk_cell BK343.out 2).trans rfl, (blk_cell BK343.out 3).trans rfl, (blk_cell BK343.out 4).trans rfl, (blk_cell BK344.out 0).trans rfl, (blk_cell BK344.out 1).trans rfl, (blk_cell BK344.out 2).trans rfl, (blk_cell BK344.out 3).trans rfl, (blk_cell BK344.out 4).trans rfl⟩ (fun hHeld => ?_)
    clear hK K
    refine nz_ 18 ?_
    refine pz_ 12 5 ba16_13 HT_ ?_
    refine done_ (done_of HT_.out (by kernel_rfl)) ?_
    try go_wp2
    (try (rw [drewN_self w33]; generalize hq_ : World.drewN w33 _ = w33; replace HO351 : Aside0 (Kd.R (Kd.int .i64) 3 w33 w.heap.size (fun _ => True) (.slice Ao35 y349.length co35) y349) := ⟨by rw [← hq_]; exact (hd_ HO351)⟩; replace BK343 : Aside0 (w33.heap[gb343]? = some (.cells #[.int .i64 a0_0, .int .i64 a0_1, .int .i64 a0_2, .slice A0_3 l0_3.length c0_3, .slice A0_4 l0_4.length c0_4] 31 (0, 0))) := ⟨by rw [← hq_]; exact (by (with_reducible repeat (first | refine blk_drewN ?_ _ | refine blk_drew ?_ | refine blk_alloc ?_ _)); exact BK343.out)⟩; replace BK344 : Aside0 (w33.heap[gb344]? = some (.cells #[.int .i64 a1_0, .int .i64 a1_1, .int .i64 a1_2, .slice A1_3 l1_3.length c1_3, .slice A1_4 l1_4.length c1_4] 31 (0, 0))) := ⟨by rw [← hq_]; exact (by (with_reducible repeat (first | refine blk_drewN ?_ _ | refine blk_drew ?_ | refine blk_alloc ?_ _)); exact BK344.out)⟩; replace HB : Aside0 (Below w.heap.size w w33) := ⟨by rw [← hq_]; exact (by repeat (first | (with_reducible first | exact HB.out | apply below_alloc | apply pw_below_drewN | apply below_drew1 | refine below_set ?_ GE343.out | refine below_set ?_ GE344.out) | exact HB.out))⟩; clear hq_))
    replace HO351 := Aside0.mk (Kd.R_drew HO351.out)
    replace BK343 := Aside0.mk (blk_drew BK343.out)
    replace BK344 := Aside0.mk (blk_drew BK344.out)
    replace HB := Aside0.mk (below_drew1 HB.out)
    refine start_ (n := 8) (S := fun w' => w'.cell? ⟨gb343, 0, none⟩ = some (.int .i64 a0_0) ∧ w'.cell? ⟨gb343, 1, none⟩ = some (.int .i64 a0_1) ∧ w'.cell? ⟨gb343, 2, none⟩ = some (.int .i64 a0_2) ∧ w'.cell? ⟨gb343, 3, none⟩ = some (.slice A0_3 l0_3.length c0_3) ∧ w'.cell? ⟨gb343, 4, none⟩ = some (.slice A0_4 l0_4.length c0_4) ∧ w'.cell? ⟨gb344, 0, none⟩ = some (.int .i64 a1_0) ∧ w'.cell? ⟨gb344, 1, none⟩ = some (.int .i64 a1_1) ∧ w'.cell? ⟨gb344, 2, none⟩ = some (.int .i64 a1_2) ∧ w'.cell? ⟨gb344, 3, none⟩ = some (.slice A1_3 l1_3.length c1_3) ∧ w'.cell? ⟨gb344, 4, none⟩ = some (.slice A1_4 l1_4.length c1_4)) (ds := []) ba16_14 (by kernel_rfl) rfl rfl ⟨(blk_cell BK343.out 0).trans rfl, (blk_cell BK343.out 1).trans rfl, (blk_cell BK343.out 2).trans rfl, (blk_cell BK343.out 3).trans rfl, (blk_cell BK343.out 4).trans rfl, (blk_cell BK344.out 0).trans rfl, (blk_cell BK344.out 1).trans rfl, (blk_cell BK344.out 2).trans rfl, (blk_cell BK344.out 3).trans rfl, (blk_cell BK344.out 4).trans rfl⟩ (fun hHeld => ?_); refine with_tabW impl_newer.tab5 impl_newer.bits5 (fun HT_ HW_ => ?_)
    generalize w33.drew = w36 at HO351 BK343 BK344 HB hHeld ⊢
    refine pz_ 0 23 ba16_15 HT_ ?_
    refine pz_ 3 26 ba16_16 HT_ ?_
    refine pt_ 1 24 ba16_17 HT_ HW_ hHeld ?_
    refine pt_ 4 27 ba16_18 HT_ HW_ hHeld ?_
    refine one_ (i := 2) (N := some 25) ba16_19 rfl rfl (one_of HT_.out (by kernel_rfl)) (by decide) (fun K hK => ?_)
    refine goesU_ Try.func91 (by kernel_rfl) rfl #[.agg #[.int .i64 a0_0, .int .i64 a0_1, .int .i64 a0_2, .slice A0_3 l0_3.length c0_3, .slice A0_4 l0_4.length c0_4]] (by rfl) rfl rfl (by (try simp only [List.map_toArray, List.map_cons, List.map_nil]); first | done | rfl | (simp only [List.length_drop, List.length_take]; rfl)) ?_
    with_reducible refine (impl_newer_1.calls a0_0 a0_1 a0_2 _ _ l0_3 _ _ l0_4 t353 _ ?side1 ?side2 ?side3 ?side4 A9.out).mono ?_
    (case side1 => exact cb_ HR0_3 HB)
    (case side2 => exact HC0_3.out)
    (case side3 => exact cb_ HR0_4 HB)
    (case side4 => exact HC0_4.out)
    rintro e w37 ⟨rfl, hb⟩
    refine ⟨_, rfl, ?_⟩
    replace HO351 := rb_ HO351 hb
    replace BK343 := Aside0.mk (bb_ BK343 hb)
    replace BK344 := Aside0.mk (bb_ BK344 hb)
    replace HB := Aside0.mk (bt_ HB hb)
    (try clear hb)
    (try clear hb2)
    (try clear hk)
    (try clear hi)
    refine hK.out _ _ ⟨(blk_cell BK343.out 0).trans rfl, (blk_cell BK343.out 1).trans rfl, (blk_cell BK343.out 2).trans rfl, (blk_cell BK343.out 3).trans rfl, (blk_cell BK343.out 4).trans rfl, (blk_cell BK344.out 0).trans rfl, (blk_cell BK344.out 1).trans rfl, (blk_cell BK344.out 2).trans rfl, (blk_cell BK344.out 3).trans rfl, (blk_cell BK344.out 4).trans rfl⟩ (fun hHeld => ?_)
    clear hK K
    refine nz_ 25 ?_
    refine one_ (i := 5) (N := some 28) ba16_20 rfl rfl (one_of HT_.out (by kernel_rfl)) (by decide) (fun K hK => ?_)
    refine goesU_ Try.func91 (by kernel_rfl) rfl #[.agg #[.int .i64 a1_0, .int .i64 a1_1, .int .i64 a1_2, .slice A1_3 l1_3.length c1_3, .slice A1_4 l1_4.length c1_4]] (by rfl) rfl rfl (by (try simp only [List.map_toArray, List.map_cons, List.map_nil]); first | done | rfl | (simp only [List.length_drop, List.length_take]; rfl)) ?_
    with_reducible refine (impl_newer_1.calls a1_0 a1_1 a1_2 _ _ l1_3 _ _ l1_4 t354 _ ?side1 ?side2 ?side3 ?side4 A10.out).mono ?_
    (case side1 => exact cb_ HR1_3 HB)
    (case side2 => exact HC1_3.out)
    (case side3 => exact cb_ HR1_4 HB)
    (case side4 => exact HC1_4.out)
    rintro e w38 ⟨rfl, hb⟩
    refine ⟨_, rfl, ?_⟩
    replace HO351 := rb_ HO351 hb
    replace BK343 := Aside0.mk (bb_ BK343 hb)
    replace BK344 := Aside0.mk (bb_ BK344 hb)
    replace HB := Aside0.mk (bt_ HB hb)
    (try clear hb)
    (try clear hb2)
    (try clear hk)
    (try clear hi)
    refine hK.out _ _ ⟨(blk_cell BK343.out 0).trans rfl, (blk_cell BK343.out 1).trans rfl, (blk_cell BK343.out 2).trans rfl, (blk_cell BK343.out 3).trans rfl, (blk_cell BK343.out 4).trans rfl, (blk_cell BK344.out 0).trans rfl, (blk_cell BK344.out 1).trans rfl, (blk_cell BK344.out 2).trans rfl, (blk_cell BK344.out 3).trans rfl, (blk_cell BK344.out 4).trans rfl⟩ (fun hHeld => ?_)
    clear hK K
    refine nz_ 28 ?_
    refine pz_ 6 29 ba16_21 HT_ ?_
    refine pz_ 7 22 ba16_22 HT_ ?_
    refine done_ (done_of HT_.out (by kernel_rfl)) ?_
    have hnb39 := NB343_344.out
    have hnc39 := NB344_343.out
    have hcz40_0 := cz_ BK343 0 (.int .i64 a0_0)
    have hcz40_1 := cz_ BK343 1 (.int .i64 a0_1)
    have hcz40_2 := cz_ BK343 2 (.int .i64 a0_2)
    have hcz40_3 := cz_ BK343 3 (.slice A0_3 l0_3.length c0_3)
    have hcz40_4 := cz_ BK343 4 (.slice A0_4 l0_4.length c0_4)
    have hfz40_0 := blk_frozen BK343.out 0
    have hfz40_1 := blk_frozen BK343.out 1
    have hfz40_2 := blk_frozen BK343.out 2
    have hfz40_3 := blk_frozen BK343.out 3
    have hfz40_4 := blk_frozen BK343.out 4
    try go_wp2_with (first | ((with_reducible refine gate_dst (N := 32) rfl ?_); refine goesT_ (some 32) rfl rfl Try.func91 (by kernel_rfl) rfl #[.agg #[.int .i64 a0_0, .int .i64 a0_1, .int .i64 a0_2, .slice A0_3 l0_3.length c0_3, .slice A0_4 l0_4.length c0_4]] rfl (by (try simp only [List.map_toArray, List.map_cons, List.map_nil]); first | done | rfl | (simp only [List.length_drop, List.length_take]; rfl)) ?_; (with_reducible refine (impl_newer_1.calls a0_0 a0_1 a0_2 _ _ l0_3 _ _ l0_4 false _ ?side1 ?side2 ?side3 ?side4 A12.out).mono ?_); (case side1 => exact cb_ HR0_3 HB); (case side2 => exact HC0_3.out); (case side3 => exact cb_ HR0_4 HB); (case side4 => exact HC0_4.out); rintro e w41 ⟨rfl, hb⟩; refine ⟨_, rfl, ?_⟩; replace HO351 := rb_ HO351 hb; replace BK343 := Aside0.mk (bb_ BK343 hb); replace BK344 := Aside0.mk (bb_ BK344 hb); replace HB := Aside0.mk (bt_ HB hb); (try clear hb); (try clear hb2); (try clear hk); (try clear hi)))
    go_ret
    exact ⟨by first | rfl | (simp [errW_none, errW_some] <;> rfl) | (simp [*, errW_none, errW_some] <;> rfl), by repeat (first | (with_reducible first | exact HB.out | apply below_alloc | apply pw_below_drewN | apply below_drew1 | refine below_set ?_ GE343.out | refine below_set ?_ GE344.out) | exact HB.out)⟩
  ·rw [if_neg c11] at H
   have c11b0 : (t353 != t354) = false := by simpa using c11
   (try (have c11b1 : decide (t353 = t354) = true := by simpa using c11))
   (try (have c11b2 : (t353 == t354) = true := by simpa using c11))
   clear c11
   by_cases c42 : (wrap64 (a0_2 - a1_2)) > 10
   ·rw [if_pos c42] at H
    have c42b0 : decide (10 < (wrap64 (a0_2 - a1_2))) = true := decide_eq_true c42
    clear c42
    obtain rfl := Option.some.inj H
    go_enter Try.func80, Try.ntmps80
    try go_wp2_with (first | ((with_reducible refine gate_dst (N := 2) rfl ?_); refine box_event ?hg (N := 2) ?hd (cs := #[.int .i64 a0_0, .int .i64 a0_1, .int .i64 a0_2, .slice A0_3 l0_3.length c0_3, .slice A0_4 l0_4.length c0_4]) (t := 31) ?hr ?_; (case hd => rfl); (case hg => rfl); (case hr => first | (go_simp; done) | (go_simp; rfl)); intro gb343 hg w43 hbox hb; have BK343 := Aside0.mk hbox; have GW343 := ge_ HB hg; have GE343 := ge_ HB hg; replace HB := Aside0.mk (bt_ HB hb); clear hb hbox hg) | ((with_reducible refine gate_dst (N := 3) rfl ?_); refine box_event ?hg (N := 3) ?hd (cs := #[.int .i64 a1_0, .int .i64 a1_1, .int .i64 a1_2, .slice A1_3 l1_3.length c1_3, .slice A1_4 l1_4.length c1_4]) (t := 31) ?hr ?_; (case hd => rfl); (case hg => rfl); (case hr => first | (go_simp; done) | (go_simp; rfl)); intro gb344 hg w44 hbox hb; have BK344 := Aside0.mk hbox; have GW344 := ge_ HB hg; have GE344 := ge_ HB hg; have NB343_344 := nl_ BK343 hg; have NB344_343 := ng_ BK343 hg; replace HB := Aside0.mk (bt_ HB hb); replace BK343 := Aside0.mk (bb_ BK343 hb); clear hb hbox hg))
    replace BK343 := Aside0.mk (blk_drew BK343.out)
    replace BK344 := Aside0.mk (blk_drew BK344.out)
    replace HB := Aside0.mk (below_drew1 HB.out)
    refine start_ (n := 13) (S := fun w' => w'.cell? ⟨gb343, 0, none⟩ = some (.int .i64 a0_0) ∧ w'.cell? ⟨gb343, 1, none⟩ = some (.int .i64 a0_1) ∧ w'.cell? ⟨gb343, 2, none⟩ = some (.int .i64 a0_2) ∧ w'.cell? ⟨gb343, 3, none⟩ = some (.slice A0_3 l0_3.length c0_3) ∧ w'.cell? ⟨gb343, 4, none⟩ = some (.slice A0_4 l0_4.length c0_4) ∧ w'.cell? ⟨gb344, 0, none⟩ = some (.int .i64 a1_0) ∧ w'.cell? ⟨gb344, 1, none⟩ = some (.int .i64 a1_1) ∧ w'.cell? ⟨gb344, 2, none⟩ = some (.int .i64 a1_2) ∧ w'.cell? ⟨gb344, 3, none⟩ = some (.slice A1_3 l1_3.length c1_3) ∧ w'.cell? ⟨gb344, 4, none⟩ = some (.slice A1_4 l1_4.length c1_4)) (ds := []) ba16_0 (by kernel_rfl) rfl rfl ⟨(blk_cell BK343.out 0).trans rfl, (blk_cell BK343.out 1).trans rfl, (blk_cell BK343.out 2).trans rfl, (blk_cell BK343.out 3).trans rfl, (blk_cell BK343.out 4).trans rfl, (blk_cell BK344.out 0).trans rfl, (blk_cell BK344.out 1).trans rfl, (blk_cell BK344.out 2).trans rfl, (blk_cell BK344.out 3).trans rfl, (blk_cell BK344.out 4).trans rfl⟩ (fun hHeld => ?_); refine with_tabW impl_newer.tab1 impl_newer.bits1 (fun HT_ HW_ => ?_)
    generalize w44.drew = w45 at BK343 BK344 HB hHeld ⊢
    refine pz_ 0 7 ba16_1 HT_ ?_
    refine pz_ 2 9 ba16_2 HT_ ?_
    refine pt_ 1 8 ba16_3 HT_ HW_ hHeld ?_
    refine pt_ 3 10 ba16_4 HT_ HW_ hHeld ?_
    refine pt_ 5 12 ba16_5 HT_ HW_ hHeld ?_
    refine pt_ 7 14 ba16_6 HT_ HW_ hHeld ?_
    refine one_ (i := 4) (N := some 11) ba16_7 rfl rfl (one_of HT_.out (by kernel_rfl)) (by decide) (fun K hK => ?_)
    refine gz_ Try.func90 #[.int .i64 a0_1, .int .i64 a1_1] ?_
    with_reducible refine (cmp_Compare_int.calls a0_1 a1_1 t345 _ A3.out).mono ?_
    rintro e w' ⟨rfl, ⟨nd, rfl⟩⟩
    refine ⟨_, rfl, ?_⟩
    refine hK.out _ _ ⟨(blk_cell BK343.out 0).trans rfl, (blk_cell BK343.out 1).trans rfl, (blk_cell BK343.out 2).trans rfl, (blk_cell BK343.out 3).trans rfl, (blk_cell BK343.out 4).trans rfl, (blk_cell BK344.out 0).trans rfl, (blk_cell BK344.out 1).trans rfl, (blk_cell BK344.out 2).trans rfl, (blk_cell BK344.out 3).trans rfl, (blk_cell BK344.out 4).trans rfl⟩ (fun hHeld => ?_)
    clear hK K
    refine nz_ 11 ?_
    refine one_ (i := 6) (N := some 13) ba16_8 rfl rfl (one_of HT_.out (by kernel_rfl)) (by decide) (fun K hK => ?_)
    refine gz_ Try.func63 #[.agg #[.int .i64 a0_0, .int .i64 a0_1, .int .i64 a0_2, .slice A0_3 l0_3.length c0_3, .slice A0_4 l0_4.length c0_4]] ?_
    with_reducible refine (impl_Lsa_sum.calls k a0_0 a0_1 a0_2 _ _ l0_3 _ _ l0_4 t346 _ ?side1 ?side2 ?side3 ?side4 A4.out).mono ?_
    (case side1 => exact cc_ HR0_3 HB)
    (case side2 => exact HC0_3.out)
    (case side3 => exact cc_ HR0_4 HB)
    (case side4 => exact HC0_4.out)
    rintro e w46 ⟨rfl, hb⟩
    refine ⟨_, rfl, ?_⟩
    replace BK343 := Aside0.mk (bb_ BK343 hb)
    replace BK344 := Aside0.mk (bb_ BK344 hb)
    replace HB := Aside0.mk (bt_ HB hb)
    (try clear hb)
    (try clear hb2)
    (try clear hk)
    (try clear hi)
    refine hK.out _ _ ⟨(blk_cell BK343.out 0).trans rfl, (blk_cell BK343.out 1).trans rfl, (blk_cell BK343.out 2).trans rfl, (blk_cell BK343.out 3).trans rfl, (blk_cell BK343.out 4).trans rfl, (blk_cell BK344.out 0).trans rfl, (blk_cell BK344.out 1).trans rfl, (blk_cell BK344.out 2).trans rfl, (blk_cell BK344.out 3).trans rfl, (blk_cell BK344.out 4).trans rfl⟩ (fun hHeld => ?_)
    clear hK K
    refine nz_ 13 ?_
    refine one_ (i := 8) (N := some 15) ba16_9 rfl rfl (one_of HT_.out (by kernel_rfl)) (by decide) (fun K hK => ?_)
    refine gz_ Try.func63 #[.agg #[.int .i64 a1_0, .int .i64 a1_1, .int .i64 a1_2, .slice A1_3 l1_3.length c1_3, .slice A1_4 l1_4.length c1_4]] ?_
    with_reducible refine (impl_Lsa_sum.calls k a1_0 a1_1 a1_2 _ _ l1_3 _ _ l1_4 t347 _ ?side1 ?side2 ?side3 ?side4 A5.out).mono ?_
    (case side1 => exact cb_ HR1_3 HB)
    (case side2 => exact HC1_3.out)
    (case side3 => exact cb_ HR1_4 HB)
    (case side4 => exact HC1_4.out)
    rintro e w47 ⟨rfl, hb⟩
    refine ⟨_, rfl, ?_⟩
    replace BK343 := Aside0.mk (bb_ BK343 hb)
    replace BK344 := Aside0.mk (bb_ BK344 hb)
    replace HB := Aside0.mk (bt_ HB hb)
    (try clear hb)
    (try clear hb2)
    (try clear hk)
    (try clear hi)
    refine hK.out _ _ ⟨(blk_cell BK343.out 0).trans rfl, (blk_cell BK343.out 1).trans rfl, (blk_cell BK343.out 2).trans rfl, (blk_cell BK343.out 3).trans rfl, (blk_cell BK343.out 4).trans rfl, (blk_cell BK344.out 0).trans rfl, (blk_cell BK344.out 1).trans rfl, (blk_cell BK344.out 2).trans rfl, (blk_cell BK344.out 3).trans rfl, (blk_cell BK344.out 4).trans rfl⟩ (fun hHeld => ?_)
    clear hK K
    refine nz_ 15 ?_
    refine one_ (i := 9) (N := some 16) ba16_10 rfl rfl (one_of HT_.out (by kernel_rfl)) (by decide) (fun K hK => ?_)
    refine gz_ Try.func90 #[.int .i64 t346, .int .i64 t347] ?_
    with_reducible refine (cmp_Compare_int.calls t346 t347 t348 _ A6.out).mono ?_
    rintro e w' ⟨rfl, ⟨nd, rfl⟩⟩
    refine ⟨_, rfl, ?_⟩
    refine hK.out _ _ ⟨(blk_cell BK343.out 0).trans rfl, (blk_cell BK343.out 1).trans rfl, (blk_cell BK343.out 2).trans rfl, (blk_cell BK343.out 3).trans rfl, (blk_cell BK343.out 4).trans rfl, (blk_cell BK344.out 0).trans rfl, (blk_cell BK344.out 1).trans rfl, (blk_cell BK344.out 2).trans rfl, (blk_cell BK344.out 3).trans rfl, (blk_cell BK344.out 4).trans rfl⟩ (fun hHeld => ?_)
    clear hK K
    refine nz_ 16 ?_
    refine one_ (i := 10) (N := some 17) ba16_11 rfl rfl (one_of HT_.out (by kernel_rfl)) (by decide) (fun K hK => ?_)
    refine Kd.R_lit_step (Kd.int .i64) _ 3 ?hg (N := 17) ?hd (xs := ([t345, t348] : List Int)) (inner := [.int .i64 t345, .int .i64 t348]) (ok := fun _ => True) (okp := fun _ => True) ?hr ?hp (fun _ hk => hk) trivial (Below.refl _ _) (Nat.le_refl _) (by simp) ?_; (case hd => rfl); (case hg => rfl); (case hr => first | (go_simp; done) | (go_simp; rfl)); (case hp => exact (Reps.one (show Kd.M (Kd.int .i64) _ _ _ t345 [.int .i64 t345] from rfl) (Reps.one (show Kd.M (Kd.int .i64) _ _ _ t348 [.int .i64 t348] from rfl) (Reps.none _ _))))
    intro v350 w48 ho49 hb hg_ hnew_
    clear hg_ hnew_
    (first | rw [← Ny349.out] at ho49 | (simp only [Int.reduceToNat] at ho49; rw [← Ny349.out] at ho49))
    have HO351 := Aside0.mk (Kd.R_lower ho49 (bz_ HB))
    replace BK343 := Aside0.mk (bb_ BK343 hb)
    replace BK344 := Aside0.mk (bb_ BK344 hb)
    replace HB := Aside0.mk (bt_ HB hb)
    clear hb ho49
    obtain ⟨Ao50, co50, eo50⟩ := Kd.R_slice HO351.out
    (first | subst eo50 | (injection eo50 with f1_ f2_ f3_; have f4_ := f1_.symm; have f5_ := f3_.symm; clear f1_ f2_ f3_; subst f4_; subst f5_))
    refine hK.out _ _ ⟨(blk_cell BK343.out 0).trans rfl, (blk_cell BK343.out 1).trans rfl, (blk_cell BK343.out 2).trans rfl, (blk_cell BK343.out 3).trans rfl, (blk_cell BK343.out 4).trans rfl, (blk_cell BK344.out 0).trans rfl, (blk_cell BK344.out 1).trans rfl, (blk_cell BK344.out 2).trans rfl, (blk_cell BK344.out 3).trans rfl, (blk_cell BK344.out 4).trans rfl⟩ (fun hHeld => ?_)
    clear hK K
    refine nz_ 17 ?_
    refine one_ (i := 11) (N := some 18) ba16_12 rfl rfl (one_of HT_.out (by kernel_rfl)) (by decide) (fun K hK => ?_)
    refine gz_ Try.func89 #[.slice Ao50 y349.length co50] ?_
    with_reducible refine (cmp_Or_int.calls k _ _ y349 t352 _ ?side1 ?side2 A7.out).mono ?_
    (case side1 => exact rc_ HO351)
    (case side2 => exact (Kd.R_reads' HO351.out).2.1)
    rintro e w' ⟨rfl, ⟨nd, rfl⟩⟩
    refine ⟨_, rfl, ?_⟩
    refine hK.out _ _ ⟨(blk_cell BK343.out 0).trans rfl, (blk_cell BK343.out 1).trans rfl, (blk_cell BK343.out 2).trans rfl, (blk_cell BK343.out 3).trans rfl, (blk_cell BK343.out 4).trans rfl, (blk_cell BK344.out 0).trans rfl, (blk_cell BK344.out 1).trans rfl, (blk_cell BK344.out 2).trans rfl, (blk_cell BK344.out 3).trans rfl, (blk_cell BK344.out 4).trans rfl⟩ (fun hHeld => ?_)
    clear hK K
    refine nz_ 18 ?_
    refine pz_ 12 5 ba16_13 HT_ ?_
    refine done_ (done_of HT_.out (by kernel_rfl)) ?_
    try go_wp2
    (try (rw [drewN_self w48]; generalize hq_ : World.drewN w48 _ = w48; replace HO351 : Aside0 (Kd.R (Kd.int .i64) 3 w48 w.heap.size (fun _ => True) (.slice Ao50 y349.length co50) y349) := ⟨by rw [← hq_]; exact (hd_ HO351)⟩; replace BK343 : Aside0 (w48.heap[gb343]? = some (.cells #[.int .i64 a0_0, .int .i64 a0_1, .int .i64 a0_2, .slice A0_3 l0_3.length c0_3, .slice A0_4 l0_4.length c0_4] 31 (0, 0))) := ⟨by rw [← hq_]; exact (by (with_reducible repeat (first | refine blk_drewN ?_ _ | refine blk_drew ?_ | refine blk_alloc ?_ _)); exact BK343.out)⟩; replace BK344 : Aside0 (w48.heap[gb344]? = some (.cells #[.int .i64 a1_0, .int .i64 a1_1, .int .i64 a1_2, .slice A1_3 l1_3.length c1_3, .slice A1_4 l1_4.length c1_4] 31 (0, 0))) := ⟨by rw [← hq_]; exact (by (with_reducible repeat (first | refine blk_drewN ?_ _ | refine blk_drew ?_ | refine blk_alloc ?_ _)); exact BK344.out)⟩; replace HB : Aside0 (Below w.heap.size w w48) := ⟨by rw [← hq_]; exact (by repeat (first | (with_reducible first | exact HB.out | apply below_alloc | apply pw_below_drewN | apply below_drew1 | refine below_set ?_ GE343.out | refine below_set ?_ GE344.out) | exact HB.out))⟩; clear hq_))
    replace HO351 := Aside0.mk (Kd.R_drew HO351.out)
    replace BK343 := Aside0.mk (blk_drew BK343.out)
    replace BK344 := Aside0.mk (blk_drew BK344.out)
    replace HB := Aside0.mk (below_drew1 HB.out)
    refine start_ (n := 8) (S := fun w' => w'.cell? ⟨gb343, 0, none⟩ = some (.int .i64 a0_0) ∧ w'.cell? ⟨gb343, 1, none⟩ = some (.int .i64 a0_1) ∧ w'.cell? ⟨gb343, 2, none⟩ = some (.int .i64 a0_2) ∧ w'.cell? ⟨gb343, 3, none⟩ = some (.slice A0_3 l0_3.length c0_3) ∧ w'.cell? ⟨gb343, 4, none⟩ = some (.slice A0_4 l0_4.length c0_4) ∧ w'.cell? ⟨gb344, 0, none⟩ = some (.int .i64 a1_0) ∧ w'.cell? ⟨gb344, 1, none⟩ = some (.int .i64 a1_1) ∧ w'.cell? ⟨gb344, 2, none⟩ = some (.int .i64 a1_2) ∧ w'.cell? ⟨gb344, 3, none⟩ = some (.slice A1_3 l1_3.length c1_3) ∧ w'.cell? ⟨gb344, 4, none⟩ = some (.slice A1_4 l1_4.length c1_4)) (ds := []) ba16_14 (by kernel_rfl) rfl rfl ⟨(blk_cell BK343.out 0).trans rfl, (blk_cell BK343.out 1).trans rfl, (blk_cell BK343.out 2).trans rfl, (blk_cell BK343.out 3).trans rfl, (blk_cell BK343.out 4).trans rfl, (blk_cell BK344.out 0).trans rfl, (blk_cell BK344.out 1).trans rfl, (blk_cell BK344.out 2).trans rfl, (blk_cell BK344.out 3).trans rfl, (blk_cell BK344.out 4).trans rfl⟩ (fun hHeld => ?_); refine with_tabW impl_newer.tab5 impl_newer.bits5 (fun HT_ HW_ => ?_)
    generalize w48.drew = w51 at HO351 BK343 BK344 HB hHeld ⊢
    refine pz_ 0 23 ba16_15 HT_ ?_
    refine pz_ 3 26 ba16_16 HT_ ?_
    refine pt_ 1 24 ba16_17 HT_ HW_ hHeld ?_
    refine pt_ 4 27 ba16_18 HT_ HW_ hHeld ?_
    refine one_ (i := 2) (N := some 25) ba16_19 rfl rfl (one_of HT_.out (by kernel_rfl)) (by decide) (fun K hK => ?_)
    refine goesU_ Try.func91 (by kernel_rfl) rfl #[.agg #[.int .i64 a0_0, .int .i64 a0_1, .int .i64 a0_2, .slice A0_3 l0_3.length c0_3, .slice A0_4 l0_4.length c0_4]] (by rfl) rfl rfl (by (try simp only [List.map_toArray, List.map_cons, List.map_nil]); first | done | rfl | (simp only [List.length_drop, List.length_take]; rfl)) ?_
    with_reducible refine (impl_newer_1.calls a0_0 a0_1 a0_2 _ _ l0_3 _ _ l0_4 t353 _ ?side1 ?side2 ?side3 ?side4 A9.out).mono ?_
    (case side1 => exact cb_ HR0_3 HB)
    (case side2 => exact HC0_3.out)
    (case side3 => exact cb_ HR0_4 HB)
    (case side4 => exact HC0_4.out)
    rintro e w52 ⟨rfl, hb⟩
    refine ⟨_, rfl, ?_⟩
    replace HO351 := rb_ HO351 hb
    replace BK343 := Aside0.mk (bb_ BK343 hb)
    replace BK344 := Aside0.mk (bb_ BK344 hb)
    replace HB := Aside0.mk (bt_ HB hb)
    (try clear hb)
    (try clear hb2)
    (try clear hk)
    (try clear hi)
    refine hK.out _ _ ⟨(blk_cell BK343.out 0).trans rfl, (blk_cell BK343.out 1).trans rfl, (blk_cell BK343.out 2).trans rfl, (blk_cell BK343.out 3).trans rfl, (blk_cell BK343.out 4).trans rfl, (blk_cell BK344.out 0).trans rfl, (blk_cell BK344.out 1).trans rfl, (blk_cell BK344.out 2).trans rfl, (blk_cell BK344.out 3).trans rfl, (blk_cell BK344.out 4).trans rfl⟩ (fun hHeld => ?_)
    clear hK K
    refine nz_ 25 ?_
    refine one_ (i := 5) (N := some 28) ba16_20 rfl rfl (one_of HT_.out (by kernel_rfl)) (by decide) (fun K hK => ?_)
    refine goesU_ Try.func91 (by kernel_rfl) rfl #[.agg #[.int .i64 a1_0, .int .i64 a1_1, .int .i64 a1_2, .slice A1_3 l1_3.length c1_3, .slice A1_4 l1_4.length c1_4]] (by rfl) rfl rfl (by (try simp only [List.map_toArray, List.map_cons, List.map_nil]); first | done | rfl | (simp only [List.length_drop, List.length_take]; rfl)) ?_
    with_reducible refine (impl_newer_1.calls a1_0 a1_1 a1_2 _ _ l1_3 _ _ l1_4 t354 _ ?side1 ?side2 ?side3 ?side4 A10.out).mono ?_
    (case side1 => exact cb_ HR1_3 HB)
    (case side2 => exact HC1_3.out)
    (case side3 => exact cb_ HR1_4 HB)
    (case side4 => exact HC1_4.out)
    rintro e w53 ⟨rfl, hb⟩
    refine ⟨_, rfl, ?_⟩
    replace HO351 := rb_ HO351 hb
    replace BK343 := Aside0.mk (bb_ BK343 hb)
    replace BK344 := Aside0.mk (bb_ BK344 hb)
    replace HB := Aside0.mk (bt_ HB hb)
    (try clear hb)
    (try clear hb2)
    (try clear hk)
    (try clear hi)
    refine hK.out _ _ ⟨(blk_cell BK343.out 0).trans rfl, (blk_cell BK343.out 1).trans rfl, (blk_cell BK343.out 2).trans rfl, (blk_cell BK343.out 3).trans rfl, (blk_cell BK343.out 4).trans rfl, (blk_cell BK344.out 0).trans rfl, (blk_cell BK344.out 1).trans rfl, (blk_cell BK344.out 2).trans rfl, (blk_cell BK344.out 3).trans rfl, (blk_cell BK344.out 4).trans rfl⟩ (fun hHeld => ?_)
    clear hK K
    refine nz_ 28 ?_
    refine pz_ 6 29 ba16_21 HT_ ?_
    refine pz_ 7 22 ba16_22 HT_ ?_
    refine done_ (done_of HT_.out (by kernel_rfl)) ?_
    have hnb54 := NB343_344.out
    have hnc54 := NB344_343.out
    have hcz55_0 := cz_ BK343 0 (.int .i64 a0_0)
    have hcz55_1 := cz_ BK343 1 (.int .i64 a0_1)
    have hcz55_2 := cz_ BK343 2 (.int .i64 a0_2)
    have hcz55_3 := cz_ BK343 3 (.slice A0_3 l0_3.length c0_3)
    have hcz55_4 := cz_ BK343 4 (.slice A0_4 l0_4.length c0_4)
    have hfz55_0 := blk_frozen BK343.out 0
    have hfz55_1 := blk_frozen BK343.out 1
    have hfz55_2 := blk_frozen BK343.out 2
    have hfz55_3 := blk_frozen BK343.out 3
    have hfz55_4 := blk_frozen BK343.out 4
    have hcz56_0 := cz_ BK344 0 (.int .i64 a1_0)
    have hcz56_1 := cz_ BK344 1 (.int .i64 a1_1)
    have hcz56_2 := cz_ BK344 2 (.int .i64 a1_2)
    have hcz56_3 := cz_ BK344 3 (.slice A1_3 l1_3.length c1_3)
    have hcz56_4 := cz_ BK344 4 (.slice A1_4 l1_4.length c1_4)
    have hfz56_0 := blk_frozen BK344.out 0
    have hfz56_1 := blk_frozen BK344.out 1
    have hfz56_2 := blk_frozen BK344.out 2
    have hfz56_3 := blk_frozen BK344.out 3
    have hfz56_4 := blk_frozen BK344.out 4
    try go_wp2
    go_ret
    exact ⟨by first | rfl | (simp [errW_none, errW_some] <;> rfl) | (simp [*, errW_none, errW_some] <;> rfl), by repeat (first | (with_reducible first | exact HB.out | apply below_alloc | apply pw_below_drewN | apply below_drew1 | refine below_set ?_ GE343.out | refine below_set ?_ GE344.out) | exact HB.out)⟩
   ·rw [if_neg c42] at H
    have c42b0 : decide (10 < (wrap64 (a0_2 - a1_2))) = false := decide_eq_false c42
    clear c42
    by_cases c57 : (wrap64 (a1_2 - a0_2)) > 10
    ·rw [if_pos c57] at H
     have c57b0 : decide (10 < (wrap64 (a1_2 - a0_2))) = true := decide_eq_true c57
     clear c57
     obtain rfl := Option.some.inj H
     go_enter Try.func80, Try.ntmps80
     try go_wp2_with (first | ((with_reducible refine gate_dst (N := 2) rfl ?_); refine box_event ?hg (N := 2) ?hd (cs := #[.int .i64 a0_0, .int .i64 a0_1, .int .i64 a0_2, .slice A0_3 l0_3.length c0_3, .slice A0_4 l0_4.length c0_4]) (t := 31) ?hr ?_; (case hd => rfl); (case hg => rfl); (case hr => first | (go_simp; done) | (go_simp; rfl)); intro gb343 hg w58 hbox hb; have BK343 := Aside0.mk hbox; have GW343 := ge_ HB hg; have GE343 := ge_ HB hg; replace HB := Aside0.mk (bt_ HB hb); clear hb hbox hg) | ((with_reducible refine gate_dst (N := 3) rfl ?_); refine box_event ?hg (N := 3) ?hd (cs := #[.int .i64 a1_0, .int .i64 a1_1, .int .i64 a1_2, .slice A1_3 l1_3.length c1_3, .slice A1_4 l1_4.length c1_4]) (t := 31) ?hr ?_; (case hd => rfl); (case hg => rfl); (case hr => first | (go_simp; done) | (go_simp; rfl)); intro gb344 hg w59 hbox hb; have BK344 := Aside0.mk hbox; have GW344 := ge_ HB hg; have GE344 := ge_ HB hg; have NB343_344 := nl_ BK343 hg; have NB344_343 := ng_ BK343 hg; replace HB := Aside0.mk (bt_ HB hb); replace BK343 := Aside0.mk (bb_ BK343 hb); clear hb hbox hg))
     replace BK343 := Aside0.mk (blk_drew BK343.out)
     replace BK344 := Aside0.mk (blk_drew BK344.out)
     replace HB := Aside0.mk (below_drew1 HB.out)
     refine start_ (n := 13) (S := fun w' => w'.cell? ⟨gb343, 0, none⟩ = some (.int .i64 a0_0) ∧ w'.cell? ⟨gb343, 1, none⟩ = some (.int .i64 a0_1) ∧ w'.cell? ⟨gb343, 2, none⟩ = some (.int .i64 a0_2) ∧ w'.cell? ⟨gb343, 3, none⟩ = some (.slice A0_3 l0_3.length c0_3) ∧ w'.cell? ⟨gb343, 4, none⟩ = some (.slice A0_4 l0_4.length c0_4) ∧ w'.cell? ⟨gb344, 0, none⟩ = some (.int .i64 a1_0) ∧ w'.cell? ⟨gb344, 1, none⟩ = some (.int .i64 a1_1) ∧ w'.cell? ⟨gb344, 2, none⟩ = some (.int .i64 a1_2) ∧ w'.cell? ⟨gb344, 3, none⟩ = some (.slice A1_3 l1_3.length c1_3) ∧ w'.cell? ⟨gb344, 4, none⟩ = some (.slice A1_4 l1_4.length c1_4)) (ds := []) ba16_0 (by kernel_rfl) rfl rfl ⟨(blk_cell BK343.out 0).trans rfl, (blk_cell BK343.out 1).trans rfl, (blk_cell BK343.out 2).trans rfl, (blk_cell BK343.out 3).trans rfl, (blk_cell BK343.out 4).trans rfl, (blk_cell BK344.out 0).trans rfl, (blk_cell BK344.out 1).trans rfl, (blk_cell BK344.out 2).trans rfl, (blk_cell BK344.out 3).trans rfl, (blk_cell BK344.out 4).trans rfl⟩ (fun hHeld => ?_); refine with_tabW impl_newer.tab1 impl_newer.bits1 (fun HT_ HW_ => ?_)
     generalize w59.drew = w60 at BK343 BK344 HB hHeld ⊢
     refine pz_ 0 7 ba16_1 HT_ ?_
     refine pz_ 2 9 ba16_2 HT_ ?_
     refine pt_ 1 8 ba16_3 HT_ HW_ hHeld ?_
     refine pt_ 3 10 ba16_4 HT_ HW_ hHeld ?_
     refine pt_ 5 12 ba16_5 HT_ HW_ hHeld ?_
     refine pt_ 7 14 ba16_6 HT_ HW_ hHeld ?_
     refine one_ (i := 4) (N := some 11) ba16_7 rfl rfl (one_of HT_.out (by kernel_rfl)) (by decide) (fun K hK => ?_)
     refine gz_ Try.func90 #[.int .i64 a0_1, .int .i64 a1_1] ?_
     with_reducible refine (cmp_Compare_int.calls a0_1 a1_1 t345 _ A3.out).mono ?_
     rintro e w' ⟨rfl, ⟨nd, rfl⟩⟩
     refine ⟨_, rfl, ?_⟩
     refine hK.out _ _ ⟨(blk_cell BK343.out 0).trans rfl, (blk_cell BK343.out 1).trans rfl, (blk_cell BK343.out 2).trans rfl, (blk_cell BK343.out 3).trans rfl, (blk_cell BK343.out 4).trans rfl, (blk_cell BK344.out 0).trans rfl, (blk_cell BK344.out 1).trans rfl, (blk_cell BK344.out 2).trans rfl, (blk_cell BK344.out 3).trans rfl, (blk_cell BK344.out 4).trans rfl⟩ (fun hHeld => ?_)
     clear hK K
     refine nz_ 11 ?_
     refine one_ (i := 6) (N := some 13) ba16_8 rfl rfl (one_of HT_.out (by kernel_rfl)) (by decide) (fun K hK => ?_)
     refine gz_ Try.func63 #[.agg #[.int .i64 a0_0, .int .i64 a0_1, .int .i64 a0_2, .slice A0_3 l0_3.length c0_3, .slice A0_4 l0_4.length c0_4]] ?_
     with_reducible refine (impl_Lsa_sum.calls k a0_0 a0_1 a0_2 _ _ l0_3 _ _ l0_4 t346 _ ?side1 ?side2 ?side3 ?side4 A4.out).mono ?_
     (case side1 => exact cc_ HR0_3 HB)
     (case side2 => exact HC0_3.out)
     (case side3 => exact cc_ HR0_4 HB)
     (case side4 => exact HC0_4.out)
     rintro e w61 ⟨rfl, hb⟩
     refine ⟨_, rfl, ?_⟩
     replace BK343 := Aside0.mk (bb_ BK343 hb)
     replace BK344 := Aside0.mk (bb_ BK344 hb)
     replace HB := Aside0.mk (bt_ HB hb)
     (try clear hb)
     (try clear hb2)
     (try clear hk)
     (try clear hi)
     refine hK.out _ _ ⟨(blk_cell BK343.out 0).trans rfl, (blk_cell BK343.out 1).trans rfl, (blk_cell BK343.out 2).trans rfl, (blk_cell BK343.out 3).trans rfl, (blk_cell BK343.out 4).trans rfl, (blk_cell BK344.out 0).trans rfl, (blk_cell BK344.out 1).trans rfl, (blk_cell BK344.out 2).trans rfl, (blk_cell BK344.out 3).trans rfl, (blk_cell BK344.out 4).trans rfl⟩ (fun hHeld => ?_)
     clear hK K
     refine nz_ 13 ?_
     refine one_ (i := 8) (N := some 15) ba16_9 rfl rfl (one_of HT_.out (by kernel_rfl)) (by decide) (fun K hK => ?_)
     refine gz_ Try.func63 #[.agg #[.int .i64 a1_0, .int .i64 a1_1, .int .i64 a1_2, .slice A1_3 l1_3.length c1_3, .slice A1_4 l1_4.length c1_4]] ?_
     with_reducible refine (impl_Lsa_sum.calls k a1_0 a1_1 a1_2 _ _ l1_3 _ _ l1_4 t347 _ ?side1 ?side2 ?side3 ?side4 A5.out).mono ?_
     (case side1 => exact cb_ HR1_3 HB)
     (case side2 => exact HC1_3.out)
     (case side3 => exact cb_ HR1_4 HB)
     (case side4 => exact HC1_4.out)
     rintro e w62 ⟨rfl, hb⟩
     refine ⟨_, rfl, ?_⟩
     replace BK343 := Aside0.mk (bb_ BK343 hb)
     replace BK344 := Aside0.mk (bb_ BK344 hb)
     replace HB := Aside0.mk (bt_ HB hb)
     (try clear hb)
     (try clear hb2)
     (try clear hk)
     (try clear hi)
     refine hK.out _ _ ⟨(blk_cell BK343.out 0).trans rfl, (blk_cell BK343.out 1).trans rfl, (blk_cell BK343.out 2).trans rfl, (blk_cell BK343.out 3).trans rfl, (blk_cell BK343.out 4).trans rfl, (blk_cell BK344.out 0).trans rfl, (blk_cell BK344.out 1).trans rfl, (blk_cell BK344.out 2).trans rfl, (blk_cell BK344.out 3).trans rfl, (blk_cell BK344.out 4).trans rfl⟩ (fun hHeld => ?_)
     clear hK K
     refine nz_ 15 ?_
     refine one_ (i := 9) (N := some 16) ba16_10 rfl rfl (one_of HT_.out (by kernel_rfl)) (by decide) (fun K hK => ?_)
     refine gz_ Try.func90 #[.int .i64 t346, .int .i64 t347] ?_
     with_reducible refine (cmp_Compare_int.calls t346 t347 t348 _ A6.out).mono ?_
     rintro e w' ⟨rfl, ⟨nd, rfl⟩⟩
     refine ⟨_, rfl, ?_⟩
     refine hK.out _ _ ⟨(blk_cell BK343.out 0).trans rfl, (blk_cell BK343.out 1).trans rfl, (blk_cell BK343.out 2).trans rfl, (blk_cell BK343.out 3).trans rfl, (blk_cell BK343.out 4).trans rfl, (blk_cell BK344.out 0).trans rfl, (blk_cell BK344.out 1).trans rfl, (blk_cell BK344.out 2).trans rfl, (blk_cell BK344.out 3).trans rfl, (blk_cell BK344.out 4).trans rfl⟩ (fun hHeld => ?_)
     clear hK K
     refine nz_ 16 ?_
     refine one_ (i := 10) (N := some 17) ba16_11 rfl rfl (one_of HT_.out (by kernel_rfl)) (by decide) (fun K hK => ?_)
     refine Kd.R_lit_step (Kd.int .i64) _ 3 ?hg (N := 17) ?hd (xs := ([t345, t348] : List Int)) (inner := [.int .i64 t345, .int .i64 t348]) (ok := fun _ => True) (okp := fun _ => True) ?hr ?hp (fun _ hk => hk) trivial (Below.refl _ _) (Nat.le_refl _) (by simp) ?_; (case hd => rfl); (case hg => rfl); (case hr => first | (go_simp; done) | (go_simp; rfl)); (case hp => exact (Reps.one (show Kd.M (Kd.int .i64) _ _ _ t345 [.int .i64 t345] from rfl) (Reps.one (show Kd.M (Kd.int .i64) _ _ _ t348 [.int .i64 t348] from rfl) (Reps.none _ _))))
     intro v350 w63 ho64 hb hg_ hnew_
     clear hg_ hnew_
     (first | rw [← Ny349.out] at ho64 | (simp only [Int.reduceToNat] at ho64; rw [← Ny349.out] at ho64))
     have HO351 := Aside0.mk (Kd.R_lower ho64 (bz_ HB))
     replace BK343 := Aside0.mk (bb_ BK343 hb)
     replace BK344 := Aside0.mk (bb_ BK344 hb)
     replace HB := Aside0.mk (bt_ HB hb)
     clear hb ho64
     obtain ⟨Ao65, co65, eo65⟩ := Kd.R_slice HO351.out
     (first | subst eo65 | (injection eo65 with f1_ f2_ f3_; have f4_ := f1_.symm; have f5_ := f3_.symm; clear f1_ f2_ f3_; subst f4_; subst f5_))
     refine hK.out _ _ ⟨(blk_cell BK343.out 0).trans rfl, (blk_cell BK343.out 1).trans rfl, (blk_cell BK343.out 2).trans rfl, (blk_cell BK343.out 3).trans rfl, (blk_cell BK343.out 4).trans rfl, (blk_cell BK344.out 0).trans rfl, (blk_cell BK344.out 1).trans rfl, (blk_cell BK344.out 2).trans rfl, (blk_cell BK344.out 3).trans rfl, (blk_cell BK344.out 4).trans rfl⟩ (fun hHeld => ?_)
     clear hK K
     refine nz_ 17 ?_
     refine one_ (i := 11) (N := some 18) ba16_12 rfl rfl (one_of HT_.out (by kernel_rfl)) (by decide) (fun K hK => ?_)
     refine gz_ Try.func89 #[.slice Ao65 y349.length co65] ?_
     with_reducible refine (cmp_Or_int.calls k _ _ y349 t352 _ ?side1 ?side2 A7.out).mono ?_
     (case side1 => exact rc_ HO351)
     (case side2 => exact (Kd.R_reads' HO351.out).2.1)
     rintro e w' ⟨rfl, ⟨nd, rfl⟩⟩
     refine ⟨_, rfl, ?_⟩
     refine hK.out _ _ ⟨(blk_cell BK343.out 0).trans rfl, (blk_cell BK343.out 1).trans rfl, (blk_cell BK343.out 2).trans rfl, (blk_cell BK343.out 3).trans rfl, (blk_cell BK343.out 4).trans rfl, (blk_cell BK344.out 0).trans rfl, (blk_cell BK344.out 1).trans rfl, (blk_cell BK344.out 2).trans rfl, (blk_cell BK344.out 3).trans rfl, (blk_cell BK344.out 4).trans rfl⟩ (fun hHeld => ?_)
     clear hK K
     refine nz_ 18 ?_
     refine pz_ 12 5 ba16_13 HT_ ?_
     refine done_ (done_of HT_.out (by kernel_rfl)) ?_
     try go_wp2
     (try (rw [drewN_self w63]; generalize hq_ : World.drewN w63 _ = w63; replace HO351 : Aside0 (Kd.R (Kd.int .i64) 3 w63 w.heap.size (fun _ => True) (.slice Ao65 y349.length co65) y349) := ⟨by rw [← hq_]; exact (hd_ HO351)⟩; replace BK343 : Aside0 (w63.heap[gb343]? = some (.cells #[.int .i64 a0_0, .int .i64 a0_1, .int .i64 a0_2, .slice A0_3 l0_3.length c0_3, .slice A0_4 l0_4.length c0_4] 31 (0, 0))) := ⟨by rw [← hq_]; exact (by (with_reducible repeat (first | refine blk_drewN ?_ _ | refine blk_drew ?_ | refine blk_alloc ?_ _)); exact BK343.out)⟩; replace BK344 : Aside0 (w63.heap[gb344]? = some (.cells #[.int .i64 a1_0, .int .i64 a1_1, .int .i64 a1_2, .slice A1_3 l1_3.length c1_3, .slice A1_4 l1_4.length c1_4] 31 (0, 0))) := ⟨by rw [← hq_]; exact (by (with_reducible repeat (first | refine blk_drewN ?_ _ | refine blk_drew ?_ | refine blk_alloc ?_ _)); exact BK344.out)⟩; replace HB : Aside0 (Below w.heap.size w w63) := ⟨by rw [← hq_]; exact (by repeat (first | (with_reducible first | exact HB.out | apply below_alloc | apply pw_below_drewN | apply below_drew1 | refine below_set ?_ GE343.out | refine below_set ?_ GE344.out) | exact HB.out))⟩; clear hq_))
     replace HO351 := Aside0.mk (Kd.R_drew HO351.out)
     replace BK343 := Aside0.mk (blk_drew BK343.out)
     replace BK344 := Aside0.mk (blk_drew BK344.out)
     replace HB := Aside0.mk (below_drew1 HB.out)
     refine start_ (n := 8) (S := fun w' => w'.cell? ⟨gb343, 0, none⟩ = some (.int .i64 a0_0) ∧ w'.cell? ⟨gb343, 1, none⟩ = some (.int .i64 a0_1) ∧ w'.cell? ⟨gb343, 2, none⟩ = some (.int .i64 a0_2) ∧ w'.cell? ⟨gb343, 3, none⟩ = some (.slice A0_3 l0_3.length c0_3) ∧ w'.cell? ⟨gb343, 4, none⟩ = some (.slice A0_4 l0_4.length c0_4) ∧ w'.cell? ⟨gb344, 0, none⟩ = some (.int .i64 a1_0) ∧ w'.cell? ⟨gb344, 1, none⟩ = some (.int .i64 a1_1) ∧ w'.cell? ⟨gb344, 2, none⟩ = some (.int .i64 a1_2) ∧ w'.cell? ⟨gb344, 3, none⟩ = some (.slice A1_3 l1_3.length c1_3) ∧ w'.cell? ⟨gb344, 4, none⟩ = some (.slice A1_4 l1_4.length c1_4)) (ds := []) ba16_14 (by kernel_rfl) rfl rfl ⟨(blk_cell BK343.out 0).trans rfl, (blk_cell BK343.out 1).trans rfl, (blk_cell BK343.out 2).trans rfl, (blk_cell BK343.out 3).trans rfl, (blk_cell BK343.out 4).trans rfl, (blk_cell BK344.out 0).trans rfl, (blk_cell BK344.out 1).trans rfl, (blk_cell BK344.out 2).trans rfl, (blk_cell BK344.out 3).trans rfl, (blk_cell BK344.out 4).trans rfl⟩ (fun hHeld => ?_); refine with_tabW impl_newer.tab5 impl_newer.bits5 (fun HT_ HW_ => ?_)
     generalize w63.drew = w66 at HO351 BK343 BK344 HB hHeld ⊢
     refine pz_ 0 23 ba16_15 HT_ ?_
     refine pz_ 3 26 ba16_16 HT_ ?_
     refine pt_ 1 24 ba16_17 HT_ HW_ hHeld ?_
     refine pt_ 4 27 ba16_18 HT_ HW_ hHeld ?_
     refine one_ (i := 2) (N := some 25) ba16_19 rfl rfl (one_of HT_.out (by kernel_rfl)) (by decide) (fun K hK => ?_)
     refine goesU_ Try.func91 (by kernel_rfl) rfl #[.agg #[.int .i64 a0_0, .int .i64 a0_1, .int .i64 a0_2, .slice A0_3 l0_3.length c0_3, .slice A0_4 l0_4.length c0_4]] (by rfl) rfl rfl (by (try simp only [List.map_toArray, List.map_cons, List.map_nil]); first | done | rfl | (simp only [List.length_drop, List.length_take]; rfl)) ?_
     with_reducible refine (impl_newer_1.calls a0_0 a0_1 a0_2 _ _ l0_3 _ _ l0_4 t353 _ ?side1 ?side2 ?side3 ?side4 A9.out).mono ?_
     (case side1 => exact cb_ HR0_3 HB)
     (case side2 => exact HC0_3.out)
     (case side3 => exact cb_ HR0_4 HB)
     (case side4 => exact HC0_4.out)
     rintro e w67 ⟨rfl, hb⟩
     refine ⟨_, rfl, ?_⟩
     replace HO351 := rb_ HO351 hb
     replace BK343 := Aside0.mk (bb_ BK343 hb)
     replace BK344 := Aside0.mk (bb_ BK344 hb)
     replace HB := Aside0.mk (bt_ HB hb)
     (try clear hb)
     (try clear hb2)
     (try clear hk)
     (try clear hi)
     refine hK.out _ _ ⟨(blk_cell BK343.out 0).trans rfl, (blk_cell BK343.out 1).trans rfl, (blk_cell BK343.out 2).trans rfl, (blk_cell BK343.out 3).trans rfl, (blk_cell BK343.out 4).trans rfl, (blk_cell BK344.out 0).trans rfl, (blk_cell BK344.out 1).trans rfl, (blk_cell BK344.out 2).trans rfl, (blk_cell BK344.out 3).trans rfl, (blk_cell BK344.out 4).trans rfl⟩ (fun hHeld => ?_)
     clear hK K
     refine nz_ 25 ?_
     refine one_ (i := 5) (N := some 28) ba16_20 rfl rfl (one_of HT_.out (by kernel_rfl)) (by decide) (fun K hK => ?_)
     refine goesU_ Try.func91 (by kernel_rfl) rfl #[.agg #[.int .i64 a1_0, .int .i64 a1_1, .int .i64 a1_2, .slice A1_3 l1_3.length c1_3, .slice A1_4 l1_4.length c1_4]] (by rfl) rfl rfl (by (try simp only [List.map_toArray, List.map_cons, List.map_nil]); first | done | rfl | (simp only [List.length_drop, List.length_take]; rfl)) ?_
     with_reducible refine (impl_newer_1.calls a1_0 a1_1 a1_2 _ _ l1_3 _ _ l1_4 t354 _ ?side1 ?side2 ?side3 ?side4 A10.out).mono ?_
     (case side1 => exact cb_ HR1_3 HB)
     (case side2 => exact HC1_3.out)
     (case side3 => exact cb_ HR1_4 HB)
     (case side4 => exact HC1_4.out)
     rintro e w68 ⟨rfl, hb⟩
     refine ⟨_, rfl, ?_⟩
     replace HO351 := rb_ HO351 hb
     replace BK343 := Aside0.mk (bb_ BK343 hb)
     replace BK344 := Aside0.mk (bb_ BK344 hb)
     replace HB := Aside0.mk (bt_ HB hb)
     (try clear hb)
     (try clear hb2)
     (try clear hk)
     (try clear hi)
     refine hK.out _ _ ⟨(blk_cell BK343.out 0).trans rfl, (blk_cell BK343.out 1).trans rfl, (blk_cell BK343.out 2).trans rfl, (blk_cell BK343.out 3).trans rfl, (blk_cell BK343.out 4).trans rfl, (blk_cell BK344.out 0).trans rfl, (blk_cell BK344.out 1).trans rfl, (blk_cell BK344.out 2).trans rfl, (blk_cell BK344.out 3).trans rfl, (blk_cell BK344.out 4).trans rfl⟩ (fun hHeld => ?_)
     clear hK K
     refine nz_ 28 ?_
     refine pz_ 6 29 ba16_21 HT_ ?_
     refine pz_ 7 22 ba16_22 HT_ ?_
     refine done_ (done_of HT_.out (by kernel_rfl)) ?_
     have hnb69 := NB343_344.out
     have hnc69 := NB344_343.out
     have hcz70_0 := cz_ BK343 0 (.int .i64 a0_0)
     have hcz70_1 := cz_ BK343 1 (.int .i64 a0_1)
     have hcz70_2 := cz_ BK343 2 (.int .i64 a0_2)
     have hcz70_3 := cz_ BK343 3 (.slice A0_3 l0_3.length c0_3)
     have hcz70_4 := cz_ BK343 4 (.slice A0_4 l0_4.length c0_4)
     have hfz70_0 := blk_frozen BK343.out 0
     have hfz70_1 := blk_frozen BK343.out 1
     have hfz70_2 := blk_frozen BK343.out 2
     have hfz70_3 := blk_frozen BK343.out 3
     have hfz70_4 := blk_frozen BK343.out 4
     have hcz71_0 := cz_ BK344 0 (.int .i64 a1_0)
     have hcz71_1 := cz_ BK344 1 (.int .i64 a1_1)
     have hcz71_2 := cz_ BK344 2 (.int .i64 a1_2)
     have hcz71_3 := cz_ BK344 3 (.slice A1_3 l1_3.length c1_3)
     have hcz71_4 := cz_ BK344 4 (.slice A1_4 l1_4.length c1_4)
     have hfz71_0 := blk_frozen BK344.out 0
     have hfz71_1 := blk_frozen BK344.out 1
     have hfz71_2 := blk_frozen BK344.out 2
     have hfz71_3 := blk_frozen BK344.out 3
     have hfz71_4 := blk_frozen BK344.out 4
     try go_wp2
     go_ret
     exact ⟨by first | rfl | (simp [errW_none, errW_some] <;> rfl) | (simp [*, errW_none, errW_some] <;> rfl), by repeat (first | (with_reducible first | exact HB.out | apply below_alloc | apply pw_below_drewN | apply below_drew1 | refine below_set ?_ GE343.out | refine below_set ?_ GE344.out) | exact HB.out)⟩
    ·rw [if_neg c57] at H
     have c57b0 : decide (10 < (wrap64 (a1_2 - a0_2))) = false := decide_eq_false c57
     clear c57
     obtain rfl := Option.some.inj H
     go_enter Try.func80, Try.ntmps80
     try go_wp2_with (first | ((with_reducible refine gate_dst (N := 2) rfl ?_); refine box_event ?hg (N := 2) ?hd (cs := #[.int .i64 a0_0, .int .i64 a0_1, .int .i64 a0_2, .slice A0_3 l0_3.length c0_3, .slice A0_4 l0_4.length c0_4]) (t := 31) ?hr ?_; (case hd => rfl); (case hg => rfl); (case hr => first | (go_simp; done) | (go_simp; rfl)); intro gb343 hg w72 hbox hb; have BK343 := Aside0.mk hbox; have GW343 := ge_ HB hg; have GE343 := ge_ HB hg; replace HB := Aside0.mk (bt_ HB hb); clear hb hbox hg) | ((with_reducible refine gate_dst (N := 3) rfl ?_); refine box_event ?hg (N := 3) ?hd (cs := #[.int .i64 a1_0, .int .i64 a1_1, .int .i64 a1_2, .slice A1_3 l1_3.length c1_3, .slice A1_4 l1_4.length c1_4]) (t := 31) ?hr ?_; (case hd => rfl); (case hg => rfl); (case hr => first | (go_simp; done) | (go_simp; rfl)); intro gb344 hg w73 hbox hb; have BK344 := Aside0.mk hbox; have GW344 := ge_ HB hg; have GE344 := ge_ HB hg; have NB343_344 := nl_ BK343 hg; have NB344_343 := ng_ BK343 hg; replace HB := Aside0.mk (bt_ HB hb); replace BK343 := Aside0.mk (bb_ BK343 hb); clear hb hbox hg))
     replace BK343 := Aside0.mk (blk_drew BK343.out)
     replace BK344 := Aside0.mk (blk_drew BK344.out)
     replace HB := Aside0.mk (below_drew1 HB.out)
     refine start_ (n := 13) (S := fun w' => w'.cell? ⟨gb343, 0, none⟩ = some (.int .i64 a0_0) ∧ w'.cell? ⟨gb343, 1, none⟩ = some (.int .i64 a0_1) ∧ w'.cell? ⟨gb343, 2, none⟩ = some (.int .i64 a0_2) ∧ w'.cell? ⟨gb343, 3, none⟩ = some (.slice A0_3 l0_3.length c0_3) ∧ w'.cell? ⟨gb343, 4, none⟩ = some (.slice A0_4 l0_4.length c0_4) ∧ w'.cell? ⟨gb344, 0, none⟩ = some (.int .i64 a1_0) ∧ w'.cell? ⟨gb344, 1, none⟩ = some (.int .i64 a1_1) ∧ w'.cell? ⟨gb344, 2, none⟩ = some (.int .i64 a1_2) ∧ w'.cell? ⟨gb344, 3, none⟩ = some (.slice A1_3 l1_3.length c1_3) ∧ w'.cell? ⟨gb344, 4, none⟩ = some (.slice A1_4 l1_4.length c1_4)) (ds := []) ba16_0 (by kernel_rfl) rfl rfl ⟨(blk_cell BK343.out 0).trans rfl, (blk_cell BK343.out 1).trans rfl, (blk_cell BK343.out 2).trans rfl, (blk_cell BK343.out 3).trans rfl, (blk_cell BK343.out 4).trans rfl, (blk_cell BK344.out 0).trans rfl, (blk_cell BK344.out 1).trans rfl, (blk_cell BK344.out 2).trans rfl, (blk_cell BK344.out 3).trans rfl, (blk_cell BK344.out 4).trans rfl⟩ (fun hHeld => ?_); refine with_tabW impl_newer.tab1 impl_newer.bits1 (fun HT_ HW_ => ?_)
     generalize w73.drew = w74 at BK343 BK344 HB hHeld ⊢
     refine pz_ 0 7 ba16_1 HT_ ?_
     refine pz_ 2 9 ba16_2 HT_ ?_
     refine pt_ 1 8 ba16_3 HT_ HW_ hHeld ?_
     refine pt_ 3 10 ba16_4 HT_ HW_ hHeld ?_
     refine pt_ 5 12 ba16_5 HT_ HW_ hHeld ?_
     refine pt_ 7 14 ba16_6 HT_ HW_ hHeld ?_
     refine one_ (i := 4) (N := some 11) ba16_7 rfl rfl (one_of HT_.out (by kernel_rfl)) (by decide) (fun K hK => ?_)
     refine gz_ Try.func90 #[.int .i64 a0_1, .int .i64 a1_1] ?_
     with_reducible refine (cmp_Compare_int.calls a0_1 a1_1 t345 _ A3.out).mono ?_
     rintro e w' ⟨rfl, ⟨nd, rfl⟩⟩
     refine ⟨_, rfl, ?_⟩
     refine hK.out _ _ ⟨(blk_cell BK343.out 0).trans rfl, (blk_cell BK343.out 1).trans rfl, (blk_cell BK343.out 2).trans rfl, (blk_cell BK343.out 3).trans rfl, (blk_cell BK343.out 4).trans rfl, (blk_cell BK344.out 0).trans rfl, (blk_cell BK344.out 1).trans rfl, (blk_cell BK344.out 2).trans rfl, (blk_cell BK344.out 3).trans rfl, (blk_cell BK344.out 4).trans rfl⟩ (fun hHeld => ?_)
     clear hK K
     refine nz_ 11 ?_
     refine one_ (i := 6) (N := some 13) ba16_8 rfl rfl (one_of HT_.out (by kernel_rfl)) (by decide) (fun K hK => ?_)
     refine gz_ Try.func63 #[.agg #[.int .i64 a0_0, .int .i64 a0_1, .int .i64 a0_2, .slice A0_3 l0_3.length c0_3, .slice A0_4 l0_4.length c0_4]] ?_
     with_reducible refine (impl_Lsa_sum.calls k a0_0 a0_1 a0_2 _ _ l0_3 _ _ l0_4 t346 _ ?side1 ?side2 ?side3 ?side4 A4.out).mono ?_
     (case side1 => exact cc_ HR0_3 HB)
     (case side2 => exact HC0_3.out)
     (case side3 => exact cc_ HR0_4 HB)
     (case side4 => exact HC0_4.out)
     rintro e w75 ⟨rfl, hb⟩
     refine ⟨_, rfl, ?_⟩
     replace BK343 := Aside0.mk (bb_ BK343 hb)
     replace BK344 := Aside0.mk (bb_ BK344 hb)
     replace HB := Aside0.mk (bt_ HB hb)
     (try clear hb)
     (try clear hb2)
     (try clear hk)
     (try clear hi)
     refine hK.out _ _ ⟨(blk_cell BK343.out 0).trans rfl, (blk_cell BK343.out 1).trans rfl, (blk_cell BK343.out 2).trans rfl, (blk_cell BK343.out 3).trans rfl, (blk_cell BK343.out 4).trans rfl, (blk_cell BK344.out 0).trans rfl, (blk_cell BK344.out 1).trans rfl, (blk_cell BK344.out 2).trans rfl, (blk_cell BK344.out 3).trans rfl, (blk_cell BK344.out 4).trans rfl⟩ (fun hHeld => ?_)
     clear hK K
     refine nz_ 13 ?_
     refine one_ (i := 8) (N := some 15) ba16_9 rfl rfl (one_of HT_.out (by kernel_rfl)) (by decide) (fun K hK => ?_)
     refine gz_ Try.func63 #[.agg #[.int .i64 a1_0, .int .i64 a1_1, .int .i64 a1_2, .slice A1_3 l1_3.length c1_3, .slice A1_4 l1_4.length c1_4]] ?_
     with_reducible refine (impl_Lsa_sum.calls k a1_0 a1_1 a1_2 _ _ l1_3 _ _ l1_4 t347 _ ?side1 ?side2 ?side3 ?side4 A5.out).mono ?_
     (case side1 => exact cb_ HR1_3 HB)
     (case side2 => exact HC1_3.out)
     (case side3 => exact cb_ HR1_4 HB)
     (case side4 => exact HC1_4.out)
     rintro e w76 ⟨rfl, hb⟩
     refine ⟨_, rfl, ?_⟩
     replace BK343 := Aside0.mk (bb_ BK343 hb)
     replace BK344 := Aside0.mk (bb_ BK344 hb)
     replace HB := Aside0.mk (bt_ HB hb)
     (try clear hb)
     (try clear hb2)
     (try clear hk)
     (try clear hi)
     refine hK.out _ _ ⟨(blk_cell BK343.out 0).trans rfl, (blk_cell BK343.out 1).trans rfl, (blk_cell BK343.out 2).trans rfl, (blk_cell BK343.out 3).trans rfl, (blk_cell BK343.out 4).trans rfl, (blk_cell BK344.out 0).trans rfl, (blk_cell BK344.out 1).trans rfl, (blk_cell BK344.out 2).trans rfl, (blk_cell BK344.out 3).trans rfl, (blk_cell BK344.out 4).trans rfl⟩ (fun hHeld => ?_)
     clear hK K
     refine nz_ 15 ?_
     refine one_ (i := 9) (N := some 16) ba16_10 rfl rfl (one_of HT_.out (by kernel_rfl)) (by decide) (fun K hK => ?_)
     refine gz_ Try.func90 #[.int .i64 t346, .int .i64 t347] ?_
     with_reducible refine (cmp_Compare_int.calls t346 t347 t348 _ A6.out).mono ?_
     rintro e w' ⟨rfl, ⟨nd, rfl⟩⟩
     refine ⟨_, rfl, ?_⟩
     refine hK.out _ _ ⟨(blk_cell BK343.out 0).trans rfl, (blk_cell BK343.out 1).trans rfl, (blk_cell BK343.out 2).trans rfl, (blk_cell BK343.out 3).trans rfl, (blk_cell BK343.out 4).trans rfl, (blk_cell BK344.out 0).trans rfl, (blk_cell BK344.out 1).trans rfl, (blk_cell BK344.out 2).trans rfl, (blk_cell BK344.out 3).trans rfl, (blk_cell BK344.out 4).trans rfl⟩ (fun hHeld => ?_)
     clear hK K
     refine nz_ 16 ?_
     refine one_ (i := 10) (N := some 17) ba16_11 rfl rfl (one_of HT_.out (by kernel_rfl)) (by decide) (fun K hK => ?_)
     refine Kd.R_lit_step (Kd.int .i64) _ 3 ?hg (N := 17) ?hd (xs := ([t345, t348] : List Int)) (inner := [.int .i64 t345, .int .i64 t348]) (ok := fun _ => True) (okp := fun _ => True) ?hr ?hp (fun _ hk => hk) trivial (Below.refl _ _) (Nat.le_refl _) (by simp) ?_; (case hd => rfl); (case hg => rfl); (case hr => first | (go_simp; done) | (go_simp; rfl)); (case hp => exact (Reps.one (show Kd.M (Kd.int .i64) _ _ _ t345 [.int .i64 t345] from rfl) (Reps.one (show Kd.M (Kd.int .i64) _ _ _ t348 [.int .i64 t348] from rfl) (Reps.none _ _))))
     intro v350 w77 ho78 hb hg_ hnew_
     clear hg_ hnew_
     (first | rw [← Ny349.out] at ho78 | (simp only [Int.reduceToNat] at ho78; rw [← Ny349.out] at ho78))
     have HO351 := Aside0.mk (Kd.R_lower ho78 (bz_ HB))
     replace BK343 := Aside0.mk (bb_ BK343 hb)
     replace BK344 := Aside0.mk (bb_ BK344 hb)
     replace HB := Aside0.mk (bt_ HB hb)
     clear hb ho78
     obtain ⟨Ao79, co79, eo79⟩ := Kd.R_slice HO351.out
     (first | subst eo79 | (injection eo79 with f1_ f2_ f3_; have f4_ := f1_.symm; have f5_ := f3_.symm; clear f1_ f2_ f3_; subst f4_; subst f5_))
     refine hK.out _ _ ⟨(blk_cell BK343.out 0).trans rfl, (blk_cell BK343.out 1).trans rfl, (blk_cell BK343.out 2).trans rfl, (blk_cell BK343.out 3).trans rfl, (blk_cell BK343.out 4).trans rfl, (blk_cell BK344.out 0).trans rfl, (blk_cell BK344.out 1).trans rfl, (blk_cell BK344.out 2).trans rfl, (blk_cell BK344.out 3).trans rfl, (blk_cell BK344.out 4).trans rfl⟩ (fun hHeld => ?_)
     clear hK K
     refine nz_ 17 ?_
     refine one_ (i := 11) (N := some 18) ba16_12 rfl rfl (one_of HT_.out (by kernel_rfl)) (by decide) (fun K hK => ?_)
     refine gz_ Try.func89 #[.slice Ao79 y349.length co79] ?_
     with_reducible refine (cmp_Or_int.calls k _ _ y349 t352 _ ?side1 ?side2 A7.out).mono ?_
     (case side1 => exact rc_ HO351)
     (case side2 => exact (Kd.R_reads' HO351.out).2.1)
     rintro e w' ⟨rfl, ⟨nd, rfl⟩⟩
     refine ⟨_, rfl, ?_⟩
     refine hK.out _ _ ⟨(blk_cell BK343.out 0).trans rfl, (blk_cell BK343.out 1).trans rfl, (blk_cell BK343.out 2).trans rfl, (blk_cell BK343.out 3).trans rfl, (blk_cell BK343.out 4).trans rfl, (blk_cell BK344.out 0).trans rfl, (blk_cell BK344.out 1).trans rfl, (blk_cell BK344.out 2).trans rfl, (blk_cell BK344.out 3).trans rfl, (blk_cell BK344.out 4).trans rfl⟩ (fun hHeld => ?_)
     clear hK K
     refine nz_ 18 ?_
     refine pz_ 12 5 ba16_13 HT_ ?_
     refine done_ (done_of HT_.out (by kernel_rfl)) ?_
     try go_wp2
     (try (rw [drewN_self w77]; generalize hq_ : World.drewN w77 _ = w77; replace HO351 : Aside0 (Kd.R (Kd.int .i64) 3 w77 w.heap.size (fun _ => True) (.slice Ao79 y349.length co79) y349) := ⟨by rw [← hq_]; exact (hd_ HO351)⟩; replace BK343 : Aside0 (w77.heap[gb343]? = some (.cells #[.int .i64 a0_0, .int .i64 a0_1, .int .i64 a0_2, .slice A0_3 l0_3.length c0_3, .slice A0_4 l0_4.length c0_4] 31 (0, 0))) := ⟨by rw [← hq_]; exact (by (with_reducible repeat (first | refine blk_drewN ?_ _ | refine blk_drew ?_ | refine blk_alloc ?_ _)); exact BK343.out)⟩; replace BK344 : Aside0 (w77.heap[gb344]? = some (.cells #[.int .i64 a1_0, .int .i64 a1_1, .int .i64 a1_2, .slice A1_3 l1_3.length c1_3, .slice A1_4 l1_4.length c1_4] 31 (0, 0))) := ⟨by rw [← hq_]; exact (by (with_reducible repeat (first | refine blk_drewN ?_ _ | refine blk_drew ?_ | refine blk_alloc ?_ _)); exact BK344.out)⟩; replace HB : Aside0 (Below w.heap.size w w77) := ⟨by rw [← hq_]; exact (by repeat (first | (with_reducible first | exact HB.out | apply below_alloc | apply pw_below_drewN | apply below_drew1 | refine below_set ?_ GE343.out | refine below_set ?_ GE344.out) | exact HB.out))⟩; clear hq_))
     replace HO351 := Aside0.mk (Kd.R_drew HO351.out)
     replace BK343 := Aside0.mk (blk_drew BK343.out)
     replace BK344 := Aside0.mk (blk_drew BK344.out)
     replace HB := Aside0.mk (below_drew1 HB.out)
     refine start_ (n := 8) (S := fun w' => w'.cell? ⟨gb343, 0, none⟩ = some (.int .i64 a0_0) ∧ w'.cell? ⟨gb343, 1, none⟩ = some (.int .i64 a0_1) ∧ w'.cell? ⟨gb343, 2, none⟩ = some (.int .i64 a0_2) ∧ w'.cell? ⟨gb343, 3, none⟩ = some (.slice A0_3 l0_3.length c0_3) ∧ w'.cell? ⟨gb343, 4, none⟩ = some (.slice A0_4 l0_4.length c0_4) ∧ w'.cell? ⟨gb344, 0, none⟩ = some (.int .i64 a1_0) ∧ w'.cell? ⟨gb344, 1, none⟩ = some (.int .i64 a1_1) ∧ w'.cell? ⟨gb344, 2, none⟩ = some (.int .i64 a1_2) ∧ w'.cell? ⟨gb344, 3, none⟩ = some (.slice A1_3 l1_3.length c1_3) ∧ w'.cell? ⟨gb344, 4, none⟩ = some (.slice A1_4 l1_4.length c1_4)) (ds := []) ba16_14 (by kernel_rfl) rfl rfl ⟨(blk_cell BK343.out 0).trans rfl, (blk_cell BK343.out 1).trans rfl, (blk_cell BK343.out 2).trans rfl, (blk_cell BK343.out 3).trans rfl, (blk_cell BK343.out 4).trans rfl, (blk_cell BK344.out 0).trans rfl, (blk_cell BK344.out 1).trans rfl, (blk_cell BK344.out 2).trans rfl, (blk_cell BK344.out 3).trans rfl, (blk_cell BK344.out 4).trans rfl⟩ (fun hHeld => ?_); refine with_tabW impl_newer.tab5 impl_newer.bits5 (fun HT_ HW_ => ?_)
     generalize w77.drew = w80 at HO351 BK343 BK344 HB hHeld ⊢
     refine pz_ 0 23 ba16_15 HT_ ?_
     refine pz_ 3 26 ba16_16 HT_ ?_
     refine pt_ 1 24 ba16_17 HT_ HW_ hHeld ?_
     refine pt_ 4 27 ba16_18 HT_ HW_ hHeld ?_
     refine one_ (i := 2) (N := some 25) ba16_19 rfl rfl (one_of HT_.out (by kernel_rfl)) (by decide) (fun K hK => ?_)
     refine goesU_ Try.func91 (by kernel_rfl) rfl #[.agg #[.int .i64 a0_0, .int .i64 a0_1, .int .i64 a0_2, .slice A0_3 l0_3.length c0_3, .slice A0_4 l0_4.length c0_4]] (by rfl) rfl rfl (by (try simp only [List.map_toArray, List.map_cons, List.map_nil]); first | done | rfl | (simp only [List.length_drop, List.length_take]; rfl)) ?_
     with_reducible refine (impl_newer_1.calls a0_0 a0_1 a0_2 _ _ l0_3 _ _ l0_4 t353 _ ?side1 ?side2 ?side3 ?side4 A9.out).mono ?_
     (case side1 => exact cb_ HR0_3 HB)
     (case side2 => exact HC0_3.out)
     (case side3 => exact cb_ HR0_4 HB)
     (case side4 => exact HC0_4.out)
     rintro e w81 ⟨rfl, hb⟩
     refine ⟨_, rfl, ?_⟩
     replace HO351 := rb_ HO351 hb
     replace BK343 := Aside0.mk (bb_ BK343 hb)
     replace BK344 := Aside0.mk (bb_ BK344 hb)
     replace HB := Aside0.mk (bt_ HB hb)
     (try clear hb)
     (try clear hb2)
     (try clear hk)
     (try clear hi)
     refine hK.out _ _ ⟨(blk_cell BK343.out 0).trans rfl, (blk_cell BK343.out 1).trans rfl, (blk_cell BK343.out 2).trans rfl, (blk_cell BK343.out 3).trans rfl, (blk_cell BK343.out 4).trans rfl, (blk_cell BK344.out 0).trans rfl, (blk_cell BK344.out 1).trans rfl, (blk_cell BK344.out 2).trans rfl, (blk_cell BK344.out 3).trans rfl, (blk_cell BK344.out 4).trans rfl⟩ (fun hHeld => ?_)
     clear hK K
     refine nz_ 25 ?_
     refine one_ (i := 5) (N := some 28) ba16_20 rfl rfl (one_of HT_.out (by kernel_rfl)) (by decide) (fun K hK => ?_)
     refine goesU_ Try.func91 (by kernel_rfl) rfl #[.agg #[.int .i64 a1_0, .int .i64 a1_1, .int .i64 a1_2, .slice A1_3 l1_3.length c1_3, .slice A1_4 l1_4.length c1_4]] (by rfl) rfl rfl (by (try simp only [List.map_toArray, List.map_cons, List.map_nil]); first | done | rfl | (simp only [List.length_drop, List.length_take]; rfl)) ?_
     with_reducible refine (impl_newer_1.calls a1_0 a1_1 a1_2 _ _ l1_3 _ _ l1_4 t354 _ ?side1 ?side2 ?side3 ?side4 A10.out).mono ?_
     (case side1 => exact cb_ HR1_3 HB)
     (case side2 => exact HC1_3.out)
     (case side3 => exact cb_ HR1_4 HB)
     (case side4 => exact HC1_4.out)
     rintro e w82 ⟨rfl, hb⟩
     refine ⟨_, rfl, ?_⟩
     replace HO351 := rb_ HO351 hb
     replace BK343 := Aside0.mk (bb_ BK343 hb)
     replace BK344 := Aside0.mk (bb_ BK344 hb)
     replace HB := Aside0.mk (bt_ HB hb)
     (try clear hb)
     (try clear hb2)
     (try clear hk)
     (try clear hi)
     refine hK.out _ _ ⟨(blk_cell BK343.out 0).trans rfl, (blk_cell BK343.out 1).trans rfl, (blk_cell BK343.out 2).trans rfl, (blk_cell BK343.out 3).trans rfl, (blk_cell BK343.out 4).trans rfl, (blk_cell BK344.out 0).trans rfl, (blk_cell BK344.out 1).trans rfl, (blk_cell BK344.out 2).trans rfl, (blk_cell BK344.out 3).trans rfl, (blk_cell BK344.out 4).trans rfl⟩ (fun hHeld => ?_)
     clear hK K
     refine nz_ 28 ?_
     refine pz_ 6 29 ba16_21 HT_ ?_
     refine pz_ 7 22 ba16_22 HT_ ?_
     refine done_ (done_of HT_.out (by kernel_rfl)) ?_
     have hnb83 := NB343_344.out
     have hnc83 := NB344_343.out
     have hcz84_0 := cz_ BK343 0 (.int .i64 a0_0)
     have hcz84_1 := cz_ BK343 1 (.int .i64 a0_1)
     have hcz84_2 := cz_ BK343 2 (.int .i64 a0_2)
     have hcz84_3 := cz_ BK343 3 (.slice A0_3 l0_3.length c0_3)
     have hcz84_4 := cz_ BK343 4 (.slice A0_4 l0_4.length c0_4)
     have hfz84_0 := blk_frozen BK343.out 0
     have hfz84_1 := blk_frozen BK343.out 1
     have hfz84_2 := blk_frozen BK343.out 2
     have hfz84_3 := blk_frozen BK343.out 3
     have hfz84_4 := blk_frozen BK343.out 4
     have hcz85_0 := cz_ BK344 0 (.int .i64 a1_0)
     have hcz85_1 := cz_ BK344 1 (.int .i64 a1_1)
     have hcz85_2 := cz_ BK344 2 (.int .i64 a1_2)
     have hcz85_3 := cz_ BK344 3 (.slice A1_3 l1_3.length c1_3)
     have hcz85_4 := cz_ BK344 4 (.slice A1_4 l1_4.length c1_4)
     have hfz85_0 := blk_frozen BK344.out 0
     have hfz85_1 := blk_frozen BK344.out 1
     have hfz85_2 := blk_frozen BK344.out 2
     have hfz85_3 := blk_frozen BK344.out 3
     have hfz85_4 := blk_frozen BK344.out 4
     try go_wp2
     go_ret
     exact ⟨by first | rfl | (simp [errW_none, errW_some] <;> rfl) | (simp [*, errW_none, errW_some] <;> rfl), by repeat (first | (with_reducible first | exact HB.out | apply below_alloc | apply pw_below_drewN | apply below_drew1 | refine below_set ?_ GE343.out | refine below_set ?_ GE344.out) | exact HB.out)⟩
 ·rw [if_neg c8] at H
  have c8b0 : (t352 == 0) = false := beq_eq_false_iff_ne.mpr c8
  have c8b1 : (t352 != 0) = true := bne_iff_ne.mpr c8
  obtain rfl := Option.some.inj H
  go_enter Try.func80, Try.ntmps80
  try go_wp2_with (first | ((with_reducible refine gate_dst (N := 2) rfl ?_); refine box_event ?hg (N := 2) ?hd (cs := #[.int .i64 a0_0, .int .i64 a0_1, .int .i64 a0_2, .slice A0_3 l0_3.length c0_3, .slice A0_4 l0_4.length c0_4]) (t := 31) ?hr ?_; (case hd => rfl); (case hg => rfl); (case hr => first | (go_simp; done) | (go_simp; rfl)); intro gb343 hg w86 hbox hb; have BK343 := Aside0.mk hbox; have GW343 := ge_ HB hg; have GE343 := ge_ HB hg; replace HB := Aside0.mk (bt_ HB hb); clear hb hbox hg) | ((with_reducible refine gate_dst (N := 3) rfl ?_); refine box_event ?hg (N := 3) ?hd (cs := #[.int .i64 a1_0, .int .i64 a1_1, .int .i64 a1_2, .slice A1_3 l1_3.length c1_3, .slice A1_4 l1_4.length c1_4]) (t := 31) ?hr ?_; (case hd => rfl); (case hg => rfl); (case hr => first | (go_simp; done) | (go_simp; rfl)); intro gb344 hg w87 hbox hb; have BK344 := Aside0.mk hbox; have GW344 := ge_ HB hg; have GE344 := ge_ HB hg; have NB343_344 := nl_ BK343 hg; have NB344_343 := ng_ BK343 hg; replace HB := Aside0.mk (bt_ HB hb); replace BK343 := Aside0.mk (bb_ BK343 hb); clear hb hbox hg))
  replace BK343 := Aside0.mk (blk_drew BK343.out)
  replace BK344 := Aside0.mk (blk_drew BK344.out)
  replace HB := Aside0.mk (below_drew1 HB.out)
  refine start_ (n := 13) (S := fun w' => w'.cell? ⟨gb343, 0, none⟩ = some (.int .i64 a0_0) ∧ w'.cell? ⟨gb343, 1, none⟩ = some (.int .i64 a0_1) ∧ w'.cell? ⟨gb343, 2, none⟩ = some (.int .i64 a0_2) ∧ w'.cell? ⟨gb343, 3, none⟩ = some (.slice A0_3 l0_3.length c0_3) ∧ w'.cell? ⟨gb343, 4, none⟩ = some (.slice A0_4 l0_4.length c0_4) ∧ w'.cell? ⟨gb344, 0, none⟩ = some (.int .i64 a1_0) ∧ w'.cell? ⟨gb344, 1, none⟩ = some (.int .i64 a1_1) ∧ w'.cell? ⟨gb344, 2, none⟩ = some (.int .i64 a1_2) ∧ w'.cell? ⟨gb344, 3, none⟩ = some (.slice A1_3 l1_3.length c1_3) ∧ w'.cell? ⟨gb344, 4, none⟩ = some (.slice A1_4 l1_4.length c1_4)) (ds := []) ba16_0 (by kernel_rfl) rfl rfl ⟨(blk_cell BK343.out 0).trans rfl, (blk_cell BK343.out 1).trans rfl, (blk_cell BK343.out 2).trans rfl, (blk_cell BK343.out 3).trans rfl, (blk_cell BK343.out 4).trans rfl, (blk_cell BK344.out 0).trans rfl, (blk_cell BK344.out 1).trans rfl, (blk_cell BK344.out 2).trans rfl, (blk_cell BK344.out 3).trans rfl, (blk_cell BK344.out 4).trans rfl⟩ (fun hHeld => ?_); refine with_tabW impl_newer.tab1 impl_newer.bits1 (fun HT_ HW_ => ?_)
  generalize w87.drew = w88 at BK343 BK344 HB hHeld ⊢
  refine pz_ 0 7 ba16_1 HT_ ?_
  refine pz_ 2 9 ba16_2 HT_ ?_
  refine pt_ 1 8 ba16_3 HT_ HW_ hHeld ?_
  refine pt_ 3 10 ba16_4 HT_ HW_ hHeld ?_
  refine pt_ 5 12 ba16_5 HT_ HW_ hHeld ?_
  refine pt_ 7 14 ba16_6 HT_ HW_ hHeld ?_
  refine one_ (i := 4) (N := some 11) ba16_7 rfl rfl (one_of HT_.out (by kernel_rfl)) (by decide) (fun K hK => ?_)
  refine gz_ Try.func90 #[.int .i64 a0_1, .int .i64 a1_1] ?_
  with_reducible refine (cmp_Compare_int.calls a0_1 a1_1 t345 _ A3.out).mono ?_
  rintro e w' ⟨rfl, ⟨nd, rfl⟩⟩
  refine ⟨_, rfl, ?_⟩
  refine hK.out _ _ ⟨(blk_cell BK343.out 0).trans rfl, (blk_cell BK343.out 1).trans rfl, (blk_cell BK343.out 2).trans rfl, (blk_cell BK343.out 3).trans rfl, (blk_cell BK343.out 4).trans rfl, (blk_cell BK344.out 0).trans rfl, (blk_cell BK344.out 1).trans rfl, (blk_cell BK344.out 2).trans rfl, (blk_cell BK344.out 3).trans rfl, (blk_cell BK344.out 4).trans rfl⟩ (fun hHeld => ?_)
  clear hK K
  refine nz_ 11 ?_
  refine one_ (i := 6) (N := some 13) ba16_8 rfl rfl (one_of HT_.out (by kernel_rfl)) (by decide) (fun K hK => ?_)
  refine gz_ Try.func63 #[.agg #[.int .i64 a0_0, .int .i64 a0_1, .int .i64 a0_2, .slice A0_3 l0_3.length c0_3, .slice A0_4 l0_4.length c0_4]] ?_
  with_reducible refine (impl_Lsa_sum.calls k a0_0 a0_1 a0_2 _ _ l0_3 _ _ l0_4 t346 _ ?side1 ?side2 ?side3 ?side4 A4.out).mono ?_
  (case side1 => exact cc_ HR0_3 HB)
  (case side2 => exact HC0_3.out)
  (case side3 => exact cc_ HR0_4 HB)
  (case side4 => exact HC0_4.out)
  rintro e w89 ⟨rfl, hb⟩
  refine ⟨_, rfl, ?_⟩
  replace BK343 := Aside0.mk (bb_ BK343 hb)
  replace BK344 := Aside0.mk (bb_ BK344 hb)
  replace HB := Aside0.mk (bt_ HB hb)
  (try clear hb)
  (try clear hb2)
  (try clear hk)
  (try clear hi)
  refine hK.out _ _ ⟨(blk_cell BK343.out 0).trans rfl, (blk_cell BK343.out 1).trans rfl, (blk_cell BK343.out 2).trans rfl, (blk_cell BK343.out 3).trans rfl, (blk_cell BK343.out 4).trans rfl, (blk_cell BK344.out 0).trans rfl, (blk_cell BK344.out 1).trans rfl, (blk_cell BK344.out 2).trans rfl, (blk_cell BK344.out 3).trans rfl, (blk_cell BK344.out 4).trans rfl⟩ (fun hHeld => ?_)
  clear hK K
  refine nz_ 13 ?_
  refine one_ (i := 8) (N := some 15) ba16_9 rfl rfl (one_of HT_.out (by kernel_rfl)) (by decide) (fun K hK => ?_)
  refine gz_ Try.func63 #[.agg #[.int .i64 a1_0, .int .i64 a1_1, .int .i64 a1_2, .slice A1_3 l1_3.length c1_3, .slice A1_4 l1_4.length c1_4]] ?_
  with_reducible refine (impl_Lsa_sum.calls k a1_0 a1_1 a1_2 _ _ l1_3 _ _ l1_4 t347 _ ?side1 ?side2 ?side3 ?side4 A5.out).mono ?_
  (case side1 => exact cb_ HR1_3 HB)
  (case side2 => exact HC1_3.out)
  (case side3 => exact cb_ HR1_4 HB)
  (case side4 => exact HC1_4.out)
  rintro e w90 ⟨rfl, hb⟩
  refine ⟨_, rfl, ?_⟩
  replace BK343 := Aside0.mk (bb_ BK343 hb)
  replace BK344 := Aside0.mk (bb_ BK344 hb)
  replace HB := Aside0.mk (bt_ HB hb)
  (try clear hb)
  (try clear hb2)
  (try clear hk)
  (try clear hi)
  refine hK.out _ _ ⟨(blk_cell BK343.out 0).trans rfl, (blk_cell BK343.out 1).trans rfl, (blk_cell BK343.out 2).trans rfl, (blk_cell BK343.out 3).trans rfl, (blk_cell BK343.out 4).trans rfl, (blk_cell BK344.out 0).trans rfl, (blk_cell BK344.out 1).trans rfl, (blk_cell BK344.out 2).trans rfl, (blk_cell BK344.out 3).trans rfl, (blk_cell BK344.out 4).trans rfl⟩ (fun hHeld => ?_)
  clear hK K
  refine nz_ 15 ?_
  refine one_ (i := 9) (N := some 16) ba16_10 rfl rfl (one_of HT_.out (by kernel_rfl)) (by decide) (fun K hK => ?_)
  refine gz_ Try.func90 #[.int .i64 t346, .int .i64 t347] ?_
  with_reducible refine (cmp_Compare_int.calls t346 t347 t348 _ A6.out).mono ?_
  rintro e w' ⟨rfl, ⟨nd, rfl⟩⟩
  refine ⟨_, rfl, ?_⟩
  refine hK.out _ _ ⟨(blk_cell BK343.out 0).trans rfl, (blk_cell BK343.out 1).trans rfl, (blk_cell BK343.out 2).trans rfl, (blk_cell BK343.out 3).trans rfl, (blk_cell BK343.out 4).trans rfl, (blk_cell BK344.out 0).trans rfl, (blk_cell BK344.out 1).trans rfl, (blk_cell BK344.out 2).trans rfl, (blk_cell BK344.out 3).trans rfl, (blk_cell BK344.out 4).trans rfl⟩ (fun hHeld => ?_)
  clear hK K
  refine nz_ 16 ?_
  refine one_ (i := 10) (N := some 17) ba16_11 rfl rfl (one_of HT_.out (by kernel_rfl)) (by decide) (fun K hK => ?_)
  refine Kd.R_lit_step (Kd.int .i64) _ 3 ?hg (N := 17) ?hd (xs := ([t345, t348] : List Int)) (inner := [.int .i64 t345, .int .i64 t348]) (ok := fun _ => True) (okp := fun _ => True) ?hr ?hp (fun _ hk => hk) trivial (Below.refl _ _) (Nat.le_refl _) (by simp) ?_; (case hd => rfl); (case hg => rfl); (case hr => first | (go_simp; done) | (go_simp; rfl)); (case hp => exact (Reps.one (show Kd.M (Kd.int .i64) _ _ _ t345 [.int .i64 t345] from rfl) (Reps.one (show Kd.M (Kd.int .i64) _ _ _ t348 [.int .i64 t348] from rfl) (Reps.none _ _))))
  intro v350 w91 ho92 hb hg_ hnew_
  clear hg_ hnew_
  (first | rw [← Ny349.out] at ho92 | (simp only [Int.reduceToNat] at ho92; rw [← Ny349.out] at ho92))
  have HO351 := Aside0.mk (Kd.R_lower ho92 (bz_ HB))
  replace BK343 := Aside0.mk (bb_ BK343 hb)
  replace BK344 := Aside0.mk (bb_ BK344 hb)
  replace HB := Aside0.mk (bt_ HB hb)
  clear hb ho92
  obtain ⟨Ao93, co93, eo93⟩ := Kd.R_slice HO351.out
  (first | subst eo93 | (injection eo93 with f1_ f2_ f3_; have f4_ := f1_.symm; have f5_ := f3_.symm; clear f1_ f2_ f3_; subst f4_; subst f5_))
  refine hK.out _ _ ⟨(blk_cell BK343.out 0).trans rfl, (blk_cell BK343.out 1).trans rfl, (blk_cell BK343.out 2).trans rfl, (blk_cell BK343.out 3).trans rfl, (blk_cell BK343.out 4).trans rfl, (blk_cell BK344.out 0).trans rfl, (blk_cell BK344.out 1).trans rfl, (blk_cell BK344.out 2).trans rfl, (blk_cell BK344.out 3).trans rfl, (blk_cell BK344.out 4).trans rfl⟩ (fun hHeld => ?_)
  clear hK K
  refine nz_ 17 ?_
  refine one_ (i := 11) (N := some 18) ba16_12 rfl rfl (one_of HT_.out (by kernel_rfl)) (by decide) (fun K hK => ?_)
  refine gz_ Try.func89 #[.slice Ao93 y349.length co93] ?_
  with_reducible refine (cmp_Or_int.calls k _ _ y349 t352 _ ?side1 ?side2 A7.out).mono ?_
  (case side1 => exact rc_ HO351)
  (case side2 => exact (Kd.R_reads' HO351.out).2.1)
  rintro e w' ⟨rfl, ⟨nd, rfl⟩⟩
  refine ⟨_, rfl, ?_⟩
  refine hK.out _ _ ⟨(blk_cell BK343.out 0).trans rfl, (blk_cell BK343.out 1).trans rfl, (blk_cell BK343.out 2).trans rfl, (blk_cell BK343.out 3).trans rfl, (blk_cell BK343.out 4).trans rfl, (blk_cell BK344.out 0).trans rfl, (blk_cell BK344.out 1).trans rfl, (blk_cell BK344.out 2).trans rfl, (blk_cell BK344.out 3).trans rfl, (blk_cell BK344.out 4).trans rfl⟩ (fun hHeld => ?_)
  clear hK K
  refine nz_ 18 ?_
  refine pz_ 12 5 ba16_13 HT_ ?_
  refine done_ (done_of HT_.out (by kernel_rfl)) ?_
  try go_wp2
  go_ret
  exact ⟨by first | rfl | (simp [errW_none, errW_some] <;> rfl) | (simp [*, errW_none, errW_some] <;> rfl), by repeat (first | (with_reducible first | exact HB.out | apply below_alloc | apply pw_below_drewN | apply below_drew1 | refine below_set ?_ GE343.out | refine below_set ?_ GE344.out) | exact HB.out)⟩

end Go.Proofs.Ytiikcfaodkiakaa.QFnExactNewer
