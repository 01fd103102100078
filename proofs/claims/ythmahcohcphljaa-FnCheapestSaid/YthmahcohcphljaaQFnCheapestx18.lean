/- Contracts of functions that the law reaches: what each call returns and what it leaves in memory. Made by this session over the print of the kit. -/
import Derived.Test.YthmahcohcphljaaQFnCheapestx0
import Derived.Test.YthmahcohcphljaaQFnCheapestx7
import Derived.Test.YthmahcohcphljaaQFnCheapestx17
namespace Go.Proofs.Ythmahcohcphljaa.QFnCheapest
open Go.RowKit Go.Proofs.YthmahcohcphljaaC.PrintWords Go.Proofs.YthmahcohcphljaaC.PrintLast Go.Proofs.YthmahcohcphljaaC.PrintMore
attribute [local go_sem] max2_int min2_int max_two min_two max_three min_three max_four min_four
set_option linter.unusedVariables false
set_option linter.unusedSimpArgs false
def ba18_0 := bs_ 17 0
def ba18_1 := bs_ 17 1
def ba18_2 := bs_ 17 3
def ba18_3 := bs_ 17 7
def ba18_4 := bs_ 17 15
def ba18_5 := bs_ 17 31
def ba18_6 := bs_ 17 63
def ba18_7 := bs_ 17 127
def ba18_8 := bs_ 17 255
def ba18_9 := bs_ 17 767
def ba18_10 := bs_ 17 1791
def ba18_11 := bs_ 17 3839
def ba18_12 := bs_ 17 7935
def ba18_13 := bs_ 17 8191
def ba18_14 := bs_ 17 16383
def ba18_15 := bs_ 17 32767
def ba18_16 := bs_ 17 65535
def ba18_17 := bs_ 17 131071
def ba18_18 := bs_ 18 0
def ba18_19 := bs_ 18 1
def ba18_20 := bs_ 18 3
def ba18_21 := bs_ 18 7
def ba18_22 := bs_ 18 15
def ba18_23 := bs_ 18 31
def ba18_24 := bs_ 18 63
def ba18_25 := bs_ 18 127
def ba18_26 := bs_ 18 255
def ba18_27 := bs_ 18 511
def ba18_28 := bs_ 18 1535
def ba18_29 := bs_ 18 3583
def ba18_30 := bs_ 18 7679
def ba18_31 := bs_ 18 8191
def ba18_32 := bs_ 18 16383
def ba18_33 := bs_ 18 32767
def ba18_34 := bs_ 18 65535
def ba18_35 := bs_ 18 131071
def ba18_36 := bs_ 18 262143
def ba18_37 := bs_ 17 511
def ba18_38 := bs_ 17 1023
def ba18_39 := bs_ 17 2047
def ba18_40 := bs_ 17 4095
mutual
def slices_insertionSortCmpFunc_int.l0 : Nat → List Int → Int → Int → Int → List (List Int) → Option (List Int)
 | 0, _, _, _, _, _ => none
 | k + 1, x0, x1, x2, x8, x930 => if x8 < x2 then (slices_insertionSortCmpFunc_int.l1 k x0 x1 x2 x8 x8 x930) else (some x0)
def slices_insertionSortCmpFunc_int.l1 : Nat → List Int → Int → Int → Int → Int → List (List Int) → Option (List Int)
 | 0, _, _, _, _, _, _ => none
 | k + 1, x0, x1, x2, x8, x9, x930 => if x9 > x1 then (if 0 ≤ x9 then (if x9 < (x0.length : Int) then (if 0 ≤ (wrap64 (x9 - 1)) then (if (wrap64 (x9 - 1)) < (x0.length : Int) then ((impl_CountWays_1.f (rd x0 x9) (rd x0 (wrap64 (x9 - 1))) x930).bind fun t549 => (if t549 < 0 then (slices_insertionSortCmpFunc_int.l1 k ((x0.set (x9 : Int).toNat (rd x0 (wrap64 (x9 - 1)))).set ((wrap64 (x9 - 1)) : Int).toNat (rd x0 x9)) x1 x2 x8 (wrap64 (x9 - 1)) x930) else (slices_insertionSortCmpFunc_int.l0 k x0 x1 x2 (wrap64 (x8 + 1)) x930))) else (none)) else (none)) else (none)) else (none)) else (slices_insertionSortCmpFunc_int.l0 k x0 x1 x2 (wrap64 (x8 + 1)) x930)
end
def slices_insertionSortCmpFunc_int.f (k : Nat) (l0 : List Int) (a1 : Int) (a2 : Int) (l3_0 : List (List Int)) : Option (List Int) := slices_insertionSortCmpFunc_int.l0 k l0 a1 a2 (wrap64 (a1 + 1)) l3_0
def slices_insertionSortCmpFunc_int.T4 : Bool × List (List Nat × List Nat) := (true, [([], []), ([], []), ([0, 1], [0, 1]), ([2], [2]), ([3], [3]), ([3], [3]), ([3], [3]), ([5, 6, 3], [3, 5, 6]), ([7, 3], [3, 7]), ([3], [3]), ([3], [3]), ([10, 3], [3, 10]), ([9, 11, 3], [3, 9, 11]), ([12, 3], [3, 12]), ([4, 8, 13, 3, 3], [3, 4, 8, 13]), ([14, 3], [3, 14]), ([3, 15], [3, 15])])
def slices_insertionSortCmpFunc_int.B4 : List Nat := [0, 0, 3, 7, 15, 15, 15, 111, 239, 15, 15, 1039, 3599, 7695, 16383, 32767, 65535]
theorem slices_insertionSortCmpFunc_int.tab4 : rtab .any (opsOf Try.f88 4) = slices_insertionSortCmpFunc_int.T4 := by kernel_rfl
theorem slices_insertionSortCmpFunc_int.bits4 : waitsOk slices_insertionSortCmpFunc_int.T4.2 slices_insertionSortCmpFunc_int.B4 = true := by kernel_rfl
def slices_insertionSortCmpFunc_int.T6 : Bool × List (List Nat × List Nat) := (true, [([], []), ([], []), ([], []), ([], []), ([3], [3]), ([], []), ([], []), ([6], [6]), ([5, 7], [5, 7]), ([8], [8]), ([], []), ([], []), ([10, 11], [10, 11]), ([12], [12]), ([0, 1, 0, 1, 5, 6, 7, 8, 9, 13], [0, 1]), ([14, 9, 0, 1, 5, 6, 7, 8, 9, 13], [9, 14]), ([2, 4, 0, 1, 2, 3, 4, 5, 6, 7, 8, 9, 10, 11, 12, 13, 14, 15], [2, 4]), ([16, 13, 15, 0, 1, 2, 3, 4, 5, 6, 7, 8, 9, 10, 11, 12, 13, 14, 15], [13, 16])])
def slices_insertionSortCmpFunc_int.B6 : List Nat := [0, 0, 0, 0, 8, 0, 0, 64, 224, 480, 0, 0, 3072, 7168, 16355, 32739, 65535, 131071]
theorem slices_insertionSortCmpFunc_int.tab6 : rtab .any (opsOf Try.f88 6) = slices_insertionSortCmpFunc_int.T6 := by kernel_rfl
theorem slices_insertionSortCmpFunc_int.bits6 : waitsOk slices_insertionSortCmpFunc_int.T6.2 slices_insertionSortCmpFunc_int.B6 = true := by kernel_rfl
set_option maxHeartbeats 8000000 in
set_option maxRecDepth 100000 in
theorem slices_insertionSortCmpFunc_int.calls (k : Nat) (P0_ : Nat → Prop) (u9000_ : Value) (l0 : List Int) (a1 : Int) (a2 : Int) (A3_0 : Option Addr) (l3_0 : List (List Int)) (r : List Int) (w0 w : World) (hB : Below w0.heap.size w0 w) (ho0 : Kd.R (Kd.int .i64) 3 w w0.heap.size P0_ u9000_ l0) (hr3_0 : ∀ W_, Kept w W_ (fun k_ => P0_ k_) → Kd.C (Kd.slice 3 (Kd.int .i64)) W_ A3_0 l3_0.length l3_0) (h : slices_insertionSortCmpFunc_int.f k l0 a1 a2 l3_0 = some r) :
  Calls Try.prog 88 #[u9000_, .int .i64 a1, .int .i64 a2, .func (.func 74) #[] #[.pointer A3_0]] w fun e w' => e = .returned (.tuple #[]) ∧ Kd.R (Kd.int .i64) 3 w' w0.heap.size (fun k_ => (P0_ k_ ∨ w.heap.size ≤ k_)) u9000_ r ∧ Below w0.heap.size w0 w' ∧ Kept w w' (fun k_ => P0_ k_) := by
 have HO0 := Aside0.mk (show Kd.R (Kd.int .i64) 3 w w0.heap.size (fun k_ => (P0_ k_ ∨ w.heap.size ≤ k_)) u9000_ l0 from Kd.R_mono ho0 (fun k_ hk => (.inl hk)))
 have HR3_0 := Aside0.mk hr3_0
 clear hr3_0
 have HK := Aside0.mk (Kept.refl w (fun k_ => P0_ k_))
 have HW0 := Aside0.mk hB.size
 have HB := Aside0.mk hB
 clear hB
 have H : (slices_insertionSortCmpFunc_int.l0 k l0 a1 a2 (wrap64 (a1 + 1)) l3_0) = some r := h
 clear h
 have H' := Aside0.mk H
 clear H
 go_enter Try.func88, Try.ntmps88
 go_wp2
 go_loopg [8] k (fun kq v8 w' => ∃ (x0_1 : List Int) (x8_1 : Int), v8 = .int .i64 x8_1 ∧ Aside0 (slices_insertionSortCmpFunc_int.l0 kq x0_1 a1 a2 x8_1 l3_0 = some r) ∧ Aside0 (kq ≤ k) ∧ Aside0 (Kd.R (Kd.int .i64) 3 w' w0.heap.size (fun k_ => (P0_ k_ ∨ w.heap.size ≤ k_)) u9000_ x0_1) ∧ Aside0 (Kept w w' (fun k_ => P0_ k_)) ∧ Aside0 (Below w0.heap.size w0 w'))
 case atStart => exact ⟨(l0), (wrap64 (a1 + 1)), er_, H', ⟨Nat.le_refl _⟩, ⟨hd_ HO0⟩, ⟨ky_ HK⟩, ⟨bw115_⟩⟩
 clear H'
 obtain ⟨x0_1, x8_1, rfl, HA, HK1, HO_0, HK, HB⟩ := hrel
 cases gk with
 | zero => exact absurd HA.out (by simp [slices_insertionSortCmpFunc_int.l0])
 | succ k1 =>
  have H := HA.out
  clear HA
  simp only [slices_insertionSortCmpFunc_int.l0] at H
  by_cases c5 : x8_1 < a2
  rotate_left
  ·rw [if_neg c5] at H
   have c5b0 : decide (x8_1 < a2) = false := decide_eq_false c5
   clear c5
   obtain rfl := Option.some.inj H
   go_wp2
   first | go_end0 | ((try simp only [Exit.inBlock, Exit.then]); refine bodyPost_ret (results_none rfl _ _ _) rfl ?_)
   exact ⟨ew_, by (with_reducible repeat (first | apply Kd.R_alloc | apply Kd.R_drewN | apply Kd.R_drew)); exact HO_0.out, bw115_, ky_ HK⟩
  rw [if_pos c5] at H
  have c5b0 : decide (x8_1 < a2) = true := decide_eq_true c5
  clear c5
  have H' := Aside0.mk H
  clear H
  go_wp2
  go_loopg [9] k1 (fun kq v9 w' => ∃ (x0_2 : List Int) (x9_2 : Int), v9 = .int .i64 x9_2 ∧ Aside0 (slices_insertionSortCmpFunc_int.l1 kq x0_2 a1 a2 x8_1 x9_2 l3_0 = some r) ∧ Aside0 (kq ≤ k1) ∧ Aside0 (Kd.R (Kd.int .i64) 3 w' w0.heap.size (fun k_ => (P0_ k_ ∨ w.heap.size ≤ k_)) u9000_ x0_2) ∧ Aside0 (Kept w w' (fun k_ => P0_ k_)) ∧ Aside0 (Below w0.heap.size w0 w'))
  case atStart => exact ⟨(x0_1), (x8_1), er_, H', ⟨Nat.le_refl _⟩, ⟨hd_ HO_0⟩, ⟨ky_ HK⟩, ⟨bw115_⟩⟩
  clear H' c5b0
  obtain ⟨x0_2, x9_2, rfl, HA, HK2, HO_0, HK, HB⟩ := hrel
  cases gk with
  | zero => exact absurd HA.out (by simp [slices_insertionSortCmpFunc_int.l1])
  | succ k2 =>
   have H := HA.out
   clear HA
   simp only [slices_insertionSortCmpFunc_int.l1] at H
   by_cases c6 : x9_2 > a1
   rotate_left
   ·rw [if_neg c6] at H
    have c6b0 : decide (a1 < x9_2) = false := decide_eq_false c6
    clear c6
    have H' := Aside0.mk H
    clear H
    go_wp2
    replace HO_0 := rw5_ HO_0
    replace HK := Aside0.mk (Kept.drew HK.out)
    replace HB := Aside0.mk (below_drew1 HB.out)
    refine start_ (n := 17) (S := fun w' => True) (ds := []) ba18_0 (by kernel_rfl) rfl rfl trivial (fun hHeld => ?_); refine with_tabW slices_insertionSortCmpFunc_int.tab4 slices_insertionSortCmpFunc_int.bits4 (fun HT_ HW_ => ?_)
    generalize wr.drew = w23 at HO_0 HK HB hHeld ⊢
    refine pz_ 0 18 ba18_1 HT_ ?_
    refine pz_ 1 19 ba18_2 HT_ ?_
    refine pz_ 2 20 ba18_3 HT_ ?_
    refine pz_ 3 21 ba18_4 HT_ ?_
    refine pu_ 4 22 ba18_5 HT_ ?_
    refine pu_ 5 23 ba18_6 HT_ ?_
    refine pu_ 6 24 ba18_7 HT_ ?_
    refine pu_ 7 25 ba18_8 HT_ ?_
    refine pu_ 8 26 ba18_37 HT_ ?_
    refine pu_ 9 27 ba18_38 HT_ ?_
    refine pu_ 10 28 ba18_39 HT_ ?_
    refine pu_ 11 29 ba18_40 HT_ ?_
    refine pu_ 12 30 ba18_13 HT_ ?_
    refine pu_ 13 31 ba18_14 HT_ ?_
    refine pu_ 14 32 ba18_15 HT_ ?_
    refine pu_ 15 33 ba18_16 HT_ ?_
    refine pz_ 16 34 ba18_17 HT_ ?_
    refine done_ (done_of HT_.out (by kernel_rfl)) ?_
    go_wp2
    go_roundg k2
    case measure => have := HK1.out; have := HK2.out; omega
    case rel => exact ⟨(x0_2), (wrap64 (x8_1 + 1)), er_, H', ⟨by have := HK1.out; have := HK2.out; omega⟩, ⟨hd_ HO_0⟩, ⟨ky_ HK⟩, ⟨bw115_⟩⟩
   rw [if_pos c6] at H
   have c6b0 : decide (a1 < x9_2) = true := decide_eq_true c6
   clear c6
   obtain ⟨c7b0, H⟩ := iq_ H
   obtain ⟨c8b0, H⟩ := iq_ H
   obtain ⟨ji9, hji9⟩ : ∃ j_ : Int, (wrap64 (x9_2 - 1)) = j_ := ⟨_, rfl⟩
   first | rw [hji9] at H | simp only [hji9] at H
   have hji9w : (IntKind.i64.wrap (x9_2 - 1)) = ji9 := (i64_w _).trans hji9
   obtain ⟨c10b0, H⟩ := iq_ H
   obtain ⟨c11b0, H⟩ := iq_ H
   obtain ⟨t549, A12, H⟩ := ob_ H
   have Hh_ := Aside0.mk H
   clear H
   go_wp2
   replace HO_0 := rw5_ HO_0
   replace HK := Aside0.mk (Kept.drew HK.out)
   replace HB := Aside0.mk (below_drew1 HB.out)
   obtain ⟨Ao17, co17, eo17⟩ := Kd.R_slice HO_0.out
   subst eo17
   have p547 : 0 ≤ (x9_2 : Int) := oa_
   have q547 : x9_2 < (x0_2.length : Int) := oa_
   obtain ⟨ad547, e547, hx547_0⟩ := Kd.at_int (Kd.R_reads' HO_0.out).2.2 x9_2 p547 q547
   cases e547
   obtain ⟨p547, q547⟩ := et_ p547 q547
   have p548 : 0 ≤ ((ji9) : Int) := oa_
   have q548 : (ji9) < (x0_2.length : Int) := oa_
   obtain ⟨ad548, e548, hx548_0⟩ := Kd.at_int (Kd.R_reads' HO_0.out).2.2 (ji9) p548 q548
   obtain rfl : ad547 = ad548 := (by injection e548)
   obtain ⟨p548, q548⟩ := et_ p548 q548
   refine start_ (n := 17) (S := fun w' => w'.cell? (ad547.add (x9_2).toNat) = some (.int .i64 (rd x0_2 x9_2)) ∧ w'.cell? (ad547.add ((ji9)).toNat) = some (.int .i64 (rd x0_2 (ji9)))) (ds := []) ba18_0 (by kernel_rfl) rfl rfl ⟨hx547_0, hx548_0⟩ (fun hHeld => ?_); refine with_tabW slices_insertionSortCmpFunc_int.tab4 slices_insertionSortCmpFunc_int.bits4 (fun HT_ HW_ => ?_)
   generalize wr.drew = w16 at HO_0 HK HB hx547_0 hx548_0 hHeld ⊢
   refine pz_ 0 18 ba18_1 HT_ ?_
   refine pz_ 1 19 ba18_2 HT_ ?_
   refine pz_ 2 20 ba18_3 HT_ ?_
   refine pz_ 3 21 ba18_4 HT_ ?_
   refine pz_ 4 22 ba18_5 HT_ ?_
   refine pz_ 5 23 ba18_6 HT_ ?_
   refine pz_ 6 24 ba18_7 HT_ ?_
   refine pz_ 7 25 ba18_8 HT_ ?_
   refine pz_ 9 27 ba18_9 HT_ ?_
   refine pz_ 10 28 ba18_10 HT_ ?_
   refine pz_ 11 29 ba18_11 HT_ ?_
   refine pz_ 12 30 ba18_12 HT_ ?_
   refine pt_ 8 26 ba18_13 HT_ HW_ hHeld ?_
   refine pt_ 13 31 ba18_14 HT_ HW_ hHeld ?_
   refine on_ 14 (some 32) ba18_15 HT_ (fun K hK => ?_)
   refine goesUc_ Try.func74 (by kernel_rfl) rfl #[.int .i64 (rd x0_2 x9_2), .int .i64 (rd x0_2 (ji9)), .pointer A3_0] (by rfl) rfl rfl (by (try simp only [List.map_toArray, List.map_cons, List.map_nil]); first | done | (simp only [hji9]; rfl) | rfl | (simp only [List.length_drop, List.length_take]; rfl)) ?_
   with_reducible refine (impl_CountWays_1.calls (rd x0_2 x9_2) (rd x0_2 (ji9)) _ l3_0 t549 _ ?side1 A12.out).mono ?_
   (case side1 => exact Kd.C_kept_now HR3_0.out (ky_ HK))
   rintro e w' ⟨rfl, ⟨nd, rfl⟩⟩
   refine ⟨_, rfl, ?_⟩
   refine hK.out _ _ ⟨hHeld.1, hHeld.2⟩ (fun hHeld => ?_)
   clear hK K
   refine nz_ 32 ?_
   have H := Hh_.out
   clear Hh_
   by_cases c13 : t549 < 0
   rotate_left
   ·rw [if_neg c13] at H
    have c13b0 : decide (t549 < 0) = false := decide_eq_false c13
    clear c13
    have H' := Aside0.mk H
    clear H
    refine pz_ 15 33 ba18_16 HT_ ?_
    refine pz_ 16 34 ba18_17 HT_ ?_
    refine done_ (done_of HT_.out (by kernel_rfl)) ?_
    go_wp2
    go_roundg k2
    case measure => have := HK1.out; have := HK2.out; omega
    case rel => exact ⟨(x0_2), (wrap64 (x8_1 + 1)), er_, H', ⟨by have := HK1.out; have := HK2.out; omega⟩, ⟨hd_ HO_0⟩, ⟨ky_ HK⟩, ⟨bw115_⟩⟩
   rw [if_pos c13] at H
   have c13b0 : decide (t549 < 0) = true := decide_eq_true c13
   clear c13
   obtain ⟨y552, hy552⟩ : ∃ y_ : List Int, y_ = (x0_2.set (x9_2 : Int).toNat (rd x0_2 (ji9))) := ⟨_, rfl⟩
   replace H : (slices_insertionSortCmpFunc_int.l1 k2 (y552.set ((ji9) : Int).toNat (rd x0_2 x9_2)) a1 a2 x8_1 ji9 l3_0) = some r := by first | (rw [hy552]; with_reducible exact H) | (have H2_ := (Option.bind_some _ _).symm.trans H; rw [hy552]; with_reducible exact H2_) | (have H2_ := (Option.bind_some _ _).symm.trans H; with_reducible exact H2_) | with_reducible exact H | (rw [hy552]; exact H) | exact H
   have Ny552 := Aside0.mk hy552
   clear hy552
   obtain ⟨y553, hy553⟩ : ∃ y_ : List Int, y_ = (y552.set ((ji9) : Int).toNat (rd x0_2 x9_2)) := ⟨_, rfl⟩
   replace H : (slices_insertionSortCmpFunc_int.l1 k2 y553 a1 a2 x8_1 ji9 l3_0) = some r := by first | (rw [hy553]; with_reducible exact H) | (have H2_ := (Option.bind_some _ _).symm.trans H; rw [hy553]; with_reducible exact H2_) | (have H2_ := (Option.bind_some _ _).symm.trans H; with_reducible exact H2_) | with_reducible exact H | (rw [hy553]; exact H) | exact H
   have Ny553 := Aside0.mk hy553
   clear hy553
   have H' := Aside0.mk H
   clear H
   refine pz_ 15 33 ba18_16 HT_ ?_
   refine pz_ 16 34 ba18_17 HT_ ?_
   refine done_ (done_of HT_.out (by kernel_rfl)) ?_
   go_wp2
   (try (rw [drewN_self w16]; generalize hq_ : World.drewN w16 _ = w16; replace HO_0 : Aside0 (Kd.R (Kd.int .i64) 3 w16 w0.heap.size (fun k_ => (P0_ k_ ∨ w.heap.size ≤ k_)) (.slice (some ad547) x0_2.length co17) x0_2) := ⟨by rw [← hq_]; exact (hd_ HO_0)⟩; replace HK : Aside0 (Kept w w16 (fun k_ => P0_ k_)) := ⟨by rw [← hq_]; exact (ky_ HK)⟩; replace HB : Aside0 (Below w0.heap.size w0 w16) := ⟨by rw [← hq_]; exact (bw115_)⟩; clear hq_))
   replace HO_0 := rw5_ HO_0
   replace HK := Aside0.mk (Kept.drew HK.out)
   replace HB := Aside0.mk (below_drew1 HB.out)
   have p550 : 0 ≤ ((ji9) : Int) := oa_
   have q550 : (ji9) < (x0_2.length : Int) := oa_
   obtain ⟨ad550, e550, hx550_0⟩ := Kd.at_int (Kd.R_reads' HO_0.out).2.2 (ji9) p550 q550
   obtain rfl : ad547 = ad550 := (by injection e550)
   obtain ⟨p550, q550⟩ := et_ p550 q550
   have p551 : 0 ≤ (x9_2 : Int) := oa_
   have q551 : x9_2 < (x0_2.length : Int) := oa_
   obtain ⟨ad551, e551, hx551_0⟩ := Kd.at_int (Kd.R_reads' HO_0.out).2.2 x9_2 p551 q551
   obtain rfl : ad547 = ad551 := (by injection e551)
   obtain ⟨p551, q551⟩ := et_ p551 q551
   have p14 : 0 ≤ (x9_2 : Int) := oa_
   have q14 : (x9_2 : Int) < ((x0_2.length : Int) : Int) := oa_
   obtain ⟨go14, co14, eo14, gb14, gl14, cl14, HG14⟩ := Kd.R_form HO_0.out (by omega)
   (first | cases eo14 | (injection eo14 with ea_ en_ ec_; (first | subst ea_ | (injection ea_ with ea_; subst ea_)); subst ec_; clear en_))
   have GB14 := Aside0.mk gb14
   have GG14 := Aside0.mk HG14
   clear gb14 gl14 HG14
   have HMgo14 := Aside0.mk (show (P0_ go14 ∨ w.heap.size ≤ go14) from (HO_0.out.1 _ rfl))
   simp only [add_plain] at hx547_0
   simp only [add_plain] at hx548_0
   simp only [add_plain] at hx550_0
   simp only [add_plain] at hx551_0
   obtain ⟨hx14_0, hf14_0⟩ := Kd.R_celln 0 HO_0.out (x9_2 : Int) p14 q14
   obtain ⟨p14, q14⟩ := et_ p14 q14
   have HP19 := Kd.R_putn HO_0.out (x9_2 : Int) (rd x0_2 (ji9))
   rw [← Ny552.out] at HP19
   have HQ19 := Aside0.mk HP19
   clear HP19
   have p15 : 0 ≤ ((ji9) : Int) := oa_
   have q15 : ((ji9) : Int) < ((x0_2.length : Int) : Int) := oa_
   obtain ⟨hx15_0, hf15_0⟩ := Kd.R_celln 0 HQ19.out ((ji9) : Int) p15 q15
   obtain ⟨p15, q15⟩ := et_ p15 q15
   have HP20 := Kd.R_putn HQ19.out ((ji9) : Int) (rd x0_2 x9_2)
   rw [← Ny553.out] at HP20
   have HQ20 := Aside0.mk HP20
   clear HP20
   refine start_ (n := 18) (S := fun w' => w'.cell? ⟨go14, ((ji9)).toNat, none⟩ = some (.int .i64 (rd x0_2 (ji9))) ∧ w'.cell? ⟨go14, (x9_2).toNat, none⟩ = some (.int .i64 (rd x0_2 x9_2))) (ds := [15, 17]) ba18_18 (by kernel_rfl) rfl rfl ⟨hx550_0, hx551_0⟩ (fun hHeld => ?_); refine with_tabW slices_insertionSortCmpFunc_int.tab6 slices_insertionSortCmpFunc_int.bits6 (fun HT_ HW_ => ?_)
   generalize w16.drew = w18 at HO_0 HK HB GG14 HQ19 HQ20 hf14_0 hf15_0 hx14_0 hx15_0 hx547_0 hx548_0 hx550_0 hx551_0 hHeld ⊢
   refine pz_ 0 37 ba18_19 HT_ ?_
   refine pz_ 1 38 ba18_20 HT_ ?_
   refine pz_ 2 39 ba18_21 HT_ ?_
   refine pz_ 3 40 ba18_22 HT_ ?_
   refine pz_ 4 41 ba18_23 HT_ ?_
   refine pz_ 5 42 ba18_24 HT_ ?_
   refine pz_ 6 43 ba18_25 HT_ ?_
   refine pz_ 7 44 ba18_26 HT_ ?_
   refine pz_ 8 45 ba18_27 HT_ ?_
   refine pz_ 10 47 ba18_28 HT_ ?_
   refine pz_ 11 48 ba18_29 HT_ ?_
   refine pz_ 12 49 ba18_30 HT_ ?_
   refine pt_ 9 46 ba18_31 HT_ HW_ hHeld ?_
   refine pt_ 13 50 ba18_32 HT_ HW_ hHeld ?_
   refine pz_ 14 51 ba18_33 HT_ ?_
   refine last_ (i := 15) (N := none) ba18_34 rfl rfl (one_of HT_.out (by kernel_rfl)) (by decide) (fun K hK => ?_)
   refine skip_ (w1 := ?_) (by rfl) rfl ?_ ?_
   rotate_left; · go_simp; rfl
   refine hK.out _ _ ?_
   clear hK K
   refine pz_ 16 52 ba18_35 HT_ ?_
   refine last_ (i := 17) (N := none) ba18_36 rfl rfl (one_of HT_.out (by kernel_rfl)) (by decide) (fun K hK => ?_)
   refine skip_ (w1 := ?_) (by rfl) rfl ?_ ?_
   rotate_left; · go_simp; rfl
   refine hK.out _ _ ?_
   clear hK K
   refine done_ (done_of HT_.out (by kernel_rfl)) ?_
   go_wp2
   go_roundg k2
   case measure => have := HK1.out; have := HK2.out; omega
   case rel => exact ⟨(y553), (ji9), (by first | rfl | (simp; done) | (simp only [← hji9] <;> (first | rfl | simp)) | (simp [*]; done)), H', ⟨by have := HK1.out; have := HK2.out; omega⟩, ⟨hq_ (HQ20.out)⟩, ⟨by repeat (first | (with_reducible first | exact HK.out | apply Kept.alloc | apply Kept.drewN | apply Kept.drew | refine Kept.setCell ?_ HMgo14.out _ | refine Kept.setCell ?_ HMgo14.out _) | exact HK.out)⟩, ⟨by repeat (first | (with_reducible first | exact HB.out | apply below_alloc | apply pw_below_drewN | apply below_drew1 | refine below_set ?_ GB14.out | refine below_set ?_ GB14.out) | exact HB.out)⟩⟩
set_option linter.unusedVariables false
set_option linter.unusedSimpArgs false
abbrev lt0_ : ByteArray := ⟨#[0, 1, 2, 2, 3, 3, 3, 3, 4, 4, 4, 4, 4, 4, 4, 4, 5, 5, 5, 5, 5, 5, 5, 5, 5, 5, 5, 5, 5, 5, 5, 5, 6, 6, 6, 6, 6, 6, 6, 6, 6, 6, 6, 6, 6, 6, 6, 6, 6, 6, 6, 6, 6, 6, 6, 6, 6, 6, 6, 6, 6, 6, 6, 6, 7, 7, 7, 7, 7, 7, 7, 7, 7, 7, 7, 7, 7, 7, 7, 7, 7, 7, 7, 7, 7, 7, 7, 7, 7, 7, 7, 7, 7, 7, 7, 7, 7, 7, 7, 7, 7, 7, 7, 7, 7, 7, 7, 7, 7, 7, 7, 7, 7, 7, 7, 7, 7, 7, 7, 7, 7, 7, 7, 7, 7, 7, 7, 7, 8, 8, 8, 8, 8, 8, 8, 8, 8, 8, 8, 8, 8, 8, 8, 8, 8, 8, 8, 8, 8, 8, 8, 8, 8, 8, 8, 8, 8, 8, 8, 8, 8, 8, 8, 8, 8, 8, 8, 8, 8, 8, 8, 8, 8, 8, 8, 8, 8, 8, 8, 8, 8, 8, 8, 8, 8, 8, 8, 8, 8, 8, 8, 8, 8, 8, 8, 8, 8, 8, 8, 8, 8, 8, 8, 8, 8, 8, 8, 8, 8, 8, 8, 8, 8, 8, 8, 8, 8, 8, 8, 8, 8, 8, 8, 8, 8, 8, 8, 8, 8, 8, 8, 8, 8, 8, 8, 8, 8, 8, 8, 8, 8, 8, 8, 8, 8, 8, 8, 8, 8, 8, 8, 8, 8, 8, 8, 8]⟩
mutual
def slices_pdqsortCmpFunc_int.l0 : Nat → List Int → Int → Int → Int → Bool → List (List Int) → Option (List Int)
 | 0, _, _, _, _, _, _ => none
 | k + 1, x0, x1, x2, x3, x10, x940 => if (wrap64 (x2 - x1)) ≤ 12 then ((slices_insertionSortCmpFunc_int.f k x0 x1 x2 x940).bind fun t554 => (some t554)) else (if x3 = 0 then (none) else (if x10 = true then (none) else (none)))
def slices_pdqsortCmpFunc_int.f : Nat → List Int → Int → Int → Int → List (List Int) → Option (List Int)
 | 0, _, _, _, _, _ => none
 | k + 1, l0, a1, a2, a3, l4_0 => slices_pdqsortCmpFunc_int.l0 k l0 a1 a2 a3 true l4_0
end
set_option maxHeartbeats 8000000 in
set_option maxRecDepth 100000 in
theorem slices_pdqsortCmpFunc_int.calls (k : Nat) : ∀ (P0_ : Nat → Prop) (u9000_ : Value) (l0 : List Int) (a1 : Int) (a2 : Int) (a3 : Int) (A4_0 : Option Addr) (l4_0 : List (List Int)) (r : List Int) (w0 w : World) (hB : Below w0.heap.size w0 w) (ho0 : Kd.R (Kd.int .i64) 3 w w0.heap.size P0_ u9000_ l0) (hr4_0 : ∀ W_, Kept w W_ (fun k_ => P0_ k_) → Kd.C (Kd.slice 3 (Kd.int .i64)) W_ A4_0 l4_0.length l4_0) (h : slices_pdqsortCmpFunc_int.f k l0 a1 a2 a3 l4_0 = some r),
  Calls Try.prog 79 #[u9000_, .int .i64 a1, .int .i64 a2, .int .i64 a3, .func (.func 74) #[] #[.pointer A4_0]] w fun e w' => e = .returned (.tuple #[]) ∧ Kd.R (Kd.int .i64) 3 w' w0.heap.size (fun k_ => (P0_ k_ ∨ w.heap.size ≤ k_)) u9000_ r ∧ Below w0.heap.size w0 w' ∧ Kept w w' (fun k_ => P0_ k_) := by
 induction k using Nat.strongRecOn with
 | _ k ih =>
 intro P0_ u9000_ l0 a1 a2 a3 A4_0 l4_0 r w0 w hB ho0 hr4_0 h
 cases k with
 | zero => exact absurd h (by simp [slices_pdqsortCmpFunc_int.f])
 | succ k =>
 simp only [slices_pdqsortCmpFunc_int.f] at h
 have HO0 := Aside0.mk (show Kd.R (Kd.int .i64) 3 w w0.heap.size (fun k_ => (P0_ k_ ∨ w.heap.size ≤ k_)) u9000_ l0 from Kd.R_mono ho0 (fun k_ hk => (.inl hk)))
 have HR4_0 := Aside0.mk hr4_0
 clear hr4_0
 have HK := Aside0.mk (Kept.refl w (fun k_ => P0_ k_))
 have HW0 := Aside0.mk hB.size
 have HB := Aside0.mk hB
 clear hB
 have H : (slices_pdqsortCmpFunc_int.l0 k l0 a1 a2 a3 true l4_0) = some r := h
 clear h
 have H' := Aside0.mk H
 clear H
 go_enter Try.func79, Try.ntmps79
 go_wp2
 repeat (go_quiet (fail); try go_wp2)
 go_loopg [1, 2, 3, 10] k (fun kq v1 v2 v3 v10 w' => ∃ (x0_1 : List Int) (x1_1 : Int) (x2_1 : Int) (x3_1 : Int) (x10_1 : Bool), v1 = .int .i64 x1_1 ∧ v2 = .int .i64 x2_1 ∧ v3 = .int .i64 x3_1 ∧ v10 = .bool x10_1 ∧ Aside0 (slices_pdqsortCmpFunc_int.l0 kq x0_1 x1_1 x2_1 x3_1 x10_1 l4_0 = some r) ∧ Aside0 (kq ≤ k) ∧ Aside0 (Kd.R (Kd.int .i64) 3 w' w0.heap.size (fun k_ => (P0_ k_ ∨ w.heap.size ≤ k_)) u9000_ x0_1) ∧ Aside0 (Kept w w' (fun k_ => P0_ k_)) ∧ Aside0 (Below w0.heap.size w0 w'))
 case atStart => exact ⟨(l0), (a1), (a2), (a3), (true), er_, er_, er_, er_, H', ⟨Nat.le_refl _⟩, ⟨hd_ HO0⟩, ⟨ky_ HK⟩, ⟨bw115_⟩⟩
 clear H'
 obtain ⟨x0_1, x1_1, x2_1, x3_1, x10_1, rfl, rfl, rfl, rfl, HA, HK1, HO_0, HK, HB⟩ := hrel
 cases gk with
 | zero => exact absurd HA.out (by simp [slices_pdqsortCmpFunc_int.l0])
 | succ k1 =>
  have H := HA.out
  clear HA
  simp only [slices_pdqsortCmpFunc_int.l0] at H
  by_cases c6 : (wrap64 (x2_1 - x1_1)) ≤ 12
  ·rw [if_pos c6] at H
   have c6b0 : decide ((wrap64 (x2_1 - x1_1)) ≤ 12) = true := decide_eq_true c6
   clear c6
   obtain ⟨t554, A7, H⟩ := ob_ H
   obtain rfl := Option.some.inj H
   obtain ⟨Ao8, co8, eo8⟩ := Kd.R_slice HO_0.out
   subst eo8
   go_wp2_with (go_at_call 88; (with_reducible refine (slices_insertionSortCmpFunc_int.calls k1 (fun k_ => some k_ = (.slice Ao8 x0_1.length co8 : Value).ownBlock) (.slice Ao8 x0_1.length co8) x0_1 x1_1 x2_1 _ l4_0 t554 w0 _ ?side1 ?side2 ?side3 A7.out).mono ?_); (case side1 => exact by_ HB); (case side2 => exact Kd.R_tight rfl HO_0.out); (case side3 => exact Kd.C_kept_call HR4_0.out (ky_ HK) (fun k_ hs_ => (fun e_ => (HO_0.out.1 k_ e_.symm)) hs_)); rintro e w9 ⟨rfl, hy0, hb, hkp⟩; replace HK := Aside0.mk (Kept.then_ (S := (fun k_ => P0_ k_)) (ky_ HK) hkp (fun k_ hs_ => (fun e_ => (HO_0.out.1 k_ e_.symm)) hs_)); replace HO_0 := Aside0.mk (Kd.R_reok rfl hy0 (fun k_ e_ => HO_0.out.1 k_ e_)); replace HB := Aside0.mk (hb); clear hb hkp hy0)
   first | go_end0 | ((try simp only [Exit.inBlock, Exit.then]); refine bodyPost_ret (results_none rfl _ _ _) rfl ?_)
   exact ⟨ew_, by (with_reducible repeat (first | apply Kd.R_alloc | apply Kd.R_drewN | apply Kd.R_drew)); exact HO_0.out, bw115_, ky_ HK⟩
  rw [if_neg c6] at H
  have c6b0 : decide ((wrap64 (x2_1 - x1_1)) ≤ 12) = false := decide_eq_false c6
  clear c6
  by_cases c10 : x3_1 = 0
  ·rw [if_pos c10] at H
   exact absurd H (by simp)
  rw [if_neg c10] at H
  have c10b0 : (x3_1 == 0) = false := beq_eq_false_iff_ne.mpr c10
  have c10b1 : (x3_1 != 0) = true := bne_iff_ne.mpr c10
  by_cases c11 : x10_1 = true
  ·subst c11
   rw [if_pos rfl] at H
   exact absurd H (by simp)
  replace c11 := Bool.eq_false_iff.mpr c11
  subst c11
  rw [if_neg (show ¬ (false = true) by decide)] at H
  exact absurd H (by simp)
def bits_Len32.f (a0 : Int) : Option (Int) := if a0 ≥ 65536 then (if (a0 / 65536) ≥ 256 then (if 0 ≤ (((a0 / 65536) / 256) % 256) then (if (((a0 / 65536) / 256) % 256) < 256 then (some (wrap64 ((16 + 8) + (wrap64 (bt lt0_ (((a0 / 65536) / 256) % 256)))))) else (none)) else (none)) else (if 0 ≤ ((a0 / 65536) % 256) then (if ((a0 / 65536) % 256) < 256 then (some (wrap64 (16 + (wrap64 (bt lt0_ ((a0 / 65536) % 256)))))) else (none)) else (none))) else (if a0 ≥ 256 then (if 0 ≤ ((a0 / 256) % 256) then (if ((a0 / 256) % 256) < 256 then (some (wrap64 ((0 + 8) + (wrap64 (bt lt0_ ((a0 / 256) % 256)))))) else (none)) else (none)) else (if 0 ≤ ((a0) % 256) then (if ((a0) % 256) < 256 then (some (wrap64 (0 + (wrap64 (bt lt0_ ((a0) % 256)))))) else (none)) else (none)))
def bits_Len64.j0 : Nat → Int → Int → Option (Int)
 | 0, _, _ => none
 | k + 1, x0, x2 => if x0 ≥ 65536 then (if (x0 / 65536) ≥ 256 then (if 0 ≤ (((x0 / 65536) / 256) % 256) then (if (((x0 / 65536) / 256) % 256) < 256 then (some (wrap64 ((wrap64 ((wrap64 (x2 + 16)) + 8)) + (wrap64 (bt lt0_ (((x0 / 65536) / 256) % 256)))))) else (none)) else (none)) else (if 0 ≤ ((x0 / 65536) % 256) then (if ((x0 / 65536) % 256) < 256 then (some (wrap64 ((wrap64 (x2 + 16)) + (wrap64 (bt lt0_ ((x0 / 65536) % 256)))))) else (none)) else (none))) else (if x0 ≥ 256 then (if 0 ≤ ((x0 / 256) % 256) then (if ((x0 / 256) % 256) < 256 then (some (wrap64 ((wrap64 (x2 + 8)) + (wrap64 (bt lt0_ ((x0 / 256) % 256)))))) else (none)) else (none)) else (if 0 ≤ ((x0) % 256) then (if ((x0) % 256) < 256 then (some (wrap64 (x2 + (wrap64 (bt lt0_ ((x0) % 256)))))) else (none)) else (none)))
def bits_Len64.f (k : Nat) (a0 : Int) : Option (Int) := if a0 ≥ 4294967296 then (bits_Len64.j0 k (a0 / 4294967296) 32) else (bits_Len64.j0 k a0 0)
set_option maxHeartbeats 8000000 in
set_option maxRecDepth 100000 in
theorem bits_Len64.calls (k : Nat) (a0 : Int) (r : Int) (w : World) (h : bits_Len64.f k a0 = some r) :
  Calls Try.prog 97 #[.int .u64 a0] w fun e w' => e = .returned (.int .i64 r) ∧ Drawn0 w w' := by
 have H : (if a0 ≥ 4294967296 then (bits_Len64.j0 k (a0 / 4294967296) 32) else (bits_Len64.j0 k a0 0)) = some r := h
 clear h
 have HC2 := Aside0.mk H
 clear H
 go_enter Try.func97, Try.ntmps97
 go_upto_if 4 with (fail)
 go_cut [0, 2] (fun v0 v2 wc => ∃ (kq : Nat) (x0_1 : Int) (x2_1 : Int), v0 = .int .u64 x0_1 ∧ v2 = .int .i64 x2_1 ∧ Aside0 (bits_Len64.j0 kq x0_1 x2_1 = some r) ∧ Aside0 (kq ≤ k) ∧ Drawn0 w wc)
 case first =>
  have H := HC2.out
  clear HC2
  by_cases c3 : a0 ≥ 4294967296
  ·rw [if_pos c3] at H
   have c3b0 : decide (4294967296 ≤ a0) = true := decide_eq_true c3
   clear c3
   (first | rw [c3b0] | (simp only [i64_w, i32_w]; rw [c3b0]) | skip)
   have H' := Aside0.mk H
   clear H
   go_wp2
   go_meet
   case rel => exact ⟨_, (a0 / 4294967296), (32), er_, er_, H', ⟨by first | omega | exact Nat.le_refl _⟩, by repeat (first | exact Drawn0.refl _ | apply Drawn0.step)⟩
  rw [if_neg c3] at H
  have c3b0 : decide (4294967296 ≤ a0) = false := decide_eq_false c3
  clear c3
  (first | rw [c3b0] | (simp only [i64_w, i32_w]; rw [c3b0]) | skip)
  have H' := Aside0.mk H
  clear H
  go_wp2
  go_meet
  case rel => exact ⟨_, (a0), (0), er_, er_, H', ⟨by first | omega | exact Nat.le_refl _⟩, by repeat (first | exact Drawn0.refl _ | apply Drawn0.step)⟩
 clear HC2
 obtain ⟨kq, x0_1, x2_1, rfl, rfl, HA, HJ1, ⟨mc1, rfl⟩⟩ := hcut
 cases kq with
 | zero => exact absurd HA.out (by simp [bits_Len64.j0])
 | succ kj1 =>
  have H := HA.out
  clear HA
  simp only [bits_Len64.j0] at H
  by_cases c4 : x0_1 ≥ 65536
  ·rw [if_pos c4] at H
   have c4b0 : decide (65536 ≤ x0_1) = true := decide_eq_true c4
   clear c4
   by_cases c5 : (x0_1 / 65536) ≥ 256
   ·rw [if_pos c5] at H
    have c5b0 : decide (256 ≤ (x0_1 / 65536)) = true := decide_eq_true c5
    clear c5
    obtain ⟨ji6, hji6⟩ : ∃ j_ : Int, (((x0_1 / 65536) / 256) % 256) = j_ := ⟨_, rfl⟩
    first | rw [hji6] at H | simp only [hji6] at H
    obtain ⟨c7b0, H⟩ := iq_ H
    obtain ⟨c8b0, H⟩ := iq_ H
    obtain rfl := Option.some.inj H
    have p9 : 0 ≤ ((ji6) : Int) := oa_
    have q9 : (ji6) < (256 : Int) := oa_
    have hx9 := bt_at lt0_ (ji6)
    obtain ⟨p9, q9⟩ := et_ p9 q9
    go_wp2
    go_ret
    exact ⟨by first | rfl | (simp; done) | (simp only [← hji6] <;> (first | rfl | simp)) | (simp [*]; done), by repeat (first | exact Drawn0.refl _ | apply Drawn0.step)⟩
   rw [if_neg c5] at H
   have c5b0 : decide (256 ≤ (x0_1 / 65536)) = false := decide_eq_false c5
   clear c5
   obtain ⟨ji10, hji10⟩ : ∃ j_ : Int, ((x0_1 / 65536) % 256) = j_ := ⟨_, rfl⟩
   first | rw [hji10] at H | simp only [hji10] at H
   obtain ⟨c11b0, H⟩ := iq_ H
   obtain ⟨c12b0, H⟩ := iq_ H
   obtain rfl := Option.some.inj H
   have p13 : 0 ≤ ((ji10) : Int) := oa_
   have q13 : (ji10) < (256 : Int) := oa_
   have hx13 := bt_at lt0_ (ji10)
   obtain ⟨p13, q13⟩ := et_ p13 q13
   go_wp2
   go_ret
   exact ⟨by first | rfl | (simp; done) | (simp only [← hji10] <;> (first | rfl | simp)) | (simp [*]; done), by repeat (first | exact Drawn0.refl _ | apply Drawn0.step)⟩
  rw [if_neg c4] at H
  have c4b0 : decide (65536 ≤ x0_1) = false := decide_eq_false c4
  clear c4
  by_cases c14 : x0_1 ≥ 256
  ·rw [if_pos c14] at H
   have c14b0 : decide (256 ≤ x0_1) = true := decide_eq_true c14
   clear c14
   obtain ⟨ji15, hji15⟩ : ∃ j_ : Int, ((x0_1 / 256) % 256) = j_ := ⟨_, rfl⟩
   first | rw [hji15] at H | simp only [hji15] at H
   obtain ⟨c16b0, H⟩ := iq_ H
   obtain ⟨c17b0, H⟩ := iq_ H
   obtain rfl := Option.some.inj H
   have p18 : 0 ≤ ((ji15) : Int) := oa_
   have q18 : (ji15) < (256 : Int) := oa_
   have hx18 := bt_at lt0_ (ji15)
   obtain ⟨p18, q18⟩ := et_ p18 q18
   go_wp2
   go_ret
   exact ⟨by first | rfl | (simp; done) | (simp only [← hji15] <;> (first | rfl | simp)) | (simp [*]; done), by repeat (first | exact Drawn0.refl _ | apply Drawn0.step)⟩
  rw [if_neg c14] at H
  have c14b0 : decide (256 ≤ x0_1) = false := decide_eq_false c14
  clear c14
  obtain ⟨ji19, hji19⟩ : ∃ j_ : Int, ((x0_1) % 256) = j_ := ⟨_, rfl⟩
  first | rw [hji19] at H | simp only [hji19] at H
  obtain ⟨c20b0, H⟩ := iq_ H
  obtain ⟨c21b0, H⟩ := iq_ H
  obtain rfl := Option.some.inj H
  have p22 : 0 ≤ ((ji19) : Int) := oa_
  have q22 : (ji19) < (256 : Int) := oa_
  have hx22 := bt_at lt0_ (ji19)
  obtain ⟨p22, q22⟩ := et_ p22 q22
  go_wp2
  go_ret
  exact ⟨by first | rfl | (simp; done) | (simp only [← hji19] <;> (first | rfl | simp)) | (simp [*]; done), by repeat (first | exact Drawn0.refl _ | apply Drawn0.step)⟩
def bits_Len.f (k : Nat) (a0 : Int) : Option (Int) := (bits_Len64.f k a0).bind fun t555 => (some t555)
set_option maxHeartbeats 8000000 in
set_option maxRecDepth 100000 in
theorem bits_Len.calls (k : Nat) (a0 : Int) (r : Int) (w : World) (h : bits_Len.f k a0 = some r) :
  Calls Try.prog 80 #[.int .u64 a0] w fun e w' => e = .returned (.int .i64 r) ∧ Drawn0 w w' := by
 have H : ((bits_Len64.f k a0).bind fun t555 => (some t555)) = some r := h
 clear h
 obtain ⟨t555, A2, H⟩ := ob_ H
 obtain rfl := Option.some.inj H
 go_enter Try.func80, Try.ntmps80
 go_wp2_with ((with_reducible refine gate_callee (f := 97) rfl ?_); refine gl_ (some 7) Try.func97 #[.int .u64 a0] ?_; (with_reducible refine (bits_Len64.calls k a0 t555 _ A2.out).mono ?_); rintro e w' ⟨rfl, ⟨nd, rfl⟩⟩; refine ⟨_, rfl, ?_⟩)
 go_ret
 exact ⟨by first | rfl | (simp; done) | (simp [*]; done), by repeat (first | exact Drawn0.refl _ | apply Drawn0.step)⟩
def slices_SortFunc_int_int.f (k : Nat) (l0 : List Int) (l1_0 : List (List Int)) : Option (List Int) := (bits_Len.f k (IntKind.u64.wrap ((l0.length : Int)))).bind fun t556 => ((slices_pdqsortCmpFunc_int.f k l0 0 (l0.length : Int) t556 l1_0).bind fun t557 => (some t557))
set_option maxHeartbeats 8000000 in
set_option maxRecDepth 100000 in
theorem slices_SortFunc_int_int.calls (k : Nat) (P0_ : Nat → Prop) (u9000_ : Value) (l0 : List Int) (A1_0 : Option Addr) (l1_0 : List (List Int)) (r : List Int) (w0 w : World) (hB : Below w0.heap.size w0 w) (ho0 : Kd.R (Kd.int .i64) 3 w w0.heap.size P0_ u9000_ l0) (hr1_0 : ∀ W_, Kept w W_ (fun k_ => P0_ k_) → Kd.C (Kd.slice 3 (Kd.int .i64)) W_ A1_0 l1_0.length l1_0) (h : slices_SortFunc_int_int.f k l0 l1_0 = some r) :
  Calls Try.prog 56 #[u9000_, .func (.func 74) #[] #[.pointer A1_0]] w fun e w' => e = .returned (.tuple #[]) ∧ Kd.R (Kd.int .i64) 3 w' w0.heap.size (fun k_ => (P0_ k_ ∨ w.heap.size ≤ k_)) u9000_ r ∧ Below w0.heap.size w0 w' ∧ Kept w w' (fun k_ => P0_ k_) := by
 have HO0 := Aside0.mk (show Kd.R (Kd.int .i64) 3 w w0.heap.size (fun k_ => (P0_ k_ ∨ w.heap.size ≤ k_)) u9000_ l0 from Kd.R_mono ho0 (fun k_ hk => (.inl hk)))
 have HR1_0 := Aside0.mk hr1_0
 clear hr1_0
 have HK := Aside0.mk (Kept.refl w (fun k_ => P0_ k_))
 have HW0 := Aside0.mk hB.size
 have HB := Aside0.mk hB
 clear hB
 have H : ((bits_Len.f k (IntKind.u64.wrap ((l0.length : Int)))).bind fun t556 => ((slices_pdqsortCmpFunc_int.f k l0 0 (l0.length : Int) t556 l1_0).bind fun t557 => (some t557))) = some r := h
 clear h
 obtain ⟨t556, A3, H⟩ := ob_ H
 obtain ⟨t557, A4, H⟩ := ob_ H
 obtain rfl := Option.some.inj H
 obtain ⟨Ao5, co5, eo5⟩ := Kd.R_slice HO0.out
 subst eo5
 go_enter Try.func56, Try.ntmps56
 go_wp2_with (first | ((with_reducible refine gate_callee (f := 80) rfl ?_); refine gl_ (some 11) Try.func80 #[.int .u64 (IntKind.u64.wrap ((l0.length : Int)))] ?_; (with_reducible refine (bits_Len.calls k (IntKind.u64.wrap ((l0.length : Int))) t556 _ A3.out).mono ?_); rintro e w' ⟨rfl, ⟨nd, rfl⟩⟩; refine ⟨_, rfl, ?_⟩) | ((with_reducible refine gate_callee (f := 79) rfl ?_); refine gl_ (some 13) Try.func79 #[.slice Ao5 l0.length co5, .int .i64 0, .int .i64 (l0.length : Int), .int .i64 t556, .func (.func 74) #[] #[.pointer A1_0]] ?_; (with_reducible refine (slices_pdqsortCmpFunc_int.calls k (fun k_ => some k_ = (.slice Ao5 l0.length co5 : Value).ownBlock) (.slice Ao5 l0.length co5) l0 0 (l0.length : Int) t556 _ l1_0 t557 w0 _ ?side1 ?side2 ?side3 A4.out).mono ?_); (case side1 => exact by_ HB); (case side2 => exact Kd.R_tight rfl HO0.out); (case side3 => exact Kd.C_kept_call HR1_0.out (ky_ HK) (fun k_ hs_ => (fun e_ => (HO0.out.1 k_ e_.symm)) hs_)); rintro e w6 ⟨rfl, hy0, hb, hkp⟩; refine ⟨_, rfl, ?_⟩; replace HK := Aside0.mk (Kept.then_ (S := (fun k_ => P0_ k_)) (ky_ HK) hkp (fun k_ hs_ => (fun e_ => (HO0.out.1 k_ e_.symm)) hs_)); replace HO0 := Aside0.mk (Kd.R_reok rfl hy0 (fun k_ e_ => HO0.out.1 k_ e_)); replace HB := Aside0.mk (hb); clear hb hkp hy0))
 first | go_end0 | ((try simp only [Exit.inBlock, Exit.then]); refine bodyPost_ret (results_none rfl _ _ _) rfl ?_)
 exact ⟨ew_, by (with_reducible repeat (first | apply Kd.R_alloc | apply Kd.R_drewN | apply Kd.R_drew)); exact HO0.out, bw115_, ky_ HK⟩
end Go.Proofs.Ythmahcohcphljaa.QFnCheapest
