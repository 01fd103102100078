/- Contracts of functions that the law reaches: what each call returns and what it leaves in memory. Made by this session over the print of the kit. -/
import Derived.Test.YthmahcohcphljaaQFnSharesx0
import Derived.Test.YthmahcohcphljaaQFnSharesx7
namespace Go.Proofs.Ythmahcohcphljaa.QFnShares
open Go.RowKit Go.Proofs.YthmahcohcphljaaS.PrintWords Go.Proofs.YthmahcohcphljaaS.PrintLast Go.Proofs.YthmahcohcphljaaS.PrintMore
attribute [local go_sem] max2_int min2_int max_two min_two max_three min_three max_four min_four   -- for this text's walks alone
set_option linter.unusedVariables false
set_option linter.unusedSimpArgs false
def ba8_0 : Array Bool := bs_ 17 0
def ba8_1 : Array Bool := bs_ 17 1
def ba8_2 : Array Bool := bs_ 17 3
def ba8_3 : Array Bool := bs_ 17 7
def ba8_4 : Array Bool := bs_ 17 15
def ba8_5 : Array Bool := bs_ 17 31
def ba8_6 : Array Bool := bs_ 17 63
def ba8_7 : Array Bool := bs_ 17 127
def ba8_8 : Array Bool := bs_ 17 255
def ba8_9 : Array Bool := bs_ 17 767
def ba8_10 : Array Bool := bs_ 17 1791
def ba8_11 : Array Bool := bs_ 17 3839
def ba8_12 : Array Bool := bs_ 17 7935
def ba8_13 : Array Bool := bs_ 17 8191
def ba8_14 : Array Bool := bs_ 17 16383
def ba8_15 : Array Bool := bs_ 17 32767
def ba8_16 : Array Bool := bs_ 17 65535
def ba8_17 : Array Bool := bs_ 17 131071
def ba8_18 : Array Bool := bs_ 18 0
def ba8_19 : Array Bool := bs_ 18 1
def ba8_20 : Array Bool := bs_ 18 3
def ba8_21 : Array Bool := bs_ 18 7
def ba8_22 : Array Bool := bs_ 18 15
def ba8_23 : Array Bool := bs_ 18 31
def ba8_24 : Array Bool := bs_ 18 63
def ba8_25 : Array Bool := bs_ 18 127
def ba8_26 : Array Bool := bs_ 18 255
def ba8_27 : Array Bool := bs_ 18 511
def ba8_28 : Array Bool := bs_ 18 1535
def ba8_29 : Array Bool := bs_ 18 3583
def ba8_30 : Array Bool := bs_ 18 7679
def ba8_31 : Array Bool := bs_ 18 8191
def ba8_32 : Array Bool := bs_ 18 16383
def ba8_33 : Array Bool := bs_ 18 32767
def ba8_34 : Array Bool := bs_ 18 65535
def ba8_35 : Array Bool := bs_ 18 131071
def ba8_36 : Array Bool := bs_ 18 262143
def ba8_37 : Array Bool := bs_ 17 511
def ba8_38 : Array Bool := bs_ 17 1023
def ba8_39 : Array Bool := bs_ 17 2047
def ba8_40 : Array Bool := bs_ 17 4095

/-! ### slices_insertionSortCmpFunc_int: function 88 -/
mutual
def slices_insertionSortCmpFunc_int.l0 : Nat → List Int → Int → Int → Int → List (List (List Int)) → List Int → Option (List Int)
 | 0, _, _, _, _, _, _ => none
 | k + 1, x0, x1, x2, x8, x930, x931 => if x8 < x2 then (slices_insertionSortCmpFunc_int.l1 k x0 x1 x2 x8 x8 x930 x931) else (some x0)
def slices_insertionSortCmpFunc_int.l1 : Nat → List Int → Int → Int → Int → Int → List (List (List Int)) → List Int → Option (List Int)
 | 0, _, _, _, _, _, _, _ => none
 | k + 1, x0, x1, x2, x8, x9, x930, x931 => if x9 > x1 then (if 0 ≤ x9 then (if x9 < (x0.length : Int) then (if 0 ≤ (wrap64 (x9 - 1)) then (if (wrap64 (x9 - 1)) < (x0.length : Int) then ((impl_Shares_1.f (rd x0 x9) (rd x0 (wrap64 (x9 - 1))) x930 x931).bind fun t242 => (if t242 < 0 then (slices_insertionSortCmpFunc_int.l1 k ((x0.set (x9 : Int).toNat (rd x0 (wrap64 (x9 - 1)))).set ((wrap64 (x9 - 1)) : Int).toNat (rd x0 x9)) x1 x2 x8 (wrap64 (x9 - 1)) x930 x931) else (slices_insertionSortCmpFunc_int.l0 k x0 x1 x2 (wrap64 (x8 + 1)) x930 x931))) else (none)) else (none)) else (none)) else (none)) else (slices_insertionSortCmpFunc_int.l0 k x0 x1 x2 (wrap64 (x8 + 1)) x930 x931)
end
def slices_insertionSortCmpFunc_int.f (k : Nat) (l0 : List Int) (a1 : Int) (a2 : Int) (l3_0 : List (List (List Int))) (l3_1 : List Int) : Option (List Int) := slices_insertionSortCmpFunc_int.l0 k l0 a1 a2 (wrap64 (a1 + 1)) l3_0 l3_1
theorem slices_insertionSortCmpFunc_int.mono_l : ∀ k, (∀ y0 y1 y2 y3 y4 y5, LeO (slices_insertionSortCmpFunc_int.l0 k y0 y1 y2 y3 y4 y5) (slices_insertionSortCmpFunc_int.l0 (k + 1) y0 y1 y2 y3 y4 y5)) ∧ (∀ y0 y1 y2 y3 y4 y5 y6, LeO (slices_insertionSortCmpFunc_int.l1 k y0 y1 y2 y3 y4 y5 y6) (slices_insertionSortCmpFunc_int.l1 (k + 1) y0 y1 y2 y3 y4 y5 y6))
 | 0 => ⟨fun _ _ _ _ _ _ r h => by simp [slices_insertionSortCmpFunc_int.l0] at h, fun _ _ _ _ _ _ _ r h => by simp [slices_insertionSortCmpFunc_int.l1] at h⟩
 | k + 1 => by
  obtain ⟨ih0, ih1⟩ := slices_insertionSortCmpFunc_int.mono_l k
  refine ⟨?_, ?_⟩
  ·intro y0 y1 y2 y3 y4 y5
   unfold slices_insertionSortCmpFunc_int.l0
   repeat' first | (with_reducible first | exact ih0 _ _ _ _ _ _ | exact ih1 _ _ _ _ _ _ _ | exact LeO.refl _ | exact LeO.none _ | refine LeO.ite ?_ ?_ | refine LeO.bind ?_ (fun _ => ?_)) | exact ih0 _ _ _ _ _ _ | exact ih1 _ _ _ _ _ _ _ | exact LeO.none _ | refine LeO.ite ?_ ?_ | refine LeO.bind ?_ (fun _ => ?_)
  ·intro y0 y1 y2 y3 y4 y5 y6
   unfold slices_insertionSortCmpFunc_int.l1
   repeat' first | (with_reducible first | exact ih0 _ _ _ _ _ _ | exact ih1 _ _ _ _ _ _ _ | exact LeO.refl _ | exact LeO.none _ | refine LeO.ite ?_ ?_ | refine LeO.bind ?_ (fun _ => ?_)) | exact ih0 _ _ _ _ _ _ | exact ih1 _ _ _ _ _ _ _ | exact LeO.none _ | refine LeO.ite ?_ ?_ | refine LeO.bind ?_ (fun _ => ?_)
theorem slices_insertionSortCmpFunc_int.mono : ∀ a0 a1 a2 a3 a4 k, LeO (slices_insertionSortCmpFunc_int.f k a0 a1 a2 a3 a4) (slices_insertionSortCmpFunc_int.f (k + 1) a0 a1 a2 a3 a4) := by
 intro a0 a1 a2 a3 a4 k
 obtain ⟨ih0, ih1⟩ := slices_insertionSortCmpFunc_int.mono_l k
 unfold slices_insertionSortCmpFunc_int.f
 repeat' first | (with_reducible first | exact ih0 _ _ _ _ _ _ | exact ih1 _ _ _ _ _ _ _ | exact LeO.refl _ | exact LeO.none _ | refine LeO.ite ?_ ?_ | refine LeO.bind ?_ (fun _ => ?_)) | exact ih0 _ _ _ _ _ _ | exact ih1 _ _ _ _ _ _ _ | exact LeO.none _ | refine LeO.ite ?_ ?_ | refine LeO.bind ?_ (fun _ => ?_)
def slices_insertionSortCmpFunc_int.T4 : Bool × List (List Nat × List Nat) := (true, [([], []), ([], []), ([0, 1], [0, 1]), ([2], [2]), ([3], [3]), ([3], [3]), ([3], [3]), ([5, 6, 3], [3, 5, 6]), ([7, 3], [3, 7]), ([3], [3]), ([3], [3]), ([10, 3], [3, 10]), ([9, 11, 3], [3, 9, 11]), ([12, 3], [3, 12]), ([4, 8, 13, 3, 3], [3, 4, 8, 13]), ([14, 3], [3, 14]), ([3, 15], [3, 15])])
def slices_insertionSortCmpFunc_int.B4 : List Nat := [0, 0, 3, 7, 15, 15, 15, 111, 239, 15, 15, 1039, 3599, 7695, 16383, 32767, 65535]
theorem slices_insertionSortCmpFunc_int.tab4 : rtab .any (opsOf Try.f88 4) = slices_insertionSortCmpFunc_int.T4 := by kernel_rfl
theorem slices_insertionSortCmpFunc_int.bits4 : waitsOk slices_insertionSortCmpFunc_int.T4.2 slices_insertionSortCmpFunc_int.B4 = true := by kernel_rfl
def slices_insertionSortCmpFunc_int.T6 : Bool × List (List Nat × List Nat) := (true, [([], []), ([], []), ([], []), ([], []), ([3], [3]), ([], []), ([], []), ([6], [6]), ([5, 7], [5, 7]), ([8], [8]), ([], []), ([], []), ([10, 11], [10, 11]), ([12], [12]), ([0, 1, 0, 1, 5, 6, 7, 8, 9, 13], [0, 1]), ([14, 9, 0, 1, 5, 6, 7, 8, 9, 13], [9, 14]), ([2, 4, 0, 1, 2, 3, 4, 5, 6, 7, 8, 9, 10, 11, 12, 13, 14, 15], [2, 4]), ([16, 13, 15, 0, 1, 2, 3, 4, 5, 6, 7, 8, 9, 10, 11, 12, 13, 14, 15], [13, 16])])
def slices_insertionSortCmpFunc_int.B6 : List Nat := [0, 0, 0, 0, 8, 0, 0, 64, 224, 480, 0, 0, 3072, 7168, 16355, 32739, 65535, 131071]
theorem slices_insertionSortCmpFunc_int.tab6 : rtab .any (opsOf Try.f88 6) = slices_insertionSortCmpFunc_int.T6 := by kernel_rfl
theorem slices_insertionSortCmpFunc_int.bits6 : waitsOk slices_insertionSortCmpFunc_int.T6.2 slices_insertionSortCmpFunc_int.B6 = true := by kernel_rfl
set_option maxHeartbeats 8000000 in
set_option maxRecDepth 100000 in
theorem slices_insertionSortCmpFunc_int.calls (k : Nat) (P0_ : Nat → Prop) (u9000_ : Value) (l0 : List Int) (a1 : Int) (a2 : Int) (A3_0 : Option Addr) (l3_0 : List (List (List Int))) (A3_1 : Option Addr) (l3_1 : List Int) (r : List Int) (w0 w : World) (hB : Below w0.heap.size w0 w) (ho0 : Kd.R (Kd.int .i64) 3 w w0.heap.size P0_ u9000_ l0) (hr3_0 : ∀ W_, Kept w W_ (fun k_ => P0_ k_) → Kd.C (Kd.slice 26 (Kd.slice 3 (Kd.int .i64))) W_ A3_0 l3_0.length l3_0) (hr3_1 : ∀ W_, Kept w W_ (fun k_ => P0_ k_) → Kd.C (Kd.int .i64) W_ A3_1 l3_1.length l3_1) (h : slices_insertionSortCmpFunc_int.f k l0 a1 a2 l3_0 l3_1 = some r) :
  Calls Try.prog 88 #[u9000_, .int .i64 a1, .int .i64 a2, .func (.func 57) #[] #[.pointer A3_0, .pointer A3_1]] w fun e w' => e = .returned (.tuple #[]) ∧ Kd.R (Kd.int .i64) 3 w' w0.heap.size (fun k_ => (P0_ k_ ∨ w.heap.size ≤ k_)) u9000_ r ∧ Below w0.heap.size w0 w' ∧ Kept w w' (fun k_ => P0_ k_) := by
 have HO0 := Aside0.mk (show Kd.R (Kd.int .i64) 3 w w0.heap.size (fun k_ => (P0_ k_ ∨ w.heap.size ≤ k_)) u9000_ l0 from Kd.R_mono ho0 (fun k_ hk => (.inl hk)))
 have HR3_0 := Aside0.mk hr3_0
 clear hr3_0
 have HR3_1 := Aside0.mk hr3_1
 clear hr3_1
 have HK := Aside0.mk (Kept.refl w (fun k_ => P0_ k_))
 have HW0 := Aside0.mk hB.size
 have HB := Aside0.mk hB
 clear hB
 have H : (slices_insertionSortCmpFunc_int.l0 k l0 a1 a2 (wrap64 (a1 + 1)) l3_0 l3_1) = some r := h
 clear h
 have H' := Aside0.mk H
 clear H
 go_enter Try.func88, Try.ntmps88
 go_wp2
 go_loopg [8] k (fun kq v8 w' => ∃ (x0_1 : List Int) (x8_1 : Int), v8 = .int .i64 x8_1 ∧ Aside0 (slices_insertionSortCmpFunc_int.l0 kq x0_1 a1 a2 x8_1 l3_0 l3_1 = some r) ∧ Aside0 (kq ≤ k) ∧ Aside0 (Kd.R (Kd.int .i64) 3 w' w0.heap.size (fun k_ => (P0_ k_ ∨ w.heap.size ≤ k_)) u9000_ x0_1) ∧ Aside0 (Kept w w' (fun k_ => P0_ k_)) ∧ Aside0 (Below w0.heap.size w0 w'))
 case atStart => exact ⟨(l0), (wrap64 (a1 + 1)), er_, H', ⟨Nat.le_refl _⟩, ⟨hd_ HO0⟩, ⟨kz_ HK⟩, ⟨bw_⟩⟩
 case round =>
  clear H'
  try clear p2
  obtain ⟨x0_1, x8_1, rfl, HA, HK1, HO_0, HK, HB⟩ := hrel
  cases gk with
  | zero => exact absurd HA.out (by simp [slices_insertionSortCmpFunc_int.l0])
  | succ k1 =>
   have H := HA.out
   clear HA
   simp only [slices_insertionSortCmpFunc_int.l0] at H
   by_cases c5 : x8_1 < a2
   rotate_left
   ·rw [if_neg c5] at H
    have c5b0 : decide (x8_1 < a2) = false := decide_eq_false c5
    clear c5
    obtain rfl := Option.some.inj H
    go_wp2
    first | go_end0 | ((try simp only [Exit.inBlock, Exit.then]); refine bodyPost_ret (results_none rfl _ _ _) rfl ?_)
    exact ⟨by first | rfl | (simp [errW_none, errW_some] <;> rfl) | (simp [*, errW_none, errW_some] <;> rfl), by (with_reducible repeat (first | apply Kd.R_alloc | apply Kd.R_drewN | apply Kd.R_drew)); exact HO_0.out, bw_, kz_ HK⟩
   rw [if_pos c5] at H
   have c5b0 : decide (x8_1 < a2) = true := decide_eq_true c5
   clear c5
   have H' := Aside0.mk H
   clear H
   go_wp2
   go_loopg [9] k1 (fun kq v9 w' => ∃ (x0_2 : List Int) (x9_2 : Int), v9 = .int .i64 x9_2 ∧ Aside0 (slices_insertionSortCmpFunc_int.l1 kq x0_2 a1 a2 x8_1 x9_2 l3_0 l3_1 = some r) ∧ Aside0 (kq ≤ k1) ∧ Aside0 (Kd.R (Kd.int .i64) 3 w' w0.heap.size (fun k_ => (P0_ k_ ∨ w.heap.size ≤ k_)) u9000_ x0_2) ∧ Aside0 (Kept w w' (fun k_ => P0_ k_)) ∧ Aside0 (Below w0.heap.size w0 w'))
   case atStart => exact ⟨(x0_1), (x8_1), er_, H', ⟨Nat.le_refl _⟩, ⟨hd_ HO_0⟩, ⟨kz_ HK⟩, ⟨bw_⟩⟩
   case round =>
    clear H'
    try clear p2
    try clear c5
    try clear c5b0
    try clear p2
    obtain ⟨x0_2, x9_2, rfl, HA, HK2, HO_0, HK, HB⟩ := hrel
    cases gk with
    | zero => exact absurd HA.out (by simp [slices_insertionSortCmpFunc_int.l1])
    | succ k2 =>
     have H := HA.out
     clear HA
     simp only [slices_insertionSortCmpFunc_int.l1] at H
     by_cases c6 : x9_2 > a1
     rotate_left
     ·rw [if_neg c6] at H
      have c6b0 : decide (a1 < x9_2) = false := decide_eq_false c6
      clear c6
      have H' := Aside0.mk H
      clear H
      try go_wp2
      replace HO_0 := Aside0.mk (Kd.R_drew HO_0.out)
      replace HK := Aside0.mk (Kept.drew HK.out)
      replace HB := Aside0.mk (below_drew1 HB.out)
      refine start_ (n := 17) (S := fun w' => True) (ds := []) ba8_0 (by kernel_rfl) rfl rfl trivial (fun hHeld => ?_); refine with_tabW slices_insertionSortCmpFunc_int.tab4 slices_insertionSortCmpFunc_int.bits4 (fun HT_ HW_ => ?_)
      generalize wr.drew = w23 at HO_0 HK HB hHeld ⊢
      refine pz_ 0 18 ba8_1 HT_ ?_
      refine pz_ 1 19 ba8_2 HT_ ?_
      refine pz_ 2 20 ba8_3 HT_ ?_
      refine pz_ 3 21 ba8_4 HT_ ?_
      refine pu_ 4 22 ba8_5 HT_ ?_
      refine pu_ 5 23 ba8_6 HT_ ?_
      refine pu_ 6 24 ba8_7 HT_ ?_
      refine pu_ 7 25 ba8_8 HT_ ?_
      refine pu_ 8 26 ba8_37 HT_ ?_
      refine pu_ 9 27 ba8_38 HT_ ?_
      refine pu_ 10 28 ba8_39 HT_ ?_
      refine pu_ 11 29 ba8_40 HT_ ?_
      refine pu_ 12 30 ba8_13 HT_ ?_
      refine pu_ 13 31 ba8_14 HT_ ?_
      refine pu_ 14 32 ba8_15 HT_ ?_
      refine pu_ 15 33 ba8_16 HT_ ?_
      refine pz_ 16 34 ba8_17 HT_ ?_
      refine done_ (done_of HT_.out (by kernel_rfl)) ?_
      try go_wp2
      go_roundg k2
      case measure => have := HK1.out; have := HK2.out; omega
      case rel => exact ⟨(x0_2), (wrap64 (x8_1 + 1)), er_, H', ⟨by have := HK1.out; have := HK2.out; omega⟩, ⟨hd_ HO_0⟩, ⟨kz_ HK⟩, ⟨bw_⟩⟩
     rw [if_pos c6] at H
     have c6b0 : decide (a1 < x9_2) = true := decide_eq_true c6
     clear c6
     obtain ⟨c7b0, H⟩ := iq_ H
     obtain ⟨c8b0, H⟩ := iq_ H
     obtain ⟨ji9, hji9⟩ : ∃ j_ : Int, (wrap64 (x9_2 - 1)) = j_ := ⟨_, rfl⟩
     first | rw [hji9] at H | simp only [hji9] at H
     have hji9w : (IntKind.i64.wrap (x9_2 - 1)) = ji9 := (i64_w _).trans hji9
     obtain ⟨c10b0, H⟩ := iq_ H
     obtain ⟨c11b0, H⟩ := iq_ H
     replace H := Option.bind_eq_some_iff.mp H
     obtain ⟨t242, A120, H⟩ := H
     have A12 := Aside0.mk A120
     clear A120
     have Hh_ := Aside0.mk H
     clear H
     try go_wp2
     replace HO_0 := Aside0.mk (Kd.R_drew HO_0.out)
     replace HK := Aside0.mk (Kept.drew HK.out)
     replace HB := Aside0.mk (below_drew1 HB.out)
     obtain ⟨Ao17, co17, eo17⟩ := Kd.R_slice HO_0.out
     (first | subst eo17 | (injection eo17 with f1_ f2_ f3_; have f4_ := f1_.symm; have f5_ := f3_.symm; clear f1_ f2_ f3_; subst f4_; subst f5_))
     have p240 : 0 ≤ (x9_2 : Int) := oa_
     have q240 : x9_2 < (x0_2.length : Int) := oa_
     obtain ⟨ad240, e240, hx240_0⟩ := Kd.at_int (Kd.R_reads' HO_0.out).2.2 x9_2 p240 q240
     cases e240
     replace p240 := eq_true p240
     replace q240 := eq_true q240
     have p241 : 0 ≤ ((ji9) : Int) := oa_
     have q241 : (ji9) < (x0_2.length : Int) := oa_
     obtain ⟨ad241, e241, hx241_0⟩ := Kd.at_int (Kd.R_reads' HO_0.out).2.2 (ji9) p241 q241
     obtain rfl : ad240 = ad241 := (by injection e241)
     replace p241 := eq_true p241
     replace q241 := eq_true q241
     refine start_ (n := 17) (S := fun w' => w'.cell? (ad240.add (x9_2).toNat) = some (.int .i64 (rd x0_2 x9_2)) ∧ w'.cell? (ad240.add ((ji9)).toNat) = some (.int .i64 (rd x0_2 (ji9)))) (ds := []) ba8_0 (by kernel_rfl) rfl rfl ⟨hx240_0, hx241_0⟩ (fun hHeld => ?_); refine with_tabW slices_insertionSortCmpFunc_int.tab4 slices_insertionSortCmpFunc_int.bits4 (fun HT_ HW_ => ?_)
     generalize wr.drew = w16 at HO_0 HK HB hx240_0 hx241_0 hHeld ⊢
     refine pz_ 0 18 ba8_1 HT_ ?_
     refine pz_ 1 19 ba8_2 HT_ ?_
     refine pz_ 2 20 ba8_3 HT_ ?_
     refine pz_ 3 21 ba8_4 HT_ ?_
     refine pz_ 4 22 ba8_5 HT_ ?_
     refine pz_ 5 23 ba8_6 HT_ ?_
     refine pz_ 6 24 ba8_7 HT_ ?_
     refine pz_ 7 25 ba8_8 HT_ ?_
     refine pz_ 9 27 ba8_9 HT_ ?_
     refine pz_ 10 28 ba8_10 HT_ ?_
     refine pz_ 11 29 ba8_11 HT_ ?_
     refine pz_ 12 30 ba8_12 HT_ ?_
     refine pt_ 8 26 ba8_13 HT_ HW_ hHeld ?_
     refine pt_ 13 31 ba8_14 HT_ HW_ hHeld ?_
     refine one_ (i := 14) (N := some 32) ba8_15 rfl rfl (one_of HT_.out (by kernel_rfl)) (by decide) (fun K hK => ?_)
     refine goesUc_ Try.func57 (by kernel_rfl) rfl #[.int .i64 (rd x0_2 x9_2), .int .i64 (rd x0_2 (ji9)), .pointer A3_0, .pointer A3_1] (by rfl) rfl rfl (by (try simp only [List.map_toArray, List.map_cons, List.map_nil]); first | done | (simp only [hji9]; rfl) | rfl | (simp only [List.length_drop, List.length_take]; rfl)) ?_
     with_reducible refine (impl_Shares_1.calls (rd x0_2 x9_2) (rd x0_2 (ji9)) _ l3_0 _ l3_1 t242 _ ?side1 ?side2 A12.out).mono ?_
     (case side1 => exact Kd.C_kept_now HR3_0.out (kz_ HK))
     (case side2 => exact Kd.C_kept_now HR3_1.out (kz_ HK))
     rintro e w' ⟨rfl, ⟨nd, rfl⟩⟩
     refine ⟨_, rfl, ?_⟩
     refine hK.out _ _ ⟨hHeld.1, hHeld.2⟩ (fun hHeld => ?_)
     clear hK K
     refine nz_ 32 ?_
     have H := Hh_.out
     clear Hh_
     by_cases c13 : t242 < 0
     rotate_left
     ·rw [if_neg c13] at H
      have c13b0 : decide (t242 < 0) = false := decide_eq_false c13
      clear c13
      have H' := Aside0.mk H
      clear H
      refine pz_ 15 33 ba8_16 HT_ ?_
      refine pz_ 16 34 ba8_17 HT_ ?_
      refine done_ (done_of HT_.out (by kernel_rfl)) ?_
      try go_wp2
      go_roundg k2
      case measure => have := HK1.out; have := HK2.out; omega
      case rel => exact ⟨(x0_2), (wrap64 (x8_1 + 1)), er_, H', ⟨by have := HK1.out; have := HK2.out; omega⟩, ⟨hd_ HO_0⟩, ⟨kz_ HK⟩, ⟨bw_⟩⟩
     rw [if_pos c13] at H
     have c13b0 : decide (t242 < 0) = true := decide_eq_true c13
     clear c13
     obtain ⟨y245, hy245⟩ : ∃ y_ : List Int, y_ = (x0_2.set (x9_2 : Int).toNat (rd x0_2 (ji9))) := ⟨_, rfl⟩
     replace H : (slices_insertionSortCmpFunc_int.l1 k2 (y245.set ((ji9) : Int).toNat (rd x0_2 x9_2)) a1 a2 x8_1 ji9 l3_0 l3_1) = some r := by first | (rw [hy245]; with_reducible exact H) | (have H2_ := (Option.bind_some _ _).symm.trans H; rw [hy245]; with_reducible exact H2_) | (have H2_ := (Option.bind_some _ _).symm.trans H; with_reducible exact H2_) | with_reducible exact H | (rw [hy245]; exact H) | exact H
     have Ny245 := Aside0.mk hy245
     clear hy245
     obtain ⟨y246, hy246⟩ : ∃ y_ : List Int, y_ = (y245.set ((ji9) : Int).toNat (rd x0_2 x9_2)) := ⟨_, rfl⟩
     replace H : (slices_insertionSortCmpFunc_int.l1 k2 y246 a1 a2 x8_1 ji9 l3_0 l3_1) = some r := by first | (rw [hy246]; with_reducible exact H) | (have H2_ := (Option.bind_some _ _).symm.trans H; rw [hy246]; with_reducible exact H2_) | (have H2_ := (Option.bind_some _ _).symm.trans H; with_reducible exact H2_) | with_reducible exact H | (rw [hy246]; exact H) | exact H
     have Ny246 := Aside0.mk hy246
     clear hy246
     have H' := Aside0.mk H
     clear H
     refine pz_ 15 33 ba8_16 HT_ ?_
     refine pz_ 16 34 ba8_17 HT_ ?_
     refine done_ (done_of HT_.out (by kernel_rfl)) ?_
     try go_wp2
     (try (rw [drewN_self w16]; generalize hq_ : World.drewN w16 _ = w16; replace HO_0 : Aside0 (Kd.R (Kd.int .i64) 3 w16 w0.heap.size (fun k_ => (P0_ k_ ∨ w.heap.size ≤ k_)) (.slice (some ad240) x0_2.length co17) x0_2) := ⟨by rw [← hq_]; exact (hd_ HO_0)⟩; replace HK : Aside0 (Kept w w16 (fun k_ => P0_ k_)) := ⟨by rw [← hq_]; exact (kz_ HK)⟩; replace HB : Aside0 (Below w0.heap.size w0 w16) := ⟨by rw [← hq_]; exact (bw_)⟩; clear hq_))
     replace HO_0 := Aside0.mk (Kd.R_drew HO_0.out)
     replace HK := Aside0.mk (Kept.drew HK.out)
     replace HB := Aside0.mk (below_drew1 HB.out)
     have p243 : 0 ≤ ((ji9) : Int) := oa_
     have q243 : (ji9) < (x0_2.length : Int) := oa_
     obtain ⟨ad243, e243, hx243_0⟩ := Kd.at_int (Kd.R_reads' HO_0.out).2.2 (ji9) p243 q243
     obtain rfl : ad240 = ad243 := (by injection e243)
     replace p243 := eq_true p243
     replace q243 := eq_true q243
     have p244 : 0 ≤ (x9_2 : Int) := oa_
     have q244 : x9_2 < (x0_2.length : Int) := oa_
     obtain ⟨ad244, e244, hx244_0⟩ := Kd.at_int (Kd.R_reads' HO_0.out).2.2 x9_2 p244 q244
     obtain rfl : ad240 = ad244 := (by injection e244)
     replace p244 := eq_true p244
     replace q244 := eq_true q244
     have p14 : 0 ≤ (x9_2 : Int) := oa_
     have q14 : (x9_2 : Int) < ((x0_2.length : Int) : Int) := oa_
     obtain ⟨go14, co14, eo14, gb14, gl14, cl14, HG14⟩ := Kd.R_form HO_0.out (by omega)
     (first | cases eo14 | (injection eo14 with ea_ en_ ec_; (first | subst ea_ | (injection ea_ with ea_; subst ea_)); subst ec_; clear en_))
     have GB14 := Aside0.mk gb14
     have GG14 := Aside0.mk HG14
     clear gb14 gl14 HG14
     have HMgo14 := Aside0.mk (show (P0_ go14 ∨ w.heap.size ≤ go14) from (HO_0.out.1 _ rfl))
     (first | simp only [add_plain] at hx240_0 | skip)
     (first | simp only [add_plain] at hx241_0 | skip)
     (first | simp only [add_plain] at hx243_0 | skip)
     (first | simp only [add_plain] at hx244_0 | skip)
     obtain ⟨hx14_0, hf14_0⟩ := Kd.R_celln 0 HO_0.out (x9_2 : Int) p14 q14
     replace p14 := eq_true p14
     replace q14 := eq_true q14
     have HP19 := Kd.R_putn HO_0.out (x9_2 : Int) (rd x0_2 (ji9))
     rw [← Ny245.out] at HP19
     have HQ19 := Aside0.mk HP19
     clear HP19
     have p15 : 0 ≤ ((ji9) : Int) := oa_
     have q15 : ((ji9) : Int) < ((x0_2.length : Int) : Int) := oa_
     obtain ⟨hx15_0, hf15_0⟩ := Kd.R_celln 0 HQ19.out ((ji9) : Int) p15 q15
     replace p15 := eq_true p15
     replace q15 := eq_true q15
     have HP20 := Kd.R_putn HQ19.out ((ji9) : Int) (rd x0_2 x9_2)
     rw [← Ny246.out] at HP20
     have HQ20 := Aside0.mk HP20
     clear HP20
     refine start_ (n := 18) (S := fun w' => w'.cell? ⟨go14, ((ji9)).toNat, none⟩ = some (.int .i64 (rd x0_2 (ji9))) ∧ w'.cell? ⟨go14, (x9_2).toNat, none⟩ = some (.int .i64 (rd x0_2 x9_2))) (ds := [15, 17]) ba8_18 (by kernel_rfl) rfl rfl ⟨hx243_0, hx244_0⟩ (fun hHeld => ?_); refine with_tabW slices_insertionSortCmpFunc_int.tab6 slices_insertionSortCmpFunc_int.bits6 (fun HT_ HW_ => ?_)
     generalize w16.drew = w18 at HO_0 HK HB GG14 HQ19 HQ20 hf14_0 hf15_0 hx14_0 hx15_0 hx240_0 hx241_0 hx243_0 hx244_0 hHeld ⊢
     refine pz_ 0 37 ba8_19 HT_ ?_
     refine pz_ 1 38 ba8_20 HT_ ?_
     refine pz_ 2 39 ba8_21 HT_ ?_
     refine pz_ 3 40 ba8_22 HT_ ?_
     refine pz_ 4 41 ba8_23 HT_ ?_
     refine pz_ 5 42 ba8_24 HT_ ?_
     refine pz_ 6 43 ba8_25 HT_ ?_
     refine pz_ 7 44 ba8_26 HT_ ?_
     refine pz_ 8 45 ba8_27 HT_ ?_
     refine pz_ 10 47 ba8_28 HT_ ?_
     refine pz_ 11 48 ba8_29 HT_ ?_
     refine pz_ 12 49 ba8_30 HT_ ?_
     refine pt_ 9 46 ba8_31 HT_ HW_ hHeld ?_
     refine pt_ 13 50 ba8_32 HT_ HW_ hHeld ?_
     refine pz_ 14 51 ba8_33 HT_ ?_
     refine last_ (i := 15) (N := none) ba8_34 rfl rfl (one_of HT_.out (by kernel_rfl)) (by decide) (fun K hK => ?_)
     refine skip_ (w1 := ?_) (by rfl) rfl ?_ ?_
     rotate_left; · go_simp; rfl
     refine hK.out _ _ ?_
     clear hK K
     refine pz_ 16 52 ba8_35 HT_ ?_
     refine last_ (i := 17) (N := none) ba8_36 rfl rfl (one_of HT_.out (by kernel_rfl)) (by decide) (fun K hK => ?_)
     refine skip_ (w1 := ?_) (by rfl) rfl ?_ ?_
     rotate_left; · go_simp; rfl
     refine hK.out _ _ ?_
     clear hK K
     refine done_ (done_of HT_.out (by kernel_rfl)) ?_
     try go_wp2
     go_roundg k2
     case measure => have := HK1.out; have := HK2.out; omega
     case rel => exact ⟨(y246), (ji9), (by first | rfl | (simp; done) | (simp only [← hji9] <;> (first | rfl | simp)) | (simp [*]; done)), H', ⟨by have := HK1.out; have := HK2.out; omega⟩, ⟨by (with_reducible repeat (first | apply Kd.R_alloc | apply Kd.R_drewN | apply Kd.R_drew)); exact HQ20.out⟩, ⟨by repeat (first | (with_reducible first | exact HK.out | apply Kept.alloc | apply Kept.drewN | apply Kept.drew | refine Kept.setCell ?_ HMgo14.out _ | refine Kept.setCell ?_ HMgo14.out _) | exact HK.out)⟩, ⟨by repeat (first | (with_reducible first | exact HB.out | apply below_alloc | apply pw_below_drewN | apply below_drew1 | refine below_set ?_ GB14.out | refine below_set ?_ GB14.out) | exact HB.out)⟩⟩

end Go.Proofs.Ythmahcohcphljaa.QFnShares
