/- Contracts of functions that the law reaches: what each call returns and what it leaves in memory. Made by this session over the print of the kit. -/
import Derived.Test.YthmahcohcphljaaQFnExactSharesx0
import Derived.Test.YthmahcohcphljaaQFnExactSharesx9
namespace Go.Proofs.Ythmahcohcphljaa.QFnExactShares
open Go.RowKit Go.Proofs.YthmahcohcphljaaH.PrintWords Go.Proofs.YthmahcohcphljaaH.PrintLast Go.Proofs.YthmahcohcphljaaH.PrintMore
attribute [local go_sem] max2_int min2_int max_two min_two max_three min_three max_four min_four   -- for this text's walks alone
set_option linter.unusedVariables false
set_option linter.unusedSimpArgs false
abbrev tb10 : Bool := true
abbrev fb10 : Bool := false
def ba10_0 : Array Bool := #[fb10,fb10,fb10,fb10,fb10,fb10,fb10,fb10,fb10,fb10,fb10,fb10,fb10,fb10,fb10,fb10,fb10]
def ba10_1 : Array Bool := #[tb10,fb10,fb10,fb10,fb10,fb10,fb10,fb10,fb10,fb10,fb10,fb10,fb10,fb10,fb10,fb10,fb10]
def ba10_2 : Array Bool := #[tb10,tb10,fb10,fb10,fb10,fb10,fb10,fb10,fb10,fb10,fb10,fb10,fb10,fb10,fb10,fb10,fb10]
def ba10_3 : Array Bool := #[tb10,tb10,tb10,fb10,fb10,fb10,fb10,fb10,fb10,fb10,fb10,fb10,fb10,fb10,fb10,fb10,fb10]
def ba10_4 : Array Bool := #[tb10,tb10,tb10,tb10,fb10,fb10,fb10,fb10,fb10,fb10,fb10,fb10,fb10,fb10,fb10,fb10,fb10]
def ba10_5 : Array Bool := #[tb10,tb10,tb10,tb10,tb10,fb10,fb10,fb10,fb10,fb10,fb10,fb10,fb10,fb10,fb10,fb10,fb10]
def ba10_6 : Array Bool := #[tb10,tb10,tb10,tb10,tb10,tb10,fb10,fb10,fb10,fb10,fb10,fb10,fb10,fb10,fb10,fb10,fb10]
def ba10_7 : Array Bool := #[tb10,tb10,tb10,tb10,tb10,tb10,tb10,fb10,fb10,fb10,fb10,fb10,fb10,fb10,fb10,fb10,fb10]
def ba10_8 : Array Bool := #[tb10,tb10,tb10,tb10,tb10,tb10,tb10,tb10,fb10,fb10,fb10,fb10,fb10,fb10,fb10,fb10,fb10]
def ba10_9 : Array Bool := #[tb10,tb10,tb10,tb10,tb10,tb10,tb10,tb10,fb10,tb10,fb10,fb10,fb10,fb10,fb10,fb10,fb10]
def ba10_10 : Array Bool := #[tb10,tb10,tb10,tb10,tb10,tb10,tb10,tb10,fb10,tb10,tb10,fb10,fb10,fb10,fb10,fb10,fb10]
def ba10_11 : Array Bool := #[tb10,tb10,tb10,tb10,tb10,tb10,tb10,tb10,fb10,tb10,tb10,tb10,fb10,fb10,fb10,fb10,fb10]
def ba10_12 : Array Bool := #[tb10,tb10,tb10,tb10,tb10,tb10,tb10,tb10,fb10,tb10,tb10,tb10,tb10,fb10,fb10,fb10,fb10]
def ba10_13 : Array Bool := #[tb10,tb10,tb10,tb10,tb10,tb10,tb10,tb10,tb10,tb10,tb10,tb10,tb10,fb10,fb10,fb10,fb10]
def ba10_14 : Array Bool := #[tb10,tb10,tb10,tb10,tb10,tb10,tb10,tb10,tb10,tb10,tb10,tb10,tb10,tb10,fb10,fb10,fb10]
def ba10_15 : Array Bool := #[tb10,tb10,tb10,tb10,tb10,tb10,tb10,tb10,tb10,tb10,tb10,tb10,tb10,tb10,tb10,fb10,fb10]
def ba10_16 : Array Bool := #[tb10,tb10,tb10,tb10,tb10,tb10,tb10,tb10,tb10,tb10,tb10,tb10,tb10,tb10,tb10,tb10,fb10]
def ba10_17 : Array Bool := #[tb10,tb10,tb10,tb10,tb10,tb10,tb10,tb10,tb10,tb10,tb10,tb10,tb10,tb10,tb10,tb10,tb10]
def ba10_18 : Array Bool := #[fb10,fb10,fb10,fb10,fb10,fb10,fb10,fb10,fb10,fb10,fb10,fb10,fb10,fb10,fb10,fb10,fb10,fb10]
def ba10_19 : Array Bool := #[tb10,fb10,fb10,fb10,fb10,fb10,fb10,fb10,fb10,fb10,fb10,fb10,fb10,fb10,fb10,fb10,fb10,fb10]
def ba10_20 : Array Bool := #[tb10,tb10,fb10,fb10,fb10,fb10,fb10,fb10,fb10,fb10,fb10,fb10,fb10,fb10,fb10,fb10,fb10,fb10]
def ba10_21 : Array Bool := #[tb10,tb10,tb10,fb10,fb10,fb10,fb10,fb10,fb10,fb10,fb10,fb10,fb10,fb10,fb10,fb10,fb10,fb10]
def ba10_22 : Array Bool := #[tb10,tb10,tb10,tb10,fb10,fb10,fb10,fb10,fb10,fb10,fb10,fb10,fb10,fb10,fb10,fb10,fb10,fb10]
def ba10_23 : Array Bool := #[tb10,tb10,tb10,tb10,tb10,fb10,fb10,fb10,fb10,fb10,fb10,fb10,fb10,fb10,fb10,fb10,fb10,fb10]
def ba10_24 : Array Bool := #[tb10,tb10,tb10,tb10,tb10,tb10,fb10,fb10,fb10,fb10,fb10,fb10,fb10,fb10,fb10,fb10,fb10,fb10]
def ba10_25 : Array Bool := #[tb10,tb10,tb10,tb10,tb10,tb10,tb10,fb10,fb10,fb10,fb10,fb10,fb10,fb10,fb10,fb10,fb10,fb10]
def ba10_26 : Array Bool := #[tb10,tb10,tb10,tb10,tb10,tb10,tb10,tb10,fb10,fb10,fb10,fb10,fb10,fb10,fb10,fb10,fb10,fb10]
def ba10_27 : Array Bool := #[tb10,tb10,tb10,tb10,tb10,tb10,tb10,tb10,tb10,fb10,fb10,fb10,fb10,fb10,fb10,fb10,fb10,fb10]
def ba10_28 : Array Bool := #[tb10,tb10,tb10,tb10,tb10,tb10,tb10,tb10,tb10,fb10,tb10,fb10,fb10,fb10,fb10,fb10,fb10,fb10]
def ba10_29 : Array Bool := #[tb10,tb10,tb10,tb10,tb10,tb10,tb10,tb10,tb10,fb10,tb10,tb10,fb10,fb10,fb10,fb10,fb10,fb10]
def ba10_30 : Array Bool := #[tb10,tb10,tb10,tb10,tb10,tb10,tb10,tb10,tb10,fb10,tb10,tb10,tb10,fb10,fb10,fb10,fb10,fb10]
def ba10_31 : Array Bool := #[tb10,tb10,tb10,tb10,tb10,tb10,tb10,tb10,tb10,tb10,tb10,tb10,tb10,fb10,fb10,fb10,fb10,fb10]
def ba10_32 : Array Bool := #[tb10,tb10,tb10,tb10,tb10,tb10,tb10,tb10,tb10,tb10,tb10,tb10,tb10,tb10,fb10,fb10,fb10,fb10]
def ba10_33 : Array Bool := #[tb10,tb10,tb10,tb10,tb10,tb10,tb10,tb10,tb10,tb10,tb10,tb10,tb10,tb10,tb10,fb10,fb10,fb10]
def ba10_34 : Array Bool := #[tb10,tb10,tb10,tb10,tb10,tb10,tb10,tb10,tb10,tb10,tb10,tb10,tb10,tb10,tb10,tb10,fb10,fb10]
def ba10_35 : Array Bool := #[tb10,tb10,tb10,tb10,tb10,tb10,tb10,tb10,tb10,tb10,tb10,tb10,tb10,tb10,tb10,tb10,tb10,fb10]
def ba10_36 : Array Bool := #[tb10,tb10,tb10,tb10,tb10,tb10,tb10,tb10,tb10,tb10,tb10,tb10,tb10,tb10,tb10,tb10,tb10,tb10]
def ba10_37 : Array Bool := #[tb10,tb10,tb10,tb10,tb10,tb10,tb10,tb10,tb10,fb10,fb10,fb10,fb10,fb10,fb10,fb10,fb10]
def ba10_38 : Array Bool := #[tb10,tb10,tb10,tb10,tb10,tb10,tb10,tb10,tb10,tb10,fb10,fb10,fb10,fb10,fb10,fb10,fb10]
def ba10_39 : Array Bool := #[tb10,tb10,tb10,tb10,tb10,tb10,tb10,tb10,tb10,tb10,tb10,fb10,fb10,fb10,fb10,fb10,fb10]
def ba10_40 : Array Bool := #[tb10,tb10,tb10,tb10,tb10,tb10,tb10,tb10,tb10,tb10,tb10,tb10,fb10,fb10,fb10,fb10,fb10]

/-! ### slices_insertionSortCmpFunc_int: function 88 -/
mutual
def slices_insertionSortCmpFunc_int.l0 : Nat → List Int → Int → Int → Int → List (List (List Int)) → List Int → Option (List Int)
 | 0, _, _, _, _, _, _ => none
 | k + 1, x0, x1, x2, x8, x930, x931 => if x8 < x2 then (slices_insertionSortCmpFunc_int.l1 k x0 x1 x2 x8 x8 x930 x931) else (some x0)
def slices_insertionSortCmpFunc_int.l1 : Nat → List Int → Int → Int → Int → Int → List (List (List Int)) → List Int → Option (List Int)
 | 0, _, _, _, _, _, _, _ => none
 | k + 1, x0, x1, x2, x8, x9, x930, x931 => if x9 > x1 then (if 0 ≤ x9 then (if x9 < (x0.length : Int) then (if 0 ≤ (wrap64 (x9 - 1)) then (if (wrap64 (x9 - 1)) < (x0.length : Int) then ((impl_Shares_1.f (rd x0 x9) (rd x0 (wrap64 (x9 - 1))) x930 x931).bind fun t279 => (if t279 < 0 then (slices_insertionSortCmpFunc_int.l1 k ((x0.set (x9 : Int).toNat (rd x0 (wrap64 (x9 - 1)))).set ((wrap64 (x9 - 1)) : Int).toNat (rd x0 x9)) x1 x2 x8 (wrap64 (x9 - 1)) x930 x931) else (slices_insertionSortCmpFunc_int.l0 k x0 x1 x2 (wrap64 (x8 + 1)) x930 x931))) else (none)) else (none)) else (none)) else (none)) else (slices_insertionSortCmpFunc_int.l0 k x0 x1 x2 (wrap64 (x8 + 1)) x930 x931)
end
def slices_insertionSortCmpFunc_int.f (k : Nat) (l0 : List Int) (a1 : Int) (a2 : Int) (l3_0 : List (List (List Int))) (l3_1 : List Int) : Option (List Int) := slices_insertionSortCmpFunc_int.l0 k l0 a1 a2 (wrap64 (a1 + 1)) l3_0 l3_1
theorem slices_insertionSortCmpFunc_int.mono_l : ∀ k, (∀ y0 y1 y2 y3 y4 y5, LeO (slices_insertionSortCmpFunc_int.l0 k y0 y1 y2 y3 y4 y5) (slices_insertionSortCmpFunc_int.l0 (k + 1) y0 y1 y2 y3 y4 y5)) ∧ (∀ y0 y1 y2 y3 y4 y5 y6, LeO (slices_insertionSortCmpFunc_int.l1 k y0 y1 y2 y3 y4 y5 y6) (slices_insertionSortCmpFunc_int.l1 (k + 1) y0 y1 y2 y3 y4 y5 y6))
 | 0 => ⟨fun _ _ _ _ _ _ r h => by simp [slices_insertionSortCmpFunc_int.l0] at h, fun _ _ _ _ _ _ _ r h => by simp [slices_insertionSortCmpFunc_int.l1] at h⟩
 | k + 1 => by
  obtain ⟨ih0, ih1⟩ := slices_insertionSortCmpFunc_int.mono_l k
  refine ⟨?_, ?_⟩
  ·intro y0 y1 y2 y3 y4 y5
   unfold slices_insertionSortCmpFunc_int.l0
   repeat' first
   | (with_reducible exact ih0 _ _ _ _ _ _)
   | (with_reducible exact ih1 _ _ _ _ _ _ _)
   | (with_reducible exact LeO.refl _)
   | (with_reducible exact LeO.none _)
   | (with_reducible refine LeO.ite ?_ ?_)
   | (with_reducible refine LeO.bind ?_ (fun _ => ?_))
   | exact ih0 _ _ _ _ _ _
   | exact ih1 _ _ _ _ _ _ _
   | exact LeO.none _
   | refine LeO.ite ?_ ?_
   | refine LeO.bind ?_ (fun _ => ?_)
  ·intro y0 y1 y2 y3 y4 y5 y6
   unfold slices_insertionSortCmpFunc_int.l1
   repeat' first
   | (with_reducible exact ih0 _ _ _ _ _ _)
   | (with_reducible exact ih1 _ _ _ _ _ _ _)
   | (with_reducible exact LeO.refl _)
   | (with_reducible exact LeO.none _)
   | (with_reducible refine LeO.ite ?_ ?_)
   | (with_reducible refine LeO.bind ?_ (fun _ => ?_))
   | exact ih0 _ _ _ _ _ _
   | exact ih1 _ _ _ _ _ _ _
   | exact LeO.none _
   | refine LeO.ite ?_ ?_
   | refine LeO.bind ?_ (fun _ => ?_)
theorem slices_insertionSortCmpFunc_int.mono : ∀ a0 a1 a2 a3 a4 k, LeO (slices_insertionSortCmpFunc_int.f k a0 a1 a2 a3 a4) (slices_insertionSortCmpFunc_int.f (k + 1) a0 a1 a2 a3 a4) := by
 intro a0 a1 a2 a3 a4 k
 obtain ⟨ih0, ih1⟩ := slices_insertionSortCmpFunc_int.mono_l k
 unfold slices_insertionSortCmpFunc_int.f
 repeat' first
   | (with_reducible exact ih0 _ _ _ _ _ _)
   | (with_reducible exact ih1 _ _ _ _ _ _ _)
   | (with_reducible exact LeO.refl _)
   | (with_reducible exact LeO.none _)
   | (with_reducible refine LeO.ite ?_ ?_)
   | (with_reducible refine LeO.bind ?_ (fun _ => ?_))
   | exact ih0 _ _ _ _ _ _
   | exact ih1 _ _ _ _ _ _ _
   | exact LeO.none _
   | refine LeO.ite ?_ ?_
   | refine LeO.bind ?_ (fun _ => ?_)
def slices_insertionSortCmpFunc_int.T4 : Bool × List (List Nat × List Nat) := (true, [([], []), ([], []), ([0, 1], [0, 1]), ([2], [2]), ([3], [3]), ([3], [3]), ([3], [3]), ([5, 6, 3], [3, 5, 6]), ([7, 3], [3, 7]), ([3], [3]), ([3], [3]), ([10, 3], [3, 10]), ([9, 11, 3], [3, 9, 11]), ([12, 3], [3, 12]), ([4, 8, 13, 3, 3], [3, 4, 8, 13]), ([14, 3], [3, 14]), ([3, 15], [3, 15])])
def slices_insertionSortCmpFunc_int.B4 : List Nat := [0, 0, 3, 7, 15, 15, 15, 111, 239, 15, 15, 1039, 3599, 7695, 16383, 32767, 65535]
theorem slices_insertionSortCmpFunc_int.tab4 : rtab .any (opsOf Try.f88 4) = slices_insertionSortCmpFunc_int.T4 := by kernel_rfl
theorem slices_insertionSortCmpFunc_int.bits4 : waitsOk slices_insertionSortCmpFunc_int.T4.2 slices_insertionSortCmpFunc_int.B4 = true := by kernel_rfl
def slices_insertionSortCmpFunc_int.T6 : Bool × List (List Nat × List Nat) := (true, [([], []), ([], []), ([], []), ([], []), ([3], [3]), ([], []), ([], []), ([6], [6]), ([5, 7], [5, 7]), ([8], [8]), ([], []), ([], []), ([10, 11], [10, 11]), ([12], [12]), ([0, 1, 0, 1, 5, 6, 7, 8, 9, 13], [0, 1]), ([14, 9, 0, 1, 5, 6, 7, 8, 9, 13], [9, 14]), ([2, 4, 0, 1, 2, 3, 4, 5, 6, 7, 8, 9, 10, 11, 12, 13, 14, 15], [2, 4]), ([16, 13, 15, 0, 1, 2, 3, 4, 5, 6, 7, 8, 9, 10, 11, 12, 13, 14, 15], [13, 16])])
def slices_insertionSortCmpFunc_int.B6 : List Nat := [0, 0, 0, 0, 8, 0, 0, 64, 224, 480, 0, 0, 3072, 7168, 16355, 32739, 65535, 131071]
theorem slices_insertionSortCmpFunc_int.tab6 : rtab .any (opsOf Try.f88 6) = slices_insertionSortCmpFunc_int.T6 := by kernel_rfl
theorem slices_insertionSortCmpFunc_int.bits6 : waitsOk slices_insertionSortCmpFunc_int.T6.2 slices_insertionSortCmpFunc_int.B6 = true := by kernel_rfl
set_option maxHeartbeats 8000000 in
set_option maxRecDepth 100000 in
theorem slices_insertionSortCmpFunc_int.calls (k : Nat) (P0_ : Nat → Prop) (u9000_ : Value) (l0 : List Int) (a1 : Int) (a2 : Int) (A3_0 : Option Addr) (l3_0 : List (List (List Int))) (A3_1 : Option Addr) (l3_1 : List Int) (r : List Int) (w0 w : World) (hB : Below w0.heap.size w0 w) (ho0 : Kd.R (Kd.int .i64) 3 w w0.heap.size P0_ u9000_ l0) (hr3_0 : ∀ W_, Kept w W_ (fun k_ => P0_ k_) → Kd.C (Kd.slice 26 (Kd.slice 3 (Kd.int .i64))) W_ A3_0 l3_0.length l3_0) (hr3_1 : ∀ W_, Kept w W_ (fun k_ => P0_ k_) → Kd.C (Kd.int .i64) W_ A3_1 l3_1.length l3_1) (h : slices_insertionSortCmpFunc_int.f k l0 a1 a2 l3_0 l3_1 = some r) :
  Calls Try.prog 88 #[u9000_, .int .i64 a1, .int .i64 a2, .func (.func 57) #[] #[.pointer A3_0, .pointer A3_1]] w fun e w' => e = .returned (.tuple #[]) ∧ Kd.R (Kd.int .i64) 3 w' w0.heap.size (fun k_ => (P0_ k_ ∨ w.heap.size ≤ k_)) u9000_ r ∧ Below w0.heap.size w0 w' ∧ Kept w w' (fun k_ => P0_ k_) := by
 have HO0 := Aside0.mk (show Kd.R (Kd.int .i64) 3 w w0.heap.size (fun k_ => (P0_ k_ ∨ w.heap.size ≤ k_)) u9000_ l0 from Kd.R_mono ho0 (fun k_ hk => (.inl hk)))
 have HR3_0 := Aside0.mk hr3_0
 clear hr3_0
 have HR3_1 := Aside0.mk hr3_1
 clear hr3_1
 have HK := Aside0.mk (Kept.refl w (fun k_ => P0_ k_))
 have HW0 := Aside0.mk hB.size
 have HB := Aside0.mk hB
 clear hB
 have H : (slices_insertionSortCmpFunc_int.l0 k l0 a1 a2 (wrap64 (a1 + 1)) l3_0 l3_1) = some r := h
 clear h
 have H' := Aside0.mk H
 clear H
 go_enter Try.func88, Try.ntmps88
 go_wp2
 go_loopg [8] k (fun kq v8 w' => ∃ (x0_1 : List Int) (x8_1 : Int), v8 = .int .i64 x8_1 ∧ Aside0 (slices_insertionSortCmpFunc_int.l0 kq x0_1 a1 a2 x8_1 l3_0 l3_1 = some r) ∧ Aside0 (kq ≤ k) ∧ Aside0 (Kd.R (Kd.int .i64) 3 w' w0.heap.size (fun k_ => (P0_ k_ ∨ w.heap.size ≤ k_)) u9000_ x0_1) ∧ Aside0 (Kept w w' (fun k_ => P0_ k_)) ∧ Aside0 (Below w0.heap.size w0 w'))
 case atStart => exact ⟨(l0), (wrap64 (a1 + 1)), (by first | rfl | (simp; done) | (simp [*]; done)), H', ⟨Nat.le_refl _⟩, ⟨by (with_reducible repeat (first | apply Kd.R_alloc | apply Kd.R_drewN | apply Kd.R_drew)); exact HO0.out⟩, ⟨by repeat (first | (with_reducible first | exact HK.out | apply Kept.alloc | apply Kept.drewN | apply Kept.drew) | exact HK.out)⟩, ⟨by repeat (first | (with_reducible first | exact HB.out | apply below_alloc | apply pw_below_drewN | apply below_drew1) | exact HB.out)⟩⟩
 case round =>
  clear H'
  try clear p2
  obtain ⟨x0_1, x8_1, rfl, HA, HK1, HO_0, HK, HB⟩ := hrel
  cases gk with
  | zero => exact absurd HA.out (by simp [slices_insertionSortCmpFunc_int.l0])
  | succ k1 =>
   have H := HA.out
   clear HA
   simp only [slices_insertionSortCmpFunc_int.l0] at H
   by_cases c5 : x8_1 < a2
   rotate_left
   ·rw [if_neg c5] at H
    have c5b0 : decide (x8_1 < a2) = false := decide_eq_false c5
    clear c5
    obtain rfl := Option.some.inj H
    go_wp2
    first | go_end0 | ((try simp only [Exit.inBlock, Exit.then]); refine bodyPost_ret (results_none rfl _ _ _) rfl ?_)
    exact ⟨by first | rfl | (simp [errW_none, errW_some] <;> rfl) | (simp [*, errW_none, errW_some] <;> rfl), by (with_reducible repeat (first | apply Kd.R_alloc | apply Kd.R_drewN | apply Kd.R_drew)); exact HO_0.out, by repeat (first | (with_reducible first | exact HB.out | apply below_alloc | apply pw_below_drewN | apply below_drew1) | exact HB.out), by repeat (first | (with_reducible first | exact HK.out | apply Kept.alloc | apply Kept.drewN | apply Kept.drew) | exact HK.out)⟩
   rw [if_pos c5] at H
   have c5b0 : decide (x8_1 < a2) = true := decide_eq_true c5
   clear c5
   have H' := Aside0.mk H
   clear H
   go_wp2
   go_loopg [9] k1 (fun kq v9 w' => ∃ (x0_2 : List Int) (x9_2 : Int), v9 = .int .i64 x9_2 ∧ Aside0 (slices_insertionSortCmpFunc_int.l1 kq x0_2 a1 a2 x8_1 x9_2 l3_0 l3_1 = some r) ∧ Aside0 (kq ≤ k1) ∧ Aside0 (Kd.R (Kd.int .i64) 3 w' w0.heap.size (fun k_ => (P0_ k_ ∨ w.heap.size ≤ k_)) u9000_ x0_2) ∧ Aside0 (Kept w w' (fun k_ => P0_ k_)) ∧ Aside0 (Below w0.heap.size w0 w'))
   case atStart => exact ⟨(x0_1), (x8_1), (by first | rfl | (simp; done) | (simp [*]; done)), H', ⟨Nat.le_refl _⟩, ⟨by (with_reducible repeat (first | apply Kd.R_alloc | apply Kd.R_drewN | apply Kd.R_drew)); exact HO_0.out⟩, ⟨by repeat (first | (with_reducible first | exact HK.out | apply Kept.alloc | apply Kept.drewN | apply Kept.drew) | exact HK.out)⟩, ⟨by repeat (first | (with_reducible first | exact HB.out | apply below_alloc | apply pw_below_drewN | apply below_drew1) | exact HB.out)⟩⟩
   case round =>
    clear H'
    try clear p2
    try clear c5
    try clear c5b0
    try clear p2
    obtain ⟨x0_2, x9_2, rfl, HA, HK2, HO_0, HK, HB⟩ := hrel
    cases gk with
    | zero => exact absurd HA.out (by simp [slices_insertionSortCmpFunc_int.l1])
    | succ k2 =>
     have H := HA.out
     clear HA
     simp only [slices_insertionSortCmpFunc_int.l1] at H
     by_cases c6 : x9_2 > a1
     rotate_left
     ·rw [if_neg c6] at H
      have c6b0 : decide (a1 < x9_2) = false := decide_eq_false c6
      clear c6
      have H' := Aside0.mk H
      clear H
      try go_wp2
      replace HO_0 := Aside0.mk (Kd.R_drew HO_0.out)
      replace HK := Aside0.mk (Kept.drew HK.out)
      replace HB := Aside0.mk (below_drew1 HB.out)
      refine start_ (n := 17) (S := fun w' => True) (ds := []) ba10_0 (by kernel_rfl) rfl rfl trivial (fun hHeld => ?_); refine with_tabW slices_insertionSortCmpFunc_int.tab4 slices_insertionSortCmpFunc_int.bits4 (fun HT_ HW_ => ?_)
      generalize wr.drew = w23 at HO_0 HK HB hHeld ⊢
      refine pz_ 0 18 ba10_1 HT_ ?_
      refine pz_ 1 19 ba10_2 HT_ ?_
      refine pz_ 2 20 ba10_3 HT_ ?_
      refine pz_ 3 21 ba10_4 HT_ ?_
      refine pu_ 4 22 ba10_5 HT_ ?_
      refine pu_ 5 23 ba10_6 HT_ ?_
      refine pu_ 6 24 ba10_7 HT_ ?_
      refine pu_ 7 25 ba10_8 HT_ ?_
      refine pu_ 8 26 ba10_37 HT_ ?_
      refine pu_ 9 27 ba10_38 HT_ ?_
      refine pu_ 10 28 ba10_39 HT_ ?_
      refine pu_ 11 29 ba10_40 HT_ ?_
      refine pu_ 12 30 ba10_13 HT_ ?_
      refine pu_ 13 31 ba10_14 HT_ ?_
      refine pu_ 14 32 ba10_15 HT_ ?_
      refine pu_ 15 33 ba10_16 HT_ ?_
      refine pz_ 16 34 ba10_17 HT_ ?_
      refine done_ (done_of HT_.out (by kernel_rfl)) ?_
      try go_wp2
      go_roundg k2
      case measure => have := HK1.out; have := HK2.out; omega
      case rel => exact ⟨(x0_2), (wrap64 (x8_1 + 1)), (by first | rfl | (simp; done) | (simp [*]; done)), H', ⟨by have := HK1.out; have := HK2.out; omega⟩, ⟨by (with_reducible repeat (first | apply Kd.R_alloc | apply Kd.R_drewN | apply Kd.R_drew)); exact HO_0.out⟩, ⟨by repeat (first | (with_reducible first | exact HK.out | apply Kept.alloc | apply Kept.drewN | apply Kept.drew) | exact HK.out)⟩, ⟨by repeat (first | (with_reducible first | exact HB.out | apply below_alloc | apply pw_below_drewN | apply below_drew1) | exact HB.out)⟩⟩
     rw [if_pos c6] at H
     have c6b0 : decide (a1 < x9_2) = true := decide_eq_true c6
     clear c6
     by_cases c7 : 0 ≤ x9_2
     rotate_left
     ·rw [if_neg c7] at H
      exact absurd H (by simp)
     rw [if_pos c7] at H
     have c7b0 : decide (0 ≤ x9_2) = true := decide_eq_true c7
     clear c7
     by_cases c8 : x9_2 < (x0_2.length : Int)
     rotate_left
     ·rw [if_neg c8] at H
      exact absurd H (by simp)
     rw [if_pos c8] at H
     have c8b0 : decide (x9_2 < (x0_2.length : Int)) = true := decide_eq_true c8
     clear c8
     obtain ⟨ji9, hji9⟩ : ∃ j_ : Int, (wrap64 (x9_2 - 1)) = j_ := ⟨_, rfl⟩
     first | rw [hji9] at H | simp only [hji9] at H
     have hji9w : (IntKind.i64.wrap (x9_2 - 1)) = ji9 := (i64_w _).trans hji9
     by_cases c10 : 0 ≤ (ji9)
     rotate_left
     ·rw [if_neg c10] at H
      exact absurd H (by simp)
     rw [if_pos c10] at H
     have c10b0 : decide (0 ≤ (ji9)) = true := decide_eq_true c10
     clear c10
     by_cases c11 : (ji9) < (x0_2.length : Int)
     rotate_left
     ·rw [if_neg c11] at H
      exact absurd H (by simp)
     rw [if_pos c11] at H
     have c11b0 : decide ((ji9) < (x0_2.length : Int)) = true := decide_eq_true c11
     clear c11
     replace H := Option.bind_eq_some_iff.mp H
     obtain ⟨t279, A120, H⟩ := H
     have A12 := Aside0.mk A120
     clear A120
     by_cases c13 : t279 < 0
     rotate_left
     ·rw [if_neg c13] at H
      have c13b0 : decide (t279 < 0) = false := decide_eq_false c13
      clear c13
      have H' := Aside0.mk H
      clear H
      try go_wp2
      replace HO_0 := Aside0.mk (Kd.R_drew HO_0.out)
      replace HK := Aside0.mk (Kept.drew HK.out)
      replace HB := Aside0.mk (below_drew1 HB.out)
      obtain ⟨Ao22, co22, eo22⟩ := Kd.R_slice HO_0.out
      (first | subst eo22 | (injection eo22 with f1_ f2_ f3_; have f4_ := f1_.symm; have f5_ := f3_.symm; clear f1_ f2_ f3_; subst f4_; subst f5_))
      have p277 : 0 ≤ (x9_2 : Int) := of_decide_eq_true (by first | (with_reducible assumption) | assumption)
      have q277 : x9_2 < (x0_2.length : Int) := of_decide_eq_true (by first | (with_reducible assumption) | assumption)
      obtain ⟨ad277, e277, hx277_0⟩ := Kd.at_int (Kd.R_reads' HO_0.out).2.2 x9_2 p277 q277
      cases e277
      replace p277 := eq_true p277
      replace q277 := eq_true q277
      have p278 : 0 ≤ ((ji9) : Int) := of_decide_eq_true (by first | (with_reducible assumption) | assumption)
      have q278 : (ji9) < (x0_2.length : Int) := of_decide_eq_true (by first | (with_reducible assumption) | assumption)
      obtain ⟨ad278, e278, hx278_0⟩ := Kd.at_int (Kd.R_reads' HO_0.out).2.2 (ji9) p278 q278
      obtain rfl : ad277 = ad278 := (by injection e278)
      replace p278 := eq_true p278
      replace q278 := eq_true q278
      refine start_ (n := 17) (S := fun w' => w'.cell? (ad277.add (x9_2).toNat) = some (.int .i64 (rd x0_2 x9_2)) ∧ w'.cell? (ad277.add ((ji9)).toNat) = some (.int .i64 (rd x0_2 (ji9)))) (ds := []) ba10_0 (by kernel_rfl) rfl rfl ⟨hx277_0, hx278_0⟩ (fun hHeld => ?_); refine with_tabW slices_insertionSortCmpFunc_int.tab4 slices_insertionSortCmpFunc_int.bits4 (fun HT_ HW_ => ?_)
      generalize wr.drew = w21 at HO_0 HK HB hx277_0 hx278_0 hHeld ⊢
      refine pz_ 0 18 ba10_1 HT_ ?_
      refine pz_ 1 19 ba10_2 HT_ ?_
      refine pz_ 2 20 ba10_3 HT_ ?_
      refine pz_ 3 21 ba10_4 HT_ ?_
      refine pz_ 4 22 ba10_5 HT_ ?_
      refine pz_ 5 23 ba10_6 HT_ ?_
      refine pz_ 6 24 ba10_7 HT_ ?_
      refine pz_ 7 25 ba10_8 HT_ ?_
      refine pz_ 9 27 ba10_9 HT_ ?_
      refine pz_ 10 28 ba10_10 HT_ ?_
      refine pz_ 11 29 ba10_11 HT_ ?_
      refine pz_ 12 30 ba10_12 HT_ ?_
      refine pt_ 8 26 ba10_13 HT_ HW_ hHeld ?_
      refine pt_ 13 31 ba10_14 HT_ HW_ hHeld ?_
      refine one_ (i := 14) (N := some 32) ba10_15 rfl rfl (one_of HT_.out (by kernel_rfl)) (by decide) (fun K hK => ?_)
      refine goesUc_ Try.func57 (by kernel_rfl) rfl #[.int .i64 (rd x0_2 x9_2), .int .i64 (rd x0_2 (ji9)), .pointer A3_0, .pointer A3_1] (by rfl) rfl rfl (by (try simp only [List.map_toArray, List.map_cons, List.map_nil]); first | done | (simp only [hji9]; rfl) | rfl | (simp only [List.length_drop, List.length_take]; rfl)) ?_
      with_reducible refine (impl_Shares_1.calls (rd x0_2 x9_2) (rd x0_2 (ji9)) _ l3_0 _ l3_1 t279 _ ?side1 ?side2 A12.out).mono ?_
      (case side1 => exact Kd.C_kept_now HR3_0.out (by repeat (first | (with_reducible first | exact HK.out | apply Kept.alloc | apply Kept.drewN | apply Kept.drew) | exact HK.out)))
      (case side2 => exact Kd.C_kept_now HR3_1.out (by repeat (first | (with_reducible first | exact HK.out | apply Kept.alloc | apply Kept.drewN | apply Kept.drew) | exact HK.out)))
      rintro e w' ⟨rfl, ⟨nd, rfl⟩⟩
      refine ⟨_, rfl, ?_⟩
      refine hK.out _ _ ⟨hHeld.1, hHeld.2⟩ (fun hHeld => ?_)
      clear hK K
      refine nz_ 32 ?_
      refine pz_ 15 33 ba10_16 HT_ ?_
      refine pz_ 16 34 ba10_17 HT_ ?_
      refine done_ (done_of HT_.out (by kernel_rfl)) ?_
      try go_wp2
      go_roundg k2
      case measure => have := HK1.out; have := HK2.out; omega
      case rel => exact ⟨(x0_2), (wrap64 (x8_1 + 1)), (by first | rfl | (simp; done) | (simp [*]; done)), H', ⟨by have := HK1.out; have := HK2.out; omega⟩, ⟨by (with_reducible repeat (first | apply Kd.R_alloc | apply Kd.R_drewN | apply Kd.R_drew)); exact HO_0.out⟩, ⟨by repeat (first | (with_reducible first | exact HK.out | apply Kept.alloc | apply Kept.drewN | apply Kept.drew) | exact HK.out)⟩, ⟨by repeat (first | (with_reducible first | exact HB.out | apply below_alloc | apply pw_below_drewN | apply below_drew1) | exact HB.out)⟩⟩
     rw [if_pos c13] at H
     have c13b0 : decide (t279 < 0) = true := decide_eq_true c13
     clear c13
     obtain ⟨y282, hy282⟩ : ∃ y_ : List Int, y_ = (x0_2.set (x9_2 : Int).toNat (rd x0_2 (ji9))) := ⟨_, rfl⟩
     replace H : (slices_insertionSortCmpFunc_int.l1 k2 (y282.set ((ji9) : Int).toNat (rd x0_2 x9_2)) a1 a2 x8_1 ji9 l3_0 l3_1) = some r := by first | (rw [hy282]; with_reducible exact H) | (have H2_ := (Option.bind_some _ _).symm.trans H; rw [hy282]; with_reducible exact H2_) | (have H2_ := (Option.bind_some _ _).symm.trans H; with_reducible exact H2_) | with_reducible exact H | (rw [hy282]; exact H) | exact H
     have Ny282 := Aside0.mk hy282
     clear hy282
     obtain ⟨y283, hy283⟩ : ∃ y_ : List Int, y_ = (y282.set ((ji9) : Int).toNat (rd x0_2 x9_2)) := ⟨_, rfl⟩
     replace H : (slices_insertionSortCmpFunc_int.l1 k2 y283 a1 a2 x8_1 ji9 l3_0 l3_1) = some r := by first | (rw [hy283]; with_reducible exact H) | (have H2_ := (Option.bind_some _ _).symm.trans H; rw [hy283]; with_reducible exact H2_) | (have H2_ := (Option.bind_some _ _).symm.trans H; with_reducible exact H2_) | with_reducible exact H | (rw [hy283]; exact H) | exact H
     have Ny283 := Aside0.mk hy283
     clear hy283
     have H' := Aside0.mk H
     clear H
     try go_wp2
     replace HO_0 := Aside0.mk (Kd.R_drew HO_0.out)
     replace HK := Aside0.mk (Kept.drew HK.out)
     replace HB := Aside0.mk (below_drew1 HB.out)
     obtain ⟨Ao17, co17, eo17⟩ := Kd.R_slice HO_0.out
     (first | subst eo17 | (injection eo17 with f1_ f2_ f3_; have f4_ := f1_.symm; have f5_ := f3_.symm; clear f1_ f2_ f3_; subst f4_; subst f5_))
     have p277 : 0 ≤ (x9_2 : Int) := of_decide_eq_true (by first | (with_reducible assumption) | assumption)
     have q277 : x9_2 < (x0_2.length : Int) := of_decide_eq_true (by first | (with_reducible assumption) | assumption)
     obtain ⟨ad277, e277, hx277_0⟩ := Kd.at_int (Kd.R_reads' HO_0.out).2.2 x9_2 p277 q277
     cases e277
     replace p277 := eq_true p277
     replace q277 := eq_true q277
     have p278 : 0 ≤ ((ji9) : Int) := of_decide_eq_true (by first | (with_reducible assumption) | assumption)
     have q278 : (ji9) < (x0_2.length : Int) := of_decide_eq_true (by first | (with_reducible assumption) | assumption)
     obtain ⟨ad278, e278, hx278_0⟩ := Kd.at_int (Kd.R_reads' HO_0.out).2.2 (ji9) p278 q278
     obtain rfl : ad277 = ad278 := (by injection e278)
     replace p278 := eq_true p278
     replace q278 := eq_true q278
     refine start_ (n := 17) (S := fun w' => w'.cell? (ad277.add (x9_2).toNat) = some (.int .i64 (rd x0_2 x9_2)) ∧ w'.cell? (ad277.add ((ji9)).toNat) = some (.int .i64 (rd x0_2 (ji9)))) (ds := []) ba10_0 (by kernel_rfl) rfl rfl ⟨hx277_0, hx278_0⟩ (fun hHeld => ?_); refine with_tabW slices_insertionSortCmpFunc_int.tab4 slices_insertionSortCmpFunc_int.bits4 (fun HT_ HW_ => ?_)
     generalize wr.drew = w16 at HO_0 HK HB hx277_0 hx278_0 hHeld ⊢
     refine pz_ 0 18 ba10_1 HT_ ?_
     refine pz_ 1 19 ba10_2 HT_ ?_
     refine pz_ 2 20 ba10_3 HT_ ?_
     refine pz_ 3 21 ba10_4 HT_ ?_
     refine pz_ 4 22 ba10_5 HT_ ?_
     refine pz_ 5 23 ba10_6 HT_ ?_
     refine pz_ 6 24 ba10_7 HT_ ?_
     refine pz_ 7 25 ba10_8 HT_ ?_
     refine pz_ 9 27 ba10_9 HT_ ?_
     refine pz_ 10 28 ba10_10 HT_ ?_
     refine pz_ 11 29 ba10_11 HT_ ?_
     refine pz_ 12 30 ba10_12 HT_ ?_
     refine pt_ 8 26 ba10_13 HT_ HW_ hHeld ?_
     refine pt_ 13 31 ba10_14 HT_ HW_ hHeld ?_
     refine one_ (i := 14) (N := some 32) ba10_15 rfl rfl (one_of HT_.out (by kernel_rfl)) (by decide) (fun K hK => ?_)
     refine goesUc_ Try.func57 (by kernel_rfl) rfl #[.int .i64 (rd x0_2 x9_2), .int .i64 (rd x0_2 (ji9)), .pointer A3_0, .pointer A3_1] (by rfl) rfl rfl (by (try simp only [List.map_toArray, List.map_cons, List.map_nil]); first | done | (simp only [hji9]; rfl) | rfl | (simp only [List.length_drop, List.length_take]; rfl)) ?_
     with_reducible refine (impl_Shares_1.calls (rd x0_2 x9_2) (rd x0_2 (ji9)) _ l3_0 _ l3_1 t279 _ ?side1 ?side2 A12.out).mono ?_
     (case side1 => exact Kd.C_kept_now HR3_0.out (by repeat (first | (with_reducible first | exact HK.out | apply Kept.alloc | apply Kept.drewN | apply Kept.drew) | exact HK.out)))
     (case side2 => exact Kd.C_kept_now HR3_1.out (by repeat (first | (with_reducible first | exact HK.out | apply Kept.alloc | apply Kept.drewN | apply Kept.drew) | exact HK.out)))
     rintro e w' ⟨rfl, ⟨nd, rfl⟩⟩
     refine ⟨_, rfl, ?_⟩
     refine hK.out _ _ ⟨hHeld.1, hHeld.2⟩ (fun hHeld => ?_)
     clear hK K
     refine nz_ 32 ?_
     refine pz_ 15 33 ba10_16 HT_ ?_
     refine pz_ 16 34 ba10_17 HT_ ?_
     refine done_ (done_of HT_.out (by kernel_rfl)) ?_
     try go_wp2
     (try (rw [drewN_self w16]; generalize hq_ : World.drewN w16 _ = w16; replace HO_0 : Aside0 (Kd.R (Kd.int .i64) 3 w16 w0.heap.size (fun k_ => (P0_ k_ ∨ w.heap.size ≤ k_)) (.slice (some ad277) x0_2.length co17) x0_2) := ⟨by rw [← hq_]; exact (hd_ HO_0)⟩; replace HK : Aside0 (Kept w w16 (fun k_ => P0_ k_)) := ⟨by rw [← hq_]; exact (by repeat (first | (with_reducible first | exact HK.out | apply Kept.alloc | apply Kept.drewN | apply Kept.drew) | exact HK.out))⟩; replace HB : Aside0 (Below w0.heap.size w0 w16) := ⟨by rw [← hq_]; exact (by repeat (first | (with_reducible first | exact HB.out | apply below_alloc | apply pw_below_drewN | apply below_drew1) | exact HB.out))⟩; clear hq_))
     replace HO_0 := Aside0.mk (Kd.R_drew HO_0.out)
     replace HK := Aside0.mk (Kept.drew HK.out)
     replace HB := Aside0.mk (below_drew1 HB.out)
     have p280 : 0 ≤ ((ji9) : Int) := of_decide_eq_true (by first | (with_reducible assumption) | assumption)
     have q280 : (ji9) < (x0_2.length : Int) := of_decide_eq_true (by first | (with_reducible assumption) | assumption)
     obtain ⟨ad280, e280, hx280_0⟩ := Kd.at_int (Kd.R_reads' HO_0.out).2.2 (ji9) p280 q280
     obtain rfl : ad277 = ad280 := (by injection e280)
     replace p280 := eq_true p280
     replace q280 := eq_true q280
     have p281 : 0 ≤ (x9_2 : Int) := of_decide_eq_true (by first | (with_reducible assumption) | assumption)
     have q281 : x9_2 < (x0_2.length : Int) := of_decide_eq_true (by first | (with_reducible assumption) | assumption)
     obtain ⟨ad281, e281, hx281_0⟩ := Kd.at_int (Kd.R_reads' HO_0.out).2.2 x9_2 p281 q281
     obtain rfl : ad277 = ad281 := (by injection e281)
     replace p281 := eq_true p281
     replace q281 := eq_true q281
     have p14 : 0 ≤ (x9_2 : Int) := of_decide_eq_true (by first | (with_reducible assumption) | assumption)
     have q14 : (x9_2 : Int) < ((x0_2.length : Int) : Int) := of_decide_eq_true (by first | (with_reducible assumption) | assumption)
     obtain ⟨go14, co14, eo14, gb14, gl14, cl14, HG14⟩ := Kd.R_form HO_0.out (by omega)
     (first | cases eo14 | (injection eo14 with ea_ en_ ec_; (first | subst ea_ | (injection ea_ with ea_; subst ea_)); subst ec_; clear en_))
     have GB14 := Aside0.mk gb14
     have GG14 := Aside0.mk HG14
     clear gb14 gl14 HG14
     have HMgo14 := Aside0.mk (show (P0_ go14 ∨ w.heap.size ≤ go14) from (HO_0.out.1 _ rfl))
     (first | simp only [add_plain] at hx277_0 | skip)
     (first | simp only [add_plain] at hx278_0 | skip)
     (first | simp only [add_plain] at hx280_0 | skip)
     (first | simp only [add_plain] at hx281_0 | skip)
     obtain ⟨hx14_0, hf14_0⟩ := Kd.R_celln 0 HO_0.out (x9_2 : Int) p14 q14
     replace p14 := eq_true p14
     replace q14 := eq_true q14
     have HP19 := Kd.R_putn HO_0.out (x9_2 : Int) (rd x0_2 (ji9))
     rw [← Ny282.out] at HP19
     have HQ19 := Aside0.mk HP19
     clear HP19
     have p15 : 0 ≤ ((ji9) : Int) := of_decide_eq_true (by first | (with_reducible assumption) | assumption)
     have q15 : ((ji9) : Int) < ((x0_2.length : Int) : Int) := of_decide_eq_true (by first | (with_reducible assumption) | assumption)
     obtain ⟨hx15_0, hf15_0⟩ := Kd.R_celln 0 HQ19.out ((ji9) : Int) p15 q15
     replace p15 := eq_true p15
     replace q15 := eq_true q15
     have HP20 := Kd.R_putn HQ19.out ((ji9) : Int) (rd x0_2 x9_2)
     rw [← Ny283.out] at HP20
     have HQ20 := Aside0.mk HP20
     clear HP20
     refine start_ (n := 18) (S := fun w' => w'.cell? ⟨go14, ((ji9)).toNat, none⟩ = some (.int .i64 (rd x0_2 (ji9))) ∧ w'.cell? ⟨go14, (x9_2).toNat, none⟩ = some (.int .i64 (rd x0_2 x9_2))) (ds := [15, 17]) ba10_18 (by kernel_rfl) rfl rfl ⟨hx280_0, hx281_0⟩ (fun hHeld => ?_); refine with_tabW slices_insertionSortCmpFunc_int.tab6 slices_insertionSortCmpFunc_int.bits6 (fun HT_ HW_ => ?_)
     generalize w16.drew = w18 at HO_0 HK HB GG14 HQ19 HQ20 hf14_0 hf15_0 hx14_0 hx15_0 hx277_0 hx278_0 hx280_0 hx281_0 hHeld ⊢
     refine pz_ 0 37 ba10_19 HT_ ?_
     refine pz_ 1 38 ba10_20 HT_ ?_
     refine pz_ 2 39 ba10_21 HT_ ?_
     refine pz_ 3 40 ba10_22 HT_ ?_
     refine pz_ 4 41 ba10_23 HT_ ?_
     refine pz_ 5 42 ba10_24 HT_ ?_
     refine pz_ 6 43 ba10_25 HT_ ?_
     refine pz_ 7 44 ba10_26 HT_ ?_
     refine pz_ 8 45 ba10_27 HT_ ?_
     refine pz_ 10 47 ba10_28 HT_ ?_
     refine pz_ 11 48 ba10_29 HT_ ?_
     refine pz_ 12 49 ba10_30 HT_ ?_
     refine pt_ 9 46 ba10_31 HT_ HW_ hHeld ?_
     refine pt_ 13 50 ba10_32 HT_ HW_ hHeld ?_
     refine pz_ 14 51 ba10_33 HT_ ?_
     refine last_ (i := 15) (N := none) ba10_34 rfl rfl (one_of HT_.out (by kernel_rfl)) (by decide) (fun K hK => ?_)
     refine skip_ (w1 := ?_) (by rfl) rfl ?_ ?_
     rotate_left; · go_simp; rfl
     refine hK.out _ _ ?_
     clear hK K
     refine pz_ 16 52 ba10_35 HT_ ?_
     refine last_ (i := 17) (N := none) ba10_36 rfl rfl (one_of HT_.out (by kernel_rfl)) (by decide) (fun K hK => ?_)
     refine skip_ (w1 := ?_) (by rfl) rfl ?_ ?_
     rotate_left; · go_simp; rfl
     refine hK.out _ _ ?_
     clear hK K
     refine done_ (done_of HT_.out (by kernel_rfl)) ?_
     try go_wp2
     go_roundg k2
     case measure => have := HK1.out; have := HK2.out; omega
     case rel => exact ⟨(y283), (ji9), (by first | rfl | (simp; done) | (simp only [← hji9] <;> (first | rfl | simp)) | (simp [*]; done)), H', ⟨by have := HK1.out; have := HK2.out; omega⟩, ⟨by (with_reducible repeat (first | apply Kd.R_alloc | apply Kd.R_drewN | apply Kd.R_drew)); exact HQ20.out⟩, ⟨by repeat (first | (with_reducible first | exact HK.out | apply Kept.alloc | apply Kept.drewN | apply Kept.drew | refine Kept.setCell ?_ HMgo14.out _ | refine Kept.setCell ?_ HMgo14.out _) | exact HK.out)⟩, ⟨by repeat (first | (with_reducible first | exact HB.out | apply below_alloc | apply pw_below_drewN | apply below_drew1 | refine below_set ?_ GB14.out | refine below_set ?_ GB14.out) | exact HB.out)⟩⟩

end Go.Proofs.Ythmahcohcphljaa.QFnExactShares
