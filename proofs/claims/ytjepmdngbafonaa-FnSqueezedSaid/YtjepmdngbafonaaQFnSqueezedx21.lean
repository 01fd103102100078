/- Contracts of functions that the law reaches: what each call returns and what it leaves in memory. Made by this session over the print of the kit. -/
import Derived.Test.YtjepmdngbafonaaQFnSqueezedx0
import Derived.Test.YtjepmdngbafonaaQFnSqueezedx6
import Derived.Test.YtjepmdngbafonaaQFnSqueezedx18
import Derived.Test.YtjepmdngbafonaaQFnSqueezedx20
namespace Go.Proofs.Ytjepmdngbafonaa.QFnSqueezed
open Go.RowKit Go.Proofs.YtjepmdngbafonaaZ.PrintWords Go.Proofs.YtjepmdngbafonaaZ.PrintLast Go.Proofs.YtjepmdngbafonaaZ.PrintMore
attribute [local go_sem] max2_int min2_int max_two min_two max_three min_three max_four min_four   -- for this text's walks alone
set_option linter.unusedVariables false
set_option linter.unusedSimpArgs false
def ba21_0 := bs_ 11 0
def ba21_1 := bs_ 11 1
def ba21_2 := bs_ 11 3
def ba21_3 := bs_ 11 7
def ba21_4 := bs_ 11 15
def ba21_5 := bs_ 11 47
def ba21_6 := bs_ 11 111
def ba21_7 := bs_ 11 239
def ba21_8 := bs_ 11 255
def ba21_9 := bs_ 11 511
def ba21_10 := bs_ 11 1023
def ba21_11 := bs_ 11 2047
def ba21_12 := bs_ 18 0
def ba21_13 := bs_ 18 1
def ba21_14 := bs_ 18 3
def ba21_15 := bs_ 18 7
def ba21_16 := bs_ 18 15
def ba21_17 := bs_ 18 31
def ba21_18 := bs_ 18 63
def ba21_19 := bs_ 18 127
def ba21_20 := bs_ 18 255
def ba21_21 := bs_ 18 511
def ba21_22 := bs_ 18 1535
def ba21_23 := bs_ 18 3583
def ba21_24 := bs_ 18 7679
def ba21_25 := bs_ 18 8191
def ba21_26 := bs_ 18 16383
def ba21_27 := bs_ 18 32767
def ba21_28 := bs_ 18 65535
def ba21_29 := bs_ 18 131071
def ba21_30 := bs_ 18 262143
def ba21_31 := bs_ 12 0
def ba21_32 := bs_ 12 1
def ba21_33 := bs_ 12 3
def ba21_34 := bs_ 12 7
def ba21_35 := bs_ 12 15
def ba21_36 := bs_ 12 47
def ba21_37 := bs_ 12 111
def ba21_38 := bs_ 12 239
def ba21_39 := bs_ 12 255
def ba21_40 := bs_ 12 511
def ba21_41 := bs_ 12 1023
def ba21_42 := bs_ 12 2047
def ba21_43 := bs_ 12 4095
def ba21_44 := bs_ 14 0
def ba21_45 := bs_ 14 1
def ba21_46 := bs_ 14 3
def ba21_47 := bs_ 14 7
def ba21_48 := bs_ 14 15
def ba21_49 := bs_ 14 31
def ba21_50 := bs_ 14 63
def ba21_51 := bs_ 14 191
def ba21_52 := bs_ 14 447
def ba21_53 := bs_ 14 959
def ba21_54 := bs_ 14 1023
def ba21_55 := bs_ 14 2047
def ba21_56 := bs_ 14 4095
def ba21_57 := bs_ 14 8191
def ba21_58 := bs_ 14 16383

/-! ### slices_symMergeCmpFunc_impl_Route: function 126 -/
mutual
def slices_symMergeCmpFunc_impl_Route.l0 : Nat → List (S30) → Int → Int → Int → Option ((List (S30)))
 | 0, _, _, _, _ => none
 | k + 1, x0, x1, x10, x11 => if x10 < x11 then (if 0 ≤ (wrap64 ((IntKind.u64.wrap (wrap64 (x10 + x11))) / 2)) then (if (wrap64 ((IntKind.u64.wrap (wrap64 (x10 + x11))) / 2)) < (x0.length : Int) then (if 0 ≤ x1 then (if x1 < (x0.length : Int) then ((impl_hopsOf_1.f ((rd_T30 x0 (wrap64 ((IntKind.u64.wrap (wrap64 (x10 + x11))) / 2))).f0.f0) ((rd_T30 x0 (wrap64 ((IntKind.u64.wrap (wrap64 (x10 + x11))) / 2))).f0.f1) ((rd_T30 x0 (wrap64 ((IntKind.u64.wrap (wrap64 (x10 + x11))) / 2))).f1) ((rd_T30 x0 x1).f0.f0) ((rd_T30 x0 x1).f0.f1) ((rd_T30 x0 x1).f1)).bind fun t472 => (if t472 < 0 then (slices_symMergeCmpFunc_impl_Route.l0 k x0 x1 (wrap64 ((wrap64 ((IntKind.u64.wrap (wrap64 (x10 + x11))) / 2)) + 1)) x11) else (slices_symMergeCmpFunc_impl_Route.l0 k x0 x1 x10 (wrap64 ((IntKind.u64.wrap (wrap64 (x10 + x11))) / 2))))) else (none)) else (none)) else (none)) else (none)) else (slices_symMergeCmpFunc_impl_Route.l1 k x0 x10 x1)
def slices_symMergeCmpFunc_impl_Route.l1 : Nat → List (S30) → Int → Int → Option ((List (S30)))
 | 0, _, _, _ => none
 | k + 1, x0, x10, x13 => if x13 < (wrap64 (x10 - 1)) then (if 0 ≤ (wrap64 (x13 + 1)) then (if (wrap64 (x13 + 1)) < (x0.length : Int) then (if 0 ≤ x13 then (if x13 < (x0.length : Int) then (slices_symMergeCmpFunc_impl_Route.l1 k ((x0.set (x13 : Int).toNat (⟨(⟨(rd_T30 x0 (wrap64 (x13 + 1))).f0.f0, (rd_T30 x0 (wrap64 (x13 + 1))).f0.f1⟩ : S28), (rd_T30 x0 (wrap64 (x13 + 1))).f1⟩ : S30)).set ((wrap64 (x13 + 1)) : Int).toNat (⟨(⟨(rd_T30 x0 x13).f0.f0, (rd_T30 x0 x13).f0.f1⟩ : S28), (rd_T30 x0 x13).f1⟩ : S30)) x10 (wrap64 (x13 + 1))) else (none)) else (none)) else (none)) else (none)) else (some x0)
def slices_symMergeCmpFunc_impl_Route.l2 : Nat → List (S30) → Int → Int → Int → Option ((List (S30)))
 | 0, _, _, _, _ => none
 | k + 1, x0, x2, x14, x15 => if x14 < x15 then (if 0 ≤ x2 then (if x2 < (x0.length : Int) then (if 0 ≤ (wrap64 ((IntKind.u64.wrap (wrap64 (x14 + x15))) / 2)) then (if (wrap64 ((IntKind.u64.wrap (wrap64 (x14 + x15))) / 2)) < (x0.length : Int) then ((impl_hopsOf_1.f ((rd_T30 x0 x2).f0.f0) ((rd_T30 x0 x2).f0.f1) ((rd_T30 x0 x2).f1) ((rd_T30 x0 (wrap64 ((IntKind.u64.wrap (wrap64 (x14 + x15))) / 2))).f0.f0) ((rd_T30 x0 (wrap64 ((IntKind.u64.wrap (wrap64 (x14 + x15))) / 2))).f0.f1) ((rd_T30 x0 (wrap64 ((IntKind.u64.wrap (wrap64 (x14 + x15))) / 2))).f1)).bind fun t479 => (if t479 < 0 then (slices_symMergeCmpFunc_impl_Route.l2 k x0 x2 x14 (wrap64 ((IntKind.u64.wrap (wrap64 (x14 + x15))) / 2))) else (slices_symMergeCmpFunc_impl_Route.l2 k x0 x2 (wrap64 ((wrap64 ((IntKind.u64.wrap (wrap64 (x14 + x15))) / 2)) + 1)) x15))) else (none)) else (none)) else (none)) else (none)) else (slices_symMergeCmpFunc_impl_Route.l3 k x0 x14 x2)
def slices_symMergeCmpFunc_impl_Route.l3 : Nat → List (S30) → Int → Int → Option ((List (S30)))
 | 0, _, _, _ => none
 | k + 1, x0, x14, x17 => if x17 > x14 then (if 0 ≤ (wrap64 (x17 - 1)) then (if (wrap64 (x17 - 1)) < (x0.length : Int) then (if 0 ≤ x17 then (if x17 < (x0.length : Int) then (slices_symMergeCmpFunc_impl_Route.l3 k ((x0.set (x17 : Int).toNat (⟨(⟨(rd_T30 x0 (wrap64 (x17 - 1))).f0.f0, (rd_T30 x0 (wrap64 (x17 - 1))).f0.f1⟩ : S28), (rd_T30 x0 (wrap64 (x17 - 1))).f1⟩ : S30)).set ((wrap64 (x17 - 1)) : Int).toNat (⟨(⟨(rd_T30 x0 x17).f0.f0, (rd_T30 x0 x17).f0.f1⟩ : S28), (rd_T30 x0 x17).f1⟩ : S30)) x14 (wrap64 (x17 - 1))) else (none)) else (none)) else (none)) else (none)) else (some x0)
def slices_symMergeCmpFunc_impl_Route.j4 : Nat → List (S30) → Int → Int → Int → Int → Int → Int → Int → Option ((List (S30)))
 | 0, _, _, _, _, _, _, _, _ => none
 | k + 1, x0, x1, x2, x3, x18, x19, x20, x21 => slices_symMergeCmpFunc_impl_Route.l4 k x0 x1 x2 x3 x18 x19 x20 x21 (wrap64 (x19 - 1))
def slices_symMergeCmpFunc_impl_Route.l4 : Nat → List (S30) → Int → Int → Int → Int → Int → Int → Int → Int → Option ((List (S30)))
 | 0, _, _, _, _, _, _, _, _, _ => none
 | k + 1, x0, x1, x2, x3, x18, x19, x20, x21, x22 => if x20 < x21 then (if 0 ≤ (wrap64 (x22 - (wrap64 ((IntKind.u64.wrap (wrap64 (x20 + x21))) / 2)))) then (if (wrap64 (x22 - (wrap64 ((IntKind.u64.wrap (wrap64 (x20 + x21))) / 2)))) < (x0.length : Int) then (if 0 ≤ (wrap64 ((IntKind.u64.wrap (wrap64 (x20 + x21))) / 2)) then (if (wrap64 ((IntKind.u64.wrap (wrap64 (x20 + x21))) / 2)) < (x0.length : Int) then ((impl_hopsOf_1.f ((rd_T30 x0 (wrap64 (x22 - (wrap64 ((IntKind.u64.wrap (wrap64 (x20 + x21))) / 2))))).f0.f0) ((rd_T30 x0 (wrap64 (x22 - (wrap64 ((IntKind.u64.wrap (wrap64 (x20 + x21))) / 2))))).f0.f1) ((rd_T30 x0 (wrap64 (x22 - (wrap64 ((IntKind.u64.wrap (wrap64 (x20 + x21))) / 2))))).f1) ((rd_T30 x0 (wrap64 ((IntKind.u64.wrap (wrap64 (x20 + x21))) / 2))).f0.f0) ((rd_T30 x0 (wrap64 ((IntKind.u64.wrap (wrap64 (x20 + x21))) / 2))).f0.f1) ((rd_T30 x0 (wrap64 ((IntKind.u64.wrap (wrap64 (x20 + x21))) / 2))).f1)).bind fun t486 => (if t486 < 0 then (slices_symMergeCmpFunc_impl_Route.l4 k x0 x1 x2 x3 x18 x19 x20 (wrap64 ((IntKind.u64.wrap (wrap64 (x20 + x21))) / 2)) x22) else (slices_symMergeCmpFunc_impl_Route.l4 k x0 x1 x2 x3 x18 x19 (wrap64 ((wrap64 ((IntKind.u64.wrap (wrap64 (x20 + x21))) / 2)) + 1)) x21 x22))) else (none)) else (none)) else (none)) else (none)) else (if x20 < x2 then (slices_symMergeCmpFunc_impl_Route.j6 k x0 x1 x2 x3 x18 x20 (wrap64 (x19 - x20)) (decide (x2 < (wrap64 (x19 - x20))))) else (slices_symMergeCmpFunc_impl_Route.j6 k x0 x1 x2 x3 x18 x20 (wrap64 (x19 - x20)) false))
def slices_symMergeCmpFunc_impl_Route.j6 : Nat → List (S30) → Int → Int → Int → Int → Int → Int → Bool → Option ((List (S30)))
 | 0, _, _, _, _, _, _, _, _ => none
 | k + 1, x0, x1, x2, x3, x18, x20, x24, x185 => if x185 = true then ((slices_rotateCmpFunc_impl_Route.f k x0 x20 x2 x24).bind fun t487 => (slices_symMergeCmpFunc_impl_Route.j7 k t487 x1 x3 x18 x20 x24)) else (slices_symMergeCmpFunc_impl_Route.j7 k x0 x1 x3 x18 x20 x24)
def slices_symMergeCmpFunc_impl_Route.j7 : Nat → List (S30) → Int → Int → Int → Int → Int → Option ((List (S30)))
 | 0, _, _, _, _, _, _ => none
 | k + 1, x0, x1, x3, x18, x20, x24 => if x1 < x20 then (slices_symMergeCmpFunc_impl_Route.j8 k x0 x1 x3 x18 x20 x24 (decide (x20 < x18))) else (slices_symMergeCmpFunc_impl_Route.j8 k x0 x1 x3 x18 x20 x24 false)
def slices_symMergeCmpFunc_impl_Route.j8 : Nat → List (S30) → Int → Int → Int → Int → Int → Bool → Option ((List (S30)))
 | 0, _, _, _, _, _, _, _ => none
 | k + 1, x0, x1, x3, x18, x20, x24, x199 => if x199 = true then ((slices_symMergeCmpFunc_impl_Route.f k x0 x1 x20 x18).bind fun t488 => (if x18 < x24 then (if x24 < x3 then ((slices_symMergeCmpFunc_impl_Route.f k t488 x18 x24 x3).bind fun t489 => (some t489)) else (some t488)) else (some t488))) else (if x18 < x24 then (if x24 < x3 then ((slices_symMergeCmpFunc_impl_Route.f k x0 x18 x24 x3).bind fun t490 => (some t490)) else (some x0)) else (some x0))
def slices_symMergeCmpFunc_impl_Route.f : Nat → List (S30) → Int → Int → Int → Option ((List (S30)))
 | 0, _, _, _, _ => none
 | k + 1, l0, a1, a2, a3 => if (wrap64 (a2 - a1)) = 1 then (slices_symMergeCmpFunc_impl_Route.l0 k l0 a1 a2 a3) else (if (wrap64 (a3 - a2)) = 1 then (slices_symMergeCmpFunc_impl_Route.l2 k l0 a2 a1 a2) else (if a2 > (wrap64 ((IntKind.u64.wrap (wrap64 (a1 + a3))) / 2)) then (slices_symMergeCmpFunc_impl_Route.j4 k l0 a1 a2 a3 (wrap64 ((IntKind.u64.wrap (wrap64 (a1 + a3))) / 2)) (wrap64 ((wrap64 ((IntKind.u64.wrap (wrap64 (a1 + a3))) / 2)) + a2)) (wrap64 ((wrap64 ((wrap64 ((IntKind.u64.wrap (wrap64 (a1 + a3))) / 2)) + a2)) - a3)) (wrap64 ((IntKind.u64.wrap (wrap64 (a1 + a3))) / 2))) else (slices_symMergeCmpFunc_impl_Route.j4 k l0 a1 a2 a3 (wrap64 ((IntKind.u64.wrap (wrap64 (a1 + a3))) / 2)) (wrap64 ((wrap64 ((IntKind.u64.wrap (wrap64 (a1 + a3))) / 2)) + a2)) a1 a2)))
end
def slices_symMergeCmpFunc_impl_Route.T5 : Bool × List (List Nat × List Nat) := (true, [([], []), ([], []), ([], []), ([1, 2], [1, 2]), ([3], [3]), ([], []), ([], []), ([5, 6], [5, 6]), ([7], [7]), ([0, 4, 8], [0, 4, 8]), ([9], [9])])
def slices_symMergeCmpFunc_impl_Route.B5 : List Nat := [0, 0, 0, 6, 14, 0, 0, 96, 224, 511, 1023]
theorem slices_symMergeCmpFunc_impl_Route.tab5 : rtab .any (opsOf Try.f126 5) = slices_symMergeCmpFunc_impl_Route.T5 := by kernel_rfl
theorem slices_symMergeCmpFunc_impl_Route.bits5 : waitsOk slices_symMergeCmpFunc_impl_Route.T5.2 slices_symMergeCmpFunc_impl_Route.B5 = true := by kernel_rfl
def slices_symMergeCmpFunc_impl_Route.T11 : Bool × List (List Nat × List Nat) := (true, [([], []), ([], []), ([], []), ([], []), ([3], [3]), ([], []), ([], []), ([6], [6]), ([5, 7], [5, 7]), ([8], [8]), ([], []), ([], []), ([10, 11], [10, 11]), ([12], [12]), ([0, 1, 0, 1, 5, 6, 7, 8, 9, 13], [0, 1]), ([14, 9, 0, 1, 5, 6, 7, 8, 9, 13], [9, 14]), ([2, 4, 0, 1, 2, 3, 4, 5, 6, 7, 8, 9, 10, 11, 12, 13, 14, 15], [2, 4]), ([16, 13, 15, 0, 1, 2, 3, 4, 5, 6, 7, 8, 9, 10, 11, 12, 13, 14, 15], [13, 16])])
def slices_symMergeCmpFunc_impl_Route.B11 : List Nat := [0, 0, 0, 0, 8, 0, 0, 64, 224, 480, 0, 0, 3072, 7168, 16355, 32739, 65535, 131071]
theorem slices_symMergeCmpFunc_impl_Route.tab11 : rtab .any (opsOf Try.f126 11) = slices_symMergeCmpFunc_impl_Route.T11 := by kernel_rfl
theorem slices_symMergeCmpFunc_impl_Route.bits11 : waitsOk slices_symMergeCmpFunc_impl_Route.T11.2 slices_symMergeCmpFunc_impl_Route.B11 = true := by kernel_rfl
def slices_symMergeCmpFunc_impl_Route.T17 : Bool × List (List Nat × List Nat) := (true, [([], []), ([], []), ([], []), ([1, 2], [1, 2]), ([3], [3]), ([], []), ([], []), ([5, 6], [5, 6]), ([7], [7]), ([0, 4, 8], [0, 4, 8]), ([9], [9]), ([10], [10])])
def slices_symMergeCmpFunc_impl_Route.B17 : List Nat := [0, 0, 0, 6, 14, 0, 0, 96, 224, 511, 1023, 2047]
theorem slices_symMergeCmpFunc_impl_Route.tab17 : rtab .any (opsOf Try.f126 17) = slices_symMergeCmpFunc_impl_Route.T17 := by kernel_rfl
theorem slices_symMergeCmpFunc_impl_Route.bits17 : waitsOk slices_symMergeCmpFunc_impl_Route.T17.2 slices_symMergeCmpFunc_impl_Route.B17 = true := by kernel_rfl
def slices_symMergeCmpFunc_impl_Route.T23 : Bool × List (List Nat × List Nat) := (true, [([], []), ([], []), ([], []), ([], []), ([3], [3]), ([], []), ([], []), ([6], [6]), ([5, 7], [5, 7]), ([8], [8]), ([], []), ([], []), ([10, 11], [10, 11]), ([12], [12]), ([0, 1, 0, 1, 5, 6, 7, 8, 9, 13], [0, 1]), ([14, 9, 0, 1, 5, 6, 7, 8, 9, 13], [9, 14]), ([2, 4, 0, 1, 2, 3, 4, 5, 6, 7, 8, 9, 10, 11, 12, 13, 14, 15], [2, 4]), ([16, 13, 15, 0, 1, 2, 3, 4, 5, 6, 7, 8, 9, 10, 11, 12, 13, 14, 15], [13, 16])])
def slices_symMergeCmpFunc_impl_Route.B23 : List Nat := [0, 0, 0, 0, 8, 0, 0, 64, 224, 480, 0, 0, 3072, 7168, 16355, 32739, 65535, 131071]
theorem slices_symMergeCmpFunc_impl_Route.tab23 : rtab .any (opsOf Try.f126 23) = slices_symMergeCmpFunc_impl_Route.T23 := by kernel_rfl
theorem slices_symMergeCmpFunc_impl_Route.bits23 : waitsOk slices_symMergeCmpFunc_impl_Route.T23.2 slices_symMergeCmpFunc_impl_Route.B23 = true := by kernel_rfl
def slices_symMergeCmpFunc_impl_Route.T35 : Bool × List (List Nat × List Nat) := (true, [([], []), ([], []), ([], []), ([], []), ([2, 3], [2, 3]), ([1, 4], [1, 4]), ([5], [5]), ([], []), ([], []), ([7, 8], [7, 8]), ([9], [9]), ([0, 6, 10], [0, 6, 10]), ([11], [11]), ([12], [12])])
def slices_symMergeCmpFunc_impl_Route.B35 : List Nat := [0, 0, 0, 0, 12, 30, 62, 0, 0, 384, 896, 2047, 4095, 8191]
theorem slices_symMergeCmpFunc_impl_Route.tab35 : rtab .any (opsOf Try.f126 35) = slices_symMergeCmpFunc_impl_Route.T35 := by kernel_rfl
theorem slices_symMergeCmpFunc_impl_Route.bits35 : waitsOk slices_symMergeCmpFunc_impl_Route.T35.2 slices_symMergeCmpFunc_impl_Route.B35 = true := by kernel_rfl
set_option maxHeartbeats 8000000 in
set_option maxRecDepth 100000 in
theorem slices_symMergeCmpFunc_impl_Route.calls (k : Nat) : ∀ (P0_ : Nat → Prop) (u9000_ : Value) (l0 : List (S30)) (a1 : Int) (a2 : Int) (a3 : Int)  (r : List (S30)) (w0 w : World) (hB : Below w0.heap.size w0 w) (ho0 : Kd.R k30 30 w w0.heap.size P0_ u9000_ l0) (h : slices_symMergeCmpFunc_impl_Route.f k l0 a1 a2 a3 = some r),
  Calls Try.prog 126 #[u9000_, .int .i64 a1, .int .i64 a2, .int .i64 a3, .func (.func 101) #[] #[]] w fun e w' => e = .returned (.tuple #[]) ∧ Kd.R k30 30 w' w0.heap.size (fun k_ => (P0_ k_ ∨ w.heap.size ≤ k_)) u9000_ r ∧ Below w0.heap.size w0 w' ∧ Kept w w' (fun k_ => P0_ k_) := by
 induction k using Nat.strongRecOn with
 | _ k ih =>
 intro P0_ u9000_ l0 a1 a2 a3 r w0 w hB ho0 h
 cases k with
 | zero => exact absurd h (by simp [slices_symMergeCmpFunc_impl_Route.f])
 | succ k =>
 simp only [slices_symMergeCmpFunc_impl_Route.f] at h
 have hu30 := Try.underlying30
 have HO0 := Aside0.mk (show Kd.R k30 30 w w0.heap.size (fun k_ => (P0_ k_ ∨ w.heap.size ≤ k_)) u9000_ l0 from Kd.R_mono ho0 (fun k_ hk => (.inl hk)))
 have HK := Aside0.mk (Kept.refl w (fun k_ => P0_ k_))
 have HW0 := Aside0.mk hB.size
 have HB := Aside0.mk hB
 clear hB
 have H : (if (wrap64 (a2 - a1)) = 1 then (slices_symMergeCmpFunc_impl_Route.l0 k l0 a1 a2 a3) else (if (wrap64 (a3 - a2)) = 1 then (slices_symMergeCmpFunc_impl_Route.l2 k l0 a2 a1 a2) else (if a2 > (wrap64 ((IntKind.u64.wrap (wrap64 (a1 + a3))) / 2)) then (slices_symMergeCmpFunc_impl_Route.j4 k l0 a1 a2 a3 (wrap64 ((IntKind.u64.wrap (wrap64 (a1 + a3))) / 2)) (wrap64 ((wrap64 ((IntKind.u64.wrap (wrap64 (a1 + a3))) / 2)) + a2)) (wrap64 ((wrap64 ((wrap64 ((IntKind.u64.wrap (wrap64 (a1 + a3))) / 2)) + a2)) - a3)) (wrap64 ((IntKind.u64.wrap (wrap64 (a1 + a3))) / 2))) else (slices_symMergeCmpFunc_impl_Route.j4 k l0 a1 a2 a3 (wrap64 ((IntKind.u64.wrap (wrap64 (a1 + a3))) / 2)) (wrap64 ((wrap64 ((IntKind.u64.wrap (wrap64 (a1 + a3))) / 2)) + a2)) a1 a2)))) = some r := h
 clear h
 by_cases c6 : (wrap64 (a2 - a1)) = 1
 ·as_aux_lemma =>
  rw [if_pos c6] at H
  have c6b0 : ((wrap64 (a2 - a1)) == 1) = true := beq_iff_eq.mpr c6
  have c6b1 : ((wrap64 (a2 - a1)) != 1) = false := bne_eq_false_iff_eq.mpr c6
  clear c6
  have H' := Aside0.mk H
  clear H
  go_enter Try.func126, Try.ntmps126
  go_wp2
  go_loopg [10, 11] k (fun kq v10 v11 w' => ∃ (x10_1 : Int) (x11_1 : Int), v10 = .int .i64 x10_1 ∧ v11 = .int .i64 x11_1 ∧ Aside0 (slices_symMergeCmpFunc_impl_Route.l0 kq l0 a1 x10_1 x11_1 = some r) ∧ Aside0 (kq ≤ k) ∧ Aside0 (Kd.R k30 30 w' w0.heap.size (fun k_ => (P0_ k_ ∨ w.heap.size ≤ k_)) u9000_ l0) ∧ Aside0 (Kept w w' (fun k_ => P0_ k_)) ∧ Aside0 (Below w0.heap.size w0 w'))
  case atStart => exact ⟨(a2), (a3), er_, er_, H', ⟨Nat.le_refl _⟩, ⟨hd_ HO0⟩, ⟨ky_ HK⟩, ⟨bw112_⟩⟩
  case round => as_aux_lemma =>
   clear H' c6b0 c6b1
   obtain ⟨x10_1, x11_1, rfl, rfl, HA, HK1, HO_0, HK, HB⟩ := hrel
   cases gk with
   | zero => exact absurd HA.out (by simp [slices_symMergeCmpFunc_impl_Route.l0])
   | succ k1 =>
    have H := HA.out
    clear HA
    simp only [slices_symMergeCmpFunc_impl_Route.l0] at H
    by_cases c7 : x10_1 < x11_1
    ·as_aux_lemma =>
     rw [if_pos c7] at H
     have c7b0 : decide (x10_1 < x11_1) = true := decide_eq_true c7
     clear c7
     obtain ⟨ji8, hji8⟩ : ∃ j_ : Int, (wrap64 ((IntKind.u64.wrap (wrap64 (x10_1 + x11_1))) / 2)) = j_ := ⟨_, rfl⟩
     first | rw [hji8] at H | simp only [hji8] at H
     have hji8w : (IntKind.i64.wrap ((IntKind.u64.wrap (wrap64 (x10_1 + x11_1))) / 2)) = ji8 := (i64_w _).trans hji8
     obtain ⟨c9b0, H⟩ := iq_ H
     obtain ⟨c10b0, H⟩ := iq_ H
     obtain ⟨c11b0, H⟩ := iq_ H
     obtain ⟨c12b0, H⟩ := iq_ H
     obtain ⟨t472, A13, H⟩ := ob_ H
     have Hh_ := Aside0.mk H
     clear H
     go_wp2
     replace HO_0 := Aside0.mk (Kd.R_drew HO_0.out)
     replace HK := Aside0.mk (Kept.drew HK.out)
     replace HB := Aside0.mk (below_drew1 HB.out)
     obtain ⟨Ao16, co16, eo16⟩ := Kd.R_slice HO_0.out
     subst eo16
     have p470 : 0 ≤ ((ji8) : Int) := oa_
     have q470 : (ji8) < (l0.length : Int) := oa_
     obtain ⟨ad470, e470, hx470_0, hx470_1, hx470_2⟩ := at_T30 (Kd.R_reads' HO_0.out).2.2 (ji8) p470 q470
     cases e470
     obtain ⟨p470, q470⟩ := et_ p470 q470
     have p471 : 0 ≤ (a1 : Int) := oa_
     have q471 : a1 < (l0.length : Int) := oa_
     obtain ⟨ad471, e471, hx471_0, hx471_1, hx471_2⟩ := at_T30 (Kd.R_reads' HO_0.out).2.2 a1 p471 q471
     obtain rfl : ad470 = ad471 := (by injection e471)
     obtain ⟨p471, q471⟩ := et_ p471 q471
     refine start_ (n := 11) (S := fun w' => w'.cell? (ad470.add (((ji8)).toNat * 3)) = some (.int .i64 ((rd_T30 l0 (ji8)).f0.f0)) ∧ w'.cell? ⟨(ad470.add (((ji8)).toNat * 3)).block, (ad470.add (((ji8)).toNat * 3)).off + 1, none⟩ = some (.int .i64 ((rd_T30 l0 (ji8)).f0.f1)) ∧ w'.cell? ⟨(ad470.add (((ji8)).toNat * 3)).block, (ad470.add (((ji8)).toNat * 3)).off + 2, none⟩ = some (.int .i64 ((rd_T30 l0 (ji8)).f1)) ∧ w'.cell? (ad470.add ((a1).toNat * 3)) = some (.int .i64 ((rd_T30 l0 a1).f0.f0)) ∧ w'.cell? ⟨(ad470.add ((a1).toNat * 3)).block, (ad470.add ((a1).toNat * 3)).off + 1, none⟩ = some (.int .i64 ((rd_T30 l0 a1).f0.f1)) ∧ w'.cell? ⟨(ad470.add ((a1).toNat * 3)).block, (ad470.add ((a1).toNat * 3)).off + 2, none⟩ = some (.int .i64 ((rd_T30 l0 a1).f1))) (ds := []) ba21_0 (by kernel_rfl) rfl rfl ⟨hx470_0, hx470_1, hx470_2, hx471_0, hx471_1, hx471_2⟩ (fun hHeld => ?_); refine with_tabW slices_symMergeCmpFunc_impl_Route.tab5 slices_symMergeCmpFunc_impl_Route.bits5 (fun HT_ HW_ => ?_)
     generalize wr.drew = w15 at HO_0 HK HB hx470_0 hx470_1 hx470_2 hx471_0 hx471_1 hx471_2 hHeld ⊢
     refine pz_ 0 40 ba21_1 HT_ ?_
     refine pz_ 1 41 ba21_2 HT_ ?_
     refine pz_ 2 42 ba21_3 HT_ ?_
     refine pz_ 3 43 ba21_4 HT_ ?_
     refine pz_ 5 45 ba21_5 HT_ ?_
     refine pz_ 6 46 ba21_6 HT_ ?_
     refine pz_ 7 47 ba21_7 HT_ ?_
     refine pt_ 4 44 ba21_8 HT_ HW_ hHeld ?_
     refine pt_ 8 48 ba21_9 HT_ HW_ hHeld ?_
     refine on_ 9 (some 49) ba21_10 HT_ (fun K hK => ?_)
     refine goesU_ Try.func101 (by kernel_rfl) rfl #[.agg #[.int .i64 ((rd_T30 l0 (ji8)).f0.f0), .int .i64 ((rd_T30 l0 (ji8)).f0.f1), .int .i64 ((rd_T30 l0 (ji8)).f1)], .agg #[.int .i64 ((rd_T30 l0 a1).f0.f0), .int .i64 ((rd_T30 l0 a1).f0.f1), .int .i64 ((rd_T30 l0 a1).f1)]] (by rfl) rfl rfl (by (try simp only [List.map_toArray, List.map_cons, List.map_nil]); first | done | (simp only [hji8]; rfl) | rfl | (simp only [List.length_drop, List.length_take]; rfl)) ?_
     with_reducible refine (impl_hopsOf_1.calls ((rd_T30 l0 (ji8)).f0.f0) ((rd_T30 l0 (ji8)).f0.f1) ((rd_T30 l0 (ji8)).f1) ((rd_T30 l0 a1).f0.f0) ((rd_T30 l0 a1).f0.f1) ((rd_T30 l0 a1).f1) t472 _ A13.out).mono ?_
     rintro e w17 ⟨rfl, hb⟩
     have HS0_ := (hb.cell (World.block_lt_of_cell? _ _ (hHeld.1))).trans (hHeld.1)
     have HS1_ := (hb.cell (World.block_lt_of_cell? _ _ (hHeld.2.1))).trans (hHeld.2.1)
     have HS2_ := (hb.cell (World.block_lt_of_cell? _ _ (hHeld.2.2.1))).trans (hHeld.2.2.1)
     have HS3_ := (hb.cell (World.block_lt_of_cell? _ _ (hHeld.2.2.2.1))).trans (hHeld.2.2.2.1)
     have HS4_ := (hb.cell (World.block_lt_of_cell? _ _ (hHeld.2.2.2.2.1))).trans (hHeld.2.2.2.2.1)
     have HS5_ := (hb.cell (World.block_lt_of_cell? _ _ (hHeld.2.2.2.2.2))).trans (hHeld.2.2.2.2.2)
     refine ⟨_, rfl, ?_⟩
     replace HO_0 := rb_ HO_0 hb
     replace HK := Aside0.mk (Kept.below (S := (fun k_ => P0_ k_)) (ky_ HK) hb)
     replace HB := at_ HB hb
     clear hb
     refine hK.out _ _ ⟨HS0_, HS1_, HS2_, HS3_, HS4_, HS5_⟩ (fun hHeld => ?_)
     clear hK K
     refine nz_ 49 ?_
     have H := Hh_.out
     clear Hh_
     by_cases c14 : t472 < 0
     ·rw [if_pos c14] at H
      have c14b0 : decide (t472 < 0) = true := decide_eq_true c14
      clear c14
      have H' := Aside0.mk H
      clear H
      refine pz_ 10 50 ba21_11 HT_ ?_
      refine done_ (done_of HT_.out (by kernel_rfl)) ?_
      go_wp2
      go_roundg k1
      case measure => have := HK1.out; omega
      case rel => exact ⟨(wrap64 ((ji8) + 1)), (x11_1), (by first | rfl | (simp; done) | (simp only [← hji8] <;> (first | rfl | simp)) | (simp [*]; done)), er_, H', ⟨by have := HK1.out; omega⟩, ⟨hd_ HO_0⟩, ⟨ky_ HK⟩, ⟨bw112_⟩⟩
     rw [if_neg c14] at H
     have c14b0 : decide (t472 < 0) = false := decide_eq_false c14
     clear c14
     have H' := Aside0.mk H
     clear H
     refine pz_ 10 50 ba21_11 HT_ ?_
     refine done_ (done_of HT_.out (by kernel_rfl)) ?_
     go_wp2
     go_roundg k1
     case measure => have := HK1.out; omega
     case rel => exact ⟨(x10_1), (ji8), er_, (by first | rfl | (simp; done) | (simp only [← hji8] <;> (first | rfl | simp)) | (simp [*]; done)), H', ⟨by have := HK1.out; omega⟩, ⟨hd_ HO_0⟩, ⟨ky_ HK⟩, ⟨bw112_⟩⟩
    rw [if_neg c7] at H
    have c7b0 : decide (x10_1 < x11_1) = false := decide_eq_false c7
    clear c7
    have H' := Aside0.mk H
    clear H
    go_wp2
    go_loopg [13] k1 (fun kq v13 w' => ∃ (x0_2 : List (S30)) (x13_2 : Int), v13 = .int .i64 x13_2 ∧ Aside0 (slices_symMergeCmpFunc_impl_Route.l1 kq x0_2 x10_1 x13_2 = some r) ∧ Aside0 (kq ≤ k1) ∧ Aside0 (Kd.R k30 30 w' w0.heap.size (fun k_ => (P0_ k_ ∨ w.heap.size ≤ k_)) u9000_ x0_2) ∧ Aside0 (Kept w w' (fun k_ => P0_ k_)) ∧ Aside0 (Below w0.heap.size w0 w'))
    case atStart => exact ⟨(l0), (a1), er_, H', ⟨Nat.le_refl _⟩, ⟨hd_ HO_0⟩, ⟨ky_ HK⟩, ⟨bw112_⟩⟩
    case round => as_aux_lemma =>
     clear H' c7b0
     obtain ⟨x0_2, x13_2, rfl, HA, HK2, HO_0, HK, HB⟩ := hrel
     cases gk with
     | zero => exact absurd HA.out (by simp [slices_symMergeCmpFunc_impl_Route.l1])
     | succ k2 =>
      have H := HA.out
      clear HA
      simp only [slices_symMergeCmpFunc_impl_Route.l1] at H
      by_cases c21 : x13_2 < (wrap64 (x10_1 - 1))
      rotate_left
      ·rw [if_neg c21] at H
       have c21b0 : decide (x13_2 < (wrap64 (x10_1 - 1))) = false := decide_eq_false c21
       clear c21
       obtain rfl := Option.some.inj H
       go_wp2
       first | go_end0 | ((try simp only [Exit.inBlock, Exit.then]); refine bodyPost_ret (results_none rfl _ _ _) rfl ?_)
       exact ⟨by first | rfl | (simp [errW_none, errW_some] <;> rfl) | (simp [*, errW_none, errW_some] <;> rfl), by (with_reducible repeat (first | apply Kd.R_alloc | apply Kd.R_drewN | apply Kd.R_drew)); exact HO_0.out, bw112_, ky_ HK⟩
      rw [if_pos c21] at H
      have c21b0 : decide (x13_2 < (wrap64 (x10_1 - 1))) = true := decide_eq_true c21
      clear c21
      obtain ⟨ji22, hji22⟩ : ∃ j_ : Int, (wrap64 (x13_2 + 1)) = j_ := ⟨_, rfl⟩
      first | rw [hji22] at H | simp only [hji22] at H
      have hji22w : (IntKind.i64.wrap (x13_2 + 1)) = ji22 := (i64_w _).trans hji22
      obtain ⟨c23b0, H⟩ := iq_ H
      obtain ⟨c24b0, H⟩ := iq_ H
      obtain ⟨c25b0, H⟩ := iq_ H
      obtain ⟨c26b0, H⟩ := iq_ H
      obtain ⟨y475, hy475⟩ : ∃ y_ : List (S30), y_ = (x0_2.set (x13_2 : Int).toNat (⟨(⟨(rd_T30 x0_2 (ji22)).f0.f0, (rd_T30 x0_2 (ji22)).f0.f1⟩ : S28), (rd_T30 x0_2 (ji22)).f1⟩ : S30)) := ⟨_, rfl⟩
      replace H : (slices_symMergeCmpFunc_impl_Route.l1 k2 (y475.set ((ji22) : Int).toNat (⟨(⟨(rd_T30 x0_2 x13_2).f0.f0, (rd_T30 x0_2 x13_2).f0.f1⟩ : S28), (rd_T30 x0_2 x13_2).f1⟩ : S30)) x10_1 ji22) = some r := by first | (rw [hy475]; with_reducible exact H) | (have H2_ := (Option.bind_some _ _).symm.trans H; rw [hy475]; with_reducible exact H2_) | (have H2_ := (Option.bind_some _ _).symm.trans H; with_reducible exact H2_) | with_reducible exact H | (rw [hy475]; exact H) | exact H
      have Ny475 := Aside0.mk hy475
      clear hy475
      obtain ⟨y476, hy476⟩ : ∃ y_ : List (S30), y_ = (y475.set ((ji22) : Int).toNat (⟨(⟨(rd_T30 x0_2 x13_2).f0.f0, (rd_T30 x0_2 x13_2).f0.f1⟩ : S28), (rd_T30 x0_2 x13_2).f1⟩ : S30)) := ⟨_, rfl⟩
      replace H : (slices_symMergeCmpFunc_impl_Route.l1 k2 y476 x10_1 ji22) = some r := by first | (rw [hy476]; with_reducible exact H) | (have H2_ := (Option.bind_some _ _).symm.trans H; rw [hy476]; with_reducible exact H2_) | (have H2_ := (Option.bind_some _ _).symm.trans H; with_reducible exact H2_) | with_reducible exact H | (rw [hy476]; exact H) | exact H
      have Ny476 := Aside0.mk hy476
      clear hy476
      have H' := Aside0.mk H
      clear H
      go_wp2
      replace HO_0 := Aside0.mk (Kd.R_drew HO_0.out)
      replace HK := Aside0.mk (Kept.drew HK.out)
      replace HB := Aside0.mk (below_drew1 HB.out)
      obtain ⟨Ao30, co30, eo30⟩ := Kd.R_slice HO_0.out
      subst eo30
      have p473 : 0 ≤ ((ji22) : Int) := oa_
      have q473 : (ji22) < (x0_2.length : Int) := oa_
      obtain ⟨ad473, e473, hx473_0, hx473_1, hx473_2⟩ := at_T30 (Kd.R_reads' HO_0.out).2.2 (ji22) p473 q473
      cases e473
      obtain ⟨p473, q473⟩ := et_ p473 q473
      have p474 : 0 ≤ (x13_2 : Int) := oa_
      have q474 : x13_2 < (x0_2.length : Int) := oa_
      obtain ⟨ad474, e474, hx474_0, hx474_1, hx474_2⟩ := at_T30 (Kd.R_reads' HO_0.out).2.2 x13_2 p474 q474
      obtain rfl : ad473 = ad474 := (by injection e474)
      obtain ⟨p474, q474⟩ := et_ p474 q474
      have p27 : 0 ≤ (x13_2 : Int) := oa_
      have q27 : (x13_2 : Int) < ((x0_2.length : Int) : Int) := oa_
      obtain ⟨go27, co27, eo27, gb27, gl27, cl27, HG27⟩ := Kd.R_form HO_0.out (by omega)
      (first | cases eo27 | (injection eo27 with ea_ en_ ec_; (first | subst ea_ | (injection ea_ with ea_; subst ea_)); subst ec_; clear en_))
      have GB27 := Aside0.mk gb27
      have GG27 := Aside0.mk HG27
      clear gb27 gl27 HG27
      have HMgo27 := Aside0.mk (show (P0_ go27 ∨ w.heap.size ≤ go27) from (HO_0.out.1 _ rfl))
      simp only [add_plain] at hx473_0
      simp only [add_plain] at hx473_1
      simp only [add_plain] at hx473_2
      simp only [add_plain] at hx474_0
      simp only [add_plain] at hx474_1
      simp only [add_plain] at hx474_2
      obtain ⟨ce27, hcl27, hM27, hcc27, hfr27⟩ := Kd.R_elem HO_0.out z30 (x13_2 : Int) p27 q27
      obtain rfl := k30_openM hM27
      have hx27_0 : World.cell? _ ⟨go27, (x13_2 : Int).toNat * 3, none⟩ = some (.int .i64 ((rd_T30 x0_2 x13_2).f0.f0)) := hcc27 0 _ rfl
      have hx27_1 : World.cell? _ ⟨go27, (x13_2 : Int).toNat * 3 + 1, none⟩ = some (.int .i64 ((rd_T30 x0_2 x13_2).f0.f1)) := hcc27 1 _ rfl
      have hx27_2 : World.cell? _ ⟨go27, (x13_2 : Int).toNat * 3 + 2, none⟩ = some (.int .i64 ((rd_T30 x0_2 x13_2).f1)) := hcc27 2 _ rfl
      have hf27_0 : World.frozen? _ ⟨go27, (x13_2 : Int).toNat * 3, none⟩ = false := hfr27 0
      have hf27_1 : World.frozen? _ ⟨go27, (x13_2 : Int).toNat * 3 + 1, none⟩ = false := hfr27 1
      have hf27_2 : World.frozen? _ ⟨go27, (x13_2 : Int).toNat * 3 + 2, none⟩ = false := hfr27 2
      clear hcl27 hcc27 hfr27 hM27
      obtain ⟨p27, q27⟩ := et_ p27 q27
      obtain ⟨ce31, hcl31, hM31, hcc31, hfr31⟩ := Kd.R_elem HO_0.out z30 (x13_2 : Int) oa_ (by have h_ : (x13_2 : Int) < ((x0_2.length : Int) : Int) := oa_; first | exact h_ | (have e_ := (Kd.R_reads' HO_0.out).1; omega) | simpa using h_)
      obtain rfl := k30_openM hM31
      have HP31 := (Kd.R_seg HO_0.out (x13_2 : Int) oa_ (by have h_ : (x13_2 : Int) < ((x0_2.length : Int) : Int) := oa_; first | exact h_ | (have e_ := (Kd.R_reads' HO_0.out).1; omega) | simpa using h_) (seg := [.int .i64 ((rd_T30 x0_2 (ji22)).f0.f0), .int .i64 ((rd_T30 x0_2 (ji22)).f0.f1), .int .i64 ((rd_T30 x0_2 (ji22)).f1)]) (j := 0) hcl31 hcc31 (show 3 ≤ 3 from by decide) (x' := (⟨(⟨(rd_T30 x0_2 (ji22)).f0.f0, (rd_T30 x0_2 (ji22)).f0.f1⟩ : S28), (rd_T30 x0_2 (ji22)).f1⟩ : S30)) (k30_mkM _ _ _ (⟨(⟨(rd_T30 x0_2 (ji22)).f0.f0, (rd_T30 x0_2 (ji22)).f0.f1⟩ : S28), (rd_T30 x0_2 (ji22)).f1⟩ : S30) ) (fun _ hk => hk)).1
      rw [← Ny475.out] at HP31
      have HQ31 := Aside0.mk HP31
      clear hcl31 hcc31 hfr31 hM31 HP31
      have p28 : 0 ≤ ((ji22) : Int) := oa_
      have q28 : ((ji22) : Int) < ((x0_2.length : Int) : Int) := oa_
      obtain ⟨ce28, hcl28, hM28, hcc28, hfr28⟩ := Kd.R_elem HQ31.out z30 ((ji22) : Int) p28 q28
      obtain rfl := k30_openM hM28
      have hx28_0 : World.cell? _ ⟨go27, ((ji22) : Int).toNat * 3, none⟩ = some (.int .i64 ((rd_T30 y475 (ji22)).f0.f0)) := hcc28 0 _ rfl
      have hx28_1 : World.cell? _ ⟨go27, ((ji22) : Int).toNat * 3 + 1, none⟩ = some (.int .i64 ((rd_T30 y475 (ji22)).f0.f1)) := hcc28 1 _ rfl
      have hx28_2 : World.cell? _ ⟨go27, ((ji22) : Int).toNat * 3 + 2, none⟩ = some (.int .i64 ((rd_T30 y475 (ji22)).f1)) := hcc28 2 _ rfl
      have hf28_0 : World.frozen? _ ⟨go27, ((ji22) : Int).toNat * 3, none⟩ = false := hfr28 0
      have hf28_1 : World.frozen? _ ⟨go27, ((ji22) : Int).toNat * 3 + 1, none⟩ = false := hfr28 1
      have hf28_2 : World.frozen? _ ⟨go27, ((ji22) : Int).toNat * 3 + 2, none⟩ = false := hfr28 2
      clear hcl28 hcc28 hfr28 hM28
      obtain ⟨p28, q28⟩ := et_ p28 q28
      obtain ⟨ce32, hcl32, hM32, hcc32, hfr32⟩ := Kd.R_elem HQ31.out z30 ((ji22) : Int) oa_ (by have h_ : ((ji22) : Int) < ((x0_2.length : Int) : Int) := oa_; first | exact h_ | (have e_ := (Kd.R_reads' HO_0.out).1; omega) | simpa using h_)
      obtain rfl := k30_openM hM32
      have HP32 := (Kd.R_seg HQ31.out ((ji22) : Int) oa_ (by have h_ : ((ji22) : Int) < ((x0_2.length : Int) : Int) := oa_; first | exact h_ | (have e_ := (Kd.R_reads' HO_0.out).1; omega) | simpa using h_) (seg := [.int .i64 ((rd_T30 x0_2 x13_2).f0.f0), .int .i64 ((rd_T30 x0_2 x13_2).f0.f1), .int .i64 ((rd_T30 x0_2 x13_2).f1)]) (j := 0) hcl32 hcc32 (show 3 ≤ 3 from by decide) (x' := (⟨(⟨(rd_T30 x0_2 x13_2).f0.f0, (rd_T30 x0_2 x13_2).f0.f1⟩ : S28), (rd_T30 x0_2 x13_2).f1⟩ : S30)) (k30_mkM _ _ _ (⟨(⟨(rd_T30 x0_2 x13_2).f0.f0, (rd_T30 x0_2 x13_2).f0.f1⟩ : S28), (rd_T30 x0_2 x13_2).f1⟩ : S30) ) (fun _ hk => hk)).1
      rw [← Ny476.out] at HP32
      have HQ32 := Aside0.mk HP32
      clear hcl32 hcc32 hfr32 hM32 HP32
      refine start_ (n := 18) (S := fun w' => w'.cell? ⟨go27, (((ji22)).toNat * 3), none⟩ = some (.int .i64 ((rd_T30 x0_2 (ji22)).f0.f0)) ∧ w'.cell? ⟨go27, (((ji22)).toNat * 3) + 1, none⟩ = some (.int .i64 ((rd_T30 x0_2 (ji22)).f0.f1)) ∧ w'.cell? ⟨go27, (((ji22)).toNat * 3) + 2, none⟩ = some (.int .i64 ((rd_T30 x0_2 (ji22)).f1)) ∧ w'.cell? ⟨go27, ((x13_2).toNat * 3), none⟩ = some (.int .i64 ((rd_T30 x0_2 x13_2).f0.f0)) ∧ w'.cell? ⟨go27, ((x13_2).toNat * 3) + 1, none⟩ = some (.int .i64 ((rd_T30 x0_2 x13_2).f0.f1)) ∧ w'.cell? ⟨go27, ((x13_2).toNat * 3) + 2, none⟩ = some (.int .i64 ((rd_T30 x0_2 x13_2).f1))) (ds := [15, 17]) ba21_12 (by kernel_rfl) rfl rfl ⟨hx473_0, hx473_1, hx473_2, hx474_0, hx474_1, hx474_2⟩ (fun hHeld => ?_); refine with_tabW slices_symMergeCmpFunc_impl_Route.tab11 slices_symMergeCmpFunc_impl_Route.bits11 (fun HT_ HW_ => ?_)
      generalize wr.drew = w29 at HO_0 HK HB GG27 HQ31 HQ32 hf27_0 hf27_1 hf27_2 hf28_0 hf28_1 hf28_2 hx27_0 hx27_1 hx27_2 hx28_0 hx28_1 hx28_2 hx473_0 hx473_1 hx473_2 hx474_0 hx474_1 hx474_2 hHeld ⊢
      refine pz_ 0 61 ba21_13 HT_ ?_
      refine pz_ 1 62 ba21_14 HT_ ?_
      refine pz_ 2 63 ba21_15 HT_ ?_
      refine pz_ 3 64 ba21_16 HT_ ?_
      refine pz_ 4 65 ba21_17 HT_ ?_
      refine pz_ 5 66 ba21_18 HT_ ?_
      refine pz_ 6 67 ba21_19 HT_ ?_
      refine pz_ 7 68 ba21_20 HT_ ?_
      refine pz_ 8 69 ba21_21 HT_ ?_
      refine pz_ 10 71 ba21_22 HT_ ?_
      refine pz_ 11 72 ba21_23 HT_ ?_
      refine pz_ 12 73 ba21_24 HT_ ?_
      refine pt_ 9 70 ba21_25 HT_ HW_ hHeld ?_
      refine pt_ 13 74 ba21_26 HT_ HW_ hHeld ?_
      refine pz_ 14 75 ba21_27 HT_ ?_
      refine last_ (i := 15) (N := none) ba21_28 rfl rfl (one_of HT_.out (by kernel_rfl)) (by decide) (fun K hK => ?_)
      refine skip_ (w1 := ?_) (by rfl) rfl ?_ ?_
      rotate_left; · go_simp; rfl
      refine hK.out _ _ ?_
      clear hK K
      refine pz_ 16 76 ba21_29 HT_ ?_
      generalize hW_ : World.setCell (World.setCell (World.setCell _ _ _) _ _) _ _ = wS_
      have hy_hf28_0 : World.frozen? wS_ _ = false := Eq.trans (congrArg (fun q => World.frozen? q _) hW_).symm hf28_0
      have hy_hf28_1 : World.frozen? wS_ _ = false := Eq.trans (congrArg (fun q => World.frozen? q _) hW_).symm hf28_1
      have hy_hf28_2 : World.frozen? wS_ _ = false := Eq.trans (congrArg (fun q => World.frozen? q _) hW_).symm hf28_2
      have hy_hx28_0 : World.cell? wS_ _ = some _ := Eq.trans (congrArg (fun q => World.cell? q _) hW_).symm hx28_0
      have hy_hx28_1 : World.cell? wS_ _ = some _ := Eq.trans (congrArg (fun q => World.cell? q _) hW_).symm hx28_1
      have hy_hx28_2 : World.cell? wS_ _ = some _ := Eq.trans (congrArg (fun q => World.cell? q _) hW_).symm hx28_2
      refine last_ (i := 17) (N := none) ba21_30 rfl rfl (one_of HT_.out (by kernel_rfl)) (by decide) (fun K hK => ?_)
      refine skip_ (w1 := ?_) (by rfl) rfl ?_ ?_
      rotate_left; · go_simp; rfl
      refine hK.out _ _ ?_
      clear hK K
      subst hW_
      refine done_ (done_of HT_.out (by kernel_rfl)) ?_
      go_wp2
      go_roundg k2
      case measure => have := HK1.out; have := HK2.out; omega
      case rel => exact ⟨(y476), (ji22), (by first | rfl | (simp; done) | (simp only [← hji22] <;> (first | rfl | simp)) | (simp [*]; done)), H', ⟨by have := HK1.out; have := HK2.out; omega⟩, ⟨by (with_reducible repeat (first | apply Kd.R_alloc | apply Kd.R_drewN | apply Kd.R_drew)); exact HQ32.out⟩, ⟨by repeat (first | (with_reducible first | exact HK.out | apply Kept.alloc | apply Kept.drewN | apply Kept.drew | refine Kept.setCell ?_ HMgo27.out _ | refine Kept.setCell ?_ HMgo27.out _ | refine Kept.setCell ?_ HMgo27.out _ | refine Kept.setCell ?_ HMgo27.out _ | refine Kept.setCell ?_ HMgo27.out _ | refine Kept.setCell ?_ HMgo27.out _) | exact HK.out)⟩, ⟨by repeat (first | (with_reducible first | exact HB.out | apply below_alloc | apply pw_below_drewN | apply below_drew1 | refine below_set ?_ GB27.out | refine below_set ?_ GB27.out | refine below_set ?_ GB27.out | refine below_set ?_ GB27.out | refine below_set ?_ GB27.out | refine below_set ?_ GB27.out) | exact HB.out)⟩⟩
 rw [if_neg c6] at H
 have c6b0 : ((wrap64 (a2 - a1)) == 1) = false := beq_eq_false_iff_ne.mpr c6
 have c6b1 : ((wrap64 (a2 - a1)) != 1) = true := bne_iff_ne.mpr c6
 by_cases c33 : (wrap64 (a3 - a2)) = 1
 ·as_aux_lemma =>
  rw [if_pos c33] at H
  have c33b0 : ((wrap64 (a3 - a2)) == 1) = true := beq_iff_eq.mpr c33
  have c33b1 : ((wrap64 (a3 - a2)) != 1) = false := bne_eq_false_iff_eq.mpr c33
  clear c33
  have H' := Aside0.mk H
  clear H
  go_enter Try.func126, Try.ntmps126
  go_wp2
  go_loopg [14, 15] k (fun kq v14 v15 w' => ∃ (x14_1 : Int) (x15_1 : Int), v14 = .int .i64 x14_1 ∧ v15 = .int .i64 x15_1 ∧ Aside0 (slices_symMergeCmpFunc_impl_Route.l2 kq l0 a2 x14_1 x15_1 = some r) ∧ Aside0 (kq ≤ k) ∧ Aside0 (Kd.R k30 30 w' w0.heap.size (fun k_ => (P0_ k_ ∨ w.heap.size ≤ k_)) u9000_ l0) ∧ Aside0 (Kept w w' (fun k_ => P0_ k_)) ∧ Aside0 (Below w0.heap.size w0 w'))
  case atStart => exact ⟨(a1), (a2), er_, er_, H', ⟨Nat.le_refl _⟩, ⟨hd_ HO0⟩, ⟨ky_ HK⟩, ⟨bw112_⟩⟩
  case round => as_aux_lemma =>
   clear H' c6 c6b0 c6b1 c33b0 c33b1
   obtain ⟨x14_1, x15_1, rfl, rfl, HA, HK1, HO_0, HK, HB⟩ := hrel
   cases gk with
   | zero => exact absurd HA.out (by simp [slices_symMergeCmpFunc_impl_Route.l2])
   | succ k1 =>
    have H := HA.out
    clear HA
    simp only [slices_symMergeCmpFunc_impl_Route.l2] at H
    by_cases c34 : x14_1 < x15_1
    ·as_aux_lemma =>
     rw [if_pos c34] at H
     have c34b0 : decide (x14_1 < x15_1) = true := decide_eq_true c34
     clear c34
     obtain ⟨c35b0, H⟩ := iq_ H
     obtain ⟨c36b0, H⟩ := iq_ H
     obtain ⟨ji37, hji37⟩ : ∃ j_ : Int, (wrap64 ((IntKind.u64.wrap (wrap64 (x14_1 + x15_1))) / 2)) = j_ := ⟨_, rfl⟩
     first | rw [hji37] at H | simp only [hji37] at H
     have hji37w : (IntKind.i64.wrap ((IntKind.u64.wrap (wrap64 (x14_1 + x15_1))) / 2)) = ji37 := (i64_w _).trans hji37
     obtain ⟨c38b0, H⟩ := iq_ H
     obtain ⟨c39b0, H⟩ := iq_ H
     obtain ⟨t479, A40, H⟩ := ob_ H
     have Hh_ := Aside0.mk H
     clear H
     go_wp2
     replace HO_0 := Aside0.mk (Kd.R_drew HO_0.out)
     replace HK := Aside0.mk (Kept.drew HK.out)
     replace HB := Aside0.mk (below_drew1 HB.out)
     obtain ⟨Ao43, co43, eo43⟩ := Kd.R_slice HO_0.out
     subst eo43
     have p477 : 0 ≤ (a2 : Int) := oa_
     have q477 : a2 < (l0.length : Int) := oa_
     obtain ⟨ad477, e477, hx477_0, hx477_1, hx477_2⟩ := at_T30 (Kd.R_reads' HO_0.out).2.2 a2 p477 q477
     cases e477
     obtain ⟨p477, q477⟩ := et_ p477 q477
     have p478 : 0 ≤ ((ji37) : Int) := oa_
     have q478 : (ji37) < (l0.length : Int) := oa_
     obtain ⟨ad478, e478, hx478_0, hx478_1, hx478_2⟩ := at_T30 (Kd.R_reads' HO_0.out).2.2 (ji37) p478 q478
     obtain rfl : ad477 = ad478 := (by injection e478)
     obtain ⟨p478, q478⟩ := et_ p478 q478
     refine start_ (n := 12) (S := fun w' => w'.cell? (ad477.add ((a2).toNat * 3)) = some (.int .i64 ((rd_T30 l0 a2).f0.f0)) ∧ w'.cell? ⟨(ad477.add ((a2).toNat * 3)).block, (ad477.add ((a2).toNat * 3)).off + 1, none⟩ = some (.int .i64 ((rd_T30 l0 a2).f0.f1)) ∧ w'.cell? ⟨(ad477.add ((a2).toNat * 3)).block, (ad477.add ((a2).toNat * 3)).off + 2, none⟩ = some (.int .i64 ((rd_T30 l0 a2).f1)) ∧ w'.cell? (ad477.add (((ji37)).toNat * 3)) = some (.int .i64 ((rd_T30 l0 (ji37)).f0.f0)) ∧ w'.cell? ⟨(ad477.add (((ji37)).toNat * 3)).block, (ad477.add (((ji37)).toNat * 3)).off + 1, none⟩ = some (.int .i64 ((rd_T30 l0 (ji37)).f0.f1)) ∧ w'.cell? ⟨(ad477.add (((ji37)).toNat * 3)).block, (ad477.add (((ji37)).toNat * 3)).off + 2, none⟩ = some (.int .i64 ((rd_T30 l0 (ji37)).f1))) (ds := []) ba21_31 (by kernel_rfl) rfl rfl ⟨hx477_0, hx477_1, hx477_2, hx478_0, hx478_1, hx478_2⟩ (fun hHeld => ?_); refine with_tabW slices_symMergeCmpFunc_impl_Route.tab17 slices_symMergeCmpFunc_impl_Route.bits17 (fun HT_ HW_ => ?_)
     generalize wr.drew = w42 at HO_0 HK HB hx477_0 hx477_1 hx477_2 hx478_0 hx478_1 hx478_2 hHeld ⊢
     refine pz_ 0 92 ba21_32 HT_ ?_
     refine pz_ 1 93 ba21_33 HT_ ?_
     refine pz_ 2 94 ba21_34 HT_ ?_
     refine pz_ 3 95 ba21_35 HT_ ?_
     refine pz_ 5 97 ba21_36 HT_ ?_
     refine pz_ 6 98 ba21_37 HT_ ?_
     refine pz_ 7 99 ba21_38 HT_ ?_
     refine pt_ 4 96 ba21_39 HT_ HW_ hHeld ?_
     refine pt_ 8 100 ba21_40 HT_ HW_ hHeld ?_
     refine on_ 9 (some 101) ba21_41 HT_ (fun K hK => ?_)
     refine goesU_ Try.func101 (by kernel_rfl) rfl #[.agg #[.int .i64 ((rd_T30 l0 a2).f0.f0), .int .i64 ((rd_T30 l0 a2).f0.f1), .int .i64 ((rd_T30 l0 a2).f1)], .agg #[.int .i64 ((rd_T30 l0 (ji37)).f0.f0), .int .i64 ((rd_T30 l0 (ji37)).f0.f1), .int .i64 ((rd_T30 l0 (ji37)).f1)]] (by rfl) rfl rfl (by (try simp only [List.map_toArray, List.map_cons, List.map_nil]); first | done | (simp only [hji37]; rfl) | rfl | (simp only [List.length_drop, List.length_take]; rfl)) ?_
     with_reducible refine (impl_hopsOf_1.calls ((rd_T30 l0 a2).f0.f0) ((rd_T30 l0 a2).f0.f1) ((rd_T30 l0 a2).f1) ((rd_T30 l0 (ji37)).f0.f0) ((rd_T30 l0 (ji37)).f0.f1) ((rd_T30 l0 (ji37)).f1) t479 _ A40.out).mono ?_
     rintro e w44 ⟨rfl, hb⟩
     have HS0_ := (hb.cell (World.block_lt_of_cell? _ _ (hHeld.1))).trans (hHeld.1)
     have HS1_ := (hb.cell (World.block_lt_of_cell? _ _ (hHeld.2.1))).trans (hHeld.2.1)
     have HS2_ := (hb.cell (World.block_lt_of_cell? _ _ (hHeld.2.2.1))).trans (hHeld.2.2.1)
     have HS3_ := (hb.cell (World.block_lt_of_cell? _ _ (hHeld.2.2.2.1))).trans (hHeld.2.2.2.1)
     have HS4_ := (hb.cell (World.block_lt_of_cell? _ _ (hHeld.2.2.2.2.1))).trans (hHeld.2.2.2.2.1)
     have HS5_ := (hb.cell (World.block_lt_of_cell? _ _ (hHeld.2.2.2.2.2))).trans (hHeld.2.2.2.2.2)
     refine ⟨_, rfl, ?_⟩
     replace HO_0 := rb_ HO_0 hb
     replace HK := Aside0.mk (Kept.below (S := (fun k_ => P0_ k_)) (ky_ HK) hb)
     replace HB := at_ HB hb
     clear hb
     refine hK.out _ _ ⟨HS0_, HS1_, HS2_, HS3_, HS4_, HS5_⟩ (fun hHeld => ?_)
     clear hK K
     refine nz_ 101 ?_
     have H := Hh_.out
     clear Hh_
     by_cases c41 : t479 < 0
     ·rw [if_pos c41] at H
      have c41b0 : decide (t479 < 0) = true := decide_eq_true c41
      clear c41
      have H' := Aside0.mk H
      clear H
      refine pz_ 10 102 ba21_42 HT_ ?_
      refine pz_ 11 103 ba21_43 HT_ ?_
      refine done_ (done_of HT_.out (by kernel_rfl)) ?_
      go_wp2
      go_roundg k1
      case measure => have := HK1.out; omega
      case rel => exact ⟨(x14_1), (ji37), er_, (by first | rfl | (simp; done) | (simp only [← hji37] <;> (first | rfl | simp)) | (simp [*]; done)), H', ⟨by have := HK1.out; omega⟩, ⟨hd_ HO_0⟩, ⟨ky_ HK⟩, ⟨bw112_⟩⟩
     rw [if_neg c41] at H
     have c41b0 : decide (t479 < 0) = false := decide_eq_false c41
     clear c41
     have H' := Aside0.mk H
     clear H
     refine pz_ 10 102 ba21_42 HT_ ?_
     refine pz_ 11 103 ba21_43 HT_ ?_
     refine done_ (done_of HT_.out (by kernel_rfl)) ?_
     go_wp2
     go_roundg k1
     case measure => have := HK1.out; omega
     case rel => exact ⟨(wrap64 ((ji37) + 1)), (x15_1), (by first | rfl | (simp; done) | (simp only [← hji37] <;> (first | rfl | simp)) | (simp [*]; done)), er_, H', ⟨by have := HK1.out; omega⟩, ⟨hd_ HO_0⟩, ⟨ky_ HK⟩, ⟨bw112_⟩⟩
    rw [if_neg c34] at H
    have c34b0 : decide (x14_1 < x15_1) = false := decide_eq_false c34
    clear c34
    have H' := Aside0.mk H
    clear H
    go_wp2
    go_loopg [17] k1 (fun kq v17 w' => ∃ (x0_2 : List (S30)) (x17_2 : Int), v17 = .int .i64 x17_2 ∧ Aside0 (slices_symMergeCmpFunc_impl_Route.l3 kq x0_2 x14_1 x17_2 = some r) ∧ Aside0 (kq ≤ k1) ∧ Aside0 (Kd.R k30 30 w' w0.heap.size (fun k_ => (P0_ k_ ∨ w.heap.size ≤ k_)) u9000_ x0_2) ∧ Aside0 (Kept w w' (fun k_ => P0_ k_)) ∧ Aside0 (Below w0.heap.size w0 w'))
    case atStart => exact ⟨(l0), (a2), er_, H', ⟨Nat.le_refl _⟩, ⟨hd_ HO_0⟩, ⟨ky_ HK⟩, ⟨bw112_⟩⟩
    case round => as_aux_lemma =>
     clear H' c34b0
     obtain ⟨x0_2, x17_2, rfl, HA, HK2, HO_0, HK, HB⟩ := hrel
     cases gk with
     | zero => exact absurd HA.out (by simp [slices_symMergeCmpFunc_impl_Route.l3])
     | succ k2 =>
      have H := HA.out
      clear HA
      simp only [slices_symMergeCmpFunc_impl_Route.l3] at H
      by_cases c48 : x17_2 > x14_1
      rotate_left
      ·rw [if_neg c48] at H
       have c48b0 : decide (x14_1 < x17_2) = false := decide_eq_false c48
       clear c48
       obtain rfl := Option.some.inj H
       go_wp2
       first | go_end0 | ((try simp only [Exit.inBlock, Exit.then]); refine bodyPost_ret (results_none rfl _ _ _) rfl ?_)
       exact ⟨by first | rfl | (simp [errW_none, errW_some] <;> rfl) | (simp [*, errW_none, errW_some] <;> rfl), by (with_reducible repeat (first | apply Kd.R_alloc | apply Kd.R_drewN | apply Kd.R_drew)); exact HO_0.out, bw112_, ky_ HK⟩
      rw [if_pos c48] at H
      have c48b0 : decide (x14_1 < x17_2) = true := decide_eq_true c48
      clear c48
      obtain ⟨ji49, hji49⟩ : ∃ j_ : Int, (wrap64 (x17_2 - 1)) = j_ := ⟨_, rfl⟩
      first | rw [hji49] at H | simp only [hji49] at H
      have hji49w : (IntKind.i64.wrap (x17_2 - 1)) = ji49 := (i64_w _).trans hji49
      obtain ⟨c50b0, H⟩ := iq_ H
      obtain ⟨c51b0, H⟩ := iq_ H
      obtain ⟨c52b0, H⟩ := iq_ H
      obtain ⟨c53b0, H⟩ := iq_ H
      obtain ⟨y482, hy482⟩ : ∃ y_ : List (S30), y_ = (x0_2.set (x17_2 : Int).toNat (⟨(⟨(rd_T30 x0_2 (ji49)).f0.f0, (rd_T30 x0_2 (ji49)).f0.f1⟩ : S28), (rd_T30 x0_2 (ji49)).f1⟩ : S30)) := ⟨_, rfl⟩
      replace H : (slices_symMergeCmpFunc_impl_Route.l3 k2 (y482.set ((ji49) : Int).toNat (⟨(⟨(rd_T30 x0_2 x17_2).f0.f0, (rd_T30 x0_2 x17_2).f0.f1⟩ : S28), (rd_T30 x0_2 x17_2).f1⟩ : S30)) x14_1 ji49) = some r := by first | (rw [hy482]; with_reducible exact H) | (have H2_ := (Option.bind_some _ _).symm.trans H; rw [hy482]; with_reducible exact H2_) | (have H2_ := (Option.bind_some _ _).symm.trans H; with_reducible exact H2_) | with_reducible exact H | (rw [hy482]; exact H) | exact H
      have Ny482 := Aside0.mk hy482
      clear hy482
      obtain ⟨y483, hy483⟩ : ∃ y_ : List (S30), y_ = (y482.set ((ji49) : Int).toNat (⟨(⟨(rd_T30 x0_2 x17_2).f0.f0, (rd_T30 x0_2 x17_2).f0.f1⟩ : S28), (rd_T30 x0_2 x17_2).f1⟩ : S30)) := ⟨_, rfl⟩
      replace H : (slices_symMergeCmpFunc_impl_Route.l3 k2 y483 x14_1 ji49) = some r := by first | (rw [hy483]; with_reducible exact H) | (have H2_ := (Option.bind_some _ _).symm.trans H; rw [hy483]; with_reducible exact H2_) | (have H2_ := (Option.bind_some _ _).symm.trans H; with_reducible exact H2_) | with_reducible exact H | (rw [hy483]; exact H) | exact H
      have Ny483 := Aside0.mk hy483
      clear hy483
      have H' := Aside0.mk H
      clear H
      go_wp2
      replace HO_0 := Aside0.mk (Kd.R_drew HO_0.out)
      replace HK := Aside0.mk (Kept.drew HK.out)
      replace HB := Aside0.mk (below_drew1 HB.out)
      obtain ⟨Ao57, co57, eo57⟩ := Kd.R_slice HO_0.out
      subst eo57
      have p480 : 0 ≤ ((ji49) : Int) := oa_
      have q480 : (ji49) < (x0_2.length : Int) := oa_
      obtain ⟨ad480, e480, hx480_0, hx480_1, hx480_2⟩ := at_T30 (Kd.R_reads' HO_0.out).2.2 (ji49) p480 q480
      cases e480
      obtain ⟨p480, q480⟩ := et_ p480 q480
      have p481 : 0 ≤ (x17_2 : Int) := oa_
      have q481 : x17_2 < (x0_2.length : Int) := oa_
      obtain ⟨ad481, e481, hx481_0, hx481_1, hx481_2⟩ := at_T30 (Kd.R_reads' HO_0.out).2.2 x17_2 p481 q481
      obtain rfl : ad480 = ad481 := (by injection e481)
      obtain ⟨p481, q481⟩ := et_ p481 q481
      have p54 : 0 ≤ (x17_2 : Int) := oa_
      have q54 : (x17_2 : Int) < ((x0_2.length : Int) : Int) := oa_
      obtain ⟨go54, co54, eo54, gb54, gl54, cl54, HG54⟩ := Kd.R_form HO_0.out (by omega)
      (first | cases eo54 | (injection eo54 with ea_ en_ ec_; (first | subst ea_ | (injection ea_ with ea_; subst ea_)); subst ec_; clear en_))
      have GB54 := Aside0.mk gb54
      have GG54 := Aside0.mk HG54
      clear gb54 gl54 HG54
      have HMgo54 := Aside0.mk (show (P0_ go54 ∨ w.heap.size ≤ go54) from (HO_0.out.1 _ rfl))
      simp only [add_plain] at hx480_0
      simp only [add_plain] at hx480_1
      simp only [add_plain] at hx480_2
      simp only [add_plain] at hx481_0
      simp only [add_plain] at hx481_1
      simp only [add_plain] at hx481_2
      obtain ⟨ce54, hcl54, hM54, hcc54, hfr54⟩ := Kd.R_elem HO_0.out z30 (x17_2 : Int) p54 q54
      obtain rfl := k30_openM hM54
      have hx54_0 : World.cell? _ ⟨go54, (x17_2 : Int).toNat * 3, none⟩ = some (.int .i64 ((rd_T30 x0_2 x17_2).f0.f0)) := hcc54 0 _ rfl
      have hx54_1 : World.cell? _ ⟨go54, (x17_2 : Int).toNat * 3 + 1, none⟩ = some (.int .i64 ((rd_T30 x0_2 x17_2).f0.f1)) := hcc54 1 _ rfl
      have hx54_2 : World.cell? _ ⟨go54, (x17_2 : Int).toNat * 3 + 2, none⟩ = some (.int .i64 ((rd_T30 x0_2 x17_2).f1)) := hcc54 2 _ rfl
      have hf54_0 : World.frozen? _ ⟨go54, (x17_2 : Int).toNat * 3, none⟩ = false := hfr54 0
      have hf54_1 : World.frozen? _ ⟨go54, (x17_2 : Int).toNat * 3 + 1, none⟩ = false := hfr54 1
      have hf54_2 : World.frozen? _ ⟨go54, (x17_2 : Int).toNat * 3 + 2, none⟩ = false := hfr54 2
      clear hcl54 hcc54 hfr54 hM54
      obtain ⟨p54, q54⟩ := et_ p54 q54
      obtain ⟨ce58, hcl58, hM58, hcc58, hfr58⟩ := Kd.R_elem HO_0.out z30 (x17_2 : Int) oa_ (by have h_ : (x17_2 : Int) < ((x0_2.length : Int) : Int) := oa_; first | exact h_ | (have e_ := (Kd.R_reads' HO_0.out).1; omega) | simpa using h_)
      obtain rfl := k30_openM hM58
      have HP58 := (Kd.R_seg HO_0.out (x17_2 : Int) oa_ (by have h_ : (x17_2 : Int) < ((x0_2.length : Int) : Int) := oa_; first | exact h_ | (have e_ := (Kd.R_reads' HO_0.out).1; omega) | simpa using h_) (seg := [.int .i64 ((rd_T30 x0_2 (ji49)).f0.f0), .int .i64 ((rd_T30 x0_2 (ji49)).f0.f1), .int .i64 ((rd_T30 x0_2 (ji49)).f1)]) (j := 0) hcl58 hcc58 (show 3 ≤ 3 from by decide) (x' := (⟨(⟨(rd_T30 x0_2 (ji49)).f0.f0, (rd_T30 x0_2 (ji49)).f0.f1⟩ : S28), (rd_T30 x0_2 (ji49)).f1⟩ : S30)) (k30_mkM _ _ _ (⟨(⟨(rd_T30 x0_2 (ji49)).f0.f0, (rd_T30 x0_2 (ji49)).f0.f1⟩ : S28), (rd_T30 x0_2 (ji49)).f1⟩ : S30) ) (fun _ hk => hk)).1
      rw [← Ny482.out] at HP58
      have HQ58 := Aside0.mk HP58
      clear hcl58 hcc58 hfr58 hM58 HP58
      have p55 : 0 ≤ ((ji49) : Int) := oa_
      have q55 : ((ji49) : Int) < ((x0_2.length : Int) : Int) := oa_
      obtain ⟨ce55, hcl55, hM55, hcc55, hfr55⟩ := Kd.R_elem HQ58.out z30 ((ji49) : Int) p55 q55
      obtain rfl := k30_openM hM55
      have hx55_0 : World.cell? _ ⟨go54, ((ji49) : Int).toNat * 3, none⟩ = some (.int .i64 ((rd_T30 y482 (ji49)).f0.f0)) := hcc55 0 _ rfl
      have hx55_1 : World.cell? _ ⟨go54, ((ji49) : Int).toNat * 3 + 1, none⟩ = some (.int .i64 ((rd_T30 y482 (ji49)).f0.f1)) := hcc55 1 _ rfl
      have hx55_2 : World.cell? _ ⟨go54, ((ji49) : Int).toNat * 3 + 2, none⟩ = some (.int .i64 ((rd_T30 y482 (ji49)).f1)) := hcc55 2 _ rfl
      have hf55_0 : World.frozen? _ ⟨go54, ((ji49) : Int).toNat * 3, none⟩ = false := hfr55 0
      have hf55_1 : World.frozen? _ ⟨go54, ((ji49) : Int).toNat * 3 + 1, none⟩ = false := hfr55 1
      have hf55_2 : World.frozen? _ ⟨go54, ((ji49) : Int).toNat * 3 + 2, none⟩ = false := hfr55 2
      clear hcl55 hcc55 hfr55 hM55
      obtain ⟨p55, q55⟩ := et_ p55 q55
      obtain ⟨ce59, hcl59, hM59, hcc59, hfr59⟩ := Kd.R_elem HQ58.out z30 ((ji49) : Int) oa_ (by have h_ : ((ji49) : Int) < ((x0_2.length : Int) : Int) := oa_; first | exact h_ | (have e_ := (Kd.R_reads' HO_0.out).1; omega) | simpa using h_)
      obtain rfl := k30_openM hM59
      have HP59 := (Kd.R_seg HQ58.out ((ji49) : Int) oa_ (by have h_ : ((ji49) : Int) < ((x0_2.length : Int) : Int) := oa_; first | exact h_ | (have e_ := (Kd.R_reads' HO_0.out).1; omega) | simpa using h_) (seg := [.int .i64 ((rd_T30 x0_2 x17_2).f0.f0), .int .i64 ((rd_T30 x0_2 x17_2).f0.f1), .int .i64 ((rd_T30 x0_2 x17_2).f1)]) (j := 0) hcl59 hcc59 (show 3 ≤ 3 from by decide) (x' := (⟨(⟨(rd_T30 x0_2 x17_2).f0.f0, (rd_T30 x0_2 x17_2).f0.f1⟩ : S28), (rd_T30 x0_2 x17_2).f1⟩ : S30)) (k30_mkM _ _ _ (⟨(⟨(rd_T30 x0_2 x17_2).f0.f0, (rd_T30 x0_2 x17_2).f0.f1⟩ : S28), (rd_T30 x0_2 x17_2).f1⟩ : S30) ) (fun _ hk => hk)).1
      rw [← Ny483.out] at HP59
      have HQ59 := Aside0.mk HP59
      clear hcl59 hcc59 hfr59 hM59 HP59
      refine start_ (n := 18) (S := fun w' => w'.cell? ⟨go54, (((ji49)).toNat * 3), none⟩ = some (.int .i64 ((rd_T30 x0_2 (ji49)).f0.f0)) ∧ w'.cell? ⟨go54, (((ji49)).toNat * 3) + 1, none⟩ = some (.int .i64 ((rd_T30 x0_2 (ji49)).f0.f1)) ∧ w'.cell? ⟨go54, (((ji49)).toNat * 3) + 2, none⟩ = some (.int .i64 ((rd_T30 x0_2 (ji49)).f1)) ∧ w'.cell? ⟨go54, ((x17_2).toNat * 3), none⟩ = some (.int .i64 ((rd_T30 x0_2 x17_2).f0.f0)) ∧ w'.cell? ⟨go54, ((x17_2).toNat * 3) + 1, none⟩ = some (.int .i64 ((rd_T30 x0_2 x17_2).f0.f1)) ∧ w'.cell? ⟨go54, ((x17_2).toNat * 3) + 2, none⟩ = some (.int .i64 ((rd_T30 x0_2 x17_2).f1))) (ds := [15, 17]) ba21_12 (by kernel_rfl) rfl rfl ⟨hx480_0, hx480_1, hx480_2, hx481_0, hx481_1, hx481_2⟩ (fun hHeld => ?_); refine with_tabW slices_symMergeCmpFunc_impl_Route.tab23 slices_symMergeCmpFunc_impl_Route.bits23 (fun HT_ HW_ => ?_)
      generalize wr.drew = w56 at HO_0 HK HB GG54 HQ58 HQ59 hf54_0 hf54_1 hf54_2 hf55_0 hf55_1 hf55_2 hx480_0 hx480_1 hx480_2 hx481_0 hx481_1 hx481_2 hx54_0 hx54_1 hx54_2 hx55_0 hx55_1 hx55_2 hHeld ⊢
      refine pz_ 0 113 ba21_13 HT_ ?_
      refine pz_ 1 114 ba21_14 HT_ ?_
      refine pz_ 2 115 ba21_15 HT_ ?_
      refine pz_ 3 116 ba21_16 HT_ ?_
      refine pz_ 4 117 ba21_17 HT_ ?_
      refine pz_ 5 118 ba21_18 HT_ ?_
      refine pz_ 6 119 ba21_19 HT_ ?_
      refine pz_ 7 120 ba21_20 HT_ ?_
      refine pz_ 8 121 ba21_21 HT_ ?_
      refine pz_ 10 123 ba21_22 HT_ ?_
      refine pz_ 11 124 ba21_23 HT_ ?_
      refine pz_ 12 125 ba21_24 HT_ ?_
      refine pt_ 9 122 ba21_25 HT_ HW_ hHeld ?_
      refine pt_ 13 126 ba21_26 HT_ HW_ hHeld ?_
      refine pz_ 14 127 ba21_27 HT_ ?_
      refine last_ (i := 15) (N := none) ba21_28 rfl rfl (one_of HT_.out (by kernel_rfl)) (by decide) (fun K hK => ?_)
      refine skip_ (w1 := ?_) (by rfl) rfl ?_ ?_
      rotate_left; · go_simp; rfl
      refine hK.out _ _ ?_
      clear hK K
      refine pz_ 16 128 ba21_29 HT_ ?_
      generalize hW_ : World.setCell (World.setCell (World.setCell _ _ _) _ _) _ _ = wS_
      have hy_hf55_0 : World.frozen? wS_ _ = false := Eq.trans (congrArg (fun q => World.frozen? q _) hW_).symm hf55_0
      have hy_hf55_1 : World.frozen? wS_ _ = false := Eq.trans (congrArg (fun q => World.frozen? q _) hW_).symm hf55_1
      have hy_hf55_2 : World.frozen? wS_ _ = false := Eq.trans (congrArg (fun q => World.frozen? q _) hW_).symm hf55_2
      have hy_hx55_0 : World.cell? wS_ _ = some _ := Eq.trans (congrArg (fun q => World.cell? q _) hW_).symm hx55_0
      have hy_hx55_1 : World.cell? wS_ _ = some _ := Eq.trans (congrArg (fun q => World.cell? q _) hW_).symm hx55_1
      have hy_hx55_2 : World.cell? wS_ _ = some _ := Eq.trans (congrArg (fun q => World.cell? q _) hW_).symm hx55_2
      refine last_ (i := 17) (N := none) ba21_30 rfl rfl (one_of HT_.out (by kernel_rfl)) (by decide) (fun K hK => ?_)
      refine skip_ (w1 := ?_) (by rfl) rfl ?_ ?_
      rotate_left; · go_simp; rfl
      refine hK.out _ _ ?_
      clear hK K
      subst hW_
      refine done_ (done_of HT_.out (by kernel_rfl)) ?_
      go_wp2
      go_roundg k2
      case measure => have := HK1.out; have := HK2.out; omega
      case rel => exact ⟨(y483), (ji49), (by first | rfl | (simp; done) | (simp only [← hji49] <;> (first | rfl | simp)) | (simp [*]; done)), H', ⟨by have := HK1.out; have := HK2.out; omega⟩, ⟨by (with_reducible repeat (first | apply Kd.R_alloc | apply Kd.R_drewN | apply Kd.R_drew)); exact HQ59.out⟩, ⟨by repeat (first | (with_reducible first | exact HK.out | apply Kept.alloc | apply Kept.drewN | apply Kept.drew | refine Kept.setCell ?_ HMgo54.out _ | refine Kept.setCell ?_ HMgo54.out _ | refine Kept.setCell ?_ HMgo54.out _ | refine Kept.setCell ?_ HMgo54.out _ | refine Kept.setCell ?_ HMgo54.out _ | refine Kept.setCell ?_ HMgo54.out _) | exact HK.out)⟩, ⟨by repeat (first | (with_reducible first | exact HB.out | apply below_alloc | apply pw_below_drewN | apply below_drew1 | refine below_set ?_ GB54.out | refine below_set ?_ GB54.out | refine below_set ?_ GB54.out | refine below_set ?_ GB54.out | refine below_set ?_ GB54.out | refine below_set ?_ GB54.out) | exact HB.out)⟩⟩
 rw [if_neg c33] at H
 have c33b0 : ((wrap64 (a3 - a2)) == 1) = false := beq_eq_false_iff_ne.mpr c33
 have c33b1 : ((wrap64 (a3 - a2)) != 1) = true := bne_iff_ne.mpr c33
 have HC60 := Aside0.mk H
 clear H
 go_enter Try.func126, Try.ntmps126
 go_upto_if 140 with (fail)
 go_cut [20, 21] (fun v20 v21 wc => ∃ (kq : Nat) (x20_59 : Int) (x21_59 : Int), v20 = .int .i64 x20_59 ∧ v21 = .int .i64 x21_59 ∧ Aside0 (slices_symMergeCmpFunc_impl_Route.j4 kq l0 a1 a2 a3 (wrap64 ((IntKind.u64.wrap (wrap64 (a1 + a3))) / 2)) (wrap64 ((wrap64 ((IntKind.u64.wrap (wrap64 (a1 + a3))) / 2)) + a2)) x20_59 x21_59 = some r) ∧ Aside0 (kq ≤ k) ∧ Aside0 (Kd.R k30 30 wc w0.heap.size (fun k_ => (P0_ k_ ∨ w.heap.size ≤ k_)) u9000_ l0) ∧ Aside0 (Kept w wc (fun k_ => P0_ k_)) ∧ Aside0 (Below w0.heap.size w0 wc))
 case first =>
  have H := HC60.out
  clear HC60
  by_cases c61 : a2 > (wrap64 ((IntKind.u64.wrap (wrap64 (a1 + a3))) / 2))
  ·rw [if_pos c61] at H
   have c61b0 : decide ((wrap64 ((IntKind.u64.wrap (wrap64 (a1 + a3))) / 2)) < a2) = true := decide_eq_true c61
   clear c61
   (first | rw [c61b0] | (simp only [i64_w, i32_w]; rw [c61b0]) | skip)
   have H' := Aside0.mk H
   clear H
   go_wp2
   go_meet
   case rel => exact ⟨_, (wrap64 ((wrap64 ((wrap64 ((IntKind.u64.wrap (wrap64 (a1 + a3))) / 2)) + a2)) - a3)), (wrap64 ((IntKind.u64.wrap (wrap64 (a1 + a3))) / 2)), er_, er_, H', ⟨by first | omega | exact Nat.le_refl _⟩, ⟨hd_ HO0⟩, ⟨ky_ HK⟩, ⟨bw112_⟩⟩
  rw [if_neg c61] at H
  have c61b0 : decide ((wrap64 ((IntKind.u64.wrap (wrap64 (a1 + a3))) / 2)) < a2) = false := decide_eq_false c61
  clear c61
  (first | rw [c61b0] | (simp only [i64_w, i32_w]; rw [c61b0]) | skip)
  have H' := Aside0.mk H
  clear H
  go_wp2
  go_meet
  case rel => exact ⟨_, (a1), (a2), er_, er_, H', ⟨by first | omega | exact Nat.le_refl _⟩, ⟨hd_ HO0⟩, ⟨ky_ HK⟩, ⟨bw112_⟩⟩
 case rest =>
  clear HC60 c6 c6b0 c6b1 c33 c33b0 c33b1
  obtain ⟨kq, x20_59, x21_59, rfl, rfl, HA, HJ59, HO_0, HK, HB⟩ := hcut
  cases kq with
  | zero => exact absurd HA.out (by simp [slices_symMergeCmpFunc_impl_Route.j4])
  | succ kj59 =>
   have H := HA.out
   clear HA
   simp only [slices_symMergeCmpFunc_impl_Route.j4] at H
   have H' := Aside0.mk H
   clear H
   go_wp2
   go_loopg [20, 21] kj59 (fun kq v20 v21 w' => ∃ (x20_2 : Int) (x21_2 : Int), v20 = .int .i64 x20_2 ∧ v21 = .int .i64 x21_2 ∧ Aside0 (slices_symMergeCmpFunc_impl_Route.l4 kq l0 a1 a2 a3 (wrap64 ((IntKind.u64.wrap (wrap64 (a1 + a3))) / 2)) (wrap64 ((wrap64 ((IntKind.u64.wrap (wrap64 (a1 + a3))) / 2)) + a2)) x20_2 x21_2 (wrap64 ((wrap64 ((wrap64 ((IntKind.u64.wrap (wrap64 (a1 + a3))) / 2)) + a2)) - 1)) = some r) ∧ Aside0 (kq ≤ kj59) ∧ Aside0 (Kd.R k30 30 w' w0.heap.size (fun k_ => (P0_ k_ ∨ w.heap.size ≤ k_)) u9000_ l0) ∧ Aside0 (Kept w w' (fun k_ => P0_ k_)) ∧ Aside0 (Below w0.heap.size w0 w'))
   case atStart => exact ⟨(x20_59), (x21_59), er_, er_, H', ⟨Nat.le_refl _⟩, ⟨hd_ HO_0⟩, ⟨ky_ HK⟩, ⟨bw112_⟩⟩
   case round => as_aux_lemma =>
    clear H'
    obtain ⟨x20_2, x21_2, rfl, rfl, HA, HK2, HO_0, HK, HB⟩ := hrel
    cases gk with
    | zero => exact absurd HA.out (by simp [slices_symMergeCmpFunc_impl_Route.l4])
    | succ k2 =>
     have H := HA.out
     clear HA
     simp only [slices_symMergeCmpFunc_impl_Route.l4] at H
     by_cases c62 : x20_2 < x21_2
     ·as_aux_lemma =>
      rw [if_pos c62] at H
      have c62b0 : decide (x20_2 < x21_2) = true := decide_eq_true c62
      clear c62
      obtain ⟨ji63, hji63⟩ : ∃ j_ : Int, (wrap64 ((wrap64 ((wrap64 ((wrap64 ((IntKind.u64.wrap (wrap64 (a1 + a3))) / 2)) + a2)) - 1)) - (wrap64 ((IntKind.u64.wrap (wrap64 (x20_2 + x21_2))) / 2)))) = j_ := ⟨_, rfl⟩
      first | rw [hji63] at H | simp only [hji63] at H
      have hji63w : (IntKind.i64.wrap ((wrap64 ((wrap64 ((wrap64 ((IntKind.u64.wrap (wrap64 (a1 + a3))) / 2)) + a2)) - 1)) - (wrap64 ((IntKind.u64.wrap (wrap64 (x20_2 + x21_2))) / 2)))) = ji63 := (i64_w _).trans hji63
      obtain ⟨c64b0, H⟩ := iq_ H
      obtain ⟨c65b0, H⟩ := iq_ H
      obtain ⟨ji66, hji66⟩ : ∃ j_ : Int, (wrap64 ((IntKind.u64.wrap (wrap64 (x20_2 + x21_2))) / 2)) = j_ := ⟨_, rfl⟩
      first | rw [hji66] at H | simp only [hji66] at H
      have hji66w : (IntKind.i64.wrap ((IntKind.u64.wrap (wrap64 (x20_2 + x21_2))) / 2)) = ji66 := (i64_w _).trans hji66
      (try (have hji63v66 := hji63; rw [hji66] at hji63v66))
      (try (have hji63wv66 := hji63w; rw [hji66] at hji63wv66))
      obtain ⟨c67b0, H⟩ := iq_ H
      obtain ⟨c68b0, H⟩ := iq_ H
      obtain ⟨t486, A69, H⟩ := ob_ H
      have Hh_ := Aside0.mk H
      clear H
      go_wp2
      replace HO_0 := Aside0.mk (Kd.R_drew HO_0.out)
      replace HK := Aside0.mk (Kept.drew HK.out)
      replace HB := Aside0.mk (below_drew1 HB.out)
      obtain ⟨Ao72, co72, eo72⟩ := Kd.R_slice HO_0.out
      subst eo72
      have p484 : 0 ≤ ((ji63) : Int) := oa_
      have q484 : (ji63) < (l0.length : Int) := oa_
      obtain ⟨ad484, e484, hx484_0, hx484_1, hx484_2⟩ := at_T30 (Kd.R_reads' HO_0.out).2.2 (ji63) p484 q484
      cases e484
      obtain ⟨p484, q484⟩ := et_ p484 q484
      have p485 : 0 ≤ ((ji66) : Int) := oa_
      have q485 : (ji66) < (l0.length : Int) := oa_
      obtain ⟨ad485, e485, hx485_0, hx485_1, hx485_2⟩ := at_T30 (Kd.R_reads' HO_0.out).2.2 (ji66) p485 q485
      obtain rfl : ad484 = ad485 := (by injection e485)
      obtain ⟨p485, q485⟩ := et_ p485 q485
      refine start_ (n := 14) (S := fun w' => w'.cell? (ad484.add (((ji63)).toNat * 3)) = some (.int .i64 ((rd_T30 l0 (ji63)).f0.f0)) ∧ w'.cell? ⟨(ad484.add (((ji63)).toNat * 3)).block, (ad484.add (((ji63)).toNat * 3)).off + 1, none⟩ = some (.int .i64 ((rd_T30 l0 (ji63)).f0.f1)) ∧ w'.cell? ⟨(ad484.add (((ji63)).toNat * 3)).block, (ad484.add (((ji63)).toNat * 3)).off + 2, none⟩ = some (.int .i64 ((rd_T30 l0 (ji63)).f1)) ∧ w'.cell? (ad484.add (((ji66)).toNat * 3)) = some (.int .i64 ((rd_T30 l0 (ji66)).f0.f0)) ∧ w'.cell? ⟨(ad484.add (((ji66)).toNat * 3)).block, (ad484.add (((ji66)).toNat * 3)).off + 1, none⟩ = some (.int .i64 ((rd_T30 l0 (ji66)).f0.f1)) ∧ w'.cell? ⟨(ad484.add (((ji66)).toNat * 3)).block, (ad484.add (((ji66)).toNat * 3)).off + 2, none⟩ = some (.int .i64 ((rd_T30 l0 (ji66)).f1))) (ds := []) ba21_44 (by kernel_rfl) rfl rfl ⟨hx484_0, hx484_1, hx484_2, hx485_0, hx485_1, hx485_2⟩ (fun hHeld => ?_); refine with_tabW slices_symMergeCmpFunc_impl_Route.tab35 slices_symMergeCmpFunc_impl_Route.bits35 (fun HT_ HW_ => ?_)
      generalize wr.drew = w71 at HO_0 HK HB hx484_0 hx484_1 hx484_2 hx485_0 hx485_1 hx485_2 hHeld ⊢
      refine pz_ 0 158 ba21_45 HT_ ?_
      refine pz_ 1 159 ba21_46 HT_ ?_
      refine pz_ 2 160 ba21_47 HT_ ?_
      refine pz_ 3 161 ba21_48 HT_ ?_
      refine pz_ 4 162 ba21_49 HT_ ?_
      refine pz_ 5 163 ba21_50 HT_ ?_
      refine pz_ 7 165 ba21_51 HT_ ?_
      refine pz_ 8 166 ba21_52 HT_ ?_
      refine pz_ 9 167 ba21_53 HT_ ?_
      refine pt_ 6 164 ba21_54 HT_ HW_ hHeld ?_
      refine pt_ 10 168 ba21_55 HT_ HW_ hHeld ?_
      refine on_ 11 (some 169) ba21_56 HT_ (fun K hK => ?_)
      refine goesU_ Try.func101 (by kernel_rfl) rfl #[.agg #[.int .i64 ((rd_T30 l0 (ji63)).f0.f0), .int .i64 ((rd_T30 l0 (ji63)).f0.f1), .int .i64 ((rd_T30 l0 (ji63)).f1)], .agg #[.int .i64 ((rd_T30 l0 (ji66)).f0.f0), .int .i64 ((rd_T30 l0 (ji66)).f0.f1), .int .i64 ((rd_T30 l0 (ji66)).f1)]] (by rfl) rfl rfl (by (try simp only [List.map_toArray, List.map_cons, List.map_nil]); first | done | (simp only [hji63, hji66]; rfl) | rfl | (simp only [List.length_drop, List.length_take]; rfl)) ?_
      with_reducible refine (impl_hopsOf_1.calls ((rd_T30 l0 (ji63)).f0.f0) ((rd_T30 l0 (ji63)).f0.f1) ((rd_T30 l0 (ji63)).f1) ((rd_T30 l0 (ji66)).f0.f0) ((rd_T30 l0 (ji66)).f0.f1) ((rd_T30 l0 (ji66)).f1) t486 _ A69.out).mono ?_
      rintro e w73 ⟨rfl, hb⟩
      have HS0_ := (hb.cell (World.block_lt_of_cell? _ _ (hHeld.1))).trans (hHeld.1)
      have HS1_ := (hb.cell (World.block_lt_of_cell? _ _ (hHeld.2.1))).trans (hHeld.2.1)
      have HS2_ := (hb.cell (World.block_lt_of_cell? _ _ (hHeld.2.2.1))).trans (hHeld.2.2.1)
      have HS3_ := (hb.cell (World.block_lt_of_cell? _ _ (hHeld.2.2.2.1))).trans (hHeld.2.2.2.1)
      have HS4_ := (hb.cell (World.block_lt_of_cell? _ _ (hHeld.2.2.2.2.1))).trans (hHeld.2.2.2.2.1)
      have HS5_ := (hb.cell (World.block_lt_of_cell? _ _ (hHeld.2.2.2.2.2))).trans (hHeld.2.2.2.2.2)
      refine ⟨_, rfl, ?_⟩
      replace HO_0 := rb_ HO_0 hb
      replace HK := Aside0.mk (Kept.below (S := (fun k_ => P0_ k_)) (ky_ HK) hb)
      replace HB := at_ HB hb
      clear hb
      refine hK.out _ _ ⟨HS0_, HS1_, HS2_, HS3_, HS4_, HS5_⟩ (fun hHeld => ?_)
      clear hK K
      refine nz_ 169 ?_
      have H := Hh_.out
      clear Hh_
      by_cases c70 : t486 < 0
      ·rw [if_pos c70] at H
       have c70b0 : decide (t486 < 0) = true := decide_eq_true c70
       clear c70
       have H' := Aside0.mk H
       clear H
       refine pz_ 12 170 ba21_57 HT_ ?_
       refine pz_ 13 171 ba21_58 HT_ ?_
       refine done_ (done_of HT_.out (by kernel_rfl)) ?_
       go_wp2
       go_roundg k2
       case measure => have := HJ59.out; have := HK2.out; omega
       case rel => exact ⟨(x20_2), (ji66), er_, (by first | rfl | (simp; done) | (simp only [← hji66] <;> (first | rfl | simp)) | (simp [*]; done)), H', ⟨by have := HJ59.out; have := HK2.out; omega⟩, ⟨hd_ HO_0⟩, ⟨ky_ HK⟩, ⟨bw112_⟩⟩
      rw [if_neg c70] at H
      have c70b0 : decide (t486 < 0) = false := decide_eq_false c70
      clear c70
      have H' := Aside0.mk H
      clear H
      refine pz_ 12 170 ba21_57 HT_ ?_
      refine pz_ 13 171 ba21_58 HT_ ?_
      refine done_ (done_of HT_.out (by kernel_rfl)) ?_
      go_wp2
      go_roundg k2
      case measure => have := HJ59.out; have := HK2.out; omega
      case rel => exact ⟨(wrap64 ((ji66) + 1)), (x21_2), (by first | rfl | (simp; done) | (simp only [← hji66] <;> (first | rfl | simp)) | (simp [*]; done)), er_, H', ⟨by have := HJ59.out; have := HK2.out; omega⟩, ⟨hd_ HO_0⟩, ⟨ky_ HK⟩, ⟨bw112_⟩⟩
     rw [if_neg c62] at H
     have c62b0 : decide (x20_2 < x21_2) = false := decide_eq_false c62
     clear c62
     have HC77 := Aside0.mk H
     clear H
     go_upto_region 39 with (fail)
     go_cut [185] (fun v185 wc => ∃ (kq : Nat) (x185_76 : Bool), v185 = .bool x185_76 ∧ Aside0 (slices_symMergeCmpFunc_impl_Route.j6 kq l0 a1 a2 a3 (wrap64 ((IntKind.u64.wrap (wrap64 (a1 + a3))) / 2)) x20_2 (wrap64 ((wrap64 ((wrap64 ((IntKind.u64.wrap (wrap64 (a1 + a3))) / 2)) + a2)) - x20_2)) x185_76 = some r) ∧ Aside0 (kq ≤ k2) ∧ Aside0 (Kd.R k30 30 wc w0.heap.size (fun k_ => (P0_ k_ ∨ w.heap.size ≤ k_)) u9000_ l0) ∧ Aside0 (Kept w wc (fun k_ => P0_ k_)) ∧ Aside0 (Below w0.heap.size w0 wc))
     case first =>
      have H := HC77.out
      clear HC77
      by_cases c78 : x20_2 < a2
      ·rw [if_pos c78] at H
       have c78b0 : decide (x20_2 < a2) = true := decide_eq_true c78
       clear c78
       (first | rw [c78b0] | (simp only [i64_w, i32_w]; rw [c78b0]) | skip)
       have H' := Aside0.mk H
       clear H
       go_wp2
       go_meet
       case rel => exact ⟨_, (decide (a2 < (wrap64 ((wrap64 ((wrap64 ((IntKind.u64.wrap (wrap64 (a1 + a3))) / 2)) + a2)) - x20_2)))), er_, H', ⟨by have := HJ59.out; have := HK2.out; first | omega | exact Nat.le_refl _⟩, ⟨hd_ HO_0⟩, ⟨ky_ HK⟩, ⟨bw112_⟩⟩
      rw [if_neg c78] at H
      have c78b0 : decide (x20_2 < a2) = false := decide_eq_false c78
      clear c78
      (first | rw [c78b0] | (simp only [i64_w, i32_w]; rw [c78b0]) | skip)
      have H' := Aside0.mk H
      clear H
      go_wp2
      go_meet
      case rel => exact ⟨_, (false), er_, H', ⟨by have := HJ59.out; have := HK2.out; first | omega | exact Nat.le_refl _⟩, ⟨hd_ HO_0⟩, ⟨ky_ HK⟩, ⟨bw112_⟩⟩
     case rest =>
      clear HC77 c62b0
      obtain ⟨kq, x185_76, rfl, HA, HJ76, HO_0, HK, HB⟩ := hcut
      cases kq with
      | zero => exact absurd HA.out (by simp [slices_symMergeCmpFunc_impl_Route.j6])
      | succ kj76 =>
       have H := HA.out
       clear HA
       simp only [slices_symMergeCmpFunc_impl_Route.j6] at H
       have HC79 := Aside0.mk H
       clear H
       go_upto_if 185 with (fail)
       go_cut [] (fun wc => ∃ (kq : Nat) (x0_78 : List (S30)), Aside0 (slices_symMergeCmpFunc_impl_Route.j7 kq x0_78 a1 a3 (wrap64 ((IntKind.u64.wrap (wrap64 (a1 + a3))) / 2)) x20_2 (wrap64 ((wrap64 ((wrap64 ((IntKind.u64.wrap (wrap64 (a1 + a3))) / 2)) + a2)) - x20_2)) = some r) ∧ Aside0 (kq ≤ kj76) ∧ Aside0 (Kd.R k30 30 wc w0.heap.size (fun k_ => (P0_ k_ ∨ w.heap.size ≤ k_)) u9000_ x0_78) ∧ Aside0 (Kept w wc (fun k_ => P0_ k_)) ∧ Aside0 (Below w0.heap.size w0 wc))
       case first =>
        have H := HC79.out
        clear HC79
        by_cases c80 : x185_76 = true
        rotate_left
        ·replace c80 := Bool.eq_false_iff.mpr c80
         subst c80
         rw [if_neg (show ¬ (false = true) by decide)] at H
         have H' := Aside0.mk H
         clear H
         go_wp2
         go_meet
         case rel => exact ⟨_, (l0), H', ⟨by have := HJ59.out; have := HK2.out; have := HJ76.out; first | omega | exact Nat.le_refl _⟩, ⟨hd_ HO_0⟩, ⟨ky_ HK⟩, ⟨bw112_⟩⟩
        subst c80
        rw [if_pos rfl] at H
        obtain ⟨t487, A81, H⟩ := ob_ H
        have H' := Aside0.mk H
        clear H
        obtain ⟨Ao82, co82, eo82⟩ := Kd.R_slice HO_0.out
        subst eo82
        go_wp2_with ((with_reducible refine gate_callee (f := 132) rfl ?_); refine gl_ (some 191) Try.func132 #[.slice Ao82 l0.length co82, .int .i64 x20_2, .int .i64 a2, .int .i64 (wrap64 ((wrap64 ((wrap64 ((IntKind.u64.wrap (wrap64 (a1 + a3))) / 2)) + a2)) - x20_2)), .func (.func 101) #[] #[]] ?_; (with_reducible refine (slices_rotateCmpFunc_impl_Route.calls kj76 (fun k_ => some k_ = (.slice Ao82 l0.length co82 : Value).ownBlock) (.slice Ao82 l0.length co82) l0 x20_2 a2 (wrap64 ((wrap64 ((wrap64 ((IntKind.u64.wrap (wrap64 (a1 + a3))) / 2)) + a2)) - x20_2))  t487 w0 _ ?side1 ?side2 A81.out).mono ?_); (case side1 => exact by_ HB); (case side2 => exact Kd.R_tight rfl HO_0.out); rintro e w83 ⟨rfl, hy0, hb, hkp⟩; refine ⟨_, rfl, ?_⟩; replace HK := Aside0.mk (Kept.then_ (S := (fun k_ => P0_ k_)) (ky_ HK) hkp (fun k_ hs_ => (fun e_ => (HO_0.out.1 k_ e_.symm)) hs_)); replace HO_0 := Aside0.mk (Kd.R_reok rfl hy0 (fun k_ e_ => HO_0.out.1 k_ e_)); replace HB := Aside0.mk (hb); clear hb hkp hy0)
        go_meet
        case rel => exact ⟨_, (t487), H', ⟨by have := HJ59.out; have := HK2.out; have := HJ76.out; first | omega | exact Nat.le_refl _⟩, ⟨hd_ HO_0⟩, ⟨ky_ HK⟩, ⟨bw112_⟩⟩
       case rest =>
        clear HC79
        obtain ⟨kq, x0_78, HA, HJ78, HO_0, HK, HB⟩ := hcut
        cases kq with
        | zero => exact absurd HA.out (by simp [slices_symMergeCmpFunc_impl_Route.j7])
        | succ kj78 =>
         have H := HA.out
         clear HA
         simp only [slices_symMergeCmpFunc_impl_Route.j7] at H
         have HC84 := Aside0.mk H
         clear H
         go_upto_region 41 with (fail)
         go_cut [199] (fun v199 wc => ∃ (kq : Nat) (x199_83 : Bool), v199 = .bool x199_83 ∧ Aside0 (slices_symMergeCmpFunc_impl_Route.j8 kq x0_78 a1 a3 (wrap64 ((IntKind.u64.wrap (wrap64 (a1 + a3))) / 2)) x20_2 (wrap64 ((wrap64 ((wrap64 ((IntKind.u64.wrap (wrap64 (a1 + a3))) / 2)) + a2)) - x20_2)) x199_83 = some r) ∧ Aside0 (kq ≤ kj78) ∧ Aside0 (Kd.R k30 30 wc w0.heap.size (fun k_ => (P0_ k_ ∨ w.heap.size ≤ k_)) u9000_ x0_78) ∧ Aside0 (Kept w wc (fun k_ => P0_ k_)) ∧ Aside0 (Below w0.heap.size w0 wc))
         case first =>
          have H := HC84.out
          clear HC84
          by_cases c85 : a1 < x20_2
          ·rw [if_pos c85] at H
           have c85b0 : decide (a1 < x20_2) = true := decide_eq_true c85
           clear c85
           (first | rw [c85b0] | (simp only [i64_w, i32_w]; rw [c85b0]) | skip)
           have H' := Aside0.mk H
           clear H
           go_wp2
           go_meet
           case rel => exact ⟨_, (decide (x20_2 < (wrap64 ((IntKind.u64.wrap (wrap64 (a1 + a3))) / 2)))), er_, H', ⟨by have := HJ59.out; have := HK2.out; have := HJ76.out; have := HJ78.out; first | omega | exact Nat.le_refl _⟩, ⟨hd_ HO_0⟩, ⟨ky_ HK⟩, ⟨bw112_⟩⟩
          rw [if_neg c85] at H
          have c85b0 : decide (a1 < x20_2) = false := decide_eq_false c85
          clear c85
          (first | rw [c85b0] | (simp only [i64_w, i32_w]; rw [c85b0]) | skip)
          have H' := Aside0.mk H
          clear H
          go_wp2
          go_meet
          case rel => exact ⟨_, (false), er_, H', ⟨by have := HJ59.out; have := HK2.out; have := HJ76.out; have := HJ78.out; first | omega | exact Nat.le_refl _⟩, ⟨hd_ HO_0⟩, ⟨ky_ HK⟩, ⟨bw112_⟩⟩
         case rest =>
          clear HC84
          obtain ⟨kq, x199_83, rfl, HA, HJ83, HO_0, HK, HB⟩ := hcut
          cases kq with
          | zero => exact absurd HA.out (by simp [slices_symMergeCmpFunc_impl_Route.j8])
          | succ kj83 =>
           have H := HA.out
           clear HA
           simp only [slices_symMergeCmpFunc_impl_Route.j8] at H
           by_cases c86 : x199_83 = true
           rotate_left
           ·replace c86 := Bool.eq_false_iff.mpr c86
            subst c86
            rw [if_neg (show ¬ (false = true) by decide)] at H
            by_cases c98 : (wrap64 ((IntKind.u64.wrap (wrap64 (a1 + a3))) / 2)) < (wrap64 ((wrap64 ((wrap64 ((IntKind.u64.wrap (wrap64 (a1 + a3))) / 2)) + a2)) - x20_2))
            rotate_left
            ·rw [if_neg c98] at H
             have c98b0 : decide ((wrap64 ((IntKind.u64.wrap (wrap64 (a1 + a3))) / 2)) < (wrap64 ((wrap64 ((wrap64 ((IntKind.u64.wrap (wrap64 (a1 + a3))) / 2)) + a2)) - x20_2))) = false := decide_eq_false c98
             clear c98
             obtain rfl := Option.some.inj H
             go_wp2
             first | go_end0 | ((try simp only [Exit.inBlock, Exit.then]); refine bodyPost_ret (results_none rfl _ _ _) rfl ?_)
             exact ⟨by first | rfl | (simp [errW_none, errW_some] <;> rfl) | (simp [*, errW_none, errW_some] <;> rfl), by (with_reducible repeat (first | apply Kd.R_alloc | apply Kd.R_drewN | apply Kd.R_drew)); exact HO_0.out, bw112_, ky_ HK⟩
            rw [if_pos c98] at H
            have c98b0 : decide ((wrap64 ((IntKind.u64.wrap (wrap64 (a1 + a3))) / 2)) < (wrap64 ((wrap64 ((wrap64 ((IntKind.u64.wrap (wrap64 (a1 + a3))) / 2)) + a2)) - x20_2))) = true := decide_eq_true c98
            clear c98
            by_cases c99 : (wrap64 ((wrap64 ((wrap64 ((IntKind.u64.wrap (wrap64 (a1 + a3))) / 2)) + a2)) - x20_2)) < a3
            rotate_left
            ·rw [if_neg c99] at H
             have c99b0 : decide ((wrap64 ((wrap64 ((wrap64 ((IntKind.u64.wrap (wrap64 (a1 + a3))) / 2)) + a2)) - x20_2)) < a3) = false := decide_eq_false c99
             clear c99
             obtain rfl := Option.some.inj H
             go_wp2
             first | go_end0 | ((try simp only [Exit.inBlock, Exit.then]); refine bodyPost_ret (results_none rfl _ _ _) rfl ?_)
             exact ⟨by first | rfl | (simp [errW_none, errW_some] <;> rfl) | (simp [*, errW_none, errW_some] <;> rfl), by (with_reducible repeat (first | apply Kd.R_alloc | apply Kd.R_drewN | apply Kd.R_drew)); exact HO_0.out, bw112_, ky_ HK⟩
            rw [if_pos c99] at H
            have c99b0 : decide ((wrap64 ((wrap64 ((wrap64 ((IntKind.u64.wrap (wrap64 (a1 + a3))) / 2)) + a2)) - x20_2)) < a3) = true := decide_eq_true c99
            clear c99
            obtain ⟨t490, A100, H⟩ := ob_ H
            obtain rfl := Option.some.inj H
            obtain ⟨Ao101, co101, eo101⟩ := Kd.R_slice HO_0.out
            subst eo101
            go_wp2_with ((with_reducible refine gate_callee (f := 126) rfl ?_); refine gl_ (some 219) Try.func126 #[.slice Ao101 x0_78.length co101, .int .i64 (wrap64 ((IntKind.u64.wrap (wrap64 (a1 + a3))) / 2)), .int .i64 (wrap64 ((wrap64 ((wrap64 ((IntKind.u64.wrap (wrap64 (a1 + a3))) / 2)) + a2)) - x20_2)), .int .i64 a3, .func (.func 101) #[] #[]] ?_; (with_reducible refine (ih kj83 (by have := HJ59.out; have := HK2.out; have := HJ76.out; have := HJ78.out; have := HJ83.out; omega) (fun k_ => some k_ = (.slice Ao101 x0_78.length co101 : Value).ownBlock) (.slice Ao101 x0_78.length co101) x0_78 (wrap64 ((IntKind.u64.wrap (wrap64 (a1 + a3))) / 2)) (wrap64 ((wrap64 ((wrap64 ((IntKind.u64.wrap (wrap64 (a1 + a3))) / 2)) + a2)) - x20_2)) a3  t490 w0 _ ?side1 ?side2 A100.out).mono ?_); (case side1 => exact by_ HB); (case side2 => exact Kd.R_tight rfl HO_0.out); rintro e w102 ⟨rfl, hy0, hb, hkp⟩; refine ⟨_, rfl, ?_⟩; replace HK := Aside0.mk (Kept.then_ (S := (fun k_ => P0_ k_)) (ky_ HK) hkp (fun k_ hs_ => (fun e_ => (HO_0.out.1 k_ e_.symm)) hs_)); replace HO_0 := Aside0.mk (Kd.R_reok rfl hy0 (fun k_ e_ => HO_0.out.1 k_ e_)); replace HB := Aside0.mk (hb); clear hb hkp hy0)
            first | go_end0 | ((try simp only [Exit.inBlock, Exit.then]); refine bodyPost_ret (results_none rfl _ _ _) rfl ?_)
            exact ⟨by first | rfl | (simp [errW_none, errW_some] <;> rfl) | (simp [*, errW_none, errW_some] <;> rfl), by (with_reducible repeat (first | apply Kd.R_alloc | apply Kd.R_drewN | apply Kd.R_drew)); exact HO_0.out, bw112_, ky_ HK⟩
           subst c86
           rw [if_pos rfl] at H
           obtain ⟨t488, A87, H⟩ := ob_ H
           by_cases c88 : (wrap64 ((IntKind.u64.wrap (wrap64 (a1 + a3))) / 2)) < (wrap64 ((wrap64 ((wrap64 ((IntKind.u64.wrap (wrap64 (a1 + a3))) / 2)) + a2)) - x20_2))
           rotate_left
           ·rw [if_neg c88] at H
            have c88b0 : decide ((wrap64 ((IntKind.u64.wrap (wrap64 (a1 + a3))) / 2)) < (wrap64 ((wrap64 ((wrap64 ((IntKind.u64.wrap (wrap64 (a1 + a3))) / 2)) + a2)) - x20_2))) = false := decide_eq_false c88
            clear c88
            obtain rfl := Option.some.inj H
            obtain ⟨Ao96, co96, eo96⟩ := Kd.R_slice HO_0.out
            subst eo96
            go_wp2_with ((with_reducible refine gate_callee (f := 126) rfl ?_); refine gl_ (some 205) Try.func126 #[.slice Ao96 x0_78.length co96, .int .i64 a1, .int .i64 x20_2, .int .i64 (wrap64 ((IntKind.u64.wrap (wrap64 (a1 + a3))) / 2)), .func (.func 101) #[] #[]] ?_; (with_reducible refine (ih kj83 (by have := HJ59.out; have := HK2.out; have := HJ76.out; have := HJ78.out; have := HJ83.out; omega) (fun k_ => some k_ = (.slice Ao96 x0_78.length co96 : Value).ownBlock) (.slice Ao96 x0_78.length co96) x0_78 a1 x20_2 (wrap64 ((IntKind.u64.wrap (wrap64 (a1 + a3))) / 2))  t488 w0 _ ?side1 ?side2 A87.out).mono ?_); (case side1 => exact by_ HB); (case side2 => exact Kd.R_tight rfl HO_0.out); rintro e w97 ⟨rfl, hy0, hb, hkp⟩; refine ⟨_, rfl, ?_⟩; replace HK := Aside0.mk (Kept.then_ (S := (fun k_ => P0_ k_)) (ky_ HK) hkp (fun k_ hs_ => (fun e_ => (HO_0.out.1 k_ e_.symm)) hs_)); replace HO_0 := Aside0.mk (Kd.R_reok rfl hy0 (fun k_ e_ => HO_0.out.1 k_ e_)); replace HB := Aside0.mk (hb); clear hb hkp hy0)
            first | go_end0 | ((try simp only [Exit.inBlock, Exit.then]); refine bodyPost_ret (results_none rfl _ _ _) rfl ?_)
            exact ⟨by first | rfl | (simp [errW_none, errW_some] <;> rfl) | (simp [*, errW_none, errW_some] <;> rfl), by (with_reducible repeat (first | apply Kd.R_alloc | apply Kd.R_drewN | apply Kd.R_drew)); exact HO_0.out, bw112_, ky_ HK⟩
           rw [if_pos c88] at H
           have c88b0 : decide ((wrap64 ((IntKind.u64.wrap (wrap64 (a1 + a3))) / 2)) < (wrap64 ((wrap64 ((wrap64 ((IntKind.u64.wrap (wrap64 (a1 + a3))) / 2)) + a2)) - x20_2))) = true := decide_eq_true c88
           clear c88
           by_cases c89 : (wrap64 ((wrap64 ((wrap64 ((IntKind.u64.wrap (wrap64 (a1 + a3))) / 2)) + a2)) - x20_2)) < a3
           rotate_left
           ·rw [if_neg c89] at H
            have c89b0 : decide ((wrap64 ((wrap64 ((wrap64 ((IntKind.u64.wrap (wrap64 (a1 + a3))) / 2)) + a2)) - x20_2)) < a3) = false := decide_eq_false c89
            clear c89
            obtain rfl := Option.some.inj H
            obtain ⟨Ao94, co94, eo94⟩ := Kd.R_slice HO_0.out
            subst eo94
            go_wp2_with ((with_reducible refine gate_callee (f := 126) rfl ?_); refine gl_ (some 205) Try.func126 #[.slice Ao94 x0_78.length co94, .int .i64 a1, .int .i64 x20_2, .int .i64 (wrap64 ((IntKind.u64.wrap (wrap64 (a1 + a3))) / 2)), .func (.func 101) #[] #[]] ?_; (with_reducible refine (ih kj83 (by have := HJ59.out; have := HK2.out; have := HJ76.out; have := HJ78.out; have := HJ83.out; omega) (fun k_ => some k_ = (.slice Ao94 x0_78.length co94 : Value).ownBlock) (.slice Ao94 x0_78.length co94) x0_78 a1 x20_2 (wrap64 ((IntKind.u64.wrap (wrap64 (a1 + a3))) / 2))  t488 w0 _ ?side1 ?side2 A87.out).mono ?_); (case side1 => exact by_ HB); (case side2 => exact Kd.R_tight rfl HO_0.out); rintro e w95 ⟨rfl, hy0, hb, hkp⟩; refine ⟨_, rfl, ?_⟩; replace HK := Aside0.mk (Kept.then_ (S := (fun k_ => P0_ k_)) (ky_ HK) hkp (fun k_ hs_ => (fun e_ => (HO_0.out.1 k_ e_.symm)) hs_)); replace HO_0 := Aside0.mk (Kd.R_reok rfl hy0 (fun k_ e_ => HO_0.out.1 k_ e_)); replace HB := Aside0.mk (hb); clear hb hkp hy0)
            first | go_end0 | ((try simp only [Exit.inBlock, Exit.then]); refine bodyPost_ret (results_none rfl _ _ _) rfl ?_)
            exact ⟨by first | rfl | (simp [errW_none, errW_some] <;> rfl) | (simp [*, errW_none, errW_some] <;> rfl), by (with_reducible repeat (first | apply Kd.R_alloc | apply Kd.R_drewN | apply Kd.R_drew)); exact HO_0.out, bw112_, ky_ HK⟩
           rw [if_pos c89] at H
           have c89b0 : decide ((wrap64 ((wrap64 ((wrap64 ((IntKind.u64.wrap (wrap64 (a1 + a3))) / 2)) + a2)) - x20_2)) < a3) = true := decide_eq_true c89
           clear c89
           obtain ⟨t489, A90, H⟩ := ob_ H
           obtain rfl := Option.some.inj H
           obtain ⟨Ao91, co91, eo91⟩ := Kd.R_slice HO_0.out
           subst eo91
           go_wp2_with (first | ((with_reducible refine gate_callee (f := 126) rfl ?_); refine gl_ (some 205) Try.func126 #[.slice Ao91 x0_78.length co91, .int .i64 a1, .int .i64 x20_2, .int .i64 (wrap64 ((IntKind.u64.wrap (wrap64 (a1 + a3))) / 2)), .func (.func 101) #[] #[]] ?_; (with_reducible refine (ih kj83 (by have := HJ59.out; have := HK2.out; have := HJ76.out; have := HJ78.out; have := HJ83.out; omega) (fun k_ => some k_ = (.slice Ao91 x0_78.length co91 : Value).ownBlock) (.slice Ao91 x0_78.length co91) x0_78 a1 x20_2 (wrap64 ((IntKind.u64.wrap (wrap64 (a1 + a3))) / 2))  t488 w0 _ ?side1 ?side2 A87.out).mono ?_); (case side1 => exact by_ HB); (case side2 => exact Kd.R_tight rfl HO_0.out); rintro e w92 ⟨rfl, hy0, hb, hkp⟩; refine ⟨_, rfl, ?_⟩; replace HK := Aside0.mk (Kept.then_ (S := (fun k_ => P0_ k_)) (ky_ HK) hkp (fun k_ hs_ => (fun e_ => (HO_0.out.1 k_ e_.symm)) hs_)); replace HO_0 := Aside0.mk (Kd.R_reok rfl hy0 (fun k_ e_ => HO_0.out.1 k_ e_)); replace HB := Aside0.mk (hb); clear hb hkp hy0) | ((with_reducible refine gate_callee (f := 126) rfl ?_); refine gl_ (some 219) Try.func126 #[.slice Ao91 x0_78.length co91, .int .i64 (wrap64 ((IntKind.u64.wrap (wrap64 (a1 + a3))) / 2)), .int .i64 (wrap64 ((wrap64 ((wrap64 ((IntKind.u64.wrap (wrap64 (a1 + a3))) / 2)) + a2)) - x20_2)), .int .i64 a3, .func (.func 101) #[] #[]] ?_; (with_reducible refine (ih kj83 (by have := HJ59.out; have := HK2.out; have := HJ76.out; have := HJ78.out; have := HJ83.out; omega) (fun k_ => some k_ = (.slice Ao91 x0_78.length co91 : Value).ownBlock) (.slice Ao91 x0_78.length co91) t488 (wrap64 ((IntKind.u64.wrap (wrap64 (a1 + a3))) / 2)) (wrap64 ((wrap64 ((wrap64 ((IntKind.u64.wrap (wrap64 (a1 + a3))) / 2)) + a2)) - x20_2)) a3  t489 w0 _ ?side1 ?side2 A90.out).mono ?_); (case side1 => exact by_ HB); (case side2 => exact Kd.R_tight rfl HO_0.out); rintro e w93 ⟨rfl, hy0, hb, hkp⟩; refine ⟨_, rfl, ?_⟩; replace HK := Aside0.mk (Kept.then_ (S := (fun k_ => P0_ k_)) (ky_ HK) hkp (fun k_ hs_ => (fun e_ => (HO_0.out.1 k_ e_.symm)) hs_)); replace HO_0 := Aside0.mk (Kd.R_reok rfl hy0 (fun k_ e_ => HO_0.out.1 k_ e_)); replace HB := Aside0.mk (hb); clear hb hkp hy0))
           first | go_end0 | ((try simp only [Exit.inBlock, Exit.then]); refine bodyPost_ret (results_none rfl _ _ _) rfl ?_)
           exact ⟨by first | rfl | (simp [errW_none, errW_some] <;> rfl) | (simp [*, errW_none, errW_some] <;> rfl), by (with_reducible repeat (first | apply Kd.R_alloc | apply Kd.R_drewN | apply Kd.R_drew)); exact HO_0.out, bw112_, ky_ HK⟩

end Go.Proofs.Ytjepmdngbafonaa.QFnSqueezed
