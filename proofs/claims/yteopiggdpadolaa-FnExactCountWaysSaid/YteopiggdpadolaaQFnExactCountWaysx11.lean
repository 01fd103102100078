/- Contracts of functions that the law reaches: what each call returns and what it leaves in memory. Made by this session over the print of the kit. -/
import Derived.Test.YteopiggdpadolaaQFnExactCountWaysx0
import Derived.Test.YteopiggdpadolaaQFnExactCountWaysx6
import Derived.Test.YteopiggdpadolaaQFnExactCountWaysx7
import Derived.Test.YteopiggdpadolaaQFnExactCountWaysx8
import Derived.Test.YteopiggdpadolaaQFnExactCountWaysx10
namespace Go.Proofs.Yteopiggdpadolaa.QFnExactCountWays
open Go.RowKit Go.Proofs.YteopiggdpadolaaX.PrintWords Go.Proofs.YteopiggdpadolaaX.PrintLast Go.Proofs.YteopiggdpadolaaX.PrintMore
attribute [local go_sem] max2_int min2_int max_two min_two max_three min_three max_four min_four   -- for this text's walks alone
set_option linter.unusedVariables false
set_option linter.unusedSimpArgs false
def ba11_0 : Array Bool := #[false, false, false, false, false, false, false, false, false, false, false, false, false, false, false, false, false, false, false]
def ba11_1 : Array Bool := #[true, false, false, false, false, false, false, false, false, false, false, false, false, false, false, false, false, false, false]
def ba11_2 : Array Bool := #[true, false, true, false, false, false, false, false, false, false, false, false, false, false, false, false, false, false, false]
def ba11_3 : Array Bool := #[true, true, true, false, false, false, false, false, false, false, false, false, false, false, false, false, false, false, false]
def ba11_4 : Array Bool := #[true, true, true, true, false, false, false, false, false, false, false, false, false, false, false, false, false, false, false]
def ba11_5 : Array Bool := #[true, true, true, true, true, false, false, false, false, false, false, false, false, false, false, false, false, false, false]
def ba11_6 : Array Bool := #[true, true, true, true, true, false, true, false, false, false, false, false, false, false, false, false, false, false, false]
def ba11_7 : Array Bool := #[true, true, true, true, true, false, true, false, false, true, false, false, false, false, false, false, false, false, false]
def ba11_8 : Array Bool := #[true, true, true, true, true, false, true, false, false, true, false, false, false, true, false, false, false, false, false]
def ba11_9 : Array Bool := #[true, true, true, true, true, true, true, false, false, true, false, false, false, true, false, false, false, false, false]
def ba11_10 : Array Bool := #[true, true, true, true, true, true, true, true, false, true, false, false, false, true, false, false, false, false, false]
def ba11_11 : Array Bool := #[true, true, true, true, true, true, true, true, true, true, false, false, false, true, false, false, false, false, false]
def ba11_12 : Array Bool := #[true, true, true, true, true, true, true, true, true, true, true, false, false, true, false, false, false, false, false]
def ba11_13 : Array Bool := #[true, true, true, true, true, true, true, true, true, true, true, true, false, true, false, false, false, false, false]
def ba11_14 : Array Bool := #[true, true, true, true, true, true, true, true, true, true, true, true, true, true, false, false, false, false, false]
def ba11_15 : Array Bool := #[true, true, true, true, true, true, true, true, true, true, true, true, true, true, true, false, false, false, false]
def ba11_16 : Array Bool := #[true, true, true, true, true, true, true, true, true, true, true, true, true, true, true, true, false, false, false]
def ba11_17 : Array Bool := #[true, true, true, true, true, true, true, true, true, true, true, true, true, true, true, true, true, false, false]
def ba11_18 : Array Bool := #[true, true, true, true, true, true, true, true, true, true, true, true, true, true, true, true, true, true, false]
def ba11_19 : Array Bool := #[true, true, true, true, true, true, true, true, true, true, true, true, true, true, true, true, true, true, true]
def ba11_20 : Array Bool := #[false, false, false, false, false, false, false, false, false, false, false, false]
def ba11_21 : Array Bool := #[true, false, false, false, false, false, false, false, false, false, false, false]
def ba11_22 : Array Bool := #[true, true, false, false, false, false, false, false, false, false, false, false]
def ba11_23 : Array Bool := #[true, true, false, false, false, true, false, false, false, false, false, false]
def ba11_24 : Array Bool := #[true, true, false, false, false, true, true, false, false, false, false, false]
def ba11_25 : Array Bool := #[true, true, false, false, false, true, true, true, false, false, false, false]
def ba11_26 : Array Bool := #[true, true, true, false, false, true, true, true, false, false, false, false]
def ba11_27 : Array Bool := #[true, true, true, true, false, true, true, true, false, false, false, false]
def ba11_28 : Array Bool := #[true, true, true, true, true, true, true, true, false, false, false, false]
def ba11_29 : Array Bool := #[true, true, true, true, true, true, true, true, true, false, false, false]
def ba11_30 : Array Bool := #[true, true, true, true, true, true, true, true, true, true, false, false]
def ba11_31 : Array Bool := #[true, true, true, true, true, true, true, true, true, true, true, false]
def ba11_32 : Array Bool := #[true, true, true, true, true, true, true, true, true, true, true, true]
def ba11_33 : Array Bool := #[true, true, true, true, true, true, false, false, false, false, false, false, false, false, false, false, false, false, false]
def ba11_34 : Array Bool := #[true, true, true, true, true, true, true, false, false, false, false, false, false, false, false, false, false, false, false]
def ba11_35 : Array Bool := #[true, true, true, true, true, true, true, true, false, false, false, false, false, false, false, false, false, false, false]
def ba11_36 : Array Bool := #[true, true, true, true, true, true, true, true, true, false, false, false, false, false, false, false, false, false, false]
def ba11_37 : Array Bool := #[true, true, true, true, true, true, true, true, true, true, false, false, false, false, false, false, false, false, false]
def ba11_38 : Array Bool := #[true, true, true, true, true, true, true, true, true, true, true, false, false, false, false, false, false, false, false]
def ba11_39 : Array Bool := #[true, true, true, true, true, true, true, true, true, true, true, true, false, false, false, false, false, false, false]
def ba11_40 : Array Bool := #[true, true, true, true, true, true, true, true, true, true, true, true, true, false, false, false, false, false, false]

/-! ### impl_CountWays: function 42 -/
mutual
def impl_CountWays.j0 : Nat → Int → Int → Bool → Int → List (S67) → Option (Int)
 | 0, _, _, _, _, _ => none
 | k + 1, x1, x2, x29, x259000, x259001 => if x29 = true then (some (-1)) else ((impl_Graph_distances.f k x259000 x259001 x1).bind fun t262 => (impl_CountWays.l0 k x1 x2 (([] : List Int)) x259000 0 x259000 x259001 t262))
def impl_CountWays.l0 : Nat → Int → Int → List Int → Int → Int → Int → List (S67) → List Int → Option (Int)
 | 0, _, _, _, _, _, _, _, _ => none
 | k + 1, x1, x2, x8, x35, x36, x259000, x259001, x266000 => if x36 < x35 then (if 0 ≤ x36 then (if x36 < (x266000.length : Int) then (if (rd x266000 x36) < 1000000 then (if x8.length < 17592186044416 then (impl_CountWays.l0 k x1 x2 (x8 ++ [x36]) x35 (wrap64 (x36 + 1)) x259000 x259001 x266000) else (none)) else (impl_CountWays.l0 k x1 x2 x8 x35 (wrap64 (x36 + 1)) x259000 x259001 x266000)) else (none)) else (none)) else ((slices_SortFunc_int_int.f k x8 [x266000]).bind fun t273 => (if 0 ≤ x259000 then (if (x259000 : Int).toNat ≤ 35184372088832 then ((some (List.replicate (x259000 : Int).toNat 0 : List Int)).bind fun y274 => (if 0 ≤ x1 then (if x1 < (y274.length : Int) then (impl_CountWays.l1 k x2 (y274.set (x1 : Int).toNat 1) t273 (x8.length : Int) 0 x259000 x259001 x266000) else (none)) else (none))) else (none)) else (none)))
def impl_CountWays.l1 : Nat → Int → List Int → List Int → Int → Int → Int → List (S67) → List Int → Option (Int)
 | 0, _, _, _, _, _, _, _, _ => none
 | k + 1, x2, x10, x58, x59, x60, x259000, x259001, x266000 => if x60 < x59 then (if 0 ≤ x60 then (if x60 < (x58.length : Int) then (impl_CountWays.l2 k x2 x10 (rd x58 x60) x58 x59 x60 x259001 (x259001.length : Int) 0 x259000 x259001 x266000) else (none)) else (none)) else (if 0 ≤ x2 then (if x2 < (x10.length : Int) then (some (rd x10 x2)) else (none)) else (none))
def impl_CountWays.l2 : Nat → Int → List Int → Int → List Int → Int → Int → List (S67) → Int → Int → Int → List (S67) → List Int → Option (Int)
 | 0, _, _, _, _, _, _, _, _, _, _, _, _ => none
 | k + 1, x2, x10, x12, x58, x59, x60, x65, x66, x67, x259000, x259001, x266000 => if x67 < x66 then (if 0 ≤ x67 then (if x67 < (x65.length : Int) then (if ((rd_T67 x65 x67).f0) = x12 then (if 0 ≤ x12 then (if x12 < (x266000.length : Int) then (if 0 ≤ ((rd_T67 x65 x67).f1) then (if ((rd_T67 x65 x67).f1) < (x266000.length : Int) then (if (wrap64 ((rd x266000 x12) + ((rd_T67 x65 x67).f2))) = (rd x266000 ((rd_T67 x65 x67).f1)) then (if ((rd_T67 x65 x67).f1) < (x10.length : Int) then (if x12 < (x10.length : Int) then (impl_CountWays.l2 k x2 (x10.set (((rd_T67 x65 x67).f1) : Int).toNat (wrap64 ((rd x10 ((rd_T67 x65 x67).f1)) + (rd x10 x12)))) x12 x58 x59 x60 x65 x66 (wrap64 (x67 + 1)) x259000 x259001 x266000) else (none)) else (none)) else (impl_CountWays.l2 k x2 x10 x12 x58 x59 x60 x65 x66 (wrap64 (x67 + 1)) x259000 x259001 x266000)) else (none)) else (none)) else (none)) else (none)) else (impl_CountWays.l2 k x2 x10 x12 x58 x59 x60 x65 x66 (wrap64 (x67 + 1)) x259000 x259001 x266000)) else (none)) else (none)) else (impl_CountWays.l1 k x2 x10 x58 x59 (wrap64 (x60 + 1)) x259000 x259001 x266000)
end
def impl_CountWays.f (k : Nat) (a0_0 : Int) (l0_1 : List (S67)) (a1 : Int) (a2 : Int) : Option (Int) := (impl_GraphOk.f k a0_0 l0_1).bind fun t259 => (if t259 = true then ((impl_Graph_isNode.f a0_0 l0_1 a1).bind fun t260 => (if t260 = true then ((impl_Graph_isNode.f a0_0 l0_1 a2).bind fun t261 => (impl_CountWays.j0 k a1 a2 (!t261) a0_0 l0_1)) else (impl_CountWays.j0 k a1 a2 true a0_0 l0_1))) else (impl_CountWays.j0 k a1 a2 true a0_0 l0_1))
theorem impl_CountWays.mono_l : ∀ k, (∀ y0 y1 y2 y3 y4, LeO (impl_CountWays.j0 k y0 y1 y2 y3 y4) (impl_CountWays.j0 (k + 1) y0 y1 y2 y3 y4)) ∧ (∀ y0 y1 y2 y3 y4 y5 y6 y7, LeO (impl_CountWays.l0 k y0 y1 y2 y3 y4 y5 y6 y7) (impl_CountWays.l0 (k + 1) y0 y1 y2 y3 y4 y5 y6 y7)) ∧ (∀ y0 y1 y2 y3 y4 y5 y6 y7, LeO (impl_CountWays.l1 k y0 y1 y2 y3 y4 y5 y6 y7) (impl_CountWays.l1 (k + 1) y0 y1 y2 y3 y4 y5 y6 y7)) ∧ (∀ y0 y1 y2 y3 y4 y5 y6 y7 y8 y9 y10 y11, LeO (impl_CountWays.l2 k y0 y1 y2 y3 y4 y5 y6 y7 y8 y9 y10 y11) (impl_CountWays.l2 (k + 1) y0 y1 y2 y3 y4 y5 y6 y7 y8 y9 y10 y11))
 | 0 => ⟨fun _ _ _ _ _ r h => by simp [impl_CountWays.j0] at h, fun _ _ _ _ _ _ _ _ r h => by simp [impl_CountWays.l0] at h, fun _ _ _ _ _ _ _ _ r h => by simp [impl_CountWays.l1] at h, fun _ _ _ _ _ _ _ _ _ _ _ _ r h => by simp [impl_CountWays.l2] at h⟩
 | k + 1 => by
  obtain ⟨ih0, ih1, ih2, ih3⟩ := impl_CountWays.mono_l k
  refine ⟨?_, ?_, ?_, ?_⟩
  ·intro y0 y1 y2 y3 y4
   unfold impl_CountWays.j0
   repeat' first
   | (with_reducible exact ih0 _ _ _ _ _)
   | (with_reducible exact ih1 _ _ _ _ _ _ _ _)
   | (with_reducible exact ih2 _ _ _ _ _ _ _ _)
   | (with_reducible exact ih3 _ _ _ _ _ _ _ _ _ _ _ _)
   | (with_reducible exact impl_GraphOk.mono _ _ _)
   | (with_reducible exact impl_Graph_distances.mono _ _ _ _)
   | (with_reducible exact slices_SortFunc_int_int.mono _ _ _)
   | (with_reducible exact LeO.refl _)
   | (with_reducible exact LeO.none _)
   | (with_reducible refine LeO.ite ?_ ?_)
   | (with_reducible refine LeO.bind ?_ (fun _ => ?_))
   | exact ih0 _ _ _ _ _
   | exact ih1 _ _ _ _ _ _ _ _
   | exact ih2 _ _ _ _ _ _ _ _
   | exact ih3 _ _ _ _ _ _ _ _ _ _ _ _
   | exact impl_GraphOk.mono _ _ _
   | exact impl_Graph_distances.mono _ _ _ _
   | exact slices_SortFunc_int_int.mono _ _ _
   | exact LeO.none _
   | refine LeO.ite ?_ ?_
   | refine LeO.bind ?_ (fun _ => ?_)
  ·intro y0 y1 y2 y3 y4 y5 y6 y7
   unfold impl_CountWays.l0
   repeat' first
   | (with_reducible exact ih0 _ _ _ _ _)
   | (with_reducible exact ih1 _ _ _ _ _ _ _ _)
   | (with_reducible exact ih2 _ _ _ _ _ _ _ _)
   | (with_reducible exact ih3 _ _ _ _ _ _ _ _ _ _ _ _)
   | (with_reducible exact impl_GraphOk.mono _ _ _)
   | (with_reducible exact impl_Graph_distances.mono _ _ _ _)
   | (with_reducible exact slices_SortFunc_int_int.mono _ _ _)
   | (with_reducible exact LeO.refl _)
   | (with_reducible exact LeO.none _)
   | (with_reducible refine LeO.ite ?_ ?_)
   | (with_reducible refine LeO.bind ?_ (fun _ => ?_))
   | exact ih0 _ _ _ _ _
   | exact ih1 _ _ _ _ _ _ _ _
   | exact ih2 _ _ _ _ _ _ _ _
   | exact ih3 _ _ _ _ _ _ _ _ _ _ _ _
   | exact impl_GraphOk.mono _ _ _
   | exact impl_Graph_distances.mono _ _ _ _
   | exact slices_SortFunc_int_int.mono _ _ _
   | exact LeO.none _
   | refine LeO.ite ?_ ?_
   | refine LeO.bind ?_ (fun _ => ?_)
  ·intro y0 y1 y2 y3 y4 y5 y6 y7
   unfold impl_CountWays.l1
   repeat' first
   | (with_reducible exact ih0 _ _ _ _ _)
   | (with_reducible exact ih1 _ _ _ _ _ _ _ _)
   | (with_reducible exact ih2 _ _ _ _ _ _ _ _)
   | (with_reducible exact ih3 _ _ _ _ _ _ _ _ _ _ _ _)
   | (with_reducible exact impl_GraphOk.mono _ _ _)
   | (with_reducible exact impl_Graph_distances.mono _ _ _ _)
   | (with_reducible exact slices_SortFunc_int_int.mono _ _ _)
   | (with_reducible exact LeO.refl _)
   | (with_reducible exact LeO.none _)
   | (with_reducible refine LeO.ite ?_ ?_)
   | (with_reducible refine LeO.bind ?_ (fun _ => ?_))
   | exact ih0 _ _ _ _ _
   | exact ih1 _ _ _ _ _ _ _ _
   | exact ih2 _ _ _ _ _ _ _ _
   | exact ih3 _ _ _ _ _ _ _ _ _ _ _ _
   | exact impl_GraphOk.mono _ _ _
   | exact impl_Graph_distances.mono _ _ _ _
   | exact slices_SortFunc_int_int.mono _ _ _
   | exact LeO.none _
   | refine LeO.ite ?_ ?_
   | refine LeO.bind ?_ (fun _ => ?_)
  ·intro y0 y1 y2 y3 y4 y5 y6 y7 y8 y9 y10 y11
   unfold impl_CountWays.l2
   repeat' first
   | (with_reducible exact ih0 _ _ _ _ _)
   | (with_reducible exact ih1 _ _ _ _ _ _ _ _)
   | (with_reducible exact ih2 _ _ _ _ _ _ _ _)
   | (with_reducible exact ih3 _ _ _ _ _ _ _ _ _ _ _ _)
   | (with_reducible exact impl_GraphOk.mono _ _ _)
   | (with_reducible exact impl_Graph_distances.mono _ _ _ _)
   | (with_reducible exact slices_SortFunc_int_int.mono _ _ _)
   | (with_reducible exact LeO.refl _)
   | (with_reducible exact LeO.none _)
   | (with_reducible refine LeO.ite ?_ ?_)
   | (with_reducible refine LeO.bind ?_ (fun _ => ?_))
   | exact ih0 _ _ _ _ _
   | exact ih1 _ _ _ _ _ _ _ _
   | exact ih2 _ _ _ _ _ _ _ _
   | exact ih3 _ _ _ _ _ _ _ _ _ _ _ _
   | exact impl_GraphOk.mono _ _ _
   | exact impl_Graph_distances.mono _ _ _ _
   | exact slices_SortFunc_int_int.mono _ _ _
   | exact LeO.none _
   | refine LeO.ite ?_ ?_
   | refine LeO.bind ?_ (fun _ => ?_)
theorem impl_CountWays.mono : ∀ a0 a1 a2 a3 k, LeO (impl_CountWays.f k a0 a1 a2 a3) (impl_CountWays.f (k + 1) a0 a1 a2 a3) := by
 intro a0 a1 a2 a3 k
 obtain ⟨ih0, ih1, ih2, ih3⟩ := impl_CountWays.mono_l k
 unfold impl_CountWays.f
 repeat' first
   | (with_reducible exact ih0 _ _ _ _ _)
   | (with_reducible exact ih1 _ _ _ _ _ _ _ _)
   | (with_reducible exact ih2 _ _ _ _ _ _ _ _)
   | (with_reducible exact ih3 _ _ _ _ _ _ _ _ _ _ _ _)
   | (with_reducible exact impl_GraphOk.mono _ _ _)
   | (with_reducible exact impl_Graph_distances.mono _ _ _ _)
   | (with_reducible exact slices_SortFunc_int_int.mono _ _ _)
   | (with_reducible exact LeO.refl _)
   | (with_reducible exact LeO.none _)
   | (with_reducible refine LeO.ite ?_ ?_)
   | (with_reducible refine LeO.bind ?_ (fun _ => ?_))
   | exact ih0 _ _ _ _ _
   | exact ih1 _ _ _ _ _ _ _ _
   | exact ih2 _ _ _ _ _ _ _ _
   | exact ih3 _ _ _ _ _ _ _ _ _ _ _ _
   | exact impl_GraphOk.mono _ _ _
   | exact impl_Graph_distances.mono _ _ _ _
   | exact slices_SortFunc_int_int.mono _ _ _
   | exact LeO.none _
   | refine LeO.ite ?_ ?_
   | refine LeO.bind ?_ (fun _ => ?_)
def impl_CountWays.T20 : Bool × List (List Nat × List Nat) := (true, [([], []), ([0], [0]), ([], []), ([1, 2], [1, 2]), ([3], [3]), ([4], [4]), ([4], [4]), ([5, 6, 4], [4, 5, 6]), ([7, 4], [4, 7]), ([4], [4]), ([9, 4], [4, 9]), ([8, 10, 4], [4, 8, 10]), ([4], [4]), ([4], [4]), ([13, 4], [4, 13]), ([12, 14, 4], [4, 12, 14]), ([15, 4], [4, 15]), ([11, 16, 4], [4, 11, 16]), ([4, 17], [4, 17])])
def impl_CountWays.B20 : List Nat := [0, 1, 0, 7, 15, 31, 31, 127, 255, 31, 543, 2047, 31, 31, 8223, 28703, 61471, 131071, 262143]
theorem impl_CountWays.tab20 : rtab .any (opsOf Try.f42 20) = impl_CountWays.T20 := by kernel_rfl
theorem impl_CountWays.bits20 : waitsOk impl_CountWays.T20.2 impl_CountWays.B20 = true := by kernel_rfl
def impl_CountWays.T21 : Bool × List (List Nat × List Nat) := (true, [([], []), ([], []), ([1], [1]), ([0, 2], [0, 2]), ([3], [3]), ([], []), ([], []), ([5, 6], [5, 6]), ([7], [7]), ([4, 8], [4, 8]), ([0, 2, 0, 1, 2, 3, 4, 5, 6, 7, 8, 9], [0, 2]), ([10, 9, 0, 1, 2, 3, 4, 5, 6, 7, 8, 9], [9, 10])])
def impl_CountWays.B21 : List Nat := [0, 0, 2, 7, 15, 0, 0, 96, 224, 511, 1023, 2047]
theorem impl_CountWays.tab21 : rtab .any (opsOf Try.f42 21) = impl_CountWays.T21 := by kernel_rfl
theorem impl_CountWays.bits21 : waitsOk impl_CountWays.T21.2 impl_CountWays.B21 = true := by kernel_rfl
set_option maxHeartbeats 8000000 in
set_option maxRecDepth 100000 in
theorem impl_CountWays.calls (k : Nat) (a0_0 : Int) (A0_1 : Option Addr) (c0_1 : Nat) (l0_1 : List (S67)) (a1 : Int) (a2 : Int) (r : Int) (w : World) (hr0_1 : Kd.C k67 w A0_1 l0_1.length l0_1) (hc0_1 : l0_1.length ≤ c0_1) (h : impl_CountWays.f k a0_0 l0_1 a1 a2 = some r) :
  Calls Try.prog 42 #[.agg #[.int .i64 a0_0, .slice A0_1 l0_1.length c0_1], .int .i64 a1, .int .i64 a2] w fun e w' => e = .returned (.int .i64 r) ∧ Below w.heap.size w w' := by
 have hu30 := Try.underlying30
 have hu67 := Try.underlying67
 have HR0_1 := Aside0.mk hr0_1
 have HC0_1 := Aside0.mk hc0_1
 clear hr0_1 hc0_1
 have HB := Aside0.mk (Below.refl w.heap.size w)
 have H : ((impl_GraphOk.f k a0_0 l0_1).bind fun t259 => (if t259 = true then ((impl_Graph_isNode.f a0_0 l0_1 a1).bind fun t260 => (if t260 = true then ((impl_Graph_isNode.f a0_0 l0_1 a2).bind fun t261 => (impl_CountWays.j0 k a1 a2 (!t261) a0_0 l0_1)) else (impl_CountWays.j0 k a1 a2 true a0_0 l0_1))) else (impl_CountWays.j0 k a1 a2 true a0_0 l0_1))) = some r := h
 clear h
 have HC4 := Aside0.mk H
 clear H
 go_enter Try.func42, Try.ntmps42
 go_upto_region 1 with (first | ((with_reducible refine gate_dst (N := 3) rfl ?_); refine box_event ?hg (N := 3) ?hd (cs := #[.int .i64 a0_0, .slice A0_1 l0_1.length c0_1]) (t := 30) ?hr ?_; (case hd => rfl); (case hg => rfl); (case hr => first | (go_simp; done) | (go_simp; rfl)); intro gb258 hg w5 hbox hb; have BK258 := Aside0.mk hbox; have GW258 := ge_ HB hg; have GE258 := ge_ HB hg; replace HB := Aside0.mk (bt_ HB hb); clear hb hbox hg))
 (try simp only [Act.put, List.setIfInBounds_toArray, List.set_cons_zero, List.set_cons_succ])
 go_cut [29] (fun v29 wc => ∃ (kq : Nat) (x29_3 : Bool), v29 = .bool x29_3 ∧ Aside0 (impl_CountWays.j0 kq a1 a2 x29_3 a0_0 l0_1 = some r) ∧ Aside0 (kq ≤ k) ∧ Aside0 (wc.heap[gb258]? = some (.cells #[.int .i64 a0_0, (.slice A0_1 l0_1.length c0_1)] 30 (0, 0))) ∧ Aside0 (Below w.heap.size w wc))
 case first =>
  have H := HC4.out
  clear HC4
  replace H := Option.bind_eq_some_iff.mp H
  obtain ⟨t259, A60, H⟩ := H
  have A6 := Aside0.mk A60
  clear A60
  by_cases c7 : t259 = true
  ·subst c7
   rw [if_pos rfl] at H
   replace H := Option.bind_eq_some_iff.mp H
   obtain ⟨t260, A80, H⟩ := H
   have A8 := Aside0.mk A80
   clear A80
   by_cases c9 : t260 = true
   ·subst c9
    rw [if_pos rfl] at H
    replace H := Option.bind_eq_some_iff.mp H
    obtain ⟨t261, A100, H⟩ := H
    have A10 := Aside0.mk A100
    clear A100
    have H' := Aside0.mk H
    clear H
    have hcz11_0 := cz_ BK258 0 (.int .i64 a0_0)
    have hcz11_1 := cz_ BK258 1 (.slice A0_1 l0_1.length c0_1)
    have hfz11_0 := blk_frozen BK258.out 0
    have hfz11_1 := blk_frozen BK258.out 1
    go_wp2_with (first | ((with_reducible refine gate_callee (f := 56) rfl ?_); refine gl_ (some 16) Try.func56 #[.agg #[.int .i64 a0_0, .slice A0_1 l0_1.length c0_1]] ?_; (with_reducible refine (impl_GraphOk.calls k a0_0 _ _ l0_1 true _ ?side1 ?side2 A6.out).mono ?_); (case side1 => exact cb_ HR0_1 HB); (case side2 => exact HC0_1.out); rintro e w12 ⟨rfl, hb⟩; refine ⟨_, rfl, ?_⟩; replace BK258 := Aside0.mk (bb_ BK258 hb); replace HB := Aside0.mk (bt_ HB hb); (try clear hb); (try clear hb2); (try clear hk); (try clear hi); have hcz13_0 := cz_ BK258 0 (.int .i64 a0_0); have hcz13_1 := cz_ BK258 1 (.slice A0_1 l0_1.length c0_1); have hfz13_0 := blk_frozen BK258.out 0; have hfz13_1 := blk_frozen BK258.out 1) | (go_at_call 58; (with_reducible refine (impl_Graph_isNode.calls a0_0 _ _ l0_1 a1 true _ ?side1 ?side2 A8.out).mono ?_); (case side1 => exact cb_ HR0_1 HB); (case side2 => exact HC0_1.out); rintro e w14 ⟨rfl, hb⟩; replace BK258 := Aside0.mk (bb_ BK258 hb); replace HB := Aside0.mk (bt_ HB hb); (try clear hb); (try clear hb2); (try clear hk); (try clear hi); have hcz15_0 := cz_ BK258 0 (.int .i64 a0_0); have hcz15_1 := cz_ BK258 1 (.slice A0_1 l0_1.length c0_1); have hfz15_0 := blk_frozen BK258.out 0; have hfz15_1 := blk_frozen BK258.out 1) | (go_at_call 58; (with_reducible refine (impl_Graph_isNode.calls a0_0 _ _ l0_1 a2 t261 _ ?side1 ?side2 A10.out).mono ?_); (case side1 => exact cb_ HR0_1 HB); (case side2 => exact HC0_1.out); rintro e w16 ⟨rfl, hb⟩; replace BK258 := Aside0.mk (bb_ BK258 hb); replace HB := Aside0.mk (bt_ HB hb); (try clear hb); (try clear hb2); (try clear hk); (try clear hi)))
    go_meet
    case rel => exact ⟨_, (!t261), (by first | rfl | (simp; done) | (simp [*]; done)), H', ⟨by first | omega | exact Nat.le_refl _⟩, ⟨by (with_reducible repeat (first | refine blk_drewN ?_ _ | refine blk_drew ?_ | refine blk_alloc ?_ _)); exact BK258.out⟩, ⟨by repeat (first | (with_reducible first | exact HB.out | apply below_alloc | apply pw_below_drewN | apply below_drew1 | refine below_set ?_ GE258.out) | exact HB.out)⟩⟩
   ·replace c9 := Bool.eq_false_iff.mpr c9
    subst c9
    rw [if_neg (show ¬ (false = true) by decide)] at H
    have H' := Aside0.mk H
    clear H
    have hcz17_0 := cz_ BK258 0 (.int .i64 a0_0)
    have hcz17_1 := cz_ BK258 1 (.slice A0_1 l0_1.length c0_1)
    have hfz17_0 := blk_frozen BK258.out 0
    have hfz17_1 := blk_frozen BK258.out 1
    go_wp2_with (first | ((with_reducible refine gate_callee (f := 56) rfl ?_); refine gl_ (some 16) Try.func56 #[.agg #[.int .i64 a0_0, .slice A0_1 l0_1.length c0_1]] ?_; (with_reducible refine (impl_GraphOk.calls k a0_0 _ _ l0_1 true _ ?side1 ?side2 A6.out).mono ?_); (case side1 => exact cb_ HR0_1 HB); (case side2 => exact HC0_1.out); rintro e w18 ⟨rfl, hb⟩; refine ⟨_, rfl, ?_⟩; replace BK258 := Aside0.mk (bb_ BK258 hb); replace HB := Aside0.mk (bt_ HB hb); (try clear hb); (try clear hb2); (try clear hk); (try clear hi); have hcz19_0 := cz_ BK258 0 (.int .i64 a0_0); have hcz19_1 := cz_ BK258 1 (.slice A0_1 l0_1.length c0_1); have hfz19_0 := blk_frozen BK258.out 0; have hfz19_1 := blk_frozen BK258.out 1) | (go_at_call 58; (with_reducible refine (impl_Graph_isNode.calls a0_0 _ _ l0_1 a1 false _ ?side1 ?side2 A8.out).mono ?_); (case side1 => exact cb_ HR0_1 HB); (case side2 => exact HC0_1.out); rintro e w20 ⟨rfl, hb⟩; replace BK258 := Aside0.mk (bb_ BK258 hb); replace HB := Aside0.mk (bt_ HB hb); (try clear hb); (try clear hb2); (try clear hk); (try clear hi)))
    go_meet
    case rel => exact ⟨_, (true), (by first | rfl | (simp; done) | (simp [*]; done)), H', ⟨by first | omega | exact Nat.le_refl _⟩, ⟨by (with_reducible repeat (first | refine blk_drewN ?_ _ | refine blk_drew ?_ | refine blk_alloc ?_ _)); exact BK258.out⟩, ⟨by repeat (first | (with_reducible first | exact HB.out | apply below_alloc | apply pw_below_drewN | apply below_drew1 | refine below_set ?_ GE258.out) | exact HB.out)⟩⟩
  ·replace c7 := Bool.eq_false_iff.mpr c7
   subst c7
   rw [if_neg (show ¬ (false = true) by decide)] at H
   have H' := Aside0.mk H
   clear H
   have hcz21_0 := cz_ BK258 0 (.int .i64 a0_0)
   have hcz21_1 := cz_ BK258 1 (.slice A0_1 l0_1.length c0_1)
   have hfz21_0 := blk_frozen BK258.out 0
   have hfz21_1 := blk_frozen BK258.out 1
   go_wp2_with (first | ((with_reducible refine gate_callee (f := 56) rfl ?_); refine gl_ (some 16) Try.func56 #[.agg #[.int .i64 a0_0, .slice A0_1 l0_1.length c0_1]] ?_; (with_reducible refine (impl_GraphOk.calls k a0_0 _ _ l0_1 false _ ?side1 ?side2 A6.out).mono ?_); (case side1 => exact cb_ HR0_1 HB); (case side2 => exact HC0_1.out); rintro e w22 ⟨rfl, hb⟩; refine ⟨_, rfl, ?_⟩; replace BK258 := Aside0.mk (bb_ BK258 hb); replace HB := Aside0.mk (bt_ HB hb); (try clear hb); (try clear hb2); (try clear hk); (try clear hi)))
   go_meet
   case rel => exact ⟨_, (true), (by first | rfl | (simp; done) | (simp [*]; done)), H', ⟨by first | omega | exact Nat.le_refl _⟩, ⟨by (with_reducible repeat (first | refine blk_drewN ?_ _ | refine blk_drew ?_ | refine blk_alloc ?_ _)); exact BK258.out⟩, ⟨by repeat (first | (with_reducible first | exact HB.out | apply below_alloc | apply pw_below_drewN | apply below_drew1 | refine below_set ?_ GE258.out) | exact HB.out)⟩⟩
 case rest =>
  clear HC4
  try clear p2
  try clear c4
  try clear c5
  try clear c7
  try clear c9
  try clear hcz11_0
  try clear hcz11_1
  try clear hcz13_0
  try clear hcz13_1
  try clear hcz15_0
  try clear hcz15_1
  try clear hcz17_0
  try clear hcz17_1
  try clear hcz19_0
  try clear hcz19_1
  try clear hcz21_0
  try clear hcz21_1
  try clear hfz11_0
  try clear hfz11_1
  try clear hfz13_0
  try clear hfz13_1
  try clear hfz15_0
  try clear hfz15_1
  try clear hfz17_0
  try clear hfz17_1
  try clear hfz19_0
  try clear hfz19_1
  try clear hfz21_0
  try clear hfz21_1
  obtain ⟨kq, x29_3, rfl, HA, HJ3, BK258, HB⟩ := hcut
  cases kq with
  | zero => exact absurd HA.out (by simp [impl_CountWays.j0])
  | succ kj3 =>
   have H := HA.out
   clear HA
   simp only [impl_CountWays.j0] at H
   by_cases c23 : x29_3 = true
   ·subst c23
    rw [if_pos rfl] at H
    obtain rfl := Option.some.inj H
    go_wp2
    go_ret
    exact ⟨by first | rfl | (simp [errW_none, errW_some] <;> rfl) | (simp [*, errW_none, errW_some] <;> rfl), by repeat (first | (with_reducible first | exact HB.out | apply below_alloc | apply pw_below_drewN | apply below_drew1 | refine below_set ?_ GE258.out) | exact HB.out)⟩
   ·replace c23 := Bool.eq_false_iff.mpr c23
    subst c23
    rw [if_neg (show ¬ (false = true) by decide)] at H
    replace H := Option.bind_eq_some_iff.mp H
    obtain ⟨t262, A240, H⟩ := H
    have A24 := Aside0.mk A240
    clear A240
    obtain ⟨y266, hy266⟩ : ∃ y_ : List Int, y_ = (([] : List Int)) := ⟨_, rfl⟩
    replace H : (impl_CountWays.l0 kj3 a1 a2 y266 a0_0 0 a0_0 l0_1 t262) = some r := by first | (rw [hy266]; with_reducible exact H) | (have H2_ := (Option.bind_some _ _).symm.trans H; rw [hy266]; with_reducible exact H2_) | (have H2_ := (Option.bind_some _ _).symm.trans H; with_reducible exact H2_) | with_reducible exact H | (rw [hy266]; exact H) | exact H
    have Ny266 := Aside0.mk hy266
    clear hy266
    have H' := Aside0.mk H
    clear H
    have hcz25_0 := cz_ BK258 0 (.int .i64 a0_0)
    have hcz25_1 := cz_ BK258 1 (.slice A0_1 l0_1.length c0_1)
    have hfz25_0 := blk_frozen BK258.out 0
    have hfz25_1 := blk_frozen BK258.out 1
    go_wp2_with (first | ((with_reducible refine gate_callee (f := 63) rfl ?_); refine gl_ (some 32) Try.func63 #[.agg #[.int .i64 a0_0, .slice A0_1 l0_1.length c0_1], .int .i64 a1] ?_; (with_reducible refine (impl_Graph_distances.calls kj3 a0_0 _ _ l0_1 a1 t262 _ ?side1 ?side2 A24.out).mono ?_); (case side1 => exact cb_ HR0_1 HB); (case side2 => exact HC0_1.out); rintro e w26 ⟨v263, rfl, ho0, hb⟩; refine ⟨_, rfl, ?_⟩; have HO264 := Aside0.mk (Kd.R_lower ho0 (bz_ HB)); replace BK258 := Aside0.mk (bb_ BK258 hb); replace HB := Aside0.mk (bt_ HB hb); (try clear hb); (try clear hb2); (try clear hk); (try clear hi); (try clear ho0)) | ((with_reducible refine gate_dst (N := 7) rfl ?_); refine box_event ?hg (N := 7) ?hd (cs := #[.slice none 0 0]) (t := 25) ?hr ?_; (case hd => rfl); (case hg => rfl); (case hr => first | (go_simp; done) | (go_simp; rfl)); intro gb265 hg w27 hbox hb; have BK265 := Aside0.mk hbox; have GW265 := ge_ HB hg; have GE265 := ge_ HB hg; have NB258_265 := nl_ BK258 hg; have NB265_258 := ng_ BK258 hg; replace HO264 := rb_ HO264 hb; replace HB := Aside0.mk (bt_ HB hb); replace BK258 := Aside0.mk (bb_ BK258 hb); clear hb hbox hg; obtain ⟨Ao28, co28, eo28⟩ := Kd.R_slice HO264.out; subst eo28; have hnb29 := NB265_258.out; have hnc29 := NB258_265.out; have hcz30_0 := cz_ BK265 0 (.slice none 0 0); have hfz30_0 := blk_frozen BK265.out 0) | ((with_reducible refine gate_dst (N := 33) rfl ?_); refine Kd.R_lit (Kd.int .i64) _ 3 ?hg (N := 33) ?hd (xs := ([] : List Int)) (inner := []) (ok := fun _ => True) (okp := fun _ => True) ?hr ?hp (fun _ hk => hk) trivial (Below.refl _ _) (Nat.le_refl _) (by simp) ?_; (case hd => rfl); (case hg => rfl); (case hr => first | (go_simp; done) | (go_simp; rfl)); (case hp => exact (Reps.none _ _)); intro v267 w31 ho32 hb hg_ hnew_; clear hg_ hnew_; (first | rw [← Ny266.out] at ho32 | (simp only [Int.reduceToNat] at ho32; rw [← Ny266.out] at ho32)); have HO268 := Aside0.mk (Kd.R_lower (Kd.R_new' ho32 (Kd.R_lt (hs_ HO264 BK265))) (bz_ HB)); replace HO264 := Aside0.mk (Kd.R_elder' (hs_ HO264 BK265) (Kd.R_base ho32) hb); replace BK258 := bf_ BK258 NB258_265 hb; replace BK265 := Aside0.mk (blk_below (g := gb265) (o := .cells #[.slice Ao28 t262.length co28] 25 (0, 0)) (by (with_reducible repeat (first | refine blk_drewN ?_ _ | refine blk_drew ?_ | refine blk_alloc ?_ _)); refine blk_put (cs := #[.slice none 0 0]) ?_ 0 _ rfl; (with_reducible repeat (first | refine blk_drewN ?_ _ | refine blk_drew ?_ | refine blk_alloc ?_ _)); exact BK265.out) hb); replace HB := Aside0.mk (bt_ HB hb); clear hb ho32; have hcz33_0 := cz_ BK258 0 (.int .i64 a0_0); have hcz33_1 := cz_ BK258 1 (.slice A0_1 l0_1.length c0_1); have hfz33_0 := blk_frozen BK258.out 0; have hfz33_1 := blk_frozen BK258.out 1))
    (try simp only [Act.put, List.setIfInBounds_toArray, List.set_cons_zero, List.set_cons_succ])
    go_loopg [8, 36] kj3 (fun kq v8 v36 w' => ∃ (x8_2 : List Int) (x36_2 : Int), v36 = .int .i64 x36_2 ∧ Aside0 (impl_CountWays.l0 kq a1 a2 x8_2 a0_0 x36_2 a0_0 l0_1 t262 = some r) ∧ Aside0 (kq ≤ kj3) ∧ Aside0 (Kd.R (Kd.int .i64) 3 w' w.heap.size (fun k_ => some k_ ≠ ((.slice Ao28 t262.length co28) : Value).ownBlock) v8 x8_2) ∧ Aside0 (Kd.R (Kd.int .i64) 3 w' w.heap.size (fun k_ => some k_ ≠ (v8 : Value).ownBlock) (.slice Ao28 t262.length co28) t262) ∧ Aside0 (w'.heap[gb258]? = some (.cells #[.int .i64 a0_0, (.slice A0_1 l0_1.length c0_1)] 30 (0, 0))) ∧ Aside0 (w'.heap[gb265]? = some (.cells #[(.slice Ao28 t262.length co28)] 25 (0, 0))) ∧ Aside0 (Below w.heap.size w w'))
    case atStart => exact ⟨(y266), (0), (by first | rfl | (simp; done) | (simp [*]; done)), H', ⟨Nat.le_refl _⟩, ⟨by (with_reducible repeat (first | apply Kd.R_alloc | apply Kd.R_drewN | apply Kd.R_drew)); exact Kd.R_mono HO268.out (fun _ hk => hk.2)⟩, ⟨by (with_reducible repeat (first | apply Kd.R_alloc | apply Kd.R_drewN | apply Kd.R_drew)); exact Kd.R_mono HO264.out (fun _ hk => hk.2)⟩, ⟨by (with_reducible repeat (first | refine blk_drewN ?_ _ | refine blk_drew ?_ | refine blk_alloc ?_ _)); exact BK258.out⟩, ⟨by (with_reducible repeat (first | refine blk_drewN ?_ _ | refine blk_drew ?_ | refine blk_alloc ?_ _)); exact BK265.out⟩, ⟨by repeat (first | (with_reducible first | exact HB.out | apply below_alloc | apply pw_below_drewN | apply below_drew1 | refine below_set ?_ GE258.out | refine below_set ?_ GE265.out) | exact HB.out)⟩⟩
    case round =>
     clear H'
     try clear c2
     try clear p2
     try clear c4
     try clear c5
     try clear c6
     try clear c7
     try clear c9
     try clear c23
     try clear c29
     try clear hcz11_0
     try clear hcz11_1
     try clear hcz13_0
     try clear hcz13_1
     try clear hcz15_0
     try clear hcz15_1
     try clear hcz17_0
     try clear hcz17_1
     try clear hcz19_0
     try clear hcz19_1
     try clear hcz21_0
     try clear hcz21_1
     try clear hcz25_0
     try clear hcz25_1
     try clear hcz30_0
     try clear hcz33_0
     try clear hcz33_1
     try clear hfz11_0
     try clear hfz11_1
     try clear hfz13_0
     try clear hfz13_1
     try clear hfz15_0
     try clear hfz15_1
     try clear hfz17_0
     try clear hfz17_1
     try clear hfz19_0
     try clear hfz19_1
     try clear hfz21_0
     try clear hfz21_1
     try clear hfz25_0
     try clear hfz25_1
     try clear hfz30_0
     try clear hfz33_0
     try clear hfz33_1
     try clear p2
     obtain ⟨x8_2, x36_2, rfl, HA, HK2, HO_8, HO_266000, BK258, BK265, HB⟩ := hrel
     cases gk with
     | zero => exact absurd HA.out (by simp [impl_CountWays.l0])
     | succ k2 =>
      have H := HA.out
      clear HA
      simp only [impl_CountWays.l0] at H
      by_cases c34 : x36_2 < a0_0
      ·rw [if_pos c34] at H
       have c34b0 : decide (x36_2 < a0_0) = true := decide_eq_true c34
       clear c34
       by_cases c35 : 0 ≤ x36_2
       ·rw [if_pos c35] at H
        have c35b0 : decide (0 ≤ x36_2) = true := decide_eq_true c35
        clear c35
        by_cases c36 : x36_2 < (t262.length : Int)
        ·rw [if_pos c36] at H
         have c36b0 : decide (x36_2 < (t262.length : Int)) = true := decide_eq_true c36
         clear c36
         by_cases c37 : (rd t262 x36_2) < 1000000
         ·rw [if_pos c37] at H
          have c37b0 : decide ((rd t262 x36_2) < 1000000) = true := decide_eq_true c37
          clear c37
          by_cases c38 : x8_2.length < 17592186044416
          ·rw [if_pos c38] at H
           have LMc38 := Aside0.mk c38
           clear c38
           obtain ⟨y270, hy270⟩ : ∃ y_ : List Int, y_ = (x8_2 ++ [x36_2]) := ⟨_, rfl⟩
           replace H : (impl_CountWays.l0 k2 a1 a2 y270 a0_0 (wrap64 (x36_2 + 1)) a0_0 l0_1 t262) = some r := by first | (rw [hy270]; with_reducible exact H) | (have H2_ := (Option.bind_some _ _).symm.trans H; rw [hy270]; with_reducible exact H2_) | (have H2_ := (Option.bind_some _ _).symm.trans H; with_reducible exact H2_) | with_reducible exact H | (rw [hy270]; exact H) | exact H
           have Ny270 := Aside0.mk hy270
           clear hy270
           have H' := Aside0.mk H
           clear H
           have hnb39 := NB265_258.out
           have hnc39 := NB258_265.out
           have hcz40_0 := cz_ BK265 0 (.slice Ao28 t262.length co28)
           have hfz40_0 := blk_frozen BK265.out 0
           have p269 : 0 ≤ (x36_2 : Int) := of_decide_eq_true (by first | (with_reducible assumption) | assumption)
           have q269 : x36_2 < (t262.length : Int) := of_decide_eq_true (by first | (with_reducible assumption) | assumption)
           obtain ⟨ad269, e269, hx269_0⟩ := Kd.at_int (Kd.R_reads' HO_266000.out).2.2 x36_2 p269 q269
           cases e269
           replace p269 := eq_true p269
           replace q269 := eq_true q269
           go_wp2_with (first | ((with_reducible refine gate_builtin (b := .append) (xs := #[.tmp 44, .tmp 46]) rfl ?_); at_builtin; refine Kd.R_append (Kd.int .i64) (w0 := w) w.heap.size rfl (.tmp 44) (.tmp 46) 25 3 (.int .i64 0) 8 rfl Try.underlying25 info3 rfl (by decide) (by omega) u8 x8_2 x36_2 [.int .i64 x36_2] (fun k_ => some k_ ≠ (.slice (some ad269) t262.length co28 : Value).ownBlock) (fun _ => False) rfl rfl ?aP (fun _ hk => hk.elim) ?aF ?aO ?aB ?aS ?aL ?_; (case aP => exact rfl); (case aB => exact (by repeat (first | (with_reducible first | exact HB.out | apply below_alloc | apply pw_below_drewN | apply below_drew1 | refine below_set ?_ GE258.out | refine below_set ?_ GE265.out) | exact HB.out))); (case aF => exact (fun k_ hk => Kd.fresh' (Kd.R_lt (hd_ HO_266000)) k_ hk)); (case aO => exact (hd_ HO_8)); (case aS => exact (bz_ HB)); (case aL => have := LMc38.out; omega); intro v271 w41 ho hb hg hat; rw [← Ny270.out] at ho; have HO272 := Aside0.mk ho; replace HO_266000 := Aside0.mk (Kd.R_after (ok := (fun _ => True)) (by (with_reducible repeat (first | apply Kd.R_alloc | apply Kd.R_drewN | apply Kd.R_drew)); exact Kd.R_mono HO_266000.out (fun _ hk => by first | exact ⟨trivial, hk⟩ | grind)) hg hat); replace BK258 := Aside0.mk (blk_grown (g := gb258) (o := .cells #[.int .i64 a0_0, .slice A0_1 l0_1.length c0_1] 30 (0, 0)) (by (with_reducible repeat (first | refine blk_drewN ?_ _ | refine blk_drew ?_ | refine blk_alloc ?_ _)); exact BK258.out) hg (Kd.R_ne HO_8.out BK258.out (by decide))); replace BK265 := Aside0.mk (blk_grown (g := gb265) (o := .cells #[.slice (some ad269) t262.length co28] 25 (0, 0)) (by (with_reducible repeat (first | refine blk_drewN ?_ _ | refine blk_drew ?_ | refine blk_alloc ?_ _)); exact BK265.out) hg (Kd.R_ne HO_8.out BK265.out (by decide))); replace HB := Aside0.mk (hb); clear HO_8; clear ho hb hg hat))
           go_roundg k2
           case measure => have := HJ3.out; have := HK2.out; omega
           case rel => exact ⟨(y270), (wrap64 (x36_2 + 1)), (by first | rfl | (simp; done) | (simp [*]; done)), H', ⟨by have := HJ3.out; have := HK2.out; omega⟩, ⟨by (with_reducible repeat (first | apply Kd.R_alloc | apply Kd.R_drewN | apply Kd.R_drew)); exact HO272.out⟩, ⟨by (with_reducible repeat (first | apply Kd.R_alloc | apply Kd.R_drewN | apply Kd.R_drew)); exact Kd.R_mono HO_266000.out (fun _ hk => hk.2)⟩, ⟨by (with_reducible repeat (first | refine blk_drewN ?_ _ | refine blk_drew ?_ | refine blk_alloc ?_ _)); exact BK258.out⟩, ⟨by (with_reducible repeat (first | refine blk_drewN ?_ _ | refine blk_drew ?_ | refine blk_alloc ?_ _)); exact BK265.out⟩, ⟨by repeat (first | (with_reducible first | exact HB.out | apply below_alloc | apply pw_below_drewN | apply below_drew1 | refine below_set ?_ GE258.out | refine below_set ?_ GE265.out) | exact HB.out)⟩⟩
          ·rw [if_neg c38] at H
           exact absurd H (by simp)
         ·rw [if_neg c37] at H
          have c37b0 : decide ((rd t262 x36_2) < 1000000) = false := decide_eq_false c37
          clear c37
          have H' := Aside0.mk H
          clear H
          have hnb42 := NB265_258.out
          have hnc42 := NB258_265.out
          have hcz43_0 := cz_ BK265 0 (.slice Ao28 t262.length co28)
          have hfz43_0 := blk_frozen BK265.out 0
          have p269 : 0 ≤ (x36_2 : Int) := of_decide_eq_true (by first | (with_reducible assumption) | assumption)
          have q269 : x36_2 < (t262.length : Int) := of_decide_eq_true (by first | (with_reducible assumption) | assumption)
          obtain ⟨ad269, e269, hx269_0⟩ := Kd.at_int (Kd.R_reads' HO_266000.out).2.2 x36_2 p269 q269
          cases e269
          replace p269 := eq_true p269
          replace q269 := eq_true q269
          go_wp2
          go_roundg k2
          case measure => have := HJ3.out; have := HK2.out; omega
          case rel => exact ⟨(x8_2), (wrap64 (x36_2 + 1)), (by first | rfl | (simp; done) | (simp [*]; done)), H', ⟨by have := HJ3.out; have := HK2.out; omega⟩, ⟨by (with_reducible repeat (first | apply Kd.R_alloc | apply Kd.R_drewN | apply Kd.R_drew)); exact HO_8.out⟩, ⟨by (with_reducible repeat (first | apply Kd.R_alloc | apply Kd.R_drewN | apply Kd.R_drew)); exact HO_266000.out⟩, ⟨by (with_reducible repeat (first | refine blk_drewN ?_ _ | refine blk_drew ?_ | refine blk_alloc ?_ _)); exact BK258.out⟩, ⟨by (with_reducible repeat (first | refine blk_drewN ?_ _ | refine blk_drew ?_ | refine blk_alloc ?_ _)); exact BK265.out⟩, ⟨by repeat (first | (with_reducible first | exact HB.out | apply below_alloc | apply pw_below_drewN | apply below_drew1 | refine below_set ?_ GE258.out | refine below_set ?_ GE265.out) | exact HB.out)⟩⟩
        ·rw [if_neg c36] at H
         exact absurd H (by simp)
       ·rw [if_neg c35] at H
        exact absurd H (by simp)
      ·rw [if_neg c34] at H
       have c34b0 : decide (x36_2 < a0_0) = false := decide_eq_false c34
       clear c34
       replace H := Option.bind_eq_some_iff.mp H
       obtain ⟨t273, A440, H⟩ := H
       have A44 := Aside0.mk A440
       clear A440
       by_cases c45 : 0 ≤ a0_0
       ·rw [if_pos c45] at H
        have c45b0 := eq_true c45
        have c45b1 : decide (0 ≤ a0_0) = true := decide_eq_true c45
        clear c45
        by_cases c46 : (a0_0 : Int).toNat ≤ 35184372088832
        ·rw [if_pos c46] at H
         have c46b0 := eq_true c46
         have c46b1 : decide ((a0_0 : Int).toNat ≤ 35184372088832) = true := decide_eq_true c46
         clear c46
         obtain ⟨y274, hy274⟩ : ∃ y_ : List Int, y_ = (List.replicate (a0_0 : Int).toNat 0) := ⟨_, rfl⟩
         replace H : (if 0 ≤ a1 then (if a1 < (y274.length : Int) then (impl_CountWays.l1 k2 a2 (y274.set (a1 : Int).toNat 1) t273 (x8_2.length : Int) 0 a0_0 l0_1 t262) else (none)) else (none)) = some r := by first | (rw [hy274]; with_reducible exact H) | (have H2_ := (Option.bind_some _ _).symm.trans H; rw [hy274]; with_reducible exact H2_) | (have H2_ := (Option.bind_some _ _).symm.trans H; with_reducible exact H2_) | with_reducible exact H | (rw [hy274]; exact H) | exact H
         have Ny274 := Aside0.mk hy274
         clear hy274
         by_cases c47 : 0 ≤ a1
         ·rw [if_pos c47] at H
          have c47b0 : decide (0 ≤ a1) = true := decide_eq_true c47
          clear c47
          by_cases c48 : a1 < (y274.length : Int)
          ·rw [if_pos c48] at H
           have c48b0 : decide (a1 < (y274.length : Int)) = true := decide_eq_true c48
           clear c48
           obtain ⟨y277, hy277⟩ : ∃ y_ : List Int, y_ = (y274.set (a1 : Int).toNat 1) := ⟨_, rfl⟩
           replace H : (impl_CountWays.l1 k2 a2 y277 t273 (x8_2.length : Int) 0 a0_0 l0_1 t262) = some r := by first | (rw [hy277]; with_reducible exact H) | (have H2_ := (Option.bind_some _ _).symm.trans H; rw [hy277]; with_reducible exact H2_) | (have H2_ := (Option.bind_some _ _).symm.trans H; with_reducible exact H2_) | with_reducible exact H | (rw [hy277]; exact H) | exact H
           have Ny277 := Aside0.mk hy277
           clear hy277
           have H' := Aside0.mk H
           clear H
           obtain ⟨Ao50, co50, eo50⟩ := Kd.R_slice HO_8.out
           subst eo50
           go_wp2_with (first | ((with_reducible refine gate_callee (f := 75) rfl ?_); refine gl_ (some 51) Try.func75 #[.slice Ao50 x8_2.length co50, .func (.func 76) #[] #[.pointer (some ⟨gb265, 0, none⟩)]] ?_; (with_reducible refine (slices_SortFunc_int_int.calls k2 (fun k_ => some k_ = (.slice Ao50 x8_2.length co50 : Value).ownBlock) (.slice Ao50 x8_2.length co50) x8_2 _ [t262] t273 w _ ?side1 ?side2 ?side3 A44.out).mono ?_); (case side1 => exact by_ HB); (case side2 => exact Kd.R_tight rfl HO_8.out); (case side3 => exact C_box1_kept (cs := [.slice Ao28 t262.length co28]) (by (with_reducible repeat (first | refine blk_drewN ?_ _ | refine blk_drew ?_ | refine blk_alloc ?_ _)); exact BK265.out) (fun hs_ => (Kd.R_ne HO_8.out BK265.out (by decide)) hs_) (fun W_ hk_ => ⟨_, _, rfl, ((Kd.R_reads' HO_266000.out).2.1), (Kd.C_kept_own (HO_266000.out) (fun k_ hk_ hs_ => by first | exact (hk_) hs_ | grind)) _ hk_⟩)); rintro e w51 ⟨rfl, hy0, hb, hkp⟩; refine ⟨_, rfl, ?_⟩; replace HO_266000 := kp_ (fun k_ => some k_ ≠ (.slice Ao50 x8_2.length co50 : Value).ownBlock) (HO_266000.out) hkp; replace BK258 := bk_ BK258 hkp (fun hs_ => (Kd.R_ne HO_8.out BK258.out (by decide)) hs_); replace BK265 := bk_ BK265 hkp (fun hs_ => (Kd.R_ne HO_8.out BK265.out (by decide)) hs_); replace HO_8 := Aside0.mk (Kd.R_reok rfl hy0 (fun k_ e_ => HO_8.out.1 k_ e_)); replace HB := Aside0.mk (hb); (try clear hb); (try clear hkp); (try clear hy0); have hnb52 := NB258_265.out; have hnc52 := NB265_258.out; have hcz53_0 := cz_ BK258 0 (.int .i64 a0_0); have hcz53_1 := cz_ BK258 1 (.slice A0_1 l0_1.length c0_1); have hfz53_0 := blk_frozen BK258.out 0; have hfz53_1 := blk_frozen BK258.out 1) | ((with_reducible refine gate_dst (N := 54) rfl ?_); refine Kd.R_make (Kd.int .i64) _ 3 rfl (N := 54) rfl 25 _ _ rfl a0_0 rfl rfl Try.underlying25 (.int .i64 0) 8 info3 rfl (by decide) (by omega) 0 (ok := fun _ => True) (okp := fun _ => True) rfl (fun _ hk => hk) trivial (of_decide_eq_true (by first | (with_reducible assumption) | assumption)) (Nat.le_trans (Nat.mul_le_mul_right _ (of_decide_eq_true (by first | (with_reducible assumption) | assumption) : a0_0.toNat ≤ 35184372088832)) (by omega)) (Below.refl _ _) (Nat.le_refl _) ?_; intro v275 w54 ho55 hb hg_ hnew_; clear hg_ hnew_; (first | rw [← Ny274.out] at ho55 | (simp only [Int.reduceToNat] at ho55; rw [← Ny274.out] at ho55)); have HO276 := Aside0.mk (Kd.R_lower (Kd.R_new' (Kd.R_new' ho55 (Kd.R_lt (hd_ HO_8))) (Kd.R_lt (hd_ HO_266000))) (bz_ HB)); replace HO_8 := Aside0.mk (Kd.R_elder' (hd_ HO_8) (Kd.R_base ho55) hb); replace HO_266000 := Aside0.mk (Kd.R_elder' (hd_ HO_266000) (Kd.R_base ho55) hb); replace BK258 := Aside0.mk (bb_ BK258 hb); replace BK265 := Aside0.mk (bb_ BK265 hb); replace HB := Aside0.mk (bt_ HB hb); clear hb ho55; have p49 : 0 ≤ (a1 : Int) := of_decide_eq_true (by first | (with_reducible assumption) | assumption); have q49 : (a1 : Int) < ((y274.length : Int) : Int) := of_decide_eq_true (by first | (with_reducible assumption) | assumption); obtain ⟨go49, co49, eo49, gb49, gl49, cl49, HG49⟩ := Kd.R_form HO276.out (by omega); (first | cases eo49 | (injection eo49 with ea_ en_ ec_; (first | subst ea_ | (injection ea_ with ea_; subst ea_)); subst ec_; clear en_)); have GB49 := Aside0.mk gb49; have GG49 := Aside0.mk HG49; clear gb49 gl49 HG49; obtain ⟨hx49_0, hf49_0⟩ := Kd.R_celln 0 HO276.out (a1 : Int) p49 q49; replace p49 := eq_true p49; replace q49 := eq_true q49; have n_ := Aside0.mk (Kd.R_mono (ok' := (fun k_ => some k_ ≠ (.slice Ao50 x8_2.length co50 : Value).ownBlock ∧ some k_ ≠ (.slice Ao28 t262.length co28 : Value).ownBlock)) HO276.out (fun k_ hk => ⟨hk.1.2, hk.2⟩)); clear HO276; have HO276 := n_; clear n_; obtain ⟨hy56_, hz56_⟩ := Kd.R_celln 0 HO276.out (a1 : Int) (of_decide_eq_true (by first | (with_reducible assumption) | assumption)) (of_decide_eq_true (by first | (with_reducible assumption) | assumption)); have HP56 := Kd.R_putg HO276.out (a1 : Int) 1) | ((with_reducible refine gate_store (t := 3) (p := 57) rfl ?_); refine store_event (t := 3) (p := 57) (v := ?vo_w57) (w1 := (w54.setCell ⟨go49, (a1 : Int).toNat, none⟩ (.int .i64 1))) ?hg ?ho ?hn ?hr ?_; (case ho => rfl); (case hg => rfl); (case hn => rfl); (case hr => first | (go_simp; done) | (go_simp; rfl)); intro w57 hw; have hg : w54.grownBy w57 (some go49) := (by rw [hw]; exact HP56.2); have hp_ : Kd.R (Kd.int .i64) 3 w57 w.heap.size (fun k_ => some k_ ≠ (.slice Ao50 x8_2.length co50 : Value).ownBlock ∧ some k_ ≠ (.slice Ao28 t262.length co28 : Value).ownBlock) (.slice (some ⟨go49, 0, none⟩) y274.length co49) y277 := (by rw [hw, Ny277.out]; exact HP56.1); clear HP56; replace HO_8 := Aside0.mk (Kd.R_after (v := (.slice (some ⟨go49, 0, none⟩) y274.length co49)) (v1 := (.slice (some ⟨go49, 0, none⟩) y274.length co49)) (ok := (fun k_ => some k_ ≠ (.slice Ao28 t262.length co28 : Value).ownBlock)) (hd_ HO_8) hg (.inl rfl)); replace HO_266000 := Aside0.mk (Kd.R_after (v := (.slice (some ⟨go49, 0, none⟩) y274.length co49)) (v1 := (.slice (some ⟨go49, 0, none⟩) y274.length co49)) (ok := (fun k_ => some k_ ≠ (.slice Ao50 x8_2.length co50 : Value).ownBlock)) (hd_ HO_266000) hg (.inl rfl)); replace BK258 := Aside0.mk (blk_grown (g := gb258) (o := .cells #[.int .i64 a0_0, .slice A0_1 l0_1.length c0_1] 30 (0, 0)) (by (with_reducible repeat (first | refine blk_drewN ?_ _ | refine blk_drew ?_ | refine blk_alloc ?_ _)); exact BK258.out) hg (Kd.R_ne HO276.out BK258.out (by decide))); replace BK265 := Aside0.mk (blk_grown (g := gb265) (o := .cells #[.slice Ao28 t262.length co28] 25 (0, 0)) (by (with_reducible repeat (first | refine blk_drewN ?_ _ | refine blk_drew ?_ | refine blk_alloc ?_ _)); exact BK265.out) hg (Kd.R_ne HO276.out BK265.out (by decide))); replace HO276 := Aside0.mk (hp_); replace HB := Aside0.mk ((by rw [hw]; exact below_set (HB.out) GB49.out : Below w.heap.size w w57)); clear hg hw hp_))
           (try simp only [Act.put, List.setIfInBounds_toArray, List.set_cons_zero, List.set_cons_succ])
           go_loopg [60] k2 (fun kq v60 w' => ∃ (x10_3 : List Int) (x60_3 : Int), v60 = .int .i64 x60_3 ∧ Aside0 (impl_CountWays.l1 kq a2 x10_3 t273 (x8_2.length : Int) x60_3 a0_0 l0_1 t262 = some r) ∧ Aside0 (kq ≤ k2) ∧ Aside0 (Kd.R (Kd.int .i64) 3 w' w.heap.size (fun k_ => some k_ ≠ ((.slice Ao50 x8_2.length co50) : Value).ownBlock ∧ some k_ ≠ ((.slice Ao28 t262.length co28) : Value).ownBlock) (.slice (some ⟨go49, 0, none⟩) y274.length co49) x10_3) ∧ Aside0 (Kd.R (Kd.int .i64) 3 w' w.heap.size (fun k_ => some k_ ≠ ((.slice (some ⟨go49, 0, none⟩) y274.length co49) : Value).ownBlock ∧ some k_ ≠ ((.slice Ao28 t262.length co28) : Value).ownBlock) (.slice Ao50 x8_2.length co50) t273) ∧ Aside0 (Kd.R (Kd.int .i64) 3 w' w.heap.size (fun k_ => some k_ ≠ ((.slice (some ⟨go49, 0, none⟩) y274.length co49) : Value).ownBlock ∧ some k_ ≠ ((.slice Ao50 x8_2.length co50) : Value).ownBlock) (.slice Ao28 t262.length co28) t262) ∧ Aside0 (w'.heap[gb258]? = some (.cells #[.int .i64 a0_0, (.slice A0_1 l0_1.length c0_1)] 30 (0, 0))) ∧ Aside0 (w'.heap[gb265]? = some (.cells #[(.slice Ao28 t262.length co28)] 25 (0, 0))) ∧ Aside0 (Below w.heap.size w w'))
           case atStart => exact ⟨(y277), (0), (by first | rfl | (simp; done) | (simp [*]; done)), H', ⟨Nat.le_refl _⟩, ⟨by (with_reducible repeat (first | apply Kd.R_alloc | apply Kd.R_drewN | apply Kd.R_drew)); exact HO276.out⟩, ⟨by (with_reducible repeat (first | apply Kd.R_alloc | apply Kd.R_drewN | apply Kd.R_drew)); exact Kd.R_mono HO_8.out (fun _ hk => by first | exact ⟨hk.2, hk.1⟩ | grind)⟩, ⟨by (with_reducible repeat (first | apply Kd.R_alloc | apply Kd.R_drewN | apply Kd.R_drew)); exact Kd.R_mono HO_266000.out (fun _ hk => by first | exact ⟨hk.2, hk.1⟩ | grind)⟩, ⟨by (with_reducible repeat (first | refine blk_drewN ?_ _ | refine blk_drew ?_ | refine blk_alloc ?_ _)); exact BK258.out⟩, ⟨by (with_reducible repeat (first | refine blk_drewN ?_ _ | refine blk_drew ?_ | refine blk_alloc ?_ _)); exact BK265.out⟩, ⟨by repeat (first | (with_reducible first | exact HB.out | apply below_alloc | apply pw_below_drewN | apply below_drew1 | refine below_set ?_ GE258.out | refine below_set ?_ GE265.out) | exact HB.out)⟩⟩
           case round =>
            clear H'
            try clear c2
            try clear p2
            try clear q2
            try clear hx2
            try clear c3
            try clear c4
            try clear p4
            try clear q4
            try clear hx4
            try clear hf4
            try clear c5
            try clear c6
            try clear p6
            try clear c7
            try clear c9
            try clear c23
            try clear p26
            try clear q26
            try clear hx26
            try clear c29
            try clear c34
            try clear c34b0
            try clear c35
            try clear c35b0
            try clear c36
            try clear c36b0
            try clear c37
            try clear c37b0
            try clear c38
            try clear c39
            try clear c42
            try clear c45
            try clear c45b0
            try clear c45b1
            try clear c46
            try clear c46b0
            try clear c46b1
            try clear c47
            try clear c47b0
            try clear c48
            try clear c48b0
            try clear p49
            try clear q49
            try clear hx49
            try clear hf49
            try clear c52
            try clear c56
            try clear hcz11_0
            try clear hcz11_1
            try clear hcz13_0
            try clear hcz13_1
            try clear hcz15_0
            try clear hcz15_1
            try clear hcz17_0
            try clear hcz17_1
            try clear hcz19_0
            try clear hcz19_1
            try clear hcz21_0
            try clear hcz21_1
            try clear hcz25_0
            try clear hcz25_1
            try clear hcz30_0
            try clear hcz33_0
            try clear hcz33_1
            try clear hcz40_0
            try clear hcz43_0
            try clear hcz53_0
            try clear hcz53_1
            try clear hfz11_0
            try clear hfz11_1
            try clear hfz13_0
            try clear hfz13_1
            try clear hfz15_0
            try clear hfz15_1
            try clear hfz17_0
            try clear hfz17_1
            try clear hfz19_0
            try clear hfz19_1
            try clear hfz21_0
            try clear hfz21_1
            try clear hfz25_0
            try clear hfz25_1
            try clear hfz30_0
            try clear hfz33_0
            try clear hfz33_1
            try clear hfz40_0
            try clear hfz43_0
            try clear hfz53_0
            try clear hfz53_1
            try clear hx269_0
            try clear hx49_0
            try clear p2
            try clear p269
            try clear p49
            try clear q269
            try clear q49
            obtain ⟨x10_3, x60_3, rfl, HA, HK3, HO_10, HO_58, HO_266000, BK258, BK265, HB⟩ := hrel
            have hl10_3 := (Kd.R_reads' HO_10.out).1
            rw [hl10_3] at HO_10
            (try simp only [hl10_3])
            (try simp only [hl10_3] at BK258)
            (try simp only [hl10_3] at BK265)
            (try simp only [hl10_3] at HO_58)
            (try simp only [hl10_3] at HO_266000)
            have hl58_3 := (Kd.R_reads' HO_58.out).1
            rw [hl58_3] at HO_58
            (try simp only [hl58_3])
            (try simp only [hl58_3] at BK258)
            (try simp only [hl58_3] at BK265)
            (try simp only [hl58_3] at HO_10)
            (try simp only [hl58_3] at HO_266000)
            cases gk with
            | zero => exact absurd HA.out (by simp [impl_CountWays.l1])
            | succ k3 =>
             have H := HA.out
             clear HA
             simp only [impl_CountWays.l1] at H
             by_cases c58 : x60_3 < (x8_2.length : Int)
             ·rw [if_pos c58] at H
              have c58b0 : decide (x60_3 < (x8_2.length : Int)) = true := decide_eq_true c58
              clear c58
              by_cases c59 : 0 ≤ x60_3
              ·rw [if_pos c59] at H
               have c59b0 : decide (0 ≤ x60_3) = true := decide_eq_true c59
               clear c59
               by_cases c60 : x60_3 < (t273.length : Int)
               ·rw [if_pos c60] at H
                have c60b0 : decide (x60_3 < (t273.length : Int)) = true := decide_eq_true c60
                clear c60
                have H' := Aside0.mk H
                clear H
                have p279 : 0 ≤ (x60_3 : Int) := of_decide_eq_true (by first | (with_reducible assumption) | assumption)
                have q279 : x60_3 < (t273.length : Int) := of_decide_eq_true (by first | (with_reducible assumption) | assumption)
                obtain ⟨ad279, e279, hx279_0⟩ := Kd.at_int (Kd.R_reads' HO_58.out).2.2 x60_3 p279 q279
                cases e279
                replace p279 := eq_true p279
                replace q279 := eq_true q279
                have hnb61 := NB258_265.out
                have hnc61 := NB265_258.out
                have hcz62_0 := cz_ BK258 0 (.int .i64 a0_0)
                have hcz62_1 := cz_ BK258 1 (.slice A0_1 l0_1.length c0_1)
                have hfz62_0 := blk_frozen BK258.out 0
                have hfz62_1 := blk_frozen BK258.out 1
                go_wp2
                go_loopg [67] k3 (fun kq v67 w' => ∃ (x10_4 : List Int) (x67_4 : Int), v67 = .int .i64 x67_4 ∧ Aside0 (impl_CountWays.l2 kq a2 x10_4 (rd t273 x60_3) t273 (x8_2.length : Int) x60_3 l0_1 (l0_1.length : Int) x67_4 a0_0 l0_1 t262 = some r) ∧ Aside0 (kq ≤ k3) ∧ Aside0 (Kd.R (Kd.int .i64) 3 w' w.heap.size (fun k_ => some k_ ≠ ((.slice (some ad279) t273.length co50) : Value).ownBlock ∧ some k_ ≠ ((.slice Ao28 t262.length co28) : Value).ownBlock) (.slice (some ⟨go49, 0, none⟩) x10_3.length co49) x10_4) ∧ Aside0 (Kd.R (Kd.int .i64) 3 w' w.heap.size (fun k_ => some k_ ≠ ((.slice (some ⟨go49, 0, none⟩) x10_3.length co49) : Value).ownBlock ∧ some k_ ≠ ((.slice Ao28 t262.length co28) : Value).ownBlock) (.slice (some ad279) t273.length co50) t273) ∧ Aside0 (Kd.R (Kd.int .i64) 3 w' w.heap.size (fun k_ => some k_ ≠ ((.slice (some ⟨go49, 0, none⟩) x10_3.length co49) : Value).ownBlock ∧ some k_ ≠ ((.slice (some ad279) t273.length co50) : Value).ownBlock) (.slice Ao28 t262.length co28) t262) ∧ Aside0 (w'.heap[gb258]? = some (.cells #[.int .i64 a0_0, (.slice A0_1 l0_1.length c0_1)] 30 (0, 0))) ∧ Aside0 (w'.heap[gb265]? = some (.cells #[(.slice Ao28 t262.length co28)] 25 (0, 0))) ∧ Aside0 (Below w.heap.size w w'))
                case atStart => exact ⟨(x10_3), (0), (by first | rfl | (simp; done) | (simp [*]; done)), H', ⟨Nat.le_refl _⟩, ⟨by (try simp only [hl10_3]); (try simp only [hl58_3]); (with_reducible repeat (first | apply Kd.R_alloc | apply Kd.R_drewN | apply Kd.R_drew)); exact HO_10.out⟩, ⟨by (try simp only [hl10_3]); (try simp only [hl58_3]); (with_reducible repeat (first | apply Kd.R_alloc | apply Kd.R_drewN | apply Kd.R_drew)); exact HO_58.out⟩, ⟨by (try simp only [hl10_3]); (try simp only [hl58_3]); (with_reducible repeat (first | apply Kd.R_alloc | apply Kd.R_drewN | apply Kd.R_drew)); exact HO_266000.out⟩, ⟨by (try simp only [hl10_3]); (try simp only [hl58_3]); (with_reducible repeat (first | refine blk_drewN ?_ _ | refine blk_drew ?_ | refine blk_alloc ?_ _)); exact BK258.out⟩, ⟨by (try simp only [hl10_3]); (try simp only [hl58_3]); (with_reducible repeat (first | refine blk_drewN ?_ _ | refine blk_drew ?_ | refine blk_alloc ?_ _)); exact BK265.out⟩, ⟨by repeat (first | (with_reducible first | exact HB.out | apply below_alloc | apply pw_below_drewN | apply below_drew1 | refine below_set ?_ GE258.out | refine below_set ?_ GE265.out) | exact HB.out)⟩⟩
                case round =>
                 clear H'
                 try clear c2
                 try clear p2
                 try clear q2
                 try clear hx2
                 try clear c3
                 try clear c4
                 try clear p4
                 try clear q4
                 try clear hx4
                 try clear hf4
                 try clear c5
                 try clear c6
                 try clear p6
                 try clear c7
                 try clear c9
                 try clear c23
                 try clear p26
                 try clear q26
                 try clear hx26
                 try clear p27
                 try clear q27
                 try clear hx27
                 try clear c29
                 try clear c34
                 try clear c34b0
                 try clear c35
                 try clear c35b0
                 try clear c36
                 try clear c36b0
                 try clear c37
                 try clear c37b0
                 try clear c38
                 try clear c39
                 try clear c42
                 try clear c45
                 try clear c45b0
                 try clear c45b1
                 try clear c46
                 try clear c46b0
                 try clear c46b1
                 try clear c47
                 try clear c47b0
                 try clear c48
                 try clear c48b0
                 try clear p49
                 try clear q49
                 try clear hx49
                 try clear hf49
                 try clear c52
                 try clear c56
                 try clear c58
                 try clear c58b0
                 try clear c59
                 try clear c59b0
                 try clear c60
                 try clear c60b0
                 try clear c61
                 try clear hcz11_0
                 try clear hcz11_1
                 try clear hcz13_0
                 try clear hcz13_1
                 try clear hcz15_0
                 try clear hcz15_1
                 try clear hcz17_0
                 try clear hcz17_1
                 try clear hcz19_0
                 try clear hcz19_1
                 try clear hcz21_0
                 try clear hcz21_1
                 try clear hcz25_0
                 try clear hcz25_1
                 try clear hcz30_0
                 try clear hcz33_0
                 try clear hcz33_1
                 try clear hcz40_0
                 try clear hcz43_0
                 try clear hcz53_0
                 try clear hcz53_1
                 try clear hcz62_0
                 try clear hcz62_1
                 try clear hfz11_0
                 try clear hfz11_1
                 try clear hfz13_0
                 try clear hfz13_1
                 try clear hfz15_0
                 try clear hfz15_1
                 try clear hfz17_0
                 try clear hfz17_1
                 try clear hfz19_0
                 try clear hfz19_1
                 try clear hfz21_0
                 try clear hfz21_1
                 try clear hfz25_0
                 try clear hfz25_1
                 try clear hfz30_0
                 try clear hfz33_0
                 try clear hfz33_1
                 try clear hfz40_0
                 try clear hfz43_0
                 try clear hfz53_0
                 try clear hfz53_1
                 try clear hfz62_0
                 try clear hfz62_1
                 try clear hx269_0
                 try clear hx279_0
                 try clear hx49_0
                 try clear p2
                 try clear p26
                 try clear p269
                 try clear p279
                 try clear p4
                 try clear p49
                 try clear p6
                 try clear q2
                 try clear q26
                 try clear q269
                 try clear q279
                 try clear q4
                 try clear q49
                 obtain ⟨x10_4, x67_4, rfl, HA, HK4, HO_10, HO_58, HO_266000, BK258, BK265, HB⟩ := hrel
                 have hl10_4 := (Kd.R_reads' HO_10.out).1
                 rw [hl10_4] at HO_10
                 (try simp only [hl10_4])
                 (try simp only [hl10_4] at BK258)
                 (try simp only [hl10_4] at BK265)
                 (try simp only [hl10_4] at HO_58)
                 (try simp only [hl10_4] at HO_266000)
                 cases gk with
                 | zero => exact absurd HA.out (by simp [impl_CountWays.l2])
                 | succ k4 =>
                  have H := HA.out
                  clear HA
                  simp only [impl_CountWays.l2] at H
                  by_cases c63 : x67_4 < (l0_1.length : Int)
                  ·rw [if_pos c63] at H
                   have c63b0 : decide (x67_4 < (l0_1.length : Int)) = true := decide_eq_true c63
                   clear c63
                   by_cases c64 : 0 ≤ x67_4
                   ·rw [if_pos c64] at H
                    have c64b0 : decide (0 ≤ x67_4) = true := decide_eq_true c64
                    clear c64
                    by_cases c65 : x67_4 < (l0_1.length : Int)
                    ·rw [if_pos c65] at H
                     have c65b0 : decide (x67_4 < (l0_1.length : Int)) = true := decide_eq_true c65
                     clear c65
                     by_cases c66 : ((rd_T67 l0_1 x67_4).f0) = (rd t273 x60_3)
                     ·rw [if_pos c66] at H
                      have c66b0 : (((rd_T67 l0_1 x67_4).f0) == (rd t273 x60_3)) = true := beq_iff_eq.mpr c66
                      have c66b1 : (((rd_T67 l0_1 x67_4).f0) != (rd t273 x60_3)) = false := bne_eq_false_iff_eq.mpr c66
                      clear c66
                      by_cases c67 : 0 ≤ (rd t273 x60_3)
                      ·rw [if_pos c67] at H
                       have c67b0 : decide (0 ≤ (rd t273 x60_3)) = true := decide_eq_true c67
                       clear c67
                       by_cases c68 : (rd t273 x60_3) < (t262.length : Int)
                       ·rw [if_pos c68] at H
                        have c68b0 : decide ((rd t273 x60_3) < (t262.length : Int)) = true := decide_eq_true c68
                        clear c68
                        by_cases c69 : 0 ≤ ((rd_T67 l0_1 x67_4).f1)
                        ·rw [if_pos c69] at H
                         have c69b0 : decide (0 ≤ ((rd_T67 l0_1 x67_4).f1)) = true := decide_eq_true c69
                         clear c69
                         by_cases c70 : ((rd_T67 l0_1 x67_4).f1) < (t262.length : Int)
                         ·rw [if_pos c70] at H
                          have c70b0 : decide (((rd_T67 l0_1 x67_4).f1) < (t262.length : Int)) = true := decide_eq_true c70
                          clear c70
                          by_cases c71 : (wrap64 ((rd t262 (rd t273 x60_3)) + ((rd_T67 l0_1 x67_4).f2))) = (rd t262 ((rd_T67 l0_1 x67_4).f1))
                          ·rw [if_pos c71] at H
                           have c71b0 : ((wrap64 ((rd t262 (rd t273 x60_3)) + ((rd_T67 l0_1 x67_4).f2))) == (rd t262 ((rd_T67 l0_1 x67_4).f1))) = true := beq_iff_eq.mpr c71
                           have c71b1 : ((wrap64 ((rd t262 (rd t273 x60_3)) + ((rd_T67 l0_1 x67_4).f2))) != (rd t262 ((rd_T67 l0_1 x67_4).f1))) = false := bne_eq_false_iff_eq.mpr c71
                           clear c71
                           by_cases c72 : ((rd_T67 l0_1 x67_4).f1) < (x10_4.length : Int)
                           ·rw [if_pos c72] at H
                            have c72b0 : decide (((rd_T67 l0_1 x67_4).f1) < (x10_4.length : Int)) = true := decide_eq_true c72
                            clear c72
                            by_cases c73 : (rd t273 x60_3) < (x10_4.length : Int)
                            ·rw [if_pos c73] at H
                             have c73b0 : decide ((rd t273 x60_3) < (x10_4.length : Int)) = true := decide_eq_true c73
                             clear c73
                             obtain ⟨y286, hy286⟩ : ∃ y_ : List Int, y_ = (x10_4.set (((rd_T67 l0_1 x67_4).f1) : Int).toNat (wrap64 ((rd x10_4 ((rd_T67 l0_1 x67_4).f1)) + (rd x10_4 (rd t273 x60_3))))) := ⟨_, rfl⟩
                             replace H : (impl_CountWays.l2 k4 a2 y286 (rd t273 x60_3) t273 (x8_2.length : Int) x60_3 l0_1 (l0_1.length : Int) (wrap64 (x67_4 + 1)) a0_0 l0_1 t262) = some r := by first | (rw [hy286]; with_reducible exact H) | (have H2_ := (Option.bind_some _ _).symm.trans H; rw [hy286]; with_reducible exact H2_) | (have H2_ := (Option.bind_some _ _).symm.trans H; with_reducible exact H2_) | with_reducible exact H | (rw [hy286]; exact H) | exact H
                             have Ny286 := Aside0.mk hy286
                             clear hy286
                             have H' := Aside0.mk H
                             clear H
                             have p280 : 0 ≤ (x67_4 : Int) := of_decide_eq_true (by first | (with_reducible assumption) | assumption)
                             have q280 : x67_4 < (l0_1.length : Int) := of_decide_eq_true (by first | (with_reducible assumption) | assumption)
                             obtain ⟨ad280, e280, hx280_0, hx280_1, hx280_2⟩ := at_T67 HR0_1.out x67_4 p280 q280
                             cases e280
                             replace hx280_0 := (HB.out.cell (World.block_lt_of_cell? w _ hx280_0)).trans hx280_0
                             replace hx280_1 := (HB.out.cell (World.block_lt_of_cell? w _ hx280_1)).trans hx280_1
                             replace hx280_2 := (HB.out.cell (World.block_lt_of_cell? w _ hx280_2)).trans hx280_2
                             replace p280 := eq_true p280
                             replace q280 := eq_true q280
                             try go_wp2_with (first | ((with_reducible refine gate_dst (N := 14) rfl ?_); refine box_event ?hg (N := 14) ?hd (cs := #[.int .i64 0, .int .i64 0, .int .i64 0]) (t := 67) ?hr ?_; (case hd => rfl); (case hg => rfl); (case hr => first | (go_simp; done) | (go_simp; rfl)); intro gb281 hg w75 hbox hb; have BK281 := Aside0.mk hbox; have GW281 := ge_ HB hg; have GE281 := ge_ HB hg; have NB258_281 := nl_ BK258 hg; have NB281_258 := ng_ BK258 hg; have NB265_281 := nl_ BK265 hg; have NB281_265 := ng_ BK265 hg; replace HO_10 := rb_ HO_10 hb; replace HO_58 := rb_ HO_58 hb; replace HO_266000 := rb_ HO_266000 hb; replace HB := Aside0.mk (bt_ HB hb); replace BK258 := Aside0.mk (bb_ BK258 hb); replace BK265 := Aside0.mk (bb_ BK265 hb); clear hb hbox hg; have hnb76 := NB281_258.out; have hnc76 := NB258_281.out; have hnb77 := NB281_265.out; have hnc77 := NB265_281.out; have hcz78_0 := cz_ BK281 0 (.int .i64 0); have hcz78_1 := cz_ BK281 1 (.int .i64 0); have hcz78_2 := cz_ BK281 2 (.int .i64 0); have hfz78_0 := blk_frozen BK281.out 0; have hfz78_1 := blk_frozen BK281.out 1; have hfz78_2 := blk_frozen BK281.out 2))
                             have n0_ : Aside0 (Kd.R (Kd.int .i64) 3 (((w75.setCell ⟨gb281, 0, none⟩ (.int .i64 ((rd_T67 l0_1 x67_4).f0))).setCell ⟨gb281, 1, none⟩ (.int .i64 ((rd_T67 l0_1 x67_4).f1))).setCell ⟨gb281, 2, none⟩ (.int .i64 ((rd_T67 l0_1 x67_4).f2))) w.heap.size (fun k_ => some k_ ≠ (.slice (some ad279) t273.length co50 : Value).ownBlock ∧ some k_ ≠ (.slice Ao28 t262.length co28 : Value).ownBlock) (.slice (some ⟨go49, 0, none⟩) x10_4.length co49) x10_4) := ⟨by (with_reducible repeat (first | apply Kd.R_alloc | apply Kd.R_drewN | apply Kd.R_drew)); exact Kd.R_mono (Kd.R_far (p := ⟨gb281, 2, none⟩) (Kd.R_far (p := ⟨gb281, 1, none⟩) (Kd.R_far (p := ⟨gb281, 0, none⟩) (Kd.R_types HO_10.out BK281.out (by decide)) (fun _ hk => hk.2) (.int .i64 ((rd_T67 l0_1 x67_4).f0))) (fun _ hk => hk.2) (.int .i64 ((rd_T67 l0_1 x67_4).f1))) (fun _ hk => hk.2) (.int .i64 ((rd_T67 l0_1 x67_4).f2))) (fun _ hk => by first | exact ⟨hk.1.1, hk.1.2⟩ | grind)⟩
                             have n1_ : Aside0 (Kd.R (Kd.int .i64) 3 (((w75.setCell ⟨gb281, 0, none⟩ (.int .i64 ((rd_T67 l0_1 x67_4).f0))).setCell ⟨gb281, 1, none⟩ (.int .i64 ((rd_T67 l0_1 x67_4).f1))).setCell ⟨gb281, 2, none⟩ (.int .i64 ((rd_T67 l0_1 x67_4).f2))) w.heap.size (fun k_ => some k_ ≠ (.slice (some ⟨go49, 0, none⟩) x10_4.length co49 : Value).ownBlock ∧ some k_ ≠ (.slice Ao28 t262.length co28 : Value).ownBlock) (.slice (some ad279) t273.length co50) t273) := ⟨by (with_reducible repeat (first | apply Kd.R_alloc | apply Kd.R_drewN | apply Kd.R_drew)); exact Kd.R_mono (Kd.R_far (p := ⟨gb281, 2, none⟩) (Kd.R_far (p := ⟨gb281, 1, none⟩) (Kd.R_far (p := ⟨gb281, 0, none⟩) (Kd.R_types HO_58.out BK281.out (by decide)) (fun _ hk => hk.2) (.int .i64 ((rd_T67 l0_1 x67_4).f0))) (fun _ hk => hk.2) (.int .i64 ((rd_T67 l0_1 x67_4).f1))) (fun _ hk => hk.2) (.int .i64 ((rd_T67 l0_1 x67_4).f2))) (fun _ hk => by first | exact ⟨hk.1.1, hk.1.2⟩ | grind)⟩
                             have n2_ : Aside0 (Kd.R (Kd.int .i64) 3 (((w75.setCell ⟨gb281, 0, none⟩ (.int .i64 ((rd_T67 l0_1 x67_4).f0))).setCell ⟨gb281, 1, none⟩ (.int .i64 ((rd_T67 l0_1 x67_4).f1))).setCell ⟨gb281, 2, none⟩ (.int .i64 ((rd_T67 l0_1 x67_4).f2))) w.heap.size (fun k_ => some k_ ≠ (.slice (some ⟨go49, 0, none⟩) x10_4.length co49 : Value).ownBlock ∧ some k_ ≠ (.slice (some ad279) t273.length co50 : Value).ownBlock) (.slice Ao28 t262.length co28) t262) := ⟨by (with_reducible repeat (first | apply Kd.R_alloc | apply Kd.R_drewN | apply Kd.R_drew)); exact Kd.R_mono (Kd.R_far (p := ⟨gb281, 2, none⟩) (Kd.R_far (p := ⟨gb281, 1, none⟩) (Kd.R_far (p := ⟨gb281, 0, none⟩) (Kd.R_types HO_266000.out BK281.out (by decide)) (fun _ hk => hk.2) (.int .i64 ((rd_T67 l0_1 x67_4).f0))) (fun _ hk => hk.2) (.int .i64 ((rd_T67 l0_1 x67_4).f1))) (fun _ hk => hk.2) (.int .i64 ((rd_T67 l0_1 x67_4).f2))) (fun _ hk => by first | exact ⟨hk.1.1, hk.1.2⟩ | grind)⟩
                             have n3_ : Aside0 ((((w75.setCell ⟨gb281, 0, none⟩ (.int .i64 ((rd_T67 l0_1 x67_4).f0))).setCell ⟨gb281, 1, none⟩ (.int .i64 ((rd_T67 l0_1 x67_4).f1))).setCell ⟨gb281, 2, none⟩ (.int .i64 ((rd_T67 l0_1 x67_4).f2))).heap[gb258]? = some (.cells #[.int .i64 a0_0, .slice (some ad280) l0_1.length c0_1] 30 (0, 0))) := ⟨by (with_reducible repeat (first | refine blk_drewN ?_ _ | refine blk_drew ?_ | refine blk_alloc ?_ _)); refine blk_far ?_ NB258_281.out _; (with_reducible repeat (first | refine blk_drewN ?_ _ | refine blk_drew ?_ | refine blk_alloc ?_ _)); refine blk_far ?_ NB258_281.out _; (with_reducible repeat (first | refine blk_drewN ?_ _ | refine blk_drew ?_ | refine blk_alloc ?_ _)); refine blk_far ?_ NB258_281.out _; (with_reducible repeat (first | refine blk_drewN ?_ _ | refine blk_drew ?_ | refine blk_alloc ?_ _)); exact BK258.out⟩
                             have n4_ : Aside0 ((((w75.setCell ⟨gb281, 0, none⟩ (.int .i64 ((rd_T67 l0_1 x67_4).f0))).setCell ⟨gb281, 1, none⟩ (.int .i64 ((rd_T67 l0_1 x67_4).f1))).setCell ⟨gb281, 2, none⟩ (.int .i64 ((rd_T67 l0_1 x67_4).f2))).heap[gb265]? = some (.cells #[.slice Ao28 t262.length co28] 25 (0, 0))) := ⟨by (with_reducible repeat (first | refine blk_drewN ?_ _ | refine blk_drew ?_ | refine blk_alloc ?_ _)); refine blk_far ?_ NB265_281.out _; (with_reducible repeat (first | refine blk_drewN ?_ _ | refine blk_drew ?_ | refine blk_alloc ?_ _)); refine blk_far ?_ NB265_281.out _; (with_reducible repeat (first | refine blk_drewN ?_ _ | refine blk_drew ?_ | refine blk_alloc ?_ _)); refine blk_far ?_ NB265_281.out _; (with_reducible repeat (first | refine blk_drewN ?_ _ | refine blk_drew ?_ | refine blk_alloc ?_ _)); exact BK265.out⟩
                             have n5_ : Aside0 ((((w75.setCell ⟨gb281, 0, none⟩ (.int .i64 ((rd_T67 l0_1 x67_4).f0))).setCell ⟨gb281, 1, none⟩ (.int .i64 ((rd_T67 l0_1 x67_4).f1))).setCell ⟨gb281, 2, none⟩ (.int .i64 ((rd_T67 l0_1 x67_4).f2))).heap[gb281]? = some (.cells #[.int .i64 ((rd_T67 l0_1 x67_4).f0), .int .i64 ((rd_T67 l0_1 x67_4).f1), .int .i64 ((rd_T67 l0_1 x67_4).f2)] 67 (0, 0))) := ⟨by (with_reducible repeat (first | refine blk_drewN ?_ _ | refine blk_drew ?_ | refine blk_alloc ?_ _)); refine blk_put (cs := #[.int .i64 ((rd_T67 l0_1 x67_4).f0), .int .i64 ((rd_T67 l0_1 x67_4).f1), .int .i64 0]) ?_ 2 _ rfl; (with_reducible repeat (first | refine blk_drewN ?_ _ | refine blk_drew ?_ | refine blk_alloc ?_ _)); refine blk_put (cs := #[.int .i64 ((rd_T67 l0_1 x67_4).f0), .int .i64 0, .int .i64 0]) ?_ 1 _ rfl; (with_reducible repeat (first | refine blk_drewN ?_ _ | refine blk_drew ?_ | refine blk_alloc ?_ _)); refine blk_put (cs := #[.int .i64 0, .int .i64 0, .int .i64 0]) ?_ 0 _ rfl; (with_reducible repeat (first | refine blk_drewN ?_ _ | refine blk_drew ?_ | refine blk_alloc ?_ _)); exact BK281.out⟩
                             have n6_ : Aside0 (Below w.heap.size w (((w75.setCell ⟨gb281, 0, none⟩ (.int .i64 ((rd_T67 l0_1 x67_4).f0))).setCell ⟨gb281, 1, none⟩ (.int .i64 ((rd_T67 l0_1 x67_4).f1))).setCell ⟨gb281, 2, none⟩ (.int .i64 ((rd_T67 l0_1 x67_4).f2)))) := ⟨by repeat (first | (with_reducible first | exact HB.out | apply below_alloc | apply pw_below_drewN | apply below_drew1 | refine below_set ?_ GE258.out | refine below_set ?_ GE265.out | refine below_set ?_ GE281.out) | exact HB.out)⟩
                             (try clear HO_10)
                             (try clear HO_58)
                             (try clear HO_266000)
                             (try clear BK258)
                             (try clear BK265)
                             (try clear BK281)
                             (try clear HB)
                             generalize (((w75.setCell ⟨gb281, 0, none⟩ (.int .i64 ((rd_T67 l0_1 x67_4).f0))).setCell ⟨gb281, 1, none⟩ (.int .i64 ((rd_T67 l0_1 x67_4).f1))).setCell ⟨gb281, 2, none⟩ (.int .i64 ((rd_T67 l0_1 x67_4).f2))) = w79 at n0_ n1_ n2_ n3_ n4_ n5_ n6_ ⊢
                             have HO_10 := n0_
                             have HO_58 := n1_
                             have HO_266000 := n2_
                             have BK258 := n3_
                             have BK265 := n4_
                             have BK281 := n5_
                             have HB := n6_
                             clear n0_ n1_ n2_ n3_ n4_ n5_ n6_
                             replace HO_10 := Aside0.mk (Kd.R_drew HO_10.out)
                             replace HO_58 := Aside0.mk (Kd.R_drew HO_58.out)
                             replace HO_266000 := Aside0.mk (Kd.R_drew HO_266000.out)
                             replace BK258 := Aside0.mk (blk_drew BK258.out)
                             replace BK265 := Aside0.mk (blk_drew BK265.out)
                             replace BK281 := Aside0.mk (blk_drew BK281.out)
                             replace HB := Aside0.mk (below_drew1 HB.out)
                             have p282 : 0 ≤ ((rd t273 x60_3) : Int) := of_decide_eq_true (by first | (with_reducible assumption) | assumption)
                             have q282 : (rd t273 x60_3) < (t262.length : Int) := of_decide_eq_true (by first | (with_reducible assumption) | assumption)
                             obtain ⟨ad282, e282, hx282_0⟩ := Kd.at_int (Kd.R_reads' HO_266000.out).2.2 (rd t273 x60_3) p282 q282
                             cases e282
                             replace p282 := eq_true p282
                             replace q282 := eq_true q282
                             have p283 : 0 ≤ (((rd_T67 l0_1 x67_4).f1) : Int) := of_decide_eq_true (by first | (with_reducible assumption) | assumption)
                             have q283 : ((rd_T67 l0_1 x67_4).f1) < (t262.length : Int) := of_decide_eq_true (by first | (with_reducible assumption) | assumption)
                             obtain ⟨ad283, e283, hx283_0⟩ := Kd.at_int (Kd.R_reads' HO_266000.out).2.2 ((rd_T67 l0_1 x67_4).f1) p283 q283
                             obtain rfl : ad282 = ad283 := (by injection e283)
                             replace p283 := eq_true p283
                             replace q283 := eq_true q283
                             refine start_ (n := 19) (S := fun w' => w'.cell? ⟨gb281, 0, none⟩ = some (.int .i64 ((rd_T67 l0_1 x67_4).f0)) ∧ w'.cell? ⟨gb281, 1, none⟩ = some (.int .i64 ((rd_T67 l0_1 x67_4).f1)) ∧ w'.cell? ⟨gb281, 2, none⟩ = some (.int .i64 ((rd_T67 l0_1 x67_4).f2)) ∧ w'.cell? ⟨gb265, 0, none⟩ = some (.slice (some ad282) t262.length co28) ∧ w'.cell? (ad282.add ((rd t273 x60_3)).toNat) = some (.int .i64 (rd t262 (rd t273 x60_3))) ∧ w'.cell? (ad282.add (((rd_T67 l0_1 x67_4).f1)).toNat) = some (.int .i64 (rd t262 ((rd_T67 l0_1 x67_4).f1)))) (ds := []) ba11_0 (by kernel_rfl) rfl rfl ⟨(blk_cell BK281.out 0).trans rfl, (blk_cell BK281.out 1).trans rfl, (blk_cell BK281.out 2).trans rfl, (blk_cell BK265.out 0).trans rfl, hx282_0, hx283_0⟩ (fun hHeld => ?_); refine with_tabW impl_CountWays.tab20 impl_CountWays.bits20 (fun HT_ HW_ => ?_)
                             generalize w79.drew = w80 at HO_10 HO_58 HO_266000 BK258 BK265 BK281 HB hx282_0 hx283_0 hHeld ⊢
                             refine pz_ 0 71 ba11_1 HT_ ?_
                             refine pz_ 2 73 ba11_2 HT_ ?_
                             refine pt_ 1 72 ba11_3 HT_ HW_ hHeld ?_
                             refine pz_ 3 74 ba11_4 HT_ ?_
                             refine pz_ 4 75 ba11_5 HT_ ?_
                             refine pz_ 6 77 ba11_6 HT_ ?_
                             refine pz_ 9 80 ba11_7 HT_ ?_
                             refine pz_ 13 84 ba11_8 HT_ ?_
                             refine pt_ 5 76 ba11_9 HT_ HW_ hHeld ?_
                             refine pz_ 7 78 ba11_10 HT_ ?_
                             refine pt_ 8 79 ba11_11 HT_ HW_ hHeld ?_
                             refine pt_ 10 81 ba11_12 HT_ HW_ hHeld ?_
                             refine pz_ 11 82 ba11_13 HT_ ?_
                             refine pt_ 12 83 ba11_14 HT_ HW_ hHeld ?_
                             refine pt_ 14 85 ba11_15 HT_ HW_ hHeld ?_
                             refine pz_ 15 86 ba11_16 HT_ ?_
                             refine pt_ 16 87 ba11_17 HT_ HW_ hHeld ?_
                             refine pz_ 17 88 ba11_18 HT_ ?_
                             refine pz_ 18 89 ba11_19 HT_ ?_
                             refine done_ (done_of HT_.out (by kernel_rfl)) ?_
                             try go_wp2
                             replace HO_10 := Aside0.mk (Kd.R_drew HO_10.out)
                             replace HO_58 := Aside0.mk (Kd.R_drew HO_58.out)
                             replace HO_266000 := Aside0.mk (Kd.R_drew HO_266000.out)
                             replace BK258 := Aside0.mk (blk_drew BK258.out)
                             replace BK265 := Aside0.mk (blk_drew BK265.out)
                             replace BK281 := Aside0.mk (blk_drew BK281.out)
                             replace HB := Aside0.mk (below_drew1 HB.out)
                             have p284 : 0 ≤ (((rd_T67 l0_1 x67_4).f1) : Int) := of_decide_eq_true (by first | (with_reducible assumption) | assumption)
                             have q284 : ((rd_T67 l0_1 x67_4).f1) < (x10_4.length : Int) := of_decide_eq_true (by first | (with_reducible assumption) | assumption)
                             obtain ⟨ad284, e284, hx284_0⟩ := Kd.at_int (Kd.R_reads' HO_10.out).2.2 ((rd_T67 l0_1 x67_4).f1) p284 q284
                             obtain rfl : (⟨go49, 0, none⟩ : Addr) = ad284 := (by injection e284)
                             (first | simp only [add_plain] at hx284_0 | simp only [add_at] at hx284_0 | simp only [Addr.add, Nat.zero_add] at hx284_0 | skip)
                             replace p284 := eq_true p284
                             replace q284 := eq_true q284
                             have p285 : 0 ≤ ((rd t273 x60_3) : Int) := of_decide_eq_true (by first | (with_reducible assumption) | assumption)
                             have q285 : (rd t273 x60_3) < (x10_4.length : Int) := of_decide_eq_true (by first | (with_reducible assumption) | assumption)
                             obtain ⟨ad285, e285, hx285_0⟩ := Kd.at_int (Kd.R_reads' HO_10.out).2.2 (rd t273 x60_3) p285 q285
                             obtain rfl : (⟨go49, 0, none⟩ : Addr) = ad285 := (by injection e285)
                             (first | simp only [add_plain] at hx285_0 | simp only [add_at] at hx285_0 | simp only [Addr.add, Nat.zero_add] at hx285_0 | skip)
                             replace p285 := eq_true p285
                             replace q285 := eq_true q285
                             have p74 : 0 ≤ (((rd_T67 l0_1 x67_4).f1) : Int) := of_decide_eq_true (by first | (with_reducible assumption) | assumption)
                             have q74 : (((rd_T67 l0_1 x67_4).f1) : Int) < ((x10_4.length : Int) : Int) := of_decide_eq_true (by first | (with_reducible assumption) | assumption)
                             obtain ⟨hx74_0, hf74_0⟩ := Kd.R_celln 0 HO_10.out (((rd_T67 l0_1 x67_4).f1) : Int) p74 q74
                             replace p74 := eq_true p74
                             replace q74 := eq_true q74
                             have HP82 := Kd.R_putn HO_10.out (((rd_T67 l0_1 x67_4).f1) : Int) (wrap64 ((rd x10_4 ((rd_T67 l0_1 x67_4).f1)) + (rd x10_4 (rd t273 x60_3))))
                             rw [← Ny286.out] at HP82
                             have HQ82 := Aside0.mk HP82
                             clear HP82
                             refine start_ (n := 12) (S := fun w' => w'.cell? ⟨gb281, 0, none⟩ = some (.int .i64 ((rd_T67 l0_1 x67_4).f0)) ∧ w'.cell? ⟨gb281, 1, none⟩ = some (.int .i64 ((rd_T67 l0_1 x67_4).f1)) ∧ w'.cell? ⟨gb281, 2, none⟩ = some (.int .i64 ((rd_T67 l0_1 x67_4).f2)) ∧ w'.cell? ⟨go49, (((rd_T67 l0_1 x67_4).f1)).toNat, none⟩ = some (.int .i64 (rd x10_4 ((rd_T67 l0_1 x67_4).f1))) ∧ w'.cell? ⟨go49, ((rd t273 x60_3)).toNat, none⟩ = some (.int .i64 (rd x10_4 (rd t273 x60_3)))) (ds := [11]) ba11_20 (by kernel_rfl) rfl rfl ⟨(blk_cell BK281.out 0).trans rfl, (blk_cell BK281.out 1).trans rfl, (blk_cell BK281.out 2).trans rfl, hx284_0, hx285_0⟩ (fun hHeld => ?_); refine with_tabW impl_CountWays.tab21 impl_CountWays.bits21 (fun HT_ HW_ => ?_)
                             generalize w80.drew = w81 at HO_10 HO_58 HO_266000 BK258 BK265 BK281 HB HQ82 hf74_0 hx284_0 hx285_0 hx74_0 hHeld ⊢
                             refine pz_ 0 90 ba11_21 HT_ ?_
                             refine pz_ 1 91 ba11_22 HT_ ?_
                             refine pz_ 5 95 ba11_23 HT_ ?_
                             refine pz_ 6 96 ba11_24 HT_ ?_
                             refine pz_ 7 97 ba11_25 HT_ ?_
                             refine pt_ 2 92 ba11_26 HT_ HW_ hHeld ?_
                             refine pz_ 3 93 ba11_27 HT_ ?_
                             refine pt_ 4 94 ba11_28 HT_ HW_ hHeld ?_
                             refine pt_ 8 98 ba11_29 HT_ HW_ hHeld ?_
                             refine pz_ 9 99 ba11_30 HT_ ?_
                             refine pz_ 10 100 ba11_31 HT_ ?_
                             refine last_ (i := 11) (N := none) ba11_32 rfl rfl (one_of HT_.out (by kernel_rfl)) (by decide) (fun K hK => ?_)
                             refine skip_ (w1 := ?_) (by rfl) rfl ?_ ?_
                             rotate_left; · go_simp; rfl
                             refine hK.out _ _ ?_
                             clear hK K
                             refine done_ (done_of HT_.out (by kernel_rfl)) ?_
                             try go_wp2
                             (try simp only [← hl10_4])
                             go_roundg k4
                             case measure => have := HJ3.out; have := HK2.out; have := HK3.out; have := HK4.out; omega
                             case rel => exact ⟨(y286), (wrap64 (x67_4 + 1)), (by first | rfl | (simp; done) | (simp [*]; done)), H', ⟨by have := HJ3.out; have := HK2.out; have := HK3.out; have := HK4.out; omega⟩, ⟨by (try simp only [hl10_3]); (try simp only [hl58_3]); (try simp only [hl10_4]); (with_reducible repeat (first | apply Kd.R_alloc | apply Kd.R_drewN | apply Kd.R_drew)); exact HQ82.out⟩, ⟨by (try simp only [hl10_3]); (try simp only [hl58_3]); (try simp only [hl10_4]); (with_reducible repeat (first | apply Kd.R_alloc | apply Kd.R_drewN | apply Kd.R_drew)); exact Kd.R_mono (Kd.R_far (p := ⟨go49, (((rd_T67 l0_1 x67_4).f1) : Int).toNat, none⟩) (Kd.R_mono HO_58.out (fun k_ hk => (⟨hk, fun e_ => hk.1 (by rw [e_]; rfl)⟩ : _ ∧ k_ ≠ go49))) (fun _ hk => hk.2) (.int .i64 (wrap64 ((rd x10_4 ((rd_T67 l0_1 x67_4).f1)) + (rd x10_4 (rd t273 x60_3)))))) (fun _ hk => by first | exact ⟨hk.1.1, hk.1.2⟩ | grind)⟩, ⟨by (try simp only [hl10_3]); (try simp only [hl58_3]); (try simp only [hl10_4]); (with_reducible repeat (first | apply Kd.R_alloc | apply Kd.R_drewN | apply Kd.R_drew)); exact Kd.R_mono (Kd.R_far (p := ⟨go49, (((rd_T67 l0_1 x67_4).f1) : Int).toNat, none⟩) (Kd.R_mono HO_266000.out (fun k_ hk => (⟨hk, fun e_ => hk.1 (by rw [e_]; rfl)⟩ : _ ∧ k_ ≠ go49))) (fun _ hk => hk.2) (.int .i64 (wrap64 ((rd x10_4 ((rd_T67 l0_1 x67_4).f1)) + (rd x10_4 (rd t273 x60_3)))))) (fun _ hk => by first | exact ⟨hk.1.1, hk.1.2⟩ | grind)⟩, ⟨by (try simp only [hl10_3]); (try simp only [hl58_3]); (try simp only [hl10_4]); (with_reducible repeat (first | refine blk_drewN ?_ _ | refine blk_drew ?_ | refine blk_alloc ?_ _)); refine blk_far ?_ (by have h_ := Kd.R_ne HO_10.out BK258.out (by decide); intro e_; exact h_ (by rw [e_]; rfl)) _; (with_reducible repeat (first | refine blk_drewN ?_ _ | refine blk_drew ?_ | refine blk_alloc ?_ _)); exact BK258.out⟩, ⟨by (try simp only [hl10_3]); (try simp only [hl58_3]); (try simp only [hl10_4]); (with_reducible repeat (first | refine blk_drewN ?_ _ | refine blk_drew ?_ | refine blk_alloc ?_ _)); refine blk_far ?_ (by have h_ := Kd.R_ne HO_10.out BK265.out (by decide); intro e_; exact h_ (by rw [e_]; rfl)) _; (with_reducible repeat (first | refine blk_drewN ?_ _ | refine blk_drew ?_ | refine blk_alloc ?_ _)); exact BK265.out⟩, ⟨by repeat (first | (with_reducible first | exact HB.out | apply below_alloc | apply pw_below_drewN | apply below_drew1 | refine below_set ?_ GB49.out | refine below_set ?_ GE258.out | refine below_set ?_ GE265.out | refine below_set ?_ GE281.out) | exact HB.out)⟩⟩
                            ·rw [if_neg c73] at H
                             exact absurd H (by simp)
                           ·rw [if_neg c72] at H
                            exact absurd H (by simp)
                          ·rw [if_neg c71] at H
                           have c71b0 : ((wrap64 ((rd t262 (rd t273 x60_3)) + ((rd_T67 l0_1 x67_4).f2))) == (rd t262 ((rd_T67 l0_1 x67_4).f1))) = false := beq_eq_false_iff_ne.mpr c71
                           have c71b1 : ((wrap64 ((rd t262 (rd t273 x60_3)) + ((rd_T67 l0_1 x67_4).f2))) != (rd t262 ((rd_T67 l0_1 x67_4).f1))) = true := bne_iff_ne.mpr c71
                           have H' := Aside0.mk H
                           clear H
                           have p280 : 0 ≤ (x67_4 : Int) := of_decide_eq_true (by first | (with_reducible assumption) | assumption)
                           have q280 : x67_4 < (l0_1.length : Int) := of_decide_eq_true (by first | (with_reducible assumption) | assumption)
                           obtain ⟨ad280, e280, hx280_0, hx280_1, hx280_2⟩ := at_T67 HR0_1.out x67_4 p280 q280
                           cases e280
                           replace hx280_0 := (HB.out.cell (World.block_lt_of_cell? w _ hx280_0)).trans hx280_0
                           replace hx280_1 := (HB.out.cell (World.block_lt_of_cell? w _ hx280_1)).trans hx280_1
                           replace hx280_2 := (HB.out.cell (World.block_lt_of_cell? w _ hx280_2)).trans hx280_2
                           replace p280 := eq_true p280
                           replace q280 := eq_true q280
                           try go_wp2_with (first | ((with_reducible refine gate_dst (N := 14) rfl ?_); refine box_event ?hg (N := 14) ?hd (cs := #[.int .i64 0, .int .i64 0, .int .i64 0]) (t := 67) ?hr ?_; (case hd => rfl); (case hg => rfl); (case hr => first | (go_simp; done) | (go_simp; rfl)); intro gb281 hg w83 hbox hb; have BK281 := Aside0.mk hbox; have GW281 := ge_ HB hg; have GE281 := ge_ HB hg; have NB258_281 := nl_ BK258 hg; have NB281_258 := ng_ BK258 hg; have NB265_281 := nl_ BK265 hg; have NB281_265 := ng_ BK265 hg; replace HO_10 := rb_ HO_10 hb; replace HO_58 := rb_ HO_58 hb; replace HO_266000 := rb_ HO_266000 hb; replace HB := Aside0.mk (bt_ HB hb); replace BK258 := Aside0.mk (bb_ BK258 hb); replace BK265 := Aside0.mk (bb_ BK265 hb); clear hb hbox hg; have hnb84 := NB281_258.out; have hnc84 := NB258_281.out; have hnb85 := NB281_265.out; have hnc85 := NB265_281.out; have hcz86_0 := cz_ BK281 0 (.int .i64 0); have hcz86_1 := cz_ BK281 1 (.int .i64 0); have hcz86_2 := cz_ BK281 2 (.int .i64 0); have hfz86_0 := blk_frozen BK281.out 0; have hfz86_1 := blk_frozen BK281.out 1; have hfz86_2 := blk_frozen BK281.out 2))
                           have n0_ : Aside0 (Kd.R (Kd.int .i64) 3 (((w83.setCell ⟨gb281, 0, none⟩ (.int .i64 ((rd_T67 l0_1 x67_4).f0))).setCell ⟨gb281, 1, none⟩ (.int .i64 ((rd_T67 l0_1 x67_4).f1))).setCell ⟨gb281, 2, none⟩ (.int .i64 ((rd_T67 l0_1 x67_4).f2))) w.heap.size (fun k_ => some k_ ≠ (.slice (some ad279) t273.length co50 : Value).ownBlock ∧ some k_ ≠ (.slice Ao28 t262.length co28 : Value).ownBlock) (.slice (some ⟨go49, 0, none⟩) x10_4.length co49) x10_4) := ⟨by (with_reducible repeat (first | apply Kd.R_alloc | apply Kd.R_drewN | apply Kd.R_drew)); exact Kd.R_mono (Kd.R_far (p := ⟨gb281, 2, none⟩) (Kd.R_far (p := ⟨gb281, 1, none⟩) (Kd.R_far (p := ⟨gb281, 0, none⟩) (Kd.R_types HO_10.out BK281.out (by decide)) (fun _ hk => hk.2) (.int .i64 ((rd_T67 l0_1 x67_4).f0))) (fun _ hk => hk.2) (.int .i64 ((rd_T67 l0_1 x67_4).f1))) (fun _ hk => hk.2) (.int .i64 ((rd_T67 l0_1 x67_4).f2))) (fun _ hk => by first | exact ⟨hk.1.1, hk.1.2⟩ | grind)⟩
                           have n1_ : Aside0 (Kd.R (Kd.int .i64) 3 (((w83.setCell ⟨gb281, 0, none⟩ (.int .i64 ((rd_T67 l0_1 x67_4).f0))).setCell ⟨gb281, 1, none⟩ (.int .i64 ((rd_T67 l0_1 x67_4).f1))).setCell ⟨gb281, 2, none⟩ (.int .i64 ((rd_T67 l0_1 x67_4).f2))) w.heap.size (fun k_ => some k_ ≠ (.slice (some ⟨go49, 0, none⟩) x10_4.length co49 : Value).ownBlock ∧ some k_ ≠ (.slice Ao28 t262.length co28 : Value).ownBlock) (.slice (some ad279) t273.length co50) t273) := ⟨by (with_reducible repeat (first | apply Kd.R_alloc | apply Kd.R_drewN | apply Kd.R_drew)); exact Kd.R_mono (Kd.R_far (p := ⟨gb281, 2, none⟩) (Kd.R_far (p := ⟨gb281, 1, none⟩) (Kd.R_far (p := ⟨gb281, 0, none⟩) (Kd.R_types HO_58.out BK281.out (by decide)) (fun _ hk => hk.2) (.int .i64 ((rd_T67 l0_1 x67_4).f0))) (fun _ hk => hk.2) (.int .i64 ((rd_T67 l0_1 x67_4).f1))) (fun _ hk => hk.2) (.int .i64 ((rd_T67 l0_1 x67_4).f2))) (fun _ hk => by first | exact ⟨hk.1.1, hk.1.2⟩ | grind)⟩
                           have n2_ : Aside0 (Kd.R (Kd.int .i64) 3 (((w83.setCell ⟨gb281, 0, none⟩ (.int .i64 ((rd_T67 l0_1 x67_4).f0))).setCell ⟨gb281, 1, none⟩ (.int .i64 ((rd_T67 l0_1 x67_4).f1))).setCell ⟨gb281, 2, none⟩ (.int .i64 ((rd_T67 l0_1 x67_4).f2))) w.heap.size (fun k_ => some k_ ≠ (.slice (some ⟨go49, 0, none⟩) x10_4.length co49 : Value).ownBlock ∧ some k_ ≠ (.slice (some ad279) t273.length co50 : Value).ownBlock) (.slice Ao28 t262.length co28) t262) := ⟨by (with_reducible repeat (first | apply Kd.R_alloc | apply Kd.R_drewN | apply Kd.R_drew)); exact Kd.R_mono (Kd.R_far (p := ⟨gb281, 2, none⟩) (Kd.R_far (p := ⟨gb281, 1, none⟩) (Kd.R_far (p := ⟨gb281, 0, none⟩) (Kd.R_types HO_266000.out BK281.out (by decide)) (fun _ hk => hk.2) (.int .i64 ((rd_T67 l0_1 x67_4).f0))) (fun _ hk => hk.2) (.int .i64 ((rd_T67 l0_1 x67_4).f1))) (fun _ hk => hk.2) (.int .i64 ((rd_T67 l0_1 x67_4).f2))) (fun _ hk => by first | exact ⟨hk.1.1, hk.1.2⟩ | grind)⟩
                           have n3_ : Aside0 ((((w83.setCell ⟨gb281, 0, none⟩ (.int .i64 ((rd_T67 l0_1 x67_4).f0))).setCell ⟨gb281, 1, none⟩ (.int .i64 ((rd_T67 l0_1 x67_4).f1))).setCell ⟨gb281, 2, none⟩ (.int .i64 ((rd_T67 l0_1 x67_4).f2))).heap[gb258]? = some (.cells #[.int .i64 a0_0, .slice (some ad280) l0_1.length c0_1] 30 (0, 0))) := ⟨by (with_reducible repeat (first | refine blk_drewN ?_ _ | refine blk_drew ?_ | refine blk_alloc ?_ _)); refine blk_far ?_ NB258_281.out _; (with_reducible repeat (first | refine blk_drewN ?_ _ | refine blk_drew ?_ | refine blk_alloc ?_ _)); refine blk_far ?_ NB258_281.out _; (with_reducible repeat (first | refine blk_drewN ?_ _ | refine blk_drew ?_ | refine blk_alloc ?_ _)); refine blk_far ?_ NB258_281.out _; (with_reducible repeat (first | refine blk_drewN ?_ _ | refine blk_drew ?_ | refine blk_alloc ?_ _)); exact BK258.out⟩
                           have n4_ : Aside0 ((((w83.setCell ⟨gb281, 0, none⟩ (.int .i64 ((rd_T67 l0_1 x67_4).f0))).setCell ⟨gb281, 1, none⟩ (.int .i64 ((rd_T67 l0_1 x67_4).f1))).setCell ⟨gb281, 2, none⟩ (.int .i64 ((rd_T67 l0_1 x67_4).f2))).heap[gb265]? = some (.cells #[.slice Ao28 t262.length co28] 25 (0, 0))) := ⟨by (with_reducible repeat (first | refine blk_drewN ?_ _ | refine blk_drew ?_ | refine blk_alloc ?_ _)); refine blk_far ?_ NB265_281.out _; (with_reducible repeat (first | refine blk_drewN ?_ _ | refine blk_drew ?_ | refine blk_alloc ?_ _)); refine blk_far ?_ NB265_281.out _; (with_reducible repeat (first | refine blk_drewN ?_ _ | refine blk_drew ?_ | refine blk_alloc ?_ _)); refine blk_far ?_ NB265_281.out _; (with_reducible repeat (first | refine blk_drewN ?_ _ | refine blk_drew ?_ | refine blk_alloc ?_ _)); exact BK265.out⟩
                           have n5_ : Aside0 ((((w83.setCell ⟨gb281, 0, none⟩ (.int .i64 ((rd_T67 l0_1 x67_4).f0))).setCell ⟨gb281, 1, none⟩ (.int .i64 ((rd_T67 l0_1 x67_4).f1))).setCell ⟨gb281, 2, none⟩ (.int .i64 ((rd_T67 l0_1 x67_4).f2))).heap[gb281]? = some (.cells #[.int .i64 ((rd_T67 l0_1 x67_4).f0), .int .i64 ((rd_T67 l0_1 x67_4).f1), .int .i64 ((rd_T67 l0_1 x67_4).f2)] 67 (0, 0))) := ⟨by (with_reducible repeat (first | refine blk_drewN ?_ _ | refine blk_drew ?_ | refine blk_alloc ?_ _)); refine blk_put (cs := #[.int .i64 ((rd_T67 l0_1 x67_4).f0), .int .i64 ((rd_T67 l0_1 x67_4).f1), .int .i64 0]) ?_ 2 _ rfl; (with_reducible repeat (first | refine blk_drewN ?_ _ | refine blk_drew ?_ | refine blk_alloc ?_ _)); refine blk_put (cs := #[.int .i64 ((rd_T67 l0_1 x67_4).f0), .int .i64 0, .int .i64 0]) ?_ 1 _ rfl; (with_reducible repeat (first | refine blk_drewN ?_ _ | refine blk_drew ?_ | refine blk_alloc ?_ _)); refine blk_put (cs := #[.int .i64 0, .int .i64 0, .int .i64 0]) ?_ 0 _ rfl; (with_reducible repeat (first | refine blk_drewN ?_ _ | refine blk_drew ?_ | refine blk_alloc ?_ _)); exact BK281.out⟩
                           have n6_ : Aside0 (Below w.heap.size w (((w83.setCell ⟨gb281, 0, none⟩ (.int .i64 ((rd_T67 l0_1 x67_4).f0))).setCell ⟨gb281, 1, none⟩ (.int .i64 ((rd_T67 l0_1 x67_4).f1))).setCell ⟨gb281, 2, none⟩ (.int .i64 ((rd_T67 l0_1 x67_4).f2)))) := ⟨by repeat (first | (with_reducible first | exact HB.out | apply below_alloc | apply pw_below_drewN | apply below_drew1 | refine below_set ?_ GE258.out | refine below_set ?_ GE265.out | refine below_set ?_ GE281.out) | exact HB.out)⟩
                           (try clear HO_10)
                           (try clear HO_58)
                           (try clear HO_266000)
                           (try clear BK258)
                           (try clear BK265)
                           (try clear BK281)
                           (try clear HB)
                           generalize (((w83.setCell ⟨gb281, 0, none⟩ (.int .i64 ((rd_T67 l0_1 x67_4).f0))).setCell ⟨gb281, 1, none⟩ (.int .i64 ((rd_T67 l0_1 x67_4).f1))).setCell ⟨gb281, 2, none⟩ (.int .i64 ((rd_T67 l0_1 x67_4).f2))) = w87 at n0_ n1_ n2_ n3_ n4_ n5_ n6_ ⊢
                           have HO_10 := n0_
                           have HO_58 := n1_
                           have HO_266000 := n2_
                           have BK258 := n3_
                           have BK265 := n4_
                           have BK281 := n5_
                           have HB := n6_
                           clear n0_ n1_ n2_ n3_ n4_ n5_ n6_
                           replace HO_10 := Aside0.mk (Kd.R_drew HO_10.out)
                           replace HO_58 := Aside0.mk (Kd.R_drew HO_58.out)
                           replace HO_266000 := Aside0.mk (Kd.R_drew HO_266000.out)
                           replace BK258 := Aside0.mk (blk_drew BK258.out)
                           replace BK265 := Aside0.mk (blk_drew BK265.out)
                           replace BK281 := Aside0.mk (blk_drew BK281.out)
                           replace HB := Aside0.mk (below_drew1 HB.out)
                           have p282 : 0 ≤ ((rd t273 x60_3) : Int) := of_decide_eq_true (by first | (with_reducible assumption) | assumption)
                           have q282 : (rd t273 x60_3) < (t262.length : Int) := of_decide_eq_true (by first | (with_reducible assumption) | assumption)
                           obtain ⟨ad282, e282, hx282_0⟩ := Kd.at_int (Kd.R_reads' HO_266000.out).2.2 (rd t273 x60_3) p282 q282
                           cases e282
                           replace p282 := eq_true p282
                           replace q282 := eq_true q282
                           have p283 : 0 ≤ (((rd_T67 l0_1 x67_4).f1) : Int) := of_decide_eq_true (by first | (with_reducible assumption) | assumption)
                           have q283 : ((rd_T67 l0_1 x67_4).f1) < (t262.length : Int) := of_decide_eq_true (by first | (with_reducible assumption) | assumption)
                           obtain ⟨ad283, e283, hx283_0⟩ := Kd.at_int (Kd.R_reads' HO_266000.out).2.2 ((rd_T67 l0_1 x67_4).f1) p283 q283
                           obtain rfl : ad282 = ad283 := (by injection e283)
                           replace p283 := eq_true p283
                           replace q283 := eq_true q283
                           refine start_ (n := 19) (S := fun w' => w'.cell? ⟨gb281, 0, none⟩ = some (.int .i64 ((rd_T67 l0_1 x67_4).f0)) ∧ w'.cell? ⟨gb281, 1, none⟩ = some (.int .i64 ((rd_T67 l0_1 x67_4).f1)) ∧ w'.cell? ⟨gb281, 2, none⟩ = some (.int .i64 ((rd_T67 l0_1 x67_4).f2)) ∧ w'.cell? ⟨gb265, 0, none⟩ = some (.slice (some ad282) t262.length co28) ∧ w'.cell? (ad282.add ((rd t273 x60_3)).toNat) = some (.int .i64 (rd t262 (rd t273 x60_3))) ∧ w'.cell? (ad282.add (((rd_T67 l0_1 x67_4).f1)).toNat) = some (.int .i64 (rd t262 ((rd_T67 l0_1 x67_4).f1)))) (ds := []) ba11_0 (by kernel_rfl) rfl rfl ⟨(blk_cell BK281.out 0).trans rfl, (blk_cell BK281.out 1).trans rfl, (blk_cell BK281.out 2).trans rfl, (blk_cell BK265.out 0).trans rfl, hx282_0, hx283_0⟩ (fun hHeld => ?_); refine with_tabW impl_CountWays.tab20 impl_CountWays.bits20 (fun HT_ HW_ => ?_)
                           generalize w87.drew = w88 at HO_10 HO_58 HO_266000 BK258 BK265 BK281 HB hx282_0 hx283_0 hHeld ⊢
                           refine pz_ 0 71 ba11_1 HT_ ?_
                           refine pz_ 2 73 ba11_2 HT_ ?_
                           refine pt_ 1 72 ba11_3 HT_ HW_ hHeld ?_
                           refine pz_ 3 74 ba11_4 HT_ ?_
                           refine pz_ 4 75 ba11_5 HT_ ?_
                           refine pz_ 6 77 ba11_6 HT_ ?_
                           refine pz_ 9 80 ba11_7 HT_ ?_
                           refine pz_ 13 84 ba11_8 HT_ ?_
                           refine pt_ 5 76 ba11_9 HT_ HW_ hHeld ?_
                           refine pz_ 7 78 ba11_10 HT_ ?_
                           refine pt_ 8 79 ba11_11 HT_ HW_ hHeld ?_
                           refine pt_ 10 81 ba11_12 HT_ HW_ hHeld ?_
                           refine pz_ 11 82 ba11_13 HT_ ?_
                           refine pt_ 12 83 ba11_14 HT_ HW_ hHeld ?_
                           refine pt_ 14 85 ba11_15 HT_ HW_ hHeld ?_
                           refine pz_ 15 86 ba11_16 HT_ ?_
                           refine pt_ 16 87 ba11_17 HT_ HW_ hHeld ?_
                           refine pz_ 17 88 ba11_18 HT_ ?_
                           refine pz_ 18 89 ba11_19 HT_ ?_
                           refine done_ (done_of HT_.out (by kernel_rfl)) ?_
                           try go_wp2
                           (try simp only [← hl10_4])
                           go_roundg k4
                           case measure => have := HJ3.out; have := HK2.out; have := HK3.out; have := HK4.out; omega
                           case rel => exact ⟨(x10_4), (wrap64 (x67_4 + 1)), (by first | rfl | (simp; done) | (simp [*]; done)), H', ⟨by have := HJ3.out; have := HK2.out; have := HK3.out; have := HK4.out; omega⟩, ⟨by (try simp only [hl10_3]); (try simp only [hl58_3]); (try simp only [hl10_4]); (with_reducible repeat (first | apply Kd.R_alloc | apply Kd.R_drewN | apply Kd.R_drew)); exact HO_10.out⟩, ⟨by (try simp only [hl10_3]); (try simp only [hl58_3]); (try simp only [hl10_4]); (with_reducible repeat (first | apply Kd.R_alloc | apply Kd.R_drewN | apply Kd.R_drew)); exact HO_58.out⟩, ⟨by (try simp only [hl10_3]); (try simp only [hl58_3]); (try simp only [hl10_4]); (with_reducible repeat (first | apply Kd.R_alloc | apply Kd.R_drewN | apply Kd.R_drew)); exact HO_266000.out⟩, ⟨by (try simp only [hl10_3]); (try simp only [hl58_3]); (try simp only [hl10_4]); (with_reducible repeat (first | refine blk_drewN ?_ _ | refine blk_drew ?_ | refine blk_alloc ?_ _)); exact BK258.out⟩, ⟨by (try simp only [hl10_3]); (try simp only [hl58_3]); (try simp only [hl10_4]); (with_reducible repeat (first | refine blk_drewN ?_ _ | refine blk_drew ?_ | refine blk_alloc ?_ _)); exact BK265.out⟩, ⟨by repeat (first | (with_reducible first | exact HB.out | apply below_alloc | apply pw_below_drewN | apply below_drew1 | refine below_set ?_ GE258.out | refine below_set ?_ GE265.out | refine below_set ?_ GE281.out) | exact HB.out)⟩⟩
                         ·rw [if_neg c70] at H
                          exact absurd H (by simp)
                        ·rw [if_neg c69] at H
                         exact absurd H (by simp)
                       ·rw [if_neg c68] at H
                        exact absurd H (by simp)
                      ·rw [if_neg c67] at H
                       exact absurd H (by simp)
                     ·rw [if_neg c66] at H
                      have c66b0 : (((rd_T67 l0_1 x67_4).f0) == (rd t273 x60_3)) = false := beq_eq_false_iff_ne.mpr c66
                      have c66b1 : (((rd_T67 l0_1 x67_4).f0) != (rd t273 x60_3)) = true := bne_iff_ne.mpr c66
                      have H' := Aside0.mk H
                      clear H
                      have p280 : 0 ≤ (x67_4 : Int) := of_decide_eq_true (by first | (with_reducible assumption) | assumption)
                      have q280 : x67_4 < (l0_1.length : Int) := of_decide_eq_true (by first | (with_reducible assumption) | assumption)
                      obtain ⟨ad280, e280, hx280_0, hx280_1, hx280_2⟩ := at_T67 HR0_1.out x67_4 p280 q280
                      cases e280
                      replace hx280_0 := (HB.out.cell (World.block_lt_of_cell? w _ hx280_0)).trans hx280_0
                      replace hx280_1 := (HB.out.cell (World.block_lt_of_cell? w _ hx280_1)).trans hx280_1
                      replace hx280_2 := (HB.out.cell (World.block_lt_of_cell? w _ hx280_2)).trans hx280_2
                      replace p280 := eq_true p280
                      replace q280 := eq_true q280
                      try go_wp2_with (first | ((with_reducible refine gate_dst (N := 14) rfl ?_); refine box_event ?hg (N := 14) ?hd (cs := #[.int .i64 0, .int .i64 0, .int .i64 0]) (t := 67) ?hr ?_; (case hd => rfl); (case hg => rfl); (case hr => first | (go_simp; done) | (go_simp; rfl)); intro gb281 hg w89 hbox hb; have BK281 := Aside0.mk hbox; have GW281 := ge_ HB hg; have GE281 := ge_ HB hg; have NB258_281 := nl_ BK258 hg; have NB281_258 := ng_ BK258 hg; have NB265_281 := nl_ BK265 hg; have NB281_265 := ng_ BK265 hg; replace HO_10 := rb_ HO_10 hb; replace HO_58 := rb_ HO_58 hb; replace HO_266000 := rb_ HO_266000 hb; replace HB := Aside0.mk (bt_ HB hb); replace BK258 := Aside0.mk (bb_ BK258 hb); replace BK265 := Aside0.mk (bb_ BK265 hb); clear hb hbox hg; have hnb90 := NB281_258.out; have hnc90 := NB258_281.out; have hnb91 := NB281_265.out; have hnc91 := NB265_281.out; have hcz92_0 := cz_ BK281 0 (.int .i64 0); have hcz92_1 := cz_ BK281 1 (.int .i64 0); have hcz92_2 := cz_ BK281 2 (.int .i64 0); have hfz92_0 := blk_frozen BK281.out 0; have hfz92_1 := blk_frozen BK281.out 1; have hfz92_2 := blk_frozen BK281.out 2))
                      have n0_ : Aside0 (Kd.R (Kd.int .i64) 3 (((w89.setCell ⟨gb281, 0, none⟩ (.int .i64 ((rd_T67 l0_1 x67_4).f0))).setCell ⟨gb281, 1, none⟩ (.int .i64 ((rd_T67 l0_1 x67_4).f1))).setCell ⟨gb281, 2, none⟩ (.int .i64 ((rd_T67 l0_1 x67_4).f2))) w.heap.size (fun k_ => some k_ ≠ (.slice (some ad279) t273.length co50 : Value).ownBlock ∧ some k_ ≠ (.slice Ao28 t262.length co28 : Value).ownBlock) (.slice (some ⟨go49, 0, none⟩) x10_4.length co49) x10_4) := ⟨by (with_reducible repeat (first | apply Kd.R_alloc | apply Kd.R_drewN | apply Kd.R_drew)); exact Kd.R_mono (Kd.R_far (p := ⟨gb281, 2, none⟩) (Kd.R_far (p := ⟨gb281, 1, none⟩) (Kd.R_far (p := ⟨gb281, 0, none⟩) (Kd.R_types HO_10.out BK281.out (by decide)) (fun _ hk => hk.2) (.int .i64 ((rd_T67 l0_1 x67_4).f0))) (fun _ hk => hk.2) (.int .i64 ((rd_T67 l0_1 x67_4).f1))) (fun _ hk => hk.2) (.int .i64 ((rd_T67 l0_1 x67_4).f2))) (fun _ hk => by first | exact ⟨hk.1.1, hk.1.2⟩ | grind)⟩
                      have n1_ : Aside0 (Kd.R (Kd.int .i64) 3 (((w89.setCell ⟨gb281, 0, none⟩ (.int .i64 ((rd_T67 l0_1 x67_4).f0))).setCell ⟨gb281, 1, none⟩ (.int .i64 ((rd_T67 l0_1 x67_4).f1))).setCell ⟨gb281, 2, none⟩ (.int .i64 ((rd_T67 l0_1 x67_4).f2))) w.heap.size (fun k_ => some k_ ≠ (.slice (some ⟨go49, 0, none⟩) x10_4.length co49 : Value).ownBlock ∧ some k_ ≠ (.slice Ao28 t262.length co28 : Value).ownBlock) (.slice (some ad279) t273.length co50) t273) := ⟨by (with_reducible repeat (first | apply Kd.R_alloc | apply Kd.R_drewN | apply Kd.R_drew)); exact Kd.R_mono (Kd.R_far (p := ⟨gb281, 2, none⟩) (Kd.R_far (p := ⟨gb281, 1, none⟩) (Kd.R_far (p := ⟨gb281, 0, none⟩) (Kd.R_types HO_58.out BK281.out (by decide)) (fun _ hk => hk.2) (.int .i64 ((rd_T67 l0_1 x67_4).f0))) (fun _ hk => hk.2) (.int .i64 ((rd_T67 l0_1 x67_4).f1))) (fun _ hk => hk.2) (.int .i64 ((rd_T67 l0_1 x67_4).f2))) (fun _ hk => by first | exact ⟨hk.1.1, hk.1.2⟩ | grind)⟩
                      have n2_ : Aside0 (Kd.R (Kd.int .i64) 3 (((w89.setCell ⟨gb281, 0, none⟩ (.int .i64 ((rd_T67 l0_1 x67_4).f0))).setCell ⟨gb281, 1, none⟩ (.int .i64 ((rd_T67 l0_1 x67_4).f1))).setCell ⟨gb281, 2, none⟩ (.int .i64 ((rd_T67 l0_1 x67_4).f2))) w.heap.size (fun k_ => some k_ ≠ (.slice (some ⟨go49, 0, none⟩) x10_4.length co49 : Value).ownBlock ∧ some k_ ≠ (.slice (some ad279) t273.length co50 : Value).ownBlock) (.slice Ao28 t262.length co28) t262) := ⟨by (with_reducible repeat (first | apply Kd.R_alloc | apply Kd.R_drewN | apply Kd.R_drew)); exact Kd.R_mono (Kd.R_far (p := ⟨gb281, 2, none⟩) (Kd.R_far (p := ⟨gb281, 1, none⟩) (Kd.R_far (p := ⟨gb281, 0, none⟩) (Kd.R_types HO_266000.out BK281.out (by decide)) (fun _ hk => hk.2) (.int .i64 ((rd_T67 l0_1 x67_4).f0))) (fun _ hk => hk.2) (.int .i64 ((rd_T67 l0_1 x67_4).f1))) (fun _ hk => hk.2) (.int .i64 ((rd_T67 l0_1 x67_4).f2))) (fun _ hk => by first | exact ⟨hk.1.1, hk.1.2⟩ | grind)⟩
                      have n3_ : Aside0 ((((w89.setCell ⟨gb281, 0, none⟩ (.int .i64 ((rd_T67 l0_1 x67_4).f0))).setCell ⟨gb281, 1, none⟩ (.int .i64 ((rd_T67 l0_1 x67_4).f1))).setCell ⟨gb281, 2, none⟩ (.int .i64 ((rd_T67 l0_1 x67_4).f2))).heap[gb258]? = some (.cells #[.int .i64 a0_0, .slice (some ad280) l0_1.length c0_1] 30 (0, 0))) := ⟨by (with_reducible repeat (first | refine blk_drewN ?_ _ | refine blk_drew ?_ | refine blk_alloc ?_ _)); refine blk_far ?_ NB258_281.out _; (with_reducible repeat (first | refine blk_drewN ?_ _ | refine blk_drew ?_ | refine blk_alloc ?_ _)); refine blk_far ?_ NB258_281.out _; (with_reducible repeat (first | refine blk_drewN ?_ _ | refine blk_drew ?_ | refine blk_alloc ?_ _)); refine blk_far ?_ NB258_281.out _; (with_reducible repeat (first | refine blk_drewN ?_ _ | refine blk_drew ?_ | refine blk_alloc ?_ _)); exact BK258.out⟩
                      have n4_ : Aside0 ((((w89.setCell ⟨gb281, 0, none⟩ (.int .i64 ((rd_T67 l0_1 x67_4).f0))).setCell ⟨gb281, 1, none⟩ (.int .i64 ((rd_T67 l0_1 x67_4).f1))).setCell ⟨gb281, 2, none⟩ (.int .i64 ((rd_T67 l0_1 x67_4).f2))).heap[gb265]? = some (.cells #[.slice Ao28 t262.length co28] 25 (0, 0))) := ⟨by (with_reducible repeat (first | refine blk_drewN ?_ _ | refine blk_drew ?_ | refine blk_alloc ?_ _)); refine blk_far ?_ NB265_281.out _; (with_reducible repeat (first | refine blk_drewN ?_ _ | refine blk_drew ?_ | refine blk_alloc ?_ _)); refine blk_far ?_ NB265_281.out _; (with_reducible repeat (first | refine blk_drewN ?_ _ | refine blk_drew ?_ | refine blk_alloc ?_ _)); refine blk_far ?_ NB265_281.out _; (with_reducible repeat (first | refine blk_drewN ?_ _ | refine blk_drew ?_ | refine blk_alloc ?_ _)); exact BK265.out⟩
                      have n5_ : Aside0 ((((w89.setCell ⟨gb281, 0, none⟩ (.int .i64 ((rd_T67 l0_1 x67_4).f0))).setCell ⟨gb281, 1, none⟩ (.int .i64 ((rd_T67 l0_1 x67_4).f1))).setCell ⟨gb281, 2, none⟩ (.int .i64 ((rd_T67 l0_1 x67_4).f2))).heap[gb281]? = some (.cells #[.int .i64 ((rd_T67 l0_1 x67_4).f0), .int .i64 ((rd_T67 l0_1 x67_4).f1), .int .i64 ((rd_T67 l0_1 x67_4).f2)] 67 (0, 0))) := ⟨by (with_reducible repeat (first | refine blk_drewN ?_ _ | refine blk_drew ?_ | refine blk_alloc ?_ _)); refine blk_put (cs := #[.int .i64 ((rd_T67 l0_1 x67_4).f0), .int .i64 ((rd_T67 l0_1 x67_4).f1), .int .i64 0]) ?_ 2 _ rfl; (with_reducible repeat (first | refine blk_drewN ?_ _ | refine blk_drew ?_ | refine blk_alloc ?_ _)); refine blk_put (cs := #[.int .i64 ((rd_T67 l0_1 x67_4).f0), .int .i64 0, .int .i64 0]) ?_ 1 _ rfl; (with_reducible repeat (first | refine blk_drewN ?_ _ | refine blk_drew ?_ | refine blk_alloc ?_ _)); refine blk_put (cs := #[.int .i64 0, .int .i64 0, .int .i64 0]) ?_ 0 _ rfl; (with_reducible repeat (first | refine blk_drewN ?_ _ | refine blk_drew ?_ | refine blk_alloc ?_ _)); exact BK281.out⟩
                      have n6_ : Aside0 (Below w.heap.size w (((w89.setCell ⟨gb281, 0, none⟩ (.int .i64 ((rd_T67 l0_1 x67_4).f0))).setCell ⟨gb281, 1, none⟩ (.int .i64 ((rd_T67 l0_1 x67_4).f1))).setCell ⟨gb281, 2, none⟩ (.int .i64 ((rd_T67 l0_1 x67_4).f2)))) := ⟨by repeat (first | (with_reducible first | exact HB.out | apply below_alloc | apply pw_below_drewN | apply below_drew1 | refine below_set ?_ GE258.out | refine below_set ?_ GE265.out | refine below_set ?_ GE281.out) | exact HB.out)⟩
                      (try clear HO_10)
                      (try clear HO_58)
                      (try clear HO_266000)
                      (try clear BK258)
                      (try clear BK265)
                      (try clear BK281)
                      (try clear HB)
                      generalize (((w89.setCell ⟨gb281, 0, none⟩ (.int .i64 ((rd_T67 l0_1 x67_4).f0))).setCell ⟨gb281, 1, none⟩ (.int .i64 ((rd_T67 l0_1 x67_4).f1))).setCell ⟨gb281, 2, none⟩ (.int .i64 ((rd_T67 l0_1 x67_4).f2))) = w93 at n0_ n1_ n2_ n3_ n4_ n5_ n6_ ⊢
                      have HO_10 := n0_
                      have HO_58 := n1_
                      have HO_266000 := n2_
                      have BK258 := n3_
                      have BK265 := n4_
                      have BK281 := n5_
                      have HB := n6_
                      clear n0_ n1_ n2_ n3_ n4_ n5_ n6_
                      replace HO_10 := Aside0.mk (Kd.R_drew HO_10.out)
                      replace HO_58 := Aside0.mk (Kd.R_drew HO_58.out)
                      replace HO_266000 := Aside0.mk (Kd.R_drew HO_266000.out)
                      replace BK258 := Aside0.mk (blk_drew BK258.out)
                      replace BK265 := Aside0.mk (blk_drew BK265.out)
                      replace BK281 := Aside0.mk (blk_drew BK281.out)
                      replace HB := Aside0.mk (below_drew1 HB.out)
                      refine start_ (n := 19) (S := fun w' => w'.cell? ⟨gb281, 0, none⟩ = some (.int .i64 ((rd_T67 l0_1 x67_4).f0)) ∧ w'.cell? ⟨gb281, 1, none⟩ = some (.int .i64 ((rd_T67 l0_1 x67_4).f1)) ∧ w'.cell? ⟨gb281, 2, none⟩ = some (.int .i64 ((rd_T67 l0_1 x67_4).f2))) (ds := []) ba11_0 (by kernel_rfl) rfl rfl ⟨(blk_cell BK281.out 0).trans rfl, (blk_cell BK281.out 1).trans rfl, (blk_cell BK281.out 2).trans rfl⟩ (fun hHeld => ?_); refine with_tabW impl_CountWays.tab20 impl_CountWays.bits20 (fun HT_ HW_ => ?_)
                      generalize w93.drew = w94 at HO_10 HO_58 HO_266000 BK258 BK265 BK281 HB hHeld ⊢
                      refine pz_ 0 71 ba11_1 HT_ ?_
                      refine pz_ 2 73 ba11_2 HT_ ?_
                      refine pt_ 1 72 ba11_3 HT_ HW_ hHeld ?_
                      refine pz_ 3 74 ba11_4 HT_ ?_
                      refine pz_ 4 75 ba11_5 HT_ ?_
                      refine pu_ 5 76 ba11_33 HT_ ?_
                      refine pu_ 6 77 ba11_34 HT_ ?_
                      refine pu_ 7 78 ba11_35 HT_ ?_
                      refine pu_ 8 79 ba11_36 HT_ ?_
                      refine pu_ 9 80 ba11_37 HT_ ?_
                      refine pu_ 10 81 ba11_38 HT_ ?_
                      refine pu_ 11 82 ba11_39 HT_ ?_
                      refine pu_ 12 83 ba11_40 HT_ ?_
                      refine pu_ 13 84 ba11_14 HT_ ?_
                      refine pu_ 14 85 ba11_15 HT_ ?_
                      refine pu_ 15 86 ba11_16 HT_ ?_
                      refine pu_ 16 87 ba11_17 HT_ ?_
                      refine pu_ 17 88 ba11_18 HT_ ?_
                      refine pz_ 18 89 ba11_19 HT_ ?_
                      refine done_ (done_of HT_.out (by kernel_rfl)) ?_
                      try go_wp2
                      (try simp only [← hl10_4])
                      go_roundg k4
                      case measure => have := HJ3.out; have := HK2.out; have := HK3.out; have := HK4.out; omega
                      case rel => exact ⟨(x10_4), (wrap64 (x67_4 + 1)), (by first | rfl | (simp; done) | (simp [*]; done)), H', ⟨by have := HJ3.out; have := HK2.out; have := HK3.out; have := HK4.out; omega⟩, ⟨by (try simp only [hl10_3]); (try simp only [hl58_3]); (try simp only [hl10_4]); (with_reducible repeat (first | apply Kd.R_alloc | apply Kd.R_drewN | apply Kd.R_drew)); exact HO_10.out⟩, ⟨by (try simp only [hl10_3]); (try simp only [hl58_3]); (try simp only [hl10_4]); (with_reducible repeat (first | apply Kd.R_alloc | apply Kd.R_drewN | apply Kd.R_drew)); exact HO_58.out⟩, ⟨by (try simp only [hl10_3]); (try simp only [hl58_3]); (try simp only [hl10_4]); (with_reducible repeat (first | apply Kd.R_alloc | apply Kd.R_drewN | apply Kd.R_drew)); exact HO_266000.out⟩, ⟨by (try simp only [hl10_3]); (try simp only [hl58_3]); (try simp only [hl10_4]); (with_reducible repeat (first | refine blk_drewN ?_ _ | refine blk_drew ?_ | refine blk_alloc ?_ _)); exact BK258.out⟩, ⟨by (try simp only [hl10_3]); (try simp only [hl58_3]); (try simp only [hl10_4]); (with_reducible repeat (first | refine blk_drewN ?_ _ | refine blk_drew ?_ | refine blk_alloc ?_ _)); exact BK265.out⟩, ⟨by repeat (first | (with_reducible first | exact HB.out | apply below_alloc | apply pw_below_drewN | apply below_drew1 | refine below_set ?_ GE258.out | refine below_set ?_ GE265.out | refine below_set ?_ GE281.out) | exact HB.out)⟩⟩
                    ·rw [if_neg c65] at H
                     exact absurd H (by simp)
                   ·rw [if_neg c64] at H
                    exact absurd H (by simp)
                  ·rw [if_neg c63] at H
                   have c63b0 : decide (x67_4 < (l0_1.length : Int)) = false := decide_eq_false c63
                   (try simp only [hl10_3] at c63b0)
                   (try simp only [hl58_3] at c63b0)
                   (try simp only [hl10_4] at c63b0)
                   clear c63
                   have H' := Aside0.mk H
                   clear H
                   go_wp2
                   (try simp only [← hl10_3, ← hl58_3, ← hl10_4])
                   go_roundg k4
                   case measure => have := HJ3.out; have := HK2.out; have := HK3.out; have := HK4.out; omega
                   case rel => exact ⟨(x10_4), (wrap64 (x60_3 + 1)), (by first | rfl | (simp; done) | (simp [*]; done)), H', ⟨by have := HJ3.out; have := HK2.out; have := HK3.out; have := HK4.out; omega⟩, ⟨by (try simp only [hl10_3]); (try simp only [hl58_3]); (try simp only [hl10_4]); (with_reducible repeat (first | apply Kd.R_alloc | apply Kd.R_drewN | apply Kd.R_drew)); exact HO_10.out⟩, ⟨by (try simp only [hl10_3]); (try simp only [hl58_3]); (try simp only [hl10_4]); (with_reducible repeat (first | apply Kd.R_alloc | apply Kd.R_drewN | apply Kd.R_drew)); exact HO_58.out⟩, ⟨by (try simp only [hl10_3]); (try simp only [hl58_3]); (try simp only [hl10_4]); (with_reducible repeat (first | apply Kd.R_alloc | apply Kd.R_drewN | apply Kd.R_drew)); exact HO_266000.out⟩, ⟨by (try simp only [hl10_3]); (try simp only [hl58_3]); (try simp only [hl10_4]); (with_reducible repeat (first | refine blk_drewN ?_ _ | refine blk_drew ?_ | refine blk_alloc ?_ _)); exact BK258.out⟩, ⟨by (try simp only [hl10_3]); (try simp only [hl58_3]); (try simp only [hl10_4]); (with_reducible repeat (first | refine blk_drewN ?_ _ | refine blk_drew ?_ | refine blk_alloc ?_ _)); exact BK265.out⟩, ⟨by repeat (first | (with_reducible first | exact HB.out | apply below_alloc | apply pw_below_drewN | apply below_drew1 | refine below_set ?_ GE258.out | refine below_set ?_ GE265.out) | exact HB.out)⟩⟩
               ·rw [if_neg c60] at H
                exact absurd H (by simp)
              ·rw [if_neg c59] at H
               exact absurd H (by simp)
             ·rw [if_neg c58] at H
              have c58b0 : decide (x60_3 < (x8_2.length : Int)) = false := decide_eq_false c58
              (try simp only [hl10_3] at c58b0)
              (try simp only [hl58_3] at c58b0)
              clear c58
              by_cases c95 : 0 ≤ a2
              ·rw [if_pos c95] at H
               have c95b0 : decide (0 ≤ a2) = true := decide_eq_true c95
               clear c95
               by_cases c96 : a2 < (x10_3.length : Int)
               ·rw [if_pos c96] at H
                have c96b0 : decide (a2 < (x10_3.length : Int)) = true := decide_eq_true c96
                clear c96
                obtain rfl := Option.some.inj H
                have p278 : 0 ≤ (a2 : Int) := of_decide_eq_true (by first | (with_reducible assumption) | assumption)
                have q278 : a2 < (x10_3.length : Int) := of_decide_eq_true (by first | (with_reducible assumption) | assumption)
                obtain ⟨ad278, e278, hx278_0⟩ := Kd.at_int (Kd.R_reads' HO_10.out).2.2 a2 p278 q278
                obtain rfl : (⟨go49, 0, none⟩ : Addr) = ad278 := (by injection e278)
                (first | simp only [add_plain] at hx278_0 | simp only [add_at] at hx278_0 | simp only [Addr.add, Nat.zero_add] at hx278_0 | skip)
                replace p278 := eq_true p278
                replace q278 := eq_true q278
                go_wp2
                go_ret
                exact ⟨by first | rfl | (simp [errW_none, errW_some] <;> rfl) | (simp [*, errW_none, errW_some] <;> rfl), by repeat (first | (with_reducible first | exact HB.out | apply below_alloc | apply pw_below_drewN | apply below_drew1 | refine below_set ?_ GE258.out | refine below_set ?_ GE265.out) | exact HB.out)⟩
               ·rw [if_neg c96] at H
                exact absurd H (by simp)
              ·rw [if_neg c95] at H
               exact absurd H (by simp)
          ·rw [if_neg c48] at H
           exact absurd H (by simp)
         ·rw [if_neg c47] at H
          exact absurd H (by simp)
        ·rw [if_neg c46] at H
         exact absurd H (by simp)
       ·rw [if_neg c45] at H
        exact absurd H (by simp)

end Go.Proofs.Yteopiggdpadolaa.QFnExactCountWays
