/- Contracts of functions that the law reaches: what each call returns and what it leaves in memory. Made by this session over the print of the kit. -/
import Derived.Test.YthmahcohcphljaaQFnExactSharesx0
import Derived.Test.YthmahcohcphljaaQFnExactSharesx7
import Derived.Test.YthmahcohcphljaaQFnExactSharesx8
import Derived.Test.YthmahcohcphljaaQFnExactSharesx9
import Derived.Test.YthmahcohcphljaaQFnExactSharesx11
import Derived.Test.YthmahcohcphljaaQFnExactSharesx12
namespace Go.Proofs.Ythmahcohcphljaa.QFnExactShares
open Go.RowKit Go.Proofs.YthmahcohcphljaaH.PrintWords Go.Proofs.YthmahcohcphljaaH.PrintLast Go.Proofs.YthmahcohcphljaaH.PrintMore
attribute [local go_sem] max2_int min2_int max_two min_two max_three min_three max_four min_four   -- for this text's walks alone
set_option linter.unusedVariables false
set_option linter.unusedSimpArgs false
abbrev tb13 : Bool := true
abbrev fb13 : Bool := false
def ba13_0 : Array Bool := #[fb13,fb13,fb13,fb13,fb13,fb13,fb13,fb13]
def ba13_1 : Array Bool := #[fb13,tb13,fb13,fb13,fb13,fb13,fb13,fb13]
def ba13_2 : Array Bool := #[tb13,tb13,fb13,fb13,fb13,fb13,fb13,fb13]
def ba13_3 : Array Bool := #[tb13,tb13,tb13,fb13,fb13,fb13,fb13,fb13]
def ba13_4 : Array Bool := #[tb13,tb13,tb13,tb13,fb13,fb13,fb13,fb13]
def ba13_5 : Array Bool := #[tb13,tb13,tb13,tb13,tb13,fb13,fb13,fb13]
def ba13_6 : Array Bool := #[tb13,tb13,tb13,tb13,tb13,tb13,fb13,fb13]
def ba13_7 : Array Bool := #[tb13,tb13,tb13,tb13,tb13,tb13,tb13,fb13]
def ba13_8 : Array Bool := #[tb13,tb13,tb13,tb13,tb13,tb13,tb13,tb13]
def ba13_9 : Array Bool := #[fb13,fb13,fb13,fb13,fb13,fb13,fb13,fb13,fb13,fb13,fb13,fb13,fb13]
def ba13_10 : Array Bool := #[tb13,fb13,fb13,fb13,fb13,fb13,fb13,fb13,fb13,fb13,fb13,fb13,fb13]
def ba13_11 : Array Bool := #[tb13,tb13,fb13,fb13,fb13,fb13,fb13,fb13,fb13,fb13,fb13,fb13,fb13]
def ba13_12 : Array Bool := #[tb13,tb13,tb13,fb13,fb13,fb13,fb13,fb13,fb13,fb13,fb13,fb13,fb13]
def ba13_13 : Array Bool := #[tb13,tb13,tb13,tb13,fb13,fb13,fb13,fb13,fb13,fb13,fb13,fb13,fb13]
def ba13_14 : Array Bool := #[tb13,tb13,tb13,tb13,tb13,fb13,fb13,fb13,fb13,fb13,fb13,fb13,fb13]
def ba13_15 : Array Bool := #[tb13,tb13,tb13,tb13,tb13,tb13,fb13,fb13,fb13,fb13,fb13,fb13,fb13]
def ba13_16 : Array Bool := #[tb13,tb13,tb13,tb13,tb13,tb13,tb13,fb13,fb13,fb13,fb13,fb13,fb13]
def ba13_17 : Array Bool := #[tb13,tb13,tb13,tb13,tb13,tb13,tb13,tb13,fb13,fb13,fb13,fb13,fb13]
def ba13_18 : Array Bool := #[tb13,tb13,tb13,tb13,tb13,tb13,tb13,tb13,tb13,fb13,fb13,fb13,fb13]
def ba13_19 : Array Bool := #[tb13,tb13,tb13,tb13,tb13,tb13,tb13,tb13,tb13,tb13,fb13,fb13,fb13]
def ba13_20 : Array Bool := #[tb13,tb13,tb13,tb13,tb13,tb13,tb13,tb13,tb13,tb13,tb13,fb13,fb13]
def ba13_21 : Array Bool := #[tb13,tb13,tb13,tb13,tb13,tb13,tb13,tb13,tb13,tb13,tb13,tb13,fb13]
def ba13_22 : Array Bool := #[tb13,tb13,tb13,tb13,tb13,tb13,tb13,tb13,tb13,tb13,tb13,tb13,tb13]
def ba13_23 : Array Bool := #[tb13,tb13,tb13,tb13,fb13,tb13,fb13,fb13,fb13,fb13,fb13,fb13,fb13]
def ba13_24 : Array Bool := #[fb13,fb13,fb13,fb13,fb13,fb13,fb13,fb13,fb13,fb13,fb13,fb13,fb13,fb13]
def ba13_25 : Array Bool := #[tb13,fb13,fb13,fb13,fb13,fb13,fb13,fb13,fb13,fb13,fb13,fb13,fb13,fb13]
def ba13_26 : Array Bool := #[tb13,tb13,fb13,fb13,fb13,fb13,fb13,fb13,fb13,fb13,fb13,fb13,fb13,fb13]
def ba13_27 : Array Bool := #[tb13,tb13,tb13,fb13,fb13,fb13,fb13,fb13,fb13,fb13,fb13,fb13,fb13,fb13]
def ba13_28 : Array Bool := #[tb13,tb13,tb13,fb13,tb13,fb13,fb13,fb13,fb13,fb13,fb13,fb13,fb13,fb13]
def ba13_29 : Array Bool := #[tb13,tb13,tb13,fb13,tb13,tb13,fb13,fb13,fb13,fb13,fb13,fb13,fb13,fb13]
def ba13_30 : Array Bool := #[tb13,tb13,tb13,fb13,tb13,tb13,tb13,fb13,fb13,fb13,fb13,fb13,fb13,fb13]
def ba13_31 : Array Bool := #[tb13,tb13,tb13,fb13,tb13,tb13,tb13,fb13,tb13,fb13,fb13,fb13,fb13,fb13]
def ba13_32 : Array Bool := #[tb13,tb13,tb13,fb13,tb13,tb13,tb13,fb13,tb13,tb13,fb13,fb13,fb13,fb13]
def ba13_33 : Array Bool := #[tb13,tb13,tb13,tb13,tb13,tb13,tb13,fb13,tb13,tb13,fb13,fb13,fb13,fb13]
def ba13_34 : Array Bool := #[tb13,tb13,tb13,tb13,tb13,tb13,tb13,tb13,tb13,tb13,fb13,fb13,fb13,fb13]
def ba13_35 : Array Bool := #[tb13,tb13,tb13,tb13,tb13,tb13,tb13,tb13,tb13,tb13,tb13,fb13,fb13,fb13]
def ba13_36 : Array Bool := #[tb13,tb13,tb13,tb13,tb13,tb13,tb13,tb13,tb13,tb13,tb13,tb13,fb13,fb13]
def ba13_37 : Array Bool := #[tb13,tb13,tb13,tb13,tb13,tb13,tb13,tb13,tb13,tb13,tb13,tb13,tb13,fb13]
def ba13_38 : Array Bool := #[tb13,tb13,tb13,tb13,tb13,tb13,tb13,tb13,tb13,tb13,tb13,tb13,tb13,tb13]

/-! ### impl_Shares: function 20 -/
mutual
def impl_Shares.j0 : Nat → Int → Int → Bool → Int → List (S76) → Int → Option (List Int)
 | 0, _, _, _, _, _, _ => none
 | k + 1, x1, x3, x37, x304000, x304001, x305000 => if x37 = true then (some ([] : List Int)) else ((impl_Graph_all.f k x304000 x304001).bind fun t309 => (if 0 ≤ x1 then (if x1 < (t309.length : Int) then (if 0 ≤ x305000 then (if x305000 < ((rd_L4 t309 x1).length : Int) then (if (rd (rd_L4 t309 x1) x305000) = 1000000 then (some ([] : List Int)) else (if 0 ≤ x304000 then (if (x304000 : Int).toNat ≤ 35184372088832 then ((some (List.replicate (x304000 : Int).toNat 0 : List Int)).bind fun y315 => (if x1 < (y315.length : Int) then (impl_Shares.l0 k (y315.set (x1 : Int).toNat x3) (([] : List Int)) x304000 0 x304000 x304001 x305000 t309) else (none))) else (none)) else (none))) else (none)) else (none)) else (none)) else (none)))
def impl_Shares.l0 : Nat → List Int → List Int → Int → Int → Int → List (S76) → Int → List (List Int) → Option (List Int)
 | 0, _, _, _, _, _, _, _, _ => none
 | k + 1, x10, x11, x57, x58, x304000, x304001, x305000, x313000 => if x58 < x57 then (if x58 = x305000 then (impl_Shares.l0 k x10 x11 x57 (wrap64 (x58 + 1)) x304000 x304001 x305000 x313000) else (if 0 ≤ x58 then (if x58 < (x313000.length : Int) then (if 0 ≤ x305000 then (if x305000 < ((rd_L4 x313000 x58).length : Int) then (if (rd (rd_L4 x313000 x58) x305000) < 1000000 then (if x11.length < 17592186044416 then (impl_Shares.l0 k x10 (x11 ++ [x58]) x57 (wrap64 (x58 + 1)) x304000 x304001 x305000 x313000) else (none)) else (impl_Shares.l0 k x10 x11 x57 (wrap64 (x58 + 1)) x304000 x304001 x305000 x313000)) else (none)) else (none)) else (none)) else (none))) else ((slices_SortFunc_int_int.f k x11 [x313000] [x305000]).bind fun t327 => (impl_Shares.l1 k x10 t327 (x11.length : Int) 0 x304000 x304001 x305000 x313000))
def impl_Shares.l1 : Nat → List Int → List Int → Int → Int → Int → List (S76) → Int → List (List Int) → Option (List Int)
 | 0, _, _, _, _, _, _, _, _ => none
 | k + 1, x10, x82, x83, x84, x304000, x304001, x305000, x313000 => if x84 < x83 then (if 0 ≤ x84 then (if x84 < (x82.length : Int) then ((impl_Graph_hopsTo.f k x304000 x304001 (rd x82 x84) x305000 x313000).bind fun t329 => (impl_Shares.l2 k x10 (rd x82 x84) t329 x82 x83 x84 t329 (t329.length : Int) 0 x304000 x304001 x305000 x313000)) else (none)) else (none)) else (some x10)
def impl_Shares.l2 : Nat → List Int → Int → List Int → List Int → Int → Int → List Int → Int → Int → Int → List (S76) → Int → List (List Int) → Option (List Int)
 | 0, _, _, _, _, _, _, _, _, _, _, _, _, _ => none
 | k + 1, x10, x14, x15, x82, x83, x84, x93, x94, x95, x304000, x304001, x305000, x313000 => if x95 < x94 then (if 0 ≤ x95 then (if x95 < (x93.length : Int) then (if 0 ≤ (rd x93 x95) then (if (rd x93 x95) < (x10.length : Int) then (if 0 ≤ x14 then (if x14 < (x10.length : Int) then (if (x15.length : Int) = 0 then (none) else ((some (x10.set ((rd x93 x95) : Int).toNat (wrap64 ((rd x10 (rd x93 x95)) + (wrap64 (Int.tdiv (rd x10 x14) (x15.length : Int))))) : List Int)).bind fun y335 => (if x95 < (Int.tmod (rd y335 x14) (x15.length : Int)) then (impl_Shares.l2 k (y335.set ((rd x93 x95) : Int).toNat (wrap64 ((wrap64 ((rd x10 (rd x93 x95)) + (wrap64 (Int.tdiv (rd x10 x14) (x15.length : Int))))) + 1))) x14 x15 x82 x83 x84 x93 x94 (wrap64 (x95 + 1)) x304000 x304001 x305000 x313000) else (impl_Shares.l2 k y335 x14 x15 x82 x83 x84 x93 x94 (wrap64 (x95 + 1)) x304000 x304001 x305000 x313000)))) else (none)) else (none)) else (none)) else (none)) else (none)) else (none)) else (impl_Shares.l1 k x10 x82 x83 (wrap64 (x84 + 1)) x304000 x304001 x305000 x313000)
end
def impl_Shares.f (k : Nat) (a0_0 : Int) (l0_1 : List (S76)) (a1 : Int) (a2 : Int) (a3 : Int) : Option (List Int) := (impl_GraphOk.f k a0_0 l0_1).bind fun t305 => (if t305 = true then ((impl_Graph_isNode.f a0_0 l0_1 a1).bind fun t306 => (if t306 = true then ((impl_Graph_isNode.f a0_0 l0_1 a2).bind fun t307 => (if t307 = true then ((impl_within.f a3 1 100000).bind fun t308 => (impl_Shares.j0 k a1 a3 (!t308) a0_0 l0_1 a2)) else (impl_Shares.j0 k a1 a3 true a0_0 l0_1 a2))) else (impl_Shares.j0 k a1 a3 true a0_0 l0_1 a2))) else (impl_Shares.j0 k a1 a3 true a0_0 l0_1 a2))
theorem impl_Shares.mono_l : ∀ k, (∀ y0 y1 y2 y3 y4 y5, LeO (impl_Shares.j0 k y0 y1 y2 y3 y4 y5) (impl_Shares.j0 (k + 1) y0 y1 y2 y3 y4 y5)) ∧ (∀ y0 y1 y2 y3 y4 y5 y6 y7, LeO (impl_Shares.l0 k y0 y1 y2 y3 y4 y5 y6 y7) (impl_Shares.l0 (k + 1) y0 y1 y2 y3 y4 y5 y6 y7)) ∧ (∀ y0 y1 y2 y3 y4 y5 y6 y7, LeO (impl_Shares.l1 k y0 y1 y2 y3 y4 y5 y6 y7) (impl_Shares.l1 (k + 1) y0 y1 y2 y3 y4 y5 y6 y7)) ∧ (∀ y0 y1 y2 y3 y4 y5 y6 y7 y8 y9 y10 y11 y12, LeO (impl_Shares.l2 k y0 y1 y2 y3 y4 y5 y6 y7 y8 y9 y10 y11 y12) (impl_Shares.l2 (k + 1) y0 y1 y2 y3 y4 y5 y6 y7 y8 y9 y10 y11 y12))
 | 0 => ⟨fun _ _ _ _ _ _ r h => by simp [impl_Shares.j0] at h, fun _ _ _ _ _ _ _ _ r h => by simp [impl_Shares.l0] at h, fun _ _ _ _ _ _ _ _ r h => by simp [impl_Shares.l1] at h, fun _ _ _ _ _ _ _ _ _ _ _ _ _ r h => by simp [impl_Shares.l2] at h⟩
 | k + 1 => by
  obtain ⟨ih0, ih1, ih2, ih3⟩ := impl_Shares.mono_l k
  refine ⟨?_, ?_, ?_, ?_⟩
  ·intro y0 y1 y2 y3 y4 y5
   unfold impl_Shares.j0
   repeat' first
   | (with_reducible exact ih0 _ _ _ _ _ _)
   | (with_reducible exact ih1 _ _ _ _ _ _ _ _)
   | (with_reducible exact ih2 _ _ _ _ _ _ _ _)
   | (with_reducible exact ih3 _ _ _ _ _ _ _ _ _ _ _ _ _)
   | (with_reducible exact impl_GraphOk.mono _ _ _)
   | (with_reducible exact impl_Graph_all.mono _ _ _)
   | (with_reducible exact impl_Graph_hopsTo.mono _ _ _ _ _ _)
   | (with_reducible exact slices_SortFunc_int_int.mono _ _ _ _)
   | (with_reducible exact LeO.refl _)
   | (with_reducible exact LeO.none _)
   | (with_reducible refine LeO.ite ?_ ?_)
   | (with_reducible refine LeO.bind ?_ (fun _ => ?_))
   | exact ih0 _ _ _ _ _ _
   | exact ih1 _ _ _ _ _ _ _ _
   | exact ih2 _ _ _ _ _ _ _ _
   | exact ih3 _ _ _ _ _ _ _ _ _ _ _ _ _
   | exact impl_GraphOk.mono _ _ _
   | exact impl_Graph_all.mono _ _ _
   | exact impl_Graph_hopsTo.mono _ _ _ _ _ _
   | exact slices_SortFunc_int_int.mono _ _ _ _
   | exact LeO.none _
   | refine LeO.ite ?_ ?_
   | refine LeO.bind ?_ (fun _ => ?_)
  ·intro y0 y1 y2 y3 y4 y5 y6 y7
   unfold impl_Shares.l0
   repeat' first
   | (with_reducible exact ih0 _ _ _ _ _ _)
   | (with_reducible exact ih1 _ _ _ _ _ _ _ _)
   | (with_reducible exact ih2 _ _ _ _ _ _ _ _)
   | (with_reducible exact ih3 _ _ _ _ _ _ _ _ _ _ _ _ _)
   | (with_reducible exact impl_GraphOk.mono _ _ _)
   | (with_reducible exact impl_Graph_all.mono _ _ _)
   | (with_reducible exact impl_Graph_hopsTo.mono _ _ _ _ _ _)
   | (with_reducible exact slices_SortFunc_int_int.mono _ _ _ _)
   | (with_reducible exact LeO.refl _)
   | (with_reducible exact LeO.none _)
   | (with_reducible refine LeO.ite ?_ ?_)
   | (with_reducible refine LeO.bind ?_ (fun _ => ?_))
   | exact ih0 _ _ _ _ _ _
   | exact ih1 _ _ _ _ _ _ _ _
   | exact ih2 _ _ _ _ _ _ _ _
   | exact ih3 _ _ _ _ _ _ _ _ _ _ _ _ _
   | exact impl_GraphOk.mono _ _ _
   | exact impl_Graph_all.mono _ _ _
   | exact impl_Graph_hopsTo.mono _ _ _ _ _ _
   | exact slices_SortFunc_int_int.mono _ _ _ _
   | exact LeO.none _
   | refine LeO.ite ?_ ?_
   | refine LeO.bind ?_ (fun _ => ?_)
  ·intro y0 y1 y2 y3 y4 y5 y6 y7
   unfold impl_Shares.l1
   repeat' first
   | (with_reducible exact ih0 _ _ _ _ _ _)
   | (with_reducible exact ih1 _ _ _ _ _ _ _ _)
   | (with_reducible exact ih2 _ _ _ _ _ _ _ _)
   | (with_reducible exact ih3 _ _ _ _ _ _ _ _ _ _ _ _ _)
   | (with_reducible exact impl_GraphOk.mono _ _ _)
   | (with_reducible exact impl_Graph_all.mono _ _ _)
   | (with_reducible exact impl_Graph_hopsTo.mono _ _ _ _ _ _)
   | (with_reducible exact slices_SortFunc_int_int.mono _ _ _ _)
   | (with_reducible exact LeO.refl _)
   | (with_reducible exact LeO.none _)
   | (with_reducible refine LeO.ite ?_ ?_)
   | (with_reducible refine LeO.bind ?_ (fun _ => ?_))
   | exact ih0 _ _ _ _ _ _
   | exact ih1 _ _ _ _ _ _ _ _
   | exact ih2 _ _ _ _ _ _ _ _
   | exact ih3 _ _ _ _ _ _ _ _ _ _ _ _ _
   | exact impl_GraphOk.mono _ _ _
   | exact impl_Graph_all.mono _ _ _
   | exact impl_Graph_hopsTo.mono _ _ _ _ _ _
   | exact slices_SortFunc_int_int.mono _ _ _ _
   | exact LeO.none _
   | refine LeO.ite ?_ ?_
   | refine LeO.bind ?_ (fun _ => ?_)
  ·intro y0 y1 y2 y3 y4 y5 y6 y7 y8 y9 y10 y11 y12
   unfold impl_Shares.l2
   repeat' first
   | (with_reducible exact ih0 _ _ _ _ _ _)
   | (with_reducible exact ih1 _ _ _ _ _ _ _ _)
   | (with_reducible exact ih2 _ _ _ _ _ _ _ _)
   | (with_reducible exact ih3 _ _ _ _ _ _ _ _ _ _ _ _ _)
   | (with_reducible exact impl_GraphOk.mono _ _ _)
   | (with_reducible exact impl_Graph_all.mono _ _ _)
   | (with_reducible exact impl_Graph_hopsTo.mono _ _ _ _ _ _)
   | (with_reducible exact slices_SortFunc_int_int.mono _ _ _ _)
   | (with_reducible exact LeO.refl _)
   | (with_reducible exact LeO.none _)
   | (with_reducible refine LeO.ite ?_ ?_)
   | (with_reducible refine LeO.bind ?_ (fun _ => ?_))
   | exact ih0 _ _ _ _ _ _
   | exact ih1 _ _ _ _ _ _ _ _
   | exact ih2 _ _ _ _ _ _ _ _
   | exact ih3 _ _ _ _ _ _ _ _ _ _ _ _ _
   | exact impl_GraphOk.mono _ _ _
   | exact impl_Graph_all.mono _ _ _
   | exact impl_Graph_hopsTo.mono _ _ _ _ _ _
   | exact slices_SortFunc_int_int.mono _ _ _ _
   | exact LeO.none _
   | refine LeO.ite ?_ ?_
   | refine LeO.bind ?_ (fun _ => ?_)
theorem impl_Shares.mono : ∀ a0 a1 a2 a3 a4 k, LeO (impl_Shares.f k a0 a1 a2 a3 a4) (impl_Shares.f (k + 1) a0 a1 a2 a3 a4) := by
 intro a0 a1 a2 a3 a4 k
 obtain ⟨ih0, ih1, ih2, ih3⟩ := impl_Shares.mono_l k
 unfold impl_Shares.f
 repeat' first
   | (with_reducible exact ih0 _ _ _ _ _ _)
   | (with_reducible exact ih1 _ _ _ _ _ _ _ _)
   | (with_reducible exact ih2 _ _ _ _ _ _ _ _)
   | (with_reducible exact ih3 _ _ _ _ _ _ _ _ _ _ _ _ _)
   | (with_reducible exact impl_GraphOk.mono _ _ _)
   | (with_reducible exact impl_Graph_all.mono _ _ _)
   | (with_reducible exact impl_Graph_hopsTo.mono _ _ _ _ _ _)
   | (with_reducible exact slices_SortFunc_int_int.mono _ _ _ _)
   | (with_reducible exact LeO.refl _)
   | (with_reducible exact LeO.none _)
   | (with_reducible refine LeO.ite ?_ ?_)
   | (with_reducible refine LeO.bind ?_ (fun _ => ?_))
   | exact ih0 _ _ _ _ _ _
   | exact ih1 _ _ _ _ _ _ _ _
   | exact ih2 _ _ _ _ _ _ _ _
   | exact ih3 _ _ _ _ _ _ _ _ _ _ _ _ _
   | exact impl_GraphOk.mono _ _ _
   | exact impl_Graph_all.mono _ _ _
   | exact impl_Graph_hopsTo.mono _ _ _ _ _ _
   | exact slices_SortFunc_int_int.mono _ _ _ _
   | exact LeO.none _
   | refine LeO.ite ?_ ?_
   | refine LeO.bind ?_ (fun _ => ?_)
def impl_Shares.T4 : Bool × List (List Nat × List Nat) := (true, [([], []), ([], []), ([0, 1], [0, 1]), ([2], [2]), ([], []), ([3, 4], [3, 4]), ([5], [5]), ([6], [6])])
def impl_Shares.B4 : List Nat := [0, 0, 3, 7, 0, 31, 63, 127]
theorem impl_Shares.tab4 : rtab .any (opsOf Try.f20 4) = impl_Shares.T4 := by kernel_rfl
theorem impl_Shares.bits4 : waitsOk impl_Shares.T4.2 impl_Shares.B4 = true := by kernel_rfl
def impl_Shares.T12 : Bool × List (List Nat × List Nat) := (true, [([], []), ([], []), ([0, 1], [0, 1]), ([2], [2]), ([3], [3]), ([3], [3]), ([4, 5, 3], [3, 4, 5]), ([6, 3], [3, 6]), ([3], [3]), ([7, 8, 3], [3, 7, 8]), ([9, 3], [3, 9]), ([10, 3], [3, 10]), ([3, 11], [3, 11])])
def impl_Shares.B12 : List Nat := [0, 0, 3, 7, 15, 15, 63, 127, 15, 511, 1023, 2047, 4095]
theorem impl_Shares.tab12 : rtab .any (opsOf Try.f20 12) = impl_Shares.T12 := by kernel_rfl
theorem impl_Shares.bits12 : waitsOk impl_Shares.T12.2 impl_Shares.B12 = true := by kernel_rfl
def impl_Shares.T23 : Bool × List (List Nat × List Nat) := (true, [([], []), ([], []), ([0, 1], [0, 1]), ([2], [2]), ([], []), ([], []), ([4, 5], [4, 5]), ([6], [6]), ([], []), ([8], [8]), ([7, 9], [7, 9]), ([3, 10], [3, 10]), ([0, 1, 0, 1, 2, 3, 4, 5, 6, 7, 8, 9, 10, 11], [0, 1]), ([12, 11, 0, 1, 2, 3, 4, 5, 6, 7, 8, 9, 10, 11], [11, 12])])
def impl_Shares.B23 : List Nat := [0, 0, 3, 7, 0, 0, 48, 112, 0, 256, 1008, 2047, 4095, 8191]
theorem impl_Shares.tab23 : rtab .any (opsOf Try.f20 23) = impl_Shares.T23 := by kernel_rfl
theorem impl_Shares.bits23 : waitsOk impl_Shares.T23.2 impl_Shares.B23 = true := by kernel_rfl
set_option maxHeartbeats 8000000 in
set_option maxRecDepth 100000 in
theorem impl_Shares.calls (k : Nat) (a0_0 : Int) (A0_1 : Option Addr) (c0_1 : Nat) (l0_1 : List (S76)) (a1 : Int) (a2 : Int) (a3 : Int) (r : List Int) (w : World) (hr0_1 : Kd.C k76 w A0_1 l0_1.length l0_1) (hc0_1 : l0_1.length ≤ c0_1) (h : impl_Shares.f k a0_0 l0_1 a1 a2 a3 = some r) :
  Calls Try.prog 20 #[.agg #[.int .i64 a0_0, .slice A0_1 l0_1.length c0_1], .int .i64 a1, .int .i64 a2, .int .i64 a3] w fun e w' => ∃ v0_ : Value, e = .returned (v0_) ∧ Kd.R (Kd.int .i64) 3 w' w.heap.size (fun _ => True) v0_ r ∧ Below w.heap.size w w' := by
 have hu30 := Try.underlying30
 have HR0_1 := Aside0.mk hr0_1
 have HC0_1 := Aside0.mk hc0_1
 clear hr0_1 hc0_1
 have HB := Aside0.mk (Below.refl w.heap.size w)
 have H : ((impl_GraphOk.f k a0_0 l0_1).bind fun t305 => (if t305 = true then ((impl_Graph_isNode.f a0_0 l0_1 a1).bind fun t306 => (if t306 = true then ((impl_Graph_isNode.f a0_0 l0_1 a2).bind fun t307 => (if t307 = true then ((impl_within.f a3 1 100000).bind fun t308 => (impl_Shares.j0 k a1 a3 (!t308) a0_0 l0_1 a2)) else (impl_Shares.j0 k a1 a3 true a0_0 l0_1 a2))) else (impl_Shares.j0 k a1 a3 true a0_0 l0_1 a2))) else (impl_Shares.j0 k a1 a3 true a0_0 l0_1 a2))) = some r := h
 clear h
 have HC5 := Aside0.mk H
 clear H
 go_enter Try.func20, Try.ntmps20
 go_upto_region 1 with (first | ((with_reducible refine gate_dst (N := 4) rfl ?_); refine box_event ?hg (N := 4) ?hd (cs := #[.int .i64 a0_0, .slice A0_1 l0_1.length c0_1]) (t := 30) ?hr ?_; (case hd => rfl); (case hg => rfl); (case hr => first | (go_simp; done) | (go_simp; rfl)); intro gb303 hg w6 hbox hb; have BK303 := Aside0.mk hbox; have GW303 := ge_ HB hg; have GE303 := ge_ HB hg; replace HB := Aside0.mk (bt_ HB hb); clear hb hbox hg) | ((with_reducible refine gate_dst (N := 6) rfl ?_); refine box_event ?hg (N := 6) ?hd (cs := #[.int .i64 a2]) (t := 3) ?hr ?_; (case hd => rfl); (case hg => rfl); (case hr => first | (go_simp; done) | (go_simp; rfl)); intro gb304 hg w7 hbox hb; have BK304 := Aside0.mk hbox; have GW304 := ge_ HB hg; have GE304 := ge_ HB hg; have NB303_304 := nl_ BK303 hg; have NB304_303 := ng_ BK303 hg; replace HB := Aside0.mk (bt_ HB hb); replace BK303 := Aside0.mk (bb_ BK303 hb); clear hb hbox hg))
 (try simp only [Act.put, List.setIfInBounds_toArray, List.set_cons_zero, List.set_cons_succ])
 go_cut [37] (fun v37 wc => ∃ (kq : Nat) (x37_4 : Bool), v37 = .bool x37_4 ∧ Aside0 (impl_Shares.j0 kq a1 a3 x37_4 a0_0 l0_1 a2 = some r) ∧ Aside0 (kq ≤ k) ∧ Aside0 (wc.heap[gb303]? = some (.cells #[.int .i64 a0_0, (.slice A0_1 l0_1.length c0_1)] 30 (0, 0))) ∧ Aside0 (wc.heap[gb304]? = some (.cells #[.int .i64 a2] 3 (0, 0))) ∧ Aside0 (Below w.heap.size w wc))
 case first =>
  have H := HC5.out
  clear HC5
  replace H := Option.bind_eq_some_iff.mp H
  obtain ⟨t305, A80, H⟩ := H
  have A8 := Aside0.mk A80
  clear A80
  by_cases c9 : t305 = true
  rotate_left
  ·replace c9 := Bool.eq_false_iff.mpr c9
   subst c9
   rw [if_neg (show ¬ (false = true) by decide)] at H
   have H' := Aside0.mk H
   clear H
   have hnb36 := NB303_304.out
   have hnc36 := NB304_303.out
   have hcz37_0 := cz_ BK303 0 (.int .i64 a0_0)
   have hcz37_1 := cz_ BK303 1 (.slice A0_1 l0_1.length c0_1)
   have hfz37_0 := blk_frozen BK303.out 0
   have hfz37_1 := blk_frozen BK303.out 1
   go_wp2_with (first | ((with_reducible refine gate_callee (f := 47) rfl ?_); refine gl_ (some 19) Try.func47 #[.agg #[.int .i64 a0_0, .slice A0_1 l0_1.length c0_1]] ?_; (with_reducible refine (impl_GraphOk.calls k a0_0 _ _ l0_1 false _ ?side1 ?side2 A8.out).mono ?_); (case side1 => exact cb_ HR0_1 HB); (case side2 => exact HC0_1.out); rintro e w38 ⟨rfl, hb⟩; refine ⟨_, rfl, ?_⟩; replace BK303 := Aside0.mk (bb_ BK303 hb); replace BK304 := Aside0.mk (bb_ BK304 hb); replace HB := Aside0.mk (bt_ HB hb); (try clear hb); (try clear hb2); (try clear hk); (try clear hi)))
   go_meet
   case rel => exact ⟨_, (true), (by first | rfl | (simp; done) | (simp [*]; done)), H', ⟨by first | omega | exact Nat.le_refl _⟩, ⟨by (with_reducible repeat (first | refine blk_drewN ?_ _ | refine blk_drew ?_ | refine blk_alloc ?_ _)); exact BK303.out⟩, ⟨by (with_reducible repeat (first | refine blk_drewN ?_ _ | refine blk_drew ?_ | refine blk_alloc ?_ _)); exact BK304.out⟩, ⟨by repeat (first | (with_reducible first | exact HB.out | apply below_alloc | apply pw_below_drewN | apply below_drew1 | refine below_set ?_ GE303.out | refine below_set ?_ GE304.out) | exact HB.out)⟩⟩
  subst c9
  rw [if_pos rfl] at H
  replace H := Option.bind_eq_some_iff.mp H
  obtain ⟨t306, A100, H⟩ := H
  have A10 := Aside0.mk A100
  clear A100
  by_cases c11 : t306 = true
  rotate_left
  ·replace c11 := Bool.eq_false_iff.mpr c11
   subst c11
   rw [if_neg (show ¬ (false = true) by decide)] at H
   have H' := Aside0.mk H
   clear H
   have hnb31 := NB303_304.out
   have hnc31 := NB304_303.out
   have hcz32_0 := cz_ BK303 0 (.int .i64 a0_0)
   have hcz32_1 := cz_ BK303 1 (.slice A0_1 l0_1.length c0_1)
   have hfz32_0 := blk_frozen BK303.out 0
   have hfz32_1 := blk_frozen BK303.out 1
   go_wp2_with (first | ((with_reducible refine gate_callee (f := 47) rfl ?_); refine gl_ (some 19) Try.func47 #[.agg #[.int .i64 a0_0, .slice A0_1 l0_1.length c0_1]] ?_; (with_reducible refine (impl_GraphOk.calls k a0_0 _ _ l0_1 true _ ?side1 ?side2 A8.out).mono ?_); (case side1 => exact cb_ HR0_1 HB); (case side2 => exact HC0_1.out); rintro e w33 ⟨rfl, hb⟩; refine ⟨_, rfl, ?_⟩; replace BK303 := Aside0.mk (bb_ BK303 hb); replace BK304 := Aside0.mk (bb_ BK304 hb); replace HB := Aside0.mk (bt_ HB hb); (try clear hb); (try clear hb2); (try clear hk); (try clear hi); have hcz34_0 := cz_ BK303 0 (.int .i64 a0_0); have hcz34_1 := cz_ BK303 1 (.slice A0_1 l0_1.length c0_1); have hfz34_0 := blk_frozen BK303.out 0; have hfz34_1 := blk_frozen BK303.out 1) | (go_at_call 48; (with_reducible refine (impl_Graph_isNode.calls a0_0 _ _ l0_1 a1 false _ ?side1 ?side2 A10.out).mono ?_); (case side1 => exact cb_ HR0_1 HB); (case side2 => exact HC0_1.out); rintro e w35 ⟨rfl, hb⟩; replace BK303 := Aside0.mk (bb_ BK303 hb); replace BK304 := Aside0.mk (bb_ BK304 hb); replace HB := Aside0.mk (bt_ HB hb); (try clear hb); (try clear hb2); (try clear hk); (try clear hi)))
   go_meet
   case rel => exact ⟨_, (true), (by first | rfl | (simp; done) | (simp [*]; done)), H', ⟨by first | omega | exact Nat.le_refl _⟩, ⟨by (with_reducible repeat (first | refine blk_drewN ?_ _ | refine blk_drew ?_ | refine blk_alloc ?_ _)); exact BK303.out⟩, ⟨by (with_reducible repeat (first | refine blk_drewN ?_ _ | refine blk_drew ?_ | refine blk_alloc ?_ _)); exact BK304.out⟩, ⟨by repeat (first | (with_reducible first | exact HB.out | apply below_alloc | apply pw_below_drewN | apply below_drew1 | refine below_set ?_ GE303.out | refine below_set ?_ GE304.out) | exact HB.out)⟩⟩
  subst c11
  rw [if_pos rfl] at H
  replace H := Option.bind_eq_some_iff.mp H
  obtain ⟨t307, A120, H⟩ := H
  have A12 := Aside0.mk A120
  clear A120
  by_cases c13 : t307 = true
  rotate_left
  ·replace c13 := Bool.eq_false_iff.mpr c13
   subst c13
   rw [if_neg (show ¬ (false = true) by decide)] at H
   have H' := Aside0.mk H
   clear H
   have hnb23 := NB303_304.out
   have hnc23 := NB304_303.out
   have hcz24_0 := cz_ BK303 0 (.int .i64 a0_0)
   have hcz24_1 := cz_ BK303 1 (.slice A0_1 l0_1.length c0_1)
   have hfz24_0 := blk_frozen BK303.out 0
   have hfz24_1 := blk_frozen BK303.out 1
   go_wp2_with (first | ((with_reducible refine gate_callee (f := 47) rfl ?_); refine gl_ (some 19) Try.func47 #[.agg #[.int .i64 a0_0, .slice A0_1 l0_1.length c0_1]] ?_; (with_reducible refine (impl_GraphOk.calls k a0_0 _ _ l0_1 true _ ?side1 ?side2 A8.out).mono ?_); (case side1 => exact cb_ HR0_1 HB); (case side2 => exact HC0_1.out); rintro e w25 ⟨rfl, hb⟩; refine ⟨_, rfl, ?_⟩; replace BK303 := Aside0.mk (bb_ BK303 hb); replace BK304 := Aside0.mk (bb_ BK304 hb); replace HB := Aside0.mk (bt_ HB hb); (try clear hb); (try clear hb2); (try clear hk); (try clear hi); have hcz26_0 := cz_ BK303 0 (.int .i64 a0_0); have hcz26_1 := cz_ BK303 1 (.slice A0_1 l0_1.length c0_1); have hfz26_0 := blk_frozen BK303.out 0; have hfz26_1 := blk_frozen BK303.out 1) | (go_at_call 48; (with_reducible refine (impl_Graph_isNode.calls a0_0 _ _ l0_1 a1 true _ ?side1 ?side2 A10.out).mono ?_); (case side1 => exact cb_ HR0_1 HB); (case side2 => exact HC0_1.out); rintro e w27 ⟨rfl, hb⟩; replace BK303 := Aside0.mk (bb_ BK303 hb); replace BK304 := Aside0.mk (bb_ BK304 hb); replace HB := Aside0.mk (bt_ HB hb); (try clear hb); (try clear hb2); (try clear hk); (try clear hi); have hcz28_0 := cz_ BK303 0 (.int .i64 a0_0); have hcz28_1 := cz_ BK303 1 (.slice A0_1 l0_1.length c0_1); have hfz28_0 := blk_frozen BK303.out 0; have hfz28_1 := blk_frozen BK303.out 1; have hcz29_0 := cz_ BK304 0 (.int .i64 a2); have hfz29_0 := blk_frozen BK304.out 0) | (go_at_call 48; (with_reducible refine (impl_Graph_isNode.calls a0_0 _ _ l0_1 a2 false _ ?side1 ?side2 A12.out).mono ?_); (case side1 => exact cb_ HR0_1 HB); (case side2 => exact HC0_1.out); rintro e w30 ⟨rfl, hb⟩; replace BK303 := Aside0.mk (bb_ BK303 hb); replace BK304 := Aside0.mk (bb_ BK304 hb); replace HB := Aside0.mk (bt_ HB hb); (try clear hb); (try clear hb2); (try clear hk); (try clear hi)))
   go_meet
   case rel => exact ⟨_, (true), (by first | rfl | (simp; done) | (simp [*]; done)), H', ⟨by first | omega | exact Nat.le_refl _⟩, ⟨by (with_reducible repeat (first | refine blk_drewN ?_ _ | refine blk_drew ?_ | refine blk_alloc ?_ _)); exact BK303.out⟩, ⟨by (with_reducible repeat (first | refine blk_drewN ?_ _ | refine blk_drew ?_ | refine blk_alloc ?_ _)); exact BK304.out⟩, ⟨by repeat (first | (with_reducible first | exact HB.out | apply below_alloc | apply pw_below_drewN | apply below_drew1 | refine below_set ?_ GE303.out | refine below_set ?_ GE304.out) | exact HB.out)⟩⟩
  subst c13
  rw [if_pos rfl] at H
  replace H := Option.bind_eq_some_iff.mp H
  obtain ⟨t308, A140, H⟩ := H
  have A14 := Aside0.mk A140
  clear A140
  have H' := Aside0.mk H
  clear H
  have hnb15 := NB303_304.out
  have hnc15 := NB304_303.out
  have hcz16_0 := cz_ BK303 0 (.int .i64 a0_0)
  have hcz16_1 := cz_ BK303 1 (.slice A0_1 l0_1.length c0_1)
  have hfz16_0 := blk_frozen BK303.out 0
  have hfz16_1 := blk_frozen BK303.out 1
  go_wp2_with (first | ((with_reducible refine gate_callee (f := 47) rfl ?_); refine gl_ (some 19) Try.func47 #[.agg #[.int .i64 a0_0, .slice A0_1 l0_1.length c0_1]] ?_; (with_reducible refine (impl_GraphOk.calls k a0_0 _ _ l0_1 true _ ?side1 ?side2 A8.out).mono ?_); (case side1 => exact cb_ HR0_1 HB); (case side2 => exact HC0_1.out); rintro e w17 ⟨rfl, hb⟩; refine ⟨_, rfl, ?_⟩; replace BK303 := Aside0.mk (bb_ BK303 hb); replace BK304 := Aside0.mk (bb_ BK304 hb); replace HB := Aside0.mk (bt_ HB hb); (try clear hb); (try clear hb2); (try clear hk); (try clear hi); have hcz18_0 := cz_ BK303 0 (.int .i64 a0_0); have hcz18_1 := cz_ BK303 1 (.slice A0_1 l0_1.length c0_1); have hfz18_0 := blk_frozen BK303.out 0; have hfz18_1 := blk_frozen BK303.out 1) | (go_at_call 48; (with_reducible refine (impl_Graph_isNode.calls a0_0 _ _ l0_1 a1 true _ ?side1 ?side2 A10.out).mono ?_); (case side1 => exact cb_ HR0_1 HB); (case side2 => exact HC0_1.out); rintro e w19 ⟨rfl, hb⟩; replace BK303 := Aside0.mk (bb_ BK303 hb); replace BK304 := Aside0.mk (bb_ BK304 hb); replace HB := Aside0.mk (bt_ HB hb); (try clear hb); (try clear hb2); (try clear hk); (try clear hi); have hcz20_0 := cz_ BK303 0 (.int .i64 a0_0); have hcz20_1 := cz_ BK303 1 (.slice A0_1 l0_1.length c0_1); have hfz20_0 := blk_frozen BK303.out 0; have hfz20_1 := blk_frozen BK303.out 1; have hcz21_0 := cz_ BK304 0 (.int .i64 a2); have hfz21_0 := blk_frozen BK304.out 0) | (go_at_call 48; (with_reducible refine (impl_Graph_isNode.calls a0_0 _ _ l0_1 a2 true _ ?side1 ?side2 A12.out).mono ?_); (case side1 => exact cb_ HR0_1 HB); (case side2 => exact HC0_1.out); rintro e w22 ⟨rfl, hb⟩; replace BK303 := Aside0.mk (bb_ BK303 hb); replace BK304 := Aside0.mk (bb_ BK304 hb); replace HB := Aside0.mk (bt_ HB hb); (try clear hb); (try clear hb2); (try clear hk); (try clear hi)) | (go_at_call 54; (with_reducible refine (impl_within.calls a3 1 100000 t308 _ A14.out).mono ?_); rintro e w' ⟨rfl, ⟨nd, rfl⟩⟩))
  go_meet
  case rel => exact ⟨_, (!t308), (by first | rfl | (simp; done) | (simp [*]; done)), H', ⟨by first | omega | exact Nat.le_refl _⟩, ⟨by (with_reducible repeat (first | refine blk_drewN ?_ _ | refine blk_drew ?_ | refine blk_alloc ?_ _)); exact BK303.out⟩, ⟨by (with_reducible repeat (first | refine blk_drewN ?_ _ | refine blk_drew ?_ | refine blk_alloc ?_ _)); exact BK304.out⟩, ⟨by repeat (first | (with_reducible first | exact HB.out | apply below_alloc | apply pw_below_drewN | apply below_drew1 | refine below_set ?_ GE303.out | refine below_set ?_ GE304.out) | exact HB.out)⟩⟩
 case rest =>
  clear HC5
  try clear c1
  try clear c2
  try clear p2
  try clear c3
  try clear c4
  try clear c9
  try clear c11
  try clear c13
  try clear c15
  try clear c20
  try clear c23
  try clear c31
  try clear c36
  try clear hcz16_0
  try clear hcz16_1
  try clear hcz18_0
  try clear hcz18_1
  try clear hcz20_0
  try clear hcz20_1
  try clear hcz21_0
  try clear hcz24_0
  try clear hcz24_1
  try clear hcz26_0
  try clear hcz26_1
  try clear hcz28_0
  try clear hcz28_1
  try clear hcz29_0
  try clear hcz32_0
  try clear hcz32_1
  try clear hcz34_0
  try clear hcz34_1
  try clear hcz37_0
  try clear hcz37_1
  try clear hfz16_0
  try clear hfz16_1
  try clear hfz18_0
  try clear hfz18_1
  try clear hfz20_0
  try clear hfz20_1
  try clear hfz21_0
  try clear hfz24_0
  try clear hfz24_1
  try clear hfz26_0
  try clear hfz26_1
  try clear hfz28_0
  try clear hfz28_1
  try clear hfz29_0
  try clear hfz32_0
  try clear hfz32_1
  try clear hfz34_0
  try clear hfz34_1
  try clear hfz37_0
  try clear hfz37_1
  obtain ⟨kq, x37_4, rfl, HA, HJ4, BK303, BK304, HB⟩ := hcut
  cases kq with
  | zero => exact absurd HA.out (by simp [impl_Shares.j0])
  | succ kj4 =>
   have H := HA.out
   clear HA
   simp only [impl_Shares.j0] at H
   by_cases c39 : x37_4 = true
   ·subst c39
    rw [if_pos rfl] at H
    obtain rfl := Option.some.inj H
    go_wp2
    go_ret
    exact ⟨_, by first | rfl | (simp [errW_none, errW_some] <;> rfl) | (simp [*, errW_none, errW_some] <;> rfl), by first | exact Kd.R_nil _ _ _ _ _ | exact Kd.N_nil _ _ _ _ _ | exact Kd.V_nil _ _ _ _ _ | exact Kd.Q_nil _ _ _ _ _ | exact Kd.S_nil _ _ _ _ _, by repeat (first | (with_reducible first | exact HB.out | apply below_alloc | apply pw_below_drewN | apply below_drew1 | refine below_set ?_ GE303.out | refine below_set ?_ GE304.out) | exact HB.out)⟩
   replace c39 := Bool.eq_false_iff.mpr c39
   subst c39
   rw [if_neg (show ¬ (false = true) by decide)] at H
   replace H := Option.bind_eq_some_iff.mp H
   obtain ⟨t309, A400, H⟩ := H
   have A40 := Aside0.mk A400
   clear A400
   by_cases c41 : 0 ≤ a1
   rotate_left
   ·rw [if_neg c41] at H
    exact absurd H (by simp)
   rw [if_pos c41] at H
   have c41b0 : decide (0 ≤ a1) = true := decide_eq_true c41
   clear c41
   by_cases c42 : a1 < (t309.length : Int)
   rotate_left
   ·rw [if_neg c42] at H
    exact absurd H (by simp)
   rw [if_pos c42] at H
   have c42b0 : decide (a1 < (t309.length : Int)) = true := decide_eq_true c42
   clear c42
   by_cases c43 : 0 ≤ a2
   rotate_left
   ·rw [if_neg c43] at H
    exact absurd H (by simp)
   rw [if_pos c43] at H
   have c43b0 : decide (0 ≤ a2) = true := decide_eq_true c43
   clear c43
   by_cases c44 : a2 < ((rd_L4 t309 a1).length : Int)
   rotate_left
   ·rw [if_neg c44] at H
    exact absurd H (by simp)
   rw [if_pos c44] at H
   have c44b0 : decide (a2 < ((rd_L4 t309 a1).length : Int)) = true := decide_eq_true c44
   clear c44
   by_cases c45 : (rd (rd_L4 t309 a1) a2) = 1000000
   ·rw [if_pos c45] at H
    have c45b0 : ((rd (rd_L4 t309 a1) a2) == 1000000) = true := beq_iff_eq.mpr c45
    have c45b1 : ((rd (rd_L4 t309 a1) a2) != 1000000) = false := bne_eq_false_iff_eq.mpr c45
    clear c45
    obtain rfl := Option.some.inj H
    have hnb46 := NB303_304.out
    have hnc46 := NB304_303.out
    have hcz47_0 := cz_ BK303 0 (.int .i64 a0_0)
    have hcz47_1 := cz_ BK303 1 (.slice A0_1 l0_1.length c0_1)
    have hfz47_0 := blk_frozen BK303.out 0
    have hfz47_1 := blk_frozen BK303.out 1
    try go_wp2_with (first | ((with_reducible refine gate_callee (f := 55) rfl ?_); refine gl_ (some 39) Try.func55 #[.agg #[.int .i64 a0_0, .slice A0_1 l0_1.length c0_1]] ?_; (with_reducible refine (impl_Graph_all.calls kj4 a0_0 _ _ l0_1 t309 _ ?side1 ?side2 A40.out).mono ?_); (case side1 => exact cb_ HR0_1 HB); (case side2 => exact HC0_1.out); rintro e w48 ⟨v310, rfl, ho0, hb⟩; refine ⟨_, rfl, ?_⟩; have HO311 := Aside0.mk (Kd.S_lower (Kd.S_newB ho0 (g := gb304) (o := .cells #[.int .i64 a2] 3 (0, 0)) (by (with_reducible repeat (first | refine blk_drewN ?_ _ | refine blk_drew ?_ | refine blk_alloc ?_ _)); exact BK304.out)) (bz_ HB)); replace BK303 := Aside0.mk (bb_ BK303 hb); replace BK304 := Aside0.mk (bb_ BK304 hb); replace HB := Aside0.mk (bt_ HB hb); (try clear hb); (try clear hb2); (try clear hk); (try clear hi); (try clear ho0)) | ((with_reducible refine gate_dst (N := 9) rfl ?_); refine box_event ?hg (N := 9) ?hd (cs := #[.slice none 0 0]) (t := 45) ?hr ?_; (case hd => rfl); (case hg => rfl); (case hr => first | (go_simp; done) | (go_simp; rfl)); intro gb312 hg w49 hbox hb; have BK312 := Aside0.mk hbox; have GW312 := ge_ HB hg; have GE312 := ge_ HB hg; have NB303_312 := nl_ BK303 hg; have NB312_303 := ng_ BK303 hg; have NB304_312 := nl_ BK304 hg; have NB312_304 := ng_ BK304 hg; replace HO311 := Aside0.mk (Kd.S_below (by (with_reducible repeat (first | apply Kd.S_alloc | apply Kd.S_drewN | apply Kd.S_drew)); exact HO311.out) hb); replace HB := Aside0.mk (bt_ HB hb); replace BK303 := Aside0.mk (bb_ BK303 hb); replace BK304 := Aside0.mk (bb_ BK304 hb); clear hb hbox hg; obtain ⟨Ao50, co50, eo50⟩ := Kd.S_slice HO311.out; subst eo50; have hnb51 := NB312_303.out; have hnc51 := NB303_312.out; have hnb52 := NB312_304.out; have hnc52 := NB304_312.out; have hcz53_0 := cz_ BK312 0 (.slice none 0 0); have hfz53_0 := blk_frozen BK312.out 0) | ((with_reducible refine gate_store (t := 45) (p := 9) rfl ?_); refine store_event (t := 45) (p := 9) (v := ?vo_w54) (w1 := (w49.setCell ⟨gb312, 0, none⟩ (.slice Ao50 t309.length co50))) ?hg ?ho ?hn ?hr ?_; (case ho => rfl); (case hg => rfl); (case hn => rfl); (case hr => first | (go_simp; done) | (go_simp; rfl)); intro w54 hw; replace HO311 : Aside0 (Kd.S (Kd.slice 3 (Kd.int .i64)) 26 w54 w.heap.size (fun k_ => k_ ≠ gb304) (.slice Ao50 t309.length co50) t309) := ⟨(by rw [hw]; exact (by (with_reducible repeat (first | apply Kd.S_alloc | apply Kd.S_drewN | apply Kd.S_drew)); exact Kd.S_mono (Kd.S_far (p := ⟨gb312, 0, none⟩) (Kd.S_types HO311.out BK312.out (by decide)) (fun _ hk => hk.2) (.slice Ao50 t309.length co50)) (fun _ hk => hk.1.2)))⟩; replace BK303 : Aside0 (w54.heap[gb303]? = some (.cells #[.int .i64 a0_0, .slice A0_1 l0_1.length c0_1] 30 (0, 0))) := ⟨(by rw [hw]; exact (by (with_reducible repeat (first | refine blk_drewN ?_ _ | refine blk_drew ?_ | refine blk_alloc ?_ _)); refine blk_far ?_ NB303_312.out _; (with_reducible repeat (first | refine blk_drewN ?_ _ | refine blk_drew ?_ | refine blk_alloc ?_ _)); exact BK303.out))⟩; replace BK304 : Aside0 (w54.heap[gb304]? = some (.cells #[.int .i64 a2] 3 (0, 0))) := ⟨(by rw [hw]; exact (by (with_reducible repeat (first | refine blk_drewN ?_ _ | refine blk_drew ?_ | refine blk_alloc ?_ _)); refine blk_far ?_ NB304_312.out _; (with_reducible repeat (first | refine blk_drewN ?_ _ | refine blk_drew ?_ | refine blk_alloc ?_ _)); exact BK304.out))⟩; replace BK312 : Aside0 (w54.heap[gb312]? = some (.cells #[.slice Ao50 t309.length co50] 45 (0, 0))) := ⟨(by rw [hw]; exact (by (with_reducible repeat (first | refine blk_drewN ?_ _ | refine blk_drew ?_ | refine blk_alloc ?_ _)); refine blk_put (cs := #[.slice none 0 0]) ?_ 0 _ rfl; (with_reducible repeat (first | refine blk_drewN ?_ _ | refine blk_drew ?_ | refine blk_alloc ?_ _)); exact BK312.out))⟩; replace HB : Aside0 (Below w.heap.size w w54) := ⟨(by rw [hw]; exact (by repeat (first | (with_reducible first | exact HB.out | apply below_alloc | apply pw_below_drewN | apply below_drew1 | refine below_set ?_ GE303.out | refine below_set ?_ GE304.out | refine below_set ?_ GE312.out) | exact HB.out)))⟩; clear hw))
    replace HO311 := Aside0.mk (Kd.S_drew HO311.out)
    replace BK303 := Aside0.mk (blk_drew BK303.out)
    replace BK304 := Aside0.mk (blk_drew BK304.out)
    replace BK312 := Aside0.mk (blk_drew BK312.out)
    replace HB := Aside0.mk (below_drew1 HB.out)
    have p313 : 0 ≤ (a1 : Int) := of_decide_eq_true (by first | (with_reducible assumption) | assumption)
    have q313 : a1 < (t309.length : Int) := of_decide_eq_true (by first | (with_reducible assumption) | assumption)
    obtain ⟨ad313, A313_0, c313_0, e313, hx313_0, hl313_0, hi313_0⟩ := at_L4 (Kd.S_reads' HO311.out).2.2 a1 p313 q313
    cases e313
    obtain ⟨ce313, hce313, hMe313, hcc313⟩ := Kd.S_get HO311.out [] a1 p313 (by first | exact q313 | exact of_decide_eq_true (by first | (with_reducible assumption) | assumption) | (have e_ := (Kd.S_reads' HO311.out).1; omega))
    obtain ⟨ve313_0, rfl, ge313_0⟩ := hMe313
    have hv313_0 := hcc313 0 _ rfl
    rw [Nat.add_zero, show ((Kd.slice 3 (Kd.int .i64))).sz = 1 from rfl, Nat.mul_one] at hv313_0
    replace hv313_0 := Option.some.inj (hv313_0.symm.trans hx313_0)
    rw [hv313_0] at ge313_0
    have HL313_0 := Aside0.mk (show Kd.R (Kd.int .i64) 3 _ _ _ _ (rd_L4 t309 a1) from ge313_0)
    clear hv313_0 ge313_0
    clear hcc313 hce313
    have HR313_0 := Aside0.mk hi313_0
    have HC313_0 := Aside0.mk hl313_0
    clear hi313_0 hl313_0
    replace p313 := eq_true p313
    replace q313 := eq_true q313
    have p314 : 0 ≤ (a2 : Int) := of_decide_eq_true (by first | (with_reducible assumption) | assumption)
    have q314 : a2 < ((rd_L4 t309 a1).length : Int) := of_decide_eq_true (by first | (with_reducible assumption) | assumption)
    obtain ⟨ad314, e314, hx314_0⟩ := Kd.at_int (by repeat (first | (with_reducible exact HR313_0.out) | (with_reducible refine Kd.C_alloc ?_ _) | (with_reducible refine Kd.C_drewN ?_ _) | (with_reducible refine Kd.C_drew ?_) | exact HR313_0.out)) a2 p314 q314
    cases e314
    replace p314 := eq_true p314
    replace q314 := eq_true q314
    refine start_ (n := 8) (S := fun w' => w'.cell? ⟨gb312, 0, none⟩ = some (.slice (some ad313) t309.length co50) ∧ w'.cell? ⟨gb304, 0, none⟩ = some (.int .i64 a2) ∧ w'.cell? (ad313.add (a1).toNat) = some (.slice (some ad314) (rd_L4 t309 a1).length c313_0) ∧ w'.cell? (ad314.add (a2).toNat) = some (.int .i64 (rd (rd_L4 t309 a1) a2))) (ds := []) ba13_0 (by kernel_rfl) rfl rfl ⟨(blk_cell BK312.out 0).trans rfl, (blk_cell BK304.out 0).trans rfl, hx313_0, hx314_0⟩ (fun hHeld => ?_); refine with_tabW impl_Shares.tab4 impl_Shares.bits4 (fun HT_ HW_ => ?_)
    generalize w54.drew = w55 at HO311 BK303 BK304 BK312 HB HL313_0 HR313_0 hx313_0 hx314_0 hHeld ⊢
    refine pz_ 1 41 ba13_1 HT_ ?_
    refine pt_ 0 40 ba13_2 HT_ HW_ hHeld ?_
    refine pz_ 2 42 ba13_3 HT_ ?_
    refine pt_ 3 43 ba13_4 HT_ HW_ hHeld ?_
    refine pt_ 4 44 ba13_5 HT_ HW_ hHeld ?_
    refine pz_ 5 45 ba13_6 HT_ ?_
    refine pt_ 6 46 ba13_7 HT_ HW_ hHeld ?_
    refine pz_ 7 47 ba13_8 HT_ ?_
    refine done_ (done_of HT_.out (by kernel_rfl)) ?_
    try go_wp2
    go_ret
    exact ⟨_, by first | rfl | (simp [errW_none, errW_some] <;> rfl) | (simp [*, errW_none, errW_some] <;> rfl), by first | exact Kd.R_nil _ _ _ _ _ | exact Kd.N_nil _ _ _ _ _ | exact Kd.V_nil _ _ _ _ _ | exact Kd.Q_nil _ _ _ _ _ | exact Kd.S_nil _ _ _ _ _, by repeat (first | (with_reducible first | exact HB.out | apply below_alloc | apply pw_below_drewN | apply below_drew1 | refine below_set ?_ GE303.out | refine below_set ?_ GE304.out | refine below_set ?_ GE312.out) | exact HB.out)⟩
   rw [if_neg c45] at H
   have c45b0 : ((rd (rd_L4 t309 a1) a2) == 1000000) = false := beq_eq_false_iff_ne.mpr c45
   have c45b1 : ((rd (rd_L4 t309 a1) a2) != 1000000) = true := bne_iff_ne.mpr c45
   by_cases c56 : 0 ≤ a0_0
   rotate_left
   ·rw [if_neg c56] at H
    exact absurd H (by simp)
   rw [if_pos c56] at H
   have c56b0 := eq_true c56
   have c56b1 : decide (0 ≤ a0_0) = true := decide_eq_true c56
   clear c56
   by_cases c57 : (a0_0 : Int).toNat ≤ 35184372088832
   rotate_left
   ·rw [if_neg c57] at H
    exact absurd H (by simp)
   rw [if_pos c57] at H
   have c57b0 := eq_true c57
   have c57b1 : decide ((a0_0 : Int).toNat ≤ 35184372088832) = true := decide_eq_true c57
   clear c57
   obtain ⟨y315, hy315⟩ : ∃ y_ : List Int, y_ = (List.replicate (a0_0 : Int).toNat 0) := ⟨_, rfl⟩
   replace H : (if a1 < (y315.length : Int) then (impl_Shares.l0 kj4 (y315.set (a1 : Int).toNat a3) (([] : List Int)) a0_0 0 a0_0 l0_1 a2 t309) else (none)) = some r := by first | (rw [hy315]; with_reducible exact H) | (have H2_ := (Option.bind_some _ _).symm.trans H; rw [hy315]; with_reducible exact H2_) | (have H2_ := (Option.bind_some _ _).symm.trans H; with_reducible exact H2_) | with_reducible exact H | (rw [hy315]; exact H) | exact H
   have Ny315 := Aside0.mk hy315
   clear hy315
   by_cases c58 : a1 < (y315.length : Int)
   rotate_left
   ·rw [if_neg c58] at H
    exact absurd H (by simp)
   rw [if_pos c58] at H
   have c58b0 : decide (a1 < (y315.length : Int)) = true := decide_eq_true c58
   clear c58
   obtain ⟨y318, hy318⟩ : ∃ y_ : List Int, y_ = (y315.set (a1 : Int).toNat a3) := ⟨_, rfl⟩
   replace H : (impl_Shares.l0 kj4 y318 (([] : List Int)) a0_0 0 a0_0 l0_1 a2 t309) = some r := by first | (rw [hy318]; with_reducible exact H) | (have H2_ := (Option.bind_some _ _).symm.trans H; rw [hy318]; with_reducible exact H2_) | (have H2_ := (Option.bind_some _ _).symm.trans H; with_reducible exact H2_) | with_reducible exact H | (rw [hy318]; exact H) | exact H
   have Ny318 := Aside0.mk hy318
   clear hy318
   obtain ⟨y319, hy319⟩ : ∃ y_ : List Int, y_ = (([] : List Int)) := ⟨_, rfl⟩
   replace H : (impl_Shares.l0 kj4 y318 y319 a0_0 0 a0_0 l0_1 a2 t309) = some r := by first | (rw [hy319]; with_reducible exact H) | (have H2_ := (Option.bind_some _ _).symm.trans H; rw [hy319]; with_reducible exact H2_) | (have H2_ := (Option.bind_some _ _).symm.trans H; with_reducible exact H2_) | with_reducible exact H | (rw [hy319]; exact H) | exact H
   have Ny319 := Aside0.mk hy319
   clear hy319
   have H' := Aside0.mk H
   clear H
   have hnb60 := NB303_304.out
   have hnc60 := NB304_303.out
   have hcz61_0 := cz_ BK303 0 (.int .i64 a0_0)
   have hcz61_1 := cz_ BK303 1 (.slice A0_1 l0_1.length c0_1)
   have hfz61_0 := blk_frozen BK303.out 0
   have hfz61_1 := blk_frozen BK303.out 1
   try go_wp2_with (first | ((with_reducible refine gate_callee (f := 55) rfl ?_); refine gl_ (some 39) Try.func55 #[.agg #[.int .i64 a0_0, .slice A0_1 l0_1.length c0_1]] ?_; (with_reducible refine (impl_Graph_all.calls kj4 a0_0 _ _ l0_1 t309 _ ?side1 ?side2 A40.out).mono ?_); (case side1 => exact cb_ HR0_1 HB); (case side2 => exact HC0_1.out); rintro e w62 ⟨v310, rfl, ho0, hb⟩; refine ⟨_, rfl, ?_⟩; have HO311 := Aside0.mk (Kd.S_lower (Kd.S_newB ho0 (g := gb304) (o := .cells #[.int .i64 a2] 3 (0, 0)) (by (with_reducible repeat (first | refine blk_drewN ?_ _ | refine blk_drew ?_ | refine blk_alloc ?_ _)); exact BK304.out)) (bz_ HB)); replace BK303 := Aside0.mk (bb_ BK303 hb); replace BK304 := Aside0.mk (bb_ BK304 hb); replace HB := Aside0.mk (bt_ HB hb); (try clear hb); (try clear hb2); (try clear hk); (try clear hi); (try clear ho0)) | ((with_reducible refine gate_dst (N := 9) rfl ?_); refine box_event ?hg (N := 9) ?hd (cs := #[.slice none 0 0]) (t := 45) ?hr ?_; (case hd => rfl); (case hg => rfl); (case hr => first | (go_simp; done) | (go_simp; rfl)); intro gb312 hg w63 hbox hb; have BK312 := Aside0.mk hbox; have GW312 := ge_ HB hg; have GE312 := ge_ HB hg; have NB303_312 := nl_ BK303 hg; have NB312_303 := ng_ BK303 hg; have NB304_312 := nl_ BK304 hg; have NB312_304 := ng_ BK304 hg; replace HO311 := Aside0.mk (Kd.S_below (by (with_reducible repeat (first | apply Kd.S_alloc | apply Kd.S_drewN | apply Kd.S_drew)); exact HO311.out) hb); replace HB := Aside0.mk (bt_ HB hb); replace BK303 := Aside0.mk (bb_ BK303 hb); replace BK304 := Aside0.mk (bb_ BK304 hb); clear hb hbox hg; obtain ⟨Ao64, co64, eo64⟩ := Kd.S_slice HO311.out; subst eo64; have hnb65 := NB312_303.out; have hnc65 := NB303_312.out; have hnb66 := NB312_304.out; have hnc66 := NB304_312.out; have hcz67_0 := cz_ BK312 0 (.slice none 0 0); have hfz67_0 := blk_frozen BK312.out 0) | ((with_reducible refine gate_store (t := 45) (p := 9) rfl ?_); refine store_event (t := 45) (p := 9) (v := ?vo_w68) (w1 := (w63.setCell ⟨gb312, 0, none⟩ (.slice Ao64 t309.length co64))) ?hg ?ho ?hn ?hr ?_; (case ho => rfl); (case hg => rfl); (case hn => rfl); (case hr => first | (go_simp; done) | (go_simp; rfl)); intro w68 hw; replace HO311 : Aside0 (Kd.S (Kd.slice 3 (Kd.int .i64)) 26 w68 w.heap.size (fun k_ => k_ ≠ gb304) (.slice Ao64 t309.length co64) t309) := ⟨(by rw [hw]; exact (by (with_reducible repeat (first | apply Kd.S_alloc | apply Kd.S_drewN | apply Kd.S_drew)); exact Kd.S_mono (Kd.S_far (p := ⟨gb312, 0, none⟩) (Kd.S_types HO311.out BK312.out (by decide)) (fun _ hk => hk.2) (.slice Ao64 t309.length co64)) (fun _ hk => hk.1.2)))⟩; replace BK303 : Aside0 (w68.heap[gb303]? = some (.cells #[.int .i64 a0_0, .slice A0_1 l0_1.length c0_1] 30 (0, 0))) := ⟨(by rw [hw]; exact (by (with_reducible repeat (first | refine blk_drewN ?_ _ | refine blk_drew ?_ | refine blk_alloc ?_ _)); refine blk_far ?_ NB303_312.out _; (with_reducible repeat (first | refine blk_drewN ?_ _ | refine blk_drew ?_ | refine blk_alloc ?_ _)); exact BK303.out))⟩; replace BK304 : Aside0 (w68.heap[gb304]? = some (.cells #[.int .i64 a2] 3 (0, 0))) := ⟨(by rw [hw]; exact (by (with_reducible repeat (first | refine blk_drewN ?_ _ | refine blk_drew ?_ | refine blk_alloc ?_ _)); refine blk_far ?_ NB304_312.out _; (with_reducible repeat (first | refine blk_drewN ?_ _ | refine blk_drew ?_ | refine blk_alloc ?_ _)); exact BK304.out))⟩; replace BK312 : Aside0 (w68.heap[gb312]? = some (.cells #[.slice Ao64 t309.length co64] 45 (0, 0))) := ⟨(by rw [hw]; exact (by (with_reducible repeat (first | refine blk_drewN ?_ _ | refine blk_drew ?_ | refine blk_alloc ?_ _)); refine blk_put (cs := #[.slice none 0 0]) ?_ 0 _ rfl; (with_reducible repeat (first | refine blk_drewN ?_ _ | refine blk_drew ?_ | refine blk_alloc ?_ _)); exact BK312.out))⟩; replace HB : Aside0 (Below w.heap.size w w68) := ⟨(by rw [hw]; exact (by repeat (first | (with_reducible first | exact HB.out | apply below_alloc | apply pw_below_drewN | apply below_drew1 | refine below_set ?_ GE303.out | refine below_set ?_ GE304.out | refine below_set ?_ GE312.out) | exact HB.out)))⟩; clear hw))
   replace HO311 := Aside0.mk (Kd.S_drew HO311.out)
   replace BK303 := Aside0.mk (blk_drew BK303.out)
   replace BK304 := Aside0.mk (blk_drew BK304.out)
   replace BK312 := Aside0.mk (blk_drew BK312.out)
   replace HB := Aside0.mk (below_drew1 HB.out)
   have p313 : 0 ≤ (a1 : Int) := of_decide_eq_true (by first | (with_reducible assumption) | assumption)
   have q313 : a1 < (t309.length : Int) := of_decide_eq_true (by first | (with_reducible assumption) | assumption)
   obtain ⟨ad313, A313_0, c313_0, e313, hx313_0, hl313_0, hi313_0⟩ := at_L4 (Kd.S_reads' HO311.out).2.2 a1 p313 q313
   cases e313
   obtain ⟨ce313, hce313, hMe313, hcc313⟩ := Kd.S_get HO311.out [] a1 p313 (by first | exact q313 | exact of_decide_eq_true (by first | (with_reducible assumption) | assumption) | (have e_ := (Kd.S_reads' HO311.out).1; omega))
   obtain ⟨ve313_0, rfl, ge313_0⟩ := hMe313
   have hv313_0 := hcc313 0 _ rfl
   rw [Nat.add_zero, show ((Kd.slice 3 (Kd.int .i64))).sz = 1 from rfl, Nat.mul_one] at hv313_0
   replace hv313_0 := Option.some.inj (hv313_0.symm.trans hx313_0)
   rw [hv313_0] at ge313_0
   have HL313_0 := Aside0.mk (show Kd.R (Kd.int .i64) 3 _ _ _ _ (rd_L4 t309 a1) from ge313_0)
   clear hv313_0 ge313_0
   clear hcc313 hce313
   have HR313_0 := Aside0.mk hi313_0
   have HC313_0 := Aside0.mk hl313_0
   clear hi313_0 hl313_0
   replace p313 := eq_true p313
   replace q313 := eq_true q313
   have p314 : 0 ≤ (a2 : Int) := of_decide_eq_true (by first | (with_reducible assumption) | assumption)
   have q314 : a2 < ((rd_L4 t309 a1).length : Int) := of_decide_eq_true (by first | (with_reducible assumption) | assumption)
   obtain ⟨ad314, e314, hx314_0⟩ := Kd.at_int (by repeat (first | (with_reducible exact HR313_0.out) | (with_reducible refine Kd.C_alloc ?_ _) | (with_reducible refine Kd.C_drewN ?_ _) | (with_reducible refine Kd.C_drew ?_) | exact HR313_0.out)) a2 p314 q314
   cases e314
   replace p314 := eq_true p314
   replace q314 := eq_true q314
   refine start_ (n := 8) (S := fun w' => w'.cell? ⟨gb312, 0, none⟩ = some (.slice (some ad313) t309.length co64) ∧ w'.cell? ⟨gb304, 0, none⟩ = some (.int .i64 a2) ∧ w'.cell? (ad313.add (a1).toNat) = some (.slice (some ad314) (rd_L4 t309 a1).length c313_0) ∧ w'.cell? (ad314.add (a2).toNat) = some (.int .i64 (rd (rd_L4 t309 a1) a2))) (ds := []) ba13_0 (by kernel_rfl) rfl rfl ⟨(blk_cell BK312.out 0).trans rfl, (blk_cell BK304.out 0).trans rfl, hx313_0, hx314_0⟩ (fun hHeld => ?_); refine with_tabW impl_Shares.tab4 impl_Shares.bits4 (fun HT_ HW_ => ?_)
   generalize w68.drew = w69 at HO311 BK303 BK304 BK312 HB HL313_0 HR313_0 hx313_0 hx314_0 hHeld ⊢
   refine pz_ 1 41 ba13_1 HT_ ?_
   refine pt_ 0 40 ba13_2 HT_ HW_ hHeld ?_
   refine pz_ 2 42 ba13_3 HT_ ?_
   refine pt_ 3 43 ba13_4 HT_ HW_ hHeld ?_
   refine pt_ 4 44 ba13_5 HT_ HW_ hHeld ?_
   refine pz_ 5 45 ba13_6 HT_ ?_
   refine pt_ 6 46 ba13_7 HT_ HW_ hHeld ?_
   refine pz_ 7 47 ba13_8 HT_ ?_
   refine done_ (done_of HT_.out (by kernel_rfl)) ?_
   have hcz70_0 := cz_ BK303 0 (.int .i64 a0_0)
   have hcz70_1 := cz_ BK303 1 (.slice A0_1 l0_1.length c0_1)
   have hfz70_0 := blk_frozen BK303.out 0
   have hfz70_1 := blk_frozen BK303.out 1
   try go_wp2_with (first | ((with_reducible refine gate_dst (N := 50) rfl ?_); refine Kd.R_make (Kd.int .i64) _ 3 rfl (N := 50) rfl 26 _ _ rfl a0_0 rfl rfl Try.underlying26 (.int .i64 0) 8 info3 rfl (by decide) (by omega) 0 (ok := fun _ => True) (okp := fun _ => True) rfl (fun _ hk => hk) trivial (of_decide_eq_true (by first | (with_reducible assumption) | assumption)) (Nat.le_trans (Nat.mul_le_mul_right _ (of_decide_eq_true (by first | (with_reducible assumption) | assumption) : a0_0.toNat ≤ 35184372088832)) (by omega)) (Below.refl _ _) (Nat.le_refl _) ?_; intro v316 w71 ho72 hb hg_ hnew_; clear hg_ hnew_; (first | rw [← Ny315.out] at ho72 | (simp only [Int.reduceToNat] at ho72; rw [← Ny315.out] at ho72)); have HO317 := Aside0.mk (Kd.R_lower (Kd.R_newB (Kd.R_new' ho72 (Kd.R_lt (by (with_reducible repeat (first | apply Kd.R_alloc | apply Kd.R_drewN | apply Kd.R_drew)); exact HL313_0.out))) (g := gb304) (o := .cells #[.int .i64 a2] 3 (0, 0)) (by (with_reducible repeat (first | refine blk_drewN ?_ _ | refine blk_drew ?_ | refine blk_alloc ?_ _)); exact BK304.out)) (bz_ HB)); replace HO311 := Aside0.mk (Kd.S_elder' (by (with_reducible repeat (first | apply Kd.S_alloc | apply Kd.S_drewN | apply Kd.S_drew)); exact HO311.out) (Kd.R_base ho72) hb); replace HL313_0 := Aside0.mk (Kd.R_elder' (by (with_reducible repeat (first | apply Kd.R_alloc | apply Kd.R_drewN | apply Kd.R_drew)); exact HL313_0.out) (Kd.R_base ho72) hb); replace BK303 := Aside0.mk (bb_ BK303 hb); replace BK304 := Aside0.mk (bb_ BK304 hb); replace BK312 := Aside0.mk (bb_ BK312 hb); replace HR313_0 := Aside0.mk (Kd.C_below (by repeat (first | (with_reducible exact HR313_0.out) | (with_reducible refine Kd.C_alloc ?_ _) | (with_reducible refine Kd.C_drewN ?_ _) | (with_reducible refine Kd.C_drew ?_) | exact HR313_0.out)) hb); replace HB := Aside0.mk (bt_ HB hb); clear hb ho72; have p59 : 0 ≤ (a1 : Int) := of_decide_eq_true (by first | (with_reducible assumption) | assumption); have q59 : (a1 : Int) < ((y315.length : Int) : Int) := of_decide_eq_true (by first | (with_reducible assumption) | assumption); obtain ⟨go59, co59, eo59, gb59, gl59, cl59, HG59⟩ := Kd.R_form HO317.out (by omega); (first | cases eo59 | (injection eo59 with ea_ en_ ec_; (first | subst ea_ | (injection ea_ with ea_; subst ea_)); subst ec_; clear en_)); have GB59 := Aside0.mk gb59; have GG59 := Aside0.mk HG59; clear gb59 gl59 HG59; obtain ⟨hx59_0, hf59_0⟩ := Kd.R_celln 0 HO317.out (a1 : Int) p59 q59; replace p59 := eq_true p59; replace q59 := eq_true q59; have n_ := Aside0.mk (Kd.R_mono (ok' := (fun k_ => some k_ ≠ (.slice (some ad314) (rd_L4 t309 a1).length c313_0 : Value).ownBlock ∧ k_ ≠ gb304)) HO317.out (fun k_ hk => ⟨hk.1.2, hk.2⟩)); clear HO317; have HO317 := n_; clear n_; obtain ⟨hy73_, hz73_⟩ := Kd.R_celln 0 HO317.out (a1 : Int) (of_decide_eq_true (by first | (with_reducible assumption) | assumption)) (of_decide_eq_true (by first | (with_reducible assumption) | assumption)); have HP73 := Kd.R_putg HO317.out (a1 : Int) a3) | ((with_reducible refine gate_store (t := 3) (p := 54) rfl ?_); refine store_event (t := 3) (p := 54) (v := ?vo_w74) (w1 := (w71.setCell ⟨go59, (a1 : Int).toNat, none⟩ (.int .i64 a3))) ?hg ?ho ?hn ?hr ?_; (case ho => rfl); (case hg => rfl); (case hn => rfl); (case hr => first | (go_simp; done) | (go_simp; rfl)); intro w74 hw; have hg : w71.grownBy w74 (some go59) := (by rw [hw]; exact HP73.2); have hp_ : Kd.R (Kd.int .i64) 3 w74 w.heap.size (fun k_ => some k_ ≠ (.slice (some ad314) (rd_L4 t309 a1).length c313_0 : Value).ownBlock ∧ k_ ≠ gb304) (.slice (some ⟨go59, 0, none⟩) y315.length co59) y318 := (by rw [hw, Ny318.out]; exact HP73.1); clear HP73; replace BK303 := Aside0.mk (blk_grown (g := gb303) (o := .cells #[.int .i64 a0_0, .slice A0_1 l0_1.length c0_1] 30 (0, 0)) (by (with_reducible repeat (first | refine blk_drewN ?_ _ | refine blk_drew ?_ | refine blk_alloc ?_ _)); exact BK303.out) hg (Kd.R_ne HO317.out BK303.out (by decide))); replace BK304 := Aside0.mk (blk_grown (g := gb304) (o := .cells #[.int .i64 a2] 3 (0, 0)) (by (with_reducible repeat (first | refine blk_drewN ?_ _ | refine blk_drew ?_ | refine blk_alloc ?_ _)); exact BK304.out) hg (Kd.R_away HO317.out (fun _ hk => hk.2))); replace HO311 := Aside0.mk (Kd.S_after (v := (.slice (some ⟨go59, 0, none⟩) y315.length co59)) (v1 := (.slice (some ⟨go59, 0, none⟩) y315.length co59)) (ok := (fun k_ => k_ ≠ gb304)) (by (with_reducible repeat (first | apply Kd.S_alloc | apply Kd.S_drewN | apply Kd.S_drew)); exact HO311.out) hg (.inl rfl)); replace BK312 := Aside0.mk (blk_grown (g := gb312) (o := .cells #[.slice (some ad313) t309.length co64] 45 (0, 0)) (by (with_reducible repeat (first | refine blk_drewN ?_ _ | refine blk_drew ?_ | refine blk_alloc ?_ _)); exact BK312.out) hg (Kd.R_ne HO317.out BK312.out (by decide))); replace HL313_0 := Aside0.mk (Kd.R_after (v := (.slice (some ⟨go59, 0, none⟩) y315.length co59)) (v1 := (.slice (some ⟨go59, 0, none⟩) y315.length co59)) (ok := (fun k_ => some k_ ≠ (.slice (some ad313) t309.length co64 : Value).ownBlock ∧ k_ ≠ gb304)) (by (with_reducible repeat (first | apply Kd.R_alloc | apply Kd.R_drewN | apply Kd.R_drew)); exact Kd.R_mono HL313_0.out (fun _ hk => ⟨⟨hk.1.2, hk.1.1⟩, hk.2⟩)) hg (.inl rfl)); replace HO317 := Aside0.mk (hp_); replace HB := Aside0.mk ((by rw [hw]; exact below_set (HB.out) GB59.out : Below w.heap.size w w74)); clear hg hw hp_) | ((with_reducible refine gate_dst (N := 55) rfl ?_); refine Kd.R_lit (Kd.int .i64) _ 3 ?hg (N := 55) ?hd (xs := ([] : List Int)) (inner := []) (ok := fun _ => True) (okp := fun _ => True) ?hr ?hp (fun _ hk => hk) trivial (Below.refl _ _) (Nat.le_refl _) (by simp) ?_; (case hd => rfl); (case hg => rfl); (case hr => first | (go_simp; done) | (go_simp; rfl)); (case hp => exact (Reps.none _ _)); intro v320 w75 ho76 hb hg_ hnew_; clear hg_ hnew_; (first | rw [← Ny319.out] at ho76 | (simp only [Int.reduceToNat] at ho76; rw [← Ny319.out] at ho76)); have HO321 := Aside0.mk (Kd.R_lower (Kd.R_newB (Kd.R_new' (Kd.R_new' ho76 (Kd.R_lt (by (with_reducible repeat (first | apply Kd.R_alloc | apply Kd.R_drewN | apply Kd.R_drew)); exact HL313_0.out))) (Kd.R_lt (hd_ HO317))) (g := gb304) (o := .cells #[.int .i64 a2] 3 (0, 0)) (by (with_reducible repeat (first | refine blk_drewN ?_ _ | refine blk_drew ?_ | refine blk_alloc ?_ _)); exact BK304.out)) (bz_ HB)); replace HO311 := Aside0.mk (Kd.S_elder' (by (with_reducible repeat (first | apply Kd.S_alloc | apply Kd.S_drewN | apply Kd.S_drew)); exact HO311.out) (Kd.R_base ho76) hb); replace HL313_0 := Aside0.mk (Kd.R_elder' (by (with_reducible repeat (first | apply Kd.R_alloc | apply Kd.R_drewN | apply Kd.R_drew)); exact HL313_0.out) (Kd.R_base ho76) hb); replace HO317 := Aside0.mk (Kd.R_elder' (hd_ HO317) (Kd.R_base ho76) hb); replace BK303 := Aside0.mk (bb_ BK303 hb); replace BK304 := Aside0.mk (bb_ BK304 hb); replace BK312 := Aside0.mk (bb_ BK312 hb); replace HB := Aside0.mk (bt_ HB hb); clear hb ho76; have hcz77_0 := cz_ BK303 0 (.int .i64 a0_0); have hcz77_1 := cz_ BK303 1 (.slice A0_1 l0_1.length c0_1); have hfz77_0 := blk_frozen BK303.out 0; have hfz77_1 := blk_frozen BK303.out 1))
   go_loopg [11, 58] kj4 (fun kq v11 v58 w' => ∃ (x11_2 : List Int) (x58_2 : Int), v58 = .int .i64 x58_2 ∧ Aside0 (impl_Shares.l0 kq y318 x11_2 a0_0 x58_2 a0_0 l0_1 a2 t309 = some r) ∧ Aside0 (kq ≤ kj4) ∧ Aside0 (Kd.R (Kd.int .i64) 3 w' w.heap.size (fun k_ => some k_ ≠ (v11 : Value).ownBlock ∧ k_ ≠ gb304) (.slice (some ⟨go59, 0, none⟩) y315.length co59) y318) ∧ Aside0 (Kd.R (Kd.int .i64) 3 w' w.heap.size (fun k_ => some k_ ≠ ((.slice (some ⟨go59, 0, none⟩) y315.length co59) : Value).ownBlock ∧ k_ ≠ gb304) v11 x11_2) ∧ Aside0 (Kd.S (Kd.slice 3 (Kd.int .i64)) 26 w' w.heap.size (fun k_ => some k_ ≠ ((.slice (some ⟨go59, 0, none⟩) y315.length co59) : Value).ownBlock ∧ some k_ ≠ (v11 : Value).ownBlock ∧ k_ ≠ gb304) (.slice (some ad313) t309.length co64) t309) ∧ Aside0 (w'.heap[gb303]? = some (.cells #[.int .i64 a0_0, (.slice A0_1 l0_1.length c0_1)] 30 (0, 0))) ∧ Aside0 (w'.heap[gb304]? = some (.cells #[.int .i64 a2] 3 (0, 0))) ∧ Aside0 (w'.heap[gb312]? = some (.cells #[(.slice (some ad313) t309.length co64)] 45 (0, 0))) ∧ Aside0 (Below w.heap.size w w'))
   case atStart => exact ⟨(y319), (0), (by first | rfl | (simp; done) | (simp [*]; done)), H', ⟨Nat.le_refl _⟩, ⟨by (with_reducible repeat (first | apply Kd.R_alloc | apply Kd.R_drewN | apply Kd.R_drew)); exact Kd.R_mono HO317.out (fun _ hk => by first | exact ⟨hk.2, hk.1.2⟩ | grind)⟩, ⟨by (with_reducible repeat (first | apply Kd.R_alloc | apply Kd.R_drewN | apply Kd.R_drew)); exact Kd.R_mono HO321.out (fun _ hk => by first | exact ⟨hk.1.2, hk.2⟩ | grind)⟩, ⟨by (with_reducible repeat (first | apply Kd.S_alloc | apply Kd.S_drewN | apply Kd.S_drew)); exact Kd.S_mono HO311.out (fun _ hk => ⟨hk.1.2, ⟨hk.2, hk.1.1⟩⟩)⟩, ⟨by (with_reducible repeat (first | refine blk_drewN ?_ _ | refine blk_drew ?_ | refine blk_alloc ?_ _)); exact BK303.out⟩, ⟨by (with_reducible repeat (first | refine blk_drewN ?_ _ | refine blk_drew ?_ | refine blk_alloc ?_ _)); exact BK304.out⟩, ⟨by (with_reducible repeat (first | refine blk_drewN ?_ _ | refine blk_drew ?_ | refine blk_alloc ?_ _)); exact BK312.out⟩, ⟨by repeat (first | (with_reducible first | exact HB.out | apply below_alloc | apply pw_below_drewN | apply below_drew1 | refine below_set ?_ GE303.out | refine below_set ?_ GE304.out | refine below_set ?_ GE312.out) | exact HB.out)⟩⟩
   case round =>
    clear H'
    try clear c1
    try clear c2
    try clear p2
    try clear c3
    try clear p3
    try clear q3
    try clear hx3
    try clear c4
    try clear c5
    try clear p5
    try clear q5
    try clear hx5
    try clear hf5
    try clear c6
    try clear c9
    try clear c11
    try clear c13
    try clear c15
    try clear c20
    try clear c23
    try clear c31
    try clear p31
    try clear q31
    try clear hx31
    try clear c36
    try clear c39
    try clear c41
    try clear c41b0
    try clear c42
    try clear c42b0
    try clear c43
    try clear c43b0
    try clear c44
    try clear c44b0
    try clear c45
    try clear c45b0
    try clear c45b1
    try clear c46
    try clear c47
    try clear c51
    try clear c52
    try clear c55
    try clear c56
    try clear c56b0
    try clear c56b1
    try clear c57
    try clear c57b0
    try clear c57b1
    try clear c58
    try clear c58b0
    try clear p59
    try clear q59
    try clear hx59
    try clear hf59
    try clear c60
    try clear c65
    try clear c66
    try clear hcz16_0
    try clear hcz16_1
    try clear hcz18_0
    try clear hcz18_1
    try clear hcz20_0
    try clear hcz20_1
    try clear hcz21_0
    try clear hcz24_0
    try clear hcz24_1
    try clear hcz26_0
    try clear hcz26_1
    try clear hcz28_0
    try clear hcz28_1
    try clear hcz29_0
    try clear hcz32_0
    try clear hcz32_1
    try clear hcz34_0
    try clear hcz34_1
    try clear hcz37_0
    try clear hcz37_1
    try clear hcz47_0
    try clear hcz47_1
    try clear hcz53_0
    try clear hcz61_0
    try clear hcz61_1
    try clear hcz67_0
    try clear hcz70_0
    try clear hcz70_1
    try clear hcz77_0
    try clear hcz77_1
    try clear hfz16_0
    try clear hfz16_1
    try clear hfz18_0
    try clear hfz18_1
    try clear hfz20_0
    try clear hfz20_1
    try clear hfz21_0
    try clear hfz24_0
    try clear hfz24_1
    try clear hfz26_0
    try clear hfz26_1
    try clear hfz28_0
    try clear hfz28_1
    try clear hfz29_0
    try clear hfz32_0
    try clear hfz32_1
    try clear hfz34_0
    try clear hfz34_1
    try clear hfz37_0
    try clear hfz37_1
    try clear hfz47_0
    try clear hfz47_1
    try clear hfz53_0
    try clear hfz61_0
    try clear hfz61_1
    try clear hfz67_0
    try clear hfz70_0
    try clear hfz70_1
    try clear hfz77_0
    try clear hfz77_1
    try clear hx313_0
    try clear hx314_0
    try clear hx59_0
    try clear p2
    try clear p313
    try clear p314
    try clear p59
    try clear q313
    try clear q314
    try clear q59
    obtain ⟨x11_2, x58_2, rfl, HA, HK2, HO_10, HO_11, HO_313000, BK303, BK304, BK312, HB⟩ := hrel
    have hl10_2 := (Kd.R_reads' HO_10.out).1
    rw [hl10_2] at HO_10
    (try simp only [hl10_2])
    (try simp only [hl10_2] at BK303)
    (try simp only [hl10_2] at BK304)
    (try simp only [hl10_2] at BK312)
    (try simp only [hl10_2] at HO_11)
    (try simp only [hl10_2] at HO_313000)
    cases gk with
    | zero => exact absurd HA.out (by simp [impl_Shares.l0])
    | succ k2 =>
     have H := HA.out
     clear HA
     simp only [impl_Shares.l0] at H
     by_cases c78 : x58_2 < a0_0
     ·rw [if_pos c78] at H
      have c78b0 : decide (x58_2 < a0_0) = true := decide_eq_true c78
      clear c78
      by_cases c79 : x58_2 = a2
      ·rw [if_pos c79] at H
       have c79b0 : (x58_2 == a2) = true := beq_iff_eq.mpr c79
       have c79b1 : (x58_2 != a2) = false := bne_eq_false_iff_eq.mpr c79
       clear c79
       have H' := Aside0.mk H
       clear H
       try go_wp2
       replace HO_10 := Aside0.mk (Kd.R_drew HO_10.out)
       replace HO_11 := Aside0.mk (Kd.R_drew HO_11.out)
       replace HO_313000 := Aside0.mk (Kd.S_drew HO_313000.out)
       replace BK303 := Aside0.mk (blk_drew BK303.out)
       replace BK304 := Aside0.mk (blk_drew BK304.out)
       replace BK312 := Aside0.mk (blk_drew BK312.out)
       replace HB := Aside0.mk (below_drew1 HB.out)
       refine start_ (n := 13) (S := fun w' => w'.cell? ⟨gb304, 0, none⟩ = some (.int .i64 a2)) (ds := []) ba13_9 (by kernel_rfl) rfl rfl ((blk_cell BK304.out 0).trans rfl) (fun hHeld => ?_); refine with_tabW impl_Shares.tab12 impl_Shares.bits12 (fun HT_ HW_ => ?_)
       generalize wr.drew = w80 at HO_10 HO_11 HO_313000 BK303 BK304 BK312 HB hHeld ⊢
       refine pz_ 0 61 ba13_10 HT_ ?_
       refine take_ (i := 1) (N := some 62) (v := ?_) (a' := ?_) ba13_11 rfl rfl (take_ofW HT_.out HW_.out (by kernel_rfl)) (fun _ _ _ h => h) (Or.inl ⟨by rfl, ?_⟩) hHeld ?_ ?_
       rotate_left; · intro w' s0; go_simp; with_reducible rfl
       rotate_left; · simp only [Act.put, List.setIfInBounds_toArray, List.set_cons_zero, List.set_cons_succ, i64_w, i32_w]; rfl
       refine pz_ 2 63 ba13_12 HT_ ?_
       refine pz_ 3 64 ba13_13 HT_ ?_
       refine pu_ 4 65 ba13_14 HT_ ?_
       refine pu_ 5 66 ba13_15 HT_ ?_
       refine pu_ 6 67 ba13_16 HT_ ?_
       refine pu_ 7 68 ba13_17 HT_ ?_
       refine pu_ 8 69 ba13_18 HT_ ?_
       refine pu_ 9 70 ba13_19 HT_ ?_
       refine pu_ 10 71 ba13_20 HT_ ?_
       refine pu_ 11 72 ba13_21 HT_ ?_
       refine pz_ 12 73 ba13_22 HT_ ?_
       refine done_ (done_of HT_.out (by kernel_rfl)) ?_
       try go_wp2
       (try simp only [← hl10_2])
       go_roundg k2
       case measure => have := HJ4.out; have := HK2.out; omega
       case rel => exact ⟨(x11_2), (wrap64 (x58_2 + 1)), (by first | rfl | (simp; done) | (simp [*]; done)), H', ⟨by have := HJ4.out; have := HK2.out; omega⟩, ⟨by (try simp only [hl10_2]); (with_reducible repeat (first | apply Kd.R_alloc | apply Kd.R_drewN | apply Kd.R_drew)); exact HO_10.out⟩, ⟨by (try simp only [hl10_2]); (with_reducible repeat (first | apply Kd.R_alloc | apply Kd.R_drewN | apply Kd.R_drew)); exact HO_11.out⟩, ⟨by (try simp only [hl10_2]); (with_reducible repeat (first | apply Kd.S_alloc | apply Kd.S_drewN | apply Kd.S_drew)); exact HO_313000.out⟩, ⟨by (try simp only [hl10_2]); (with_reducible repeat (first | refine blk_drewN ?_ _ | refine blk_drew ?_ | refine blk_alloc ?_ _)); exact BK303.out⟩, ⟨by (try simp only [hl10_2]); (with_reducible repeat (first | refine blk_drewN ?_ _ | refine blk_drew ?_ | refine blk_alloc ?_ _)); exact BK304.out⟩, ⟨by (try simp only [hl10_2]); (with_reducible repeat (first | refine blk_drewN ?_ _ | refine blk_drew ?_ | refine blk_alloc ?_ _)); exact BK312.out⟩, ⟨by repeat (first | (with_reducible first | exact HB.out | apply below_alloc | apply pw_below_drewN | apply below_drew1 | refine below_set ?_ GE303.out | refine below_set ?_ GE304.out | refine below_set ?_ GE312.out) | exact HB.out)⟩⟩
      rw [if_neg c79] at H
      have c79b0 : (x58_2 == a2) = false := beq_eq_false_iff_ne.mpr c79
      have c79b1 : (x58_2 != a2) = true := bne_iff_ne.mpr c79
      by_cases c81 : 0 ≤ x58_2
      rotate_left
      ·rw [if_neg c81] at H
       exact absurd H (by simp)
      rw [if_pos c81] at H
      have c81b0 : decide (0 ≤ x58_2) = true := decide_eq_true c81
      clear c81
      by_cases c82 : x58_2 < (t309.length : Int)
      rotate_left
      ·rw [if_neg c82] at H
       exact absurd H (by simp)
      rw [if_pos c82] at H
      have c82b0 : decide (x58_2 < (t309.length : Int)) = true := decide_eq_true c82
      clear c82
      by_cases c83 : 0 ≤ a2
      rotate_left
      ·rw [if_neg c83] at H
       exact absurd H (by simp)
      rw [if_pos c83] at H
      have c83b0 : decide (0 ≤ a2) = true := decide_eq_true c83
      clear c83
      by_cases c84 : a2 < ((rd_L4 t309 x58_2).length : Int)
      rotate_left
      ·rw [if_neg c84] at H
       exact absurd H (by simp)
      rw [if_pos c84] at H
      have c84b0 : decide (a2 < ((rd_L4 t309 x58_2).length : Int)) = true := decide_eq_true c84
      clear c84
      by_cases c85 : (rd (rd_L4 t309 x58_2) a2) < 1000000
      rotate_left
      ·rw [if_neg c85] at H
       have c85b0 : decide ((rd (rd_L4 t309 x58_2) a2) < 1000000) = false := decide_eq_false c85
       clear c85
       have H' := Aside0.mk H
       clear H
       try go_wp2
       replace HO_10 := Aside0.mk (Kd.R_drew HO_10.out)
       replace HO_11 := Aside0.mk (Kd.R_drew HO_11.out)
       replace HO_313000 := Aside0.mk (Kd.S_drew HO_313000.out)
       replace BK303 := Aside0.mk (blk_drew BK303.out)
       replace BK304 := Aside0.mk (blk_drew BK304.out)
       replace BK312 := Aside0.mk (blk_drew BK312.out)
       replace HB := Aside0.mk (below_drew1 HB.out)
       have p322 : 0 ≤ (x58_2 : Int) := of_decide_eq_true (by first | (with_reducible assumption) | assumption)
       have q322 : x58_2 < (t309.length : Int) := of_decide_eq_true (by first | (with_reducible assumption) | assumption)
       obtain ⟨ad322, A322_0, c322_0, e322, hx322_0, hl322_0, hi322_0⟩ := at_L4 (Kd.S_reads' HO_313000.out).2.2 x58_2 p322 q322
       obtain rfl : ad313 = ad322 := (by injection e322)
       obtain ⟨ce322, hce322, hMe322, hcc322⟩ := Kd.S_get HO_313000.out [] x58_2 p322 (by first | exact q322 | exact of_decide_eq_true (by first | (with_reducible assumption) | assumption) | (have e_ := (Kd.S_reads' HO_313000.out).1; omega))
       obtain ⟨ve322_0, rfl, ge322_0⟩ := hMe322
       have hv322_0 := hcc322 0 _ rfl
       rw [Nat.add_zero, show ((Kd.slice 3 (Kd.int .i64))).sz = 1 from rfl, Nat.mul_one] at hv322_0
       replace hv322_0 := Option.some.inj (hv322_0.symm.trans hx322_0)
       rw [hv322_0] at ge322_0
       have HL322_0 := Aside0.mk (show Kd.R (Kd.int .i64) 3 _ _ _ _ (rd_L4 t309 x58_2) from ge322_0)
       clear hv322_0 ge322_0
       clear hcc322 hce322
       have HR322_0 := Aside0.mk hi322_0
       have HC322_0 := Aside0.mk hl322_0
       clear hi322_0 hl322_0
       replace p322 := eq_true p322
       replace q322 := eq_true q322
       have p323 : 0 ≤ (a2 : Int) := of_decide_eq_true (by first | (with_reducible assumption) | assumption)
       have q323 : a2 < ((rd_L4 t309 x58_2).length : Int) := of_decide_eq_true (by first | (with_reducible assumption) | assumption)
       obtain ⟨ad323, e323, hx323_0⟩ := Kd.at_int (by repeat (first | (with_reducible exact HR322_0.out) | (with_reducible refine Kd.C_alloc ?_ _) | (with_reducible refine Kd.C_drewN ?_ _) | (with_reducible refine Kd.C_drew ?_) | exact HR322_0.out)) a2 p323 q323
       cases e323
       replace p323 := eq_true p323
       replace q323 := eq_true q323
       refine start_ (n := 13) (S := fun w' => w'.cell? ⟨gb304, 0, none⟩ = some (.int .i64 a2) ∧ w'.cell? ⟨gb312, 0, none⟩ = some (.slice (some ad313) t309.length co64) ∧ w'.cell? (ad313.add (x58_2).toNat) = some (.slice (some ad323) (rd_L4 t309 x58_2).length c322_0) ∧ w'.cell? (ad323.add (a2).toNat) = some (.int .i64 (rd (rd_L4 t309 x58_2) a2))) (ds := []) ba13_9 (by kernel_rfl) rfl rfl ⟨(blk_cell BK304.out 0).trans rfl, (blk_cell BK312.out 0).trans rfl, hx322_0, hx323_0⟩ (fun hHeld => ?_); refine with_tabW impl_Shares.tab12 impl_Shares.bits12 (fun HT_ HW_ => ?_)
       generalize wr.drew = w89 at HO_10 HO_11 HO_313000 BK303 BK304 BK312 HB HL322_0 HR322_0 hx322_0 hx323_0 hHeld ⊢
       refine pz_ 0 61 ba13_10 HT_ ?_
       refine pt_ 1 62 ba13_11 HT_ HW_ hHeld ?_
       refine pz_ 2 63 ba13_12 HT_ ?_
       refine pz_ 3 64 ba13_13 HT_ ?_
       refine pz_ 5 66 ba13_23 HT_ ?_
       refine pt_ 4 65 ba13_15 HT_ HW_ hHeld ?_
       refine pz_ 6 67 ba13_16 HT_ ?_
       refine pt_ 7 68 ba13_17 HT_ HW_ hHeld ?_
       refine pt_ 8 69 ba13_18 HT_ HW_ hHeld ?_
       refine pz_ 9 70 ba13_19 HT_ ?_
       refine pt_ 10 71 ba13_20 HT_ HW_ hHeld ?_
       refine pz_ 11 72 ba13_21 HT_ ?_
       refine pz_ 12 73 ba13_22 HT_ ?_
       refine done_ (done_of HT_.out (by kernel_rfl)) ?_
       try go_wp2
       (try simp only [← hl10_2])
       go_roundg k2
       case measure => have := HJ4.out; have := HK2.out; omega
       case rel => exact ⟨(x11_2), (wrap64 (x58_2 + 1)), (by first | rfl | (simp; done) | (simp [*]; done)), H', ⟨by have := HJ4.out; have := HK2.out; omega⟩, ⟨by (try simp only [hl10_2]); (with_reducible repeat (first | apply Kd.R_alloc | apply Kd.R_drewN | apply Kd.R_drew)); exact HO_10.out⟩, ⟨by (try simp only [hl10_2]); (with_reducible repeat (first | apply Kd.R_alloc | apply Kd.R_drewN | apply Kd.R_drew)); exact HO_11.out⟩, ⟨by (try simp only [hl10_2]); (with_reducible repeat (first | apply Kd.S_alloc | apply Kd.S_drewN | apply Kd.S_drew)); exact HO_313000.out⟩, ⟨by (try simp only [hl10_2]); (with_reducible repeat (first | refine blk_drewN ?_ _ | refine blk_drew ?_ | refine blk_alloc ?_ _)); exact BK303.out⟩, ⟨by (try simp only [hl10_2]); (with_reducible repeat (first | refine blk_drewN ?_ _ | refine blk_drew ?_ | refine blk_alloc ?_ _)); exact BK304.out⟩, ⟨by (try simp only [hl10_2]); (with_reducible repeat (first | refine blk_drewN ?_ _ | refine blk_drew ?_ | refine blk_alloc ?_ _)); exact BK312.out⟩, ⟨by repeat (first | (with_reducible first | exact HB.out | apply below_alloc | apply pw_below_drewN | apply below_drew1 | refine below_set ?_ GE303.out | refine below_set ?_ GE304.out | refine below_set ?_ GE312.out) | exact HB.out)⟩⟩
      rw [if_pos c85] at H
      have c85b0 : decide ((rd (rd_L4 t309 x58_2) a2) < 1000000) = true := decide_eq_true c85
      clear c85
      by_cases c86 : x11_2.length < 17592186044416
      rotate_left
      ·rw [if_neg c86] at H
       exact absurd H (by simp)
      rw [if_pos c86] at H
      have LMc86 := Aside0.mk c86
      clear c86
      obtain ⟨y324, hy324⟩ : ∃ y_ : List Int, y_ = (x11_2 ++ [x58_2]) := ⟨_, rfl⟩
      replace H : (impl_Shares.l0 k2 y318 y324 a0_0 (wrap64 (x58_2 + 1)) a0_0 l0_1 a2 t309) = some r := by first | (rw [hy324]; with_reducible exact H) | (have H2_ := (Option.bind_some _ _).symm.trans H; rw [hy324]; with_reducible exact H2_) | (have H2_ := (Option.bind_some _ _).symm.trans H; with_reducible exact H2_) | with_reducible exact H | (rw [hy324]; exact H) | exact H
      have Ny324 := Aside0.mk hy324
      clear hy324
      have H' := Aside0.mk H
      clear H
      try go_wp2
      replace HO_10 := Aside0.mk (Kd.R_drew HO_10.out)
      replace HO_11 := Aside0.mk (Kd.R_drew HO_11.out)
      replace HO_313000 := Aside0.mk (Kd.S_drew HO_313000.out)
      replace BK303 := Aside0.mk (blk_drew BK303.out)
      replace BK304 := Aside0.mk (blk_drew BK304.out)
      replace BK312 := Aside0.mk (blk_drew BK312.out)
      replace HB := Aside0.mk (below_drew1 HB.out)
      have p322 : 0 ≤ (x58_2 : Int) := of_decide_eq_true (by first | (with_reducible assumption) | assumption)
      have q322 : x58_2 < (t309.length : Int) := of_decide_eq_true (by first | (with_reducible assumption) | assumption)
      obtain ⟨ad322, A322_0, c322_0, e322, hx322_0, hl322_0, hi322_0⟩ := at_L4 (Kd.S_reads' HO_313000.out).2.2 x58_2 p322 q322
      obtain rfl : ad313 = ad322 := (by injection e322)
      obtain ⟨ce322, hce322, hMe322, hcc322⟩ := Kd.S_get HO_313000.out [] x58_2 p322 (by first | exact q322 | exact of_decide_eq_true (by first | (with_reducible assumption) | assumption) | (have e_ := (Kd.S_reads' HO_313000.out).1; omega))
      obtain ⟨ve322_0, rfl, ge322_0⟩ := hMe322
      have hv322_0 := hcc322 0 _ rfl
      rw [Nat.add_zero, show ((Kd.slice 3 (Kd.int .i64))).sz = 1 from rfl, Nat.mul_one] at hv322_0
      replace hv322_0 := Option.some.inj (hv322_0.symm.trans hx322_0)
      rw [hv322_0] at ge322_0
      have HL322_0 := Aside0.mk (show Kd.R (Kd.int .i64) 3 _ _ _ _ (rd_L4 t309 x58_2) from ge322_0)
      clear hv322_0 ge322_0
      clear hcc322 hce322
      have HR322_0 := Aside0.mk hi322_0
      have HC322_0 := Aside0.mk hl322_0
      clear hi322_0 hl322_0
      replace p322 := eq_true p322
      replace q322 := eq_true q322
      have p323 : 0 ≤ (a2 : Int) := of_decide_eq_true (by first | (with_reducible assumption) | assumption)
      have q323 : a2 < ((rd_L4 t309 x58_2).length : Int) := of_decide_eq_true (by first | (with_reducible assumption) | assumption)
      obtain ⟨ad323, e323, hx323_0⟩ := Kd.at_int (by repeat (first | (with_reducible exact HR322_0.out) | (with_reducible refine Kd.C_alloc ?_ _) | (with_reducible refine Kd.C_drewN ?_ _) | (with_reducible refine Kd.C_drew ?_) | exact HR322_0.out)) a2 p323 q323
      cases e323
      replace p323 := eq_true p323
      replace q323 := eq_true q323
      refine start_ (n := 13) (S := fun w' => w'.cell? ⟨gb304, 0, none⟩ = some (.int .i64 a2) ∧ w'.cell? ⟨gb312, 0, none⟩ = some (.slice (some ad313) t309.length co64) ∧ w'.cell? (ad313.add (x58_2).toNat) = some (.slice (some ad323) (rd_L4 t309 x58_2).length c322_0) ∧ w'.cell? (ad323.add (a2).toNat) = some (.int .i64 (rd (rd_L4 t309 x58_2) a2))) (ds := []) ba13_9 (by kernel_rfl) rfl rfl ⟨(blk_cell BK304.out 0).trans rfl, (blk_cell BK312.out 0).trans rfl, hx322_0, hx323_0⟩ (fun hHeld => ?_); refine with_tabW impl_Shares.tab12 impl_Shares.bits12 (fun HT_ HW_ => ?_)
      generalize wr.drew = w87 at HO_10 HO_11 HO_313000 BK303 BK304 BK312 HB HL322_0 HR322_0 hx322_0 hx323_0 hHeld ⊢
      refine pz_ 0 61 ba13_10 HT_ ?_
      refine pt_ 1 62 ba13_11 HT_ HW_ hHeld ?_
      refine pz_ 2 63 ba13_12 HT_ ?_
      refine pz_ 3 64 ba13_13 HT_ ?_
      refine pz_ 5 66 ba13_23 HT_ ?_
      refine pt_ 4 65 ba13_15 HT_ HW_ hHeld ?_
      refine pz_ 6 67 ba13_16 HT_ ?_
      refine pt_ 7 68 ba13_17 HT_ HW_ hHeld ?_
      refine pt_ 8 69 ba13_18 HT_ HW_ hHeld ?_
      refine pz_ 9 70 ba13_19 HT_ ?_
      refine pt_ 10 71 ba13_20 HT_ HW_ hHeld ?_
      refine pz_ 11 72 ba13_21 HT_ ?_
      refine pz_ 12 73 ba13_22 HT_ ?_
      refine done_ (done_of HT_.out (by kernel_rfl)) ?_
      try go_wp2_with (first | ((with_reducible refine gate_builtin (b := .append) (xs := #[.tmp 74, .tmp 76]) rfl ?_); at_builtin; refine Kd.R_append (Kd.int .i64) (w0 := w) w.heap.size rfl (.tmp 74) (.tmp 76) 26 3 (.int .i64 0) 8 rfl Try.underlying26 info3 rfl (by decide) (by omega) u11 x11_2 x58_2 [.int .i64 x58_2] (fun k_ => some k_ ≠ (.slice (some ⟨go59, 0, none⟩) y318.length co59 : Value).ownBlock ∧ k_ ≠ gb304) (fun _ => False) rfl rfl ?aP (fun _ hk => hk.elim) ?aF ?aO ?aB ?aS ?aL ?_; (case aP => exact rfl); (case aB => exact (by repeat (first | (with_reducible first | exact HB.out | apply below_alloc | apply pw_below_drewN | apply below_drew1 | refine below_set ?_ GE303.out | refine below_set ?_ GE304.out | refine below_set ?_ GE312.out) | exact HB.out))); (case aF => exact (fun k_ hk => ⟨Kd.fresh' (Kd.R_lt (hd_ HO_10)) k_ hk, Kd.freshB (g := gb304) (o := .cells #[.int .i64 a2] 3 (0, 0)) (by (with_reducible repeat (first | refine blk_drewN ?_ _ | refine blk_drew ?_ | refine blk_alloc ?_ _)); exact BK304.out) k_ hk⟩)); (case aO => exact (hd_ HO_11)); (case aS => exact (bz_ HB)); (case aL => have := LMc86.out; omega); intro v325 w88 ho hb hg hat; rw [← Ny324.out] at ho; have HO326 := Aside0.mk ho; replace HO_10 := Aside0.mk (Kd.R_after (ok := (fun k_ => k_ ≠ gb304)) (by (with_reducible repeat (first | apply Kd.R_alloc | apply Kd.R_drewN | apply Kd.R_drew)); exact Kd.R_mono HO_10.out (fun _ hk => by first | exact ⟨hk.2, hk.1⟩ | grind)) hg hat); replace HO_313000 := Aside0.mk (Kd.S_after (ok := (fun k_ => some k_ ≠ (.slice (some ⟨go59, 0, none⟩) y318.length co59 : Value).ownBlock ∧ k_ ≠ gb304)) (by (with_reducible repeat (first | apply Kd.S_alloc | apply Kd.S_drewN | apply Kd.S_drew)); exact Kd.S_mono HO_313000.out (fun _ hk => ⟨⟨hk.1, hk.2.2⟩, hk.2.1⟩)) hg hat); replace BK303 := Aside0.mk (blk_grown (g := gb303) (o := .cells #[.int .i64 a0_0, .slice A0_1 l0_1.length c0_1] 30 (0, 0)) (by (with_reducible repeat (first | refine blk_drewN ?_ _ | refine blk_drew ?_ | refine blk_alloc ?_ _)); exact BK303.out) hg (Kd.R_ne HO_11.out BK303.out (by decide))); replace BK304 := Aside0.mk (blk_grown (g := gb304) (o := .cells #[.int .i64 a2] 3 (0, 0)) (by (with_reducible repeat (first | refine blk_drewN ?_ _ | refine blk_drew ?_ | refine blk_alloc ?_ _)); exact BK304.out) hg (Kd.R_away HO_11.out (fun _ hk => hk.2))); replace BK312 := Aside0.mk (blk_grown (g := gb312) (o := .cells #[.slice (some ad313) t309.length co64] 45 (0, 0)) (by (with_reducible repeat (first | refine blk_drewN ?_ _ | refine blk_drew ?_ | refine blk_alloc ?_ _)); exact BK312.out) hg (Kd.R_ne HO_11.out BK312.out (by decide))); replace HL322_0 := Aside0.mk (Kd.R_after (ok := (fun k_ => some k_ ≠ (.slice (some ⟨go59, 0, none⟩) y318.length co59 : Value).ownBlock ∧ some k_ ≠ (.slice (some ad313) t309.length co64 : Value).ownBlock ∧ k_ ≠ gb304)) (by (with_reducible repeat (first | apply Kd.R_alloc | apply Kd.R_drewN | apply Kd.R_drew)); exact Kd.R_mono HL322_0.out (fun _ hk => ⟨⟨hk.1.1, ⟨hk.2, hk.1.2.2⟩⟩, hk.1.2.1⟩)) hg hat); replace HB := Aside0.mk (hb); clear HO_11; clear ho hb hg hat))
      (try simp only [← hl10_2])
      go_roundg k2
      case measure => have := HJ4.out; have := HK2.out; omega
      case rel => exact ⟨(y324), (wrap64 (x58_2 + 1)), (by first | rfl | (simp; done) | (simp [*]; done)), H', ⟨by have := HJ4.out; have := HK2.out; omega⟩, ⟨by (try simp only [hl10_2]); (with_reducible repeat (first | apply Kd.R_alloc | apply Kd.R_drewN | apply Kd.R_drew)); exact Kd.R_mono HO_10.out (fun _ hk => by first | exact ⟨hk.2, hk.1⟩ | grind)⟩, ⟨by (try simp only [hl10_2]); (with_reducible repeat (first | apply Kd.R_alloc | apply Kd.R_drewN | apply Kd.R_drew)); exact HO326.out⟩, ⟨by (try simp only [hl10_2]); (with_reducible repeat (first | apply Kd.S_alloc | apply Kd.S_drewN | apply Kd.S_drew)); exact Kd.S_mono HO_313000.out (fun _ hk => ⟨hk.1.1, ⟨hk.2, hk.1.2⟩⟩)⟩, ⟨by (try simp only [hl10_2]); (with_reducible repeat (first | refine blk_drewN ?_ _ | refine blk_drew ?_ | refine blk_alloc ?_ _)); exact BK303.out⟩, ⟨by (try simp only [hl10_2]); (with_reducible repeat (first | refine blk_drewN ?_ _ | refine blk_drew ?_ | refine blk_alloc ?_ _)); exact BK304.out⟩, ⟨by (try simp only [hl10_2]); (with_reducible repeat (first | refine blk_drewN ?_ _ | refine blk_drew ?_ | refine blk_alloc ?_ _)); exact BK312.out⟩, ⟨by repeat (first | (with_reducible first | exact HB.out | apply below_alloc | apply pw_below_drewN | apply below_drew1 | refine below_set ?_ GE303.out | refine below_set ?_ GE304.out | refine below_set ?_ GE312.out) | exact HB.out)⟩⟩
     rw [if_neg c78] at H
     have c78b0 : decide (x58_2 < a0_0) = false := decide_eq_false c78
     clear c78
     replace H := Option.bind_eq_some_iff.mp H
     obtain ⟨t327, A900, H⟩ := H
     have A90 := Aside0.mk A900
     clear A900
     have H' := Aside0.mk H
     clear H
     obtain ⟨Ao91, co91, eo91⟩ := Kd.R_slice HO_11.out
     subst eo91
     go_wp2_with (first | ((with_reducible refine gate_callee (f := 56) rfl ?_); refine gl_ (some 81) Try.func56 #[.slice Ao91 x11_2.length co91, .func (.func 57) #[] #[.pointer (some ⟨gb312, 0, none⟩), .pointer (some ⟨gb304, 0, none⟩)]] ?_; (with_reducible refine (slices_SortFunc_int_int.calls k2 (fun k_ => some k_ = (.slice Ao91 x11_2.length co91 : Value).ownBlock) (.slice Ao91 x11_2.length co91) x11_2 _ [t309] _ [a2] t327 w _ ?side1 ?side2 ?side3 ?side4 A90.out).mono ?_); (case side1 => exact by_ HB); (case side2 => exact Kd.R_tight rfl HO_11.out); (case side3 => exact C_box1_kept (cs := [.slice (some ad313) t309.length co64]) (by (with_reducible repeat (first | refine blk_drewN ?_ _ | refine blk_drew ?_ | refine blk_alloc ?_ _)); exact BK312.out) (fun hs_ => (Kd.R_ne HO_11.out BK312.out (by decide)) hs_) (fun W_ hk_ => ⟨_, _, rfl, ((Kd.S_reads' HO_313000.out).2.1), (Kd.C_kept_own ((Kd.S_R HO_313000.out)) (fun k_ hk_ hs_ => by first | exact (hk_.2.1) hs_ | grind)) _ hk_⟩)); (case side4 => exact C_box1_kept (cs := [.int .i64 a2]) (by (with_reducible repeat (first | refine blk_drewN ?_ _ | refine blk_drew ?_ | refine blk_alloc ?_ _)); exact BK304.out) (fun hs_ => (fun e_ => (Kd.R_away HO_11.out (fun _ hk => hk.2)) e_) hs_) (fun W_ hk_ => rfl)); rintro e w92 ⟨rfl, hy0, hb, hkp⟩; refine ⟨_, rfl, ?_⟩; replace HO_10 := kp_ (fun k_ => some k_ ≠ (.slice Ao91 x11_2.length co91 : Value).ownBlock ∧ k_ ≠ gb304) (HO_10.out) hkp; replace HO_313000 := Aside0.mk (Kd.S_mono (ok' := fun k_ => some k_ ≠ (.slice (some ⟨go59, 0, none⟩) y318.length co59 : Value).ownBlock ∧ some k_ ≠ (.slice Ao91 x11_2.length co91 : Value).ownBlock ∧ k_ ≠ gb304) (Kd.S_keptB (HO_313000.out) hkp (fun k_ hk_ hs_ => by first | exact (hk_.2.1) hs_ | grind)) (fun k_ hk_ => by first | exact ⟨hk_.1.1, hk_.1.2.1, hk_.1.2.2⟩ | grind)); replace BK303 := bk_ BK303 hkp (fun hs_ => (Kd.R_ne HO_11.out BK303.out (by decide)) hs_); replace BK304 := bk_ BK304 hkp (fun hs_ => (fun e_ => (Kd.R_away HO_11.out (fun _ hk => hk.2)) e_) hs_); replace BK312 := bk_ BK312 hkp (fun hs_ => (Kd.R_ne HO_11.out BK312.out (by decide)) hs_); replace HO_11 := Aside0.mk (Kd.R_reok rfl hy0 (fun k_ e_ => HO_11.out.1 k_ e_)); replace HB := Aside0.mk (hb); (try clear hb); (try clear hkp); (try clear hy0)))
     (try simp only [Act.put, List.setIfInBounds_toArray, List.set_cons_zero, List.set_cons_succ])
     go_loopg [84] k2 (fun kq v84 w' => ∃ (x10_3 : List Int) (x84_3 : Int) (x305000_3 : Int), v84 = .int .i64 x84_3 ∧ Aside0 (impl_Shares.l1 kq x10_3 t327 (x11_2.length : Int) x84_3 a0_0 l0_1 x305000_3 t309 = some r) ∧ Aside0 (kq ≤ k2) ∧ Aside0 (Kd.R (Kd.int .i64) 3 w' w.heap.size (fun k_ => some k_ ≠ ((.slice Ao91 x11_2.length co91) : Value).ownBlock ∧ k_ ≠ gb304) (.slice (some ⟨go59, 0, none⟩) y318.length co59) x10_3) ∧ Aside0 (Kd.R (Kd.int .i64) 3 w' w.heap.size (fun k_ => some k_ ≠ ((.slice (some ⟨go59, 0, none⟩) y318.length co59) : Value).ownBlock ∧ k_ ≠ gb304) (.slice Ao91 x11_2.length co91) t327) ∧ Aside0 (Kd.S (Kd.slice 3 (Kd.int .i64)) 26 w' w.heap.size (fun k_ => some k_ ≠ ((.slice (some ⟨go59, 0, none⟩) y318.length co59) : Value).ownBlock ∧ some k_ ≠ ((.slice Ao91 x11_2.length co91) : Value).ownBlock ∧ k_ ≠ gb304) (.slice (some ad313) t309.length co64) t309) ∧ Aside0 (w'.heap[gb303]? = some (.cells #[.int .i64 a0_0, (.slice A0_1 l0_1.length c0_1)] 30 (0, 0))) ∧ Aside0 (w'.heap[gb304]? = some (.cells #[.int .i64 x305000_3] 3 (0, 0))) ∧ Aside0 (w'.heap[gb312]? = some (.cells #[(.slice (some ad313) t309.length co64)] 45 (0, 0))) ∧ Aside0 (Below w.heap.size w w'))
     case atStart => exact ⟨(y318), (0), (a2), (by first | rfl | (simp; done) | (simp [*]; done)), H', ⟨Nat.le_refl _⟩, ⟨by (try simp only [hl10_2]); (with_reducible repeat (first | apply Kd.R_alloc | apply Kd.R_drewN | apply Kd.R_drew)); exact HO_10.out⟩, ⟨by (try simp only [hl10_2]); (with_reducible repeat (first | apply Kd.R_alloc | apply Kd.R_drewN | apply Kd.R_drew)); exact HO_11.out⟩, ⟨by (try simp only [hl10_2]); (with_reducible repeat (first | apply Kd.S_alloc | apply Kd.S_drewN | apply Kd.S_drew)); exact HO_313000.out⟩, ⟨by (try simp only [hl10_2]); (with_reducible repeat (first | refine blk_drewN ?_ _ | refine blk_drew ?_ | refine blk_alloc ?_ _)); exact BK303.out⟩, ⟨by (try simp only [hl10_2]); (with_reducible repeat (first | refine blk_drewN ?_ _ | refine blk_drew ?_ | refine blk_alloc ?_ _)); exact BK304.out⟩, ⟨by (try simp only [hl10_2]); (with_reducible repeat (first | refine blk_drewN ?_ _ | refine blk_drew ?_ | refine blk_alloc ?_ _)); exact BK312.out⟩, ⟨by repeat (first | (with_reducible first | exact HB.out | apply below_alloc | apply pw_below_drewN | apply below_drew1 | refine below_set ?_ GE303.out | refine below_set ?_ GE304.out | refine below_set ?_ GE312.out) | exact HB.out)⟩⟩
     case round =>
      clear H'
      try clear p2
      try clear c3
      try clear p3
      try clear q3
      try clear hx3
      try clear c5
      try clear p5
      try clear q5
      try clear hx5
      try clear hf5
      try clear c6
      try clear p6
      try clear c7
      try clear c8
      try clear p31
      try clear q31
      try clear hx31
      try clear c32
      try clear p32
      try clear q32
      try clear hx32
      try clear c51
      try clear c52
      try clear c55
      try clear c56
      try clear c56b0
      try clear c56b1
      try clear c57
      try clear c57b0
      try clear c57b1
      try clear c58
      try clear c58b0
      try clear p59
      try clear q59
      try clear hx59
      try clear hf59
      try clear c60
      try clear p64
      try clear c65
      try clear c66
      try clear c78
      try clear c78b0
      try clear c79
      try clear c79b0
      try clear c79b1
      try clear c81
      try clear c81b0
      try clear c82
      try clear c82b0
      try clear c83
      try clear c83b0
      try clear c84
      try clear c84b0
      try clear c85
      try clear c85b0
      try clear c86
      try clear hcz16_0
      try clear hcz16_1
      try clear hcz18_0
      try clear hcz18_1
      try clear hcz20_0
      try clear hcz20_1
      try clear hcz21_0
      try clear hcz24_0
      try clear hcz24_1
      try clear hcz26_0
      try clear hcz26_1
      try clear hcz28_0
      try clear hcz28_1
      try clear hcz29_0
      try clear hcz32_0
      try clear hcz32_1
      try clear hcz34_0
      try clear hcz34_1
      try clear hcz37_0
      try clear hcz37_1
      try clear hcz47_0
      try clear hcz47_1
      try clear hcz53_0
      try clear hcz61_0
      try clear hcz61_1
      try clear hcz67_0
      try clear hcz70_0
      try clear hcz70_1
      try clear hcz77_0
      try clear hcz77_1
      try clear hfz16_0
      try clear hfz16_1
      try clear hfz18_0
      try clear hfz18_1
      try clear hfz20_0
      try clear hfz20_1
      try clear hfz21_0
      try clear hfz24_0
      try clear hfz24_1
      try clear hfz26_0
      try clear hfz26_1
      try clear hfz28_0
      try clear hfz28_1
      try clear hfz29_0
      try clear hfz32_0
      try clear hfz32_1
      try clear hfz34_0
      try clear hfz34_1
      try clear hfz37_0
      try clear hfz37_1
      try clear hfz47_0
      try clear hfz47_1
      try clear hfz53_0
      try clear hfz61_0
      try clear hfz61_1
      try clear hfz67_0
      try clear hfz70_0
      try clear hfz70_1
      try clear hfz77_0
      try clear hfz77_1
      try clear hx313_0
      try clear hx314_0
      try clear hx322_0
      try clear hx323_0
      try clear hx59_0
      try clear p2
      try clear p313
      try clear p314
      try clear p322
      try clear p323
      try clear p59
      try clear q313
      try clear q314
      try clear q322
      try clear q323
      try clear q59
      obtain ⟨x10_3, x84_3, x305000_3, rfl, HA, HK3, HO_10, HO_82, HO_313000, BK303, BK304, BK312, HB⟩ := hrel
      have hl10_3 := (Kd.R_reads' HO_10.out).1
      rw [hl10_3] at HO_10
      (try simp only [hl10_3])
      (try simp only [hl10_3] at BK303)
      (try simp only [hl10_3] at BK304)
      (try simp only [hl10_3] at BK312)
      (try simp only [hl10_3] at HO_82)
      (try simp only [hl10_3] at HO_313000)
      have hl82_3 := (Kd.R_reads' HO_82.out).1
      rw [hl82_3] at HO_82
      (try simp only [hl82_3])
      (try simp only [hl82_3] at BK303)
      (try simp only [hl82_3] at BK304)
      (try simp only [hl82_3] at BK312)
      (try simp only [hl82_3] at HO_10)
      (try simp only [hl82_3] at HO_313000)
      cases gk with
      | zero => exact absurd HA.out (by simp [impl_Shares.l1])
      | succ k3 =>
       have H := HA.out
       clear HA
       simp only [impl_Shares.l1] at H
       by_cases c93 : x84_3 < (x11_2.length : Int)
       rotate_left
       ·rw [if_neg c93] at H
        have c93b0 : decide (x84_3 < (x11_2.length : Int)) = false := decide_eq_false c93
        (try simp only [hl10_2] at c93b0)
        (try simp only [hl10_3] at c93b0)
        (try simp only [hl82_3] at c93b0)
        clear c93
        obtain rfl := Option.some.inj H
        go_wp2
        go_ret
        exact ⟨_, by first | rfl | (simp [errW_none, errW_some] <;> rfl) | (simp [*, errW_none, errW_some] <;> rfl), by (with_reducible repeat (first | apply Kd.R_alloc | apply Kd.R_drewN | apply Kd.R_drew)); exact Kd.R_mono HO_10.out (fun _ hk => trivial), by repeat (first | (with_reducible first | exact HB.out | apply below_alloc | apply pw_below_drewN | apply below_drew1 | refine below_set ?_ GE303.out | refine below_set ?_ GE304.out | refine below_set ?_ GE312.out) | exact HB.out)⟩
       rw [if_pos c93] at H
       have c93b0 : decide (x84_3 < (x11_2.length : Int)) = true := decide_eq_true c93
       clear c93
       by_cases c94 : 0 ≤ x84_3
       rotate_left
       ·rw [if_neg c94] at H
        exact absurd H (by simp)
       rw [if_pos c94] at H
       have c94b0 : decide (0 ≤ x84_3) = true := decide_eq_true c94
       clear c94
       by_cases c95 : x84_3 < (t327.length : Int)
       rotate_left
       ·rw [if_neg c95] at H
        exact absurd H (by simp)
       rw [if_pos c95] at H
       have c95b0 : decide (x84_3 < (t327.length : Int)) = true := decide_eq_true c95
       clear c95
       replace H := Option.bind_eq_some_iff.mp H
       obtain ⟨t329, A960, H⟩ := H
       have A96 := Aside0.mk A960
       clear A960
       have H' := Aside0.mk H
       clear H
       have p328 : 0 ≤ (x84_3 : Int) := of_decide_eq_true (by first | (with_reducible assumption) | assumption)
       have q328 : x84_3 < (t327.length : Int) := of_decide_eq_true (by first | (with_reducible assumption) | assumption)
       obtain ⟨ad328, e328, hx328_0⟩ := Kd.at_int (Kd.R_reads' HO_82.out).2.2 x84_3 p328 q328
       cases e328
       replace p328 := eq_true p328
       replace q328 := eq_true q328
       have hnb97 := NB303_304.out
       have hnc97 := NB304_303.out
       have hnb98 := NB303_312.out
       have hnc98 := NB312_303.out
       have hcz99_0 := cz_ BK303 0 (.int .i64 a0_0)
       have hcz99_1 := cz_ BK303 1 (.slice A0_1 l0_1.length c0_1)
       have hfz99_0 := blk_frozen BK303.out 0
       have hfz99_1 := blk_frozen BK303.out 1
       have hnb100 := NB304_312.out
       have hnc100 := NB312_304.out
       have hcz101_0 := cz_ BK304 0 (.int .i64 x305000_3)
       have hfz101_0 := blk_frozen BK304.out 0
       have hcz102_0 := cz_ BK312 0 (.slice (some ad313) t309.length co64)
       have hfz102_0 := blk_frozen BK312.out 0
       go_wp2_with (first | ((with_reducible refine gate_callee (f := 58) rfl ?_); refine gl_ (some 92) Try.func58 #[.agg #[.int .i64 a0_0, .slice A0_1 l0_1.length c0_1], .int .i64 (rd t327 x84_3), .int .i64 x305000_3, .slice (some ad313) t309.length co64] ?_; (with_reducible refine (impl_Graph_hopsTo.calls k3 a0_0 _ _ l0_1 (rd t327 x84_3) x305000_3 _ _ t309 t329 _ ?side1 ?side2 ?side3 ?side4 A96.out).mono ?_); (case side1 => exact cb_ HR0_1 HB); (case side2 => exact HC0_1.out); (case side3 => repeat (first | exact (Kd.S_reads' HO_313000.out).2.2 | (with_reducible refine Kd.C_alloc ?_ _) | (with_reducible refine Kd.C_drewN ?_ _) | (with_reducible refine Kd.C_drew ?_))); (case side4 => exact (Kd.S_reads' HO_313000.out).2.1); rintro e w103 ⟨v330, rfl, ho0, hb⟩; refine ⟨_, rfl, ?_⟩; have HO331 := Aside0.mk (Kd.R_lower (Kd.R_newB (Kd.R_new' (Kd.R_new' ho0 (Kd.R_lt (hd_ HO_10))) (Kd.R_lt (hd_ HO_82))) (g := gb304) (o := .cells #[.int .i64 x305000_3] 3 (0, 0)) (by (with_reducible repeat (first | refine blk_drewN ?_ _ | refine blk_drew ?_ | refine blk_alloc ?_ _)); exact BK304.out)) (bz_ HB)); replace HO_313000 := Aside0.mk (Kd.S_elder' (by (with_reducible repeat (first | apply Kd.S_alloc | apply Kd.S_drewN | apply Kd.S_drew)); exact HO_313000.out) (Kd.R_base ho0) hb); replace HO_10 := Aside0.mk (Kd.R_elder' (hd_ HO_10) (Kd.R_base ho0) hb); replace HO_82 := Aside0.mk (Kd.R_elder' (hd_ HO_82) (Kd.R_base ho0) hb); replace BK303 := Aside0.mk (bb_ BK303 hb); replace BK304 := Aside0.mk (bb_ BK304 hb); replace BK312 := Aside0.mk (bb_ BK312 hb); replace HB := Aside0.mk (bt_ HB hb); (try clear hb); (try clear hb2); (try clear hk); (try clear hi); (try clear ho0); obtain ⟨Ao104, co104, eo104⟩ := Kd.R_slice HO331.out; subst eo104))
       (try simp only [Act.put, List.setIfInBounds_toArray, List.set_cons_zero, List.set_cons_succ])
       go_loopg [95] k3 (fun kq v95 w' => ∃ (x10_4 : List Int) (x95_4 : Int) (x305000_4 : Int), v95 = .int .i64 x95_4 ∧ Aside0 (impl_Shares.l2 kq x10_4 (rd t327 x84_3) t329 t327 (x11_2.length : Int) x84_3 t329 (t329.length : Int) x95_4 a0_0 l0_1 x305000_4 t309 = some r) ∧ Aside0 (kq ≤ k3) ∧ Aside0 (Kd.R (Kd.int .i64) 3 w' w.heap.size (fun k_ => some k_ ≠ ((.slice Ao104 t329.length co104) : Value).ownBlock ∧ some k_ ≠ ((.slice (some ad328) t327.length co91) : Value).ownBlock ∧ some k_ ≠ ((.slice Ao104 t329.length co104) : Value).ownBlock ∧ k_ ≠ gb304) (.slice (some ⟨go59, 0, none⟩) x10_3.length co59) x10_4) ∧ Aside0 (Kd.R (Kd.int .i64) 3 w' w.heap.size (fun k_ => some k_ ≠ ((.slice (some ⟨go59, 0, none⟩) x10_3.length co59) : Value).ownBlock ∧ some k_ ≠ ((.slice (some ad328) t327.length co91) : Value).ownBlock ∧ k_ ≠ gb304) (.slice Ao104 t329.length co104) t329) ∧ Aside0 (Kd.R (Kd.int .i64) 3 w' w.heap.size (fun k_ => some k_ ≠ ((.slice (some ⟨go59, 0, none⟩) x10_3.length co59) : Value).ownBlock ∧ some k_ ≠ ((.slice Ao104 t329.length co104) : Value).ownBlock ∧ some k_ ≠ ((.slice Ao104 t329.length co104) : Value).ownBlock ∧ k_ ≠ gb304) (.slice (some ad328) t327.length co91) t327) ∧ Aside0 (Kd.R (Kd.int .i64) 3 w' w.heap.size (fun k_ => some k_ ≠ ((.slice (some ⟨go59, 0, none⟩) x10_3.length co59) : Value).ownBlock ∧ some k_ ≠ ((.slice (some ad328) t327.length co91) : Value).ownBlock ∧ k_ ≠ gb304) (.slice Ao104 t329.length co104) t329) ∧ Aside0 (Kd.S (Kd.slice 3 (Kd.int .i64)) 26 w' w.heap.size (fun k_ => some k_ ≠ ((.slice (some ⟨go59, 0, none⟩) x10_3.length co59) : Value).ownBlock ∧ some k_ ≠ ((.slice Ao104 t329.length co104) : Value).ownBlock ∧ some k_ ≠ ((.slice (some ad328) t327.length co91) : Value).ownBlock ∧ some k_ ≠ ((.slice Ao104 t329.length co104) : Value).ownBlock ∧ k_ ≠ gb304) (.slice (some ad313) t309.length co64) t309) ∧ Aside0 (w'.heap[gb303]? = some (.cells #[.int .i64 a0_0, (.slice A0_1 l0_1.length c0_1)] 30 (0, 0))) ∧ Aside0 (w'.heap[gb304]? = some (.cells #[.int .i64 x305000_4] 3 (0, 0))) ∧ Aside0 (w'.heap[gb312]? = some (.cells #[(.slice (some ad313) t309.length co64)] 45 (0, 0))) ∧ Aside0 (Below w.heap.size w w'))
       case atStart => exact ⟨(x10_3), (0), (x305000_3), (by first | rfl | (simp; done) | (simp [*]; done)), H', ⟨Nat.le_refl _⟩, ⟨by (try simp only [hl10_2]); (try simp only [hl10_3]); (try simp only [hl82_3]); (with_reducible repeat (first | apply Kd.R_alloc | apply Kd.R_drewN | apply Kd.R_drew)); exact Kd.R_mono HO_10.out (fun _ hk => ⟨hk.2, ⟨hk.1.1, ⟨hk.2, hk.1.2⟩⟩⟩)⟩, ⟨by (try simp only [hl10_2]); (try simp only [hl10_3]); (try simp only [hl82_3]); (with_reducible repeat (first | apply Kd.R_alloc | apply Kd.R_drewN | apply Kd.R_drew)); exact Kd.R_mono HO331.out (fun _ hk => ⟨hk.1.1.2, ⟨hk.1.2, hk.2⟩⟩)⟩, ⟨by (try simp only [hl10_2]); (try simp only [hl10_3]); (try simp only [hl82_3]); (with_reducible repeat (first | apply Kd.R_alloc | apply Kd.R_drewN | apply Kd.R_drew)); exact Kd.R_mono HO_82.out (fun _ hk => ⟨hk.1.1, ⟨hk.2, ⟨hk.2, hk.1.2⟩⟩⟩)⟩, ⟨by (try simp only [hl10_2]); (try simp only [hl10_3]); (try simp only [hl82_3]); (with_reducible repeat (first | apply Kd.R_alloc | apply Kd.R_drewN | apply Kd.R_drew)); exact Kd.R_mono HO331.out (fun _ hk => ⟨hk.1.1.2, ⟨hk.1.2, hk.2⟩⟩)⟩, ⟨by (try simp only [hl10_2]); (try simp only [hl10_3]); (try simp only [hl82_3]); (with_reducible repeat (first | apply Kd.S_alloc | apply Kd.S_drewN | apply Kd.S_drew)); exact Kd.S_mono HO_313000.out (fun _ hk => ⟨hk.1.1, ⟨hk.2, ⟨hk.1.2.1, ⟨hk.2, hk.1.2.2⟩⟩⟩⟩)⟩, ⟨by (try simp only [hl10_2]); (try simp only [hl10_3]); (try simp only [hl82_3]); (with_reducible repeat (first | refine blk_drewN ?_ _ | refine blk_drew ?_ | refine blk_alloc ?_ _)); exact BK303.out⟩, ⟨by (try simp only [hl10_2]); (try simp only [hl10_3]); (try simp only [hl82_3]); (with_reducible repeat (first | refine blk_drewN ?_ _ | refine blk_drew ?_ | refine blk_alloc ?_ _)); exact BK304.out⟩, ⟨by (try simp only [hl10_2]); (try simp only [hl10_3]); (try simp only [hl82_3]); (with_reducible repeat (first | refine blk_drewN ?_ _ | refine blk_drew ?_ | refine blk_alloc ?_ _)); exact BK312.out⟩, ⟨by repeat (first | (with_reducible first | exact HB.out | apply below_alloc | apply pw_below_drewN | apply below_drew1 | refine below_set ?_ GE303.out | refine below_set ?_ GE304.out | refine below_set ?_ GE312.out) | exact HB.out)⟩⟩
       case round =>
        clear H'
        try clear c1
        try clear p2
        try clear c3
        try clear p3
        try clear q3
        try clear hx3
        try clear c5
        try clear p5
        try clear q5
        try clear hx5
        try clear hf5
        try clear c6
        try clear p6
        try clear c7
        try clear c8
        try clear c9
        try clear c10
        try clear p31
        try clear q31
        try clear hx31
        try clear c32
        try clear p32
        try clear q32
        try clear hx32
        try clear c51
        try clear c52
        try clear c55
        try clear c56
        try clear c56b0
        try clear c56b1
        try clear c57
        try clear c57b0
        try clear c57b1
        try clear c58
        try clear c58b0
        try clear p59
        try clear q59
        try clear hx59
        try clear hf59
        try clear c60
        try clear p64
        try clear c65
        try clear c66
        try clear c78
        try clear c78b0
        try clear c79
        try clear c79b0
        try clear c79b1
        try clear c81
        try clear c81b0
        try clear c82
        try clear c82b0
        try clear c83
        try clear c83b0
        try clear c84
        try clear c84b0
        try clear c85
        try clear c85b0
        try clear c86
        try clear c93
        try clear c93b0
        try clear c94
        try clear c94b0
        try clear c95
        try clear c95b0
        try clear c97
        try clear c98
        try clear c100
        try clear hcz101_0
        try clear hcz102_0
        try clear hcz16_0
        try clear hcz16_1
        try clear hcz18_0
        try clear hcz18_1
        try clear hcz20_0
        try clear hcz20_1
        try clear hcz21_0
        try clear hcz24_0
        try clear hcz24_1
        try clear hcz26_0
        try clear hcz26_1
        try clear hcz28_0
        try clear hcz28_1
        try clear hcz29_0
        try clear hcz32_0
        try clear hcz32_1
        try clear hcz34_0
        try clear hcz34_1
        try clear hcz37_0
        try clear hcz37_1
        try clear hcz47_0
        try clear hcz47_1
        try clear hcz53_0
        try clear hcz61_0
        try clear hcz61_1
        try clear hcz67_0
        try clear hcz70_0
        try clear hcz70_1
        try clear hcz77_0
        try clear hcz77_1
        try clear hcz99_0
        try clear hcz99_1
        try clear hfz101_0
        try clear hfz102_0
        try clear hfz16_0
        try clear hfz16_1
        try clear hfz18_0
        try clear hfz18_1
        try clear hfz20_0
        try clear hfz20_1
        try clear hfz21_0
        try clear hfz24_0
        try clear hfz24_1
        try clear hfz26_0
        try clear hfz26_1
        try clear hfz28_0
        try clear hfz28_1
        try clear hfz29_0
        try clear hfz32_0
        try clear hfz32_1
        try clear hfz34_0
        try clear hfz34_1
        try clear hfz37_0
        try clear hfz37_1
        try clear hfz47_0
        try clear hfz47_1
        try clear hfz53_0
        try clear hfz61_0
        try clear hfz61_1
        try clear hfz67_0
        try clear hfz70_0
        try clear hfz70_1
        try clear hfz77_0
        try clear hfz77_1
        try clear hfz99_0
        try clear hfz99_1
        try clear hx313_0
        try clear hx314_0
        try clear hx322_0
        try clear hx323_0
        try clear hx328_0
        try clear hx59_0
        try clear p2
        try clear p3
        try clear p31
        try clear p313
        try clear p314
        try clear p32
        try clear p322
        try clear p323
        try clear p328
        try clear p5
        try clear p59
        try clear p6
        try clear p64
        try clear q3
        try clear q31
        try clear q313
        try clear q314
        try clear q32
        try clear q322
        try clear q323
        try clear q328
        try clear q5
        try clear q59
        obtain ⟨x10_4, x95_4, x305000_4, rfl, HA, HK4, HO_10, HO_15, HO_82, HO_93, HO_313000, BK303, BK304, BK312, HB⟩ := hrel
        have hl10_4 := (Kd.R_reads' HO_10.out).1
        rw [hl10_4] at HO_10
        (try simp only [hl10_4])
        (try simp only [hl10_4] at BK303)
        (try simp only [hl10_4] at BK304)
        (try simp only [hl10_4] at BK312)
        (try simp only [hl10_4] at HO_15)
        (try simp only [hl10_4] at HO_82)
        (try simp only [hl10_4] at HO_93)
        (try simp only [hl10_4] at HO_313000)
        cases gk with
        | zero => exact absurd HA.out (by simp [impl_Shares.l2])
        | succ k4 =>
         have H := HA.out
         clear HA
         simp only [impl_Shares.l2] at H
         by_cases c105 : x95_4 < (t329.length : Int)
         rotate_left
         ·rw [if_neg c105] at H
          have c105b0 : decide (x95_4 < (t329.length : Int)) = false := decide_eq_false c105
          (try simp only [hl10_2] at c105b0)
          (try simp only [hl10_3] at c105b0)
          (try simp only [hl82_3] at c105b0)
          (try simp only [hl10_4] at c105b0)
          clear c105
          have H' := Aside0.mk H
          clear H
          go_wp2
          (try simp only [← hl10_3, ← hl82_3, ← hl10_4])
          go_roundg k4
          case measure => have := HJ4.out; have := HK2.out; have := HK3.out; have := HK4.out; omega
          case rel => exact ⟨(x10_4), (wrap64 (x84_3 + 1)), (x305000_4), (by first | rfl | (simp; done) | (simp [*]; done)), H', ⟨by have := HJ4.out; have := HK2.out; have := HK3.out; have := HK4.out; omega⟩, ⟨by (try simp only [hl10_2]); (try simp only [hl10_3]); (try simp only [hl82_3]); (try simp only [hl10_4]); (with_reducible repeat (first | apply Kd.R_alloc | apply Kd.R_drewN | apply Kd.R_drew)); exact Kd.R_mono HO_10.out (fun _ hk => by first | exact ⟨hk.2.1, hk.2.2.2⟩ | grind)⟩, ⟨by (try simp only [hl10_2]); (try simp only [hl10_3]); (try simp only [hl82_3]); (try simp only [hl10_4]); (with_reducible repeat (first | apply Kd.R_alloc | apply Kd.R_drewN | apply Kd.R_drew)); exact Kd.R_mono HO_82.out (fun _ hk => by first | exact ⟨hk.1, hk.2.2.2⟩ | grind)⟩, ⟨by (try simp only [hl10_2]); (try simp only [hl10_3]); (try simp only [hl82_3]); (try simp only [hl10_4]); (with_reducible repeat (first | apply Kd.S_alloc | apply Kd.S_drewN | apply Kd.S_drew)); exact Kd.S_mono HO_313000.out (fun _ hk => ⟨hk.1, ⟨hk.2.2.1, hk.2.2.2.2⟩⟩)⟩, ⟨by (try simp only [hl10_2]); (try simp only [hl10_3]); (try simp only [hl82_3]); (try simp only [hl10_4]); (with_reducible repeat (first | refine blk_drewN ?_ _ | refine blk_drew ?_ | refine blk_alloc ?_ _)); exact BK303.out⟩, ⟨by (try simp only [hl10_2]); (try simp only [hl10_3]); (try simp only [hl82_3]); (try simp only [hl10_4]); (with_reducible repeat (first | refine blk_drewN ?_ _ | refine blk_drew ?_ | refine blk_alloc ?_ _)); exact BK304.out⟩, ⟨by (try simp only [hl10_2]); (try simp only [hl10_3]); (try simp only [hl82_3]); (try simp only [hl10_4]); (with_reducible repeat (first | refine blk_drewN ?_ _ | refine blk_drew ?_ | refine blk_alloc ?_ _)); exact BK312.out⟩, ⟨by repeat (first | (with_reducible first | exact HB.out | apply below_alloc | apply pw_below_drewN | apply below_drew1 | refine below_set ?_ GE303.out | refine below_set ?_ GE304.out | refine below_set ?_ GE312.out) | exact HB.out)⟩⟩
         rw [if_pos c105] at H
         have c105b0 : decide (x95_4 < (t329.length : Int)) = true := decide_eq_true c105
         clear c105
         by_cases c106 : 0 ≤ x95_4
         rotate_left
         ·rw [if_neg c106] at H
          exact absurd H (by simp)
         rw [if_pos c106] at H
         have c106b0 : decide (0 ≤ x95_4) = true := decide_eq_true c106
         clear c106
         by_cases c107 : x95_4 < (t329.length : Int)
         rotate_left
         ·rw [if_neg c107] at H
          exact absurd H (by simp)
         rw [if_pos c107] at H
         have c107b0 : decide (x95_4 < (t329.length : Int)) = true := decide_eq_true c107
         clear c107
         by_cases c108 : 0 ≤ (rd t329 x95_4)
         rotate_left
         ·rw [if_neg c108] at H
          exact absurd H (by simp)
         rw [if_pos c108] at H
         have c108b0 : decide (0 ≤ (rd t329 x95_4)) = true := decide_eq_true c108
         clear c108
         by_cases c109 : (rd t329 x95_4) < (x10_4.length : Int)
         rotate_left
         ·rw [if_neg c109] at H
          exact absurd H (by simp)
         rw [if_pos c109] at H
         have c109b0 : decide ((rd t329 x95_4) < (x10_4.length : Int)) = true := decide_eq_true c109
         clear c109
         by_cases c110 : 0 ≤ (rd t327 x84_3)
         rotate_left
         ·rw [if_neg c110] at H
          exact absurd H (by simp)
         rw [if_pos c110] at H
         have c110b0 : decide (0 ≤ (rd t327 x84_3)) = true := decide_eq_true c110
         clear c110
         by_cases c111 : (rd t327 x84_3) < (x10_4.length : Int)
         rotate_left
         ·rw [if_neg c111] at H
          exact absurd H (by simp)
         rw [if_pos c111] at H
         have c111b0 : decide ((rd t327 x84_3) < (x10_4.length : Int)) = true := decide_eq_true c111
         clear c111
         by_cases c112 : (t329.length : Int) = 0
         ·rw [if_pos c112] at H
          exact absurd H (by simp)
         rw [if_neg c112] at H
         have c112b0 : ((t329.length : Int) == 0) = false := beq_eq_false_iff_ne.mpr c112
         have c112b1 : ((t329.length : Int) != 0) = true := bne_iff_ne.mpr c112
         have c112b2 : ¬ (t329 = []) := fun h_ => c112 (by rw [h_]; rfl)
         obtain ⟨y335, hy335⟩ : ∃ y_ : List Int, y_ = (x10_4.set ((rd t329 x95_4) : Int).toNat (wrap64 ((rd x10_4 (rd t329 x95_4)) + (wrap64 (Int.tdiv (rd x10_4 (rd t327 x84_3)) (t329.length : Int)))))) := ⟨_, rfl⟩
         replace H : (if x95_4 < (Int.tmod (rd y335 (rd t327 x84_3)) (t329.length : Int)) then (impl_Shares.l2 k4 (y335.set ((rd t329 x95_4) : Int).toNat (wrap64 ((wrap64 ((rd x10_4 (rd t329 x95_4)) + (wrap64 (Int.tdiv (rd x10_4 (rd t327 x84_3)) (t329.length : Int))))) + 1))) (rd t327 x84_3) t329 t327 (x11_2.length : Int) x84_3 t329 (t329.length : Int) (wrap64 (x95_4 + 1)) a0_0 l0_1 x305000_4 t309) else (impl_Shares.l2 k4 y335 (rd t327 x84_3) t329 t327 (x11_2.length : Int) x84_3 t329 (t329.length : Int) (wrap64 (x95_4 + 1)) a0_0 l0_1 x305000_4 t309)) = some r := by first | (rw [hy335]; with_reducible exact H) | (have H2_ := (Option.bind_some _ _).symm.trans H; rw [hy335]; with_reducible exact H2_) | (have H2_ := (Option.bind_some _ _).symm.trans H; with_reducible exact H2_) | with_reducible exact H | (rw [hy335]; exact H) | exact H
         have Ny335 := Aside0.mk hy335
         clear hy335
         by_cases c114 : x95_4 < (Int.tmod (rd y335 (rd t327 x84_3)) (t329.length : Int))
         rotate_left
         ·rw [if_neg c114] at H
          have c114b0 : decide (x95_4 < (Int.tmod (rd y335 (rd t327 x84_3)) (t329.length : Int))) = false := decide_eq_false c114
          clear c114
          have H' := Aside0.mk H
          clear H
          have p332 : 0 ≤ (x95_4 : Int) := of_decide_eq_true (by first | (with_reducible assumption) | assumption)
          have q332 : x95_4 < (t329.length : Int) := of_decide_eq_true (by first | (with_reducible assumption) | assumption)
          obtain ⟨ad332, e332, hx332_0⟩ := Kd.at_int (Kd.R_reads' HO_93.out).2.2 x95_4 p332 q332
          cases e332
          replace p332 := eq_true p332
          replace q332 := eq_true q332
          try go_wp2
          replace HO_10 := Aside0.mk (Kd.R_drew HO_10.out)
          replace HO_15 := Aside0.mk (Kd.R_drew HO_15.out)
          replace HO_82 := Aside0.mk (Kd.R_drew HO_82.out)
          replace HO_93 := Aside0.mk (Kd.R_drew HO_93.out)
          replace HO_313000 := Aside0.mk (Kd.S_drew HO_313000.out)
          replace BK303 := Aside0.mk (blk_drew BK303.out)
          replace BK304 := Aside0.mk (blk_drew BK304.out)
          replace BK312 := Aside0.mk (blk_drew BK312.out)
          replace HB := Aside0.mk (below_drew1 HB.out)
          have p333 : 0 ≤ ((rd t329 x95_4) : Int) := of_decide_eq_true (by first | (with_reducible assumption) | assumption)
          have q333 : (rd t329 x95_4) < (x10_4.length : Int) := of_decide_eq_true (by first | (with_reducible assumption) | assumption)
          obtain ⟨ad333, e333, hx333_0⟩ := Kd.at_int (Kd.R_reads' HO_10.out).2.2 (rd t329 x95_4) p333 q333
          obtain rfl : (⟨go59, 0, none⟩ : Addr) = ad333 := (by injection e333)
          (first | simp only [add_plain] at hx333_0 | simp only [add_at] at hx333_0 | simp only [Addr.add, Nat.zero_add] at hx333_0 | skip)
          replace p333 := eq_true p333
          replace q333 := eq_true q333
          have p334 : 0 ≤ ((rd t327 x84_3) : Int) := of_decide_eq_true (by first | (with_reducible assumption) | assumption)
          have q334 : (rd t327 x84_3) < (x10_4.length : Int) := of_decide_eq_true (by first | (with_reducible assumption) | assumption)
          obtain ⟨ad334, e334, hx334_0⟩ := Kd.at_int (Kd.R_reads' HO_10.out).2.2 (rd t327 x84_3) p334 q334
          obtain rfl : (⟨go59, 0, none⟩ : Addr) = ad334 := (by injection e334)
          (first | simp only [add_plain] at hx334_0 | simp only [add_at] at hx334_0 | simp only [Addr.add, Nat.zero_add] at hx334_0 | skip)
          replace p334 := eq_true p334
          replace q334 := eq_true q334
          have p113 : 0 ≤ ((rd t329 x95_4) : Int) := of_decide_eq_true (by first | (with_reducible assumption) | assumption)
          have q113 : ((rd t329 x95_4) : Int) < ((x10_4.length : Int) : Int) := of_decide_eq_true (by first | (with_reducible assumption) | assumption)
          obtain ⟨hx113_0, hf113_0⟩ := Kd.R_celln 0 HO_10.out ((rd t329 x95_4) : Int) p113 q113
          replace p113 := eq_true p113
          replace q113 := eq_true q113
          have HP123 := Kd.R_putn HO_10.out ((rd t329 x95_4) : Int) (wrap64 ((rd x10_4 (rd t329 x95_4)) + (wrap64 (Int.tdiv (rd x10_4 (rd t327 x84_3)) (t329.length : Int)))))
          rw [← Ny335.out] at HP123
          have HQ123 := Aside0.mk HP123
          clear HP123
          refine start_ (n := 14) (S := fun w' => w'.cell? ⟨go59, ((rd t329 x95_4)).toNat, none⟩ = some (.int .i64 (rd x10_4 (rd t329 x95_4))) ∧ w'.cell? ⟨go59, ((rd t327 x84_3)).toNat, none⟩ = some (.int .i64 (rd x10_4 (rd t327 x84_3)))) (ds := [13]) ba13_24 (by kernel_rfl) rfl rfl ⟨hx333_0, hx334_0⟩ (fun hHeld => ?_); refine with_tabW impl_Shares.tab23 impl_Shares.bits23 (fun HT_ HW_ => ?_)
          generalize wr.drew = w122 at HO_10 HO_15 HO_82 HO_93 HO_313000 BK303 BK304 BK312 HB HQ123 hf113_0 hx113_0 hx333_0 hx334_0 hHeld ⊢
          refine pz_ 0 100 ba13_25 HT_ ?_
          refine pz_ 1 101 ba13_26 HT_ ?_
          refine pz_ 2 102 ba13_27 HT_ ?_
          refine pz_ 4 104 ba13_28 HT_ ?_
          refine pz_ 5 105 ba13_29 HT_ ?_
          refine pz_ 6 106 ba13_30 HT_ ?_
          refine pz_ 8 108 ba13_31 HT_ ?_
          refine pz_ 9 109 ba13_32 HT_ ?_
          refine pt_ 3 103 ba13_33 HT_ HW_ hHeld ?_
          refine pt_ 7 107 ba13_34 HT_ HW_ hHeld ?_
          refine pz_ 10 110 ba13_35 HT_ ?_
          refine pz_ 11 111 ba13_36 HT_ ?_
          refine pz_ 12 112 ba13_37 HT_ ?_
          refine last_ (i := 13) (N := none) ba13_38 rfl rfl (one_of HT_.out (by kernel_rfl)) (by decide) (fun K hK => ?_)
          refine skip_ (w1 := ?_) (by rfl) rfl ?_ ?_
          rotate_left; · go_simp; rfl
          refine hK.out _ _ ?_
          clear hK K
          refine done_ (done_of HT_.out (by kernel_rfl)) ?_
          have p336 : 0 ≤ ((rd t327 x84_3) : Int) := of_decide_eq_true (by first | (with_reducible assumption) | assumption)
          have q336 : (rd t327 x84_3) < (y335.length : Int) := (by have h_ : ((rd t327 x84_3) : Int) < ((x10_4.length : Int) : Int) := of_decide_eq_true (by first | (with_reducible assumption) | assumption); first | (have e_ := (Kd.R_reads' HO_10.out).1; omega) | simpa only [Ny335.out, List.length_set] using h_)
          have ql336 : (((rd t327 x84_3) : Int) < ((x10_4.length : Int) : Int)) = True := eq_true (of_decide_eq_true (by first | (with_reducible assumption) | assumption))
          obtain ⟨ad336, e336, hx336_0⟩ := Kd.at_int (Kd.R_reads' HQ123.out).2.2 (rd t327 x84_3) p336 q336
          obtain rfl : (⟨go59, 0, none⟩ : Addr) = ad336 := (by injection e336)
          (first | simp only [add_plain] at hx336_0 | simp only [add_at] at hx336_0 | simp only [Addr.add, Nat.zero_add] at hx336_0 | skip)
          replace p336 := eq_true p336
          replace q336 := eq_true q336
          try go_wp2
          (try simp only [← hl10_4])
          go_roundg k4
          case measure => have := HJ4.out; have := HK2.out; have := HK3.out; have := HK4.out; omega
          case rel => exact ⟨(y335), (wrap64 (x95_4 + 1)), (x305000_4), (by first | rfl | (simp; done) | (simp [*]; done)), H', ⟨by have := HJ4.out; have := HK2.out; have := HK3.out; have := HK4.out; omega⟩, ⟨by (try simp only [hl10_2]); (try simp only [hl10_3]); (try simp only [hl82_3]); (try simp only [hl10_4]); (with_reducible repeat (first | apply Kd.R_alloc | apply Kd.R_drewN | apply Kd.R_drew)); exact HQ123.out⟩, ⟨by (try simp only [hl10_2]); (try simp only [hl10_3]); (try simp only [hl82_3]); (try simp only [hl10_4]); (with_reducible repeat (first | apply Kd.R_alloc | apply Kd.R_drewN | apply Kd.R_drew)); exact Kd.R_mono (Kd.R_far (p := ⟨go59, ((rd t329 x95_4) : Int).toNat, none⟩) (Kd.R_mono HO_15.out (fun k_ hk => (⟨hk, fun e_ => hk.1 (by rw [e_]; rfl)⟩ : _ ∧ k_ ≠ go59))) (fun _ hk => hk.2) (.int .i64 (wrap64 ((rd x10_4 (rd t329 x95_4)) + (wrap64 (Int.tdiv (rd x10_4 (rd t327 x84_3)) (t329.length : Int))))))) (fun _ hk => ⟨hk.1.1, ⟨hk.1.2.1, hk.1.2.2⟩⟩)⟩, ⟨by (try simp only [hl10_2]); (try simp only [hl10_3]); (try simp only [hl82_3]); (try simp only [hl10_4]); (with_reducible repeat (first | apply Kd.R_alloc | apply Kd.R_drewN | apply Kd.R_drew)); exact Kd.R_mono (Kd.R_far (p := ⟨go59, ((rd t329 x95_4) : Int).toNat, none⟩) (Kd.R_mono HO_82.out (fun k_ hk => (⟨hk, fun e_ => hk.1 (by rw [e_]; rfl)⟩ : _ ∧ k_ ≠ go59))) (fun _ hk => hk.2) (.int .i64 (wrap64 ((rd x10_4 (rd t329 x95_4)) + (wrap64 (Int.tdiv (rd x10_4 (rd t327 x84_3)) (t329.length : Int))))))) (fun _ hk => ⟨hk.1.1, ⟨hk.1.2.1, ⟨hk.1.2.2.1, hk.1.2.2.2⟩⟩⟩)⟩, ⟨by (try simp only [hl10_2]); (try simp only [hl10_3]); (try simp only [hl82_3]); (try simp only [hl10_4]); (with_reducible repeat (first | apply Kd.R_alloc | apply Kd.R_drewN | apply Kd.R_drew)); exact Kd.R_mono (Kd.R_far (p := ⟨go59, ((rd t329 x95_4) : Int).toNat, none⟩) (Kd.R_mono HO_93.out (fun k_ hk => (⟨hk, fun e_ => hk.1 (by rw [e_]; rfl)⟩ : _ ∧ k_ ≠ go59))) (fun _ hk => hk.2) (.int .i64 (wrap64 ((rd x10_4 (rd t329 x95_4)) + (wrap64 (Int.tdiv (rd x10_4 (rd t327 x84_3)) (t329.length : Int))))))) (fun _ hk => ⟨hk.1.1, ⟨hk.1.2.1, hk.1.2.2⟩⟩)⟩, ⟨by (try simp only [hl10_2]); (try simp only [hl10_3]); (try simp only [hl82_3]); (try simp only [hl10_4]); (with_reducible repeat (first | apply Kd.S_alloc | apply Kd.S_drewN | apply Kd.S_drew)); exact Kd.S_mono (Kd.S_far (p := ⟨go59, ((rd t329 x95_4) : Int).toNat, none⟩) (Kd.S_mono HO_313000.out (fun k_ hk => (⟨hk, fun e_ => hk.1 (by rw [e_]; rfl)⟩ : _ ∧ k_ ≠ go59))) (fun _ hk => hk.2) (.int .i64 (wrap64 ((rd x10_4 (rd t329 x95_4)) + (wrap64 (Int.tdiv (rd x10_4 (rd t327 x84_3)) (t329.length : Int))))))) (fun _ hk => ⟨hk.1.1, ⟨hk.1.2.1, ⟨hk.1.2.2.1, ⟨hk.1.2.2.2.1, hk.1.2.2.2.2⟩⟩⟩⟩)⟩, ⟨by (try simp only [hl10_2]); (try simp only [hl10_3]); (try simp only [hl82_3]); (try simp only [hl10_4]); (with_reducible repeat (first | refine blk_drewN ?_ _ | refine blk_drew ?_ | refine blk_alloc ?_ _)); refine blk_far ?_ (by have h_ := Kd.R_ne HO_10.out BK303.out (by decide); intro e_; exact h_ (by rw [e_]; rfl)) _; (with_reducible repeat (first | refine blk_drewN ?_ _ | refine blk_drew ?_ | refine blk_alloc ?_ _)); exact BK303.out⟩, ⟨by (try simp only [hl10_2]); (try simp only [hl10_3]); (try simp only [hl82_3]); (try simp only [hl10_4]); (with_reducible repeat (first | refine blk_drewN ?_ _ | refine blk_drew ?_ | refine blk_alloc ?_ _)); refine blk_far ?_ (by have h_ := Kd.R_away HO_10.out (fun _ hk => hk.2.2.2); intro e_; exact h_ (by rw [e_]; rfl)) _; (with_reducible repeat (first | refine blk_drewN ?_ _ | refine blk_drew ?_ | refine blk_alloc ?_ _)); exact BK304.out⟩, ⟨by (try simp only [hl10_2]); (try simp only [hl10_3]); (try simp only [hl82_3]); (try simp only [hl10_4]); (with_reducible repeat (first | refine blk_drewN ?_ _ | refine blk_drew ?_ | refine blk_alloc ?_ _)); refine blk_far ?_ (by have h_ := Kd.R_ne HO_10.out BK312.out (by decide); intro e_; exact h_ (by rw [e_]; rfl)) _; (with_reducible repeat (first | refine blk_drewN ?_ _ | refine blk_drew ?_ | refine blk_alloc ?_ _)); exact BK312.out⟩, ⟨by repeat (first | (with_reducible first | exact HB.out | apply below_alloc | apply pw_below_drewN | apply below_drew1 | refine below_set ?_ GB59.out | refine below_set ?_ GE303.out | refine below_set ?_ GE304.out | refine below_set ?_ GE312.out) | exact HB.out)⟩⟩
         rw [if_pos c114] at H
         have c114b0 : decide (x95_4 < (Int.tmod (rd y335 (rd t327 x84_3)) (t329.length : Int))) = true := decide_eq_true c114
         clear c114
         obtain ⟨y338, hy338⟩ : ∃ y_ : List Int, y_ = (y335.set ((rd t329 x95_4) : Int).toNat (wrap64 ((wrap64 ((rd x10_4 (rd t329 x95_4)) + (wrap64 (Int.tdiv (rd x10_4 (rd t327 x84_3)) (t329.length : Int))))) + 1))) := ⟨_, rfl⟩
         replace H : (impl_Shares.l2 k4 y338 (rd t327 x84_3) t329 t327 (x11_2.length : Int) x84_3 t329 (t329.length : Int) (wrap64 (x95_4 + 1)) a0_0 l0_1 x305000_4 t309) = some r := by first | (rw [hy338]; with_reducible exact H) | (have H2_ := (Option.bind_some _ _).symm.trans H; rw [hy338]; with_reducible exact H2_) | (have H2_ := (Option.bind_some _ _).symm.trans H; with_reducible exact H2_) | with_reducible exact H | (rw [hy338]; exact H) | exact H
         have Ny338 := Aside0.mk hy338
         clear hy338
         have H' := Aside0.mk H
         clear H
         have p332 : 0 ≤ (x95_4 : Int) := of_decide_eq_true (by first | (with_reducible assumption) | assumption)
         have q332 : x95_4 < (t329.length : Int) := of_decide_eq_true (by first | (with_reducible assumption) | assumption)
         obtain ⟨ad332, e332, hx332_0⟩ := Kd.at_int (Kd.R_reads' HO_93.out).2.2 x95_4 p332 q332
         cases e332
         replace p332 := eq_true p332
         replace q332 := eq_true q332
         try go_wp2
         replace HO_10 := Aside0.mk (Kd.R_drew HO_10.out)
         replace HO_15 := Aside0.mk (Kd.R_drew HO_15.out)
         replace HO_82 := Aside0.mk (Kd.R_drew HO_82.out)
         replace HO_93 := Aside0.mk (Kd.R_drew HO_93.out)
         replace HO_313000 := Aside0.mk (Kd.S_drew HO_313000.out)
         replace BK303 := Aside0.mk (blk_drew BK303.out)
         replace BK304 := Aside0.mk (blk_drew BK304.out)
         replace BK312 := Aside0.mk (blk_drew BK312.out)
         replace HB := Aside0.mk (below_drew1 HB.out)
         have p333 : 0 ≤ ((rd t329 x95_4) : Int) := of_decide_eq_true (by first | (with_reducible assumption) | assumption)
         have q333 : (rd t329 x95_4) < (x10_4.length : Int) := of_decide_eq_true (by first | (with_reducible assumption) | assumption)
         obtain ⟨ad333, e333, hx333_0⟩ := Kd.at_int (Kd.R_reads' HO_10.out).2.2 (rd t329 x95_4) p333 q333
         obtain rfl : (⟨go59, 0, none⟩ : Addr) = ad333 := (by injection e333)
         (first | simp only [add_plain] at hx333_0 | simp only [add_at] at hx333_0 | simp only [Addr.add, Nat.zero_add] at hx333_0 | skip)
         replace p333 := eq_true p333
         replace q333 := eq_true q333
         have p334 : 0 ≤ ((rd t327 x84_3) : Int) := of_decide_eq_true (by first | (with_reducible assumption) | assumption)
         have q334 : (rd t327 x84_3) < (x10_4.length : Int) := of_decide_eq_true (by first | (with_reducible assumption) | assumption)
         obtain ⟨ad334, e334, hx334_0⟩ := Kd.at_int (Kd.R_reads' HO_10.out).2.2 (rd t327 x84_3) p334 q334
         obtain rfl : (⟨go59, 0, none⟩ : Addr) = ad334 := (by injection e334)
         (first | simp only [add_plain] at hx334_0 | simp only [add_at] at hx334_0 | simp only [Addr.add, Nat.zero_add] at hx334_0 | skip)
         replace p334 := eq_true p334
         replace q334 := eq_true q334
         have p113 : 0 ≤ ((rd t329 x95_4) : Int) := of_decide_eq_true (by first | (with_reducible assumption) | assumption)
         have q113 : ((rd t329 x95_4) : Int) < ((x10_4.length : Int) : Int) := of_decide_eq_true (by first | (with_reducible assumption) | assumption)
         obtain ⟨hx113_0, hf113_0⟩ := Kd.R_celln 0 HO_10.out ((rd t329 x95_4) : Int) p113 q113
         replace p113 := eq_true p113
         replace q113 := eq_true q113
         have HP118 := Kd.R_putn HO_10.out ((rd t329 x95_4) : Int) (wrap64 ((rd x10_4 (rd t329 x95_4)) + (wrap64 (Int.tdiv (rd x10_4 (rd t327 x84_3)) (t329.length : Int)))))
         rw [← Ny335.out] at HP118
         have HQ118 := Aside0.mk HP118
         clear HP118
         refine start_ (n := 14) (S := fun w' => w'.cell? ⟨go59, ((rd t329 x95_4)).toNat, none⟩ = some (.int .i64 (rd x10_4 (rd t329 x95_4))) ∧ w'.cell? ⟨go59, ((rd t327 x84_3)).toNat, none⟩ = some (.int .i64 (rd x10_4 (rd t327 x84_3)))) (ds := [13]) ba13_24 (by kernel_rfl) rfl rfl ⟨hx333_0, hx334_0⟩ (fun hHeld => ?_); refine with_tabW impl_Shares.tab23 impl_Shares.bits23 (fun HT_ HW_ => ?_)
         generalize wr.drew = w117 at HO_10 HO_15 HO_82 HO_93 HO_313000 BK303 BK304 BK312 HB HQ118 hf113_0 hx113_0 hx333_0 hx334_0 hHeld ⊢
         refine pz_ 0 100 ba13_25 HT_ ?_
         refine pz_ 1 101 ba13_26 HT_ ?_
         refine pz_ 2 102 ba13_27 HT_ ?_
         refine pz_ 4 104 ba13_28 HT_ ?_
         refine pz_ 5 105 ba13_29 HT_ ?_
         refine pz_ 6 106 ba13_30 HT_ ?_
         refine pz_ 8 108 ba13_31 HT_ ?_
         refine pz_ 9 109 ba13_32 HT_ ?_
         refine pt_ 3 103 ba13_33 HT_ HW_ hHeld ?_
         refine pt_ 7 107 ba13_34 HT_ HW_ hHeld ?_
         refine pz_ 10 110 ba13_35 HT_ ?_
         refine pz_ 11 111 ba13_36 HT_ ?_
         refine pz_ 12 112 ba13_37 HT_ ?_
         refine last_ (i := 13) (N := none) ba13_38 rfl rfl (one_of HT_.out (by kernel_rfl)) (by decide) (fun K hK => ?_)
         refine skip_ (w1 := ?_) (by rfl) rfl ?_ ?_
         rotate_left; · go_simp; rfl
         refine hK.out _ _ ?_
         clear hK K
         refine done_ (done_of HT_.out (by kernel_rfl)) ?_
         have n0_ : Aside0 (Kd.R (Kd.int .i64) 3 (w117.setCell ⟨go59, ((rd t329 x95_4) : Int).toNat, none⟩ (.int .i64 (wrap64 ((rd x10_4 (rd t329 x95_4)) + (wrap64 (Int.tdiv (rd x10_4 (rd t327 x84_3)) (t329.length : Int))))))) w.heap.size (fun k_ => some k_ ≠ (.slice (some ad332) t329.length co104 : Value).ownBlock ∧ some k_ ≠ (.slice (some ad328) t327.length co91 : Value).ownBlock ∧ some k_ ≠ (.slice (some ad332) t329.length co104 : Value).ownBlock ∧ k_ ≠ gb304) (.slice (some ⟨go59, 0, none⟩) x10_4.length co59) y335) := ⟨by (with_reducible repeat (first | apply Kd.R_alloc | apply Kd.R_drewN | apply Kd.R_drew)); exact HQ118.out⟩
         have n1_ : Aside0 (Kd.R (Kd.int .i64) 3 (w117.setCell ⟨go59, ((rd t329 x95_4) : Int).toNat, none⟩ (.int .i64 (wrap64 ((rd x10_4 (rd t329 x95_4)) + (wrap64 (Int.tdiv (rd x10_4 (rd t327 x84_3)) (t329.length : Int))))))) w.heap.size (fun k_ => some k_ ≠ (.slice (some ⟨go59, 0, none⟩) x10_4.length co59 : Value).ownBlock ∧ some k_ ≠ (.slice (some ad328) t327.length co91 : Value).ownBlock ∧ k_ ≠ gb304) (.slice (some ad332) t329.length co104) t329) := ⟨by (with_reducible repeat (first | apply Kd.R_alloc | apply Kd.R_drewN | apply Kd.R_drew)); exact Kd.R_mono (Kd.R_far (p := ⟨go59, ((rd t329 x95_4) : Int).toNat, none⟩) (Kd.R_mono HO_15.out (fun k_ hk => (⟨hk, fun e_ => hk.1 (by rw [e_]; rfl)⟩ : _ ∧ k_ ≠ go59))) (fun _ hk => hk.2) (.int .i64 (wrap64 ((rd x10_4 (rd t329 x95_4)) + (wrap64 (Int.tdiv (rd x10_4 (rd t327 x84_3)) (t329.length : Int))))))) (fun _ hk => ⟨hk.1.1, ⟨hk.1.2.1, hk.1.2.2⟩⟩)⟩
         have n2_ : Aside0 (Kd.R (Kd.int .i64) 3 (w117.setCell ⟨go59, ((rd t329 x95_4) : Int).toNat, none⟩ (.int .i64 (wrap64 ((rd x10_4 (rd t329 x95_4)) + (wrap64 (Int.tdiv (rd x10_4 (rd t327 x84_3)) (t329.length : Int))))))) w.heap.size (fun k_ => some k_ ≠ (.slice (some ⟨go59, 0, none⟩) x10_4.length co59 : Value).ownBlock ∧ some k_ ≠ (.slice (some ad332) t329.length co104 : Value).ownBlock ∧ some k_ ≠ (.slice (some ad332) t329.length co104 : Value).ownBlock ∧ k_ ≠ gb304) (.slice (some ad328) t327.length co91) t327) := ⟨by (with_reducible repeat (first | apply Kd.R_alloc | apply Kd.R_drewN | apply Kd.R_drew)); exact Kd.R_mono (Kd.R_far (p := ⟨go59, ((rd t329 x95_4) : Int).toNat, none⟩) (Kd.R_mono HO_82.out (fun k_ hk => (⟨hk, fun e_ => hk.1 (by rw [e_]; rfl)⟩ : _ ∧ k_ ≠ go59))) (fun _ hk => hk.2) (.int .i64 (wrap64 ((rd x10_4 (rd t329 x95_4)) + (wrap64 (Int.tdiv (rd x10_4 (rd t327 x84_3)) (t329.length : Int))))))) (fun _ hk => ⟨hk.1.1, ⟨hk.1.2.1, ⟨hk.1.2.2.1, hk.1.2.2.2⟩⟩⟩)⟩
         have n3_ : Aside0 (Kd.R (Kd.int .i64) 3 (w117.setCell ⟨go59, ((rd t329 x95_4) : Int).toNat, none⟩ (.int .i64 (wrap64 ((rd x10_4 (rd t329 x95_4)) + (wrap64 (Int.tdiv (rd x10_4 (rd t327 x84_3)) (t329.length : Int))))))) w.heap.size (fun k_ => some k_ ≠ (.slice (some ⟨go59, 0, none⟩) x10_4.length co59 : Value).ownBlock ∧ some k_ ≠ (.slice (some ad328) t327.length co91 : Value).ownBlock ∧ k_ ≠ gb304) (.slice (some ad332) t329.length co104) t329) := ⟨by (with_reducible repeat (first | apply Kd.R_alloc | apply Kd.R_drewN | apply Kd.R_drew)); exact Kd.R_mono (Kd.R_far (p := ⟨go59, ((rd t329 x95_4) : Int).toNat, none⟩) (Kd.R_mono HO_93.out (fun k_ hk => (⟨hk, fun e_ => hk.1 (by rw [e_]; rfl)⟩ : _ ∧ k_ ≠ go59))) (fun _ hk => hk.2) (.int .i64 (wrap64 ((rd x10_4 (rd t329 x95_4)) + (wrap64 (Int.tdiv (rd x10_4 (rd t327 x84_3)) (t329.length : Int))))))) (fun _ hk => ⟨hk.1.1, ⟨hk.1.2.1, hk.1.2.2⟩⟩)⟩
         have n4_ : Aside0 (Kd.S (Kd.slice 3 (Kd.int .i64)) 26 (w117.setCell ⟨go59, ((rd t329 x95_4) : Int).toNat, none⟩ (.int .i64 (wrap64 ((rd x10_4 (rd t329 x95_4)) + (wrap64 (Int.tdiv (rd x10_4 (rd t327 x84_3)) (t329.length : Int))))))) w.heap.size (fun k_ => some k_ ≠ (.slice (some ⟨go59, 0, none⟩) x10_4.length co59 : Value).ownBlock ∧ some k_ ≠ (.slice (some ad332) t329.length co104 : Value).ownBlock ∧ some k_ ≠ (.slice (some ad328) t327.length co91 : Value).ownBlock ∧ some k_ ≠ (.slice (some ad332) t329.length co104 : Value).ownBlock ∧ k_ ≠ gb304) (.slice (some ad313) t309.length co64) t309) := ⟨by (with_reducible repeat (first | apply Kd.S_alloc | apply Kd.S_drewN | apply Kd.S_drew)); exact Kd.S_mono (Kd.S_far (p := ⟨go59, ((rd t329 x95_4) : Int).toNat, none⟩) (Kd.S_mono HO_313000.out (fun k_ hk => (⟨hk, fun e_ => hk.1 (by rw [e_]; rfl)⟩ : _ ∧ k_ ≠ go59))) (fun _ hk => hk.2) (.int .i64 (wrap64 ((rd x10_4 (rd t329 x95_4)) + (wrap64 (Int.tdiv (rd x10_4 (rd t327 x84_3)) (t329.length : Int))))))) (fun _ hk => ⟨hk.1.1, ⟨hk.1.2.1, ⟨hk.1.2.2.1, ⟨hk.1.2.2.2.1, hk.1.2.2.2.2⟩⟩⟩⟩)⟩
         have n5_ : Aside0 ((w117.setCell ⟨go59, ((rd t329 x95_4) : Int).toNat, none⟩ (.int .i64 (wrap64 ((rd x10_4 (rd t329 x95_4)) + (wrap64 (Int.tdiv (rd x10_4 (rd t327 x84_3)) (t329.length : Int))))))).heap[gb303]? = some (.cells #[.int .i64 a0_0, .slice A0_1 l0_1.length c0_1] 30 (0, 0))) := ⟨by (with_reducible repeat (first | refine blk_drewN ?_ _ | refine blk_drew ?_ | refine blk_alloc ?_ _)); refine blk_far ?_ (by have h_ := Kd.R_ne HO_10.out BK303.out (by decide); intro e_; exact h_ (by rw [e_]; rfl)) _; (with_reducible repeat (first | refine blk_drewN ?_ _ | refine blk_drew ?_ | refine blk_alloc ?_ _)); exact BK303.out⟩
         have n6_ : Aside0 ((w117.setCell ⟨go59, ((rd t329 x95_4) : Int).toNat, none⟩ (.int .i64 (wrap64 ((rd x10_4 (rd t329 x95_4)) + (wrap64 (Int.tdiv (rd x10_4 (rd t327 x84_3)) (t329.length : Int))))))).heap[gb304]? = some (.cells #[.int .i64 x305000_4] 3 (0, 0))) := ⟨by (with_reducible repeat (first | refine blk_drewN ?_ _ | refine blk_drew ?_ | refine blk_alloc ?_ _)); refine blk_far ?_ (by have h_ := Kd.R_away HO_10.out (fun _ hk => hk.2.2.2); intro e_; exact h_ (by rw [e_]; rfl)) _; (with_reducible repeat (first | refine blk_drewN ?_ _ | refine blk_drew ?_ | refine blk_alloc ?_ _)); exact BK304.out⟩
         have n7_ : Aside0 ((w117.setCell ⟨go59, ((rd t329 x95_4) : Int).toNat, none⟩ (.int .i64 (wrap64 ((rd x10_4 (rd t329 x95_4)) + (wrap64 (Int.tdiv (rd x10_4 (rd t327 x84_3)) (t329.length : Int))))))).heap[gb312]? = some (.cells #[.slice (some ad313) t309.length co64] 45 (0, 0))) := ⟨by (with_reducible repeat (first | refine blk_drewN ?_ _ | refine blk_drew ?_ | refine blk_alloc ?_ _)); refine blk_far ?_ (by have h_ := Kd.R_ne HO_10.out BK312.out (by decide); intro e_; exact h_ (by rw [e_]; rfl)) _; (with_reducible repeat (first | refine blk_drewN ?_ _ | refine blk_drew ?_ | refine blk_alloc ?_ _)); exact BK312.out⟩
         have n8_ : Aside0 (Below w.heap.size w (w117.setCell ⟨go59, ((rd t329 x95_4) : Int).toNat, none⟩ (.int .i64 (wrap64 ((rd x10_4 (rd t329 x95_4)) + (wrap64 (Int.tdiv (rd x10_4 (rd t327 x84_3)) (t329.length : Int)))))))) := ⟨by repeat (first | (with_reducible first | exact HB.out | apply below_alloc | apply pw_below_drewN | apply below_drew1 | refine below_set ?_ GB59.out | refine below_set ?_ GE303.out | refine below_set ?_ GE304.out | refine below_set ?_ GE312.out) | exact HB.out)⟩
         (try clear HO_10)
         (try clear HO_15)
         (try clear HO_82)
         (try clear HO_93)
         (try clear HO_313000)
         (try clear BK303)
         (try clear BK304)
         (try clear BK312)
         (try clear HB)
         generalize (w117.setCell ⟨go59, ((rd t329 x95_4) : Int).toNat, none⟩ (.int .i64 (wrap64 ((rd x10_4 (rd t329 x95_4)) + (wrap64 (Int.tdiv (rd x10_4 (rd t327 x84_3)) (t329.length : Int))))))) = w119 at n0_ n1_ n2_ n3_ n4_ n5_ n6_ n7_ n8_ ⊢
         have HO_10 := n0_
         have HO_15 := n1_
         have HO_82 := n2_
         have HO_93 := n3_
         have HO_313000 := n4_
         have BK303 := n5_
         have BK304 := n6_
         have BK312 := n7_
         have HB := n8_
         clear n0_ n1_ n2_ n3_ n4_ n5_ n6_ n7_ n8_
         have p336 : 0 ≤ ((rd t327 x84_3) : Int) := of_decide_eq_true (by first | (with_reducible assumption) | assumption)
         have q336 : (rd t327 x84_3) < (y335.length : Int) := (by have h_ : ((rd t327 x84_3) : Int) < ((x10_4.length : Int) : Int) := of_decide_eq_true (by first | (with_reducible assumption) | assumption); first | (have e_ := (Kd.R_reads' HO_10.out).1; omega) | simpa only [Ny335.out, List.length_set] using h_)
         have ql336 : (((rd t327 x84_3) : Int) < ((x10_4.length : Int) : Int)) = True := eq_true (of_decide_eq_true (by first | (with_reducible assumption) | assumption))
         obtain ⟨ad336, e336, hx336_0⟩ := Kd.at_int (Kd.R_reads' HO_10.out).2.2 (rd t327 x84_3) p336 q336
         obtain rfl : (⟨go59, 0, none⟩ : Addr) = ad336 := (by injection e336)
         (first | simp only [add_plain] at hx336_0 | simp only [add_at] at hx336_0 | simp only [Addr.add, Nat.zero_add] at hx336_0 | skip)
         replace p336 := eq_true p336
         replace q336 := eq_true q336
         have p115 : 0 ≤ ((rd t329 x95_4) : Int) := of_decide_eq_true (by first | (with_reducible assumption) | assumption)
         have q115 : ((rd t329 x95_4) : Int) < ((x10_4.length : Int) : Int) := of_decide_eq_true (by first | (with_reducible assumption) | assumption)
         replace p115 := eq_true p115
         replace q115 := eq_true q115
         have p116 : 0 ≤ ((rd t329 x95_4) : Int) := of_decide_eq_true (by first | (with_reducible assumption) | assumption)
         have q116 : ((rd t329 x95_4) : Int) < ((x10_4.length : Int) : Int) := of_decide_eq_true (by first | (with_reducible assumption) | assumption)
         replace p116 := eq_true p116
         replace q116 := eq_true q116
         obtain ⟨hy120_, hz120_⟩ := Kd.R_celln 0 HO_10.out ((rd t329 x95_4) : Int) (of_decide_eq_true (by first | (with_reducible assumption) | assumption)) (of_decide_eq_true (by first | (with_reducible assumption) | assumption))
         have hrd_ : rdOf 0 y335 (rd t329 x95_4) = (wrap64 ((rd x10_4 (rd t329 x95_4)) + (wrap64 (Int.tdiv (rd x10_4 (rd t327 x84_3)) (t329.length : Int))))) := (by have a_ := of_eq_true p116; have b_ := of_eq_true q116; unfold rdOf; rw [Ny335.out, List.getD_eq_getElem?_getD, List.getElem?_set, if_pos rfl, if_pos (by omega)]; rfl)
         rw [hrd_] at hy120_
         have HP120 := Kd.R_putg HO_10.out ((rd t329 x95_4) : Int) (wrap64 ((wrap64 ((rd x10_4 (rd t329 x95_4)) + (wrap64 (Int.tdiv (rd x10_4 (rd t327 x84_3)) (t329.length : Int))))) + 1))
         go_wp2_with (first | ((with_reducible refine gate_store (t := 3) (p := 127) rfl ?_); refine store_event (t := 3) (p := 127) (v := ?vo_w121) (w1 := (w119.setCell ⟨go59, ((rd t329 x95_4) : Int).toNat, none⟩ (.int .i64 (wrap64 ((wrap64 ((rd x10_4 (rd t329 x95_4)) + (wrap64 (Int.tdiv (rd x10_4 (rd t327 x84_3)) (t329.length : Int))))) + 1))))) ?hg ?ho ?hn ?hr ?_; (case ho => rfl); (case hg => rfl); (case hn => rfl); (case hr => first | (go_simp; done) | (go_simp; rfl)); intro w121 hw; have hg : w119.grownBy w121 (some go59) := (by rw [hw]; exact HP120.2); have hp_ : Kd.R (Kd.int .i64) 3 w121 w.heap.size (fun k_ => some k_ ≠ (.slice (some ad332) t329.length co104 : Value).ownBlock ∧ some k_ ≠ (.slice (some ad328) t327.length co91 : Value).ownBlock ∧ some k_ ≠ (.slice (some ad332) t329.length co104 : Value).ownBlock ∧ k_ ≠ gb304) (.slice (some ⟨go59, 0, none⟩) x10_4.length co59) y338 := (by rw [hw, Ny338.out]; exact HP120.1); clear HP120; replace HO_15 := Aside0.mk (Kd.R_after (v := (.slice (some ⟨go59, 0, none⟩) x10_4.length co59)) (v1 := (.slice (some ⟨go59, 0, none⟩) x10_4.length co59)) (ok := (fun k_ => some k_ ≠ (.slice (some ad328) t327.length co91 : Value).ownBlock ∧ k_ ≠ gb304)) (by (with_reducible repeat (first | apply Kd.R_alloc | apply Kd.R_drewN | apply Kd.R_drew)); exact Kd.R_mono HO_15.out (fun _ hk => ⟨⟨hk.2.1, hk.2.2⟩, hk.1⟩)) hg (.inl rfl)); replace HO_82 := Aside0.mk (Kd.R_after (v := (.slice (some ⟨go59, 0, none⟩) x10_4.length co59)) (v1 := (.slice (some ⟨go59, 0, none⟩) x10_4.length co59)) (ok := (fun k_ => some k_ ≠ (.slice (some ad332) t329.length co104 : Value).ownBlock ∧ some k_ ≠ (.slice (some ad332) t329.length co104 : Value).ownBlock ∧ k_ ≠ gb304)) (by (with_reducible repeat (first | apply Kd.R_alloc | apply Kd.R_drewN | apply Kd.R_drew)); exact Kd.R_mono HO_82.out (fun _ hk => ⟨⟨hk.2.1, ⟨hk.2.2.1, hk.2.2.2⟩⟩, hk.1⟩)) hg (.inl rfl)); replace HO_93 := Aside0.mk (Kd.R_after (v := (.slice (some ⟨go59, 0, none⟩) x10_4.length co59)) (v1 := (.slice (some ⟨go59, 0, none⟩) x10_4.length co59)) (ok := (fun k_ => some k_ ≠ (.slice (some ad328) t327.length co91 : Value).ownBlock ∧ k_ ≠ gb304)) (by (with_reducible repeat (first | apply Kd.R_alloc | apply Kd.R_drewN | apply Kd.R_drew)); exact Kd.R_mono HO_93.out (fun _ hk => ⟨⟨hk.2.1, hk.2.2⟩, hk.1⟩)) hg (.inl rfl)); replace HO_313000 := Aside0.mk (Kd.S_after (v := (.slice (some ⟨go59, 0, none⟩) x10_4.length co59)) (v1 := (.slice (some ⟨go59, 0, none⟩) x10_4.length co59)) (ok := (fun k_ => some k_ ≠ (.slice (some ad332) t329.length co104 : Value).ownBlock ∧ some k_ ≠ (.slice (some ad328) t327.length co91 : Value).ownBlock ∧ some k_ ≠ (.slice (some ad332) t329.length co104 : Value).ownBlock ∧ k_ ≠ gb304)) (by (with_reducible repeat (first | apply Kd.S_alloc | apply Kd.S_drewN | apply Kd.S_drew)); exact Kd.S_mono HO_313000.out (fun _ hk => ⟨⟨hk.2.1, ⟨hk.2.2.1, ⟨hk.2.2.2.1, hk.2.2.2.2⟩⟩⟩, hk.1⟩)) hg (.inl rfl)); replace BK303 := Aside0.mk (blk_grown (g := gb303) (o := .cells #[.int .i64 a0_0, .slice A0_1 l0_1.length c0_1] 30 (0, 0)) (by (with_reducible repeat (first | refine blk_drewN ?_ _ | refine blk_drew ?_ | refine blk_alloc ?_ _)); exact BK303.out) hg (Kd.R_ne HO_10.out BK303.out (by decide))); replace BK304 := Aside0.mk (blk_grown (g := gb304) (o := .cells #[.int .i64 x305000_4] 3 (0, 0)) (by (with_reducible repeat (first | refine blk_drewN ?_ _ | refine blk_drew ?_ | refine blk_alloc ?_ _)); exact BK304.out) hg (Kd.R_away HO_10.out (fun _ hk => hk.2.2.2))); replace BK312 := Aside0.mk (blk_grown (g := gb312) (o := .cells #[.slice (some ad313) t309.length co64] 45 (0, 0)) (by (with_reducible repeat (first | refine blk_drewN ?_ _ | refine blk_drew ?_ | refine blk_alloc ?_ _)); exact BK312.out) hg (Kd.R_ne HO_10.out BK312.out (by decide))); replace HO_10 := Aside0.mk (hp_); replace HB := Aside0.mk ((by rw [hw]; exact below_set (HB.out) GB59.out : Below w.heap.size w w121)); clear hg hw hp_))
         (try simp only [← hl10_4])
         go_roundg k4
         case measure => have := HJ4.out; have := HK2.out; have := HK3.out; have := HK4.out; omega
         case rel => exact ⟨(y338), (wrap64 (x95_4 + 1)), (x305000_4), (by first | rfl | (simp; done) | (simp [*]; done)), H', ⟨by have := HJ4.out; have := HK2.out; have := HK3.out; have := HK4.out; omega⟩, ⟨by (try simp only [hl10_2]); (try simp only [hl10_3]); (try simp only [hl82_3]); (try simp only [hl10_4]); (with_reducible repeat (first | apply Kd.R_alloc | apply Kd.R_drewN | apply Kd.R_drew)); exact HO_10.out⟩, ⟨by (try simp only [hl10_2]); (try simp only [hl10_3]); (try simp only [hl82_3]); (try simp only [hl10_4]); (with_reducible repeat (first | apply Kd.R_alloc | apply Kd.R_drewN | apply Kd.R_drew)); exact Kd.R_mono HO_15.out (fun _ hk => ⟨hk.2, ⟨hk.1.1, hk.1.2⟩⟩)⟩, ⟨by (try simp only [hl10_2]); (try simp only [hl10_3]); (try simp only [hl82_3]); (try simp only [hl10_4]); (with_reducible repeat (first | apply Kd.R_alloc | apply Kd.R_drewN | apply Kd.R_drew)); exact Kd.R_mono HO_82.out (fun _ hk => ⟨hk.2, ⟨hk.1.1, ⟨hk.1.2.1, hk.1.2.2⟩⟩⟩)⟩, ⟨by (try simp only [hl10_2]); (try simp only [hl10_3]); (try simp only [hl82_3]); (try simp only [hl10_4]); (with_reducible repeat (first | apply Kd.R_alloc | apply Kd.R_drewN | apply Kd.R_drew)); exact Kd.R_mono HO_93.out (fun _ hk => ⟨hk.2, ⟨hk.1.1, hk.1.2⟩⟩)⟩, ⟨by (try simp only [hl10_2]); (try simp only [hl10_3]); (try simp only [hl82_3]); (try simp only [hl10_4]); (with_reducible repeat (first | apply Kd.S_alloc | apply Kd.S_drewN | apply Kd.S_drew)); exact Kd.S_mono HO_313000.out (fun _ hk => ⟨hk.2, ⟨hk.1.1, ⟨hk.1.2.1, ⟨hk.1.2.2.1, hk.1.2.2.2⟩⟩⟩⟩)⟩, ⟨by (try simp only [hl10_2]); (try simp only [hl10_3]); (try simp only [hl82_3]); (try simp only [hl10_4]); (with_reducible repeat (first | refine blk_drewN ?_ _ | refine blk_drew ?_ | refine blk_alloc ?_ _)); exact BK303.out⟩, ⟨by (try simp only [hl10_2]); (try simp only [hl10_3]); (try simp only [hl82_3]); (try simp only [hl10_4]); (with_reducible repeat (first | refine blk_drewN ?_ _ | refine blk_drew ?_ | refine blk_alloc ?_ _)); exact BK304.out⟩, ⟨by (try simp only [hl10_2]); (try simp only [hl10_3]); (try simp only [hl82_3]); (try simp only [hl10_4]); (with_reducible repeat (first | refine blk_drewN ?_ _ | refine blk_drew ?_ | refine blk_alloc ?_ _)); exact BK312.out⟩, ⟨by repeat (first | (with_reducible first | exact HB.out | apply below_alloc | apply pw_below_drewN | apply below_drew1 | refine below_set ?_ GE303.out | refine below_set ?_ GE304.out | refine below_set ?_ GE312.out) | exact HB.out)⟩⟩

end Go.Proofs.Ythmahcohcphljaa.QFnExactShares
