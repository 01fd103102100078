/- Contracts of functions that the law reaches: what each call returns and what it leaves in memory. Made by this session over the print of the kit. -/
import Derived.Test.YthmahcohcphljaaQFnHopsx0
import Derived.Test.YthmahcohcphljaaQFnHopsx1
namespace Go.Proofs.Ythmahcohcphljaa.QFnHops
open Go.RowKit Go.Proofs.YthmahcohcphljaaP.PrintWords Go.Proofs.YthmahcohcphljaaP.PrintLast Go.Proofs.YthmahcohcphljaaP.PrintMore
attribute [local go_sem] max2_int min2_int max_two min_two max_three min_three max_four min_four   -- for this text's walks alone
set_option linter.unusedVariables false
set_option linter.unusedSimpArgs false
abbrev tb2 : Bool := true
abbrev fb2 : Bool := false
def ba2_0 : Array Bool := #[fb2,fb2,fb2,fb2,fb2,fb2,fb2,fb2,fb2,fb2,fb2,fb2,fb2,fb2,fb2,fb2,fb2,fb2,fb2,fb2,fb2,fb2,fb2,fb2,fb2,fb2,fb2,fb2,fb2,fb2,fb2,fb2,fb2,fb2,fb2,fb2,fb2,fb2,fb2,fb2]
def ba2_1 : Array Bool := #[fb2,tb2,fb2,fb2,fb2,fb2,fb2,fb2,fb2,fb2,fb2,fb2,fb2,fb2,fb2,fb2,fb2,fb2,fb2,fb2,fb2,fb2,fb2,fb2,fb2,fb2,fb2,fb2,fb2,fb2,fb2,fb2,fb2,fb2,fb2,fb2,fb2,fb2,fb2,fb2]
def ba2_2 : Array Bool := #[tb2,tb2,fb2,fb2,fb2,fb2,fb2,fb2,fb2,fb2,fb2,fb2,fb2,fb2,fb2,fb2,fb2,fb2,fb2,fb2,fb2,fb2,fb2,fb2,fb2,fb2,fb2,fb2,fb2,fb2,fb2,fb2,fb2,fb2,fb2,fb2,fb2,fb2,fb2,fb2]
def ba2_3 : Array Bool := #[tb2,tb2,tb2,fb2,fb2,fb2,fb2,fb2,fb2,fb2,fb2,fb2,fb2,fb2,fb2,fb2,fb2,fb2,fb2,fb2,fb2,fb2,fb2,fb2,fb2,fb2,fb2,fb2,fb2,fb2,fb2,fb2,fb2,fb2,fb2,fb2,fb2,fb2,fb2,fb2]
def ba2_4 : Array Bool := #[tb2,tb2,tb2,tb2,fb2,fb2,fb2,fb2,fb2,fb2,fb2,fb2,fb2,fb2,fb2,fb2,fb2,fb2,fb2,fb2,fb2,fb2,fb2,fb2,fb2,fb2,fb2,fb2,fb2,fb2,fb2,fb2,fb2,fb2,fb2,fb2,fb2,fb2,fb2,fb2]
def ba2_5 : Array Bool := #[tb2,tb2,tb2,tb2,tb2,fb2,fb2,fb2,fb2,fb2,fb2,fb2,fb2,fb2,fb2,fb2,fb2,fb2,fb2,fb2,fb2,fb2,fb2,fb2,fb2,fb2,fb2,fb2,fb2,fb2,fb2,fb2,fb2,fb2,fb2,fb2,fb2,fb2,fb2,fb2]
def ba2_6 : Array Bool := #[tb2,tb2,tb2,tb2,tb2,tb2,fb2,fb2,fb2,fb2,fb2,fb2,fb2,fb2,fb2,fb2,fb2,fb2,fb2,fb2,fb2,fb2,fb2,fb2,fb2,fb2,fb2,fb2,fb2,fb2,fb2,fb2,fb2,fb2,fb2,fb2,fb2,fb2,fb2,fb2]
def ba2_7 : Array Bool := #[tb2,tb2,tb2,tb2,tb2,tb2,fb2,tb2,fb2,fb2,fb2,fb2,fb2,fb2,fb2,fb2,fb2,fb2,fb2,fb2,fb2,fb2,fb2,fb2,fb2,fb2,fb2,fb2,fb2,fb2,fb2,fb2,fb2,fb2,fb2,fb2,fb2,fb2,fb2,fb2]
def ba2_8 : Array Bool := #[tb2,tb2,tb2,tb2,tb2,tb2,tb2,tb2,fb2,fb2,fb2,fb2,fb2,fb2,fb2,fb2,fb2,fb2,fb2,fb2,fb2,fb2,fb2,fb2,fb2,fb2,fb2,fb2,fb2,fb2,fb2,fb2,fb2,fb2,fb2,fb2,fb2,fb2,fb2,fb2]
def ba2_9 : Array Bool := #[tb2,tb2,tb2,tb2,tb2,tb2,tb2,tb2,tb2,fb2,fb2,fb2,fb2,fb2,fb2,fb2,fb2,fb2,fb2,fb2,fb2,fb2,fb2,fb2,fb2,fb2,fb2,fb2,fb2,fb2,fb2,fb2,fb2,fb2,fb2,fb2,fb2,fb2,fb2,fb2]
def ba2_10 : Array Bool := #[tb2,tb2,tb2,tb2,tb2,tb2,tb2,tb2,tb2,tb2,fb2,fb2,fb2,fb2,fb2,fb2,fb2,fb2,fb2,fb2,fb2,fb2,fb2,fb2,fb2,fb2,fb2,fb2,fb2,fb2,fb2,fb2,fb2,fb2,fb2,fb2,fb2,fb2,fb2,fb2]
def ba2_11 : Array Bool := #[tb2,tb2,tb2,tb2,tb2,tb2,tb2,tb2,tb2,tb2,tb2,fb2,fb2,fb2,fb2,fb2,fb2,fb2,fb2,fb2,fb2,fb2,fb2,fb2,fb2,fb2,fb2,fb2,fb2,fb2,fb2,fb2,fb2,fb2,fb2,fb2,fb2,fb2,fb2,fb2]
def ba2_12 : Array Bool := #[tb2,tb2,tb2,tb2,tb2,tb2,tb2,tb2,tb2,tb2,tb2,tb2,fb2,fb2,fb2,fb2,fb2,fb2,fb2,fb2,fb2,fb2,fb2,fb2,fb2,fb2,fb2,fb2,fb2,fb2,fb2,fb2,fb2,fb2,fb2,fb2,fb2,fb2,fb2,fb2]
def ba2_13 : Array Bool := #[tb2,tb2,tb2,tb2,tb2,tb2,tb2,tb2,tb2,tb2,tb2,tb2,tb2,fb2,fb2,fb2,fb2,fb2,fb2,fb2,fb2,fb2,fb2,fb2,fb2,fb2,fb2,fb2,fb2,fb2,fb2,fb2,fb2,fb2,fb2,fb2,fb2,fb2,fb2,fb2]
def ba2_14 : Array Bool := #[tb2,tb2,tb2,tb2,tb2,tb2,tb2,tb2,tb2,tb2,tb2,tb2,tb2,tb2,fb2,fb2,fb2,fb2,fb2,fb2,fb2,fb2,fb2,fb2,fb2,fb2,fb2,fb2,fb2,fb2,fb2,fb2,fb2,fb2,fb2,fb2,fb2,fb2,fb2,fb2]
def ba2_15 : Array Bool := #[tb2,tb2,tb2,tb2,tb2,tb2,tb2,tb2,tb2,tb2,tb2,tb2,tb2,tb2,fb2,tb2,fb2,fb2,fb2,fb2,fb2,fb2,fb2,fb2,fb2,fb2,fb2,fb2,fb2,fb2,fb2,fb2,fb2,fb2,fb2,fb2,fb2,fb2,fb2,fb2]
def ba2_16 : Array Bool := #[tb2,tb2,tb2,tb2,tb2,tb2,tb2,tb2,tb2,tb2,tb2,tb2,tb2,tb2,tb2,tb2,fb2,fb2,fb2,fb2,fb2,fb2,fb2,fb2,fb2,fb2,fb2,fb2,fb2,fb2,fb2,fb2,fb2,fb2,fb2,fb2,fb2,fb2,fb2,fb2]
def ba2_17 : Array Bool := #[tb2,tb2,tb2,tb2,tb2,tb2,tb2,tb2,tb2,tb2,tb2,tb2,tb2,tb2,tb2,tb2,tb2,fb2,fb2,fb2,fb2,fb2,fb2,fb2,fb2,fb2,fb2,fb2,fb2,fb2,fb2,fb2,fb2,fb2,fb2,fb2,fb2,fb2,fb2,fb2]
def ba2_18 : Array Bool := #[tb2,tb2,tb2,tb2,tb2,tb2,tb2,tb2,tb2,tb2,tb2,tb2,tb2,tb2,tb2,tb2,tb2,tb2,fb2,fb2,fb2,fb2,fb2,fb2,fb2,fb2,fb2,fb2,fb2,fb2,fb2,fb2,fb2,fb2,fb2,fb2,fb2,fb2,fb2,fb2]
def ba2_19 : Array Bool := #[tb2,tb2,tb2,tb2,tb2,tb2,tb2,tb2,tb2,tb2,tb2,tb2,tb2,tb2,tb2,tb2,tb2,tb2,tb2,fb2,fb2,fb2,fb2,fb2,fb2,fb2,fb2,fb2,fb2,fb2,fb2,fb2,fb2,fb2,fb2,fb2,fb2,fb2,fb2,fb2]
def ba2_20 : Array Bool := #[tb2,tb2,tb2,tb2,tb2,tb2,tb2,tb2,tb2,tb2,tb2,tb2,tb2,tb2,tb2,tb2,tb2,tb2,tb2,tb2,fb2,fb2,fb2,fb2,fb2,fb2,fb2,fb2,fb2,fb2,fb2,fb2,fb2,fb2,fb2,fb2,fb2,fb2,fb2,fb2]
def ba2_21 : Array Bool := #[tb2,tb2,tb2,tb2,tb2,tb2,tb2,tb2,tb2,tb2,tb2,tb2,tb2,tb2,tb2,tb2,tb2,tb2,tb2,tb2,tb2,fb2,fb2,fb2,fb2,fb2,fb2,fb2,fb2,fb2,fb2,fb2,fb2,fb2,fb2,fb2,fb2,fb2,fb2,fb2]
def ba2_22 : Array Bool := #[tb2,tb2,tb2,tb2,tb2,tb2,tb2,tb2,tb2,tb2,tb2,tb2,tb2,tb2,tb2,tb2,tb2,tb2,tb2,tb2,tb2,tb2,fb2,fb2,fb2,fb2,fb2,fb2,fb2,fb2,fb2,fb2,fb2,fb2,fb2,fb2,fb2,fb2,fb2,fb2]
def ba2_23 : Array Bool := #[tb2,tb2,tb2,tb2,tb2,tb2,tb2,tb2,tb2,tb2,tb2,tb2,tb2,tb2,tb2,tb2,tb2,tb2,tb2,tb2,tb2,tb2,tb2,fb2,fb2,fb2,fb2,fb2,fb2,fb2,fb2,fb2,fb2,fb2,fb2,fb2,fb2,fb2,fb2,fb2]
def ba2_24 : Array Bool := #[tb2,tb2,tb2,tb2,tb2,tb2,tb2,tb2,tb2,tb2,tb2,tb2,tb2,tb2,tb2,tb2,tb2,tb2,tb2,tb2,tb2,tb2,tb2,tb2,fb2,fb2,fb2,fb2,fb2,fb2,fb2,fb2,fb2,fb2,fb2,fb2,fb2,fb2,fb2,fb2]
def ba2_25 : Array Bool := #[tb2,tb2,tb2,tb2,tb2,tb2,tb2,tb2,tb2,tb2,tb2,tb2,tb2,tb2,tb2,tb2,tb2,tb2,tb2,tb2,tb2,tb2,tb2,tb2,tb2,fb2,fb2,fb2,fb2,fb2,fb2,fb2,fb2,fb2,fb2,fb2,fb2,fb2,fb2,fb2]
def ba2_26 : Array Bool := #[tb2,tb2,tb2,tb2,tb2,tb2,tb2,tb2,tb2,tb2,tb2,tb2,tb2,tb2,tb2,tb2,tb2,tb2,tb2,tb2,tb2,tb2,tb2,tb2,tb2,tb2,fb2,fb2,fb2,fb2,fb2,fb2,fb2,fb2,fb2,fb2,fb2,fb2,fb2,fb2]
def ba2_27 : Array Bool := #[tb2,tb2,tb2,tb2,tb2,tb2,tb2,tb2,tb2,tb2,tb2,tb2,tb2,tb2,tb2,tb2,tb2,tb2,tb2,tb2,tb2,tb2,tb2,tb2,tb2,tb2,tb2,fb2,fb2,fb2,fb2,fb2,fb2,fb2,fb2,fb2,fb2,fb2,fb2,fb2]
def ba2_28 : Array Bool := #[tb2,tb2,tb2,tb2,tb2,tb2,tb2,tb2,tb2,tb2,tb2,tb2,tb2,tb2,tb2,tb2,tb2,tb2,tb2,tb2,tb2,tb2,tb2,tb2,tb2,tb2,tb2,tb2,fb2,fb2,fb2,fb2,fb2,fb2,fb2,fb2,fb2,fb2,fb2,fb2]
def ba2_29 : Array Bool := #[tb2,tb2,tb2,tb2,tb2,tb2,tb2,tb2,tb2,tb2,tb2,tb2,tb2,tb2,tb2,tb2,tb2,tb2,tb2,tb2,tb2,tb2,tb2,tb2,tb2,tb2,tb2,tb2,tb2,fb2,fb2,fb2,fb2,fb2,fb2,fb2,fb2,fb2,fb2,fb2]
def ba2_30 : Array Bool := #[tb2,tb2,tb2,tb2,tb2,tb2,tb2,tb2,tb2,tb2,tb2,tb2,tb2,tb2,tb2,tb2,tb2,tb2,tb2,tb2,tb2,tb2,tb2,tb2,tb2,tb2,tb2,tb2,tb2,tb2,fb2,fb2,fb2,fb2,fb2,fb2,fb2,fb2,fb2,fb2]
def ba2_31 : Array Bool := #[tb2,tb2,tb2,tb2,tb2,tb2,tb2,tb2,tb2,tb2,tb2,tb2,tb2,tb2,tb2,tb2,tb2,tb2,tb2,tb2,tb2,tb2,tb2,tb2,tb2,tb2,tb2,tb2,tb2,tb2,tb2,fb2,fb2,fb2,fb2,fb2,fb2,fb2,fb2,fb2]
def ba2_32 : Array Bool := #[tb2,tb2,tb2,tb2,tb2,tb2,tb2,tb2,tb2,tb2,tb2,tb2,tb2,tb2,tb2,tb2,tb2,tb2,tb2,tb2,tb2,tb2,tb2,tb2,tb2,tb2,tb2,tb2,tb2,tb2,tb2,tb2,fb2,fb2,fb2,fb2,fb2,fb2,fb2,fb2]
def ba2_33 : Array Bool := #[tb2,tb2,tb2,tb2,tb2,tb2,tb2,tb2,tb2,tb2,tb2,tb2,tb2,tb2,tb2,tb2,tb2,tb2,tb2,tb2,tb2,tb2,tb2,tb2,tb2,tb2,tb2,tb2,tb2,tb2,tb2,tb2,tb2,fb2,fb2,fb2,fb2,fb2,fb2,fb2]
def ba2_34 : Array Bool := #[tb2,tb2,tb2,tb2,tb2,tb2,tb2,tb2,tb2,tb2,tb2,tb2,tb2,tb2,tb2,tb2,tb2,tb2,tb2,tb2,tb2,tb2,tb2,tb2,tb2,tb2,tb2,tb2,tb2,tb2,tb2,tb2,tb2,tb2,fb2,fb2,fb2,fb2,fb2,fb2]
def ba2_35 : Array Bool := #[tb2,tb2,tb2,tb2,tb2,tb2,tb2,tb2,tb2,tb2,tb2,tb2,tb2,tb2,tb2,tb2,tb2,tb2,tb2,tb2,tb2,tb2,tb2,tb2,tb2,tb2,tb2,tb2,tb2,tb2,tb2,tb2,tb2,tb2,tb2,fb2,fb2,fb2,fb2,fb2]
def ba2_36 : Array Bool := #[tb2,tb2,tb2,tb2,tb2,tb2,tb2,tb2,tb2,tb2,tb2,tb2,tb2,tb2,tb2,tb2,tb2,tb2,tb2,tb2,tb2,tb2,tb2,tb2,tb2,tb2,tb2,tb2,tb2,tb2,tb2,tb2,tb2,tb2,tb2,tb2,fb2,fb2,fb2,fb2]
def ba2_37 : Array Bool := #[tb2,tb2,tb2,tb2,tb2,tb2,tb2,tb2,tb2,tb2,tb2,tb2,tb2,tb2,tb2,tb2,tb2,tb2,tb2,tb2,tb2,tb2,tb2,tb2,tb2,tb2,tb2,tb2,tb2,tb2,tb2,tb2,tb2,tb2,tb2,tb2,tb2,fb2,fb2,fb2]
def ba2_38 : Array Bool := #[tb2,tb2,tb2,tb2,tb2,tb2,tb2,tb2,tb2,tb2,tb2,tb2,tb2,tb2,tb2,tb2,tb2,tb2,tb2,tb2,tb2,tb2,tb2,tb2,tb2,tb2,tb2,tb2,tb2,tb2,tb2,tb2,tb2,tb2,tb2,tb2,tb2,tb2,fb2,fb2]
def ba2_39 : Array Bool := #[tb2,tb2,tb2,tb2,tb2,tb2,tb2,tb2,tb2,tb2,tb2,tb2,tb2,tb2,tb2,tb2,tb2,tb2,tb2,tb2,tb2,tb2,tb2,tb2,tb2,tb2,tb2,tb2,tb2,tb2,tb2,tb2,tb2,tb2,tb2,tb2,tb2,tb2,tb2,fb2]
def ba2_40 : Array Bool := #[tb2,tb2,tb2,tb2,tb2,tb2,tb2,tb2,tb2,tb2,tb2,tb2,tb2,tb2,tb2,tb2,tb2,tb2,tb2,tb2,tb2,tb2,tb2,tb2,tb2,tb2,tb2,tb2,tb2,tb2,tb2,tb2,tb2,tb2,tb2,tb2,tb2,tb2,tb2,tb2]
def ba2_41 : Array Bool := #[tb2,tb2,tb2,tb2,tb2,tb2,tb2,tb2,tb2,tb2,tb2,tb2,tb2,tb2,tb2,tb2,tb2,tb2,tb2,tb2,tb2,tb2,tb2,tb2,tb2,tb2,tb2,tb2,tb2,tb2,fb2,tb2,fb2,fb2,fb2,fb2,fb2,fb2,fb2,fb2]
def ba2_42 : Array Bool := #[tb2,tb2,tb2,tb2,tb2,tb2,tb2,tb2,tb2,tb2,tb2,tb2,tb2,tb2,tb2,tb2,tb2,tb2,tb2,tb2,tb2,tb2,tb2,tb2,tb2,tb2,tb2,tb2,tb2,tb2,fb2,tb2,tb2,fb2,fb2,fb2,fb2,fb2,fb2,fb2]
def ba2_43 : Array Bool := #[tb2,tb2,tb2,tb2,tb2,tb2,tb2,tb2,tb2,tb2,tb2,tb2,tb2,tb2,tb2,fb2,fb2,fb2,fb2,fb2,fb2,fb2,fb2,fb2,fb2,fb2,fb2,fb2,fb2,fb2,fb2,fb2,fb2,fb2,fb2,fb2,fb2,fb2,fb2,fb2]
def ba2_44 : Array Bool := #[tb2,tb2,tb2,tb2,tb2,tb2,tb2,fb2,fb2,fb2,fb2,fb2,fb2,fb2,fb2,fb2,fb2,fb2,fb2,fb2,fb2,fb2,fb2,fb2,fb2,fb2,fb2,fb2,fb2,fb2,fb2,fb2,fb2,fb2,fb2,fb2,fb2,fb2,fb2,fb2]

/-! ### impl_GraphOk: function 47 -/
mutual
def impl_GraphOk.j0 : Nat → Bool → Int → List (S76) → Option (Bool)
 | 0, _, _, _ => none
 | k + 1, x14, x106000, x106001 => if x14 = true then (some false) else (impl_GraphOk.l0 k x106001 (x106001.length : Int) 0 x106000 x106001)
def impl_GraphOk.l0 : Nat → List (S76) → Int → Int → Int → List (S76) → Option (Bool)
 | 0, _, _, _, _, _ => none
 | k + 1, x16, x17, x18, x106000, x106001 => if x18 < x17 then (if 0 ≤ x18 then (if x18 < (x16.length : Int) then ((impl_Graph_isNode.f x106000 x106001 ((rd_T76 x16 x18).f0)).bind fun t109 => (if t109 = true then ((impl_Graph_isNode.f x106000 x106001 ((rd_T76 x16 x18).f1)).bind fun t110 => (if t110 = true then (if ((rd_T76 x16 x18).f0) = ((rd_T76 x16 x18).f1) then (some false) else ((impl_within.f ((rd_T76 x16 x18).f2) 1 1000).bind fun t111 => (if t111 = true then (if x18 > 0 then (if 0 ≤ (wrap64 (x18 - 1)) then (if (wrap64 (x18 - 1)) < (x106001.length : Int) then ((impl_compareEdges.f ((rd_T76 x106001 (wrap64 (x18 - 1))).f0) ((rd_T76 x106001 (wrap64 (x18 - 1))).f1) ((rd_T76 x106001 (wrap64 (x18 - 1))).f2) ((rd_T76 x16 x18).f0) ((rd_T76 x16 x18).f1) ((rd_T76 x16 x18).f2)).bind fun t113 => (if t113 ≥ 0 then (some false) else (impl_GraphOk.l0 k x16 x17 (wrap64 (x18 + 1)) x106000 x106001))) else (none)) else (none)) else (impl_GraphOk.l0 k x16 x17 (wrap64 (x18 + 1)) x106000 x106001)) else (some false)))) else (some false))) else (some false))) else (none)) else (none)) else (some true)
end
def impl_GraphOk.f (k : Nat) (a0_0 : Int) (l0_1 : List (S76)) : Option (Bool) := (impl_within.f a0_0 1 10).bind fun t106 => (if t106 = true then (impl_GraphOk.j0 k (decide ((l0_1.length : Int) > 60)) a0_0 l0_1) else (impl_GraphOk.j0 k true a0_0 l0_1))
theorem impl_GraphOk.mono_l : ∀ k, (∀ y0 y1 y2, LeO (impl_GraphOk.j0 k y0 y1 y2) (impl_GraphOk.j0 (k + 1) y0 y1 y2)) ∧ (∀ y0 y1 y2 y3 y4, LeO (impl_GraphOk.l0 k y0 y1 y2 y3 y4) (impl_GraphOk.l0 (k + 1) y0 y1 y2 y3 y4))
 | 0 => ⟨fun _ _ _ r h => by simp [impl_GraphOk.j0] at h, fun _ _ _ _ _ r h => by simp [impl_GraphOk.l0] at h⟩
 | k + 1 => by
  obtain ⟨ih0, ih1⟩ := impl_GraphOk.mono_l k
  refine ⟨?_, ?_⟩
  ·intro y0 y1 y2
   unfold impl_GraphOk.j0
   repeat' first
   | (with_reducible exact ih0 _ _ _)
   | (with_reducible exact ih1 _ _ _ _ _)
   | (with_reducible exact LeO.refl _)
   | (with_reducible exact LeO.none _)
   | (with_reducible refine LeO.ite ?_ ?_)
   | (with_reducible refine LeO.bind ?_ (fun _ => ?_))
   | exact ih0 _ _ _
   | exact ih1 _ _ _ _ _
   | exact LeO.none _
   | refine LeO.ite ?_ ?_
   | refine LeO.bind ?_ (fun _ => ?_)
  ·intro y0 y1 y2 y3 y4
   unfold impl_GraphOk.l0
   repeat' first
   | (with_reducible exact ih0 _ _ _)
   | (with_reducible exact ih1 _ _ _ _ _)
   | (with_reducible exact LeO.refl _)
   | (with_reducible exact LeO.none _)
   | (with_reducible refine LeO.ite ?_ ?_)
   | (with_reducible refine LeO.bind ?_ (fun _ => ?_))
   | exact ih0 _ _ _
   | exact ih1 _ _ _ _ _
   | exact LeO.none _
   | refine LeO.ite ?_ ?_
   | refine LeO.bind ?_ (fun _ => ?_)
theorem impl_GraphOk.mono : ∀ a0 a1 k, LeO (impl_GraphOk.f k a0 a1) (impl_GraphOk.f (k + 1) a0 a1) := by
 intro a0 a1 k
 obtain ⟨ih0, ih1⟩ := impl_GraphOk.mono_l k
 unfold impl_GraphOk.f
 repeat' first
   | (with_reducible exact ih0 _ _ _)
   | (with_reducible exact ih1 _ _ _ _ _)
   | (with_reducible exact LeO.refl _)
   | (with_reducible exact LeO.none _)
   | (with_reducible refine LeO.ite ?_ ?_)
   | (with_reducible refine LeO.bind ?_ (fun _ => ?_))
   | exact ih0 _ _ _
   | exact ih1 _ _ _ _ _
   | exact LeO.none _
   | refine LeO.ite ?_ ?_
   | refine LeO.bind ?_ (fun _ => ?_)
def impl_GraphOk.T6 : Bool × List (List Nat × List Nat) := (true, [([], []), ([], []), ([1], [1]), ([0, 2], [0, 2]), ([3], [3]), ([4, 3], [4]), ([5], [5]), ([5], [5]), ([7, 5], [5, 7]), ([6, 8, 5, 5], [5, 6, 8]), ([9, 5], [5, 9]), ([5, 10], [5, 10]), ([11, 9], [11]), ([12], [12]), ([13, 12], [12, 13]), ([12], [12]), ([15, 12], [12, 15]), ([14, 16, 12], [12, 14, 16]), ([12, 17], [12, 17]), ([18, 12], [18]), ([19], [19]), ([20, 19], [19, 20]), ([21, 19, 19], [19, 21]), ([22, 19], [19, 22]), ([19, 23], [19, 23]), ([24, 22], [24]), ([25], [25]), ([26, 25], [25, 26]), ([27, 25, 25], [25, 27]), ([28], [28]), ([29, 28], [28, 29]), ([28], [28]), ([31, 28], [28, 31]), ([30, 32, 28], [28, 30, 32]), ([33, 28], [28, 33]), ([28], [28]), ([34, 35, 28, 28], [28, 34, 35]), ([36, 28], [28, 36]), ([28, 37, 25], [25, 28, 37]), ([25, 38], [25, 38])])
def impl_GraphOk.B6 : List Nat := [0, 0, 2, 7, 15, 31, 63, 63, 191, 511, 1023, 2047, 4095, 8191, 16383, 8191, 40959, 131071, 262143, 524287, 1048575, 2097151, 4194303, 8388607, 16777215, 33554431, 67108863, 134217727, 268435455, 536870911, 1073741823, 536870911, 2684354559, 8589934591, 17179869183, 536870911, 68719476735, 137438953471, 274877906943, 549755813887]
theorem impl_GraphOk.tab6 : rtab .any (opsOf Try.f47 6) = impl_GraphOk.T6 := by kernel_rfl
theorem impl_GraphOk.bits6 : waitsOk impl_GraphOk.T6.2 impl_GraphOk.B6 = true := by kernel_rfl
set_option maxHeartbeats 8000000 in
set_option maxRecDepth 100000 in
theorem impl_GraphOk.calls (k : Nat) (a0_0 : Int) (A0_1 : Option Addr) (c0_1 : Nat) (l0_1 : List (S76)) (r : Bool) (w : World) (hr0_1 : Kd.C k76 w A0_1 l0_1.length l0_1) (hc0_1 : l0_1.length ≤ c0_1) (h : impl_GraphOk.f k a0_0 l0_1 = some r) :
  Calls Try.prog 47 #[.agg #[.int .i64 a0_0, .slice A0_1 l0_1.length c0_1]] w fun e w' => e = .returned (.bool r) ∧ Below w.heap.size w w' := by
 have hu30 := Try.underlying30
 have hu76 := Try.underlying76
 have HR0_1 := Aside0.mk hr0_1
 have HC0_1 := Aside0.mk hc0_1
 clear hr0_1 hc0_1
 have HB := Aside0.mk (Below.refl w.heap.size w)
 have H : ((impl_within.f a0_0 1 10).bind fun t106 => (if t106 = true then (impl_GraphOk.j0 k (decide ((l0_1.length : Int) > 60)) a0_0 l0_1) else (impl_GraphOk.j0 k true a0_0 l0_1))) = some r := h
 clear h
 have HC2 := Aside0.mk H
 clear H
 go_enter Try.func47, Try.ntmps47
 go_upto_region 1 with ((with_reducible refine gate_dst (N := 1) rfl ?_); refine box_event ?hg (N := 1) ?hd (cs := #[.int .i64 a0_0, .slice A0_1 l0_1.length c0_1]) (t := 30) ?hr ?_; (case hd => rfl); (case hg => rfl); (case hr => first | (go_simp; done) | (go_simp; rfl)); intro gb105 hg w3 hbox hb; have BK105 := Aside0.mk hbox; have GW105 := ge_ HB hg; have GE105 := ge_ HB hg; replace HB := at_ HB hb; clear hb hbox hg)
 (try simp only [Act.put, List.setIfInBounds_toArray, List.set_cons_zero, List.set_cons_succ])
 go_cut [14] (fun v14 wc => ∃ (kq : Nat) (x14_1 : Bool), v14 = .bool x14_1 ∧ Aside0 (impl_GraphOk.j0 kq x14_1 a0_0 l0_1 = some r) ∧ Aside0 (kq ≤ k) ∧ Aside0 (wc.heap[gb105]? = some (.cells #[.int .i64 a0_0, (.slice A0_1 l0_1.length c0_1)] 30 (0, 0))) ∧ Aside0 (Below w.heap.size w wc))
 case first =>
  have H := HC2.out
  clear HC2
  replace H := Option.bind_eq_some_iff.mp H
  obtain ⟨t106, A40, H⟩ := H
  have A4 := Aside0.mk A40
  clear A40
  by_cases c5 : t106 = true
  ·subst c5
   rw [if_pos rfl] at H
   have H' := Aside0.mk H
   clear H
   have hcz6_0 := cz_ BK105 0 (.int .i64 a0_0)
   have hcz6_1 := cz_ BK105 1 (.slice A0_1 l0_1.length c0_1)
   have hfz6_0 := blk_frozen BK105.out 0
   have hfz6_1 := blk_frozen BK105.out 1
   go_wp2_with ((with_reducible refine gate_callee (f := 54) rfl ?_); refine gl_ (some 7) Try.func54 #[.int .i64 a0_0, .int .i64 1, .int .i64 10] ?_; (with_reducible refine (impl_within.calls a0_0 1 10 true _ A4.out).mono ?_); rintro e w' ⟨rfl, ⟨nd, rfl⟩⟩; refine ⟨_, rfl, ?_⟩)
   go_meet
   case rel => exact ⟨_, (decide ((l0_1.length : Int) > 60)), (by first | rfl | (simp; done) | (simp [*]; done)), H', ⟨by first | omega | exact Nat.le_refl _⟩, ⟨bx_ BK105⟩, ⟨bw_⟩⟩
  replace c5 := Bool.eq_false_iff.mpr c5
  subst c5
  rw [if_neg (show ¬ (false = true) by decide)] at H
  have H' := Aside0.mk H
  clear H
  have hcz7_0 := cz_ BK105 0 (.int .i64 a0_0)
  have hcz7_1 := cz_ BK105 1 (.slice A0_1 l0_1.length c0_1)
  have hfz7_0 := blk_frozen BK105.out 0
  have hfz7_1 := blk_frozen BK105.out 1
  go_wp2_with ((with_reducible refine gate_callee (f := 54) rfl ?_); refine gl_ (some 7) Try.func54 #[.int .i64 a0_0, .int .i64 1, .int .i64 10] ?_; (with_reducible refine (impl_within.calls a0_0 1 10 false _ A4.out).mono ?_); rintro e w' ⟨rfl, ⟨nd, rfl⟩⟩; refine ⟨_, rfl, ?_⟩)
  go_meet
  case rel => exact ⟨_, (true), (by first | rfl | (simp; done) | (simp [*]; done)), H', ⟨by first | omega | exact Nat.le_refl _⟩, ⟨bx_ BK105⟩, ⟨bw_⟩⟩
 case rest =>
  clear HC2
  try clear p2
  try clear c4
  try clear c5
  try clear hcz6_0
  try clear hcz6_1
  try clear hcz7_0
  try clear hcz7_1
  try clear hfz6_0
  try clear hfz6_1
  try clear hfz7_0
  try clear hfz7_1
  obtain ⟨kq, x14_1, rfl, HA, HJ1, BK105, HB⟩ := hcut
  cases kq with
  | zero => exact absurd HA.out (by simp [impl_GraphOk.j0])
  | succ kj1 =>
   have H := HA.out
   clear HA
   simp only [impl_GraphOk.j0] at H
   by_cases c8 : x14_1 = true
   ·subst c8
    rw [if_pos rfl] at H
    obtain rfl := Option.some.inj H
    go_wp2
    go_ret
    exact ⟨by first | rfl | (simp [errW_none, errW_some] <;> rfl) | (simp [*, errW_none, errW_some] <;> rfl), bw_⟩
   replace c8 := Bool.eq_false_iff.mpr c8
   subst c8
   rw [if_neg (show ¬ (false = true) by decide)] at H
   have H' := Aside0.mk H
   clear H
   have hcz9_0 := cz_ BK105 0 (.int .i64 a0_0)
   have hcz9_1 := cz_ BK105 1 (.slice A0_1 l0_1.length c0_1)
   have hfz9_0 := blk_frozen BK105.out 0
   have hfz9_1 := blk_frozen BK105.out 1
   go_wp2
   go_loopg [18] kj1 (fun kq v18 w' => ∃ (x18_2 : Int), v18 = .int .i64 x18_2 ∧ Aside0 (impl_GraphOk.l0 kq l0_1 (l0_1.length : Int) x18_2 a0_0 l0_1 = some r) ∧ Aside0 (kq ≤ kj1) ∧ Aside0 (w'.heap[gb105]? = some (.cells #[.int .i64 a0_0, (.slice A0_1 l0_1.length c0_1)] 30 (0, 0))) ∧ Aside0 (Below w.heap.size w w'))
   case atStart => exact ⟨(0), (by first | rfl | (simp; done) | (simp [*]; done)), H', ⟨Nat.le_refl _⟩, ⟨bx_ BK105⟩, ⟨bw_⟩⟩
   case round =>
    clear H'
    try clear p2
    try clear c4
    try clear c5
    try clear c8
    try clear hcz6_0
    try clear hcz6_1
    try clear hcz7_0
    try clear hcz7_1
    try clear hcz9_0
    try clear hcz9_1
    try clear hfz6_0
    try clear hfz6_1
    try clear hfz7_0
    try clear hfz7_1
    try clear hfz9_0
    try clear hfz9_1
    try clear p2
    obtain ⟨x18_2, rfl, HA, HK2, BK105, HB⟩ := hrel
    cases gk with
    | zero => exact absurd HA.out (by simp [impl_GraphOk.l0])
    | succ k2 =>
     have H := HA.out
     clear HA
     simp only [impl_GraphOk.l0] at H
     by_cases c10 : x18_2 < (l0_1.length : Int)
     rotate_left
     ·rw [if_neg c10] at H
      have c10b0 : decide (x18_2 < (l0_1.length : Int)) = false := decide_eq_false c10
      clear c10
      obtain rfl := Option.some.inj H
      go_wp2
      go_ret
      exact ⟨by first | rfl | (simp [errW_none, errW_some] <;> rfl) | (simp [*, errW_none, errW_some] <;> rfl), bw_⟩
     rw [if_pos c10] at H
     have c10b0 : decide (x18_2 < (l0_1.length : Int)) = true := decide_eq_true c10
     clear c10
     by_cases c11 : 0 ≤ x18_2
     rotate_left
     ·rw [if_neg c11] at H
      exact absurd H (by simp)
     rw [if_pos c11] at H
     have c11b0 : decide (0 ≤ x18_2) = true := decide_eq_true c11
     clear c11
     by_cases c12 : x18_2 < (l0_1.length : Int)
     rotate_left
     ·rw [if_neg c12] at H
      exact absurd H (by simp)
     rw [if_pos c12] at H
     have c12b0 : decide (x18_2 < (l0_1.length : Int)) = true := decide_eq_true c12
     clear c12
     replace H := Option.bind_eq_some_iff.mp H
     obtain ⟨t109, A130, H⟩ := H
     have A13 := Aside0.mk A130
     clear A130
     by_cases c14 : t109 = true
     rotate_left
     ·replace c14 := Bool.eq_false_iff.mpr c14
      subst c14
      rw [if_neg (show ¬ (false = true) by decide)] at H
      obtain rfl := Option.some.inj H
      have p107 : 0 ≤ (x18_2 : Int) := of_decide_eq_true (by first | (with_reducible assumption) | assumption)
      have q107 : x18_2 < (l0_1.length : Int) := of_decide_eq_true (by first | (with_reducible assumption) | assumption)
      obtain ⟨ad107, e107, hx107_0, hx107_1, hx107_2⟩ := at_T76 HR0_1.out x18_2 p107 q107
      cases e107
      replace hx107_0 := (HB.out.cell (World.block_lt_of_cell? w _ hx107_0)).trans hx107_0
      replace hx107_1 := (HB.out.cell (World.block_lt_of_cell? w _ hx107_1)).trans hx107_1
      replace hx107_2 := (HB.out.cell (World.block_lt_of_cell? w _ hx107_2)).trans hx107_2
      replace p107 := eq_true p107
      replace q107 := eq_true q107
      try go_wp2_with ((with_reducible refine gate_dst (N := 4) rfl ?_); refine box_event ?hg (N := 4) ?hd (cs := #[.int .i64 0, .int .i64 0, .int .i64 0]) (t := 76) ?hr ?_; (case hd => rfl); (case hg => rfl); (case hr => first | (go_simp; done) | (go_simp; rfl)); intro gb108 hg w70 hbox hb; have BK108 := Aside0.mk hbox; have GW108 := ge_ HB hg; have GE108 := ge_ HB hg; have NB105_108 := nl_ BK105 hg; have NB108_105 := ng_ BK105 hg; replace HB := at_ HB hb; replace BK105 := ab_ BK105 hb; clear hb hbox hg; have hnb71 := NB108_105.out; have hnc71 := NB105_108.out; have hcz72_0 := cz_ BK108 0 (.int .i64 0); have hcz72_1 := cz_ BK108 1 (.int .i64 0); have hcz72_2 := cz_ BK108 2 (.int .i64 0); have hfz72_0 := blk_frozen BK108.out 0; have hfz72_1 := blk_frozen BK108.out 1; have hfz72_2 := blk_frozen BK108.out 2)
      have n0_ : Aside0 ((((w70.setCell ⟨gb108, 0, none⟩ (.int .i64 ((rd_T76 l0_1 x18_2).f0))).setCell ⟨gb108, 1, none⟩ (.int .i64 ((rd_T76 l0_1 x18_2).f1))).setCell ⟨gb108, 2, none⟩ (.int .i64 ((rd_T76 l0_1 x18_2).f2))).heap[gb105]? = some (.cells #[.int .i64 a0_0, .slice (some ad107) l0_1.length c0_1] 30 (0, 0))) := ⟨bc_ BK105⟩
      have n1_ : Aside0 ((((w70.setCell ⟨gb108, 0, none⟩ (.int .i64 ((rd_T76 l0_1 x18_2).f0))).setCell ⟨gb108, 1, none⟩ (.int .i64 ((rd_T76 l0_1 x18_2).f1))).setCell ⟨gb108, 2, none⟩ (.int .i64 ((rd_T76 l0_1 x18_2).f2))).heap[gb108]? = some (.cells #[.int .i64 ((rd_T76 l0_1 x18_2).f0), .int .i64 ((rd_T76 l0_1 x18_2).f1), .int .i64 ((rd_T76 l0_1 x18_2).f2)] 76 (0, 0))) := ⟨by (with_reducible repeat (first | refine blk_drewN ?_ _ | refine blk_drew ?_ | refine blk_alloc ?_ _)); refine blk_put (cs := #[.int .i64 ((rd_T76 l0_1 x18_2).f0), .int .i64 ((rd_T76 l0_1 x18_2).f1), .int .i64 0]) ?_ 2 _ rfl; (with_reducible repeat (first | refine blk_drewN ?_ _ | refine blk_drew ?_ | refine blk_alloc ?_ _)); refine blk_put (cs := #[.int .i64 ((rd_T76 l0_1 x18_2).f0), .int .i64 0, .int .i64 0]) ?_ 1 _ rfl; (with_reducible repeat (first | refine blk_drewN ?_ _ | refine blk_drew ?_ | refine blk_alloc ?_ _)); refine blk_put (cs := #[.int .i64 0, .int .i64 0, .int .i64 0]) ?_ 0 _ rfl; (with_reducible repeat (first | refine blk_drewN ?_ _ | refine blk_drew ?_ | refine blk_alloc ?_ _)); exact BK108.out⟩
      have n2_ : Aside0 (Below w.heap.size w (((w70.setCell ⟨gb108, 0, none⟩ (.int .i64 ((rd_T76 l0_1 x18_2).f0))).setCell ⟨gb108, 1, none⟩ (.int .i64 ((rd_T76 l0_1 x18_2).f1))).setCell ⟨gb108, 2, none⟩ (.int .i64 ((rd_T76 l0_1 x18_2).f2)))) := ⟨bw_⟩
      (try clear BK105)
      (try clear BK108)
      (try clear HB)
      generalize (((w70.setCell ⟨gb108, 0, none⟩ (.int .i64 ((rd_T76 l0_1 x18_2).f0))).setCell ⟨gb108, 1, none⟩ (.int .i64 ((rd_T76 l0_1 x18_2).f1))).setCell ⟨gb108, 2, none⟩ (.int .i64 ((rd_T76 l0_1 x18_2).f2))) = w73 at n0_ n1_ n2_ ⊢
      have BK105 := n0_
      have BK108 := n1_
      have HB := n2_
      clear n0_ n1_ n2_
      replace BK105 := ad_ BK105
      replace BK108 := ad_ BK108
      replace HB := Aside0.mk (below_drew1 HB.out)
      refine start_ (n := 40) (S := fun w' => w'.cell? ⟨gb105, 0, none⟩ = some (.int .i64 a0_0) ∧ w'.cell? ⟨gb105, 1, none⟩ = some (.slice (some ad107) l0_1.length c0_1) ∧ w'.cell? ⟨gb108, 0, none⟩ = some (.int .i64 ((rd_T76 l0_1 x18_2).f0)) ∧ w'.cell? ⟨gb108, 1, none⟩ = some (.int .i64 ((rd_T76 l0_1 x18_2).f1)) ∧ w'.cell? ⟨gb108, 2, none⟩ = some (.int .i64 ((rd_T76 l0_1 x18_2).f2))) (ds := []) ba2_0 (by kernel_rfl) rfl rfl ⟨(blk_cell BK105.out 0).trans rfl, (blk_cell BK105.out 1).trans rfl, (blk_cell BK108.out 0).trans rfl, (blk_cell BK108.out 1).trans rfl, (blk_cell BK108.out 2).trans rfl⟩ (fun hHeld => ?_); refine with_tabW impl_GraphOk.tab6 impl_GraphOk.bits6 (fun HT_ HW_ => ?_)
      generalize w73.drew = w74 at BK105 BK108 HB hHeld ⊢
      refine pz_ 1 24 ba2_1 HT_ ?_
      refine pt_ 0 23 ba2_2 HT_ HW_ hHeld ?_
      refine pt_ 2 25 ba2_3 HT_ HW_ hHeld ?_
      refine one_ (i := 3) (N := some 26) ba2_4 rfl rfl (one_of HT_.out (by kernel_rfl)) (by decide) (fun K hK => ?_)
      refine gz_ Try.func48 #[.agg #[.int .i64 a0_0, .slice (some ad107) l0_1.length c0_1], .int .i64 ((rd_T76 l0_1 x18_2).f0)] ?_
      with_reducible refine (impl_Graph_isNode.calls a0_0 _ _ l0_1 ((rd_T76 l0_1 x18_2).f0) false _ ?side1 ?side2 A13.out).mono ?_
      (case side1 => exact cb_ HR0_1 HB)
      (case side2 => exact HC0_1.out)
      rintro e w75 ⟨rfl, hb⟩
      refine ⟨_, rfl, ?_⟩
      replace BK105 := ab_ BK105 hb
      replace BK108 := ab_ BK108 hb
      replace HB := at_ HB hb
      (try clear hb)
      (try clear hb2)
      (try clear hk)
      (try clear hi)
      refine hK.out _ _ ⟨(blk_cell BK105.out 0).trans rfl, (blk_cell BK105.out 1).trans rfl, (blk_cell BK108.out 0).trans rfl, (blk_cell BK108.out 1).trans rfl, (blk_cell BK108.out 2).trans rfl⟩ (fun hHeld => ?_)
      clear hK K
      refine nz_ 26 ?_
      refine pz_ 4 27 ba2_5 HT_ ?_
      refine pz_ 5 28 ba2_6 HT_ ?_
      refine pu_ 6 29 ba2_44 HT_ ?_
      refine pu_ 7 30 ba2_8 HT_ ?_
      refine pu_ 8 31 ba2_9 HT_ ?_
      refine pu_ 9 32 ba2_10 HT_ ?_
      refine pu_ 10 33 ba2_11 HT_ ?_
      refine pz_ 11 34 ba2_12 HT_ ?_
      refine pz_ 12 35 ba2_13 HT_ ?_
      refine pu_ 13 36 ba2_14 HT_ ?_
      refine pu_ 14 37 ba2_43 HT_ ?_
      refine pu_ 15 38 ba2_16 HT_ ?_
      refine pu_ 16 39 ba2_17 HT_ ?_
      refine pu_ 17 40 ba2_18 HT_ ?_
      refine pz_ 18 41 ba2_19 HT_ ?_
      refine pz_ 19 42 ba2_20 HT_ ?_
      refine pu_ 20 43 ba2_21 HT_ ?_
      refine pu_ 21 44 ba2_22 HT_ ?_
      refine pu_ 22 45 ba2_23 HT_ ?_
      refine pu_ 23 46 ba2_24 HT_ ?_
      refine pz_ 24 47 ba2_25 HT_ ?_
      refine pz_ 25 48 ba2_26 HT_ ?_
      refine pu_ 26 49 ba2_27 HT_ ?_
      refine pu_ 27 50 ba2_28 HT_ ?_
      refine pu_ 28 51 ba2_29 HT_ ?_
      refine pu_ 29 52 ba2_30 HT_ ?_
      refine pu_ 30 53 ba2_31 HT_ ?_
      refine pu_ 31 54 ba2_32 HT_ ?_
      refine pu_ 32 55 ba2_33 HT_ ?_
      refine pu_ 33 56 ba2_34 HT_ ?_
      refine pu_ 34 57 ba2_35 HT_ ?_
      refine pu_ 35 58 ba2_36 HT_ ?_
      refine pu_ 36 59 ba2_37 HT_ ?_
      refine pu_ 37 60 ba2_38 HT_ ?_
      refine pu_ 38 61 ba2_39 HT_ ?_
      refine pz_ 39 62 ba2_40 HT_ ?_
      refine done_ (done_of HT_.out (by kernel_rfl)) ?_
      try go_wp2
      go_ret
      exact ⟨by first | rfl | (simp [errW_none, errW_some] <;> rfl) | (simp [*, errW_none, errW_some] <;> rfl), bw_⟩
     subst c14
     rw [if_pos rfl] at H
     replace H := Option.bind_eq_some_iff.mp H
     obtain ⟨t110, A150, H⟩ := H
     have A15 := Aside0.mk A150
     clear A150
     by_cases c16 : t110 = true
     rotate_left
     ·replace c16 := Bool.eq_false_iff.mpr c16
      subst c16
      rw [if_neg (show ¬ (false = true) by decide)] at H
      obtain rfl := Option.some.inj H
      have p107 : 0 ≤ (x18_2 : Int) := of_decide_eq_true (by first | (with_reducible assumption) | assumption)
      have q107 : x18_2 < (l0_1.length : Int) := of_decide_eq_true (by first | (with_reducible assumption) | assumption)
      obtain ⟨ad107, e107, hx107_0, hx107_1, hx107_2⟩ := at_T76 HR0_1.out x18_2 p107 q107
      cases e107
      replace hx107_0 := (HB.out.cell (World.block_lt_of_cell? w _ hx107_0)).trans hx107_0
      replace hx107_1 := (HB.out.cell (World.block_lt_of_cell? w _ hx107_1)).trans hx107_1
      replace hx107_2 := (HB.out.cell (World.block_lt_of_cell? w _ hx107_2)).trans hx107_2
      replace p107 := eq_true p107
      replace q107 := eq_true q107
      try go_wp2_with ((with_reducible refine gate_dst (N := 4) rfl ?_); refine box_event ?hg (N := 4) ?hd (cs := #[.int .i64 0, .int .i64 0, .int .i64 0]) (t := 76) ?hr ?_; (case hd => rfl); (case hg => rfl); (case hr => first | (go_simp; done) | (go_simp; rfl)); intro gb108 hg w63 hbox hb; have BK108 := Aside0.mk hbox; have GW108 := ge_ HB hg; have GE108 := ge_ HB hg; have NB105_108 := nl_ BK105 hg; have NB108_105 := ng_ BK105 hg; replace HB := at_ HB hb; replace BK105 := ab_ BK105 hb; clear hb hbox hg; have hnb64 := NB108_105.out; have hnc64 := NB105_108.out; have hcz65_0 := cz_ BK108 0 (.int .i64 0); have hcz65_1 := cz_ BK108 1 (.int .i64 0); have hcz65_2 := cz_ BK108 2 (.int .i64 0); have hfz65_0 := blk_frozen BK108.out 0; have hfz65_1 := blk_frozen BK108.out 1; have hfz65_2 := blk_frozen BK108.out 2)
      have n0_ : Aside0 ((((w63.setCell ⟨gb108, 0, none⟩ (.int .i64 ((rd_T76 l0_1 x18_2).f0))).setCell ⟨gb108, 1, none⟩ (.int .i64 ((rd_T76 l0_1 x18_2).f1))).setCell ⟨gb108, 2, none⟩ (.int .i64 ((rd_T76 l0_1 x18_2).f2))).heap[gb105]? = some (.cells #[.int .i64 a0_0, .slice (some ad107) l0_1.length c0_1] 30 (0, 0))) := ⟨bc_ BK105⟩
      have n1_ : Aside0 ((((w63.setCell ⟨gb108, 0, none⟩ (.int .i64 ((rd_T76 l0_1 x18_2).f0))).setCell ⟨gb108, 1, none⟩ (.int .i64 ((rd_T76 l0_1 x18_2).f1))).setCell ⟨gb108, 2, none⟩ (.int .i64 ((rd_T76 l0_1 x18_2).f2))).heap[gb108]? = some (.cells #[.int .i64 ((rd_T76 l0_1 x18_2).f0), .int .i64 ((rd_T76 l0_1 x18_2).f1), .int .i64 ((rd_T76 l0_1 x18_2).f2)] 76 (0, 0))) := ⟨by (with_reducible repeat (first | refine blk_drewN ?_ _ | refine blk_drew ?_ | refine blk_alloc ?_ _)); refine blk_put (cs := #[.int .i64 ((rd_T76 l0_1 x18_2).f0), .int .i64 ((rd_T76 l0_1 x18_2).f1), .int .i64 0]) ?_ 2 _ rfl; (with_reducible repeat (first | refine blk_drewN ?_ _ | refine blk_drew ?_ | refine blk_alloc ?_ _)); refine blk_put (cs := #[.int .i64 ((rd_T76 l0_1 x18_2).f0), .int .i64 0, .int .i64 0]) ?_ 1 _ rfl; (with_reducible repeat (first | refine blk_drewN ?_ _ | refine blk_drew ?_ | refine blk_alloc ?_ _)); refine blk_put (cs := #[.int .i64 0, .int .i64 0, .int .i64 0]) ?_ 0 _ rfl; (with_reducible repeat (first | refine blk_drewN ?_ _ | refine blk_drew ?_ | refine blk_alloc ?_ _)); exact BK108.out⟩
      have n2_ : Aside0 (Below w.heap.size w (((w63.setCell ⟨gb108, 0, none⟩ (.int .i64 ((rd_T76 l0_1 x18_2).f0))).setCell ⟨gb108, 1, none⟩ (.int .i64 ((rd_T76 l0_1 x18_2).f1))).setCell ⟨gb108, 2, none⟩ (.int .i64 ((rd_T76 l0_1 x18_2).f2)))) := ⟨bw_⟩
      (try clear BK105)
      (try clear BK108)
      (try clear HB)
      generalize (((w63.setCell ⟨gb108, 0, none⟩ (.int .i64 ((rd_T76 l0_1 x18_2).f0))).setCell ⟨gb108, 1, none⟩ (.int .i64 ((rd_T76 l0_1 x18_2).f1))).setCell ⟨gb108, 2, none⟩ (.int .i64 ((rd_T76 l0_1 x18_2).f2))) = w66 at n0_ n1_ n2_ ⊢
      have BK105 := n0_
      have BK108 := n1_
      have HB := n2_
      clear n0_ n1_ n2_
      replace BK105 := ad_ BK105
      replace BK108 := ad_ BK108
      replace HB := Aside0.mk (below_drew1 HB.out)
      refine start_ (n := 40) (S := fun w' => w'.cell? ⟨gb105, 0, none⟩ = some (.int .i64 a0_0) ∧ w'.cell? ⟨gb105, 1, none⟩ = some (.slice (some ad107) l0_1.length c0_1) ∧ w'.cell? ⟨gb108, 0, none⟩ = some (.int .i64 ((rd_T76 l0_1 x18_2).f0)) ∧ w'.cell? ⟨gb108, 1, none⟩ = some (.int .i64 ((rd_T76 l0_1 x18_2).f1)) ∧ w'.cell? ⟨gb108, 2, none⟩ = some (.int .i64 ((rd_T76 l0_1 x18_2).f2))) (ds := []) ba2_0 (by kernel_rfl) rfl rfl ⟨(blk_cell BK105.out 0).trans rfl, (blk_cell BK105.out 1).trans rfl, (blk_cell BK108.out 0).trans rfl, (blk_cell BK108.out 1).trans rfl, (blk_cell BK108.out 2).trans rfl⟩ (fun hHeld => ?_); refine with_tabW impl_GraphOk.tab6 impl_GraphOk.bits6 (fun HT_ HW_ => ?_)
      generalize w66.drew = w67 at BK105 BK108 HB hHeld ⊢
      refine pz_ 1 24 ba2_1 HT_ ?_
      refine pt_ 0 23 ba2_2 HT_ HW_ hHeld ?_
      refine pt_ 2 25 ba2_3 HT_ HW_ hHeld ?_
      refine one_ (i := 3) (N := some 26) ba2_4 rfl rfl (one_of HT_.out (by kernel_rfl)) (by decide) (fun K hK => ?_)
      refine gz_ Try.func48 #[.agg #[.int .i64 a0_0, .slice (some ad107) l0_1.length c0_1], .int .i64 ((rd_T76 l0_1 x18_2).f0)] ?_
      with_reducible refine (impl_Graph_isNode.calls a0_0 _ _ l0_1 ((rd_T76 l0_1 x18_2).f0) true _ ?side1 ?side2 A13.out).mono ?_
      (case side1 => exact cb_ HR0_1 HB)
      (case side2 => exact HC0_1.out)
      rintro e w68 ⟨rfl, hb⟩
      refine ⟨_, rfl, ?_⟩
      replace BK105 := ab_ BK105 hb
      replace BK108 := ab_ BK108 hb
      replace HB := at_ HB hb
      (try clear hb)
      (try clear hb2)
      (try clear hk)
      (try clear hi)
      refine hK.out _ _ ⟨(blk_cell BK105.out 0).trans rfl, (blk_cell BK105.out 1).trans rfl, (blk_cell BK108.out 0).trans rfl, (blk_cell BK108.out 1).trans rfl, (blk_cell BK108.out 2).trans rfl⟩ (fun hHeld => ?_)
      clear hK K
      refine nz_ 26 ?_
      refine pz_ 4 27 ba2_5 HT_ ?_
      refine pz_ 5 28 ba2_6 HT_ ?_
      refine pz_ 7 30 ba2_7 HT_ ?_
      refine pt_ 6 29 ba2_8 HT_ HW_ hHeld ?_
      refine pt_ 8 31 ba2_9 HT_ HW_ hHeld ?_
      refine one_ (i := 9) (N := some 32) ba2_10 rfl rfl (one_of HT_.out (by kernel_rfl)) (by decide) (fun K hK => ?_)
      refine gz_ Try.func48 #[.agg #[.int .i64 a0_0, .slice (some ad107) l0_1.length c0_1], .int .i64 ((rd_T76 l0_1 x18_2).f1)] ?_
      with_reducible refine (impl_Graph_isNode.calls a0_0 _ _ l0_1 ((rd_T76 l0_1 x18_2).f1) false _ ?side1 ?side2 A15.out).mono ?_
      (case side1 => exact cb_ HR0_1 HB)
      (case side2 => exact HC0_1.out)
      rintro e w69 ⟨rfl, hb⟩
      refine ⟨_, rfl, ?_⟩
      replace BK105 := ab_ BK105 hb
      replace BK108 := ab_ BK108 hb
      replace HB := at_ HB hb
      (try clear hb)
      (try clear hb2)
      (try clear hk)
      (try clear hi)
      refine hK.out _ _ ⟨(blk_cell BK105.out 0).trans rfl, (blk_cell BK105.out 1).trans rfl, (blk_cell BK108.out 0).trans rfl, (blk_cell BK108.out 1).trans rfl, (blk_cell BK108.out 2).trans rfl⟩ (fun hHeld => ?_)
      clear hK K
      refine nz_ 32 ?_
      refine pz_ 10 33 ba2_11 HT_ ?_
      refine pz_ 11 34 ba2_12 HT_ ?_
      refine pz_ 12 35 ba2_13 HT_ ?_
      refine pu_ 13 36 ba2_14 HT_ ?_
      refine pu_ 14 37 ba2_43 HT_ ?_
      refine pu_ 15 38 ba2_16 HT_ ?_
      refine pu_ 16 39 ba2_17 HT_ ?_
      refine pu_ 17 40 ba2_18 HT_ ?_
      refine pz_ 18 41 ba2_19 HT_ ?_
      refine pz_ 19 42 ba2_20 HT_ ?_
      refine pu_ 20 43 ba2_21 HT_ ?_
      refine pu_ 21 44 ba2_22 HT_ ?_
      refine pu_ 22 45 ba2_23 HT_ ?_
      refine pu_ 23 46 ba2_24 HT_ ?_
      refine pz_ 24 47 ba2_25 HT_ ?_
      refine pz_ 25 48 ba2_26 HT_ ?_
      refine pu_ 26 49 ba2_27 HT_ ?_
      refine pu_ 27 50 ba2_28 HT_ ?_
      refine pu_ 28 51 ba2_29 HT_ ?_
      refine pu_ 29 52 ba2_30 HT_ ?_
      refine pu_ 30 53 ba2_31 HT_ ?_
      refine pu_ 31 54 ba2_32 HT_ ?_
      refine pu_ 32 55 ba2_33 HT_ ?_
      refine pu_ 33 56 ba2_34 HT_ ?_
      refine pu_ 34 57 ba2_35 HT_ ?_
      refine pu_ 35 58 ba2_36 HT_ ?_
      refine pu_ 36 59 ba2_37 HT_ ?_
      refine pu_ 37 60 ba2_38 HT_ ?_
      refine pu_ 38 61 ba2_39 HT_ ?_
      refine pz_ 39 62 ba2_40 HT_ ?_
      refine done_ (done_of HT_.out (by kernel_rfl)) ?_
      try go_wp2
      go_ret
      exact ⟨by first | rfl | (simp [errW_none, errW_some] <;> rfl) | (simp [*, errW_none, errW_some] <;> rfl), bw_⟩
     subst c16
     rw [if_pos rfl] at H
     by_cases c17 : ((rd_T76 l0_1 x18_2).f0) = ((rd_T76 l0_1 x18_2).f1)
     ·rw [if_pos c17] at H
      have c17b0 : (((rd_T76 l0_1 x18_2).f0) == ((rd_T76 l0_1 x18_2).f1)) = true := beq_iff_eq.mpr c17
      have c17b1 : (((rd_T76 l0_1 x18_2).f0) != ((rd_T76 l0_1 x18_2).f1)) = false := bne_eq_false_iff_eq.mpr c17
      clear c17
      obtain rfl := Option.some.inj H
      have p107 : 0 ≤ (x18_2 : Int) := of_decide_eq_true (by first | (with_reducible assumption) | assumption)
      have q107 : x18_2 < (l0_1.length : Int) := of_decide_eq_true (by first | (with_reducible assumption) | assumption)
      obtain ⟨ad107, e107, hx107_0, hx107_1, hx107_2⟩ := at_T76 HR0_1.out x18_2 p107 q107
      cases e107
      replace hx107_0 := (HB.out.cell (World.block_lt_of_cell? w _ hx107_0)).trans hx107_0
      replace hx107_1 := (HB.out.cell (World.block_lt_of_cell? w _ hx107_1)).trans hx107_1
      replace hx107_2 := (HB.out.cell (World.block_lt_of_cell? w _ hx107_2)).trans hx107_2
      replace p107 := eq_true p107
      replace q107 := eq_true q107
      try go_wp2_with ((with_reducible refine gate_dst (N := 4) rfl ?_); refine box_event ?hg (N := 4) ?hd (cs := #[.int .i64 0, .int .i64 0, .int .i64 0]) (t := 76) ?hr ?_; (case hd => rfl); (case hg => rfl); (case hr => first | (go_simp; done) | (go_simp; rfl)); intro gb108 hg w18 hbox hb; have BK108 := Aside0.mk hbox; have GW108 := ge_ HB hg; have GE108 := ge_ HB hg; have NB105_108 := nl_ BK105 hg; have NB108_105 := ng_ BK105 hg; replace HB := at_ HB hb; replace BK105 := ab_ BK105 hb; clear hb hbox hg; have hnb19 := NB108_105.out; have hnc19 := NB105_108.out; have hcz20_0 := cz_ BK108 0 (.int .i64 0); have hcz20_1 := cz_ BK108 1 (.int .i64 0); have hcz20_2 := cz_ BK108 2 (.int .i64 0); have hfz20_0 := blk_frozen BK108.out 0; have hfz20_1 := blk_frozen BK108.out 1; have hfz20_2 := blk_frozen BK108.out 2)
      have n0_ : Aside0 ((((w18.setCell ⟨gb108, 0, none⟩ (.int .i64 ((rd_T76 l0_1 x18_2).f0))).setCell ⟨gb108, 1, none⟩ (.int .i64 ((rd_T76 l0_1 x18_2).f1))).setCell ⟨gb108, 2, none⟩ (.int .i64 ((rd_T76 l0_1 x18_2).f2))).heap[gb105]? = some (.cells #[.int .i64 a0_0, .slice (some ad107) l0_1.length c0_1] 30 (0, 0))) := ⟨bc_ BK105⟩
      have n1_ : Aside0 ((((w18.setCell ⟨gb108, 0, none⟩ (.int .i64 ((rd_T76 l0_1 x18_2).f0))).setCell ⟨gb108, 1, none⟩ (.int .i64 ((rd_T76 l0_1 x18_2).f1))).setCell ⟨gb108, 2, none⟩ (.int .i64 ((rd_T76 l0_1 x18_2).f2))).heap[gb108]? = some (.cells #[.int .i64 ((rd_T76 l0_1 x18_2).f0), .int .i64 ((rd_T76 l0_1 x18_2).f1), .int .i64 ((rd_T76 l0_1 x18_2).f2)] 76 (0, 0))) := ⟨by (with_reducible repeat (first | refine blk_drewN ?_ _ | refine blk_drew ?_ | refine blk_alloc ?_ _)); refine blk_put (cs := #[.int .i64 ((rd_T76 l0_1 x18_2).f0), .int .i64 ((rd_T76 l0_1 x18_2).f1), .int .i64 0]) ?_ 2 _ rfl; (with_reducible repeat (first | refine blk_drewN ?_ _ | refine blk_drew ?_ | refine blk_alloc ?_ _)); refine blk_put (cs := #[.int .i64 ((rd_T76 l0_1 x18_2).f0), .int .i64 0, .int .i64 0]) ?_ 1 _ rfl; (with_reducible repeat (first | refine blk_drewN ?_ _ | refine blk_drew ?_ | refine blk_alloc ?_ _)); refine blk_put (cs := #[.int .i64 0, .int .i64 0, .int .i64 0]) ?_ 0 _ rfl; (with_reducible repeat (first | refine blk_drewN ?_ _ | refine blk_drew ?_ | refine blk_alloc ?_ _)); exact BK108.out⟩
      have n2_ : Aside0 (Below w.heap.size w (((w18.setCell ⟨gb108, 0, none⟩ (.int .i64 ((rd_T76 l0_1 x18_2).f0))).setCell ⟨gb108, 1, none⟩ (.int .i64 ((rd_T76 l0_1 x18_2).f1))).setCell ⟨gb108, 2, none⟩ (.int .i64 ((rd_T76 l0_1 x18_2).f2)))) := ⟨bw_⟩
      (try clear BK105)
      (try clear BK108)
      (try clear HB)
      generalize (((w18.setCell ⟨gb108, 0, none⟩ (.int .i64 ((rd_T76 l0_1 x18_2).f0))).setCell ⟨gb108, 1, none⟩ (.int .i64 ((rd_T76 l0_1 x18_2).f1))).setCell ⟨gb108, 2, none⟩ (.int .i64 ((rd_T76 l0_1 x18_2).f2))) = w21 at n0_ n1_ n2_ ⊢
      have BK105 := n0_
      have BK108 := n1_
      have HB := n2_
      clear n0_ n1_ n2_
      replace BK105 := ad_ BK105
      replace BK108 := ad_ BK108
      replace HB := Aside0.mk (below_drew1 HB.out)
      refine start_ (n := 40) (S := fun w' => w'.cell? ⟨gb105, 0, none⟩ = some (.int .i64 a0_0) ∧ w'.cell? ⟨gb105, 1, none⟩ = some (.slice (some ad107) l0_1.length c0_1) ∧ w'.cell? ⟨gb108, 0, none⟩ = some (.int .i64 ((rd_T76 l0_1 x18_2).f0)) ∧ w'.cell? ⟨gb108, 1, none⟩ = some (.int .i64 ((rd_T76 l0_1 x18_2).f1)) ∧ w'.cell? ⟨gb108, 2, none⟩ = some (.int .i64 ((rd_T76 l0_1 x18_2).f2))) (ds := []) ba2_0 (by kernel_rfl) rfl rfl ⟨(blk_cell BK105.out 0).trans rfl, (blk_cell BK105.out 1).trans rfl, (blk_cell BK108.out 0).trans rfl, (blk_cell BK108.out 1).trans rfl, (blk_cell BK108.out 2).trans rfl⟩ (fun hHeld => ?_); refine with_tabW impl_GraphOk.tab6 impl_GraphOk.bits6 (fun HT_ HW_ => ?_)
      generalize w21.drew = w22 at BK105 BK108 HB hHeld ⊢
      refine pz_ 1 24 ba2_1 HT_ ?_
      refine pt_ 0 23 ba2_2 HT_ HW_ hHeld ?_
      refine pt_ 2 25 ba2_3 HT_ HW_ hHeld ?_
      refine one_ (i := 3) (N := some 26) ba2_4 rfl rfl (one_of HT_.out (by kernel_rfl)) (by decide) (fun K hK => ?_)
      refine gz_ Try.func48 #[.agg #[.int .i64 a0_0, .slice (some ad107) l0_1.length c0_1], .int .i64 ((rd_T76 l0_1 x18_2).f0)] ?_
      with_reducible refine (impl_Graph_isNode.calls a0_0 _ _ l0_1 ((rd_T76 l0_1 x18_2).f0) true _ ?side1 ?side2 A13.out).mono ?_
      (case side1 => exact cb_ HR0_1 HB)
      (case side2 => exact HC0_1.out)
      rintro e w23 ⟨rfl, hb⟩
      refine ⟨_, rfl, ?_⟩
      replace BK105 := ab_ BK105 hb
      replace BK108 := ab_ BK108 hb
      replace HB := at_ HB hb
      (try clear hb)
      (try clear hb2)
      (try clear hk)
      (try clear hi)
      refine hK.out _ _ ⟨(blk_cell BK105.out 0).trans rfl, (blk_cell BK105.out 1).trans rfl, (blk_cell BK108.out 0).trans rfl, (blk_cell BK108.out 1).trans rfl, (blk_cell BK108.out 2).trans rfl⟩ (fun hHeld => ?_)
      clear hK K
      refine nz_ 26 ?_
      refine pz_ 4 27 ba2_5 HT_ ?_
      refine pz_ 5 28 ba2_6 HT_ ?_
      refine pz_ 7 30 ba2_7 HT_ ?_
      refine pt_ 6 29 ba2_8 HT_ HW_ hHeld ?_
      refine pt_ 8 31 ba2_9 HT_ HW_ hHeld ?_
      refine one_ (i := 9) (N := some 32) ba2_10 rfl rfl (one_of HT_.out (by kernel_rfl)) (by decide) (fun K hK => ?_)
      refine gz_ Try.func48 #[.agg #[.int .i64 a0_0, .slice (some ad107) l0_1.length c0_1], .int .i64 ((rd_T76 l0_1 x18_2).f1)] ?_
      with_reducible refine (impl_Graph_isNode.calls a0_0 _ _ l0_1 ((rd_T76 l0_1 x18_2).f1) true _ ?side1 ?side2 A15.out).mono ?_
      (case side1 => exact cb_ HR0_1 HB)
      (case side2 => exact HC0_1.out)
      rintro e w24 ⟨rfl, hb⟩
      refine ⟨_, rfl, ?_⟩
      replace BK105 := ab_ BK105 hb
      replace BK108 := ab_ BK108 hb
      replace HB := at_ HB hb
      (try clear hb)
      (try clear hb2)
      (try clear hk)
      (try clear hi)
      refine hK.out _ _ ⟨(blk_cell BK105.out 0).trans rfl, (blk_cell BK105.out 1).trans rfl, (blk_cell BK108.out 0).trans rfl, (blk_cell BK108.out 1).trans rfl, (blk_cell BK108.out 2).trans rfl⟩ (fun hHeld => ?_)
      clear hK K
      refine nz_ 32 ?_
      refine pz_ 10 33 ba2_11 HT_ ?_
      refine pz_ 11 34 ba2_12 HT_ ?_
      refine pz_ 12 35 ba2_13 HT_ ?_
      refine pz_ 13 36 ba2_14 HT_ ?_
      refine pz_ 15 38 ba2_15 HT_ ?_
      refine pt_ 14 37 ba2_16 HT_ HW_ hHeld ?_
      refine pt_ 16 39 ba2_17 HT_ HW_ hHeld ?_
      refine pz_ 17 40 ba2_18 HT_ ?_
      refine pz_ 18 41 ba2_19 HT_ ?_
      refine pz_ 19 42 ba2_20 HT_ ?_
      refine pu_ 20 43 ba2_21 HT_ ?_
      refine pu_ 21 44 ba2_22 HT_ ?_
      refine pu_ 22 45 ba2_23 HT_ ?_
      refine pu_ 23 46 ba2_24 HT_ ?_
      refine pz_ 24 47 ba2_25 HT_ ?_
      refine pz_ 25 48 ba2_26 HT_ ?_
      refine pu_ 26 49 ba2_27 HT_ ?_
      refine pu_ 27 50 ba2_28 HT_ ?_
      refine pu_ 28 51 ba2_29 HT_ ?_
      refine pu_ 29 52 ba2_30 HT_ ?_
      refine pu_ 30 53 ba2_31 HT_ ?_
      refine pu_ 31 54 ba2_32 HT_ ?_
      refine pu_ 32 55 ba2_33 HT_ ?_
      refine pu_ 33 56 ba2_34 HT_ ?_
      refine pu_ 34 57 ba2_35 HT_ ?_
      refine pu_ 35 58 ba2_36 HT_ ?_
      refine pu_ 36 59 ba2_37 HT_ ?_
      refine pu_ 37 60 ba2_38 HT_ ?_
      refine pu_ 38 61 ba2_39 HT_ ?_
      refine pz_ 39 62 ba2_40 HT_ ?_
      refine done_ (done_of HT_.out (by kernel_rfl)) ?_
      try go_wp2
      go_ret
      exact ⟨by first | rfl | (simp [errW_none, errW_some] <;> rfl) | (simp [*, errW_none, errW_some] <;> rfl), bw_⟩
     rw [if_neg c17] at H
     have c17b0 : (((rd_T76 l0_1 x18_2).f0) == ((rd_T76 l0_1 x18_2).f1)) = false := beq_eq_false_iff_ne.mpr c17
     have c17b1 : (((rd_T76 l0_1 x18_2).f0) != ((rd_T76 l0_1 x18_2).f1)) = true := bne_iff_ne.mpr c17
     replace H := Option.bind_eq_some_iff.mp H
     obtain ⟨t111, A250, H⟩ := H
     have A25 := Aside0.mk A250
     clear A250
     by_cases c26 : t111 = true
     rotate_left
     ·replace c26 := Bool.eq_false_iff.mpr c26
      subst c26
      rw [if_neg (show ¬ (false = true) by decide)] at H
      obtain rfl := Option.some.inj H
      have p107 : 0 ≤ (x18_2 : Int) := of_decide_eq_true (by first | (with_reducible assumption) | assumption)
      have q107 : x18_2 < (l0_1.length : Int) := of_decide_eq_true (by first | (with_reducible assumption) | assumption)
      obtain ⟨ad107, e107, hx107_0, hx107_1, hx107_2⟩ := at_T76 HR0_1.out x18_2 p107 q107
      cases e107
      replace hx107_0 := (HB.out.cell (World.block_lt_of_cell? w _ hx107_0)).trans hx107_0
      replace hx107_1 := (HB.out.cell (World.block_lt_of_cell? w _ hx107_1)).trans hx107_1
      replace hx107_2 := (HB.out.cell (World.block_lt_of_cell? w _ hx107_2)).trans hx107_2
      replace p107 := eq_true p107
      replace q107 := eq_true q107
      try go_wp2_with ((with_reducible refine gate_dst (N := 4) rfl ?_); refine box_event ?hg (N := 4) ?hd (cs := #[.int .i64 0, .int .i64 0, .int .i64 0]) (t := 76) ?hr ?_; (case hd => rfl); (case hg => rfl); (case hr => first | (go_simp; done) | (go_simp; rfl)); intro gb108 hg w56 hbox hb; have BK108 := Aside0.mk hbox; have GW108 := ge_ HB hg; have GE108 := ge_ HB hg; have NB105_108 := nl_ BK105 hg; have NB108_105 := ng_ BK105 hg; replace HB := at_ HB hb; replace BK105 := ab_ BK105 hb; clear hb hbox hg; have hnb57 := NB108_105.out; have hnc57 := NB105_108.out; have hcz58_0 := cz_ BK108 0 (.int .i64 0); have hcz58_1 := cz_ BK108 1 (.int .i64 0); have hcz58_2 := cz_ BK108 2 (.int .i64 0); have hfz58_0 := blk_frozen BK108.out 0; have hfz58_1 := blk_frozen BK108.out 1; have hfz58_2 := blk_frozen BK108.out 2)
      have n0_ : Aside0 ((((w56.setCell ⟨gb108, 0, none⟩ (.int .i64 ((rd_T76 l0_1 x18_2).f0))).setCell ⟨gb108, 1, none⟩ (.int .i64 ((rd_T76 l0_1 x18_2).f1))).setCell ⟨gb108, 2, none⟩ (.int .i64 ((rd_T76 l0_1 x18_2).f2))).heap[gb105]? = some (.cells #[.int .i64 a0_0, .slice (some ad107) l0_1.length c0_1] 30 (0, 0))) := ⟨bc_ BK105⟩
      have n1_ : Aside0 ((((w56.setCell ⟨gb108, 0, none⟩ (.int .i64 ((rd_T76 l0_1 x18_2).f0))).setCell ⟨gb108, 1, none⟩ (.int .i64 ((rd_T76 l0_1 x18_2).f1))).setCell ⟨gb108, 2, none⟩ (.int .i64 ((rd_T76 l0_1 x18_2).f2))).heap[gb108]? = some (.cells #[.int .i64 ((rd_T76 l0_1 x18_2).f0), .int .i64 ((rd_T76 l0_1 x18_2).f1), .int .i64 ((rd_T76 l0_1 x18_2).f2)] 76 (0, 0))) := ⟨by (with_reducible repeat (first | refine blk_drewN ?_ _ | refine blk_drew ?_ | refine blk_alloc ?_ _)); refine blk_put (cs := #[.int .i64 ((rd_T76 l0_1 x18_2).f0), .int .i64 ((rd_T76 l0_1 x18_2).f1), .int .i64 0]) ?_ 2 _ rfl; (with_reducible repeat (first | refine blk_drewN ?_ _ | refine blk_drew ?_ | refine blk_alloc ?_ _)); refine blk_put (cs := #[.int .i64 ((rd_T76 l0_1 x18_2).f0), .int .i64 0, .int .i64 0]) ?_ 1 _ rfl; (with_reducible repeat (first | refine blk_drewN ?_ _ | refine blk_drew ?_ | refine blk_alloc ?_ _)); refine blk_put (cs := #[.int .i64 0, .int .i64 0, .int .i64 0]) ?_ 0 _ rfl; (with_reducible repeat (first | refine blk_drewN ?_ _ | refine blk_drew ?_ | refine blk_alloc ?_ _)); exact BK108.out⟩
      have n2_ : Aside0 (Below w.heap.size w (((w56.setCell ⟨gb108, 0, none⟩ (.int .i64 ((rd_T76 l0_1 x18_2).f0))).setCell ⟨gb108, 1, none⟩ (.int .i64 ((rd_T76 l0_1 x18_2).f1))).setCell ⟨gb108, 2, none⟩ (.int .i64 ((rd_T76 l0_1 x18_2).f2)))) := ⟨bw_⟩
      (try clear BK105)
      (try clear BK108)
      (try clear HB)
      generalize (((w56.setCell ⟨gb108, 0, none⟩ (.int .i64 ((rd_T76 l0_1 x18_2).f0))).setCell ⟨gb108, 1, none⟩ (.int .i64 ((rd_T76 l0_1 x18_2).f1))).setCell ⟨gb108, 2, none⟩ (.int .i64 ((rd_T76 l0_1 x18_2).f2))) = w59 at n0_ n1_ n2_ ⊢
      have BK105 := n0_
      have BK108 := n1_
      have HB := n2_
      clear n0_ n1_ n2_
      replace BK105 := ad_ BK105
      replace BK108 := ad_ BK108
      replace HB := Aside0.mk (below_drew1 HB.out)
      refine start_ (n := 40) (S := fun w' => w'.cell? ⟨gb105, 0, none⟩ = some (.int .i64 a0_0) ∧ w'.cell? ⟨gb105, 1, none⟩ = some (.slice (some ad107) l0_1.length c0_1) ∧ w'.cell? ⟨gb108, 0, none⟩ = some (.int .i64 ((rd_T76 l0_1 x18_2).f0)) ∧ w'.cell? ⟨gb108, 1, none⟩ = some (.int .i64 ((rd_T76 l0_1 x18_2).f1)) ∧ w'.cell? ⟨gb108, 2, none⟩ = some (.int .i64 ((rd_T76 l0_1 x18_2).f2))) (ds := []) ba2_0 (by kernel_rfl) rfl rfl ⟨(blk_cell BK105.out 0).trans rfl, (blk_cell BK105.out 1).trans rfl, (blk_cell BK108.out 0).trans rfl, (blk_cell BK108.out 1).trans rfl, (blk_cell BK108.out 2).trans rfl⟩ (fun hHeld => ?_); refine with_tabW impl_GraphOk.tab6 impl_GraphOk.bits6 (fun HT_ HW_ => ?_)
      generalize w59.drew = w60 at BK105 BK108 HB hHeld ⊢
      refine pz_ 1 24 ba2_1 HT_ ?_
      refine pt_ 0 23 ba2_2 HT_ HW_ hHeld ?_
      refine pt_ 2 25 ba2_3 HT_ HW_ hHeld ?_
      refine one_ (i := 3) (N := some 26) ba2_4 rfl rfl (one_of HT_.out (by kernel_rfl)) (by decide) (fun K hK => ?_)
      refine gz_ Try.func48 #[.agg #[.int .i64 a0_0, .slice (some ad107) l0_1.length c0_1], .int .i64 ((rd_T76 l0_1 x18_2).f0)] ?_
      with_reducible refine (impl_Graph_isNode.calls a0_0 _ _ l0_1 ((rd_T76 l0_1 x18_2).f0) true _ ?side1 ?side2 A13.out).mono ?_
      (case side1 => exact cb_ HR0_1 HB)
      (case side2 => exact HC0_1.out)
      rintro e w61 ⟨rfl, hb⟩
      refine ⟨_, rfl, ?_⟩
      replace BK105 := ab_ BK105 hb
      replace BK108 := ab_ BK108 hb
      replace HB := at_ HB hb
      (try clear hb)
      (try clear hb2)
      (try clear hk)
      (try clear hi)
      refine hK.out _ _ ⟨(blk_cell BK105.out 0).trans rfl, (blk_cell BK105.out 1).trans rfl, (blk_cell BK108.out 0).trans rfl, (blk_cell BK108.out 1).trans rfl, (blk_cell BK108.out 2).trans rfl⟩ (fun hHeld => ?_)
      clear hK K
      refine nz_ 26 ?_
      refine pz_ 4 27 ba2_5 HT_ ?_
      refine pz_ 5 28 ba2_6 HT_ ?_
      refine pz_ 7 30 ba2_7 HT_ ?_
      refine pt_ 6 29 ba2_8 HT_ HW_ hHeld ?_
      refine pt_ 8 31 ba2_9 HT_ HW_ hHeld ?_
      refine one_ (i := 9) (N := some 32) ba2_10 rfl rfl (one_of HT_.out (by kernel_rfl)) (by decide) (fun K hK => ?_)
      refine gz_ Try.func48 #[.agg #[.int .i64 a0_0, .slice (some ad107) l0_1.length c0_1], .int .i64 ((rd_T76 l0_1 x18_2).f1)] ?_
      with_reducible refine (impl_Graph_isNode.calls a0_0 _ _ l0_1 ((rd_T76 l0_1 x18_2).f1) true _ ?side1 ?side2 A15.out).mono ?_
      (case side1 => exact cb_ HR0_1 HB)
      (case side2 => exact HC0_1.out)
      rintro e w62 ⟨rfl, hb⟩
      refine ⟨_, rfl, ?_⟩
      replace BK105 := ab_ BK105 hb
      replace BK108 := ab_ BK108 hb
      replace HB := at_ HB hb
      (try clear hb)
      (try clear hb2)
      (try clear hk)
      (try clear hi)
      refine hK.out _ _ ⟨(blk_cell BK105.out 0).trans rfl, (blk_cell BK105.out 1).trans rfl, (blk_cell BK108.out 0).trans rfl, (blk_cell BK108.out 1).trans rfl, (blk_cell BK108.out 2).trans rfl⟩ (fun hHeld => ?_)
      clear hK K
      refine nz_ 32 ?_
      refine pz_ 10 33 ba2_11 HT_ ?_
      refine pz_ 11 34 ba2_12 HT_ ?_
      refine pz_ 12 35 ba2_13 HT_ ?_
      refine pz_ 13 36 ba2_14 HT_ ?_
      refine pz_ 15 38 ba2_15 HT_ ?_
      refine pt_ 14 37 ba2_16 HT_ HW_ hHeld ?_
      refine pt_ 16 39 ba2_17 HT_ HW_ hHeld ?_
      refine pz_ 17 40 ba2_18 HT_ ?_
      refine pz_ 18 41 ba2_19 HT_ ?_
      refine pz_ 19 42 ba2_20 HT_ ?_
      refine pz_ 20 43 ba2_21 HT_ ?_
      refine pt_ 21 44 ba2_22 HT_ HW_ hHeld ?_
      refine one_ (i := 22) (N := some 45) ba2_23 rfl rfl (one_of HT_.out (by kernel_rfl)) (by decide) (fun K hK => ?_)
      refine gz_ Try.func54 #[.int .i64 ((rd_T76 l0_1 x18_2).f2), .int .i64 1, .int .i64 1000] ?_
      with_reducible refine (impl_within.calls ((rd_T76 l0_1 x18_2).f2) 1 1000 false _ A25.out).mono ?_
      rintro e w' ⟨rfl, ⟨nd, rfl⟩⟩
      refine ⟨_, rfl, ?_⟩
      refine hK.out _ _ ⟨(blk_cell BK105.out 0).trans rfl, (blk_cell BK105.out 1).trans rfl, (blk_cell BK108.out 0).trans rfl, (blk_cell BK108.out 1).trans rfl, (blk_cell BK108.out 2).trans rfl⟩ (fun hHeld => ?_)
      clear hK K
      refine nz_ 45 ?_
      refine pz_ 23 46 ba2_24 HT_ ?_
      refine pz_ 24 47 ba2_25 HT_ ?_
      refine pz_ 25 48 ba2_26 HT_ ?_
      refine pu_ 26 49 ba2_27 HT_ ?_
      refine pu_ 27 50 ba2_28 HT_ ?_
      refine pu_ 28 51 ba2_29 HT_ ?_
      refine pu_ 29 52 ba2_30 HT_ ?_
      refine pu_ 30 53 ba2_31 HT_ ?_
      refine pu_ 31 54 ba2_32 HT_ ?_
      refine pu_ 32 55 ba2_33 HT_ ?_
      refine pu_ 33 56 ba2_34 HT_ ?_
      refine pu_ 34 57 ba2_35 HT_ ?_
      refine pu_ 35 58 ba2_36 HT_ ?_
      refine pu_ 36 59 ba2_37 HT_ ?_
      refine pu_ 37 60 ba2_38 HT_ ?_
      refine pu_ 38 61 ba2_39 HT_ ?_
      refine pz_ 39 62 ba2_40 HT_ ?_
      refine done_ (done_of HT_.out (by kernel_rfl)) ?_
      try go_wp2
      go_ret
      exact ⟨by first | rfl | (simp [errW_none, errW_some] <;> rfl) | (simp [*, errW_none, errW_some] <;> rfl), bw_⟩
     subst c26
     rw [if_pos rfl] at H
     by_cases c27 : x18_2 > 0
     rotate_left
     ·rw [if_neg c27] at H
      have c27b0 : decide (0 < x18_2) = false := decide_eq_false c27
      clear c27
      have H' := Aside0.mk H
      clear H
      have p107 : 0 ≤ (x18_2 : Int) := of_decide_eq_true (by first | (with_reducible assumption) | assumption)
      have q107 : x18_2 < (l0_1.length : Int) := of_decide_eq_true (by first | (with_reducible assumption) | assumption)
      obtain ⟨ad107, e107, hx107_0, hx107_1, hx107_2⟩ := at_T76 HR0_1.out x18_2 p107 q107
      cases e107
      replace hx107_0 := (HB.out.cell (World.block_lt_of_cell? w _ hx107_0)).trans hx107_0
      replace hx107_1 := (HB.out.cell (World.block_lt_of_cell? w _ hx107_1)).trans hx107_1
      replace hx107_2 := (HB.out.cell (World.block_lt_of_cell? w _ hx107_2)).trans hx107_2
      replace p107 := eq_true p107
      replace q107 := eq_true q107
      try go_wp2_with ((with_reducible refine gate_dst (N := 4) rfl ?_); refine box_event ?hg (N := 4) ?hd (cs := #[.int .i64 0, .int .i64 0, .int .i64 0]) (t := 76) ?hr ?_; (case hd => rfl); (case hg => rfl); (case hr => first | (go_simp; done) | (go_simp; rfl)); intro gb108 hg w49 hbox hb; have BK108 := Aside0.mk hbox; have GW108 := ge_ HB hg; have GE108 := ge_ HB hg; have NB105_108 := nl_ BK105 hg; have NB108_105 := ng_ BK105 hg; replace HB := at_ HB hb; replace BK105 := ab_ BK105 hb; clear hb hbox hg; have hnb50 := NB108_105.out; have hnc50 := NB105_108.out; have hcz51_0 := cz_ BK108 0 (.int .i64 0); have hcz51_1 := cz_ BK108 1 (.int .i64 0); have hcz51_2 := cz_ BK108 2 (.int .i64 0); have hfz51_0 := blk_frozen BK108.out 0; have hfz51_1 := blk_frozen BK108.out 1; have hfz51_2 := blk_frozen BK108.out 2)
      have n0_ : Aside0 ((((w49.setCell ⟨gb108, 0, none⟩ (.int .i64 ((rd_T76 l0_1 x18_2).f0))).setCell ⟨gb108, 1, none⟩ (.int .i64 ((rd_T76 l0_1 x18_2).f1))).setCell ⟨gb108, 2, none⟩ (.int .i64 ((rd_T76 l0_1 x18_2).f2))).heap[gb105]? = some (.cells #[.int .i64 a0_0, .slice (some ad107) l0_1.length c0_1] 30 (0, 0))) := ⟨bc_ BK105⟩
      have n1_ : Aside0 ((((w49.setCell ⟨gb108, 0, none⟩ (.int .i64 ((rd_T76 l0_1 x18_2).f0))).setCell ⟨gb108, 1, none⟩ (.int .i64 ((rd_T76 l0_1 x18_2).f1))).setCell ⟨gb108, 2, none⟩ (.int .i64 ((rd_T76 l0_1 x18_2).f2))).heap[gb108]? = some (.cells #[.int .i64 ((rd_T76 l0_1 x18_2).f0), .int .i64 ((rd_T76 l0_1 x18_2).f1), .int .i64 ((rd_T76 l0_1 x18_2).f2)] 76 (0, 0))) := ⟨by (with_reducible repeat (first | refine blk_drewN ?_ _ | refine blk_drew ?_ | refine blk_alloc ?_ _)); refine blk_put (cs := #[.int .i64 ((rd_T76 l0_1 x18_2).f0), .int .i64 ((rd_T76 l0_1 x18_2).f1), .int .i64 0]) ?_ 2 _ rfl; (with_reducible repeat (first | refine blk_drewN ?_ _ | refine blk_drew ?_ | refine blk_alloc ?_ _)); refine blk_put (cs := #[.int .i64 ((rd_T76 l0_1 x18_2).f0), .int .i64 0, .int .i64 0]) ?_ 1 _ rfl; (with_reducible repeat (first | refine blk_drewN ?_ _ | refine blk_drew ?_ | refine blk_alloc ?_ _)); refine blk_put (cs := #[.int .i64 0, .int .i64 0, .int .i64 0]) ?_ 0 _ rfl; (with_reducible repeat (first | refine blk_drewN ?_ _ | refine blk_drew ?_ | refine blk_alloc ?_ _)); exact BK108.out⟩
      have n2_ : Aside0 (Below w.heap.size w (((w49.setCell ⟨gb108, 0, none⟩ (.int .i64 ((rd_T76 l0_1 x18_2).f0))).setCell ⟨gb108, 1, none⟩ (.int .i64 ((rd_T76 l0_1 x18_2).f1))).setCell ⟨gb108, 2, none⟩ (.int .i64 ((rd_T76 l0_1 x18_2).f2)))) := ⟨bw_⟩
      (try clear BK105)
      (try clear BK108)
      (try clear HB)
      generalize (((w49.setCell ⟨gb108, 0, none⟩ (.int .i64 ((rd_T76 l0_1 x18_2).f0))).setCell ⟨gb108, 1, none⟩ (.int .i64 ((rd_T76 l0_1 x18_2).f1))).setCell ⟨gb108, 2, none⟩ (.int .i64 ((rd_T76 l0_1 x18_2).f2))) = w52 at n0_ n1_ n2_ ⊢
      have BK105 := n0_
      have BK108 := n1_
      have HB := n2_
      clear n0_ n1_ n2_
      replace BK105 := ad_ BK105
      replace BK108 := ad_ BK108
      replace HB := Aside0.mk (below_drew1 HB.out)
      refine start_ (n := 40) (S := fun w' => w'.cell? ⟨gb105, 0, none⟩ = some (.int .i64 a0_0) ∧ w'.cell? ⟨gb105, 1, none⟩ = some (.slice (some ad107) l0_1.length c0_1) ∧ w'.cell? ⟨gb108, 0, none⟩ = some (.int .i64 ((rd_T76 l0_1 x18_2).f0)) ∧ w'.cell? ⟨gb108, 1, none⟩ = some (.int .i64 ((rd_T76 l0_1 x18_2).f1)) ∧ w'.cell? ⟨gb108, 2, none⟩ = some (.int .i64 ((rd_T76 l0_1 x18_2).f2))) (ds := []) ba2_0 (by kernel_rfl) rfl rfl ⟨(blk_cell BK105.out 0).trans rfl, (blk_cell BK105.out 1).trans rfl, (blk_cell BK108.out 0).trans rfl, (blk_cell BK108.out 1).trans rfl, (blk_cell BK108.out 2).trans rfl⟩ (fun hHeld => ?_); refine with_tabW impl_GraphOk.tab6 impl_GraphOk.bits6 (fun HT_ HW_ => ?_)
      generalize w52.drew = w53 at BK105 BK108 HB hHeld ⊢
      refine pz_ 1 24 ba2_1 HT_ ?_
      refine pt_ 0 23 ba2_2 HT_ HW_ hHeld ?_
      refine pt_ 2 25 ba2_3 HT_ HW_ hHeld ?_
      refine one_ (i := 3) (N := some 26) ba2_4 rfl rfl (one_of HT_.out (by kernel_rfl)) (by decide) (fun K hK => ?_)
      refine gz_ Try.func48 #[.agg #[.int .i64 a0_0, .slice (some ad107) l0_1.length c0_1], .int .i64 ((rd_T76 l0_1 x18_2).f0)] ?_
      with_reducible refine (impl_Graph_isNode.calls a0_0 _ _ l0_1 ((rd_T76 l0_1 x18_2).f0) true _ ?side1 ?side2 A13.out).mono ?_
      (case side1 => exact cb_ HR0_1 HB)
      (case side2 => exact HC0_1.out)
      rintro e w54 ⟨rfl, hb⟩
      refine ⟨_, rfl, ?_⟩
      replace BK105 := ab_ BK105 hb
      replace BK108 := ab_ BK108 hb
      replace HB := at_ HB hb
      (try clear hb)
      (try clear hb2)
      (try clear hk)
      (try clear hi)
      refine hK.out _ _ ⟨(blk_cell BK105.out 0).trans rfl, (blk_cell BK105.out 1).trans rfl, (blk_cell BK108.out 0).trans rfl, (blk_cell BK108.out 1).trans rfl, (blk_cell BK108.out 2).trans rfl⟩ (fun hHeld => ?_)
      clear hK K
      refine nz_ 26 ?_
      refine pz_ 4 27 ba2_5 HT_ ?_
      refine pz_ 5 28 ba2_6 HT_ ?_
      refine pz_ 7 30 ba2_7 HT_ ?_
      refine pt_ 6 29 ba2_8 HT_ HW_ hHeld ?_
      refine pt_ 8 31 ba2_9 HT_ HW_ hHeld ?_
      refine one_ (i := 9) (N := some 32) ba2_10 rfl rfl (one_of HT_.out (by kernel_rfl)) (by decide) (fun K hK => ?_)
      refine gz_ Try.func48 #[.agg #[.int .i64 a0_0, .slice (some ad107) l0_1.length c0_1], .int .i64 ((rd_T76 l0_1 x18_2).f1)] ?_
      with_reducible refine (impl_Graph_isNode.calls a0_0 _ _ l0_1 ((rd_T76 l0_1 x18_2).f1) true _ ?side1 ?side2 A15.out).mono ?_
      (case side1 => exact cb_ HR0_1 HB)
      (case side2 => exact HC0_1.out)
      rintro e w55 ⟨rfl, hb⟩
      refine ⟨_, rfl, ?_⟩
      replace BK105 := ab_ BK105 hb
      replace BK108 := ab_ BK108 hb
      replace HB := at_ HB hb
      (try clear hb)
      (try clear hb2)
      (try clear hk)
      (try clear hi)
      refine hK.out _ _ ⟨(blk_cell BK105.out 0).trans rfl, (blk_cell BK105.out 1).trans rfl, (blk_cell BK108.out 0).trans rfl, (blk_cell BK108.out 1).trans rfl, (blk_cell BK108.out 2).trans rfl⟩ (fun hHeld => ?_)
      clear hK K
      refine nz_ 32 ?_
      refine pz_ 10 33 ba2_11 HT_ ?_
      refine pz_ 11 34 ba2_12 HT_ ?_
      refine pz_ 12 35 ba2_13 HT_ ?_
      refine pz_ 13 36 ba2_14 HT_ ?_
      refine pz_ 15 38 ba2_15 HT_ ?_
      refine pt_ 14 37 ba2_16 HT_ HW_ hHeld ?_
      refine pt_ 16 39 ba2_17 HT_ HW_ hHeld ?_
      refine pz_ 17 40 ba2_18 HT_ ?_
      refine pz_ 18 41 ba2_19 HT_ ?_
      refine pz_ 19 42 ba2_20 HT_ ?_
      refine pz_ 20 43 ba2_21 HT_ ?_
      refine pt_ 21 44 ba2_22 HT_ HW_ hHeld ?_
      refine one_ (i := 22) (N := some 45) ba2_23 rfl rfl (one_of HT_.out (by kernel_rfl)) (by decide) (fun K hK => ?_)
      refine gz_ Try.func54 #[.int .i64 ((rd_T76 l0_1 x18_2).f2), .int .i64 1, .int .i64 1000] ?_
      with_reducible refine (impl_within.calls ((rd_T76 l0_1 x18_2).f2) 1 1000 true _ A25.out).mono ?_
      rintro e w' ⟨rfl, ⟨nd, rfl⟩⟩
      refine ⟨_, rfl, ?_⟩
      refine hK.out _ _ ⟨(blk_cell BK105.out 0).trans rfl, (blk_cell BK105.out 1).trans rfl, (blk_cell BK108.out 0).trans rfl, (blk_cell BK108.out 1).trans rfl, (blk_cell BK108.out 2).trans rfl⟩ (fun hHeld => ?_)
      clear hK K
      refine nz_ 45 ?_
      refine pz_ 23 46 ba2_24 HT_ ?_
      refine pz_ 24 47 ba2_25 HT_ ?_
      refine pz_ 25 48 ba2_26 HT_ ?_
      refine pz_ 26 49 ba2_27 HT_ ?_
      refine pz_ 27 50 ba2_28 HT_ ?_
      refine pz_ 28 51 ba2_29 HT_ ?_
      refine pu_ 29 52 ba2_30 HT_ ?_
      refine pu_ 30 53 ba2_31 HT_ ?_
      refine pu_ 31 54 ba2_32 HT_ ?_
      refine pu_ 32 55 ba2_33 HT_ ?_
      refine pu_ 33 56 ba2_34 HT_ ?_
      refine pu_ 34 57 ba2_35 HT_ ?_
      refine pu_ 35 58 ba2_36 HT_ ?_
      refine pu_ 36 59 ba2_37 HT_ ?_
      refine pu_ 37 60 ba2_38 HT_ ?_
      refine pz_ 38 61 ba2_39 HT_ ?_
      refine pz_ 39 62 ba2_40 HT_ ?_
      refine done_ (done_of HT_.out (by kernel_rfl)) ?_
      try go_wp2
      go_roundg k2
      case measure => have := HJ1.out; have := HK2.out; omega
      case rel => exact ⟨(wrap64 (x18_2 + 1)), (by first | rfl | (simp; done) | (simp [*]; done)), H', ⟨by have := HJ1.out; have := HK2.out; omega⟩, ⟨bx_ BK105⟩, ⟨bw_⟩⟩
     rw [if_pos c27] at H
     have c27b0 : decide (0 < x18_2) = true := decide_eq_true c27
     clear c27
     obtain ⟨ji28, hji28⟩ : ∃ j_ : Int, (wrap64 (x18_2 - 1)) = j_ := ⟨_, rfl⟩
     first | rw [hji28] at H | simp only [hji28] at H
     (try rw [hji28] at A13)
     (try rw [hji28] at A15)
     (try rw [hji28] at A25)
     have hji28w : (IntKind.i64.wrap (x18_2 - 1)) = ji28 := (i64_w _).trans hji28
     by_cases c29 : 0 ≤ (ji28)
     rotate_left
     ·rw [if_neg c29] at H
      exact absurd H (by simp)
     rw [if_pos c29] at H
     have c29b0 : decide (0 ≤ (ji28)) = true := decide_eq_true c29
     clear c29
     by_cases c30 : (ji28) < (l0_1.length : Int)
     rotate_left
     ·rw [if_neg c30] at H
      exact absurd H (by simp)
     rw [if_pos c30] at H
     have c30b0 : decide ((ji28) < (l0_1.length : Int)) = true := decide_eq_true c30
     clear c30
     replace H := Option.bind_eq_some_iff.mp H
     obtain ⟨t113, A310, H⟩ := H
     have A31 := Aside0.mk A310
     clear A310
     by_cases c32 : t113 ≥ 0
     ·rw [if_pos c32] at H
      have c32b0 : decide (0 ≤ t113) = true := decide_eq_true c32
      clear c32
      obtain rfl := Option.some.inj H
      have p107 : 0 ≤ (x18_2 : Int) := of_decide_eq_true (by first | (with_reducible assumption) | assumption)
      have q107 : x18_2 < (l0_1.length : Int) := of_decide_eq_true (by first | (with_reducible assumption) | assumption)
      obtain ⟨ad107, e107, hx107_0, hx107_1, hx107_2⟩ := at_T76 HR0_1.out x18_2 p107 q107
      cases e107
      replace hx107_0 := (HB.out.cell (World.block_lt_of_cell? w _ hx107_0)).trans hx107_0
      replace hx107_1 := (HB.out.cell (World.block_lt_of_cell? w _ hx107_1)).trans hx107_1
      replace hx107_2 := (HB.out.cell (World.block_lt_of_cell? w _ hx107_2)).trans hx107_2
      replace p107 := eq_true p107
      replace q107 := eq_true q107
      try go_wp2_with ((with_reducible refine gate_dst (N := 4) rfl ?_); refine box_event ?hg (N := 4) ?hd (cs := #[.int .i64 0, .int .i64 0, .int .i64 0]) (t := 76) ?hr ?_; (case hd => rfl); (case hg => rfl); (case hr => first | (go_simp; done) | (go_simp; rfl)); intro gb108 hg w33 hbox hb; have BK108 := Aside0.mk hbox; have GW108 := ge_ HB hg; have GE108 := ge_ HB hg; have NB105_108 := nl_ BK105 hg; have NB108_105 := ng_ BK105 hg; replace HB := at_ HB hb; replace BK105 := ab_ BK105 hb; clear hb hbox hg; have hnb34 := NB108_105.out; have hnc34 := NB105_108.out; have hcz35_0 := cz_ BK108 0 (.int .i64 0); have hcz35_1 := cz_ BK108 1 (.int .i64 0); have hcz35_2 := cz_ BK108 2 (.int .i64 0); have hfz35_0 := blk_frozen BK108.out 0; have hfz35_1 := blk_frozen BK108.out 1; have hfz35_2 := blk_frozen BK108.out 2)
      have n0_ : Aside0 ((((w33.setCell ⟨gb108, 0, none⟩ (.int .i64 ((rd_T76 l0_1 x18_2).f0))).setCell ⟨gb108, 1, none⟩ (.int .i64 ((rd_T76 l0_1 x18_2).f1))).setCell ⟨gb108, 2, none⟩ (.int .i64 ((rd_T76 l0_1 x18_2).f2))).heap[gb105]? = some (.cells #[.int .i64 a0_0, .slice (some ad107) l0_1.length c0_1] 30 (0, 0))) := ⟨bc_ BK105⟩
      have n1_ : Aside0 ((((w33.setCell ⟨gb108, 0, none⟩ (.int .i64 ((rd_T76 l0_1 x18_2).f0))).setCell ⟨gb108, 1, none⟩ (.int .i64 ((rd_T76 l0_1 x18_2).f1))).setCell ⟨gb108, 2, none⟩ (.int .i64 ((rd_T76 l0_1 x18_2).f2))).heap[gb108]? = some (.cells #[.int .i64 ((rd_T76 l0_1 x18_2).f0), .int .i64 ((rd_T76 l0_1 x18_2).f1), .int .i64 ((rd_T76 l0_1 x18_2).f2)] 76 (0, 0))) := ⟨by (with_reducible repeat (first | refine blk_drewN ?_ _ | refine blk_drew ?_ | refine blk_alloc ?_ _)); refine blk_put (cs := #[.int .i64 ((rd_T76 l0_1 x18_2).f0), .int .i64 ((rd_T76 l0_1 x18_2).f1), .int .i64 0]) ?_ 2 _ rfl; (with_reducible repeat (first | refine blk_drewN ?_ _ | refine blk_drew ?_ | refine blk_alloc ?_ _)); refine blk_put (cs := #[.int .i64 ((rd_T76 l0_1 x18_2).f0), .int .i64 0, .int .i64 0]) ?_ 1 _ rfl; (with_reducible repeat (first | refine blk_drewN ?_ _ | refine blk_drew ?_ | refine blk_alloc ?_ _)); refine blk_put (cs := #[.int .i64 0, .int .i64 0, .int .i64 0]) ?_ 0 _ rfl; (with_reducible repeat (first | refine blk_drewN ?_ _ | refine blk_drew ?_ | refine blk_alloc ?_ _)); exact BK108.out⟩
      have n2_ : Aside0 (Below w.heap.size w (((w33.setCell ⟨gb108, 0, none⟩ (.int .i64 ((rd_T76 l0_1 x18_2).f0))).setCell ⟨gb108, 1, none⟩ (.int .i64 ((rd_T76 l0_1 x18_2).f1))).setCell ⟨gb108, 2, none⟩ (.int .i64 ((rd_T76 l0_1 x18_2).f2)))) := ⟨bw_⟩
      (try clear BK105)
      (try clear BK108)
      (try clear HB)
      generalize (((w33.setCell ⟨gb108, 0, none⟩ (.int .i64 ((rd_T76 l0_1 x18_2).f0))).setCell ⟨gb108, 1, none⟩ (.int .i64 ((rd_T76 l0_1 x18_2).f1))).setCell ⟨gb108, 2, none⟩ (.int .i64 ((rd_T76 l0_1 x18_2).f2))) = w36 at n0_ n1_ n2_ ⊢
      have BK105 := n0_
      have BK108 := n1_
      have HB := n2_
      clear n0_ n1_ n2_
      replace BK105 := ad_ BK105
      replace BK108 := ad_ BK108
      replace HB := Aside0.mk (below_drew1 HB.out)
      have p112 : 0 ≤ ((ji28) : Int) := of_decide_eq_true (by first | (with_reducible assumption) | assumption)
      have q112 : (ji28) < (l0_1.length : Int) := of_decide_eq_true (by first | (with_reducible assumption) | assumption)
      obtain ⟨ad112, e112, hx112_0, hx112_1, hx112_2⟩ := at_T76 HR0_1.out (ji28) p112 q112
      have hw112_2 := hx112_2
      have hw112_1 := hx112_1
      have hw112_0 := hx112_0
      obtain rfl : ad107 = ad112 := (by injection e112)
      replace hx112_0 := (HB.out.cell (World.block_lt_of_cell? w _ hx112_0)).trans hx112_0
      replace hx112_1 := (HB.out.cell (World.block_lt_of_cell? w _ hx112_1)).trans hx112_1
      replace hx112_2 := (HB.out.cell (World.block_lt_of_cell? w _ hx112_2)).trans hx112_2
      replace p112 := eq_true p112
      replace q112 := eq_true q112
      refine start_ (n := 40) (S := fun w' => w'.cell? ⟨gb105, 0, none⟩ = some (.int .i64 a0_0) ∧ w'.cell? ⟨gb105, 1, none⟩ = some (.slice (some ad107) l0_1.length c0_1) ∧ w'.cell? ⟨gb108, 0, none⟩ = some (.int .i64 ((rd_T76 l0_1 x18_2).f0)) ∧ w'.cell? ⟨gb108, 1, none⟩ = some (.int .i64 ((rd_T76 l0_1 x18_2).f1)) ∧ w'.cell? ⟨gb108, 2, none⟩ = some (.int .i64 ((rd_T76 l0_1 x18_2).f2)) ∧ w'.cell? (ad107.add (((ji28)).toNat * 3)) = some (.int .i64 ((rd_T76 l0_1 (ji28)).f0)) ∧ w'.cell? ⟨(ad107.add (((ji28)).toNat * 3)).block, (ad107.add (((ji28)).toNat * 3)).off + 1, none⟩ = some (.int .i64 ((rd_T76 l0_1 (ji28)).f1)) ∧ w'.cell? ⟨(ad107.add (((ji28)).toNat * 3)).block, (ad107.add (((ji28)).toNat * 3)).off + 2, none⟩ = some (.int .i64 ((rd_T76 l0_1 (ji28)).f2))) (ds := []) ba2_0 (by kernel_rfl) rfl rfl ⟨(blk_cell BK105.out 0).trans rfl, (blk_cell BK105.out 1).trans rfl, (blk_cell BK108.out 0).trans rfl, (blk_cell BK108.out 1).trans rfl, (blk_cell BK108.out 2).trans rfl, (hc_ HB hw112_0), (hc_ HB hw112_1), (hc_ HB hw112_2)⟩ (fun hHeld => ?_); refine with_tabW impl_GraphOk.tab6 impl_GraphOk.bits6 (fun HT_ HW_ => ?_)
      generalize w36.drew = w37 at BK105 BK108 HB hx112_0 hx112_1 hx112_2 hHeld ⊢
      refine pz_ 1 24 ba2_1 HT_ ?_
      refine pt_ 0 23 ba2_2 HT_ HW_ hHeld ?_
      refine pt_ 2 25 ba2_3 HT_ HW_ hHeld ?_
      refine one_ (i := 3) (N := some 26) ba2_4 rfl rfl (one_of HT_.out (by kernel_rfl)) (by decide) (fun K hK => ?_)
      refine gz_ Try.func48 #[.agg #[.int .i64 a0_0, .slice (some ad107) l0_1.length c0_1], .int .i64 ((rd_T76 l0_1 x18_2).f0)] ?_
      with_reducible refine (impl_Graph_isNode.calls a0_0 _ _ l0_1 ((rd_T76 l0_1 x18_2).f0) true _ ?side1 ?side2 A13.out).mono ?_
      (case side1 => exact cb_ HR0_1 HB)
      (case side2 => exact HC0_1.out)
      rintro e w38 ⟨rfl, hb⟩
      refine ⟨_, rfl, ?_⟩
      replace BK105 := ab_ BK105 hb
      replace BK108 := ab_ BK108 hb
      replace HB := at_ HB hb
      (try clear hb)
      (try clear hb2)
      (try clear hk)
      (try clear hi)
      refine hK.out _ _ ⟨(blk_cell BK105.out 0).trans rfl, (blk_cell BK105.out 1).trans rfl, (blk_cell BK108.out 0).trans rfl, (blk_cell BK108.out 1).trans rfl, (blk_cell BK108.out 2).trans rfl, (hc_ HB hw112_0), (hc_ HB hw112_1), (hc_ HB hw112_2)⟩ (fun hHeld => ?_)
      clear hK K
      refine nz_ 26 ?_
      refine pz_ 4 27 ba2_5 HT_ ?_
      refine pz_ 5 28 ba2_6 HT_ ?_
      refine pz_ 7 30 ba2_7 HT_ ?_
      refine pt_ 6 29 ba2_8 HT_ HW_ hHeld ?_
      refine pt_ 8 31 ba2_9 HT_ HW_ hHeld ?_
      refine one_ (i := 9) (N := some 32) ba2_10 rfl rfl (one_of HT_.out (by kernel_rfl)) (by decide) (fun K hK => ?_)
      refine gz_ Try.func48 #[.agg #[.int .i64 a0_0, .slice (some ad107) l0_1.length c0_1], .int .i64 ((rd_T76 l0_1 x18_2).f1)] ?_
      with_reducible refine (impl_Graph_isNode.calls a0_0 _ _ l0_1 ((rd_T76 l0_1 x18_2).f1) true _ ?side1 ?side2 A15.out).mono ?_
      (case side1 => exact cb_ HR0_1 HB)
      (case side2 => exact HC0_1.out)
      rintro e w39 ⟨rfl, hb⟩
      refine ⟨_, rfl, ?_⟩
      replace BK105 := ab_ BK105 hb
      replace BK108 := ab_ BK108 hb
      replace HB := at_ HB hb
      (try clear hb)
      (try clear hb2)
      (try clear hk)
      (try clear hi)
      refine hK.out _ _ ⟨(blk_cell BK105.out 0).trans rfl, (blk_cell BK105.out 1).trans rfl, (blk_cell BK108.out 0).trans rfl, (blk_cell BK108.out 1).trans rfl, (blk_cell BK108.out 2).trans rfl, (hc_ HB hw112_0), (hc_ HB hw112_1), (hc_ HB hw112_2)⟩ (fun hHeld => ?_)
      clear hK K
      refine nz_ 32 ?_
      refine pz_ 10 33 ba2_11 HT_ ?_
      refine pz_ 11 34 ba2_12 HT_ ?_
      refine pz_ 12 35 ba2_13 HT_ ?_
      refine pz_ 13 36 ba2_14 HT_ ?_
      refine pz_ 15 38 ba2_15 HT_ ?_
      refine pt_ 14 37 ba2_16 HT_ HW_ hHeld ?_
      refine pt_ 16 39 ba2_17 HT_ HW_ hHeld ?_
      refine pz_ 17 40 ba2_18 HT_ ?_
      refine pz_ 18 41 ba2_19 HT_ ?_
      refine pz_ 19 42 ba2_20 HT_ ?_
      refine pz_ 20 43 ba2_21 HT_ ?_
      refine pt_ 21 44 ba2_22 HT_ HW_ hHeld ?_
      refine one_ (i := 22) (N := some 45) ba2_23 rfl rfl (one_of HT_.out (by kernel_rfl)) (by decide) (fun K hK => ?_)
      refine gz_ Try.func54 #[.int .i64 ((rd_T76 l0_1 x18_2).f2), .int .i64 1, .int .i64 1000] ?_
      with_reducible refine (impl_within.calls ((rd_T76 l0_1 x18_2).f2) 1 1000 true _ A25.out).mono ?_
      rintro e w' ⟨rfl, ⟨nd, rfl⟩⟩
      refine ⟨_, rfl, ?_⟩
      refine hK.out _ _ ⟨(blk_cell BK105.out 0).trans rfl, (blk_cell BK105.out 1).trans rfl, (blk_cell BK108.out 0).trans rfl, (blk_cell BK108.out 1).trans rfl, (blk_cell BK108.out 2).trans rfl, (hc_ HB hw112_0), (hc_ HB hw112_1), (hc_ HB hw112_2)⟩ (fun hHeld => ?_)
      clear hK K
      refine nz_ 45 ?_
      refine pz_ 23 46 ba2_24 HT_ ?_
      refine pz_ 24 47 ba2_25 HT_ ?_
      refine pz_ 25 48 ba2_26 HT_ ?_
      refine pz_ 26 49 ba2_27 HT_ ?_
      refine pz_ 27 50 ba2_28 HT_ ?_
      refine pz_ 28 51 ba2_29 HT_ ?_
      refine pz_ 29 52 ba2_30 HT_ ?_
      refine pz_ 31 54 ba2_41 HT_ ?_
      refine pz_ 32 55 ba2_42 HT_ ?_
      refine pt_ 30 53 ba2_33 HT_ HW_ hHeld ?_
      refine pz_ 33 56 ba2_34 HT_ ?_
      refine pt_ 34 57 ba2_35 HT_ HW_ hHeld ?_
      refine pt_ 35 58 ba2_36 HT_ HW_ hHeld ?_
      refine one_ (i := 36) (N := some 59) ba2_37 rfl rfl (one_of HT_.out (by kernel_rfl)) (by decide) (fun K hK => ?_)
      refine goes_ Try.func76 (by kernel_rfl) rfl #[.agg #[.int .i64 ((rd_T76 l0_1 (ji28)).f0), .int .i64 ((rd_T76 l0_1 (ji28)).f1), .int .i64 ((rd_T76 l0_1 (ji28)).f2)], .agg #[.int .i64 ((rd_T76 l0_1 x18_2).f0), .int .i64 ((rd_T76 l0_1 x18_2).f1), .int .i64 ((rd_T76 l0_1 x18_2).f2)]] (by rfl) rfl rfl (by (try simp only [List.map_toArray, List.map_cons, List.map_nil]); first | done | (simp only [hji28]; rfl) | rfl | (simp only [List.length_drop, List.length_take]; rfl)) ?_
      with_reducible refine (impl_compareEdges.calls ((rd_T76 l0_1 (ji28)).f0) ((rd_T76 l0_1 (ji28)).f1) ((rd_T76 l0_1 (ji28)).f2) ((rd_T76 l0_1 x18_2).f0) ((rd_T76 l0_1 x18_2).f1) ((rd_T76 l0_1 x18_2).f2) t113 _ A31.out).mono ?_
      rintro e w40 ⟨rfl, hb⟩
      refine ⟨_, rfl, ?_⟩
      replace BK105 := ab_ BK105 hb
      replace BK108 := ab_ BK108 hb
      replace HB := at_ HB hb
      (try clear hb)
      (try clear hb2)
      (try clear hk)
      (try clear hi)
      refine hK.out _ _ ⟨(blk_cell BK105.out 0).trans rfl, (blk_cell BK105.out 1).trans rfl, (blk_cell BK108.out 0).trans rfl, (blk_cell BK108.out 1).trans rfl, (blk_cell BK108.out 2).trans rfl, (hc_ HB hw112_0), (hc_ HB hw112_1), (hc_ HB hw112_2)⟩ (fun hHeld => ?_)
      clear hK K
      refine nz_ 59 ?_
      refine pz_ 37 60 ba2_38 HT_ ?_
      refine pz_ 38 61 ba2_39 HT_ ?_
      refine pz_ 39 62 ba2_40 HT_ ?_
      refine done_ (done_of HT_.out (by kernel_rfl)) ?_
      try go_wp2
      go_ret
      exact ⟨by first | rfl | (simp [errW_none, errW_some] <;> rfl) | (simp only [← hji28]; first | rfl | (simp [errW_none, errW_some] <;> rfl)) | (simp [*, errW_none, errW_some] <;> rfl), bw_⟩
     rw [if_neg c32] at H
     have c32b0 : decide (0 ≤ t113) = false := decide_eq_false c32
     clear c32
     have H' := Aside0.mk H
     clear H
     have p107 : 0 ≤ (x18_2 : Int) := of_decide_eq_true (by first | (with_reducible assumption) | assumption)
     have q107 : x18_2 < (l0_1.length : Int) := of_decide_eq_true (by first | (with_reducible assumption) | assumption)
     obtain ⟨ad107, e107, hx107_0, hx107_1, hx107_2⟩ := at_T76 HR0_1.out x18_2 p107 q107
     cases e107
     replace hx107_0 := (HB.out.cell (World.block_lt_of_cell? w _ hx107_0)).trans hx107_0
     replace hx107_1 := (HB.out.cell (World.block_lt_of_cell? w _ hx107_1)).trans hx107_1
     replace hx107_2 := (HB.out.cell (World.block_lt_of_cell? w _ hx107_2)).trans hx107_2
     replace p107 := eq_true p107
     replace q107 := eq_true q107
     try go_wp2_with ((with_reducible refine gate_dst (N := 4) rfl ?_); refine box_event ?hg (N := 4) ?hd (cs := #[.int .i64 0, .int .i64 0, .int .i64 0]) (t := 76) ?hr ?_; (case hd => rfl); (case hg => rfl); (case hr => first | (go_simp; done) | (go_simp; rfl)); intro gb108 hg w41 hbox hb; have BK108 := Aside0.mk hbox; have GW108 := ge_ HB hg; have GE108 := ge_ HB hg; have NB105_108 := nl_ BK105 hg; have NB108_105 := ng_ BK105 hg; replace HB := at_ HB hb; replace BK105 := ab_ BK105 hb; clear hb hbox hg; have hnb42 := NB108_105.out; have hnc42 := NB105_108.out; have hcz43_0 := cz_ BK108 0 (.int .i64 0); have hcz43_1 := cz_ BK108 1 (.int .i64 0); have hcz43_2 := cz_ BK108 2 (.int .i64 0); have hfz43_0 := blk_frozen BK108.out 0; have hfz43_1 := blk_frozen BK108.out 1; have hfz43_2 := blk_frozen BK108.out 2)
     have n0_ : Aside0 ((((w41.setCell ⟨gb108, 0, none⟩ (.int .i64 ((rd_T76 l0_1 x18_2).f0))).setCell ⟨gb108, 1, none⟩ (.int .i64 ((rd_T76 l0_1 x18_2).f1))).setCell ⟨gb108, 2, none⟩ (.int .i64 ((rd_T76 l0_1 x18_2).f2))).heap[gb105]? = some (.cells #[.int .i64 a0_0, .slice (some ad107) l0_1.length c0_1] 30 (0, 0))) := ⟨bc_ BK105⟩
     have n1_ : Aside0 ((((w41.setCell ⟨gb108, 0, none⟩ (.int .i64 ((rd_T76 l0_1 x18_2).f0))).setCell ⟨gb108, 1, none⟩ (.int .i64 ((rd_T76 l0_1 x18_2).f1))).setCell ⟨gb108, 2, none⟩ (.int .i64 ((rd_T76 l0_1 x18_2).f2))).heap[gb108]? = some (.cells #[.int .i64 ((rd_T76 l0_1 x18_2).f0), .int .i64 ((rd_T76 l0_1 x18_2).f1), .int .i64 ((rd_T76 l0_1 x18_2).f2)] 76 (0, 0))) := ⟨by (with_reducible repeat (first | refine blk_drewN ?_ _ | refine blk_drew ?_ | refine blk_alloc ?_ _)); refine blk_put (cs := #[.int .i64 ((rd_T76 l0_1 x18_2).f0), .int .i64 ((rd_T76 l0_1 x18_2).f1), .int .i64 0]) ?_ 2 _ rfl; (with_reducible repeat (first | refine blk_drewN ?_ _ | refine blk_drew ?_ | refine blk_alloc ?_ _)); refine blk_put (cs := #[.int .i64 ((rd_T76 l0_1 x18_2).f0), .int .i64 0, .int .i64 0]) ?_ 1 _ rfl; (with_reducible repeat (first | refine blk_drewN ?_ _ | refine blk_drew ?_ | refine blk_alloc ?_ _)); refine blk_put (cs := #[.int .i64 0, .int .i64 0, .int .i64 0]) ?_ 0 _ rfl; (with_reducible repeat (first | refine blk_drewN ?_ _ | refine blk_drew ?_ | refine blk_alloc ?_ _)); exact BK108.out⟩
     have n2_ : Aside0 (Below w.heap.size w (((w41.setCell ⟨gb108, 0, none⟩ (.int .i64 ((rd_T76 l0_1 x18_2).f0))).setCell ⟨gb108, 1, none⟩ (.int .i64 ((rd_T76 l0_1 x18_2).f1))).setCell ⟨gb108, 2, none⟩ (.int .i64 ((rd_T76 l0_1 x18_2).f2)))) := ⟨bw_⟩
     (try clear BK105)
     (try clear BK108)
     (try clear HB)
     generalize (((w41.setCell ⟨gb108, 0, none⟩ (.int .i64 ((rd_T76 l0_1 x18_2).f0))).setCell ⟨gb108, 1, none⟩ (.int .i64 ((rd_T76 l0_1 x18_2).f1))).setCell ⟨gb108, 2, none⟩ (.int .i64 ((rd_T76 l0_1 x18_2).f2))) = w44 at n0_ n1_ n2_ ⊢
     have BK105 := n0_
     have BK108 := n1_
     have HB := n2_
     clear n0_ n1_ n2_
     replace BK105 := ad_ BK105
     replace BK108 := ad_ BK108
     replace HB := Aside0.mk (below_drew1 HB.out)
     have p112 : 0 ≤ ((ji28) : Int) := of_decide_eq_true (by first | (with_reducible assumption) | assumption)
     have q112 : (ji28) < (l0_1.length : Int) := of_decide_eq_true (by first | (with_reducible assumption) | assumption)
     obtain ⟨ad112, e112, hx112_0, hx112_1, hx112_2⟩ := at_T76 HR0_1.out (ji28) p112 q112
     have hw112_2 := hx112_2
     have hw112_1 := hx112_1
     have hw112_0 := hx112_0
     obtain rfl : ad107 = ad112 := (by injection e112)
     replace hx112_0 := (HB.out.cell (World.block_lt_of_cell? w _ hx112_0)).trans hx112_0
     replace hx112_1 := (HB.out.cell (World.block_lt_of_cell? w _ hx112_1)).trans hx112_1
     replace hx112_2 := (HB.out.cell (World.block_lt_of_cell? w _ hx112_2)).trans hx112_2
     replace p112 := eq_true p112
     replace q112 := eq_true q112
     refine start_ (n := 40) (S := fun w' => w'.cell? ⟨gb105, 0, none⟩ = some (.int .i64 a0_0) ∧ w'.cell? ⟨gb105, 1, none⟩ = some (.slice (some ad107) l0_1.length c0_1) ∧ w'.cell? ⟨gb108, 0, none⟩ = some (.int .i64 ((rd_T76 l0_1 x18_2).f0)) ∧ w'.cell? ⟨gb108, 1, none⟩ = some (.int .i64 ((rd_T76 l0_1 x18_2).f1)) ∧ w'.cell? ⟨gb108, 2, none⟩ = some (.int .i64 ((rd_T76 l0_1 x18_2).f2)) ∧ w'.cell? (ad107.add (((ji28)).toNat * 3)) = some (.int .i64 ((rd_T76 l0_1 (ji28)).f0)) ∧ w'.cell? ⟨(ad107.add (((ji28)).toNat * 3)).block, (ad107.add (((ji28)).toNat * 3)).off + 1, none⟩ = some (.int .i64 ((rd_T76 l0_1 (ji28)).f1)) ∧ w'.cell? ⟨(ad107.add (((ji28)).toNat * 3)).block, (ad107.add (((ji28)).toNat * 3)).off + 2, none⟩ = some (.int .i64 ((rd_T76 l0_1 (ji28)).f2))) (ds := []) ba2_0 (by kernel_rfl) rfl rfl ⟨(blk_cell BK105.out 0).trans rfl, (blk_cell BK105.out 1).trans rfl, (blk_cell BK108.out 0).trans rfl, (blk_cell BK108.out 1).trans rfl, (blk_cell BK108.out 2).trans rfl, (hc_ HB hw112_0), (hc_ HB hw112_1), (hc_ HB hw112_2)⟩ (fun hHeld => ?_); refine with_tabW impl_GraphOk.tab6 impl_GraphOk.bits6 (fun HT_ HW_ => ?_)
     generalize w44.drew = w45 at BK105 BK108 HB hx112_0 hx112_1 hx112_2 hHeld ⊢
     refine pz_ 1 24 ba2_1 HT_ ?_
     refine pt_ 0 23 ba2_2 HT_ HW_ hHeld ?_
     refine pt_ 2 25 ba2_3 HT_ HW_ hHeld ?_
     refine one_ (i := 3) (N := some 26) ba2_4 rfl rfl (one_of HT_.out (by kernel_rfl)) (by decide) (fun K hK => ?_)
     refine gz_ Try.func48 #[.agg #[.int .i64 a0_0, .slice (some ad107) l0_1.length c0_1], .int .i64 ((rd_T76 l0_1 x18_2).f0)] ?_
     with_reducible refine (impl_Graph_isNode.calls a0_0 _ _ l0_1 ((rd_T76 l0_1 x18_2).f0) true _ ?side1 ?side2 A13.out).mono ?_
     (case side1 => exact cb_ HR0_1 HB)
     (case side2 => exact HC0_1.out)
     rintro e w46 ⟨rfl, hb⟩
     refine ⟨_, rfl, ?_⟩
     replace BK105 := ab_ BK105 hb
     replace BK108 := ab_ BK108 hb
     replace HB := at_ HB hb
     (try clear hb)
     (try clear hb2)
     (try clear hk)
     (try clear hi)
     refine hK.out _ _ ⟨(blk_cell BK105.out 0).trans rfl, (blk_cell BK105.out 1).trans rfl, (blk_cell BK108.out 0).trans rfl, (blk_cell BK108.out 1).trans rfl, (blk_cell BK108.out 2).trans rfl, (hc_ HB hw112_0), (hc_ HB hw112_1), (hc_ HB hw112_2)⟩ (fun hHeld => ?_)
     clear hK K
     refine nz_ 26 ?_
     refine pz_ 4 27 ba2_5 HT_ ?_
     refine pz_ 5 28 ba2_6 HT_ ?_
     refine pz_ 7 30 ba2_7 HT_ ?_
     refine pt_ 6 29 ba2_8 HT_ HW_ hHeld ?_
     refine pt_ 8 31 ba2_9 HT_ HW_ hHeld ?_
     refine one_ (i := 9) (N := some 32) ba2_10 rfl rfl (one_of HT_.out (by kernel_rfl)) (by decide) (fun K hK => ?_)
     refine gz_ Try.func48 #[.agg #[.int .i64 a0_0, .slice (some ad107) l0_1.length c0_1], .int .i64 ((rd_T76 l0_1 x18_2).f1)] ?_
     with_reducible refine (impl_Graph_isNode.calls a0_0 _ _ l0_1 ((rd_T76 l0_1 x18_2).f1) true _ ?side1 ?side2 A15.out).mono ?_
     (case side1 => exact cb_ HR0_1 HB)
     (case side2 => exact HC0_1.out)
     rintro e w47 ⟨rfl, hb⟩
     refine ⟨_, rfl, ?_⟩
     replace BK105 := ab_ BK105 hb
     replace BK108 := ab_ BK108 hb
     replace HB := at_ HB hb
     (try clear hb)
     (try clear hb2)
     (try clear hk)
     (try clear hi)
     refine hK.out _ _ ⟨(blk_cell BK105.out 0).trans rfl, (blk_cell BK105.out 1).trans rfl, (blk_cell BK108.out 0).trans rfl, (blk_cell BK108.out 1).trans rfl, (blk_cell BK108.out 2).trans rfl, (hc_ HB hw112_0), (hc_ HB hw112_1), (hc_ HB hw112_2)⟩ (fun hHeld => ?_)
     clear hK K
     refine nz_ 32 ?_
     refine pz_ 10 33 ba2_11 HT_ ?_
     refine pz_ 11 34 ba2_12 HT_ ?_
     refine pz_ 12 35 ba2_13 HT_ ?_
     refine pz_ 13 36 ba2_14 HT_ ?_
     refine pz_ 15 38 ba2_15 HT_ ?_
     refine pt_ 14 37 ba2_16 HT_ HW_ hHeld ?_
     refine pt_ 16 39 ba2_17 HT_ HW_ hHeld ?_
     refine pz_ 17 40 ba2_18 HT_ ?_
     refine pz_ 18 41 ba2_19 HT_ ?_
     refine pz_ 19 42 ba2_20 HT_ ?_
     refine pz_ 20 43 ba2_21 HT_ ?_
     refine pt_ 21 44 ba2_22 HT_ HW_ hHeld ?_
     refine one_ (i := 22) (N := some 45) ba2_23 rfl rfl (one_of HT_.out (by kernel_rfl)) (by decide) (fun K hK => ?_)
     refine gz_ Try.func54 #[.int .i64 ((rd_T76 l0_1 x18_2).f2), .int .i64 1, .int .i64 1000] ?_
     with_reducible refine (impl_within.calls ((rd_T76 l0_1 x18_2).f2) 1 1000 true _ A25.out).mono ?_
     rintro e w' ⟨rfl, ⟨nd, rfl⟩⟩
     refine ⟨_, rfl, ?_⟩
     refine hK.out _ _ ⟨(blk_cell BK105.out 0).trans rfl, (blk_cell BK105.out 1).trans rfl, (blk_cell BK108.out 0).trans rfl, (blk_cell BK108.out 1).trans rfl, (blk_cell BK108.out 2).trans rfl, (hc_ HB hw112_0), (hc_ HB hw112_1), (hc_ HB hw112_2)⟩ (fun hHeld => ?_)
     clear hK K
     refine nz_ 45 ?_
     refine pz_ 23 46 ba2_24 HT_ ?_
     refine pz_ 24 47 ba2_25 HT_ ?_
     refine pz_ 25 48 ba2_26 HT_ ?_
     refine pz_ 26 49 ba2_27 HT_ ?_
     refine pz_ 27 50 ba2_28 HT_ ?_
     refine pz_ 28 51 ba2_29 HT_ ?_
     refine pz_ 29 52 ba2_30 HT_ ?_
     refine pz_ 31 54 ba2_41 HT_ ?_
     refine pz_ 32 55 ba2_42 HT_ ?_
     refine pt_ 30 53 ba2_33 HT_ HW_ hHeld ?_
     refine pz_ 33 56 ba2_34 HT_ ?_
     refine pt_ 34 57 ba2_35 HT_ HW_ hHeld ?_
     refine pt_ 35 58 ba2_36 HT_ HW_ hHeld ?_
     refine one_ (i := 36) (N := some 59) ba2_37 rfl rfl (one_of HT_.out (by kernel_rfl)) (by decide) (fun K hK => ?_)
     refine goes_ Try.func76 (by kernel_rfl) rfl #[.agg #[.int .i64 ((rd_T76 l0_1 (ji28)).f0), .int .i64 ((rd_T76 l0_1 (ji28)).f1), .int .i64 ((rd_T76 l0_1 (ji28)).f2)], .agg #[.int .i64 ((rd_T76 l0_1 x18_2).f0), .int .i64 ((rd_T76 l0_1 x18_2).f1), .int .i64 ((rd_T76 l0_1 x18_2).f2)]] (by rfl) rfl rfl (by (try simp only [List.map_toArray, List.map_cons, List.map_nil]); first | done | (simp only [hji28]; rfl) | rfl | (simp only [List.length_drop, List.length_take]; rfl)) ?_
     with_reducible refine (impl_compareEdges.calls ((rd_T76 l0_1 (ji28)).f0) ((rd_T76 l0_1 (ji28)).f1) ((rd_T76 l0_1 (ji28)).f2) ((rd_T76 l0_1 x18_2).f0) ((rd_T76 l0_1 x18_2).f1) ((rd_T76 l0_1 x18_2).f2) t113 _ A31.out).mono ?_
     rintro e w48 ⟨rfl, hb⟩
     refine ⟨_, rfl, ?_⟩
     replace BK105 := ab_ BK105 hb
     replace BK108 := ab_ BK108 hb
     replace HB := at_ HB hb
     (try clear hb)
     (try clear hb2)
     (try clear hk)
     (try clear hi)
     refine hK.out _ _ ⟨(blk_cell BK105.out 0).trans rfl, (blk_cell BK105.out 1).trans rfl, (blk_cell BK108.out 0).trans rfl, (blk_cell BK108.out 1).trans rfl, (blk_cell BK108.out 2).trans rfl, (hc_ HB hw112_0), (hc_ HB hw112_1), (hc_ HB hw112_2)⟩ (fun hHeld => ?_)
     clear hK K
     refine nz_ 59 ?_
     refine pz_ 37 60 ba2_38 HT_ ?_
     refine pz_ 38 61 ba2_39 HT_ ?_
     refine pz_ 39 62 ba2_40 HT_ ?_
     refine done_ (done_of HT_.out (by kernel_rfl)) ?_
     try go_wp2
     go_roundg k2
     case measure => have := HJ1.out; have := HK2.out; omega
     case rel => exact ⟨(wrap64 (x18_2 + 1)), (by first | rfl | (simp; done) | (simp [*]; done)), H', ⟨by have := HJ1.out; have := HK2.out; omega⟩, ⟨bx_ BK105⟩, ⟨bw_⟩⟩

end Go.Proofs.Ythmahcohcphljaa.QFnHops
