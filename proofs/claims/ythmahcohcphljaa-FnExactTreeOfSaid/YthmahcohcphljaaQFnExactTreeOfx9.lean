/- Contracts of functions that the law reaches: what each call returns and what it leaves in memory. Made by this session over the print of the kit. -/
import Derived.Test.YthmahcohcphljaaQFnExactTreeOfx0
import Derived.Test.YthmahcohcphljaaQFnExactTreeOfx8
namespace Go.Proofs.Ythmahcohcphljaa.QFnExactTreeOf
open Go.RowKit Go.Proofs.YthmahcohcphljaaV.PrintWords Go.Proofs.YthmahcohcphljaaV.PrintLast Go.Proofs.YthmahcohcphljaaV.PrintMore
attribute [local go_sem] max2_int min2_int max_two min_two max_three min_three max_four min_four   -- for this text's walks alone
set_option linter.unusedVariables false
set_option linter.unusedSimpArgs false
abbrev tb9 : Bool := true
abbrev fb9 : Bool := false
def ba9_0 : Array Bool := #[fb9,fb9,fb9,fb9,fb9,fb9,fb9,fb9,fb9,fb9,fb9,fb9,fb9,fb9,fb9,fb9,fb9,fb9,fb9,fb9,fb9,fb9,fb9,fb9,fb9,fb9,fb9,fb9,fb9,fb9,fb9]
def ba9_1 : Array Bool := #[tb9,fb9,fb9,fb9,fb9,fb9,fb9,fb9,fb9,fb9,fb9,fb9,fb9,fb9,fb9,fb9,fb9,fb9,fb9,fb9,fb9,fb9,fb9,fb9,fb9,fb9,fb9,fb9,fb9,fb9,fb9]
def ba9_2 : Array Bool := #[tb9,tb9,fb9,fb9,fb9,fb9,fb9,fb9,fb9,fb9,fb9,fb9,fb9,fb9,fb9,fb9,fb9,fb9,fb9,fb9,fb9,fb9,fb9,fb9,fb9,fb9,fb9,fb9,fb9,fb9,fb9]
def ba9_3 : Array Bool := #[tb9,tb9,fb9,fb9,fb9,tb9,fb9,fb9,fb9,fb9,fb9,fb9,fb9,fb9,fb9,fb9,fb9,fb9,fb9,fb9,fb9,fb9,fb9,fb9,fb9,fb9,fb9,fb9,fb9,fb9,fb9]
def ba9_4 : Array Bool := #[tb9,tb9,tb9,fb9,fb9,tb9,fb9,fb9,fb9,fb9,fb9,fb9,fb9,fb9,fb9,fb9,fb9,fb9,fb9,fb9,fb9,fb9,fb9,fb9,fb9,fb9,fb9,fb9,fb9,fb9,fb9]
def ba9_5 : Array Bool := #[tb9,tb9,tb9,tb9,fb9,tb9,fb9,fb9,fb9,fb9,fb9,fb9,fb9,fb9,fb9,fb9,fb9,fb9,fb9,fb9,fb9,fb9,fb9,fb9,fb9,fb9,fb9,fb9,fb9,fb9,fb9]
def ba9_6 : Array Bool := #[tb9,tb9,tb9,tb9,tb9,tb9,fb9,fb9,fb9,fb9,fb9,fb9,fb9,fb9,fb9,fb9,fb9,fb9,fb9,fb9,fb9,fb9,fb9,fb9,fb9,fb9,fb9,fb9,fb9,fb9,fb9]
def ba9_7 : Array Bool := #[tb9,tb9,tb9,tb9,tb9,tb9,tb9,fb9,fb9,fb9,fb9,fb9,fb9,fb9,fb9,fb9,fb9,fb9,fb9,fb9,fb9,fb9,fb9,fb9,fb9,fb9,fb9,fb9,fb9,fb9,fb9]
def ba9_8 : Array Bool := #[tb9,tb9,tb9,tb9,tb9,tb9,tb9,tb9,fb9,fb9,fb9,fb9,fb9,fb9,fb9,fb9,fb9,fb9,fb9,fb9,fb9,fb9,fb9,fb9,fb9,fb9,fb9,fb9,fb9,fb9,fb9]
def ba9_9 : Array Bool := #[tb9,tb9,tb9,tb9,tb9,tb9,tb9,tb9,tb9,fb9,fb9,fb9,fb9,fb9,fb9,fb9,fb9,fb9,fb9,fb9,fb9,fb9,fb9,fb9,fb9,fb9,fb9,fb9,fb9,fb9,fb9]
def ba9_10 : Array Bool := #[tb9,tb9,tb9,tb9,tb9,tb9,tb9,tb9,tb9,tb9,fb9,fb9,fb9,fb9,fb9,fb9,fb9,fb9,fb9,fb9,fb9,fb9,fb9,fb9,fb9,fb9,fb9,fb9,fb9,fb9,fb9]
def ba9_11 : Array Bool := #[tb9,tb9,tb9,tb9,tb9,tb9,tb9,tb9,tb9,tb9,tb9,fb9,fb9,fb9,fb9,fb9,fb9,fb9,fb9,fb9,fb9,fb9,fb9,fb9,fb9,fb9,fb9,fb9,fb9,fb9,fb9]
def ba9_12 : Array Bool := #[tb9,tb9,tb9,tb9,tb9,tb9,tb9,tb9,tb9,tb9,tb9,fb9,tb9,fb9,fb9,fb9,fb9,fb9,fb9,fb9,fb9,fb9,fb9,fb9,fb9,fb9,fb9,fb9,fb9,fb9,fb9]
def ba9_13 : Array Bool := #[tb9,tb9,tb9,tb9,tb9,tb9,tb9,tb9,tb9,tb9,tb9,fb9,tb9,tb9,fb9,fb9,fb9,fb9,fb9,fb9,fb9,fb9,fb9,fb9,fb9,fb9,fb9,fb9,fb9,fb9,fb9]
def ba9_14 : Array Bool := #[tb9,tb9,tb9,tb9,tb9,tb9,tb9,tb9,tb9,tb9,tb9,fb9,tb9,tb9,fb9,fb9,fb9,tb9,fb9,fb9,fb9,fb9,fb9,fb9,fb9,fb9,fb9,fb9,fb9,fb9,fb9]
def ba9_15 : Array Bool := #[tb9,tb9,tb9,tb9,tb9,tb9,tb9,tb9,tb9,tb9,tb9,fb9,tb9,tb9,fb9,fb9,fb9,tb9,fb9,fb9,fb9,tb9,fb9,fb9,fb9,fb9,fb9,fb9,fb9,fb9,fb9]
def ba9_16 : Array Bool := #[tb9,tb9,tb9,tb9,tb9,tb9,tb9,tb9,tb9,tb9,tb9,fb9,tb9,tb9,fb9,fb9,fb9,tb9,fb9,fb9,fb9,tb9,tb9,fb9,fb9,fb9,fb9,fb9,fb9,fb9,fb9]
def ba9_17 : Array Bool := #[tb9,tb9,tb9,tb9,tb9,tb9,tb9,tb9,tb9,tb9,tb9,fb9,tb9,tb9,fb9,fb9,fb9,tb9,fb9,fb9,fb9,tb9,tb9,fb9,fb9,fb9,tb9,fb9,fb9,fb9,fb9]
def ba9_18 : Array Bool := #[tb9,tb9,tb9,tb9,tb9,tb9,tb9,tb9,tb9,tb9,tb9,tb9,tb9,tb9,fb9,fb9,fb9,tb9,fb9,fb9,fb9,tb9,tb9,fb9,fb9,fb9,tb9,fb9,fb9,fb9,fb9]
def ba9_19 : Array Bool := #[tb9,tb9,tb9,tb9,tb9,tb9,tb9,tb9,tb9,tb9,tb9,tb9,tb9,tb9,tb9,fb9,fb9,tb9,fb9,fb9,fb9,tb9,tb9,fb9,fb9,fb9,tb9,fb9,fb9,fb9,fb9]
def ba9_20 : Array Bool := #[tb9,tb9,tb9,tb9,tb9,tb9,tb9,tb9,tb9,tb9,tb9,tb9,tb9,tb9,tb9,tb9,fb9,tb9,fb9,fb9,fb9,tb9,tb9,fb9,fb9,fb9,tb9,fb9,fb9,fb9,fb9]
def ba9_21 : Array Bool := #[tb9,tb9,tb9,tb9,tb9,tb9,tb9,tb9,tb9,tb9,tb9,tb9,tb9,tb9,tb9,tb9,tb9,tb9,fb9,fb9,fb9,tb9,tb9,fb9,fb9,fb9,tb9,fb9,fb9,fb9,fb9]
def ba9_22 : Array Bool := #[tb9,tb9,tb9,tb9,tb9,tb9,tb9,tb9,tb9,tb9,tb9,tb9,tb9,tb9,tb9,tb9,tb9,tb9,tb9,fb9,fb9,tb9,tb9,fb9,fb9,fb9,tb9,fb9,fb9,fb9,fb9]
def ba9_23 : Array Bool := #[tb9,tb9,tb9,tb9,tb9,tb9,tb9,tb9,tb9,tb9,tb9,tb9,tb9,tb9,tb9,tb9,tb9,tb9,tb9,tb9,fb9,tb9,tb9,fb9,fb9,fb9,tb9,fb9,fb9,fb9,fb9]
def ba9_24 : Array Bool := #[tb9,tb9,tb9,tb9,tb9,tb9,tb9,tb9,tb9,tb9,tb9,tb9,tb9,tb9,tb9,tb9,tb9,tb9,tb9,tb9,tb9,tb9,tb9,fb9,fb9,fb9,tb9,fb9,fb9,fb9,fb9]
def ba9_25 : Array Bool := #[tb9,tb9,tb9,tb9,tb9,tb9,tb9,tb9,tb9,tb9,tb9,tb9,tb9,tb9,tb9,tb9,tb9,tb9,tb9,tb9,tb9,tb9,tb9,tb9,fb9,fb9,tb9,fb9,fb9,fb9,fb9]
def ba9_26 : Array Bool := #[tb9,tb9,tb9,tb9,tb9,tb9,tb9,tb9,tb9,tb9,tb9,tb9,tb9,tb9,tb9,tb9,tb9,tb9,tb9,tb9,tb9,tb9,tb9,tb9,tb9,fb9,tb9,fb9,fb9,fb9,fb9]
def ba9_27 : Array Bool := #[tb9,tb9,tb9,tb9,tb9,tb9,tb9,tb9,tb9,tb9,tb9,tb9,tb9,tb9,tb9,tb9,tb9,tb9,tb9,tb9,tb9,tb9,tb9,tb9,tb9,tb9,tb9,fb9,fb9,fb9,fb9]
def ba9_28 : Array Bool := #[tb9,tb9,tb9,tb9,tb9,tb9,tb9,tb9,tb9,tb9,tb9,tb9,tb9,tb9,tb9,tb9,tb9,tb9,tb9,tb9,tb9,tb9,tb9,tb9,tb9,tb9,tb9,tb9,fb9,fb9,fb9]
def ba9_29 : Array Bool := #[tb9,tb9,tb9,tb9,tb9,tb9,tb9,tb9,tb9,tb9,tb9,tb9,tb9,tb9,tb9,tb9,tb9,tb9,tb9,tb9,tb9,tb9,tb9,tb9,tb9,tb9,tb9,tb9,tb9,fb9,fb9]
def ba9_30 : Array Bool := #[tb9,tb9,tb9,tb9,tb9,tb9,tb9,tb9,tb9,tb9,tb9,tb9,tb9,tb9,tb9,tb9,tb9,tb9,tb9,tb9,tb9,tb9,tb9,tb9,tb9,tb9,tb9,tb9,tb9,tb9,fb9]
def ba9_31 : Array Bool := #[tb9,tb9,tb9,tb9,tb9,tb9,tb9,tb9,tb9,tb9,tb9,tb9,tb9,tb9,tb9,tb9,tb9,tb9,tb9,tb9,tb9,tb9,tb9,tb9,tb9,tb9,tb9,tb9,tb9,tb9,tb9]
def ba9_32 : Array Bool := #[fb9,fb9,fb9,fb9,fb9,fb9,fb9,fb9,fb9,fb9,fb9,fb9,fb9,fb9,fb9,fb9,fb9]
def ba9_33 : Array Bool := #[tb9,fb9,fb9,fb9,fb9,fb9,fb9,fb9,fb9,fb9,fb9,fb9,fb9,fb9,fb9,fb9,fb9]
def ba9_34 : Array Bool := #[tb9,tb9,fb9,fb9,fb9,fb9,fb9,fb9,fb9,fb9,fb9,fb9,fb9,fb9,fb9,fb9,fb9]
def ba9_35 : Array Bool := #[tb9,tb9,fb9,tb9,fb9,fb9,fb9,fb9,fb9,fb9,fb9,fb9,fb9,fb9,fb9,fb9,fb9]
def ba9_36 : Array Bool := #[tb9,tb9,fb9,tb9,tb9,fb9,fb9,fb9,fb9,fb9,fb9,fb9,fb9,fb9,fb9,fb9,fb9]
def ba9_37 : Array Bool := #[tb9,tb9,fb9,tb9,tb9,fb9,fb9,fb9,tb9,fb9,fb9,fb9,fb9,fb9,fb9,fb9,fb9]
def ba9_38 : Array Bool := #[tb9,tb9,fb9,tb9,tb9,fb9,fb9,fb9,tb9,tb9,fb9,fb9,fb9,fb9,fb9,fb9,fb9]
def ba9_39 : Array Bool := #[tb9,tb9,tb9,tb9,tb9,fb9,fb9,fb9,tb9,tb9,fb9,fb9,fb9,fb9,fb9,fb9,fb9]
def ba9_40 : Array Bool := #[tb9,tb9,tb9,tb9,tb9,tb9,fb9,fb9,tb9,tb9,fb9,fb9,fb9,fb9,fb9,fb9,fb9]
def ba9_41 : Array Bool := #[tb9,tb9,tb9,tb9,tb9,tb9,tb9,fb9,tb9,tb9,fb9,fb9,fb9,fb9,fb9,fb9,fb9]
def ba9_42 : Array Bool := #[tb9,tb9,tb9,tb9,tb9,tb9,tb9,tb9,tb9,tb9,fb9,fb9,fb9,fb9,fb9,fb9,fb9]
def ba9_43 : Array Bool := #[tb9,tb9,tb9,tb9,tb9,tb9,tb9,tb9,tb9,tb9,tb9,fb9,fb9,fb9,fb9,fb9,fb9]
def ba9_44 : Array Bool := #[tb9,tb9,tb9,tb9,tb9,tb9,tb9,tb9,tb9,tb9,tb9,tb9,fb9,fb9,fb9,fb9,fb9]
def ba9_45 : Array Bool := #[tb9,tb9,tb9,tb9,tb9,tb9,tb9,tb9,tb9,tb9,tb9,tb9,tb9,fb9,fb9,fb9,fb9]
def ba9_46 : Array Bool := #[tb9,tb9,tb9,tb9,tb9,tb9,tb9,tb9,tb9,tb9,tb9,tb9,tb9,tb9,fb9,fb9,fb9]
def ba9_47 : Array Bool := #[tb9,tb9,tb9,tb9,tb9,tb9,tb9,tb9,tb9,tb9,tb9,tb9,tb9,tb9,tb9,fb9,fb9]
def ba9_48 : Array Bool := #[tb9,tb9,tb9,tb9,tb9,tb9,tb9,tb9,tb9,tb9,tb9,tb9,tb9,tb9,tb9,tb9,fb9]
def ba9_49 : Array Bool := #[tb9,tb9,tb9,tb9,tb9,tb9,tb9,tb9,tb9,tb9,tb9,tb9,tb9,tb9,tb9,tb9,tb9]
def ba9_50 : Array Bool := #[tb9,tb9,tb9,tb9,tb9,tb9,tb9,tb9,tb9,tb9,tb9,tb9,fb9,fb9,fb9,fb9,fb9,fb9,fb9,fb9,fb9,fb9,fb9,fb9,fb9,fb9,fb9,fb9,fb9,fb9,fb9]
def ba9_51 : Array Bool := #[tb9,tb9,tb9,tb9,tb9,tb9,tb9,tb9,tb9,tb9,tb9,tb9,tb9,fb9,fb9,fb9,fb9,fb9,fb9,fb9,fb9,fb9,fb9,fb9,fb9,fb9,fb9,fb9,fb9,fb9,fb9]
def ba9_52 : Array Bool := #[tb9,tb9,tb9,tb9,tb9,tb9,tb9,tb9,tb9,tb9,tb9,tb9,tb9,tb9,fb9,fb9,fb9,fb9,fb9,fb9,fb9,fb9,fb9,fb9,fb9,fb9,fb9,fb9,fb9,fb9,fb9]
def ba9_53 : Array Bool := #[tb9,tb9,tb9,tb9,tb9,tb9,tb9,tb9,tb9,tb9,tb9,tb9,tb9,tb9,tb9,fb9,fb9,fb9,fb9,fb9,fb9,fb9,fb9,fb9,fb9,fb9,fb9,fb9,fb9,fb9,fb9]
def ba9_54 : Array Bool := #[tb9,tb9,tb9,tb9,tb9,tb9,tb9,tb9,tb9,tb9,tb9,tb9,tb9,tb9,tb9,tb9,fb9,fb9,fb9,fb9,fb9,fb9,fb9,fb9,fb9,fb9,fb9,fb9,fb9,fb9,fb9]
def ba9_55 : Array Bool := #[tb9,tb9,tb9,tb9,tb9,tb9,tb9,tb9,tb9,tb9,tb9,tb9,tb9,tb9,tb9,tb9,tb9,fb9,fb9,fb9,fb9,fb9,fb9,fb9,fb9,fb9,fb9,fb9,fb9,fb9,fb9]
def ba9_56 : Array Bool := #[tb9,tb9,tb9,tb9,tb9,tb9,tb9,tb9,tb9,tb9,tb9,tb9,tb9,tb9,tb9,tb9,tb9,tb9,fb9,fb9,fb9,fb9,fb9,fb9,fb9,fb9,fb9,fb9,fb9,fb9,fb9]
def ba9_57 : Array Bool := #[tb9,tb9,tb9,tb9,tb9,tb9,tb9,tb9,tb9,tb9,tb9,tb9,tb9,tb9,tb9,tb9,tb9,tb9,tb9,fb9,fb9,fb9,fb9,fb9,fb9,fb9,fb9,fb9,fb9,fb9,fb9]
def ba9_58 : Array Bool := #[tb9,tb9,tb9,tb9,tb9,tb9,tb9,tb9,tb9,tb9,tb9,tb9,tb9,tb9,tb9,tb9,tb9,tb9,tb9,tb9,fb9,fb9,fb9,fb9,fb9,fb9,fb9,fb9,fb9,fb9,fb9]
def ba9_59 : Array Bool := #[tb9,tb9,tb9,tb9,tb9,tb9,tb9,tb9,tb9,tb9,tb9,tb9,tb9,tb9,tb9,tb9,tb9,tb9,tb9,tb9,tb9,fb9,fb9,fb9,fb9,fb9,fb9,fb9,fb9,fb9,fb9]
def ba9_60 : Array Bool := #[tb9,tb9,tb9,tb9,tb9,tb9,tb9,tb9,tb9,tb9,tb9,tb9,tb9,tb9,tb9,tb9,tb9,tb9,tb9,tb9,tb9,tb9,fb9,fb9,fb9,fb9,fb9,fb9,fb9,fb9,fb9]
def ba9_61 : Array Bool := #[tb9,tb9,tb9,tb9,tb9,tb9,tb9,tb9,tb9,tb9,tb9,tb9,tb9,tb9,tb9,tb9,tb9,tb9,tb9,tb9,tb9,tb9,tb9,fb9,fb9,fb9,fb9,fb9,fb9,fb9,fb9]
def ba9_62 : Array Bool := #[tb9,tb9,tb9,tb9,tb9,tb9,tb9,tb9,tb9,tb9,tb9,tb9,tb9,tb9,tb9,tb9,tb9,tb9,tb9,tb9,tb9,tb9,tb9,tb9,fb9,fb9,fb9,fb9,fb9,fb9,fb9]
def ba9_63 : Array Bool := #[tb9,tb9,tb9,tb9,tb9,tb9,tb9,tb9,tb9,tb9,tb9,tb9,tb9,tb9,tb9,tb9,tb9,tb9,tb9,tb9,tb9,tb9,tb9,tb9,tb9,fb9,fb9,fb9,fb9,fb9,fb9]
def ba9_64 : Array Bool := #[tb9,tb9,tb9,tb9,tb9,tb9,tb9,tb9,tb9,tb9,tb9,tb9,tb9,tb9,tb9,tb9,tb9,tb9,tb9,tb9,tb9,tb9,tb9,tb9,tb9,tb9,fb9,fb9,fb9,fb9,fb9]

/-! ### impl_Graph_steps: function 77 -/
mutual
def impl_Graph_steps.l0 : Nat → Int → List (List Int) → List Int → Int → Int → Int → List (S76) → Option (List Int)
 | 0, _, _, _, _, _, _, _ => none
 | k + 1, x1, x2, x7, x18, x19, x284000, x284001 => if x19 < x18 then (impl_Graph_steps.l1 k x1 x2 x7 x18 x19 x284001 (x284001.length : Int) 0 x284000 x284001) else (some x7)
def impl_Graph_steps.l1 : Nat → Int → List (List Int) → List Int → Int → Int → List (S76) → Int → Int → Int → List (S76) → Option (List Int)
 | 0, _, _, _, _, _, _, _, _, _, _ => none
 | k + 1, x1, x2, x7, x18, x19, x22, x23, x24, x284000, x284001 => if x24 < x23 then (if 0 ≤ x24 then (if x24 < (x22.length : Int) then (if 0 ≤ ((rd_T76 x22 x24).f0) then (if ((rd_T76 x22 x24).f0) < (x2.length : Int) then (if 0 ≤ x1 then (if x1 < ((rd_L4 x2 ((rd_T76 x22 x24).f0)).length : Int) then (if (rd (rd_L4 x2 ((rd_T76 x22 x24).f0)) x1) < 1000000 then (if 0 ≤ ((rd_T76 x22 x24).f1) then (if ((rd_T76 x22 x24).f1) < (x2.length : Int) then (if x1 < ((rd_L4 x2 ((rd_T76 x22 x24).f1)).length : Int) then (if (wrap64 (((rd_T76 x22 x24).f2) + (rd (rd_L4 x2 ((rd_T76 x22 x24).f1)) x1))) = (rd (rd_L4 x2 ((rd_T76 x22 x24).f0)) x1) then (if ((rd_T76 x22 x24).f0) < (x7.length : Int) then (if ((rd_T76 x22 x24).f1) < (x7.length : Int) then (impl_Graph_steps.l1 k x1 x2 (x7.set (((rd_T76 x22 x24).f0) : Int).toNat (mn (rd x7 ((rd_T76 x22 x24).f0)) (wrap64 ((rd x7 ((rd_T76 x22 x24).f1)) + 1)))) x18 x19 x22 x23 (wrap64 (x24 + 1)) x284000 x284001) else (none)) else (none)) else (impl_Graph_steps.l1 k x1 x2 x7 x18 x19 x22 x23 (wrap64 (x24 + 1)) x284000 x284001)) else (none)) else (none)) else (none)) else (impl_Graph_steps.l1 k x1 x2 x7 x18 x19 x22 x23 (wrap64 (x24 + 1)) x284000 x284001)) else (none)) else (none)) else (none)) else (none)) else (none)) else (none)) else (impl_Graph_steps.l0 k x1 x2 x7 x18 (wrap64 (x19 + 1)) x284000 x284001)
end
def impl_Graph_steps.f (k : Nat) (a0_0 : Int) (l0_1 : List (S76)) (a1 : Int) (l2 : List (List Int)) : Option (List Int) := (slices_Repeat_int_int.f (([1000000] : List Int)) a0_0).bind fun t287 => (if 0 ≤ a1 then (if a1 < (t287.length : Int) then (impl_Graph_steps.l0 k a1 l2 (t287.set (a1 : Int).toNat 0) a0_0 0 a0_0 l0_1) else (none)) else (none))
theorem impl_Graph_steps.mono_l : ∀ k, (∀ y0 y1 y2 y3 y4 y5 y6, LeO (impl_Graph_steps.l0 k y0 y1 y2 y3 y4 y5 y6) (impl_Graph_steps.l0 (k + 1) y0 y1 y2 y3 y4 y5 y6)) ∧ (∀ y0 y1 y2 y3 y4 y5 y6 y7 y8 y9, LeO (impl_Graph_steps.l1 k y0 y1 y2 y3 y4 y5 y6 y7 y8 y9) (impl_Graph_steps.l1 (k + 1) y0 y1 y2 y3 y4 y5 y6 y7 y8 y9))
 | 0 => ⟨fun _ _ _ _ _ _ _ r h => by simp [impl_Graph_steps.l0] at h, fun _ _ _ _ _ _ _ _ _ _ r h => by simp [impl_Graph_steps.l1] at h⟩
 | k + 1 => by
  obtain ⟨ih0, ih1⟩ := impl_Graph_steps.mono_l k
  refine ⟨?_, ?_⟩
  ·intro y0 y1 y2 y3 y4 y5 y6
   unfold impl_Graph_steps.l0
   repeat' first
   | (with_reducible exact ih0 _ _ _ _ _ _ _)
   | (with_reducible exact ih1 _ _ _ _ _ _ _ _ _ _)
   | (with_reducible exact LeO.refl _)
   | (with_reducible exact LeO.none _)
   | (with_reducible refine LeO.ite ?_ ?_)
   | (with_reducible refine LeO.bind ?_ (fun _ => ?_))
   | exact ih0 _ _ _ _ _ _ _
   | exact ih1 _ _ _ _ _ _ _ _ _ _
   | exact LeO.none _
   | refine LeO.ite ?_ ?_
   | refine LeO.bind ?_ (fun _ => ?_)
  ·intro y0 y1 y2 y3 y4 y5 y6 y7 y8 y9
   unfold impl_Graph_steps.l1
   repeat' first
   | (with_reducible exact ih0 _ _ _ _ _ _ _)
   | (with_reducible exact ih1 _ _ _ _ _ _ _ _ _ _)
   | (with_reducible exact LeO.refl _)
   | (with_reducible exact LeO.none _)
   | (with_reducible refine LeO.ite ?_ ?_)
   | (with_reducible refine LeO.bind ?_ (fun _ => ?_))
   | exact ih0 _ _ _ _ _ _ _
   | exact ih1 _ _ _ _ _ _ _ _ _ _
   | exact LeO.none _
   | refine LeO.ite ?_ ?_
   | refine LeO.bind ?_ (fun _ => ?_)
theorem impl_Graph_steps.mono : ∀ a0 a1 a2 a3 k, LeO (impl_Graph_steps.f k a0 a1 a2 a3) (impl_Graph_steps.f (k + 1) a0 a1 a2 a3) := by
 intro a0 a1 a2 a3 k
 obtain ⟨ih0, ih1⟩ := impl_Graph_steps.mono_l k
 unfold impl_Graph_steps.f
 repeat' first
   | (with_reducible exact ih0 _ _ _ _ _ _ _)
   | (with_reducible exact ih1 _ _ _ _ _ _ _ _ _ _)
   | (with_reducible exact LeO.refl _)
   | (with_reducible exact LeO.none _)
   | (with_reducible refine LeO.ite ?_ ?_)
   | (with_reducible refine LeO.bind ?_ (fun _ => ?_))
   | exact ih0 _ _ _ _ _ _ _
   | exact ih1 _ _ _ _ _ _ _ _ _ _
   | exact LeO.none _
   | refine LeO.ite ?_ ?_
   | refine LeO.bind ?_ (fun _ => ?_)
def impl_Graph_steps.T8 : Bool × List (List Nat × List Nat) := (true, [([], []), ([], []), ([1], [1]), ([0, 2], [0, 2]), ([3], [3]), ([], []), ([4, 5], [4, 5]), ([6], [6]), ([7], [7]), ([8], [8]), ([9], [9]), ([10, 9], [9, 10]), ([9], [9]), ([9], [9]), ([13, 9], [9, 13]), ([12, 14, 9], [9, 12, 14]), ([15, 9], [9, 15]), ([9], [9]), ([16, 17, 9], [9, 16, 17]), ([18, 9], [9, 18]), ([11, 19, 9], [9, 11, 19]), ([9], [9]), ([9], [9]), ([22, 9], [9, 22]), ([21, 23, 9], [9, 21, 23]), ([24, 9], [9, 24]), ([9], [9]), ([25, 26, 9], [9, 25, 26]), ([27, 9], [9, 27]), ([20, 28, 9], [9, 20, 28]), ([9, 29], [9, 29])])
def impl_Graph_steps.B8 : List Nat := [0, 0, 2, 7, 15, 0, 63, 127, 255, 511, 1023, 2047, 1023, 1023, 9215, 29695, 62463, 1023, 259071, 521215, 1048575, 1023, 1023, 4195327, 14681087, 31458303, 1023, 132121599, 266339327, 536870911, 1073741823]
theorem impl_Graph_steps.tab8 : rtab .any (opsOf Try.f77 8) = impl_Graph_steps.T8 := by kernel_rfl
theorem impl_Graph_steps.bits8 : waitsOk impl_Graph_steps.T8.2 impl_Graph_steps.B8 = true := by kernel_rfl
def impl_Graph_steps.T9 : Bool × List (List Nat × List Nat) := (true, [([], []), ([], []), ([1], [1]), ([], []), ([], []), ([4], [4]), ([3, 5], [3, 5]), ([6], [6]), ([], []), ([], []), ([9], [9]), ([8, 10], [8, 10]), ([11], [11]), ([12], [12]), ([7, 13], [7, 13]), ([0, 2, 0, 1, 2, 3, 4, 5, 6, 7, 8, 9, 10, 11, 12, 13, 14], [0, 2]), ([15, 14, 0, 1, 2, 3, 4, 5, 6, 7, 8, 9, 10, 11, 12, 13, 14], [14, 15])])
def impl_Graph_steps.B9 : List Nat := [0, 0, 2, 0, 0, 16, 56, 120, 0, 0, 512, 1792, 3840, 7936, 16376, 32767, 65535]
theorem impl_Graph_steps.tab9 : rtab .any (opsOf Try.f77 9) = impl_Graph_steps.T9 := by kernel_rfl
theorem impl_Graph_steps.bits9 : waitsOk impl_Graph_steps.T9.2 impl_Graph_steps.B9 = true := by kernel_rfl
set_option maxHeartbeats 8000000 in
set_option maxRecDepth 100000 in
theorem impl_Graph_steps.calls (k : Nat) (a0_0 : Int) (A0_1 : Option Addr) (c0_1 : Nat) (l0_1 : List (S76)) (a1 : Int) (A2 : Option Addr) (c2 : Nat) (l2 : List (List Int)) (r : List Int) (w : World) (hr0_1 : Kd.C k76 w A0_1 l0_1.length l0_1) (hc0_1 : l0_1.length ≤ c0_1) (hr2 : Kd.C (Kd.slice 3 (Kd.int .i64)) w A2 l2.length l2) (hc2 : l2.length ≤ c2) (h : impl_Graph_steps.f k a0_0 l0_1 a1 l2 = some r) :
  Calls Try.prog 77 #[.agg #[.int .i64 a0_0, .slice A0_1 l0_1.length c0_1], .int .i64 a1, .slice A2 l2.length c2] w fun e w' => ∃ v0_ : Value, e = .returned (v0_) ∧ Kd.R (Kd.int .i64) 3 w' w.heap.size (fun _ => True) v0_ r ∧ Below w.heap.size w w' := by
 have hu30 := Try.underlying30
 have hu76 := Try.underlying76
 have HR0_1 := Aside0.mk hr0_1
 have HC0_1 := Aside0.mk hc0_1
 clear hr0_1 hc0_1
 have HR2 := Aside0.mk hr2
 have HC2 := Aside0.mk hc2
 clear hr2 hc2
 have HB := Aside0.mk (Below.refl w.heap.size w)
 have H : ((slices_Repeat_int_int.f (([1000000] : List Int)) a0_0).bind fun t287 => (if 0 ≤ a1 then (if a1 < (t287.length : Int) then (impl_Graph_steps.l0 k a1 l2 (t287.set (a1 : Int).toNat 0) a0_0 0 a0_0 l0_1) else (none)) else (none))) = some r := h
 clear h
 obtain ⟨y284, hy284⟩ : ∃ y_ : List Int, y_ = (([1000000] : List Int)) := ⟨_, rfl⟩
 replace H : ((slices_Repeat_int_int.f y284 a0_0).bind fun t287 => (if 0 ≤ a1 then (if a1 < (t287.length : Int) then (impl_Graph_steps.l0 k a1 l2 (t287.set (a1 : Int).toNat 0) a0_0 0 a0_0 l0_1) else (none)) else (none))) = some r := by first | (rw [hy284]; with_reducible exact H) | (have H2_ := (Option.bind_some _ _).symm.trans H; rw [hy284]; with_reducible exact H2_) | (have H2_ := (Option.bind_some _ _).symm.trans H; with_reducible exact H2_) | with_reducible exact H | (rw [hy284]; exact H) | exact H
 have Ny284 := Aside0.mk hy284
 clear hy284
 replace H := Option.bind_eq_some_iff.mp H
 obtain ⟨t287, A40, H⟩ := H
 have A4 := Aside0.mk A40
 clear A40
 by_cases c5 : 0 ≤ a1
 rotate_left
 ·rw [if_neg c5] at H
  exact absurd H (by simp)
 rw [if_pos c5] at H
 have c5b0 : decide (0 ≤ a1) = true := decide_eq_true c5
 clear c5
 by_cases c6 : a1 < (t287.length : Int)
 rotate_left
 ·rw [if_neg c6] at H
  exact absurd H (by simp)
 rw [if_pos c6] at H
 have c6b0 : decide (a1 < (t287.length : Int)) = true := decide_eq_true c6
 clear c6
 obtain ⟨y290, hy290⟩ : ∃ y_ : List Int, y_ = (t287.set (a1 : Int).toNat 0) := ⟨_, rfl⟩
 replace H : (impl_Graph_steps.l0 k a1 l2 y290 a0_0 0 a0_0 l0_1) = some r := by first | (rw [hy290]; with_reducible exact H) | (have H2_ := (Option.bind_some _ _).symm.trans H; rw [hy290]; with_reducible exact H2_) | (have H2_ := (Option.bind_some _ _).symm.trans H; with_reducible exact H2_) | with_reducible exact H | (rw [hy290]; exact H) | exact H
 have Ny290 := Aside0.mk hy290
 clear hy290
 have H' := Aside0.mk H
 clear H
 go_enter Try.func77, Try.ntmps77
 go_wp2_with (first | ((with_reducible refine gate_dst (N := 3) rfl ?_); refine box_event ?hg (N := 3) ?hd (cs := #[.int .i64 a0_0, .slice A0_1 l0_1.length c0_1]) (t := 30) ?hr ?_; (case hd => rfl); (case hg => rfl); (case hr => first | (go_simp; done) | (go_simp; rfl)); intro gb283 hg w8 hbox hb; have BK283 := Aside0.mk hbox; have GW283 := ge_ HB hg; have GE283 := ge_ HB hg; replace HB := Aside0.mk (bt_ HB hb); clear hb hbox hg) | ((with_reducible refine gate_dst (N := 10) rfl ?_); refine Kd.R_lit (Kd.int .i64) _ 3 ?hg (N := 10) ?hd (xs := ([1000000] : List Int)) (inner := [.int .i64 1000000]) (ok := fun _ => True) (okp := fun _ => True) ?hr ?hp (fun _ hk => hk) trivial (Below.refl _ _) (Nat.le_refl _) (by simp) ?_; (case hd => rfl); (case hg => rfl); (case hr => first | (go_simp; done) | (go_simp; rfl)); (case hp => exact (Reps.one (show Kd.M (Kd.int .i64) _ _ _ 1000000 [.int .i64 1000000] from rfl) (Reps.none _ _))); intro v285 w9 ho10 hb hg_ hnew_; clear hg_ hnew_; (first | rw [← Ny284.out] at ho10 | (simp only [Int.reduceToNat] at ho10; rw [← Ny284.out] at ho10)); have HO286 := Aside0.mk (Kd.R_lower ho10 (bz_ HB)); replace BK283 := Aside0.mk (bb_ BK283 hb); replace HB := Aside0.mk (bt_ HB hb); clear hb ho10; have hcz11_0 := cz_ BK283 0 (.int .i64 a0_0); have hcz11_1 := cz_ BK283 1 (.slice A0_1 l0_1.length c0_1); have hfz11_0 := blk_frozen BK283.out 0; have hfz11_1 := blk_frozen BK283.out 1; obtain ⟨Ao12, co12, eo12⟩ := Kd.R_slice HO286.out; subst eo12) | ((with_reducible refine gate_callee (f := 87) rfl ?_); refine gl_ (some 13) Try.func87 #[.slice Ao12 y284.length co12, .int .i64 a0_0] ?_; (with_reducible refine (slices_Repeat_int_int.calls _ _ y284 a0_0 t287 _ ?side1 ?side2 A4.out).mono ?_); (case side1 => exact rc_ HO286); (case side2 => exact (Kd.R_reads' HO286.out).2.1); rintro e w13 ⟨v288, rfl, ho0, hb⟩; refine ⟨_, rfl, ?_⟩; have HO289 := Aside0.mk (Kd.R_lower (Kd.R_new' ho0 (Kd.R_lt (hd_ HO286))) (bz_ HB)); replace HO286 := Aside0.mk (Kd.R_elder' (hd_ HO286) (Kd.R_base ho0) hb); replace BK283 := Aside0.mk (bb_ BK283 hb); replace HB := Aside0.mk (bt_ HB hb); (try clear hb); (try clear hb2); (try clear hk); (try clear hi); (try clear ho0); have p7 : 0 ≤ (a1 : Int) := of_decide_eq_true (by first | (with_reducible assumption) | assumption); have q7 : (a1 : Int) < ((t287.length : Int) : Int) := of_decide_eq_true (by first | (with_reducible assumption) | assumption); obtain ⟨go7, co7, eo7, gb7, gl7, cl7, HG7⟩ := Kd.R_form HO289.out (by omega); (first | cases eo7 | (injection eo7 with ea_ en_ ec_; (first | subst ea_ | (injection ea_ with ea_; subst ea_)); subst ec_; clear en_)); have GB7 := Aside0.mk gb7; have GG7 := Aside0.mk HG7; clear gb7 gl7 HG7; obtain ⟨hx7_0, hf7_0⟩ := Kd.R_celln 0 HO289.out (a1 : Int) p7 q7; replace p7 := eq_true p7; replace q7 := eq_true q7; have n_ := Aside0.mk (Kd.R_mono (ok' := (fun k_ => some k_ ≠ (.slice Ao12 y284.length co12 : Value).ownBlock)) HO289.out (fun k_ hk => hk.2)); clear HO289; have HO289 := n_; clear n_; obtain ⟨hy14_, hz14_⟩ := Kd.R_celln 0 HO289.out (a1 : Int) (of_decide_eq_true (by first | (with_reducible assumption) | assumption)) (of_decide_eq_true (by first | (with_reducible assumption) | assumption)); have HP14 := Kd.R_putg HO289.out (a1 : Int) 0) | ((with_reducible refine gate_store (t := 3) (p := 16) rfl ?_); refine store_event (t := 3) (p := 16) (v := ?vo_w15) (w1 := (w13.setCell ⟨go7, (a1 : Int).toNat, none⟩ (.int .i64 0))) ?hg ?ho ?hn ?hr ?_; (case ho => rfl); (case hg => rfl); (case hn => rfl); (case hr => first | (go_simp; done) | (go_simp; rfl)); intro w15 hw; have hg : w13.grownBy w15 (some go7) := (by rw [hw]; exact HP14.2); have hp_ : Kd.R (Kd.int .i64) 3 w15 w.heap.size (fun k_ => some k_ ≠ (.slice Ao12 y284.length co12 : Value).ownBlock) (.slice (some ⟨go7, 0, none⟩) t287.length co7) y290 := (by rw [hw, Ny290.out]; exact HP14.1); clear HP14; replace BK283 := Aside0.mk (blk_grown (g := gb283) (o := .cells #[.int .i64 a0_0, .slice A0_1 l0_1.length c0_1] 30 (0, 0)) (by (with_reducible repeat (first | refine blk_drewN ?_ _ | refine blk_drew ?_ | refine blk_alloc ?_ _)); exact BK283.out) hg (Kd.R_ne HO289.out BK283.out (by decide))); replace HO286 := Aside0.mk (Kd.R_after (v := (.slice (some ⟨go7, 0, none⟩) t287.length co7)) (v1 := (.slice (some ⟨go7, 0, none⟩) t287.length co7)) (ok := (fun _ => True)) (hd_ HO286) hg (.inl rfl)); replace HO289 := Aside0.mk (hp_); replace HB := Aside0.mk ((by rw [hw]; exact below_set (HB.out) GB7.out : Below w.heap.size w w15)); clear hg hw hp_; have hcz16_0 := cz_ BK283 0 (.int .i64 a0_0); have hcz16_1 := cz_ BK283 1 (.slice A0_1 l0_1.length c0_1); have hfz16_0 := blk_frozen BK283.out 0; have hfz16_1 := blk_frozen BK283.out 1))
 (try simp only [Act.put, List.setIfInBounds_toArray, List.set_cons_zero, List.set_cons_succ])
 go_loopg [19] k (fun kq v19 w' => ∃ (x7_1 : List Int) (x19_1 : Int), v19 = .int .i64 x19_1 ∧ Aside0 (impl_Graph_steps.l0 kq a1 l2 x7_1 a0_0 x19_1 a0_0 l0_1 = some r) ∧ Aside0 (kq ≤ k) ∧ Aside0 (Kd.R (Kd.int .i64) 3 w' w.heap.size (fun _ => True) (.slice (some ⟨go7, 0, none⟩) t287.length co7) x7_1) ∧ Aside0 (w'.heap[gb283]? = some (.cells #[.int .i64 a0_0, (.slice A0_1 l0_1.length c0_1)] 30 (0, 0))) ∧ Aside0 (Below w.heap.size w w'))
 case atStart => exact ⟨(y290), (0), (by first | rfl | (simp; done) | (simp [*]; done)), H', ⟨Nat.le_refl _⟩, ⟨by (with_reducible repeat (first | apply Kd.R_alloc | apply Kd.R_drewN | apply Kd.R_drew)); exact Kd.R_mono HO289.out (fun _ hk => trivial)⟩, ⟨by (with_reducible repeat (first | refine blk_drewN ?_ _ | refine blk_drew ?_ | refine blk_alloc ?_ _)); exact BK283.out⟩, ⟨by repeat (first | (with_reducible first | exact HB.out | apply below_alloc | apply pw_below_drewN | apply below_drew1 | refine below_set ?_ GE283.out) | exact HB.out)⟩⟩
 case round =>
  clear H'
  try clear c2
  try clear p2
  try clear c5
  try clear c5b0
  try clear c6
  try clear c6b0
  try clear c7
  try clear p7
  try clear q7
  try clear hx7
  try clear hf7
  try clear c8
  try clear hcz11_0
  try clear hcz11_1
  try clear hcz16_0
  try clear hcz16_1
  try clear hfz11_0
  try clear hfz11_1
  try clear hfz16_0
  try clear hfz16_1
  try clear hx7_0
  try clear p7
  try clear q7
  obtain ⟨x7_1, x19_1, rfl, HA, HK1, HO_7, BK283, HB⟩ := hrel
  have hl7_1 := (Kd.R_reads' HO_7.out).1
  rw [hl7_1] at HO_7
  (try simp only [hl7_1])
  (try simp only [hl7_1] at BK283)
  cases gk with
  | zero => exact absurd HA.out (by simp [impl_Graph_steps.l0])
  | succ k1 =>
   have H := HA.out
   clear HA
   simp only [impl_Graph_steps.l0] at H
   by_cases c17 : x19_1 < a0_0
   rotate_left
   ·rw [if_neg c17] at H
    have c17b0 : decide (x19_1 < a0_0) = false := decide_eq_false c17
    clear c17
    obtain rfl := Option.some.inj H
    go_wp2
    go_ret
    exact ⟨_, by first | rfl | (simp [errW_none, errW_some] <;> rfl) | (simp [*, errW_none, errW_some] <;> rfl), by (with_reducible repeat (first | apply Kd.R_alloc | apply Kd.R_drewN | apply Kd.R_drew)); exact HO_7.out, by repeat (first | (with_reducible first | exact HB.out | apply below_alloc | apply pw_below_drewN | apply below_drew1 | refine below_set ?_ GE283.out) | exact HB.out)⟩
   rw [if_pos c17] at H
   have c17b0 : decide (x19_1 < a0_0) = true := decide_eq_true c17
   clear c17
   have H' := Aside0.mk H
   clear H
   have hcz18_0 := cz_ BK283 0 (.int .i64 a0_0)
   have hcz18_1 := cz_ BK283 1 (.slice A0_1 l0_1.length c0_1)
   have hfz18_0 := blk_frozen BK283.out 0
   have hfz18_1 := blk_frozen BK283.out 1
   go_wp2
   go_loopg [24] k1 (fun kq v24 w' => ∃ (x7_2 : List Int) (x24_2 : Int), v24 = .int .i64 x24_2 ∧ Aside0 (impl_Graph_steps.l1 kq a1 l2 x7_2 a0_0 x19_1 l0_1 (l0_1.length : Int) x24_2 a0_0 l0_1 = some r) ∧ Aside0 (kq ≤ k1) ∧ Aside0 (Kd.R (Kd.int .i64) 3 w' w.heap.size (fun _ => True) (.slice (some ⟨go7, 0, none⟩) x7_1.length co7) x7_2) ∧ Aside0 (w'.heap[gb283]? = some (.cells #[.int .i64 a0_0, (.slice A0_1 l0_1.length c0_1)] 30 (0, 0))) ∧ Aside0 (Below w.heap.size w w'))
   case atStart => exact ⟨(x7_1), (0), (by first | rfl | (simp; done) | (simp [*]; done)), H', ⟨Nat.le_refl _⟩, ⟨by (try simp only [hl7_1]); (with_reducible repeat (first | apply Kd.R_alloc | apply Kd.R_drewN | apply Kd.R_drew)); exact HO_7.out⟩, ⟨by (try simp only [hl7_1]); (with_reducible repeat (first | refine blk_drewN ?_ _ | refine blk_drew ?_ | refine blk_alloc ?_ _)); exact BK283.out⟩, ⟨by repeat (first | (with_reducible first | exact HB.out | apply below_alloc | apply pw_below_drewN | apply below_drew1 | refine below_set ?_ GE283.out) | exact HB.out)⟩⟩
   case round =>
    clear H'
    try clear c1
    try clear c2
    try clear p2
    try clear c5
    try clear c5b0
    try clear c6
    try clear c6b0
    try clear c7
    try clear p7
    try clear q7
    try clear hx7
    try clear hf7
    try clear c8
    try clear c17
    try clear c17b0
    try clear hcz11_0
    try clear hcz11_1
    try clear hcz16_0
    try clear hcz16_1
    try clear hcz18_0
    try clear hcz18_1
    try clear hfz11_0
    try clear hfz11_1
    try clear hfz16_0
    try clear hfz16_1
    try clear hfz18_0
    try clear hfz18_1
    try clear hx7_0
    try clear p2
    try clear p7
    try clear q7
    obtain ⟨x7_2, x24_2, rfl, HA, HK2, HO_7, BK283, HB⟩ := hrel
    have hl7_2 := (Kd.R_reads' HO_7.out).1
    rw [hl7_2] at HO_7
    (try simp only [hl7_2])
    (try simp only [hl7_2] at BK283)
    cases gk with
    | zero => exact absurd HA.out (by simp [impl_Graph_steps.l1])
    | succ k2 =>
     have H := HA.out
     clear HA
     simp only [impl_Graph_steps.l1] at H
     by_cases c19 : x24_2 < (l0_1.length : Int)
     rotate_left
     ·rw [if_neg c19] at H
      have c19b0 : decide (x24_2 < (l0_1.length : Int)) = false := decide_eq_false c19
      (try simp only [hl7_1] at c19b0)
      (try simp only [hl7_2] at c19b0)
      clear c19
      have H' := Aside0.mk H
      clear H
      go_wp2
      (try simp only [← hl7_1, ← hl7_2])
      go_roundg k2
      case measure => have := HK1.out; have := HK2.out; omega
      case rel => exact ⟨(x7_2), (wrap64 (x19_1 + 1)), (by first | rfl | (simp; done) | (simp [*]; done)), H', ⟨by have := HK1.out; have := HK2.out; omega⟩, ⟨by (try simp only [hl7_1]); (try simp only [hl7_2]); (with_reducible repeat (first | apply Kd.R_alloc | apply Kd.R_drewN | apply Kd.R_drew)); exact HO_7.out⟩, ⟨by (try simp only [hl7_1]); (try simp only [hl7_2]); (with_reducible repeat (first | refine blk_drewN ?_ _ | refine blk_drew ?_ | refine blk_alloc ?_ _)); exact BK283.out⟩, ⟨by repeat (first | (with_reducible first | exact HB.out | apply below_alloc | apply pw_below_drewN | apply below_drew1 | refine below_set ?_ GE283.out) | exact HB.out)⟩⟩
     rw [if_pos c19] at H
     have c19b0 : decide (x24_2 < (l0_1.length : Int)) = true := decide_eq_true c19
     clear c19
     by_cases c20 : 0 ≤ x24_2
     rotate_left
     ·rw [if_neg c20] at H
      exact absurd H (by simp)
     rw [if_pos c20] at H
     have c20b0 : decide (0 ≤ x24_2) = true := decide_eq_true c20
     clear c20
     by_cases c21 : x24_2 < (l0_1.length : Int)
     rotate_left
     ·rw [if_neg c21] at H
      exact absurd H (by simp)
     rw [if_pos c21] at H
     have c21b0 : decide (x24_2 < (l0_1.length : Int)) = true := decide_eq_true c21
     clear c21
     by_cases c22 : 0 ≤ ((rd_T76 l0_1 x24_2).f0)
     rotate_left
     ·rw [if_neg c22] at H
      exact absurd H (by simp)
     rw [if_pos c22] at H
     have c22b0 : decide (0 ≤ ((rd_T76 l0_1 x24_2).f0)) = true := decide_eq_true c22
     clear c22
     by_cases c23 : ((rd_T76 l0_1 x24_2).f0) < (l2.length : Int)
     rotate_left
     ·rw [if_neg c23] at H
      exact absurd H (by simp)
     rw [if_pos c23] at H
     have c23b0 : decide (((rd_T76 l0_1 x24_2).f0) < (l2.length : Int)) = true := decide_eq_true c23
     clear c23
     by_cases c24 : 0 ≤ a1
     rotate_left
     ·rw [if_neg c24] at H
      exact absurd H (by simp)
     rw [if_pos c24] at H
     have c24b0 : decide (0 ≤ a1) = true := decide_eq_true c24
     clear c24
     by_cases c25 : a1 < ((rd_L4 l2 ((rd_T76 l0_1 x24_2).f0)).length : Int)
     rotate_left
     ·rw [if_neg c25] at H
      exact absurd H (by simp)
     rw [if_pos c25] at H
     have c25b0 : decide (a1 < ((rd_L4 l2 ((rd_T76 l0_1 x24_2).f0)).length : Int)) = true := decide_eq_true c25
     clear c25
     by_cases c26 : (rd (rd_L4 l2 ((rd_T76 l0_1 x24_2).f0)) a1) < 1000000
     rotate_left
     ·rw [if_neg c26] at H
      have c26b0 : decide ((rd (rd_L4 l2 ((rd_T76 l0_1 x24_2).f0)) a1) < 1000000) = false := decide_eq_false c26
      clear c26
      have H' := Aside0.mk H
      clear H
      have p291 : 0 ≤ (x24_2 : Int) := of_decide_eq_true (by first | (with_reducible assumption) | assumption)
      have q291 : x24_2 < (l0_1.length : Int) := of_decide_eq_true (by first | (with_reducible assumption) | assumption)
      obtain ⟨ad291, e291, hx291_0, hx291_1, hx291_2⟩ := at_T76 HR0_1.out x24_2 p291 q291
      cases e291
      replace hx291_0 := (HB.out.cell (World.block_lt_of_cell? w _ hx291_0)).trans hx291_0
      replace hx291_1 := (HB.out.cell (World.block_lt_of_cell? w _ hx291_1)).trans hx291_1
      replace hx291_2 := (HB.out.cell (World.block_lt_of_cell? w _ hx291_2)).trans hx291_2
      replace p291 := eq_true p291
      replace q291 := eq_true q291
      try go_wp2_with (first | ((with_reducible refine gate_dst (N := 9) rfl ?_); refine box_event ?hg (N := 9) ?hd (cs := #[.int .i64 0, .int .i64 0, .int .i64 0]) (t := 76) ?hr ?_; (case hd => rfl); (case hg => rfl); (case hr => first | (go_simp; done) | (go_simp; rfl)); intro gb292 hg w47 hbox hb; have BK292 := Aside0.mk hbox; have GW292 := ge_ HB hg; have GE292 := ge_ HB hg; have NB283_292 := nl_ BK283 hg; have NB292_283 := ng_ BK283 hg; replace HO_7 := rb_ HO_7 hb; replace HB := Aside0.mk (bt_ HB hb); replace BK283 := Aside0.mk (bb_ BK283 hb); clear hb hbox hg; have hnb48 := NB292_283.out; have hnc48 := NB283_292.out; have hcz49_0 := cz_ BK292 0 (.int .i64 0); have hcz49_1 := cz_ BK292 1 (.int .i64 0); have hcz49_2 := cz_ BK292 2 (.int .i64 0); have hfz49_0 := blk_frozen BK292.out 0; have hfz49_1 := blk_frozen BK292.out 1; have hfz49_2 := blk_frozen BK292.out 2))
      have n0_ : Aside0 (Kd.R (Kd.int .i64) 3 (((w47.setCell ⟨gb292, 0, none⟩ (.int .i64 ((rd_T76 l0_1 x24_2).f0))).setCell ⟨gb292, 1, none⟩ (.int .i64 ((rd_T76 l0_1 x24_2).f1))).setCell ⟨gb292, 2, none⟩ (.int .i64 ((rd_T76 l0_1 x24_2).f2))) w.heap.size (fun _ => True) (.slice (some ⟨go7, 0, none⟩) x7_2.length co7) x7_2) := ⟨by (with_reducible repeat (first | apply Kd.R_alloc | apply Kd.R_drewN | apply Kd.R_drew)); exact Kd.R_mono (Kd.R_far (p := ⟨gb292, 2, none⟩) (Kd.R_far (p := ⟨gb292, 1, none⟩) (Kd.R_far (p := ⟨gb292, 0, none⟩) (Kd.R_types HO_7.out BK292.out (by decide)) (fun _ hk => hk.2) (.int .i64 ((rd_T76 l0_1 x24_2).f0))) (fun _ hk => hk.2) (.int .i64 ((rd_T76 l0_1 x24_2).f1))) (fun _ hk => hk.2) (.int .i64 ((rd_T76 l0_1 x24_2).f2))) (fun _ hk => trivial)⟩
      have n1_ : Aside0 ((((w47.setCell ⟨gb292, 0, none⟩ (.int .i64 ((rd_T76 l0_1 x24_2).f0))).setCell ⟨gb292, 1, none⟩ (.int .i64 ((rd_T76 l0_1 x24_2).f1))).setCell ⟨gb292, 2, none⟩ (.int .i64 ((rd_T76 l0_1 x24_2).f2))).heap[gb283]? = some (.cells #[.int .i64 a0_0, .slice (some ad291) l0_1.length c0_1] 30 (0, 0))) := ⟨by (with_reducible repeat (first | refine blk_drewN ?_ _ | refine blk_drew ?_ | refine blk_alloc ?_ _)); refine blk_far ?_ NB283_292.out _; (with_reducible repeat (first | refine blk_drewN ?_ _ | refine blk_drew ?_ | refine blk_alloc ?_ _)); refine blk_far ?_ NB283_292.out _; (with_reducible repeat (first | refine blk_drewN ?_ _ | refine blk_drew ?_ | refine blk_alloc ?_ _)); refine blk_far ?_ NB283_292.out _; (with_reducible repeat (first | refine blk_drewN ?_ _ | refine blk_drew ?_ | refine blk_alloc ?_ _)); exact BK283.out⟩
      have n2_ : Aside0 ((((w47.setCell ⟨gb292, 0, none⟩ (.int .i64 ((rd_T76 l0_1 x24_2).f0))).setCell ⟨gb292, 1, none⟩ (.int .i64 ((rd_T76 l0_1 x24_2).f1))).setCell ⟨gb292, 2, none⟩ (.int .i64 ((rd_T76 l0_1 x24_2).f2))).heap[gb292]? = some (.cells #[.int .i64 ((rd_T76 l0_1 x24_2).f0), .int .i64 ((rd_T76 l0_1 x24_2).f1), .int .i64 ((rd_T76 l0_1 x24_2).f2)] 76 (0, 0))) := ⟨by (with_reducible repeat (first | refine blk_drewN ?_ _ | refine blk_drew ?_ | refine blk_alloc ?_ _)); refine blk_put (cs := #[.int .i64 ((rd_T76 l0_1 x24_2).f0), .int .i64 ((rd_T76 l0_1 x24_2).f1), .int .i64 0]) ?_ 2 _ rfl; (with_reducible repeat (first | refine blk_drewN ?_ _ | refine blk_drew ?_ | refine blk_alloc ?_ _)); refine blk_put (cs := #[.int .i64 ((rd_T76 l0_1 x24_2).f0), .int .i64 0, .int .i64 0]) ?_ 1 _ rfl; (with_reducible repeat (first | refine blk_drewN ?_ _ | refine blk_drew ?_ | refine blk_alloc ?_ _)); refine blk_put (cs := #[.int .i64 0, .int .i64 0, .int .i64 0]) ?_ 0 _ rfl; (with_reducible repeat (first | refine blk_drewN ?_ _ | refine blk_drew ?_ | refine blk_alloc ?_ _)); exact BK292.out⟩
      have n3_ : Aside0 (Below w.heap.size w (((w47.setCell ⟨gb292, 0, none⟩ (.int .i64 ((rd_T76 l0_1 x24_2).f0))).setCell ⟨gb292, 1, none⟩ (.int .i64 ((rd_T76 l0_1 x24_2).f1))).setCell ⟨gb292, 2, none⟩ (.int .i64 ((rd_T76 l0_1 x24_2).f2)))) := ⟨by repeat (first | (with_reducible first | exact HB.out | apply below_alloc | apply pw_below_drewN | apply below_drew1 | refine below_set ?_ GE283.out | refine below_set ?_ GE292.out) | exact HB.out)⟩
      (try clear HO_7)
      (try clear BK283)
      (try clear BK292)
      (try clear HB)
      generalize (((w47.setCell ⟨gb292, 0, none⟩ (.int .i64 ((rd_T76 l0_1 x24_2).f0))).setCell ⟨gb292, 1, none⟩ (.int .i64 ((rd_T76 l0_1 x24_2).f1))).setCell ⟨gb292, 2, none⟩ (.int .i64 ((rd_T76 l0_1 x24_2).f2))) = w50 at n0_ n1_ n2_ n3_ ⊢
      have HO_7 := n0_
      have BK283 := n1_
      have BK292 := n2_
      have HB := n3_
      clear n0_ n1_ n2_ n3_
      replace HO_7 := Aside0.mk (Kd.R_drew HO_7.out)
      replace BK283 := Aside0.mk (blk_drew BK283.out)
      replace BK292 := Aside0.mk (blk_drew BK292.out)
      replace HB := Aside0.mk (below_drew1 HB.out)
      have p293 : 0 ≤ (((rd_T76 l0_1 x24_2).f0) : Int) := of_decide_eq_true (by first | (with_reducible assumption) | assumption)
      have q293 : ((rd_T76 l0_1 x24_2).f0) < (l2.length : Int) := of_decide_eq_true (by first | (with_reducible assumption) | assumption)
      obtain ⟨ad293, A293_0, c293_0, e293, hx293_0, hl293_0, hi293_0⟩ := at_L4 HR2.out ((rd_T76 l0_1 x24_2).f0) p293 q293
      have hw293_0 := hx293_0
      cases e293
      replace hx293_0 := (HB.out.cell (World.block_lt_of_cell? w _ hx293_0)).trans hx293_0
      have HR293_0 := Aside0.mk hi293_0
      have HC293_0 := Aside0.mk hl293_0
      clear hi293_0 hl293_0
      replace p293 := eq_true p293
      replace q293 := eq_true q293
      have p294 : 0 ≤ (a1 : Int) := of_decide_eq_true (by first | (with_reducible assumption) | assumption)
      have q294 : a1 < ((rd_L4 l2 ((rd_T76 l0_1 x24_2).f0)).length : Int) := of_decide_eq_true (by first | (with_reducible assumption) | assumption)
      obtain ⟨ad294, e294, hx294_0⟩ := Kd.at_int HR293_0.out a1 p294 q294
      have hw294_0 := hx294_0
      cases e294
      replace hx294_0 := (HB.out.cell (World.block_lt_of_cell? w _ hx294_0)).trans hx294_0
      replace p294 := eq_true p294
      replace q294 := eq_true q294
      refine start_ (n := 31) (S := fun w' => w'.cell? ⟨gb292, 0, none⟩ = some (.int .i64 ((rd_T76 l0_1 x24_2).f0)) ∧ w'.cell? ⟨gb292, 1, none⟩ = some (.int .i64 ((rd_T76 l0_1 x24_2).f1)) ∧ w'.cell? ⟨gb292, 2, none⟩ = some (.int .i64 ((rd_T76 l0_1 x24_2).f2)) ∧ w'.cell? (ad293.add (((rd_T76 l0_1 x24_2).f0)).toNat) = some (.slice (some ad294) (rd_L4 l2 ((rd_T76 l0_1 x24_2).f0)).length c293_0) ∧ w'.cell? (ad294.add (a1).toNat) = some (.int .i64 (rd (rd_L4 l2 ((rd_T76 l0_1 x24_2).f0)) a1))) (ds := []) ba9_0 (by kernel_rfl) rfl rfl ⟨(blk_cell BK292.out 0).trans rfl, (blk_cell BK292.out 1).trans rfl, (blk_cell BK292.out 2).trans rfl, (hc_ HB hw293_0), (hc_ HB hw294_0)⟩ (fun hHeld => ?_); refine with_tabW impl_Graph_steps.tab8 impl_Graph_steps.bits8 (fun HT_ HW_ => ?_)
      generalize w50.drew = w51 at HO_7 BK283 BK292 HB HR293_0 hx293_0 hx294_0 hHeld ⊢
      refine pz_ 0 28 ba9_1 HT_ ?_
      refine pz_ 1 29 ba9_2 HT_ ?_
      refine pz_ 5 33 ba9_3 HT_ ?_
      refine pt_ 2 30 ba9_4 HT_ HW_ hHeld ?_
      refine pz_ 3 31 ba9_5 HT_ ?_
      refine pt_ 4 32 ba9_6 HT_ HW_ hHeld ?_
      refine pz_ 6 34 ba9_7 HT_ ?_
      refine pt_ 7 35 ba9_8 HT_ HW_ hHeld ?_
      refine pz_ 8 36 ba9_9 HT_ ?_
      refine pz_ 9 37 ba9_10 HT_ ?_
      refine pu_ 10 38 ba9_11 HT_ ?_
      refine pu_ 11 39 ba9_50 HT_ ?_
      refine pu_ 12 40 ba9_51 HT_ ?_
      refine pu_ 13 41 ba9_52 HT_ ?_
      refine pu_ 14 42 ba9_53 HT_ ?_
      refine pu_ 15 43 ba9_54 HT_ ?_
      refine pu_ 16 44 ba9_55 HT_ ?_
      refine pu_ 17 45 ba9_56 HT_ ?_
      refine pu_ 18 46 ba9_57 HT_ ?_
      refine pu_ 19 47 ba9_58 HT_ ?_
      refine pu_ 20 48 ba9_59 HT_ ?_
      refine pu_ 21 49 ba9_60 HT_ ?_
      refine pu_ 22 50 ba9_61 HT_ ?_
      refine pu_ 23 51 ba9_62 HT_ ?_
      refine pu_ 24 52 ba9_63 HT_ ?_
      refine pu_ 25 53 ba9_64 HT_ ?_
      refine pu_ 26 54 ba9_27 HT_ ?_
      refine pu_ 27 55 ba9_28 HT_ ?_
      refine pu_ 28 56 ba9_29 HT_ ?_
      refine pu_ 29 57 ba9_30 HT_ ?_
      refine pz_ 30 58 ba9_31 HT_ ?_
      refine done_ (done_of HT_.out (by kernel_rfl)) ?_
      try go_wp2
      (try simp only [← hl7_2])
      go_roundg k2
      case measure => have := HK1.out; have := HK2.out; omega
      case rel => exact ⟨(x7_2), (wrap64 (x24_2 + 1)), (by first | rfl | (simp; done) | (simp [*]; done)), H', ⟨by have := HK1.out; have := HK2.out; omega⟩, ⟨by (try simp only [hl7_1]); (try simp only [hl7_2]); (with_reducible repeat (first | apply Kd.R_alloc | apply Kd.R_drewN | apply Kd.R_drew)); exact HO_7.out⟩, ⟨by (try simp only [hl7_1]); (try simp only [hl7_2]); (with_reducible repeat (first | refine blk_drewN ?_ _ | refine blk_drew ?_ | refine blk_alloc ?_ _)); exact BK283.out⟩, ⟨by repeat (first | (with_reducible first | exact HB.out | apply below_alloc | apply pw_below_drewN | apply below_drew1 | refine below_set ?_ GE283.out | refine below_set ?_ GE292.out) | exact HB.out)⟩⟩
     rw [if_pos c26] at H
     have c26b0 : decide ((rd (rd_L4 l2 ((rd_T76 l0_1 x24_2).f0)) a1) < 1000000) = true := decide_eq_true c26
     clear c26
     by_cases c27 : 0 ≤ ((rd_T76 l0_1 x24_2).f1)
     rotate_left
     ·rw [if_neg c27] at H
      exact absurd H (by simp)
     rw [if_pos c27] at H
     have c27b0 : decide (0 ≤ ((rd_T76 l0_1 x24_2).f1)) = true := decide_eq_true c27
     clear c27
     by_cases c28 : ((rd_T76 l0_1 x24_2).f1) < (l2.length : Int)
     rotate_left
     ·rw [if_neg c28] at H
      exact absurd H (by simp)
     rw [if_pos c28] at H
     have c28b0 : decide (((rd_T76 l0_1 x24_2).f1) < (l2.length : Int)) = true := decide_eq_true c28
     clear c28
     by_cases c29 : a1 < ((rd_L4 l2 ((rd_T76 l0_1 x24_2).f1)).length : Int)
     rotate_left
     ·rw [if_neg c29] at H
      exact absurd H (by simp)
     rw [if_pos c29] at H
     have c29b0 : decide (a1 < ((rd_L4 l2 ((rd_T76 l0_1 x24_2).f1)).length : Int)) = true := decide_eq_true c29
     clear c29
     by_cases c30 : (wrap64 (((rd_T76 l0_1 x24_2).f2) + (rd (rd_L4 l2 ((rd_T76 l0_1 x24_2).f1)) a1))) = (rd (rd_L4 l2 ((rd_T76 l0_1 x24_2).f0)) a1)
     rotate_left
     ·rw [if_neg c30] at H
      have c30b0 : ((wrap64 (((rd_T76 l0_1 x24_2).f2) + (rd (rd_L4 l2 ((rd_T76 l0_1 x24_2).f1)) a1))) == (rd (rd_L4 l2 ((rd_T76 l0_1 x24_2).f0)) a1)) = false := beq_eq_false_iff_ne.mpr c30
      have c30b1 : ((wrap64 (((rd_T76 l0_1 x24_2).f2) + (rd (rd_L4 l2 ((rd_T76 l0_1 x24_2).f1)) a1))) != (rd (rd_L4 l2 ((rd_T76 l0_1 x24_2).f0)) a1)) = true := bne_iff_ne.mpr c30
      have H' := Aside0.mk H
      clear H
      have p291 : 0 ≤ (x24_2 : Int) := of_decide_eq_true (by first | (with_reducible assumption) | assumption)
      have q291 : x24_2 < (l0_1.length : Int) := of_decide_eq_true (by first | (with_reducible assumption) | assumption)
      obtain ⟨ad291, e291, hx291_0, hx291_1, hx291_2⟩ := at_T76 HR0_1.out x24_2 p291 q291
      cases e291
      replace hx291_0 := (HB.out.cell (World.block_lt_of_cell? w _ hx291_0)).trans hx291_0
      replace hx291_1 := (HB.out.cell (World.block_lt_of_cell? w _ hx291_1)).trans hx291_1
      replace hx291_2 := (HB.out.cell (World.block_lt_of_cell? w _ hx291_2)).trans hx291_2
      replace p291 := eq_true p291
      replace q291 := eq_true q291
      try go_wp2_with (first | ((with_reducible refine gate_dst (N := 9) rfl ?_); refine box_event ?hg (N := 9) ?hd (cs := #[.int .i64 0, .int .i64 0, .int .i64 0]) (t := 76) ?hr ?_; (case hd => rfl); (case hg => rfl); (case hr => first | (go_simp; done) | (go_simp; rfl)); intro gb292 hg w42 hbox hb; have BK292 := Aside0.mk hbox; have GW292 := ge_ HB hg; have GE292 := ge_ HB hg; have NB283_292 := nl_ BK283 hg; have NB292_283 := ng_ BK283 hg; replace HO_7 := rb_ HO_7 hb; replace HB := Aside0.mk (bt_ HB hb); replace BK283 := Aside0.mk (bb_ BK283 hb); clear hb hbox hg; have hnb43 := NB292_283.out; have hnc43 := NB283_292.out; have hcz44_0 := cz_ BK292 0 (.int .i64 0); have hcz44_1 := cz_ BK292 1 (.int .i64 0); have hcz44_2 := cz_ BK292 2 (.int .i64 0); have hfz44_0 := blk_frozen BK292.out 0; have hfz44_1 := blk_frozen BK292.out 1; have hfz44_2 := blk_frozen BK292.out 2))
      have n0_ : Aside0 (Kd.R (Kd.int .i64) 3 (((w42.setCell ⟨gb292, 0, none⟩ (.int .i64 ((rd_T76 l0_1 x24_2).f0))).setCell ⟨gb292, 1, none⟩ (.int .i64 ((rd_T76 l0_1 x24_2).f1))).setCell ⟨gb292, 2, none⟩ (.int .i64 ((rd_T76 l0_1 x24_2).f2))) w.heap.size (fun _ => True) (.slice (some ⟨go7, 0, none⟩) x7_2.length co7) x7_2) := ⟨by (with_reducible repeat (first | apply Kd.R_alloc | apply Kd.R_drewN | apply Kd.R_drew)); exact Kd.R_mono (Kd.R_far (p := ⟨gb292, 2, none⟩) (Kd.R_far (p := ⟨gb292, 1, none⟩) (Kd.R_far (p := ⟨gb292, 0, none⟩) (Kd.R_types HO_7.out BK292.out (by decide)) (fun _ hk => hk.2) (.int .i64 ((rd_T76 l0_1 x24_2).f0))) (fun _ hk => hk.2) (.int .i64 ((rd_T76 l0_1 x24_2).f1))) (fun _ hk => hk.2) (.int .i64 ((rd_T76 l0_1 x24_2).f2))) (fun _ hk => trivial)⟩
      have n1_ : Aside0 ((((w42.setCell ⟨gb292, 0, none⟩ (.int .i64 ((rd_T76 l0_1 x24_2).f0))).setCell ⟨gb292, 1, none⟩ (.int .i64 ((rd_T76 l0_1 x24_2).f1))).setCell ⟨gb292, 2, none⟩ (.int .i64 ((rd_T76 l0_1 x24_2).f2))).heap[gb283]? = some (.cells #[.int .i64 a0_0, .slice (some ad291) l0_1.length c0_1] 30 (0, 0))) := ⟨by (with_reducible repeat (first | refine blk_drewN ?_ _ | refine blk_drew ?_ | refine blk_alloc ?_ _)); refine blk_far ?_ NB283_292.out _; (with_reducible repeat (first | refine blk_drewN ?_ _ | refine blk_drew ?_ | refine blk_alloc ?_ _)); refine blk_far ?_ NB283_292.out _; (with_reducible repeat (first | refine blk_drewN ?_ _ | refine blk_drew ?_ | refine blk_alloc ?_ _)); refine blk_far ?_ NB283_292.out _; (with_reducible repeat (first | refine blk_drewN ?_ _ | refine blk_drew ?_ | refine blk_alloc ?_ _)); exact BK283.out⟩
      have n2_ : Aside0 ((((w42.setCell ⟨gb292, 0, none⟩ (.int .i64 ((rd_T76 l0_1 x24_2).f0))).setCell ⟨gb292, 1, none⟩ (.int .i64 ((rd_T76 l0_1 x24_2).f1))).setCell ⟨gb292, 2, none⟩ (.int .i64 ((rd_T76 l0_1 x24_2).f2))).heap[gb292]? = some (.cells #[.int .i64 ((rd_T76 l0_1 x24_2).f0), .int .i64 ((rd_T76 l0_1 x24_2).f1), .int .i64 ((rd_T76 l0_1 x24_2).f2)] 76 (0, 0))) := ⟨by (with_reducible repeat (first | refine blk_drewN ?_ _ | refine blk_drew ?_ | refine blk_alloc ?_ _)); refine blk_put (cs := #[.int .i64 ((rd_T76 l0_1 x24_2).f0), .int .i64 ((rd_T76 l0_1 x24_2).f1), .int .i64 0]) ?_ 2 _ rfl; (with_reducible repeat (first | refine blk_drewN ?_ _ | refine blk_drew ?_ | refine blk_alloc ?_ _)); refine blk_put (cs := #[.int .i64 ((rd_T76 l0_1 x24_2).f0), .int .i64 0, .int .i64 0]) ?_ 1 _ rfl; (with_reducible repeat (first | refine blk_drewN ?_ _ | refine blk_drew ?_ | refine blk_alloc ?_ _)); refine blk_put (cs := #[.int .i64 0, .int .i64 0, .int .i64 0]) ?_ 0 _ rfl; (with_reducible repeat (first | refine blk_drewN ?_ _ | refine blk_drew ?_ | refine blk_alloc ?_ _)); exact BK292.out⟩
      have n3_ : Aside0 (Below w.heap.size w (((w42.setCell ⟨gb292, 0, none⟩ (.int .i64 ((rd_T76 l0_1 x24_2).f0))).setCell ⟨gb292, 1, none⟩ (.int .i64 ((rd_T76 l0_1 x24_2).f1))).setCell ⟨gb292, 2, none⟩ (.int .i64 ((rd_T76 l0_1 x24_2).f2)))) := ⟨by repeat (first | (with_reducible first | exact HB.out | apply below_alloc | apply pw_below_drewN | apply below_drew1 | refine below_set ?_ GE283.out | refine below_set ?_ GE292.out) | exact HB.out)⟩
      (try clear HO_7)
      (try clear BK283)
      (try clear BK292)
      (try clear HB)
      generalize (((w42.setCell ⟨gb292, 0, none⟩ (.int .i64 ((rd_T76 l0_1 x24_2).f0))).setCell ⟨gb292, 1, none⟩ (.int .i64 ((rd_T76 l0_1 x24_2).f1))).setCell ⟨gb292, 2, none⟩ (.int .i64 ((rd_T76 l0_1 x24_2).f2))) = w45 at n0_ n1_ n2_ n3_ ⊢
      have HO_7 := n0_
      have BK283 := n1_
      have BK292 := n2_
      have HB := n3_
      clear n0_ n1_ n2_ n3_
      replace HO_7 := Aside0.mk (Kd.R_drew HO_7.out)
      replace BK283 := Aside0.mk (blk_drew BK283.out)
      replace BK292 := Aside0.mk (blk_drew BK292.out)
      replace HB := Aside0.mk (below_drew1 HB.out)
      have p293 : 0 ≤ (((rd_T76 l0_1 x24_2).f0) : Int) := of_decide_eq_true (by first | (with_reducible assumption) | assumption)
      have q293 : ((rd_T76 l0_1 x24_2).f0) < (l2.length : Int) := of_decide_eq_true (by first | (with_reducible assumption) | assumption)
      obtain ⟨ad293, A293_0, c293_0, e293, hx293_0, hl293_0, hi293_0⟩ := at_L4 HR2.out ((rd_T76 l0_1 x24_2).f0) p293 q293
      have hw293_0 := hx293_0
      cases e293
      replace hx293_0 := (HB.out.cell (World.block_lt_of_cell? w _ hx293_0)).trans hx293_0
      have HR293_0 := Aside0.mk hi293_0
      have HC293_0 := Aside0.mk hl293_0
      clear hi293_0 hl293_0
      replace p293 := eq_true p293
      replace q293 := eq_true q293
      have p294 : 0 ≤ (a1 : Int) := of_decide_eq_true (by first | (with_reducible assumption) | assumption)
      have q294 : a1 < ((rd_L4 l2 ((rd_T76 l0_1 x24_2).f0)).length : Int) := of_decide_eq_true (by first | (with_reducible assumption) | assumption)
      obtain ⟨ad294, e294, hx294_0⟩ := Kd.at_int HR293_0.out a1 p294 q294
      have hw294_0 := hx294_0
      cases e294
      replace hx294_0 := (HB.out.cell (World.block_lt_of_cell? w _ hx294_0)).trans hx294_0
      replace p294 := eq_true p294
      replace q294 := eq_true q294
      have p295 : 0 ≤ (((rd_T76 l0_1 x24_2).f1) : Int) := of_decide_eq_true (by first | (with_reducible assumption) | assumption)
      have q295 : ((rd_T76 l0_1 x24_2).f1) < (l2.length : Int) := of_decide_eq_true (by first | (with_reducible assumption) | assumption)
      obtain ⟨ad295, A295_0, c295_0, e295, hx295_0, hl295_0, hi295_0⟩ := at_L4 HR2.out ((rd_T76 l0_1 x24_2).f1) p295 q295
      have hw295_0 := hx295_0
      obtain rfl : ad293 = ad295 := (by injection e295)
      replace hx295_0 := (HB.out.cell (World.block_lt_of_cell? w _ hx295_0)).trans hx295_0
      have HR295_0 := Aside0.mk hi295_0
      have HC295_0 := Aside0.mk hl295_0
      clear hi295_0 hl295_0
      replace p295 := eq_true p295
      replace q295 := eq_true q295
      have p296 : 0 ≤ (a1 : Int) := of_decide_eq_true (by first | (with_reducible assumption) | assumption)
      have q296 : a1 < ((rd_L4 l2 ((rd_T76 l0_1 x24_2).f1)).length : Int) := of_decide_eq_true (by first | (with_reducible assumption) | assumption)
      obtain ⟨ad296, e296, hx296_0⟩ := Kd.at_int HR295_0.out a1 p296 q296
      have hw296_0 := hx296_0
      cases e296
      replace hx296_0 := (HB.out.cell (World.block_lt_of_cell? w _ hx296_0)).trans hx296_0
      replace p296 := eq_true p296
      replace q296 := eq_true q296
      have p297 : 0 ≤ (((rd_T76 l0_1 x24_2).f0) : Int) := of_decide_eq_true (by first | (with_reducible assumption) | assumption)
      have q297 : ((rd_T76 l0_1 x24_2).f0) < (l2.length : Int) := of_decide_eq_true (by first | (with_reducible assumption) | assumption)
      obtain ⟨ad297, A297_0, c297_0, e297, hx297_0, hl297_0, hi297_0⟩ := at_L4 HR2.out ((rd_T76 l0_1 x24_2).f0) p297 q297
      have hw297_0 := hx297_0
      obtain rfl : ad293 = ad297 := (by injection e297)
      replace hx297_0 := (HB.out.cell (World.block_lt_of_cell? w _ hx297_0)).trans hx297_0
      have HR297_0 := Aside0.mk hi297_0
      have HC297_0 := Aside0.mk hl297_0
      clear hi297_0 hl297_0
      replace p297 := eq_true p297
      replace q297 := eq_true q297
      have ea_ := Option.some.inj (hx293_0.symm.trans hx297_0)
      injection ea_ with ea_ en_ ec_
      subst ea_
      subst ec_
      clear en_
      have p298 : 0 ≤ (a1 : Int) := of_decide_eq_true (by first | (with_reducible assumption) | assumption)
      have q298 : a1 < ((rd_L4 l2 ((rd_T76 l0_1 x24_2).f0)).length : Int) := of_decide_eq_true (by first | (with_reducible assumption) | assumption)
      obtain ⟨ad298, e298, hx298_0⟩ := Kd.at_int HR297_0.out a1 p298 q298
      have hw298_0 := hx298_0
      cases e298
      replace hx298_0 := (HB.out.cell (World.block_lt_of_cell? w _ hx298_0)).trans hx298_0
      replace p298 := eq_true p298
      replace q298 := eq_true q298
      refine start_ (n := 31) (S := fun w' => w'.cell? ⟨gb292, 0, none⟩ = some (.int .i64 ((rd_T76 l0_1 x24_2).f0)) ∧ w'.cell? ⟨gb292, 1, none⟩ = some (.int .i64 ((rd_T76 l0_1 x24_2).f1)) ∧ w'.cell? ⟨gb292, 2, none⟩ = some (.int .i64 ((rd_T76 l0_1 x24_2).f2)) ∧ w'.cell? (ad293.add (((rd_T76 l0_1 x24_2).f0)).toNat) = some (.slice (some ad294) (rd_L4 l2 ((rd_T76 l0_1 x24_2).f0)).length c293_0) ∧ w'.cell? (ad294.add (a1).toNat) = some (.int .i64 (rd (rd_L4 l2 ((rd_T76 l0_1 x24_2).f0)) a1)) ∧ w'.cell? (ad293.add (((rd_T76 l0_1 x24_2).f1)).toNat) = some (.slice (some ad296) (rd_L4 l2 ((rd_T76 l0_1 x24_2).f1)).length c295_0) ∧ w'.cell? (ad296.add (a1).toNat) = some (.int .i64 (rd (rd_L4 l2 ((rd_T76 l0_1 x24_2).f1)) a1)) ∧ w'.cell? (ad293.add (((rd_T76 l0_1 x24_2).f0)).toNat) = some (.slice (some ad294) (rd_L4 l2 ((rd_T76 l0_1 x24_2).f0)).length c293_0) ∧ w'.cell? (ad294.add (a1).toNat) = some (.int .i64 (rd (rd_L4 l2 ((rd_T76 l0_1 x24_2).f0)) a1))) (ds := []) ba9_0 (by kernel_rfl) rfl rfl ⟨(blk_cell BK292.out 0).trans rfl, (blk_cell BK292.out 1).trans rfl, (blk_cell BK292.out 2).trans rfl, (hc_ HB hw293_0), (hc_ HB hw294_0), (hc_ HB hw295_0), (hc_ HB hw296_0), (hc_ HB hw297_0), (hc_ HB hw298_0)⟩ (fun hHeld => ?_); refine with_tabW impl_Graph_steps.tab8 impl_Graph_steps.bits8 (fun HT_ HW_ => ?_)
      generalize w45.drew = w46 at HO_7 BK283 BK292 HB HR293_0 HR295_0 HR297_0 hx293_0 hx294_0 hx295_0 hx296_0 hx297_0 hx298_0 hHeld ⊢
      refine pz_ 0 28 ba9_1 HT_ ?_
      refine pz_ 1 29 ba9_2 HT_ ?_
      refine pz_ 5 33 ba9_3 HT_ ?_
      refine pt_ 2 30 ba9_4 HT_ HW_ hHeld ?_
      refine pz_ 3 31 ba9_5 HT_ ?_
      refine pt_ 4 32 ba9_6 HT_ HW_ hHeld ?_
      refine pz_ 6 34 ba9_7 HT_ ?_
      refine pt_ 7 35 ba9_8 HT_ HW_ hHeld ?_
      refine pz_ 8 36 ba9_9 HT_ ?_
      refine pz_ 9 37 ba9_10 HT_ ?_
      refine pz_ 10 38 ba9_11 HT_ ?_
      refine pz_ 12 40 ba9_12 HT_ ?_
      refine pz_ 13 41 ba9_13 HT_ ?_
      refine pz_ 17 45 ba9_14 HT_ ?_
      refine pz_ 21 49 ba9_15 HT_ ?_
      refine pz_ 22 50 ba9_16 HT_ ?_
      refine pz_ 26 54 ba9_17 HT_ ?_
      refine pt_ 11 39 ba9_18 HT_ HW_ hHeld ?_
      refine pt_ 14 42 ba9_19 HT_ HW_ hHeld ?_
      refine pz_ 15 43 ba9_20 HT_ ?_
      refine pt_ 16 44 ba9_21 HT_ HW_ hHeld ?_
      refine pz_ 18 46 ba9_22 HT_ ?_
      refine pt_ 19 47 ba9_23 HT_ HW_ hHeld ?_
      refine pz_ 20 48 ba9_24 HT_ ?_
      refine pt_ 23 51 ba9_25 HT_ HW_ hHeld ?_
      refine pz_ 24 52 ba9_26 HT_ ?_
      refine pt_ 25 53 ba9_27 HT_ HW_ hHeld ?_
      refine pz_ 27 55 ba9_28 HT_ ?_
      refine pt_ 28 56 ba9_29 HT_ HW_ hHeld ?_
      refine pz_ 29 57 ba9_30 HT_ ?_
      refine pz_ 30 58 ba9_31 HT_ ?_
      refine done_ (done_of HT_.out (by kernel_rfl)) ?_
      try go_wp2
      (try simp only [← hl7_2])
      go_roundg k2
      case measure => have := HK1.out; have := HK2.out; omega
      case rel => exact ⟨(x7_2), (wrap64 (x24_2 + 1)), (by first | rfl | (simp; done) | (simp [*]; done)), H', ⟨by have := HK1.out; have := HK2.out; omega⟩, ⟨by (try simp only [hl7_1]); (try simp only [hl7_2]); (with_reducible repeat (first | apply Kd.R_alloc | apply Kd.R_drewN | apply Kd.R_drew)); exact HO_7.out⟩, ⟨by (try simp only [hl7_1]); (try simp only [hl7_2]); (with_reducible repeat (first | refine blk_drewN ?_ _ | refine blk_drew ?_ | refine blk_alloc ?_ _)); exact BK283.out⟩, ⟨by repeat (first | (with_reducible first | exact HB.out | apply below_alloc | apply pw_below_drewN | apply below_drew1 | refine below_set ?_ GE283.out | refine below_set ?_ GE292.out) | exact HB.out)⟩⟩
     rw [if_pos c30] at H
     have c30b0 : ((wrap64 (((rd_T76 l0_1 x24_2).f2) + (rd (rd_L4 l2 ((rd_T76 l0_1 x24_2).f1)) a1))) == (rd (rd_L4 l2 ((rd_T76 l0_1 x24_2).f0)) a1)) = true := beq_iff_eq.mpr c30
     have c30b1 : ((wrap64 (((rd_T76 l0_1 x24_2).f2) + (rd (rd_L4 l2 ((rd_T76 l0_1 x24_2).f1)) a1))) != (rd (rd_L4 l2 ((rd_T76 l0_1 x24_2).f0)) a1)) = false := bne_eq_false_iff_eq.mpr c30
     clear c30
     by_cases c31 : ((rd_T76 l0_1 x24_2).f0) < (x7_2.length : Int)
     rotate_left
     ·rw [if_neg c31] at H
      exact absurd H (by simp)
     rw [if_pos c31] at H
     have c31b0 : decide (((rd_T76 l0_1 x24_2).f0) < (x7_2.length : Int)) = true := decide_eq_true c31
     clear c31
     by_cases c32 : ((rd_T76 l0_1 x24_2).f1) < (x7_2.length : Int)
     rotate_left
     ·rw [if_neg c32] at H
      exact absurd H (by simp)
     rw [if_pos c32] at H
     have c32b0 : decide (((rd_T76 l0_1 x24_2).f1) < (x7_2.length : Int)) = true := decide_eq_true c32
     clear c32
     obtain ⟨ji33, hji33⟩ : ∃ j_ : Int, (mn (rd x7_2 ((rd_T76 l0_1 x24_2).f0)) (wrap64 ((rd x7_2 ((rd_T76 l0_1 x24_2).f1)) + 1))) = j_ := ⟨_, rfl⟩
     first | rw [hji33] at H | simp only [hji33] at H
     have hji33_ : (if (wrap64 ((rd x7_2 ((rd_T76 l0_1 x24_2).f1)) + 1)) < (rd x7_2 ((rd_T76 l0_1 x24_2).f0)) then (wrap64 ((rd x7_2 ((rd_T76 l0_1 x24_2).f1)) + 1)) else (rd x7_2 ((rd_T76 l0_1 x24_2).f0))) = ji33 := hji33
     obtain ⟨y301, hy301⟩ : ∃ y_ : List Int, y_ = (x7_2.set (((rd_T76 l0_1 x24_2).f0) : Int).toNat (ji33)) := ⟨_, rfl⟩
     replace H : (impl_Graph_steps.l1 k2 a1 l2 y301 a0_0 x19_1 l0_1 (l0_1.length : Int) (wrap64 (x24_2 + 1)) a0_0 l0_1) = some r := by first | (rw [hy301]; with_reducible exact H) | (have H2_ := (Option.bind_some _ _).symm.trans H; rw [hy301]; with_reducible exact H2_) | (have H2_ := (Option.bind_some _ _).symm.trans H; with_reducible exact H2_) | with_reducible exact H | (rw [hy301]; exact H) | exact H
     have Ny301 := Aside0.mk hy301
     clear hy301
     have H' := Aside0.mk H
     clear H
     have p291 : 0 ≤ (x24_2 : Int) := of_decide_eq_true (by first | (with_reducible assumption) | assumption)
     have q291 : x24_2 < (l0_1.length : Int) := of_decide_eq_true (by first | (with_reducible assumption) | assumption)
     obtain ⟨ad291, e291, hx291_0, hx291_1, hx291_2⟩ := at_T76 HR0_1.out x24_2 p291 q291
     cases e291
     replace hx291_0 := (HB.out.cell (World.block_lt_of_cell? w _ hx291_0)).trans hx291_0
     replace hx291_1 := (HB.out.cell (World.block_lt_of_cell? w _ hx291_1)).trans hx291_1
     replace hx291_2 := (HB.out.cell (World.block_lt_of_cell? w _ hx291_2)).trans hx291_2
     replace p291 := eq_true p291
     replace q291 := eq_true q291
     try go_wp2_with (first | ((with_reducible refine gate_dst (N := 9) rfl ?_); refine box_event ?hg (N := 9) ?hd (cs := #[.int .i64 0, .int .i64 0, .int .i64 0]) (t := 76) ?hr ?_; (case hd => rfl); (case hg => rfl); (case hr => first | (go_simp; done) | (go_simp; rfl)); intro gb292 hg w35 hbox hb; have BK292 := Aside0.mk hbox; have GW292 := ge_ HB hg; have GE292 := ge_ HB hg; have NB283_292 := nl_ BK283 hg; have NB292_283 := ng_ BK283 hg; replace HO_7 := rb_ HO_7 hb; replace HB := Aside0.mk (bt_ HB hb); replace BK283 := Aside0.mk (bb_ BK283 hb); clear hb hbox hg; have hnb36 := NB292_283.out; have hnc36 := NB283_292.out; have hcz37_0 := cz_ BK292 0 (.int .i64 0); have hcz37_1 := cz_ BK292 1 (.int .i64 0); have hcz37_2 := cz_ BK292 2 (.int .i64 0); have hfz37_0 := blk_frozen BK292.out 0; have hfz37_1 := blk_frozen BK292.out 1; have hfz37_2 := blk_frozen BK292.out 2))
     have n0_ : Aside0 (Kd.R (Kd.int .i64) 3 (((w35.setCell ⟨gb292, 0, none⟩ (.int .i64 ((rd_T76 l0_1 x24_2).f0))).setCell ⟨gb292, 1, none⟩ (.int .i64 ((rd_T76 l0_1 x24_2).f1))).setCell ⟨gb292, 2, none⟩ (.int .i64 ((rd_T76 l0_1 x24_2).f2))) w.heap.size (fun _ => True) (.slice (some ⟨go7, 0, none⟩) x7_2.length co7) x7_2) := ⟨by (with_reducible repeat (first | apply Kd.R_alloc | apply Kd.R_drewN | apply Kd.R_drew)); exact Kd.R_mono (Kd.R_far (p := ⟨gb292, 2, none⟩) (Kd.R_far (p := ⟨gb292, 1, none⟩) (Kd.R_far (p := ⟨gb292, 0, none⟩) (Kd.R_types HO_7.out BK292.out (by decide)) (fun _ hk => hk.2) (.int .i64 ((rd_T76 l0_1 x24_2).f0))) (fun _ hk => hk.2) (.int .i64 ((rd_T76 l0_1 x24_2).f1))) (fun _ hk => hk.2) (.int .i64 ((rd_T76 l0_1 x24_2).f2))) (fun _ hk => trivial)⟩
     have n1_ : Aside0 ((((w35.setCell ⟨gb292, 0, none⟩ (.int .i64 ((rd_T76 l0_1 x24_2).f0))).setCell ⟨gb292, 1, none⟩ (.int .i64 ((rd_T76 l0_1 x24_2).f1))).setCell ⟨gb292, 2, none⟩ (.int .i64 ((rd_T76 l0_1 x24_2).f2))).heap[gb283]? = some (.cells #[.int .i64 a0_0, .slice (some ad291) l0_1.length c0_1] 30 (0, 0))) := ⟨by (with_reducible repeat (first | refine blk_drewN ?_ _ | refine blk_drew ?_ | refine blk_alloc ?_ _)); refine blk_far ?_ NB283_292.out _; (with_reducible repeat (first | refine blk_drewN ?_ _ | refine blk_drew ?_ | refine blk_alloc ?_ _)); refine blk_far ?_ NB283_292.out _; (with_reducible repeat (first | refine blk_drewN ?_ _ | refine blk_drew ?_ | refine blk_alloc ?_ _)); refine blk_far ?_ NB283_292.out _; (with_reducible repeat (first | refine blk_drewN ?_ _ | refine blk_drew ?_ | refine blk_alloc ?_ _)); exact BK283.out⟩
     have n2_ : Aside0 ((((w35.setCell ⟨gb292, 0, none⟩ (.int .i64 ((rd_T76 l0_1 x24_2).f0))).setCell ⟨gb292, 1, none⟩ (.int .i64 ((rd_T76 l0_1 x24_2).f1))).setCell ⟨gb292, 2, none⟩ (.int .i64 ((rd_T76 l0_1 x24_2).f2))).heap[gb292]? = some (.cells #[.int .i64 ((rd_T76 l0_1 x24_2).f0), .int .i64 ((rd_T76 l0_1 x24_2).f1), .int .i64 ((rd_T76 l0_1 x24_2).f2)] 76 (0, 0))) := ⟨by (with_reducible repeat (first | refine blk_drewN ?_ _ | refine blk_drew ?_ | refine blk_alloc ?_ _)); refine blk_put (cs := #[.int .i64 ((rd_T76 l0_1 x24_2).f0), .int .i64 ((rd_T76 l0_1 x24_2).f1), .int .i64 0]) ?_ 2 _ rfl; (with_reducible repeat (first | refine blk_drewN ?_ _ | refine blk_drew ?_ | refine blk_alloc ?_ _)); refine blk_put (cs := #[.int .i64 ((rd_T76 l0_1 x24_2).f0), .int .i64 0, .int .i64 0]) ?_ 1 _ rfl; (with_reducible repeat (first | refine blk_drewN ?_ _ | refine blk_drew ?_ | refine blk_alloc ?_ _)); refine blk_put (cs := #[.int .i64 0, .int .i64 0, .int .i64 0]) ?_ 0 _ rfl; (with_reducible repeat (first | refine blk_drewN ?_ _ | refine blk_drew ?_ | refine blk_alloc ?_ _)); exact BK292.out⟩
     have n3_ : Aside0 (Below w.heap.size w (((w35.setCell ⟨gb292, 0, none⟩ (.int .i64 ((rd_T76 l0_1 x24_2).f0))).setCell ⟨gb292, 1, none⟩ (.int .i64 ((rd_T76 l0_1 x24_2).f1))).setCell ⟨gb292, 2, none⟩ (.int .i64 ((rd_T76 l0_1 x24_2).f2)))) := ⟨by repeat (first | (with_reducible first | exact HB.out | apply below_alloc | apply pw_below_drewN | apply below_drew1 | refine below_set ?_ GE283.out | refine below_set ?_ GE292.out) | exact HB.out)⟩
     (try clear HO_7)
     (try clear BK283)
     (try clear BK292)
     (try clear HB)
     generalize (((w35.setCell ⟨gb292, 0, none⟩ (.int .i64 ((rd_T76 l0_1 x24_2).f0))).setCell ⟨gb292, 1, none⟩ (.int .i64 ((rd_T76 l0_1 x24_2).f1))).setCell ⟨gb292, 2, none⟩ (.int .i64 ((rd_T76 l0_1 x24_2).f2))) = w38 at n0_ n1_ n2_ n3_ ⊢
     have HO_7 := n0_
     have BK283 := n1_
     have BK292 := n2_
     have HB := n3_
     clear n0_ n1_ n2_ n3_
     replace HO_7 := Aside0.mk (Kd.R_drew HO_7.out)
     replace BK283 := Aside0.mk (blk_drew BK283.out)
     replace BK292 := Aside0.mk (blk_drew BK292.out)
     replace HB := Aside0.mk (below_drew1 HB.out)
     have p293 : 0 ≤ (((rd_T76 l0_1 x24_2).f0) : Int) := of_decide_eq_true (by first | (with_reducible assumption) | assumption)
     have q293 : ((rd_T76 l0_1 x24_2).f0) < (l2.length : Int) := of_decide_eq_true (by first | (with_reducible assumption) | assumption)
     obtain ⟨ad293, A293_0, c293_0, e293, hx293_0, hl293_0, hi293_0⟩ := at_L4 HR2.out ((rd_T76 l0_1 x24_2).f0) p293 q293
     have hw293_0 := hx293_0
     cases e293
     replace hx293_0 := (HB.out.cell (World.block_lt_of_cell? w _ hx293_0)).trans hx293_0
     have HR293_0 := Aside0.mk hi293_0
     have HC293_0 := Aside0.mk hl293_0
     clear hi293_0 hl293_0
     replace p293 := eq_true p293
     replace q293 := eq_true q293
     have p294 : 0 ≤ (a1 : Int) := of_decide_eq_true (by first | (with_reducible assumption) | assumption)
     have q294 : a1 < ((rd_L4 l2 ((rd_T76 l0_1 x24_2).f0)).length : Int) := of_decide_eq_true (by first | (with_reducible assumption) | assumption)
     obtain ⟨ad294, e294, hx294_0⟩ := Kd.at_int HR293_0.out a1 p294 q294
     have hw294_0 := hx294_0
     cases e294
     replace hx294_0 := (HB.out.cell (World.block_lt_of_cell? w _ hx294_0)).trans hx294_0
     replace p294 := eq_true p294
     replace q294 := eq_true q294
     have p295 : 0 ≤ (((rd_T76 l0_1 x24_2).f1) : Int) := of_decide_eq_true (by first | (with_reducible assumption) | assumption)
     have q295 : ((rd_T76 l0_1 x24_2).f1) < (l2.length : Int) := of_decide_eq_true (by first | (with_reducible assumption) | assumption)
     obtain ⟨ad295, A295_0, c295_0, e295, hx295_0, hl295_0, hi295_0⟩ := at_L4 HR2.out ((rd_T76 l0_1 x24_2).f1) p295 q295
     have hw295_0 := hx295_0
     obtain rfl : ad293 = ad295 := (by injection e295)
     replace hx295_0 := (HB.out.cell (World.block_lt_of_cell? w _ hx295_0)).trans hx295_0
     have HR295_0 := Aside0.mk hi295_0
     have HC295_0 := Aside0.mk hl295_0
     clear hi295_0 hl295_0
     replace p295 := eq_true p295
     replace q295 := eq_true q295
     have p296 : 0 ≤ (a1 : Int) := of_decide_eq_true (by first | (with_reducible assumption) | assumption)
     have q296 : a1 < ((rd_L4 l2 ((rd_T76 l0_1 x24_2).f1)).length : Int) := of_decide_eq_true (by first | (with_reducible assumption) | assumption)
     obtain ⟨ad296, e296, hx296_0⟩ := Kd.at_int HR295_0.out a1 p296 q296
     have hw296_0 := hx296_0
     cases e296
     replace hx296_0 := (HB.out.cell (World.block_lt_of_cell? w _ hx296_0)).trans hx296_0
     replace p296 := eq_true p296
     replace q296 := eq_true q296
     have p297 : 0 ≤ (((rd_T76 l0_1 x24_2).f0) : Int) := of_decide_eq_true (by first | (with_reducible assumption) | assumption)
     have q297 : ((rd_T76 l0_1 x24_2).f0) < (l2.length : Int) := of_decide_eq_true (by first | (with_reducible assumption) | assumption)
     obtain ⟨ad297, A297_0, c297_0, e297, hx297_0, hl297_0, hi297_0⟩ := at_L4 HR2.out ((rd_T76 l0_1 x24_2).f0) p297 q297
     have hw297_0 := hx297_0
     obtain rfl : ad293 = ad297 := (by injection e297)
     replace hx297_0 := (HB.out.cell (World.block_lt_of_cell? w _ hx297_0)).trans hx297_0
     have HR297_0 := Aside0.mk hi297_0
     have HC297_0 := Aside0.mk hl297_0
     clear hi297_0 hl297_0
     replace p297 := eq_true p297
     replace q297 := eq_true q297
     have ea_ := Option.some.inj (hx293_0.symm.trans hx297_0)
     injection ea_ with ea_ en_ ec_
     subst ea_
     subst ec_
     clear en_
     have p298 : 0 ≤ (a1 : Int) := of_decide_eq_true (by first | (with_reducible assumption) | assumption)
     have q298 : a1 < ((rd_L4 l2 ((rd_T76 l0_1 x24_2).f0)).length : Int) := of_decide_eq_true (by first | (with_reducible assumption) | assumption)
     obtain ⟨ad298, e298, hx298_0⟩ := Kd.at_int HR297_0.out a1 p298 q298
     have hw298_0 := hx298_0
     cases e298
     replace hx298_0 := (HB.out.cell (World.block_lt_of_cell? w _ hx298_0)).trans hx298_0
     replace p298 := eq_true p298
     replace q298 := eq_true q298
     refine start_ (n := 31) (S := fun w' => w'.cell? ⟨gb292, 0, none⟩ = some (.int .i64 ((rd_T76 l0_1 x24_2).f0)) ∧ w'.cell? ⟨gb292, 1, none⟩ = some (.int .i64 ((rd_T76 l0_1 x24_2).f1)) ∧ w'.cell? ⟨gb292, 2, none⟩ = some (.int .i64 ((rd_T76 l0_1 x24_2).f2)) ∧ w'.cell? (ad293.add (((rd_T76 l0_1 x24_2).f0)).toNat) = some (.slice (some ad294) (rd_L4 l2 ((rd_T76 l0_1 x24_2).f0)).length c293_0) ∧ w'.cell? (ad294.add (a1).toNat) = some (.int .i64 (rd (rd_L4 l2 ((rd_T76 l0_1 x24_2).f0)) a1)) ∧ w'.cell? (ad293.add (((rd_T76 l0_1 x24_2).f1)).toNat) = some (.slice (some ad296) (rd_L4 l2 ((rd_T76 l0_1 x24_2).f1)).length c295_0) ∧ w'.cell? (ad296.add (a1).toNat) = some (.int .i64 (rd (rd_L4 l2 ((rd_T76 l0_1 x24_2).f1)) a1)) ∧ w'.cell? (ad293.add (((rd_T76 l0_1 x24_2).f0)).toNat) = some (.slice (some ad294) (rd_L4 l2 ((rd_T76 l0_1 x24_2).f0)).length c293_0) ∧ w'.cell? (ad294.add (a1).toNat) = some (.int .i64 (rd (rd_L4 l2 ((rd_T76 l0_1 x24_2).f0)) a1))) (ds := []) ba9_0 (by kernel_rfl) rfl rfl ⟨(blk_cell BK292.out 0).trans rfl, (blk_cell BK292.out 1).trans rfl, (blk_cell BK292.out 2).trans rfl, (hc_ HB hw293_0), (hc_ HB hw294_0), (hc_ HB hw295_0), (hc_ HB hw296_0), (hc_ HB hw297_0), (hc_ HB hw298_0)⟩ (fun hHeld => ?_); refine with_tabW impl_Graph_steps.tab8 impl_Graph_steps.bits8 (fun HT_ HW_ => ?_)
     generalize w38.drew = w39 at HO_7 BK283 BK292 HB HR293_0 HR295_0 HR297_0 hx293_0 hx294_0 hx295_0 hx296_0 hx297_0 hx298_0 hHeld ⊢
     refine pz_ 0 28 ba9_1 HT_ ?_
     refine pz_ 1 29 ba9_2 HT_ ?_
     refine pz_ 5 33 ba9_3 HT_ ?_
     refine pt_ 2 30 ba9_4 HT_ HW_ hHeld ?_
     refine pz_ 3 31 ba9_5 HT_ ?_
     refine pt_ 4 32 ba9_6 HT_ HW_ hHeld ?_
     refine pz_ 6 34 ba9_7 HT_ ?_
     refine pt_ 7 35 ba9_8 HT_ HW_ hHeld ?_
     refine pz_ 8 36 ba9_9 HT_ ?_
     refine pz_ 9 37 ba9_10 HT_ ?_
     refine pz_ 10 38 ba9_11 HT_ ?_
     refine pz_ 12 40 ba9_12 HT_ ?_
     refine pz_ 13 41 ba9_13 HT_ ?_
     refine pz_ 17 45 ba9_14 HT_ ?_
     refine pz_ 21 49 ba9_15 HT_ ?_
     refine pz_ 22 50 ba9_16 HT_ ?_
     refine pz_ 26 54 ba9_17 HT_ ?_
     refine pt_ 11 39 ba9_18 HT_ HW_ hHeld ?_
     refine pt_ 14 42 ba9_19 HT_ HW_ hHeld ?_
     refine pz_ 15 43 ba9_20 HT_ ?_
     refine pt_ 16 44 ba9_21 HT_ HW_ hHeld ?_
     refine pz_ 18 46 ba9_22 HT_ ?_
     refine pt_ 19 47 ba9_23 HT_ HW_ hHeld ?_
     refine pz_ 20 48 ba9_24 HT_ ?_
     refine pt_ 23 51 ba9_25 HT_ HW_ hHeld ?_
     refine pz_ 24 52 ba9_26 HT_ ?_
     refine pt_ 25 53 ba9_27 HT_ HW_ hHeld ?_
     refine pz_ 27 55 ba9_28 HT_ ?_
     refine pt_ 28 56 ba9_29 HT_ HW_ hHeld ?_
     refine pz_ 29 57 ba9_30 HT_ ?_
     refine pz_ 30 58 ba9_31 HT_ ?_
     refine done_ (done_of HT_.out (by kernel_rfl)) ?_
     try go_wp2
     replace HO_7 := Aside0.mk (Kd.R_drew HO_7.out)
     replace BK283 := Aside0.mk (blk_drew BK283.out)
     replace BK292 := Aside0.mk (blk_drew BK292.out)
     replace HB := Aside0.mk (below_drew1 HB.out)
     have p299 : 0 ≤ (((rd_T76 l0_1 x24_2).f0) : Int) := of_decide_eq_true (by first | (with_reducible assumption) | assumption)
     have q299 : ((rd_T76 l0_1 x24_2).f0) < (x7_2.length : Int) := of_decide_eq_true (by first | (with_reducible assumption) | assumption)
     obtain ⟨ad299, e299, hx299_0⟩ := Kd.at_int (Kd.R_reads' HO_7.out).2.2 ((rd_T76 l0_1 x24_2).f0) p299 q299
     obtain rfl : (⟨go7, 0, none⟩ : Addr) = ad299 := (by injection e299)
     (first | simp only [add_plain] at hx299_0 | simp only [add_at] at hx299_0 | simp only [Addr.add, Nat.zero_add] at hx299_0 | skip)
     replace p299 := eq_true p299
     replace q299 := eq_true q299
     have p300 : 0 ≤ (((rd_T76 l0_1 x24_2).f1) : Int) := of_decide_eq_true (by first | (with_reducible assumption) | assumption)
     have q300 : ((rd_T76 l0_1 x24_2).f1) < (x7_2.length : Int) := of_decide_eq_true (by first | (with_reducible assumption) | assumption)
     obtain ⟨ad300, e300, hx300_0⟩ := Kd.at_int (Kd.R_reads' HO_7.out).2.2 ((rd_T76 l0_1 x24_2).f1) p300 q300
     obtain rfl : (⟨go7, 0, none⟩ : Addr) = ad300 := (by injection e300)
     (first | simp only [add_plain] at hx300_0 | simp only [add_at] at hx300_0 | simp only [Addr.add, Nat.zero_add] at hx300_0 | skip)
     replace p300 := eq_true p300
     replace q300 := eq_true q300
     have p34 : 0 ≤ (((rd_T76 l0_1 x24_2).f0) : Int) := of_decide_eq_true (by first | (with_reducible assumption) | assumption)
     have q34 : (((rd_T76 l0_1 x24_2).f0) : Int) < ((x7_2.length : Int) : Int) := of_decide_eq_true (by first | (with_reducible assumption) | assumption)
     obtain ⟨hx34_0, hf34_0⟩ := Kd.R_celln 0 HO_7.out (((rd_T76 l0_1 x24_2).f0) : Int) p34 q34
     replace p34 := eq_true p34
     replace q34 := eq_true q34
     have HP41 := Kd.R_putn HO_7.out (((rd_T76 l0_1 x24_2).f0) : Int) ji33
     rw [← Ny301.out] at HP41
     have HQ41 := Aside0.mk HP41
     clear HP41
     refine start_ (n := 17) (S := fun w' => w'.cell? ⟨gb292, 0, none⟩ = some (.int .i64 ((rd_T76 l0_1 x24_2).f0)) ∧ w'.cell? ⟨gb292, 1, none⟩ = some (.int .i64 ((rd_T76 l0_1 x24_2).f1)) ∧ w'.cell? ⟨gb292, 2, none⟩ = some (.int .i64 ((rd_T76 l0_1 x24_2).f2)) ∧ w'.cell? ⟨go7, (((rd_T76 l0_1 x24_2).f0)).toNat, none⟩ = some (.int .i64 (rd x7_2 ((rd_T76 l0_1 x24_2).f0))) ∧ w'.cell? ⟨go7, (((rd_T76 l0_1 x24_2).f1)).toNat, none⟩ = some (.int .i64 (rd x7_2 ((rd_T76 l0_1 x24_2).f1)))) (ds := [16]) ba9_32 (by kernel_rfl) rfl rfl ⟨(blk_cell BK292.out 0).trans rfl, (blk_cell BK292.out 1).trans rfl, (blk_cell BK292.out 2).trans rfl, hx299_0, hx300_0⟩ (fun hHeld => ?_); refine with_tabW impl_Graph_steps.tab9 impl_Graph_steps.bits9 (fun HT_ HW_ => ?_)
     generalize w39.drew = w40 at HO_7 BK283 BK292 HB HQ41 hf34_0 hx299_0 hx300_0 hx34_0 hHeld ⊢
     refine pz_ 0 59 ba9_33 HT_ ?_
     refine pz_ 1 60 ba9_34 HT_ ?_
     refine pz_ 3 62 ba9_35 HT_ ?_
     refine pz_ 4 63 ba9_36 HT_ ?_
     refine pz_ 8 67 ba9_37 HT_ ?_
     refine pz_ 9 68 ba9_38 HT_ ?_
     refine pt_ 2 61 ba9_39 HT_ HW_ hHeld ?_
     refine pt_ 5 64 ba9_40 HT_ HW_ hHeld ?_
     refine pz_ 6 65 ba9_41 HT_ ?_
     refine pt_ 7 66 ba9_42 HT_ HW_ hHeld ?_
     refine pt_ 10 69 ba9_43 HT_ HW_ hHeld ?_
     refine pz_ 11 70 ba9_44 HT_ ?_
     refine pt_ 12 71 ba9_45 HT_ HW_ hHeld ?_
     refine pz_ 13 72 ba9_46 HT_ ?_
     refine pz_ 14 73 ba9_47 HT_ ?_
     refine pz_ 15 74 ba9_48 HT_ ?_
     refine last_ (i := 16) (N := none) ba9_49 rfl rfl (one_of HT_.out (by kernel_rfl)) (by decide) (fun K hK => ?_)
     refine skip_ (w1 := ?_) (by rfl) rfl ?_ ?_
     rotate_left; · go_simp; rfl
     refine hK.out _ _ ?_
     clear hK K
     refine done_ (done_of HT_.out (by kernel_rfl)) ?_
     try go_wp2
     (try simp only [← hl7_2])
     go_roundg k2
     case measure => have := HK1.out; have := HK2.out; omega
     case rel => exact ⟨(y301), (wrap64 (x24_2 + 1)), (by first | rfl | (simp; done) | (simp [*]; done)), H', ⟨by have := HK1.out; have := HK2.out; omega⟩, ⟨by (try simp only [hl7_1]); (try simp only [hl7_2]); (with_reducible repeat (first | apply Kd.R_alloc | apply Kd.R_drewN | apply Kd.R_drew)); exact HQ41.out⟩, ⟨by (try simp only [hl7_1]); (try simp only [hl7_2]); (with_reducible repeat (first | refine blk_drewN ?_ _ | refine blk_drew ?_ | refine blk_alloc ?_ _)); refine blk_far ?_ (by have h_ := Kd.R_ne HO_7.out BK283.out (by decide); intro e_; exact h_ (by rw [e_]; rfl)) _; (with_reducible repeat (first | refine blk_drewN ?_ _ | refine blk_drew ?_ | refine blk_alloc ?_ _)); exact BK283.out⟩, ⟨by repeat (first | (with_reducible first | exact HB.out | apply below_alloc | apply pw_below_drewN | apply below_drew1 | refine below_set ?_ GB7.out | refine below_set ?_ GE283.out | refine below_set ?_ GE292.out) | exact HB.out)⟩⟩

end Go.Proofs.Ythmahcohcphljaa.QFnExactTreeOf
