/- Contracts of functions that the law reaches: what each call returns and what it leaves in memory. Made by this session over the print of the kit. -/
import Derived.Test.YthmahcohcphljaaQFnHopsx0
import Derived.Test.YthmahcohcphljaaQFnHopsx3
namespace Go.Proofs.Ythmahcohcphljaa.QFnHops
open Go.RowKit Go.Proofs.YthmahcohcphljaaP.PrintWords Go.Proofs.YthmahcohcphljaaP.PrintLast Go.Proofs.YthmahcohcphljaaP.PrintMore
attribute [local go_sem] max2_int min2_int max_two min_two max_three min_three max_four min_four   -- for this text's walks alone
set_option linter.unusedVariables false
set_option linter.unusedSimpArgs false
abbrev tb4 : Bool := true
abbrev fb4 : Bool := false
def ba4_0 : Array Bool := #[fb4,fb4,fb4,fb4,fb4,fb4,fb4,fb4,fb4,fb4,fb4,fb4,fb4,fb4,fb4,fb4,fb4,fb4,fb4,fb4,fb4,fb4,fb4,fb4,fb4,fb4,fb4,fb4,fb4,fb4,fb4]
def ba4_1 : Array Bool := #[tb4,fb4,fb4,fb4,fb4,fb4,fb4,fb4,fb4,fb4,fb4,fb4,fb4,fb4,fb4,fb4,fb4,fb4,fb4,fb4,fb4,fb4,fb4,fb4,fb4,fb4,fb4,fb4,fb4,fb4,fb4]
def ba4_2 : Array Bool := #[tb4,tb4,fb4,fb4,fb4,fb4,fb4,fb4,fb4,fb4,fb4,fb4,fb4,fb4,fb4,fb4,fb4,fb4,fb4,fb4,fb4,fb4,fb4,fb4,fb4,fb4,fb4,fb4,fb4,fb4,fb4]
def ba4_3 : Array Bool := #[tb4,tb4,fb4,fb4,fb4,tb4,fb4,fb4,fb4,fb4,fb4,fb4,fb4,fb4,fb4,fb4,fb4,fb4,fb4,fb4,fb4,fb4,fb4,fb4,fb4,fb4,fb4,fb4,fb4,fb4,fb4]
def ba4_4 : Array Bool := #[tb4,tb4,tb4,fb4,fb4,tb4,fb4,fb4,fb4,fb4,fb4,fb4,fb4,fb4,fb4,fb4,fb4,fb4,fb4,fb4,fb4,fb4,fb4,fb4,fb4,fb4,fb4,fb4,fb4,fb4,fb4]
def ba4_5 : Array Bool := #[tb4,tb4,tb4,tb4,fb4,tb4,fb4,fb4,fb4,fb4,fb4,fb4,fb4,fb4,fb4,fb4,fb4,fb4,fb4,fb4,fb4,fb4,fb4,fb4,fb4,fb4,fb4,fb4,fb4,fb4,fb4]
def ba4_6 : Array Bool := #[tb4,tb4,tb4,tb4,tb4,tb4,fb4,fb4,fb4,fb4,fb4,fb4,fb4,fb4,fb4,fb4,fb4,fb4,fb4,fb4,fb4,fb4,fb4,fb4,fb4,fb4,fb4,fb4,fb4,fb4,fb4]
def ba4_7 : Array Bool := #[tb4,tb4,tb4,tb4,tb4,tb4,tb4,fb4,fb4,fb4,fb4,fb4,fb4,fb4,fb4,fb4,fb4,fb4,fb4,fb4,fb4,fb4,fb4,fb4,fb4,fb4,fb4,fb4,fb4,fb4,fb4]
def ba4_8 : Array Bool := #[tb4,tb4,tb4,tb4,tb4,tb4,tb4,tb4,fb4,fb4,fb4,fb4,fb4,fb4,fb4,fb4,fb4,fb4,fb4,fb4,fb4,fb4,fb4,fb4,fb4,fb4,fb4,fb4,fb4,fb4,fb4]
def ba4_9 : Array Bool := #[tb4,tb4,tb4,tb4,tb4,tb4,tb4,tb4,tb4,fb4,fb4,fb4,fb4,fb4,fb4,fb4,fb4,fb4,fb4,fb4,fb4,fb4,fb4,fb4,fb4,fb4,fb4,fb4,fb4,fb4,fb4]
def ba4_10 : Array Bool := #[tb4,tb4,tb4,tb4,tb4,tb4,tb4,tb4,tb4,tb4,fb4,fb4,fb4,fb4,fb4,fb4,fb4,fb4,fb4,fb4,fb4,fb4,fb4,fb4,fb4,fb4,fb4,fb4,fb4,fb4,fb4]
def ba4_11 : Array Bool := #[tb4,tb4,tb4,tb4,tb4,tb4,tb4,tb4,tb4,tb4,tb4,fb4,fb4,fb4,fb4,fb4,fb4,fb4,fb4,fb4,fb4,fb4,fb4,fb4,fb4,fb4,fb4,fb4,fb4,fb4,fb4]
def ba4_12 : Array Bool := #[tb4,tb4,tb4,tb4,tb4,tb4,tb4,tb4,tb4,tb4,tb4,fb4,tb4,fb4,fb4,fb4,fb4,fb4,fb4,fb4,fb4,fb4,fb4,fb4,fb4,fb4,fb4,fb4,fb4,fb4,fb4]
def ba4_13 : Array Bool := #[tb4,tb4,tb4,tb4,tb4,tb4,tb4,tb4,tb4,tb4,tb4,fb4,tb4,tb4,fb4,fb4,fb4,fb4,fb4,fb4,fb4,fb4,fb4,fb4,fb4,fb4,fb4,fb4,fb4,fb4,fb4]
def ba4_14 : Array Bool := #[tb4,tb4,tb4,tb4,tb4,tb4,tb4,tb4,tb4,tb4,tb4,fb4,tb4,tb4,fb4,fb4,fb4,tb4,fb4,fb4,fb4,fb4,fb4,fb4,fb4,fb4,fb4,fb4,fb4,fb4,fb4]
def ba4_15 : Array Bool := #[tb4,tb4,tb4,tb4,tb4,tb4,tb4,tb4,tb4,tb4,tb4,fb4,tb4,tb4,fb4,fb4,fb4,tb4,fb4,fb4,fb4,tb4,fb4,fb4,fb4,fb4,fb4,fb4,fb4,fb4,fb4]
def ba4_16 : Array Bool := #[tb4,tb4,tb4,tb4,tb4,tb4,tb4,tb4,tb4,tb4,tb4,fb4,tb4,tb4,fb4,fb4,fb4,tb4,fb4,fb4,fb4,tb4,tb4,fb4,fb4,fb4,fb4,fb4,fb4,fb4,fb4]
def ba4_17 : Array Bool := #[tb4,tb4,tb4,tb4,tb4,tb4,tb4,tb4,tb4,tb4,tb4,fb4,tb4,tb4,fb4,fb4,fb4,tb4,fb4,fb4,fb4,tb4,tb4,fb4,fb4,fb4,tb4,fb4,fb4,fb4,fb4]
def ba4_18 : Array Bool := #[tb4,tb4,tb4,tb4,tb4,tb4,tb4,tb4,tb4,tb4,tb4,tb4,tb4,tb4,fb4,fb4,fb4,tb4,fb4,fb4,fb4,tb4,tb4,fb4,fb4,fb4,tb4,fb4,fb4,fb4,fb4]
def ba4_19 : Array Bool := #[tb4,tb4,tb4,tb4,tb4,tb4,tb4,tb4,tb4,tb4,tb4,tb4,tb4,tb4,tb4,fb4,fb4,tb4,fb4,fb4,fb4,tb4,tb4,fb4,fb4,fb4,tb4,fb4,fb4,fb4,fb4]
def ba4_20 : Array Bool := #[tb4,tb4,tb4,tb4,tb4,tb4,tb4,tb4,tb4,tb4,tb4,tb4,tb4,tb4,tb4,tb4,fb4,tb4,fb4,fb4,fb4,tb4,tb4,fb4,fb4,fb4,tb4,fb4,fb4,fb4,fb4]
def ba4_21 : Array Bool := #[tb4,tb4,tb4,tb4,tb4,tb4,tb4,tb4,tb4,tb4,tb4,tb4,tb4,tb4,tb4,tb4,tb4,tb4,fb4,fb4,fb4,tb4,tb4,fb4,fb4,fb4,tb4,fb4,fb4,fb4,fb4]
def ba4_22 : Array Bool := #[tb4,tb4,tb4,tb4,tb4,tb4,tb4,tb4,tb4,tb4,tb4,tb4,tb4,tb4,tb4,tb4,tb4,tb4,tb4,fb4,fb4,tb4,tb4,fb4,fb4,fb4,tb4,fb4,fb4,fb4,fb4]
def ba4_23 : Array Bool := #[tb4,tb4,tb4,tb4,tb4,tb4,tb4,tb4,tb4,tb4,tb4,tb4,tb4,tb4,tb4,tb4,tb4,tb4,tb4,tb4,fb4,tb4,tb4,fb4,fb4,fb4,tb4,fb4,fb4,fb4,fb4]
def ba4_24 : Array Bool := #[tb4,tb4,tb4,tb4,tb4,tb4,tb4,tb4,tb4,tb4,tb4,tb4,tb4,tb4,tb4,tb4,tb4,tb4,tb4,tb4,tb4,tb4,tb4,fb4,fb4,fb4,tb4,fb4,fb4,fb4,fb4]
def ba4_25 : Array Bool := #[tb4,tb4,tb4,tb4,tb4,tb4,tb4,tb4,tb4,tb4,tb4,tb4,tb4,tb4,tb4,tb4,tb4,tb4,tb4,tb4,tb4,tb4,tb4,tb4,fb4,fb4,tb4,fb4,fb4,fb4,fb4]
def ba4_26 : Array Bool := #[tb4,tb4,tb4,tb4,tb4,tb4,tb4,tb4,tb4,tb4,tb4,tb4,tb4,tb4,tb4,tb4,tb4,tb4,tb4,tb4,tb4,tb4,tb4,tb4,tb4,fb4,tb4,fb4,fb4,fb4,fb4]
def ba4_27 : Array Bool := #[tb4,tb4,tb4,tb4,tb4,tb4,tb4,tb4,tb4,tb4,tb4,tb4,tb4,tb4,tb4,tb4,tb4,tb4,tb4,tb4,tb4,tb4,tb4,tb4,tb4,tb4,tb4,fb4,fb4,fb4,fb4]
def ba4_28 : Array Bool := #[tb4,tb4,tb4,tb4,tb4,tb4,tb4,tb4,tb4,tb4,tb4,tb4,tb4,tb4,tb4,tb4,tb4,tb4,tb4,tb4,tb4,tb4,tb4,tb4,tb4,tb4,tb4,tb4,fb4,fb4,fb4]
def ba4_29 : Array Bool := #[tb4,tb4,tb4,tb4,tb4,tb4,tb4,tb4,tb4,tb4,tb4,tb4,tb4,tb4,tb4,tb4,tb4,tb4,tb4,tb4,tb4,tb4,tb4,tb4,tb4,tb4,tb4,tb4,tb4,fb4,fb4]
def ba4_30 : Array Bool := #[tb4,tb4,tb4,tb4,tb4,tb4,tb4,tb4,tb4,tb4,tb4,tb4,tb4,tb4,tb4,tb4,tb4,tb4,tb4,tb4,tb4,tb4,tb4,tb4,tb4,tb4,tb4,tb4,tb4,tb4,fb4]
def ba4_31 : Array Bool := #[tb4,tb4,tb4,tb4,tb4,tb4,tb4,tb4,tb4,tb4,tb4,tb4,tb4,tb4,tb4,tb4,tb4,tb4,tb4,tb4,tb4,tb4,tb4,tb4,tb4,tb4,tb4,tb4,tb4,tb4,tb4]
def ba4_32 : Array Bool := #[fb4,fb4,fb4,fb4,fb4,fb4,fb4,fb4,fb4,fb4,fb4,fb4,fb4,fb4,fb4,fb4,fb4]
def ba4_33 : Array Bool := #[tb4,fb4,fb4,fb4,fb4,fb4,fb4,fb4,fb4,fb4,fb4,fb4,fb4,fb4,fb4,fb4,fb4]
def ba4_34 : Array Bool := #[tb4,tb4,fb4,fb4,fb4,fb4,fb4,fb4,fb4,fb4,fb4,fb4,fb4,fb4,fb4,fb4,fb4]
def ba4_35 : Array Bool := #[tb4,tb4,fb4,tb4,fb4,fb4,fb4,fb4,fb4,fb4,fb4,fb4,fb4,fb4,fb4,fb4,fb4]
def ba4_36 : Array Bool := #[tb4,tb4,fb4,tb4,tb4,fb4,fb4,fb4,fb4,fb4,fb4,fb4,fb4,fb4,fb4,fb4,fb4]
def ba4_37 : Array Bool := #[tb4,tb4,fb4,tb4,tb4,fb4,fb4,fb4,tb4,fb4,fb4,fb4,fb4,fb4,fb4,fb4,fb4]
def ba4_38 : Array Bool := #[tb4,tb4,fb4,tb4,tb4,fb4,fb4,fb4,tb4,tb4,fb4,fb4,fb4,fb4,fb4,fb4,fb4]
def ba4_39 : Array Bool := #[tb4,tb4,tb4,tb4,tb4,fb4,fb4,fb4,tb4,tb4,fb4,fb4,fb4,fb4,fb4,fb4,fb4]
def ba4_40 : Array Bool := #[tb4,tb4,tb4,tb4,tb4,tb4,fb4,fb4,tb4,tb4,fb4,fb4,fb4,fb4,fb4,fb4,fb4]
def ba4_41 : Array Bool := #[tb4,tb4,tb4,tb4,tb4,tb4,tb4,fb4,tb4,tb4,fb4,fb4,fb4,fb4,fb4,fb4,fb4]
def ba4_42 : Array Bool := #[tb4,tb4,tb4,tb4,tb4,tb4,tb4,tb4,tb4,tb4,fb4,fb4,fb4,fb4,fb4,fb4,fb4]
def ba4_43 : Array Bool := #[tb4,tb4,tb4,tb4,tb4,tb4,tb4,tb4,tb4,tb4,tb4,fb4,fb4,fb4,fb4,fb4,fb4]
def ba4_44 : Array Bool := #[tb4,tb4,tb4,tb4,tb4,tb4,tb4,tb4,tb4,tb4,tb4,tb4,fb4,fb4,fb4,fb4,fb4]
def ba4_45 : Array Bool := #[tb4,tb4,tb4,tb4,tb4,tb4,tb4,tb4,tb4,tb4,tb4,tb4,tb4,fb4,fb4,fb4,fb4]
def ba4_46 : Array Bool := #[tb4,tb4,tb4,tb4,tb4,tb4,tb4,tb4,tb4,tb4,tb4,tb4,tb4,tb4,fb4,fb4,fb4]
def ba4_47 : Array Bool := #[tb4,tb4,tb4,tb4,tb4,tb4,tb4,tb4,tb4,tb4,tb4,tb4,tb4,tb4,tb4,fb4,fb4]
def ba4_48 : Array Bool := #[tb4,tb4,tb4,tb4,tb4,tb4,tb4,tb4,tb4,tb4,tb4,tb4,tb4,tb4,tb4,tb4,fb4]
def ba4_49 : Array Bool := #[tb4,tb4,tb4,tb4,tb4,tb4,tb4,tb4,tb4,tb4,tb4,tb4,tb4,tb4,tb4,tb4,tb4]
def ba4_50 : Array Bool := #[tb4,tb4,tb4,tb4,tb4,tb4,tb4,tb4,tb4,tb4,tb4,tb4,fb4,fb4,fb4,fb4,fb4,fb4,fb4,fb4,fb4,fb4,fb4,fb4,fb4,fb4,fb4,fb4,fb4,fb4,fb4]
def ba4_51 : Array Bool := #[tb4,tb4,tb4,tb4,tb4,tb4,tb4,tb4,tb4,tb4,tb4,tb4,tb4,fb4,fb4,fb4,fb4,fb4,fb4,fb4,fb4,fb4,fb4,fb4,fb4,fb4,fb4,fb4,fb4,fb4,fb4]
def ba4_52 : Array Bool := #[tb4,tb4,tb4,tb4,tb4,tb4,tb4,tb4,tb4,tb4,tb4,tb4,tb4,tb4,fb4,fb4,fb4,fb4,fb4,fb4,fb4,fb4,fb4,fb4,fb4,fb4,fb4,fb4,fb4,fb4,fb4]
def ba4_53 : Array Bool := #[tb4,tb4,tb4,tb4,tb4,tb4,tb4,tb4,tb4,tb4,tb4,tb4,tb4,tb4,tb4,fb4,fb4,fb4,fb4,fb4,fb4,fb4,fb4,fb4,fb4,fb4,fb4,fb4,fb4,fb4,fb4]
def ba4_54 : Array Bool := #[tb4,tb4,tb4,tb4,tb4,tb4,tb4,tb4,tb4,tb4,tb4,tb4,tb4,tb4,tb4,tb4,fb4,fb4,fb4,fb4,fb4,fb4,fb4,fb4,fb4,fb4,fb4,fb4,fb4,fb4,fb4]
def ba4_55 : Array Bool := #[tb4,tb4,tb4,tb4,tb4,tb4,tb4,tb4,tb4,tb4,tb4,tb4,tb4,tb4,tb4,tb4,tb4,fb4,fb4,fb4,fb4,fb4,fb4,fb4,fb4,fb4,fb4,fb4,fb4,fb4,fb4]
def ba4_56 : Array Bool := #[tb4,tb4,tb4,tb4,tb4,tb4,tb4,tb4,tb4,tb4,tb4,tb4,tb4,tb4,tb4,tb4,tb4,tb4,fb4,fb4,fb4,fb4,fb4,fb4,fb4,fb4,fb4,fb4,fb4,fb4,fb4]
def ba4_57 : Array Bool := #[tb4,tb4,tb4,tb4,tb4,tb4,tb4,tb4,tb4,tb4,tb4,tb4,tb4,tb4,tb4,tb4,tb4,tb4,tb4,fb4,fb4,fb4,fb4,fb4,fb4,fb4,fb4,fb4,fb4,fb4,fb4]
def ba4_58 : Array Bool := #[tb4,tb4,tb4,tb4,tb4,tb4,tb4,tb4,tb4,tb4,tb4,tb4,tb4,tb4,tb4,tb4,tb4,tb4,tb4,tb4,fb4,fb4,fb4,fb4,fb4,fb4,fb4,fb4,fb4,fb4,fb4]
def ba4_59 : Array Bool := #[tb4,tb4,tb4,tb4,tb4,tb4,tb4,tb4,tb4,tb4,tb4,tb4,tb4,tb4,tb4,tb4,tb4,tb4,tb4,tb4,tb4,fb4,fb4,fb4,fb4,fb4,fb4,fb4,fb4,fb4,fb4]
def ba4_60 : Array Bool := #[tb4,tb4,tb4,tb4,tb4,tb4,tb4,tb4,tb4,tb4,tb4,tb4,tb4,tb4,tb4,tb4,tb4,tb4,tb4,tb4,tb4,tb4,fb4,fb4,fb4,fb4,fb4,fb4,fb4,fb4,fb4]
def ba4_61 : Array Bool := #[tb4,tb4,tb4,tb4,tb4,tb4,tb4,tb4,tb4,tb4,tb4,tb4,tb4,tb4,tb4,tb4,tb4,tb4,tb4,tb4,tb4,tb4,tb4,fb4,fb4,fb4,fb4,fb4,fb4,fb4,fb4]
def ba4_62 : Array Bool := #[tb4,tb4,tb4,tb4,tb4,tb4,tb4,tb4,tb4,tb4,tb4,tb4,tb4,tb4,tb4,tb4,tb4,tb4,tb4,tb4,tb4,tb4,tb4,tb4,fb4,fb4,fb4,fb4,fb4,fb4,fb4]
def ba4_63 : Array Bool := #[tb4,tb4,tb4,tb4,tb4,tb4,tb4,tb4,tb4,tb4,tb4,tb4,tb4,tb4,tb4,tb4,tb4,tb4,tb4,tb4,tb4,tb4,tb4,tb4,tb4,fb4,fb4,fb4,fb4,fb4,fb4]
def ba4_64 : Array Bool := #[tb4,tb4,tb4,tb4,tb4,tb4,tb4,tb4,tb4,tb4,tb4,tb4,tb4,tb4,tb4,tb4,tb4,tb4,tb4,tb4,tb4,tb4,tb4,tb4,tb4,tb4,fb4,fb4,fb4,fb4,fb4]

/-! ### impl_Graph_steps: function 77 -/
mutual
def impl_Graph_steps.l0 : Nat → Int → List (List Int) → List Int → Int → Int → Int → List (S76) → Option (List Int)
 | 0, _, _, _, _, _, _, _ => none
 | k + 1, x1, x2, x7, x18, x19, x141000, x141001 => if x19 < x18 then (impl_Graph_steps.l1 k x1 x2 x7 x18 x19 x141001 (x141001.length : Int) 0 x141000 x141001) else (some x7)
def impl_Graph_steps.l1 : Nat → Int → List (List Int) → List Int → Int → Int → List (S76) → Int → Int → Int → List (S76) → Option (List Int)
 | 0, _, _, _, _, _, _, _, _, _, _ => none
 | k + 1, x1, x2, x7, x18, x19, x22, x23, x24, x141000, x141001 => if x24 < x23 then (if 0 ≤ x24 then (if x24 < (x22.length : Int) then (if 0 ≤ ((rd_T76 x22 x24).f0) then (if ((rd_T76 x22 x24).f0) < (x2.length : Int) then (if 0 ≤ x1 then (if x1 < ((rd_L2 x2 ((rd_T76 x22 x24).f0)).length : Int) then (if (rd (rd_L2 x2 ((rd_T76 x22 x24).f0)) x1) < 1000000 then (if 0 ≤ ((rd_T76 x22 x24).f1) then (if ((rd_T76 x22 x24).f1) < (x2.length : Int) then (if x1 < ((rd_L2 x2 ((rd_T76 x22 x24).f1)).length : Int) then (if (wrap64 (((rd_T76 x22 x24).f2) + (rd (rd_L2 x2 ((rd_T76 x22 x24).f1)) x1))) = (rd (rd_L2 x2 ((rd_T76 x22 x24).f0)) x1) then (if ((rd_T76 x22 x24).f0) < (x7.length : Int) then (if ((rd_T76 x22 x24).f1) < (x7.length : Int) then (impl_Graph_steps.l1 k x1 x2 (x7.set (((rd_T76 x22 x24).f0) : Int).toNat (mn (rd x7 ((rd_T76 x22 x24).f0)) (wrap64 ((rd x7 ((rd_T76 x22 x24).f1)) + 1)))) x18 x19 x22 x23 (wrap64 (x24 + 1)) x141000 x141001) else (none)) else (none)) else (impl_Graph_steps.l1 k x1 x2 x7 x18 x19 x22 x23 (wrap64 (x24 + 1)) x141000 x141001)) else (none)) else (none)) else (none)) else (impl_Graph_steps.l1 k x1 x2 x7 x18 x19 x22 x23 (wrap64 (x24 + 1)) x141000 x141001)) else (none)) else (none)) else (none)) else (none)) else (none)) else (none)) else (impl_Graph_steps.l0 k x1 x2 x7 x18 (wrap64 (x19 + 1)) x141000 x141001)
end
def impl_Graph_steps.f (k : Nat) (a0_0 : Int) (l0_1 : List (S76)) (a1 : Int) (l2 : List (List Int)) : Option (List Int) := (slices_Repeat_int_int.f (([1000000] : List Int)) a0_0).bind fun t144 => (if 0 ≤ a1 then (if a1 < (t144.length : Int) then (impl_Graph_steps.l0 k a1 l2 (t144.set (a1 : Int).toNat 0) a0_0 0 a0_0 l0_1) else (none)) else (none))
theorem impl_Graph_steps.mono_l : ∀ k, (∀ y0 y1 y2 y3 y4 y5 y6, LeO (impl_Graph_steps.l0 k y0 y1 y2 y3 y4 y5 y6) (impl_Graph_steps.l0 (k + 1) y0 y1 y2 y3 y4 y5 y6)) ∧ (∀ y0 y1 y2 y3 y4 y5 y6 y7 y8 y9, LeO (impl_Graph_steps.l1 k y0 y1 y2 y3 y4 y5 y6 y7 y8 y9) (impl_Graph_steps.l1 (k + 1) y0 y1 y2 y3 y4 y5 y6 y7 y8 y9))
 | 0 => ⟨fun _ _ _ _ _ _ _ r h => by simp [impl_Graph_steps.l0] at h, fun _ _ _ _ _ _ _ _ _ _ r h => by simp [impl_Graph_steps.l1] at h⟩
 | k + 1 => by
  obtain ⟨ih0, ih1⟩ := impl_Graph_steps.mono_l k
  refine ⟨?_, ?_⟩
  ·intro y0 y1 y2 y3 y4 y5 y6
   unfold impl_Graph_steps.l0
   repeat' first
   | (with_reducible exact ih0 _ _ _ _ _ _ _)
   | (with_reducible exact ih1 _ _ _ _ _ _ _ _ _ _)
   | (with_reducible exact LeO.refl _)
   | (with_reducible exact LeO.none _)
   | (with_reducible refine LeO.ite ?_ ?_)
   | (with_reducible refine LeO.bind ?_ (fun _ => ?_))
   | exact ih0 _ _ _ _ _ _ _
   | exact ih1 _ _ _ _ _ _ _ _ _ _
   | exact LeO.none _
   | refine LeO.ite ?_ ?_
   | refine LeO.bind ?_ (fun _ => ?_)
  ·intro y0 y1 y2 y3 y4 y5 y6 y7 y8 y9
   unfold impl_Graph_steps.l1
   repeat' first
   | (with_reducible exact ih0 _ _ _ _ _ _ _)
   | (with_reducible exact ih1 _ _ _ _ _ _ _ _ _ _)
   | (with_reducible exact LeO.refl _)
   | (with_reducible exact LeO.none _)
   | (with_reducible refine LeO.ite ?_ ?_)
   | (with_reducible refine LeO.bind ?_ (fun _ => ?_))
   | exact ih0 _ _ _ _ _ _ _
   | exact ih1 _ _ _ _ _ _ _ _ _ _
   | exact LeO.none _
   | refine LeO.ite ?_ ?_
   | refine LeO.bind ?_ (fun _ => ?_)
theorem impl_Graph_steps.mono : ∀ a0 a1 a2 a3 k, LeO (impl_Graph_steps.f k a0 a1 a2 a3) (impl_Graph_steps.f (k + 1) a0 a1 a2 a3) := by
 intro a0 a1 a2 a3 k
 obtain ⟨ih0, ih1⟩ := impl_Graph_steps.mono_l k
 unfold impl_Graph_steps.f
 repeat' first
   | (with_reducible exact ih0 _ _ _ _ _ _ _)
   | (with_reducible exact ih1 _ _ _ _ _ _ _ _ _ _)
   | (with_reducible exact LeO.refl _)
   | (with_reducible exact LeO.none _)
   | (with_reducible refine LeO.ite ?_ ?_)
   | (with_reducible refine LeO.bind ?_ (fun _ => ?_))
   | exact ih0 _ _ _ _ _ _ _
   | exact ih1 _ _ _ _ _ _ _ _ _ _
   | exact LeO.none _
   | refine LeO.ite ?_ ?_
   | refine LeO.bind ?_ (fun _ => ?_)
def impl_Graph_steps.T8 : Bool × List (List Nat × List Nat) := (true, [([], []), ([], []), ([1], [1]), ([0, 2], [0, 2]), ([3], [3]), ([], []), ([4, 5], [4, 5]), ([6], [6]), ([7], [7]), ([8], [8]), ([9], [9]), ([10, 9], [9, 10]), ([9], [9]), ([9], [9]), ([13, 9], [9, 13]), ([12, 14, 9], [9, 12, 14]), ([15, 9], [9, 15]), ([9], [9]), ([16, 17, 9], [9, 16, 17]), ([18, 9], [9, 18]), ([11, 19, 9], [9, 11, 19]), ([9], [9]), ([9], [9]), ([22, 9], [9, 22]), ([21, 23, 9], [9, 21, 23]), ([24, 9], [9, 24]), ([9], [9]), ([25, 26, 9], [9, 25, 26]), ([27, 9], [9, 27]), ([20, 28, 9], [9, 20, 28]), ([9, 29], [9, 29])])
def impl_Graph_steps.B8 : List Nat := [0, 0, 2, 7, 15, 0, 63, 127, 255, 511, 1023, 2047, 1023, 1023, 9215, 29695, 62463, 1023, 259071, 521215, 1048575, 1023, 1023, 4195327, 14681087, 31458303, 1023, 132121599, 266339327, 536870911, 1073741823]
theorem impl_Graph_steps.tab8 : rtab .any (opsOf Try.f77 8) = impl_Graph_steps.T8 := by kernel_rfl
theorem impl_Graph_steps.bits8 : waitsOk impl_Graph_steps.T8.2 impl_Graph_steps.B8 = true := by kernel_rfl
def impl_Graph_steps.T9 : Bool × List (List Nat × List Nat) := (true, [([], []), ([], []), ([1], [1]), ([], []), ([], []), ([4], [4]), ([3, 5], [3, 5]), ([6], [6]), ([], []), ([], []), ([9], [9]), ([8, 10], [8, 10]), ([11], [11]), ([12], [12]), ([7, 13], [7, 13]), ([0, 2, 0, 1, 2, 3, 4, 5, 6, 7, 8, 9, 10, 11, 12, 13, 14], [0, 2]), ([15, 14, 0, 1, 2, 3, 4, 5, 6, 7, 8, 9, 10, 11, 12, 13, 14], [14, 15])])
def impl_Graph_steps.B9 : List Nat := [0, 0, 2, 0, 0, 16, 56, 120, 0, 0, 512, 1792, 3840, 7936, 16376, 32767, 65535]
theorem impl_Graph_steps.tab9 : rtab .any (opsOf Try.f77 9) = impl_Graph_steps.T9 := by kernel_rfl
theorem impl_Graph_steps.bits9 : waitsOk impl_Graph_steps.T9.2 impl_Graph_steps.B9 = true := by kernel_rfl
set_option maxHeartbeats 8000000 in
set_option maxRecDepth 100000 in
theorem impl_Graph_steps.calls (k : Nat) (a0_0 : Int) (A0_1 : Option Addr) (c0_1 : Nat) (l0_1 : List (S76)) (a1 : Int) (A2 : Option Addr) (c2 : Nat) (l2 : List (List Int)) (r : List Int) (w : World) (hr0_1 : Kd.C k76 w A0_1 l0_1.length l0_1) (hc0_1 : l0_1.length ≤ c0_1) (hr2 : Kd.C (Kd.slice 3 (Kd.int .i64)) w A2 l2.length l2) (hc2 : l2.length ≤ c2) (h : impl_Graph_steps.f k a0_0 l0_1 a1 l2 = some r) :
  Calls Try.prog 77 #[.agg #[.int .i64 a0_0, .slice A0_1 l0_1.length c0_1], .int .i64 a1, .slice A2 l2.length c2] w fun e w' => ∃ v0_ : Value, e = .returned (v0_) ∧ Kd.R (Kd.int .i64) 3 w' w.heap.size (fun _ => True) v0_ r ∧ Below w.heap.size w w' := by
 have hu30 := Try.underlying30
 have hu76 := Try.underlying76
 have HR0_1 := Aside0.mk hr0_1
 have HC0_1 := Aside0.mk hc0_1
 clear hr0_1 hc0_1
 have HR2 := Aside0.mk hr2
 have HC2 := Aside0.mk hc2
 clear hr2 hc2
 have HB := Aside0.mk (Below.refl w.heap.size w)
 have H : ((slices_Repeat_int_int.f (([1000000] : List Int)) a0_0).bind fun t144 => (if 0 ≤ a1 then (if a1 < (t144.length : Int) then (impl_Graph_steps.l0 k a1 l2 (t144.set (a1 : Int).toNat 0) a0_0 0 a0_0 l0_1) else (none)) else (none))) = some r := h
 clear h
 obtain ⟨y141, hy141⟩ : ∃ y_ : List Int, y_ = (([1000000] : List Int)) := ⟨_, rfl⟩
 replace H : ((slices_Repeat_int_int.f y141 a0_0).bind fun t144 => (if 0 ≤ a1 then (if a1 < (t144.length : Int) then (impl_Graph_steps.l0 k a1 l2 (t144.set (a1 : Int).toNat 0) a0_0 0 a0_0 l0_1) else (none)) else (none))) = some r := by first | (rw [hy141]; with_reducible exact H) | (have H2_ := (Option.bind_some _ _).symm.trans H; rw [hy141]; with_reducible exact H2_) | (have H2_ := (Option.bind_some _ _).symm.trans H; with_reducible exact H2_) | with_reducible exact H | (rw [hy141]; exact H) | exact H
 have Ny141 := Aside0.mk hy141
 clear hy141
 replace H := Option.bind_eq_some_iff.mp H
 obtain ⟨t144, A40, H⟩ := H
 have A4 := Aside0.mk A40
 clear A40
 by_cases c5 : 0 ≤ a1
 rotate_left
 ·rw [if_neg c5] at H
  exact absurd H (by simp)
 rw [if_pos c5] at H
 have c5b0 : decide (0 ≤ a1) = true := decide_eq_true c5
 clear c5
 by_cases c6 : a1 < (t144.length : Int)
 rotate_left
 ·rw [if_neg c6] at H
  exact absurd H (by simp)
 rw [if_pos c6] at H
 have c6b0 : decide (a1 < (t144.length : Int)) = true := decide_eq_true c6
 clear c6
 obtain ⟨y147, hy147⟩ : ∃ y_ : List Int, y_ = (t144.set (a1 : Int).toNat 0) := ⟨_, rfl⟩
 replace H : (impl_Graph_steps.l0 k a1 l2 y147 a0_0 0 a0_0 l0_1) = some r := by first | (rw [hy147]; with_reducible exact H) | (have H2_ := (Option.bind_some _ _).symm.trans H; rw [hy147]; with_reducible exact H2_) | (have H2_ := (Option.bind_some _ _).symm.trans H; with_reducible exact H2_) | with_reducible exact H | (rw [hy147]; exact H) | exact H
 have Ny147 := Aside0.mk hy147
 clear hy147
 have H' := Aside0.mk H
 clear H
 go_enter Try.func77, Try.ntmps77
 go_wp2_with (first | ((with_reducible refine gate_dst (N := 3) rfl ?_); refine box_event ?hg (N := 3) ?hd (cs := #[.int .i64 a0_0, .slice A0_1 l0_1.length c0_1]) (t := 30) ?hr ?_; (case hd => rfl); (case hg => rfl); (case hr => first | (go_simp; done) | (go_simp; rfl)); intro gb140 hg w8 hbox hb; have BK140 := Aside0.mk hbox; have GW140 := ge_ HB hg; have GE140 := ge_ HB hg; replace HB := at_ HB hb; clear hb hbox hg) | ((with_reducible refine gate_dst (N := 10) rfl ?_); refine Kd.R_lit (Kd.int .i64) _ 3 ?hg (N := 10) ?hd (xs := ([1000000] : List Int)) (inner := [.int .i64 1000000]) (ok := fun _ => True) (okp := fun _ => True) ?hr ?hp (fun _ hk => hk) trivial (Below.refl _ _) (Nat.le_refl _) (by simp) ?_; (case hd => rfl); (case hg => rfl); (case hr => first | (go_simp; done) | (go_simp; rfl)); (case hp => exact (Reps.one (show Kd.M (Kd.int .i64) _ _ _ 1000000 [.int .i64 1000000] from rfl) (Reps.none _ _))); intro v142 w9 ho10 hb hg_ hnew_; clear hg_ hnew_; (first | rw [← Ny141.out] at ho10 | (simp only [Int.reduceToNat] at ho10; rw [← Ny141.out] at ho10)); have HO143 := Aside0.mk (Kd.R_lower ho10 (bz_ HB)); replace BK140 := ab_ BK140 hb; replace HB := at_ HB hb; clear hb ho10; have hcz11_0 := cz_ BK140 0 (.int .i64 a0_0); have hcz11_1 := cz_ BK140 1 (.slice A0_1 l0_1.length c0_1); have hfz11_0 := blk_frozen BK140.out 0; have hfz11_1 := blk_frozen BK140.out 1; obtain ⟨Ao12, co12, eo12⟩ := Kd.R_slice HO143.out; subst eo12) | ((with_reducible refine gate_callee (f := 87) rfl ?_); refine gl_ (some 13) Try.func87 #[.slice Ao12 y141.length co12, .int .i64 a0_0] ?_; (with_reducible refine (slices_Repeat_int_int.calls _ _ y141 a0_0 t144 _ ?side1 ?side2 A4.out).mono ?_); (case side1 => exact rc_ HO143); (case side2 => exact (Kd.R_reads' HO143.out).2.1); rintro e w13 ⟨v145, rfl, ho0, hb⟩; refine ⟨_, rfl, ?_⟩; have HO146 := Aside0.mk (Kd.R_lower (Kd.R_new' ho0 (Kd.R_lt (hd_ HO143))) (bz_ HB)); replace HO143 := Aside0.mk (Kd.R_elder' (hd_ HO143) (Kd.R_base ho0) hb); replace BK140 := ab_ BK140 hb; replace HB := at_ HB hb; (try clear hb); (try clear hb2); (try clear hk); (try clear hi); (try clear ho0); have p7 : 0 ≤ (a1 : Int) := of_decide_eq_true (by first | (with_reducible assumption) | assumption); have q7 : (a1 : Int) < ((t144.length : Int) : Int) := of_decide_eq_true (by first | (with_reducible assumption) | assumption); obtain ⟨go7, co7, eo7, gb7, gl7, cl7, HG7⟩ := Kd.R_form HO146.out (by omega); (first | cases eo7 | (injection eo7 with ea_ en_ ec_; (first | subst ea_ | (injection ea_ with ea_; subst ea_)); subst ec_; clear en_)); have GB7 := Aside0.mk gb7; have GG7 := Aside0.mk HG7; clear gb7 gl7 HG7; obtain ⟨hx7_0, hf7_0⟩ := Kd.R_celln 0 HO146.out (a1 : Int) p7 q7; replace p7 := eq_true p7; replace q7 := eq_true q7; have n_ := Aside0.mk (Kd.R_mono (ok' := (fun k_ => some k_ ≠ (.slice Ao12 y141.length co12 : Value).ownBlock)) HO146.out (fun k_ hk => hk.2)); clear HO146; have HO146 := n_; clear n_; obtain ⟨hy14_, hz14_⟩ := Kd.R_celln 0 HO146.out (a1 : Int) (of_decide_eq_true (by first | (with_reducible assumption) | assumption)) (of_decide_eq_true (by first | (with_reducible assumption) | assumption)); have HP14 := Kd.R_putg HO146.out (a1 : Int) 0) | ((with_reducible refine gate_store (t := 3) (p := 16) rfl ?_); refine store_event (t := 3) (p := 16) (v := ?vo_w15) (w1 := (w13.setCell ⟨go7, (a1 : Int).toNat, none⟩ (.int .i64 0))) ?hg ?ho ?hn ?hr ?_; (case ho => rfl); (case hg => rfl); (case hn => rfl); (case hr => first | (go_simp; done) | (go_simp; rfl)); intro w15 hw; have hg : w13.grownBy w15 (some go7) := (by rw [hw]; exact HP14.2); have hp_ : Kd.R (Kd.int .i64) 3 w15 w.heap.size (fun k_ => some k_ ≠ (.slice Ao12 y141.length co12 : Value).ownBlock) (.slice (some ⟨go7, 0, none⟩) t144.length co7) y147 := (by rw [hw, Ny147.out]; exact HP14.1); clear HP14; replace BK140 := Aside0.mk (blk_grown (g := gb140) (o := .cells #[.int .i64 a0_0, .slice A0_1 l0_1.length c0_1] 30 (0, 0)) (bx_ BK140) hg (Kd.R_ne HO146.out BK140.out (by decide))); replace HO143 := Aside0.mk (Kd.R_after (v := (.slice (some ⟨go7, 0, none⟩) t144.length co7)) (v1 := (.slice (some ⟨go7, 0, none⟩) t144.length co7)) (ok := (fun _ => True)) (hd_ HO143) hg (.inl rfl)); replace HO146 := Aside0.mk (hp_); replace HB := Aside0.mk ((by rw [hw]; exact below_set (HB.out) GB7.out : Below w.heap.size w w15)); clear hg hw hp_; have hcz16_0 := cz_ BK140 0 (.int .i64 a0_0); have hcz16_1 := cz_ BK140 1 (.slice A0_1 l0_1.length c0_1); have hfz16_0 := blk_frozen BK140.out 0; have hfz16_1 := blk_frozen BK140.out 1))
 (try simp only [Act.put, List.setIfInBounds_toArray, List.set_cons_zero, List.set_cons_succ])
 go_loopg [19] k (fun kq v19 w' => ∃ (x7_1 : List Int) (x19_1 : Int), v19 = .int .i64 x19_1 ∧ Aside0 (impl_Graph_steps.l0 kq a1 l2 x7_1 a0_0 x19_1 a0_0 l0_1 = some r) ∧ Aside0 (kq ≤ k) ∧ Aside0 (Kd.R (Kd.int .i64) 3 w' w.heap.size (fun _ => True) (.slice (some ⟨go7, 0, none⟩) t144.length co7) x7_1) ∧ Aside0 (w'.heap[gb140]? = some (.cells #[.int .i64 a0_0, (.slice A0_1 l0_1.length c0_1)] 30 (0, 0))) ∧ Aside0 (Below w.heap.size w w'))
 case atStart => exact ⟨(y147), (0), (by first | rfl | (simp; done) | (simp [*]; done)), H', ⟨Nat.le_refl _⟩, ⟨by (with_reducible repeat (first | apply Kd.R_alloc | apply Kd.R_drewN | apply Kd.R_drew)); exact Kd.R_mono HO146.out (fun _ hk => trivial)⟩, ⟨bx_ BK140⟩, ⟨bw_⟩⟩
 case round =>
  clear H'
  try clear c2
  try clear p2
  try clear c5
  try clear c5b0
  try clear c6
  try clear c6b0
  try clear c7
  try clear p7
  try clear q7
  try clear hx7
  try clear hf7
  try clear c8
  try clear hcz11_0
  try clear hcz11_1
  try clear hcz16_0
  try clear hcz16_1
  try clear hfz11_0
  try clear hfz11_1
  try clear hfz16_0
  try clear hfz16_1
  try clear hx7_0
  try clear p7
  try clear q7
  obtain ⟨x7_1, x19_1, rfl, HA, HK1, HO_7, BK140, HB⟩ := hrel
  have hl7_1 := (Kd.R_reads' HO_7.out).1
  rw [hl7_1] at HO_7
  (try simp only [hl7_1])
  (try simp only [hl7_1] at BK140)
  cases gk with
  | zero => exact absurd HA.out (by simp [impl_Graph_steps.l0])
  | succ k1 =>
   have H := HA.out
   clear HA
   simp only [impl_Graph_steps.l0] at H
   by_cases c17 : x19_1 < a0_0
   rotate_left
   ·rw [if_neg c17] at H
    have c17b0 : decide (x19_1 < a0_0) = false := decide_eq_false c17
    clear c17
    obtain rfl := Option.some.inj H
    go_wp2
    go_ret
    exact ⟨_, by first | rfl | (simp [errW_none, errW_some] <;> rfl) | (simp [*, errW_none, errW_some] <;> rfl), by (with_reducible repeat (first | apply Kd.R_alloc | apply Kd.R_drewN | apply Kd.R_drew)); exact HO_7.out, bw_⟩
   rw [if_pos c17] at H
   have c17b0 : decide (x19_1 < a0_0) = true := decide_eq_true c17
   clear c17
   have H' := Aside0.mk H
   clear H
   have hcz18_0 := cz_ BK140 0 (.int .i64 a0_0)
   have hcz18_1 := cz_ BK140 1 (.slice A0_1 l0_1.length c0_1)
   have hfz18_0 := blk_frozen BK140.out 0
   have hfz18_1 := blk_frozen BK140.out 1
   go_wp2
   go_loopg [24] k1 (fun kq v24 w' => ∃ (x7_2 : List Int) (x24_2 : Int), v24 = .int .i64 x24_2 ∧ Aside0 (impl_Graph_steps.l1 kq a1 l2 x7_2 a0_0 x19_1 l0_1 (l0_1.length : Int) x24_2 a0_0 l0_1 = some r) ∧ Aside0 (kq ≤ k1) ∧ Aside0 (Kd.R (Kd.int .i64) 3 w' w.heap.size (fun _ => True) (.slice (some ⟨go7, 0, none⟩) x7_1.length co7) x7_2) ∧ Aside0 (w'.heap[gb140]? = some (.cells #[.int .i64 a0_0, (.slice A0_1 l0_1.length c0_1)] 30 (0, 0))) ∧ Aside0 (Below w.heap.size w w'))
   case atStart => exact ⟨(x7_1), (0), (by first | rfl | (simp; done) | (simp [*]; done)), H', ⟨Nat.le_refl _⟩, ⟨by (try simp only [hl7_1]); (with_reducible repeat (first | apply Kd.R_alloc | apply Kd.R_drewN | apply Kd.R_drew)); exact HO_7.out⟩, ⟨by (try simp only [hl7_1]); (with_reducible repeat (first | refine blk_drewN ?_ _ | refine blk_drew ?_ | refine blk_alloc ?_ _)); exact BK140.out⟩, ⟨bw_⟩⟩
   case round =>
    clear H'
    try clear c1
    try clear c2
    try clear p2
    try clear c5
    try clear c5b0
    try clear c6
    try clear c6b0
    try clear c7
    try clear p7
    try clear q7
    try clear hx7
    try clear hf7
    try clear c8
    try clear c17
    try clear c17b0
    try clear hcz11_0
    try clear hcz11_1
    try clear hcz16_0
    try clear hcz16_1
    try clear hcz18_0
    try clear hcz18_1
    try clear hfz11_0
    try clear hfz11_1
    try clear hfz16_0
    try clear hfz16_1
    try clear hfz18_0
    try clear hfz18_1
    try clear hx7_0
    try clear p2
    try clear p7
    try clear q7
    obtain ⟨x7_2, x24_2, rfl, HA, HK2, HO_7, BK140, HB⟩ := hrel
    have hl7_2 := (Kd.R_reads' HO_7.out).1
    rw [hl7_2] at HO_7
    (try simp only [hl7_2])
    (try simp only [hl7_2] at BK140)
    cases gk with
    | zero => exact absurd HA.out (by simp [impl_Graph_steps.l1])
    | succ k2 =>
     have H := HA.out
     clear HA
     simp only [impl_Graph_steps.l1] at H
     by_cases c19 : x24_2 < (l0_1.length : Int)
     rotate_left
     ·rw [if_neg c19] at H
      have c19b0 : decide (x24_2 < (l0_1.length : Int)) = false := decide_eq_false c19
      (try simp only [hl7_1] at c19b0)
      (try simp only [hl7_2] at c19b0)
      clear c19
      have H' := Aside0.mk H
      clear H
      go_wp2
      (try simp only [← hl7_1, ← hl7_2])
      go_roundg k2
      case measure => have := HK1.out; have := HK2.out; omega
      case rel => exact ⟨(x7_2), (wrap64 (x19_1 + 1)), (by first | rfl | (simp; done) | (simp [*]; done)), H', ⟨by have := HK1.out; have := HK2.out; omega⟩, ⟨by (try simp only [hl7_1]); (try simp only [hl7_2]); (with_reducible repeat (first | apply Kd.R_alloc | apply Kd.R_drewN | apply Kd.R_drew)); exact HO_7.out⟩, ⟨by (try simp only [hl7_1]); (try simp only [hl7_2]); (with_reducible repeat (first | refine blk_drewN ?_ _ | refine blk_drew ?_ | refine blk_alloc ?_ _)); exact BK140.out⟩, ⟨bw_⟩⟩
     rw [if_pos c19] at H
     have c19b0 : decide (x24_2 < (l0_1.length : Int)) = true := decide_eq_true c19
     clear c19
     by_cases c20 : 0 ≤ x24_2
     rotate_left
     ·rw [if_neg c20] at H
      exact absurd H (by simp)
     rw [if_pos c20] at H
     have c20b0 : decide (0 ≤ x24_2) = true := decide_eq_true c20
     clear c20
     by_cases c21 : x24_2 < (l0_1.length : Int)
     rotate_left
     ·rw [if_neg c21] at H
      exact absurd H (by simp)
     rw [if_pos c21] at H
     have c21b0 : decide (x24_2 < (l0_1.length : Int)) = true := decide_eq_true c21
     clear c21
     by_cases c22 : 0 ≤ ((rd_T76 l0_1 x24_2).f0)
     rotate_left
     ·rw [if_neg c22] at H
      exact absurd H (by simp)
     rw [if_pos c22] at H
     have c22b0 : decide (0 ≤ ((rd_T76 l0_1 x24_2).f0)) = true := decide_eq_true c22
     clear c22
     by_cases c23 : ((rd_T76 l0_1 x24_2).f0) < (l2.length : Int)
     rotate_left
     ·rw [if_neg c23] at H
      exact absurd H (by simp)
     rw [if_pos c23] at H
     have c23b0 : decide (((rd_T76 l0_1 x24_2).f0) < (l2.length : Int)) = true := decide_eq_true c23
     clear c23
     by_cases c24 : 0 ≤ a1
     rotate_left
     ·rw [if_neg c24] at H
      exact absurd H (by simp)
     rw [if_pos c24] at H
     have c24b0 : decide (0 ≤ a1) = true := decide_eq_true c24
     clear c24
     by_cases c25 : a1 < ((rd_L2 l2 ((rd_T76 l0_1 x24_2).f0)).length : Int)
     rotate_left
     ·rw [if_neg c25] at H
      exact absurd H (by simp)
     rw [if_pos c25] at H
     have c25b0 : decide (a1 < ((rd_L2 l2 ((rd_T76 l0_1 x24_2).f0)).length : Int)) = true := decide_eq_true c25
     clear c25
     by_cases c26 : (rd (rd_L2 l2 ((rd_T76 l0_1 x24_2).f0)) a1) < 1000000
     rotate_left
     ·rw [if_neg c26] at H
      have c26b0 : decide ((rd (rd_L2 l2 ((rd_T76 l0_1 x24_2).f0)) a1) < 1000000) = false := decide_eq_false c26
      clear c26
      have H' := Aside0.mk H
      clear H
      have p148 : 0 ≤ (x24_2 : Int) := of_decide_eq_true (by first | (with_reducible assumption) | assumption)
      have q148 : x24_2 < (l0_1.length : Int) := of_decide_eq_true (by first | (with_reducible assumption) | assumption)
      obtain ⟨ad148, e148, hx148_0, hx148_1, hx148_2⟩ := at_T76 HR0_1.out x24_2 p148 q148
      cases e148
      replace hx148_0 := (HB.out.cell (World.block_lt_of_cell? w _ hx148_0)).trans hx148_0
      replace hx148_1 := (HB.out.cell (World.block_lt_of_cell? w _ hx148_1)).trans hx148_1
      replace hx148_2 := (HB.out.cell (World.block_lt_of_cell? w _ hx148_2)).trans hx148_2
      replace p148 := eq_true p148
      replace q148 := eq_true q148
      try go_wp2_with ((with_reducible refine gate_dst (N := 9) rfl ?_); refine box_event ?hg (N := 9) ?hd (cs := #[.int .i64 0, .int .i64 0, .int .i64 0]) (t := 76) ?hr ?_; (case hd => rfl); (case hg => rfl); (case hr => first | (go_simp; done) | (go_simp; rfl)); intro gb149 hg w47 hbox hb; have BK149 := Aside0.mk hbox; have GW149 := ge_ HB hg; have GE149 := ge_ HB hg; have NB140_149 := nl_ BK140 hg; have NB149_140 := ng_ BK140 hg; replace HO_7 := rb_ HO_7 hb; replace HB := at_ HB hb; replace BK140 := ab_ BK140 hb; clear hb hbox hg; have hnb48 := NB149_140.out; have hnc48 := NB140_149.out; have hcz49_0 := cz_ BK149 0 (.int .i64 0); have hcz49_1 := cz_ BK149 1 (.int .i64 0); have hcz49_2 := cz_ BK149 2 (.int .i64 0); have hfz49_0 := blk_frozen BK149.out 0; have hfz49_1 := blk_frozen BK149.out 1; have hfz49_2 := blk_frozen BK149.out 2)
      have n0_ : Aside0 (Kd.R (Kd.int .i64) 3 (((w47.setCell ⟨gb149, 0, none⟩ (.int .i64 ((rd_T76 l0_1 x24_2).f0))).setCell ⟨gb149, 1, none⟩ (.int .i64 ((rd_T76 l0_1 x24_2).f1))).setCell ⟨gb149, 2, none⟩ (.int .i64 ((rd_T76 l0_1 x24_2).f2))) w.heap.size (fun _ => True) (.slice (some ⟨go7, 0, none⟩) x7_2.length co7) x7_2) := ⟨by (with_reducible repeat (first | apply Kd.R_alloc | apply Kd.R_drewN | apply Kd.R_drew)); exact Kd.R_mono (Kd.R_far (p := ⟨gb149, 2, none⟩) (Kd.R_far (p := ⟨gb149, 1, none⟩) (Kd.R_far (p := ⟨gb149, 0, none⟩) (Kd.R_types HO_7.out BK149.out (by decide)) (fun _ hk => hk.2) (.int .i64 ((rd_T76 l0_1 x24_2).f0))) (fun _ hk => hk.2) (.int .i64 ((rd_T76 l0_1 x24_2).f1))) (fun _ hk => hk.2) (.int .i64 ((rd_T76 l0_1 x24_2).f2))) (fun _ hk => trivial)⟩
      have n1_ : Aside0 ((((w47.setCell ⟨gb149, 0, none⟩ (.int .i64 ((rd_T76 l0_1 x24_2).f0))).setCell ⟨gb149, 1, none⟩ (.int .i64 ((rd_T76 l0_1 x24_2).f1))).setCell ⟨gb149, 2, none⟩ (.int .i64 ((rd_T76 l0_1 x24_2).f2))).heap[gb140]? = some (.cells #[.int .i64 a0_0, .slice (some ad148) l0_1.length c0_1] 30 (0, 0))) := ⟨bc_ BK140⟩
      have n2_ : Aside0 ((((w47.setCell ⟨gb149, 0, none⟩ (.int .i64 ((rd_T76 l0_1 x24_2).f0))).setCell ⟨gb149, 1, none⟩ (.int .i64 ((rd_T76 l0_1 x24_2).f1))).setCell ⟨gb149, 2, none⟩ (.int .i64 ((rd_T76 l0_1 x24_2).f2))).heap[gb149]? = some (.cells #[.int .i64 ((rd_T76 l0_1 x24_2).f0), .int .i64 ((rd_T76 l0_1 x24_2).f1), .int .i64 ((rd_T76 l0_1 x24_2).f2)] 76 (0, 0))) := ⟨by (with_reducible repeat (first | refine blk_drewN ?_ _ | refine blk_drew ?_ | refine blk_alloc ?_ _)); refine blk_put (cs := #[.int .i64 ((rd_T76 l0_1 x24_2).f0), .int .i64 ((rd_T76 l0_1 x24_2).f1), .int .i64 0]) ?_ 2 _ rfl; (with_reducible repeat (first | refine blk_drewN ?_ _ | refine blk_drew ?_ | refine blk_alloc ?_ _)); refine blk_put (cs := #[.int .i64 ((rd_T76 l0_1 x24_2).f0), .int .i64 0, .int .i64 0]) ?_ 1 _ rfl; (with_reducible repeat (first | refine blk_drewN ?_ _ | refine blk_drew ?_ | refine blk_alloc ?_ _)); refine blk_put (cs := #[.int .i64 0, .int .i64 0, .int .i64 0]) ?_ 0 _ rfl; (with_reducible repeat (first | refine blk_drewN ?_ _ | refine blk_drew ?_ | refine blk_alloc ?_ _)); exact BK149.out⟩
      have n3_ : Aside0 (Below w.heap.size w (((w47.setCell ⟨gb149, 0, none⟩ (.int .i64 ((rd_T76 l0_1 x24_2).f0))).setCell ⟨gb149, 1, none⟩ (.int .i64 ((rd_T76 l0_1 x24_2).f1))).setCell ⟨gb149, 2, none⟩ (.int .i64 ((rd_T76 l0_1 x24_2).f2)))) := ⟨bw_⟩
      (try clear HO_7)
      (try clear BK140)
      (try clear BK149)
      (try clear HB)
      generalize (((w47.setCell ⟨gb149, 0, none⟩ (.int .i64 ((rd_T76 l0_1 x24_2).f0))).setCell ⟨gb149, 1, none⟩ (.int .i64 ((rd_T76 l0_1 x24_2).f1))).setCell ⟨gb149, 2, none⟩ (.int .i64 ((rd_T76 l0_1 x24_2).f2))) = w50 at n0_ n1_ n2_ n3_ ⊢
      have HO_7 := n0_
      have BK140 := n1_
      have BK149 := n2_
      have HB := n3_
      clear n0_ n1_ n2_ n3_
      replace HO_7 := Aside0.mk (Kd.R_drew HO_7.out)
      replace BK140 := ad_ BK140
      replace BK149 := ad_ BK149
      replace HB := Aside0.mk (below_drew1 HB.out)
      have p150 : 0 ≤ (((rd_T76 l0_1 x24_2).f0) : Int) := of_decide_eq_true (by first | (with_reducible assumption) | assumption)
      have q150 : ((rd_T76 l0_1 x24_2).f0) < (l2.length : Int) := of_decide_eq_true (by first | (with_reducible assumption) | assumption)
      obtain ⟨ad150, A150_0, c150_0, e150, hx150_0, hl150_0, hi150_0⟩ := at_L2 HR2.out ((rd_T76 l0_1 x24_2).f0) p150 q150
      have hw150_0 := hx150_0
      cases e150
      replace hx150_0 := (HB.out.cell (World.block_lt_of_cell? w _ hx150_0)).trans hx150_0
      have HR150_0 := Aside0.mk hi150_0
      have HC150_0 := Aside0.mk hl150_0
      clear hi150_0 hl150_0
      replace p150 := eq_true p150
      replace q150 := eq_true q150
      have p151 : 0 ≤ (a1 : Int) := of_decide_eq_true (by first | (with_reducible assumption) | assumption)
      have q151 : a1 < ((rd_L2 l2 ((rd_T76 l0_1 x24_2).f0)).length : Int) := of_decide_eq_true (by first | (with_reducible assumption) | assumption)
      obtain ⟨ad151, e151, hx151_0⟩ := Kd.at_int HR150_0.out a1 p151 q151
      have hw151_0 := hx151_0
      cases e151
      replace hx151_0 := (HB.out.cell (World.block_lt_of_cell? w _ hx151_0)).trans hx151_0
      replace p151 := eq_true p151
      replace q151 := eq_true q151
      refine start_ (n := 31) (S := fun w' => w'.cell? ⟨gb149, 0, none⟩ = some (.int .i64 ((rd_T76 l0_1 x24_2).f0)) ∧ w'.cell? ⟨gb149, 1, none⟩ = some (.int .i64 ((rd_T76 l0_1 x24_2).f1)) ∧ w'.cell? ⟨gb149, 2, none⟩ = some (.int .i64 ((rd_T76 l0_1 x24_2).f2)) ∧ w'.cell? (ad150.add (((rd_T76 l0_1 x24_2).f0)).toNat) = some (.slice (some ad151) (rd_L2 l2 ((rd_T76 l0_1 x24_2).f0)).length c150_0) ∧ w'.cell? (ad151.add (a1).toNat) = some (.int .i64 (rd (rd_L2 l2 ((rd_T76 l0_1 x24_2).f0)) a1))) (ds := []) ba4_0 (by kernel_rfl) rfl rfl ⟨(blk_cell BK149.out 0).trans rfl, (blk_cell BK149.out 1).trans rfl, (blk_cell BK149.out 2).trans rfl, (hc_ HB hw150_0), (hc_ HB hw151_0)⟩ (fun hHeld => ?_); refine with_tabW impl_Graph_steps.tab8 impl_Graph_steps.bits8 (fun HT_ HW_ => ?_)
      generalize w50.drew = w51 at HO_7 BK140 BK149 HB HR150_0 hx150_0 hx151_0 hHeld ⊢
      refine pz_ 0 28 ba4_1 HT_ ?_
      refine pz_ 1 29 ba4_2 HT_ ?_
      refine pz_ 5 33 ba4_3 HT_ ?_
      refine pt_ 2 30 ba4_4 HT_ HW_ hHeld ?_
      refine pz_ 3 31 ba4_5 HT_ ?_
      refine pt_ 4 32 ba4_6 HT_ HW_ hHeld ?_
      refine pz_ 6 34 ba4_7 HT_ ?_
      refine pt_ 7 35 ba4_8 HT_ HW_ hHeld ?_
      refine pz_ 8 36 ba4_9 HT_ ?_
      refine pz_ 9 37 ba4_10 HT_ ?_
      refine pu_ 10 38 ba4_11 HT_ ?_
      refine pu_ 11 39 ba4_50 HT_ ?_
      refine pu_ 12 40 ba4_51 HT_ ?_
      refine pu_ 13 41 ba4_52 HT_ ?_
      refine pu_ 14 42 ba4_53 HT_ ?_
      refine pu_ 15 43 ba4_54 HT_ ?_
      refine pu_ 16 44 ba4_55 HT_ ?_
      refine pu_ 17 45 ba4_56 HT_ ?_
      refine pu_ 18 46 ba4_57 HT_ ?_
      refine pu_ 19 47 ba4_58 HT_ ?_
      refine pu_ 20 48 ba4_59 HT_ ?_
      refine pu_ 21 49 ba4_60 HT_ ?_
      refine pu_ 22 50 ba4_61 HT_ ?_
      refine pu_ 23 51 ba4_62 HT_ ?_
      refine pu_ 24 52 ba4_63 HT_ ?_
      refine pu_ 25 53 ba4_64 HT_ ?_
      refine pu_ 26 54 ba4_27 HT_ ?_
      refine pu_ 27 55 ba4_28 HT_ ?_
      refine pu_ 28 56 ba4_29 HT_ ?_
      refine pu_ 29 57 ba4_30 HT_ ?_
      refine pz_ 30 58 ba4_31 HT_ ?_
      refine done_ (done_of HT_.out (by kernel_rfl)) ?_
      try go_wp2
      (try simp only [← hl7_2])
      go_roundg k2
      case measure => have := HK1.out; have := HK2.out; omega
      case rel => exact ⟨(x7_2), (wrap64 (x24_2 + 1)), (by first | rfl | (simp; done) | (simp [*]; done)), H', ⟨by have := HK1.out; have := HK2.out; omega⟩, ⟨by (try simp only [hl7_1]); (try simp only [hl7_2]); (with_reducible repeat (first | apply Kd.R_alloc | apply Kd.R_drewN | apply Kd.R_drew)); exact HO_7.out⟩, ⟨by (try simp only [hl7_1]); (try simp only [hl7_2]); (with_reducible repeat (first | refine blk_drewN ?_ _ | refine blk_drew ?_ | refine blk_alloc ?_ _)); exact BK140.out⟩, ⟨bw_⟩⟩
     rw [if_pos c26] at H
     have c26b0 : decide ((rd (rd_L2 l2 ((rd_T76 l0_1 x24_2).f0)) a1) < 1000000) = true := decide_eq_true c26
     clear c26
     by_cases c27 : 0 ≤ ((rd_T76 l0_1 x24_2).f1)
     rotate_left
     ·rw [if_neg c27] at H
      exact absurd H (by simp)
     rw [if_pos c27] at H
     have c27b0 : decide (0 ≤ ((rd_T76 l0_1 x24_2).f1)) = true := decide_eq_true c27
     clear c27
     by_cases c28 : ((rd_T76 l0_1 x24_2).f1) < (l2.length : Int)
     rotate_left
     ·rw [if_neg c28] at H
      exact absurd H (by simp)
     rw [if_pos c28] at H
     have c28b0 : decide (((rd_T76 l0_1 x24_2).f1) < (l2.length : Int)) = true := decide_eq_true c28
     clear c28
     by_cases c29 : a1 < ((rd_L2 l2 ((rd_T76 l0_1 x24_2).f1)).length : Int)
     rotate_left
     ·rw [if_neg c29] at H
      exact absurd H (by simp)
     rw [if_pos c29] at H
     have c29b0 : decide (a1 < ((rd_L2 l2 ((rd_T76 l0_1 x24_2).f1)).length : Int)) = true := decide_eq_true c29
     clear c29
     by_cases c30 : (wrap64 (((rd_T76 l0_1 x24_2).f2) + (rd (rd_L2 l2 ((rd_T76 l0_1 x24_2).f1)) a1))) = (rd (rd_L2 l2 ((rd_T76 l0_1 x24_2).f0)) a1)
     rotate_left
     ·rw [if_neg c30] at H
      have c30b0 : ((wrap64 (((rd_T76 l0_1 x24_2).f2) + (rd (rd_L2 l2 ((rd_T76 l0_1 x24_2).f1)) a1))) == (rd (rd_L2 l2 ((rd_T76 l0_1 x24_2).f0)) a1)) = false := beq_eq_false_iff_ne.mpr c30
      have c30b1 : ((wrap64 (((rd_T76 l0_1 x24_2).f2) + (rd (rd_L2 l2 ((rd_T76 l0_1 x24_2).f1)) a1))) != (rd (rd_L2 l2 ((rd_T76 l0_1 x24_2).f0)) a1)) = true := bne_iff_ne.mpr c30
      have H' := Aside0.mk H
      clear H
      have p148 : 0 ≤ (x24_2 : Int) := of_decide_eq_true (by first | (with_reducible assumption) | assumption)
      have q148 : x24_2 < (l0_1.length : Int) := of_decide_eq_true (by first | (with_reducible assumption) | assumption)
      obtain ⟨ad148, e148, hx148_0, hx148_1, hx148_2⟩ := at_T76 HR0_1.out x24_2 p148 q148
      cases e148
      replace hx148_0 := (HB.out.cell (World.block_lt_of_cell? w _ hx148_0)).trans hx148_0
      replace hx148_1 := (HB.out.cell (World.block_lt_of_cell? w _ hx148_1)).trans hx148_1
      replace hx148_2 := (HB.out.cell (World.block_lt_of_cell? w _ hx148_2)).trans hx148_2
      replace p148 := eq_true p148
      replace q148 := eq_true q148
      try go_wp2_with ((with_reducible refine gate_dst (N := 9) rfl ?_); refine box_event ?hg (N := 9) ?hd (cs := #[.int .i64 0, .int .i64 0, .int .i64 0]) (t := 76) ?hr ?_; (case hd => rfl); (case hg => rfl); (case hr => first | (go_simp; done) | (go_simp; rfl)); intro gb149 hg w42 hbox hb; have BK149 := Aside0.mk hbox; have GW149 := ge_ HB hg; have GE149 := ge_ HB hg; have NB140_149 := nl_ BK140 hg; have NB149_140 := ng_ BK140 hg; replace HO_7 := rb_ HO_7 hb; replace HB := at_ HB hb; replace BK140 := ab_ BK140 hb; clear hb hbox hg; have hnb43 := NB149_140.out; have hnc43 := NB140_149.out; have hcz44_0 := cz_ BK149 0 (.int .i64 0); have hcz44_1 := cz_ BK149 1 (.int .i64 0); have hcz44_2 := cz_ BK149 2 (.int .i64 0); have hfz44_0 := blk_frozen BK149.out 0; have hfz44_1 := blk_frozen BK149.out 1; have hfz44_2 := blk_frozen BK149.out 2)
      have n0_ : Aside0 (Kd.R (Kd.int .i64) 3 (((w42.setCell ⟨gb149, 0, none⟩ (.int .i64 ((rd_T76 l0_1 x24_2).f0))).setCell ⟨gb149, 1, none⟩ (.int .i64 ((rd_T76 l0_1 x24_2).f1))).setCell ⟨gb149, 2, none⟩ (.int .i64 ((rd_T76 l0_1 x24_2).f2))) w.heap.size (fun _ => True) (.slice (some ⟨go7, 0, none⟩) x7_2.length co7) x7_2) := ⟨by (with_reducible repeat (first | apply Kd.R_alloc | apply Kd.R_drewN | apply Kd.R_drew)); exact Kd.R_mono (Kd.R_far (p := ⟨gb149, 2, none⟩) (Kd.R_far (p := ⟨gb149, 1, none⟩) (Kd.R_far (p := ⟨gb149, 0, none⟩) (Kd.R_types HO_7.out BK149.out (by decide)) (fun _ hk => hk.2) (.int .i64 ((rd_T76 l0_1 x24_2).f0))) (fun _ hk => hk.2) (.int .i64 ((rd_T76 l0_1 x24_2).f1))) (fun _ hk => hk.2) (.int .i64 ((rd_T76 l0_1 x24_2).f2))) (fun _ hk => trivial)⟩
      have n1_ : Aside0 ((((w42.setCell ⟨gb149, 0, none⟩ (.int .i64 ((rd_T76 l0_1 x24_2).f0))).setCell ⟨gb149, 1, none⟩ (.int .i64 ((rd_T76 l0_1 x24_2).f1))).setCell ⟨gb149, 2, none⟩ (.int .i64 ((rd_T76 l0_1 x24_2).f2))).heap[gb140]? = some (.cells #[.int .i64 a0_0, .slice (some ad148) l0_1.length c0_1] 30 (0, 0))) := ⟨bc_ BK140⟩
      have n2_ : Aside0 ((((w42.setCell ⟨gb149, 0, none⟩ (.int .i64 ((rd_T76 l0_1 x24_2).f0))).setCell ⟨gb149, 1, none⟩ (.int .i64 ((rd_T76 l0_1 x24_2).f1))).setCell ⟨gb149, 2, none⟩ (.int .i64 ((rd_T76 l0_1 x24_2).f2))).heap[gb149]? = some (.cells #[.int .i64 ((rd_T76 l0_1 x24_2).f0), .int .i64 ((rd_T76 l0_1 x24_2).f1), .int .i64 ((rd_T76 l0_1 x24_2).f2)] 76 (0, 0))) := ⟨by (with_reducible repeat (first | refine blk_drewN ?_ _ | refine blk_drew ?_ | refine blk_alloc ?_ _)); refine blk_put (cs := #[.int .i64 ((rd_T76 l0_1 x24_2).f0), .int .i64 ((rd_T76 l0_1 x24_2).f1), .int .i64 0]) ?_ 2 _ rfl; (with_reducible repeat (first | refine blk_drewN ?_ _ | refine blk_drew ?_ | refine blk_alloc ?_ _)); refine blk_put (cs := #[.int .i64 ((rd_T76 l0_1 x24_2).f0), .int .i64 0, .int .i64 0]) ?_ 1 _ rfl; (with_reducible repeat (first | refine blk_drewN ?_ _ | refine blk_drew ?_ | refine blk_alloc ?_ _)); refine blk_put (cs := #[.int .i64 0, .int .i64 0, .int .i64 0]) ?_ 0 _ rfl; (with_reducible repeat (first | refine blk_drewN ?_ _ | refine blk_drew ?_ | refine blk_alloc ?_ _)); exact BK149.out⟩
      have n3_ : Aside0 (Below w.heap.size w (((w42.setCell ⟨gb149, 0, none⟩ (.int .i64 ((rd_T76 l0_1 x24_2).f0))).setCell ⟨gb149, 1, none⟩ (.int .i64 ((rd_T76 l0_1 x24_2).f1))).setCell ⟨gb149, 2, none⟩ (.int .i64 ((rd_T76 l0_1 x24_2).f2)))) := ⟨bw_⟩
      (try clear HO_7)
      (try clear BK140)
      (try clear BK149)
      (try clear HB)
      generalize (((w42.setCell ⟨gb149, 0, none⟩ (.int .i64 ((rd_T76 l0_1 x24_2).f0))).setCell ⟨gb149, 1, none⟩ (.int .i64 ((rd_T76 l0_1 x24_2).f1))).setCell ⟨gb149, 2, none⟩ (.int .i64 ((rd_T76 l0_1 x24_2).f2))) = w45 at n0_ n1_ n2_ n3_ ⊢
      have HO_7 := n0_
      have BK140 := n1_
      have BK149 := n2_
      have HB := n3_
      clear n0_ n1_ n2_ n3_
      replace HO_7 := Aside0.mk (Kd.R_drew HO_7.out)
      replace BK140 := ad_ BK140
      replace BK149 := ad_ BK149
      replace HB := Aside0.mk (below_drew1 HB.out)
      have p150 : 0 ≤ (((rd_T76 l0_1 x24_2).f0) : Int) := of_decide_eq_true (by first | (with_reducible assumption) | assumption)
      have q150 : ((rd_T76 l0_1 x24_2).f0) < (l2.length : Int) := of_decide_eq_true (by first | (with_reducible assumption) | assumption)
      obtain ⟨ad150, A150_0, c150_0, e150, hx150_0, hl150_0, hi150_0⟩ := at_L2 HR2.out ((rd_T76 l0_1 x24_2).f0) p150 q150
      have hw150_0 := hx150_0
      cases e150
      replace hx150_0 := (HB.out.cell (World.block_lt_of_cell? w _ hx150_0)).trans hx150_0
      have HR150_0 := Aside0.mk hi150_0
      have HC150_0 := Aside0.mk hl150_0
      clear hi150_0 hl150_0
      replace p150 := eq_true p150
      replace q150 := eq_true q150
      have p151 : 0 ≤ (a1 : Int) := of_decide_eq_true (by first | (with_reducible assumption) | assumption)
      have q151 : a1 < ((rd_L2 l2 ((rd_T76 l0_1 x24_2).f0)).length : Int) := of_decide_eq_true (by first | (with_reducible assumption) | assumption)
      obtain ⟨ad151, e151, hx151_0⟩ := Kd.at_int HR150_0.out a1 p151 q151
      have hw151_0 := hx151_0
      cases e151
      replace hx151_0 := (HB.out.cell (World.block_lt_of_cell? w _ hx151_0)).trans hx151_0
      replace p151 := eq_true p151
      replace q151 := eq_true q151
      have p152 : 0 ≤ (((rd_T76 l0_1 x24_2).f1) : Int) := of_decide_eq_true (by first | (with_reducible assumption) | assumption)
      have q152 : ((rd_T76 l0_1 x24_2).f1) < (l2.length : Int) := of_decide_eq_true (by first | (with_reducible assumption) | assumption)
      obtain ⟨ad152, A152_0, c152_0, e152, hx152_0, hl152_0, hi152_0⟩ := at_L2 HR2.out ((rd_T76 l0_1 x24_2).f1) p152 q152
      have hw152_0 := hx152_0
      obtain rfl : ad150 = ad152 := (by injection e152)
      replace hx152_0 := (HB.out.cell (World.block_lt_of_cell? w _ hx152_0)).trans hx152_0
      have HR152_0 := Aside0.mk hi152_0
      have HC152_0 := Aside0.mk hl152_0
      clear hi152_0 hl152_0
      replace p152 := eq_true p152
      replace q152 := eq_true q152
      have p153 : 0 ≤ (a1 : Int) := of_decide_eq_true (by first | (with_reducible assumption) | assumption)
      have q153 : a1 < ((rd_L2 l2 ((rd_T76 l0_1 x24_2).f1)).length : Int) := of_decide_eq_true (by first | (with_reducible assumption) | assumption)
      obtain ⟨ad153, e153, hx153_0⟩ := Kd.at_int HR152_0.out a1 p153 q153
      have hw153_0 := hx153_0
      cases e153
      replace hx153_0 := (HB.out.cell (World.block_lt_of_cell? w _ hx153_0)).trans hx153_0
      replace p153 := eq_true p153
      replace q153 := eq_true q153
      have p154 : 0 ≤ (((rd_T76 l0_1 x24_2).f0) : Int) := of_decide_eq_true (by first | (with_reducible assumption) | assumption)
      have q154 : ((rd_T76 l0_1 x24_2).f0) < (l2.length : Int) := of_decide_eq_true (by first | (with_reducible assumption) | assumption)
      obtain ⟨ad154, A154_0, c154_0, e154, hx154_0, hl154_0, hi154_0⟩ := at_L2 HR2.out ((rd_T76 l0_1 x24_2).f0) p154 q154
      have hw154_0 := hx154_0
      obtain rfl : ad150 = ad154 := (by injection e154)
      replace hx154_0 := (HB.out.cell (World.block_lt_of_cell? w _ hx154_0)).trans hx154_0
      have HR154_0 := Aside0.mk hi154_0
      have HC154_0 := Aside0.mk hl154_0
      clear hi154_0 hl154_0
      replace p154 := eq_true p154
      replace q154 := eq_true q154
      have ea_ := Option.some.inj (hx150_0.symm.trans hx154_0)
      injection ea_ with ea_ en_ ec_
      subst ea_
      subst ec_
      clear en_
      have p155 : 0 ≤ (a1 : Int) := of_decide_eq_true (by first | (with_reducible assumption) | assumption)
      have q155 : a1 < ((rd_L2 l2 ((rd_T76 l0_1 x24_2).f0)).length : Int) := of_decide_eq_true (by first | (with_reducible assumption) | assumption)
      obtain ⟨ad155, e155, hx155_0⟩ := Kd.at_int HR154_0.out a1 p155 q155
      have hw155_0 := hx155_0
      cases e155
      replace hx155_0 := (HB.out.cell (World.block_lt_of_cell? w _ hx155_0)).trans hx155_0
      replace p155 := eq_true p155
      replace q155 := eq_true q155
      refine start_ (n := 31) (S := fun w' => w'.cell? ⟨gb149, 0, none⟩ = some (.int .i64 ((rd_T76 l0_1 x24_2).f0)) ∧ w'.cell? ⟨gb149, 1, none⟩ = some (.int .i64 ((rd_T76 l0_1 x24_2).f1)) ∧ w'.cell? ⟨gb149, 2, none⟩ = some (.int .i64 ((rd_T76 l0_1 x24_2).f2)) ∧ w'.cell? (ad150.add (((rd_T76 l0_1 x24_2).f0)).toNat) = some (.slice (some ad151) (rd_L2 l2 ((rd_T76 l0_1 x24_2).f0)).length c150_0) ∧ w'.cell? (ad151.add (a1).toNat) = some (.int .i64 (rd (rd_L2 l2 ((rd_T76 l0_1 x24_2).f0)) a1)) ∧ w'.cell? (ad150.add (((rd_T76 l0_1 x24_2).f1)).toNat) = some (.slice (some ad153) (rd_L2 l2 ((rd_T76 l0_1 x24_2).f1)).length c152_0) ∧ w'.cell? (ad153.add (a1).toNat) = some (.int .i64 (rd (rd_L2 l2 ((rd_T76 l0_1 x24_2).f1)) a1)) ∧ w'.cell? (ad150.add (((rd_T76 l0_1 x24_2).f0)).toNat) = some (.slice (some ad151) (rd_L2 l2 ((rd_T76 l0_1 x24_2).f0)).length c150_0) ∧ w'.cell? (ad151.add (a1).toNat) = some (.int .i64 (rd (rd_L2 l2 ((rd_T76 l0_1 x24_2).f0)) a1))) (ds := []) ba4_0 (by kernel_rfl) rfl rfl ⟨(blk_cell BK149.out 0).trans rfl, (blk_cell BK149.out 1).trans rfl, (blk_cell BK149.out 2).trans rfl, (hc_ HB hw150_0), (hc_ HB hw151_0), (hc_ HB hw152_0), (hc_ HB hw153_0), (hc_ HB hw154_0), (hc_ HB hw155_0)⟩ (fun hHeld => ?_); refine with_tabW impl_Graph_steps.tab8 impl_Graph_steps.bits8 (fun HT_ HW_ => ?_)
      generalize w45.drew = w46 at HO_7 BK140 BK149 HB HR150_0 HR152_0 HR154_0 hx150_0 hx151_0 hx152_0 hx153_0 hx154_0 hx155_0 hHeld ⊢
      refine pz_ 0 28 ba4_1 HT_ ?_
      refine pz_ 1 29 ba4_2 HT_ ?_
      refine pz_ 5 33 ba4_3 HT_ ?_
      refine pt_ 2 30 ba4_4 HT_ HW_ hHeld ?_
      refine pz_ 3 31 ba4_5 HT_ ?_
      refine pt_ 4 32 ba4_6 HT_ HW_ hHeld ?_
      refine pz_ 6 34 ba4_7 HT_ ?_
      refine pt_ 7 35 ba4_8 HT_ HW_ hHeld ?_
      refine pz_ 8 36 ba4_9 HT_ ?_
      refine pz_ 9 37 ba4_10 HT_ ?_
      refine pz_ 10 38 ba4_11 HT_ ?_
      refine pz_ 12 40 ba4_12 HT_ ?_
      refine pz_ 13 41 ba4_13 HT_ ?_
      refine pz_ 17 45 ba4_14 HT_ ?_
      refine pz_ 21 49 ba4_15 HT_ ?_
      refine pz_ 22 50 ba4_16 HT_ ?_
      refine pz_ 26 54 ba4_17 HT_ ?_
      refine pt_ 11 39 ba4_18 HT_ HW_ hHeld ?_
      refine pt_ 14 42 ba4_19 HT_ HW_ hHeld ?_
      refine pz_ 15 43 ba4_20 HT_ ?_
      refine pt_ 16 44 ba4_21 HT_ HW_ hHeld ?_
      refine pz_ 18 46 ba4_22 HT_ ?_
      refine pt_ 19 47 ba4_23 HT_ HW_ hHeld ?_
      refine pz_ 20 48 ba4_24 HT_ ?_
      refine pt_ 23 51 ba4_25 HT_ HW_ hHeld ?_
      refine pz_ 24 52 ba4_26 HT_ ?_
      refine pt_ 25 53 ba4_27 HT_ HW_ hHeld ?_
      refine pz_ 27 55 ba4_28 HT_ ?_
      refine pt_ 28 56 ba4_29 HT_ HW_ hHeld ?_
      refine pz_ 29 57 ba4_30 HT_ ?_
      refine pz_ 30 58 ba4_31 HT_ ?_
      refine done_ (done_of HT_.out (by kernel_rfl)) ?_
      try go_wp2
      (try simp only [← hl7_2])
      go_roundg k2
      case measure => have := HK1.out; have := HK2.out; omega
      case rel => exact ⟨(x7_2), (wrap64 (x24_2 + 1)), (by first | rfl | (simp; done) | (simp [*]; done)), H', ⟨by have := HK1.out; have := HK2.out; omega⟩, ⟨by (try simp only [hl7_1]); (try simp only [hl7_2]); (with_reducible repeat (first | apply Kd.R_alloc | apply Kd.R_drewN | apply Kd.R_drew)); exact HO_7.out⟩, ⟨by (try simp only [hl7_1]); (try simp only [hl7_2]); (with_reducible repeat (first | refine blk_drewN ?_ _ | refine blk_drew ?_ | refine blk_alloc ?_ _)); exact BK140.out⟩, ⟨bw_⟩⟩
     rw [if_pos c30] at H
     have c30b0 : ((wrap64 (((rd_T76 l0_1 x24_2).f2) + (rd (rd_L2 l2 ((rd_T76 l0_1 x24_2).f1)) a1))) == (rd (rd_L2 l2 ((rd_T76 l0_1 x24_2).f0)) a1)) = true := beq_iff_eq.mpr c30
     have c30b1 : ((wrap64 (((rd_T76 l0_1 x24_2).f2) + (rd (rd_L2 l2 ((rd_T76 l0_1 x24_2).f1)) a1))) != (rd (rd_L2 l2 ((rd_T76 l0_1 x24_2).f0)) a1)) = false := bne_eq_false_iff_eq.mpr c30
     clear c30
     by_cases c31 : ((rd_T76 l0_1 x24_2).f0) < (x7_2.length : Int)
     rotate_left
     ·rw [if_neg c31] at H
      exact absurd H (by simp)
     rw [if_pos c31] at H
     have c31b0 : decide (((rd_T76 l0_1 x24_2).f0) < (x7_2.length : Int)) = true := decide_eq_true c31
     clear c31
     by_cases c32 : ((rd_T76 l0_1 x24_2).f1) < (x7_2.length : Int)
     rotate_left
     ·rw [if_neg c32] at H
      exact absurd H (by simp)
     rw [if_pos c32] at H
     have c32b0 : decide (((rd_T76 l0_1 x24_2).f1) < (x7_2.length : Int)) = true := decide_eq_true c32
     clear c32
     obtain ⟨ji33, hji33⟩ : ∃ j_ : Int, (mn (rd x7_2 ((rd_T76 l0_1 x24_2).f0)) (wrap64 ((rd x7_2 ((rd_T76 l0_1 x24_2).f1)) + 1))) = j_ := ⟨_, rfl⟩
     first | rw [hji33] at H | simp only [hji33] at H
     have hji33_ : (if (wrap64 ((rd x7_2 ((rd_T76 l0_1 x24_2).f1)) + 1)) < (rd x7_2 ((rd_T76 l0_1 x24_2).f0)) then (wrap64 ((rd x7_2 ((rd_T76 l0_1 x24_2).f1)) + 1)) else (rd x7_2 ((rd_T76 l0_1 x24_2).f0))) = ji33 := hji33
     obtain ⟨y158, hy158⟩ : ∃ y_ : List Int, y_ = (x7_2.set (((rd_T76 l0_1 x24_2).f0) : Int).toNat (ji33)) := ⟨_, rfl⟩
     replace H : (impl_Graph_steps.l1 k2 a1 l2 y158 a0_0 x19_1 l0_1 (l0_1.length : Int) (wrap64 (x24_2 + 1)) a0_0 l0_1) = some r := by first | (rw [hy158]; with_reducible exact H) | (have H2_ := (Option.bind_some _ _).symm.trans H; rw [hy158]; with_reducible exact H2_) | (have H2_ := (Option.bind_some _ _).symm.trans H; with_reducible exact H2_) | with_reducible exact H | (rw [hy158]; exact H) | exact H
     have Ny158 := Aside0.mk hy158
     clear hy158
     have H' := Aside0.mk H
     clear H
     have p148 : 0 ≤ (x24_2 : Int) := of_decide_eq_true (by first | (with_reducible assumption) | assumption)
     have q148 : x24_2 < (l0_1.length : Int) := of_decide_eq_true (by first | (with_reducible assumption) | assumption)
     obtain ⟨ad148, e148, hx148_0, hx148_1, hx148_2⟩ := at_T76 HR0_1.out x24_2 p148 q148
     cases e148
     replace hx148_0 := (HB.out.cell (World.block_lt_of_cell? w _ hx148_0)).trans hx148_0
     replace hx148_1 := (HB.out.cell (World.block_lt_of_cell? w _ hx148_1)).trans hx148_1
     replace hx148_2 := (HB.out.cell (World.block_lt_of_cell? w _ hx148_2)).trans hx148_2
     replace p148 := eq_true p148
     replace q148 := eq_true q148
     try go_wp2_with ((with_reducible refine gate_dst (N := 9) rfl ?_); refine box_event ?hg (N := 9) ?hd (cs := #[.int .i64 0, .int .i64 0, .int .i64 0]) (t := 76) ?hr ?_; (case hd => rfl); (case hg => rfl); (case hr => first | (go_simp; done) | (go_simp; rfl)); intro gb149 hg w35 hbox hb; have BK149 := Aside0.mk hbox; have GW149 := ge_ HB hg; have GE149 := ge_ HB hg; have NB140_149 := nl_ BK140 hg; have NB149_140 := ng_ BK140 hg; replace HO_7 := rb_ HO_7 hb; replace HB := at_ HB hb; replace BK140 := ab_ BK140 hb; clear hb hbox hg; have hnb36 := NB149_140.out; have hnc36 := NB140_149.out; have hcz37_0 := cz_ BK149 0 (.int .i64 0); have hcz37_1 := cz_ BK149 1 (.int .i64 0); have hcz37_2 := cz_ BK149 2 (.int .i64 0); have hfz37_0 := blk_frozen BK149.out 0; have hfz37_1 := blk_frozen BK149.out 1; have hfz37_2 := blk_frozen BK149.out 2)
     have n0_ : Aside0 (Kd.R (Kd.int .i64) 3 (((w35.setCell ⟨gb149, 0, none⟩ (.int .i64 ((rd_T76 l0_1 x24_2).f0))).setCell ⟨gb149, 1, none⟩ (.int .i64 ((rd_T76 l0_1 x24_2).f1))).setCell ⟨gb149, 2, none⟩ (.int .i64 ((rd_T76 l0_1 x24_2).f2))) w.heap.size (fun _ => True) (.slice (some ⟨go7, 0, none⟩) x7_2.length co7) x7_2) := ⟨by (with_reducible repeat (first | apply Kd.R_alloc | apply Kd.R_drewN | apply Kd.R_drew)); exact Kd.R_mono (Kd.R_far (p := ⟨gb149, 2, none⟩) (Kd.R_far (p := ⟨gb149, 1, none⟩) (Kd.R_far (p := ⟨gb149, 0, none⟩) (Kd.R_types HO_7.out BK149.out (by decide)) (fun _ hk => hk.2) (.int .i64 ((rd_T76 l0_1 x24_2).f0))) (fun _ hk => hk.2) (.int .i64 ((rd_T76 l0_1 x24_2).f1))) (fun _ hk => hk.2) (.int .i64 ((rd_T76 l0_1 x24_2).f2))) (fun _ hk => trivial)⟩
     have n1_ : Aside0 ((((w35.setCell ⟨gb149, 0, none⟩ (.int .i64 ((rd_T76 l0_1 x24_2).f0))).setCell ⟨gb149, 1, none⟩ (.int .i64 ((rd_T76 l0_1 x24_2).f1))).setCell ⟨gb149, 2, none⟩ (.int .i64 ((rd_T76 l0_1 x24_2).f2))).heap[gb140]? = some (.cells #[.int .i64 a0_0, .slice (some ad148) l0_1.length c0_1] 30 (0, 0))) := ⟨bc_ BK140⟩
     have n2_ : Aside0 ((((w35.setCell ⟨gb149, 0, none⟩ (.int .i64 ((rd_T76 l0_1 x24_2).f0))).setCell ⟨gb149, 1, none⟩ (.int .i64 ((rd_T76 l0_1 x24_2).f1))).setCell ⟨gb149, 2, none⟩ (.int .i64 ((rd_T76 l0_1 x24_2).f2))).heap[gb149]? = some (.cells #[.int .i64 ((rd_T76 l0_1 x24_2).f0), .int .i64 ((rd_T76 l0_1 x24_2).f1), .int .i64 ((rd_T76 l0_1 x24_2).f2)] 76 (0, 0))) := ⟨by (with_reducible repeat (first | refine blk_drewN ?_ _ | refine blk_drew ?_ | refine blk_alloc ?_ _)); refine blk_put (cs := #[.int .i64 ((rd_T76 l0_1 x24_2).f0), .int .i64 ((rd_T76 l0_1 x24_2).f1), .int .i64 0]) ?_ 2 _ rfl; (with_reducible repeat (first | refine blk_drewN ?_ _ | refine blk_drew ?_ | refine blk_alloc ?_ _)); refine blk_put (cs := #[.int .i64 ((rd_T76 l0_1 x24_2).f0), .int .i64 0, .int .i64 0]) ?_ 1 _ rfl; (with_reducible repeat (first | refine blk_drewN ?_ _ | refine blk_drew ?_ | refine blk_alloc ?_ _)); refine blk_put (cs := #[.int .i64 0, .int .i64 0, .int .i64 0]) ?_ 0 _ rfl; (with_reducible repeat (first | refine blk_drewN ?_ _ | refine blk_drew ?_ | refine blk_alloc ?_ _)); exact BK149.out⟩
     have n3_ : Aside0 (Below w.heap.size w (((w35.setCell ⟨gb149, 0, none⟩ (.int .i64 ((rd_T76 l0_1 x24_2).f0))).setCell ⟨gb149, 1, none⟩ (.int .i64 ((rd_T76 l0_1 x24_2).f1))).setCell ⟨gb149, 2, none⟩ (.int .i64 ((rd_T76 l0_1 x24_2).f2)))) := ⟨bw_⟩
     (try clear HO_7)
     (try clear BK140)
     (try clear BK149)
     (try clear HB)
     generalize (((w35.setCell ⟨gb149, 0, none⟩ (.int .i64 ((rd_T76 l0_1 x24_2).f0))).setCell ⟨gb149, 1, none⟩ (.int .i64 ((rd_T76 l0_1 x24_2).f1))).setCell ⟨gb149, 2, none⟩ (.int .i64 ((rd_T76 l0_1 x24_2).f2))) = w38 at n0_ n1_ n2_ n3_ ⊢
     have HO_7 := n0_
     have BK140 := n1_
     have BK149 := n2_
     have HB := n3_
     clear n0_ n1_ n2_ n3_
     replace HO_7 := Aside0.mk (Kd.R_drew HO_7.out)
     replace BK140 := ad_ BK140
     replace BK149 := ad_ BK149
     replace HB := Aside0.mk (below_drew1 HB.out)
     have p150 : 0 ≤ (((rd_T76 l0_1 x24_2).f0) : Int) := of_decide_eq_true (by first | (with_reducible assumption) | assumption)
     have q150 : ((rd_T76 l0_1 x24_2).f0) < (l2.length : Int) := of_decide_eq_true (by first | (with_reducible assumption) | assumption)
     obtain ⟨ad150, A150_0, c150_0, e150, hx150_0, hl150_0, hi150_0⟩ := at_L2 HR2.out ((rd_T76 l0_1 x24_2).f0) p150 q150
     have hw150_0 := hx150_0
     cases e150
     replace hx150_0 := (HB.out.cell (World.block_lt_of_cell? w _ hx150_0)).trans hx150_0
     have HR150_0 := Aside0.mk hi150_0
     have HC150_0 := Aside0.mk hl150_0
     clear hi150_0 hl150_0
     replace p150 := eq_true p150
     replace q150 := eq_true q150
     have p151 : 0 ≤ (a1 : Int) := of_decide_eq_true (by first | (with_reducible assumption) | assumption)
     have q151 : a1 < ((rd_L2 l2 ((rd_T76 l0_1 x24_2).f0)).length : Int) := of_decide_eq_true (by first | (with_reducible assumption) | assumption)
     obtain ⟨ad151, e151, hx151_0⟩ := Kd.at_int HR150_0.out a1 p151 q151
     have hw151_0 := hx151_0
     cases e151
     replace hx151_0 := (HB.out.cell (World.block_lt_of_cell? w _ hx151_0)).trans hx151_0
     replace p151 := eq_true p151
     replace q151 := eq_true q151
     have p152 : 0 ≤ (((rd_T76 l0_1 x24_2).f1) : Int) := of_decide_eq_true (by first | (with_reducible assumption) | assumption)
     have q152 : ((rd_T76 l0_1 x24_2).f1) < (l2.length : Int) := of_decide_eq_true (by first | (with_reducible assumption) | assumption)
     obtain ⟨ad152, A152_0, c152_0, e152, hx152_0, hl152_0, hi152_0⟩ := at_L2 HR2.out ((rd_T76 l0_1 x24_2).f1) p152 q152
     have hw152_0 := hx152_0
     obtain rfl : ad150 = ad152 := (by injection e152)
     replace hx152_0 := (HB.out.cell (World.block_lt_of_cell? w _ hx152_0)).trans hx152_0
     have HR152_0 := Aside0.mk hi152_0
     have HC152_0 := Aside0.mk hl152_0
     clear hi152_0 hl152_0
     replace p152 := eq_true p152
     replace q152 := eq_true q152
     have p153 : 0 ≤ (a1 : Int) := of_decide_eq_true (by first | (with_reducible assumption) | assumption)
     have q153 : a1 < ((rd_L2 l2 ((rd_T76 l0_1 x24_2).f1)).length : Int) := of_decide_eq_true (by first | (with_reducible assumption) | assumption)
     obtain ⟨ad153, e153, hx153_0⟩ := Kd.at_int HR152_0.out a1 p153 q153
     have hw153_0 := hx153_0
     cases e153
     replace hx153_0 := (HB.out.cell (World.block_lt_of_cell? w _ hx153_0)).trans hx153_0
     replace p153 := eq_true p153
     replace q153 := eq_true q153
     have p154 : 0 ≤ (((rd_T76 l0_1 x24_2).f0) : Int) := of_decide_eq_true (by first | (with_reducible assumption) | assumption)
     have q154 : ((rd_T76 l0_1 x24_2).f0) < (l2.length : Int) := of_decide_eq_true (by first | (with_reducible assumption) | assumption)
     obtain ⟨ad154, A154_0, c154_0, e154, hx154_0, hl154_0, hi154_0⟩ := at_L2 HR2.out ((rd_T76 l0_1 x24_2).f0) p154 q154
     have hw154_0 := hx154_0
     obtain rfl : ad150 = ad154 := (by injection e154)
     replace hx154_0 := (HB.out.cell (World.block_lt_of_cell? w _ hx154_0)).trans hx154_0
     have HR154_0 := Aside0.mk hi154_0
     have HC154_0 := Aside0.mk hl154_0
     clear hi154_0 hl154_0
     replace p154 := eq_true p154
     replace q154 := eq_true q154
     have ea_ := Option.some.inj (hx150_0.symm.trans hx154_0)
     injection ea_ with ea_ en_ ec_
     subst ea_
     subst ec_
     clear en_
     have p155 : 0 ≤ (a1 : Int) := of_decide_eq_true (by first | (with_reducible assumption) | assumption)
     have q155 : a1 < ((rd_L2 l2 ((rd_T76 l0_1 x24_2).f0)).length : Int) := of_decide_eq_true (by first | (with_reducible assumption) | assumption)
     obtain ⟨ad155, e155, hx155_0⟩ := Kd.at_int HR154_0.out a1 p155 q155
     have hw155_0 := hx155_0
     cases e155
     replace hx155_0 := (HB.out.cell (World.block_lt_of_cell? w _ hx155_0)).trans hx155_0
     replace p155 := eq_true p155
     replace q155 := eq_true q155
     refine start_ (n := 31) (S := fun w' => w'.cell? ⟨gb149, 0, none⟩ = some (.int .i64 ((rd_T76 l0_1 x24_2).f0)) ∧ w'.cell? ⟨gb149, 1, none⟩ = some (.int .i64 ((rd_T76 l0_1 x24_2).f1)) ∧ w'.cell? ⟨gb149, 2, none⟩ = some (.int .i64 ((rd_T76 l0_1 x24_2).f2)) ∧ w'.cell? (ad150.add (((rd_T76 l0_1 x24_2).f0)).toNat) = some (.slice (some ad151) (rd_L2 l2 ((rd_T76 l0_1 x24_2).f0)).length c150_0) ∧ w'.cell? (ad151.add (a1).toNat) = some (.int .i64 (rd (rd_L2 l2 ((rd_T76 l0_1 x24_2).f0)) a1)) ∧ w'.cell? (ad150.add (((rd_T76 l0_1 x24_2).f1)).toNat) = some (.slice (some ad153) (rd_L2 l2 ((rd_T76 l0_1 x24_2).f1)).length c152_0) ∧ w'.cell? (ad153.add (a1).toNat) = some (.int .i64 (rd (rd_L2 l2 ((rd_T76 l0_1 x24_2).f1)) a1)) ∧ w'.cell? (ad150.add (((rd_T76 l0_1 x24_2).f0)).toNat) = some (.slice (some ad151) (rd_L2 l2 ((rd_T76 l0_1 x24_2).f0)).length c150_0) ∧ w'.cell? (ad151.add (a1).toNat) = some (.int .i64 (rd (rd_L2 l2 ((rd_T76 l0_1 x24_2).f0)) a1))) (ds := []) ba4_0 (by kernel_rfl) rfl rfl ⟨(blk_cell BK149.out 0).trans rfl, (blk_cell BK149.out 1).trans rfl, (blk_cell BK149.out 2).trans rfl, (hc_ HB hw150_0), (hc_ HB hw151_0), (hc_ HB hw152_0), (hc_ HB hw153_0), (hc_ HB hw154_0), (hc_ HB hw155_0)⟩ (fun hHeld => ?_); refine with_tabW impl_Graph_steps.tab8 impl_Graph_steps.bits8 (fun HT_ HW_ => ?_)
     generalize w38.drew = w39 at HO_7 BK140 BK149 HB HR150_0 HR152_0 HR154_0 hx150_0 hx151_0 hx152_0 hx153_0 hx154_0 hx155_0 hHeld ⊢
     refine pz_ 0 28 ba4_1 HT_ ?_
     refine pz_ 1 29 ba4_2 HT_ ?_
     refine pz_ 5 33 ba4_3 HT_ ?_
     refine pt_ 2 30 ba4_4 HT_ HW_ hHeld ?_
     refine pz_ 3 31 ba4_5 HT_ ?_
     refine pt_ 4 32 ba4_6 HT_ HW_ hHeld ?_
     refine pz_ 6 34 ba4_7 HT_ ?_
     refine pt_ 7 35 ba4_8 HT_ HW_ hHeld ?_
     refine pz_ 8 36 ba4_9 HT_ ?_
     refine pz_ 9 37 ba4_10 HT_ ?_
     refine pz_ 10 38 ba4_11 HT_ ?_
     refine pz_ 12 40 ba4_12 HT_ ?_
     refine pz_ 13 41 ba4_13 HT_ ?_
     refine pz_ 17 45 ba4_14 HT_ ?_
     refine pz_ 21 49 ba4_15 HT_ ?_
     refine pz_ 22 50 ba4_16 HT_ ?_
     refine pz_ 26 54 ba4_17 HT_ ?_
     refine pt_ 11 39 ba4_18 HT_ HW_ hHeld ?_
     refine pt_ 14 42 ba4_19 HT_ HW_ hHeld ?_
     refine pz_ 15 43 ba4_20 HT_ ?_
     refine pt_ 16 44 ba4_21 HT_ HW_ hHeld ?_
     refine pz_ 18 46 ba4_22 HT_ ?_
     refine pt_ 19 47 ba4_23 HT_ HW_ hHeld ?_
     refine pz_ 20 48 ba4_24 HT_ ?_
     refine pt_ 23 51 ba4_25 HT_ HW_ hHeld ?_
     refine pz_ 24 52 ba4_26 HT_ ?_
     refine pt_ 25 53 ba4_27 HT_ HW_ hHeld ?_
     refine pz_ 27 55 ba4_28 HT_ ?_
     refine pt_ 28 56 ba4_29 HT_ HW_ hHeld ?_
     refine pz_ 29 57 ba4_30 HT_ ?_
     refine pz_ 30 58 ba4_31 HT_ ?_
     refine done_ (done_of HT_.out (by kernel_rfl)) ?_
     try go_wp2
     replace HO_7 := Aside0.mk (Kd.R_drew HO_7.out)
     replace BK140 := ad_ BK140
     replace BK149 := ad_ BK149
     replace HB := Aside0.mk (below_drew1 HB.out)
     have p156 : 0 ≤ (((rd_T76 l0_1 x24_2).f0) : Int) := of_decide_eq_true (by first | (with_reducible assumption) | assumption)
     have q156 : ((rd_T76 l0_1 x24_2).f0) < (x7_2.length : Int) := of_decide_eq_true (by first | (with_reducible assumption) | assumption)
     obtain ⟨ad156, e156, hx156_0⟩ := Kd.at_int (Kd.R_reads' HO_7.out).2.2 ((rd_T76 l0_1 x24_2).f0) p156 q156
     obtain rfl : (⟨go7, 0, none⟩ : Addr) = ad156 := (by injection e156)
     (first | simp only [add_plain] at hx156_0 | simp only [add_at] at hx156_0 | simp only [Addr.add, Nat.zero_add] at hx156_0 | skip)
     replace p156 := eq_true p156
     replace q156 := eq_true q156
     have p157 : 0 ≤ (((rd_T76 l0_1 x24_2).f1) : Int) := of_decide_eq_true (by first | (with_reducible assumption) | assumption)
     have q157 : ((rd_T76 l0_1 x24_2).f1) < (x7_2.length : Int) := of_decide_eq_true (by first | (with_reducible assumption) | assumption)
     obtain ⟨ad157, e157, hx157_0⟩ := Kd.at_int (Kd.R_reads' HO_7.out).2.2 ((rd_T76 l0_1 x24_2).f1) p157 q157
     obtain rfl : (⟨go7, 0, none⟩ : Addr) = ad157 := (by injection e157)
     (first | simp only [add_plain] at hx157_0 | simp only [add_at] at hx157_0 | simp only [Addr.add, Nat.zero_add] at hx157_0 | skip)
     replace p157 := eq_true p157
     replace q157 := eq_true q157
     have p34 : 0 ≤ (((rd_T76 l0_1 x24_2).f0) : Int) := of_decide_eq_true (by first | (with_reducible assumption) | assumption)
     have q34 : (((rd_T76 l0_1 x24_2).f0) : Int) < ((x7_2.length : Int) : Int) := of_decide_eq_true (by first | (with_reducible assumption) | assumption)
     obtain ⟨hx34_0, hf34_0⟩ := Kd.R_celln 0 HO_7.out (((rd_T76 l0_1 x24_2).f0) : Int) p34 q34
     replace p34 := eq_true p34
     replace q34 := eq_true q34
     have HP41 := Kd.R_putn HO_7.out (((rd_T76 l0_1 x24_2).f0) : Int) ji33
     rw [← Ny158.out] at HP41
     have HQ41 := Aside0.mk HP41
     clear HP41
     refine start_ (n := 17) (S := fun w' => w'.cell? ⟨gb149, 0, none⟩ = some (.int .i64 ((rd_T76 l0_1 x24_2).f0)) ∧ w'.cell? ⟨gb149, 1, none⟩ = some (.int .i64 ((rd_T76 l0_1 x24_2).f1)) ∧ w'.cell? ⟨gb149, 2, none⟩ = some (.int .i64 ((rd_T76 l0_1 x24_2).f2)) ∧ w'.cell? ⟨go7, (((rd_T76 l0_1 x24_2).f0)).toNat, none⟩ = some (.int .i64 (rd x7_2 ((rd_T76 l0_1 x24_2).f0))) ∧ w'.cell? ⟨go7, (((rd_T76 l0_1 x24_2).f1)).toNat, none⟩ = some (.int .i64 (rd x7_2 ((rd_T76 l0_1 x24_2).f1)))) (ds := [16]) ba4_32 (by kernel_rfl) rfl rfl ⟨(blk_cell BK149.out 0).trans rfl, (blk_cell BK149.out 1).trans rfl, (blk_cell BK149.out 2).trans rfl, hx156_0, hx157_0⟩ (fun hHeld => ?_); refine with_tabW impl_Graph_steps.tab9 impl_Graph_steps.bits9 (fun HT_ HW_ => ?_)
     generalize w39.drew = w40 at HO_7 BK140 BK149 HB HQ41 hf34_0 hx156_0 hx157_0 hx34_0 hHeld ⊢
     refine pz_ 0 59 ba4_33 HT_ ?_
     refine pz_ 1 60 ba4_34 HT_ ?_
     refine pz_ 3 62 ba4_35 HT_ ?_
     refine pz_ 4 63 ba4_36 HT_ ?_
     refine pz_ 8 67 ba4_37 HT_ ?_
     refine pz_ 9 68 ba4_38 HT_ ?_
     refine pt_ 2 61 ba4_39 HT_ HW_ hHeld ?_
     refine pt_ 5 64 ba4_40 HT_ HW_ hHeld ?_
     refine pz_ 6 65 ba4_41 HT_ ?_
     refine pt_ 7 66 ba4_42 HT_ HW_ hHeld ?_
     refine pt_ 10 69 ba4_43 HT_ HW_ hHeld ?_
     refine pz_ 11 70 ba4_44 HT_ ?_
     refine pt_ 12 71 ba4_45 HT_ HW_ hHeld ?_
     refine pz_ 13 72 ba4_46 HT_ ?_
     refine pz_ 14 73 ba4_47 HT_ ?_
     refine pz_ 15 74 ba4_48 HT_ ?_
     refine last_ (i := 16) (N := none) ba4_49 rfl rfl (one_of HT_.out (by kernel_rfl)) (by decide) (fun K hK => ?_)
     refine skip_ (w1 := ?_) (by rfl) rfl ?_ ?_
     rotate_left; · go_simp; rfl
     refine hK.out _ _ ?_
     clear hK K
     refine done_ (done_of HT_.out (by kernel_rfl)) ?_
     try go_wp2
     (try simp only [← hl7_2])
     go_roundg k2
     case measure => have := HK1.out; have := HK2.out; omega
     case rel => exact ⟨(y158), (wrap64 (x24_2 + 1)), (by first | rfl | (simp; done) | (simp [*]; done)), H', ⟨by have := HK1.out; have := HK2.out; omega⟩, ⟨by (try simp only [hl7_1]); (try simp only [hl7_2]); (with_reducible repeat (first | apply Kd.R_alloc | apply Kd.R_drewN | apply Kd.R_drew)); exact HQ41.out⟩, ⟨by (try simp only [hl7_1]); (try simp only [hl7_2]); (with_reducible repeat (first | refine blk_drewN ?_ _ | refine blk_drew ?_ | refine blk_alloc ?_ _)); refine blk_far ?_ (by have h_ := Kd.R_ne HO_7.out BK140.out (by decide); intro e_; exact h_ (by rw [e_]; rfl)) _; (with_reducible repeat (first | refine blk_drewN ?_ _ | refine blk_drew ?_ | refine blk_alloc ?_ _)); exact BK140.out⟩, ⟨by repeat (first | (with_reducible first | exact HB.out | apply below_alloc | apply pw_below_drewN | apply below_drew1 | refine below_set ?_ GB7.out | refine below_set ?_ GE140.out | refine below_set ?_ GE149.out) | exact HB.out)⟩⟩

end Go.Proofs.Ythmahcohcphljaa.QFnHops
