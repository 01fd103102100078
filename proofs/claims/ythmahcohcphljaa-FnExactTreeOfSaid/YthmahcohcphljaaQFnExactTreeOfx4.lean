/- Contracts of functions that the law reaches: what each call returns and what it leaves in memory. Made by this session over the print of the kit. -/
import Derived.Test.YthmahcohcphljaaQFnExactTreeOfx0
import Derived.Test.YthmahcohcphljaaQFnExactTreeOfx2
import Derived.Test.YthmahcohcphljaaQFnExactTreeOfx3
namespace Go.Proofs.Ythmahcohcphljaa.QFnExactTreeOf
open Go.RowKit Go.Proofs.YthmahcohcphljaaV.PrintWords Go.Proofs.YthmahcohcphljaaV.PrintLast Go.Proofs.YthmahcohcphljaaV.PrintMore
attribute [local go_sem] max2_int min2_int max_two min_two max_three min_three max_four min_four   -- for this text's walks alone
set_option linter.unusedVariables false
set_option linter.unusedSimpArgs false
abbrev tb4 : Bool := true
abbrev fb4 : Bool := false
def ba4_0 : Array Bool := #[fb4,fb4,fb4,fb4,fb4,fb4,fb4,fb4,fb4,fb4,fb4,fb4,fb4,fb4,fb4,fb4,fb4,fb4,fb4,fb4,fb4,fb4,fb4,fb4,fb4,fb4,fb4]
def ba4_1 : Array Bool := #[tb4,fb4,fb4,fb4,fb4,fb4,fb4,fb4,fb4,fb4,fb4,fb4,fb4,fb4,fb4,fb4,fb4,fb4,fb4,fb4,fb4,fb4,fb4,fb4,fb4,fb4,fb4]
def ba4_2 : Array Bool := #[tb4,tb4,fb4,fb4,fb4,fb4,fb4,fb4,fb4,fb4,fb4,fb4,fb4,fb4,fb4,fb4,fb4,fb4,fb4,fb4,fb4,fb4,fb4,fb4,fb4,fb4,fb4]
def ba4_3 : Array Bool := #[tb4,tb4,tb4,fb4,fb4,fb4,fb4,fb4,fb4,fb4,fb4,fb4,fb4,fb4,fb4,fb4,fb4,fb4,fb4,fb4,fb4,fb4,fb4,fb4,fb4,fb4,fb4]
def ba4_4 : Array Bool := #[tb4,tb4,tb4,tb4,fb4,fb4,fb4,fb4,fb4,fb4,fb4,fb4,fb4,fb4,fb4,fb4,fb4,fb4,fb4,fb4,fb4,fb4,fb4,fb4,fb4,fb4,fb4]
def ba4_5 : Array Bool := #[tb4,tb4,tb4,tb4,tb4,fb4,fb4,fb4,fb4,fb4,fb4,fb4,fb4,fb4,fb4,fb4,fb4,fb4,fb4,fb4,fb4,fb4,fb4,fb4,fb4,fb4,fb4]
def ba4_6 : Array Bool := #[tb4,tb4,tb4,tb4,tb4,tb4,fb4,fb4,fb4,fb4,fb4,fb4,fb4,fb4,fb4,fb4,fb4,fb4,fb4,fb4,fb4,fb4,fb4,fb4,fb4,fb4,fb4]
def ba4_7 : Array Bool := #[tb4,tb4,tb4,tb4,tb4,tb4,tb4,fb4,fb4,fb4,fb4,fb4,fb4,fb4,fb4,fb4,fb4,fb4,fb4,fb4,fb4,fb4,fb4,fb4,fb4,fb4,fb4]
def ba4_8 : Array Bool := #[tb4,tb4,tb4,tb4,tb4,tb4,tb4,tb4,fb4,fb4,fb4,fb4,fb4,fb4,fb4,fb4,fb4,fb4,fb4,fb4,fb4,fb4,fb4,fb4,fb4,fb4,fb4]
def ba4_9 : Array Bool := #[tb4,tb4,tb4,tb4,tb4,tb4,tb4,tb4,tb4,fb4,fb4,fb4,fb4,fb4,fb4,fb4,fb4,fb4,fb4,fb4,fb4,fb4,fb4,fb4,fb4,fb4,fb4]
def ba4_10 : Array Bool := #[tb4,tb4,tb4,tb4,tb4,tb4,tb4,tb4,tb4,tb4,fb4,fb4,fb4,fb4,fb4,fb4,fb4,fb4,fb4,fb4,fb4,fb4,fb4,fb4,fb4,fb4,fb4]
def ba4_11 : Array Bool := #[tb4,tb4,tb4,tb4,tb4,tb4,tb4,tb4,tb4,tb4,tb4,fb4,fb4,fb4,fb4,fb4,fb4,fb4,fb4,fb4,fb4,fb4,fb4,fb4,fb4,fb4,fb4]
def ba4_12 : Array Bool := #[tb4,tb4,tb4,tb4,tb4,tb4,tb4,tb4,tb4,tb4,tb4,tb4,fb4,fb4,fb4,fb4,fb4,fb4,fb4,fb4,fb4,fb4,fb4,fb4,fb4,fb4,fb4]
def ba4_13 : Array Bool := #[tb4,tb4,tb4,tb4,tb4,tb4,tb4,tb4,tb4,tb4,tb4,tb4,tb4,fb4,fb4,fb4,fb4,fb4,fb4,fb4,fb4,fb4,fb4,fb4,fb4,fb4,fb4]
def ba4_14 : Array Bool := #[tb4,tb4,tb4,tb4,tb4,tb4,tb4,tb4,tb4,tb4,tb4,tb4,tb4,tb4,fb4,fb4,fb4,fb4,fb4,fb4,fb4,fb4,fb4,fb4,fb4,fb4,fb4]
def ba4_15 : Array Bool := #[tb4,tb4,tb4,tb4,tb4,tb4,tb4,tb4,tb4,tb4,tb4,tb4,tb4,tb4,tb4,fb4,fb4,fb4,fb4,fb4,fb4,fb4,fb4,fb4,fb4,fb4,fb4]
def ba4_16 : Array Bool := #[tb4,tb4,tb4,tb4,tb4,tb4,tb4,tb4,tb4,tb4,tb4,tb4,tb4,tb4,tb4,tb4,fb4,fb4,fb4,fb4,fb4,fb4,fb4,fb4,fb4,fb4,fb4]
def ba4_17 : Array Bool := #[tb4,tb4,tb4,tb4,tb4,tb4,tb4,tb4,tb4,tb4,tb4,tb4,tb4,tb4,tb4,tb4,tb4,fb4,fb4,fb4,fb4,fb4,fb4,fb4,fb4,fb4,fb4]
def ba4_18 : Array Bool := #[tb4,tb4,tb4,tb4,tb4,tb4,tb4,tb4,tb4,tb4,tb4,tb4,tb4,tb4,tb4,tb4,tb4,tb4,fb4,fb4,fb4,fb4,fb4,fb4,fb4,fb4,fb4]
def ba4_19 : Array Bool := #[tb4,tb4,tb4,tb4,tb4,tb4,tb4,tb4,tb4,tb4,tb4,tb4,tb4,tb4,tb4,tb4,tb4,tb4,tb4,fb4,fb4,fb4,fb4,fb4,fb4,fb4,fb4]
def ba4_20 : Array Bool := #[tb4,tb4,tb4,tb4,tb4,tb4,tb4,tb4,tb4,tb4,tb4,tb4,tb4,tb4,tb4,tb4,tb4,tb4,tb4,tb4,fb4,fb4,fb4,fb4,fb4,fb4,fb4]
def ba4_21 : Array Bool := #[tb4,tb4,tb4,tb4,tb4,tb4,tb4,tb4,tb4,tb4,tb4,tb4,tb4,tb4,tb4,tb4,tb4,tb4,tb4,tb4,tb4,fb4,fb4,fb4,fb4,fb4,fb4]
def ba4_22 : Array Bool := #[tb4,tb4,tb4,tb4,tb4,tb4,tb4,tb4,tb4,tb4,tb4,tb4,tb4,tb4,tb4,tb4,tb4,tb4,tb4,tb4,tb4,tb4,fb4,fb4,fb4,fb4,fb4]
def ba4_23 : Array Bool := #[tb4,tb4,tb4,tb4,tb4,tb4,tb4,tb4,tb4,tb4,tb4,tb4,tb4,tb4,tb4,tb4,tb4,tb4,tb4,tb4,tb4,tb4,tb4,fb4,fb4,fb4,fb4]
def ba4_24 : Array Bool := #[tb4,tb4,tb4,tb4,tb4,tb4,tb4,tb4,tb4,tb4,tb4,tb4,tb4,tb4,tb4,tb4,tb4,tb4,tb4,tb4,tb4,tb4,tb4,tb4,fb4,fb4,fb4]
def ba4_25 : Array Bool := #[tb4,tb4,tb4,tb4,tb4,tb4,tb4,tb4,tb4,tb4,tb4,tb4,tb4,tb4,tb4,tb4,tb4,tb4,tb4,tb4,tb4,tb4,tb4,tb4,tb4,fb4,fb4]
def ba4_26 : Array Bool := #[tb4,tb4,tb4,tb4,tb4,tb4,tb4,tb4,tb4,tb4,tb4,tb4,tb4,tb4,tb4,tb4,tb4,tb4,tb4,tb4,tb4,tb4,tb4,tb4,tb4,tb4,fb4]
def ba4_27 : Array Bool := #[tb4,tb4,tb4,tb4,tb4,tb4,tb4,tb4,tb4,tb4,tb4,tb4,tb4,tb4,tb4,tb4,tb4,tb4,tb4,tb4,tb4,tb4,tb4,tb4,tb4,tb4,tb4]
def ba4_28 : Array Bool := #[tb4,tb4,tb4,tb4,tb4,tb4,tb4,tb4,tb4,tb4,tb4,tb4,tb4,tb4,tb4,tb4,tb4,tb4,tb4,fb4,tb4,fb4,fb4,fb4,fb4,fb4,fb4]
def ba4_29 : Array Bool := #[tb4,tb4,tb4,tb4,tb4,tb4,tb4,tb4,tb4,tb4,tb4,tb4,tb4,tb4,tb4,tb4,tb4,tb4,tb4,fb4,tb4,tb4,fb4,fb4,fb4,fb4,fb4]
def ba4_30 : Array Bool := #[tb4,tb4,tb4,tb4,tb4,tb4,tb4,tb4,tb4,tb4,tb4,tb4,tb4,tb4,tb4,tb4,tb4,tb4,tb4,fb4,tb4,tb4,tb4,fb4,fb4,fb4,fb4]
def ba4_31 : Array Bool := #[tb4,tb4,tb4,tb4,tb4,tb4,tb4,tb4,tb4,tb4,tb4,tb4,tb4,tb4,tb4,tb4,tb4,tb4,tb4,fb4,fb4,tb4,fb4,fb4,fb4,fb4,fb4]
def ba4_32 : Array Bool := #[tb4,tb4,tb4,tb4,tb4,tb4,tb4,tb4,tb4,tb4,tb4,tb4,tb4,tb4,tb4,tb4,tb4,tb4,tb4,fb4,fb4,tb4,tb4,fb4,fb4,fb4,fb4]
def ba4_33 : Array Bool := #[tb4,tb4,tb4,tb4,tb4,tb4,tb4,tb4,tb4,tb4,tb4,tb4,tb4,tb4,tb4,tb4,tb4,tb4,tb4,fb4,fb4,tb4,tb4,tb4,fb4,fb4,fb4]
def ba4_34 : Array Bool := #[tb4,tb4,tb4,tb4,tb4,tb4,tb4,tb4,tb4,tb4,tb4,tb4,tb4,tb4,tb4,tb4,tb4,tb4,tb4,tb4,fb4,tb4,tb4,tb4,fb4,fb4,fb4]
def ba4_35 : Array Bool := #[fb4,fb4,fb4,fb4,fb4,fb4,fb4,fb4,fb4,fb4,fb4,fb4,fb4]
def ba4_36 : Array Bool := #[tb4,fb4,fb4,fb4,fb4,fb4,fb4,fb4,fb4,fb4,fb4,fb4,fb4]
def ba4_37 : Array Bool := #[tb4,tb4,fb4,fb4,fb4,fb4,fb4,fb4,fb4,fb4,fb4,fb4,fb4]
def ba4_38 : Array Bool := #[tb4,tb4,tb4,fb4,fb4,fb4,fb4,fb4,fb4,fb4,fb4,fb4,fb4]
def ba4_39 : Array Bool := #[tb4,tb4,tb4,tb4,fb4,fb4,fb4,fb4,fb4,fb4,fb4,fb4,fb4]
def ba4_40 : Array Bool := #[tb4,tb4,tb4,tb4,tb4,fb4,fb4,fb4,fb4,fb4,fb4,fb4,fb4]
def ba4_41 : Array Bool := #[tb4,tb4,tb4,tb4,tb4,fb4,tb4,fb4,fb4,fb4,fb4,fb4,fb4]
def ba4_42 : Array Bool := #[tb4,tb4,tb4,tb4,tb4,fb4,tb4,tb4,fb4,fb4,fb4,fb4,fb4]
def ba4_43 : Array Bool := #[tb4,tb4,tb4,tb4,tb4,fb4,tb4,tb4,tb4,fb4,fb4,fb4,fb4]
def ba4_44 : Array Bool := #[tb4,tb4,tb4,tb4,tb4,tb4,tb4,tb4,tb4,fb4,fb4,fb4,fb4]
def ba4_45 : Array Bool := #[tb4,tb4,tb4,tb4,tb4,tb4,tb4,tb4,tb4,tb4,fb4,fb4,fb4]
def ba4_46 : Array Bool := #[tb4,tb4,tb4,tb4,tb4,tb4,tb4,tb4,tb4,tb4,tb4,fb4,fb4]
def ba4_47 : Array Bool := #[tb4,tb4,tb4,tb4,tb4,tb4,tb4,tb4,tb4,tb4,tb4,tb4,fb4]
def ba4_48 : Array Bool := #[tb4,tb4,tb4,tb4,tb4,tb4,tb4,tb4,tb4,tb4,tb4,tb4,tb4]
def ba4_49 : Array Bool := #[fb4,fb4,fb4,fb4,fb4,fb4,fb4,fb4,fb4,fb4,fb4,fb4,fb4,fb4,fb4,fb4,fb4]
def ba4_50 : Array Bool := #[tb4,fb4,fb4,fb4,fb4,fb4,fb4,fb4,fb4,fb4,fb4,fb4,fb4,fb4,fb4,fb4,fb4]
def ba4_51 : Array Bool := #[tb4,tb4,fb4,fb4,fb4,fb4,fb4,fb4,fb4,fb4,fb4,fb4,fb4,fb4,fb4,fb4,fb4]
def ba4_52 : Array Bool := #[tb4,tb4,tb4,fb4,fb4,fb4,fb4,fb4,fb4,fb4,fb4,fb4,fb4,fb4,fb4,fb4,fb4]
def ba4_53 : Array Bool := #[tb4,tb4,tb4,tb4,fb4,fb4,fb4,fb4,fb4,fb4,fb4,fb4,fb4,fb4,fb4,fb4,fb4]
def ba4_54 : Array Bool := #[tb4,tb4,tb4,tb4,tb4,fb4,fb4,fb4,fb4,fb4,fb4,fb4,fb4,fb4,fb4,fb4,fb4]
def ba4_55 : Array Bool := #[tb4,tb4,tb4,tb4,tb4,tb4,fb4,fb4,fb4,fb4,fb4,fb4,fb4,fb4,fb4,fb4,fb4]
def ba4_56 : Array Bool := #[tb4,tb4,tb4,tb4,tb4,tb4,tb4,fb4,fb4,fb4,fb4,fb4,fb4,fb4,fb4,fb4,fb4]
def ba4_57 : Array Bool := #[tb4,tb4,tb4,tb4,tb4,tb4,tb4,tb4,fb4,fb4,fb4,fb4,fb4,fb4,fb4,fb4,fb4]
def ba4_58 : Array Bool := #[tb4,tb4,tb4,tb4,tb4,tb4,tb4,tb4,tb4,fb4,fb4,fb4,fb4,fb4,fb4,fb4,fb4]
def ba4_59 : Array Bool := #[tb4,tb4,tb4,tb4,tb4,tb4,tb4,tb4,tb4,tb4,fb4,fb4,fb4,fb4,fb4,fb4,fb4]
def ba4_60 : Array Bool := #[tb4,tb4,tb4,tb4,tb4,tb4,tb4,tb4,tb4,tb4,tb4,fb4,fb4,fb4,fb4,fb4,fb4]
def ba4_61 : Array Bool := #[tb4,tb4,tb4,tb4,tb4,tb4,tb4,tb4,tb4,tb4,tb4,tb4,fb4,fb4,fb4,fb4,fb4]
def ba4_62 : Array Bool := #[tb4,tb4,tb4,tb4,tb4,tb4,tb4,tb4,tb4,tb4,tb4,tb4,tb4,fb4,fb4,fb4,fb4]
def ba4_63 : Array Bool := #[tb4,tb4,tb4,tb4,tb4,tb4,tb4,tb4,tb4,tb4,tb4,tb4,tb4,tb4,fb4,fb4,fb4]
def ba4_64 : Array Bool := #[tb4,tb4,tb4,tb4,tb4,tb4,tb4,tb4,tb4,tb4,tb4,tb4,tb4,tb4,tb4,fb4,fb4]
def ba4_65 : Array Bool := #[tb4,tb4,tb4,tb4,tb4,tb4,tb4,tb4,tb4,tb4,tb4,tb4,tb4,tb4,tb4,tb4,fb4]
def ba4_66 : Array Bool := #[tb4,tb4,tb4,tb4,tb4,tb4,tb4,tb4,tb4,tb4,tb4,tb4,tb4,tb4,tb4,tb4,tb4]
def ba4_67 : Array Bool := #[tb4,tb4,tb4,tb4,tb4,tb4,tb4,tb4,tb4,fb4,fb4,tb4,fb4,fb4,fb4,fb4,fb4]
def ba4_68 : Array Bool := #[tb4,tb4,tb4,tb4,tb4,tb4,tb4,tb4,tb4,fb4,fb4,tb4,tb4,fb4,fb4,fb4,fb4]
def ba4_69 : Array Bool := #[tb4,tb4,tb4,tb4,tb4,tb4,tb4,tb4,tb4,fb4,fb4,tb4,tb4,tb4,fb4,fb4,fb4]
def ba4_70 : Array Bool := #[tb4,tb4,tb4,tb4,tb4,tb4,tb4,tb4,tb4,tb4,fb4,tb4,tb4,tb4,fb4,fb4,fb4]

/-! ### spec_l03Steps: function 71 -/
mutual
def spec_l03Steps.l0 : Nat → Int → List Int → Int → Int → List (S76) → Option (List Int × List Int)
 | 0, _, _, _, _, _ => none
 | k + 1, x1, x6, x7, x138000, x138001 => if x7 < x138000 then ((spec_Distances.f k x138000 x138001 x7).bind fun t141 => (if 0 ≤ x1 then (if x1 < (t141.length : Int) then (if x6.length < 17592186044416 then (spec_l03Steps.l0 k x1 (x6 ++ [rd t141 x1]) (wrap64 (x7 + 1)) x138000 x138001) else (none)) else (none)) else (none))) else (if 0 ≤ x138000 then (if (x138000 : Int).toNat ≤ 35184372088832 then (if (x138000 : Int).toNat ≤ 281474976710656 then (spec_l03Steps.l1 k x1 x6 (List.replicate (x138000 : Int).toNat 0) (List.replicate (x138000 : Int).toNat 0) (List.replicate (x138000 : Int).toNat false) 0 x138000 x138001) else (none)) else (none)) else (none))
def spec_l03Steps.l1 : Nat → Int → List Int → List Int → List Int → List Bool → Int → Int → List (S76) → Option (List Int × List Int)
 | 0, _, _, _, _, _, _, _, _ => none
 | k + 1, x1, x6, x8, x9, x10, x11, x138000, x138001 => if x11 < x138000 then (spec_l03Steps.l2 k x1 x6 x8 x9 x10 x11 (-1) 0 x138000 x138001) else (some (x8, x9))
def spec_l03Steps.l2 : Nat → Int → List Int → List Int → List Int → List Bool → Int → Int → Int → Int → List (S76) → Option (List Int × List Int)
 | 0, _, _, _, _, _, _, _, _, _, _ => none
 | k + 1, x1, x6, x8, x9, x10, x11, x12, x13, x138000, x138001 => if x13 < x138000 then (if 0 ≤ x13 then (if x13 < (x10.length : Int) then (if rdOf false x10 x13 = true then (spec_l03Steps.l2 k x1 x6 x8 x9 x10 x11 x12 (wrap64 (x13 + 1)) x138000 x138001) else (if x13 < (x6.length : Int) then (if (rd x6 x13) < 1000000 then (if x12 < 0 then (spec_l03Steps.l2 k x1 x6 x8 x9 x10 x11 x13 (wrap64 (x13 + 1)) x138000 x138001) else (if 0 ≤ x12 then (if x12 < (x6.length : Int) then (if (rd x6 x13) < (rd x6 x12) then (spec_l03Steps.l2 k x1 x6 x8 x9 x10 x11 x13 (wrap64 (x13 + 1)) x138000 x138001) else (spec_l03Steps.l2 k x1 x6 x8 x9 x10 x11 x12 (wrap64 (x13 + 1)) x138000 x138001)) else (none)) else (none))) else (spec_l03Steps.l2 k x1 x6 x8 x9 x10 x11 x12 (wrap64 (x13 + 1)) x138000 x138001)) else (none))) else (none)) else (none)) else (if x12 < 0 then (some (x8, x9)) else (if 0 ≤ x12 then (if x12 < (x10.length : Int) then ((some (x10.set (x12 : Int).toNat true : List Bool)).bind fun y161 => (if x12 = x1 then (if x12 < (x8.length : Int) then (if x12 < (x9.length : Int) then (spec_l03Steps.l1 k x1 x6 (x8.set (x12 : Int).toNat 1) (x9.set (x12 : Int).toNat 1) y161 (wrap64 (x11 + 1)) x138000 x138001) else (none)) else (none)) else (spec_l03Steps.l3 k x1 x6 x8 x9 y161 x11 x12 0 x138000 x138001))) else (none)) else (none)))
def spec_l03Steps.l3 : Nat → Int → List Int → List Int → List Int → List Bool → Int → Int → Int → Int → List (S76) → Option (List Int × List Int)
 | 0, _, _, _, _, _, _, _, _, _, _ => none
 | k + 1, x1, x6, x8, x9, x10, x11, x12, x14, x138000, x138001 => if x14 < x138000 then ((spec_l03Cost.f k x138000 x138001 x12 x14).bind fun t164 => (if x14 = x12 then (spec_l03Steps.j4 k x1 x6 x8 x9 x10 x11 x12 x14 true x138000 x138001) else (if t164 = 1000000 then (spec_l03Steps.j4 k x1 x6 x8 x9 x10 x11 x12 x14 true x138000 x138001) else (if 0 ≤ x14 then (if x14 < (x6.length : Int) then (if (rd x6 x14) = 1000000 then (spec_l03Steps.j4 k x1 x6 x8 x9 x10 x11 x12 x14 true x138000 x138001) else (if 0 ≤ x12 then (if x12 < (x6.length : Int) then (spec_l03Steps.j4 k x1 x6 x8 x9 x10 x11 x12 x14 ((wrap64 (t164 + (rd x6 x14))) != (rd x6 x12)) x138000 x138001) else (none)) else (none))) else (none)) else (none))))) else (spec_l03Steps.l1 k x1 x6 x8 x9 x10 (wrap64 (x11 + 1)) x138000 x138001)
def spec_l03Steps.j4 : Nat → Int → List Int → List Int → List Int → List Bool → Int → Int → Int → Bool → Int → List (S76) → Option (List Int × List Int)
 | 0, _, _, _, _, _, _, _, _, _, _, _ => none
 | k + 1, x1, x6, x8, x9, x10, x11, x12, x14, x131, x138000, x138001 => if x131 = true then (spec_l03Steps.l3 k x1 x6 x8 x9 x10 x11 x12 (wrap64 (x14 + 1)) x138000 x138001) else (if 0 ≤ x12 then (if x12 < (x9.length : Int) then (if 0 ≤ x14 then (if x14 < (x9.length : Int) then ((some (x9.set (x12 : Int).toNat (wrap64 ((rd x9 x12) + (rd x9 x14))) : List Int)).bind fun y170 => (if x12 < (x8.length : Int) then (if (rd x8 x12) = 0 then (if x14 < (x8.length : Int) then (spec_l03Steps.l3 k x1 x6 (x8.set (x12 : Int).toNat (wrap64 ((rd x8 x14) + 1))) y170 x10 x11 x12 (wrap64 (x14 + 1)) x138000 x138001) else (none)) else (if x14 < (x8.length : Int) then (if (wrap64 ((rd x8 x14) + 1)) < (rd x8 x12) then (spec_l03Steps.l3 k x1 x6 (x8.set (x12 : Int).toNat (wrap64 ((rd x8 x14) + 1))) y170 x10 x11 x12 (wrap64 (x14 + 1)) x138000 x138001) else (spec_l03Steps.l3 k x1 x6 x8 y170 x10 x11 x12 (wrap64 (x14 + 1)) x138000 x138001)) else (none))) else (none))) else (none)) else (none)) else (none)) else (none))
end
def spec_l03Steps.f (k : Nat) (a0_0 : Int) (l0_1 : List (S76)) (a1 : Int) : Option (List Int × List Int) := spec_l03Steps.l0 k a1 (([] : List Int)) 0 a0_0 l0_1
theorem spec_l03Steps.mono_l : ∀ k, (∀ y0 y1 y2 y3 y4, LeO (spec_l03Steps.l0 k y0 y1 y2 y3 y4) (spec_l03Steps.l0 (k + 1) y0 y1 y2 y3 y4)) ∧ (∀ y0 y1 y2 y3 y4 y5 y6 y7, LeO (spec_l03Steps.l1 k y0 y1 y2 y3 y4 y5 y6 y7) (spec_l03Steps.l1 (k + 1) y0 y1 y2 y3 y4 y5 y6 y7)) ∧ (∀ y0 y1 y2 y3 y4 y5 y6 y7 y8 y9, LeO (spec_l03Steps.l2 k y0 y1 y2 y3 y4 y5 y6 y7 y8 y9) (spec_l03Steps.l2 (k + 1) y0 y1 y2 y3 y4 y5 y6 y7 y8 y9)) ∧ (∀ y0 y1 y2 y3 y4 y5 y6 y7 y8 y9, LeO (spec_l03Steps.l3 k y0 y1 y2 y3 y4 y5 y6 y7 y8 y9) (spec_l03Steps.l3 (k + 1) y0 y1 y2 y3 y4 y5 y6 y7 y8 y9)) ∧ (∀ y0 y1 y2 y3 y4 y5 y6 y7 y8 y9 y10, LeO (spec_l03Steps.j4 k y0 y1 y2 y3 y4 y5 y6 y7 y8 y9 y10) (spec_l03Steps.j4 (k + 1) y0 y1 y2 y3 y4 y5 y6 y7 y8 y9 y10))
 | 0 => ⟨fun _ _ _ _ _ r h => by simp [spec_l03Steps.l0] at h, fun _ _ _ _ _ _ _ _ r h => by simp [spec_l03Steps.l1] at h, fun _ _ _ _ _ _ _ _ _ _ r h => by simp [spec_l03Steps.l2] at h, fun _ _ _ _ _ _ _ _ _ _ r h => by simp [spec_l03Steps.l3] at h, fun _ _ _ _ _ _ _ _ _ _ _ r h => by simp [spec_l03Steps.j4] at h⟩
 | k + 1 => by
  obtain ⟨ih0, ih1, ih2, ih3, ih4⟩ := spec_l03Steps.mono_l k
  refine ⟨?_, ?_, ?_, ?_, ?_⟩
  ·intro y0 y1 y2 y3 y4
   unfold spec_l03Steps.l0
   repeat' first
   | (with_reducible exact ih0 _ _ _ _ _)
   | (with_reducible exact ih1 _ _ _ _ _ _ _ _)
   | (with_reducible exact ih2 _ _ _ _ _ _ _ _ _ _)
   | (with_reducible exact ih3 _ _ _ _ _ _ _ _ _ _)
   | (with_reducible exact ih4 _ _ _ _ _ _ _ _ _ _ _)
   | (with_reducible exact spec_Distances.mono _ _ _ _)
   | (with_reducible exact spec_l03Cost.mono _ _ _ _ _)
   | (with_reducible exact LeO.refl _)
   | (with_reducible exact LeO.none _)
   | (with_reducible refine LeO.ite ?_ ?_)
   | (with_reducible refine LeO.bind ?_ (fun _ => ?_))
   | exact ih0 _ _ _ _ _
   | exact ih1 _ _ _ _ _ _ _ _
   | exact ih2 _ _ _ _ _ _ _ _ _ _
   | exact ih3 _ _ _ _ _ _ _ _ _ _
   | exact ih4 _ _ _ _ _ _ _ _ _ _ _
   | exact spec_Distances.mono _ _ _ _
   | exact spec_l03Cost.mono _ _ _ _ _
   | exact LeO.none _
   | refine LeO.ite ?_ ?_
   | refine LeO.bind ?_ (fun _ => ?_)
  ·intro y0 y1 y2 y3 y4 y5 y6 y7
   unfold spec_l03Steps.l1
   repeat' first
   | (with_reducible exact ih0 _ _ _ _ _)
   | (with_reducible exact ih1 _ _ _ _ _ _ _ _)
   | (with_reducible exact ih2 _ _ _ _ _ _ _ _ _ _)
   | (with_reducible exact ih3 _ _ _ _ _ _ _ _ _ _)
   | (with_reducible exact ih4 _ _ _ _ _ _ _ _ _ _ _)
   | (with_reducible exact spec_Distances.mono _ _ _ _)
   | (with_reducible exact spec_l03Cost.mono _ _ _ _ _)
   | (with_reducible exact LeO.refl _)
   | (with_reducible exact LeO.none _)
   | (with_reducible refine LeO.ite ?_ ?_)
   | (with_reducible refine LeO.bind ?_ (fun _ => ?_))
   | exact ih0 _ _ _ _ _
   | exact ih1 _ _ _ _ _ _ _ _
   | exact ih2 _ _ _ _ _ _ _ _ _ _
   | exact ih3 _ _ _ _ _ _ _ _ _ _
   | exact ih4 _ _ _ _ _ _ _ _ _ _ _
   | exact spec_Distances.mono _ _ _ _
   | exact spec_l03Cost.mono _ _ _ _ _
   | exact LeO.none _
   | refine LeO.ite ?_ ?_
   | refine LeO.bind ?_ (fun _ => ?_)
  ·intro y0 y1 y2 y3 y4 y5 y6 y7 y8 y9
   unfold spec_l03Steps.l2
   repeat' first
   | (with_reducible exact ih0 _ _ _ _ _)
   | (with_reducible exact ih1 _ _ _ _ _ _ _ _)
   | (with_reducible exact ih2 _ _ _ _ _ _ _ _ _ _)
   | (with_reducible exact ih3 _ _ _ _ _ _ _ _ _ _)
   | (with_reducible exact ih4 _ _ _ _ _ _ _ _ _ _ _)
   | (with_reducible exact spec_Distances.mono _ _ _ _)
   | (with_reducible exact spec_l03Cost.mono _ _ _ _ _)
   | (with_reducible exact LeO.refl _)
   | (with_reducible exact LeO.none _)
   | (with_reducible refine LeO.ite ?_ ?_)
   | (with_reducible refine LeO.bind ?_ (fun _ => ?_))
   | exact ih0 _ _ _ _ _
   | exact ih1 _ _ _ _ _ _ _ _
   | exact ih2 _ _ _ _ _ _ _ _ _ _
   | exact ih3 _ _ _ _ _ _ _ _ _ _
   | exact ih4 _ _ _ _ _ _ _ _ _ _ _
   | exact spec_Distances.mono _ _ _ _
   | exact spec_l03Cost.mono _ _ _ _ _
   | exact LeO.none _
   | refine LeO.ite ?_ ?_
   | refine LeO.bind ?_ (fun _ => ?_)
  ·intro y0 y1 y2 y3 y4 y5 y6 y7 y8 y9
   unfold spec_l03Steps.l3
   repeat' first
   | (with_reducible exact ih0 _ _ _ _ _)
   | (with_reducible exact ih1 _ _ _ _ _ _ _ _)
   | (with_reducible exact ih2 _ _ _ _ _ _ _ _ _ _)
   | (with_reducible exact ih3 _ _ _ _ _ _ _ _ _ _)
   | (with_reducible exact ih4 _ _ _ _ _ _ _ _ _ _ _)
   | (with_reducible exact spec_Distances.mono _ _ _ _)
   | (with_reducible exact spec_l03Cost.mono _ _ _ _ _)
   | (with_reducible exact LeO.refl _)
   | (with_reducible exact LeO.none _)
   | (with_reducible refine LeO.ite ?_ ?_)
   | (with_reducible refine LeO.bind ?_ (fun _ => ?_))
   | exact ih0 _ _ _ _ _
   | exact ih1 _ _ _ _ _ _ _ _
   | exact ih2 _ _ _ _ _ _ _ _ _ _
   | exact ih3 _ _ _ _ _ _ _ _ _ _
   | exact ih4 _ _ _ _ _ _ _ _ _ _ _
   | exact spec_Distances.mono _ _ _ _
   | exact spec_l03Cost.mono _ _ _ _ _
   | exact LeO.none _
   | refine LeO.ite ?_ ?_
   | refine LeO.bind ?_ (fun _ => ?_)
  ·intro y0 y1 y2 y3 y4 y5 y6 y7 y8 y9 y10
   unfold spec_l03Steps.j4
   repeat' first
   | (with_reducible exact ih0 _ _ _ _ _)
   | (with_reducible exact ih1 _ _ _ _ _ _ _ _)
   | (with_reducible exact ih2 _ _ _ _ _ _ _ _ _ _)
   | (with_reducible exact ih3 _ _ _ _ _ _ _ _ _ _)
   | (with_reducible exact ih4 _ _ _ _ _ _ _ _ _ _ _)
   | (with_reducible exact spec_Distances.mono _ _ _ _)
   | (with_reducible exact spec_l03Cost.mono _ _ _ _ _)
   | (with_reducible exact LeO.refl _)
   | (with_reducible exact LeO.none _)
   | (with_reducible refine LeO.ite ?_ ?_)
   | (with_reducible refine LeO.bind ?_ (fun _ => ?_))
   | exact ih0 _ _ _ _ _
   | exact ih1 _ _ _ _ _ _ _ _
   | exact ih2 _ _ _ _ _ _ _ _ _ _
   | exact ih3 _ _ _ _ _ _ _ _ _ _
   | exact ih4 _ _ _ _ _ _ _ _ _ _ _
   | exact spec_Distances.mono _ _ _ _
   | exact spec_l03Cost.mono _ _ _ _ _
   | exact LeO.none _
   | refine LeO.ite ?_ ?_
   | refine LeO.bind ?_ (fun _ => ?_)
theorem spec_l03Steps.mono : ∀ a0 a1 a2 k, LeO (spec_l03Steps.f k a0 a1 a2) (spec_l03Steps.f (k + 1) a0 a1 a2) := by
 intro a0 a1 a2 k
 obtain ⟨ih0, ih1, ih2, ih3, ih4⟩ := spec_l03Steps.mono_l k
 unfold spec_l03Steps.f
 repeat' first
   | (with_reducible exact ih0 _ _ _ _ _)
   | (with_reducible exact ih1 _ _ _ _ _ _ _ _)
   | (with_reducible exact ih2 _ _ _ _ _ _ _ _ _ _)
   | (with_reducible exact ih3 _ _ _ _ _ _ _ _ _ _)
   | (with_reducible exact ih4 _ _ _ _ _ _ _ _ _ _ _)
   | (with_reducible exact spec_Distances.mono _ _ _ _)
   | (with_reducible exact spec_l03Cost.mono _ _ _ _ _)
   | (with_reducible exact LeO.refl _)
   | (with_reducible exact LeO.none _)
   | (with_reducible refine LeO.ite ?_ ?_)
   | (with_reducible refine LeO.bind ?_ (fun _ => ?_))
   | exact ih0 _ _ _ _ _
   | exact ih1 _ _ _ _ _ _ _ _
   | exact ih2 _ _ _ _ _ _ _ _ _ _
   | exact ih3 _ _ _ _ _ _ _ _ _ _
   | exact ih4 _ _ _ _ _ _ _ _ _ _ _
   | exact spec_Distances.mono _ _ _ _
   | exact spec_l03Cost.mono _ _ _ _ _
   | exact LeO.none _
   | refine LeO.ite ?_ ?_
   | refine LeO.bind ?_ (fun _ => ?_)
def spec_l03Steps.T16 : Bool × List (List Nat × List Nat) := (true, [([], []), ([], []), ([0, 1], [0, 1]), ([2], [2]), ([3], [3]), ([4], [4]), ([5], [5]), ([5], [5]), ([6, 7, 5], [5, 6, 7]), ([8, 5], [5, 8]), ([9, 5], [5, 9]), ([5, 10], [5, 10]), ([11, 5], [11]), ([12], [12]), ([13, 12], [12, 13]), ([14, 12, 12], [12, 14]), ([15], [15]), ([15], [15]), ([16, 17, 15], [15, 16, 17]), ([18, 15], [15, 18]), ([15], [15]), ([15], [15]), ([20, 21, 15], [15, 20, 21]), ([22, 15], [15, 22]), ([19, 23, 15], [15, 19, 23]), ([15, 24, 12], [12, 15, 24]), ([12, 25], [12, 25])])
def spec_l03Steps.B16 : List Nat := [0, 0, 3, 7, 15, 31, 63, 63, 255, 511, 1023, 2047, 4095, 8191, 16383, 32767, 65535, 65535, 262143, 524287, 65535, 65535, 3211263, 7405567, 16777215, 33554431, 67108863]
theorem spec_l03Steps.tab16 : rtab .any (opsOf Try.f71 16) = spec_l03Steps.T16 := by kernel_rfl
theorem spec_l03Steps.bits16 : waitsOk spec_l03Steps.T16.2 spec_l03Steps.B16 = true := by kernel_rfl
def spec_l03Steps.T27 : Bool × List (List Nat × List Nat) := (true, [([], []), ([], []), ([0, 1], [0, 1]), ([2], [2]), ([3], [3]), ([4, 3], [3, 4]), ([3, 5], [3, 5]), ([6, 3], [6]), ([7], [7]), ([7], [7]), ([8, 9, 7], [7, 8, 9]), ([10, 7], [7, 10]), ([11, 7], [7, 11]), ([7, 12], [7, 12]), ([13, 7], [13]), ([14], [14]), ([14], [14]), ([14], [14]), ([16, 17, 14], [14, 16, 17]), ([18, 14], [14, 18]), ([15, 19, 14], [14, 15, 19]), ([14], [14]), ([14], [14]), ([21, 22, 14], [14, 21, 22]), ([23, 14], [14, 23]), ([20, 24, 14], [14, 20, 24]), ([14, 25], [14, 25])])
def spec_l03Steps.B27 : List Nat := [0, 0, 3, 7, 15, 31, 63, 127, 255, 255, 1023, 2047, 4095, 8191, 16383, 32767, 32767, 32767, 229375, 491519, 1048575, 32767, 32767, 6324223, 14712831, 33554431, 67108863]
theorem spec_l03Steps.tab27 : rtab .any (opsOf Try.f71 27) = spec_l03Steps.T27 := by kernel_rfl
theorem spec_l03Steps.bits27 : waitsOk spec_l03Steps.T27.2 spec_l03Steps.B27 = true := by kernel_rfl
def spec_l03Steps.T28 : Bool × List (List Nat × List Nat) := (true, [([], []), ([], []), ([], []), ([], []), ([2, 3], [2, 3]), ([4], [4]), ([], []), ([], []), ([6, 7], [6, 7]), ([8], [8]), ([5, 9], [5, 9]), ([0, 1, 0, 1, 2, 3, 4, 5, 6, 7, 8, 9, 10], [0, 1]), ([11, 10, 0, 1, 2, 3, 4, 5, 6, 7, 8, 9, 10], [10, 11])])
def spec_l03Steps.B28 : List Nat := [0, 0, 0, 0, 12, 28, 0, 0, 192, 448, 1020, 2047, 4095]
theorem spec_l03Steps.tab28 : rtab .any (opsOf Try.f71 28) = spec_l03Steps.T28 := by kernel_rfl
theorem spec_l03Steps.bits28 : waitsOk spec_l03Steps.T28.2 spec_l03Steps.B28 = true := by kernel_rfl
def spec_l03Steps.T29 : Bool × List (List Nat × List Nat) := (true, [([], []), ([], []), ([0, 1], [0, 1]), ([2], [2]), ([3], [3]), ([4], [4]), ([5], [5]), ([5], [5]), ([6, 7, 5], [5, 6, 7]), ([8, 5], [5, 8]), ([9, 5], [5, 9]), ([5], [5]), ([5], [5]), ([11, 12, 5], [5, 11, 12]), ([13, 5], [5, 13]), ([10, 14, 5], [5, 10, 14]), ([5, 15], [5, 15])])
def spec_l03Steps.B29 : List Nat := [0, 0, 3, 7, 15, 31, 63, 63, 255, 511, 1023, 63, 63, 6207, 14399, 32767, 65535]
theorem spec_l03Steps.tab29 : rtab .any (opsOf Try.f71 29) = spec_l03Steps.T29 := by kernel_rfl
theorem spec_l03Steps.bits29 : waitsOk spec_l03Steps.T29.2 spec_l03Steps.B29 = true := by kernel_rfl
set_option maxHeartbeats 8000000 in
set_option maxRecDepth 100000 in
theorem spec_l03Steps.calls (k : Nat) (a0_0 : Int) (A0_1 : Option Addr) (c0_1 : Nat) (l0_1 : List (S76)) (a1 : Int) (r1 : List Int) (r2 : List Int) (w : World) (hr0_1 : Kd.C k76 w A0_1 l0_1.length l0_1) (hc0_1 : l0_1.length ≤ c0_1) (h : spec_l03Steps.f k a0_0 l0_1 a1 = some (r1, r2)) :
  Calls Try.prog 71 #[.agg #[.int .i64 a0_0, .slice A0_1 l0_1.length c0_1], .int .i64 a1] w fun e w' => ∃ v0_ v1_ : Value, e = .returned (.tuple #[v0_, v1_]) ∧ Kd.R (Kd.int .i64) 3 w' w.heap.size (fun k_ => some k_ ≠ (v1_ : Value).ownBlock) v0_ r1 ∧ Kd.R (Kd.int .i64) 3 w' w.heap.size (fun k_ => some k_ ≠ (v0_ : Value).ownBlock) v1_ r2 ∧ Below w.heap.size w w' := by
 have hu30 := Try.underlying30
 have HR0_1 := Aside0.mk hr0_1
 have HC0_1 := Aside0.mk hc0_1
 clear hr0_1 hc0_1
 have HB := Aside0.mk (Below.refl w.heap.size w)
 have H : (spec_l03Steps.l0 k a1 (([] : List Int)) 0 a0_0 l0_1) = some (r1, r2) := h
 clear h
 obtain ⟨y138, hy138⟩ : ∃ y_ : List Int, y_ = (([] : List Int)) := ⟨_, rfl⟩
 replace H : (spec_l03Steps.l0 k a1 y138 0 a0_0 l0_1) = some (r1, r2) := by first | (rw [hy138]; with_reducible exact H) | (have H2_ := (Option.bind_some _ _).symm.trans H; rw [hy138]; with_reducible exact H2_) | (have H2_ := (Option.bind_some _ _).symm.trans H; with_reducible exact H2_) | with_reducible exact H | (rw [hy138]; exact H) | exact H
 have Ny138 := Aside0.mk hy138
 clear hy138
 have H' := Aside0.mk H
 clear H
 go_enter Try.func71, Try.ntmps71
 go_wp2_with (first | ((with_reducible refine gate_dst (N := 2) rfl ?_); refine box_event ?hg (N := 2) ?hd (cs := #[.int .i64 a0_0, .slice A0_1 l0_1.length c0_1]) (t := 30) ?hr ?_; (case hd => rfl); (case hg => rfl); (case hr => first | (go_simp; done) | (go_simp; rfl)); intro gb137 hg w3 hbox hb; have BK137 := Aside0.mk hbox; have GW137 := ge_ HB hg; have GE137 := ge_ HB hg; replace HB := Aside0.mk (bt_ HB hb); clear hb hbox hg) | ((with_reducible refine gate_dst (N := 16) rfl ?_); refine Kd.R_lit (Kd.int .i64) _ 3 ?hg (N := 16) ?hd (xs := ([] : List Int)) (inner := []) (ok := fun _ => True) (okp := fun _ => True) ?hr ?hp (fun _ hk => hk) trivial (Below.refl _ _) (Nat.le_refl _) (by simp) ?_; (case hd => rfl); (case hg => rfl); (case hr => first | (go_simp; done) | (go_simp; rfl)); (case hp => exact (Reps.none _ _)); intro v139 w4 ho5 hb hg_ hnew_; clear hg_ hnew_; (first | rw [← Ny138.out] at ho5 | (simp only [Int.reduceToNat] at ho5; rw [← Ny138.out] at ho5)); have HO140 := Aside0.mk (Kd.R_lower ho5 (bz_ HB)); replace BK137 := Aside0.mk (bb_ BK137 hb); replace HB := Aside0.mk (bt_ HB hb); clear hb ho5))
 go_loopg [6, 7] k (fun kq v6 v7 w' => ∃ (x6_1 : List Int) (x7_1 : Int), v7 = .int .i64 x7_1 ∧ Aside0 (spec_l03Steps.l0 kq a1 x6_1 x7_1 a0_0 l0_1 = some (r1, r2)) ∧ Aside0 (kq ≤ k) ∧ Aside0 (Kd.R (Kd.int .i64) 3 w' w.heap.size (fun _ => True) v6 x6_1) ∧ Aside0 (w'.heap[gb137]? = some (.cells #[.int .i64 a0_0, (.slice A0_1 l0_1.length c0_1)] 30 (0, 0))) ∧ Aside0 (Below w.heap.size w w'))
 case atStart => exact ⟨(y138), (0), (by first | rfl | (simp; done) | (simp [*]; done)), H', ⟨Nat.le_refl _⟩, ⟨by (with_reducible repeat (first | apply Kd.R_alloc | apply Kd.R_drewN | apply Kd.R_drew)); exact HO140.out⟩, ⟨by (with_reducible repeat (first | refine blk_drewN ?_ _ | refine blk_drew ?_ | refine blk_alloc ?_ _)); exact BK137.out⟩, ⟨by repeat (first | (with_reducible first | exact HB.out | apply below_alloc | apply pw_below_drewN | apply below_drew1 | refine below_set ?_ GE137.out) | exact HB.out)⟩⟩
 case round =>
  clear H'
  try clear p2
  obtain ⟨x6_1, x7_1, rfl, HA, HK1, HO_6, BK137, HB⟩ := hrel
  cases gk with
  | zero => exact absurd HA.out (by simp [spec_l03Steps.l0])
  | succ k1 =>
   have H := HA.out
   clear HA
   simp only [spec_l03Steps.l0] at H
   by_cases c6 : x7_1 < a0_0
   ·rw [if_pos c6] at H
    have c6b0 : decide (x7_1 < a0_0) = true := decide_eq_true c6
    clear c6
    replace H := Option.bind_eq_some_iff.mp H
    obtain ⟨t141, A70, H⟩ := H
    have A7 := Aside0.mk A70
    clear A70
    by_cases c8 : 0 ≤ a1
    rotate_left
    ·rw [if_neg c8] at H
     exact absurd H (by simp)
    rw [if_pos c8] at H
    have c8b0 : decide (0 ≤ a1) = true := decide_eq_true c8
    clear c8
    by_cases c9 : a1 < (t141.length : Int)
    rotate_left
    ·rw [if_neg c9] at H
     exact absurd H (by simp)
    rw [if_pos c9] at H
    have c9b0 : decide (a1 < (t141.length : Int)) = true := decide_eq_true c9
    clear c9
    by_cases c10 : x6_1.length < 17592186044416
    rotate_left
    ·rw [if_neg c10] at H
     exact absurd H (by simp)
    rw [if_pos c10] at H
    have LMc10 := Aside0.mk c10
    clear c10
    obtain ⟨y145, hy145⟩ : ∃ y_ : List Int, y_ = (x6_1 ++ [rd t141 a1]) := ⟨_, rfl⟩
    replace H : (spec_l03Steps.l0 k1 a1 y145 (wrap64 (x7_1 + 1)) a0_0 l0_1) = some (r1, r2) := by first | (rw [hy145]; with_reducible exact H) | (have H2_ := (Option.bind_some _ _).symm.trans H; rw [hy145]; with_reducible exact H2_) | (have H2_ := (Option.bind_some _ _).symm.trans H; with_reducible exact H2_) | with_reducible exact H | (rw [hy145]; exact H) | exact H
    have Ny145 := Aside0.mk hy145
    clear hy145
    have H' := Aside0.mk H
    clear H
    have hcz11_0 := cz_ BK137 0 (.int .i64 a0_0)
    have hcz11_1 := cz_ BK137 1 (.slice A0_1 l0_1.length c0_1)
    have hfz11_0 := blk_frozen BK137.out 0
    have hfz11_1 := blk_frozen BK137.out 1
    go_wp2_with (first | ((with_reducible refine gate_callee (f := 33) rfl ?_); refine gl_ (some 26) Try.func33 #[.agg #[.int .i64 a0_0, .slice A0_1 l0_1.length c0_1], .int .i64 x7_1] ?_; (with_reducible refine (spec_Distances.calls k1 a0_0 _ _ l0_1 x7_1 t141 _ ?side1 ?side2 A7.out).mono ?_); (case side1 => exact cb_ HR0_1 HB); (case side2 => exact HC0_1.out); rintro e w12 ⟨v142, rfl, ho0, hb⟩; refine ⟨_, rfl, ?_⟩; have HO143 := Aside0.mk (Kd.R_lower (Kd.R_new' ho0 (Kd.R_lt (hd_ HO_6))) (bz_ HB)); replace HO_6 := Aside0.mk (Kd.R_elder' (hd_ HO_6) (Kd.R_base ho0) hb); replace BK137 := Aside0.mk (bb_ BK137 hb); replace HB := Aside0.mk (bt_ HB hb); (try clear hb); (try clear hb2); (try clear hk); (try clear hi); (try clear ho0); obtain ⟨Ao13, co13, eo13⟩ := Kd.R_slice HO143.out; subst eo13; have p144 : 0 ≤ (a1 : Int) := of_decide_eq_true (by first | (with_reducible assumption) | assumption); have q144 : a1 < (t141.length : Int) := of_decide_eq_true (by first | (with_reducible assumption) | assumption); obtain ⟨ad144, e144, hx144_0⟩ := Kd.at_int (Kd.R_reads' HO143.out).2.2 a1 p144 q144; cases e144; replace p144 := eq_true p144; replace q144 := eq_true q144) | ((with_reducible refine gate_builtin (b := .append) (xs := #[.tmp 23, .tmp 30]) rfl ?_); at_builtin; refine Kd.R_append (Kd.int .i64) (w0 := w) w.heap.size rfl (.tmp 23) (.tmp 30) 26 3 (.int .i64 0) 8 rfl Try.underlying26 info3 rfl (by decide) (by omega) u6 x6_1 (rd t141 a1) [.int .i64 (rd t141 a1)] (fun k_ => some k_ ≠ (.slice (some ad144) t141.length co13 : Value).ownBlock) (fun _ => False) rfl rfl ?aP (fun _ hk => hk.elim) ?aF ?aO ?aB ?aS ?aL ?_; (case aP => exact rfl); (case aB => exact (by repeat (first | (with_reducible first | exact HB.out | apply below_alloc | apply pw_below_drewN | apply below_drew1 | refine below_set ?_ GE137.out) | exact HB.out))); (case aF => exact (fun k_ hk => Kd.fresh' (Kd.R_lt (hd_ HO143)) k_ hk)); (case aO => exact (by (with_reducible repeat (first | apply Kd.R_alloc | apply Kd.R_drewN | apply Kd.R_drew)); exact Kd.R_mono HO_6.out (fun _ hk => hk.2))); (case aS => exact (bz_ HB)); (case aL => have := LMc10.out; omega); intro v146 w14 ho hb hg hat; rw [← Ny145.out] at ho; have HO147 := Aside0.mk ho; replace BK137 := Aside0.mk (blk_grown (g := gb137) (o := .cells #[.int .i64 a0_0, .slice A0_1 l0_1.length c0_1] 30 (0, 0)) (by (with_reducible repeat (first | refine blk_drewN ?_ _ | refine blk_drew ?_ | refine blk_alloc ?_ _)); exact BK137.out) hg (Kd.R_ne HO_6.out BK137.out (by decide))); replace HO143 := Aside0.mk (Kd.R_after (ok := (fun _ => True)) (hd_ HO143) hg hat); replace HB := Aside0.mk (hb); clear HO_6; clear ho hb hg hat))
    go_roundg k1
    case measure => have := HK1.out; omega
    case rel => exact ⟨(y145), (wrap64 (x7_1 + 1)), (by first | rfl | (simp; done) | (simp [*]; done)), H', ⟨by have := HK1.out; omega⟩, ⟨by (with_reducible repeat (first | apply Kd.R_alloc | apply Kd.R_drewN | apply Kd.R_drew)); exact Kd.R_mono HO147.out (fun _ hk => trivial)⟩, ⟨by (with_reducible repeat (first | refine blk_drewN ?_ _ | refine blk_drew ?_ | refine blk_alloc ?_ _)); exact BK137.out⟩, ⟨by repeat (first | (with_reducible first | exact HB.out | apply below_alloc | apply pw_below_drewN | apply below_drew1 | refine below_set ?_ GE137.out) | exact HB.out)⟩⟩
   rw [if_neg c6] at H
   have c6b0 : decide (x7_1 < a0_0) = false := decide_eq_false c6
   clear c6
   by_cases c15 : 0 ≤ a0_0
   rotate_left
   ·rw [if_neg c15] at H
    exact absurd H (by simp)
   rw [if_pos c15] at H
   have c15b0 := eq_true c15
   have c15b1 : decide (0 ≤ a0_0) = true := decide_eq_true c15
   clear c15
   by_cases c16 : (a0_0 : Int).toNat ≤ 35184372088832
   rotate_left
   ·rw [if_neg c16] at H
    exact absurd H (by simp)
   rw [if_pos c16] at H
   have c16b0 := eq_true c16
   have c16b1 : decide ((a0_0 : Int).toNat ≤ 35184372088832) = true := decide_eq_true c16
   clear c16
   obtain ⟨y148, hy148⟩ : ∃ y_ : List Int, y_ = (List.replicate (a0_0 : Int).toNat 0) := ⟨_, rfl⟩
   replace H : (if (a0_0 : Int).toNat ≤ 281474976710656 then (spec_l03Steps.l1 k1 a1 x6_1 y148 (List.replicate (a0_0 : Int).toNat 0) (List.replicate (a0_0 : Int).toNat false) 0 a0_0 l0_1) else (none)) = some (r1, r2) := by first | (rw [hy148]; with_reducible exact H) | (have H2_ := (Option.bind_some _ _).symm.trans H; rw [hy148]; with_reducible exact H2_) | (have H2_ := (Option.bind_some _ _).symm.trans H; with_reducible exact H2_) | with_reducible exact H | (rw [hy148]; exact H) | exact H
   have Ny148 := Aside0.mk hy148
   clear hy148
   obtain ⟨y151, hy151⟩ : ∃ y_ : List Int, y_ = (List.replicate (a0_0 : Int).toNat 0) := ⟨_, rfl⟩
   replace H : (if (a0_0 : Int).toNat ≤ 281474976710656 then (spec_l03Steps.l1 k1 a1 x6_1 y148 y151 (List.replicate (a0_0 : Int).toNat false) 0 a0_0 l0_1) else (none)) = some (r1, r2) := by first | (rw [hy151]; with_reducible exact H) | (have H2_ := (Option.bind_some _ _).symm.trans H; rw [hy151]; with_reducible exact H2_) | (have H2_ := (Option.bind_some _ _).symm.trans H; with_reducible exact H2_) | with_reducible exact H | (rw [hy151]; exact H) | exact H
   have Ny151 := Aside0.mk hy151
   clear hy151
   by_cases c17 : (a0_0 : Int).toNat ≤ 281474976710656
   rotate_left
   ·rw [if_neg c17] at H
    exact absurd H (by simp)
   rw [if_pos c17] at H
   have c17b0 := eq_true c17
   have c17b1 : decide ((a0_0 : Int).toNat ≤ 281474976710656) = true := decide_eq_true c17
   clear c17
   obtain ⟨y154, hy154⟩ : ∃ y_ : List Bool, y_ = (List.replicate (a0_0 : Int).toNat false) := ⟨_, rfl⟩
   replace H : (spec_l03Steps.l1 k1 a1 x6_1 y148 y151 y154 0 a0_0 l0_1) = some (r1, r2) := by first | (rw [hy154]; with_reducible exact H) | (have H2_ := (Option.bind_some _ _).symm.trans H; rw [hy154]; with_reducible exact H2_) | (have H2_ := (Option.bind_some _ _).symm.trans H; with_reducible exact H2_) | with_reducible exact H | (rw [hy154]; exact H) | exact H
   have Ny154 := Aside0.mk hy154
   clear hy154
   have H' := Aside0.mk H
   clear H
   have hcz18_0 := cz_ BK137 0 (.int .i64 a0_0)
   have hcz18_1 := cz_ BK137 1 (.slice A0_1 l0_1.length c0_1)
   have hfz18_0 := blk_frozen BK137.out 0
   have hfz18_1 := blk_frozen BK137.out 1
   go_wp2_with (first | ((with_reducible refine gate_dst (N := 34) rfl ?_); refine Kd.R_make (Kd.int .i64) _ 3 rfl (N := 34) rfl 26 _ _ rfl a0_0 rfl rfl Try.underlying26 (.int .i64 0) 8 info3 rfl (by decide) (by omega) 0 (ok := fun _ => True) (okp := fun _ => True) rfl (fun _ hk => hk) trivial (of_decide_eq_true (by first | (with_reducible assumption) | assumption)) (Nat.le_trans (Nat.mul_le_mul_right _ (of_decide_eq_true (by first | (with_reducible assumption) | assumption) : a0_0.toNat ≤ 35184372088832)) (by omega)) (Below.refl _ _) (Nat.le_refl _) ?_; intro v149 w19 ho20 hb hg_ hnew_; clear hg_ hnew_; (first | rw [← Ny148.out] at ho20 | (simp only [Int.reduceToNat] at ho20; rw [← Ny148.out] at ho20)); have HO150 := Aside0.mk (Kd.R_lower (Kd.R_new' ho20 (Kd.R_lt (hd_ HO_6))) (bz_ HB)); replace HO_6 := Aside0.mk (Kd.R_elder' (hd_ HO_6) (Kd.R_base ho20) hb); replace BK137 := Aside0.mk (bb_ BK137 hb); replace HB := Aside0.mk (bt_ HB hb); clear hb ho20; have hcz21_0 := cz_ BK137 0 (.int .i64 a0_0); have hcz21_1 := cz_ BK137 1 (.slice A0_1 l0_1.length c0_1); have hfz21_0 := blk_frozen BK137.out 0; have hfz21_1 := blk_frozen BK137.out 1) | ((with_reducible refine gate_dst (N := 37) rfl ?_); refine Kd.R_make (Kd.int .i64) _ 3 rfl (N := 37) rfl 26 _ _ rfl a0_0 rfl rfl Try.underlying26 (.int .i64 0) 8 info3 rfl (by decide) (by omega) 0 (ok := fun _ => True) (okp := fun _ => True) rfl (fun _ hk => hk) trivial (of_decide_eq_true (by first | (with_reducible assumption) | assumption)) (Nat.le_trans (Nat.mul_le_mul_right _ (of_decide_eq_true (by first | (with_reducible assumption) | assumption) : a0_0.toNat ≤ 35184372088832)) (by omega)) (Below.refl _ _) (Nat.le_refl _) ?_; intro v152 w22 ho23 hb hg_ hnew_; clear hg_ hnew_; (first | rw [← Ny151.out] at ho23 | (simp only [Int.reduceToNat] at ho23; rw [← Ny151.out] at ho23)); have HO153 := Aside0.mk (Kd.R_lower (Kd.R_new' (Kd.R_new' ho23 (Kd.R_lt (hd_ HO_6))) (Kd.R_lt (hd_ HO150))) (bz_ HB)); replace HO_6 := Aside0.mk (Kd.R_elder' (hd_ HO_6) (Kd.R_base ho23) hb); replace HO150 := Aside0.mk (Kd.R_elder' (hd_ HO150) (Kd.R_base ho23) hb); replace BK137 := Aside0.mk (bb_ BK137 hb); replace HB := Aside0.mk (bt_ HB hb); clear hb ho23; have hcz24_0 := cz_ BK137 0 (.int .i64 a0_0); have hcz24_1 := cz_ BK137 1 (.slice A0_1 l0_1.length c0_1); have hfz24_0 := blk_frozen BK137.out 0; have hfz24_1 := blk_frozen BK137.out 1) | ((with_reducible refine gate_dst (N := 40) rfl ?_); refine Kd.R_make Kd.bool _ 4 rfl (N := 40) rfl 69 _ _ rfl a0_0 rfl rfl Try.underlying69 (.bool false) 1 info4 rfl (by decide) (by omega) false (ok := fun _ => True) (okp := fun _ => True) rfl (fun _ hk => hk) trivial (of_decide_eq_true (by first | (with_reducible assumption) | assumption)) (Nat.le_trans (Nat.mul_le_mul_right _ (of_decide_eq_true (by first | (with_reducible assumption) | assumption) : a0_0.toNat ≤ 281474976710656)) (by omega)) (Below.refl _ _) (Nat.le_refl _) ?_; intro v155 w25 ho26 hb hg_ hnew_; clear hg_ hnew_; (first | rw [← Ny154.out] at ho26 | (simp only [Int.reduceToNat] at ho26; rw [← Ny154.out] at ho26)); have HO156 := Aside0.mk (Kd.R_lower ho26 (bz_ HB)); replace HO_6 := rb_ HO_6 hb; replace HO150 := rb_ HO150 hb; replace HO153 := rb_ HO153 hb; replace BK137 := Aside0.mk (bb_ BK137 hb); replace HB := Aside0.mk (bt_ HB hb); clear hb ho26))
   go_loopg [11] k1 (fun kq v11 w' => ∃ (x8_2 : List Int) (x9_2 : List Int) (x10_2 : List Bool) (x11_2 : Int), v11 = .int .i64 x11_2 ∧ Aside0 (spec_l03Steps.l1 kq a1 x6_1 x8_2 x9_2 x10_2 x11_2 a0_0 l0_1 = some (r1, r2)) ∧ Aside0 (kq ≤ k1) ∧ Aside0 (Kd.R (Kd.int .i64) 3 w' w.heap.size (fun k_ => some k_ ≠ (v149 : Value).ownBlock ∧ some k_ ≠ (v152 : Value).ownBlock) u6 x6_1) ∧ Aside0 (Kd.R (Kd.int .i64) 3 w' w.heap.size (fun k_ => some k_ ≠ (u6 : Value).ownBlock ∧ some k_ ≠ (v152 : Value).ownBlock) v149 x8_2) ∧ Aside0 (Kd.R (Kd.int .i64) 3 w' w.heap.size (fun k_ => some k_ ≠ (u6 : Value).ownBlock ∧ some k_ ≠ (v149 : Value).ownBlock) v152 x9_2) ∧ Aside0 (Kd.R Kd.bool 4 w' w.heap.size (fun _ => True) v155 x10_2) ∧ Aside0 (w'.heap[gb137]? = some (.cells #[.int .i64 a0_0, (.slice A0_1 l0_1.length c0_1)] 30 (0, 0))) ∧ Aside0 (Below w.heap.size w w'))
   case atStart => exact ⟨(y148), (y151), (y154), (0), (by first | rfl | (simp; done) | (simp [*]; done)), H', ⟨Nat.le_refl _⟩, ⟨by (with_reducible repeat (first | apply Kd.R_alloc | apply Kd.R_drewN | apply Kd.R_drew)); exact Kd.R_mono HO_6.out (fun _ hk => by first | exact ⟨hk.1.2, hk.2⟩ | grind)⟩, ⟨by (with_reducible repeat (first | apply Kd.R_alloc | apply Kd.R_drewN | apply Kd.R_drew)); exact Kd.R_mono HO150.out (fun _ hk => by first | exact ⟨hk.1.2, hk.2⟩ | grind)⟩, ⟨by (with_reducible repeat (first | apply Kd.R_alloc | apply Kd.R_drewN | apply Kd.R_drew)); exact Kd.R_mono HO153.out (fun _ hk => by first | exact ⟨hk.1.2, hk.2⟩ | grind)⟩, ⟨by (with_reducible repeat (first | apply Kd.R_alloc | apply Kd.R_drewN | apply Kd.R_drew)); exact HO156.out⟩, ⟨by (with_reducible repeat (first | refine blk_drewN ?_ _ | refine blk_drew ?_ | refine blk_alloc ?_ _)); exact BK137.out⟩, ⟨by repeat (first | (with_reducible first | exact HB.out | apply below_alloc | apply pw_below_drewN | apply below_drew1 | refine below_set ?_ GE137.out) | exact HB.out)⟩⟩
   case round =>
    clear H'
    try clear c1
    try clear p1
    try clear q1
    try clear hx1
    try clear p2
    try clear c3
    try clear c6
    try clear c6b0
    try clear p6
    try clear c7
    try clear c8
    try clear c8b0
    try clear c9
    try clear c9b0
    try clear c10
    try clear p14
    try clear q14
    try clear hx14
    try clear c15
    try clear c15b0
    try clear c15b1
    try clear c16
    try clear c16b0
    try clear c16b1
    try clear c17
    try clear c17b0
    try clear c17b1
    try clear hcz11_0
    try clear hcz11_1
    try clear hcz18_0
    try clear hcz18_1
    try clear hcz21_0
    try clear hcz21_1
    try clear hcz24_0
    try clear hcz24_1
    try clear hfz11_0
    try clear hfz11_1
    try clear hfz18_0
    try clear hfz18_1
    try clear hfz21_0
    try clear hfz21_1
    try clear hfz24_0
    try clear hfz24_1
    try clear hx144_0
    try clear p144
    try clear p2
    try clear q144
    obtain ⟨x8_2, x9_2, x10_2, x11_2, rfl, HA, HK2, HO_6, HO_8, HO_9, HO_10, BK137, HB⟩ := hrel
    cases gk with
    | zero => exact absurd HA.out (by simp [spec_l03Steps.l1])
    | succ k2 =>
     have H := HA.out
     clear HA
     simp only [spec_l03Steps.l1] at H
     by_cases c27 : x11_2 < a0_0
     rotate_left
     ·rw [if_neg c27] at H
      have c27b0 : decide (x11_2 < a0_0) = false := decide_eq_false c27
      clear c27
      simp only [Option.some.injEq, Prod.mk.injEq] at H
      obtain ⟨rfl, rfl⟩ := H
      have hcz133_0 := cz_ BK137 0 (.int .i64 a0_0)
      have hcz133_1 := cz_ BK137 1 (.slice A0_1 l0_1.length c0_1)
      have hfz133_0 := blk_frozen BK137.out 0
      have hfz133_1 := blk_frozen BK137.out 1
      go_wp2
      go_ret2
      exact ⟨_, _, by first | rfl | (simp [errW_none, errW_some] <;> rfl) | (simp [*, errW_none, errW_some] <;> rfl), by (with_reducible repeat (first | apply Kd.R_alloc | apply Kd.R_drewN | apply Kd.R_drew)); exact Kd.R_mono HO_8.out (fun _ hk => hk.2), by (with_reducible repeat (first | apply Kd.R_alloc | apply Kd.R_drewN | apply Kd.R_drew)); exact Kd.R_mono HO_9.out (fun _ hk => hk.2), by repeat (first | (with_reducible first | exact HB.out | apply below_alloc | apply pw_below_drewN | apply below_drew1 | refine below_set ?_ GE137.out) | exact HB.out)⟩
     rw [if_pos c27] at H
     have c27b0 : decide (x11_2 < a0_0) = true := decide_eq_true c27
     clear c27
     have H' := Aside0.mk H
     clear H
     have hcz28_0 := cz_ BK137 0 (.int .i64 a0_0)
     have hcz28_1 := cz_ BK137 1 (.slice A0_1 l0_1.length c0_1)
     have hfz28_0 := blk_frozen BK137.out 0
     have hfz28_1 := blk_frozen BK137.out 1
     go_wp2
     go_loopg [12, 13] k2 (fun kq v12 v13 w' => ∃ (x12_3 : Int) (x13_3 : Int), v12 = .int .i64 x12_3 ∧ v13 = .int .i64 x13_3 ∧ Aside0 (spec_l03Steps.l2 kq a1 x6_1 x8_2 x9_2 x10_2 x11_2 x12_3 x13_3 a0_0 l0_1 = some (r1, r2)) ∧ Aside0 (kq ≤ k2) ∧ Aside0 (Kd.R (Kd.int .i64) 3 w' w.heap.size (fun k_ => some k_ ≠ (v149 : Value).ownBlock ∧ some k_ ≠ (v152 : Value).ownBlock) u6 x6_1) ∧ Aside0 (Kd.R (Kd.int .i64) 3 w' w.heap.size (fun k_ => some k_ ≠ (u6 : Value).ownBlock ∧ some k_ ≠ (v152 : Value).ownBlock) v149 x8_2) ∧ Aside0 (Kd.R (Kd.int .i64) 3 w' w.heap.size (fun k_ => some k_ ≠ (u6 : Value).ownBlock ∧ some k_ ≠ (v149 : Value).ownBlock) v152 x9_2) ∧ Aside0 (Kd.R Kd.bool 4 w' w.heap.size (fun _ => True) v155 x10_2) ∧ Aside0 (w'.heap[gb137]? = some (.cells #[.int .i64 a0_0, (.slice A0_1 l0_1.length c0_1)] 30 (0, 0))) ∧ Aside0 (Below w.heap.size w w'))
     case atStart => exact ⟨((-1)), (0), (by first | rfl | (simp; done) | (simp [*]; done)), (by first | rfl | (simp; done) | (simp [*]; done)), H', ⟨Nat.le_refl _⟩, ⟨by (with_reducible repeat (first | apply Kd.R_alloc | apply Kd.R_drewN | apply Kd.R_drew)); exact HO_6.out⟩, ⟨by (with_reducible repeat (first | apply Kd.R_alloc | apply Kd.R_drewN | apply Kd.R_drew)); exact HO_8.out⟩, ⟨by (with_reducible repeat (first | apply Kd.R_alloc | apply Kd.R_drewN | apply Kd.R_drew)); exact HO_9.out⟩, ⟨by (with_reducible repeat (first | apply Kd.R_alloc | apply Kd.R_drewN | apply Kd.R_drew)); exact HO_10.out⟩, ⟨by (with_reducible repeat (first | refine blk_drewN ?_ _ | refine blk_drew ?_ | refine blk_alloc ?_ _)); exact BK137.out⟩, ⟨by repeat (first | (with_reducible first | exact HB.out | apply below_alloc | apply pw_below_drewN | apply below_drew1 | refine below_set ?_ GE137.out) | exact HB.out)⟩⟩
     case round =>
      clear H'
      try clear c1
      try clear p1
      try clear q1
      try clear hx1
      try clear c2
      try clear p2
      try clear c3
      try clear c6
      try clear c6b0
      try clear p6
      try clear c7
      try clear c8
      try clear c8b0
      try clear c9
      try clear c9b0
      try clear c10
      try clear p14
      try clear q14
      try clear hx14
      try clear c15
      try clear c15b0
      try clear c15b1
      try clear c16
      try clear c16b0
      try clear c16b1
      try clear c17
      try clear c17b0
      try clear c17b1
      try clear c27
      try clear c27b0
      try clear hcz11_0
      try clear hcz11_1
      try clear hcz18_0
      try clear hcz18_1
      try clear hcz21_0
      try clear hcz21_1
      try clear hcz24_0
      try clear hcz24_1
      try clear hcz28_0
      try clear hcz28_1
      try clear hfz11_0
      try clear hfz11_1
      try clear hfz18_0
      try clear hfz18_1
      try clear hfz21_0
      try clear hfz21_1
      try clear hfz24_0
      try clear hfz24_1
      try clear hfz28_0
      try clear hfz28_1
      try clear hx144_0
      try clear p1
      try clear p14
      try clear p144
      try clear p2
      try clear p6
      try clear q1
      try clear q14
      try clear q144
      obtain ⟨x12_3, x13_3, rfl, rfl, HA, HK3, HO_6, HO_8, HO_9, HO_10, BK137, HB⟩ := hrel
      cases gk with
      | zero => exact absurd HA.out (by simp [spec_l03Steps.l2])
      | succ k3 =>
       have H := HA.out
       clear HA
       simp only [spec_l03Steps.l2] at H
       by_cases c29 : x13_3 < a0_0
       ·rw [if_pos c29] at H
        have c29b0 : decide (x13_3 < a0_0) = true := decide_eq_true c29
        clear c29
        by_cases c30 : 0 ≤ x13_3
        rotate_left
        ·rw [if_neg c30] at H
         exact absurd H (by simp)
        rw [if_pos c30] at H
        have c30b0 : decide (0 ≤ x13_3) = true := decide_eq_true c30
        clear c30
        by_cases c31 : x13_3 < (x10_2.length : Int)
        rotate_left
        ·rw [if_neg c31] at H
         exact absurd H (by simp)
        rw [if_pos c31] at H
        have c31b0 : decide (x13_3 < (x10_2.length : Int)) = true := decide_eq_true c31
        clear c31
        obtain ⟨bq32, hbq32⟩ : ∃ b_ : Bool, b_ = (rdOf false x10_2 x13_3) := ⟨_, rfl⟩
        replace H : (if bq32 = true then (spec_l03Steps.l2 k3 a1 x6_1 x8_2 x9_2 x10_2 x11_2 x12_3 (wrap64 (x13_3 + 1)) a0_0 l0_1) else (if x13_3 < (x6_1.length : Int) then (if (rd x6_1 x13_3) < 1000000 then (if x12_3 < 0 then (spec_l03Steps.l2 k3 a1 x6_1 x8_2 x9_2 x10_2 x11_2 x13_3 (wrap64 (x13_3 + 1)) a0_0 l0_1) else (if 0 ≤ x12_3 then (if x12_3 < (x6_1.length : Int) then (if (rd x6_1 x13_3) < (rd x6_1 x12_3) then (spec_l03Steps.l2 k3 a1 x6_1 x8_2 x9_2 x10_2 x11_2 x13_3 (wrap64 (x13_3 + 1)) a0_0 l0_1) else (spec_l03Steps.l2 k3 a1 x6_1 x8_2 x9_2 x10_2 x11_2 x12_3 (wrap64 (x13_3 + 1)) a0_0 l0_1)) else (none)) else (none))) else (spec_l03Steps.l2 k3 a1 x6_1 x8_2 x9_2 x10_2 x11_2 x12_3 (wrap64 (x13_3 + 1)) a0_0 l0_1)) else (none))) = some (r1, r2) := by rw [← hbq32] at H; exact H
        have Nbq32 := Aside0.mk hbq32
        clear hbq32
        by_cases c33 : bq32 = true
        ·subst c33
         rw [if_pos rfl] at H
         have H' := Aside0.mk H
         clear H
         have hcz34_0 := cz_ BK137 0 (.int .i64 a0_0)
         have hcz34_1 := cz_ BK137 1 (.slice A0_1 l0_1.length c0_1)
         have hfz34_0 := blk_frozen BK137.out 0
         have hfz34_1 := blk_frozen BK137.out 1
         try go_wp2
         replace HO_6 := Aside0.mk (Kd.R_drew HO_6.out)
         replace HO_8 := Aside0.mk (Kd.R_drew HO_8.out)
         replace HO_9 := Aside0.mk (Kd.R_drew HO_9.out)
         replace HO_10 := Aside0.mk (Kd.R_drew HO_10.out)
         replace BK137 := Aside0.mk (blk_drew BK137.out)
         replace HB := Aside0.mk (below_drew1 HB.out)
         obtain ⟨Ao36, co36, eo36⟩ := Kd.R_slice HO_10.out
         (first | subst eo36 | (injection eo36 with f1_ f2_ f3_; have f4_ := f1_.symm; have f5_ := f3_.symm; clear f1_ f2_ f3_; subst f4_; subst f5_))
         have p157 : 0 ≤ (x13_3 : Int) := of_decide_eq_true (by first | (with_reducible assumption) | assumption)
         have q157 : x13_3 < (x10_2.length : Int) := of_decide_eq_true (by first | (with_reducible assumption) | assumption)
         obtain ⟨ad157, e157, hx157_0⟩ := Kd.at_bool (Kd.R_reads' HO_10.out).2.2 x13_3 p157 q157
         (try rw [← Nbq32.out] at hx157_0)
         cases e157
         replace p157 := eq_true p157
         replace q157 := eq_true q157
         refine start_ (n := 27) (S := fun w' => w'.cell? (ad157.add (x13_3).toNat) = some (.bool true)) (ds := []) ba4_0 (by kernel_rfl) rfl rfl (hx157_0) (fun hHeld => ?_); refine with_tabW spec_l03Steps.tab16 spec_l03Steps.bits16 (fun HT_ HW_ => ?_)
         generalize wr.drew = w35 at HO_6 HO_8 HO_9 HO_10 BK137 HB hx157_0 hHeld ⊢
         refine pz_ 0 53 ba4_1 HT_ ?_
         refine pz_ 1 54 ba4_2 HT_ ?_
         refine pz_ 2 55 ba4_3 HT_ ?_
         refine take_ (i := 3) (N := some 56) (v := ?_) (a' := ?_) ba4_4 rfl rfl (take_ofW HT_.out HW_.out (by kernel_rfl)) (fun _ _ _ h => h) (Or.inl ⟨by rfl, ?_⟩) hHeld ?_ ?_
         rotate_left; · intro w' s0; go_simp; with_reducible rfl
         rotate_left; · simp only [Act.put, List.setIfInBounds_toArray, List.set_cons_zero, List.set_cons_succ, i64_w, i32_w]; rfl
         refine pz_ 4 57 ba4_5 HT_ ?_
         refine pz_ 5 58 ba4_6 HT_ ?_
         refine pu_ 6 59 ba4_7 HT_ ?_
         refine pu_ 7 60 ba4_8 HT_ ?_
         refine pu_ 8 61 ba4_9 HT_ ?_
         refine pu_ 9 62 ba4_10 HT_ ?_
         refine pu_ 10 63 ba4_11 HT_ ?_
         refine pz_ 11 64 ba4_12 HT_ ?_
         refine pz_ 12 65 ba4_13 HT_ ?_
         refine pu_ 13 66 ba4_14 HT_ ?_
         refine pu_ 14 67 ba4_15 HT_ ?_
         refine pu_ 15 68 ba4_16 HT_ ?_
         refine pu_ 16 69 ba4_17 HT_ ?_
         refine pu_ 17 70 ba4_18 HT_ ?_
         refine pu_ 18 71 ba4_19 HT_ ?_
         refine pu_ 19 72 ba4_20 HT_ ?_
         refine pu_ 20 73 ba4_21 HT_ ?_
         refine pu_ 21 74 ba4_22 HT_ ?_
         refine pu_ 22 75 ba4_23 HT_ ?_
         refine pu_ 23 76 ba4_24 HT_ ?_
         refine pu_ 24 77 ba4_25 HT_ ?_
         refine pu_ 25 78 ba4_26 HT_ ?_
         refine pz_ 26 79 ba4_27 HT_ ?_
         refine done_ (done_of HT_.out (by kernel_rfl)) ?_
         try go_wp2
         go_roundg k3
         case measure => have := HK1.out; have := HK2.out; have := HK3.out; omega
         case rel => exact ⟨(x12_3), (wrap64 (x13_3 + 1)), (by first | rfl | (simp; done) | (simp [*]; done)), (by first | rfl | (simp; done) | (simp [*]; done)), H', ⟨by have := HK1.out; have := HK2.out; have := HK3.out; omega⟩, ⟨by (with_reducible repeat (first | apply Kd.R_alloc | apply Kd.R_drewN | apply Kd.R_drew)); exact HO_6.out⟩, ⟨by (with_reducible repeat (first | apply Kd.R_alloc | apply Kd.R_drewN | apply Kd.R_drew)); exact HO_8.out⟩, ⟨by (with_reducible repeat (first | apply Kd.R_alloc | apply Kd.R_drewN | apply Kd.R_drew)); exact HO_9.out⟩, ⟨by (with_reducible repeat (first | apply Kd.R_alloc | apply Kd.R_drewN | apply Kd.R_drew)); exact HO_10.out⟩, ⟨by (with_reducible repeat (first | refine blk_drewN ?_ _ | refine blk_drew ?_ | refine blk_alloc ?_ _)); exact BK137.out⟩, ⟨by repeat (first | (with_reducible first | exact HB.out | apply below_alloc | apply pw_below_drewN | apply below_drew1 | refine below_set ?_ GE137.out) | exact HB.out)⟩⟩
        replace c33 := Bool.eq_false_iff.mpr c33
        subst c33
        rw [if_neg (show ¬ (false = true) by decide)] at H
        by_cases c37 : x13_3 < (x6_1.length : Int)
        rotate_left
        ·rw [if_neg c37] at H
         exact absurd H (by simp)
        rw [if_pos c37] at H
        have c37b0 : decide (x13_3 < (x6_1.length : Int)) = true := decide_eq_true c37
        clear c37
        by_cases c38 : (rd x6_1 x13_3) < 1000000
        rotate_left
        ·rw [if_neg c38] at H
         have c38b0 : decide ((rd x6_1 x13_3) < 1000000) = false := decide_eq_false c38
         clear c38
         have H' := Aside0.mk H
         clear H
         have hcz55_0 := cz_ BK137 0 (.int .i64 a0_0)
         have hcz55_1 := cz_ BK137 1 (.slice A0_1 l0_1.length c0_1)
         have hfz55_0 := blk_frozen BK137.out 0
         have hfz55_1 := blk_frozen BK137.out 1
         try go_wp2
         replace HO_6 := Aside0.mk (Kd.R_drew HO_6.out)
         replace HO_8 := Aside0.mk (Kd.R_drew HO_8.out)
         replace HO_9 := Aside0.mk (Kd.R_drew HO_9.out)
         replace HO_10 := Aside0.mk (Kd.R_drew HO_10.out)
         replace BK137 := Aside0.mk (blk_drew BK137.out)
         replace HB := Aside0.mk (below_drew1 HB.out)
         obtain ⟨Ao57, co57, eo57⟩ := Kd.R_slice HO_10.out
         (first | subst eo57 | (injection eo57 with f1_ f2_ f3_; have f4_ := f1_.symm; have f5_ := f3_.symm; clear f1_ f2_ f3_; subst f4_; subst f5_))
         have p157 : 0 ≤ (x13_3 : Int) := of_decide_eq_true (by first | (with_reducible assumption) | assumption)
         have q157 : x13_3 < (x10_2.length : Int) := of_decide_eq_true (by first | (with_reducible assumption) | assumption)
         obtain ⟨ad157, e157, hx157_0⟩ := Kd.at_bool (Kd.R_reads' HO_10.out).2.2 x13_3 p157 q157
         (try rw [← Nbq32.out] at hx157_0)
         cases e157
         replace p157 := eq_true p157
         replace q157 := eq_true q157
         obtain ⟨Ao58, co58, eo58⟩ := Kd.R_slice HO_6.out
         (first | subst eo58 | (injection eo58 with f1_ f2_ f3_; have f4_ := f1_.symm; have f5_ := f3_.symm; clear f1_ f2_ f3_; subst f4_; subst f5_))
         have p158 : 0 ≤ (x13_3 : Int) := of_decide_eq_true (by first | (with_reducible assumption) | assumption)
         have q158 : x13_3 < (x6_1.length : Int) := of_decide_eq_true (by first | (with_reducible assumption) | assumption)
         obtain ⟨ad158, e158, hx158_0⟩ := Kd.at_int (Kd.R_reads' HO_6.out).2.2 x13_3 p158 q158
         cases e158
         replace p158 := eq_true p158
         replace q158 := eq_true q158
         refine start_ (n := 27) (S := fun w' => w'.cell? (ad157.add (x13_3).toNat) = some (.bool false) ∧ w'.cell? (ad158.add (x13_3).toNat) = some (.int .i64 (rd x6_1 x13_3))) (ds := []) ba4_0 (by kernel_rfl) rfl rfl ⟨hx157_0, hx158_0⟩ (fun hHeld => ?_); refine with_tabW spec_l03Steps.tab16 spec_l03Steps.bits16 (fun HT_ HW_ => ?_)
         generalize wr.drew = w56 at HO_6 HO_8 HO_9 HO_10 BK137 HB hx157_0 hx158_0 hHeld ⊢
         refine pz_ 0 53 ba4_1 HT_ ?_
         refine pz_ 1 54 ba4_2 HT_ ?_
         refine pz_ 2 55 ba4_3 HT_ ?_
         refine pt_ 3 56 ba4_4 HT_ HW_ hHeld ?_
         refine pz_ 4 57 ba4_5 HT_ ?_
         refine pz_ 5 58 ba4_6 HT_ ?_
         refine pz_ 6 59 ba4_7 HT_ ?_
         refine pz_ 7 60 ba4_8 HT_ ?_
         refine pz_ 8 61 ba4_9 HT_ ?_
         refine pt_ 9 62 ba4_10 HT_ HW_ hHeld ?_
         refine pz_ 10 63 ba4_11 HT_ ?_
         refine pz_ 11 64 ba4_12 HT_ ?_
         refine pz_ 12 65 ba4_13 HT_ ?_
         refine pu_ 13 66 ba4_14 HT_ ?_
         refine pu_ 14 67 ba4_15 HT_ ?_
         refine pu_ 15 68 ba4_16 HT_ ?_
         refine pu_ 16 69 ba4_17 HT_ ?_
         refine pu_ 17 70 ba4_18 HT_ ?_
         refine pu_ 18 71 ba4_19 HT_ ?_
         refine pu_ 19 72 ba4_20 HT_ ?_
         refine pu_ 20 73 ba4_21 HT_ ?_
         refine pu_ 21 74 ba4_22 HT_ ?_
         refine pu_ 22 75 ba4_23 HT_ ?_
         refine pu_ 23 76 ba4_24 HT_ ?_
         refine pu_ 24 77 ba4_25 HT_ ?_
         refine pu_ 25 78 ba4_26 HT_ ?_
         refine pz_ 26 79 ba4_27 HT_ ?_
         refine done_ (done_of HT_.out (by kernel_rfl)) ?_
         try go_wp2
         go_roundg k3
         case measure => have := HK1.out; have := HK2.out; have := HK3.out; omega
         case rel => exact ⟨(x12_3), (wrap64 (x13_3 + 1)), (by first | rfl | (simp; done) | (simp [*]; done)), (by first | rfl | (simp; done) | (simp [*]; done)), H', ⟨by have := HK1.out; have := HK2.out; have := HK3.out; omega⟩, ⟨by (with_reducible repeat (first | apply Kd.R_alloc | apply Kd.R_drewN | apply Kd.R_drew)); exact HO_6.out⟩, ⟨by (with_reducible repeat (first | apply Kd.R_alloc | apply Kd.R_drewN | apply Kd.R_drew)); exact HO_8.out⟩, ⟨by (with_reducible repeat (first | apply Kd.R_alloc | apply Kd.R_drewN | apply Kd.R_drew)); exact HO_9.out⟩, ⟨by (with_reducible repeat (first | apply Kd.R_alloc | apply Kd.R_drewN | apply Kd.R_drew)); exact HO_10.out⟩, ⟨by (with_reducible repeat (first | refine blk_drewN ?_ _ | refine blk_drew ?_ | refine blk_alloc ?_ _)); exact BK137.out⟩, ⟨by repeat (first | (with_reducible first | exact HB.out | apply below_alloc | apply pw_below_drewN | apply below_drew1 | refine below_set ?_ GE137.out) | exact HB.out)⟩⟩
        rw [if_pos c38] at H
        have c38b0 : decide ((rd x6_1 x13_3) < 1000000) = true := decide_eq_true c38
        clear c38
        by_cases c39 : x12_3 < 0
        ·rw [if_pos c39] at H
         have c39b0 : decide (x12_3 < 0) = true := decide_eq_true c39
         clear c39
         have H' := Aside0.mk H
         clear H
         have hcz40_0 := cz_ BK137 0 (.int .i64 a0_0)
         have hcz40_1 := cz_ BK137 1 (.slice A0_1 l0_1.length c0_1)
         have hfz40_0 := blk_frozen BK137.out 0
         have hfz40_1 := blk_frozen BK137.out 1
         try go_wp2
         replace HO_6 := Aside0.mk (Kd.R_drew HO_6.out)
         replace HO_8 := Aside0.mk (Kd.R_drew HO_8.out)
         replace HO_9 := Aside0.mk (Kd.R_drew HO_9.out)
         replace HO_10 := Aside0.mk (Kd.R_drew HO_10.out)
         replace BK137 := Aside0.mk (blk_drew BK137.out)
         replace HB := Aside0.mk (below_drew1 HB.out)
         obtain ⟨Ao42, co42, eo42⟩ := Kd.R_slice HO_10.out
         (first | subst eo42 | (injection eo42 with f1_ f2_ f3_; have f4_ := f1_.symm; have f5_ := f3_.symm; clear f1_ f2_ f3_; subst f4_; subst f5_))
         have p157 : 0 ≤ (x13_3 : Int) := of_decide_eq_true (by first | (with_reducible assumption) | assumption)
         have q157 : x13_3 < (x10_2.length : Int) := of_decide_eq_true (by first | (with_reducible assumption) | assumption)
         obtain ⟨ad157, e157, hx157_0⟩ := Kd.at_bool (Kd.R_reads' HO_10.out).2.2 x13_3 p157 q157
         (try rw [← Nbq32.out] at hx157_0)
         cases e157
         replace p157 := eq_true p157
         replace q157 := eq_true q157
         obtain ⟨Ao43, co43, eo43⟩ := Kd.R_slice HO_6.out
         (first | subst eo43 | (injection eo43 with f1_ f2_ f3_; have f4_ := f1_.symm; have f5_ := f3_.symm; clear f1_ f2_ f3_; subst f4_; subst f5_))
         have p158 : 0 ≤ (x13_3 : Int) := of_decide_eq_true (by first | (with_reducible assumption) | assumption)
         have q158 : x13_3 < (x6_1.length : Int) := of_decide_eq_true (by first | (with_reducible assumption) | assumption)
         obtain ⟨ad158, e158, hx158_0⟩ := Kd.at_int (Kd.R_reads' HO_6.out).2.2 x13_3 p158 q158
         cases e158
         replace p158 := eq_true p158
         replace q158 := eq_true q158
         refine start_ (n := 27) (S := fun w' => w'.cell? (ad157.add (x13_3).toNat) = some (.bool false) ∧ w'.cell? (ad158.add (x13_3).toNat) = some (.int .i64 (rd x6_1 x13_3))) (ds := []) ba4_0 (by kernel_rfl) rfl rfl ⟨hx157_0, hx158_0⟩ (fun hHeld => ?_); refine with_tabW spec_l03Steps.tab16 spec_l03Steps.bits16 (fun HT_ HW_ => ?_)
         generalize wr.drew = w41 at HO_6 HO_8 HO_9 HO_10 BK137 HB hx157_0 hx158_0 hHeld ⊢
         refine pz_ 0 53 ba4_1 HT_ ?_
         refine pz_ 1 54 ba4_2 HT_ ?_
         refine pz_ 2 55 ba4_3 HT_ ?_
         refine pt_ 3 56 ba4_4 HT_ HW_ hHeld ?_
         refine pz_ 4 57 ba4_5 HT_ ?_
         refine pz_ 5 58 ba4_6 HT_ ?_
         refine pz_ 6 59 ba4_7 HT_ ?_
         refine pz_ 7 60 ba4_8 HT_ ?_
         refine pz_ 8 61 ba4_9 HT_ ?_
         refine pt_ 9 62 ba4_10 HT_ HW_ hHeld ?_
         refine pz_ 10 63 ba4_11 HT_ ?_
         refine pz_ 11 64 ba4_12 HT_ ?_
         refine pz_ 12 65 ba4_13 HT_ ?_
         refine pz_ 13 66 ba4_14 HT_ ?_
         refine pz_ 14 67 ba4_15 HT_ ?_
         refine pz_ 15 68 ba4_16 HT_ ?_
         refine pu_ 16 69 ba4_17 HT_ ?_
         refine pu_ 17 70 ba4_18 HT_ ?_
         refine pu_ 18 71 ba4_19 HT_ ?_
         refine pu_ 19 72 ba4_20 HT_ ?_
         refine pu_ 20 73 ba4_21 HT_ ?_
         refine pu_ 21 74 ba4_22 HT_ ?_
         refine pu_ 22 75 ba4_23 HT_ ?_
         refine pu_ 23 76 ba4_24 HT_ ?_
         refine pu_ 24 77 ba4_25 HT_ ?_
         refine pz_ 25 78 ba4_26 HT_ ?_
         refine pz_ 26 79 ba4_27 HT_ ?_
         refine done_ (done_of HT_.out (by kernel_rfl)) ?_
         try go_wp2
         go_roundg k3
         case measure => have := HK1.out; have := HK2.out; have := HK3.out; omega
         case rel => exact ⟨(x13_3), (wrap64 (x13_3 + 1)), (by first | rfl | (simp; done) | (simp [*]; done)), (by first | rfl | (simp; done) | (simp [*]; done)), H', ⟨by have := HK1.out; have := HK2.out; have := HK3.out; omega⟩, ⟨by (with_reducible repeat (first | apply Kd.R_alloc | apply Kd.R_drewN | apply Kd.R_drew)); exact HO_6.out⟩, ⟨by (with_reducible repeat (first | apply Kd.R_alloc | apply Kd.R_drewN | apply Kd.R_drew)); exact HO_8.out⟩, ⟨by (with_reducible repeat (first | apply Kd.R_alloc | apply Kd.R_drewN | apply Kd.R_drew)); exact HO_9.out⟩, ⟨by (with_reducible repeat (first | apply Kd.R_alloc | apply Kd.R_drewN | apply Kd.R_drew)); exact HO_10.out⟩, ⟨by (with_reducible repeat (first | refine blk_drewN ?_ _ | refine blk_drew ?_ | refine blk_alloc ?_ _)); exact BK137.out⟩, ⟨by repeat (first | (with_reducible first | exact HB.out | apply below_alloc | apply pw_below_drewN | apply below_drew1 | refine below_set ?_ GE137.out) | exact HB.out)⟩⟩
        rw [if_neg c39] at H
        have c39b0 : decide (x12_3 < 0) = false := decide_eq_false c39
        clear c39
        by_cases c44 : 0 ≤ x12_3
        rotate_left
        ·rw [if_neg c44] at H
         exact absurd H (by simp)
        rw [if_pos c44] at H
        have c44b0 : decide (0 ≤ x12_3) = true := decide_eq_true c44
        clear c44
        by_cases c45 : x12_3 < (x6_1.length : Int)
        rotate_left
        ·rw [if_neg c45] at H
         exact absurd H (by simp)
        rw [if_pos c45] at H
        have c45b0 : decide (x12_3 < (x6_1.length : Int)) = true := decide_eq_true c45
        clear c45
        by_cases c46 : (rd x6_1 x13_3) < (rd x6_1 x12_3)
        ·rw [if_pos c46] at H
         have c46b0 : decide ((rd x6_1 x13_3) < (rd x6_1 x12_3)) = true := decide_eq_true c46
         clear c46
         have H' := Aside0.mk H
         clear H
         have hcz47_0 := cz_ BK137 0 (.int .i64 a0_0)
         have hcz47_1 := cz_ BK137 1 (.slice A0_1 l0_1.length c0_1)
         have hfz47_0 := blk_frozen BK137.out 0
         have hfz47_1 := blk_frozen BK137.out 1
         try go_wp2
         replace HO_6 := Aside0.mk (Kd.R_drew HO_6.out)
         replace HO_8 := Aside0.mk (Kd.R_drew HO_8.out)
         replace HO_9 := Aside0.mk (Kd.R_drew HO_9.out)
         replace HO_10 := Aside0.mk (Kd.R_drew HO_10.out)
         replace BK137 := Aside0.mk (blk_drew BK137.out)
         replace HB := Aside0.mk (below_drew1 HB.out)
         obtain ⟨Ao49, co49, eo49⟩ := Kd.R_slice HO_10.out
         (first | subst eo49 | (injection eo49 with f1_ f2_ f3_; have f4_ := f1_.symm; have f5_ := f3_.symm; clear f1_ f2_ f3_; subst f4_; subst f5_))
         have p157 : 0 ≤ (x13_3 : Int) := of_decide_eq_true (by first | (with_reducible assumption) | assumption)
         have q157 : x13_3 < (x10_2.length : Int) := of_decide_eq_true (by first | (with_reducible assumption) | assumption)
         obtain ⟨ad157, e157, hx157_0⟩ := Kd.at_bool (Kd.R_reads' HO_10.out).2.2 x13_3 p157 q157
         (try rw [← Nbq32.out] at hx157_0)
         cases e157
         replace p157 := eq_true p157
         replace q157 := eq_true q157
         obtain ⟨Ao50, co50, eo50⟩ := Kd.R_slice HO_6.out
         (first | subst eo50 | (injection eo50 with f1_ f2_ f3_; have f4_ := f1_.symm; have f5_ := f3_.symm; clear f1_ f2_ f3_; subst f4_; subst f5_))
         have p158 : 0 ≤ (x13_3 : Int) := of_decide_eq_true (by first | (with_reducible assumption) | assumption)
         have q158 : x13_3 < (x6_1.length : Int) := of_decide_eq_true (by first | (with_reducible assumption) | assumption)
         obtain ⟨ad158, e158, hx158_0⟩ := Kd.at_int (Kd.R_reads' HO_6.out).2.2 x13_3 p158 q158
         cases e158
         replace p158 := eq_true p158
         replace q158 := eq_true q158
         have p159 : 0 ≤ (x13_3 : Int) := of_decide_eq_true (by first | (with_reducible assumption) | assumption)
         have q159 : x13_3 < (x6_1.length : Int) := of_decide_eq_true (by first | (with_reducible assumption) | assumption)
         obtain ⟨ad159, e159, hx159_0⟩ := Kd.at_int (Kd.R_reads' HO_6.out).2.2 x13_3 p159 q159
         obtain rfl : ad158 = ad159 := (by injection e159)
         replace p159 := eq_true p159
         replace q159 := eq_true q159
         have p160 : 0 ≤ (x12_3 : Int) := of_decide_eq_true (by first | (with_reducible assumption) | assumption)
         have q160 : x12_3 < (x6_1.length : Int) := of_decide_eq_true (by first | (with_reducible assumption) | assumption)
         obtain ⟨ad160, e160, hx160_0⟩ := Kd.at_int (Kd.R_reads' HO_6.out).2.2 x12_3 p160 q160
         obtain rfl : ad158 = ad160 := (by injection e160)
         replace p160 := eq_true p160
         replace q160 := eq_true q160
         refine start_ (n := 27) (S := fun w' => w'.cell? (ad157.add (x13_3).toNat) = some (.bool false) ∧ w'.cell? (ad158.add (x13_3).toNat) = some (.int .i64 (rd x6_1 x13_3)) ∧ w'.cell? (ad158.add (x13_3).toNat) = some (.int .i64 (rd x6_1 x13_3)) ∧ w'.cell? (ad158.add (x12_3).toNat) = some (.int .i64 (rd x6_1 x12_3))) (ds := []) ba4_0 (by kernel_rfl) rfl rfl ⟨hx157_0, hx158_0, hx159_0, hx160_0⟩ (fun hHeld => ?_); refine with_tabW spec_l03Steps.tab16 spec_l03Steps.bits16 (fun HT_ HW_ => ?_)
         generalize wr.drew = w48 at HO_6 HO_8 HO_9 HO_10 BK137 HB hx157_0 hx158_0 hx159_0 hx160_0 hHeld ⊢
         refine pz_ 0 53 ba4_1 HT_ ?_
         refine pz_ 1 54 ba4_2 HT_ ?_
         refine pz_ 2 55 ba4_3 HT_ ?_
         refine pt_ 3 56 ba4_4 HT_ HW_ hHeld ?_
         refine pz_ 4 57 ba4_5 HT_ ?_
         refine pz_ 5 58 ba4_6 HT_ ?_
         refine pz_ 6 59 ba4_7 HT_ ?_
         refine pz_ 7 60 ba4_8 HT_ ?_
         refine pz_ 8 61 ba4_9 HT_ ?_
         refine pt_ 9 62 ba4_10 HT_ HW_ hHeld ?_
         refine pz_ 10 63 ba4_11 HT_ ?_
         refine pz_ 11 64 ba4_12 HT_ ?_
         refine pz_ 12 65 ba4_13 HT_ ?_
         refine pz_ 13 66 ba4_14 HT_ ?_
         refine pz_ 14 67 ba4_15 HT_ ?_
         refine pz_ 15 68 ba4_16 HT_ ?_
         refine pz_ 16 69 ba4_17 HT_ ?_
         refine pz_ 17 70 ba4_18 HT_ ?_
         refine pz_ 18 71 ba4_19 HT_ ?_
         refine pz_ 20 73 ba4_28 HT_ ?_
         refine pz_ 21 74 ba4_29 HT_ ?_
         refine pz_ 22 75 ba4_30 HT_ ?_
         refine pt_ 19 72 ba4_23 HT_ HW_ hHeld ?_
         refine pt_ 23 76 ba4_24 HT_ HW_ hHeld ?_
         refine pz_ 24 77 ba4_25 HT_ ?_
         refine pz_ 25 78 ba4_26 HT_ ?_
         refine pz_ 26 79 ba4_27 HT_ ?_
         refine done_ (done_of HT_.out (by kernel_rfl)) ?_
         try go_wp2
         go_roundg k3
         case measure => have := HK1.out; have := HK2.out; have := HK3.out; omega
         case rel => exact ⟨(x13_3), (wrap64 (x13_3 + 1)), (by first | rfl | (simp; done) | (simp [*]; done)), (by first | rfl | (simp; done) | (simp [*]; done)), H', ⟨by have := HK1.out; have := HK2.out; have := HK3.out; omega⟩, ⟨by (with_reducible repeat (first | apply Kd.R_alloc | apply Kd.R_drewN | apply Kd.R_drew)); exact HO_6.out⟩, ⟨by (with_reducible repeat (first | apply Kd.R_alloc | apply Kd.R_drewN | apply Kd.R_drew)); exact HO_8.out⟩, ⟨by (with_reducible repeat (first | apply Kd.R_alloc | apply Kd.R_drewN | apply Kd.R_drew)); exact HO_9.out⟩, ⟨by (with_reducible repeat (first | apply Kd.R_alloc | apply Kd.R_drewN | apply Kd.R_drew)); exact HO_10.out⟩, ⟨by (with_reducible repeat (first | refine blk_drewN ?_ _ | refine blk_drew ?_ | refine blk_alloc ?_ _)); exact BK137.out⟩, ⟨by repeat (first | (with_reducible first | exact HB.out | apply below_alloc | apply pw_below_drewN | apply below_drew1 | refine below_set ?_ GE137.out) | exact HB.out)⟩⟩
        rw [if_neg c46] at H
        have c46b0 : decide ((rd x6_1 x13_3) < (rd x6_1 x12_3)) = false := decide_eq_false c46
        clear c46
        have H' := Aside0.mk H
        clear H
        have hcz51_0 := cz_ BK137 0 (.int .i64 a0_0)
        have hcz51_1 := cz_ BK137 1 (.slice A0_1 l0_1.length c0_1)
        have hfz51_0 := blk_frozen BK137.out 0
        have hfz51_1 := blk_frozen BK137.out 1
        try go_wp2
        replace HO_6 := Aside0.mk (Kd.R_drew HO_6.out)
        replace HO_8 := Aside0.mk (Kd.R_drew HO_8.out)
        replace HO_9 := Aside0.mk (Kd.R_drew HO_9.out)
        replace HO_10 := Aside0.mk (Kd.R_drew HO_10.out)
        replace BK137 := Aside0.mk (blk_drew BK137.out)
        replace HB := Aside0.mk (below_drew1 HB.out)
        obtain ⟨Ao53, co53, eo53⟩ := Kd.R_slice HO_10.out
        (first | subst eo53 | (injection eo53 with f1_ f2_ f3_; have f4_ := f1_.symm; have f5_ := f3_.symm; clear f1_ f2_ f3_; subst f4_; subst f5_))
        have p157 : 0 ≤ (x13_3 : Int) := of_decide_eq_true (by first | (with_reducible assumption) | assumption)
        have q157 : x13_3 < (x10_2.length : Int) := of_decide_eq_true (by first | (with_reducible assumption) | assumption)
        obtain ⟨ad157, e157, hx157_0⟩ := Kd.at_bool (Kd.R_reads' HO_10.out).2.2 x13_3 p157 q157
        (try rw [← Nbq32.out] at hx157_0)
        cases e157
        replace p157 := eq_true p157
        replace q157 := eq_true q157
        obtain ⟨Ao54, co54, eo54⟩ := Kd.R_slice HO_6.out
        (first | subst eo54 | (injection eo54 with f1_ f2_ f3_; have f4_ := f1_.symm; have f5_ := f3_.symm; clear f1_ f2_ f3_; subst f4_; subst f5_))
        have p158 : 0 ≤ (x13_3 : Int) := of_decide_eq_true (by first | (with_reducible assumption) | assumption)
        have q158 : x13_3 < (x6_1.length : Int) := of_decide_eq_true (by first | (with_reducible assumption) | assumption)
        obtain ⟨ad158, e158, hx158_0⟩ := Kd.at_int (Kd.R_reads' HO_6.out).2.2 x13_3 p158 q158
        cases e158
        replace p158 := eq_true p158
        replace q158 := eq_true q158
        have p159 : 0 ≤ (x13_3 : Int) := of_decide_eq_true (by first | (with_reducible assumption) | assumption)
        have q159 : x13_3 < (x6_1.length : Int) := of_decide_eq_true (by first | (with_reducible assumption) | assumption)
        obtain ⟨ad159, e159, hx159_0⟩ := Kd.at_int (Kd.R_reads' HO_6.out).2.2 x13_3 p159 q159
        obtain rfl : ad158 = ad159 := (by injection e159)
        replace p159 := eq_true p159
        replace q159 := eq_true q159
        have p160 : 0 ≤ (x12_3 : Int) := of_decide_eq_true (by first | (with_reducible assumption) | assumption)
        have q160 : x12_3 < (x6_1.length : Int) := of_decide_eq_true (by first | (with_reducible assumption) | assumption)
        obtain ⟨ad160, e160, hx160_0⟩ := Kd.at_int (Kd.R_reads' HO_6.out).2.2 x12_3 p160 q160
        obtain rfl : ad158 = ad160 := (by injection e160)
        replace p160 := eq_true p160
        replace q160 := eq_true q160
        refine start_ (n := 27) (S := fun w' => w'.cell? (ad157.add (x13_3).toNat) = some (.bool false) ∧ w'.cell? (ad158.add (x13_3).toNat) = some (.int .i64 (rd x6_1 x13_3)) ∧ w'.cell? (ad158.add (x13_3).toNat) = some (.int .i64 (rd x6_1 x13_3)) ∧ w'.cell? (ad158.add (x12_3).toNat) = some (.int .i64 (rd x6_1 x12_3))) (ds := []) ba4_0 (by kernel_rfl) rfl rfl ⟨hx157_0, hx158_0, hx159_0, hx160_0⟩ (fun hHeld => ?_); refine with_tabW spec_l03Steps.tab16 spec_l03Steps.bits16 (fun HT_ HW_ => ?_)
        generalize wr.drew = w52 at HO_6 HO_8 HO_9 HO_10 BK137 HB hx157_0 hx158_0 hx159_0 hx160_0 hHeld ⊢
        refine pz_ 0 53 ba4_1 HT_ ?_
        refine pz_ 1 54 ba4_2 HT_ ?_
        refine pz_ 2 55 ba4_3 HT_ ?_
        refine pt_ 3 56 ba4_4 HT_ HW_ hHeld ?_
        refine pz_ 4 57 ba4_5 HT_ ?_
        refine pz_ 5 58 ba4_6 HT_ ?_
        refine pz_ 6 59 ba4_7 HT_ ?_
        refine pz_ 7 60 ba4_8 HT_ ?_
        refine pz_ 8 61 ba4_9 HT_ ?_
        refine pt_ 9 62 ba4_10 HT_ HW_ hHeld ?_
        refine pz_ 10 63 ba4_11 HT_ ?_
        refine pz_ 11 64 ba4_12 HT_ ?_
        refine pz_ 12 65 ba4_13 HT_ ?_
        refine pz_ 13 66 ba4_14 HT_ ?_
        refine pz_ 14 67 ba4_15 HT_ ?_
        refine pz_ 15 68 ba4_16 HT_ ?_
        refine pz_ 16 69 ba4_17 HT_ ?_
        refine pz_ 17 70 ba4_18 HT_ ?_
        refine pz_ 18 71 ba4_19 HT_ ?_
        refine pz_ 20 73 ba4_28 HT_ ?_
        refine pz_ 21 74 ba4_29 HT_ ?_
        refine pz_ 22 75 ba4_30 HT_ ?_
        refine pt_ 19 72 ba4_23 HT_ HW_ hHeld ?_
        refine pt_ 23 76 ba4_24 HT_ HW_ hHeld ?_
        refine pz_ 24 77 ba4_25 HT_ ?_
        refine pz_ 25 78 ba4_26 HT_ ?_
        refine pz_ 26 79 ba4_27 HT_ ?_
        refine done_ (done_of HT_.out (by kernel_rfl)) ?_
        try go_wp2
        go_roundg k3
        case measure => have := HK1.out; have := HK2.out; have := HK3.out; omega
        case rel => exact ⟨(x12_3), (wrap64 (x13_3 + 1)), (by first | rfl | (simp; done) | (simp [*]; done)), (by first | rfl | (simp; done) | (simp [*]; done)), H', ⟨by have := HK1.out; have := HK2.out; have := HK3.out; omega⟩, ⟨by (with_reducible repeat (first | apply Kd.R_alloc | apply Kd.R_drewN | apply Kd.R_drew)); exact HO_6.out⟩, ⟨by (with_reducible repeat (first | apply Kd.R_alloc | apply Kd.R_drewN | apply Kd.R_drew)); exact HO_8.out⟩, ⟨by (with_reducible repeat (first | apply Kd.R_alloc | apply Kd.R_drewN | apply Kd.R_drew)); exact HO_9.out⟩, ⟨by (with_reducible repeat (first | apply Kd.R_alloc | apply Kd.R_drewN | apply Kd.R_drew)); exact HO_10.out⟩, ⟨by (with_reducible repeat (first | refine blk_drewN ?_ _ | refine blk_drew ?_ | refine blk_alloc ?_ _)); exact BK137.out⟩, ⟨by repeat (first | (with_reducible first | exact HB.out | apply below_alloc | apply pw_below_drewN | apply below_drew1 | refine below_set ?_ GE137.out) | exact HB.out)⟩⟩
       rw [if_neg c29] at H
       have c29b0 : decide (x13_3 < a0_0) = false := decide_eq_false c29
       clear c29
       by_cases c59 : x12_3 < 0
       ·rw [if_pos c59] at H
        have c59b0 : decide (x12_3 < 0) = true := decide_eq_true c59
        clear c59
        simp only [Option.some.injEq, Prod.mk.injEq] at H
        obtain ⟨rfl, rfl⟩ := H
        have hcz60_0 := cz_ BK137 0 (.int .i64 a0_0)
        have hcz60_1 := cz_ BK137 1 (.slice A0_1 l0_1.length c0_1)
        have hfz60_0 := blk_frozen BK137.out 0
        have hfz60_1 := blk_frozen BK137.out 1
        go_wp2
        go_ret2
        exact ⟨_, _, by first | rfl | (simp [errW_none, errW_some] <;> rfl) | (simp [*, errW_none, errW_some] <;> rfl), by (with_reducible repeat (first | apply Kd.R_alloc | apply Kd.R_drewN | apply Kd.R_drew)); exact Kd.R_mono HO_8.out (fun _ hk => hk.2), by (with_reducible repeat (first | apply Kd.R_alloc | apply Kd.R_drewN | apply Kd.R_drew)); exact Kd.R_mono HO_9.out (fun _ hk => hk.2), by repeat (first | (with_reducible first | exact HB.out | apply below_alloc | apply pw_below_drewN | apply below_drew1 | refine below_set ?_ GE137.out) | exact HB.out)⟩
       rw [if_neg c59] at H
       have c59b0 : decide (x12_3 < 0) = false := decide_eq_false c59
       clear c59
       by_cases c61 : 0 ≤ x12_3
       rotate_left
       ·rw [if_neg c61] at H
        exact absurd H (by simp)
       rw [if_pos c61] at H
       have c61b0 : decide (0 ≤ x12_3) = true := decide_eq_true c61
       clear c61
       by_cases c62 : x12_3 < (x10_2.length : Int)
       rotate_left
       ·rw [if_neg c62] at H
        exact absurd H (by simp)
       rw [if_pos c62] at H
       have c62b0 : decide (x12_3 < (x10_2.length : Int)) = true := decide_eq_true c62
       clear c62
       obtain ⟨y161, hy161⟩ : ∃ y_ : List Bool, y_ = (x10_2.set (x12_3 : Int).toNat true) := ⟨_, rfl⟩
       replace H : (if x12_3 = a1 then (if x12_3 < (x8_2.length : Int) then (if x12_3 < (x9_2.length : Int) then (spec_l03Steps.l1 k3 a1 x6_1 (x8_2.set (x12_3 : Int).toNat 1) (x9_2.set (x12_3 : Int).toNat 1) y161 (wrap64 (x11_2 + 1)) a0_0 l0_1) else (none)) else (none)) else (spec_l03Steps.l3 k3 a1 x6_1 x8_2 x9_2 y161 x11_2 x12_3 0 a0_0 l0_1)) = some (r1, r2) := by first | (rw [hy161]; with_reducible exact H) | (have H2_ := (Option.bind_some _ _).symm.trans H; rw [hy161]; with_reducible exact H2_) | (have H2_ := (Option.bind_some _ _).symm.trans H; with_reducible exact H2_) | with_reducible exact H | (rw [hy161]; exact H) | exact H
       have Ny161 := Aside0.mk hy161
       clear hy161
       by_cases c64 : x12_3 = a1
       ·rw [if_pos c64] at H
        have c64b0 : (x12_3 == a1) = true := beq_iff_eq.mpr c64
        have c64b1 : (x12_3 != a1) = false := bne_eq_false_iff_eq.mpr c64
        clear c64
        by_cases c65 : x12_3 < (x8_2.length : Int)
        rotate_left
        ·rw [if_neg c65] at H
         exact absurd H (by simp)
        rw [if_pos c65] at H
        have c65b0 : decide (x12_3 < (x8_2.length : Int)) = true := decide_eq_true c65
        clear c65
        obtain ⟨y162, hy162⟩ : ∃ y_ : List Int, y_ = (x8_2.set (x12_3 : Int).toNat 1) := ⟨_, rfl⟩
        replace H : (if x12_3 < (x9_2.length : Int) then (spec_l03Steps.l1 k3 a1 x6_1 y162 (x9_2.set (x12_3 : Int).toNat 1) y161 (wrap64 (x11_2 + 1)) a0_0 l0_1) else (none)) = some (r1, r2) := by first | (rw [hy162]; with_reducible exact H) | (have H2_ := (Option.bind_some _ _).symm.trans H; rw [hy162]; with_reducible exact H2_) | (have H2_ := (Option.bind_some _ _).symm.trans H; with_reducible exact H2_) | with_reducible exact H | (rw [hy162]; exact H) | exact H
        have Ny162 := Aside0.mk hy162
        clear hy162
        by_cases c67 : x12_3 < (x9_2.length : Int)
        rotate_left
        ·rw [if_neg c67] at H
         exact absurd H (by simp)
        rw [if_pos c67] at H
        have c67b0 : decide (x12_3 < (x9_2.length : Int)) = true := decide_eq_true c67
        clear c67
        obtain ⟨y163, hy163⟩ : ∃ y_ : List Int, y_ = (x9_2.set (x12_3 : Int).toNat 1) := ⟨_, rfl⟩
        replace H : (spec_l03Steps.l1 k3 a1 x6_1 y162 y163 y161 (wrap64 (x11_2 + 1)) a0_0 l0_1) = some (r1, r2) := by first | (rw [hy163]; with_reducible exact H) | (have H2_ := (Option.bind_some _ _).symm.trans H; rw [hy163]; with_reducible exact H2_) | (have H2_ := (Option.bind_some _ _).symm.trans H; with_reducible exact H2_) | with_reducible exact H | (rw [hy163]; exact H) | exact H
        have Ny163 := Aside0.mk hy163
        clear hy163
        have H' := Aside0.mk H
        clear H
        have hcz69_0 := cz_ BK137 0 (.int .i64 a0_0)
        have hcz69_1 := cz_ BK137 1 (.slice A0_1 l0_1.length c0_1)
        have hfz69_0 := blk_frozen BK137.out 0
        have hfz69_1 := blk_frozen BK137.out 1
        have p63 : 0 ≤ (x12_3 : Int) := of_decide_eq_true (by first | (with_reducible assumption) | assumption)
        have q63 : (x12_3 : Int) < ((x10_2.length : Int) : Int) := of_decide_eq_true (by first | (with_reducible assumption) | assumption)
        obtain ⟨go63, co63, eo63, gb63, gl63, cl63, HG63⟩ := Kd.R_form HO_10.out (by omega)
        (first | cases eo63 | (injection eo63 with ea_ en_ ec_; (first | subst ea_ | (injection ea_ with ea_; subst ea_)); subst ec_; clear en_))
        have GB63 := Aside0.mk gb63
        have GG63 := Aside0.mk HG63
        clear gb63 gl63 HG63
        obtain ⟨hx63_0, hf63_0⟩ := Kd.R_celln false HO_10.out (x12_3 : Int) p63 q63
        replace p63 := eq_true p63
        replace q63 := eq_true q63
        have HP70 := Kd.R_putg HO_10.out (x12_3 : Int) true
        go_wp2_with (first | ((with_reducible refine gate_store (t := 4) (p := 85) rfl ?_); refine store_event (t := 4) (p := 85) (v := ?vo_w71) (w1 := (wr.setCell ⟨go63, (x12_3 : Int).toNat, none⟩ (.bool true))) ?hg ?ho ?hn ?hr ?_; (case ho => rfl); (case hg => rfl); (case hn => rfl); (case hr => first | (go_simp; done) | (go_simp; rfl)); intro w71 hw; have hg : wr.grownBy w71 (some go63) := (by rw [hw]; exact HP70.2); have hp_ : Kd.R Kd.bool 4 w71 w.heap.size (fun _ => True) (.slice (some ⟨go63, 0, none⟩) x10_2.length co63) y161 := (by rw [hw, Ny161.out]; exact HP70.1); clear HP70; replace HO_6 := Aside0.mk (Kd.R_over' (v := (.slice (some ⟨go63, 0, none⟩) x10_2.length co63)) (hd_ HO_6) (Kd.R_typed HO_10.out) (by decide) hg); replace HO_8 := Aside0.mk (Kd.R_over' (v := (.slice (some ⟨go63, 0, none⟩) x10_2.length co63)) (hd_ HO_8) (Kd.R_typed HO_10.out) (by decide) hg); replace HO_9 := Aside0.mk (Kd.R_over' (v := (.slice (some ⟨go63, 0, none⟩) x10_2.length co63)) (hd_ HO_9) (Kd.R_typed HO_10.out) (by decide) hg); replace BK137 := Aside0.mk (blk_grown (g := gb137) (o := .cells #[.int .i64 a0_0, .slice A0_1 l0_1.length c0_1] 30 (0, 0)) (by (with_reducible repeat (first | refine blk_drewN ?_ _ | refine blk_drew ?_ | refine blk_alloc ?_ _)); exact BK137.out) hg (Kd.R_ne HO_10.out BK137.out (by decide))); replace HO_10 := Aside0.mk (hp_); replace HB := Aside0.mk ((by rw [hw]; exact below_set (HB.out) GB63.out : Below w.heap.size w w71)); clear hg hw hp_; have p66 : 0 ≤ (x12_3 : Int) := of_decide_eq_true (by first | (with_reducible assumption) | assumption); have q66 : (x12_3 : Int) < ((x8_2.length : Int) : Int) := of_decide_eq_true (by first | (with_reducible assumption) | assumption); obtain ⟨go66, co66, eo66, gb66, gl66, cl66, HG66⟩ := Kd.R_form HO_8.out (by omega); (first | cases eo66 | (injection eo66 with ea_ en_ ec_; (first | subst ea_ | (injection ea_ with ea_; subst ea_)); subst ec_; clear en_)); have GB66 := Aside0.mk gb66; have GG66 := Aside0.mk HG66; clear gb66 gl66 HG66; obtain ⟨hx66_0, hf66_0⟩ := Kd.R_celln 0 HO_8.out (x12_3 : Int) p66 q66; replace p66 := eq_true p66; replace q66 := eq_true q66; obtain ⟨hy72_, hz72_⟩ := Kd.R_celln 0 HO_8.out (x12_3 : Int) (of_decide_eq_true (by first | (with_reducible assumption) | assumption)) (of_decide_eq_true (by first | (with_reducible assumption) | assumption)); have HP72 := Kd.R_putg HO_8.out (x12_3 : Int) 1) | ((with_reducible refine gate_store (t := 3) (p := 91) rfl ?_); refine store_event (t := 3) (p := 91) (v := ?vo_w73) (w1 := (w71.setCell ⟨go66, (x12_3 : Int).toNat, none⟩ (.int .i64 1))) ?hg ?ho ?hn ?hr ?_; (case ho => rfl); (case hg => rfl); (case hn => rfl); (case hr => first | (go_simp; done) | (go_simp; rfl)); intro w73 hw; have hg : w71.grownBy w73 (some go66) := (by rw [hw]; exact HP72.2); have hp_ : Kd.R (Kd.int .i64) 3 w73 w.heap.size (fun k_ => some k_ ≠ (u6 : Value).ownBlock ∧ some k_ ≠ (v152 : Value).ownBlock) (.slice (some ⟨go66, 0, none⟩) x8_2.length co66) y162 := (by rw [hw, Ny162.out]; exact HP72.1); clear HP72; replace HO_6 := Aside0.mk (Kd.R_after (v := (.slice (some ⟨go66, 0, none⟩) x8_2.length co66)) (v1 := (.slice (some ⟨go66, 0, none⟩) x8_2.length co66)) (ok := (fun k_ => some k_ ≠ (v152 : Value).ownBlock)) (by (with_reducible repeat (first | apply Kd.R_alloc | apply Kd.R_drewN | apply Kd.R_drew)); exact Kd.R_mono HO_6.out (fun _ hk => by first | exact ⟨hk.2, hk.1⟩ | grind)) hg (.inl rfl)); replace HO_9 := Aside0.mk (Kd.R_after (v := (.slice (some ⟨go66, 0, none⟩) x8_2.length co66)) (v1 := (.slice (some ⟨go66, 0, none⟩) x8_2.length co66)) (ok := (fun k_ => some k_ ≠ (u6 : Value).ownBlock)) (hd_ HO_9) hg (.inl rfl)); replace HO_10 := Aside0.mk (Kd.R_over' (v := (.slice (some ⟨go66, 0, none⟩) x8_2.length co66)) (hd_ HO_10) (Kd.R_typed HO_8.out) (by decide) hg); replace BK137 := Aside0.mk (blk_grown (g := gb137) (o := .cells #[.int .i64 a0_0, .slice A0_1 l0_1.length c0_1] 30 (0, 0)) (by (with_reducible repeat (first | refine blk_drewN ?_ _ | refine blk_drew ?_ | refine blk_alloc ?_ _)); exact BK137.out) hg (Kd.R_ne HO_8.out BK137.out (by decide))); replace HO_8 := Aside0.mk (hp_); replace HB := Aside0.mk ((by rw [hw]; exact below_set (HB.out) GB66.out : Below w.heap.size w w73)); clear hg hw hp_; have p68 : 0 ≤ (x12_3 : Int) := of_decide_eq_true (by first | (with_reducible assumption) | assumption); have q68 : (x12_3 : Int) < ((x9_2.length : Int) : Int) := of_decide_eq_true (by first | (with_reducible assumption) | assumption); obtain ⟨go68, co68, eo68, gb68, gl68, cl68, HG68⟩ := Kd.R_form HO_9.out (by omega); (first | cases eo68 | (injection eo68 with ea_ en_ ec_; (first | subst ea_ | (injection ea_ with ea_; subst ea_)); subst ec_; clear en_)); have GB68 := Aside0.mk gb68; have GG68 := Aside0.mk HG68; clear gb68 gl68 HG68; obtain ⟨hx68_0, hf68_0⟩ := Kd.R_celln 0 HO_9.out (x12_3 : Int) p68 q68; replace p68 := eq_true p68; replace q68 := eq_true q68; obtain ⟨hy74_, hz74_⟩ := Kd.R_celln 0 HO_9.out (x12_3 : Int) (of_decide_eq_true (by first | (with_reducible assumption) | assumption)) (of_decide_eq_true (by first | (with_reducible assumption) | assumption)); have HP74 := Kd.R_putg HO_9.out (x12_3 : Int) 1) | ((with_reducible refine gate_store (t := 3) (p := 94) rfl ?_); refine store_event (t := 3) (p := 94) (v := ?vo_w75) (w1 := (w73.setCell ⟨go68, (x12_3 : Int).toNat, none⟩ (.int .i64 1))) ?hg ?ho ?hn ?hr ?_; (case ho => rfl); (case hg => rfl); (case hn => rfl); (case hr => first | (go_simp; done) | (go_simp; rfl)); intro w75 hw; have hg : w73.grownBy w75 (some go68) := (by rw [hw]; exact HP74.2); have hp_ : Kd.R (Kd.int .i64) 3 w75 w.heap.size (fun k_ => some k_ ≠ (u6 : Value).ownBlock ∧ some k_ ≠ (.slice (some ⟨go66, 0, none⟩) x8_2.length co66 : Value).ownBlock) (.slice (some ⟨go68, 0, none⟩) x9_2.length co68) y163 := (by rw [hw, Ny163.out]; exact HP74.1); clear HP74; replace HO_6 := Aside0.mk (Kd.R_after (v := (.slice (some ⟨go68, 0, none⟩) x9_2.length co68)) (v1 := (.slice (some ⟨go68, 0, none⟩) x9_2.length co68)) (ok := (fun k_ => some k_ ≠ (.slice (some ⟨go66, 0, none⟩) x8_2.length co66 : Value).ownBlock)) (by (with_reducible repeat (first | apply Kd.R_alloc | apply Kd.R_drewN | apply Kd.R_drew)); exact Kd.R_mono HO_6.out (fun _ hk => by first | exact ⟨hk.2, hk.1⟩ | grind)) hg (.inl rfl)); replace HO_8 := Aside0.mk (Kd.R_after (v := (.slice (some ⟨go68, 0, none⟩) x9_2.length co68)) (v1 := (.slice (some ⟨go68, 0, none⟩) x9_2.length co68)) (ok := (fun k_ => some k_ ≠ (u6 : Value).ownBlock)) (hd_ HO_8) hg (.inl rfl)); replace HO_10 := Aside0.mk (Kd.R_over' (v := (.slice (some ⟨go68, 0, none⟩) x9_2.length co68)) (hd_ HO_10) (Kd.R_typed HO_9.out) (by decide) hg); replace BK137 := Aside0.mk (blk_grown (g := gb137) (o := .cells #[.int .i64 a0_0, .slice A0_1 l0_1.length c0_1] 30 (0, 0)) (by (with_reducible repeat (first | refine blk_drewN ?_ _ | refine blk_drew ?_ | refine blk_alloc ?_ _)); exact BK137.out) hg (Kd.R_ne HO_9.out BK137.out (by decide))); replace HO_9 := Aside0.mk (hp_); replace HB := Aside0.mk ((by rw [hw]; exact below_set (HB.out) GB68.out : Below w.heap.size w w75)); clear hg hw hp_))
        go_roundg k3
        case measure => have := HK1.out; have := HK2.out; have := HK3.out; omega
        case rel => exact ⟨(y162), (y163), (y161), (wrap64 (x11_2 + 1)), (by first | rfl | (simp; done) | (simp [*]; done)), H', ⟨by have := HK1.out; have := HK2.out; have := HK3.out; omega⟩, ⟨by (with_reducible repeat (first | apply Kd.R_alloc | apply Kd.R_drewN | apply Kd.R_drew)); exact HO_6.out⟩, ⟨by (with_reducible repeat (first | apply Kd.R_alloc | apply Kd.R_drewN | apply Kd.R_drew)); exact HO_8.out⟩, ⟨by (with_reducible repeat (first | apply Kd.R_alloc | apply Kd.R_drewN | apply Kd.R_drew)); exact HO_9.out⟩, ⟨by (with_reducible repeat (first | apply Kd.R_alloc | apply Kd.R_drewN | apply Kd.R_drew)); exact HO_10.out⟩, ⟨by (with_reducible repeat (first | refine blk_drewN ?_ _ | refine blk_drew ?_ | refine blk_alloc ?_ _)); exact BK137.out⟩, ⟨by repeat (first | (with_reducible first | exact HB.out | apply below_alloc | apply pw_below_drewN | apply below_drew1 | refine below_set ?_ GE137.out) | exact HB.out)⟩⟩
       rw [if_neg c64] at H
       have c64b0 : (x12_3 == a1) = false := beq_eq_false_iff_ne.mpr c64
       have c64b1 : (x12_3 != a1) = true := bne_iff_ne.mpr c64
       have H' := Aside0.mk H
       clear H
       have hcz76_0 := cz_ BK137 0 (.int .i64 a0_0)
       have hcz76_1 := cz_ BK137 1 (.slice A0_1 l0_1.length c0_1)
       have hfz76_0 := blk_frozen BK137.out 0
       have hfz76_1 := blk_frozen BK137.out 1
       have p63 : 0 ≤ (x12_3 : Int) := of_decide_eq_true (by first | (with_reducible assumption) | assumption)
       have q63 : (x12_3 : Int) < ((x10_2.length : Int) : Int) := of_decide_eq_true (by first | (with_reducible assumption) | assumption)
       obtain ⟨go63, co63, eo63, gb63, gl63, cl63, HG63⟩ := Kd.R_form HO_10.out (by omega)
       (first | cases eo63 | (injection eo63 with ea_ en_ ec_; (first | subst ea_ | (injection ea_ with ea_; subst ea_)); subst ec_; clear en_))
       have GB63 := Aside0.mk gb63
       have GG63 := Aside0.mk HG63
       clear gb63 gl63 HG63
       obtain ⟨hx63_0, hf63_0⟩ := Kd.R_celln false HO_10.out (x12_3 : Int) p63 q63
       replace p63 := eq_true p63
       replace q63 := eq_true q63
       have HP77 := Kd.R_putg HO_10.out (x12_3 : Int) true
       go_wp2_with (first | ((with_reducible refine gate_store (t := 4) (p := 85) rfl ?_); refine store_event (t := 4) (p := 85) (v := ?vo_w78) (w1 := (wr.setCell ⟨go63, (x12_3 : Int).toNat, none⟩ (.bool true))) ?hg ?ho ?hn ?hr ?_; (case ho => rfl); (case hg => rfl); (case hn => rfl); (case hr => first | (go_simp; done) | (go_simp; rfl)); intro w78 hw; have hg : wr.grownBy w78 (some go63) := (by rw [hw]; exact HP77.2); have hp_ : Kd.R Kd.bool 4 w78 w.heap.size (fun _ => True) (.slice (some ⟨go63, 0, none⟩) x10_2.length co63) y161 := (by rw [hw, Ny161.out]; exact HP77.1); clear HP77; replace HO_6 := Aside0.mk (Kd.R_over' (v := (.slice (some ⟨go63, 0, none⟩) x10_2.length co63)) (hd_ HO_6) (Kd.R_typed HO_10.out) (by decide) hg); replace HO_8 := Aside0.mk (Kd.R_over' (v := (.slice (some ⟨go63, 0, none⟩) x10_2.length co63)) (hd_ HO_8) (Kd.R_typed HO_10.out) (by decide) hg); replace HO_9 := Aside0.mk (Kd.R_over' (v := (.slice (some ⟨go63, 0, none⟩) x10_2.length co63)) (hd_ HO_9) (Kd.R_typed HO_10.out) (by decide) hg); replace BK137 := Aside0.mk (blk_grown (g := gb137) (o := .cells #[.int .i64 a0_0, .slice A0_1 l0_1.length c0_1] 30 (0, 0)) (by (with_reducible repeat (first | refine blk_drewN ?_ _ | refine blk_drew ?_ | refine blk_alloc ?_ _)); exact BK137.out) hg (Kd.R_ne HO_10.out BK137.out (by decide))); replace HO_10 := Aside0.mk (hp_); replace HB := Aside0.mk ((by rw [hw]; exact below_set (HB.out) GB63.out : Below w.heap.size w w78)); clear hg hw hp_))
       go_loopg [14] k3 (fun kq v14 w' => ∃ (x8_4 : List Int) (x9_4 : List Int) (x14_4 : Int), v14 = .int .i64 x14_4 ∧ Aside0 (spec_l03Steps.l3 kq a1 x6_1 x8_4 x9_4 y161 x11_2 x12_3 x14_4 a0_0 l0_1 = some (r1, r2)) ∧ Aside0 (kq ≤ k3) ∧ Aside0 (Kd.R (Kd.int .i64) 3 w' w.heap.size (fun k_ => some k_ ≠ (v149 : Value).ownBlock ∧ some k_ ≠ (v152 : Value).ownBlock) u6 x6_1) ∧ Aside0 (Kd.R (Kd.int .i64) 3 w' w.heap.size (fun k_ => some k_ ≠ (u6 : Value).ownBlock ∧ some k_ ≠ (v152 : Value).ownBlock) v149 x8_4) ∧ Aside0 (Kd.R (Kd.int .i64) 3 w' w.heap.size (fun k_ => some k_ ≠ (u6 : Value).ownBlock ∧ some k_ ≠ (v149 : Value).ownBlock) v152 x9_4) ∧ Aside0 (Kd.R Kd.bool 4 w' w.heap.size (fun _ => True) (.slice (some ⟨go63, 0, none⟩) x10_2.length co63) y161) ∧ Aside0 (w'.heap[gb137]? = some (.cells #[.int .i64 a0_0, (.slice A0_1 l0_1.length c0_1)] 30 (0, 0))) ∧ Aside0 (Below w.heap.size w w'))
       case atStart => exact ⟨(x8_2), (x9_2), (0), (by first | rfl | (simp; done) | (simp [*]; done)), H', ⟨Nat.le_refl _⟩, ⟨by (with_reducible repeat (first | apply Kd.R_alloc | apply Kd.R_drewN | apply Kd.R_drew)); exact HO_6.out⟩, ⟨by (with_reducible repeat (first | apply Kd.R_alloc | apply Kd.R_drewN | apply Kd.R_drew)); exact HO_8.out⟩, ⟨by (with_reducible repeat (first | apply Kd.R_alloc | apply Kd.R_drewN | apply Kd.R_drew)); exact HO_9.out⟩, ⟨by (with_reducible repeat (first | apply Kd.R_alloc | apply Kd.R_drewN | apply Kd.R_drew)); exact HO_10.out⟩, ⟨by (with_reducible repeat (first | refine blk_drewN ?_ _ | refine blk_drew ?_ | refine blk_alloc ?_ _)); exact BK137.out⟩, ⟨by repeat (first | (with_reducible first | exact HB.out | apply below_alloc | apply pw_below_drewN | apply below_drew1 | refine below_set ?_ GE137.out) | exact HB.out)⟩⟩
       case round =>
        clear H'
        try clear p1
        try clear q1
        try clear hx1
        try clear c2
        try clear p2
        try clear c3
        try clear q3
        try clear c4
        try clear c5
        try clear c6
        try clear p6
        try clear q6
        try clear hx6
        try clear hf6
        try clear p15
        try clear q15
        try clear hx15
        try clear p16
        try clear q16
        try clear hx16
        try clear c29
        try clear c29b0
        try clear c30
        try clear c31
        try clear q32
        try clear c37
        try clear c38
        try clear c38b0
        try clear c44
        try clear c45
        try clear c59
        try clear c59b0
        try clear c61
        try clear c61b0
        try clear c62
        try clear c62b0
        try clear p63
        try clear q63
        try clear hx63
        try clear hf63
        try clear c64
        try clear c64b0
        try clear c64b1
        try clear p64
        try clear c65
        try clear c65b0
        try clear p66
        try clear q66
        try clear hx66
        try clear hf66
        try clear c67
        try clear c67b0
        try clear p68
        try clear q68
        try clear hx68
        try clear hf68
        try clear hcz55_0
        try clear hcz55_1
        try clear hcz60_0
        try clear hcz60_1
        try clear hcz69_0
        try clear hcz69_1
        try clear hcz76_0
        try clear hcz76_1
        try clear hfz55_0
        try clear hfz55_1
        try clear hfz60_0
        try clear hfz60_1
        try clear hfz69_0
        try clear hfz69_1
        try clear hfz76_0
        try clear hfz76_1
        try clear hx157_0
        try clear hx158_0
        try clear hx159_0
        try clear hx160_0
        try clear hx63_0
        try clear hx66_0
        try clear hx68_0
        try clear p157
        try clear p158
        try clear p159
        try clear p160
        try clear p63
        try clear p66
        try clear p68
        try clear q157
        try clear q158
        try clear q159
        try clear q160
        try clear q63
        try clear q66
        try clear q68
        obtain ⟨x8_4, x9_4, x14_4, rfl, HA, HK4, HO_6, HO_8, HO_9, HO_10, BK137, HB⟩ := hrel
        have hl10_4 := (Kd.R_reads' HO_10.out).1
        rw [hl10_4] at HO_10
        (try simp only [hl10_4])
        (try simp only [hl10_4] at BK137)
        (try simp only [hl10_4] at HO_6)
        (try simp only [hl10_4] at HO_8)
        (try simp only [hl10_4] at HO_9)
        cases gk with
        | zero => exact absurd HA.out (by simp [spec_l03Steps.l3])
        | succ k4 =>
         have H := HA.out
         clear HA
         simp only [spec_l03Steps.l3] at H
         by_cases c79 : x14_4 < a0_0
         rotate_left
         ·rw [if_neg c79] at H
          have c79b0 : decide (x14_4 < a0_0) = false := decide_eq_false c79
          clear c79
          have H' := Aside0.mk H
          clear H
          have hcz132_0 := cz_ BK137 0 (.int .i64 a0_0)
          have hcz132_1 := cz_ BK137 1 (.slice A0_1 l0_1.length c0_1)
          have hfz132_0 := blk_frozen BK137.out 0
          have hfz132_1 := blk_frozen BK137.out 1
          go_wp2
          (try simp only [← hl10_4])
          go_roundg k4
          case measure => have := HK1.out; have := HK2.out; have := HK3.out; have := HK4.out; omega
          case rel => exact ⟨(x8_4), (x9_4), (y161), (wrap64 (x11_2 + 1)), (by first | rfl | (simp; done) | (simp [*]; done)), H', ⟨by have := HK1.out; have := HK2.out; have := HK3.out; have := HK4.out; omega⟩, ⟨by (try simp only [hl10_4]); (with_reducible repeat (first | apply Kd.R_alloc | apply Kd.R_drewN | apply Kd.R_drew)); exact HO_6.out⟩, ⟨by (try simp only [hl10_4]); (with_reducible repeat (first | apply Kd.R_alloc | apply Kd.R_drewN | apply Kd.R_drew)); exact HO_8.out⟩, ⟨by (try simp only [hl10_4]); (with_reducible repeat (first | apply Kd.R_alloc | apply Kd.R_drewN | apply Kd.R_drew)); exact HO_9.out⟩, ⟨by (try simp only [hl10_4]); (with_reducible repeat (first | apply Kd.R_alloc | apply Kd.R_drewN | apply Kd.R_drew)); exact HO_10.out⟩, ⟨by (try simp only [hl10_4]); (with_reducible repeat (first | refine blk_drewN ?_ _ | refine blk_drew ?_ | refine blk_alloc ?_ _)); exact BK137.out⟩, ⟨by repeat (first | (with_reducible first | exact HB.out | apply below_alloc | apply pw_below_drewN | apply below_drew1 | refine below_set ?_ GE137.out) | exact HB.out)⟩⟩
         rw [if_pos c79] at H
         have c79b0 : decide (x14_4 < a0_0) = true := decide_eq_true c79
         clear c79
         replace H := Option.bind_eq_some_iff.mp H
         obtain ⟨t164, A800, H⟩ := H
         have A80 := Aside0.mk A800
         clear A800
         have HC81 := Aside0.mk H
         clear H
         have hcz82_0 := cz_ BK137 0 (.int .i64 a0_0)
         have hcz82_1 := cz_ BK137 1 (.slice A0_1 l0_1.length c0_1)
         have hfz82_0 := blk_frozen BK137.out 0
         have hfz82_1 := blk_frozen BK137.out 1
         go_upto_region 27 with (first | ((with_reducible refine gate_callee (f := 72) rfl ?_); refine gl_ (some 104) Try.func72 #[.agg #[.int .i64 a0_0, .slice A0_1 l0_1.length c0_1], .int .i64 x12_3, .int .i64 x14_4] ?_; (with_reducible refine (spec_l03Cost.calls k4 a0_0 _ _ l0_1 x12_3 x14_4 t164 _ ?side1 ?side2 A80.out).mono ?_); (case side1 => exact cb_ HR0_1 HB); (case side2 => exact HC0_1.out); rintro e w83 ⟨rfl, hb⟩; refine ⟨_, rfl, ?_⟩; replace HO_6 := rb_ HO_6 hb; replace HO_8 := rb_ HO_8 hb; replace HO_9 := rb_ HO_9 hb; replace HO_10 := rb_ HO_10 hb; replace BK137 := Aside0.mk (bb_ BK137 hb); replace HB := Aside0.mk (bt_ HB hb); (try clear hb); (try clear hb2); (try clear hk); (try clear hi)))
         (try simp only [Act.put, List.setIfInBounds_toArray, List.set_cons_zero, List.set_cons_succ])
         go_cut [131] (fun v131 wc => ∃ (kq : Nat) (x131_80 : Bool), v131 = .bool x131_80 ∧ Aside0 (spec_l03Steps.j4 kq a1 x6_1 x8_4 x9_4 y161 x11_2 x12_3 x14_4 x131_80 a0_0 l0_1 = some (r1, r2)) ∧ Aside0 (kq ≤ k4) ∧ Aside0 (Kd.R (Kd.int .i64) 3 wc w.heap.size (fun k_ => some k_ ≠ (v149 : Value).ownBlock ∧ some k_ ≠ (v152 : Value).ownBlock) u6 x6_1) ∧ Aside0 (Kd.R (Kd.int .i64) 3 wc w.heap.size (fun k_ => some k_ ≠ (u6 : Value).ownBlock ∧ some k_ ≠ (v152 : Value).ownBlock) v149 x8_4) ∧ Aside0 (Kd.R (Kd.int .i64) 3 wc w.heap.size (fun k_ => some k_ ≠ (u6 : Value).ownBlock ∧ some k_ ≠ (v149 : Value).ownBlock) v152 x9_4) ∧ Aside0 (Kd.R Kd.bool 4 wc w.heap.size (fun _ => True) (.slice (some ⟨go63, 0, none⟩) y161.length co63) y161) ∧ Aside0 (wc.heap[gb137]? = some (.cells #[.int .i64 a0_0, (.slice A0_1 l0_1.length c0_1)] 30 (0, 0))) ∧ Aside0 (Below w.heap.size w wc))
         case first =>
          have H := HC81.out
          clear HC81
          by_cases c84 : x14_4 = x12_3
          ·rw [if_pos c84] at H
           have c84b0 : (x14_4 == x12_3) = true := beq_iff_eq.mpr c84
           have c84b1 : (x14_4 != x12_3) = false := bne_eq_false_iff_eq.mpr c84
           clear c84
           (first | rw [c84b0] | (simp only [i64_w, i32_w]; rw [c84b0]) | skip)
           have H' := Aside0.mk H
           clear H
           try go_wp2
           replace HO_6 := Aside0.mk (Kd.R_drew HO_6.out)
           replace HO_8 := Aside0.mk (Kd.R_drew HO_8.out)
           replace HO_9 := Aside0.mk (Kd.R_drew HO_9.out)
           replace HO_10 := Aside0.mk (Kd.R_drew HO_10.out)
           replace BK137 := Aside0.mk (blk_drew BK137.out)
           replace HB := Aside0.mk (below_drew1 HB.out)
           refine start_ (n := 27) (S := fun w' => True) (ds := []) ba4_0 (by kernel_rfl) rfl rfl trivial (fun hHeld => ?_); refine with_tabW spec_l03Steps.tab27 spec_l03Steps.bits27 (fun HT_ HW_ => ?_)
           generalize w83.drew = w85 at HO_6 HO_8 HO_9 HO_10 BK137 HB hHeld ⊢
           refine pz_ 0 105 ba4_1 HT_ ?_
           refine pz_ 1 106 ba4_2 HT_ ?_
           refine pz_ 2 107 ba4_3 HT_ ?_
           refine pz_ 3 108 ba4_4 HT_ ?_
           refine pu_ 4 109 ba4_5 HT_ ?_
           refine pu_ 5 110 ba4_6 HT_ ?_
           refine pz_ 6 111 ba4_7 HT_ ?_
           refine pz_ 7 112 ba4_8 HT_ ?_
           refine pu_ 8 113 ba4_9 HT_ ?_
           refine pu_ 9 114 ba4_10 HT_ ?_
           refine pu_ 10 115 ba4_11 HT_ ?_
           refine pu_ 11 116 ba4_12 HT_ ?_
           refine pu_ 12 117 ba4_13 HT_ ?_
           refine pz_ 13 118 ba4_14 HT_ ?_
           refine pz_ 14 119 ba4_15 HT_ ?_
           refine pu_ 15 120 ba4_16 HT_ ?_
           refine pu_ 16 121 ba4_17 HT_ ?_
           refine pu_ 17 122 ba4_18 HT_ ?_
           refine pu_ 18 123 ba4_19 HT_ ?_
           refine pu_ 19 124 ba4_20 HT_ ?_
           refine pu_ 20 125 ba4_21 HT_ ?_
           refine pu_ 21 126 ba4_22 HT_ ?_
           refine pu_ 22 127 ba4_23 HT_ ?_
           refine pu_ 23 128 ba4_24 HT_ ?_
           refine pu_ 24 129 ba4_25 HT_ ?_
           refine pu_ 25 130 ba4_26 HT_ ?_
           refine pz_ 26 131 ba4_27 HT_ ?_
           refine done_ (done_of HT_.out (by kernel_rfl)) ?_
           try go_wp2
           go_meet
           case rel => exact ⟨_, (true), (by first | rfl | (simp; done) | (simp [*]; done)), H', ⟨by have := HK1.out; have := HK2.out; have := HK3.out; have := HK4.out; first | omega | exact Nat.le_refl _⟩, ⟨by (try simp only [hl10_4]); (with_reducible repeat (first | apply Kd.R_alloc | apply Kd.R_drewN | apply Kd.R_drew)); exact HO_6.out⟩, ⟨by (try simp only [hl10_4]); (with_reducible repeat (first | apply Kd.R_alloc | apply Kd.R_drewN | apply Kd.R_drew)); exact HO_8.out⟩, ⟨by (try simp only [hl10_4]); (with_reducible repeat (first | apply Kd.R_alloc | apply Kd.R_drewN | apply Kd.R_drew)); exact HO_9.out⟩, ⟨by (try simp only [hl10_4]); (with_reducible repeat (first | apply Kd.R_alloc | apply Kd.R_drewN | apply Kd.R_drew)); exact HO_10.out⟩, ⟨by (try simp only [hl10_4]); (with_reducible repeat (first | refine blk_drewN ?_ _ | refine blk_drew ?_ | refine blk_alloc ?_ _)); exact BK137.out⟩, ⟨by repeat (first | (with_reducible first | exact HB.out | apply below_alloc | apply pw_below_drewN | apply below_drew1 | refine below_set ?_ GE137.out) | exact HB.out)⟩⟩
          rw [if_neg c84] at H
          have c84b0 : (x14_4 == x12_3) = false := beq_eq_false_iff_ne.mpr c84
          have c84b1 : (x14_4 != x12_3) = true := bne_iff_ne.mpr c84
          (first | rw [c84b0] | (simp only [i64_w, i32_w]; rw [c84b0]) | skip)
          by_cases c86 : t164 = 1000000
          ·rw [if_pos c86] at H
           have c86b0 : (t164 == 1000000) = true := beq_iff_eq.mpr c86
           have c86b1 : (t164 != 1000000) = false := bne_eq_false_iff_eq.mpr c86
           clear c86
           have H' := Aside0.mk H
           clear H
           try go_wp2
           replace HO_6 := Aside0.mk (Kd.R_drew HO_6.out)
           replace HO_8 := Aside0.mk (Kd.R_drew HO_8.out)
           replace HO_9 := Aside0.mk (Kd.R_drew HO_9.out)
           replace HO_10 := Aside0.mk (Kd.R_drew HO_10.out)
           replace BK137 := Aside0.mk (blk_drew BK137.out)
           replace HB := Aside0.mk (below_drew1 HB.out)
           refine start_ (n := 27) (S := fun w' => True) (ds := []) ba4_0 (by kernel_rfl) rfl rfl trivial (fun hHeld => ?_); refine with_tabW spec_l03Steps.tab27 spec_l03Steps.bits27 (fun HT_ HW_ => ?_)
           generalize w83.drew = w87 at HO_6 HO_8 HO_9 HO_10 BK137 HB hHeld ⊢
           refine pz_ 0 105 ba4_1 HT_ ?_
           refine pz_ 1 106 ba4_2 HT_ ?_
           refine pz_ 2 107 ba4_3 HT_ ?_
           refine pz_ 3 108 ba4_4 HT_ ?_
           refine pz_ 4 109 ba4_5 HT_ ?_
           refine pz_ 5 110 ba4_6 HT_ ?_
           refine pz_ 6 111 ba4_7 HT_ ?_
           refine pz_ 7 112 ba4_8 HT_ ?_
           refine pu_ 8 113 ba4_9 HT_ ?_
           refine pu_ 9 114 ba4_10 HT_ ?_
           refine pu_ 10 115 ba4_11 HT_ ?_
           refine pu_ 11 116 ba4_12 HT_ ?_
           refine pu_ 12 117 ba4_13 HT_ ?_
           refine pz_ 13 118 ba4_14 HT_ ?_
           refine pz_ 14 119 ba4_15 HT_ ?_
           refine pu_ 15 120 ba4_16 HT_ ?_
           refine pu_ 16 121 ba4_17 HT_ ?_
           refine pu_ 17 122 ba4_18 HT_ ?_
           refine pu_ 18 123 ba4_19 HT_ ?_
           refine pu_ 19 124 ba4_20 HT_ ?_
           refine pu_ 20 125 ba4_21 HT_ ?_
           refine pu_ 21 126 ba4_22 HT_ ?_
           refine pu_ 22 127 ba4_23 HT_ ?_
           refine pu_ 23 128 ba4_24 HT_ ?_
           refine pu_ 24 129 ba4_25 HT_ ?_
           refine pu_ 25 130 ba4_26 HT_ ?_
           refine pz_ 26 131 ba4_27 HT_ ?_
           refine done_ (done_of HT_.out (by kernel_rfl)) ?_
           try go_wp2
           go_meet
           case rel => exact ⟨_, (true), (by first | rfl | (simp; done) | (simp [*]; done)), H', ⟨by have := HK1.out; have := HK2.out; have := HK3.out; have := HK4.out; first | omega | exact Nat.le_refl _⟩, ⟨by (try simp only [hl10_4]); (with_reducible repeat (first | apply Kd.R_alloc | apply Kd.R_drewN | apply Kd.R_drew)); exact HO_6.out⟩, ⟨by (try simp only [hl10_4]); (with_reducible repeat (first | apply Kd.R_alloc | apply Kd.R_drewN | apply Kd.R_drew)); exact HO_8.out⟩, ⟨by (try simp only [hl10_4]); (with_reducible repeat (first | apply Kd.R_alloc | apply Kd.R_drewN | apply Kd.R_drew)); exact HO_9.out⟩, ⟨by (try simp only [hl10_4]); (with_reducible repeat (first | apply Kd.R_alloc | apply Kd.R_drewN | apply Kd.R_drew)); exact HO_10.out⟩, ⟨by (try simp only [hl10_4]); (with_reducible repeat (first | refine blk_drewN ?_ _ | refine blk_drew ?_ | refine blk_alloc ?_ _)); exact BK137.out⟩, ⟨by repeat (first | (with_reducible first | exact HB.out | apply below_alloc | apply pw_below_drewN | apply below_drew1 | refine below_set ?_ GE137.out) | exact HB.out)⟩⟩
          rw [if_neg c86] at H
          have c86b0 : (t164 == 1000000) = false := beq_eq_false_iff_ne.mpr c86
          have c86b1 : (t164 != 1000000) = true := bne_iff_ne.mpr c86
          by_cases c88 : 0 ≤ x14_4
          rotate_left
          ·rw [if_neg c88] at H
           exact absurd H (by simp)
          rw [if_pos c88] at H
          have c88b0 : decide (0 ≤ x14_4) = true := decide_eq_true c88
          clear c88
          by_cases c89 : x14_4 < (x6_1.length : Int)
          rotate_left
          ·rw [if_neg c89] at H
           exact absurd H (by simp)
          rw [if_pos c89] at H
          have c89b0 : decide (x14_4 < (x6_1.length : Int)) = true := decide_eq_true c89
          clear c89
          by_cases c90 : (rd x6_1 x14_4) = 1000000
          ·rw [if_pos c90] at H
           have c90b0 : ((rd x6_1 x14_4) == 1000000) = true := beq_iff_eq.mpr c90
           have c90b1 : ((rd x6_1 x14_4) != 1000000) = false := bne_eq_false_iff_eq.mpr c90
           clear c90
           have H' := Aside0.mk H
           clear H
           try go_wp2
           replace HO_6 := Aside0.mk (Kd.R_drew HO_6.out)
           replace HO_8 := Aside0.mk (Kd.R_drew HO_8.out)
           replace HO_9 := Aside0.mk (Kd.R_drew HO_9.out)
           replace HO_10 := Aside0.mk (Kd.R_drew HO_10.out)
           replace BK137 := Aside0.mk (blk_drew BK137.out)
           replace HB := Aside0.mk (below_drew1 HB.out)
           obtain ⟨Ao92, co92, eo92⟩ := Kd.R_slice HO_6.out
           (first | subst eo92 | (injection eo92 with f1_ f2_ f3_; have f4_ := f1_.symm; have f5_ := f3_.symm; clear f1_ f2_ f3_; subst f4_; subst f5_))
           have p165 : 0 ≤ (x14_4 : Int) := of_decide_eq_true (by first | (with_reducible assumption) | assumption)
           have q165 : x14_4 < (x6_1.length : Int) := of_decide_eq_true (by first | (with_reducible assumption) | assumption)
           obtain ⟨ad165, e165, hx165_0⟩ := Kd.at_int (Kd.R_reads' HO_6.out).2.2 x14_4 p165 q165
           cases e165
           replace p165 := eq_true p165
           replace q165 := eq_true q165
           refine start_ (n := 27) (S := fun w' => w'.cell? (ad165.add (x14_4).toNat) = some (.int .i64 (rd x6_1 x14_4))) (ds := []) ba4_0 (by kernel_rfl) rfl rfl (hx165_0) (fun hHeld => ?_); refine with_tabW spec_l03Steps.tab27 spec_l03Steps.bits27 (fun HT_ HW_ => ?_)
           generalize w83.drew = w91 at HO_6 HO_8 HO_9 HO_10 BK137 HB hx165_0 hHeld ⊢
           refine pz_ 0 105 ba4_1 HT_ ?_
           refine pz_ 1 106 ba4_2 HT_ ?_
           refine pz_ 2 107 ba4_3 HT_ ?_
           refine pz_ 3 108 ba4_4 HT_ ?_
           refine pz_ 4 109 ba4_5 HT_ ?_
           refine pz_ 5 110 ba4_6 HT_ ?_
           refine pz_ 6 111 ba4_7 HT_ ?_
           refine pz_ 7 112 ba4_8 HT_ ?_
           refine pz_ 8 113 ba4_9 HT_ ?_
           refine pz_ 9 114 ba4_10 HT_ ?_
           refine pz_ 10 115 ba4_11 HT_ ?_
           refine take_ (i := 11) (N := some 116) (v := ?_) (a' := ?_) ba4_12 rfl rfl (take_ofW HT_.out HW_.out (by kernel_rfl)) (fun _ _ _ h => h) (Or.inl ⟨by rfl, ?_⟩) hHeld ?_ ?_
           rotate_left; · intro w' s0; go_simp; with_reducible rfl
           rotate_left; · simp only [Act.put, List.setIfInBounds_toArray, List.set_cons_zero, List.set_cons_succ, i64_w, i32_w]; rfl
           refine pz_ 12 117 ba4_13 HT_ ?_
           refine pz_ 13 118 ba4_14 HT_ ?_
           refine pz_ 14 119 ba4_15 HT_ ?_
           refine pu_ 15 120 ba4_16 HT_ ?_
           refine pu_ 16 121 ba4_17 HT_ ?_
           refine pu_ 17 122 ba4_18 HT_ ?_
           refine pu_ 18 123 ba4_19 HT_ ?_
           refine pu_ 19 124 ba4_20 HT_ ?_
           refine pu_ 20 125 ba4_21 HT_ ?_
           refine pu_ 21 126 ba4_22 HT_ ?_
           refine pu_ 22 127 ba4_23 HT_ ?_
           refine pu_ 23 128 ba4_24 HT_ ?_
           refine pu_ 24 129 ba4_25 HT_ ?_
           refine pu_ 25 130 ba4_26 HT_ ?_
           refine pz_ 26 131 ba4_27 HT_ ?_
           refine done_ (done_of HT_.out (by kernel_rfl)) ?_
           try go_wp2
           go_meet
           case rel => exact ⟨_, (true), (by first | rfl | (simp; done) | (simp [*]; done)), H', ⟨by have := HK1.out; have := HK2.out; have := HK3.out; have := HK4.out; first | omega | exact Nat.le_refl _⟩, ⟨by (try simp only [hl10_4]); (with_reducible repeat (first | apply Kd.R_alloc | apply Kd.R_drewN | apply Kd.R_drew)); exact HO_6.out⟩, ⟨by (try simp only [hl10_4]); (with_reducible repeat (first | apply Kd.R_alloc | apply Kd.R_drewN | apply Kd.R_drew)); exact HO_8.out⟩, ⟨by (try simp only [hl10_4]); (with_reducible repeat (first | apply Kd.R_alloc | apply Kd.R_drewN | apply Kd.R_drew)); exact HO_9.out⟩, ⟨by (try simp only [hl10_4]); (with_reducible repeat (first | apply Kd.R_alloc | apply Kd.R_drewN | apply Kd.R_drew)); exact HO_10.out⟩, ⟨by (try simp only [hl10_4]); (with_reducible repeat (first | refine blk_drewN ?_ _ | refine blk_drew ?_ | refine blk_alloc ?_ _)); exact BK137.out⟩, ⟨by repeat (first | (with_reducible first | exact HB.out | apply below_alloc | apply pw_below_drewN | apply below_drew1 | refine below_set ?_ GE137.out) | exact HB.out)⟩⟩
          rw [if_neg c90] at H
          have c90b0 : ((rd x6_1 x14_4) == 1000000) = false := beq_eq_false_iff_ne.mpr c90
          have c90b1 : ((rd x6_1 x14_4) != 1000000) = true := bne_iff_ne.mpr c90
          by_cases c93 : 0 ≤ x12_3
          rotate_left
          ·rw [if_neg c93] at H
           exact absurd H (by simp)
          rw [if_pos c93] at H
          have c93b0 : decide (0 ≤ x12_3) = true := decide_eq_true c93
          clear c93
          by_cases c94 : x12_3 < (x6_1.length : Int)
          rotate_left
          ·rw [if_neg c94] at H
           exact absurd H (by simp)
          rw [if_pos c94] at H
          have c94b0 : decide (x12_3 < (x6_1.length : Int)) = true := decide_eq_true c94
          clear c94
          have H' := Aside0.mk H
          clear H
          try go_wp2
          replace HO_6 := Aside0.mk (Kd.R_drew HO_6.out)
          replace HO_8 := Aside0.mk (Kd.R_drew HO_8.out)
          replace HO_9 := Aside0.mk (Kd.R_drew HO_9.out)
          replace HO_10 := Aside0.mk (Kd.R_drew HO_10.out)
          replace BK137 := Aside0.mk (blk_drew BK137.out)
          replace HB := Aside0.mk (below_drew1 HB.out)
          obtain ⟨Ao96, co96, eo96⟩ := Kd.R_slice HO_6.out
          (first | subst eo96 | (injection eo96 with f1_ f2_ f3_; have f4_ := f1_.symm; have f5_ := f3_.symm; clear f1_ f2_ f3_; subst f4_; subst f5_))
          have p165 : 0 ≤ (x14_4 : Int) := of_decide_eq_true (by first | (with_reducible assumption) | assumption)
          have q165 : x14_4 < (x6_1.length : Int) := of_decide_eq_true (by first | (with_reducible assumption) | assumption)
          obtain ⟨ad165, e165, hx165_0⟩ := Kd.at_int (Kd.R_reads' HO_6.out).2.2 x14_4 p165 q165
          cases e165
          replace p165 := eq_true p165
          replace q165 := eq_true q165
          have p166 : 0 ≤ (x14_4 : Int) := of_decide_eq_true (by first | (with_reducible assumption) | assumption)
          have q166 : x14_4 < (x6_1.length : Int) := of_decide_eq_true (by first | (with_reducible assumption) | assumption)
          obtain ⟨ad166, e166, hx166_0⟩ := Kd.at_int (Kd.R_reads' HO_6.out).2.2 x14_4 p166 q166
          obtain rfl : ad165 = ad166 := (by injection e166)
          replace p166 := eq_true p166
          replace q166 := eq_true q166
          have p167 : 0 ≤ (x12_3 : Int) := of_decide_eq_true (by first | (with_reducible assumption) | assumption)
          have q167 : x12_3 < (x6_1.length : Int) := of_decide_eq_true (by first | (with_reducible assumption) | assumption)
          obtain ⟨ad167, e167, hx167_0⟩ := Kd.at_int (Kd.R_reads' HO_6.out).2.2 x12_3 p167 q167
          obtain rfl : ad165 = ad167 := (by injection e167)
          replace p167 := eq_true p167
          replace q167 := eq_true q167
          refine start_ (n := 27) (S := fun w' => w'.cell? (ad165.add (x14_4).toNat) = some (.int .i64 (rd x6_1 x14_4)) ∧ w'.cell? (ad165.add (x14_4).toNat) = some (.int .i64 (rd x6_1 x14_4)) ∧ w'.cell? (ad165.add (x12_3).toNat) = some (.int .i64 (rd x6_1 x12_3))) (ds := []) ba4_0 (by kernel_rfl) rfl rfl ⟨hx165_0, hx166_0, hx167_0⟩ (fun hHeld => ?_); refine with_tabW spec_l03Steps.tab27 spec_l03Steps.bits27 (fun HT_ HW_ => ?_)
          generalize w83.drew = w95 at HO_6 HO_8 HO_9 HO_10 BK137 HB hx165_0 hx166_0 hx167_0 hHeld ⊢
          refine pz_ 0 105 ba4_1 HT_ ?_
          refine pz_ 1 106 ba4_2 HT_ ?_
          refine pz_ 2 107 ba4_3 HT_ ?_
          refine pz_ 3 108 ba4_4 HT_ ?_
          refine pz_ 4 109 ba4_5 HT_ ?_
          refine pz_ 5 110 ba4_6 HT_ ?_
          refine pz_ 6 111 ba4_7 HT_ ?_
          refine pz_ 7 112 ba4_8 HT_ ?_
          refine pz_ 8 113 ba4_9 HT_ ?_
          refine pz_ 9 114 ba4_10 HT_ ?_
          refine pz_ 10 115 ba4_11 HT_ ?_
          refine pt_ 11 116 ba4_12 HT_ HW_ hHeld ?_
          refine pz_ 12 117 ba4_13 HT_ ?_
          refine pz_ 13 118 ba4_14 HT_ ?_
          refine pz_ 14 119 ba4_15 HT_ ?_
          refine pz_ 15 120 ba4_16 HT_ ?_
          refine pz_ 16 121 ba4_17 HT_ ?_
          refine pz_ 17 122 ba4_18 HT_ ?_
          refine pz_ 18 123 ba4_19 HT_ ?_
          refine pz_ 21 126 ba4_31 HT_ ?_
          refine pz_ 22 127 ba4_32 HT_ ?_
          refine pz_ 23 128 ba4_33 HT_ ?_
          refine pt_ 19 124 ba4_34 HT_ HW_ hHeld ?_
          refine pz_ 20 125 ba4_24 HT_ ?_
          refine pt_ 24 129 ba4_25 HT_ HW_ hHeld ?_
          refine pz_ 25 130 ba4_26 HT_ ?_
          refine pz_ 26 131 ba4_27 HT_ ?_
          refine done_ (done_of HT_.out (by kernel_rfl)) ?_
          try go_wp2
          go_meet
          case rel => exact ⟨_, (((wrap64 (t164 + (rd x6_1 x14_4))) != (rd x6_1 x12_3))), (by first | rfl | (simp; done) | (simp [*]; done)), H', ⟨by have := HK1.out; have := HK2.out; have := HK3.out; have := HK4.out; first | omega | exact Nat.le_refl _⟩, ⟨by (try simp only [hl10_4]); (with_reducible repeat (first | apply Kd.R_alloc | apply Kd.R_drewN | apply Kd.R_drew)); exact HO_6.out⟩, ⟨by (try simp only [hl10_4]); (with_reducible repeat (first | apply Kd.R_alloc | apply Kd.R_drewN | apply Kd.R_drew)); exact HO_8.out⟩, ⟨by (try simp only [hl10_4]); (with_reducible repeat (first | apply Kd.R_alloc | apply Kd.R_drewN | apply Kd.R_drew)); exact HO_9.out⟩, ⟨by (try simp only [hl10_4]); (with_reducible repeat (first | apply Kd.R_alloc | apply Kd.R_drewN | apply Kd.R_drew)); exact HO_10.out⟩, ⟨by (try simp only [hl10_4]); (with_reducible repeat (first | refine blk_drewN ?_ _ | refine blk_drew ?_ | refine blk_alloc ?_ _)); exact BK137.out⟩, ⟨by repeat (first | (with_reducible first | exact HB.out | apply below_alloc | apply pw_below_drewN | apply below_drew1 | refine below_set ?_ GE137.out) | exact HB.out)⟩⟩
         case rest =>
          clear HC81
          try clear p1
          try clear q1
          try clear hx1
          try clear p2
          try clear p6
          try clear c8
          try clear c9
          try clear p16
          try clear q16
          try clear hx16
          try clear p64
          try clear c86
          try clear c86b0
          try clear c86b1
          try clear c88
          try clear c88b0
          try clear c89
          try clear c89b0
          try clear c90
          try clear c90b0
          try clear c90b1
          try clear c93
          try clear c93b0
          try clear c94
          try clear c94b0
          try clear hx165_0
          try clear hx166_0
          try clear hx167_0
          try clear p165
          try clear p166
          try clear p167
          try clear q165
          try clear q166
          try clear q167
          obtain ⟨kq, x131_80, rfl, HA, HJ80, HO_6, HO_8, HO_9, HO_10, BK137, HB⟩ := hcut
          cases kq with
          | zero => exact absurd HA.out (by simp [spec_l03Steps.j4])
          | succ kj80 =>
           have H := HA.out
           clear HA
           simp only [spec_l03Steps.j4] at H
           by_cases c97 : x131_80 = true
           ·subst c97
            rw [if_pos rfl] at H
            have H' := Aside0.mk H
            clear H
            go_wp2
            (try simp only [← hl10_4])
            go_roundg kj80
            case measure => have := HK1.out; have := HK2.out; have := HK3.out; have := HK4.out; have := HJ80.out; omega
            case rel => exact ⟨(x8_4), (x9_4), (wrap64 (x14_4 + 1)), (by first | rfl | (simp; done) | (simp [*]; done)), H', ⟨by have := HK1.out; have := HK2.out; have := HK3.out; have := HK4.out; have := HJ80.out; omega⟩, ⟨by (try simp only [hl10_4]); (with_reducible repeat (first | apply Kd.R_alloc | apply Kd.R_drewN | apply Kd.R_drew)); exact HO_6.out⟩, ⟨by (try simp only [hl10_4]); (with_reducible repeat (first | apply Kd.R_alloc | apply Kd.R_drewN | apply Kd.R_drew)); exact HO_8.out⟩, ⟨by (try simp only [hl10_4]); (with_reducible repeat (first | apply Kd.R_alloc | apply Kd.R_drewN | apply Kd.R_drew)); exact HO_9.out⟩, ⟨by (try simp only [hl10_4]); (with_reducible repeat (first | apply Kd.R_alloc | apply Kd.R_drewN | apply Kd.R_drew)); exact HO_10.out⟩, ⟨by (try simp only [hl10_4]); (with_reducible repeat (first | refine blk_drewN ?_ _ | refine blk_drew ?_ | refine blk_alloc ?_ _)); exact BK137.out⟩, ⟨by repeat (first | (with_reducible first | exact HB.out | apply below_alloc | apply pw_below_drewN | apply below_drew1 | refine below_set ?_ GE137.out) | exact HB.out)⟩⟩
           replace c97 := Bool.eq_false_iff.mpr c97
           subst c97
           rw [if_neg (show ¬ (false = true) by decide)] at H
           by_cases c98 : 0 ≤ x12_3
           rotate_left
           ·rw [if_neg c98] at H
            exact absurd H (by simp)
           rw [if_pos c98] at H
           have c98b0 : decide (0 ≤ x12_3) = true := decide_eq_true c98
           clear c98
           by_cases c99 : x12_3 < (x9_4.length : Int)
           rotate_left
           ·rw [if_neg c99] at H
            exact absurd H (by simp)
           rw [if_pos c99] at H
           have c99b0 : decide (x12_3 < (x9_4.length : Int)) = true := decide_eq_true c99
           clear c99
           by_cases c100 : 0 ≤ x14_4
           rotate_left
           ·rw [if_neg c100] at H
            exact absurd H (by simp)
           rw [if_pos c100] at H
           have c100b0 : decide (0 ≤ x14_4) = true := decide_eq_true c100
           clear c100
           by_cases c101 : x14_4 < (x9_4.length : Int)
           rotate_left
           ·rw [if_neg c101] at H
            exact absurd H (by simp)
           rw [if_pos c101] at H
           have c101b0 : decide (x14_4 < (x9_4.length : Int)) = true := decide_eq_true c101
           clear c101
           obtain ⟨y170, hy170⟩ : ∃ y_ : List Int, y_ = (x9_4.set (x12_3 : Int).toNat (wrap64 ((rd x9_4 x12_3) + (rd x9_4 x14_4)))) := ⟨_, rfl⟩
           replace H : (if x12_3 < (x8_4.length : Int) then (if (rd x8_4 x12_3) = 0 then (if x14_4 < (x8_4.length : Int) then (spec_l03Steps.l3 kj80 a1 x6_1 (x8_4.set (x12_3 : Int).toNat (wrap64 ((rd x8_4 x14_4) + 1))) y170 y161 x11_2 x12_3 (wrap64 (x14_4 + 1)) a0_0 l0_1) else (none)) else (if x14_4 < (x8_4.length : Int) then (if (wrap64 ((rd x8_4 x14_4) + 1)) < (rd x8_4 x12_3) then (spec_l03Steps.l3 kj80 a1 x6_1 (x8_4.set (x12_3 : Int).toNat (wrap64 ((rd x8_4 x14_4) + 1))) y170 y161 x11_2 x12_3 (wrap64 (x14_4 + 1)) a0_0 l0_1) else (spec_l03Steps.l3 kj80 a1 x6_1 x8_4 y170 y161 x11_2 x12_3 (wrap64 (x14_4 + 1)) a0_0 l0_1)) else (none))) else (none)) = some (r1, r2) := by first | (rw [hy170]; with_reducible exact H) | (have H2_ := (Option.bind_some _ _).symm.trans H; rw [hy170]; with_reducible exact H2_) | (have H2_ := (Option.bind_some _ _).symm.trans H; with_reducible exact H2_) | with_reducible exact H | (rw [hy170]; exact H) | exact H
           have Ny170 := Aside0.mk hy170
           clear hy170
           by_cases c103 : x12_3 < (x8_4.length : Int)
           rotate_left
           ·rw [if_neg c103] at H
            exact absurd H (by simp)
           rw [if_pos c103] at H
           have c103b0 : decide (x12_3 < (x8_4.length : Int)) = true := decide_eq_true c103
           clear c103
           by_cases c104 : (rd x8_4 x12_3) = 0
           ·rw [if_pos c104] at H
            have c104b0 : ((rd x8_4 x12_3) == 0) = true := beq_iff_eq.mpr c104
            have c104b1 : ((rd x8_4 x12_3) != 0) = false := bne_eq_false_iff_eq.mpr c104
            clear c104
            by_cases c105 : x14_4 < (x8_4.length : Int)
            rotate_left
            ·rw [if_neg c105] at H
             exact absurd H (by simp)
            rw [if_pos c105] at H
            have c105b0 : decide (x14_4 < (x8_4.length : Int)) = true := decide_eq_true c105
            clear c105
            obtain ⟨y173, hy173⟩ : ∃ y_ : List Int, y_ = (x8_4.set (x12_3 : Int).toNat (wrap64 ((rd x8_4 x14_4) + 1))) := ⟨_, rfl⟩
            replace H : (spec_l03Steps.l3 kj80 a1 x6_1 y173 y170 y161 x11_2 x12_3 (wrap64 (x14_4 + 1)) a0_0 l0_1) = some (r1, r2) := by first | (rw [hy173]; with_reducible exact H) | (have H2_ := (Option.bind_some _ _).symm.trans H; rw [hy173]; with_reducible exact H2_) | (have H2_ := (Option.bind_some _ _).symm.trans H; with_reducible exact H2_) | with_reducible exact H | (rw [hy173]; exact H) | exact H
            have Ny173 := Aside0.mk hy173
            clear hy173
            have H' := Aside0.mk H
            clear H
            try go_wp2
            replace HO_6 := Aside0.mk (Kd.R_drew HO_6.out)
            replace HO_8 := Aside0.mk (Kd.R_drew HO_8.out)
            replace HO_9 := Aside0.mk (Kd.R_drew HO_9.out)
            replace HO_10 := Aside0.mk (Kd.R_drew HO_10.out)
            replace BK137 := Aside0.mk (blk_drew BK137.out)
            replace HB := Aside0.mk (below_drew1 HB.out)
            obtain ⟨Ao108, co108, eo108⟩ := Kd.R_slice HO_9.out
            (first | subst eo108 | (injection eo108 with f1_ f2_ f3_; have f4_ := f1_.symm; have f5_ := f3_.symm; clear f1_ f2_ f3_; subst f4_; subst f5_))
            have p168 : 0 ≤ (x12_3 : Int) := of_decide_eq_true (by first | (with_reducible assumption) | assumption)
            have q168 : x12_3 < (x9_4.length : Int) := of_decide_eq_true (by first | (with_reducible assumption) | assumption)
            obtain ⟨ad168, e168, hx168_0⟩ := Kd.at_int (Kd.R_reads' HO_9.out).2.2 x12_3 p168 q168
            cases e168
            replace p168 := eq_true p168
            replace q168 := eq_true q168
            have p169 : 0 ≤ (x14_4 : Int) := of_decide_eq_true (by first | (with_reducible assumption) | assumption)
            have q169 : x14_4 < (x9_4.length : Int) := of_decide_eq_true (by first | (with_reducible assumption) | assumption)
            obtain ⟨ad169, e169, hx169_0⟩ := Kd.at_int (Kd.R_reads' HO_9.out).2.2 x14_4 p169 q169
            obtain rfl : ad168 = ad169 := (by injection e169)
            replace p169 := eq_true p169
            replace q169 := eq_true q169
            have p102 : 0 ≤ (x12_3 : Int) := of_decide_eq_true (by first | (with_reducible assumption) | assumption)
            have q102 : (x12_3 : Int) < ((x9_4.length : Int) : Int) := of_decide_eq_true (by first | (with_reducible assumption) | assumption)
            obtain ⟨go102, co102, eo102, gb102, gl102, cl102, HG102⟩ := Kd.R_form HO_9.out (by omega)
            (first | cases eo102 | (injection eo102 with ea_ en_ ec_; (first | subst ea_ | (injection ea_ with ea_; subst ea_)); subst ec_; clear en_))
            have GB102 := Aside0.mk gb102
            have GG102 := Aside0.mk HG102
            clear gb102 gl102 HG102
            (first | simp only [add_plain] at hx168_0 | skip)
            (first | simp only [add_plain] at hx169_0 | skip)
            obtain ⟨hx102_0, hf102_0⟩ := Kd.R_celln 0 HO_9.out (x12_3 : Int) p102 q102
            replace p102 := eq_true p102
            replace q102 := eq_true q102
            have HP109 := Kd.R_putn HO_9.out (x12_3 : Int) (wrap64 ((rd x9_4 x12_3) + (rd x9_4 x14_4)))
            rw [← Ny170.out] at HP109
            have HQ109 := Aside0.mk HP109
            clear HP109
            refine start_ (n := 13) (S := fun w' => w'.cell? ⟨go102, (x12_3).toNat, none⟩ = some (.int .i64 (rd x9_4 x12_3)) ∧ w'.cell? ⟨go102, (x14_4).toNat, none⟩ = some (.int .i64 (rd x9_4 x14_4))) (ds := [12]) ba4_35 (by kernel_rfl) rfl rfl ⟨hx168_0, hx169_0⟩ (fun hHeld => ?_); refine with_tabW spec_l03Steps.tab28 spec_l03Steps.bits28 (fun HT_ HW_ => ?_)
            generalize wc.drew = w107 at HO_6 HO_8 HO_9 HO_10 BK137 HB GG102 HQ109 hf102_0 hx102_0 hx168_0 hx169_0 hHeld ⊢
            refine pz_ 0 132 ba4_36 HT_ ?_
            refine pz_ 1 133 ba4_37 HT_ ?_
            refine pz_ 2 134 ba4_38 HT_ ?_
            refine pz_ 3 135 ba4_39 HT_ ?_
            refine pz_ 4 136 ba4_40 HT_ ?_
            refine pz_ 6 138 ba4_41 HT_ ?_
            refine pz_ 7 139 ba4_42 HT_ ?_
            refine pz_ 8 140 ba4_43 HT_ ?_
            refine pt_ 5 137 ba4_44 HT_ HW_ hHeld ?_
            refine pt_ 9 141 ba4_45 HT_ HW_ hHeld ?_
            refine pz_ 10 142 ba4_46 HT_ ?_
            refine pz_ 11 143 ba4_47 HT_ ?_
            refine last_ (i := 12) (N := none) ba4_48 rfl rfl (one_of HT_.out (by kernel_rfl)) (by decide) (fun K hK => ?_)
            refine skip_ (w1 := ?_) (by rfl) rfl ?_ ?_
            rotate_left; · go_simp; rfl
            refine hK.out _ _ ?_
            clear hK K
            refine done_ (done_of HT_.out (by kernel_rfl)) ?_
            try go_wp2
            have n0_ : Aside0 (Kd.R (Kd.int .i64) 3 (w107.setCell ⟨go102, (x12_3 : Int).toNat, none⟩ (.int .i64 (wrap64 ((rd x9_4 x12_3) + (rd x9_4 x14_4))))) w.heap.size (fun k_ => some k_ ≠ (v149 : Value).ownBlock ∧ some k_ ≠ (.slice (some ⟨go102, 0, none⟩) x9_4.length co108 : Value).ownBlock) u6 x6_1) := ⟨by (with_reducible repeat (first | apply Kd.R_alloc | apply Kd.R_drewN | apply Kd.R_drew)); exact Kd.R_mono (Kd.R_far (p := ⟨go102, (x12_3 : Int).toNat, none⟩) (Kd.R_mono HO_6.out (fun k_ hk => (⟨hk, fun e_ => hk.2 (by rw [e_]; rfl)⟩ : _ ∧ k_ ≠ go102))) (fun _ hk => hk.2) (.int .i64 (wrap64 ((rd x9_4 x12_3) + (rd x9_4 x14_4))))) (fun _ hk => by first | exact ⟨hk.1.1, hk.1.2⟩ | grind)⟩
            have n1_ : Aside0 (Kd.R (Kd.int .i64) 3 (w107.setCell ⟨go102, (x12_3 : Int).toNat, none⟩ (.int .i64 (wrap64 ((rd x9_4 x12_3) + (rd x9_4 x14_4))))) w.heap.size (fun k_ => some k_ ≠ (u6 : Value).ownBlock ∧ some k_ ≠ (.slice (some ⟨go102, 0, none⟩) x9_4.length co108 : Value).ownBlock) v149 x8_4) := ⟨by (with_reducible repeat (first | apply Kd.R_alloc | apply Kd.R_drewN | apply Kd.R_drew)); exact Kd.R_mono (Kd.R_far (p := ⟨go102, (x12_3 : Int).toNat, none⟩) (Kd.R_mono HO_8.out (fun k_ hk => (⟨hk, fun e_ => hk.2 (by rw [e_]; rfl)⟩ : _ ∧ k_ ≠ go102))) (fun _ hk => hk.2) (.int .i64 (wrap64 ((rd x9_4 x12_3) + (rd x9_4 x14_4))))) (fun _ hk => by first | exact ⟨hk.1.1, hk.1.2⟩ | grind)⟩
            have n2_ : Aside0 (Kd.R (Kd.int .i64) 3 (w107.setCell ⟨go102, (x12_3 : Int).toNat, none⟩ (.int .i64 (wrap64 ((rd x9_4 x12_3) + (rd x9_4 x14_4))))) w.heap.size (fun k_ => some k_ ≠ (u6 : Value).ownBlock ∧ some k_ ≠ (v149 : Value).ownBlock) (.slice (some ⟨go102, 0, none⟩) x9_4.length co108) y170) := ⟨by (with_reducible repeat (first | apply Kd.R_alloc | apply Kd.R_drewN | apply Kd.R_drew)); exact HQ109.out⟩
            have n3_ : Aside0 (Kd.R Kd.bool 4 (w107.setCell ⟨go102, (x12_3 : Int).toNat, none⟩ (.int .i64 (wrap64 ((rd x9_4 x12_3) + (rd x9_4 x14_4))))) w.heap.size (fun _ => True) (.slice (some ⟨go63, 0, none⟩) y161.length co63) y161) := ⟨by (with_reducible repeat (first | apply Kd.R_alloc | apply Kd.R_drewN | apply Kd.R_drew)); exact Kd.R_mono (Kd.R_far (p := ⟨go102, (x12_3 : Int).toNat, none⟩) (Kd.R_types HO_10.out GG102.out (by decide)) (fun _ hk => hk.2) (.int .i64 (wrap64 ((rd x9_4 x12_3) + (rd x9_4 x14_4))))) (fun _ hk => trivial)⟩
            have n4_ : Aside0 ((w107.setCell ⟨go102, (x12_3 : Int).toNat, none⟩ (.int .i64 (wrap64 ((rd x9_4 x12_3) + (rd x9_4 x14_4))))).heap[gb137]? = some (.cells #[.int .i64 a0_0, .slice A0_1 l0_1.length c0_1] 30 (0, 0))) := ⟨by (with_reducible repeat (first | refine blk_drewN ?_ _ | refine blk_drew ?_ | refine blk_alloc ?_ _)); refine blk_far ?_ (by have h_ := Kd.R_ne HO_9.out BK137.out (by decide); intro e_; exact h_ (by rw [e_]; rfl)) _; (with_reducible repeat (first | refine blk_drewN ?_ _ | refine blk_drew ?_ | refine blk_alloc ?_ _)); exact BK137.out⟩
            have n5_ : Aside0 (Below w.heap.size w (w107.setCell ⟨go102, (x12_3 : Int).toNat, none⟩ (.int .i64 (wrap64 ((rd x9_4 x12_3) + (rd x9_4 x14_4)))))) := ⟨by repeat (first | (with_reducible first | exact HB.out | apply below_alloc | apply pw_below_drewN | apply below_drew1 | refine below_set ?_ GB102.out | refine below_set ?_ GE137.out) | exact HB.out)⟩
            (try clear HO_6)
            (try clear HO_8)
            (try clear HO_9)
            (try clear HO_10)
            (try clear BK137)
            (try clear HB)
            generalize (w107.setCell ⟨go102, (x12_3 : Int).toNat, none⟩ (.int .i64 (wrap64 ((rd x9_4 x12_3) + (rd x9_4 x14_4))))) = w110 at n0_ n1_ n2_ n3_ n4_ n5_ ⊢
            have HO_6 := n0_
            have HO_8 := n1_
            have HO_9 := n2_
            have HO_10 := n3_
            have BK137 := n4_
            have HB := n5_
            clear n0_ n1_ n2_ n3_ n4_ n5_
            replace HO_6 := Aside0.mk (Kd.R_drew HO_6.out)
            replace HO_8 := Aside0.mk (Kd.R_drew HO_8.out)
            replace HO_9 := Aside0.mk (Kd.R_drew HO_9.out)
            replace HO_10 := Aside0.mk (Kd.R_drew HO_10.out)
            replace BK137 := Aside0.mk (blk_drew BK137.out)
            replace HB := Aside0.mk (below_drew1 HB.out)
            obtain ⟨Ao112, co112, eo112⟩ := Kd.R_slice HO_8.out
            (first | subst eo112 | (injection eo112 with f1_ f2_ f3_; have f4_ := f1_.symm; have f5_ := f3_.symm; clear f1_ f2_ f3_; subst f4_; subst f5_))
            have p171 : 0 ≤ (x12_3 : Int) := of_decide_eq_true (by first | (with_reducible assumption) | assumption)
            have q171 : x12_3 < (x8_4.length : Int) := of_decide_eq_true (by first | (with_reducible assumption) | assumption)
            obtain ⟨ad171, e171, hx171_0⟩ := Kd.at_int (Kd.R_reads' HO_8.out).2.2 x12_3 p171 q171
            cases e171
            replace p171 := eq_true p171
            replace q171 := eq_true q171
            refine start_ (n := 17) (S := fun w' => w'.cell? (ad171.add (x12_3).toNat) = some (.int .i64 (rd x8_4 x12_3))) (ds := []) ba4_49 (by kernel_rfl) rfl rfl (hx171_0) (fun hHeld => ?_); refine with_tabW spec_l03Steps.tab29 spec_l03Steps.bits29 (fun HT_ HW_ => ?_)
            generalize w110.drew = w111 at HO_6 HO_8 HO_9 HO_10 BK137 HB HQ109 hx171_0 hHeld ⊢
            refine pz_ 0 144 ba4_50 HT_ ?_
            refine pz_ 1 145 ba4_51 HT_ ?_
            refine pz_ 2 146 ba4_52 HT_ ?_
            refine take_ (i := 3) (N := some 147) (v := ?_) (a' := ?_) ba4_53 rfl rfl (take_ofW HT_.out HW_.out (by kernel_rfl)) (fun _ _ _ h => h) (Or.inl ⟨by rfl, ?_⟩) hHeld ?_ ?_
            rotate_left; · intro w' s0; go_simp; with_reducible rfl
            rotate_left; · simp only [Act.put, List.setIfInBounds_toArray, List.set_cons_zero, List.set_cons_succ, i64_w, i32_w]; rfl
            refine pz_ 4 148 ba4_54 HT_ ?_
            refine pz_ 5 149 ba4_55 HT_ ?_
            refine pu_ 6 150 ba4_56 HT_ ?_
            refine pu_ 7 151 ba4_57 HT_ ?_
            refine pu_ 8 152 ba4_58 HT_ ?_
            refine pu_ 9 153 ba4_59 HT_ ?_
            refine pu_ 10 154 ba4_60 HT_ ?_
            refine pu_ 11 155 ba4_61 HT_ ?_
            refine pu_ 12 156 ba4_62 HT_ ?_
            refine pu_ 13 157 ba4_63 HT_ ?_
            refine pu_ 14 158 ba4_64 HT_ ?_
            refine pu_ 15 159 ba4_65 HT_ ?_
            refine pz_ 16 160 ba4_66 HT_ ?_
            refine done_ (done_of HT_.out (by kernel_rfl)) ?_
            have p172 : 0 ≤ (x14_4 : Int) := of_decide_eq_true (by first | (with_reducible assumption) | assumption)
            have q172 : x14_4 < (x8_4.length : Int) := of_decide_eq_true (by first | (with_reducible assumption) | assumption)
            obtain ⟨ad172, e172, hx172_0⟩ := Kd.at_int (Kd.R_reads' HO_8.out).2.2 x14_4 p172 q172
            obtain rfl : ad171 = ad172 := (by injection e172)
            replace p172 := eq_true p172
            replace q172 := eq_true q172
            have p106 : 0 ≤ (x12_3 : Int) := of_decide_eq_true (by first | (with_reducible assumption) | assumption)
            have q106 : (x12_3 : Int) < ((x8_4.length : Int) : Int) := of_decide_eq_true (by first | (with_reducible assumption) | assumption)
            obtain ⟨go106, co106, eo106, gb106, gl106, cl106, HG106⟩ := Kd.R_form HO_8.out (by omega)
            (first | cases eo106 | (injection eo106 with ea_ en_ ec_; (first | subst ea_ | (injection ea_ with ea_; subst ea_)); subst ec_; clear en_))
            have GB106 := Aside0.mk gb106
            have GG106 := Aside0.mk HG106
            clear gb106 gl106 HG106
            (first | simp only [add_plain] at hx171_0 | skip)
            (first | simp only [add_plain] at hx172_0 | skip)
            obtain ⟨hx106_0, hf106_0⟩ := Kd.R_celln 0 HO_8.out (x12_3 : Int) p106 q106
            replace p106 := eq_true p106
            replace q106 := eq_true q106
            obtain ⟨hy113_, hz113_⟩ := Kd.R_celln 0 HO_8.out (x12_3 : Int) (of_decide_eq_true (by first | (with_reducible assumption) | assumption)) (of_decide_eq_true (by first | (with_reducible assumption) | assumption))
            have HP113 := Kd.R_putg HO_8.out (x12_3 : Int) (wrap64 ((rd x8_4 x14_4) + 1))
            try go_wp2_with (first | ((with_reducible refine gate_store (t := 3) (p := 168) rfl ?_); refine store_event (t := 3) (p := 168) (v := ?vo_w114) (w1 := (w111.setCell ⟨go106, (x12_3 : Int).toNat, none⟩ (.int .i64 (wrap64 ((rd x8_4 x14_4) + 1))))) ?hg ?ho ?hn ?hr ?_; (case ho => rfl); (case hg => rfl); (case hn => rfl); (case hr => first | (go_simp; done) | (go_simp; rfl)); intro w114 hw; have hg : w111.grownBy w114 (some go106) := (by rw [hw]; exact HP113.2); have hp_ : Kd.R (Kd.int .i64) 3 w114 w.heap.size (fun k_ => some k_ ≠ (u6 : Value).ownBlock ∧ some k_ ≠ (.slice (some ⟨go102, 0, none⟩) x9_4.length co108 : Value).ownBlock) (.slice (some ⟨go106, 0, none⟩) x8_4.length co112) y173 := (by rw [hw, Ny173.out]; exact HP113.1); clear HP113; replace HO_6 := Aside0.mk (Kd.R_after (v := (.slice (some ⟨go106, 0, none⟩) x8_4.length co112)) (v1 := (.slice (some ⟨go106, 0, none⟩) x8_4.length co112)) (ok := (fun k_ => some k_ ≠ (.slice (some ⟨go102, 0, none⟩) x9_4.length co108 : Value).ownBlock)) (by (with_reducible repeat (first | apply Kd.R_alloc | apply Kd.R_drewN | apply Kd.R_drew)); exact Kd.R_mono HO_6.out (fun _ hk => by first | exact ⟨hk.2, hk.1⟩ | grind)) hg (.inl rfl)); replace HO_9 := Aside0.mk (Kd.R_after (v := (.slice (some ⟨go106, 0, none⟩) x8_4.length co112)) (v1 := (.slice (some ⟨go106, 0, none⟩) x8_4.length co112)) (ok := (fun k_ => some k_ ≠ (u6 : Value).ownBlock)) (hd_ HO_9) hg (.inl rfl)); replace HO_10 := Aside0.mk (Kd.R_over' (v := (.slice (some ⟨go106, 0, none⟩) x8_4.length co112)) (hd_ HO_10) (Kd.R_typed HO_8.out) (by decide) hg); replace BK137 := Aside0.mk (blk_grown (g := gb137) (o := .cells #[.int .i64 a0_0, .slice A0_1 l0_1.length c0_1] 30 (0, 0)) (by (with_reducible repeat (first | refine blk_drewN ?_ _ | refine blk_drew ?_ | refine blk_alloc ?_ _)); exact BK137.out) hg (Kd.R_ne HO_8.out BK137.out (by decide))); replace HO_8 := Aside0.mk (hp_); replace HB := Aside0.mk ((by rw [hw]; exact below_set (HB.out) GB106.out : Below w.heap.size w w114)); clear hg hw hp_))
            (try simp only [← hl10_4])
            go_roundg kj80
            case measure => have := HK1.out; have := HK2.out; have := HK3.out; have := HK4.out; have := HJ80.out; omega
            case rel => exact ⟨(y173), (y170), (wrap64 (x14_4 + 1)), (by first | rfl | (simp; done) | (simp [*]; done)), H', ⟨by have := HK1.out; have := HK2.out; have := HK3.out; have := HK4.out; have := HJ80.out; omega⟩, ⟨by (try simp only [hl10_4]); (with_reducible repeat (first | apply Kd.R_alloc | apply Kd.R_drewN | apply Kd.R_drew)); exact Kd.R_mono HO_6.out (fun _ hk => by first | exact ⟨hk.2, hk.1⟩ | grind)⟩, ⟨by (try simp only [hl10_4]); (with_reducible repeat (first | apply Kd.R_alloc | apply Kd.R_drewN | apply Kd.R_drew)); exact HO_8.out⟩, ⟨by (try simp only [hl10_4]); (with_reducible repeat (first | apply Kd.R_alloc | apply Kd.R_drewN | apply Kd.R_drew)); exact HO_9.out⟩, ⟨by (try simp only [hl10_4]); (with_reducible repeat (first | apply Kd.R_alloc | apply Kd.R_drewN | apply Kd.R_drew)); exact HO_10.out⟩, ⟨by (try simp only [hl10_4]); (with_reducible repeat (first | refine blk_drewN ?_ _ | refine blk_drew ?_ | refine blk_alloc ?_ _)); exact BK137.out⟩, ⟨by repeat (first | (with_reducible first | exact HB.out | apply below_alloc | apply pw_below_drewN | apply below_drew1 | refine below_set ?_ GE137.out) | exact HB.out)⟩⟩
           rw [if_neg c104] at H
           have c104b0 : ((rd x8_4 x12_3) == 0) = false := beq_eq_false_iff_ne.mpr c104
           have c104b1 : ((rd x8_4 x12_3) != 0) = true := bne_iff_ne.mpr c104
           by_cases c115 : x14_4 < (x8_4.length : Int)
           rotate_left
           ·rw [if_neg c115] at H
            exact absurd H (by simp)
           rw [if_pos c115] at H
           have c115b0 : decide (x14_4 < (x8_4.length : Int)) = true := decide_eq_true c115
           clear c115
           by_cases c116 : (wrap64 ((rd x8_4 x14_4) + 1)) < (rd x8_4 x12_3)
           rotate_left
           ·rw [if_neg c116] at H
            have c116b0 : decide ((wrap64 ((rd x8_4 x14_4) + 1)) < (rd x8_4 x12_3)) = false := decide_eq_false c116
            clear c116
            have H' := Aside0.mk H
            clear H
            try go_wp2
            replace HO_6 := Aside0.mk (Kd.R_drew HO_6.out)
            replace HO_8 := Aside0.mk (Kd.R_drew HO_8.out)
            replace HO_9 := Aside0.mk (Kd.R_drew HO_9.out)
            replace HO_10 := Aside0.mk (Kd.R_drew HO_10.out)
            replace BK137 := Aside0.mk (blk_drew BK137.out)
            replace HB := Aside0.mk (below_drew1 HB.out)
            obtain ⟨Ao127, co127, eo127⟩ := Kd.R_slice HO_9.out
            (first | subst eo127 | (injection eo127 with f1_ f2_ f3_; have f4_ := f1_.symm; have f5_ := f3_.symm; clear f1_ f2_ f3_; subst f4_; subst f5_))
            have p168 : 0 ≤ (x12_3 : Int) := of_decide_eq_true (by first | (with_reducible assumption) | assumption)
            have q168 : x12_3 < (x9_4.length : Int) := of_decide_eq_true (by first | (with_reducible assumption) | assumption)
            obtain ⟨ad168, e168, hx168_0⟩ := Kd.at_int (Kd.R_reads' HO_9.out).2.2 x12_3 p168 q168
            cases e168
            replace p168 := eq_true p168
            replace q168 := eq_true q168
            have p169 : 0 ≤ (x14_4 : Int) := of_decide_eq_true (by first | (with_reducible assumption) | assumption)
            have q169 : x14_4 < (x9_4.length : Int) := of_decide_eq_true (by first | (with_reducible assumption) | assumption)
            obtain ⟨ad169, e169, hx169_0⟩ := Kd.at_int (Kd.R_reads' HO_9.out).2.2 x14_4 p169 q169
            obtain rfl : ad168 = ad169 := (by injection e169)
            replace p169 := eq_true p169
            replace q169 := eq_true q169
            have p102 : 0 ≤ (x12_3 : Int) := of_decide_eq_true (by first | (with_reducible assumption) | assumption)
            have q102 : (x12_3 : Int) < ((x9_4.length : Int) : Int) := of_decide_eq_true (by first | (with_reducible assumption) | assumption)
            obtain ⟨go102, co102, eo102, gb102, gl102, cl102, HG102⟩ := Kd.R_form HO_9.out (by omega)
            (first | cases eo102 | (injection eo102 with ea_ en_ ec_; (first | subst ea_ | (injection ea_ with ea_; subst ea_)); subst ec_; clear en_))
            have GB102 := Aside0.mk gb102
            have GG102 := Aside0.mk HG102
            clear gb102 gl102 HG102
            (first | simp only [add_plain] at hx168_0 | skip)
            (first | simp only [add_plain] at hx169_0 | skip)
            obtain ⟨hx102_0, hf102_0⟩ := Kd.R_celln 0 HO_9.out (x12_3 : Int) p102 q102
            replace p102 := eq_true p102
            replace q102 := eq_true q102
            have HP128 := Kd.R_putn HO_9.out (x12_3 : Int) (wrap64 ((rd x9_4 x12_3) + (rd x9_4 x14_4)))
            rw [← Ny170.out] at HP128
            have HQ128 := Aside0.mk HP128
            clear HP128
            refine start_ (n := 13) (S := fun w' => w'.cell? ⟨go102, (x12_3).toNat, none⟩ = some (.int .i64 (rd x9_4 x12_3)) ∧ w'.cell? ⟨go102, (x14_4).toNat, none⟩ = some (.int .i64 (rd x9_4 x14_4))) (ds := [12]) ba4_35 (by kernel_rfl) rfl rfl ⟨hx168_0, hx169_0⟩ (fun hHeld => ?_); refine with_tabW spec_l03Steps.tab28 spec_l03Steps.bits28 (fun HT_ HW_ => ?_)
            generalize wc.drew = w126 at HO_6 HO_8 HO_9 HO_10 BK137 HB GG102 HQ128 hf102_0 hx102_0 hx168_0 hx169_0 hHeld ⊢
            refine pz_ 0 132 ba4_36 HT_ ?_
            refine pz_ 1 133 ba4_37 HT_ ?_
            refine pz_ 2 134 ba4_38 HT_ ?_
            refine pz_ 3 135 ba4_39 HT_ ?_
            refine pz_ 4 136 ba4_40 HT_ ?_
            refine pz_ 6 138 ba4_41 HT_ ?_
            refine pz_ 7 139 ba4_42 HT_ ?_
            refine pz_ 8 140 ba4_43 HT_ ?_
            refine pt_ 5 137 ba4_44 HT_ HW_ hHeld ?_
            refine pt_ 9 141 ba4_45 HT_ HW_ hHeld ?_
            refine pz_ 10 142 ba4_46 HT_ ?_
            refine pz_ 11 143 ba4_47 HT_ ?_
            refine last_ (i := 12) (N := none) ba4_48 rfl rfl (one_of HT_.out (by kernel_rfl)) (by decide) (fun K hK => ?_)
            refine skip_ (w1 := ?_) (by rfl) rfl ?_ ?_
            rotate_left; · go_simp; rfl
            refine hK.out _ _ ?_
            clear hK K
            refine done_ (done_of HT_.out (by kernel_rfl)) ?_
            try go_wp2
            have n0_ : Aside0 (Kd.R (Kd.int .i64) 3 (w126.setCell ⟨go102, (x12_3 : Int).toNat, none⟩ (.int .i64 (wrap64 ((rd x9_4 x12_3) + (rd x9_4 x14_4))))) w.heap.size (fun k_ => some k_ ≠ (v149 : Value).ownBlock ∧ some k_ ≠ (.slice (some ⟨go102, 0, none⟩) x9_4.length co127 : Value).ownBlock) u6 x6_1) := ⟨by (with_reducible repeat (first | apply Kd.R_alloc | apply Kd.R_drewN | apply Kd.R_drew)); exact Kd.R_mono (Kd.R_far (p := ⟨go102, (x12_3 : Int).toNat, none⟩) (Kd.R_mono HO_6.out (fun k_ hk => (⟨hk, fun e_ => hk.2 (by rw [e_]; rfl)⟩ : _ ∧ k_ ≠ go102))) (fun _ hk => hk.2) (.int .i64 (wrap64 ((rd x9_4 x12_3) + (rd x9_4 x14_4))))) (fun _ hk => by first | exact ⟨hk.1.1, hk.1.2⟩ | grind)⟩
            have n1_ : Aside0 (Kd.R (Kd.int .i64) 3 (w126.setCell ⟨go102, (x12_3 : Int).toNat, none⟩ (.int .i64 (wrap64 ((rd x9_4 x12_3) + (rd x9_4 x14_4))))) w.heap.size (fun k_ => some k_ ≠ (u6 : Value).ownBlock ∧ some k_ ≠ (.slice (some ⟨go102, 0, none⟩) x9_4.length co127 : Value).ownBlock) v149 x8_4) := ⟨by (with_reducible repeat (first | apply Kd.R_alloc | apply Kd.R_drewN | apply Kd.R_drew)); exact Kd.R_mono (Kd.R_far (p := ⟨go102, (x12_3 : Int).toNat, none⟩) (Kd.R_mono HO_8.out (fun k_ hk => (⟨hk, fun e_ => hk.2 (by rw [e_]; rfl)⟩ : _ ∧ k_ ≠ go102))) (fun _ hk => hk.2) (.int .i64 (wrap64 ((rd x9_4 x12_3) + (rd x9_4 x14_4))))) (fun _ hk => by first | exact ⟨hk.1.1, hk.1.2⟩ | grind)⟩
            have n2_ : Aside0 (Kd.R (Kd.int .i64) 3 (w126.setCell ⟨go102, (x12_3 : Int).toNat, none⟩ (.int .i64 (wrap64 ((rd x9_4 x12_3) + (rd x9_4 x14_4))))) w.heap.size (fun k_ => some k_ ≠ (u6 : Value).ownBlock ∧ some k_ ≠ (v149 : Value).ownBlock) (.slice (some ⟨go102, 0, none⟩) x9_4.length co127) y170) := ⟨by (with_reducible repeat (first | apply Kd.R_alloc | apply Kd.R_drewN | apply Kd.R_drew)); exact HQ128.out⟩
            have n3_ : Aside0 (Kd.R Kd.bool 4 (w126.setCell ⟨go102, (x12_3 : Int).toNat, none⟩ (.int .i64 (wrap64 ((rd x9_4 x12_3) + (rd x9_4 x14_4))))) w.heap.size (fun _ => True) (.slice (some ⟨go63, 0, none⟩) y161.length co63) y161) := ⟨by (with_reducible repeat (first | apply Kd.R_alloc | apply Kd.R_drewN | apply Kd.R_drew)); exact Kd.R_mono (Kd.R_far (p := ⟨go102, (x12_3 : Int).toNat, none⟩) (Kd.R_types HO_10.out GG102.out (by decide)) (fun _ hk => hk.2) (.int .i64 (wrap64 ((rd x9_4 x12_3) + (rd x9_4 x14_4))))) (fun _ hk => trivial)⟩
            have n4_ : Aside0 ((w126.setCell ⟨go102, (x12_3 : Int).toNat, none⟩ (.int .i64 (wrap64 ((rd x9_4 x12_3) + (rd x9_4 x14_4))))).heap[gb137]? = some (.cells #[.int .i64 a0_0, .slice A0_1 l0_1.length c0_1] 30 (0, 0))) := ⟨by (with_reducible repeat (first | refine blk_drewN ?_ _ | refine blk_drew ?_ | refine blk_alloc ?_ _)); refine blk_far ?_ (by have h_ := Kd.R_ne HO_9.out BK137.out (by decide); intro e_; exact h_ (by rw [e_]; rfl)) _; (with_reducible repeat (first | refine blk_drewN ?_ _ | refine blk_drew ?_ | refine blk_alloc ?_ _)); exact BK137.out⟩
            have n5_ : Aside0 (Below w.heap.size w (w126.setCell ⟨go102, (x12_3 : Int).toNat, none⟩ (.int .i64 (wrap64 ((rd x9_4 x12_3) + (rd x9_4 x14_4)))))) := ⟨by repeat (first | (with_reducible first | exact HB.out | apply below_alloc | apply pw_below_drewN | apply below_drew1 | refine below_set ?_ GB102.out | refine below_set ?_ GE137.out) | exact HB.out)⟩
            (try clear HO_6)
            (try clear HO_8)
            (try clear HO_9)
            (try clear HO_10)
            (try clear BK137)
            (try clear HB)
            generalize (w126.setCell ⟨go102, (x12_3 : Int).toNat, none⟩ (.int .i64 (wrap64 ((rd x9_4 x12_3) + (rd x9_4 x14_4))))) = w129 at n0_ n1_ n2_ n3_ n4_ n5_ ⊢
            have HO_6 := n0_
            have HO_8 := n1_
            have HO_9 := n2_
            have HO_10 := n3_
            have BK137 := n4_
            have HB := n5_
            clear n0_ n1_ n2_ n3_ n4_ n5_
            replace HO_6 := Aside0.mk (Kd.R_drew HO_6.out)
            replace HO_8 := Aside0.mk (Kd.R_drew HO_8.out)
            replace HO_9 := Aside0.mk (Kd.R_drew HO_9.out)
            replace HO_10 := Aside0.mk (Kd.R_drew HO_10.out)
            replace BK137 := Aside0.mk (blk_drew BK137.out)
            replace HB := Aside0.mk (below_drew1 HB.out)
            obtain ⟨Ao131, co131, eo131⟩ := Kd.R_slice HO_8.out
            (first | subst eo131 | (injection eo131 with f1_ f2_ f3_; have f4_ := f1_.symm; have f5_ := f3_.symm; clear f1_ f2_ f3_; subst f4_; subst f5_))
            have p171 : 0 ≤ (x12_3 : Int) := of_decide_eq_true (by first | (with_reducible assumption) | assumption)
            have q171 : x12_3 < (x8_4.length : Int) := of_decide_eq_true (by first | (with_reducible assumption) | assumption)
            obtain ⟨ad171, e171, hx171_0⟩ := Kd.at_int (Kd.R_reads' HO_8.out).2.2 x12_3 p171 q171
            cases e171
            replace p171 := eq_true p171
            replace q171 := eq_true q171
            have p174 : 0 ≤ (x14_4 : Int) := of_decide_eq_true (by first | (with_reducible assumption) | assumption)
            have q174 : x14_4 < (x8_4.length : Int) := of_decide_eq_true (by first | (with_reducible assumption) | assumption)
            obtain ⟨ad174, e174, hx174_0⟩ := Kd.at_int (Kd.R_reads' HO_8.out).2.2 x14_4 p174 q174
            obtain rfl : ad171 = ad174 := (by injection e174)
            replace p174 := eq_true p174
            replace q174 := eq_true q174
            have p175 : 0 ≤ (x12_3 : Int) := of_decide_eq_true (by first | (with_reducible assumption) | assumption)
            have q175 : x12_3 < (x8_4.length : Int) := of_decide_eq_true (by first | (with_reducible assumption) | assumption)
            obtain ⟨ad175, e175, hx175_0⟩ := Kd.at_int (Kd.R_reads' HO_8.out).2.2 x12_3 p175 q175
            obtain rfl : ad171 = ad175 := (by injection e175)
            replace p175 := eq_true p175
            replace q175 := eq_true q175
            refine start_ (n := 17) (S := fun w' => w'.cell? (ad171.add (x12_3).toNat) = some (.int .i64 (rd x8_4 x12_3)) ∧ w'.cell? (ad171.add (x14_4).toNat) = some (.int .i64 (rd x8_4 x14_4)) ∧ w'.cell? (ad171.add (x12_3).toNat) = some (.int .i64 (rd x8_4 x12_3))) (ds := []) ba4_49 (by kernel_rfl) rfl rfl ⟨hx171_0, hx174_0, hx175_0⟩ (fun hHeld => ?_); refine with_tabW spec_l03Steps.tab29 spec_l03Steps.bits29 (fun HT_ HW_ => ?_)
            generalize w129.drew = w130 at HO_6 HO_8 HO_9 HO_10 BK137 HB HQ128 hx171_0 hx174_0 hx175_0 hHeld ⊢
            refine pz_ 0 144 ba4_50 HT_ ?_
            refine pz_ 1 145 ba4_51 HT_ ?_
            refine pz_ 2 146 ba4_52 HT_ ?_
            refine pt_ 3 147 ba4_53 HT_ HW_ hHeld ?_
            refine pz_ 4 148 ba4_54 HT_ ?_
            refine pz_ 5 149 ba4_55 HT_ ?_
            refine pz_ 6 150 ba4_56 HT_ ?_
            refine pz_ 7 151 ba4_57 HT_ ?_
            refine pz_ 8 152 ba4_58 HT_ ?_
            refine pz_ 11 155 ba4_67 HT_ ?_
            refine pz_ 12 156 ba4_68 HT_ ?_
            refine pz_ 13 157 ba4_69 HT_ ?_
            refine pt_ 9 153 ba4_70 HT_ HW_ hHeld ?_
            refine pz_ 10 154 ba4_63 HT_ ?_
            refine pt_ 14 158 ba4_64 HT_ HW_ hHeld ?_
            refine pz_ 15 159 ba4_65 HT_ ?_
            refine pz_ 16 160 ba4_66 HT_ ?_
            refine done_ (done_of HT_.out (by kernel_rfl)) ?_
            try go_wp2
            (try simp only [← hl10_4])
            go_roundg kj80
            case measure => have := HK1.out; have := HK2.out; have := HK3.out; have := HK4.out; have := HJ80.out; omega
            case rel => exact ⟨(x8_4), (y170), (wrap64 (x14_4 + 1)), (by first | rfl | (simp; done) | (simp [*]; done)), H', ⟨by have := HK1.out; have := HK2.out; have := HK3.out; have := HK4.out; have := HJ80.out; omega⟩, ⟨by (try simp only [hl10_4]); (with_reducible repeat (first | apply Kd.R_alloc | apply Kd.R_drewN | apply Kd.R_drew)); exact HO_6.out⟩, ⟨by (try simp only [hl10_4]); (with_reducible repeat (first | apply Kd.R_alloc | apply Kd.R_drewN | apply Kd.R_drew)); exact HO_8.out⟩, ⟨by (try simp only [hl10_4]); (with_reducible repeat (first | apply Kd.R_alloc | apply Kd.R_drewN | apply Kd.R_drew)); exact HO_9.out⟩, ⟨by (try simp only [hl10_4]); (with_reducible repeat (first | apply Kd.R_alloc | apply Kd.R_drewN | apply Kd.R_drew)); exact HO_10.out⟩, ⟨by (try simp only [hl10_4]); (with_reducible repeat (first | refine blk_drewN ?_ _ | refine blk_drew ?_ | refine blk_alloc ?_ _)); exact BK137.out⟩, ⟨by repeat (first | (with_reducible first | exact HB.out | apply below_alloc | apply pw_below_drewN | apply below_drew1 | refine below_set ?_ GE137.out) | exact HB.out)⟩⟩
           rw [if_pos c116] at H
           have c116b0 : decide ((wrap64 ((rd x8_4 x14_4) + 1)) < (rd x8_4 x12_3)) = true := decide_eq_true c116
           clear c116
           obtain ⟨y177, hy177⟩ : ∃ y_ : List Int, y_ = (x8_4.set (x12_3 : Int).toNat (wrap64 ((rd x8_4 x14_4) + 1))) := ⟨_, rfl⟩
           replace H : (spec_l03Steps.l3 kj80 a1 x6_1 y177 y170 y161 x11_2 x12_3 (wrap64 (x14_4 + 1)) a0_0 l0_1) = some (r1, r2) := by first | (rw [hy177]; with_reducible exact H) | (have H2_ := (Option.bind_some _ _).symm.trans H; rw [hy177]; with_reducible exact H2_) | (have H2_ := (Option.bind_some _ _).symm.trans H; with_reducible exact H2_) | with_reducible exact H | (rw [hy177]; exact H) | exact H
           have Ny177 := Aside0.mk hy177
           clear hy177
           have H' := Aside0.mk H
           clear H
           try go_wp2
           replace HO_6 := Aside0.mk (Kd.R_drew HO_6.out)
           replace HO_8 := Aside0.mk (Kd.R_drew HO_8.out)
           replace HO_9 := Aside0.mk (Kd.R_drew HO_9.out)
           replace HO_10 := Aside0.mk (Kd.R_drew HO_10.out)
           replace BK137 := Aside0.mk (blk_drew BK137.out)
           replace HB := Aside0.mk (below_drew1 HB.out)
           obtain ⟨Ao119, co119, eo119⟩ := Kd.R_slice HO_9.out
           (first | subst eo119 | (injection eo119 with f1_ f2_ f3_; have f4_ := f1_.symm; have f5_ := f3_.symm; clear f1_ f2_ f3_; subst f4_; subst f5_))
           have p168 : 0 ≤ (x12_3 : Int) := of_decide_eq_true (by first | (with_reducible assumption) | assumption)
           have q168 : x12_3 < (x9_4.length : Int) := of_decide_eq_true (by first | (with_reducible assumption) | assumption)
           obtain ⟨ad168, e168, hx168_0⟩ := Kd.at_int (Kd.R_reads' HO_9.out).2.2 x12_3 p168 q168
           cases e168
           replace p168 := eq_true p168
           replace q168 := eq_true q168
           have p169 : 0 ≤ (x14_4 : Int) := of_decide_eq_true (by first | (with_reducible assumption) | assumption)
           have q169 : x14_4 < (x9_4.length : Int) := of_decide_eq_true (by first | (with_reducible assumption) | assumption)
           obtain ⟨ad169, e169, hx169_0⟩ := Kd.at_int (Kd.R_reads' HO_9.out).2.2 x14_4 p169 q169
           obtain rfl : ad168 = ad169 := (by injection e169)
           replace p169 := eq_true p169
           replace q169 := eq_true q169
           have p102 : 0 ≤ (x12_3 : Int) := of_decide_eq_true (by first | (with_reducible assumption) | assumption)
           have q102 : (x12_3 : Int) < ((x9_4.length : Int) : Int) := of_decide_eq_true (by first | (with_reducible assumption) | assumption)
           obtain ⟨go102, co102, eo102, gb102, gl102, cl102, HG102⟩ := Kd.R_form HO_9.out (by omega)
           (first | cases eo102 | (injection eo102 with ea_ en_ ec_; (first | subst ea_ | (injection ea_ with ea_; subst ea_)); subst ec_; clear en_))
           have GB102 := Aside0.mk gb102
           have GG102 := Aside0.mk HG102
           clear gb102 gl102 HG102
           (first | simp only [add_plain] at hx168_0 | skip)
           (first | simp only [add_plain] at hx169_0 | skip)
           obtain ⟨hx102_0, hf102_0⟩ := Kd.R_celln 0 HO_9.out (x12_3 : Int) p102 q102
           replace p102 := eq_true p102
           replace q102 := eq_true q102
           have HP120 := Kd.R_putn HO_9.out (x12_3 : Int) (wrap64 ((rd x9_4 x12_3) + (rd x9_4 x14_4)))
           rw [← Ny170.out] at HP120
           have HQ120 := Aside0.mk HP120
           clear HP120
           refine start_ (n := 13) (S := fun w' => w'.cell? ⟨go102, (x12_3).toNat, none⟩ = some (.int .i64 (rd x9_4 x12_3)) ∧ w'.cell? ⟨go102, (x14_4).toNat, none⟩ = some (.int .i64 (rd x9_4 x14_4))) (ds := [12]) ba4_35 (by kernel_rfl) rfl rfl ⟨hx168_0, hx169_0⟩ (fun hHeld => ?_); refine with_tabW spec_l03Steps.tab28 spec_l03Steps.bits28 (fun HT_ HW_ => ?_)
           generalize wc.drew = w118 at HO_6 HO_8 HO_9 HO_10 BK137 HB GG102 HQ120 hf102_0 hx102_0 hx168_0 hx169_0 hHeld ⊢
           refine pz_ 0 132 ba4_36 HT_ ?_
           refine pz_ 1 133 ba4_37 HT_ ?_
           refine pz_ 2 134 ba4_38 HT_ ?_
           refine pz_ 3 135 ba4_39 HT_ ?_
           refine pz_ 4 136 ba4_40 HT_ ?_
           refine pz_ 6 138 ba4_41 HT_ ?_
           refine pz_ 7 139 ba4_42 HT_ ?_
           refine pz_ 8 140 ba4_43 HT_ ?_
           refine pt_ 5 137 ba4_44 HT_ HW_ hHeld ?_
           refine pt_ 9 141 ba4_45 HT_ HW_ hHeld ?_
           refine pz_ 10 142 ba4_46 HT_ ?_
           refine pz_ 11 143 ba4_47 HT_ ?_
           refine last_ (i := 12) (N := none) ba4_48 rfl rfl (one_of HT_.out (by kernel_rfl)) (by decide) (fun K hK => ?_)
           refine skip_ (w1 := ?_) (by rfl) rfl ?_ ?_
           rotate_left; · go_simp; rfl
           refine hK.out _ _ ?_
           clear hK K
           refine done_ (done_of HT_.out (by kernel_rfl)) ?_
           try go_wp2
           have n0_ : Aside0 (Kd.R (Kd.int .i64) 3 (w118.setCell ⟨go102, (x12_3 : Int).toNat, none⟩ (.int .i64 (wrap64 ((rd x9_4 x12_3) + (rd x9_4 x14_4))))) w.heap.size (fun k_ => some k_ ≠ (v149 : Value).ownBlock ∧ some k_ ≠ (.slice (some ⟨go102, 0, none⟩) x9_4.length co119 : Value).ownBlock) u6 x6_1) := ⟨by (with_reducible repeat (first | apply Kd.R_alloc | apply Kd.R_drewN | apply Kd.R_drew)); exact Kd.R_mono (Kd.R_far (p := ⟨go102, (x12_3 : Int).toNat, none⟩) (Kd.R_mono HO_6.out (fun k_ hk => (⟨hk, fun e_ => hk.2 (by rw [e_]; rfl)⟩ : _ ∧ k_ ≠ go102))) (fun _ hk => hk.2) (.int .i64 (wrap64 ((rd x9_4 x12_3) + (rd x9_4 x14_4))))) (fun _ hk => by first | exact ⟨hk.1.1, hk.1.2⟩ | grind)⟩
           have n1_ : Aside0 (Kd.R (Kd.int .i64) 3 (w118.setCell ⟨go102, (x12_3 : Int).toNat, none⟩ (.int .i64 (wrap64 ((rd x9_4 x12_3) + (rd x9_4 x14_4))))) w.heap.size (fun k_ => some k_ ≠ (u6 : Value).ownBlock ∧ some k_ ≠ (.slice (some ⟨go102, 0, none⟩) x9_4.length co119 : Value).ownBlock) v149 x8_4) := ⟨by (with_reducible repeat (first | apply Kd.R_alloc | apply Kd.R_drewN | apply Kd.R_drew)); exact Kd.R_mono (Kd.R_far (p := ⟨go102, (x12_3 : Int).toNat, none⟩) (Kd.R_mono HO_8.out (fun k_ hk => (⟨hk, fun e_ => hk.2 (by rw [e_]; rfl)⟩ : _ ∧ k_ ≠ go102))) (fun _ hk => hk.2) (.int .i64 (wrap64 ((rd x9_4 x12_3) + (rd x9_4 x14_4))))) (fun _ hk => by first | exact ⟨hk.1.1, hk.1.2⟩ | grind)⟩
           have n2_ : Aside0 (Kd.R (Kd.int .i64) 3 (w118.setCell ⟨go102, (x12_3 : Int).toNat, none⟩ (.int .i64 (wrap64 ((rd x9_4 x12_3) + (rd x9_4 x14_4))))) w.heap.size (fun k_ => some k_ ≠ (u6 : Value).ownBlock ∧ some k_ ≠ (v149 : Value).ownBlock) (.slice (some ⟨go102, 0, none⟩) x9_4.length co119) y170) := ⟨by (with_reducible repeat (first | apply Kd.R_alloc | apply Kd.R_drewN | apply Kd.R_drew)); exact HQ120.out⟩
           have n3_ : Aside0 (Kd.R Kd.bool 4 (w118.setCell ⟨go102, (x12_3 : Int).toNat, none⟩ (.int .i64 (wrap64 ((rd x9_4 x12_3) + (rd x9_4 x14_4))))) w.heap.size (fun _ => True) (.slice (some ⟨go63, 0, none⟩) y161.length co63) y161) := ⟨by (with_reducible repeat (first | apply Kd.R_alloc | apply Kd.R_drewN | apply Kd.R_drew)); exact Kd.R_mono (Kd.R_far (p := ⟨go102, (x12_3 : Int).toNat, none⟩) (Kd.R_types HO_10.out GG102.out (by decide)) (fun _ hk => hk.2) (.int .i64 (wrap64 ((rd x9_4 x12_3) + (rd x9_4 x14_4))))) (fun _ hk => trivial)⟩
           have n4_ : Aside0 ((w118.setCell ⟨go102, (x12_3 : Int).toNat, none⟩ (.int .i64 (wrap64 ((rd x9_4 x12_3) + (rd x9_4 x14_4))))).heap[gb137]? = some (.cells #[.int .i64 a0_0, .slice A0_1 l0_1.length c0_1] 30 (0, 0))) := ⟨by (with_reducible repeat (first | refine blk_drewN ?_ _ | refine blk_drew ?_ | refine blk_alloc ?_ _)); refine blk_far ?_ (by have h_ := Kd.R_ne HO_9.out BK137.out (by decide); intro e_; exact h_ (by rw [e_]; rfl)) _; (with_reducible repeat (first | refine blk_drewN ?_ _ | refine blk_drew ?_ | refine blk_alloc ?_ _)); exact BK137.out⟩
           have n5_ : Aside0 (Below w.heap.size w (w118.setCell ⟨go102, (x12_3 : Int).toNat, none⟩ (.int .i64 (wrap64 ((rd x9_4 x12_3) + (rd x9_4 x14_4)))))) := ⟨by repeat (first | (with_reducible first | exact HB.out | apply below_alloc | apply pw_below_drewN | apply below_drew1 | refine below_set ?_ GB102.out | refine below_set ?_ GE137.out) | exact HB.out)⟩
           (try clear HO_6)
           (try clear HO_8)
           (try clear HO_9)
           (try clear HO_10)
           (try clear BK137)
           (try clear HB)
           generalize (w118.setCell ⟨go102, (x12_3 : Int).toNat, none⟩ (.int .i64 (wrap64 ((rd x9_4 x12_3) + (rd x9_4 x14_4))))) = w121 at n0_ n1_ n2_ n3_ n4_ n5_ ⊢
           have HO_6 := n0_
           have HO_8 := n1_
           have HO_9 := n2_
           have HO_10 := n3_
           have BK137 := n4_
           have HB := n5_
           clear n0_ n1_ n2_ n3_ n4_ n5_
           replace HO_6 := Aside0.mk (Kd.R_drew HO_6.out)
           replace HO_8 := Aside0.mk (Kd.R_drew HO_8.out)
           replace HO_9 := Aside0.mk (Kd.R_drew HO_9.out)
           replace HO_10 := Aside0.mk (Kd.R_drew HO_10.out)
           replace BK137 := Aside0.mk (blk_drew BK137.out)
           replace HB := Aside0.mk (below_drew1 HB.out)
           obtain ⟨Ao123, co123, eo123⟩ := Kd.R_slice HO_8.out
           (first | subst eo123 | (injection eo123 with f1_ f2_ f3_; have f4_ := f1_.symm; have f5_ := f3_.symm; clear f1_ f2_ f3_; subst f4_; subst f5_))
           have p171 : 0 ≤ (x12_3 : Int) := of_decide_eq_true (by first | (with_reducible assumption) | assumption)
           have q171 : x12_3 < (x8_4.length : Int) := of_decide_eq_true (by first | (with_reducible assumption) | assumption)
           obtain ⟨ad171, e171, hx171_0⟩ := Kd.at_int (Kd.R_reads' HO_8.out).2.2 x12_3 p171 q171
           cases e171
           replace p171 := eq_true p171
           replace q171 := eq_true q171
           have p174 : 0 ≤ (x14_4 : Int) := of_decide_eq_true (by first | (with_reducible assumption) | assumption)
           have q174 : x14_4 < (x8_4.length : Int) := of_decide_eq_true (by first | (with_reducible assumption) | assumption)
           obtain ⟨ad174, e174, hx174_0⟩ := Kd.at_int (Kd.R_reads' HO_8.out).2.2 x14_4 p174 q174
           obtain rfl : ad171 = ad174 := (by injection e174)
           replace p174 := eq_true p174
           replace q174 := eq_true q174
           have p175 : 0 ≤ (x12_3 : Int) := of_decide_eq_true (by first | (with_reducible assumption) | assumption)
           have q175 : x12_3 < (x8_4.length : Int) := of_decide_eq_true (by first | (with_reducible assumption) | assumption)
           obtain ⟨ad175, e175, hx175_0⟩ := Kd.at_int (Kd.R_reads' HO_8.out).2.2 x12_3 p175 q175
           obtain rfl : ad171 = ad175 := (by injection e175)
           replace p175 := eq_true p175
           replace q175 := eq_true q175
           refine start_ (n := 17) (S := fun w' => w'.cell? (ad171.add (x12_3).toNat) = some (.int .i64 (rd x8_4 x12_3)) ∧ w'.cell? (ad171.add (x14_4).toNat) = some (.int .i64 (rd x8_4 x14_4)) ∧ w'.cell? (ad171.add (x12_3).toNat) = some (.int .i64 (rd x8_4 x12_3))) (ds := []) ba4_49 (by kernel_rfl) rfl rfl ⟨hx171_0, hx174_0, hx175_0⟩ (fun hHeld => ?_); refine with_tabW spec_l03Steps.tab29 spec_l03Steps.bits29 (fun HT_ HW_ => ?_)
           generalize w121.drew = w122 at HO_6 HO_8 HO_9 HO_10 BK137 HB HQ120 hx171_0 hx174_0 hx175_0 hHeld ⊢
           refine pz_ 0 144 ba4_50 HT_ ?_
           refine pz_ 1 145 ba4_51 HT_ ?_
           refine pz_ 2 146 ba4_52 HT_ ?_
           refine pt_ 3 147 ba4_53 HT_ HW_ hHeld ?_
           refine pz_ 4 148 ba4_54 HT_ ?_
           refine pz_ 5 149 ba4_55 HT_ ?_
           refine pz_ 6 150 ba4_56 HT_ ?_
           refine pz_ 7 151 ba4_57 HT_ ?_
           refine pz_ 8 152 ba4_58 HT_ ?_
           refine pz_ 11 155 ba4_67 HT_ ?_
           refine pz_ 12 156 ba4_68 HT_ ?_
           refine pz_ 13 157 ba4_69 HT_ ?_
           refine pt_ 9 153 ba4_70 HT_ HW_ hHeld ?_
           refine pz_ 10 154 ba4_63 HT_ ?_
           refine pt_ 14 158 ba4_64 HT_ HW_ hHeld ?_
           refine pz_ 15 159 ba4_65 HT_ ?_
           refine pz_ 16 160 ba4_66 HT_ ?_
           refine done_ (done_of HT_.out (by kernel_rfl)) ?_
           have p176 : 0 ≤ (x14_4 : Int) := of_decide_eq_true (by first | (with_reducible assumption) | assumption)
           have q176 : x14_4 < (x8_4.length : Int) := of_decide_eq_true (by first | (with_reducible assumption) | assumption)
           obtain ⟨ad176, e176, hx176_0⟩ := Kd.at_int (Kd.R_reads' HO_8.out).2.2 x14_4 p176 q176
           obtain rfl : ad171 = ad176 := (by injection e176)
           replace p176 := eq_true p176
           replace q176 := eq_true q176
           have p117 : 0 ≤ (x12_3 : Int) := of_decide_eq_true (by first | (with_reducible assumption) | assumption)
           have q117 : (x12_3 : Int) < ((x8_4.length : Int) : Int) := of_decide_eq_true (by first | (with_reducible assumption) | assumption)
           obtain ⟨go117, co117, eo117, gb117, gl117, cl117, HG117⟩ := Kd.R_form HO_8.out (by omega)
           (first | cases eo117 | (injection eo117 with ea_ en_ ec_; (first | subst ea_ | (injection ea_ with ea_; subst ea_)); subst ec_; clear en_))
           have GB117 := Aside0.mk gb117
           have GG117 := Aside0.mk HG117
           clear gb117 gl117 HG117
           (first | simp only [add_plain] at hx171_0 | skip)
           (first | simp only [add_plain] at hx174_0 | skip)
           (first | simp only [add_plain] at hx175_0 | skip)
           (first | simp only [add_plain] at hx176_0 | skip)
           obtain ⟨hx117_0, hf117_0⟩ := Kd.R_celln 0 HO_8.out (x12_3 : Int) p117 q117
           replace p117 := eq_true p117
           replace q117 := eq_true q117
           obtain ⟨hy124_, hz124_⟩ := Kd.R_celln 0 HO_8.out (x12_3 : Int) (of_decide_eq_true (by first | (with_reducible assumption) | assumption)) (of_decide_eq_true (by first | (with_reducible assumption) | assumption))
           have HP124 := Kd.R_putg HO_8.out (x12_3 : Int) (wrap64 ((rd x8_4 x14_4) + 1))
           try go_wp2_with (first | ((with_reducible refine gate_store (t := 3) (p := 168) rfl ?_); refine store_event (t := 3) (p := 168) (v := ?vo_w125) (w1 := (w122.setCell ⟨go117, (x12_3 : Int).toNat, none⟩ (.int .i64 (wrap64 ((rd x8_4 x14_4) + 1))))) ?hg ?ho ?hn ?hr ?_; (case ho => rfl); (case hg => rfl); (case hn => rfl); (case hr => first | (go_simp; done) | (go_simp; rfl)); intro w125 hw; have hg : w122.grownBy w125 (some go117) := (by rw [hw]; exact HP124.2); have hp_ : Kd.R (Kd.int .i64) 3 w125 w.heap.size (fun k_ => some k_ ≠ (u6 : Value).ownBlock ∧ some k_ ≠ (.slice (some ⟨go102, 0, none⟩) x9_4.length co119 : Value).ownBlock) (.slice (some ⟨go117, 0, none⟩) x8_4.length co123) y177 := (by rw [hw, Ny177.out]; exact HP124.1); clear HP124; replace HO_6 := Aside0.mk (Kd.R_after (v := (.slice (some ⟨go117, 0, none⟩) x8_4.length co123)) (v1 := (.slice (some ⟨go117, 0, none⟩) x8_4.length co123)) (ok := (fun k_ => some k_ ≠ (.slice (some ⟨go102, 0, none⟩) x9_4.length co119 : Value).ownBlock)) (by (with_reducible repeat (first | apply Kd.R_alloc | apply Kd.R_drewN | apply Kd.R_drew)); exact Kd.R_mono HO_6.out (fun _ hk => by first | exact ⟨hk.2, hk.1⟩ | grind)) hg (.inl rfl)); replace HO_9 := Aside0.mk (Kd.R_after (v := (.slice (some ⟨go117, 0, none⟩) x8_4.length co123)) (v1 := (.slice (some ⟨go117, 0, none⟩) x8_4.length co123)) (ok := (fun k_ => some k_ ≠ (u6 : Value).ownBlock)) (hd_ HO_9) hg (.inl rfl)); replace HO_10 := Aside0.mk (Kd.R_over' (v := (.slice (some ⟨go117, 0, none⟩) x8_4.length co123)) (hd_ HO_10) (Kd.R_typed HO_8.out) (by decide) hg); replace BK137 := Aside0.mk (blk_grown (g := gb137) (o := .cells #[.int .i64 a0_0, .slice A0_1 l0_1.length c0_1] 30 (0, 0)) (by (with_reducible repeat (first | refine blk_drewN ?_ _ | refine blk_drew ?_ | refine blk_alloc ?_ _)); exact BK137.out) hg (Kd.R_ne HO_8.out BK137.out (by decide))); replace HO_8 := Aside0.mk (hp_); replace HB := Aside0.mk ((by rw [hw]; exact below_set (HB.out) GB117.out : Below w.heap.size w w125)); clear hg hw hp_))
           (try simp only [← hl10_4])
           go_roundg kj80
           case measure => have := HK1.out; have := HK2.out; have := HK3.out; have := HK4.out; have := HJ80.out; omega
           case rel => exact ⟨(y177), (y170), (wrap64 (x14_4 + 1)), (by first | rfl | (simp; done) | (simp [*]; done)), H', ⟨by have := HK1.out; have := HK2.out; have := HK3.out; have := HK4.out; have := HJ80.out; omega⟩, ⟨by (try simp only [hl10_4]); (with_reducible repeat (first | apply Kd.R_alloc | apply Kd.R_drewN | apply Kd.R_drew)); exact Kd.R_mono HO_6.out (fun _ hk => by first | exact ⟨hk.2, hk.1⟩ | grind)⟩, ⟨by (try simp only [hl10_4]); (with_reducible repeat (first | apply Kd.R_alloc | apply Kd.R_drewN | apply Kd.R_drew)); exact HO_8.out⟩, ⟨by (try simp only [hl10_4]); (with_reducible repeat (first | apply Kd.R_alloc | apply Kd.R_drewN | apply Kd.R_drew)); exact HO_9.out⟩, ⟨by (try simp only [hl10_4]); (with_reducible repeat (first | apply Kd.R_alloc | apply Kd.R_drewN | apply Kd.R_drew)); exact HO_10.out⟩, ⟨by (try simp only [hl10_4]); (with_reducible repeat (first | refine blk_drewN ?_ _ | refine blk_drew ?_ | refine blk_alloc ?_ _)); exact BK137.out⟩, ⟨by repeat (first | (with_reducible first | exact HB.out | apply below_alloc | apply pw_below_drewN | apply below_drew1 | refine below_set ?_ GE137.out) | exact HB.out)⟩⟩

end Go.Proofs.Ythmahcohcphljaa.QFnExactTreeOf
