/- Contracts of functions that the law reaches: what each call returns and what it leaves in memory. Made by this session over the print of the kit. -/
import Derived.Test.YthmahcohcphljaaQFnExactTreeOfx0
import Derived.Test.YthmahcohcphljaaQFnExactTreeOfx1
import Derived.Test.YthmahcohcphljaaQFnExactTreeOfx2
import Derived.Test.YthmahcohcphljaaQFnExactTreeOfx3
import Derived.Test.YthmahcohcphljaaQFnExactTreeOfx4
namespace Go.Proofs.Ythmahcohcphljaa.QFnExactTreeOf
open Go.RowKit Go.Proofs.YthmahcohcphljaaV.PrintWords Go.Proofs.YthmahcohcphljaaV.PrintLast Go.Proofs.YthmahcohcphljaaV.PrintMore
attribute [local go_sem] max2_int min2_int max_two min_two max_three min_three max_four min_four   -- for this text's walks alone
set_option linter.unusedVariables false
set_option linter.unusedSimpArgs false
abbrev tb5 : Bool := true
abbrev fb5 : Bool := false
def ba5_0 : Array Bool := #[fb5,fb5,fb5,fb5,fb5,fb5,fb5,fb5,fb5,fb5,fb5,fb5,fb5,fb5,fb5,fb5,fb5,fb5,fb5,fb5,fb5,fb5,fb5,fb5,fb5,fb5,fb5,fb5,fb5,fb5,fb5,fb5,fb5,fb5,fb5,fb5,fb5,fb5]
def ba5_1 : Array Bool := #[tb5,fb5,fb5,fb5,fb5,fb5,fb5,fb5,fb5,fb5,fb5,fb5,fb5,fb5,fb5,fb5,fb5,fb5,fb5,fb5,fb5,fb5,fb5,fb5,fb5,fb5,fb5,fb5,fb5,fb5,fb5,fb5,fb5,fb5,fb5,fb5,fb5,fb5]
def ba5_2 : Array Bool := #[tb5,tb5,fb5,fb5,fb5,fb5,fb5,fb5,fb5,fb5,fb5,fb5,fb5,fb5,fb5,fb5,fb5,fb5,fb5,fb5,fb5,fb5,fb5,fb5,fb5,fb5,fb5,fb5,fb5,fb5,fb5,fb5,fb5,fb5,fb5,fb5,fb5,fb5]
def ba5_3 : Array Bool := #[tb5,tb5,tb5,fb5,fb5,fb5,fb5,fb5,fb5,fb5,fb5,fb5,fb5,fb5,fb5,fb5,fb5,fb5,fb5,fb5,fb5,fb5,fb5,fb5,fb5,fb5,fb5,fb5,fb5,fb5,fb5,fb5,fb5,fb5,fb5,fb5,fb5,fb5]
def ba5_4 : Array Bool := #[tb5,tb5,tb5,tb5,fb5,fb5,fb5,fb5,fb5,fb5,fb5,fb5,fb5,fb5,fb5,fb5,fb5,fb5,fb5,fb5,fb5,fb5,fb5,fb5,fb5,fb5,fb5,fb5,fb5,fb5,fb5,fb5,fb5,fb5,fb5,fb5,fb5,fb5]
def ba5_5 : Array Bool := #[tb5,tb5,tb5,tb5,tb5,fb5,fb5,fb5,fb5,fb5,fb5,fb5,fb5,fb5,fb5,fb5,fb5,fb5,fb5,fb5,fb5,fb5,fb5,fb5,fb5,fb5,fb5,fb5,fb5,fb5,fb5,fb5,fb5,fb5,fb5,fb5,fb5,fb5]
def ba5_6 : Array Bool := #[tb5,tb5,tb5,tb5,tb5,tb5,fb5,fb5,fb5,fb5,fb5,fb5,fb5,fb5,fb5,fb5,fb5,fb5,fb5,fb5,fb5,fb5,fb5,fb5,fb5,fb5,fb5,fb5,fb5,fb5,fb5,fb5,fb5,fb5,fb5,fb5,fb5,fb5]
def ba5_7 : Array Bool := #[tb5,tb5,tb5,tb5,tb5,tb5,tb5,fb5,fb5,fb5,fb5,fb5,fb5,fb5,fb5,fb5,fb5,fb5,fb5,fb5,fb5,fb5,fb5,fb5,fb5,fb5,fb5,fb5,fb5,fb5,fb5,fb5,fb5,fb5,fb5,fb5,fb5,fb5]
def ba5_8 : Array Bool := #[tb5,tb5,tb5,tb5,tb5,tb5,tb5,tb5,fb5,fb5,fb5,fb5,fb5,fb5,fb5,fb5,fb5,fb5,fb5,fb5,fb5,fb5,fb5,fb5,fb5,fb5,fb5,fb5,fb5,fb5,fb5,fb5,fb5,fb5,fb5,fb5,fb5,fb5]
def ba5_9 : Array Bool := #[tb5,tb5,tb5,tb5,tb5,tb5,tb5,tb5,tb5,fb5,fb5,fb5,fb5,fb5,fb5,fb5,fb5,fb5,fb5,fb5,fb5,fb5,fb5,fb5,fb5,fb5,fb5,fb5,fb5,fb5,fb5,fb5,fb5,fb5,fb5,fb5,fb5,fb5]
def ba5_10 : Array Bool := #[tb5,tb5,tb5,tb5,tb5,tb5,tb5,tb5,tb5,tb5,fb5,fb5,fb5,fb5,fb5,fb5,fb5,fb5,fb5,fb5,fb5,fb5,fb5,fb5,fb5,fb5,fb5,fb5,fb5,fb5,fb5,fb5,fb5,fb5,fb5,fb5,fb5,fb5]
def ba5_11 : Array Bool := #[tb5,tb5,tb5,tb5,tb5,tb5,tb5,tb5,tb5,tb5,tb5,fb5,fb5,fb5,fb5,fb5,fb5,fb5,fb5,fb5,fb5,fb5,fb5,fb5,fb5,fb5,fb5,fb5,fb5,fb5,fb5,fb5,fb5,fb5,fb5,fb5,fb5,fb5]
def ba5_12 : Array Bool := #[tb5,tb5,tb5,tb5,tb5,tb5,tb5,tb5,tb5,tb5,tb5,tb5,fb5,fb5,fb5,fb5,fb5,fb5,fb5,fb5,fb5,fb5,fb5,fb5,fb5,fb5,fb5,fb5,fb5,fb5,fb5,fb5,fb5,fb5,fb5,fb5,fb5,fb5]
def ba5_13 : Array Bool := #[tb5,tb5,tb5,tb5,tb5,tb5,tb5,tb5,tb5,tb5,tb5,tb5,tb5,fb5,fb5,fb5,fb5,fb5,fb5,fb5,fb5,fb5,fb5,fb5,fb5,fb5,fb5,fb5,fb5,fb5,fb5,fb5,fb5,fb5,fb5,fb5,fb5,fb5]
def ba5_14 : Array Bool := #[tb5,tb5,tb5,tb5,tb5,tb5,tb5,tb5,tb5,tb5,tb5,tb5,tb5,tb5,fb5,fb5,fb5,fb5,fb5,fb5,fb5,fb5,fb5,fb5,fb5,fb5,fb5,fb5,fb5,fb5,fb5,fb5,fb5,fb5,fb5,fb5,fb5,fb5]
def ba5_15 : Array Bool := #[tb5,tb5,tb5,tb5,tb5,tb5,tb5,tb5,tb5,tb5,tb5,tb5,tb5,tb5,tb5,fb5,fb5,fb5,fb5,fb5,fb5,fb5,fb5,fb5,fb5,fb5,fb5,fb5,fb5,fb5,fb5,fb5,fb5,fb5,fb5,fb5,fb5,fb5]
def ba5_16 : Array Bool := #[tb5,tb5,tb5,tb5,tb5,tb5,tb5,tb5,tb5,tb5,tb5,tb5,tb5,tb5,tb5,tb5,fb5,fb5,fb5,fb5,fb5,fb5,fb5,fb5,fb5,fb5,fb5,fb5,fb5,fb5,fb5,fb5,fb5,fb5,fb5,fb5,fb5,fb5]
def ba5_17 : Array Bool := #[tb5,tb5,tb5,tb5,tb5,tb5,tb5,tb5,tb5,tb5,tb5,tb5,tb5,tb5,tb5,tb5,tb5,fb5,fb5,fb5,fb5,fb5,fb5,fb5,fb5,fb5,fb5,fb5,fb5,fb5,fb5,fb5,fb5,fb5,fb5,fb5,fb5,fb5]
def ba5_18 : Array Bool := #[tb5,tb5,tb5,tb5,tb5,tb5,tb5,tb5,tb5,tb5,tb5,tb5,tb5,tb5,tb5,tb5,tb5,tb5,fb5,fb5,fb5,fb5,fb5,fb5,fb5,fb5,fb5,fb5,fb5,fb5,fb5,fb5,fb5,fb5,fb5,fb5,fb5,fb5]
def ba5_19 : Array Bool := #[tb5,tb5,tb5,tb5,tb5,tb5,tb5,tb5,tb5,tb5,tb5,tb5,tb5,tb5,tb5,tb5,tb5,tb5,tb5,fb5,fb5,fb5,fb5,fb5,fb5,fb5,fb5,fb5,fb5,fb5,fb5,fb5,fb5,fb5,fb5,fb5,fb5,fb5]
def ba5_20 : Array Bool := #[tb5,tb5,tb5,tb5,tb5,tb5,tb5,tb5,tb5,tb5,tb5,tb5,tb5,tb5,tb5,tb5,tb5,tb5,tb5,tb5,fb5,fb5,fb5,fb5,fb5,fb5,fb5,fb5,fb5,fb5,fb5,fb5,fb5,fb5,fb5,fb5,fb5,fb5]
def ba5_21 : Array Bool := #[tb5,tb5,tb5,tb5,tb5,tb5,tb5,tb5,tb5,tb5,tb5,tb5,tb5,tb5,tb5,tb5,tb5,tb5,tb5,tb5,tb5,fb5,fb5,fb5,fb5,fb5,fb5,fb5,fb5,fb5,fb5,fb5,fb5,fb5,fb5,fb5,fb5,fb5]
def ba5_22 : Array Bool := #[tb5,tb5,tb5,tb5,tb5,tb5,tb5,tb5,tb5,tb5,tb5,tb5,tb5,tb5,tb5,tb5,tb5,tb5,tb5,tb5,tb5,tb5,fb5,fb5,fb5,fb5,fb5,fb5,fb5,fb5,fb5,fb5,fb5,fb5,fb5,fb5,fb5,fb5]
def ba5_23 : Array Bool := #[tb5,tb5,tb5,tb5,tb5,tb5,tb5,tb5,tb5,tb5,tb5,tb5,tb5,tb5,tb5,tb5,tb5,tb5,tb5,tb5,tb5,tb5,tb5,fb5,fb5,fb5,fb5,fb5,fb5,fb5,fb5,fb5,fb5,fb5,fb5,fb5,fb5,fb5]
def ba5_24 : Array Bool := #[tb5,tb5,tb5,tb5,tb5,tb5,tb5,tb5,tb5,tb5,tb5,tb5,tb5,tb5,tb5,tb5,tb5,tb5,tb5,tb5,tb5,tb5,tb5,tb5,fb5,fb5,fb5,fb5,fb5,fb5,fb5,fb5,fb5,fb5,fb5,fb5,fb5,fb5]
def ba5_25 : Array Bool := #[tb5,tb5,tb5,tb5,tb5,tb5,tb5,tb5,tb5,tb5,tb5,tb5,tb5,tb5,tb5,tb5,tb5,tb5,tb5,tb5,tb5,tb5,tb5,tb5,tb5,fb5,fb5,fb5,fb5,fb5,fb5,fb5,fb5,fb5,fb5,fb5,fb5,fb5]
def ba5_26 : Array Bool := #[tb5,tb5,tb5,tb5,tb5,tb5,tb5,tb5,tb5,tb5,tb5,tb5,tb5,tb5,tb5,tb5,tb5,tb5,tb5,tb5,tb5,tb5,tb5,tb5,tb5,tb5,fb5,fb5,fb5,fb5,fb5,fb5,fb5,fb5,fb5,fb5,fb5,fb5]
def ba5_27 : Array Bool := #[tb5,tb5,tb5,tb5,tb5,tb5,tb5,tb5,tb5,tb5,tb5,tb5,tb5,tb5,tb5,tb5,tb5,tb5,tb5,tb5,tb5,tb5,tb5,tb5,tb5,tb5,tb5,fb5,fb5,fb5,fb5,fb5,fb5,fb5,fb5,fb5,fb5,fb5]
def ba5_28 : Array Bool := #[tb5,tb5,tb5,tb5,tb5,tb5,tb5,tb5,tb5,tb5,tb5,tb5,tb5,tb5,tb5,tb5,tb5,tb5,tb5,tb5,tb5,tb5,tb5,tb5,tb5,tb5,tb5,tb5,fb5,fb5,fb5,fb5,fb5,fb5,fb5,fb5,fb5,fb5]
def ba5_29 : Array Bool := #[tb5,tb5,tb5,tb5,tb5,tb5,tb5,tb5,tb5,tb5,tb5,tb5,tb5,tb5,tb5,tb5,tb5,tb5,tb5,tb5,tb5,tb5,tb5,tb5,tb5,tb5,tb5,tb5,tb5,fb5,fb5,fb5,fb5,fb5,fb5,fb5,fb5,fb5]
def ba5_30 : Array Bool := #[tb5,tb5,tb5,tb5,tb5,tb5,tb5,tb5,tb5,tb5,tb5,tb5,tb5,tb5,tb5,tb5,tb5,tb5,tb5,tb5,tb5,tb5,tb5,tb5,tb5,tb5,tb5,tb5,tb5,tb5,fb5,fb5,fb5,fb5,fb5,fb5,fb5,fb5]
def ba5_31 : Array Bool := #[tb5,tb5,tb5,tb5,tb5,tb5,tb5,tb5,tb5,tb5,tb5,tb5,tb5,tb5,tb5,tb5,tb5,tb5,tb5,tb5,tb5,tb5,tb5,tb5,tb5,tb5,tb5,tb5,tb5,tb5,tb5,fb5,fb5,fb5,fb5,fb5,fb5,fb5]
def ba5_32 : Array Bool := #[tb5,tb5,tb5,tb5,tb5,tb5,tb5,tb5,tb5,tb5,tb5,tb5,tb5,tb5,tb5,tb5,tb5,tb5,tb5,tb5,tb5,tb5,tb5,tb5,tb5,tb5,tb5,tb5,tb5,tb5,tb5,tb5,fb5,fb5,fb5,fb5,fb5,fb5]
def ba5_33 : Array Bool := #[tb5,tb5,tb5,tb5,tb5,tb5,tb5,tb5,tb5,tb5,tb5,tb5,tb5,tb5,tb5,tb5,tb5,tb5,tb5,tb5,tb5,tb5,tb5,tb5,tb5,tb5,tb5,tb5,tb5,tb5,tb5,tb5,tb5,fb5,fb5,fb5,fb5,fb5]
def ba5_34 : Array Bool := #[tb5,tb5,tb5,tb5,tb5,tb5,tb5,tb5,tb5,tb5,tb5,tb5,tb5,tb5,tb5,tb5,tb5,tb5,tb5,tb5,tb5,tb5,tb5,tb5,tb5,tb5,tb5,tb5,tb5,tb5,tb5,tb5,tb5,tb5,fb5,fb5,fb5,fb5]
def ba5_35 : Array Bool := #[tb5,tb5,tb5,tb5,tb5,tb5,tb5,tb5,tb5,tb5,tb5,tb5,tb5,tb5,tb5,tb5,tb5,tb5,tb5,tb5,tb5,tb5,tb5,tb5,tb5,tb5,tb5,tb5,tb5,tb5,tb5,tb5,tb5,tb5,tb5,fb5,fb5,fb5]
def ba5_36 : Array Bool := #[tb5,tb5,tb5,tb5,tb5,tb5,tb5,tb5,tb5,tb5,tb5,tb5,tb5,tb5,tb5,tb5,tb5,tb5,tb5,tb5,tb5,tb5,tb5,tb5,tb5,tb5,tb5,tb5,tb5,tb5,tb5,tb5,tb5,tb5,tb5,tb5,fb5,fb5]
def ba5_37 : Array Bool := #[tb5,tb5,tb5,tb5,tb5,tb5,tb5,tb5,tb5,tb5,tb5,tb5,tb5,tb5,tb5,tb5,tb5,tb5,tb5,tb5,tb5,tb5,tb5,tb5,tb5,tb5,tb5,tb5,tb5,tb5,tb5,tb5,tb5,tb5,tb5,tb5,tb5,fb5]
def ba5_38 : Array Bool := #[tb5,tb5,tb5,tb5,tb5,tb5,tb5,tb5,tb5,tb5,tb5,tb5,tb5,tb5,tb5,tb5,tb5,tb5,tb5,tb5,tb5,tb5,tb5,tb5,tb5,tb5,tb5,tb5,tb5,tb5,tb5,tb5,tb5,tb5,tb5,tb5,tb5,tb5]
def ba5_39 : Array Bool := #[tb5,tb5,tb5,tb5,tb5,tb5,tb5,tb5,tb5,tb5,tb5,tb5,tb5,tb5,tb5,tb5,tb5,tb5,fb5,fb5,tb5,fb5,fb5,fb5,fb5,fb5,fb5,fb5,fb5,fb5,fb5,fb5,fb5,fb5,fb5,fb5,fb5,fb5]
def ba5_40 : Array Bool := #[tb5,tb5,tb5,tb5,tb5,tb5,tb5,tb5,tb5,tb5,tb5,tb5,tb5,tb5,tb5,tb5,tb5,tb5,fb5,fb5,tb5,tb5,fb5,fb5,fb5,fb5,fb5,fb5,fb5,fb5,fb5,fb5,fb5,fb5,fb5,fb5,fb5,fb5]
def ba5_41 : Array Bool := #[tb5,tb5,tb5,tb5,tb5,tb5,tb5,tb5,tb5,tb5,tb5,tb5,tb5,tb5,tb5,tb5,tb5,tb5,fb5,fb5,tb5,tb5,tb5,fb5,fb5,fb5,fb5,fb5,fb5,fb5,fb5,fb5,fb5,fb5,fb5,fb5,fb5,fb5]
def ba5_42 : Array Bool := #[tb5,tb5,tb5,tb5,tb5,tb5,tb5,tb5,tb5,tb5,tb5,tb5,tb5,tb5,tb5,tb5,tb5,tb5,tb5,fb5,tb5,tb5,tb5,fb5,fb5,fb5,fb5,fb5,fb5,fb5,fb5,fb5,fb5,fb5,fb5,fb5,fb5,fb5]
def ba5_43 : Array Bool := #[tb5,tb5,tb5,tb5,tb5,tb5,tb5,tb5,tb5,tb5,tb5,tb5,tb5,tb5,tb5,tb5,tb5,tb5,tb5,tb5,tb5,tb5,tb5,tb5,tb5,tb5,tb5,tb5,fb5,tb5,fb5,fb5,fb5,fb5,fb5,fb5,fb5,fb5]
def ba5_44 : Array Bool := #[tb5,tb5,tb5,tb5,tb5,tb5,tb5,tb5,tb5,tb5,tb5,tb5,tb5,tb5,tb5,tb5,tb5,tb5,tb5,tb5,tb5,tb5,tb5,tb5,tb5,tb5,tb5,tb5,fb5,tb5,fb5,tb5,fb5,fb5,fb5,fb5,fb5,fb5]
def ba5_45 : Array Bool := #[tb5,tb5,tb5,tb5,tb5,tb5,tb5,tb5,tb5,tb5,tb5,tb5,tb5,tb5,tb5,tb5,tb5,tb5,tb5,tb5,tb5,tb5,tb5,tb5,tb5,tb5,tb5,tb5,fb5,tb5,fb5,tb5,fb5,fb5,fb5,tb5,fb5,fb5]
def ba5_46 : Array Bool := #[tb5,tb5,tb5,tb5,tb5,tb5,tb5,tb5,tb5,tb5,tb5,tb5,tb5,tb5,tb5,tb5,tb5,tb5,tb5,tb5,tb5,tb5,tb5,tb5,tb5,tb5,tb5,tb5,tb5,tb5,fb5,tb5,fb5,fb5,fb5,tb5,fb5,fb5]
def ba5_47 : Array Bool := #[tb5,tb5,tb5,tb5,tb5,tb5,tb5,tb5,tb5,tb5,tb5,tb5,tb5,tb5,tb5,tb5,tb5,tb5,tb5,tb5,tb5,tb5,tb5,tb5,tb5,tb5,tb5,tb5,tb5,tb5,tb5,tb5,fb5,fb5,fb5,tb5,fb5,fb5]
def ba5_48 : Array Bool := #[tb5,tb5,tb5,tb5,tb5,tb5,tb5,tb5,tb5,tb5,tb5,tb5,tb5,tb5,tb5,tb5,tb5,tb5,tb5,tb5,tb5,tb5,tb5,tb5,tb5,tb5,tb5,tb5,tb5,tb5,tb5,tb5,tb5,fb5,fb5,tb5,fb5,fb5]
def ba5_49 : Array Bool := #[tb5,tb5,tb5,tb5,tb5,tb5,tb5,tb5,tb5,tb5,tb5,tb5,tb5,tb5,tb5,tb5,tb5,tb5,tb5,tb5,tb5,tb5,tb5,tb5,tb5,tb5,tb5,tb5,tb5,tb5,tb5,tb5,tb5,tb5,fb5,tb5,fb5,fb5]

/-! ### spec_CheapestWay: function 39 -/
mutual
def spec_CheapestWay.j0 : Nat → Int → Int → Bool → Int → List (S76) → Option (List Int × Bool)
 | 0, _, _, _, _, _ => none
 | k + 1, x1, x2, x29, x179000, x179001 => if x29 = true then (some (([] : List Int), false)) else ((spec_l03Steps.f k x179000 x179001 x2).bind fun bt182 => (if 0 ≤ x1 then (if x1 < (bt182.2.length : Int) then (if (rd bt182.2 x1) = 0 then (some (([] : List Int), false)) else (spec_CheapestWay.l0 k x2 bt182.1 bt182.2 (([x1] : List Int)) x1 x179000 x179001)) else (none)) else (none)))
def spec_CheapestWay.l0 : Nat → Int → List Int → List Int → List Int → Int → Int → List (S76) → Option (List Int × Bool)
 | 0, _, _, _, _, _, _, _ => none
 | k + 1, x2, x8, x9, x10, x11, x179000, x179001 => if x11 = x2 then (some (x10, true)) else ((spec_Distances.f k x179000 x179001 x11).bind fun t192 => (if 0 ≤ x2 then (if x2 < (t192.length : Int) then (spec_CheapestWay.l1 k x2 x8 x9 x10 x11 (rd t192 x2) 0 x179000 x179001) else (none)) else (none)))
def spec_CheapestWay.l1 : Nat → Int → List Int → List Int → List Int → Int → Int → Int → Int → List (S76) → Option (List Int × Bool)
 | 0, _, _, _, _, _, _, _, _, _ => none
 | k + 1, x2, x8, x9, x10, x11, x12, x13, x179000, x179001 => if x13 < x179000 then ((spec_l03Cost.f k x179000 x179001 x11 x13).bind fun t199 => (if x13 = x11 then (spec_CheapestWay.l1 k x2 x8 x9 x10 x11 x12 (wrap64 (x13 + 1)) x179000 x179001) else (if t199 < 1000000 then (if 0 ≤ x13 then (if x13 < (x9.length : Int) then (if (rd x9 x13) > 0 then (if x13 < (x8.length : Int) then (if 0 ≤ x11 then (if x11 < (x8.length : Int) then (if (wrap64 ((rd x8 x13) + 1)) = (rd x8 x11) then ((spec_Distances.f k x179000 x179001 x13).bind fun t203 => (if 0 ≤ x2 then (if x2 < (t203.length : Int) then (if (wrap64 (t199 + (rd t203 x2))) = x12 then (if x10.length < 17592186044416 then (spec_CheapestWay.l0 k x2 x8 x9 (x10 ++ [x13]) x13 x179000 x179001) else (none)) else (spec_CheapestWay.l1 k x2 x8 x9 x10 x11 x12 (wrap64 (x13 + 1)) x179000 x179001)) else (none)) else (none))) else (spec_CheapestWay.l1 k x2 x8 x9 x10 x11 x12 (wrap64 (x13 + 1)) x179000 x179001)) else (none)) else (none)) else (none)) else (spec_CheapestWay.l1 k x2 x8 x9 x10 x11 x12 (wrap64 (x13 + 1)) x179000 x179001)) else (none)) else (none)) else (spec_CheapestWay.l1 k x2 x8 x9 x10 x11 x12 (wrap64 (x13 + 1)) x179000 x179001)))) else (if x10.length < 17592186044416 then (spec_CheapestWay.l0 k x2 x8 x9 (x10 ++ [x11]) x11 x179000 x179001) else (none))
end
def spec_CheapestWay.f (k : Nat) (a0_0 : Int) (l0_1 : List (S76)) (a1 : Int) (a2 : Int) : Option (List Int × Bool) := (spec_GraphOk.f k a0_0 l0_1).bind fun t179 => (if t179 = true then ((spec_l03Node.f a0_0 l0_1 a1).bind fun t180 => (if t180 = true then ((spec_l03Node.f a0_0 l0_1 a2).bind fun t181 => (spec_CheapestWay.j0 k a1 a2 (!t181) a0_0 l0_1)) else (spec_CheapestWay.j0 k a1 a2 true a0_0 l0_1))) else (spec_CheapestWay.j0 k a1 a2 true a0_0 l0_1))
theorem spec_CheapestWay.mono_l : ∀ k, (∀ y0 y1 y2 y3 y4, LeO (spec_CheapestWay.j0 k y0 y1 y2 y3 y4) (spec_CheapestWay.j0 (k + 1) y0 y1 y2 y3 y4)) ∧ (∀ y0 y1 y2 y3 y4 y5 y6, LeO (spec_CheapestWay.l0 k y0 y1 y2 y3 y4 y5 y6) (spec_CheapestWay.l0 (k + 1) y0 y1 y2 y3 y4 y5 y6)) ∧ (∀ y0 y1 y2 y3 y4 y5 y6 y7 y8, LeO (spec_CheapestWay.l1 k y0 y1 y2 y3 y4 y5 y6 y7 y8) (spec_CheapestWay.l1 (k + 1) y0 y1 y2 y3 y4 y5 y6 y7 y8))
 | 0 => ⟨fun _ _ _ _ _ r h => by simp [spec_CheapestWay.j0] at h, fun _ _ _ _ _ _ _ r h => by simp [spec_CheapestWay.l0] at h, fun _ _ _ _ _ _ _ _ _ r h => by simp [spec_CheapestWay.l1] at h⟩
 | k + 1 => by
  obtain ⟨ih0, ih1, ih2⟩ := spec_CheapestWay.mono_l k
  refine ⟨?_, ?_, ?_⟩
  ·intro y0 y1 y2 y3 y4
   unfold spec_CheapestWay.j0
   repeat' first
   | (with_reducible exact ih0 _ _ _ _ _)
   | (with_reducible exact ih1 _ _ _ _ _ _ _)
   | (with_reducible exact ih2 _ _ _ _ _ _ _ _ _)
   | (with_reducible exact spec_Distances.mono _ _ _ _)
   | (with_reducible exact spec_GraphOk.mono _ _ _)
   | (with_reducible exact spec_l03Cost.mono _ _ _ _ _)
   | (with_reducible exact spec_l03Steps.mono _ _ _ _)
   | (with_reducible exact LeO.refl _)
   | (with_reducible exact LeO.none _)
   | (with_reducible refine LeO.ite ?_ ?_)
   | (with_reducible refine LeO.bind ?_ (fun _ => ?_))
   | exact ih0 _ _ _ _ _
   | exact ih1 _ _ _ _ _ _ _
   | exact ih2 _ _ _ _ _ _ _ _ _
   | exact spec_Distances.mono _ _ _ _
   | exact spec_GraphOk.mono _ _ _
   | exact spec_l03Cost.mono _ _ _ _ _
   | exact spec_l03Steps.mono _ _ _ _
   | exact LeO.none _
   | refine LeO.ite ?_ ?_
   | refine LeO.bind ?_ (fun _ => ?_)
  ·intro y0 y1 y2 y3 y4 y5 y6
   unfold spec_CheapestWay.l0
   repeat' first
   | (with_reducible exact ih0 _ _ _ _ _)
   | (with_reducible exact ih1 _ _ _ _ _ _ _)
   | (with_reducible exact ih2 _ _ _ _ _ _ _ _ _)
   | (with_reducible exact spec_Distances.mono _ _ _ _)
   | (with_reducible exact spec_GraphOk.mono _ _ _)
   | (with_reducible exact spec_l03Cost.mono _ _ _ _ _)
   | (with_reducible exact spec_l03Steps.mono _ _ _ _)
   | (with_reducible exact LeO.refl _)
   | (with_reducible exact LeO.none _)
   | (with_reducible refine LeO.ite ?_ ?_)
   | (with_reducible refine LeO.bind ?_ (fun _ => ?_))
   | exact ih0 _ _ _ _ _
   | exact ih1 _ _ _ _ _ _ _
   | exact ih2 _ _ _ _ _ _ _ _ _
   | exact spec_Distances.mono _ _ _ _
   | exact spec_GraphOk.mono _ _ _
   | exact spec_l03Cost.mono _ _ _ _ _
   | exact spec_l03Steps.mono _ _ _ _
   | exact LeO.none _
   | refine LeO.ite ?_ ?_
   | refine LeO.bind ?_ (fun _ => ?_)
  ·intro y0 y1 y2 y3 y4 y5 y6 y7 y8
   unfold spec_CheapestWay.l1
   repeat' first
   | (with_reducible exact ih0 _ _ _ _ _)
   | (with_reducible exact ih1 _ _ _ _ _ _ _)
   | (with_reducible exact ih2 _ _ _ _ _ _ _ _ _)
   | (with_reducible exact spec_Distances.mono _ _ _ _)
   | (with_reducible exact spec_GraphOk.mono _ _ _)
   | (with_reducible exact spec_l03Cost.mono _ _ _ _ _)
   | (with_reducible exact spec_l03Steps.mono _ _ _ _)
   | (with_reducible exact LeO.refl _)
   | (with_reducible exact LeO.none _)
   | (with_reducible refine LeO.ite ?_ ?_)
   | (with_reducible refine LeO.bind ?_ (fun _ => ?_))
   | exact ih0 _ _ _ _ _
   | exact ih1 _ _ _ _ _ _ _
   | exact ih2 _ _ _ _ _ _ _ _ _
   | exact spec_Distances.mono _ _ _ _
   | exact spec_GraphOk.mono _ _ _
   | exact spec_l03Cost.mono _ _ _ _ _
   | exact spec_l03Steps.mono _ _ _ _
   | exact LeO.none _
   | refine LeO.ite ?_ ?_
   | refine LeO.bind ?_ (fun _ => ?_)
theorem spec_CheapestWay.mono : ∀ a0 a1 a2 a3 k, LeO (spec_CheapestWay.f k a0 a1 a2 a3) (spec_CheapestWay.f (k + 1) a0 a1 a2 a3) := by
 intro a0 a1 a2 a3 k
 obtain ⟨ih0, ih1, ih2⟩ := spec_CheapestWay.mono_l k
 unfold spec_CheapestWay.f
 repeat' first
   | (with_reducible exact ih0 _ _ _ _ _)
   | (with_reducible exact ih1 _ _ _ _ _ _ _)
   | (with_reducible exact ih2 _ _ _ _ _ _ _ _ _)
   | (with_reducible exact spec_Distances.mono _ _ _ _)
   | (with_reducible exact spec_GraphOk.mono _ _ _)
   | (with_reducible exact spec_l03Cost.mono _ _ _ _ _)
   | (with_reducible exact spec_l03Steps.mono _ _ _ _)
   | (with_reducible exact LeO.refl _)
   | (with_reducible exact LeO.none _)
   | (with_reducible refine LeO.ite ?_ ?_)
   | (with_reducible refine LeO.bind ?_ (fun _ => ?_))
   | exact ih0 _ _ _ _ _
   | exact ih1 _ _ _ _ _ _ _
   | exact ih2 _ _ _ _ _ _ _ _ _
   | exact spec_Distances.mono _ _ _ _
   | exact spec_GraphOk.mono _ _ _
   | exact spec_l03Cost.mono _ _ _ _ _
   | exact spec_l03Steps.mono _ _ _ _
   | exact LeO.none _
   | refine LeO.ite ?_ ?_
   | refine LeO.bind ?_ (fun _ => ?_)
def spec_CheapestWay.T14 : Bool × List (List Nat × List Nat) := (true, [([], []), ([], []), ([0, 1], [0, 1]), ([2], [2]), ([3], [3]), ([4, 3], [3, 4]), ([3, 5], [3, 5]), ([6, 3], [6]), ([7], [7]), ([7], [7]), ([8, 9, 7], [7, 8, 9]), ([10, 7], [7, 10]), ([11, 7], [7, 11]), ([7, 12], [7, 12]), ([13, 7], [13]), ([14], [14]), ([14], [14]), ([15, 16, 14], [14, 15, 16]), ([17, 14], [14, 17]), ([18, 14], [14, 18]), ([14], [14]), ([14], [14]), ([20, 21, 14], [14, 20, 21]), ([22, 14], [14, 22]), ([19, 23, 14], [14, 19, 23]), ([14, 24], [14, 24]), ([25, 14], [25]), ([26], [26]), ([26], [26]), ([26], [26]), ([28, 29, 26, 26], [26, 28, 29]), ([26], [26]), ([30, 31, 26], [26, 30, 31]), ([32, 26], [26, 32]), ([27, 33, 26], [26, 27, 33]), ([26], [26]), ([34, 35, 26], [26, 34, 35]), ([26, 36], [26, 36])])
def spec_CheapestWay.B14 : List Nat := [0, 0, 3, 7, 15, 31, 63, 127, 255, 255, 1023, 2047, 4095, 8191, 16383, 32767, 32767, 131071, 262143, 524287, 32767, 32767, 3178495, 7372799, 16777215, 33554431, 67108863, 134217727, 134217727, 134217727, 939524095, 134217727, 4160749567, 8455716863, 17179869183, 134217727, 68719476735, 137438953471]
theorem spec_CheapestWay.tab14 : rtab .any (opsOf Try.f39 14) = spec_CheapestWay.T14 := by kernel_rfl
theorem spec_CheapestWay.bits14 : waitsOk spec_CheapestWay.T14.2 spec_CheapestWay.B14 = true := by kernel_rfl
set_option maxHeartbeats 8000000 in
set_option maxRecDepth 100000 in
theorem spec_CheapestWay.calls (k : Nat) (a0_0 : Int) (A0_1 : Option Addr) (c0_1 : Nat) (l0_1 : List (S76)) (a1 : Int) (a2 : Int) (r1 : List Int) (r2 : Bool) (w : World) (hr0_1 : Kd.C k76 w A0_1 l0_1.length l0_1) (hc0_1 : l0_1.length ≤ c0_1) (h : spec_CheapestWay.f k a0_0 l0_1 a1 a2 = some (r1, r2)) :
  Calls Try.prog 39 #[.agg #[.int .i64 a0_0, .slice A0_1 l0_1.length c0_1], .int .i64 a1, .int .i64 a2] w fun e w' => ∃ v0_ : Value, e = .returned (.tuple #[v0_, .bool r2]) ∧ Kd.R (Kd.int .i64) 3 w' w.heap.size (fun _ => True) v0_ r1 ∧ Below w.heap.size w w' := by
 have hu30 := Try.underlying30
 have HR0_1 := Aside0.mk hr0_1
 have HC0_1 := Aside0.mk hc0_1
 clear hr0_1 hc0_1
 have HB := Aside0.mk (Below.refl w.heap.size w)
 have H : ((spec_GraphOk.f k a0_0 l0_1).bind fun t179 => (if t179 = true then ((spec_l03Node.f a0_0 l0_1 a1).bind fun t180 => (if t180 = true then ((spec_l03Node.f a0_0 l0_1 a2).bind fun t181 => (spec_CheapestWay.j0 k a1 a2 (!t181) a0_0 l0_1)) else (spec_CheapestWay.j0 k a1 a2 true a0_0 l0_1))) else (spec_CheapestWay.j0 k a1 a2 true a0_0 l0_1))) = some (r1, r2) := h
 clear h
 have HC4 := Aside0.mk H
 clear H
 go_enter Try.func39, Try.ntmps39
 go_upto_region 1 with (first | ((with_reducible refine gate_dst (N := 3) rfl ?_); refine box_event ?hg (N := 3) ?hd (cs := #[.int .i64 a0_0, .slice A0_1 l0_1.length c0_1]) (t := 30) ?hr ?_; (case hd => rfl); (case hg => rfl); (case hr => first | (go_simp; done) | (go_simp; rfl)); intro gb178 hg w5 hbox hb; have BK178 := Aside0.mk hbox; have GW178 := ge_ HB hg; have GE178 := ge_ HB hg; replace HB := Aside0.mk (bt_ HB hb); clear hb hbox hg))
 (try simp only [Act.put, List.setIfInBounds_toArray, List.set_cons_zero, List.set_cons_succ])
 go_cut [29] (fun v29 wc => ∃ (kq : Nat) (x29_3 : Bool), v29 = .bool x29_3 ∧ Aside0 (spec_CheapestWay.j0 kq a1 a2 x29_3 a0_0 l0_1 = some (r1, r2)) ∧ Aside0 (kq ≤ k) ∧ Aside0 (wc.heap[gb178]? = some (.cells #[.int .i64 a0_0, (.slice A0_1 l0_1.length c0_1)] 30 (0, 0))) ∧ Aside0 (Below w.heap.size w wc))
 case first =>
  have H := HC4.out
  clear HC4
  replace H := Option.bind_eq_some_iff.mp H
  obtain ⟨t179, A60, H⟩ := H
  have A6 := Aside0.mk A60
  clear A60
  by_cases c7 : t179 = true
  rotate_left
  ·replace c7 := Bool.eq_false_iff.mpr c7
   subst c7
   rw [if_neg (show ¬ (false = true) by decide)] at H
   have H' := Aside0.mk H
   clear H
   have hcz21_0 := cz_ BK178 0 (.int .i64 a0_0)
   have hcz21_1 := cz_ BK178 1 (.slice A0_1 l0_1.length c0_1)
   have hfz21_0 := blk_frozen BK178.out 0
   have hfz21_1 := blk_frozen BK178.out 1
   go_wp2_with (first | ((with_reducible refine gate_callee (f := 25) rfl ?_); refine gl_ (some 16) Try.func25 #[.agg #[.int .i64 a0_0, .slice A0_1 l0_1.length c0_1]] ?_; (with_reducible refine (spec_GraphOk.calls k a0_0 _ _ l0_1 false _ ?side1 ?side2 A6.out).mono ?_); (case side1 => exact cb_ HR0_1 HB); (case side2 => exact HC0_1.out); rintro e w22 ⟨rfl, hb⟩; refine ⟨_, rfl, ?_⟩; replace BK178 := Aside0.mk (bb_ BK178 hb); replace HB := Aside0.mk (bt_ HB hb); (try clear hb); (try clear hb2); (try clear hk); (try clear hi)))
   go_meet
   case rel => exact ⟨_, (true), (by first | rfl | (simp; done) | (simp [*]; done)), H', ⟨by first | omega | exact Nat.le_refl _⟩, ⟨by (with_reducible repeat (first | refine blk_drewN ?_ _ | refine blk_drew ?_ | refine blk_alloc ?_ _)); exact BK178.out⟩, ⟨by repeat (first | (with_reducible first | exact HB.out | apply below_alloc | apply pw_below_drewN | apply below_drew1 | refine below_set ?_ GE178.out) | exact HB.out)⟩⟩
  subst c7
  rw [if_pos rfl] at H
  replace H := Option.bind_eq_some_iff.mp H
  obtain ⟨t180, A80, H⟩ := H
  have A8 := Aside0.mk A80
  clear A80
  by_cases c9 : t180 = true
  rotate_left
  ·replace c9 := Bool.eq_false_iff.mpr c9
   subst c9
   rw [if_neg (show ¬ (false = true) by decide)] at H
   have H' := Aside0.mk H
   clear H
   have hcz17_0 := cz_ BK178 0 (.int .i64 a0_0)
   have hcz17_1 := cz_ BK178 1 (.slice A0_1 l0_1.length c0_1)
   have hfz17_0 := blk_frozen BK178.out 0
   have hfz17_1 := blk_frozen BK178.out 1
   go_wp2_with (first | ((with_reducible refine gate_callee (f := 25) rfl ?_); refine gl_ (some 16) Try.func25 #[.agg #[.int .i64 a0_0, .slice A0_1 l0_1.length c0_1]] ?_; (with_reducible refine (spec_GraphOk.calls k a0_0 _ _ l0_1 true _ ?side1 ?side2 A6.out).mono ?_); (case side1 => exact cb_ HR0_1 HB); (case side2 => exact HC0_1.out); rintro e w18 ⟨rfl, hb⟩; refine ⟨_, rfl, ?_⟩; replace BK178 := Aside0.mk (bb_ BK178 hb); replace HB := Aside0.mk (bt_ HB hb); (try clear hb); (try clear hb2); (try clear hk); (try clear hi); have hcz19_0 := cz_ BK178 0 (.int .i64 a0_0); have hcz19_1 := cz_ BK178 1 (.slice A0_1 l0_1.length c0_1); have hfz19_0 := blk_frozen BK178.out 0; have hfz19_1 := blk_frozen BK178.out 1) | (go_at_call 45; (with_reducible refine (spec_l03Node.calls a0_0 _ _ l0_1 a1 false _ ?side1 ?side2 A8.out).mono ?_); (case side1 => exact cb_ HR0_1 HB); (case side2 => exact HC0_1.out); rintro e w20 ⟨rfl, hb⟩; replace BK178 := Aside0.mk (bb_ BK178 hb); replace HB := Aside0.mk (bt_ HB hb); (try clear hb); (try clear hb2); (try clear hk); (try clear hi)))
   go_meet
   case rel => exact ⟨_, (true), (by first | rfl | (simp; done) | (simp [*]; done)), H', ⟨by first | omega | exact Nat.le_refl _⟩, ⟨by (with_reducible repeat (first | refine blk_drewN ?_ _ | refine blk_drew ?_ | refine blk_alloc ?_ _)); exact BK178.out⟩, ⟨by repeat (first | (with_reducible first | exact HB.out | apply below_alloc | apply pw_below_drewN | apply below_drew1 | refine below_set ?_ GE178.out) | exact HB.out)⟩⟩
  subst c9
  rw [if_pos rfl] at H
  replace H := Option.bind_eq_some_iff.mp H
  obtain ⟨t181, A100, H⟩ := H
  have A10 := Aside0.mk A100
  clear A100
  have H' := Aside0.mk H
  clear H
  have hcz11_0 := cz_ BK178 0 (.int .i64 a0_0)
  have hcz11_1 := cz_ BK178 1 (.slice A0_1 l0_1.length c0_1)
  have hfz11_0 := blk_frozen BK178.out 0
  have hfz11_1 := blk_frozen BK178.out 1
  go_wp2_with (first | ((with_reducible refine gate_callee (f := 25) rfl ?_); refine gl_ (some 16) Try.func25 #[.agg #[.int .i64 a0_0, .slice A0_1 l0_1.length c0_1]] ?_; (with_reducible refine (spec_GraphOk.calls k a0_0 _ _ l0_1 true _ ?side1 ?side2 A6.out).mono ?_); (case side1 => exact cb_ HR0_1 HB); (case side2 => exact HC0_1.out); rintro e w12 ⟨rfl, hb⟩; refine ⟨_, rfl, ?_⟩; replace BK178 := Aside0.mk (bb_ BK178 hb); replace HB := Aside0.mk (bt_ HB hb); (try clear hb); (try clear hb2); (try clear hk); (try clear hi); have hcz13_0 := cz_ BK178 0 (.int .i64 a0_0); have hcz13_1 := cz_ BK178 1 (.slice A0_1 l0_1.length c0_1); have hfz13_0 := blk_frozen BK178.out 0; have hfz13_1 := blk_frozen BK178.out 1) | (go_at_call 45; (with_reducible refine (spec_l03Node.calls a0_0 _ _ l0_1 a1 true _ ?side1 ?side2 A8.out).mono ?_); (case side1 => exact cb_ HR0_1 HB); (case side2 => exact HC0_1.out); rintro e w14 ⟨rfl, hb⟩; replace BK178 := Aside0.mk (bb_ BK178 hb); replace HB := Aside0.mk (bt_ HB hb); (try clear hb); (try clear hb2); (try clear hk); (try clear hi); have hcz15_0 := cz_ BK178 0 (.int .i64 a0_0); have hcz15_1 := cz_ BK178 1 (.slice A0_1 l0_1.length c0_1); have hfz15_0 := blk_frozen BK178.out 0; have hfz15_1 := blk_frozen BK178.out 1) | (go_at_call 45; (with_reducible refine (spec_l03Node.calls a0_0 _ _ l0_1 a2 t181 _ ?side1 ?side2 A10.out).mono ?_); (case side1 => exact cb_ HR0_1 HB); (case side2 => exact HC0_1.out); rintro e w16 ⟨rfl, hb⟩; replace BK178 := Aside0.mk (bb_ BK178 hb); replace HB := Aside0.mk (bt_ HB hb); (try clear hb); (try clear hb2); (try clear hk); (try clear hi)))
  go_meet
  case rel => exact ⟨_, (!t181), (by first | rfl | (simp; done) | (simp [*]; done)), H', ⟨by first | omega | exact Nat.le_refl _⟩, ⟨by (with_reducible repeat (first | refine blk_drewN ?_ _ | refine blk_drew ?_ | refine blk_alloc ?_ _)); exact BK178.out⟩, ⟨by repeat (first | (with_reducible first | exact HB.out | apply below_alloc | apply pw_below_drewN | apply below_drew1 | refine below_set ?_ GE178.out) | exact HB.out)⟩⟩
 case rest =>
  clear HC4
  try clear c2
  try clear p2
  try clear c3
  try clear c7
  try clear c9
  try clear hcz11_0
  try clear hcz11_1
  try clear hcz13_0
  try clear hcz13_1
  try clear hcz15_0
  try clear hcz15_1
  try clear hcz17_0
  try clear hcz17_1
  try clear hcz19_0
  try clear hcz19_1
  try clear hcz21_0
  try clear hcz21_1
  try clear hfz11_0
  try clear hfz11_1
  try clear hfz13_0
  try clear hfz13_1
  try clear hfz15_0
  try clear hfz15_1
  try clear hfz17_0
  try clear hfz17_1
  try clear hfz19_0
  try clear hfz19_1
  try clear hfz21_0
  try clear hfz21_1
  obtain ⟨kq, x29_3, rfl, HA, HJ3, BK178, HB⟩ := hcut
  cases kq with
  | zero => exact absurd HA.out (by simp [spec_CheapestWay.j0])
  | succ kj3 =>
   have H := HA.out
   clear HA
   simp only [spec_CheapestWay.j0] at H
   by_cases c23 : x29_3 = true
   ·subst c23
    rw [if_pos rfl] at H
    simp only [Option.some.injEq, Prod.mk.injEq] at H
    obtain ⟨rfl, rfl⟩ := H
    go_wp2
    go_ret2
    exact ⟨_, by first | rfl | (simp [errW_none, errW_some] <;> rfl) | (simp [*, errW_none, errW_some] <;> rfl), by first | exact Kd.R_nil _ _ _ _ _ | exact Kd.N_nil _ _ _ _ _ | exact Kd.V_nil _ _ _ _ _ | exact Kd.Q_nil _ _ _ _ _ | exact Kd.S_nil _ _ _ _ _, by repeat (first | (with_reducible first | exact HB.out | apply below_alloc | apply pw_below_drewN | apply below_drew1 | refine below_set ?_ GE178.out) | exact HB.out)⟩
   replace c23 := Bool.eq_false_iff.mpr c23
   subst c23
   rw [if_neg (show ¬ (false = true) by decide)] at H
   replace H := Option.bind_eq_some_iff.mp H
   obtain ⟨⟨t182, t185⟩, A240, H⟩ := H
   have A24 := Aside0.mk A240
   clear A240
   by_cases c25 : 0 ≤ a1
   rotate_left
   ·rw [if_neg c25] at H
    exact absurd H (by simp)
   rw [if_pos c25] at H
   have c25b0 : decide (0 ≤ a1) = true := decide_eq_true c25
   clear c25
   by_cases c26 : a1 < (t185.length : Int)
   rotate_left
   ·rw [if_neg c26] at H
    exact absurd H (by simp)
   rw [if_pos c26] at H
   have c26b0 : decide (a1 < (t185.length : Int)) = true := decide_eq_true c26
   clear c26
   by_cases c27 : (rd t185 a1) = 0
   ·rw [if_pos c27] at H
    have c27b0 : ((rd t185 a1) == 0) = true := beq_iff_eq.mpr c27
    have c27b1 : ((rd t185 a1) != 0) = false := bne_eq_false_iff_eq.mpr c27
    clear c27
    simp only [Option.some.injEq, Prod.mk.injEq] at H
    obtain ⟨rfl, rfl⟩ := H
    have hcz28_0 := cz_ BK178 0 (.int .i64 a0_0)
    have hcz28_1 := cz_ BK178 1 (.slice A0_1 l0_1.length c0_1)
    have hfz28_0 := blk_frozen BK178.out 0
    have hfz28_1 := blk_frozen BK178.out 1
    go_wp2_with (first | ((with_reducible refine gate_callee (f := 71) rfl ?_); refine gl_ (some 33) Try.func71 #[.agg #[.int .i64 a0_0, .slice A0_1 l0_1.length c0_1], .int .i64 a2] ?_; (with_reducible refine (spec_l03Steps.calls kj3 a0_0 _ _ l0_1 a2 t182 t185 _ ?side1 ?side2 A24.out).mono ?_); (case side1 => exact cb_ HR0_1 HB); (case side2 => exact HC0_1.out); rintro e w29 ⟨v183, v186, rfl, ho0, ho1, hb⟩; refine ⟨_, rfl, ?_⟩; have HO184 := Aside0.mk (Kd.R_lower ho0 (bz_ HB)); have HO187 := Aside0.mk (Kd.R_lower ho1 (bz_ HB)); replace BK178 := Aside0.mk (bb_ BK178 hb); replace HB := Aside0.mk (bt_ HB hb); (try clear hb); (try clear hb2); (try clear hk); (try clear hi); (try clear ho0); (try clear ho1); obtain ⟨Ao30, co30, eo30⟩ := Kd.R_slice HO187.out; subst eo30; have p188 : 0 ≤ (a1 : Int) := of_decide_eq_true (by first | (with_reducible assumption) | assumption); have q188 : a1 < (t185.length : Int) := of_decide_eq_true (by first | (with_reducible assumption) | assumption); obtain ⟨ad188, e188, hx188_0⟩ := Kd.at_int (Kd.R_reads' HO187.out).2.2 a1 p188 q188; cases e188; replace p188 := eq_true p188; replace q188 := eq_true q188))
    go_ret2
    exact ⟨_, by first | rfl | (simp [errW_none, errW_some] <;> rfl) | (simp [*, errW_none, errW_some] <;> rfl), by first | exact Kd.R_nil _ _ _ _ _ | exact Kd.N_nil _ _ _ _ _ | exact Kd.V_nil _ _ _ _ _ | exact Kd.Q_nil _ _ _ _ _ | exact Kd.S_nil _ _ _ _ _, by repeat (first | (with_reducible first | exact HB.out | apply below_alloc | apply pw_below_drewN | apply below_drew1 | refine below_set ?_ GE178.out) | exact HB.out)⟩
   rw [if_neg c27] at H
   have c27b0 : ((rd t185 a1) == 0) = false := beq_eq_false_iff_ne.mpr c27
   have c27b1 : ((rd t185 a1) != 0) = true := bne_iff_ne.mpr c27
   obtain ⟨y189, hy189⟩ : ∃ y_ : List Int, y_ = (([a1] : List Int)) := ⟨_, rfl⟩
   replace H : (spec_CheapestWay.l0 kj3 a2 t182 t185 y189 a1 a0_0 l0_1) = some (r1, r2) := by first | (rw [hy189]; with_reducible exact H) | (have H2_ := (Option.bind_some _ _).symm.trans H; rw [hy189]; with_reducible exact H2_) | (have H2_ := (Option.bind_some _ _).symm.trans H; with_reducible exact H2_) | with_reducible exact H | (rw [hy189]; exact H) | exact H
   have Ny189 := Aside0.mk hy189
   clear hy189
   have H' := Aside0.mk H
   clear H
   have hcz31_0 := cz_ BK178 0 (.int .i64 a0_0)
   have hcz31_1 := cz_ BK178 1 (.slice A0_1 l0_1.length c0_1)
   have hfz31_0 := blk_frozen BK178.out 0
   have hfz31_1 := blk_frozen BK178.out 1
   go_wp2_with (first | ((with_reducible refine gate_callee (f := 71) rfl ?_); refine gl_ (some 33) Try.func71 #[.agg #[.int .i64 a0_0, .slice A0_1 l0_1.length c0_1], .int .i64 a2] ?_; (with_reducible refine (spec_l03Steps.calls kj3 a0_0 _ _ l0_1 a2 t182 t185 _ ?side1 ?side2 A24.out).mono ?_); (case side1 => exact cb_ HR0_1 HB); (case side2 => exact HC0_1.out); rintro e w32 ⟨v183, v186, rfl, ho0, ho1, hb⟩; refine ⟨_, rfl, ?_⟩; have HO184 := Aside0.mk (Kd.R_lower ho0 (bz_ HB)); have HO187 := Aside0.mk (Kd.R_lower ho1 (bz_ HB)); replace BK178 := Aside0.mk (bb_ BK178 hb); replace HB := Aside0.mk (bt_ HB hb); (try clear hb); (try clear hb2); (try clear hk); (try clear hi); (try clear ho0); (try clear ho1); obtain ⟨Ao33, co33, eo33⟩ := Kd.R_slice HO187.out; subst eo33; have p188 : 0 ≤ (a1 : Int) := of_decide_eq_true (by first | (with_reducible assumption) | assumption); have q188 : a1 < (t185.length : Int) := of_decide_eq_true (by first | (with_reducible assumption) | assumption); obtain ⟨ad188, e188, hx188_0⟩ := Kd.at_int (Kd.R_reads' HO187.out).2.2 a1 p188 q188; cases e188; replace p188 := eq_true p188; replace q188 := eq_true q188) | ((with_reducible refine gate_dst (N := 42) rfl ?_); refine Kd.R_lit (Kd.int .i64) _ 3 ?hg (N := 42) ?hd (xs := ([a1] : List Int)) (inner := [.int .i64 a1]) (ok := fun _ => True) (okp := fun _ => True) ?hr ?hp (fun _ hk => hk) trivial (Below.refl _ _) (Nat.le_refl _) (by simp) ?_; (case hd => rfl); (case hg => rfl); (case hr => first | (go_simp; done) | (go_simp; rfl)); (case hp => exact (Reps.one (show Kd.M (Kd.int .i64) _ _ _ a1 [.int .i64 a1] from rfl) (Reps.none _ _))); intro v190 w34 ho35 hb hg_ hnew_; clear hg_ hnew_; (first | rw [← Ny189.out] at ho35 | (simp only [Int.reduceToNat] at ho35; rw [← Ny189.out] at ho35)); have HO191 := Aside0.mk (Kd.R_lower (Kd.R_new' (Kd.R_new' ho35 (Kd.R_lt (hd_ HO184))) (Kd.R_lt (hd_ HO187))) (bz_ HB)); replace HO184 := Aside0.mk (Kd.R_elder' (hd_ HO184) (Kd.R_base ho35) hb); replace HO187 := Aside0.mk (Kd.R_elder' (hd_ HO187) (Kd.R_base ho35) hb); replace BK178 := Aside0.mk (bb_ BK178 hb); replace HB := Aside0.mk (bt_ HB hb); clear hb ho35))
   (try simp only [Act.put, List.setIfInBounds_toArray, List.set_cons_zero, List.set_cons_succ])
   go_loopg [10, 11] kj3 (fun kq v10 v11 w' => ∃ (x10_2 : List Int) (x11_2 : Int), v11 = .int .i64 x11_2 ∧ Aside0 (spec_CheapestWay.l0 kq a2 t182 t185 x10_2 x11_2 a0_0 l0_1 = some (r1, r2)) ∧ Aside0 (kq ≤ kj3) ∧ Aside0 (Kd.R (Kd.int .i64) 3 w' w.heap.size (fun k_ => some k_ ≠ ((.slice (some ad188) t185.length co33) : Value).ownBlock ∧ some k_ ≠ (v10 : Value).ownBlock) v183 t182) ∧ Aside0 (Kd.R (Kd.int .i64) 3 w' w.heap.size (fun k_ => some k_ ≠ (v183 : Value).ownBlock ∧ some k_ ≠ (v10 : Value).ownBlock) (.slice (some ad188) t185.length co33) t185) ∧ Aside0 (Kd.R (Kd.int .i64) 3 w' w.heap.size (fun k_ => some k_ ≠ (v183 : Value).ownBlock ∧ some k_ ≠ ((.slice (some ad188) t185.length co33) : Value).ownBlock) v10 x10_2) ∧ Aside0 (w'.heap[gb178]? = some (.cells #[.int .i64 a0_0, (.slice A0_1 l0_1.length c0_1)] 30 (0, 0))) ∧ Aside0 (Below w.heap.size w w'))
   case atStart => exact ⟨(y189), (a1), (by first | rfl | (simp; done) | (simp [*]; done)), H', ⟨Nat.le_refl _⟩, ⟨by (with_reducible repeat (first | apply Kd.R_alloc | apply Kd.R_drewN | apply Kd.R_drew)); exact HO184.out⟩, ⟨by (with_reducible repeat (first | apply Kd.R_alloc | apply Kd.R_drewN | apply Kd.R_drew)); exact HO187.out⟩, ⟨by (with_reducible repeat (first | apply Kd.R_alloc | apply Kd.R_drewN | apply Kd.R_drew)); exact Kd.R_mono HO191.out (fun _ hk => by first | exact ⟨hk.1.2, hk.2⟩ | grind)⟩, ⟨by (with_reducible repeat (first | refine blk_drewN ?_ _ | refine blk_drew ?_ | refine blk_alloc ?_ _)); exact BK178.out⟩, ⟨by repeat (first | (with_reducible first | exact HB.out | apply below_alloc | apply pw_below_drewN | apply below_drew1 | refine below_set ?_ GE178.out) | exact HB.out)⟩⟩
   case round =>
    clear H'
    try clear p1
    try clear q1
    try clear hx1
    try clear c2
    try clear p2
    try clear c3
    try clear c7
    try clear c9
    try clear p18
    try clear q18
    try clear hx18
    try clear c23
    try clear c25
    try clear c25b0
    try clear c26
    try clear c26b0
    try clear c27
    try clear c27b0
    try clear c27b1
    try clear hcz11_0
    try clear hcz11_1
    try clear hcz13_0
    try clear hcz13_1
    try clear hcz15_0
    try clear hcz15_1
    try clear hcz17_0
    try clear hcz17_1
    try clear hcz19_0
    try clear hcz19_1
    try clear hcz21_0
    try clear hcz21_1
    try clear hcz28_0
    try clear hcz28_1
    try clear hcz31_0
    try clear hcz31_1
    try clear hfz11_0
    try clear hfz11_1
    try clear hfz13_0
    try clear hfz13_1
    try clear hfz15_0
    try clear hfz15_1
    try clear hfz17_0
    try clear hfz17_1
    try clear hfz19_0
    try clear hfz19_1
    try clear hfz21_0
    try clear hfz21_1
    try clear hfz28_0
    try clear hfz28_1
    try clear hfz31_0
    try clear hfz31_1
    try clear hx188_0
    try clear p188
    try clear p2
    try clear q188
    obtain ⟨x10_2, x11_2, rfl, HA, HK2, HO_8, HO_9, HO_10, BK178, HB⟩ := hrel
    cases gk with
    | zero => exact absurd HA.out (by simp [spec_CheapestWay.l0])
    | succ k2 =>
     have H := HA.out
     clear HA
     simp only [spec_CheapestWay.l0] at H
     by_cases c36 : x11_2 = a2
     ·rw [if_pos c36] at H
      have c36b0 : (x11_2 == a2) = true := beq_iff_eq.mpr c36
      have c36b1 : (x11_2 != a2) = false := bne_eq_false_iff_eq.mpr c36
      clear c36
      simp only [Option.some.injEq, Prod.mk.injEq] at H
      obtain ⟨rfl, rfl⟩ := H
      go_wp2
      go_ret2
      exact ⟨_, by first | rfl | (simp [errW_none, errW_some] <;> rfl) | (simp [*, errW_none, errW_some] <;> rfl), by (with_reducible repeat (first | apply Kd.R_alloc | apply Kd.R_drewN | apply Kd.R_drew)); exact Kd.R_mono HO_10.out (fun _ hk => trivial), by repeat (first | (with_reducible first | exact HB.out | apply below_alloc | apply pw_below_drewN | apply below_drew1 | refine below_set ?_ GE178.out) | exact HB.out)⟩
     rw [if_neg c36] at H
     have c36b0 : (x11_2 == a2) = false := beq_eq_false_iff_ne.mpr c36
     have c36b1 : (x11_2 != a2) = true := bne_iff_ne.mpr c36
     replace H := Option.bind_eq_some_iff.mp H
     obtain ⟨t192, A370, H⟩ := H
     have A37 := Aside0.mk A370
     clear A370
     by_cases c38 : 0 ≤ a2
     rotate_left
     ·rw [if_neg c38] at H
      exact absurd H (by simp)
     rw [if_pos c38] at H
     have c38b0 : decide (0 ≤ a2) = true := decide_eq_true c38
     clear c38
     by_cases c39 : a2 < (t192.length : Int)
     rotate_left
     ·rw [if_neg c39] at H
      exact absurd H (by simp)
     rw [if_pos c39] at H
     have c39b0 : decide (a2 < (t192.length : Int)) = true := decide_eq_true c39
     clear c39
     have H' := Aside0.mk H
     clear H
     have hcz40_0 := cz_ BK178 0 (.int .i64 a0_0)
     have hcz40_1 := cz_ BK178 1 (.slice A0_1 l0_1.length c0_1)
     have hfz40_0 := blk_frozen BK178.out 0
     have hfz40_1 := blk_frozen BK178.out 1
     go_wp2_with (first | ((with_reducible refine gate_callee (f := 33) rfl ?_); refine gl_ (some 49) Try.func33 #[.agg #[.int .i64 a0_0, .slice A0_1 l0_1.length c0_1], .int .i64 x11_2] ?_; (with_reducible refine (spec_Distances.calls k2 a0_0 _ _ l0_1 x11_2 t192 _ ?side1 ?side2 A37.out).mono ?_); (case side1 => exact cb_ HR0_1 HB); (case side2 => exact HC0_1.out); rintro e w41 ⟨v193, rfl, ho0, hb⟩; refine ⟨_, rfl, ?_⟩; have HO194 := Aside0.mk (Kd.R_lower (Kd.R_new' (Kd.R_new' (Kd.R_new' ho0 (Kd.R_lt (hd_ HO_8))) (Kd.R_lt (hd_ HO_9))) (Kd.R_lt (hd_ HO_10))) (bz_ HB)); replace HO_8 := Aside0.mk (Kd.R_elder' (hd_ HO_8) (Kd.R_base ho0) hb); replace HO_9 := Aside0.mk (Kd.R_elder' (hd_ HO_9) (Kd.R_base ho0) hb); replace HO_10 := Aside0.mk (Kd.R_elder' (hd_ HO_10) (Kd.R_base ho0) hb); replace BK178 := Aside0.mk (bb_ BK178 hb); replace HB := Aside0.mk (bt_ HB hb); (try clear hb); (try clear hb2); (try clear hk); (try clear hi); (try clear ho0); obtain ⟨Ao42, co42, eo42⟩ := Kd.R_slice HO194.out; subst eo42; have p195 : 0 ≤ (a2 : Int) := of_decide_eq_true (by first | (with_reducible assumption) | assumption); have q195 : a2 < (t192.length : Int) := of_decide_eq_true (by first | (with_reducible assumption) | assumption); obtain ⟨ad195, e195, hx195_0⟩ := Kd.at_int (Kd.R_reads' HO194.out).2.2 a2 p195 q195; cases e195; replace p195 := eq_true p195; replace q195 := eq_true q195))
     (try simp only [Act.put, List.setIfInBounds_toArray, List.set_cons_zero, List.set_cons_succ])
     go_loopg [11, 13] k2 (fun kq v11 v13 w' => ∃ (x11_3 : Int) (x13_3 : Int), v11 = .int .i64 x11_3 ∧ v13 = .int .i64 x13_3 ∧ Aside0 (spec_CheapestWay.l1 kq a2 t182 t185 x10_2 x11_3 (rd t192 a2) x13_3 a0_0 l0_1 = some (r1, r2)) ∧ Aside0 (kq ≤ k2) ∧ Aside0 (Kd.R (Kd.int .i64) 3 w' w.heap.size (fun k_ => some k_ ≠ ((.slice (some ad188) t185.length co33) : Value).ownBlock ∧ some k_ ≠ (u10 : Value).ownBlock) v183 t182) ∧ Aside0 (Kd.R (Kd.int .i64) 3 w' w.heap.size (fun k_ => some k_ ≠ (v183 : Value).ownBlock ∧ some k_ ≠ (u10 : Value).ownBlock) (.slice (some ad188) t185.length co33) t185) ∧ Aside0 (Kd.R (Kd.int .i64) 3 w' w.heap.size (fun k_ => some k_ ≠ (v183 : Value).ownBlock ∧ some k_ ≠ ((.slice (some ad188) t185.length co33) : Value).ownBlock) u10 x10_2) ∧ Aside0 (w'.heap[gb178]? = some (.cells #[.int .i64 a0_0, (.slice A0_1 l0_1.length c0_1)] 30 (0, 0))) ∧ Aside0 (Below w.heap.size w w'))
     case atStart => exact ⟨(x11_2), (0), (by first | rfl | (simp; done) | (simp [*]; done)), (by first | rfl | (simp; done) | (simp [*]; done)), H', ⟨Nat.le_refl _⟩, ⟨by (with_reducible repeat (first | apply Kd.R_alloc | apply Kd.R_drewN | apply Kd.R_drew)); exact Kd.R_mono HO_8.out (fun _ hk => by first | exact ⟨hk.1.1, hk.1.2⟩ | grind)⟩, ⟨by (with_reducible repeat (first | apply Kd.R_alloc | apply Kd.R_drewN | apply Kd.R_drew)); exact Kd.R_mono HO_9.out (fun _ hk => by first | exact ⟨hk.1.1, hk.1.2⟩ | grind)⟩, ⟨by (with_reducible repeat (first | apply Kd.R_alloc | apply Kd.R_drewN | apply Kd.R_drew)); exact Kd.R_mono HO_10.out (fun _ hk => by first | exact ⟨hk.1.1, hk.1.2⟩ | grind)⟩, ⟨by (with_reducible repeat (first | refine blk_drewN ?_ _ | refine blk_drew ?_ | refine blk_alloc ?_ _)); exact BK178.out⟩, ⟨by repeat (first | (with_reducible first | exact HB.out | apply below_alloc | apply pw_below_drewN | apply below_drew1 | refine below_set ?_ GE178.out) | exact HB.out)⟩⟩
     case round =>
      clear H'
      try clear p1
      try clear q1
      try clear hx1
      try clear c2
      try clear p2
      try clear c3
      try clear c7
      try clear c9
      try clear p18
      try clear q18
      try clear hx18
      try clear p19
      try clear q19
      try clear hx19
      try clear c23
      try clear c25
      try clear c25b0
      try clear c26
      try clear c26b0
      try clear c27
      try clear c27b0
      try clear c27b1
      try clear c33
      try clear c36
      try clear c36b0
      try clear c36b1
      try clear c38
      try clear c38b0
      try clear c39
      try clear c39b0
      try clear hcz11_0
      try clear hcz11_1
      try clear hcz13_0
      try clear hcz13_1
      try clear hcz15_0
      try clear hcz15_1
      try clear hcz17_0
      try clear hcz17_1
      try clear hcz19_0
      try clear hcz19_1
      try clear hcz21_0
      try clear hcz21_1
      try clear hcz28_0
      try clear hcz28_1
      try clear hcz31_0
      try clear hcz31_1
      try clear hcz40_0
      try clear hcz40_1
      try clear hfz11_0
      try clear hfz11_1
      try clear hfz13_0
      try clear hfz13_1
      try clear hfz15_0
      try clear hfz15_1
      try clear hfz17_0
      try clear hfz17_1
      try clear hfz19_0
      try clear hfz19_1
      try clear hfz21_0
      try clear hfz21_1
      try clear hfz28_0
      try clear hfz28_1
      try clear hfz31_0
      try clear hfz31_1
      try clear hfz40_0
      try clear hfz40_1
      try clear hx188_0
      try clear hx195_0
      try clear p1
      try clear p18
      try clear p188
      try clear p195
      try clear p2
      try clear q1
      try clear q18
      try clear q188
      try clear q195
      obtain ⟨x11_3, x13_3, rfl, rfl, HA, HK3, HO_8, HO_9, HO_10, BK178, HB⟩ := hrel
      cases gk with
      | zero => exact absurd HA.out (by simp [spec_CheapestWay.l1])
      | succ k3 =>
       have H := HA.out
       clear HA
       simp only [spec_CheapestWay.l1] at H
       by_cases c43 : x13_3 < a0_0
       rotate_left
       ·rw [if_neg c43] at H
        have c43b0 : decide (x13_3 < a0_0) = false := decide_eq_false c43
        clear c43
        by_cases c85 : x10_2.length < 17592186044416
        rotate_left
        ·rw [if_neg c85] at H
         exact absurd H (by simp)
        rw [if_pos c85] at H
        have LMc85 := Aside0.mk c85
        clear c85
        obtain ⟨y196, hy196⟩ : ∃ y_ : List Int, y_ = (x10_2 ++ [x11_3]) := ⟨_, rfl⟩
        replace H : (spec_CheapestWay.l0 k3 a2 t182 t185 y196 x11_3 a0_0 l0_1) = some (r1, r2) := by first | (rw [hy196]; with_reducible exact H) | (have H2_ := (Option.bind_some _ _).symm.trans H; rw [hy196]; with_reducible exact H2_) | (have H2_ := (Option.bind_some _ _).symm.trans H; with_reducible exact H2_) | with_reducible exact H | (rw [hy196]; exact H) | exact H
        have Ny196 := Aside0.mk hy196
        clear hy196
        have H' := Aside0.mk H
        clear H
        have hcz86_0 := cz_ BK178 0 (.int .i64 a0_0)
        have hcz86_1 := cz_ BK178 1 (.slice A0_1 l0_1.length c0_1)
        have hfz86_0 := blk_frozen BK178.out 0
        have hfz86_1 := blk_frozen BK178.out 1
        go_wp2_with (first | ((with_reducible refine gate_builtin (b := .append) (xs := #[.tmp 102, .tmp 104]) rfl ?_); at_builtin; refine Kd.R_append (Kd.int .i64) (w0 := w) w.heap.size rfl (.tmp 102) (.tmp 104) 26 3 (.int .i64 0) 8 rfl Try.underlying26 info3 rfl (by decide) (by omega) u10 x10_2 x11_3 [.int .i64 x11_3] (fun k_ => some k_ ≠ (v183 : Value).ownBlock ∧ some k_ ≠ (.slice (some ad188) t185.length co33 : Value).ownBlock) (fun _ => False) rfl rfl ?aP (fun _ hk => hk.elim) ?aF ?aO ?aB ?aS ?aL ?_; (case aP => exact rfl); (case aB => exact (by repeat (first | (with_reducible first | exact HB.out | apply below_alloc | apply pw_below_drewN | apply below_drew1 | refine below_set ?_ GE178.out) | exact HB.out))); (case aF => exact (fun k_ hk => ⟨Kd.fresh' (Kd.R_lt (hd_ HO_8)) k_ hk, Kd.fresh' (Kd.R_lt (hd_ HO_9)) k_ hk⟩)); (case aO => exact (hd_ HO_10)); (case aS => exact (bz_ HB)); (case aL => have := LMc85.out; omega); intro v197 w87 ho hb hg hat; rw [← Ny196.out] at ho; have HO198 := Aside0.mk ho; replace HO_8 := Aside0.mk (Kd.R_after (ok := (fun k_ => some k_ ≠ (.slice (some ad188) t185.length co33 : Value).ownBlock)) (hd_ HO_8) hg hat); replace HO_9 := Aside0.mk (Kd.R_after (ok := (fun k_ => some k_ ≠ (v183 : Value).ownBlock)) (hd_ HO_9) hg hat); replace BK178 := Aside0.mk (blk_grown (g := gb178) (o := .cells #[.int .i64 a0_0, .slice A0_1 l0_1.length c0_1] 30 (0, 0)) (by (with_reducible repeat (first | refine blk_drewN ?_ _ | refine blk_drew ?_ | refine blk_alloc ?_ _)); exact BK178.out) hg (Kd.R_ne HO_10.out BK178.out (by decide))); replace HB := Aside0.mk (hb); clear HO_10; clear ho hb hg hat))
        go_roundg k3
        case measure => have := HJ3.out; have := HK2.out; have := HK3.out; omega
        case rel => exact ⟨(y196), (x11_3), (by first | rfl | (simp; done) | (simp [*]; done)), H', ⟨by have := HJ3.out; have := HK2.out; have := HK3.out; omega⟩, ⟨by (with_reducible repeat (first | apply Kd.R_alloc | apply Kd.R_drewN | apply Kd.R_drew)); exact HO_8.out⟩, ⟨by (with_reducible repeat (first | apply Kd.R_alloc | apply Kd.R_drewN | apply Kd.R_drew)); exact HO_9.out⟩, ⟨by (with_reducible repeat (first | apply Kd.R_alloc | apply Kd.R_drewN | apply Kd.R_drew)); exact HO198.out⟩, ⟨by (with_reducible repeat (first | refine blk_drewN ?_ _ | refine blk_drew ?_ | refine blk_alloc ?_ _)); exact BK178.out⟩, ⟨by repeat (first | (with_reducible first | exact HB.out | apply below_alloc | apply pw_below_drewN | apply below_drew1 | refine below_set ?_ GE178.out) | exact HB.out)⟩⟩
       rw [if_pos c43] at H
       have c43b0 : decide (x13_3 < a0_0) = true := decide_eq_true c43
       clear c43
       replace H := Option.bind_eq_some_iff.mp H
       obtain ⟨t199, A440, H⟩ := H
       have A44 := Aside0.mk A440
       clear A440
       by_cases c45 : x13_3 = x11_3
       ·rw [if_pos c45] at H
        have c45b0 : (x13_3 == x11_3) = true := beq_iff_eq.mpr c45
        have c45b1 : (x13_3 != x11_3) = false := bne_eq_false_iff_eq.mpr c45
        clear c45
        have H' := Aside0.mk H
        clear H
        have hcz46_0 := cz_ BK178 0 (.int .i64 a0_0)
        have hcz46_1 := cz_ BK178 1 (.slice A0_1 l0_1.length c0_1)
        have hfz46_0 := blk_frozen BK178.out 0
        have hfz46_1 := blk_frozen BK178.out 1
        try go_wp2_with (first | ((with_reducible refine gate_callee (f := 72) rfl ?_); refine gl_ (some 62) Try.func72 #[.agg #[.int .i64 a0_0, .slice A0_1 l0_1.length c0_1], .int .i64 x11_3, .int .i64 x13_3] ?_; (with_reducible refine (spec_l03Cost.calls k3 a0_0 _ _ l0_1 x11_3 x13_3 t199 _ ?side1 ?side2 A44.out).mono ?_); (case side1 => exact cb_ HR0_1 HB); (case side2 => exact HC0_1.out); rintro e w47 ⟨rfl, hb⟩; refine ⟨_, rfl, ?_⟩; replace HO_8 := rb_ HO_8 hb; replace HO_9 := rb_ HO_9 hb; replace HO_10 := rb_ HO_10 hb; replace BK178 := Aside0.mk (bb_ BK178 hb); replace HB := Aside0.mk (bt_ HB hb); (try clear hb); (try clear hb2); (try clear hk); (try clear hi)))
        replace HO_8 := Aside0.mk (Kd.R_drew HO_8.out)
        replace HO_9 := Aside0.mk (Kd.R_drew HO_9.out)
        replace HO_10 := Aside0.mk (Kd.R_drew HO_10.out)
        replace BK178 := Aside0.mk (blk_drew BK178.out)
        replace HB := Aside0.mk (below_drew1 HB.out)
        refine start_ (n := 38) (S := fun w' => True) (ds := []) ba5_0 (by kernel_rfl) rfl rfl trivial (fun hHeld => ?_); refine with_tabW spec_CheapestWay.tab14 spec_CheapestWay.bits14 (fun HT_ HW_ => ?_)
        generalize w47.drew = w48 at HO_8 HO_9 HO_10 BK178 HB hHeld ⊢
        refine pz_ 0 63 ba5_1 HT_ ?_
        refine pz_ 1 64 ba5_2 HT_ ?_
        refine pz_ 2 65 ba5_3 HT_ ?_
        refine pz_ 3 66 ba5_4 HT_ ?_
        refine pu_ 4 67 ba5_5 HT_ ?_
        refine pu_ 5 68 ba5_6 HT_ ?_
        refine pz_ 6 69 ba5_7 HT_ ?_
        refine pz_ 7 70 ba5_8 HT_ ?_
        refine pu_ 8 71 ba5_9 HT_ ?_
        refine pu_ 9 72 ba5_10 HT_ ?_
        refine pu_ 10 73 ba5_11 HT_ ?_
        refine pu_ 11 74 ba5_12 HT_ ?_
        refine pu_ 12 75 ba5_13 HT_ ?_
        refine pz_ 13 76 ba5_14 HT_ ?_
        refine pz_ 14 77 ba5_15 HT_ ?_
        refine pu_ 15 78 ba5_16 HT_ ?_
        refine pu_ 16 79 ba5_17 HT_ ?_
        refine pu_ 17 80 ba5_18 HT_ ?_
        refine pu_ 18 81 ba5_19 HT_ ?_
        refine pu_ 19 82 ba5_20 HT_ ?_
        refine pu_ 20 83 ba5_21 HT_ ?_
        refine pu_ 21 84 ba5_22 HT_ ?_
        refine pu_ 22 85 ba5_23 HT_ ?_
        refine pu_ 23 86 ba5_24 HT_ ?_
        refine pu_ 24 87 ba5_25 HT_ ?_
        refine pz_ 25 88 ba5_26 HT_ ?_
        refine pz_ 26 89 ba5_27 HT_ ?_
        refine pu_ 27 90 ba5_28 HT_ ?_
        refine pu_ 28 91 ba5_29 HT_ ?_
        refine pu_ 29 92 ba5_30 HT_ ?_
        refine pu_ 30 93 ba5_31 HT_ ?_
        refine pu_ 31 94 ba5_32 HT_ ?_
        refine pu_ 32 95 ba5_33 HT_ ?_
        refine pu_ 33 96 ba5_34 HT_ ?_
        refine pu_ 34 97 ba5_35 HT_ ?_
        refine pu_ 35 98 ba5_36 HT_ ?_
        refine pu_ 36 99 ba5_37 HT_ ?_
        refine pz_ 37 100 ba5_38 HT_ ?_
        refine done_ (done_of HT_.out (by kernel_rfl)) ?_
        try go_wp2
        go_roundg k3
        case measure => have := HJ3.out; have := HK2.out; have := HK3.out; omega
        case rel => exact ⟨(x11_3), (wrap64 (x13_3 + 1)), (by first | rfl | (simp; done) | (simp [*]; done)), (by first | rfl | (simp; done) | (simp [*]; done)), H', ⟨by have := HJ3.out; have := HK2.out; have := HK3.out; omega⟩, ⟨by (with_reducible repeat (first | apply Kd.R_alloc | apply Kd.R_drewN | apply Kd.R_drew)); exact HO_8.out⟩, ⟨by (with_reducible repeat (first | apply Kd.R_alloc | apply Kd.R_drewN | apply Kd.R_drew)); exact HO_9.out⟩, ⟨by (with_reducible repeat (first | apply Kd.R_alloc | apply Kd.R_drewN | apply Kd.R_drew)); exact HO_10.out⟩, ⟨by (with_reducible repeat (first | refine blk_drewN ?_ _ | refine blk_drew ?_ | refine blk_alloc ?_ _)); exact BK178.out⟩, ⟨by repeat (first | (with_reducible first | exact HB.out | apply below_alloc | apply pw_below_drewN | apply below_drew1 | refine below_set ?_ GE178.out) | exact HB.out)⟩⟩
       rw [if_neg c45] at H
       have c45b0 : (x13_3 == x11_3) = false := beq_eq_false_iff_ne.mpr c45
       have c45b1 : (x13_3 != x11_3) = true := bne_iff_ne.mpr c45
       by_cases c49 : t199 < 1000000
       rotate_left
       ·rw [if_neg c49] at H
        have c49b0 : decide (t199 < 1000000) = false := decide_eq_false c49
        clear c49
        have H' := Aside0.mk H
        clear H
        have hcz82_0 := cz_ BK178 0 (.int .i64 a0_0)
        have hcz82_1 := cz_ BK178 1 (.slice A0_1 l0_1.length c0_1)
        have hfz82_0 := blk_frozen BK178.out 0
        have hfz82_1 := blk_frozen BK178.out 1
        try go_wp2_with (first | ((with_reducible refine gate_callee (f := 72) rfl ?_); refine gl_ (some 62) Try.func72 #[.agg #[.int .i64 a0_0, .slice A0_1 l0_1.length c0_1], .int .i64 x11_3, .int .i64 x13_3] ?_; (with_reducible refine (spec_l03Cost.calls k3 a0_0 _ _ l0_1 x11_3 x13_3 t199 _ ?side1 ?side2 A44.out).mono ?_); (case side1 => exact cb_ HR0_1 HB); (case side2 => exact HC0_1.out); rintro e w83 ⟨rfl, hb⟩; refine ⟨_, rfl, ?_⟩; replace HO_8 := rb_ HO_8 hb; replace HO_9 := rb_ HO_9 hb; replace HO_10 := rb_ HO_10 hb; replace BK178 := Aside0.mk (bb_ BK178 hb); replace HB := Aside0.mk (bt_ HB hb); (try clear hb); (try clear hb2); (try clear hk); (try clear hi)))
        replace HO_8 := Aside0.mk (Kd.R_drew HO_8.out)
        replace HO_9 := Aside0.mk (Kd.R_drew HO_9.out)
        replace HO_10 := Aside0.mk (Kd.R_drew HO_10.out)
        replace BK178 := Aside0.mk (blk_drew BK178.out)
        replace HB := Aside0.mk (below_drew1 HB.out)
        refine start_ (n := 38) (S := fun w' => True) (ds := []) ba5_0 (by kernel_rfl) rfl rfl trivial (fun hHeld => ?_); refine with_tabW spec_CheapestWay.tab14 spec_CheapestWay.bits14 (fun HT_ HW_ => ?_)
        generalize w83.drew = w84 at HO_8 HO_9 HO_10 BK178 HB hHeld ⊢
        refine pz_ 0 63 ba5_1 HT_ ?_
        refine pz_ 1 64 ba5_2 HT_ ?_
        refine pz_ 2 65 ba5_3 HT_ ?_
        refine pz_ 3 66 ba5_4 HT_ ?_
        refine pz_ 4 67 ba5_5 HT_ ?_
        refine pz_ 5 68 ba5_6 HT_ ?_
        refine pz_ 6 69 ba5_7 HT_ ?_
        refine pz_ 7 70 ba5_8 HT_ ?_
        refine pu_ 8 71 ba5_9 HT_ ?_
        refine pu_ 9 72 ba5_10 HT_ ?_
        refine pu_ 10 73 ba5_11 HT_ ?_
        refine pu_ 11 74 ba5_12 HT_ ?_
        refine pu_ 12 75 ba5_13 HT_ ?_
        refine pz_ 13 76 ba5_14 HT_ ?_
        refine pz_ 14 77 ba5_15 HT_ ?_
        refine pu_ 15 78 ba5_16 HT_ ?_
        refine pu_ 16 79 ba5_17 HT_ ?_
        refine pu_ 17 80 ba5_18 HT_ ?_
        refine pu_ 18 81 ba5_19 HT_ ?_
        refine pu_ 19 82 ba5_20 HT_ ?_
        refine pu_ 20 83 ba5_21 HT_ ?_
        refine pu_ 21 84 ba5_22 HT_ ?_
        refine pu_ 22 85 ba5_23 HT_ ?_
        refine pu_ 23 86 ba5_24 HT_ ?_
        refine pu_ 24 87 ba5_25 HT_ ?_
        refine pz_ 25 88 ba5_26 HT_ ?_
        refine pz_ 26 89 ba5_27 HT_ ?_
        refine pu_ 27 90 ba5_28 HT_ ?_
        refine pu_ 28 91 ba5_29 HT_ ?_
        refine pu_ 29 92 ba5_30 HT_ ?_
        refine pu_ 30 93 ba5_31 HT_ ?_
        refine pu_ 31 94 ba5_32 HT_ ?_
        refine pu_ 32 95 ba5_33 HT_ ?_
        refine pu_ 33 96 ba5_34 HT_ ?_
        refine pu_ 34 97 ba5_35 HT_ ?_
        refine pu_ 35 98 ba5_36 HT_ ?_
        refine pu_ 36 99 ba5_37 HT_ ?_
        refine pz_ 37 100 ba5_38 HT_ ?_
        refine done_ (done_of HT_.out (by kernel_rfl)) ?_
        try go_wp2
        go_roundg k3
        case measure => have := HJ3.out; have := HK2.out; have := HK3.out; omega
        case rel => exact ⟨(x11_3), (wrap64 (x13_3 + 1)), (by first | rfl | (simp; done) | (simp [*]; done)), (by first | rfl | (simp; done) | (simp [*]; done)), H', ⟨by have := HJ3.out; have := HK2.out; have := HK3.out; omega⟩, ⟨by (with_reducible repeat (first | apply Kd.R_alloc | apply Kd.R_drewN | apply Kd.R_drew)); exact HO_8.out⟩, ⟨by (with_reducible repeat (first | apply Kd.R_alloc | apply Kd.R_drewN | apply Kd.R_drew)); exact HO_9.out⟩, ⟨by (with_reducible repeat (first | apply Kd.R_alloc | apply Kd.R_drewN | apply Kd.R_drew)); exact HO_10.out⟩, ⟨by (with_reducible repeat (first | refine blk_drewN ?_ _ | refine blk_drew ?_ | refine blk_alloc ?_ _)); exact BK178.out⟩, ⟨by repeat (first | (with_reducible first | exact HB.out | apply below_alloc | apply pw_below_drewN | apply below_drew1 | refine below_set ?_ GE178.out) | exact HB.out)⟩⟩
       rw [if_pos c49] at H
       have c49b0 : decide (t199 < 1000000) = true := decide_eq_true c49
       clear c49
       by_cases c50 : 0 ≤ x13_3
       rotate_left
       ·rw [if_neg c50] at H
        exact absurd H (by simp)
       rw [if_pos c50] at H
       have c50b0 : decide (0 ≤ x13_3) = true := decide_eq_true c50
       clear c50
       by_cases c51 : x13_3 < (t185.length : Int)
       rotate_left
       ·rw [if_neg c51] at H
        exact absurd H (by simp)
       rw [if_pos c51] at H
       have c51b0 : decide (x13_3 < (t185.length : Int)) = true := decide_eq_true c51
       clear c51
       by_cases c52 : (rd t185 x13_3) > 0
       rotate_left
       ·rw [if_neg c52] at H
        have c52b0 : decide (0 < (rd t185 x13_3)) = false := decide_eq_false c52
        clear c52
        have H' := Aside0.mk H
        clear H
        have hcz79_0 := cz_ BK178 0 (.int .i64 a0_0)
        have hcz79_1 := cz_ BK178 1 (.slice A0_1 l0_1.length c0_1)
        have hfz79_0 := blk_frozen BK178.out 0
        have hfz79_1 := blk_frozen BK178.out 1
        try go_wp2_with (first | ((with_reducible refine gate_callee (f := 72) rfl ?_); refine gl_ (some 62) Try.func72 #[.agg #[.int .i64 a0_0, .slice A0_1 l0_1.length c0_1], .int .i64 x11_3, .int .i64 x13_3] ?_; (with_reducible refine (spec_l03Cost.calls k3 a0_0 _ _ l0_1 x11_3 x13_3 t199 _ ?side1 ?side2 A44.out).mono ?_); (case side1 => exact cb_ HR0_1 HB); (case side2 => exact HC0_1.out); rintro e w80 ⟨rfl, hb⟩; refine ⟨_, rfl, ?_⟩; replace HO_8 := rb_ HO_8 hb; replace HO_9 := rb_ HO_9 hb; replace HO_10 := rb_ HO_10 hb; replace BK178 := Aside0.mk (bb_ BK178 hb); replace HB := Aside0.mk (bt_ HB hb); (try clear hb); (try clear hb2); (try clear hk); (try clear hi)))
        replace HO_8 := Aside0.mk (Kd.R_drew HO_8.out)
        replace HO_9 := Aside0.mk (Kd.R_drew HO_9.out)
        replace HO_10 := Aside0.mk (Kd.R_drew HO_10.out)
        replace BK178 := Aside0.mk (blk_drew BK178.out)
        replace HB := Aside0.mk (below_drew1 HB.out)
        have p200 : 0 ≤ (x13_3 : Int) := of_decide_eq_true (by first | (with_reducible assumption) | assumption)
        have q200 : x13_3 < (t185.length : Int) := of_decide_eq_true (by first | (with_reducible assumption) | assumption)
        obtain ⟨ad200, e200, hx200_0⟩ := Kd.at_int (Kd.R_reads' HO_9.out).2.2 x13_3 p200 q200
        obtain rfl : ad188 = ad200 := (by injection e200)
        replace p200 := eq_true p200
        replace q200 := eq_true q200
        refine start_ (n := 38) (S := fun w' => w'.cell? (ad188.add (x13_3).toNat) = some (.int .i64 (rd t185 x13_3))) (ds := []) ba5_0 (by kernel_rfl) rfl rfl (hx200_0) (fun hHeld => ?_); refine with_tabW spec_CheapestWay.tab14 spec_CheapestWay.bits14 (fun HT_ HW_ => ?_)
        generalize w80.drew = w81 at HO_8 HO_9 HO_10 BK178 HB hx200_0 hHeld ⊢
        refine pz_ 0 63 ba5_1 HT_ ?_
        refine pz_ 1 64 ba5_2 HT_ ?_
        refine pz_ 2 65 ba5_3 HT_ ?_
        refine pz_ 3 66 ba5_4 HT_ ?_
        refine pz_ 4 67 ba5_5 HT_ ?_
        refine pz_ 5 68 ba5_6 HT_ ?_
        refine pz_ 6 69 ba5_7 HT_ ?_
        refine pz_ 7 70 ba5_8 HT_ ?_
        refine pz_ 8 71 ba5_9 HT_ ?_
        refine pz_ 9 72 ba5_10 HT_ ?_
        refine pz_ 10 73 ba5_11 HT_ ?_
        refine take_ (i := 11) (N := some 74) (v := ?_) (a' := ?_) ba5_12 rfl rfl (take_ofW HT_.out HW_.out (by kernel_rfl)) (fun _ _ _ h => h) (Or.inl ⟨by rfl, ?_⟩) hHeld ?_ ?_
        rotate_left; · intro w' s0; go_simp; with_reducible rfl
        rotate_left; · simp only [Act.put, List.setIfInBounds_toArray, List.set_cons_zero, List.set_cons_succ, i64_w, i32_w]; rfl
        refine pz_ 12 75 ba5_13 HT_ ?_
        refine pz_ 13 76 ba5_14 HT_ ?_
        refine pz_ 14 77 ba5_15 HT_ ?_
        refine pu_ 15 78 ba5_16 HT_ ?_
        refine pu_ 16 79 ba5_17 HT_ ?_
        refine pu_ 17 80 ba5_18 HT_ ?_
        refine pu_ 18 81 ba5_19 HT_ ?_
        refine pu_ 19 82 ba5_20 HT_ ?_
        refine pu_ 20 83 ba5_21 HT_ ?_
        refine pu_ 21 84 ba5_22 HT_ ?_
        refine pu_ 22 85 ba5_23 HT_ ?_
        refine pu_ 23 86 ba5_24 HT_ ?_
        refine pu_ 24 87 ba5_25 HT_ ?_
        refine pz_ 25 88 ba5_26 HT_ ?_
        refine pz_ 26 89 ba5_27 HT_ ?_
        refine pu_ 27 90 ba5_28 HT_ ?_
        refine pu_ 28 91 ba5_29 HT_ ?_
        refine pu_ 29 92 ba5_30 HT_ ?_
        refine pu_ 30 93 ba5_31 HT_ ?_
        refine pu_ 31 94 ba5_32 HT_ ?_
        refine pu_ 32 95 ba5_33 HT_ ?_
        refine pu_ 33 96 ba5_34 HT_ ?_
        refine pu_ 34 97 ba5_35 HT_ ?_
        refine pu_ 35 98 ba5_36 HT_ ?_
        refine pu_ 36 99 ba5_37 HT_ ?_
        refine pz_ 37 100 ba5_38 HT_ ?_
        refine done_ (done_of HT_.out (by kernel_rfl)) ?_
        try go_wp2
        go_roundg k3
        case measure => have := HJ3.out; have := HK2.out; have := HK3.out; omega
        case rel => exact ⟨(x11_3), (wrap64 (x13_3 + 1)), (by first | rfl | (simp; done) | (simp [*]; done)), (by first | rfl | (simp; done) | (simp [*]; done)), H', ⟨by have := HJ3.out; have := HK2.out; have := HK3.out; omega⟩, ⟨by (with_reducible repeat (first | apply Kd.R_alloc | apply Kd.R_drewN | apply Kd.R_drew)); exact HO_8.out⟩, ⟨by (with_reducible repeat (first | apply Kd.R_alloc | apply Kd.R_drewN | apply Kd.R_drew)); exact HO_9.out⟩, ⟨by (with_reducible repeat (first | apply Kd.R_alloc | apply Kd.R_drewN | apply Kd.R_drew)); exact HO_10.out⟩, ⟨by (with_reducible repeat (first | refine blk_drewN ?_ _ | refine blk_drew ?_ | refine blk_alloc ?_ _)); exact BK178.out⟩, ⟨by repeat (first | (with_reducible first | exact HB.out | apply below_alloc | apply pw_below_drewN | apply below_drew1 | refine below_set ?_ GE178.out) | exact HB.out)⟩⟩
       rw [if_pos c52] at H
       have c52b0 : decide (0 < (rd t185 x13_3)) = true := decide_eq_true c52
       clear c52
       by_cases c53 : x13_3 < (t182.length : Int)
       rotate_left
       ·rw [if_neg c53] at H
        exact absurd H (by simp)
       rw [if_pos c53] at H
       have c53b0 : decide (x13_3 < (t182.length : Int)) = true := decide_eq_true c53
       clear c53
       by_cases c54 : 0 ≤ x11_3
       rotate_left
       ·rw [if_neg c54] at H
        exact absurd H (by simp)
       rw [if_pos c54] at H
       have c54b0 : decide (0 ≤ x11_3) = true := decide_eq_true c54
       clear c54
       by_cases c55 : x11_3 < (t182.length : Int)
       rotate_left
       ·rw [if_neg c55] at H
        exact absurd H (by simp)
       rw [if_pos c55] at H
       have c55b0 : decide (x11_3 < (t182.length : Int)) = true := decide_eq_true c55
       clear c55
       by_cases c56 : (wrap64 ((rd t182 x13_3) + 1)) = (rd t182 x11_3)
       rotate_left
       ·rw [if_neg c56] at H
        have c56b0 : ((wrap64 ((rd t182 x13_3) + 1)) == (rd t182 x11_3)) = false := beq_eq_false_iff_ne.mpr c56
        have c56b1 : ((wrap64 ((rd t182 x13_3) + 1)) != (rd t182 x11_3)) = true := bne_iff_ne.mpr c56
        have H' := Aside0.mk H
        clear H
        have hcz75_0 := cz_ BK178 0 (.int .i64 a0_0)
        have hcz75_1 := cz_ BK178 1 (.slice A0_1 l0_1.length c0_1)
        have hfz75_0 := blk_frozen BK178.out 0
        have hfz75_1 := blk_frozen BK178.out 1
        try go_wp2_with (first | ((with_reducible refine gate_callee (f := 72) rfl ?_); refine gl_ (some 62) Try.func72 #[.agg #[.int .i64 a0_0, .slice A0_1 l0_1.length c0_1], .int .i64 x11_3, .int .i64 x13_3] ?_; (with_reducible refine (spec_l03Cost.calls k3 a0_0 _ _ l0_1 x11_3 x13_3 t199 _ ?side1 ?side2 A44.out).mono ?_); (case side1 => exact cb_ HR0_1 HB); (case side2 => exact HC0_1.out); rintro e w76 ⟨rfl, hb⟩; refine ⟨_, rfl, ?_⟩; replace HO_8 := rb_ HO_8 hb; replace HO_9 := rb_ HO_9 hb; replace HO_10 := rb_ HO_10 hb; replace BK178 := Aside0.mk (bb_ BK178 hb); replace HB := Aside0.mk (bt_ HB hb); (try clear hb); (try clear hb2); (try clear hk); (try clear hi)))
        replace HO_8 := Aside0.mk (Kd.R_drew HO_8.out)
        replace HO_9 := Aside0.mk (Kd.R_drew HO_9.out)
        replace HO_10 := Aside0.mk (Kd.R_drew HO_10.out)
        replace BK178 := Aside0.mk (blk_drew BK178.out)
        replace HB := Aside0.mk (below_drew1 HB.out)
        have p200 : 0 ≤ (x13_3 : Int) := of_decide_eq_true (by first | (with_reducible assumption) | assumption)
        have q200 : x13_3 < (t185.length : Int) := of_decide_eq_true (by first | (with_reducible assumption) | assumption)
        obtain ⟨ad200, e200, hx200_0⟩ := Kd.at_int (Kd.R_reads' HO_9.out).2.2 x13_3 p200 q200
        obtain rfl : ad188 = ad200 := (by injection e200)
        replace p200 := eq_true p200
        replace q200 := eq_true q200
        obtain ⟨Ao78, co78, eo78⟩ := Kd.R_slice HO_8.out
        (first | subst eo78 | (injection eo78 with f1_ f2_ f3_; have f4_ := f1_.symm; have f5_ := f3_.symm; clear f1_ f2_ f3_; subst f4_; subst f5_))
        have p201 : 0 ≤ (x13_3 : Int) := of_decide_eq_true (by first | (with_reducible assumption) | assumption)
        have q201 : x13_3 < (t182.length : Int) := of_decide_eq_true (by first | (with_reducible assumption) | assumption)
        obtain ⟨ad201, e201, hx201_0⟩ := Kd.at_int (Kd.R_reads' HO_8.out).2.2 x13_3 p201 q201
        cases e201
        replace p201 := eq_true p201
        replace q201 := eq_true q201
        have p202 : 0 ≤ (x11_3 : Int) := of_decide_eq_true (by first | (with_reducible assumption) | assumption)
        have q202 : x11_3 < (t182.length : Int) := of_decide_eq_true (by first | (with_reducible assumption) | assumption)
        obtain ⟨ad202, e202, hx202_0⟩ := Kd.at_int (Kd.R_reads' HO_8.out).2.2 x11_3 p202 q202
        obtain rfl : ad201 = ad202 := (by injection e202)
        replace p202 := eq_true p202
        replace q202 := eq_true q202
        refine start_ (n := 38) (S := fun w' => w'.cell? (ad188.add (x13_3).toNat) = some (.int .i64 (rd t185 x13_3)) ∧ w'.cell? (ad201.add (x13_3).toNat) = some (.int .i64 (rd t182 x13_3)) ∧ w'.cell? (ad201.add (x11_3).toNat) = some (.int .i64 (rd t182 x11_3))) (ds := []) ba5_0 (by kernel_rfl) rfl rfl ⟨hx200_0, hx201_0, hx202_0⟩ (fun hHeld => ?_); refine with_tabW spec_CheapestWay.tab14 spec_CheapestWay.bits14 (fun HT_ HW_ => ?_)
        generalize w76.drew = w77 at HO_8 HO_9 HO_10 BK178 HB hx200_0 hx201_0 hx202_0 hHeld ⊢
        refine pz_ 0 63 ba5_1 HT_ ?_
        refine pz_ 1 64 ba5_2 HT_ ?_
        refine pz_ 2 65 ba5_3 HT_ ?_
        refine pz_ 3 66 ba5_4 HT_ ?_
        refine pz_ 4 67 ba5_5 HT_ ?_
        refine pz_ 5 68 ba5_6 HT_ ?_
        refine pz_ 6 69 ba5_7 HT_ ?_
        refine pz_ 7 70 ba5_8 HT_ ?_
        refine pz_ 8 71 ba5_9 HT_ ?_
        refine pz_ 9 72 ba5_10 HT_ ?_
        refine pz_ 10 73 ba5_11 HT_ ?_
        refine pt_ 11 74 ba5_12 HT_ HW_ hHeld ?_
        refine pz_ 12 75 ba5_13 HT_ ?_
        refine pz_ 13 76 ba5_14 HT_ ?_
        refine pz_ 14 77 ba5_15 HT_ ?_
        refine pz_ 15 78 ba5_16 HT_ ?_
        refine pz_ 16 79 ba5_17 HT_ ?_
        refine pz_ 17 80 ba5_18 HT_ ?_
        refine pz_ 20 83 ba5_39 HT_ ?_
        refine pz_ 21 84 ba5_40 HT_ ?_
        refine pz_ 22 85 ba5_41 HT_ ?_
        refine pt_ 18 81 ba5_42 HT_ HW_ hHeld ?_
        refine pz_ 19 82 ba5_23 HT_ ?_
        refine pt_ 23 86 ba5_24 HT_ HW_ hHeld ?_
        refine pz_ 24 87 ba5_25 HT_ ?_
        refine pz_ 25 88 ba5_26 HT_ ?_
        refine pz_ 26 89 ba5_27 HT_ ?_
        refine pu_ 27 90 ba5_28 HT_ ?_
        refine pu_ 28 91 ba5_29 HT_ ?_
        refine pu_ 29 92 ba5_30 HT_ ?_
        refine pu_ 30 93 ba5_31 HT_ ?_
        refine pu_ 31 94 ba5_32 HT_ ?_
        refine pu_ 32 95 ba5_33 HT_ ?_
        refine pu_ 33 96 ba5_34 HT_ ?_
        refine pu_ 34 97 ba5_35 HT_ ?_
        refine pu_ 35 98 ba5_36 HT_ ?_
        refine pu_ 36 99 ba5_37 HT_ ?_
        refine pz_ 37 100 ba5_38 HT_ ?_
        refine done_ (done_of HT_.out (by kernel_rfl)) ?_
        try go_wp2
        go_roundg k3
        case measure => have := HJ3.out; have := HK2.out; have := HK3.out; omega
        case rel => exact ⟨(x11_3), (wrap64 (x13_3 + 1)), (by first | rfl | (simp; done) | (simp [*]; done)), (by first | rfl | (simp; done) | (simp [*]; done)), H', ⟨by have := HJ3.out; have := HK2.out; have := HK3.out; omega⟩, ⟨by (with_reducible repeat (first | apply Kd.R_alloc | apply Kd.R_drewN | apply Kd.R_drew)); exact HO_8.out⟩, ⟨by (with_reducible repeat (first | apply Kd.R_alloc | apply Kd.R_drewN | apply Kd.R_drew)); exact HO_9.out⟩, ⟨by (with_reducible repeat (first | apply Kd.R_alloc | apply Kd.R_drewN | apply Kd.R_drew)); exact HO_10.out⟩, ⟨by (with_reducible repeat (first | refine blk_drewN ?_ _ | refine blk_drew ?_ | refine blk_alloc ?_ _)); exact BK178.out⟩, ⟨by repeat (first | (with_reducible first | exact HB.out | apply below_alloc | apply pw_below_drewN | apply below_drew1 | refine below_set ?_ GE178.out) | exact HB.out)⟩⟩
       rw [if_pos c56] at H
       have c56b0 : ((wrap64 ((rd t182 x13_3) + 1)) == (rd t182 x11_3)) = true := beq_iff_eq.mpr c56
       have c56b1 : ((wrap64 ((rd t182 x13_3) + 1)) != (rd t182 x11_3)) = false := bne_eq_false_iff_eq.mpr c56
       clear c56
       replace H := Option.bind_eq_some_iff.mp H
       obtain ⟨t203, A570, H⟩ := H
       have A57 := Aside0.mk A570
       clear A570
       by_cases c58 : 0 ≤ a2
       rotate_left
       ·rw [if_neg c58] at H
        exact absurd H (by simp)
       rw [if_pos c58] at H
       have c58b0 : decide (0 ≤ a2) = true := decide_eq_true c58
       clear c58
       by_cases c59 : a2 < (t203.length : Int)
       rotate_left
       ·rw [if_neg c59] at H
        exact absurd H (by simp)
       rw [if_pos c59] at H
       have c59b0 : decide (a2 < (t203.length : Int)) = true := decide_eq_true c59
       clear c59
       by_cases c60 : (wrap64 (t199 + (rd t203 a2))) = (rd t192 a2)
       rotate_left
       ·rw [if_neg c60] at H
        have c60b0 : ((wrap64 (t199 + (rd t203 a2))) == (rd t192 a2)) = false := beq_eq_false_iff_ne.mpr c60
        have c60b1 : ((wrap64 (t199 + (rd t203 a2))) != (rd t192 a2)) = true := bne_iff_ne.mpr c60
        have H' := Aside0.mk H
        clear H
        have hcz69_0 := cz_ BK178 0 (.int .i64 a0_0)
        have hcz69_1 := cz_ BK178 1 (.slice A0_1 l0_1.length c0_1)
        have hfz69_0 := blk_frozen BK178.out 0
        have hfz69_1 := blk_frozen BK178.out 1
        try go_wp2_with (first | ((with_reducible refine gate_callee (f := 72) rfl ?_); refine gl_ (some 62) Try.func72 #[.agg #[.int .i64 a0_0, .slice A0_1 l0_1.length c0_1], .int .i64 x11_3, .int .i64 x13_3] ?_; (with_reducible refine (spec_l03Cost.calls k3 a0_0 _ _ l0_1 x11_3 x13_3 t199 _ ?side1 ?side2 A44.out).mono ?_); (case side1 => exact cb_ HR0_1 HB); (case side2 => exact HC0_1.out); rintro e w70 ⟨rfl, hb⟩; refine ⟨_, rfl, ?_⟩; replace HO_8 := rb_ HO_8 hb; replace HO_9 := rb_ HO_9 hb; replace HO_10 := rb_ HO_10 hb; replace BK178 := Aside0.mk (bb_ BK178 hb); replace HB := Aside0.mk (bt_ HB hb); (try clear hb); (try clear hb2); (try clear hk); (try clear hi)))
        replace HO_8 := Aside0.mk (Kd.R_drew HO_8.out)
        replace HO_9 := Aside0.mk (Kd.R_drew HO_9.out)
        replace HO_10 := Aside0.mk (Kd.R_drew HO_10.out)
        replace BK178 := Aside0.mk (blk_drew BK178.out)
        replace HB := Aside0.mk (below_drew1 HB.out)
        have p200 : 0 ≤ (x13_3 : Int) := of_decide_eq_true (by first | (with_reducible assumption) | assumption)
        have q200 : x13_3 < (t185.length : Int) := of_decide_eq_true (by first | (with_reducible assumption) | assumption)
        obtain ⟨ad200, e200, hx200_0⟩ := Kd.at_int (Kd.R_reads' HO_9.out).2.2 x13_3 p200 q200
        obtain rfl : ad188 = ad200 := (by injection e200)
        replace p200 := eq_true p200
        replace q200 := eq_true q200
        obtain ⟨Ao72, co72, eo72⟩ := Kd.R_slice HO_8.out
        (first | subst eo72 | (injection eo72 with f1_ f2_ f3_; have f4_ := f1_.symm; have f5_ := f3_.symm; clear f1_ f2_ f3_; subst f4_; subst f5_))
        have p201 : 0 ≤ (x13_3 : Int) := of_decide_eq_true (by first | (with_reducible assumption) | assumption)
        have q201 : x13_3 < (t182.length : Int) := of_decide_eq_true (by first | (with_reducible assumption) | assumption)
        obtain ⟨ad201, e201, hx201_0⟩ := Kd.at_int (Kd.R_reads' HO_8.out).2.2 x13_3 p201 q201
        cases e201
        replace p201 := eq_true p201
        replace q201 := eq_true q201
        have p202 : 0 ≤ (x11_3 : Int) := of_decide_eq_true (by first | (with_reducible assumption) | assumption)
        have q202 : x11_3 < (t182.length : Int) := of_decide_eq_true (by first | (with_reducible assumption) | assumption)
        obtain ⟨ad202, e202, hx202_0⟩ := Kd.at_int (Kd.R_reads' HO_8.out).2.2 x11_3 p202 q202
        obtain rfl : ad201 = ad202 := (by injection e202)
        replace p202 := eq_true p202
        replace q202 := eq_true q202
        refine start_ (n := 38) (S := fun w' => w'.cell? ⟨gb178, 0, none⟩ = some (.int .i64 a0_0) ∧ w'.cell? ⟨gb178, 1, none⟩ = some (.slice A0_1 l0_1.length c0_1) ∧ w'.cell? (ad188.add (x13_3).toNat) = some (.int .i64 (rd t185 x13_3)) ∧ w'.cell? (ad201.add (x13_3).toNat) = some (.int .i64 (rd t182 x13_3)) ∧ w'.cell? (ad201.add (x11_3).toNat) = some (.int .i64 (rd t182 x11_3))) (ds := []) ba5_0 (by kernel_rfl) rfl rfl ⟨(blk_cell BK178.out 0).trans rfl, (blk_cell BK178.out 1).trans rfl, hx200_0, hx201_0, hx202_0⟩ (fun hHeld => ?_); refine with_tabW spec_CheapestWay.tab14 spec_CheapestWay.bits14 (fun HT_ HW_ => ?_)
        generalize w70.drew = w71 at HO_8 HO_9 HO_10 BK178 HB hx200_0 hx201_0 hx202_0 hHeld ⊢
        refine pz_ 0 63 ba5_1 HT_ ?_
        refine pz_ 1 64 ba5_2 HT_ ?_
        refine pz_ 2 65 ba5_3 HT_ ?_
        refine pz_ 3 66 ba5_4 HT_ ?_
        refine pz_ 4 67 ba5_5 HT_ ?_
        refine pz_ 5 68 ba5_6 HT_ ?_
        refine pz_ 6 69 ba5_7 HT_ ?_
        refine pz_ 7 70 ba5_8 HT_ ?_
        refine pz_ 8 71 ba5_9 HT_ ?_
        refine pz_ 9 72 ba5_10 HT_ ?_
        refine pz_ 10 73 ba5_11 HT_ ?_
        refine pt_ 11 74 ba5_12 HT_ HW_ hHeld ?_
        refine pz_ 12 75 ba5_13 HT_ ?_
        refine pz_ 13 76 ba5_14 HT_ ?_
        refine pz_ 14 77 ba5_15 HT_ ?_
        refine pz_ 15 78 ba5_16 HT_ ?_
        refine pz_ 16 79 ba5_17 HT_ ?_
        refine pz_ 17 80 ba5_18 HT_ ?_
        refine pz_ 20 83 ba5_39 HT_ ?_
        refine pz_ 21 84 ba5_40 HT_ ?_
        refine pz_ 22 85 ba5_41 HT_ ?_
        refine pt_ 18 81 ba5_42 HT_ HW_ hHeld ?_
        refine pz_ 19 82 ba5_23 HT_ ?_
        refine pt_ 23 86 ba5_24 HT_ HW_ hHeld ?_
        refine pz_ 24 87 ba5_25 HT_ ?_
        refine pz_ 25 88 ba5_26 HT_ ?_
        refine pz_ 26 89 ba5_27 HT_ ?_
        refine pz_ 27 90 ba5_28 HT_ ?_
        refine pz_ 29 92 ba5_43 HT_ ?_
        refine pz_ 31 94 ba5_44 HT_ ?_
        refine pz_ 35 98 ba5_45 HT_ ?_
        refine pt_ 28 91 ba5_46 HT_ HW_ hHeld ?_
        refine one_ (i := 30) (N := some 93) ba5_47 rfl rfl (one_of HT_.out (by kernel_rfl)) (by decide) (fun K hK => ?_)
        refine gz_ Try.func33 #[.agg #[.int .i64 a0_0, .slice A0_1 l0_1.length c0_1], .int .i64 x13_3] ?_
        with_reducible refine (spec_Distances.calls k3 a0_0 _ _ l0_1 x13_3 t203 _ ?side1 ?side2 A57.out).mono ?_
        (case side1 => exact cb_ HR0_1 HB)
        (case side2 => exact HC0_1.out)
        rintro e w73 ⟨v204, rfl, ho0, hb⟩
        have HS2_ := (hb.cell (World.block_lt_of_cell? _ _ (hHeld.2.2.1))).trans (hHeld.2.2.1)
        have HS3_ := (hb.cell (World.block_lt_of_cell? _ _ (hHeld.2.2.2.1))).trans (hHeld.2.2.2.1)
        have HS4_ := (hb.cell (World.block_lt_of_cell? _ _ (hHeld.2.2.2.2))).trans (hHeld.2.2.2.2)
        refine ⟨_, rfl, ?_⟩
        have HO205 := Aside0.mk (Kd.R_lower (Kd.R_new' (Kd.R_new' (Kd.R_new' ho0 (Kd.R_lt (hd_ HO_8))) (Kd.R_lt (hd_ HO_9))) (Kd.R_lt (hd_ HO_10))) (bz_ HB))
        replace HO_8 := Aside0.mk (Kd.R_elder' (hd_ HO_8) (Kd.R_base ho0) hb)
        replace HO_9 := Aside0.mk (Kd.R_elder' (hd_ HO_9) (Kd.R_base ho0) hb)
        replace HO_10 := Aside0.mk (Kd.R_elder' (hd_ HO_10) (Kd.R_base ho0) hb)
        replace BK178 := Aside0.mk (bb_ BK178 hb)
        replace HB := Aside0.mk (bt_ HB hb)
        (try clear hb)
        (try clear hb2)
        (try clear hk)
        (try clear hi)
        (try clear ho0)
        obtain ⟨Ao74, co74, eo74⟩ := Kd.R_slice HO205.out
        (first | subst eo74 | (injection eo74 with f1_ f2_ f3_; have f4_ := f1_.symm; have f5_ := f3_.symm; clear f1_ f2_ f3_; subst f4_; subst f5_))
        have p206 : 0 ≤ (a2 : Int) := of_decide_eq_true (by first | (with_reducible assumption) | assumption)
        have q206 : a2 < (t203.length : Int) := of_decide_eq_true (by first | (with_reducible assumption) | assumption)
        obtain ⟨ad206, e206, hx206_0⟩ := Kd.at_int (Kd.R_reads' HO205.out).2.2 a2 p206 q206
        cases e206
        replace p206 := eq_true p206
        replace q206 := eq_true q206
        refine hK.out _ _ ⟨(blk_cell BK178.out 0).trans rfl, (blk_cell BK178.out 1).trans rfl, HS2_, HS3_, HS4_⟩ (fun hHeld => ?_)
        clear hK K
        refine nz_ 93 ?_
        refine pz_ 32 95 ba5_48 HT_ ?_
        refine po_ 33 96 ba5_49 HT_ (fun w' => w'.cell? ⟨gb178, 0, none⟩ = some (.int .i64 a0_0) ∧ w'.cell? ⟨gb178, 1, none⟩ = some (.slice A0_1 l0_1.length c0_1) ∧ w'.cell? (ad188.add (x13_3).toNat) = some (.int .i64 (rd t185 x13_3)) ∧ w'.cell? (ad201.add (x13_3).toNat) = some (.int .i64 (rd t182 x13_3)) ∧ w'.cell? (ad201.add (x11_3).toNat) = some (.int .i64 (rd t182 x11_3)) ∧ w'.cell? (ad206.add (a2).toNat) = some (.int .i64 (rd t203 a2))) ⟨hHeld.1, hHeld.2.1, hHeld.2.2.1, hHeld.2.2.2.1, hHeld.2.2.2.2, hx206_0⟩ ?_
        refine pz_ 34 97 ba5_36 HT_ ?_
        refine pz_ 36 99 ba5_37 HT_ ?_
        refine pz_ 37 100 ba5_38 HT_ ?_
        refine done_ (done_of HT_.out (by kernel_rfl)) ?_
        try go_wp2
        go_roundg k3
        case measure => have := HJ3.out; have := HK2.out; have := HK3.out; omega
        case rel => exact ⟨(x11_3), (wrap64 (x13_3 + 1)), (by first | rfl | (simp; done) | (simp [*]; done)), (by first | rfl | (simp; done) | (simp [*]; done)), H', ⟨by have := HJ3.out; have := HK2.out; have := HK3.out; omega⟩, ⟨by (with_reducible repeat (first | apply Kd.R_alloc | apply Kd.R_drewN | apply Kd.R_drew)); exact Kd.R_mono HO_8.out (fun _ hk => by first | exact ⟨hk.1.1, hk.1.2⟩ | grind)⟩, ⟨by (with_reducible repeat (first | apply Kd.R_alloc | apply Kd.R_drewN | apply Kd.R_drew)); exact Kd.R_mono HO_9.out (fun _ hk => by first | exact ⟨hk.1.1, hk.1.2⟩ | grind)⟩, ⟨by (with_reducible repeat (first | apply Kd.R_alloc | apply Kd.R_drewN | apply Kd.R_drew)); exact Kd.R_mono HO_10.out (fun _ hk => by first | exact ⟨hk.1.1, hk.1.2⟩ | grind)⟩, ⟨by (with_reducible repeat (first | refine blk_drewN ?_ _ | refine blk_drew ?_ | refine blk_alloc ?_ _)); exact BK178.out⟩, ⟨by repeat (first | (with_reducible first | exact HB.out | apply below_alloc | apply pw_below_drewN | apply below_drew1 | refine below_set ?_ GE178.out) | exact HB.out)⟩⟩
       rw [if_pos c60] at H
       have c60b0 : ((wrap64 (t199 + (rd t203 a2))) == (rd t192 a2)) = true := beq_iff_eq.mpr c60
       have c60b1 : ((wrap64 (t199 + (rd t203 a2))) != (rd t192 a2)) = false := bne_eq_false_iff_eq.mpr c60
       clear c60
       by_cases c61 : x10_2.length < 17592186044416
       rotate_left
       ·rw [if_neg c61] at H
        exact absurd H (by simp)
       rw [if_pos c61] at H
       have LMc61 := Aside0.mk c61
       clear c61
       obtain ⟨y207, hy207⟩ : ∃ y_ : List Int, y_ = (x10_2 ++ [x13_3]) := ⟨_, rfl⟩
       replace H : (spec_CheapestWay.l0 k3 a2 t182 t185 y207 x13_3 a0_0 l0_1) = some (r1, r2) := by first | (rw [hy207]; with_reducible exact H) | (have H2_ := (Option.bind_some _ _).symm.trans H; rw [hy207]; with_reducible exact H2_) | (have H2_ := (Option.bind_some _ _).symm.trans H; with_reducible exact H2_) | with_reducible exact H | (rw [hy207]; exact H) | exact H
       have Ny207 := Aside0.mk hy207
       clear hy207
       have H' := Aside0.mk H
       clear H
       have hcz62_0 := cz_ BK178 0 (.int .i64 a0_0)
       have hcz62_1 := cz_ BK178 1 (.slice A0_1 l0_1.length c0_1)
       have hfz62_0 := blk_frozen BK178.out 0
       have hfz62_1 := blk_frozen BK178.out 1
       try go_wp2_with (first | ((with_reducible refine gate_callee (f := 72) rfl ?_); refine gl_ (some 62) Try.func72 #[.agg #[.int .i64 a0_0, .slice A0_1 l0_1.length c0_1], .int .i64 x11_3, .int .i64 x13_3] ?_; (with_reducible refine (spec_l03Cost.calls k3 a0_0 _ _ l0_1 x11_3 x13_3 t199 _ ?side1 ?side2 A44.out).mono ?_); (case side1 => exact cb_ HR0_1 HB); (case side2 => exact HC0_1.out); rintro e w63 ⟨rfl, hb⟩; refine ⟨_, rfl, ?_⟩; replace HO_8 := rb_ HO_8 hb; replace HO_9 := rb_ HO_9 hb; replace HO_10 := rb_ HO_10 hb; replace BK178 := Aside0.mk (bb_ BK178 hb); replace HB := Aside0.mk (bt_ HB hb); (try clear hb); (try clear hb2); (try clear hk); (try clear hi)))
       replace HO_8 := Aside0.mk (Kd.R_drew HO_8.out)
       replace HO_9 := Aside0.mk (Kd.R_drew HO_9.out)
       replace HO_10 := Aside0.mk (Kd.R_drew HO_10.out)
       replace BK178 := Aside0.mk (blk_drew BK178.out)
       replace HB := Aside0.mk (below_drew1 HB.out)
       have p200 : 0 ≤ (x13_3 : Int) := of_decide_eq_true (by first | (with_reducible assumption) | assumption)
       have q200 : x13_3 < (t185.length : Int) := of_decide_eq_true (by first | (with_reducible assumption) | assumption)
       obtain ⟨ad200, e200, hx200_0⟩ := Kd.at_int (Kd.R_reads' HO_9.out).2.2 x13_3 p200 q200
       obtain rfl : ad188 = ad200 := (by injection e200)
       replace p200 := eq_true p200
       replace q200 := eq_true q200
       obtain ⟨Ao65, co65, eo65⟩ := Kd.R_slice HO_8.out
       (first | subst eo65 | (injection eo65 with f1_ f2_ f3_; have f4_ := f1_.symm; have f5_ := f3_.symm; clear f1_ f2_ f3_; subst f4_; subst f5_))
       have p201 : 0 ≤ (x13_3 : Int) := of_decide_eq_true (by first | (with_reducible assumption) | assumption)
       have q201 : x13_3 < (t182.length : Int) := of_decide_eq_true (by first | (with_reducible assumption) | assumption)
       obtain ⟨ad201, e201, hx201_0⟩ := Kd.at_int (Kd.R_reads' HO_8.out).2.2 x13_3 p201 q201
       cases e201
       replace p201 := eq_true p201
       replace q201 := eq_true q201
       have p202 : 0 ≤ (x11_3 : Int) := of_decide_eq_true (by first | (with_reducible assumption) | assumption)
       have q202 : x11_3 < (t182.length : Int) := of_decide_eq_true (by first | (with_reducible assumption) | assumption)
       obtain ⟨ad202, e202, hx202_0⟩ := Kd.at_int (Kd.R_reads' HO_8.out).2.2 x11_3 p202 q202
       obtain rfl : ad201 = ad202 := (by injection e202)
       replace p202 := eq_true p202
       replace q202 := eq_true q202
       refine start_ (n := 38) (S := fun w' => w'.cell? ⟨gb178, 0, none⟩ = some (.int .i64 a0_0) ∧ w'.cell? ⟨gb178, 1, none⟩ = some (.slice A0_1 l0_1.length c0_1) ∧ w'.cell? (ad188.add (x13_3).toNat) = some (.int .i64 (rd t185 x13_3)) ∧ w'.cell? (ad201.add (x13_3).toNat) = some (.int .i64 (rd t182 x13_3)) ∧ w'.cell? (ad201.add (x11_3).toNat) = some (.int .i64 (rd t182 x11_3))) (ds := []) ba5_0 (by kernel_rfl) rfl rfl ⟨(blk_cell BK178.out 0).trans rfl, (blk_cell BK178.out 1).trans rfl, hx200_0, hx201_0, hx202_0⟩ (fun hHeld => ?_); refine with_tabW spec_CheapestWay.tab14 spec_CheapestWay.bits14 (fun HT_ HW_ => ?_)
       generalize w63.drew = w64 at HO_8 HO_9 HO_10 BK178 HB hx200_0 hx201_0 hx202_0 hHeld ⊢
       refine pz_ 0 63 ba5_1 HT_ ?_
       refine pz_ 1 64 ba5_2 HT_ ?_
       refine pz_ 2 65 ba5_3 HT_ ?_
       refine pz_ 3 66 ba5_4 HT_ ?_
       refine pz_ 4 67 ba5_5 HT_ ?_
       refine pz_ 5 68 ba5_6 HT_ ?_
       refine pz_ 6 69 ba5_7 HT_ ?_
       refine pz_ 7 70 ba5_8 HT_ ?_
       refine pz_ 8 71 ba5_9 HT_ ?_
       refine pz_ 9 72 ba5_10 HT_ ?_
       refine pz_ 10 73 ba5_11 HT_ ?_
       refine pt_ 11 74 ba5_12 HT_ HW_ hHeld ?_
       refine pz_ 12 75 ba5_13 HT_ ?_
       refine pz_ 13 76 ba5_14 HT_ ?_
       refine pz_ 14 77 ba5_15 HT_ ?_
       refine pz_ 15 78 ba5_16 HT_ ?_
       refine pz_ 16 79 ba5_17 HT_ ?_
       refine pz_ 17 80 ba5_18 HT_ ?_
       refine pz_ 20 83 ba5_39 HT_ ?_
       refine pz_ 21 84 ba5_40 HT_ ?_
       refine pz_ 22 85 ba5_41 HT_ ?_
       refine pt_ 18 81 ba5_42 HT_ HW_ hHeld ?_
       refine pz_ 19 82 ba5_23 HT_ ?_
       refine pt_ 23 86 ba5_24 HT_ HW_ hHeld ?_
       refine pz_ 24 87 ba5_25 HT_ ?_
       refine pz_ 25 88 ba5_26 HT_ ?_
       refine pz_ 26 89 ba5_27 HT_ ?_
       refine pz_ 27 90 ba5_28 HT_ ?_
       refine pz_ 29 92 ba5_43 HT_ ?_
       refine pz_ 31 94 ba5_44 HT_ ?_
       refine pz_ 35 98 ba5_45 HT_ ?_
       refine pt_ 28 91 ba5_46 HT_ HW_ hHeld ?_
       refine one_ (i := 30) (N := some 93) ba5_47 rfl rfl (one_of HT_.out (by kernel_rfl)) (by decide) (fun K hK => ?_)
       refine gz_ Try.func33 #[.agg #[.int .i64 a0_0, .slice A0_1 l0_1.length c0_1], .int .i64 x13_3] ?_
       with_reducible refine (spec_Distances.calls k3 a0_0 _ _ l0_1 x13_3 t203 _ ?side1 ?side2 A57.out).mono ?_
       (case side1 => exact cb_ HR0_1 HB)
       (case side2 => exact HC0_1.out)
       rintro e w66 ⟨v204, rfl, ho0, hb⟩
       have HS2_ := (hb.cell (World.block_lt_of_cell? _ _ (hHeld.2.2.1))).trans (hHeld.2.2.1)
       have HS3_ := (hb.cell (World.block_lt_of_cell? _ _ (hHeld.2.2.2.1))).trans (hHeld.2.2.2.1)
       have HS4_ := (hb.cell (World.block_lt_of_cell? _ _ (hHeld.2.2.2.2))).trans (hHeld.2.2.2.2)
       refine ⟨_, rfl, ?_⟩
       have HO205 := Aside0.mk (Kd.R_lower (Kd.R_new' (Kd.R_new' (Kd.R_new' ho0 (Kd.R_lt (hd_ HO_8))) (Kd.R_lt (hd_ HO_9))) (Kd.R_lt (hd_ HO_10))) (bz_ HB))
       replace HO_8 := Aside0.mk (Kd.R_elder' (hd_ HO_8) (Kd.R_base ho0) hb)
       replace HO_9 := Aside0.mk (Kd.R_elder' (hd_ HO_9) (Kd.R_base ho0) hb)
       replace HO_10 := Aside0.mk (Kd.R_elder' (hd_ HO_10) (Kd.R_base ho0) hb)
       replace BK178 := Aside0.mk (bb_ BK178 hb)
       replace HB := Aside0.mk (bt_ HB hb)
       (try clear hb)
       (try clear hb2)
       (try clear hk)
       (try clear hi)
       (try clear ho0)
       obtain ⟨Ao67, co67, eo67⟩ := Kd.R_slice HO205.out
       (first | subst eo67 | (injection eo67 with f1_ f2_ f3_; have f4_ := f1_.symm; have f5_ := f3_.symm; clear f1_ f2_ f3_; subst f4_; subst f5_))
       have p206 : 0 ≤ (a2 : Int) := of_decide_eq_true (by first | (with_reducible assumption) | assumption)
       have q206 : a2 < (t203.length : Int) := of_decide_eq_true (by first | (with_reducible assumption) | assumption)
       obtain ⟨ad206, e206, hx206_0⟩ := Kd.at_int (Kd.R_reads' HO205.out).2.2 a2 p206 q206
       cases e206
       replace p206 := eq_true p206
       replace q206 := eq_true q206
       refine hK.out _ _ ⟨(blk_cell BK178.out 0).trans rfl, (blk_cell BK178.out 1).trans rfl, HS2_, HS3_, HS4_⟩ (fun hHeld => ?_)
       clear hK K
       refine nz_ 93 ?_
       refine pz_ 32 95 ba5_48 HT_ ?_
       refine po_ 33 96 ba5_49 HT_ (fun w' => w'.cell? ⟨gb178, 0, none⟩ = some (.int .i64 a0_0) ∧ w'.cell? ⟨gb178, 1, none⟩ = some (.slice A0_1 l0_1.length c0_1) ∧ w'.cell? (ad188.add (x13_3).toNat) = some (.int .i64 (rd t185 x13_3)) ∧ w'.cell? (ad201.add (x13_3).toNat) = some (.int .i64 (rd t182 x13_3)) ∧ w'.cell? (ad201.add (x11_3).toNat) = some (.int .i64 (rd t182 x11_3)) ∧ w'.cell? (ad206.add (a2).toNat) = some (.int .i64 (rd t203 a2))) ⟨hHeld.1, hHeld.2.1, hHeld.2.2.1, hHeld.2.2.2.1, hHeld.2.2.2.2, hx206_0⟩ ?_
       refine pz_ 34 97 ba5_36 HT_ ?_
       refine pz_ 36 99 ba5_37 HT_ ?_
       refine pz_ 37 100 ba5_38 HT_ ?_
       refine done_ (done_of HT_.out (by kernel_rfl)) ?_
       try go_wp2_with (first | ((with_reducible refine gate_builtin (b := .append) (xs := #[.tmp 102, .tmp 104]) rfl ?_); at_builtin; refine Kd.R_append (Kd.int .i64) (w0 := w) w.heap.size rfl (.tmp 102) (.tmp 104) 26 3 (.int .i64 0) 8 rfl Try.underlying26 info3 rfl (by decide) (by omega) u10 x10_2 x13_3 [.int .i64 x13_3] (fun k_ => some k_ ≠ (.slice (some ad201) t182.length co65 : Value).ownBlock ∧ some k_ ≠ (.slice (some ad188) t185.length co33 : Value).ownBlock ∧ some k_ ≠ (.slice (some ad206) t203.length co67 : Value).ownBlock) (fun _ => False) rfl rfl ?aP (fun _ hk => hk.elim) ?aF ?aO ?aB ?aS ?aL ?_; (case aP => exact rfl); (case aB => exact (by repeat (first | (with_reducible first | exact HB.out | apply below_alloc | apply pw_below_drewN | apply below_drew1 | refine below_set ?_ GE178.out) | exact HB.out))); (case aF => exact (fun k_ hk => ⟨Kd.fresh' (Kd.R_lt (hd_ HO_8)) k_ hk, Kd.fresh' (Kd.R_lt (hd_ HO_9)) k_ hk, Kd.fresh' (Kd.R_lt (hd_ HO205)) k_ hk⟩)); (case aO => exact (by (with_reducible repeat (first | apply Kd.R_alloc | apply Kd.R_drewN | apply Kd.R_drew)); exact Kd.R_mono HO_10.out (fun _ hk => ⟨hk.1.1, ⟨hk.1.2, hk.2⟩⟩))); (case aS => exact (bz_ HB)); (case aL => have := LMc61.out; omega); intro v208 w68 ho hb hg hat; rw [← Ny207.out] at ho; have HO209 := Aside0.mk ho; replace HO_8 := Aside0.mk (Kd.R_after (ok := (fun k_ => some k_ ≠ (.slice (some ad188) t185.length co33 : Value).ownBlock ∧ some k_ ≠ (.slice (some ad206) t203.length co67 : Value).ownBlock)) (by (with_reducible repeat (first | apply Kd.R_alloc | apply Kd.R_drewN | apply Kd.R_drew)); exact Kd.R_mono HO_8.out (fun _ hk => ⟨⟨hk.1.1, hk.2⟩, hk.1.2⟩)) hg hat); replace HO_9 := Aside0.mk (Kd.R_after (ok := (fun k_ => some k_ ≠ (.slice (some ad201) t182.length co65 : Value).ownBlock ∧ some k_ ≠ (.slice (some ad206) t203.length co67 : Value).ownBlock)) (by (with_reducible repeat (first | apply Kd.R_alloc | apply Kd.R_drewN | apply Kd.R_drew)); exact Kd.R_mono HO_9.out (fun _ hk => ⟨⟨hk.1.1, hk.2⟩, hk.1.2⟩)) hg hat); replace BK178 := Aside0.mk (blk_grown (g := gb178) (o := .cells #[.int .i64 a0_0, .slice A0_1 l0_1.length c0_1] 30 (0, 0)) (by (with_reducible repeat (first | refine blk_drewN ?_ _ | refine blk_drew ?_ | refine blk_alloc ?_ _)); exact BK178.out) hg (Kd.R_ne HO_10.out BK178.out (by decide))); replace HO205 := Aside0.mk (Kd.R_after (ok := (fun k_ => some k_ ≠ (.slice (some ad201) t182.length co65 : Value).ownBlock ∧ some k_ ≠ (.slice (some ad188) t185.length co33 : Value).ownBlock)) (by (with_reducible repeat (first | apply Kd.R_alloc | apply Kd.R_drewN | apply Kd.R_drew)); exact Kd.R_mono HO205.out (fun _ hk => ⟨⟨hk.1.1.2, hk.1.2⟩, hk.2⟩)) hg hat); replace HB := Aside0.mk (hb); clear HO_10; clear ho hb hg hat))
       go_roundg k3
       case measure => have := HJ3.out; have := HK2.out; have := HK3.out; omega
       case rel => exact ⟨(y207), (x13_3), (by first | rfl | (simp; done) | (simp [*]; done)), H', ⟨by have := HJ3.out; have := HK2.out; have := HK3.out; omega⟩, ⟨by (with_reducible repeat (first | apply Kd.R_alloc | apply Kd.R_drewN | apply Kd.R_drew)); exact Kd.R_mono HO_8.out (fun _ hk => by first | exact ⟨hk.1.1, hk.2⟩ | grind)⟩, ⟨by (with_reducible repeat (first | apply Kd.R_alloc | apply Kd.R_drewN | apply Kd.R_drew)); exact Kd.R_mono HO_9.out (fun _ hk => by first | exact ⟨hk.1.1, hk.2⟩ | grind)⟩, ⟨by (with_reducible repeat (first | apply Kd.R_alloc | apply Kd.R_drewN | apply Kd.R_drew)); exact Kd.R_mono HO209.out (fun _ hk => by first | exact ⟨hk.1, hk.2.1⟩ | grind)⟩, ⟨by (with_reducible repeat (first | refine blk_drewN ?_ _ | refine blk_drew ?_ | refine blk_alloc ?_ _)); exact BK178.out⟩, ⟨by repeat (first | (with_reducible first | exact HB.out | apply below_alloc | apply pw_below_drewN | apply below_drew1 | refine below_set ?_ GE178.out) | exact HB.out)⟩⟩

end Go.Proofs.Ythmahcohcphljaa.QFnExactTreeOf
