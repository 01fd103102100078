/- Contracts of functions that the law reaches: what each call returns and what it leaves in memory. Made by this session over the print of the kit. -/
import Derived.Test.YtjepmdngbafonaaQFnAggregatex0
import Derived.Test.YtjepmdngbafonaaQFnAggregatex1
import Derived.Test.YtjepmdngbafonaaQFnAggregatex2
import Derived.Test.YtjepmdngbafonaaQFnAggregatex12
import Derived.Test.YtjepmdngbafonaaQFnAggregatex15
import Derived.Test.YtjepmdngbafonaaQFnAggregatex17
import Derived.Test.YtjepmdngbafonaaQFnAggregatex18
import Derived.Test.YtjepmdngbafonaaQFnAggregatex19
namespace Go.Proofs.Ytjepmdngbafonaa.QFnAggregate
open Go.RowKit Go.Proofs.YtjepmdngbafonaaB.PrintWords Go.Proofs.YtjepmdngbafonaaB.PrintLast Go.Proofs.YtjepmdngbafonaaB.PrintMore
attribute [local go_sem] max2_int min2_int max_two min_two max_three min_three max_four min_four   -- for this text's walks alone
set_option linter.unusedVariables false
set_option linter.unusedSimpArgs false
abbrev tb20 : Bool := true
abbrev fb20 : Bool := false
def ba20_0 : Array Bool := #[fb20,fb20,fb20,fb20,fb20,fb20,fb20,fb20,fb20,fb20,fb20,fb20,fb20,fb20,fb20,fb20,fb20,fb20,fb20,fb20,fb20,fb20,fb20,fb20,fb20,fb20,fb20,fb20,fb20,fb20,fb20,fb20,fb20,fb20,fb20,fb20]
def ba20_1 : Array Bool := #[tb20,fb20,fb20,fb20,fb20,fb20,fb20,fb20,fb20,fb20,fb20,fb20,fb20,fb20,fb20,fb20,fb20,fb20,fb20,fb20,fb20,fb20,fb20,fb20,fb20,fb20,fb20,fb20,fb20,fb20,fb20,fb20,fb20,fb20,fb20,fb20]
def ba20_2 : Array Bool := #[tb20,tb20,fb20,fb20,fb20,fb20,fb20,fb20,fb20,fb20,fb20,fb20,fb20,fb20,fb20,fb20,fb20,fb20,fb20,fb20,fb20,fb20,fb20,fb20,fb20,fb20,fb20,fb20,fb20,fb20,fb20,fb20,fb20,fb20,fb20,fb20]
def ba20_3 : Array Bool := #[tb20,tb20,tb20,fb20,fb20,fb20,fb20,fb20,fb20,fb20,fb20,fb20,fb20,fb20,fb20,fb20,fb20,fb20,fb20,fb20,fb20,fb20,fb20,fb20,fb20,fb20,fb20,fb20,fb20,fb20,fb20,fb20,fb20,fb20,fb20,fb20]
def ba20_4 : Array Bool := #[tb20,tb20,tb20,tb20,fb20,fb20,fb20,fb20,fb20,fb20,fb20,fb20,fb20,fb20,fb20,fb20,fb20,fb20,fb20,fb20,fb20,fb20,fb20,fb20,fb20,fb20,fb20,fb20,fb20,fb20,fb20,fb20,fb20,fb20,fb20,fb20]
def ba20_5 : Array Bool := #[tb20,tb20,tb20,tb20,tb20,fb20,fb20,fb20,fb20,fb20,fb20,fb20,fb20,fb20,fb20,fb20,fb20,fb20,fb20,fb20,fb20,fb20,fb20,fb20,fb20,fb20,fb20,fb20,fb20,fb20,fb20,fb20,fb20,fb20,fb20,fb20]
def ba20_6 : Array Bool := #[tb20,tb20,tb20,tb20,tb20,tb20,fb20,fb20,fb20,fb20,fb20,fb20,fb20,fb20,fb20,fb20,fb20,fb20,fb20,fb20,fb20,fb20,fb20,fb20,fb20,fb20,fb20,fb20,fb20,fb20,fb20,fb20,fb20,fb20,fb20,fb20]
def ba20_7 : Array Bool := #[tb20,tb20,tb20,tb20,tb20,tb20,tb20,fb20,fb20,fb20,fb20,fb20,fb20,fb20,fb20,fb20,fb20,fb20,fb20,fb20,fb20,fb20,fb20,fb20,fb20,fb20,fb20,fb20,fb20,fb20,fb20,fb20,fb20,fb20,fb20,fb20]
def ba20_8 : Array Bool := #[tb20,tb20,tb20,tb20,tb20,tb20,tb20,fb20,tb20,fb20,fb20,fb20,fb20,fb20,fb20,fb20,fb20,fb20,fb20,fb20,fb20,fb20,fb20,fb20,fb20,fb20,fb20,fb20,fb20,fb20,fb20,fb20,fb20,fb20,fb20,fb20]
def ba20_9 : Array Bool := #[tb20,tb20,tb20,tb20,tb20,tb20,tb20,fb20,tb20,tb20,fb20,fb20,fb20,fb20,fb20,fb20,fb20,fb20,fb20,fb20,fb20,fb20,fb20,fb20,fb20,fb20,fb20,fb20,fb20,fb20,fb20,fb20,fb20,fb20,fb20,fb20]
def ba20_10 : Array Bool := #[tb20,tb20,tb20,tb20,tb20,tb20,tb20,fb20,tb20,tb20,tb20,fb20,fb20,fb20,fb20,fb20,fb20,fb20,fb20,fb20,fb20,fb20,fb20,fb20,fb20,fb20,fb20,fb20,fb20,fb20,fb20,fb20,fb20,fb20,fb20,fb20]
def ba20_11 : Array Bool := #[tb20,tb20,tb20,tb20,tb20,tb20,tb20,tb20,tb20,tb20,tb20,fb20,fb20,fb20,fb20,fb20,fb20,fb20,fb20,fb20,fb20,fb20,fb20,fb20,fb20,fb20,fb20,fb20,fb20,fb20,fb20,fb20,fb20,fb20,fb20,fb20]
def ba20_12 : Array Bool := #[tb20,tb20,tb20,tb20,tb20,tb20,tb20,tb20,tb20,tb20,tb20,tb20,fb20,fb20,fb20,fb20,fb20,fb20,fb20,fb20,fb20,fb20,fb20,fb20,fb20,fb20,fb20,fb20,fb20,fb20,fb20,fb20,fb20,fb20,fb20,fb20]
def ba20_13 : Array Bool := #[tb20,tb20,tb20,tb20,tb20,tb20,tb20,tb20,tb20,tb20,tb20,tb20,tb20,fb20,fb20,fb20,fb20,fb20,fb20,fb20,fb20,fb20,fb20,fb20,fb20,fb20,fb20,fb20,fb20,fb20,fb20,fb20,fb20,fb20,fb20,fb20]
def ba20_14 : Array Bool := #[tb20,tb20,tb20,tb20,tb20,tb20,tb20,tb20,tb20,tb20,tb20,tb20,tb20,tb20,fb20,fb20,fb20,fb20,fb20,fb20,fb20,fb20,fb20,fb20,fb20,fb20,fb20,fb20,fb20,fb20,fb20,fb20,fb20,fb20,fb20,fb20]
def ba20_15 : Array Bool := #[tb20,tb20,tb20,tb20,tb20,tb20,tb20,tb20,tb20,tb20,tb20,tb20,tb20,tb20,tb20,fb20,fb20,fb20,fb20,fb20,fb20,fb20,fb20,fb20,fb20,fb20,fb20,fb20,fb20,fb20,fb20,fb20,fb20,fb20,fb20,fb20]
def ba20_16 : Array Bool := #[tb20,tb20,tb20,tb20,tb20,tb20,tb20,tb20,tb20,tb20,tb20,tb20,tb20,tb20,tb20,tb20,fb20,fb20,fb20,fb20,fb20,fb20,fb20,fb20,fb20,fb20,fb20,fb20,fb20,fb20,fb20,fb20,fb20,fb20,fb20,fb20]
def ba20_17 : Array Bool := #[tb20,tb20,tb20,tb20,tb20,tb20,tb20,tb20,tb20,tb20,tb20,tb20,tb20,tb20,tb20,tb20,tb20,fb20,fb20,fb20,fb20,fb20,fb20,fb20,fb20,fb20,fb20,fb20,fb20,fb20,fb20,fb20,fb20,fb20,fb20,fb20]
def ba20_18 : Array Bool := #[tb20,tb20,tb20,tb20,tb20,tb20,tb20,tb20,tb20,tb20,tb20,tb20,tb20,tb20,tb20,tb20,tb20,tb20,fb20,fb20,fb20,fb20,fb20,fb20,fb20,fb20,fb20,fb20,fb20,fb20,fb20,fb20,fb20,fb20,fb20,fb20]
def ba20_19 : Array Bool := #[tb20,tb20,tb20,tb20,tb20,tb20,tb20,tb20,tb20,tb20,tb20,tb20,tb20,tb20,tb20,tb20,tb20,tb20,tb20,fb20,fb20,fb20,fb20,fb20,fb20,fb20,fb20,fb20,fb20,fb20,fb20,fb20,fb20,fb20,fb20,fb20]
def ba20_20 : Array Bool := #[tb20,tb20,tb20,tb20,tb20,tb20,tb20,tb20,tb20,tb20,tb20,tb20,tb20,tb20,tb20,tb20,tb20,tb20,tb20,tb20,fb20,fb20,fb20,fb20,fb20,fb20,fb20,fb20,fb20,fb20,fb20,fb20,fb20,fb20,fb20,fb20]
def ba20_21 : Array Bool := #[tb20,tb20,tb20,tb20,tb20,tb20,tb20,tb20,tb20,tb20,tb20,tb20,tb20,tb20,tb20,tb20,tb20,tb20,tb20,tb20,tb20,fb20,fb20,fb20,fb20,fb20,fb20,fb20,fb20,fb20,fb20,fb20,fb20,fb20,fb20,fb20]
def ba20_22 : Array Bool := #[tb20,tb20,tb20,tb20,tb20,tb20,tb20,tb20,tb20,tb20,tb20,tb20,tb20,tb20,tb20,tb20,tb20,tb20,tb20,tb20,tb20,tb20,fb20,fb20,fb20,fb20,fb20,fb20,fb20,fb20,fb20,fb20,fb20,fb20,fb20,fb20]
def ba20_23 : Array Bool := #[tb20,tb20,tb20,tb20,tb20,tb20,tb20,tb20,tb20,tb20,tb20,tb20,tb20,tb20,tb20,tb20,tb20,tb20,tb20,tb20,tb20,tb20,tb20,fb20,fb20,fb20,fb20,fb20,fb20,fb20,fb20,fb20,fb20,fb20,fb20,fb20]
def ba20_24 : Array Bool := #[tb20,tb20,tb20,tb20,tb20,tb20,tb20,tb20,tb20,tb20,tb20,tb20,tb20,tb20,tb20,tb20,tb20,tb20,tb20,tb20,tb20,tb20,tb20,tb20,fb20,fb20,fb20,fb20,fb20,fb20,fb20,fb20,fb20,fb20,fb20,fb20]
def ba20_25 : Array Bool := #[tb20,tb20,tb20,tb20,tb20,tb20,tb20,tb20,tb20,tb20,tb20,tb20,tb20,tb20,tb20,tb20,tb20,tb20,tb20,tb20,tb20,tb20,tb20,tb20,tb20,fb20,fb20,fb20,fb20,fb20,fb20,fb20,fb20,fb20,fb20,fb20]
def ba20_26 : Array Bool := #[tb20,tb20,tb20,tb20,tb20,tb20,tb20,tb20,tb20,tb20,tb20,tb20,tb20,tb20,tb20,tb20,tb20,tb20,tb20,tb20,tb20,tb20,tb20,tb20,tb20,tb20,fb20,fb20,fb20,fb20,fb20,fb20,fb20,fb20,fb20,fb20]
def ba20_27 : Array Bool := #[tb20,tb20,tb20,tb20,tb20,tb20,tb20,tb20,tb20,tb20,tb20,tb20,tb20,tb20,tb20,tb20,tb20,tb20,tb20,tb20,tb20,tb20,tb20,tb20,tb20,tb20,tb20,fb20,fb20,fb20,fb20,fb20,fb20,fb20,fb20,fb20]
def ba20_28 : Array Bool := #[tb20,tb20,tb20,tb20,tb20,tb20,tb20,tb20,tb20,tb20,tb20,tb20,tb20,tb20,tb20,tb20,tb20,tb20,tb20,tb20,tb20,tb20,tb20,tb20,tb20,tb20,tb20,tb20,fb20,fb20,fb20,fb20,fb20,fb20,fb20,fb20]
def ba20_29 : Array Bool := #[tb20,tb20,tb20,tb20,tb20,tb20,tb20,tb20,tb20,tb20,tb20,tb20,tb20,tb20,tb20,tb20,tb20,tb20,tb20,tb20,tb20,tb20,tb20,tb20,tb20,tb20,tb20,tb20,tb20,fb20,fb20,fb20,fb20,fb20,fb20,fb20]
def ba20_30 : Array Bool := #[tb20,tb20,tb20,tb20,tb20,tb20,tb20,tb20,tb20,tb20,tb20,tb20,tb20,tb20,tb20,tb20,tb20,tb20,tb20,tb20,tb20,tb20,tb20,tb20,tb20,tb20,tb20,tb20,tb20,tb20,fb20,fb20,fb20,fb20,fb20,fb20]
def ba20_31 : Array Bool := #[tb20,tb20,tb20,tb20,tb20,tb20,tb20,tb20,tb20,tb20,tb20,tb20,tb20,tb20,tb20,tb20,tb20,tb20,tb20,tb20,tb20,tb20,tb20,tb20,tb20,tb20,tb20,tb20,tb20,tb20,tb20,fb20,fb20,fb20,fb20,fb20]
def ba20_32 : Array Bool := #[tb20,tb20,tb20,tb20,tb20,tb20,tb20,tb20,tb20,tb20,tb20,tb20,tb20,tb20,tb20,tb20,tb20,tb20,tb20,tb20,tb20,tb20,tb20,tb20,tb20,tb20,tb20,tb20,tb20,tb20,tb20,tb20,fb20,fb20,fb20,fb20]
def ba20_33 : Array Bool := #[tb20,tb20,tb20,tb20,tb20,tb20,tb20,tb20,tb20,tb20,tb20,tb20,tb20,tb20,tb20,tb20,tb20,tb20,tb20,tb20,tb20,tb20,tb20,tb20,tb20,tb20,tb20,tb20,tb20,tb20,tb20,tb20,tb20,fb20,fb20,fb20]
def ba20_34 : Array Bool := #[tb20,tb20,tb20,tb20,tb20,tb20,tb20,tb20,tb20,tb20,tb20,tb20,tb20,tb20,tb20,tb20,tb20,tb20,tb20,tb20,tb20,tb20,tb20,tb20,tb20,tb20,tb20,tb20,tb20,tb20,tb20,tb20,tb20,tb20,fb20,fb20]
def ba20_35 : Array Bool := #[tb20,tb20,tb20,tb20,tb20,tb20,tb20,tb20,tb20,tb20,tb20,tb20,tb20,tb20,tb20,tb20,tb20,tb20,tb20,tb20,tb20,tb20,tb20,tb20,tb20,tb20,tb20,tb20,tb20,tb20,tb20,tb20,tb20,tb20,tb20,fb20]
def ba20_36 : Array Bool := #[tb20,tb20,tb20,tb20,tb20,tb20,tb20,tb20,tb20,tb20,tb20,tb20,tb20,tb20,tb20,tb20,tb20,tb20,tb20,tb20,tb20,tb20,tb20,tb20,tb20,tb20,tb20,tb20,tb20,tb20,tb20,tb20,tb20,tb20,tb20,tb20]
def ba20_37 : Array Bool := #[tb20,tb20,tb20,tb20,tb20,tb20,tb20,tb20,tb20,tb20,tb20,tb20,tb20,tb20,tb20,tb20,tb20,tb20,fb20,tb20,fb20,fb20,fb20,fb20,fb20,fb20,fb20,fb20,fb20,fb20,fb20,fb20,fb20,fb20,fb20,fb20]
def ba20_38 : Array Bool := #[tb20,tb20,tb20,tb20,tb20,tb20,tb20,tb20,tb20,tb20,tb20,tb20,tb20,tb20,tb20,tb20,tb20,tb20,fb20,tb20,tb20,fb20,fb20,fb20,fb20,fb20,fb20,fb20,fb20,fb20,fb20,fb20,fb20,fb20,fb20,fb20]
def ba20_39 : Array Bool := #[tb20,tb20,tb20,tb20,tb20,tb20,tb20,tb20,tb20,tb20,tb20,tb20,tb20,tb20,tb20,tb20,tb20,tb20,fb20,tb20,tb20,tb20,fb20,fb20,fb20,fb20,fb20,fb20,fb20,fb20,fb20,fb20,fb20,fb20,fb20,fb20]
def ba20_40 : Array Bool := #[tb20,tb20,tb20,tb20,tb20,tb20,tb20,tb20,tb20,tb20,tb20,tb20,tb20,tb20,tb20,tb20,tb20,tb20,tb20,tb20,tb20,tb20,tb20,tb20,tb20,tb20,tb20,tb20,tb20,fb20,tb20,fb20,fb20,fb20,fb20,fb20]
def ba20_41 : Array Bool := #[tb20,tb20,tb20,tb20,tb20,tb20,tb20,tb20,tb20,tb20,tb20,tb20,tb20,tb20,tb20,tb20,tb20,tb20,tb20,tb20,tb20,tb20,tb20,tb20,tb20,tb20,tb20,tb20,tb20,fb20,tb20,tb20,fb20,fb20,fb20,fb20]
def ba20_42 : Array Bool := #[tb20,tb20,tb20,tb20,tb20,tb20,tb20,tb20,tb20,tb20,tb20,tb20,tb20,tb20,tb20,tb20,tb20,tb20,tb20,tb20,tb20,tb20,tb20,tb20,tb20,tb20,tb20,tb20,tb20,fb20,tb20,tb20,tb20,fb20,fb20,fb20]
def ba20_43 : Array Bool := #[tb20,tb20,tb20,tb20,tb20,tb20,tb20,tb20,fb20,fb20,fb20,fb20,fb20,fb20,fb20,fb20,fb20,fb20,fb20,fb20,fb20,fb20,fb20,fb20,fb20,fb20,fb20,fb20,fb20,fb20,fb20,fb20,fb20,fb20,fb20,fb20]
def ba20_44 : Array Bool := #[tb20,tb20,tb20,tb20,tb20,tb20,tb20,tb20,tb20,fb20,fb20,fb20,fb20,fb20,fb20,fb20,fb20,fb20,fb20,fb20,fb20,fb20,fb20,fb20,fb20,fb20,fb20,fb20,fb20,fb20,fb20,fb20,fb20,fb20,fb20,fb20]
def ba20_45 : Array Bool := #[tb20,tb20,tb20,tb20,tb20,tb20,tb20,tb20,tb20,tb20,fb20,fb20,fb20,fb20,fb20,fb20,fb20,fb20,fb20,fb20,fb20,fb20,fb20,fb20,fb20,fb20,fb20,fb20,fb20,fb20,fb20,fb20,fb20,fb20,fb20,fb20]

attribute [local go_sem high] eqA28
/-! ### laws_FnAggregate: function 7 -/
mutual
def laws_FnAggregate.j0 : Nat → List Int → List (S28) → Bool → List (S28) → Bool → Option (Bool)
 | 0, _, _, _, _, _ => none
 | k + 1, x0, x3, x5, x6, x43 => if x43 = true then (some false) else (if x5 = true then (laws_FnAggregate.j1 k x0 x3 x6 (decide ((x6.length : Int) > 200))) else (laws_FnAggregate.j1 k x0 x3 x6 true))
def laws_FnAggregate.j1 : Nat → List Int → List (S28) → List (S28) → Bool → Option (Bool)
 | 0, _, _, _, _ => none
 | k + 1, x0, x3, x6, x50 => if x50 = true then (some true) else (laws_FnAggregate.l0 k x0 x3 x6 0 0)
def laws_FnAggregate.l0 : Nat → List Int → List (S28) → List (S28) → Int → Int → Option (Bool)
 | 0, _, _, _, _, _ => none
 | k + 1, x0, x3, x6, x8, x9 => if x9 < (x6.length : Int) then (if 0 ≤ x9 then (if 0 ≤ (IntKind.u64.wrap (wrap64 (16 - ((rd_T28 x6 x9).f1)))) then (laws_FnAggregate.l1 k x0 x3 x6 (wrap64 (x8 + (shl .i64 1 (IntKind.u64.wrap (wrap64 (16 - ((rd_T28 x6 x9).f1))))))) x9 0) else (none)) else (none)) else ((impl_Aggregate.f k x6).bind fun bt586 => ((impl_CountAddrs.f k x3).bind fun t590 => (if x8 = t590 then ((laws_samePrefixes.f k bt586.1 x6).bind fun t591 => (laws_FnAggregate.j4 k x0 (!t591))) else (laws_FnAggregate.j4 k x0 true))))
def laws_FnAggregate.l1 : Nat → List Int → List (S28) → List (S28) → Int → Int → Int → Option (Bool)
 | 0, _, _, _, _, _, _ => none
 | k + 1, x0, x3, x6, x8, x9, x10 => if x10 < x9 then (if 0 ≤ x9 then (if x9 < (x6.length : Int) then ((impl_Sibling.f ((rd_T28 x6 x9).f0) ((rd_T28 x6 x9).f1)).bind fun bt568 => (if ((rd_T28 x6 x9).f1) > 0 then (if 0 ≤ x10 then (if x10 < (x6.length : Int) then (if (bt568.1 == ((rd_T28 x6 x10).f0) && (bt568.2.1 == ((rd_T28 x6 x10).f1))) = true then (some false) else ((impl_CoversPrefix.f ((rd_T28 x6 x9).f0) ((rd_T28 x6 x9).f1) ((rd_T28 x6 x10).f0) ((rd_T28 x6 x10).f1)).bind fun t576 => (if t576 = true then (some false) else ((impl_CoversPrefix.f ((rd_T28 x6 x10).f0) ((rd_T28 x6 x10).f1) ((rd_T28 x6 x9).f0) ((rd_T28 x6 x9).f1)).bind fun t579 => (if t579 = true then (some false) else (laws_FnAggregate.l1 k x0 x3 x6 x8 x9 (wrap64 (x10 + 1)))))))) else (none)) else (none)) else (if 0 ≤ x10 then (if x10 < (x6.length : Int) then ((impl_CoversPrefix.f ((rd_T28 x6 x9).f0) ((rd_T28 x6 x9).f1) ((rd_T28 x6 x10).f0) ((rd_T28 x6 x10).f1)).bind fun t582 => (if t582 = true then (some false) else ((impl_CoversPrefix.f ((rd_T28 x6 x10).f0) ((rd_T28 x6 x10).f1) ((rd_T28 x6 x9).f0) ((rd_T28 x6 x9).f1)).bind fun t585 => (if t585 = true then (some false) else (laws_FnAggregate.l1 k x0 x3 x6 x8 x9 (wrap64 (x10 + 1))))))) else (none)) else (none)))) else (none)) else (none)) else (laws_FnAggregate.l0 k x0 x3 x6 x8 (wrap64 (x9 + 1)))
def laws_FnAggregate.j4 : Nat → List Int → Bool → Option (Bool)
 | 0, _, _ => none
 | k + 1, x0, x130 => if x130 = true then (some false) else ((laws_alt.f k x0 1).bind fun t592 => ((spec_DrawCover.f k t592).bind fun bt595 => ((impl_Cover.f k bt595.1 bt595.2).bind fun bt597 => (if bt597.2 = true then ((impl_Aggregate.f k bt597.1).bind fun bt601 => ((impl_CountAddrs.f k bt597.1).bind fun t605 => (if t605 = (wrap64 ((wrap64 (bt595.2 - bt595.1)) + 1)) then ((laws_samePrefixes.f k bt601.1 bt597.1).bind fun t606 => (some t606)) else (some false)))) else (some true)))))
end
def laws_FnAggregate.f (k : Nat) (l0 : List Int) : Option (Bool) := (laws_big.f l0).bind fun t553 => (if t553 = true then (some true) else ((spec_DrawAggregate.f k l0).bind fun t554 => ((spec_Aggregate.f k t554).bind fun bt557 => ((impl_Aggregate.f k t554).bind fun bt561 => (if (bt561.2 != bt557.2) = true then (laws_FnAggregate.j0 k l0 t554 bt557.2 bt561.1 true) else ((laws_samePrefixes.f k bt561.1 bt557.1).bind fun t565 => (laws_FnAggregate.j0 k l0 t554 bt557.2 bt561.1 (!t565))))))))
theorem laws_FnAggregate.mono_l : ∀ k, (∀ y0 y1 y2 y3 y4, LeO (laws_FnAggregate.j0 k y0 y1 y2 y3 y4) (laws_FnAggregate.j0 (k + 1) y0 y1 y2 y3 y4)) ∧ (∀ y0 y1 y2 y3, LeO (laws_FnAggregate.j1 k y0 y1 y2 y3) (laws_FnAggregate.j1 (k + 1) y0 y1 y2 y3)) ∧ (∀ y0 y1 y2 y3 y4, LeO (laws_FnAggregate.l0 k y0 y1 y2 y3 y4) (laws_FnAggregate.l0 (k + 1) y0 y1 y2 y3 y4)) ∧ (∀ y0 y1 y2 y3 y4 y5, LeO (laws_FnAggregate.l1 k y0 y1 y2 y3 y4 y5) (laws_FnAggregate.l1 (k + 1) y0 y1 y2 y3 y4 y5)) ∧ (∀ y0 y1, LeO (laws_FnAggregate.j4 k y0 y1) (laws_FnAggregate.j4 (k + 1) y0 y1))
 | 0 => ⟨fun _ _ _ _ _ r h => by simp [laws_FnAggregate.j0] at h, fun _ _ _ _ r h => by simp [laws_FnAggregate.j1] at h, fun _ _ _ _ _ r h => by simp [laws_FnAggregate.l0] at h, fun _ _ _ _ _ _ r h => by simp [laws_FnAggregate.l1] at h, fun _ _ r h => by simp [laws_FnAggregate.j4] at h⟩
 | k + 1 => by
  obtain ⟨ih0, ih1, ih2, ih3, ih4⟩ := laws_FnAggregate.mono_l k
  refine ⟨?_, ?_, ?_, ?_, ?_⟩
  ·intro y0 y1 y2 y3 y4
   unfold laws_FnAggregate.j0
   repeat' first
   | (with_reducible exact ih0 _ _ _ _ _)
   | (with_reducible exact ih1 _ _ _ _)
   | (with_reducible exact ih2 _ _ _ _ _)
   | (with_reducible exact ih3 _ _ _ _ _ _)
   | (with_reducible exact ih4 _ _)
   | (with_reducible exact impl_Aggregate.mono _ _)
   | (with_reducible exact impl_CountAddrs.mono _ _)
   | (with_reducible exact impl_Cover.mono _ _ _)
   | (with_reducible exact laws_alt.mono _ _ _)
   | (with_reducible exact laws_samePrefixes.mono _ _ _)
   | (with_reducible exact spec_Aggregate.mono _ _)
   | (with_reducible exact spec_DrawAggregate.mono _ _)
   | (with_reducible exact spec_DrawCover.mono _ _)
   | (with_reducible exact LeO.refl _)
   | (with_reducible exact LeO.none _)
   | (with_reducible refine LeO.ite ?_ ?_)
   | (with_reducible refine LeO.bind ?_ (fun _ => ?_))
   | exact ih0 _ _ _ _ _
   | exact ih1 _ _ _ _
   | exact ih2 _ _ _ _ _
   | exact ih3 _ _ _ _ _ _
   | exact ih4 _ _
   | exact impl_Aggregate.mono _ _
   | exact impl_CountAddrs.mono _ _
   | exact impl_Cover.mono _ _ _
   | exact laws_alt.mono _ _ _
   | exact laws_samePrefixes.mono _ _ _
   | exact spec_Aggregate.mono _ _
   | exact spec_DrawAggregate.mono _ _
   | exact spec_DrawCover.mono _ _
   | exact LeO.none _
   | refine LeO.ite ?_ ?_
   | refine LeO.bind ?_ (fun _ => ?_)
  ·intro y0 y1 y2 y3
   unfold laws_FnAggregate.j1
   repeat' first
   | (with_reducible exact ih0 _ _ _ _ _)
   | (with_reducible exact ih1 _ _ _ _)
   | (with_reducible exact ih2 _ _ _ _ _)
   | (with_reducible exact ih3 _ _ _ _ _ _)
   | (with_reducible exact ih4 _ _)
   | (with_reducible exact impl_Aggregate.mono _ _)
   | (with_reducible exact impl_CountAddrs.mono _ _)
   | (with_reducible exact impl_Cover.mono _ _ _)
   | (with_reducible exact laws_alt.mono _ _ _)
   | (with_reducible exact laws_samePrefixes.mono _ _ _)
   | (with_reducible exact spec_Aggregate.mono _ _)
   | (with_reducible exact spec_DrawAggregate.mono _ _)
   | (with_reducible exact spec_DrawCover.mono _ _)
   | (with_reducible exact LeO.refl _)
   | (with_reducible exact LeO.none _)
   | (with_reducible refine LeO.ite ?_ ?_)
   | (with_reducible refine LeO.bind ?_ (fun _ => ?_))
   | exact ih0 _ _ _ _ _
   | exact ih1 _ _ _ _
   | exact ih2 _ _ _ _ _
   | exact ih3 _ _ _ _ _ _
   | exact ih4 _ _
   | exact impl_Aggregate.mono _ _
   | exact impl_CountAddrs.mono _ _
   | exact impl_Cover.mono _ _ _
   | exact laws_alt.mono _ _ _
   | exact laws_samePrefixes.mono _ _ _
   | exact spec_Aggregate.mono _ _
   | exact spec_DrawAggregate.mono _ _
   | exact spec_DrawCover.mono _ _
   | exact LeO.none _
   | refine LeO.ite ?_ ?_
   | refine LeO.bind ?_ (fun _ => ?_)
  ·intro y0 y1 y2 y3 y4
   unfold laws_FnAggregate.l0
   repeat' first
   | (with_reducible exact ih0 _ _ _ _ _)
   | (with_reducible exact ih1 _ _ _ _)
   | (with_reducible exact ih2 _ _ _ _ _)
   | (with_reducible exact ih3 _ _ _ _ _ _)
   | (with_reducible exact ih4 _ _)
   | (with_reducible exact impl_Aggregate.mono _ _)
   | (with_reducible exact impl_CountAddrs.mono _ _)
   | (with_reducible exact impl_Cover.mono _ _ _)
   | (with_reducible exact laws_alt.mono _ _ _)
   | (with_reducible exact laws_samePrefixes.mono _ _ _)
   | (with_reducible exact spec_Aggregate.mono _ _)
   | (with_reducible exact spec_DrawAggregate.mono _ _)
   | (with_reducible exact spec_DrawCover.mono _ _)
   | (with_reducible exact LeO.refl _)
   | (with_reducible exact LeO.none _)
   | (with_reducible refine LeO.ite ?_ ?_)
   | (with_reducible refine LeO.bind ?_ (fun _ => ?_))
   | exact ih0 _ _ _ _ _
   | exact ih1 _ _ _ _
   | exact ih2 _ _ _ _ _
   | exact ih3 _ _ _ _ _ _
   | exact ih4 _ _
   | exact impl_Aggregate.mono _ _
   | exact impl_CountAddrs.mono _ _
   | exact impl_Cover.mono _ _ _
   | exact laws_alt.mono _ _ _
   | exact laws_samePrefixes.mono _ _ _
   | exact spec_Aggregate.mono _ _
   | exact spec_DrawAggregate.mono _ _
   | exact spec_DrawCover.mono _ _
   | exact LeO.none _
   | refine LeO.ite ?_ ?_
   | refine LeO.bind ?_ (fun _ => ?_)
  ·intro y0 y1 y2 y3 y4 y5
   unfold laws_FnAggregate.l1
   repeat' first
   | (with_reducible exact ih0 _ _ _ _ _)
   | (with_reducible exact ih1 _ _ _ _)
   | (with_reducible exact ih2 _ _ _ _ _)
   | (with_reducible exact ih3 _ _ _ _ _ _)
   | (with_reducible exact ih4 _ _)
   | (with_reducible exact impl_Aggregate.mono _ _)
   | (with_reducible exact impl_CountAddrs.mono _ _)
   | (with_reducible exact impl_Cover.mono _ _ _)
   | (with_reducible exact laws_alt.mono _ _ _)
   | (with_reducible exact laws_samePrefixes.mono _ _ _)
   | (with_reducible exact spec_Aggregate.mono _ _)
   | (with_reducible exact spec_DrawAggregate.mono _ _)
   | (with_reducible exact spec_DrawCover.mono _ _)
   | (with_reducible exact LeO.refl _)
   | (with_reducible exact LeO.none _)
   | (with_reducible refine LeO.ite ?_ ?_)
   | (with_reducible refine LeO.bind ?_ (fun _ => ?_))
   | exact ih0 _ _ _ _ _
   | exact ih1 _ _ _ _
   | exact ih2 _ _ _ _ _
   | exact ih3 _ _ _ _ _ _
   | exact ih4 _ _
   | exact impl_Aggregate.mono _ _
   | exact impl_CountAddrs.mono _ _
   | exact impl_Cover.mono _ _ _
   | exact laws_alt.mono _ _ _
   | exact laws_samePrefixes.mono _ _ _
   | exact spec_Aggregate.mono _ _
   | exact spec_DrawAggregate.mono _ _
   | exact spec_DrawCover.mono _ _
   | exact LeO.none _
   | refine LeO.ite ?_ ?_
   | refine LeO.bind ?_ (fun _ => ?_)
  ·intro y0 y1
   unfold laws_FnAggregate.j4
   repeat' first
   | (with_reducible exact ih0 _ _ _ _ _)
   | (with_reducible exact ih1 _ _ _ _)
   | (with_reducible exact ih2 _ _ _ _ _)
   | (with_reducible exact ih3 _ _ _ _ _ _)
   | (with_reducible exact ih4 _ _)
   | (with_reducible exact impl_Aggregate.mono _ _)
   | (with_reducible exact impl_CountAddrs.mono _ _)
   | (with_reducible exact impl_Cover.mono _ _ _)
   | (with_reducible exact laws_alt.mono _ _ _)
   | (with_reducible exact laws_samePrefixes.mono _ _ _)
   | (with_reducible exact spec_Aggregate.mono _ _)
   | (with_reducible exact spec_DrawAggregate.mono _ _)
   | (with_reducible exact spec_DrawCover.mono _ _)
   | (with_reducible exact LeO.refl _)
   | (with_reducible exact LeO.none _)
   | (with_reducible refine LeO.ite ?_ ?_)
   | (with_reducible refine LeO.bind ?_ (fun _ => ?_))
   | exact ih0 _ _ _ _ _
   | exact ih1 _ _ _ _
   | exact ih2 _ _ _ _ _
   | exact ih3 _ _ _ _ _ _
   | exact ih4 _ _
   | exact impl_Aggregate.mono _ _
   | exact impl_CountAddrs.mono _ _
   | exact impl_Cover.mono _ _ _
   | exact laws_alt.mono _ _ _
   | exact laws_samePrefixes.mono _ _ _
   | exact spec_Aggregate.mono _ _
   | exact spec_DrawAggregate.mono _ _
   | exact spec_DrawCover.mono _ _
   | exact LeO.none _
   | refine LeO.ite ?_ ?_
   | refine LeO.bind ?_ (fun _ => ?_)
theorem laws_FnAggregate.mono : ∀ a0 k, LeO (laws_FnAggregate.f k a0) (laws_FnAggregate.f (k + 1) a0) := by
 intro a0 k
 obtain ⟨ih0, ih1, ih2, ih3, ih4⟩ := laws_FnAggregate.mono_l k
 unfold laws_FnAggregate.f
 repeat' first
   | (with_reducible exact ih0 _ _ _ _ _)
   | (with_reducible exact ih1 _ _ _ _)
   | (with_reducible exact ih2 _ _ _ _ _)
   | (with_reducible exact ih3 _ _ _ _ _ _)
   | (with_reducible exact ih4 _ _)
   | (with_reducible exact impl_Aggregate.mono _ _)
   | (with_reducible exact impl_CountAddrs.mono _ _)
   | (with_reducible exact impl_Cover.mono _ _ _)
   | (with_reducible exact laws_alt.mono _ _ _)
   | (with_reducible exact laws_samePrefixes.mono _ _ _)
   | (with_reducible exact spec_Aggregate.mono _ _)
   | (with_reducible exact spec_DrawAggregate.mono _ _)
   | (with_reducible exact spec_DrawCover.mono _ _)
   | (with_reducible exact LeO.refl _)
   | (with_reducible exact LeO.none _)
   | (with_reducible refine LeO.ite ?_ ?_)
   | (with_reducible refine LeO.bind ?_ (fun _ => ?_))
   | exact ih0 _ _ _ _ _
   | exact ih1 _ _ _ _
   | exact ih2 _ _ _ _ _
   | exact ih3 _ _ _ _ _ _
   | exact ih4 _ _
   | exact impl_Aggregate.mono _ _
   | exact impl_CountAddrs.mono _ _
   | exact impl_Cover.mono _ _ _
   | exact laws_alt.mono _ _ _
   | exact laws_samePrefixes.mono _ _ _
   | exact spec_Aggregate.mono _ _
   | exact spec_DrawAggregate.mono _ _
   | exact spec_DrawCover.mono _ _
   | exact LeO.none _
   | refine LeO.ite ?_ ?_
   | refine LeO.bind ?_ (fun _ => ?_)
def laws_FnAggregate.T19 : Bool × List (List Nat × List Nat) := (true, [([], []), ([], []), ([0, 1], [0, 1]), ([2], [2]), ([3], [3]), ([4], [4]), ([5], [5]), ([6], [6]), ([6], [6]), ([6], [6]), ([8, 9, 6], [6, 8, 9]), ([10, 6], [6, 10]), ([7, 11, 6], [6, 7, 11]), ([6, 12], [6, 12]), ([13, 6], [13]), ([14], [14]), ([14], [14]), ([15, 16, 14], [14, 15, 16]), ([17, 14], [14, 17]), ([14], [14]), ([14], [14]), ([19, 20, 14], [14, 19, 20]), ([21, 14], [14, 21]), ([18, 22, 14, 14], [14, 18, 22]), ([14, 23], [14, 23]), ([24, 23], [24]), ([25], [25]), ([25], [25]), ([26, 27, 25], [25, 26, 27]), ([28, 25], [25, 28]), ([25], [25]), ([25], [25]), ([30, 31, 25], [25, 30, 31]), ([32, 25], [25, 32]), ([29, 33, 25, 25], [25, 29, 33]), ([25, 34], [25, 34])])
def laws_FnAggregate.B19 : List Nat := [0, 0, 3, 7, 15, 31, 63, 127, 127, 127, 895, 1919, 4095, 8191, 16383, 32767, 32767, 131071, 262143, 32767, 32767, 1605631, 3702783, 8388607, 16777215, 33554431, 67108863, 67108863, 268435455, 536870911, 67108863, 67108863, 3288334335, 7583301631, 17179869183, 34359738367]
theorem laws_FnAggregate.tab19 : rtab .any (opsOf Try.f7 19) = laws_FnAggregate.T19 := by kernel_rfl
theorem laws_FnAggregate.bits19 : waitsOk laws_FnAggregate.T19.2 laws_FnAggregate.B19 = true := by kernel_rfl
set_option maxHeartbeats 8000000 in
set_option maxRecDepth 100000 in
theorem laws_FnAggregate.calls (k : Nat) (A0 : Option Addr) (c0 : Nat) (l0 : List Int) (r : Bool) (w : World) (hr0 : Kd.C (Kd.int .u8) w A0 l0.length l0) (hc0 : l0.length ≤ c0) (h : laws_FnAggregate.f k l0 = some r) :
  Calls Try.prog 7 #[.slice A0 l0.length c0] w fun e w' => e = .returned (.bool r) ∧ Below w.heap.size w w' := by
 have hu28 := Try.underlying28
 have HR0 := Aside0.mk hr0
 have HC0 := Aside0.mk hc0
 clear hr0 hc0
 have HB := Aside0.mk (Below.refl w.heap.size w)
 have H : ((laws_big.f l0).bind fun t553 => (if t553 = true then (some true) else ((spec_DrawAggregate.f k l0).bind fun t554 => ((spec_Aggregate.f k t554).bind fun bt557 => ((impl_Aggregate.f k t554).bind fun bt561 => (if (bt561.2 != bt557.2) = true then (laws_FnAggregate.j0 k l0 t554 bt557.2 bt561.1 true) else ((laws_samePrefixes.f k bt561.1 bt557.1).bind fun t565 => (laws_FnAggregate.j0 k l0 t554 bt557.2 bt561.1 (!t565))))))))) = some r := h
 clear h
 replace H := Option.bind_eq_some_iff.mp H
 obtain ⟨t553, A20, H⟩ := H
 have A2 := Aside0.mk A20
 clear A20
 by_cases c3 : t553 = true
 ·subst c3
  rw [if_pos rfl] at H
  obtain rfl := Option.some.inj H
  go_enter Try.func7, Try.ntmps7
  go_wp2_with (first | ((with_reducible refine gate_callee (f := 8) rfl ?_); refine gl_ (some 22) Try.func8 #[.slice A0 l0.length c0] ?_; (with_reducible refine (laws_big.calls _ _ l0 true _ ?side1 ?side2 A2.out).mono ?_); (case side1 => repeat (first | exact HR0.out | (with_reducible refine Kd.C_alloc ?_ _) | (with_reducible refine Kd.C_drewN ?_ _) | (with_reducible refine Kd.C_drew ?_))); (case side2 => exact HC0.out); rintro e w' ⟨rfl, ⟨nd, rfl⟩⟩; refine ⟨_, rfl, ?_⟩))
  go_ret
  exact ⟨by first | rfl | (simp [errW_none, errW_some] <;> rfl) | (simp [*, errW_none, errW_some] <;> rfl), by repeat (first | (with_reducible first | exact HB.out | apply below_alloc | apply pw_below_drewN | apply below_drew1) | exact HB.out)⟩
 replace c3 := Bool.eq_false_iff.mpr c3
 subst c3
 rw [if_neg (show ¬ (false = true) by decide)] at H
 replace H := Option.bind_eq_some_iff.mp H
 obtain ⟨t554, A40, H⟩ := H
 have A4 := Aside0.mk A40
 clear A40
 replace H := Option.bind_eq_some_iff.mp H
 obtain ⟨⟨t557, t558⟩, A50, H⟩ := H
 have A5 := Aside0.mk A50
 clear A50
 replace H := Option.bind_eq_some_iff.mp H
 obtain ⟨⟨t561, t562⟩, A60, H⟩ := H
 have A6 := Aside0.mk A60
 clear A60
 have HC7 := Aside0.mk H
 clear H
 go_enter Try.func7, Try.ntmps7
 go_upto_region 6 with (first | ((with_reducible refine gate_callee (f := 8) rfl ?_); refine gl_ (some 22) Try.func8 #[.slice A0 l0.length c0] ?_; (with_reducible refine (laws_big.calls _ _ l0 false _ ?side1 ?side2 A2.out).mono ?_); (case side1 => repeat (first | exact HR0.out | (with_reducible refine Kd.C_alloc ?_ _) | (with_reducible refine Kd.C_drewN ?_ _) | (with_reducible refine Kd.C_drew ?_))); (case side2 => exact HC0.out); rintro e w' ⟨rfl, ⟨nd, rfl⟩⟩; refine ⟨_, rfl, ?_⟩) | ((with_reducible refine gate_callee (f := 34) rfl ?_); refine gl_ (some 24) Try.func34 #[.slice A0 l0.length c0] ?_; (with_reducible refine (spec_DrawAggregate.calls k _ _ l0 t554 _ ?side1 ?side2 A4.out).mono ?_); (case side1 => repeat (first | exact HR0.out | (with_reducible refine Kd.C_alloc ?_ _) | (with_reducible refine Kd.C_drewN ?_ _) | (with_reducible refine Kd.C_drew ?_))); (case side2 => exact HC0.out); rintro e w8 ⟨v555, rfl, ho0, hb⟩; refine ⟨_, rfl, ?_⟩; have HO556 := Aside0.mk (Kd.R_lower ho0 (bz_ HB)); replace HB := Aside0.mk (bt_ HB hb); (try clear hb); (try clear hb2); (try clear hk); (try clear hi); (try clear ho0); obtain ⟨Ao9, co9, eo9⟩ := Kd.R_slice HO556.out; subst eo9) | ((with_reducible refine gate_callee (f := 30) rfl ?_); refine gl_ (some 27) Try.func30 #[.slice Ao9 t554.length co9] ?_; (with_reducible refine (spec_Aggregate.calls k _ _ t554 t557 t558 _ ?side1 ?side2 A5.out).mono ?_); (case side1 => exact rc_ HO556); (case side2 => exact (Kd.R_reads' HO556.out).2.1); rintro e w10 ⟨v559, rfl, ho0, hb⟩; refine ⟨_, rfl, ?_⟩; have HO560 := Aside0.mk (Kd.R_lower (Kd.R_new' ho0 (Kd.R_lt (hd_ HO556))) (bz_ HB)); replace HO556 := Aside0.mk (Kd.R_elder' (hd_ HO556) (Kd.R_base ho0) hb); replace HB := Aside0.mk (bt_ HB hb); (try clear hb); (try clear hb2); (try clear hk); (try clear hi); (try clear ho0)) | ((with_reducible refine gate_callee (f := 31) rfl ?_); refine gl_ (some 32) Try.func31 #[.slice Ao9 t554.length co9] ?_; (with_reducible refine (impl_Aggregate.calls k _ _ t554 t561 t562 _ ?side1 ?side2 A6.out).mono ?_); (case side1 => exact rc_ HO556); (case side2 => exact (Kd.R_reads' HO556.out).2.1); rintro e w11 ⟨v563, rfl, ho0, hb⟩; refine ⟨_, rfl, ?_⟩; have HO564 := Aside0.mk (Kd.R_lower (Kd.R_new' (Kd.R_new' ho0 (Kd.R_lt (hd_ HO556))) (Kd.R_lt (hd_ HO560))) (bz_ HB)); replace HO556 := Aside0.mk (Kd.R_elder' (hd_ HO556) (Kd.R_base ho0) hb); replace HO560 := Aside0.mk (Kd.R_elder' (hd_ HO560) (Kd.R_base ho0) hb); replace HB := Aside0.mk (bt_ HB hb); (try clear hb); (try clear hb2); (try clear hk); (try clear hi); (try clear ho0)))
 (try simp only [Act.put, List.setIfInBounds_toArray, List.set_cons_zero, List.set_cons_succ])
 go_cut [43] (fun v43 wc => ∃ (kq : Nat) (x43_6 : Bool), v43 = .bool x43_6 ∧ Aside0 (laws_FnAggregate.j0 kq l0 t554 t558 t561 x43_6 = some r) ∧ Aside0 (kq ≤ k) ∧ Aside0 (Kd.R k28 28 wc w.heap.size (fun k_ => some k_ ≠ (v563 : Value).ownBlock) (.slice Ao9 t554.length co9) t554) ∧ Aside0 (Kd.R k28 28 wc w.heap.size (fun k_ => some k_ ≠ ((.slice Ao9 t554.length co9) : Value).ownBlock) v563 t561) ∧ Aside0 (Below w.heap.size w wc))
 case first =>
  have H := HC7.out
  clear HC7
  by_cases c12 : (t562 != t558) = true
  ·rw [if_pos c12] at H
   have c12b0 : (t562 != t558) = true := c12
   (try (have c12b1 : decide (t562 = t558) = false := by simpa using c12))
   (try (have c12b2 : (t562 == t558) = false := by simpa using c12))
   (try (have c12b3 : ¬ (t562 = t558) := by simpa using c12))
   clear c12
   (first | rw [c12b0] | (simp only [i64_w, i32_w]; rw [c12b0]) | skip)
   have H' := Aside0.mk H
   clear H
   go_wp2
   go_meet
   case rel => exact ⟨_, (true), (by first | rfl | (simp; done) | (simp [*]; done)), H', ⟨by first | omega | exact Nat.le_refl _⟩, ⟨by (with_reducible repeat (first | apply Kd.R_alloc | apply Kd.R_drewN | apply Kd.R_drew)); exact Kd.R_mono HO556.out (fun _ hk => hk.2)⟩, ⟨by (with_reducible repeat (first | apply Kd.R_alloc | apply Kd.R_drewN | apply Kd.R_drew)); exact Kd.R_mono HO564.out (fun _ hk => hk.1.2)⟩, ⟨by repeat (first | (with_reducible first | exact HB.out | apply below_alloc | apply pw_below_drewN | apply below_drew1) | exact HB.out)⟩⟩
  rw [if_neg c12] at H
  have c12b0 : (t562 != t558) = false := by simpa using c12
  (try (have c12b1 : decide (t562 = t558) = true := by simpa using c12))
  (try (have c12b2 : (t562 == t558) = true := by simpa using c12))
  clear c12
  (first | rw [c12b0] | (simp only [i64_w, i32_w]; rw [c12b0]) | skip)
  replace H := Option.bind_eq_some_iff.mp H
  obtain ⟨t565, A130, H⟩ := H
  have A13 := Aside0.mk A130
  clear A130
  have H' := Aside0.mk H
  clear H
  obtain ⟨Ao14, co14, eo14⟩ := Kd.R_slice HO564.out
  subst eo14
  obtain ⟨Ao15, co15, eo15⟩ := Kd.R_slice HO560.out
  subst eo15
  go_wp2_with (first | (go_at_call 35; (with_reducible refine (laws_samePrefixes.calls k _ _ t561 _ _ t557 t565 _ ?side1 ?side2 ?side3 ?side4 A13.out).mono ?_); (case side1 => exact rc_ HO564); (case side2 => exact (Kd.R_reads' HO564.out).2.1); (case side3 => exact rc_ HO560); (case side4 => exact (Kd.R_reads' HO560.out).2.1); rintro e w' ⟨rfl, ⟨nd, rfl⟩⟩))
  go_meet
  case rel => exact ⟨_, (!t565), (by first | rfl | (simp; done) | (simp [*]; done)), H', ⟨by first | omega | exact Nat.le_refl _⟩, ⟨by (with_reducible repeat (first | apply Kd.R_alloc | apply Kd.R_drewN | apply Kd.R_drew)); exact Kd.R_mono HO556.out (fun _ hk => hk.2)⟩, ⟨by (with_reducible repeat (first | apply Kd.R_alloc | apply Kd.R_drewN | apply Kd.R_drew)); exact Kd.R_mono HO564.out (fun _ hk => hk.1.2)⟩, ⟨by repeat (first | (with_reducible first | exact HB.out | apply below_alloc | apply pw_below_drewN | apply below_drew1) | exact HB.out)⟩⟩
 case rest =>
  clear HC7
  try clear c1
  try clear p2
  try clear c3
  try clear c7
  try clear c8
  try clear c12
  try clear c12b0
  try clear c12b1
  try clear c12b2
  obtain ⟨kq, x43_6, rfl, HA, HJ6, HO_3, HO_6, HB⟩ := hcut
  cases kq with
  | zero => exact absurd HA.out (by simp [laws_FnAggregate.j0])
  | succ kj6 =>
   have H := HA.out
   clear HA
   simp only [laws_FnAggregate.j0] at H
   by_cases c16 : x43_6 = true
   ·subst c16
    rw [if_pos rfl] at H
    obtain rfl := Option.some.inj H
    go_wp2
    go_ret
    exact ⟨by first | rfl | (simp [errW_none, errW_some] <;> rfl) | (simp [*, errW_none, errW_some] <;> rfl), by repeat (first | (with_reducible first | exact HB.out | apply below_alloc | apply pw_below_drewN | apply below_drew1) | exact HB.out)⟩
   replace c16 := Bool.eq_false_iff.mpr c16
   subst c16
   rw [if_neg (show ¬ (false = true) by decide)] at H
   have HC17 := Aside0.mk H
   clear H
   go_upto_region 8 with (fail)
   go_cut [50] (fun v50 wc => ∃ (kq : Nat) (x50_16 : Bool), v50 = .bool x50_16 ∧ Aside0 (laws_FnAggregate.j1 kq l0 t554 t561 x50_16 = some r) ∧ Aside0 (kq ≤ kj6) ∧ Aside0 (Kd.R k28 28 wc w.heap.size (fun k_ => some k_ ≠ (v563 : Value).ownBlock) (.slice Ao9 t554.length co9) t554) ∧ Aside0 (Kd.R k28 28 wc w.heap.size (fun k_ => some k_ ≠ ((.slice Ao9 t554.length co9) : Value).ownBlock) v563 t561) ∧ Aside0 (Below w.heap.size w wc))
   case first =>
    have H := HC17.out
    clear HC17
    by_cases c18 : t558 = true
    rotate_left
    ·replace c18 := Bool.eq_false_iff.mpr c18
     subst c18
     rw [if_neg (show ¬ (false = true) by decide)] at H
     have H' := Aside0.mk H
     clear H
     go_wp2
     go_meet
     case rel => exact ⟨_, (true), (by first | rfl | (simp; done) | (simp [*]; done)), H', ⟨by have := HJ6.out; first | omega | exact Nat.le_refl _⟩, ⟨by (with_reducible repeat (first | apply Kd.R_alloc | apply Kd.R_drewN | apply Kd.R_drew)); exact HO_3.out⟩, ⟨by (with_reducible repeat (first | apply Kd.R_alloc | apply Kd.R_drewN | apply Kd.R_drew)); exact HO_6.out⟩, ⟨by repeat (first | (with_reducible first | exact HB.out | apply below_alloc | apply pw_below_drewN | apply below_drew1) | exact HB.out)⟩⟩
    subst c18
    rw [if_pos rfl] at H
    have H' := Aside0.mk H
    clear H
    obtain ⟨Ao19, co19, eo19⟩ := Kd.R_slice HO_6.out
    subst eo19
    go_wp2
    go_meet
    case rel => exact ⟨_, (decide ((t561.length : Int) > 200)), (by first | rfl | (simp; done) | (simp [*]; done)), H', ⟨by have := HJ6.out; first | omega | exact Nat.le_refl _⟩, ⟨by (with_reducible repeat (first | apply Kd.R_alloc | apply Kd.R_drewN | apply Kd.R_drew)); exact HO_3.out⟩, ⟨by (with_reducible repeat (first | apply Kd.R_alloc | apply Kd.R_drewN | apply Kd.R_drew)); exact HO_6.out⟩, ⟨by repeat (first | (with_reducible first | exact HB.out | apply below_alloc | apply pw_below_drewN | apply below_drew1) | exact HB.out)⟩⟩
   case rest =>
    clear HC17
    try clear c1
    try clear p2
    try clear c3
    try clear c7
    try clear c8
    try clear c12
    try clear c12b0
    try clear c12b1
    try clear c12b2
    try clear c16
    try clear c18
    try clear p2
    obtain ⟨kq, x50_16, rfl, HA, HJ16, HO_3, HO_6, HB⟩ := hcut
    cases kq with
    | zero => exact absurd HA.out (by simp [laws_FnAggregate.j1])
    | succ kj16 =>
     have H := HA.out
     clear HA
     simp only [laws_FnAggregate.j1] at H
     by_cases c20 : x50_16 = true
     ·subst c20
      rw [if_pos rfl] at H
      obtain rfl := Option.some.inj H
      go_wp2
      go_ret
      exact ⟨by first | rfl | (simp [errW_none, errW_some] <;> rfl) | (simp [*, errW_none, errW_some] <;> rfl), by repeat (first | (with_reducible first | exact HB.out | apply below_alloc | apply pw_below_drewN | apply below_drew1) | exact HB.out)⟩
     replace c20 := Bool.eq_false_iff.mpr c20
     subst c20
     rw [if_neg (show ¬ (false = true) by decide)] at H
     have H' := Aside0.mk H
     clear H
     go_wp2
     go_loopg [8, 9] kj16 (fun kq v8 v9 w' => ∃ (x8_3 : Int) (x9_3 : Int), v8 = .int .i64 x8_3 ∧ v9 = .int .i64 x9_3 ∧ Aside0 (laws_FnAggregate.l0 kq l0 t554 t561 x8_3 x9_3 = some r) ∧ Aside0 (kq ≤ kj16) ∧ Aside0 (Kd.R k28 28 w' w.heap.size (fun k_ => some k_ ≠ (v563 : Value).ownBlock) (.slice Ao9 t554.length co9) t554) ∧ Aside0 (Kd.R k28 28 w' w.heap.size (fun k_ => some k_ ≠ ((.slice Ao9 t554.length co9) : Value).ownBlock) v563 t561) ∧ Aside0 (Below w.heap.size w w'))
     case atStart => exact ⟨(0), (0), (by first | rfl | (simp; done) | (simp [*]; done)), (by first | rfl | (simp; done) | (simp [*]; done)), H', ⟨Nat.le_refl _⟩, ⟨by (with_reducible repeat (first | apply Kd.R_alloc | apply Kd.R_drewN | apply Kd.R_drew)); exact HO_3.out⟩, ⟨by (with_reducible repeat (first | apply Kd.R_alloc | apply Kd.R_drewN | apply Kd.R_drew)); exact HO_6.out⟩, ⟨by repeat (first | (with_reducible first | exact HB.out | apply below_alloc | apply pw_below_drewN | apply below_drew1) | exact HB.out)⟩⟩
     case round =>
      clear H'
      try clear c1
      try clear c2
      try clear p2
      try clear c3
      try clear c7
      try clear c8
      try clear c12
      try clear c12b0
      try clear c12b1
      try clear c12b2
      try clear c16
      try clear c18
      try clear c20
      try clear p2
      obtain ⟨x8_3, x9_3, rfl, rfl, HA, HK3, HO_3, HO_6, HB⟩ := hrel
      cases gk with
      | zero => exact absurd HA.out (by simp [laws_FnAggregate.l0])
      | succ k3 =>
       have H := HA.out
       clear HA
       simp only [laws_FnAggregate.l0] at H
       by_cases c21 : x9_3 < (t561.length : Int)
       rotate_left
       ·rw [if_neg c21] at H
        have c21b0 : decide (x9_3 < (t561.length : Int)) = false := decide_eq_false c21
        clear c21
        replace H := Option.bind_eq_some_iff.mp H
        obtain ⟨⟨t586, t587⟩, A900, H⟩ := H
        have A90 := Aside0.mk A900
        clear A900
        have HC91 := Aside0.mk H
        clear H
        obtain ⟨Ao92, co92, eo92⟩ := Kd.R_slice HO_6.out
        subst eo92
        go_upto_region 22 with (first | ((with_reducible refine gate_callee (f := 31) rfl ?_); refine gl_ (some 118) Try.func31 #[.slice Ao92 t561.length co92] ?_; (with_reducible refine (impl_Aggregate.calls k3 _ _ t561 t586 t587 _ ?side1 ?side2 A90.out).mono ?_); (case side1 => exact rc_ HO_6); (case side2 => exact (Kd.R_reads' HO_6.out).2.1); rintro e w93 ⟨v588, rfl, ho0, hb⟩; refine ⟨_, rfl, ?_⟩; have HO589 := Aside0.mk (Kd.R_lower (Kd.R_new' (Kd.R_new' ho0 (Kd.R_lt (hd_ HO_3))) (Kd.R_lt (hd_ HO_6))) (bz_ HB)); replace HO_3 := Aside0.mk (Kd.R_elder' (hd_ HO_3) (Kd.R_base ho0) hb); replace HO_6 := Aside0.mk (Kd.R_elder' (hd_ HO_6) (Kd.R_base ho0) hb); replace HB := Aside0.mk (bt_ HB hb); (try clear hb); (try clear hb2); (try clear hk); (try clear hi); (try clear ho0)))
        (try simp only [Act.put, List.setIfInBounds_toArray, List.set_cons_zero, List.set_cons_succ])
        go_cut [130] (fun v130 wc => ∃ (kq : Nat) (x130_90 : Bool), v130 = .bool x130_90 ∧ Aside0 (laws_FnAggregate.j4 kq l0 x130_90 = some r) ∧ Aside0 (kq ≤ k3) ∧ Aside0 (Below w.heap.size w wc))
        case first =>
         have H := HC91.out
         clear HC91
         replace H := Option.bind_eq_some_iff.mp H
         obtain ⟨t590, A940, H⟩ := H
         have A94 := Aside0.mk A940
         clear A940
         by_cases c95 : x8_3 = t590
         rotate_left
         ·rw [if_neg c95] at H
          have c95b0 : (x8_3 == t590) = false := beq_eq_false_iff_ne.mpr c95
          have c95b1 : (x8_3 != t590) = true := bne_iff_ne.mpr c95
          (first | rw [c95b0] | (simp only [i64_w, i32_w]; rw [c95b0]) | skip)
          have H' := Aside0.mk H
          clear H
          go_wp2_with (first | ((with_reducible refine gate_callee (f := 28) rfl ?_); refine gl_ (some 123) Try.func28 #[.slice Ao9 t554.length co9] ?_; (with_reducible refine (impl_CountAddrs.calls k3 _ _ t554 t590 _ ?side1 ?side2 A94.out).mono ?_); (case side1 => exact rc_ HO_3); (case side2 => exact (Kd.R_reads' HO_3.out).2.1); rintro e w99 ⟨rfl, hb⟩; refine ⟨_, rfl, ?_⟩; replace HO_3 := rb_ HO_3 hb; replace HO_6 := rb_ HO_6 hb; replace HO589 := rb_ HO589 hb; replace HB := Aside0.mk (bt_ HB hb); (try clear hb); (try clear hb2); (try clear hk); (try clear hi)))
          go_meet
          case rel => exact ⟨_, (true), (by first | rfl | (simp; done) | (simp [*]; done)), H', ⟨by have := HJ6.out; have := HJ16.out; have := HK3.out; first | omega | exact Nat.le_refl _⟩, ⟨by repeat (first | (with_reducible first | exact HB.out | apply below_alloc | apply pw_below_drewN | apply below_drew1) | exact HB.out)⟩⟩
         rw [if_pos c95] at H
         have c95b0 : (x8_3 == t590) = true := beq_iff_eq.mpr c95
         have c95b1 : (x8_3 != t590) = false := bne_eq_false_iff_eq.mpr c95
         clear c95
         (first | rw [c95b0] | (simp only [i64_w, i32_w]; rw [c95b0]) | skip)
         replace H := Option.bind_eq_some_iff.mp H
         obtain ⟨t591, A960, H⟩ := H
         have A96 := Aside0.mk A960
         clear A960
         have H' := Aside0.mk H
         clear H
         go_wp2_with (first | ((with_reducible refine gate_callee (f := 28) rfl ?_); refine gl_ (some 123) Try.func28 #[.slice Ao9 t554.length co9] ?_; (with_reducible refine (impl_CountAddrs.calls k3 _ _ t554 t590 _ ?side1 ?side2 A94.out).mono ?_); (case side1 => exact rc_ HO_3); (case side2 => exact (Kd.R_reads' HO_3.out).2.1); rintro e w97 ⟨rfl, hb⟩; refine ⟨_, rfl, ?_⟩; replace HO_3 := rb_ HO_3 hb; replace HO_6 := rb_ HO_6 hb; replace HO589 := rb_ HO589 hb; replace HB := Aside0.mk (bt_ HB hb); (try clear hb); (try clear hb2); (try clear hk); (try clear hi); obtain ⟨Ao98, co98, eo98⟩ := Kd.R_slice HO589.out; subst eo98) | (go_at_call 35; (with_reducible refine (laws_samePrefixes.calls k3 _ _ t586 _ _ t561 t591 _ ?side1 ?side2 ?side3 ?side4 A96.out).mono ?_); (case side1 => exact rc_ HO589); (case side2 => exact (Kd.R_reads' HO589.out).2.1); (case side3 => exact rc_ HO_6); (case side4 => exact (Kd.R_reads' HO_6.out).2.1); rintro e w' ⟨rfl, ⟨nd, rfl⟩⟩))
         go_meet
         case rel => exact ⟨_, (!t591), (by first | rfl | (simp; done) | (simp [*]; done)), H', ⟨by have := HJ6.out; have := HJ16.out; have := HK3.out; first | omega | exact Nat.le_refl _⟩, ⟨by repeat (first | (with_reducible first | exact HB.out | apply below_alloc | apply pw_below_drewN | apply below_drew1) | exact HB.out)⟩⟩
        case rest =>
         clear HC91
         try clear c2
         try clear p2
         try clear c3
         try clear p5
         try clear q5
         try clear hx5
         try clear c6
         try clear p6
         try clear c7
         try clear c9
         try clear c21
         try clear c21b0
         try clear c22
         try clear c24
         try clear c27
         try clear c27b0
         try clear c28
         try clear c29
         try clear c31
         try clear c36
         try clear c37
         try clear p56
         try clear q56
         try clear hx56
         try clear p57
         try clear q57
         try clear hx57
         try clear p58
         try clear q58
         try clear hx58
         try clear c64
         try clear p64
         try clear c65
         try clear c75
         try clear c95
         try clear c95b0
         try clear c95b1
         try clear hcz85_0
         try clear hcz85_1
         try clear hfz85_0
         try clear hfz85_1
         try clear hx567_0
         try clear hx567_1
         try clear hx572_0
         try clear hx572_1
         try clear hx580_0
         try clear hx580_1
         try clear hx581_0
         try clear hx581_1
         try clear hx583_0
         try clear hx583_1
         try clear hx584_0
         try clear hx584_1
         try clear p567
         try clear p572
         try clear p580
         try clear p581
         try clear p583
         try clear p584
         try clear q567
         try clear q572
         try clear q580
         try clear q581
         try clear q583
         try clear q584
         obtain ⟨kq, x130_90, rfl, HA, HJ90, HB⟩ := hcut
         cases kq with
         | zero => exact absurd HA.out (by simp [laws_FnAggregate.j4])
         | succ kj90 =>
          have H := HA.out
          clear HA
          simp only [laws_FnAggregate.j4] at H
          by_cases c100 : x130_90 = true
          ·subst c100
           rw [if_pos rfl] at H
           obtain rfl := Option.some.inj H
           go_wp2
           go_ret
           exact ⟨by first | rfl | (simp [errW_none, errW_some] <;> rfl) | (simp [*, errW_none, errW_some] <;> rfl), by repeat (first | (with_reducible first | exact HB.out | apply below_alloc | apply pw_below_drewN | apply below_drew1) | exact HB.out)⟩
          replace c100 := Bool.eq_false_iff.mpr c100
          subst c100
          rw [if_neg (show ¬ (false = true) by decide)] at H
          replace H := Option.bind_eq_some_iff.mp H
          obtain ⟨t592, A1010, H⟩ := H
          have A101 := Aside0.mk A1010
          clear A1010
          replace H := Option.bind_eq_some_iff.mp H
          obtain ⟨⟨t595, t596⟩, A1020, H⟩ := H
          have A102 := Aside0.mk A1020
          clear A1020
          replace H := Option.bind_eq_some_iff.mp H
          obtain ⟨⟨t597, t598⟩, A1030, H⟩ := H
          have A103 := Aside0.mk A1030
          clear A1030
          by_cases c104 : t598 = true
          rotate_left
          ·replace c104 := Bool.eq_false_iff.mpr c104
           subst c104
           rw [if_neg (show ¬ (false = true) by decide)] at H
           obtain rfl := Option.some.inj H
           go_wp2_with (first | ((with_reducible refine gate_callee (f := 39) rfl ?_); refine gl_ (some 133) Try.func39 #[.slice A0 l0.length c0, .int .i64 1] ?_; (with_reducible refine (laws_alt.calls kj90 _ _ l0 1 t592 _ ?side1 ?side2 A101.out).mono ?_); (case side1 => exact cb_ HR0 HB); (case side2 => exact HC0.out); rintro e w124 ⟨v593, rfl, ho0, hb⟩; refine ⟨_, rfl, ?_⟩; have HO594 := Aside0.mk (Kd.R_lower ho0 (bz_ HB)); replace HB := Aside0.mk (bt_ HB hb); (try clear hb); (try clear hb2); (try clear hk); (try clear hi); (try clear ho0); obtain ⟨Ao125, co125, eo125⟩ := Kd.R_slice HO594.out; subst eo125) | ((with_reducible refine gate_callee (f := 38) rfl ?_); refine gl_ (some 134) Try.func38 #[.slice Ao125 t592.length co125] ?_; (with_reducible refine (spec_DrawCover.calls kj90 _ _ t592 t595 t596 _ ?side1 ?side2 A102.out).mono ?_); (case side1 => exact rc_ HO594); (case side2 => exact (Kd.R_reads' HO594.out).2.1); rintro e w126 ⟨rfl, hb⟩; refine ⟨_, rfl, ?_⟩; replace HO594 := rb_ HO594 hb; replace HB := Aside0.mk (bt_ HB hb); (try clear hb); (try clear hb2); (try clear hk); (try clear hi)) | ((with_reducible refine gate_callee (f := 40) rfl ?_); refine gl_ (some 140) Try.func40 #[.int .i64 t595, .int .i64 t596] ?_; (with_reducible refine (impl_Cover.calls kj90 t595 t596 t597 false _ A103.out).mono ?_); rintro e w127 ⟨v599, rfl, ho0, hb⟩; refine ⟨_, rfl, ?_⟩; have HO600 := Aside0.mk (Kd.R_lower ho0 (bz_ HB)); replace HO594 := rb_ HO594 hb; replace HB := Aside0.mk (bt_ HB hb); (try clear hb); (try clear hb2); (try clear hk); (try clear hi); (try clear ho0)))
           go_ret
           exact ⟨by first | rfl | (simp [errW_none, errW_some] <;> rfl) | (simp [*, errW_none, errW_some] <;> rfl), by repeat (first | (with_reducible first | exact HB.out | apply below_alloc | apply pw_below_drewN | apply below_drew1) | exact HB.out)⟩
          subst c104
          rw [if_pos rfl] at H
          replace H := Option.bind_eq_some_iff.mp H
          obtain ⟨⟨t601, t602⟩, A1050, H⟩ := H
          have A105 := Aside0.mk A1050
          clear A1050
          replace H := Option.bind_eq_some_iff.mp H
          obtain ⟨t605, A1060, H⟩ := H
          have A106 := Aside0.mk A1060
          clear A1060
          by_cases c107 : t605 = (wrap64 ((wrap64 (t596 - t595)) + 1))
          rotate_left
          ·rw [if_neg c107] at H
           have c107b0 : (t605 == (wrap64 ((wrap64 (t596 - t595)) + 1))) = false := beq_eq_false_iff_ne.mpr c107
           have c107b1 : (t605 != (wrap64 ((wrap64 (t596 - t595)) + 1))) = true := bne_iff_ne.mpr c107
           obtain rfl := Option.some.inj H
           go_wp2_with (first | ((with_reducible refine gate_callee (f := 39) rfl ?_); refine gl_ (some 133) Try.func39 #[.slice A0 l0.length c0, .int .i64 1] ?_; (with_reducible refine (laws_alt.calls kj90 _ _ l0 1 t592 _ ?side1 ?side2 A101.out).mono ?_); (case side1 => exact cb_ HR0 HB); (case side2 => exact HC0.out); rintro e w117 ⟨v593, rfl, ho0, hb⟩; refine ⟨_, rfl, ?_⟩; have HO594 := Aside0.mk (Kd.R_lower ho0 (bz_ HB)); replace HB := Aside0.mk (bt_ HB hb); (try clear hb); (try clear hb2); (try clear hk); (try clear hi); (try clear ho0); obtain ⟨Ao118, co118, eo118⟩ := Kd.R_slice HO594.out; subst eo118) | ((with_reducible refine gate_callee (f := 38) rfl ?_); refine gl_ (some 134) Try.func38 #[.slice Ao118 t592.length co118] ?_; (with_reducible refine (spec_DrawCover.calls kj90 _ _ t592 t595 t596 _ ?side1 ?side2 A102.out).mono ?_); (case side1 => exact rc_ HO594); (case side2 => exact (Kd.R_reads' HO594.out).2.1); rintro e w119 ⟨rfl, hb⟩; refine ⟨_, rfl, ?_⟩; replace HO594 := rb_ HO594 hb; replace HB := Aside0.mk (bt_ HB hb); (try clear hb); (try clear hb2); (try clear hk); (try clear hi)) | ((with_reducible refine gate_callee (f := 40) rfl ?_); refine gl_ (some 140) Try.func40 #[.int .i64 t595, .int .i64 t596] ?_; (with_reducible refine (impl_Cover.calls kj90 t595 t596 t597 true _ A103.out).mono ?_); rintro e w120 ⟨v599, rfl, ho0, hb⟩; refine ⟨_, rfl, ?_⟩; have HO600 := Aside0.mk (Kd.R_lower ho0 (bz_ HB)); replace HO594 := rb_ HO594 hb; replace HB := Aside0.mk (bt_ HB hb); (try clear hb); (try clear hb2); (try clear hk); (try clear hi); (try clear ho0); obtain ⟨Ao121, co121, eo121⟩ := Kd.R_slice HO600.out; subst eo121) | ((with_reducible refine gate_callee (f := 31) rfl ?_); refine gl_ (some 147) Try.func31 #[.slice Ao121 t597.length co121] ?_; (with_reducible refine (impl_Aggregate.calls kj90 _ _ t597 t601 t602 _ ?side1 ?side2 A105.out).mono ?_); (case side1 => exact rc_ HO600); (case side2 => exact (Kd.R_reads' HO600.out).2.1); rintro e w122 ⟨v603, rfl, ho0, hb⟩; refine ⟨_, rfl, ?_⟩; have HO604 := Aside0.mk (Kd.R_lower (Kd.R_new' ho0 (Kd.R_lt (hd_ HO600))) (bz_ HB)); replace HO594 := rb_ HO594 hb; replace HO600 := Aside0.mk (Kd.R_elder' (hd_ HO600) (Kd.R_base ho0) hb); replace HB := Aside0.mk (bt_ HB hb); (try clear hb); (try clear hb2); (try clear hk); (try clear hi); (try clear ho0)) | ((with_reducible refine gate_callee (f := 28) rfl ?_); refine gl_ (some 151) Try.func28 #[.slice Ao121 t597.length co121] ?_; (with_reducible refine (impl_CountAddrs.calls kj90 _ _ t597 t605 _ ?side1 ?side2 A106.out).mono ?_); (case side1 => exact rc_ HO600); (case side2 => exact (Kd.R_reads' HO600.out).2.1); rintro e w123 ⟨rfl, hb⟩; refine ⟨_, rfl, ?_⟩; replace HO594 := rb_ HO594 hb; replace HO600 := rb_ HO600 hb; replace HO604 := rb_ HO604 hb; replace HB := Aside0.mk (bt_ HB hb); (try clear hb); (try clear hb2); (try clear hk); (try clear hi)))
           go_ret
           exact ⟨by first | rfl | (simp [errW_none, errW_some] <;> rfl) | (simp [*, errW_none, errW_some] <;> rfl), by repeat (first | (with_reducible first | exact HB.out | apply below_alloc | apply pw_below_drewN | apply below_drew1) | exact HB.out)⟩
          rw [if_pos c107] at H
          have c107b0 : (t605 == (wrap64 ((wrap64 (t596 - t595)) + 1))) = true := beq_iff_eq.mpr c107
          have c107b1 : (t605 != (wrap64 ((wrap64 (t596 - t595)) + 1))) = false := bne_eq_false_iff_eq.mpr c107
          clear c107
          replace H := Option.bind_eq_some_iff.mp H
          obtain ⟨t606, A1080, H⟩ := H
          have A108 := Aside0.mk A1080
          clear A1080
          obtain rfl := Option.some.inj H
          go_wp2_with (first | ((with_reducible refine gate_callee (f := 39) rfl ?_); refine gl_ (some 133) Try.func39 #[.slice A0 l0.length c0, .int .i64 1] ?_; (with_reducible refine (laws_alt.calls kj90 _ _ l0 1 t592 _ ?side1 ?side2 A101.out).mono ?_); (case side1 => exact cb_ HR0 HB); (case side2 => exact HC0.out); rintro e w109 ⟨v593, rfl, ho0, hb⟩; refine ⟨_, rfl, ?_⟩; have HO594 := Aside0.mk (Kd.R_lower ho0 (bz_ HB)); replace HB := Aside0.mk (bt_ HB hb); (try clear hb); (try clear hb2); (try clear hk); (try clear hi); (try clear ho0); obtain ⟨Ao110, co110, eo110⟩ := Kd.R_slice HO594.out; subst eo110) | ((with_reducible refine gate_callee (f := 38) rfl ?_); refine gl_ (some 134) Try.func38 #[.slice Ao110 t592.length co110] ?_; (with_reducible refine (spec_DrawCover.calls kj90 _ _ t592 t595 t596 _ ?side1 ?side2 A102.out).mono ?_); (case side1 => exact rc_ HO594); (case side2 => exact (Kd.R_reads' HO594.out).2.1); rintro e w111 ⟨rfl, hb⟩; refine ⟨_, rfl, ?_⟩; replace HO594 := rb_ HO594 hb; replace HB := Aside0.mk (bt_ HB hb); (try clear hb); (try clear hb2); (try clear hk); (try clear hi)) | ((with_reducible refine gate_callee (f := 40) rfl ?_); refine gl_ (some 140) Try.func40 #[.int .i64 t595, .int .i64 t596] ?_; (with_reducible refine (impl_Cover.calls kj90 t595 t596 t597 true _ A103.out).mono ?_); rintro e w112 ⟨v599, rfl, ho0, hb⟩; refine ⟨_, rfl, ?_⟩; have HO600 := Aside0.mk (Kd.R_lower ho0 (bz_ HB)); replace HO594 := rb_ HO594 hb; replace HB := Aside0.mk (bt_ HB hb); (try clear hb); (try clear hb2); (try clear hk); (try clear hi); (try clear ho0); obtain ⟨Ao113, co113, eo113⟩ := Kd.R_slice HO600.out; subst eo113) | ((with_reducible refine gate_callee (f := 31) rfl ?_); refine gl_ (some 147) Try.func31 #[.slice Ao113 t597.length co113] ?_; (with_reducible refine (impl_Aggregate.calls kj90 _ _ t597 t601 t602 _ ?side1 ?side2 A105.out).mono ?_); (case side1 => exact rc_ HO600); (case side2 => exact (Kd.R_reads' HO600.out).2.1); rintro e w114 ⟨v603, rfl, ho0, hb⟩; refine ⟨_, rfl, ?_⟩; have HO604 := Aside0.mk (Kd.R_lower (Kd.R_new' ho0 (Kd.R_lt (hd_ HO600))) (bz_ HB)); replace HO594 := rb_ HO594 hb; replace HO600 := Aside0.mk (Kd.R_elder' (hd_ HO600) (Kd.R_base ho0) hb); replace HB := Aside0.mk (bt_ HB hb); (try clear hb); (try clear hb2); (try clear hk); (try clear hi); (try clear ho0)) | ((with_reducible refine gate_callee (f := 28) rfl ?_); refine gl_ (some 151) Try.func28 #[.slice Ao113 t597.length co113] ?_; (with_reducible refine (impl_CountAddrs.calls kj90 _ _ t597 t605 _ ?side1 ?side2 A106.out).mono ?_); (case side1 => exact rc_ HO600); (case side2 => exact (Kd.R_reads' HO600.out).2.1); rintro e w115 ⟨rfl, hb⟩; refine ⟨_, rfl, ?_⟩; replace HO594 := rb_ HO594 hb; replace HO600 := rb_ HO600 hb; replace HO604 := rb_ HO604 hb; replace HB := Aside0.mk (bt_ HB hb); (try clear hb); (try clear hb2); (try clear hk); (try clear hi); obtain ⟨Ao116, co116, eo116⟩ := Kd.R_slice HO604.out; subst eo116) | (go_at_call 35; (with_reducible refine (laws_samePrefixes.calls kj90 _ _ t601 _ _ t597 t606 _ ?side1 ?side2 ?side3 ?side4 A108.out).mono ?_); (case side1 => exact rc_ HO604); (case side2 => exact (Kd.R_reads' HO604.out).2.1); (case side3 => exact rc_ HO600); (case side4 => exact (Kd.R_reads' HO600.out).2.1); rintro e w' ⟨rfl, ⟨nd, rfl⟩⟩))
          go_ret
          exact ⟨by first | rfl | (simp [errW_none, errW_some] <;> rfl) | (simp [*, errW_none, errW_some] <;> rfl), by repeat (first | (with_reducible first | exact HB.out | apply below_alloc | apply pw_below_drewN | apply below_drew1) | exact HB.out)⟩
       rw [if_pos c21] at H
       have c21b0 : decide (x9_3 < (t561.length : Int)) = true := decide_eq_true c21
       clear c21
       by_cases c22 : 0 ≤ x9_3
       rotate_left
       ·rw [if_neg c22] at H
        exact absurd H (by simp)
       rw [if_pos c22] at H
       have c22b0 : decide (0 ≤ x9_3) = true := decide_eq_true c22
       clear c22
       obtain ⟨ji23, hji23⟩ : ∃ j_ : Int, (IntKind.u64.wrap (wrap64 (16 - ((rd_T28 t561 x9_3).f1)))) = j_ := ⟨_, rfl⟩
       first | rw [hji23] at H | simp only [hji23] at H
       by_cases c24 : 0 ≤ (ji23)
       rotate_left
       ·rw [if_neg c24] at H
        exact absurd H (by simp)
       rw [if_pos c24] at H
       have c24b0 := eq_true c24
       have c24b1 : decide (0 ≤ (ji23)) = true := decide_eq_true c24
       clear c24
       obtain ⟨ji25, hji25⟩ : ∃ j_ : Int, (shl .i64 1 (ji23)) = j_ := ⟨_, rfl⟩
       first | rw [hji25] at H | simp only [hji25] at H
       have hji25_ : (IntKind.i64.wrap (1 * 2 ^ min (ji23).toNat 64)) = ji25 := hji25
       have hji25z : (ji23) ≤ 64 → (IntKind.i64.wrap (1 * 2 ^ (ji23).toNat)) = ji25 := shl_small hji25
       have hji25u : (IntKind.i64.wrap (2 ^ min (ji23).toNat 64)) = ji25 := by have h_ := hji25_; rw [Int.one_mul] at h_; exact h_
       have hji25v : (ji23) ≤ 64 → (IntKind.i64.wrap (2 ^ (ji23).toNat)) = ji25 := fun hle_ => by have h_ := hji25z hle_; rw [Int.one_mul] at h_; exact h_
       have hji25y : (wrap64 (1 * 2 ^ min (ji23).toNat 64)) = ji25 := (i64_w _).symm.trans hji25_
       have hji25x : (ji23) ≤ 64 → (wrap64 (1 * 2 ^ (ji23).toNat)) = ji25 := fun h_ => (i64_w _).symm.trans (hji25z h_)
       have H' := Aside0.mk H
       clear H
       obtain ⟨Ao26, co26, eo26⟩ := Kd.R_slice HO_6.out
       subst eo26
       have p566 : 0 ≤ (x9_3 : Int) := of_decide_eq_true (by first | (with_reducible assumption) | assumption)
       have q566 : x9_3 < (t561.length : Int) := of_decide_eq_true (by first | (with_reducible assumption) | assumption)
       obtain ⟨ad566, e566, hx566_0, hx566_1⟩ := at_T28 (Kd.R_reads' HO_6.out).2.2 x9_3 p566 q566
       cases e566
       replace p566 := eq_true p566
       replace q566 := eq_true q566
       go_wp2
       go_loopg [10] k3 (fun kq v10 w' => ∃ (x10_4 : Int), v10 = .int .i64 x10_4 ∧ Aside0 (laws_FnAggregate.l1 kq l0 t554 t561 (wrap64 (x8_3 + (ji25))) x9_3 x10_4 = some r) ∧ Aside0 (kq ≤ k3) ∧ Aside0 (Kd.R k28 28 w' w.heap.size (fun k_ => some k_ ≠ ((.slice (some ad566) t561.length co26) : Value).ownBlock) (.slice Ao9 t554.length co9) t554) ∧ Aside0 (Kd.R k28 28 w' w.heap.size (fun k_ => some k_ ≠ ((.slice Ao9 t554.length co9) : Value).ownBlock) (.slice (some ad566) t561.length co26) t561) ∧ Aside0 (Below w.heap.size w w'))
       case atStart => exact ⟨(0), (by first | rfl | (simp; done) | (simp [*]; done)), H', ⟨Nat.le_refl _⟩, ⟨by (with_reducible repeat (first | apply Kd.R_alloc | apply Kd.R_drewN | apply Kd.R_drew)); exact HO_3.out⟩, ⟨by (with_reducible repeat (first | apply Kd.R_alloc | apply Kd.R_drewN | apply Kd.R_drew)); exact HO_6.out⟩, ⟨by repeat (first | (with_reducible first | exact HB.out | apply below_alloc | apply pw_below_drewN | apply below_drew1) | exact HB.out)⟩⟩
       case round =>
        clear H'
        try clear c1
        try clear c2
        try clear p2
        try clear c3
        try clear p5
        try clear q5
        try clear hx5
        try clear p6
        try clear c7
        try clear c8
        try clear c12
        try clear c12b0
        try clear c12b1
        try clear c12b2
        try clear c16
        try clear c18
        try clear c20
        try clear c21
        try clear c21b0
        try clear c22
        try clear c22b0
        try clear c24
        try clear c24b0
        try clear c24b1
        try clear hx566_0
        try clear hx566_1
        try clear p2
        try clear p566
        try clear q566
        obtain ⟨x10_4, rfl, HA, HK4, HO_3, HO_6, HB⟩ := hrel
        cases gk with
        | zero => exact absurd HA.out (by simp [laws_FnAggregate.l1])
        | succ k4 =>
         have H := HA.out
         clear HA
         simp only [laws_FnAggregate.l1] at H
         by_cases c27 : x10_4 < x9_3
         rotate_left
         ·rw [if_neg c27] at H
          have c27b0 : decide (x10_4 < x9_3) = false := decide_eq_false c27
          clear c27
          have H' := Aside0.mk H
          clear H
          go_wp2
          go_roundg k4
          case measure => have := HJ6.out; have := HJ16.out; have := HK3.out; have := HK4.out; omega
          case rel => exact ⟨((wrap64 (x8_3 + (ji25)))), (wrap64 (x9_3 + 1)), (by first | rfl | (simp; done) | (simp only [← hji25] <;> (first | rfl | simp)) | (simp [*]; done)), (by first | rfl | (simp; done) | (simp [*]; done)), H', ⟨by have := HJ6.out; have := HJ16.out; have := HK3.out; have := HK4.out; omega⟩, ⟨by (with_reducible repeat (first | apply Kd.R_alloc | apply Kd.R_drewN | apply Kd.R_drew)); exact HO_3.out⟩, ⟨by (with_reducible repeat (first | apply Kd.R_alloc | apply Kd.R_drewN | apply Kd.R_drew)); exact HO_6.out⟩, ⟨by repeat (first | (with_reducible first | exact HB.out | apply below_alloc | apply pw_below_drewN | apply below_drew1) | exact HB.out)⟩⟩
         rw [if_pos c27] at H
         have c27b0 : decide (x10_4 < x9_3) = true := decide_eq_true c27
         clear c27
         by_cases c28 : 0 ≤ x9_3
         rotate_left
         ·rw [if_neg c28] at H
          exact absurd H (by simp)
         rw [if_pos c28] at H
         have c28b0 : decide (0 ≤ x9_3) = true := decide_eq_true c28
         clear c28
         by_cases c29 : x9_3 < (t561.length : Int)
         rotate_left
         ·rw [if_neg c29] at H
          exact absurd H (by simp)
         rw [if_pos c29] at H
         have c29b0 : decide (x9_3 < (t561.length : Int)) = true := decide_eq_true c29
         clear c29
         replace H := Option.bind_eq_some_iff.mp H
         obtain ⟨⟨t568, t569, t570⟩, A300, H⟩ := H
         have A30 := Aside0.mk A300
         clear A300
         by_cases c31 : ((rd_T28 t561 x9_3).f1) > 0
         rotate_left
         ·rw [if_neg c31] at H
          have c31b0 : decide (0 < ((rd_T28 t561 x9_3).f1)) = false := decide_eq_false c31
          clear c31
          by_cases c64 : 0 ≤ x10_4
          rotate_left
          ·rw [if_neg c64] at H
           exact absurd H (by simp)
          rw [if_pos c64] at H
          have c64b0 : decide (0 ≤ x10_4) = true := decide_eq_true c64
          clear c64
          by_cases c65 : x10_4 < (t561.length : Int)
          rotate_left
          ·rw [if_neg c65] at H
           exact absurd H (by simp)
          rw [if_pos c65] at H
          have c65b0 : decide (x10_4 < (t561.length : Int)) = true := decide_eq_true c65
          clear c65
          replace H := Option.bind_eq_some_iff.mp H
          obtain ⟨t582, A660, H⟩ := H
          have A66 := Aside0.mk A660
          clear A660
          by_cases c67 : t582 = true
          ·subst c67
           rw [if_pos rfl] at H
           obtain rfl := Option.some.inj H
           have p567 : 0 ≤ (x9_3 : Int) := of_decide_eq_true (by first | (with_reducible assumption) | assumption)
           have q567 : x9_3 < (t561.length : Int) := of_decide_eq_true (by first | (with_reducible assumption) | assumption)
           obtain ⟨ad567, e567, hx567_0, hx567_1⟩ := at_T28 (Kd.R_reads' HO_6.out).2.2 x9_3 p567 q567
           obtain rfl : ad566 = ad567 := (by injection e567)
           replace p567 := eq_true p567
           replace q567 := eq_true q567
           try go_wp2_with (first | ((with_reducible refine gate_callee (f := 36) rfl ?_); refine gl_ (some 77) Try.func36 #[.agg #[.int .i64 ((rd_T28 t561 x9_3).f0), .int .i64 ((rd_T28 t561 x9_3).f1)]] ?_; (with_reducible refine (impl_Sibling.calls ((rd_T28 t561 x9_3).f0) ((rd_T28 t561 x9_3).f1) t568 t569 t570 _ A30.out).mono ?_); rintro e w68 ⟨rfl, hb⟩; refine ⟨_, rfl, ?_⟩; replace HO_3 := rb_ HO_3 hb; replace HO_6 := rb_ HO_6 hb; replace HB := Aside0.mk (bt_ HB hb); (try clear hb); (try clear hb2); (try clear hk); (try clear hi)) | ((with_reducible refine gate_dst (N := 11) rfl ?_); refine box_event ?hg (N := 11) ?hd (cs := #[.int .i64 0, .int .i64 0]) (t := 28) ?hr ?_; (case hd => rfl); (case hg => rfl); (case hr => first | (go_simp; done) | (go_simp; rfl)); intro gb571 hg w69 hbox hb; have BK571 := Aside0.mk hbox; have GW571 := ge_ HB hg; have GE571 := ge_ HB hg; replace HO_3 := Aside0.mk (Kd.R_below (Kd.R_elderB (hd_ HO_3) gb571 (Nat.le_of_eq hg.symm)) hb); replace HO_6 := Aside0.mk (Kd.R_below (Kd.R_elderB (hd_ HO_6) gb571 (Nat.le_of_eq hg.symm)) hb); replace HB := Aside0.mk (bt_ HB hb); clear hb hbox hg; have hcz70_0 := cz_ BK571 0 (.int .i64 0); have hcz70_1 := cz_ BK571 1 (.int .i64 0); have hfz70_0 := blk_frozen BK571.out 0; have hfz70_1 := blk_frozen BK571.out 1))
           have n0_ : Aside0 (Kd.R k28 28 ((w69.setCell ⟨gb571, 0, none⟩ (.int .i64 t568)).setCell ⟨gb571, 1, none⟩ (.int .i64 t569)) w.heap.size (fun k_ => some k_ ≠ (.slice (some ad566) t561.length co26 : Value).ownBlock ∧ k_ ≠ gb571) (.slice Ao9 t554.length co9) t554) := ⟨by (with_reducible repeat (first | apply Kd.R_alloc | apply Kd.R_drewN | apply Kd.R_drew)); exact Kd.R_mono (Kd.R_far (p := ⟨gb571, 1, none⟩) (Kd.R_far (p := ⟨gb571, 0, none⟩) (Kd.R_mono HO_3.out (fun k_ hk => (⟨hk, hk.2⟩ : _ ∧ k_ ≠ gb571))) (fun _ hk => hk.2) (.int .i64 t568)) (fun _ hk => hk.2) (.int .i64 t569)) (fun _ hk => by first | exact ⟨hk.1.1, hk.1.2⟩ | grind)⟩
           have n1_ : Aside0 (Kd.R k28 28 ((w69.setCell ⟨gb571, 0, none⟩ (.int .i64 t568)).setCell ⟨gb571, 1, none⟩ (.int .i64 t569)) w.heap.size (fun k_ => some k_ ≠ (.slice Ao9 t554.length co9 : Value).ownBlock ∧ k_ ≠ gb571) (.slice (some ad566) t561.length co26) t561) := ⟨by (with_reducible repeat (first | apply Kd.R_alloc | apply Kd.R_drewN | apply Kd.R_drew)); exact Kd.R_mono (Kd.R_far (p := ⟨gb571, 1, none⟩) (Kd.R_far (p := ⟨gb571, 0, none⟩) (Kd.R_mono HO_6.out (fun k_ hk => (⟨hk, hk.2⟩ : _ ∧ k_ ≠ gb571))) (fun _ hk => hk.2) (.int .i64 t568)) (fun _ hk => hk.2) (.int .i64 t569)) (fun _ hk => by first | exact ⟨hk.1.1, hk.1.2⟩ | grind)⟩
           have n2_ : Aside0 (((w69.setCell ⟨gb571, 0, none⟩ (.int .i64 t568)).setCell ⟨gb571, 1, none⟩ (.int .i64 t569)).heap[gb571]? = some (.cells #[.int .i64 t568, .int .i64 t569] 28 (0, 0))) := ⟨by (with_reducible repeat (first | refine blk_drewN ?_ _ | refine blk_drew ?_ | refine blk_alloc ?_ _)); refine blk_put (cs := #[.int .i64 t568, .int .i64 0]) ?_ 1 _ rfl; (with_reducible repeat (first | refine blk_drewN ?_ _ | refine blk_drew ?_ | refine blk_alloc ?_ _)); refine blk_put (cs := #[.int .i64 0, .int .i64 0]) ?_ 0 _ rfl; (with_reducible repeat (first | refine blk_drewN ?_ _ | refine blk_drew ?_ | refine blk_alloc ?_ _)); exact BK571.out⟩
           have n3_ : Aside0 (Below w.heap.size w ((w69.setCell ⟨gb571, 0, none⟩ (.int .i64 t568)).setCell ⟨gb571, 1, none⟩ (.int .i64 t569))) := ⟨by repeat (first | (with_reducible first | exact HB.out | apply below_alloc | apply pw_below_drewN | apply below_drew1 | refine below_set ?_ GE571.out) | exact HB.out)⟩
           (try clear HO_3)
           (try clear HO_6)
           (try clear BK571)
           (try clear HB)
           generalize ((w69.setCell ⟨gb571, 0, none⟩ (.int .i64 t568)).setCell ⟨gb571, 1, none⟩ (.int .i64 t569)) = w71 at n0_ n1_ n2_ n3_ ⊢
           have HO_3 := n0_
           have HO_6 := n1_
           have BK571 := n2_
           have HB := n3_
           clear n0_ n1_ n2_ n3_
           replace HO_3 := Aside0.mk (Kd.R_drew HO_3.out)
           replace HO_6 := Aside0.mk (Kd.R_drew HO_6.out)
           replace BK571 := Aside0.mk (blk_drew BK571.out)
           replace HB := Aside0.mk (below_drew1 HB.out)
           have p572 : 0 ≤ (x9_3 : Int) := of_decide_eq_true (by first | (with_reducible assumption) | assumption)
           have q572 : x9_3 < (t561.length : Int) := of_decide_eq_true (by first | (with_reducible assumption) | assumption)
           obtain ⟨ad572, e572, hx572_0, hx572_1⟩ := at_T28 (Kd.R_reads' HO_6.out).2.2 x9_3 p572 q572
           obtain rfl : ad566 = ad572 := (by injection e572)
           replace p572 := eq_true p572
           replace q572 := eq_true q572
           have p580 : 0 ≤ (x9_3 : Int) := of_decide_eq_true (by first | (with_reducible assumption) | assumption)
           have q580 : x9_3 < (t561.length : Int) := of_decide_eq_true (by first | (with_reducible assumption) | assumption)
           obtain ⟨ad580, e580, hx580_0, hx580_1⟩ := at_T28 (Kd.R_reads' HO_6.out).2.2 x9_3 p580 q580
           obtain rfl : ad566 = ad580 := (by injection e580)
           replace p580 := eq_true p580
           replace q580 := eq_true q580
           have p581 : 0 ≤ (x10_4 : Int) := of_decide_eq_true (by first | (with_reducible assumption) | assumption)
           have q581 : x10_4 < (t561.length : Int) := of_decide_eq_true (by first | (with_reducible assumption) | assumption)
           obtain ⟨ad581, e581, hx581_0, hx581_1⟩ := at_T28 (Kd.R_reads' HO_6.out).2.2 x10_4 p581 q581
           obtain rfl : ad566 = ad581 := (by injection e581)
           replace p581 := eq_true p581
           replace q581 := eq_true q581
           refine start_ (n := 36) (S := fun w' => w'.cell? (ad566.add ((x9_3).toNat * 2)) = some (.int .i64 ((rd_T28 t561 x9_3).f0)) ∧ w'.cell? ⟨(ad566.add ((x9_3).toNat * 2)).block, (ad566.add ((x9_3).toNat * 2)).off + 1, none⟩ = some (.int .i64 ((rd_T28 t561 x9_3).f1)) ∧ w'.cell? (ad566.add ((x9_3).toNat * 2)) = some (.int .i64 ((rd_T28 t561 x9_3).f0)) ∧ w'.cell? ⟨(ad566.add ((x9_3).toNat * 2)).block, (ad566.add ((x9_3).toNat * 2)).off + 1, none⟩ = some (.int .i64 ((rd_T28 t561 x9_3).f1)) ∧ w'.cell? (ad566.add ((x10_4).toNat * 2)) = some (.int .i64 ((rd_T28 t561 x10_4).f0)) ∧ w'.cell? ⟨(ad566.add ((x10_4).toNat * 2)).block, (ad566.add ((x10_4).toNat * 2)).off + 1, none⟩ = some (.int .i64 ((rd_T28 t561 x10_4).f1))) (ds := []) ba20_0 (by kernel_rfl) rfl rfl ⟨hx572_0, hx572_1, hx580_0, hx580_1, hx581_0, hx581_1⟩ (fun hHeld => ?_); refine with_tabW laws_FnAggregate.tab19 laws_FnAggregate.bits19 (fun HT_ HW_ => ?_)
           generalize w71.drew = w72 at HO_3 HO_6 BK571 HB hx572_0 hx572_1 hx580_0 hx580_1 hx581_0 hx581_1 hHeld ⊢
           refine pz_ 0 80 ba20_1 HT_ ?_
           refine pz_ 1 81 ba20_2 HT_ ?_
           refine pz_ 2 82 ba20_3 HT_ ?_
           refine pz_ 3 83 ba20_4 HT_ ?_
           refine pt_ 4 84 ba20_5 HT_ HW_ hHeld ?_
           refine pz_ 5 85 ba20_6 HT_ ?_
           refine pz_ 6 86 ba20_7 HT_ ?_
           refine pu_ 7 87 ba20_43 HT_ ?_
           refine pu_ 8 88 ba20_44 HT_ ?_
           refine pu_ 9 89 ba20_45 HT_ ?_
           refine pu_ 10 90 ba20_11 HT_ ?_
           refine pu_ 11 91 ba20_12 HT_ ?_
           refine pu_ 12 92 ba20_13 HT_ ?_
           refine pz_ 13 93 ba20_14 HT_ ?_
           refine pz_ 14 94 ba20_15 HT_ ?_
           refine pz_ 15 95 ba20_16 HT_ ?_
           refine pz_ 16 96 ba20_17 HT_ ?_
           refine pz_ 17 97 ba20_18 HT_ ?_
           refine pz_ 19 99 ba20_37 HT_ ?_
           refine pz_ 20 100 ba20_38 HT_ ?_
           refine pz_ 21 101 ba20_39 HT_ ?_
           refine pt_ 18 98 ba20_22 HT_ HW_ hHeld ?_
           refine pt_ 22 102 ba20_23 HT_ HW_ hHeld ?_
           refine one_ (i := 23) (N := some 103) ba20_24 rfl rfl (one_of HT_.out (by kernel_rfl)) (by decide) (fun K hK => ?_)
           refine gz_ Try.func37 #[.agg #[.int .i64 ((rd_T28 t561 x9_3).f0), .int .i64 ((rd_T28 t561 x9_3).f1)], .agg #[.int .i64 ((rd_T28 t561 x10_4).f0), .int .i64 ((rd_T28 t561 x10_4).f1)]] ?_
           with_reducible refine (impl_CoversPrefix.calls ((rd_T28 t561 x9_3).f0) ((rd_T28 t561 x9_3).f1) ((rd_T28 t561 x10_4).f0) ((rd_T28 t561 x10_4).f1) true _ A66.out).mono ?_
           rintro e w73 ⟨rfl, hb⟩
           have HS0_ := (hb.cell (World.block_lt_of_cell? _ _ (hHeld.1))).trans (hHeld.1)
           have HS1_ := (hb.cell (World.block_lt_of_cell? _ _ (hHeld.2.1))).trans (hHeld.2.1)
           have HS2_ := (hb.cell (World.block_lt_of_cell? _ _ (hHeld.2.2.1))).trans (hHeld.2.2.1)
           have HS3_ := (hb.cell (World.block_lt_of_cell? _ _ (hHeld.2.2.2.1))).trans (hHeld.2.2.2.1)
           have HS4_ := (hb.cell (World.block_lt_of_cell? _ _ (hHeld.2.2.2.2.1))).trans (hHeld.2.2.2.2.1)
           have HS5_ := (hb.cell (World.block_lt_of_cell? _ _ (hHeld.2.2.2.2.2))).trans (hHeld.2.2.2.2.2)
           refine ⟨_, rfl, ?_⟩
           replace HO_3 := rb_ HO_3 hb
           replace HO_6 := rb_ HO_6 hb
           replace BK571 := Aside0.mk (bb_ BK571 hb)
           replace HB := Aside0.mk (bt_ HB hb)
           (try clear hb)
           (try clear hb2)
           (try clear hk)
           (try clear hi)
           refine hK.out _ _ ⟨HS0_, HS1_, HS2_, HS3_, HS4_, HS5_⟩ (fun hHeld => ?_)
           clear hK K
           refine nz_ 103 ?_
           refine pz_ 24 104 ba20_25 HT_ ?_
           refine pz_ 25 105 ba20_26 HT_ ?_
           refine pu_ 26 106 ba20_27 HT_ ?_
           refine pu_ 27 107 ba20_28 HT_ ?_
           refine pu_ 28 108 ba20_29 HT_ ?_
           refine pu_ 29 109 ba20_30 HT_ ?_
           refine pu_ 30 110 ba20_31 HT_ ?_
           refine pu_ 31 111 ba20_32 HT_ ?_
           refine pu_ 32 112 ba20_33 HT_ ?_
           refine pu_ 33 113 ba20_34 HT_ ?_
           refine pu_ 34 114 ba20_35 HT_ ?_
           refine pz_ 35 115 ba20_36 HT_ ?_
           refine done_ (done_of HT_.out (by kernel_rfl)) ?_
           try go_wp2
           go_ret
           exact ⟨by first | rfl | (simp [errW_none, errW_some] <;> rfl) | (simp only [← hji23, ← hji25]; first | rfl | (simp [errW_none, errW_some] <;> rfl)) | (simp [*, errW_none, errW_some] <;> rfl), by repeat (first | (with_reducible first | exact HB.out | apply below_alloc | apply pw_below_drewN | apply below_drew1 | refine below_set ?_ GE571.out) | exact HB.out)⟩
          replace c67 := Bool.eq_false_iff.mpr c67
          subst c67
          rw [if_neg (show ¬ (false = true) by decide)] at H
          replace H := Option.bind_eq_some_iff.mp H
          obtain ⟨t585, A740, H⟩ := H
          have A74 := Aside0.mk A740
          clear A740
          by_cases c75 : t585 = true
          ·subst c75
           rw [if_pos rfl] at H
           obtain rfl := Option.some.inj H
           have p567 : 0 ≤ (x9_3 : Int) := of_decide_eq_true (by first | (with_reducible assumption) | assumption)
           have q567 : x9_3 < (t561.length : Int) := of_decide_eq_true (by first | (with_reducible assumption) | assumption)
           obtain ⟨ad567, e567, hx567_0, hx567_1⟩ := at_T28 (Kd.R_reads' HO_6.out).2.2 x9_3 p567 q567
           obtain rfl : ad566 = ad567 := (by injection e567)
           replace p567 := eq_true p567
           replace q567 := eq_true q567
           try go_wp2_with (first | ((with_reducible refine gate_callee (f := 36) rfl ?_); refine gl_ (some 77) Try.func36 #[.agg #[.int .i64 ((rd_T28 t561 x9_3).f0), .int .i64 ((rd_T28 t561 x9_3).f1)]] ?_; (with_reducible refine (impl_Sibling.calls ((rd_T28 t561 x9_3).f0) ((rd_T28 t561 x9_3).f1) t568 t569 t570 _ A30.out).mono ?_); rintro e w76 ⟨rfl, hb⟩; refine ⟨_, rfl, ?_⟩; replace HO_3 := rb_ HO_3 hb; replace HO_6 := rb_ HO_6 hb; replace HB := Aside0.mk (bt_ HB hb); (try clear hb); (try clear hb2); (try clear hk); (try clear hi)) | ((with_reducible refine gate_dst (N := 11) rfl ?_); refine box_event ?hg (N := 11) ?hd (cs := #[.int .i64 0, .int .i64 0]) (t := 28) ?hr ?_; (case hd => rfl); (case hg => rfl); (case hr => first | (go_simp; done) | (go_simp; rfl)); intro gb571 hg w77 hbox hb; have BK571 := Aside0.mk hbox; have GW571 := ge_ HB hg; have GE571 := ge_ HB hg; replace HO_3 := Aside0.mk (Kd.R_below (Kd.R_elderB (hd_ HO_3) gb571 (Nat.le_of_eq hg.symm)) hb); replace HO_6 := Aside0.mk (Kd.R_below (Kd.R_elderB (hd_ HO_6) gb571 (Nat.le_of_eq hg.symm)) hb); replace HB := Aside0.mk (bt_ HB hb); clear hb hbox hg; have hcz78_0 := cz_ BK571 0 (.int .i64 0); have hcz78_1 := cz_ BK571 1 (.int .i64 0); have hfz78_0 := blk_frozen BK571.out 0; have hfz78_1 := blk_frozen BK571.out 1))
           have n0_ : Aside0 (Kd.R k28 28 ((w77.setCell ⟨gb571, 0, none⟩ (.int .i64 t568)).setCell ⟨gb571, 1, none⟩ (.int .i64 t569)) w.heap.size (fun k_ => some k_ ≠ (.slice (some ad566) t561.length co26 : Value).ownBlock ∧ k_ ≠ gb571) (.slice Ao9 t554.length co9) t554) := ⟨by (with_reducible repeat (first | apply Kd.R_alloc | apply Kd.R_drewN | apply Kd.R_drew)); exact Kd.R_mono (Kd.R_far (p := ⟨gb571, 1, none⟩) (Kd.R_far (p := ⟨gb571, 0, none⟩) (Kd.R_mono HO_3.out (fun k_ hk => (⟨hk, hk.2⟩ : _ ∧ k_ ≠ gb571))) (fun _ hk => hk.2) (.int .i64 t568)) (fun _ hk => hk.2) (.int .i64 t569)) (fun _ hk => by first | exact ⟨hk.1.1, hk.1.2⟩ | grind)⟩
           have n1_ : Aside0 (Kd.R k28 28 ((w77.setCell ⟨gb571, 0, none⟩ (.int .i64 t568)).setCell ⟨gb571, 1, none⟩ (.int .i64 t569)) w.heap.size (fun k_ => some k_ ≠ (.slice Ao9 t554.length co9 : Value).ownBlock ∧ k_ ≠ gb571) (.slice (some ad566) t561.length co26) t561) := ⟨by (with_reducible repeat (first | apply Kd.R_alloc | apply Kd.R_drewN | apply Kd.R_drew)); exact Kd.R_mono (Kd.R_far (p := ⟨gb571, 1, none⟩) (Kd.R_far (p := ⟨gb571, 0, none⟩) (Kd.R_mono HO_6.out (fun k_ hk => (⟨hk, hk.2⟩ : _ ∧ k_ ≠ gb571))) (fun _ hk => hk.2) (.int .i64 t568)) (fun _ hk => hk.2) (.int .i64 t569)) (fun _ hk => by first | exact ⟨hk.1.1, hk.1.2⟩ | grind)⟩
           have n2_ : Aside0 (((w77.setCell ⟨gb571, 0, none⟩ (.int .i64 t568)).setCell ⟨gb571, 1, none⟩ (.int .i64 t569)).heap[gb571]? = some (.cells #[.int .i64 t568, .int .i64 t569] 28 (0, 0))) := ⟨by (with_reducible repeat (first | refine blk_drewN ?_ _ | refine blk_drew ?_ | refine blk_alloc ?_ _)); refine blk_put (cs := #[.int .i64 t568, .int .i64 0]) ?_ 1 _ rfl; (with_reducible repeat (first | refine blk_drewN ?_ _ | refine blk_drew ?_ | refine blk_alloc ?_ _)); refine blk_put (cs := #[.int .i64 0, .int .i64 0]) ?_ 0 _ rfl; (with_reducible repeat (first | refine blk_drewN ?_ _ | refine blk_drew ?_ | refine blk_alloc ?_ _)); exact BK571.out⟩
           have n3_ : Aside0 (Below w.heap.size w ((w77.setCell ⟨gb571, 0, none⟩ (.int .i64 t568)).setCell ⟨gb571, 1, none⟩ (.int .i64 t569))) := ⟨by repeat (first | (with_reducible first | exact HB.out | apply below_alloc | apply pw_below_drewN | apply below_drew1 | refine below_set ?_ GE571.out) | exact HB.out)⟩
           (try clear HO_3)
           (try clear HO_6)
           (try clear BK571)
           (try clear HB)
           generalize ((w77.setCell ⟨gb571, 0, none⟩ (.int .i64 t568)).setCell ⟨gb571, 1, none⟩ (.int .i64 t569)) = w79 at n0_ n1_ n2_ n3_ ⊢
           have HO_3 := n0_
           have HO_6 := n1_
           have BK571 := n2_
           have HB := n3_
           clear n0_ n1_ n2_ n3_
           replace HO_3 := Aside0.mk (Kd.R_drew HO_3.out)
           replace HO_6 := Aside0.mk (Kd.R_drew HO_6.out)
           replace BK571 := Aside0.mk (blk_drew BK571.out)
           replace HB := Aside0.mk (below_drew1 HB.out)
           have p572 : 0 ≤ (x9_3 : Int) := of_decide_eq_true (by first | (with_reducible assumption) | assumption)
           have q572 : x9_3 < (t561.length : Int) := of_decide_eq_true (by first | (with_reducible assumption) | assumption)
           obtain ⟨ad572, e572, hx572_0, hx572_1⟩ := at_T28 (Kd.R_reads' HO_6.out).2.2 x9_3 p572 q572
           obtain rfl : ad566 = ad572 := (by injection e572)
           replace p572 := eq_true p572
           replace q572 := eq_true q572
           have p580 : 0 ≤ (x9_3 : Int) := of_decide_eq_true (by first | (with_reducible assumption) | assumption)
           have q580 : x9_3 < (t561.length : Int) := of_decide_eq_true (by first | (with_reducible assumption) | assumption)
           obtain ⟨ad580, e580, hx580_0, hx580_1⟩ := at_T28 (Kd.R_reads' HO_6.out).2.2 x9_3 p580 q580
           obtain rfl : ad566 = ad580 := (by injection e580)
           replace p580 := eq_true p580
           replace q580 := eq_true q580
           have p581 : 0 ≤ (x10_4 : Int) := of_decide_eq_true (by first | (with_reducible assumption) | assumption)
           have q581 : x10_4 < (t561.length : Int) := of_decide_eq_true (by first | (with_reducible assumption) | assumption)
           obtain ⟨ad581, e581, hx581_0, hx581_1⟩ := at_T28 (Kd.R_reads' HO_6.out).2.2 x10_4 p581 q581
           obtain rfl : ad566 = ad581 := (by injection e581)
           replace p581 := eq_true p581
           replace q581 := eq_true q581
           have p583 : 0 ≤ (x10_4 : Int) := of_decide_eq_true (by first | (with_reducible assumption) | assumption)
           have q583 : x10_4 < (t561.length : Int) := of_decide_eq_true (by first | (with_reducible assumption) | assumption)
           obtain ⟨ad583, e583, hx583_0, hx583_1⟩ := at_T28 (Kd.R_reads' HO_6.out).2.2 x10_4 p583 q583
           obtain rfl : ad566 = ad583 := (by injection e583)
           replace p583 := eq_true p583
           replace q583 := eq_true q583
           have p584 : 0 ≤ (x9_3 : Int) := of_decide_eq_true (by first | (with_reducible assumption) | assumption)
           have q584 : x9_3 < (t561.length : Int) := of_decide_eq_true (by first | (with_reducible assumption) | assumption)
           obtain ⟨ad584, e584, hx584_0, hx584_1⟩ := at_T28 (Kd.R_reads' HO_6.out).2.2 x9_3 p584 q584
           obtain rfl : ad566 = ad584 := (by injection e584)
           replace p584 := eq_true p584
           replace q584 := eq_true q584
           refine start_ (n := 36) (S := fun w' => w'.cell? (ad566.add ((x9_3).toNat * 2)) = some (.int .i64 ((rd_T28 t561 x9_3).f0)) ∧ w'.cell? ⟨(ad566.add ((x9_3).toNat * 2)).block, (ad566.add ((x9_3).toNat * 2)).off + 1, none⟩ = some (.int .i64 ((rd_T28 t561 x9_3).f1)) ∧ w'.cell? (ad566.add ((x9_3).toNat * 2)) = some (.int .i64 ((rd_T28 t561 x9_3).f0)) ∧ w'.cell? ⟨(ad566.add ((x9_3).toNat * 2)).block, (ad566.add ((x9_3).toNat * 2)).off + 1, none⟩ = some (.int .i64 ((rd_T28 t561 x9_3).f1)) ∧ w'.cell? (ad566.add ((x10_4).toNat * 2)) = some (.int .i64 ((rd_T28 t561 x10_4).f0)) ∧ w'.cell? ⟨(ad566.add ((x10_4).toNat * 2)).block, (ad566.add ((x10_4).toNat * 2)).off + 1, none⟩ = some (.int .i64 ((rd_T28 t561 x10_4).f1)) ∧ w'.cell? (ad566.add ((x10_4).toNat * 2)) = some (.int .i64 ((rd_T28 t561 x10_4).f0)) ∧ w'.cell? ⟨(ad566.add ((x10_4).toNat * 2)).block, (ad566.add ((x10_4).toNat * 2)).off + 1, none⟩ = some (.int .i64 ((rd_T28 t561 x10_4).f1)) ∧ w'.cell? (ad566.add ((x9_3).toNat * 2)) = some (.int .i64 ((rd_T28 t561 x9_3).f0)) ∧ w'.cell? ⟨(ad566.add ((x9_3).toNat * 2)).block, (ad566.add ((x9_3).toNat * 2)).off + 1, none⟩ = some (.int .i64 ((rd_T28 t561 x9_3).f1))) (ds := []) ba20_0 (by kernel_rfl) rfl rfl ⟨hx572_0, hx572_1, hx580_0, hx580_1, hx581_0, hx581_1, hx583_0, hx583_1, hx584_0, hx584_1⟩ (fun hHeld => ?_); refine with_tabW laws_FnAggregate.tab19 laws_FnAggregate.bits19 (fun HT_ HW_ => ?_)
           generalize w79.drew = w80 at HO_3 HO_6 BK571 HB hx572_0 hx572_1 hx580_0 hx580_1 hx581_0 hx581_1 hx583_0 hx583_1 hx584_0 hx584_1 hHeld ⊢
           refine pz_ 0 80 ba20_1 HT_ ?_
           refine pz_ 1 81 ba20_2 HT_ ?_
           refine pz_ 2 82 ba20_3 HT_ ?_
           refine pz_ 3 83 ba20_4 HT_ ?_
           refine pt_ 4 84 ba20_5 HT_ HW_ hHeld ?_
           refine pz_ 5 85 ba20_6 HT_ ?_
           refine pz_ 6 86 ba20_7 HT_ ?_
           refine pu_ 7 87 ba20_43 HT_ ?_
           refine pu_ 8 88 ba20_44 HT_ ?_
           refine pu_ 9 89 ba20_45 HT_ ?_
           refine pu_ 10 90 ba20_11 HT_ ?_
           refine pu_ 11 91 ba20_12 HT_ ?_
           refine pu_ 12 92 ba20_13 HT_ ?_
           refine pz_ 13 93 ba20_14 HT_ ?_
           refine pz_ 14 94 ba20_15 HT_ ?_
           refine pz_ 15 95 ba20_16 HT_ ?_
           refine pz_ 16 96 ba20_17 HT_ ?_
           refine pz_ 17 97 ba20_18 HT_ ?_
           refine pz_ 19 99 ba20_37 HT_ ?_
           refine pz_ 20 100 ba20_38 HT_ ?_
           refine pz_ 21 101 ba20_39 HT_ ?_
           refine pt_ 18 98 ba20_22 HT_ HW_ hHeld ?_
           refine pt_ 22 102 ba20_23 HT_ HW_ hHeld ?_
           refine one_ (i := 23) (N := some 103) ba20_24 rfl rfl (one_of HT_.out (by kernel_rfl)) (by decide) (fun K hK => ?_)
           refine gz_ Try.func37 #[.agg #[.int .i64 ((rd_T28 t561 x9_3).f0), .int .i64 ((rd_T28 t561 x9_3).f1)], .agg #[.int .i64 ((rd_T28 t561 x10_4).f0), .int .i64 ((rd_T28 t561 x10_4).f1)]] ?_
           with_reducible refine (impl_CoversPrefix.calls ((rd_T28 t561 x9_3).f0) ((rd_T28 t561 x9_3).f1) ((rd_T28 t561 x10_4).f0) ((rd_T28 t561 x10_4).f1) false _ A66.out).mono ?_
           rintro e w81 ⟨rfl, hb⟩
           have HS0_ := (hb.cell (World.block_lt_of_cell? _ _ (hHeld.1))).trans (hHeld.1)
           have HS1_ := (hb.cell (World.block_lt_of_cell? _ _ (hHeld.2.1))).trans (hHeld.2.1)
           have HS2_ := (hb.cell (World.block_lt_of_cell? _ _ (hHeld.2.2.1))).trans (hHeld.2.2.1)
           have HS3_ := (hb.cell (World.block_lt_of_cell? _ _ (hHeld.2.2.2.1))).trans (hHeld.2.2.2.1)
           have HS4_ := (hb.cell (World.block_lt_of_cell? _ _ (hHeld.2.2.2.2.1))).trans (hHeld.2.2.2.2.1)
           have HS5_ := (hb.cell (World.block_lt_of_cell? _ _ (hHeld.2.2.2.2.2.1))).trans (hHeld.2.2.2.2.2.1)
           have HS6_ := (hb.cell (World.block_lt_of_cell? _ _ (hHeld.2.2.2.2.2.2.1))).trans (hHeld.2.2.2.2.2.2.1)
           have HS7_ := (hb.cell (World.block_lt_of_cell? _ _ (hHeld.2.2.2.2.2.2.2.1))).trans (hHeld.2.2.2.2.2.2.2.1)
           have HS8_ := (hb.cell (World.block_lt_of_cell? _ _ (hHeld.2.2.2.2.2.2.2.2.1))).trans (hHeld.2.2.2.2.2.2.2.2.1)
           have HS9_ := (hb.cell (World.block_lt_of_cell? _ _ (hHeld.2.2.2.2.2.2.2.2.2))).trans (hHeld.2.2.2.2.2.2.2.2.2)
           refine ⟨_, rfl, ?_⟩
           replace HO_3 := rb_ HO_3 hb
           replace HO_6 := rb_ HO_6 hb
           replace BK571 := Aside0.mk (bb_ BK571 hb)
           replace HB := Aside0.mk (bt_ HB hb)
           (try clear hb)
           (try clear hb2)
           (try clear hk)
           (try clear hi)
           refine hK.out _ _ ⟨HS0_, HS1_, HS2_, HS3_, HS4_, HS5_, HS6_, HS7_, HS8_, HS9_⟩ (fun hHeld => ?_)
           clear hK K
           refine nz_ 103 ?_
           refine pz_ 24 104 ba20_25 HT_ ?_
           refine pz_ 25 105 ba20_26 HT_ ?_
           refine pz_ 26 106 ba20_27 HT_ ?_
           refine pz_ 27 107 ba20_28 HT_ ?_
           refine pz_ 28 108 ba20_29 HT_ ?_
           refine pz_ 30 110 ba20_40 HT_ ?_
           refine pz_ 31 111 ba20_41 HT_ ?_
           refine pz_ 32 112 ba20_42 HT_ ?_
           refine pt_ 29 109 ba20_33 HT_ HW_ hHeld ?_
           refine pt_ 33 113 ba20_34 HT_ HW_ hHeld ?_
           refine one_ (i := 34) (N := some 114) ba20_35 rfl rfl (one_of HT_.out (by kernel_rfl)) (by decide) (fun K hK => ?_)
           refine gz_ Try.func37 #[.agg #[.int .i64 ((rd_T28 t561 x10_4).f0), .int .i64 ((rd_T28 t561 x10_4).f1)], .agg #[.int .i64 ((rd_T28 t561 x9_3).f0), .int .i64 ((rd_T28 t561 x9_3).f1)]] ?_
           with_reducible refine (impl_CoversPrefix.calls ((rd_T28 t561 x10_4).f0) ((rd_T28 t561 x10_4).f1) ((rd_T28 t561 x9_3).f0) ((rd_T28 t561 x9_3).f1) true _ A74.out).mono ?_
           rintro e w82 ⟨rfl, hb⟩
           have HS0_ := (hb.cell (World.block_lt_of_cell? _ _ (hHeld.1))).trans (hHeld.1)
           have HS1_ := (hb.cell (World.block_lt_of_cell? _ _ (hHeld.2.1))).trans (hHeld.2.1)
           have HS2_ := (hb.cell (World.block_lt_of_cell? _ _ (hHeld.2.2.1))).trans (hHeld.2.2.1)
           have HS3_ := (hb.cell (World.block_lt_of_cell? _ _ (hHeld.2.2.2.1))).trans (hHeld.2.2.2.1)
           have HS4_ := (hb.cell (World.block_lt_of_cell? _ _ (hHeld.2.2.2.2.1))).trans (hHeld.2.2.2.2.1)
           have HS5_ := (hb.cell (World.block_lt_of_cell? _ _ (hHeld.2.2.2.2.2.1))).trans (hHeld.2.2.2.2.2.1)
           have HS6_ := (hb.cell (World.block_lt_of_cell? _ _ (hHeld.2.2.2.2.2.2.1))).trans (hHeld.2.2.2.2.2.2.1)
           have HS7_ := (hb.cell (World.block_lt_of_cell? _ _ (hHeld.2.2.2.2.2.2.2.1))).trans (hHeld.2.2.2.2.2.2.2.1)
           have HS8_ := (hb.cell (World.block_lt_of_cell? _ _ (hHeld.2.2.2.2.2.2.2.2.1))).trans (hHeld.2.2.2.2.2.2.2.2.1)
           have HS9_ := (hb.cell (World.block_lt_of_cell? _ _ (hHeld.2.2.2.2.2.2.2.2.2))).trans (hHeld.2.2.2.2.2.2.2.2.2)
           refine ⟨_, rfl, ?_⟩
           replace HO_3 := rb_ HO_3 hb
           replace HO_6 := rb_ HO_6 hb
           replace BK571 := Aside0.mk (bb_ BK571 hb)
           replace HB := Aside0.mk (bt_ HB hb)
           (try clear hb)
           (try clear hb2)
           (try clear hk)
           (try clear hi)
           refine hK.out _ _ ⟨HS0_, HS1_, HS2_, HS3_, HS4_, HS5_, HS6_, HS7_, HS8_, HS9_⟩ (fun hHeld => ?_)
           clear hK K
           refine nz_ 114 ?_
           refine pz_ 35 115 ba20_36 HT_ ?_
           refine done_ (done_of HT_.out (by kernel_rfl)) ?_
           try go_wp2
           go_ret
           exact ⟨by first | rfl | (simp [errW_none, errW_some] <;> rfl) | (simp only [← hji23, ← hji25]; first | rfl | (simp [errW_none, errW_some] <;> rfl)) | (simp [*, errW_none, errW_some] <;> rfl), by repeat (first | (with_reducible first | exact HB.out | apply below_alloc | apply pw_below_drewN | apply below_drew1 | refine below_set ?_ GE571.out) | exact HB.out)⟩
          replace c75 := Bool.eq_false_iff.mpr c75
          subst c75
          rw [if_neg (show ¬ (false = true) by decide)] at H
          have H' := Aside0.mk H
          clear H
          have p567 : 0 ≤ (x9_3 : Int) := of_decide_eq_true (by first | (with_reducible assumption) | assumption)
          have q567 : x9_3 < (t561.length : Int) := of_decide_eq_true (by first | (with_reducible assumption) | assumption)
          obtain ⟨ad567, e567, hx567_0, hx567_1⟩ := at_T28 (Kd.R_reads' HO_6.out).2.2 x9_3 p567 q567
          obtain rfl : ad566 = ad567 := (by injection e567)
          replace p567 := eq_true p567
          replace q567 := eq_true q567
          try go_wp2_with (first | ((with_reducible refine gate_callee (f := 36) rfl ?_); refine gl_ (some 77) Try.func36 #[.agg #[.int .i64 ((rd_T28 t561 x9_3).f0), .int .i64 ((rd_T28 t561 x9_3).f1)]] ?_; (with_reducible refine (impl_Sibling.calls ((rd_T28 t561 x9_3).f0) ((rd_T28 t561 x9_3).f1) t568 t569 t570 _ A30.out).mono ?_); rintro e w83 ⟨rfl, hb⟩; refine ⟨_, rfl, ?_⟩; replace HO_3 := rb_ HO_3 hb; replace HO_6 := rb_ HO_6 hb; replace HB := Aside0.mk (bt_ HB hb); (try clear hb); (try clear hb2); (try clear hk); (try clear hi)) | ((with_reducible refine gate_dst (N := 11) rfl ?_); refine box_event ?hg (N := 11) ?hd (cs := #[.int .i64 0, .int .i64 0]) (t := 28) ?hr ?_; (case hd => rfl); (case hg => rfl); (case hr => first | (go_simp; done) | (go_simp; rfl)); intro gb571 hg w84 hbox hb; have BK571 := Aside0.mk hbox; have GW571 := ge_ HB hg; have GE571 := ge_ HB hg; replace HO_3 := Aside0.mk (Kd.R_below (Kd.R_elderB (hd_ HO_3) gb571 (Nat.le_of_eq hg.symm)) hb); replace HO_6 := Aside0.mk (Kd.R_below (Kd.R_elderB (hd_ HO_6) gb571 (Nat.le_of_eq hg.symm)) hb); replace HB := Aside0.mk (bt_ HB hb); clear hb hbox hg; have hcz85_0 := cz_ BK571 0 (.int .i64 0); have hcz85_1 := cz_ BK571 1 (.int .i64 0); have hfz85_0 := blk_frozen BK571.out 0; have hfz85_1 := blk_frozen BK571.out 1))
          have n0_ : Aside0 (Kd.R k28 28 ((w84.setCell ⟨gb571, 0, none⟩ (.int .i64 t568)).setCell ⟨gb571, 1, none⟩ (.int .i64 t569)) w.heap.size (fun k_ => some k_ ≠ (.slice (some ad566) t561.length co26 : Value).ownBlock ∧ k_ ≠ gb571) (.slice Ao9 t554.length co9) t554) := ⟨by (with_reducible repeat (first | apply Kd.R_alloc | apply Kd.R_drewN | apply Kd.R_drew)); exact Kd.R_mono (Kd.R_far (p := ⟨gb571, 1, none⟩) (Kd.R_far (p := ⟨gb571, 0, none⟩) (Kd.R_mono HO_3.out (fun k_ hk => (⟨hk, hk.2⟩ : _ ∧ k_ ≠ gb571))) (fun _ hk => hk.2) (.int .i64 t568)) (fun _ hk => hk.2) (.int .i64 t569)) (fun _ hk => by first | exact ⟨hk.1.1, hk.1.2⟩ | grind)⟩
          have n1_ : Aside0 (Kd.R k28 28 ((w84.setCell ⟨gb571, 0, none⟩ (.int .i64 t568)).setCell ⟨gb571, 1, none⟩ (.int .i64 t569)) w.heap.size (fun k_ => some k_ ≠ (.slice Ao9 t554.length co9 : Value).ownBlock ∧ k_ ≠ gb571) (.slice (some ad566) t561.length co26) t561) := ⟨by (with_reducible repeat (first | apply Kd.R_alloc | apply Kd.R_drewN | apply Kd.R_drew)); exact Kd.R_mono (Kd.R_far (p := ⟨gb571, 1, none⟩) (Kd.R_far (p := ⟨gb571, 0, none⟩) (Kd.R_mono HO_6.out (fun k_ hk => (⟨hk, hk.2⟩ : _ ∧ k_ ≠ gb571))) (fun _ hk => hk.2) (.int .i64 t568)) (fun _ hk => hk.2) (.int .i64 t569)) (fun _ hk => by first | exact ⟨hk.1.1, hk.1.2⟩ | grind)⟩
          have n2_ : Aside0 (((w84.setCell ⟨gb571, 0, none⟩ (.int .i64 t568)).setCell ⟨gb571, 1, none⟩ (.int .i64 t569)).heap[gb571]? = some (.cells #[.int .i64 t568, .int .i64 t569] 28 (0, 0))) := ⟨by (with_reducible repeat (first | refine blk_drewN ?_ _ | refine blk_drew ?_ | refine blk_alloc ?_ _)); refine blk_put (cs := #[.int .i64 t568, .int .i64 0]) ?_ 1 _ rfl; (with_reducible repeat (first | refine blk_drewN ?_ _ | refine blk_drew ?_ | refine blk_alloc ?_ _)); refine blk_put (cs := #[.int .i64 0, .int .i64 0]) ?_ 0 _ rfl; (with_reducible repeat (first | refine blk_drewN ?_ _ | refine blk_drew ?_ | refine blk_alloc ?_ _)); exact BK571.out⟩
          have n3_ : Aside0 (Below w.heap.size w ((w84.setCell ⟨gb571, 0, none⟩ (.int .i64 t568)).setCell ⟨gb571, 1, none⟩ (.int .i64 t569))) := ⟨by repeat (first | (with_reducible first | exact HB.out | apply below_alloc | apply pw_below_drewN | apply below_drew1 | refine below_set ?_ GE571.out) | exact HB.out)⟩
          (try clear HO_3)
          (try clear HO_6)
          (try clear BK571)
          (try clear HB)
          generalize ((w84.setCell ⟨gb571, 0, none⟩ (.int .i64 t568)).setCell ⟨gb571, 1, none⟩ (.int .i64 t569)) = w86 at n0_ n1_ n2_ n3_ ⊢
          have HO_3 := n0_
          have HO_6 := n1_
          have BK571 := n2_
          have HB := n3_
          clear n0_ n1_ n2_ n3_
          replace HO_3 := Aside0.mk (Kd.R_drew HO_3.out)
          replace HO_6 := Aside0.mk (Kd.R_drew HO_6.out)
          replace BK571 := Aside0.mk (blk_drew BK571.out)
          replace HB := Aside0.mk (below_drew1 HB.out)
          have p572 : 0 ≤ (x9_3 : Int) := of_decide_eq_true (by first | (with_reducible assumption) | assumption)
          have q572 : x9_3 < (t561.length : Int) := of_decide_eq_true (by first | (with_reducible assumption) | assumption)
          obtain ⟨ad572, e572, hx572_0, hx572_1⟩ := at_T28 (Kd.R_reads' HO_6.out).2.2 x9_3 p572 q572
          obtain rfl : ad566 = ad572 := (by injection e572)
          replace p572 := eq_true p572
          replace q572 := eq_true q572
          have p580 : 0 ≤ (x9_3 : Int) := of_decide_eq_true (by first | (with_reducible assumption) | assumption)
          have q580 : x9_3 < (t561.length : Int) := of_decide_eq_true (by first | (with_reducible assumption) | assumption)
          obtain ⟨ad580, e580, hx580_0, hx580_1⟩ := at_T28 (Kd.R_reads' HO_6.out).2.2 x9_3 p580 q580
          obtain rfl : ad566 = ad580 := (by injection e580)
          replace p580 := eq_true p580
          replace q580 := eq_true q580
          have p581 : 0 ≤ (x10_4 : Int) := of_decide_eq_true (by first | (with_reducible assumption) | assumption)
          have q581 : x10_4 < (t561.length : Int) := of_decide_eq_true (by first | (with_reducible assumption) | assumption)
          obtain ⟨ad581, e581, hx581_0, hx581_1⟩ := at_T28 (Kd.R_reads' HO_6.out).2.2 x10_4 p581 q581
          obtain rfl : ad566 = ad581 := (by injection e581)
          replace p581 := eq_true p581
          replace q581 := eq_true q581
          have p583 : 0 ≤ (x10_4 : Int) := of_decide_eq_true (by first | (with_reducible assumption) | assumption)
          have q583 : x10_4 < (t561.length : Int) := of_decide_eq_true (by first | (with_reducible assumption) | assumption)
          obtain ⟨ad583, e583, hx583_0, hx583_1⟩ := at_T28 (Kd.R_reads' HO_6.out).2.2 x10_4 p583 q583
          obtain rfl : ad566 = ad583 := (by injection e583)
          replace p583 := eq_true p583
          replace q583 := eq_true q583
          have p584 : 0 ≤ (x9_3 : Int) := of_decide_eq_true (by first | (with_reducible assumption) | assumption)
          have q584 : x9_3 < (t561.length : Int) := of_decide_eq_true (by first | (with_reducible assumption) | assumption)
          obtain ⟨ad584, e584, hx584_0, hx584_1⟩ := at_T28 (Kd.R_reads' HO_6.out).2.2 x9_3 p584 q584
          obtain rfl : ad566 = ad584 := (by injection e584)
          replace p584 := eq_true p584
          replace q584 := eq_true q584
          refine start_ (n := 36) (S := fun w' => w'.cell? (ad566.add ((x9_3).toNat * 2)) = some (.int .i64 ((rd_T28 t561 x9_3).f0)) ∧ w'.cell? ⟨(ad566.add ((x9_3).toNat * 2)).block, (ad566.add ((x9_3).toNat * 2)).off + 1, none⟩ = some (.int .i64 ((rd_T28 t561 x9_3).f1)) ∧ w'.cell? (ad566.add ((x9_3).toNat * 2)) = some (.int .i64 ((rd_T28 t561 x9_3).f0)) ∧ w'.cell? ⟨(ad566.add ((x9_3).toNat * 2)).block, (ad566.add ((x9_3).toNat * 2)).off + 1, none⟩ = some (.int .i64 ((rd_T28 t561 x9_3).f1)) ∧ w'.cell? (ad566.add ((x10_4).toNat * 2)) = some (.int .i64 ((rd_T28 t561 x10_4).f0)) ∧ w'.cell? ⟨(ad566.add ((x10_4).toNat * 2)).block, (ad566.add ((x10_4).toNat * 2)).off + 1, none⟩ = some (.int .i64 ((rd_T28 t561 x10_4).f1)) ∧ w'.cell? (ad566.add ((x10_4).toNat * 2)) = some (.int .i64 ((rd_T28 t561 x10_4).f0)) ∧ w'.cell? ⟨(ad566.add ((x10_4).toNat * 2)).block, (ad566.add ((x10_4).toNat * 2)).off + 1, none⟩ = some (.int .i64 ((rd_T28 t561 x10_4).f1)) ∧ w'.cell? (ad566.add ((x9_3).toNat * 2)) = some (.int .i64 ((rd_T28 t561 x9_3).f0)) ∧ w'.cell? ⟨(ad566.add ((x9_3).toNat * 2)).block, (ad566.add ((x9_3).toNat * 2)).off + 1, none⟩ = some (.int .i64 ((rd_T28 t561 x9_3).f1))) (ds := []) ba20_0 (by kernel_rfl) rfl rfl ⟨hx572_0, hx572_1, hx580_0, hx580_1, hx581_0, hx581_1, hx583_0, hx583_1, hx584_0, hx584_1⟩ (fun hHeld => ?_); refine with_tabW laws_FnAggregate.tab19 laws_FnAggregate.bits19 (fun HT_ HW_ => ?_)
          generalize w86.drew = w87 at HO_3 HO_6 BK571 HB hx572_0 hx572_1 hx580_0 hx580_1 hx581_0 hx581_1 hx583_0 hx583_1 hx584_0 hx584_1 hHeld ⊢
          refine pz_ 0 80 ba20_1 HT_ ?_
          refine pz_ 1 81 ba20_2 HT_ ?_
          refine pz_ 2 82 ba20_3 HT_ ?_
          refine pz_ 3 83 ba20_4 HT_ ?_
          refine pt_ 4 84 ba20_5 HT_ HW_ hHeld ?_
          refine pz_ 5 85 ba20_6 HT_ ?_
          refine pz_ 6 86 ba20_7 HT_ ?_
          refine pu_ 7 87 ba20_43 HT_ ?_
          refine pu_ 8 88 ba20_44 HT_ ?_
          refine pu_ 9 89 ba20_45 HT_ ?_
          refine pu_ 10 90 ba20_11 HT_ ?_
          refine pu_ 11 91 ba20_12 HT_ ?_
          refine pu_ 12 92 ba20_13 HT_ ?_
          refine pz_ 13 93 ba20_14 HT_ ?_
          refine pz_ 14 94 ba20_15 HT_ ?_
          refine pz_ 15 95 ba20_16 HT_ ?_
          refine pz_ 16 96 ba20_17 HT_ ?_
          refine pz_ 17 97 ba20_18 HT_ ?_
          refine pz_ 19 99 ba20_37 HT_ ?_
          refine pz_ 20 100 ba20_38 HT_ ?_
          refine pz_ 21 101 ba20_39 HT_ ?_
          refine pt_ 18 98 ba20_22 HT_ HW_ hHeld ?_
          refine pt_ 22 102 ba20_23 HT_ HW_ hHeld ?_
          refine one_ (i := 23) (N := some 103) ba20_24 rfl rfl (one_of HT_.out (by kernel_rfl)) (by decide) (fun K hK => ?_)
          refine gz_ Try.func37 #[.agg #[.int .i64 ((rd_T28 t561 x9_3).f0), .int .i64 ((rd_T28 t561 x9_3).f1)], .agg #[.int .i64 ((rd_T28 t561 x10_4).f0), .int .i64 ((rd_T28 t561 x10_4).f1)]] ?_
          with_reducible refine (impl_CoversPrefix.calls ((rd_T28 t561 x9_3).f0) ((rd_T28 t561 x9_3).f1) ((rd_T28 t561 x10_4).f0) ((rd_T28 t561 x10_4).f1) false _ A66.out).mono ?_
          rintro e w88 ⟨rfl, hb⟩
          have HS0_ := (hb.cell (World.block_lt_of_cell? _ _ (hHeld.1))).trans (hHeld.1)
          have HS1_ := (hb.cell (World.block_lt_of_cell? _ _ (hHeld.2.1))).trans (hHeld.2.1)
          have HS2_ := (hb.cell (World.block_lt_of_cell? _ _ (hHeld.2.2.1))).trans (hHeld.2.2.1)
          have HS3_ := (hb.cell (World.block_lt_of_cell? _ _ (hHeld.2.2.2.1))).trans (hHeld.2.2.2.1)
          have HS4_ := (hb.cell (World.block_lt_of_cell? _ _ (hHeld.2.2.2.2.1))).trans (hHeld.2.2.2.2.1)
          have HS5_ := (hb.cell (World.block_lt_of_cell? _ _ (hHeld.2.2.2.2.2.1))).trans (hHeld.2.2.2.2.2.1)
          have HS6_ := (hb.cell (World.block_lt_of_cell? _ _ (hHeld.2.2.2.2.2.2.1))).trans (hHeld.2.2.2.2.2.2.1)
          have HS7_ := (hb.cell (World.block_lt_of_cell? _ _ (hHeld.2.2.2.2.2.2.2.1))).trans (hHeld.2.2.2.2.2.2.2.1)
          have HS8_ := (hb.cell (World.block_lt_of_cell? _ _ (hHeld.2.2.2.2.2.2.2.2.1))).trans (hHeld.2.2.2.2.2.2.2.2.1)
          have HS9_ := (hb.cell (World.block_lt_of_cell? _ _ (hHeld.2.2.2.2.2.2.2.2.2))).trans (hHeld.2.2.2.2.2.2.2.2.2)
          refine ⟨_, rfl, ?_⟩
          replace HO_3 := rb_ HO_3 hb
          replace HO_6 := rb_ HO_6 hb
          replace BK571 := Aside0.mk (bb_ BK571 hb)
          replace HB := Aside0.mk (bt_ HB hb)
          (try clear hb)
          (try clear hb2)
          (try clear hk)
          (try clear hi)
          refine hK.out _ _ ⟨HS0_, HS1_, HS2_, HS3_, HS4_, HS5_, HS6_, HS7_, HS8_, HS9_⟩ (fun hHeld => ?_)
          clear hK K
          refine nz_ 103 ?_
          refine pz_ 24 104 ba20_25 HT_ ?_
          refine pz_ 25 105 ba20_26 HT_ ?_
          refine pz_ 26 106 ba20_27 HT_ ?_
          refine pz_ 27 107 ba20_28 HT_ ?_
          refine pz_ 28 108 ba20_29 HT_ ?_
          refine pz_ 30 110 ba20_40 HT_ ?_
          refine pz_ 31 111 ba20_41 HT_ ?_
          refine pz_ 32 112 ba20_42 HT_ ?_
          refine pt_ 29 109 ba20_33 HT_ HW_ hHeld ?_
          refine pt_ 33 113 ba20_34 HT_ HW_ hHeld ?_
          refine one_ (i := 34) (N := some 114) ba20_35 rfl rfl (one_of HT_.out (by kernel_rfl)) (by decide) (fun K hK => ?_)
          refine gz_ Try.func37 #[.agg #[.int .i64 ((rd_T28 t561 x10_4).f0), .int .i64 ((rd_T28 t561 x10_4).f1)], .agg #[.int .i64 ((rd_T28 t561 x9_3).f0), .int .i64 ((rd_T28 t561 x9_3).f1)]] ?_
          with_reducible refine (impl_CoversPrefix.calls ((rd_T28 t561 x10_4).f0) ((rd_T28 t561 x10_4).f1) ((rd_T28 t561 x9_3).f0) ((rd_T28 t561 x9_3).f1) false _ A74.out).mono ?_
          rintro e w89 ⟨rfl, hb⟩
          have HS0_ := (hb.cell (World.block_lt_of_cell? _ _ (hHeld.1))).trans (hHeld.1)
          have HS1_ := (hb.cell (World.block_lt_of_cell? _ _ (hHeld.2.1))).trans (hHeld.2.1)
          have HS2_ := (hb.cell (World.block_lt_of_cell? _ _ (hHeld.2.2.1))).trans (hHeld.2.2.1)
          have HS3_ := (hb.cell (World.block_lt_of_cell? _ _ (hHeld.2.2.2.1))).trans (hHeld.2.2.2.1)
          have HS4_ := (hb.cell (World.block_lt_of_cell? _ _ (hHeld.2.2.2.2.1))).trans (hHeld.2.2.2.2.1)
          have HS5_ := (hb.cell (World.block_lt_of_cell? _ _ (hHeld.2.2.2.2.2.1))).trans (hHeld.2.2.2.2.2.1)
          have HS6_ := (hb.cell (World.block_lt_of_cell? _ _ (hHeld.2.2.2.2.2.2.1))).trans (hHeld.2.2.2.2.2.2.1)
          have HS7_ := (hb.cell (World.block_lt_of_cell? _ _ (hHeld.2.2.2.2.2.2.2.1))).trans (hHeld.2.2.2.2.2.2.2.1)
          have HS8_ := (hb.cell (World.block_lt_of_cell? _ _ (hHeld.2.2.2.2.2.2.2.2.1))).trans (hHeld.2.2.2.2.2.2.2.2.1)
          have HS9_ := (hb.cell (World.block_lt_of_cell? _ _ (hHeld.2.2.2.2.2.2.2.2.2))).trans (hHeld.2.2.2.2.2.2.2.2.2)
          refine ⟨_, rfl, ?_⟩
          replace HO_3 := rb_ HO_3 hb
          replace HO_6 := rb_ HO_6 hb
          replace BK571 := Aside0.mk (bb_ BK571 hb)
          replace HB := Aside0.mk (bt_ HB hb)
          (try clear hb)
          (try clear hb2)
          (try clear hk)
          (try clear hi)
          refine hK.out _ _ ⟨HS0_, HS1_, HS2_, HS3_, HS4_, HS5_, HS6_, HS7_, HS8_, HS9_⟩ (fun hHeld => ?_)
          clear hK K
          refine nz_ 114 ?_
          refine pz_ 35 115 ba20_36 HT_ ?_
          refine done_ (done_of HT_.out (by kernel_rfl)) ?_
          try go_wp2
          go_roundg k4
          case measure => have := HJ6.out; have := HJ16.out; have := HK3.out; have := HK4.out; omega
          case rel => exact ⟨(wrap64 (x10_4 + 1)), (by first | rfl | (simp; done) | (simp [*]; done)), H', ⟨by have := HJ6.out; have := HJ16.out; have := HK3.out; have := HK4.out; omega⟩, ⟨by (with_reducible repeat (first | apply Kd.R_alloc | apply Kd.R_drewN | apply Kd.R_drew)); exact Kd.R_mono HO_3.out (fun _ hk => hk.1)⟩, ⟨by (with_reducible repeat (first | apply Kd.R_alloc | apply Kd.R_drewN | apply Kd.R_drew)); exact Kd.R_mono HO_6.out (fun _ hk => hk.1)⟩, ⟨by repeat (first | (with_reducible first | exact HB.out | apply below_alloc | apply pw_below_drewN | apply below_drew1 | refine below_set ?_ GE571.out) | exact HB.out)⟩⟩
         rw [if_pos c31] at H
         have c31b0 : decide (0 < ((rd_T28 t561 x9_3).f1)) = true := decide_eq_true c31
         clear c31
         by_cases c32 : 0 ≤ x10_4
         rotate_left
         ·rw [if_neg c32] at H
          exact absurd H (by simp)
         rw [if_pos c32] at H
         have c32b0 : decide (0 ≤ x10_4) = true := decide_eq_true c32
         clear c32
         by_cases c33 : x10_4 < (t561.length : Int)
         rotate_left
         ·rw [if_neg c33] at H
          exact absurd H (by simp)
         rw [if_pos c33] at H
         have c33b0 : decide (x10_4 < (t561.length : Int)) = true := decide_eq_true c33
         clear c33
         by_cases c34 : (t568 == ((rd_T28 t561 x10_4).f0) && (t569 == ((rd_T28 t561 x10_4).f1))) = true
         ·rw [if_pos c34] at H
          have c34b0 : (t568 == ((rd_T28 t561 x10_4).f0) && (t569 == ((rd_T28 t561 x10_4).f1))) = true := c34
          (try (have c34b1 : decide (t568 = ((rd_T28 t561 x10_4).f0) && (t569 == ((rd_T28 t561 x10_4).f1))) = true := by simpa using c34))
          (try (have c34b2 : (t568 == ((rd_T28 t561 x10_4).f0) && (t569 == ((rd_T28 t561 x10_4).f1))) = true := by simpa using c34))
          clear c34
          obtain rfl := Option.some.inj H
          have p567 : 0 ≤ (x9_3 : Int) := of_decide_eq_true (by first | (with_reducible assumption) | assumption)
          have q567 : x9_3 < (t561.length : Int) := of_decide_eq_true (by first | (with_reducible assumption) | assumption)
          obtain ⟨ad567, e567, hx567_0, hx567_1⟩ := at_T28 (Kd.R_reads' HO_6.out).2.2 x9_3 p567 q567
          obtain rfl : ad566 = ad567 := (by injection e567)
          replace p567 := eq_true p567
          replace q567 := eq_true q567
          try go_wp2_with (first | ((with_reducible refine gate_callee (f := 36) rfl ?_); refine gl_ (some 77) Try.func36 #[.agg #[.int .i64 ((rd_T28 t561 x9_3).f0), .int .i64 ((rd_T28 t561 x9_3).f1)]] ?_; (with_reducible refine (impl_Sibling.calls ((rd_T28 t561 x9_3).f0) ((rd_T28 t561 x9_3).f1) t568 t569 t570 _ A30.out).mono ?_); rintro e w35 ⟨rfl, hb⟩; refine ⟨_, rfl, ?_⟩; replace HO_3 := rb_ HO_3 hb; replace HO_6 := rb_ HO_6 hb; replace HB := Aside0.mk (bt_ HB hb); (try clear hb); (try clear hb2); (try clear hk); (try clear hi)) | ((with_reducible refine gate_dst (N := 11) rfl ?_); refine box_event ?hg (N := 11) ?hd (cs := #[.int .i64 0, .int .i64 0]) (t := 28) ?hr ?_; (case hd => rfl); (case hg => rfl); (case hr => first | (go_simp; done) | (go_simp; rfl)); intro gb571 hg w36 hbox hb; have BK571 := Aside0.mk hbox; have GW571 := ge_ HB hg; have GE571 := ge_ HB hg; replace HO_3 := Aside0.mk (Kd.R_below (Kd.R_elderB (hd_ HO_3) gb571 (Nat.le_of_eq hg.symm)) hb); replace HO_6 := Aside0.mk (Kd.R_below (Kd.R_elderB (hd_ HO_6) gb571 (Nat.le_of_eq hg.symm)) hb); replace HB := Aside0.mk (bt_ HB hb); clear hb hbox hg; have hcz37_0 := cz_ BK571 0 (.int .i64 0); have hcz37_1 := cz_ BK571 1 (.int .i64 0); have hfz37_0 := blk_frozen BK571.out 0; have hfz37_1 := blk_frozen BK571.out 1))
          have n0_ : Aside0 (Kd.R k28 28 ((w36.setCell ⟨gb571, 0, none⟩ (.int .i64 t568)).setCell ⟨gb571, 1, none⟩ (.int .i64 t569)) w.heap.size (fun k_ => some k_ ≠ (.slice (some ad566) t561.length co26 : Value).ownBlock ∧ k_ ≠ gb571) (.slice Ao9 t554.length co9) t554) := ⟨by (with_reducible repeat (first | apply Kd.R_alloc | apply Kd.R_drewN | apply Kd.R_drew)); exact Kd.R_mono (Kd.R_far (p := ⟨gb571, 1, none⟩) (Kd.R_far (p := ⟨gb571, 0, none⟩) (Kd.R_mono HO_3.out (fun k_ hk => (⟨hk, hk.2⟩ : _ ∧ k_ ≠ gb571))) (fun _ hk => hk.2) (.int .i64 t568)) (fun _ hk => hk.2) (.int .i64 t569)) (fun _ hk => by first | exact ⟨hk.1.1, hk.1.2⟩ | grind)⟩
          have n1_ : Aside0 (Kd.R k28 28 ((w36.setCell ⟨gb571, 0, none⟩ (.int .i64 t568)).setCell ⟨gb571, 1, none⟩ (.int .i64 t569)) w.heap.size (fun k_ => some k_ ≠ (.slice Ao9 t554.length co9 : Value).ownBlock ∧ k_ ≠ gb571) (.slice (some ad566) t561.length co26) t561) := ⟨by (with_reducible repeat (first | apply Kd.R_alloc | apply Kd.R_drewN | apply Kd.R_drew)); exact Kd.R_mono (Kd.R_far (p := ⟨gb571, 1, none⟩) (Kd.R_far (p := ⟨gb571, 0, none⟩) (Kd.R_mono HO_6.out (fun k_ hk => (⟨hk, hk.2⟩ : _ ∧ k_ ≠ gb571))) (fun _ hk => hk.2) (.int .i64 t568)) (fun _ hk => hk.2) (.int .i64 t569)) (fun _ hk => by first | exact ⟨hk.1.1, hk.1.2⟩ | grind)⟩
          have n2_ : Aside0 (((w36.setCell ⟨gb571, 0, none⟩ (.int .i64 t568)).setCell ⟨gb571, 1, none⟩ (.int .i64 t569)).heap[gb571]? = some (.cells #[.int .i64 t568, .int .i64 t569] 28 (0, 0))) := ⟨by (with_reducible repeat (first | refine blk_drewN ?_ _ | refine blk_drew ?_ | refine blk_alloc ?_ _)); refine blk_put (cs := #[.int .i64 t568, .int .i64 0]) ?_ 1 _ rfl; (with_reducible repeat (first | refine blk_drewN ?_ _ | refine blk_drew ?_ | refine blk_alloc ?_ _)); refine blk_put (cs := #[.int .i64 0, .int .i64 0]) ?_ 0 _ rfl; (with_reducible repeat (first | refine blk_drewN ?_ _ | refine blk_drew ?_ | refine blk_alloc ?_ _)); exact BK571.out⟩
          have n3_ : Aside0 (Below w.heap.size w ((w36.setCell ⟨gb571, 0, none⟩ (.int .i64 t568)).setCell ⟨gb571, 1, none⟩ (.int .i64 t569))) := ⟨by repeat (first | (with_reducible first | exact HB.out | apply below_alloc | apply pw_below_drewN | apply below_drew1 | refine below_set ?_ GE571.out) | exact HB.out)⟩
          (try clear HO_3)
          (try clear HO_6)
          (try clear BK571)
          (try clear HB)
          generalize ((w36.setCell ⟨gb571, 0, none⟩ (.int .i64 t568)).setCell ⟨gb571, 1, none⟩ (.int .i64 t569)) = w38 at n0_ n1_ n2_ n3_ ⊢
          have HO_3 := n0_
          have HO_6 := n1_
          have BK571 := n2_
          have HB := n3_
          clear n0_ n1_ n2_ n3_
          replace HO_3 := Aside0.mk (Kd.R_drew HO_3.out)
          replace HO_6 := Aside0.mk (Kd.R_drew HO_6.out)
          replace BK571 := Aside0.mk (blk_drew BK571.out)
          replace HB := Aside0.mk (below_drew1 HB.out)
          have p572 : 0 ≤ (x9_3 : Int) := of_decide_eq_true (by first | (with_reducible assumption) | assumption)
          have q572 : x9_3 < (t561.length : Int) := of_decide_eq_true (by first | (with_reducible assumption) | assumption)
          obtain ⟨ad572, e572, hx572_0, hx572_1⟩ := at_T28 (Kd.R_reads' HO_6.out).2.2 x9_3 p572 q572
          obtain rfl : ad566 = ad572 := (by injection e572)
          replace p572 := eq_true p572
          replace q572 := eq_true q572
          have p573 : 0 ≤ (x10_4 : Int) := of_decide_eq_true (by first | (with_reducible assumption) | assumption)
          have q573 : x10_4 < (t561.length : Int) := of_decide_eq_true (by first | (with_reducible assumption) | assumption)
          obtain ⟨ad573, e573, hx573_0, hx573_1⟩ := at_T28 (Kd.R_reads' HO_6.out).2.2 x10_4 p573 q573
          obtain rfl : ad566 = ad573 := (by injection e573)
          replace p573 := eq_true p573
          replace q573 := eq_true q573
          refine start_ (n := 36) (S := fun w' => w'.cell? ⟨gb571, 0, none⟩ = some (.int .i64 t568) ∧ w'.cell? ⟨gb571, 1, none⟩ = some (.int .i64 t569) ∧ w'.cell? (ad566.add ((x9_3).toNat * 2)) = some (.int .i64 ((rd_T28 t561 x9_3).f0)) ∧ w'.cell? ⟨(ad566.add ((x9_3).toNat * 2)).block, (ad566.add ((x9_3).toNat * 2)).off + 1, none⟩ = some (.int .i64 ((rd_T28 t561 x9_3).f1)) ∧ w'.cell? (ad566.add ((x10_4).toNat * 2)) = some (.int .i64 ((rd_T28 t561 x10_4).f0)) ∧ w'.cell? ⟨(ad566.add ((x10_4).toNat * 2)).block, (ad566.add ((x10_4).toNat * 2)).off + 1, none⟩ = some (.int .i64 ((rd_T28 t561 x10_4).f1))) (ds := []) ba20_0 (by kernel_rfl) rfl rfl ⟨(blk_cell BK571.out 0).trans rfl, (blk_cell BK571.out 1).trans rfl, hx572_0, hx572_1, hx573_0, hx573_1⟩ (fun hHeld => ?_); refine with_tabW laws_FnAggregate.tab19 laws_FnAggregate.bits19 (fun HT_ HW_ => ?_)
          generalize w38.drew = w39 at HO_3 HO_6 BK571 HB hx572_0 hx572_1 hx573_0 hx573_1 hHeld ⊢
          refine pz_ 0 80 ba20_1 HT_ ?_
          refine pz_ 1 81 ba20_2 HT_ ?_
          refine pz_ 2 82 ba20_3 HT_ ?_
          refine pz_ 3 83 ba20_4 HT_ ?_
          refine pt_ 4 84 ba20_5 HT_ HW_ hHeld ?_
          refine pz_ 5 85 ba20_6 HT_ ?_
          refine pz_ 6 86 ba20_7 HT_ ?_
          refine pz_ 8 88 ba20_8 HT_ ?_
          refine pz_ 9 89 ba20_9 HT_ ?_
          refine pz_ 10 90 ba20_10 HT_ ?_
          refine pt_ 7 87 ba20_11 HT_ HW_ hHeld ?_
          refine pt_ 11 91 ba20_12 HT_ HW_ hHeld ?_
          refine pz_ 12 92 ba20_13 HT_ ?_
          refine pz_ 13 93 ba20_14 HT_ ?_
          refine pz_ 14 94 ba20_15 HT_ ?_
          refine pu_ 15 95 ba20_16 HT_ ?_
          refine pu_ 16 96 ba20_17 HT_ ?_
          refine pu_ 17 97 ba20_18 HT_ ?_
          refine pu_ 18 98 ba20_19 HT_ ?_
          refine pu_ 19 99 ba20_20 HT_ ?_
          refine pu_ 20 100 ba20_21 HT_ ?_
          refine pu_ 21 101 ba20_22 HT_ ?_
          refine pu_ 22 102 ba20_23 HT_ ?_
          refine pu_ 23 103 ba20_24 HT_ ?_
          refine pz_ 24 104 ba20_25 HT_ ?_
          refine pz_ 25 105 ba20_26 HT_ ?_
          refine pu_ 26 106 ba20_27 HT_ ?_
          refine pu_ 27 107 ba20_28 HT_ ?_
          refine pu_ 28 108 ba20_29 HT_ ?_
          refine pu_ 29 109 ba20_30 HT_ ?_
          refine pu_ 30 110 ba20_31 HT_ ?_
          refine pu_ 31 111 ba20_32 HT_ ?_
          refine pu_ 32 112 ba20_33 HT_ ?_
          refine pu_ 33 113 ba20_34 HT_ ?_
          refine pu_ 34 114 ba20_35 HT_ ?_
          refine pz_ 35 115 ba20_36 HT_ ?_
          refine done_ (done_of HT_.out (by kernel_rfl)) ?_
          try go_wp2
          go_ret
          exact ⟨by first | rfl | (simp [errW_none, errW_some] <;> rfl) | (simp only [← hji23, ← hji25]; first | rfl | (simp [errW_none, errW_some] <;> rfl)) | (simp [*, errW_none, errW_some] <;> rfl), by repeat (first | (with_reducible first | exact HB.out | apply below_alloc | apply pw_below_drewN | apply below_drew1 | refine below_set ?_ GE571.out) | exact HB.out)⟩
         rw [if_neg c34] at H
         have c34b0 : (t568 == ((rd_T28 t561 x10_4).f0) && (t569 == ((rd_T28 t561 x10_4).f1))) = false := by simpa using c34
         (try (have c34b1 : decide (t568 = ((rd_T28 t561 x10_4).f0) && (t569 == ((rd_T28 t561 x10_4).f1))) = false := by simpa using c34))
         (try (have c34b2 : (t568 == ((rd_T28 t561 x10_4).f0) && (t569 == ((rd_T28 t561 x10_4).f1))) = false := by simpa using c34))
         (try (have c34b3 : ¬ (t568 = ((rd_T28 t561 x10_4).f0) && (t569 == ((rd_T28 t561 x10_4).f1))) := by simpa using c34))
         clear c34
         replace H := Option.bind_eq_some_iff.mp H
         obtain ⟨t576, A400, H⟩ := H
         have A40 := Aside0.mk A400
         clear A400
         by_cases c41 : t576 = true
         ·subst c41
          rw [if_pos rfl] at H
          obtain rfl := Option.some.inj H
          have p567 : 0 ≤ (x9_3 : Int) := of_decide_eq_true (by first | (with_reducible assumption) | assumption)
          have q567 : x9_3 < (t561.length : Int) := of_decide_eq_true (by first | (with_reducible assumption) | assumption)
          obtain ⟨ad567, e567, hx567_0, hx567_1⟩ := at_T28 (Kd.R_reads' HO_6.out).2.2 x9_3 p567 q567
          obtain rfl : ad566 = ad567 := (by injection e567)
          replace p567 := eq_true p567
          replace q567 := eq_true q567
          try go_wp2_with (first | ((with_reducible refine gate_callee (f := 36) rfl ?_); refine gl_ (some 77) Try.func36 #[.agg #[.int .i64 ((rd_T28 t561 x9_3).f0), .int .i64 ((rd_T28 t561 x9_3).f1)]] ?_; (with_reducible refine (impl_Sibling.calls ((rd_T28 t561 x9_3).f0) ((rd_T28 t561 x9_3).f1) t568 t569 t570 _ A30.out).mono ?_); rintro e w42 ⟨rfl, hb⟩; refine ⟨_, rfl, ?_⟩; replace HO_3 := rb_ HO_3 hb; replace HO_6 := rb_ HO_6 hb; replace HB := Aside0.mk (bt_ HB hb); (try clear hb); (try clear hb2); (try clear hk); (try clear hi)) | ((with_reducible refine gate_dst (N := 11) rfl ?_); refine box_event ?hg (N := 11) ?hd (cs := #[.int .i64 0, .int .i64 0]) (t := 28) ?hr ?_; (case hd => rfl); (case hg => rfl); (case hr => first | (go_simp; done) | (go_simp; rfl)); intro gb571 hg w43 hbox hb; have BK571 := Aside0.mk hbox; have GW571 := ge_ HB hg; have GE571 := ge_ HB hg; replace HO_3 := Aside0.mk (Kd.R_below (Kd.R_elderB (hd_ HO_3) gb571 (Nat.le_of_eq hg.symm)) hb); replace HO_6 := Aside0.mk (Kd.R_below (Kd.R_elderB (hd_ HO_6) gb571 (Nat.le_of_eq hg.symm)) hb); replace HB := Aside0.mk (bt_ HB hb); clear hb hbox hg; have hcz44_0 := cz_ BK571 0 (.int .i64 0); have hcz44_1 := cz_ BK571 1 (.int .i64 0); have hfz44_0 := blk_frozen BK571.out 0; have hfz44_1 := blk_frozen BK571.out 1))
          have n0_ : Aside0 (Kd.R k28 28 ((w43.setCell ⟨gb571, 0, none⟩ (.int .i64 t568)).setCell ⟨gb571, 1, none⟩ (.int .i64 t569)) w.heap.size (fun k_ => some k_ ≠ (.slice (some ad566) t561.length co26 : Value).ownBlock ∧ k_ ≠ gb571) (.slice Ao9 t554.length co9) t554) := ⟨by (with_reducible repeat (first | apply Kd.R_alloc | apply Kd.R_drewN | apply Kd.R_drew)); exact Kd.R_mono (Kd.R_far (p := ⟨gb571, 1, none⟩) (Kd.R_far (p := ⟨gb571, 0, none⟩) (Kd.R_mono HO_3.out (fun k_ hk => (⟨hk, hk.2⟩ : _ ∧ k_ ≠ gb571))) (fun _ hk => hk.2) (.int .i64 t568)) (fun _ hk => hk.2) (.int .i64 t569)) (fun _ hk => by first | exact ⟨hk.1.1, hk.1.2⟩ | grind)⟩
          have n1_ : Aside0 (Kd.R k28 28 ((w43.setCell ⟨gb571, 0, none⟩ (.int .i64 t568)).setCell ⟨gb571, 1, none⟩ (.int .i64 t569)) w.heap.size (fun k_ => some k_ ≠ (.slice Ao9 t554.length co9 : Value).ownBlock ∧ k_ ≠ gb571) (.slice (some ad566) t561.length co26) t561) := ⟨by (with_reducible repeat (first | apply Kd.R_alloc | apply Kd.R_drewN | apply Kd.R_drew)); exact Kd.R_mono (Kd.R_far (p := ⟨gb571, 1, none⟩) (Kd.R_far (p := ⟨gb571, 0, none⟩) (Kd.R_mono HO_6.out (fun k_ hk => (⟨hk, hk.2⟩ : _ ∧ k_ ≠ gb571))) (fun _ hk => hk.2) (.int .i64 t568)) (fun _ hk => hk.2) (.int .i64 t569)) (fun _ hk => by first | exact ⟨hk.1.1, hk.1.2⟩ | grind)⟩
          have n2_ : Aside0 (((w43.setCell ⟨gb571, 0, none⟩ (.int .i64 t568)).setCell ⟨gb571, 1, none⟩ (.int .i64 t569)).heap[gb571]? = some (.cells #[.int .i64 t568, .int .i64 t569] 28 (0, 0))) := ⟨by (with_reducible repeat (first | refine blk_drewN ?_ _ | refine blk_drew ?_ | refine blk_alloc ?_ _)); refine blk_put (cs := #[.int .i64 t568, .int .i64 0]) ?_ 1 _ rfl; (with_reducible repeat (first | refine blk_drewN ?_ _ | refine blk_drew ?_ | refine blk_alloc ?_ _)); refine blk_put (cs := #[.int .i64 0, .int .i64 0]) ?_ 0 _ rfl; (with_reducible repeat (first | refine blk_drewN ?_ _ | refine blk_drew ?_ | refine blk_alloc ?_ _)); exact BK571.out⟩
          have n3_ : Aside0 (Below w.heap.size w ((w43.setCell ⟨gb571, 0, none⟩ (.int .i64 t568)).setCell ⟨gb571, 1, none⟩ (.int .i64 t569))) := ⟨by repeat (first | (with_reducible first | exact HB.out | apply below_alloc | apply pw_below_drewN | apply below_drew1 | refine below_set ?_ GE571.out) | exact HB.out)⟩
          (try clear HO_3)
          (try clear HO_6)
          (try clear BK571)
          (try clear HB)
          generalize ((w43.setCell ⟨gb571, 0, none⟩ (.int .i64 t568)).setCell ⟨gb571, 1, none⟩ (.int .i64 t569)) = w45 at n0_ n1_ n2_ n3_ ⊢
          have HO_3 := n0_
          have HO_6 := n1_
          have BK571 := n2_
          have HB := n3_
          clear n0_ n1_ n2_ n3_
          replace HO_3 := Aside0.mk (Kd.R_drew HO_3.out)
          replace HO_6 := Aside0.mk (Kd.R_drew HO_6.out)
          replace BK571 := Aside0.mk (blk_drew BK571.out)
          replace HB := Aside0.mk (below_drew1 HB.out)
          have p572 : 0 ≤ (x9_3 : Int) := of_decide_eq_true (by first | (with_reducible assumption) | assumption)
          have q572 : x9_3 < (t561.length : Int) := of_decide_eq_true (by first | (with_reducible assumption) | assumption)
          obtain ⟨ad572, e572, hx572_0, hx572_1⟩ := at_T28 (Kd.R_reads' HO_6.out).2.2 x9_3 p572 q572
          obtain rfl : ad566 = ad572 := (by injection e572)
          replace p572 := eq_true p572
          replace q572 := eq_true q572
          have p573 : 0 ≤ (x10_4 : Int) := of_decide_eq_true (by first | (with_reducible assumption) | assumption)
          have q573 : x10_4 < (t561.length : Int) := of_decide_eq_true (by first | (with_reducible assumption) | assumption)
          obtain ⟨ad573, e573, hx573_0, hx573_1⟩ := at_T28 (Kd.R_reads' HO_6.out).2.2 x10_4 p573 q573
          obtain rfl : ad566 = ad573 := (by injection e573)
          replace p573 := eq_true p573
          replace q573 := eq_true q573
          have p574 : 0 ≤ (x9_3 : Int) := of_decide_eq_true (by first | (with_reducible assumption) | assumption)
          have q574 : x9_3 < (t561.length : Int) := of_decide_eq_true (by first | (with_reducible assumption) | assumption)
          obtain ⟨ad574, e574, hx574_0, hx574_1⟩ := at_T28 (Kd.R_reads' HO_6.out).2.2 x9_3 p574 q574
          obtain rfl : ad566 = ad574 := (by injection e574)
          replace p574 := eq_true p574
          replace q574 := eq_true q574
          have p575 : 0 ≤ (x10_4 : Int) := of_decide_eq_true (by first | (with_reducible assumption) | assumption)
          have q575 : x10_4 < (t561.length : Int) := of_decide_eq_true (by first | (with_reducible assumption) | assumption)
          obtain ⟨ad575, e575, hx575_0, hx575_1⟩ := at_T28 (Kd.R_reads' HO_6.out).2.2 x10_4 p575 q575
          obtain rfl : ad566 = ad575 := (by injection e575)
          replace p575 := eq_true p575
          replace q575 := eq_true q575
          refine start_ (n := 36) (S := fun w' => w'.cell? ⟨gb571, 0, none⟩ = some (.int .i64 t568) ∧ w'.cell? ⟨gb571, 1, none⟩ = some (.int .i64 t569) ∧ w'.cell? (ad566.add ((x9_3).toNat * 2)) = some (.int .i64 ((rd_T28 t561 x9_3).f0)) ∧ w'.cell? ⟨(ad566.add ((x9_3).toNat * 2)).block, (ad566.add ((x9_3).toNat * 2)).off + 1, none⟩ = some (.int .i64 ((rd_T28 t561 x9_3).f1)) ∧ w'.cell? (ad566.add ((x10_4).toNat * 2)) = some (.int .i64 ((rd_T28 t561 x10_4).f0)) ∧ w'.cell? ⟨(ad566.add ((x10_4).toNat * 2)).block, (ad566.add ((x10_4).toNat * 2)).off + 1, none⟩ = some (.int .i64 ((rd_T28 t561 x10_4).f1)) ∧ w'.cell? (ad566.add ((x9_3).toNat * 2)) = some (.int .i64 ((rd_T28 t561 x9_3).f0)) ∧ w'.cell? ⟨(ad566.add ((x9_3).toNat * 2)).block, (ad566.add ((x9_3).toNat * 2)).off + 1, none⟩ = some (.int .i64 ((rd_T28 t561 x9_3).f1)) ∧ w'.cell? (ad566.add ((x10_4).toNat * 2)) = some (.int .i64 ((rd_T28 t561 x10_4).f0)) ∧ w'.cell? ⟨(ad566.add ((x10_4).toNat * 2)).block, (ad566.add ((x10_4).toNat * 2)).off + 1, none⟩ = some (.int .i64 ((rd_T28 t561 x10_4).f1))) (ds := []) ba20_0 (by kernel_rfl) rfl rfl ⟨(blk_cell BK571.out 0).trans rfl, (blk_cell BK571.out 1).trans rfl, hx572_0, hx572_1, hx573_0, hx573_1, hx574_0, hx574_1, hx575_0, hx575_1⟩ (fun hHeld => ?_); refine with_tabW laws_FnAggregate.tab19 laws_FnAggregate.bits19 (fun HT_ HW_ => ?_)
          generalize w45.drew = w46 at HO_3 HO_6 BK571 HB hx572_0 hx572_1 hx573_0 hx573_1 hx574_0 hx574_1 hx575_0 hx575_1 hHeld ⊢
          refine pz_ 0 80 ba20_1 HT_ ?_
          refine pz_ 1 81 ba20_2 HT_ ?_
          refine pz_ 2 82 ba20_3 HT_ ?_
          refine pz_ 3 83 ba20_4 HT_ ?_
          refine pt_ 4 84 ba20_5 HT_ HW_ hHeld ?_
          refine pz_ 5 85 ba20_6 HT_ ?_
          refine pz_ 6 86 ba20_7 HT_ ?_
          refine pz_ 8 88 ba20_8 HT_ ?_
          refine pz_ 9 89 ba20_9 HT_ ?_
          refine pz_ 10 90 ba20_10 HT_ ?_
          refine pt_ 7 87 ba20_11 HT_ HW_ hHeld ?_
          refine pt_ 11 91 ba20_12 HT_ HW_ hHeld ?_
          refine pz_ 12 92 ba20_13 HT_ ?_
          refine pz_ 13 93 ba20_14 HT_ ?_
          refine pz_ 14 94 ba20_15 HT_ ?_
          refine pz_ 15 95 ba20_16 HT_ ?_
          refine pz_ 16 96 ba20_17 HT_ ?_
          refine pz_ 17 97 ba20_18 HT_ ?_
          refine pz_ 19 99 ba20_37 HT_ ?_
          refine pz_ 20 100 ba20_38 HT_ ?_
          refine pz_ 21 101 ba20_39 HT_ ?_
          refine pt_ 18 98 ba20_22 HT_ HW_ hHeld ?_
          refine pt_ 22 102 ba20_23 HT_ HW_ hHeld ?_
          refine one_ (i := 23) (N := some 103) ba20_24 rfl rfl (one_of HT_.out (by kernel_rfl)) (by decide) (fun K hK => ?_)
          refine gz_ Try.func37 #[.agg #[.int .i64 ((rd_T28 t561 x9_3).f0), .int .i64 ((rd_T28 t561 x9_3).f1)], .agg #[.int .i64 ((rd_T28 t561 x10_4).f0), .int .i64 ((rd_T28 t561 x10_4).f1)]] ?_
          with_reducible refine (impl_CoversPrefix.calls ((rd_T28 t561 x9_3).f0) ((rd_T28 t561 x9_3).f1) ((rd_T28 t561 x10_4).f0) ((rd_T28 t561 x10_4).f1) true _ A40.out).mono ?_
          rintro e w47 ⟨rfl, hb⟩
          have HS2_ := (hb.cell (World.block_lt_of_cell? _ _ (hHeld.2.2.1))).trans (hHeld.2.2.1)
          have HS3_ := (hb.cell (World.block_lt_of_cell? _ _ (hHeld.2.2.2.1))).trans (hHeld.2.2.2.1)
          have HS4_ := (hb.cell (World.block_lt_of_cell? _ _ (hHeld.2.2.2.2.1))).trans (hHeld.2.2.2.2.1)
          have HS5_ := (hb.cell (World.block_lt_of_cell? _ _ (hHeld.2.2.2.2.2.1))).trans (hHeld.2.2.2.2.2.1)
          have HS6_ := (hb.cell (World.block_lt_of_cell? _ _ (hHeld.2.2.2.2.2.2.1))).trans (hHeld.2.2.2.2.2.2.1)
          have HS7_ := (hb.cell (World.block_lt_of_cell? _ _ (hHeld.2.2.2.2.2.2.2.1))).trans (hHeld.2.2.2.2.2.2.2.1)
          have HS8_ := (hb.cell (World.block_lt_of_cell? _ _ (hHeld.2.2.2.2.2.2.2.2.1))).trans (hHeld.2.2.2.2.2.2.2.2.1)
          have HS9_ := (hb.cell (World.block_lt_of_cell? _ _ (hHeld.2.2.2.2.2.2.2.2.2))).trans (hHeld.2.2.2.2.2.2.2.2.2)
          refine ⟨_, rfl, ?_⟩
          replace HO_3 := rb_ HO_3 hb
          replace HO_6 := rb_ HO_6 hb
          replace BK571 := Aside0.mk (bb_ BK571 hb)
          replace HB := Aside0.mk (bt_ HB hb)
          (try clear hb)
          (try clear hb2)
          (try clear hk)
          (try clear hi)
          refine hK.out _ _ ⟨(blk_cell BK571.out 0).trans rfl, (blk_cell BK571.out 1).trans rfl, HS2_, HS3_, HS4_, HS5_, HS6_, HS7_, HS8_, HS9_⟩ (fun hHeld => ?_)
          clear hK K
          refine nz_ 103 ?_
          refine pz_ 24 104 ba20_25 HT_ ?_
          refine pz_ 25 105 ba20_26 HT_ ?_
          refine pu_ 26 106 ba20_27 HT_ ?_
          refine pu_ 27 107 ba20_28 HT_ ?_
          refine pu_ 28 108 ba20_29 HT_ ?_
          refine pu_ 29 109 ba20_30 HT_ ?_
          refine pu_ 30 110 ba20_31 HT_ ?_
          refine pu_ 31 111 ba20_32 HT_ ?_
          refine pu_ 32 112 ba20_33 HT_ ?_
          refine pu_ 33 113 ba20_34 HT_ ?_
          refine pu_ 34 114 ba20_35 HT_ ?_
          refine pz_ 35 115 ba20_36 HT_ ?_
          refine done_ (done_of HT_.out (by kernel_rfl)) ?_
          try go_wp2
          go_ret
          exact ⟨by first | rfl | (simp [errW_none, errW_some] <;> rfl) | (simp only [← hji23, ← hji25]; first | rfl | (simp [errW_none, errW_some] <;> rfl)) | (simp [*, errW_none, errW_some] <;> rfl), by repeat (first | (with_reducible first | exact HB.out | apply below_alloc | apply pw_below_drewN | apply below_drew1 | refine below_set ?_ GE571.out) | exact HB.out)⟩
         replace c41 := Bool.eq_false_iff.mpr c41
         subst c41
         rw [if_neg (show ¬ (false = true) by decide)] at H
         replace H := Option.bind_eq_some_iff.mp H
         obtain ⟨t579, A480, H⟩ := H
         have A48 := Aside0.mk A480
         clear A480
         by_cases c49 : t579 = true
         ·subst c49
          rw [if_pos rfl] at H
          obtain rfl := Option.some.inj H
          have p567 : 0 ≤ (x9_3 : Int) := of_decide_eq_true (by first | (with_reducible assumption) | assumption)
          have q567 : x9_3 < (t561.length : Int) := of_decide_eq_true (by first | (with_reducible assumption) | assumption)
          obtain ⟨ad567, e567, hx567_0, hx567_1⟩ := at_T28 (Kd.R_reads' HO_6.out).2.2 x9_3 p567 q567
          obtain rfl : ad566 = ad567 := (by injection e567)
          replace p567 := eq_true p567
          replace q567 := eq_true q567
          try go_wp2_with (first | ((with_reducible refine gate_callee (f := 36) rfl ?_); refine gl_ (some 77) Try.func36 #[.agg #[.int .i64 ((rd_T28 t561 x9_3).f0), .int .i64 ((rd_T28 t561 x9_3).f1)]] ?_; (with_reducible refine (impl_Sibling.calls ((rd_T28 t561 x9_3).f0) ((rd_T28 t561 x9_3).f1) t568 t569 t570 _ A30.out).mono ?_); rintro e w50 ⟨rfl, hb⟩; refine ⟨_, rfl, ?_⟩; replace HO_3 := rb_ HO_3 hb; replace HO_6 := rb_ HO_6 hb; replace HB := Aside0.mk (bt_ HB hb); (try clear hb); (try clear hb2); (try clear hk); (try clear hi)) | ((with_reducible refine gate_dst (N := 11) rfl ?_); refine box_event ?hg (N := 11) ?hd (cs := #[.int .i64 0, .int .i64 0]) (t := 28) ?hr ?_; (case hd => rfl); (case hg => rfl); (case hr => first | (go_simp; done) | (go_simp; rfl)); intro gb571 hg w51 hbox hb; have BK571 := Aside0.mk hbox; have GW571 := ge_ HB hg; have GE571 := ge_ HB hg; replace HO_3 := Aside0.mk (Kd.R_below (Kd.R_elderB (hd_ HO_3) gb571 (Nat.le_of_eq hg.symm)) hb); replace HO_6 := Aside0.mk (Kd.R_below (Kd.R_elderB (hd_ HO_6) gb571 (Nat.le_of_eq hg.symm)) hb); replace HB := Aside0.mk (bt_ HB hb); clear hb hbox hg; have hcz52_0 := cz_ BK571 0 (.int .i64 0); have hcz52_1 := cz_ BK571 1 (.int .i64 0); have hfz52_0 := blk_frozen BK571.out 0; have hfz52_1 := blk_frozen BK571.out 1))
          have n0_ : Aside0 (Kd.R k28 28 ((w51.setCell ⟨gb571, 0, none⟩ (.int .i64 t568)).setCell ⟨gb571, 1, none⟩ (.int .i64 t569)) w.heap.size (fun k_ => some k_ ≠ (.slice (some ad566) t561.length co26 : Value).ownBlock ∧ k_ ≠ gb571) (.slice Ao9 t554.length co9) t554) := ⟨by (with_reducible repeat (first | apply Kd.R_alloc | apply Kd.R_drewN | apply Kd.R_drew)); exact Kd.R_mono (Kd.R_far (p := ⟨gb571, 1, none⟩) (Kd.R_far (p := ⟨gb571, 0, none⟩) (Kd.R_mono HO_3.out (fun k_ hk => (⟨hk, hk.2⟩ : _ ∧ k_ ≠ gb571))) (fun _ hk => hk.2) (.int .i64 t568)) (fun _ hk => hk.2) (.int .i64 t569)) (fun _ hk => by first | exact ⟨hk.1.1, hk.1.2⟩ | grind)⟩
          have n1_ : Aside0 (Kd.R k28 28 ((w51.setCell ⟨gb571, 0, none⟩ (.int .i64 t568)).setCell ⟨gb571, 1, none⟩ (.int .i64 t569)) w.heap.size (fun k_ => some k_ ≠ (.slice Ao9 t554.length co9 : Value).ownBlock ∧ k_ ≠ gb571) (.slice (some ad566) t561.length co26) t561) := ⟨by (with_reducible repeat (first | apply Kd.R_alloc | apply Kd.R_drewN | apply Kd.R_drew)); exact Kd.R_mono (Kd.R_far (p := ⟨gb571, 1, none⟩) (Kd.R_far (p := ⟨gb571, 0, none⟩) (Kd.R_mono HO_6.out (fun k_ hk => (⟨hk, hk.2⟩ : _ ∧ k_ ≠ gb571))) (fun _ hk => hk.2) (.int .i64 t568)) (fun _ hk => hk.2) (.int .i64 t569)) (fun _ hk => by first | exact ⟨hk.1.1, hk.1.2⟩ | grind)⟩
          have n2_ : Aside0 (((w51.setCell ⟨gb571, 0, none⟩ (.int .i64 t568)).setCell ⟨gb571, 1, none⟩ (.int .i64 t569)).heap[gb571]? = some (.cells #[.int .i64 t568, .int .i64 t569] 28 (0, 0))) := ⟨by (with_reducible repeat (first | refine blk_drewN ?_ _ | refine blk_drew ?_ | refine blk_alloc ?_ _)); refine blk_put (cs := #[.int .i64 t568, .int .i64 0]) ?_ 1 _ rfl; (with_reducible repeat (first | refine blk_drewN ?_ _ | refine blk_drew ?_ | refine blk_alloc ?_ _)); refine blk_put (cs := #[.int .i64 0, .int .i64 0]) ?_ 0 _ rfl; (with_reducible repeat (first | refine blk_drewN ?_ _ | refine blk_drew ?_ | refine blk_alloc ?_ _)); exact BK571.out⟩
          have n3_ : Aside0 (Below w.heap.size w ((w51.setCell ⟨gb571, 0, none⟩ (.int .i64 t568)).setCell ⟨gb571, 1, none⟩ (.int .i64 t569))) := ⟨by repeat (first | (with_reducible first | exact HB.out | apply below_alloc | apply pw_below_drewN | apply below_drew1 | refine below_set ?_ GE571.out) | exact HB.out)⟩
          (try clear HO_3)
          (try clear HO_6)
          (try clear BK571)
          (try clear HB)
          generalize ((w51.setCell ⟨gb571, 0, none⟩ (.int .i64 t568)).setCell ⟨gb571, 1, none⟩ (.int .i64 t569)) = w53 at n0_ n1_ n2_ n3_ ⊢
          have HO_3 := n0_
          have HO_6 := n1_
          have BK571 := n2_
          have HB := n3_
          clear n0_ n1_ n2_ n3_
          replace HO_3 := Aside0.mk (Kd.R_drew HO_3.out)
          replace HO_6 := Aside0.mk (Kd.R_drew HO_6.out)
          replace BK571 := Aside0.mk (blk_drew BK571.out)
          replace HB := Aside0.mk (below_drew1 HB.out)
          have p572 : 0 ≤ (x9_3 : Int) := of_decide_eq_true (by first | (with_reducible assumption) | assumption)
          have q572 : x9_3 < (t561.length : Int) := of_decide_eq_true (by first | (with_reducible assumption) | assumption)
          obtain ⟨ad572, e572, hx572_0, hx572_1⟩ := at_T28 (Kd.R_reads' HO_6.out).2.2 x9_3 p572 q572
          obtain rfl : ad566 = ad572 := (by injection e572)
          replace p572 := eq_true p572
          replace q572 := eq_true q572
          have p573 : 0 ≤ (x10_4 : Int) := of_decide_eq_true (by first | (with_reducible assumption) | assumption)
          have q573 : x10_4 < (t561.length : Int) := of_decide_eq_true (by first | (with_reducible assumption) | assumption)
          obtain ⟨ad573, e573, hx573_0, hx573_1⟩ := at_T28 (Kd.R_reads' HO_6.out).2.2 x10_4 p573 q573
          obtain rfl : ad566 = ad573 := (by injection e573)
          replace p573 := eq_true p573
          replace q573 := eq_true q573
          have p574 : 0 ≤ (x9_3 : Int) := of_decide_eq_true (by first | (with_reducible assumption) | assumption)
          have q574 : x9_3 < (t561.length : Int) := of_decide_eq_true (by first | (with_reducible assumption) | assumption)
          obtain ⟨ad574, e574, hx574_0, hx574_1⟩ := at_T28 (Kd.R_reads' HO_6.out).2.2 x9_3 p574 q574
          obtain rfl : ad566 = ad574 := (by injection e574)
          replace p574 := eq_true p574
          replace q574 := eq_true q574
          have p575 : 0 ≤ (x10_4 : Int) := of_decide_eq_true (by first | (with_reducible assumption) | assumption)
          have q575 : x10_4 < (t561.length : Int) := of_decide_eq_true (by first | (with_reducible assumption) | assumption)
          obtain ⟨ad575, e575, hx575_0, hx575_1⟩ := at_T28 (Kd.R_reads' HO_6.out).2.2 x10_4 p575 q575
          obtain rfl : ad566 = ad575 := (by injection e575)
          replace p575 := eq_true p575
          replace q575 := eq_true q575
          have p577 : 0 ≤ (x10_4 : Int) := of_decide_eq_true (by first | (with_reducible assumption) | assumption)
          have q577 : x10_4 < (t561.length : Int) := of_decide_eq_true (by first | (with_reducible assumption) | assumption)
          obtain ⟨ad577, e577, hx577_0, hx577_1⟩ := at_T28 (Kd.R_reads' HO_6.out).2.2 x10_4 p577 q577
          obtain rfl : ad566 = ad577 := (by injection e577)
          replace p577 := eq_true p577
          replace q577 := eq_true q577
          have p578 : 0 ≤ (x9_3 : Int) := of_decide_eq_true (by first | (with_reducible assumption) | assumption)
          have q578 : x9_3 < (t561.length : Int) := of_decide_eq_true (by first | (with_reducible assumption) | assumption)
          obtain ⟨ad578, e578, hx578_0, hx578_1⟩ := at_T28 (Kd.R_reads' HO_6.out).2.2 x9_3 p578 q578
          obtain rfl : ad566 = ad578 := (by injection e578)
          replace p578 := eq_true p578
          replace q578 := eq_true q578
          refine start_ (n := 36) (S := fun w' => w'.cell? ⟨gb571, 0, none⟩ = some (.int .i64 t568) ∧ w'.cell? ⟨gb571, 1, none⟩ = some (.int .i64 t569) ∧ w'.cell? (ad566.add ((x9_3).toNat * 2)) = some (.int .i64 ((rd_T28 t561 x9_3).f0)) ∧ w'.cell? ⟨(ad566.add ((x9_3).toNat * 2)).block, (ad566.add ((x9_3).toNat * 2)).off + 1, none⟩ = some (.int .i64 ((rd_T28 t561 x9_3).f1)) ∧ w'.cell? (ad566.add ((x10_4).toNat * 2)) = some (.int .i64 ((rd_T28 t561 x10_4).f0)) ∧ w'.cell? ⟨(ad566.add ((x10_4).toNat * 2)).block, (ad566.add ((x10_4).toNat * 2)).off + 1, none⟩ = some (.int .i64 ((rd_T28 t561 x10_4).f1)) ∧ w'.cell? (ad566.add ((x9_3).toNat * 2)) = some (.int .i64 ((rd_T28 t561 x9_3).f0)) ∧ w'.cell? ⟨(ad566.add ((x9_3).toNat * 2)).block, (ad566.add ((x9_3).toNat * 2)).off + 1, none⟩ = some (.int .i64 ((rd_T28 t561 x9_3).f1)) ∧ w'.cell? (ad566.add ((x10_4).toNat * 2)) = some (.int .i64 ((rd_T28 t561 x10_4).f0)) ∧ w'.cell? ⟨(ad566.add ((x10_4).toNat * 2)).block, (ad566.add ((x10_4).toNat * 2)).off + 1, none⟩ = some (.int .i64 ((rd_T28 t561 x10_4).f1)) ∧ w'.cell? (ad566.add ((x10_4).toNat * 2)) = some (.int .i64 ((rd_T28 t561 x10_4).f0)) ∧ w'.cell? ⟨(ad566.add ((x10_4).toNat * 2)).block, (ad566.add ((x10_4).toNat * 2)).off + 1, none⟩ = some (.int .i64 ((rd_T28 t561 x10_4).f1)) ∧ w'.cell? (ad566.add ((x9_3).toNat * 2)) = some (.int .i64 ((rd_T28 t561 x9_3).f0)) ∧ w'.cell? ⟨(ad566.add ((x9_3).toNat * 2)).block, (ad566.add ((x9_3).toNat * 2)).off + 1, none⟩ = some (.int .i64 ((rd_T28 t561 x9_3).f1))) (ds := []) ba20_0 (by kernel_rfl) rfl rfl ⟨(blk_cell BK571.out 0).trans rfl, (blk_cell BK571.out 1).trans rfl, hx572_0, hx572_1, hx573_0, hx573_1, hx574_0, hx574_1, hx575_0, hx575_1, hx577_0, hx577_1, hx578_0, hx578_1⟩ (fun hHeld => ?_); refine with_tabW laws_FnAggregate.tab19 laws_FnAggregate.bits19 (fun HT_ HW_ => ?_)
          generalize w53.drew = w54 at HO_3 HO_6 BK571 HB hx572_0 hx572_1 hx573_0 hx573_1 hx574_0 hx574_1 hx575_0 hx575_1 hx577_0 hx577_1 hx578_0 hx578_1 hHeld ⊢
          refine pz_ 0 80 ba20_1 HT_ ?_
          refine pz_ 1 81 ba20_2 HT_ ?_
          refine pz_ 2 82 ba20_3 HT_ ?_
          refine pz_ 3 83 ba20_4 HT_ ?_
          refine pt_ 4 84 ba20_5 HT_ HW_ hHeld ?_
          refine pz_ 5 85 ba20_6 HT_ ?_
          refine pz_ 6 86 ba20_7 HT_ ?_
          refine pz_ 8 88 ba20_8 HT_ ?_
          refine pz_ 9 89 ba20_9 HT_ ?_
          refine pz_ 10 90 ba20_10 HT_ ?_
          refine pt_ 7 87 ba20_11 HT_ HW_ hHeld ?_
          refine pt_ 11 91 ba20_12 HT_ HW_ hHeld ?_
          refine pz_ 12 92 ba20_13 HT_ ?_
          refine pz_ 13 93 ba20_14 HT_ ?_
          refine pz_ 14 94 ba20_15 HT_ ?_
          refine pz_ 15 95 ba20_16 HT_ ?_
          refine pz_ 16 96 ba20_17 HT_ ?_
          refine pz_ 17 97 ba20_18 HT_ ?_
          refine pz_ 19 99 ba20_37 HT_ ?_
          refine pz_ 20 100 ba20_38 HT_ ?_
          refine pz_ 21 101 ba20_39 HT_ ?_
          refine pt_ 18 98 ba20_22 HT_ HW_ hHeld ?_
          refine pt_ 22 102 ba20_23 HT_ HW_ hHeld ?_
          refine one_ (i := 23) (N := some 103) ba20_24 rfl rfl (one_of HT_.out (by kernel_rfl)) (by decide) (fun K hK => ?_)
          refine gz_ Try.func37 #[.agg #[.int .i64 ((rd_T28 t561 x9_3).f0), .int .i64 ((rd_T28 t561 x9_3).f1)], .agg #[.int .i64 ((rd_T28 t561 x10_4).f0), .int .i64 ((rd_T28 t561 x10_4).f1)]] ?_
          with_reducible refine (impl_CoversPrefix.calls ((rd_T28 t561 x9_3).f0) ((rd_T28 t561 x9_3).f1) ((rd_T28 t561 x10_4).f0) ((rd_T28 t561 x10_4).f1) false _ A40.out).mono ?_
          rintro e w55 ⟨rfl, hb⟩
          have HS2_ := (hb.cell (World.block_lt_of_cell? _ _ (hHeld.2.2.1))).trans (hHeld.2.2.1)
          have HS3_ := (hb.cell (World.block_lt_of_cell? _ _ (hHeld.2.2.2.1))).trans (hHeld.2.2.2.1)
          have HS4_ := (hb.cell (World.block_lt_of_cell? _ _ (hHeld.2.2.2.2.1))).trans (hHeld.2.2.2.2.1)
          have HS5_ := (hb.cell (World.block_lt_of_cell? _ _ (hHeld.2.2.2.2.2.1))).trans (hHeld.2.2.2.2.2.1)
          have HS6_ := (hb.cell (World.block_lt_of_cell? _ _ (hHeld.2.2.2.2.2.2.1))).trans (hHeld.2.2.2.2.2.2.1)
          have HS7_ := (hb.cell (World.block_lt_of_cell? _ _ (hHeld.2.2.2.2.2.2.2.1))).trans (hHeld.2.2.2.2.2.2.2.1)
          have HS8_ := (hb.cell (World.block_lt_of_cell? _ _ (hHeld.2.2.2.2.2.2.2.2.1))).trans (hHeld.2.2.2.2.2.2.2.2.1)
          have HS9_ := (hb.cell (World.block_lt_of_cell? _ _ (hHeld.2.2.2.2.2.2.2.2.2.1))).trans (hHeld.2.2.2.2.2.2.2.2.2.1)
          have HS10_ := (hb.cell (World.block_lt_of_cell? _ _ (hHeld.2.2.2.2.2.2.2.2.2.2.1))).trans (hHeld.2.2.2.2.2.2.2.2.2.2.1)
          have HS11_ := (hb.cell (World.block_lt_of_cell? _ _ (hHeld.2.2.2.2.2.2.2.2.2.2.2.1))).trans (hHeld.2.2.2.2.2.2.2.2.2.2.2.1)
          have HS12_ := (hb.cell (World.block_lt_of_cell? _ _ (hHeld.2.2.2.2.2.2.2.2.2.2.2.2.1))).trans (hHeld.2.2.2.2.2.2.2.2.2.2.2.2.1)
          have HS13_ := (hb.cell (World.block_lt_of_cell? _ _ (hHeld.2.2.2.2.2.2.2.2.2.2.2.2.2))).trans (hHeld.2.2.2.2.2.2.2.2.2.2.2.2.2)
          refine ⟨_, rfl, ?_⟩
          replace HO_3 := rb_ HO_3 hb
          replace HO_6 := rb_ HO_6 hb
          replace BK571 := Aside0.mk (bb_ BK571 hb)
          replace HB := Aside0.mk (bt_ HB hb)
          (try clear hb)
          (try clear hb2)
          (try clear hk)
          (try clear hi)
          refine hK.out _ _ ⟨(blk_cell BK571.out 0).trans rfl, (blk_cell BK571.out 1).trans rfl, HS2_, HS3_, HS4_, HS5_, HS6_, HS7_, HS8_, HS9_, HS10_, HS11_, HS12_, HS13_⟩ (fun hHeld => ?_)
          clear hK K
          refine nz_ 103 ?_
          refine pz_ 24 104 ba20_25 HT_ ?_
          refine pz_ 25 105 ba20_26 HT_ ?_
          refine pz_ 26 106 ba20_27 HT_ ?_
          refine pz_ 27 107 ba20_28 HT_ ?_
          refine pz_ 28 108 ba20_29 HT_ ?_
          refine pz_ 30 110 ba20_40 HT_ ?_
          refine pz_ 31 111 ba20_41 HT_ ?_
          refine pz_ 32 112 ba20_42 HT_ ?_
          refine pt_ 29 109 ba20_33 HT_ HW_ hHeld ?_
          refine pt_ 33 113 ba20_34 HT_ HW_ hHeld ?_
          refine one_ (i := 34) (N := some 114) ba20_35 rfl rfl (one_of HT_.out (by kernel_rfl)) (by decide) (fun K hK => ?_)
          refine gz_ Try.func37 #[.agg #[.int .i64 ((rd_T28 t561 x10_4).f0), .int .i64 ((rd_T28 t561 x10_4).f1)], .agg #[.int .i64 ((rd_T28 t561 x9_3).f0), .int .i64 ((rd_T28 t561 x9_3).f1)]] ?_
          with_reducible refine (impl_CoversPrefix.calls ((rd_T28 t561 x10_4).f0) ((rd_T28 t561 x10_4).f1) ((rd_T28 t561 x9_3).f0) ((rd_T28 t561 x9_3).f1) true _ A48.out).mono ?_
          rintro e w56 ⟨rfl, hb⟩
          have HS2_ := (hb.cell (World.block_lt_of_cell? _ _ (hHeld.2.2.1))).trans (hHeld.2.2.1)
          have HS3_ := (hb.cell (World.block_lt_of_cell? _ _ (hHeld.2.2.2.1))).trans (hHeld.2.2.2.1)
          have HS4_ := (hb.cell (World.block_lt_of_cell? _ _ (hHeld.2.2.2.2.1))).trans (hHeld.2.2.2.2.1)
          have HS5_ := (hb.cell (World.block_lt_of_cell? _ _ (hHeld.2.2.2.2.2.1))).trans (hHeld.2.2.2.2.2.1)
          have HS6_ := (hb.cell (World.block_lt_of_cell? _ _ (hHeld.2.2.2.2.2.2.1))).trans (hHeld.2.2.2.2.2.2.1)
          have HS7_ := (hb.cell (World.block_lt_of_cell? _ _ (hHeld.2.2.2.2.2.2.2.1))).trans (hHeld.2.2.2.2.2.2.2.1)
          have HS8_ := (hb.cell (World.block_lt_of_cell? _ _ (hHeld.2.2.2.2.2.2.2.2.1))).trans (hHeld.2.2.2.2.2.2.2.2.1)
          have HS9_ := (hb.cell (World.block_lt_of_cell? _ _ (hHeld.2.2.2.2.2.2.2.2.2.1))).trans (hHeld.2.2.2.2.2.2.2.2.2.1)
          have HS10_ := (hb.cell (World.block_lt_of_cell? _ _ (hHeld.2.2.2.2.2.2.2.2.2.2.1))).trans (hHeld.2.2.2.2.2.2.2.2.2.2.1)
          have HS11_ := (hb.cell (World.block_lt_of_cell? _ _ (hHeld.2.2.2.2.2.2.2.2.2.2.2.1))).trans (hHeld.2.2.2.2.2.2.2.2.2.2.2.1)
          have HS12_ := (hb.cell (World.block_lt_of_cell? _ _ (hHeld.2.2.2.2.2.2.2.2.2.2.2.2.1))).trans (hHeld.2.2.2.2.2.2.2.2.2.2.2.2.1)
          have HS13_ := (hb.cell (World.block_lt_of_cell? _ _ (hHeld.2.2.2.2.2.2.2.2.2.2.2.2.2))).trans (hHeld.2.2.2.2.2.2.2.2.2.2.2.2.2)
          refine ⟨_, rfl, ?_⟩
          replace HO_3 := rb_ HO_3 hb
          replace HO_6 := rb_ HO_6 hb
          replace BK571 := Aside0.mk (bb_ BK571 hb)
          replace HB := Aside0.mk (bt_ HB hb)
          (try clear hb)
          (try clear hb2)
          (try clear hk)
          (try clear hi)
          refine hK.out _ _ ⟨(blk_cell BK571.out 0).trans rfl, (blk_cell BK571.out 1).trans rfl, HS2_, HS3_, HS4_, HS5_, HS6_, HS7_, HS8_, HS9_, HS10_, HS11_, HS12_, HS13_⟩ (fun hHeld => ?_)
          clear hK K
          refine nz_ 114 ?_
          refine pz_ 35 115 ba20_36 HT_ ?_
          refine done_ (done_of HT_.out (by kernel_rfl)) ?_
          try go_wp2
          go_ret
          exact ⟨by first | rfl | (simp [errW_none, errW_some] <;> rfl) | (simp only [← hji23, ← hji25]; first | rfl | (simp [errW_none, errW_some] <;> rfl)) | (simp [*, errW_none, errW_some] <;> rfl), by repeat (first | (with_reducible first | exact HB.out | apply below_alloc | apply pw_below_drewN | apply below_drew1 | refine below_set ?_ GE571.out) | exact HB.out)⟩
         replace c49 := Bool.eq_false_iff.mpr c49
         subst c49
         rw [if_neg (show ¬ (false = true) by decide)] at H
         have H' := Aside0.mk H
         clear H
         have p567 : 0 ≤ (x9_3 : Int) := of_decide_eq_true (by first | (with_reducible assumption) | assumption)
         have q567 : x9_3 < (t561.length : Int) := of_decide_eq_true (by first | (with_reducible assumption) | assumption)
         obtain ⟨ad567, e567, hx567_0, hx567_1⟩ := at_T28 (Kd.R_reads' HO_6.out).2.2 x9_3 p567 q567
         obtain rfl : ad566 = ad567 := (by injection e567)
         replace p567 := eq_true p567
         replace q567 := eq_true q567
         try go_wp2_with (first | ((with_reducible refine gate_callee (f := 36) rfl ?_); refine gl_ (some 77) Try.func36 #[.agg #[.int .i64 ((rd_T28 t561 x9_3).f0), .int .i64 ((rd_T28 t561 x9_3).f1)]] ?_; (with_reducible refine (impl_Sibling.calls ((rd_T28 t561 x9_3).f0) ((rd_T28 t561 x9_3).f1) t568 t569 t570 _ A30.out).mono ?_); rintro e w57 ⟨rfl, hb⟩; refine ⟨_, rfl, ?_⟩; replace HO_3 := rb_ HO_3 hb; replace HO_6 := rb_ HO_6 hb; replace HB := Aside0.mk (bt_ HB hb); (try clear hb); (try clear hb2); (try clear hk); (try clear hi)) | ((with_reducible refine gate_dst (N := 11) rfl ?_); refine box_event ?hg (N := 11) ?hd (cs := #[.int .i64 0, .int .i64 0]) (t := 28) ?hr ?_; (case hd => rfl); (case hg => rfl); (case hr => first | (go_simp; done) | (go_simp; rfl)); intro gb571 hg w58 hbox hb; have BK571 := Aside0.mk hbox; have GW571 := ge_ HB hg; have GE571 := ge_ HB hg; replace HO_3 := Aside0.mk (Kd.R_below (Kd.R_elderB (hd_ HO_3) gb571 (Nat.le_of_eq hg.symm)) hb); replace HO_6 := Aside0.mk (Kd.R_below (Kd.R_elderB (hd_ HO_6) gb571 (Nat.le_of_eq hg.symm)) hb); replace HB := Aside0.mk (bt_ HB hb); clear hb hbox hg; have hcz59_0 := cz_ BK571 0 (.int .i64 0); have hcz59_1 := cz_ BK571 1 (.int .i64 0); have hfz59_0 := blk_frozen BK571.out 0; have hfz59_1 := blk_frozen BK571.out 1))
         have n0_ : Aside0 (Kd.R k28 28 ((w58.setCell ⟨gb571, 0, none⟩ (.int .i64 t568)).setCell ⟨gb571, 1, none⟩ (.int .i64 t569)) w.heap.size (fun k_ => some k_ ≠ (.slice (some ad566) t561.length co26 : Value).ownBlock ∧ k_ ≠ gb571) (.slice Ao9 t554.length co9) t554) := ⟨by (with_reducible repeat (first | apply Kd.R_alloc | apply Kd.R_drewN | apply Kd.R_drew)); exact Kd.R_mono (Kd.R_far (p := ⟨gb571, 1, none⟩) (Kd.R_far (p := ⟨gb571, 0, none⟩) (Kd.R_mono HO_3.out (fun k_ hk => (⟨hk, hk.2⟩ : _ ∧ k_ ≠ gb571))) (fun _ hk => hk.2) (.int .i64 t568)) (fun _ hk => hk.2) (.int .i64 t569)) (fun _ hk => by first | exact ⟨hk.1.1, hk.1.2⟩ | grind)⟩
         have n1_ : Aside0 (Kd.R k28 28 ((w58.setCell ⟨gb571, 0, none⟩ (.int .i64 t568)).setCell ⟨gb571, 1, none⟩ (.int .i64 t569)) w.heap.size (fun k_ => some k_ ≠ (.slice Ao9 t554.length co9 : Value).ownBlock ∧ k_ ≠ gb571) (.slice (some ad566) t561.length co26) t561) := ⟨by (with_reducible repeat (first | apply Kd.R_alloc | apply Kd.R_drewN | apply Kd.R_drew)); exact Kd.R_mono (Kd.R_far (p := ⟨gb571, 1, none⟩) (Kd.R_far (p := ⟨gb571, 0, none⟩) (Kd.R_mono HO_6.out (fun k_ hk => (⟨hk, hk.2⟩ : _ ∧ k_ ≠ gb571))) (fun _ hk => hk.2) (.int .i64 t568)) (fun _ hk => hk.2) (.int .i64 t569)) (fun _ hk => by first | exact ⟨hk.1.1, hk.1.2⟩ | grind)⟩
         have n2_ : Aside0 (((w58.setCell ⟨gb571, 0, none⟩ (.int .i64 t568)).setCell ⟨gb571, 1, none⟩ (.int .i64 t569)).heap[gb571]? = some (.cells #[.int .i64 t568, .int .i64 t569] 28 (0, 0))) := ⟨by (with_reducible repeat (first | refine blk_drewN ?_ _ | refine blk_drew ?_ | refine blk_alloc ?_ _)); refine blk_put (cs := #[.int .i64 t568, .int .i64 0]) ?_ 1 _ rfl; (with_reducible repeat (first | refine blk_drewN ?_ _ | refine blk_drew ?_ | refine blk_alloc ?_ _)); refine blk_put (cs := #[.int .i64 0, .int .i64 0]) ?_ 0 _ rfl; (with_reducible repeat (first | refine blk_drewN ?_ _ | refine blk_drew ?_ | refine blk_alloc ?_ _)); exact BK571.out⟩
         have n3_ : Aside0 (Below w.heap.size w ((w58.setCell ⟨gb571, 0, none⟩ (.int .i64 t568)).setCell ⟨gb571, 1, none⟩ (.int .i64 t569))) := ⟨by repeat (first | (with_reducible first | exact HB.out | apply below_alloc | apply pw_below_drewN | apply below_drew1 | refine below_set ?_ GE571.out) | exact HB.out)⟩
         (try clear HO_3)
         (try clear HO_6)
         (try clear BK571)
         (try clear HB)
         generalize ((w58.setCell ⟨gb571, 0, none⟩ (.int .i64 t568)).setCell ⟨gb571, 1, none⟩ (.int .i64 t569)) = w60 at n0_ n1_ n2_ n3_ ⊢
         have HO_3 := n0_
         have HO_6 := n1_
         have BK571 := n2_
         have HB := n3_
         clear n0_ n1_ n2_ n3_
         replace HO_3 := Aside0.mk (Kd.R_drew HO_3.out)
         replace HO_6 := Aside0.mk (Kd.R_drew HO_6.out)
         replace BK571 := Aside0.mk (blk_drew BK571.out)
         replace HB := Aside0.mk (below_drew1 HB.out)
         have p572 : 0 ≤ (x9_3 : Int) := of_decide_eq_true (by first | (with_reducible assumption) | assumption)
         have q572 : x9_3 < (t561.length : Int) := of_decide_eq_true (by first | (with_reducible assumption) | assumption)
         obtain ⟨ad572, e572, hx572_0, hx572_1⟩ := at_T28 (Kd.R_reads' HO_6.out).2.2 x9_3 p572 q572
         obtain rfl : ad566 = ad572 := (by injection e572)
         replace p572 := eq_true p572
         replace q572 := eq_true q572
         have p573 : 0 ≤ (x10_4 : Int) := of_decide_eq_true (by first | (with_reducible assumption) | assumption)
         have q573 : x10_4 < (t561.length : Int) := of_decide_eq_true (by first | (with_reducible assumption) | assumption)
         obtain ⟨ad573, e573, hx573_0, hx573_1⟩ := at_T28 (Kd.R_reads' HO_6.out).2.2 x10_4 p573 q573
         obtain rfl : ad566 = ad573 := (by injection e573)
         replace p573 := eq_true p573
         replace q573 := eq_true q573
         have p574 : 0 ≤ (x9_3 : Int) := of_decide_eq_true (by first | (with_reducible assumption) | assumption)
         have q574 : x9_3 < (t561.length : Int) := of_decide_eq_true (by first | (with_reducible assumption) | assumption)
         obtain ⟨ad574, e574, hx574_0, hx574_1⟩ := at_T28 (Kd.R_reads' HO_6.out).2.2 x9_3 p574 q574
         obtain rfl : ad566 = ad574 := (by injection e574)
         replace p574 := eq_true p574
         replace q574 := eq_true q574
         have p575 : 0 ≤ (x10_4 : Int) := of_decide_eq_true (by first | (with_reducible assumption) | assumption)
         have q575 : x10_4 < (t561.length : Int) := of_decide_eq_true (by first | (with_reducible assumption) | assumption)
         obtain ⟨ad575, e575, hx575_0, hx575_1⟩ := at_T28 (Kd.R_reads' HO_6.out).2.2 x10_4 p575 q575
         obtain rfl : ad566 = ad575 := (by injection e575)
         replace p575 := eq_true p575
         replace q575 := eq_true q575
         have p577 : 0 ≤ (x10_4 : Int) := of_decide_eq_true (by first | (with_reducible assumption) | assumption)
         have q577 : x10_4 < (t561.length : Int) := of_decide_eq_true (by first | (with_reducible assumption) | assumption)
         obtain ⟨ad577, e577, hx577_0, hx577_1⟩ := at_T28 (Kd.R_reads' HO_6.out).2.2 x10_4 p577 q577
         obtain rfl : ad566 = ad577 := (by injection e577)
         replace p577 := eq_true p577
         replace q577 := eq_true q577
         have p578 : 0 ≤ (x9_3 : Int) := of_decide_eq_true (by first | (with_reducible assumption) | assumption)
         have q578 : x9_3 < (t561.length : Int) := of_decide_eq_true (by first | (with_reducible assumption) | assumption)
         obtain ⟨ad578, e578, hx578_0, hx578_1⟩ := at_T28 (Kd.R_reads' HO_6.out).2.2 x9_3 p578 q578
         obtain rfl : ad566 = ad578 := (by injection e578)
         replace p578 := eq_true p578
         replace q578 := eq_true q578
         refine start_ (n := 36) (S := fun w' => w'.cell? ⟨gb571, 0, none⟩ = some (.int .i64 t568) ∧ w'.cell? ⟨gb571, 1, none⟩ = some (.int .i64 t569) ∧ w'.cell? (ad566.add ((x9_3).toNat * 2)) = some (.int .i64 ((rd_T28 t561 x9_3).f0)) ∧ w'.cell? ⟨(ad566.add ((x9_3).toNat * 2)).block, (ad566.add ((x9_3).toNat * 2)).off + 1, none⟩ = some (.int .i64 ((rd_T28 t561 x9_3).f1)) ∧ w'.cell? (ad566.add ((x10_4).toNat * 2)) = some (.int .i64 ((rd_T28 t561 x10_4).f0)) ∧ w'.cell? ⟨(ad566.add ((x10_4).toNat * 2)).block, (ad566.add ((x10_4).toNat * 2)).off + 1, none⟩ = some (.int .i64 ((rd_T28 t561 x10_4).f1)) ∧ w'.cell? (ad566.add ((x9_3).toNat * 2)) = some (.int .i64 ((rd_T28 t561 x9_3).f0)) ∧ w'.cell? ⟨(ad566.add ((x9_3).toNat * 2)).block, (ad566.add ((x9_3).toNat * 2)).off + 1, none⟩ = some (.int .i64 ((rd_T28 t561 x9_3).f1)) ∧ w'.cell? (ad566.add ((x10_4).toNat * 2)) = some (.int .i64 ((rd_T28 t561 x10_4).f0)) ∧ w'.cell? ⟨(ad566.add ((x10_4).toNat * 2)).block, (ad566.add ((x10_4).toNat * 2)).off + 1, none⟩ = some (.int .i64 ((rd_T28 t561 x10_4).f1)) ∧ w'.cell? (ad566.add ((x10_4).toNat * 2)) = some (.int .i64 ((rd_T28 t561 x10_4).f0)) ∧ w'.cell? ⟨(ad566.add ((x10_4).toNat * 2)).block, (ad566.add ((x10_4).toNat * 2)).off + 1, none⟩ = some (.int .i64 ((rd_T28 t561 x10_4).f1)) ∧ w'.cell? (ad566.add ((x9_3).toNat * 2)) = some (.int .i64 ((rd_T28 t561 x9_3).f0)) ∧ w'.cell? ⟨(ad566.add ((x9_3).toNat * 2)).block, (ad566.add ((x9_3).toNat * 2)).off + 1, none⟩ = some (.int .i64 ((rd_T28 t561 x9_3).f1))) (ds := []) ba20_0 (by kernel_rfl) rfl rfl ⟨(blk_cell BK571.out 0).trans rfl, (blk_cell BK571.out 1).trans rfl, hx572_0, hx572_1, hx573_0, hx573_1, hx574_0, hx574_1, hx575_0, hx575_1, hx577_0, hx577_1, hx578_0, hx578_1⟩ (fun hHeld => ?_); refine with_tabW laws_FnAggregate.tab19 laws_FnAggregate.bits19 (fun HT_ HW_ => ?_)
         generalize w60.drew = w61 at HO_3 HO_6 BK571 HB hx572_0 hx572_1 hx573_0 hx573_1 hx574_0 hx574_1 hx575_0 hx575_1 hx577_0 hx577_1 hx578_0 hx578_1 hHeld ⊢
         refine pz_ 0 80 ba20_1 HT_ ?_
         refine pz_ 1 81 ba20_2 HT_ ?_
         refine pz_ 2 82 ba20_3 HT_ ?_
         refine pz_ 3 83 ba20_4 HT_ ?_
         refine pt_ 4 84 ba20_5 HT_ HW_ hHeld ?_
         refine pz_ 5 85 ba20_6 HT_ ?_
         refine pz_ 6 86 ba20_7 HT_ ?_
         refine pz_ 8 88 ba20_8 HT_ ?_
         refine pz_ 9 89 ba20_9 HT_ ?_
         refine pz_ 10 90 ba20_10 HT_ ?_
         refine pt_ 7 87 ba20_11 HT_ HW_ hHeld ?_
         refine pt_ 11 91 ba20_12 HT_ HW_ hHeld ?_
         refine pz_ 12 92 ba20_13 HT_ ?_
         refine pz_ 13 93 ba20_14 HT_ ?_
         refine pz_ 14 94 ba20_15 HT_ ?_
         refine pz_ 15 95 ba20_16 HT_ ?_
         refine pz_ 16 96 ba20_17 HT_ ?_
         refine pz_ 17 97 ba20_18 HT_ ?_
         refine pz_ 19 99 ba20_37 HT_ ?_
         refine pz_ 20 100 ba20_38 HT_ ?_
         refine pz_ 21 101 ba20_39 HT_ ?_
         refine pt_ 18 98 ba20_22 HT_ HW_ hHeld ?_
         refine pt_ 22 102 ba20_23 HT_ HW_ hHeld ?_
         refine one_ (i := 23) (N := some 103) ba20_24 rfl rfl (one_of HT_.out (by kernel_rfl)) (by decide) (fun K hK => ?_)
         refine gz_ Try.func37 #[.agg #[.int .i64 ((rd_T28 t561 x9_3).f0), .int .i64 ((rd_T28 t561 x9_3).f1)], .agg #[.int .i64 ((rd_T28 t561 x10_4).f0), .int .i64 ((rd_T28 t561 x10_4).f1)]] ?_
         with_reducible refine (impl_CoversPrefix.calls ((rd_T28 t561 x9_3).f0) ((rd_T28 t561 x9_3).f1) ((rd_T28 t561 x10_4).f0) ((rd_T28 t561 x10_4).f1) false _ A40.out).mono ?_
         rintro e w62 ⟨rfl, hb⟩
         have HS2_ := (hb.cell (World.block_lt_of_cell? _ _ (hHeld.2.2.1))).trans (hHeld.2.2.1)
         have HS3_ := (hb.cell (World.block_lt_of_cell? _ _ (hHeld.2.2.2.1))).trans (hHeld.2.2.2.1)
         have HS4_ := (hb.cell (World.block_lt_of_cell? _ _ (hHeld.2.2.2.2.1))).trans (hHeld.2.2.2.2.1)
         have HS5_ := (hb.cell (World.block_lt_of_cell? _ _ (hHeld.2.2.2.2.2.1))).trans (hHeld.2.2.2.2.2.1)
         have HS6_ := (hb.cell (World.block_lt_of_cell? _ _ (hHeld.2.2.2.2.2.2.1))).trans (hHeld.2.2.2.2.2.2.1)
         have HS7_ := (hb.cell (World.block_lt_of_cell? _ _ (hHeld.2.2.2.2.2.2.2.1))).trans (hHeld.2.2.2.2.2.2.2.1)
         have HS8_ := (hb.cell (World.block_lt_of_cell? _ _ (hHeld.2.2.2.2.2.2.2.2.1))).trans (hHeld.2.2.2.2.2.2.2.2.1)
         have HS9_ := (hb.cell (World.block_lt_of_cell? _ _ (hHeld.2.2.2.2.2.2.2.2.2.1))).trans (hHeld.2.2.2.2.2.2.2.2.2.1)
         have HS10_ := (hb.cell (World.block_lt_of_cell? _ _ (hHeld.2.2.2.2.2.2.2.2.2.2.1))).trans (hHeld.2.2.2.2.2.2.2.2.2.2.1)
         have HS11_ := (hb.cell (World.block_lt_of_cell? _ _ (hHeld.2.2.2.2.2.2.2.2.2.2.2.1))).trans (hHeld.2.2.2.2.2.2.2.2.2.2.2.1)
         have HS12_ := (hb.cell (World.block_lt_of_cell? _ _ (hHeld.2.2.2.2.2.2.2.2.2.2.2.2.1))).trans (hHeld.2.2.2.2.2.2.2.2.2.2.2.2.1)
         have HS13_ := (hb.cell (World.block_lt_of_cell? _ _ (hHeld.2.2.2.2.2.2.2.2.2.2.2.2.2))).trans (hHeld.2.2.2.2.2.2.2.2.2.2.2.2.2)
         refine ⟨_, rfl, ?_⟩
         replace HO_3 := rb_ HO_3 hb
         replace HO_6 := rb_ HO_6 hb
         replace BK571 := Aside0.mk (bb_ BK571 hb)
         replace HB := Aside0.mk (bt_ HB hb)
         (try clear hb)
         (try clear hb2)
         (try clear hk)
         (try clear hi)
         refine hK.out _ _ ⟨(blk_cell BK571.out 0).trans rfl, (blk_cell BK571.out 1).trans rfl, HS2_, HS3_, HS4_, HS5_, HS6_, HS7_, HS8_, HS9_, HS10_, HS11_, HS12_, HS13_⟩ (fun hHeld => ?_)
         clear hK K
         refine nz_ 103 ?_
         refine pz_ 24 104 ba20_25 HT_ ?_
         refine pz_ 25 105 ba20_26 HT_ ?_
         refine pz_ 26 106 ba20_27 HT_ ?_
         refine pz_ 27 107 ba20_28 HT_ ?_
         refine pz_ 28 108 ba20_29 HT_ ?_
         refine pz_ 30 110 ba20_40 HT_ ?_
         refine pz_ 31 111 ba20_41 HT_ ?_
         refine pz_ 32 112 ba20_42 HT_ ?_
         refine pt_ 29 109 ba20_33 HT_ HW_ hHeld ?_
         refine pt_ 33 113 ba20_34 HT_ HW_ hHeld ?_
         refine one_ (i := 34) (N := some 114) ba20_35 rfl rfl (one_of HT_.out (by kernel_rfl)) (by decide) (fun K hK => ?_)
         refine gz_ Try.func37 #[.agg #[.int .i64 ((rd_T28 t561 x10_4).f0), .int .i64 ((rd_T28 t561 x10_4).f1)], .agg #[.int .i64 ((rd_T28 t561 x9_3).f0), .int .i64 ((rd_T28 t561 x9_3).f1)]] ?_
         with_reducible refine (impl_CoversPrefix.calls ((rd_T28 t561 x10_4).f0) ((rd_T28 t561 x10_4).f1) ((rd_T28 t561 x9_3).f0) ((rd_T28 t561 x9_3).f1) false _ A48.out).mono ?_
         rintro e w63 ⟨rfl, hb⟩
         have HS2_ := (hb.cell (World.block_lt_of_cell? _ _ (hHeld.2.2.1))).trans (hHeld.2.2.1)
         have HS3_ := (hb.cell (World.block_lt_of_cell? _ _ (hHeld.2.2.2.1))).trans (hHeld.2.2.2.1)
         have HS4_ := (hb.cell (World.block_lt_of_cell? _ _ (hHeld.2.2.2.2.1))).trans (hHeld.2.2.2.2.1)
         have HS5_ := (hb.cell (World.block_lt_of_cell? _ _ (hHeld.2.2.2.2.2.1))).trans (hHeld.2.2.2.2.2.1)
         have HS6_ := (hb.cell (World.block_lt_of_cell? _ _ (hHeld.2.2.2.2.2.2.1))).trans (hHeld.2.2.2.2.2.2.1)
         have HS7_ := (hb.cell (World.block_lt_of_cell? _ _ (hHeld.2.2.2.2.2.2.2.1))).trans (hHeld.2.2.2.2.2.2.2.1)
         have HS8_ := (hb.cell (World.block_lt_of_cell? _ _ (hHeld.2.2.2.2.2.2.2.2.1))).trans (hHeld.2.2.2.2.2.2.2.2.1)
         have HS9_ := (hb.cell (World.block_lt_of_cell? _ _ (hHeld.2.2.2.2.2.2.2.2.2.1))).trans (hHeld.2.2.2.2.2.2.2.2.2.1)
         have HS10_ := (hb.cell (World.block_lt_of_cell? _ _ (hHeld.2.2.2.2.2.2.2.2.2.2.1))).trans (hHeld.2.2.2.2.2.2.2.2.2.2.1)
         have HS11_ := (hb.cell (World.block_lt_of_cell? _ _ (hHeld.2.2.2.2.2.2.2.2.2.2.2.1))).trans (hHeld.2.2.2.2.2.2.2.2.2.2.2.1)
         have HS12_ := (hb.cell (World.block_lt_of_cell? _ _ (hHeld.2.2.2.2.2.2.2.2.2.2.2.2.1))).trans (hHeld.2.2.2.2.2.2.2.2.2.2.2.2.1)
         have HS13_ := (hb.cell (World.block_lt_of_cell? _ _ (hHeld.2.2.2.2.2.2.2.2.2.2.2.2.2))).trans (hHeld.2.2.2.2.2.2.2.2.2.2.2.2.2)
         refine ⟨_, rfl, ?_⟩
         replace HO_3 := rb_ HO_3 hb
         replace HO_6 := rb_ HO_6 hb
         replace BK571 := Aside0.mk (bb_ BK571 hb)
         replace HB := Aside0.mk (bt_ HB hb)
         (try clear hb)
         (try clear hb2)
         (try clear hk)
         (try clear hi)
         refine hK.out _ _ ⟨(blk_cell BK571.out 0).trans rfl, (blk_cell BK571.out 1).trans rfl, HS2_, HS3_, HS4_, HS5_, HS6_, HS7_, HS8_, HS9_, HS10_, HS11_, HS12_, HS13_⟩ (fun hHeld => ?_)
         clear hK K
         refine nz_ 114 ?_
         refine pz_ 35 115 ba20_36 HT_ ?_
         refine done_ (done_of HT_.out (by kernel_rfl)) ?_
         try go_wp2
         go_roundg k4
         case measure => have := HJ6.out; have := HJ16.out; have := HK3.out; have := HK4.out; omega
         case rel => exact ⟨(wrap64 (x10_4 + 1)), (by first | rfl | (simp; done) | (simp [*]; done)), H', ⟨by have := HJ6.out; have := HJ16.out; have := HK3.out; have := HK4.out; omega⟩, ⟨by (with_reducible repeat (first | apply Kd.R_alloc | apply Kd.R_drewN | apply Kd.R_drew)); exact Kd.R_mono HO_3.out (fun _ hk => hk.1)⟩, ⟨by (with_reducible repeat (first | apply Kd.R_alloc | apply Kd.R_drewN | apply Kd.R_drew)); exact Kd.R_mono HO_6.out (fun _ hk => hk.1)⟩, ⟨by repeat (first | (with_reducible first | exact HB.out | apply below_alloc | apply pw_below_drewN | apply below_drew1 | refine below_set ?_ GE571.out) | exact HB.out)⟩⟩

/-- THE ONE PURE STATEMENT of laws_FnAggregate: yours. -/
def laws_FnAggregate.Pure : Prop := ∀ (l0 : List Int), l0.length ≤ maxLen → l0.length * 1 ≤ 140737488351232 → (∀ x ∈ l0, (Lit.int .u8 x).wf = true) → ∃ k, laws_FnAggregate.f k l0 = some true
theorem laws_FnAggregate.walk (P : laws_FnAggregate.Pure) (a0 : Option Addr) (len0 cap0 : Nat) (z0 : List Int) (w : World) (w0 : (a0 = none ∧ len0 = 0 ∧ cap0 = 0 ∧ z0 = []) ∨ ∃ x, a0 = some x ∧ len0 ≤ cap0 ∧ cap0 ≤ maxLen ∧ z0.length = cap0 ∧ (∀ i, i < z0.length → w.cell? (x.add i) = some (.int .u8 (z0.getD i 0))) ∧ ∀ n ∈ z0, (Lit.int .u8 n).wf = true) (y0 : len0 * 1 ≤ 140737488351232) :
  Calls Try.prog 7 #[.slice a0 len0 cap0] w fun e w' => e = .returned (.bool true) ∧ Below w.heap.size w w' := by
 obtain ⟨l0, rfl, hr0, hm0, hw0, hc0⟩ := ReadsInt.ofRowC w0
 obtain ⟨k, h⟩ := P l0 hm0 y0 hw0
 refine (laws_FnAggregate.calls k _ _ l0 true w (Kd.C_of_reads (d := (0 : Int)) (h1 := fun _ => rfl) hr0) hc0 h).mono ?_
 rintro e w' ⟨rfl, hd⟩
 exact ⟨rfl, hd⟩

end Go.Proofs.Ytjepmdngbafonaa.QFnAggregate
