import Derived.Test.YtjepmdngbafonaaQFnAggregatex20
/- The pure statement of the law: over numbers and lists alone. -/
namespace Go.Proofs.Ytjepmdngbafonaa.Pure
open Go.RowKit Go.Proofs.Ytjepmdngbafonaa.QFnAggregate Go.Proofs.YtjepmdngbafonaaB.PrintWords Go.Proofs.YtjepmdngbafonaaB.PrintLast
def FnAggregate.Pure : Prop := ∀ (l0 : List Int), (l0.length ≤ maxLen ∧ ∀ x ∈ l0, (Lit.int .u8 x).wf = true) → ∃ k, laws_FnAggregate.f k l0 = some true
end Go.Proofs.Ytjepmdngbafonaa.Pure
