import Derived.Test.YtjepmdngbafonaaQFnExactAggregatex15
/- The pure statement of the law: over numbers and lists alone. -/
namespace Go.Proofs.Ytjepmdngbafonaa.Pure
open Go.RowKit Go.Proofs.Ytjepmdngbafonaa.QFnExactAggregate Go.Proofs.YtjepmdngbafonaaA.PrintWords Go.Proofs.YtjepmdngbafonaaA.PrintLast
def FnExactAggregate.Pure : Prop := ∀ (l0 : List S92), (l0.length ≤ maxLen ∧ ∀ x ∈ l0, ((Lit.int .i64 x.f0).wf = true ∧ (Lit.int .i64 x.f1).wf = true)) → ∃ k, laws_FnExactAggregate.f k l0 = some true
end Go.Proofs.Ytjepmdngbafonaa.Pure
