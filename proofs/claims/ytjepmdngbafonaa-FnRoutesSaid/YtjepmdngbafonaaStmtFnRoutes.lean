import Derived.Test.YtjepmdngbafonaaQFnRoutesx18
/- The pure statement of the law: over numbers and lists alone. -/
namespace Go.Proofs.Ytjepmdngbafonaa.Pure
open Go.RowKit Go.Proofs.Ytjepmdngbafonaa.QFnRoutes Go.Proofs.YtjepmdngbafonaaR.PrintWords Go.Proofs.YtjepmdngbafonaaR.PrintLast
def FnRoutes.Pure : Prop := ∀ (l0 : List Int), (l0.length ≤ maxLen ∧ ∀ x ∈ l0, (Lit.int .u8 x).wf = true) → ∃ k, laws_FnRoutes.f k l0 = some true
end Go.Proofs.Ytjepmdngbafonaa.Pure
