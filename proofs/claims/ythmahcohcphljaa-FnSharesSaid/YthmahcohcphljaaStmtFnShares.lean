import Derived.Test.YthmahcohcphljaaQFnSharesx17
/- The pure statement of the law: over numbers and lists alone. -/
namespace Go.Proofs.Ythmahcohcphljaa.Pure
open Go.RowKit Go.Proofs.Ythmahcohcphljaa.QFnShares Go.Proofs.YthmahcohcphljaaS.PrintWords Go.Proofs.YthmahcohcphljaaS.PrintLast
def FnShares.Pure : Prop := ∀ (l0 : List Int), (l0.length ≤ maxLen ∧ ∀ x ∈ l0, (Lit.int .u8 x).wf = true) → ∃ k, laws_FnShares.f k l0 = some true
end Go.Proofs.Ythmahcohcphljaa.Pure
