import Derived.Test.YthmahcohcphljaaQFnTrianglex11
/- The pure statement of the law: over numbers and lists alone. -/
namespace Go.Proofs.Ythmahcohcphljaa.Pure
open Go.RowKit Go.Proofs.Ythmahcohcphljaa.QFnTriangle Go.Proofs.YthmahcohcphljaaT.PrintWords Go.Proofs.YthmahcohcphljaaT.PrintLast
def FnTriangle.Pure : Prop := ∀ (l0 : List Int), (l0.length ≤ maxLen ∧ ∀ x ∈ l0, (Lit.int .u8 x).wf = true) → ∃ k, laws_FnTriangle.f k l0 = some true
end Go.Proofs.Ythmahcohcphljaa.Pure
