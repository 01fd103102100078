import Derived.Test.YthmahcohcphljaaQFnHopsx16
/- The pure statement of the law: over numbers and lists alone. -/
namespace Go.Proofs.Ythmahcohcphljaa.Pure
open Go.RowKit Go.Proofs.Ythmahcohcphljaa.QFnHops Go.Proofs.YthmahcohcphljaaP.PrintWords Go.Proofs.YthmahcohcphljaaP.PrintLast
def FnHops.Pure : Prop := ∀ (l0 : List Int), (l0.length ≤ maxLen ∧ ∀ x ∈ l0, (Lit.int .u8 x).wf = true) → ∃ k, laws_FnHops.f k l0 = some true
end Go.Proofs.Ythmahcohcphljaa.Pure
