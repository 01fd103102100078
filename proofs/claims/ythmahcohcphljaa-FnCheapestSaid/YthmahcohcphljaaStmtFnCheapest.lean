import Derived.Test.YthmahcohcphljaaQFnCheapestx23
/- The pure statement of the law: over numbers and lists alone. -/
namespace Go.Proofs.Ythmahcohcphljaa.Pure
open Go.RowKit Go.Proofs.Ythmahcohcphljaa.QFnCheapest Go.Proofs.YthmahcohcphljaaC.PrintWords Go.Proofs.YthmahcohcphljaaC.PrintLast
def FnCheapest.Pure : Prop := ∀ (l0 : List Int), (l0.length ≤ maxLen ∧ ∀ x ∈ l0, (Lit.int .u8 x).wf = true) → ∃ k, laws_FnCheapest.f k l0 = some true
end Go.Proofs.Ythmahcohcphljaa.Pure
