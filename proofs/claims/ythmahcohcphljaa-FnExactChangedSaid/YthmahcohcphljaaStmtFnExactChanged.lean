import Derived.Test.YthmahcohcphljaaQFnExactChangedx12
/- The pure statement of the law: over numbers and lists alone. -/
namespace Go.Proofs.Ythmahcohcphljaa.Pure
open Go.RowKit Go.Proofs.Ythmahcohcphljaa.QFnExactChanged Go.Proofs.YthmahcohcphljaaU.PrintWords Go.Proofs.YthmahcohcphljaaU.PrintLast
def FnExactChanged.Pure : Prop := ∀ (a0_0 : Int) (l0_1 : List S88) (a1_0 : Int) (l1_1 : List S88) (a2 : Int), (Lit.int .i64 a0_0).wf = true → (l0_1.length ≤ maxLen ∧ ∀ x ∈ l0_1, ((Lit.int .i64 x.f0).wf = true ∧ (Lit.int .i64 x.f1).wf = true ∧ (Lit.int .i64 x.f2).wf = true)) → (Lit.int .i64 a1_0).wf = true → (l1_1.length ≤ maxLen ∧ ∀ x ∈ l1_1, ((Lit.int .i64 x.f0).wf = true ∧ (Lit.int .i64 x.f1).wf = true ∧ (Lit.int .i64 x.f2).wf = true)) → (Lit.int .i64 a2).wf = true → ∃ k, laws_FnExactChanged.f k a0_0 l0_1 a1_0 l1_1 a2 = some true
end Go.Proofs.Ythmahcohcphljaa.Pure
