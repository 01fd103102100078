import Derived.Test.YthmahcohcphljaaQFnExactSharesx14
/- The pure statement of the law: over numbers and lists alone. -/
namespace Go.Proofs.Ythmahcohcphljaa.Pure
open Go.RowKit Go.Proofs.Ythmahcohcphljaa.QFnExactShares Go.Proofs.YthmahcohcphljaaH.PrintWords Go.Proofs.YthmahcohcphljaaH.PrintLast
def FnExactShares.Pure : Prop := ∀ (a0_0 : Int) (l0_1 : List S88) (a1 : Int) (a2 : Int) (a3 : Int), (Lit.int .i64 a0_0).wf = true → (l0_1.length ≤ maxLen ∧ ∀ x ∈ l0_1, ((Lit.int .i64 x.f0).wf = true ∧ (Lit.int .i64 x.f1).wf = true ∧ (Lit.int .i64 x.f2).wf = true)) → (Lit.int .i64 a1).wf = true → (Lit.int .i64 a2).wf = true → (Lit.int .i64 a3).wf = true → ∃ k, laws_FnExactShares.f k a0_0 l0_1 a1 a2 a3 = some true
end Go.Proofs.Ythmahcohcphljaa.Pure
