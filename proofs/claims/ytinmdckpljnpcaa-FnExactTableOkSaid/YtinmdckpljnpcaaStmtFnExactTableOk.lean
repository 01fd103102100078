import Derived.Test.YtinmdckpljnpcaaPFnExactTableOkx5
/- The pure statement of the law: over numbers and lists alone. -/
namespace Go.Proofs.Ytinmdckpljnpcaa.Pure
open Go.RowKit Go.Proofs.Ytinmdckpljnpcaa.PFnExactTableOk Go.Proofs.YtinmdckpljnpcaaW.PrintWords Go.Proofs.YtinmdckpljnpcaaW.PrintLast
def FnExactTableOk.Pure : Prop := ∀ (l0_0 : List S97), (l0_0.length ≤ maxLen ∧ ∀ x ∈ l0_0, (((Lit.int .i64 x.f0.f0).wf = true ∧ (Lit.int .i64 x.f0.f1).wf = true) ∧ (Lit.int .i64 x.f1).wf = true)) → ∃ k, laws_FnExactTableOk.f k l0_0 = some true
end Go.Proofs.Ytinmdckpljnpcaa.Pure
