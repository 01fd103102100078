import Derived.Test.YteopiggdpadolaaQFnExactBothWaysx9
/- The pure statement of the law: over numbers and lists alone. -/
namespace Go.Proofs.Yteopiggdpadolaa.Pure
open Go.RowKit Go.Proofs.Yteopiggdpadolaa.QFnExactBothWays Go.Proofs.YteopiggdpadolaaY.PrintWords Go.Proofs.YteopiggdpadolaaY.PrintLast
def FnExactBothWays.Pure : Prop := ∀ (a0_0 : Int) (l0_1 : List S82), (Lit.int .i64 a0_0).wf = true → (l0_1.length ≤ maxLen ∧ ∀ x ∈ l0_1, ((Lit.int .i64 x.f0).wf = true ∧ (Lit.int .i64 x.f1).wf = true ∧ (Lit.int .i64 x.f2).wf = true)) → ∃ k, laws_FnExactBothWays.f k a0_0 l0_1 = some true
end Go.Proofs.Yteopiggdpadolaa.Pure
