import Derived.Test.YteopiggdpadolaaQFnExactCountWaysx12
/- The pure statement of the law: over numbers and lists alone. -/
namespace Go.Proofs.Yteopiggdpadolaa.Pure
open Go.RowKit Go.Proofs.Yteopiggdpadolaa.QFnExactCountWays Go.Proofs.YteopiggdpadolaaX.PrintWords Go.Proofs.YteopiggdpadolaaX.PrintLast
def FnExactCountWays.Pure : Prop := ∀ (a0_0 : Int) (l0_1 : List S82) (a1 : Int) (a2 : Int), (Lit.int .i64 a0_0).wf = true → (l0_1.length ≤ maxLen ∧ ∀ x ∈ l0_1, ((Lit.int .i64 x.f0).wf = true ∧ (Lit.int .i64 x.f1).wf = true ∧ (Lit.int .i64 x.f2).wf = true)) → (Lit.int .i64 a1).wf = true → (Lit.int .i64 a2).wf = true → ∃ k, laws_FnExactCountWays.f k a0_0 l0_1 a1 a2 = some true
end Go.Proofs.Yteopiggdpadolaa.Pure
