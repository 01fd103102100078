import Derived.Test.YteopiggdpadolaaQFnExactWayCostx9
/- The pure statement of the law: over numbers and lists alone. -/
namespace Go.Proofs.Yteopiggdpadolaa.Pure
open Go.RowKit Go.Proofs.Yteopiggdpadolaa.QFnExactWayCost Go.Proofs.YteopiggdpadolaaW.PrintWords Go.Proofs.YteopiggdpadolaaW.PrintLast
def FnExactWayCost.Pure : Prop := ∀ (a0_0 : Int) (l0_1 : List S82) (l1 : List Int), (Lit.int .i64 a0_0).wf = true → (l0_1.length ≤ maxLen ∧ ∀ x ∈ l0_1, ((Lit.int .i64 x.f0).wf = true ∧ (Lit.int .i64 x.f1).wf = true ∧ (Lit.int .i64 x.f2).wf = true)) → (l1.length ≤ maxLen ∧ ∀ x ∈ l1, (Lit.int .i64 x).wf = true) → ∃ k, laws_FnExactWayCost.f k a0_0 l0_1 l1 = some true
end Go.Proofs.Yteopiggdpadolaa.Pure
