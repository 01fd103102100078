import Derived.Test.YtjepabdgmholjaaQFnExactSameTablex14
/- The pure statement of the law: over numbers and lists alone. -/
namespace Go.Proofs.Ytjepabdgmholjaa.Pure
open Go.RowKit Go.Proofs.Ytjepabdgmholjaa.QFnExactSameTable Go.Proofs.YtjepabdgmholjaaU.PrintWords Go.Proofs.YtjepabdgmholjaaU.PrintLast
def FnExactSameTable.Pure : Prop := ∀ (l0_0 : List S46) (l1_0 : List S46), (l0_0.length ≤ maxLen ∧ ∀ x ∈ l0_0, (((Lit.int .i64 x.f0.f0).wf = true ∧ (Lit.int .i64 x.f0.f1).wf = true) ∧ (Lit.int .i64 x.f1).wf = true)) → (l1_0.length ≤ maxLen ∧ ∀ x ∈ l1_0, (((Lit.int .i64 x.f0.f0).wf = true ∧ (Lit.int .i64 x.f0.f1).wf = true) ∧ (Lit.int .i64 x.f1).wf = true)) → ∃ k, laws_FnExactSameTable.f k l0_0 l1_0 = some true
end Go.Proofs.Ytjepabdgmholjaa.Pure
