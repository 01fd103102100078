import Derived.Test.YtjepabdgmholjaaQFnExactTableSpansx13
/- The pure statement of the law: over numbers and lists alone. -/
namespace Go.Proofs.Ytjepabdgmholjaa.Pure
open Go.RowKit Go.Proofs.Ytjepabdgmholjaa.QFnExactTableSpans Go.Proofs.YtjepabdgmholjaaU.PrintWords Go.Proofs.YtjepabdgmholjaaU.PrintLast
def FnExactTableSpans.Pure : Prop := ∀ (l0_0 : List S46), (l0_0.length ≤ maxLen ∧ ∀ x ∈ l0_0, (((Lit.int .i64 x.f0.f0).wf = true ∧ (Lit.int .i64 x.f0.f1).wf = true) ∧ (Lit.int .i64 x.f1).wf = true)) → ∃ k, laws_FnExactTableSpans.f k l0_0 = some true
end Go.Proofs.Ytjepabdgmholjaa.Pure
