import Derived.Test.YtmbaemcnjdgemaaDoorQFnExactTableTextx8
/- The pure statement of the law: over numbers and lists alone. -/
namespace Go.Proofs.YtmbaemcnjdgemaaDoor.Pure
open Go.RowKit Go.Proofs.YtmbaemcnjdgemaaDoor.QFnExactTableText Go.Proofs.YtmbaemcnjdgemaaDoorC.PrintWords Go.Proofs.YtmbaemcnjdgemaaDoorC.PrintLast
def FnExactTableText.Pure : Prop := ∀ (l0_0 : List S86), (l0_0.length ≤ maxLen ∧ ∀ x ∈ l0_0, (((Lit.int .i64 x.f0.f0).wf = true ∧ (Lit.int .i64 x.f0.f1).wf = true) ∧ (Lit.int .i64 x.f1).wf = true)) → ∃ k, laws_FnExactTableText.f k l0_0 = some true
end Go.Proofs.YtmbaemcnjdgemaaDoor.Pure
