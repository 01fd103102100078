import Derived.Test.YtflfbaofgfandaaQFnExactSqueezex17
/- The pure statement of the law: over numbers and lists alone. -/
namespace Go.Proofs.Ytflfbaofgfandaa.Pure
open Go.RowKit Go.Proofs.Ytflfbaofgfandaa.QFnExactSqueeze Go.Proofs.YtflfbaofgfandaaQ.PrintWords Go.Proofs.YtflfbaofgfandaaQ.PrintLast
def FnExactSqueeze.Pure : Prop := ∀ (l0_0 : List S40), (l0_0.length ≤ maxLen ∧ ∀ x ∈ l0_0, (((Lit.int .i64 x.f0.f0).wf = true ∧ (Lit.int .i64 x.f0.f1).wf = true) ∧ (Lit.int .i64 x.f1).wf = true)) → ∃ k, laws_FnExactSqueeze.f k l0_0 = some true
end Go.Proofs.Ytflfbaofgfandaa.Pure
