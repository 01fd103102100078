import Derived.Test.YtiikcfaodkiakaaQFnExactDbSumx15
/- The pure statement of the law: over numbers and lists alone. -/
namespace Go.Proofs.Ytiikcfaodkiakaa.Pure
open Go.RowKit Go.Proofs.Ytiikcfaodkiakaa.QFnExactDbSum Go.Proofs.YtiikcfaodkiakaaV.PrintWords Go.Proofs.YtiikcfaodkiakaaV.PrintLast
def FnExactDbSum.Pure : Prop := ∀ (l0_0 : List S25), (l0_0.length ≤ maxLen ∧ ∀ x ∈ l0_0, ((Lit.int .i64 x.f0).wf = true ∧ (Lit.int .i64 x.f1).wf = true ∧ (Lit.int .i64 x.f2).wf = true ∧ (x.f3.length ≤ maxLen ∧ ∀ y ∈ x.f3, ((Lit.int .i64 y.f0).wf = true ∧ (Lit.int .i64 y.f1).wf = true)) ∧ (x.f4.length ≤ maxLen ∧ ∀ y ∈ x.f4, (((Lit.int .i64 y.f0.f0).wf = true ∧ (Lit.int .i64 y.f0.f1).wf = true) ∧ (Lit.int .i64 y.f1).wf = true)))) → ∃ k, laws_FnExactDbSum.f k l0_0 = some true
end Go.Proofs.Ytiikcfaodkiakaa.Pure
