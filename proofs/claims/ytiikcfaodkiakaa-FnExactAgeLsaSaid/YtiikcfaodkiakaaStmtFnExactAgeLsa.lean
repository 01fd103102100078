import Derived.Test.YtiikcfaodkiakaaQFnExactAgeLsax12
/- The pure statement of the law: over numbers and lists alone. -/
namespace Go.Proofs.Ytiikcfaodkiakaa.Pure
open Go.RowKit Go.Proofs.Ytiikcfaodkiakaa.QFnExactAgeLsa Go.Proofs.YtiikcfaodkiakaaU.PrintWords Go.Proofs.YtiikcfaodkiakaaU.PrintLast
def FnExactAgeLsa.Pure : Prop := ∀ (a0_0 : Int) (a0_1 : Int) (a0_2 : Int) (l0_3 : List S85) (l0_4 : List S89) (a1 : Int), (Lit.int .i64 a0_0).wf = true → (Lit.int .i64 a0_1).wf = true → (Lit.int .i64 a0_2).wf = true → (l0_3.length ≤ maxLen ∧ ∀ x ∈ l0_3, ((Lit.int .i64 x.f0).wf = true ∧ (Lit.int .i64 x.f1).wf = true)) → (l0_4.length ≤ maxLen ∧ ∀ x ∈ l0_4, (((Lit.int .i64 x.f0.f0).wf = true ∧ (Lit.int .i64 x.f0.f1).wf = true) ∧ (Lit.int .i64 x.f1).wf = true)) → (Lit.int .i64 a1).wf = true → ∃ k, laws_FnExactAgeLsa.f k a0_0 a0_1 a0_2 l0_3 l0_4 a1 = some true
end Go.Proofs.Ytiikcfaodkiakaa.Pure
