import Derived.Test.YtflfbaofgfandaaQFnExactPutRoutex13
/- The pure statement of the law: over numbers and lists alone. -/
namespace Go.Proofs.Ytflfbaofgfandaa.Pure
open Go.RowKit Go.Proofs.Ytflfbaofgfandaa.QFnExactPutRoute Go.Proofs.YtflfbaofgfandaaP.PrintWords Go.Proofs.YtflfbaofgfandaaP.PrintLast
def FnExactPutRoute.Pure : Prop := ∀ (l0_0 : List S40) (a1_0 : Int) (a1_1 : Int) (a1_2 : Int), (l0_0.length ≤ maxLen ∧ ∀ x ∈ l0_0, (((Lit.int .i64 x.f0.f0).wf = true ∧ (Lit.int .i64 x.f0.f1).wf = true) ∧ (Lit.int .i64 x.f1).wf = true)) → (Lit.int .i64 a1_0).wf = true → (Lit.int .i64 a1_1).wf = true → (Lit.int .i64 a1_2).wf = true → ∃ k, laws_FnExactPutRoute.f k l0_0 a1_0 a1_1 a1_2 = some true
end Go.Proofs.Ytflfbaofgfandaa.Pure
