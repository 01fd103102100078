import Derived.Test.YtjepabdgmholjaaPFnExactFindHopx7
/- The pure statement of the law: over numbers and lists alone. -/
namespace Go.Proofs.Ytjepabdgmholjaa.Pure
open Go.RowKit Go.Proofs.Ytjepabdgmholjaa.PFnExactFindHop Go.Proofs.YtjepabdgmholjaaW.PrintWords Go.Proofs.YtjepabdgmholjaaW.PrintLast
def FnExactFindHop.Pure : Prop := ∀ (l0_0 : List S46) (a1 : Int), (l0_0.length ≤ maxLen ∧ ∀ x ∈ l0_0, (((Lit.int .i64 x.f0.f0).wf = true ∧ (Lit.int .i64 x.f0.f1).wf = true) ∧ (Lit.int .i64 x.f1).wf = true)) → (Lit.int .i64 a1).wf = true → ∃ k, laws_FnExactFindHop.f k l0_0 a1 = some true
end Go.Proofs.Ytjepabdgmholjaa.Pure
