import Derived.Test.YtinmdckpljnpcaaPFnExactSiblingx2
/- The pure statement of the law: over numbers and lists alone. -/
namespace Go.Proofs.Ytinmdckpljnpcaa.Pure
open Go.RowKit Go.Proofs.Ytinmdckpljnpcaa.PFnExactSibling Go.Proofs.YtinmdckpljnpcaaW.PrintWords Go.Proofs.YtinmdckpljnpcaaW.PrintLast
def FnExactSibling.Pure : Prop := ∀ (a0_0 : Int) (a0_1 : Int), (Lit.int .i64 a0_0).wf = true → (Lit.int .i64 a0_1).wf = true → laws_FnExactSibling.f a0_0 a0_1 = some true
end Go.Proofs.Ytinmdckpljnpcaa.Pure
