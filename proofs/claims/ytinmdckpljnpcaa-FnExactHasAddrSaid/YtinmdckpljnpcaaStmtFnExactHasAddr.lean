import Derived.Test.YtinmdckpljnpcaaPFnExactHasAddrx2
/- The pure statement of the law: over numbers and lists alone. -/
namespace Go.Proofs.Ytinmdckpljnpcaa.Pure
open Go.RowKit Go.Proofs.Ytinmdckpljnpcaa.PFnExactHasAddr Go.Proofs.YtinmdckpljnpcaaW.PrintWords Go.Proofs.YtinmdckpljnpcaaW.PrintLast
def FnExactHasAddr.Pure : Prop := ∀ (a0_0 : Int) (a0_1 : Int) (a1 : Int), (Lit.int .i64 a0_0).wf = true → (Lit.int .i64 a0_1).wf = true → (Lit.int .i64 a1).wf = true → laws_FnExactHasAddr.f a0_0 a0_1 a1 = some true
end Go.Proofs.Ytinmdckpljnpcaa.Pure
