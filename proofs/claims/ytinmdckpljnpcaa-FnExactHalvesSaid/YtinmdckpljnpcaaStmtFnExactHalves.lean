import Derived.Test.YtinmdckpljnpcaaPFnExactHalvesx3
/- The pure statement of the law: over numbers and lists alone. -/
namespace Go.Proofs.Ytinmdckpljnpcaa.Pure
open Go.RowKit Go.Proofs.Ytinmdckpljnpcaa.PFnExactHalves Go.Proofs.YtinmdckpljnpcaaW.PrintWords Go.Proofs.YtinmdckpljnpcaaW.PrintLast
def FnExactHalves.Pure : Prop := ∀ (a0_0 : Int) (a0_1 : Int), (Lit.int .i64 a0_0).wf = true → (Lit.int .i64 a0_1).wf = true → laws_FnExactHalves.f a0_0 a0_1 = some true
end Go.Proofs.Ytinmdckpljnpcaa.Pure
