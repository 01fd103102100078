import Derived.Test.YtinmdckpljnpcaaPFnExactCoversPrefixx3
/- The pure statement of the law: over numbers and lists alone. -/
namespace Go.Proofs.Ytinmdckpljnpcaa.Pure
open Go.RowKit Go.Proofs.Ytinmdckpljnpcaa.PFnExactCoversPrefix Go.Proofs.YtinmdckpljnpcaaW.PrintWords Go.Proofs.YtinmdckpljnpcaaW.PrintLast
def FnExactCoversPrefix.Pure : Prop := ∀ (a0_0 : Int) (a0_1 : Int) (a1_0 : Int) (a1_1 : Int), (Lit.int .i64 a0_0).wf = true → (Lit.int .i64 a0_1).wf = true → (Lit.int .i64 a1_0).wf = true → (Lit.int .i64 a1_1).wf = true → laws_FnExactCoversPrefix.f a0_0 a0_1 a1_0 a1_1 = some true
end Go.Proofs.Ytinmdckpljnpcaa.Pure
