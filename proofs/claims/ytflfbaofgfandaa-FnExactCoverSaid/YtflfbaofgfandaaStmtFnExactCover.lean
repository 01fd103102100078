import Derived.Test.YtflfbaofgfandaaQFnExactCoverx4
/- The pure statement of the law: over numbers and lists alone. -/
namespace Go.Proofs.Ytflfbaofgfandaa.Pure
open Go.RowKit Go.Proofs.Ytflfbaofgfandaa.QFnExactCover Go.Proofs.YtflfbaofgfandaaC.PrintWords Go.Proofs.YtflfbaofgfandaaC.PrintLast
def FnExactCover.Pure : Prop := ∀ (a0 : Int) (a1 : Int), (Lit.int .i64 a0).wf = true → (Lit.int .i64 a1).wf = true → ∃ k, laws_FnExactCover.f k a0 a1 = some true
end Go.Proofs.Ytflfbaofgfandaa.Pure
