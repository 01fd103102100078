import Derived.Test.YtmbaemcnjdgemaaDoorQFnExactPrefixTextx3
/- The pure statement of the law: over numbers and lists alone. -/
namespace Go.Proofs.YtmbaemcnjdgemaaDoor.Pure
open Go.RowKit Go.Proofs.YtmbaemcnjdgemaaDoor.QFnExactPrefixText Go.Proofs.YtmbaemcnjdgemaaDoorA.PrintWords Go.Proofs.YtmbaemcnjdgemaaDoorA.PrintLast
def FnExactPrefixText.Pure : Prop := ∀ (a0_0 : Int) (a0_1 : Int), (Lit.int .i64 a0_0).wf = true → (Lit.int .i64 a0_1).wf = true → ∃ k, laws_FnExactPrefixText.f k a0_0 a0_1 = some true
end Go.Proofs.YtmbaemcnjdgemaaDoor.Pure
