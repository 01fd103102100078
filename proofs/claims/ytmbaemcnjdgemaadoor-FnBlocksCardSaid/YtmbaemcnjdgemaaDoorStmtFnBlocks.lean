import Derived.Test.YtmbaemcnjdgemaaDoorQFnBlocksx10
/- The pure statement of the law: over numbers and lists alone. -/
namespace Go.Proofs.YtmbaemcnjdgemaaDoor.Pure
open Go.RowKit Go.Proofs.YtmbaemcnjdgemaaDoor.QFnBlocks Go.Proofs.YtmbaemcnjdgemaaDoorF.PrintWords Go.Proofs.YtmbaemcnjdgemaaDoorF.PrintLast
def FnBlocks.Pure : Prop := ∀ (l0 : List Int), (l0.length ≤ maxLen ∧ ∀ x ∈ l0, (Lit.int .u8 x).wf = true) → ∃ k, laws_FnBlocks.f k l0 = some true
end Go.Proofs.YtmbaemcnjdgemaaDoor.Pure
