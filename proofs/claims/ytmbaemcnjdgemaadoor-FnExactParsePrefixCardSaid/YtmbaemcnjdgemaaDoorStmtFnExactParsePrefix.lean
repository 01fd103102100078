import Derived.Test.YtmbaemcnjdgemaaDoorQFnExactParsePrefixx6
/- The pure statement of the law: over numbers and lists alone. -/
namespace Go.Proofs.YtmbaemcnjdgemaaDoor.Pure
open Go.RowKit Go.Proofs.YtmbaemcnjdgemaaDoor.QFnExactParsePrefix Go.Proofs.YtmbaemcnjdgemaaDoorD.PrintWords Go.Proofs.YtmbaemcnjdgemaaDoorD.PrintLast
def FnExactParsePrefix.Pure : Prop := ∀ (a0 : ByteArray), a0.size ≤ 140737488351232 → ∃ k, laws_FnExactParsePrefix.f k a0 = some true
end Go.Proofs.YtmbaemcnjdgemaaDoor.Pure
