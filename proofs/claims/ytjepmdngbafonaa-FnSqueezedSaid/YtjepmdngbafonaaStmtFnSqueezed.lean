import Derived.Test.YtjepmdngbafonaaQFnSqueezedx27
/- The pure statement of the law: over numbers and lists alone. -/
namespace Go.Proofs.Ytjepmdngbafonaa.Pure
open Go.RowKit Go.Proofs.Ytjepmdngbafonaa.QFnSqueezed Go.Proofs.YtjepmdngbafonaaZ.PrintWords Go.Proofs.YtjepmdngbafonaaZ.PrintLast
def FnSqueezed.Pure : Prop := ∀ (l0 : List Int), (l0.length ≤ maxLen ∧ ∀ x ∈ l0, (Lit.int .u8 x).wf = true) → ∃ k, laws_FnSqueezed.f k l0 = some true
end Go.Proofs.Ytjepmdngbafonaa.Pure
