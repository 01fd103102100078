/- Words of the print of the kit that this claim's contracts use: those that are reached, no others. Chosen by a program of this session. -/
import Derived.Test.YtmbaemcnjdgemaaDoorAInv
import Derived.Test.YtmbaemcnjdgemaaDoorAFootNe
namespace Go.Proofs.YtmbaemcnjdgemaaDoorA.PrintWords
open Go.RowKit
end Go.Proofs.YtmbaemcnjdgemaaDoorA.PrintWords
namespace Go.Proofs.YtmbaemcnjdgemaaDoorA.PrintLast
section
variable {ops : Array Oper} {a : Act} {o og : Oper} {g : Nat} {t : Tmp} {u : Bool}
end
end Go.Proofs.YtmbaemcnjdgemaaDoorA.PrintLast

