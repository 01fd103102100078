/- Words of the print of the kit that this claim's contracts use: those that are reached, no others. Chosen by a program of this session. -/
import Derived.Test.YtmbaemcnjdgemaaDoorCInv
import Derived.Test.YtmbaemcnjdgemaaDoorCFootNe
namespace Go.Proofs.YtmbaemcnjdgemaaDoorC.PrintWords
open Go.RowKit
end Go.Proofs.YtmbaemcnjdgemaaDoorC.PrintWords
namespace Go.Proofs.YtmbaemcnjdgemaaDoorC.PrintLast
section
variable {ops : Array Oper} {a : Act} {o og : Oper} {g : Nat} {t : Tmp} {u : Bool}
end
end Go.Proofs.YtmbaemcnjdgemaaDoorC.PrintLast

