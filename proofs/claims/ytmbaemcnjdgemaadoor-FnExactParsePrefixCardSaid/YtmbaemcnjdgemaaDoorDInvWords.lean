/- Words of the print of the kit that this claim's contracts use: those that are reached, no others. Chosen by a program of this session. -/
import Derived.Test.YtmbaemcnjdgemaaDoorDInv
import Derived.Test.YtmbaemcnjdgemaaDoorDFootNe
namespace Go.Proofs.YtmbaemcnjdgemaaDoorD.PrintWords
open Go.RowKit
end Go.Proofs.YtmbaemcnjdgemaaDoorD.PrintWords
namespace Go.Proofs.YtmbaemcnjdgemaaDoorD.PrintLast
section
variable {ops : Array Oper} {a : Act} {o og : Oper} {g : Nat} {t : Tmp} {u : Bool}
end
end Go.Proofs.YtmbaemcnjdgemaaDoorD.PrintLast

