/- Words of the print of the kit that this claim's contracts use: those that are reached, no others. Chosen by a program of this session. -/
import Derived.Test.YtmbaemcnjdgemaaDoorFInv
import Derived.Test.YtmbaemcnjdgemaaDoorFFootNe
namespace Go.Proofs.YtmbaemcnjdgemaaDoorF.PrintWords
open Go.RowKit
end Go.Proofs.YtmbaemcnjdgemaaDoorF.PrintWords
namespace Go.Proofs.YtmbaemcnjdgemaaDoorF.PrintLast
section
variable {ops : Array Oper} {a : Act} {o og : Oper} {g : Nat} {t : Tmp} {u : Bool}
end
end Go.Proofs.YtmbaemcnjdgemaaDoorF.PrintLast

