/- Words of the print of the kit that this claim's contracts use: those that are reached, no others. Chosen by a program of this session. -/
import Derived.Test.YteopiggdpadolaaYInv
import Derived.Test.YteopiggdpadolaaYFootNe
namespace Go.Proofs.YteopiggdpadolaaY.PrintWords
open Go.RowKit
end Go.Proofs.YteopiggdpadolaaY.PrintWords
namespace Go.Proofs.YteopiggdpadolaaY.PrintLast
section
variable {ops : Array Oper} {a : Act} {o og : Oper} {g : Nat} {t : Tmp} {u : Bool}
end
end Go.Proofs.YteopiggdpadolaaY.PrintLast

