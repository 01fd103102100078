/- Words of the print of the kit that this claim's contracts use: those that are reached, no others. Chosen by a program of this session. -/
import Derived.Test.YteopiggdpadolaaXInv
import Derived.Test.YteopiggdpadolaaXFootNe
namespace Go.Proofs.YteopiggdpadolaaX.PrintWords
open Go.RowKit
end Go.Proofs.YteopiggdpadolaaX.PrintWords
namespace Go.Proofs.YteopiggdpadolaaX.PrintLast
section
variable {ops : Array Oper} {a : Act} {o og : Oper} {g : Nat} {t : Tmp} {u : Bool}
end
end Go.Proofs.YteopiggdpadolaaX.PrintLast

