/- Words of the print of the kit that this claim's contracts use: those that are reached, no others. Chosen by a program of this session. -/
import Derived.Test.YteopiggdpadolaaVInv
import Derived.Test.YteopiggdpadolaaVFootNe
namespace Go.Proofs.YteopiggdpadolaaV.PrintWords
open Go.RowKit
end Go.Proofs.YteopiggdpadolaaV.PrintWords
namespace Go.Proofs.YteopiggdpadolaaV.PrintLast
section
variable {ops : Array Oper} {a : Act} {o og : Oper} {g : Nat} {t : Tmp} {u : Bool}
end
end Go.Proofs.YteopiggdpadolaaV.PrintLast

