/- Words of the print of the kit that this claim's contracts use: those that are reached, no others. Chosen by a program of this session. -/
import Derived.Test.YteopiggdpadolaaUInv
import Derived.Test.YteopiggdpadolaaUFootNe
namespace Go.Proofs.YteopiggdpadolaaU.PrintWords
open Go.RowKit
end Go.Proofs.YteopiggdpadolaaU.PrintWords
namespace Go.Proofs.YteopiggdpadolaaU.PrintLast
section
variable {ops : Array Oper} {a : Act} {o og : Oper} {g : Nat} {t : Tmp} {u : Bool}
end
end Go.Proofs.YteopiggdpadolaaU.PrintLast

