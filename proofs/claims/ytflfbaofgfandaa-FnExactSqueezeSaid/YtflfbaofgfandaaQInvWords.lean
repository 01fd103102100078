/- Words of the print of the kit that this claim's contracts use: those that are reached, no others. Chosen by a program of this session. -/
import Derived.Test.YtflfbaofgfandaaQInv
import Derived.Test.YtflfbaofgfandaaQFootNe
namespace Go.Proofs.YtflfbaofgfandaaQ.PrintWords
open Go.RowKit
end Go.Proofs.YtflfbaofgfandaaQ.PrintWords
namespace Go.Proofs.YtflfbaofgfandaaQ.PrintLast
section
variable {ops : Array Oper} {a : Act} {o og : Oper} {g : Nat} {t : Tmp} {u : Bool}
end
end Go.Proofs.YtflfbaofgfandaaQ.PrintLast

