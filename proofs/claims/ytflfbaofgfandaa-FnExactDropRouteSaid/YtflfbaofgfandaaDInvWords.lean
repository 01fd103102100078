/- Words of the print of the kit that this claim's contracts use: those that are reached, no others. Chosen by a program of this session. -/
import Derived.Test.YtflfbaofgfandaaDInv
import Derived.Test.YtflfbaofgfandaaDFootNe
namespace Go.Proofs.YtflfbaofgfandaaD.PrintWords
open Go.RowKit
end Go.Proofs.YtflfbaofgfandaaD.PrintWords
namespace Go.Proofs.YtflfbaofgfandaaD.PrintLast
section
variable {ops : Array Oper} {a : Act} {o og : Oper} {g : Nat} {t : Tmp} {u : Bool}
end
end Go.Proofs.YtflfbaofgfandaaD.PrintLast

