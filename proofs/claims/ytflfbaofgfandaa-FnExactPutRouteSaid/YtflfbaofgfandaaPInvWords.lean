/- Words of the print of the kit that this claim's contracts use: those that are reached, no others. Chosen by a program of this session. -/
import Derived.Test.YtflfbaofgfandaaPInv
import Derived.Test.YtflfbaofgfandaaPFootNe
namespace Go.Proofs.YtflfbaofgfandaaP.PrintWords
open Go.RowKit
end Go.Proofs.YtflfbaofgfandaaP.PrintWords
namespace Go.Proofs.YtflfbaofgfandaaP.PrintLast
section
variable {ops : Array Oper} {a : Act} {o og : Oper} {g : Nat} {t : Tmp} {u : Bool}
end
end Go.Proofs.YtflfbaofgfandaaP.PrintLast

