/- Words of the print of the kit that this claim's contracts use: those that are reached, no others. Chosen by a program of this session. -/
import Derived.Test.YtflfbaofgfandaaCInv
import Derived.Test.YtflfbaofgfandaaCFootNe
namespace Go.Proofs.YtflfbaofgfandaaC.PrintWords
open Go.RowKit
end Go.Proofs.YtflfbaofgfandaaC.PrintWords
namespace Go.Proofs.YtflfbaofgfandaaC.PrintLast
section
variable {ops : Array Oper} {a : Act} {o og : Oper} {g : Nat} {t : Tmp} {u : Bool}
end
end Go.Proofs.YtflfbaofgfandaaC.PrintLast

