/- Words of the print of the kit that this claim's contracts use: those that are reached, no others. Chosen by a program of this session. -/
import Derived.Test.YthmahcohcphljaaUInv
import Derived.Test.YthmahcohcphljaaUFootNe
namespace Go.Proofs.YthmahcohcphljaaU.PrintWords
open Go.RowKit
end Go.Proofs.YthmahcohcphljaaU.PrintWords
namespace Go.Proofs.YthmahcohcphljaaU.PrintLast
section
variable {ops : Array Oper} {a : Act} {o og : Oper} {g : Nat} {t : Tmp} {u : Bool}
end
end Go.Proofs.YthmahcohcphljaaU.PrintLast

