/- Words of the print of the kit that this claim's contracts use: those that are reached, no others. Chosen by a program of this session. -/
import Derived.Test.YthmahcohcphljaaPInv
import Derived.Test.YthmahcohcphljaaPFootNe
namespace Go.Proofs.YthmahcohcphljaaP.PrintWords
open Go.RowKit
end Go.Proofs.YthmahcohcphljaaP.PrintWords
namespace Go.Proofs.YthmahcohcphljaaP.PrintLast
section
variable {ops : Array Oper} {a : Act} {o og : Oper} {g : Nat} {t : Tmp} {u : Bool}
end
end Go.Proofs.YthmahcohcphljaaP.PrintLast

