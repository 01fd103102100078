/- Words of the print of the kit that this claim's contracts use: those that are reached, no others. Chosen by a program of this session. -/
import Derived.Test.YthmahcohcphljaaTInv
import Derived.Test.YthmahcohcphljaaTFootNe
namespace Go.Proofs.YthmahcohcphljaaT.PrintWords
open Go.RowKit
end Go.Proofs.YthmahcohcphljaaT.PrintWords
namespace Go.Proofs.YthmahcohcphljaaT.PrintLast
section
variable {ops : Array Oper} {a : Act} {o og : Oper} {g : Nat} {t : Tmp} {u : Bool}
end
end Go.Proofs.YthmahcohcphljaaT.PrintLast

