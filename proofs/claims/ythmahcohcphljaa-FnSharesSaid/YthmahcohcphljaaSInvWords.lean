/- Words of the print of the kit that this claim's contracts use: those that are reached, no others. Chosen by a program of this session. -/
import Derived.Test.YthmahcohcphljaaSInv
import Derived.Test.YthmahcohcphljaaSFootNe
namespace Go.Proofs.YthmahcohcphljaaS.PrintWords
open Go.RowKit
end Go.Proofs.YthmahcohcphljaaS.PrintWords
namespace Go.Proofs.YthmahcohcphljaaS.PrintLast
section
variable {ops : Array Oper} {a : Act} {o og : Oper} {g : Nat} {t : Tmp} {u : Bool}
end
end Go.Proofs.YthmahcohcphljaaS.PrintLast

