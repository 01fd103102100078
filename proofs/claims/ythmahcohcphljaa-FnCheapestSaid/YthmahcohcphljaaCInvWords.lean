/- Words of the print of the kit that this claim's contracts use: those that are reached, no others. Chosen by a program of this session. -/
import Derived.Test.YthmahcohcphljaaCInv
import Derived.Test.YthmahcohcphljaaCFootNe
namespace Go.Proofs.YthmahcohcphljaaC.PrintWords
open Go.RowKit
end Go.Proofs.YthmahcohcphljaaC.PrintWords
namespace Go.Proofs.YthmahcohcphljaaC.PrintLast
section
variable {ops : Array Oper} {a : Act} {o og : Oper} {g : Nat} {t : Tmp} {u : Bool}
end
end Go.Proofs.YthmahcohcphljaaC.PrintLast

