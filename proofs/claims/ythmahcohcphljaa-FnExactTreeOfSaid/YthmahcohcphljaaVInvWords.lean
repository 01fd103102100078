/- Words of the print of the kit that this claim's contracts use: those that are reached, no others. Chosen by a program of this session. -/
import Derived.Test.YthmahcohcphljaaVInv
import Derived.Test.YthmahcohcphljaaVFootNe
namespace Go.Proofs.YthmahcohcphljaaV.PrintWords
open Go.RowKit
end Go.Proofs.YthmahcohcphljaaV.PrintWords
namespace Go.Proofs.YthmahcohcphljaaV.PrintLast
section
variable {ops : Array Oper} {a : Act} {o og : Oper} {g : Nat} {t : Tmp} {u : Bool}
end
end Go.Proofs.YthmahcohcphljaaV.PrintLast

