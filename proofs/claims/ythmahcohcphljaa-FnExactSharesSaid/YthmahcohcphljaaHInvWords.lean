/- Words of the print of the kit that this claim's contracts use: those that are reached, no others. Chosen by a program of this session. -/
import Derived.Test.YthmahcohcphljaaHInv
import Derived.Test.YthmahcohcphljaaHFootNe
namespace Go.Proofs.YthmahcohcphljaaH.PrintWords
open Go.RowKit
end Go.Proofs.YthmahcohcphljaaH.PrintWords
namespace Go.Proofs.YthmahcohcphljaaH.PrintLast
section
variable {ops : Array Oper} {a : Act} {o og : Oper} {g : Nat} {t : Tmp} {u : Bool}
end
end Go.Proofs.YthmahcohcphljaaH.PrintLast

