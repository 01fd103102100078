/- Words of the print of the kit that this claim's contracts use: those that are reached, no others. Chosen by a program of this session. -/
import Derived.Test.YtjepmdngbafonaaRInv
import Derived.Test.YtjepmdngbafonaaRFootNe
namespace Go.Proofs.YtjepmdngbafonaaR.PrintWords
open Go.RowKit
end Go.Proofs.YtjepmdngbafonaaR.PrintWords
namespace Go.Proofs.YtjepmdngbafonaaR.PrintLast
section
variable {ops : Array Oper} {a : Act} {o og : Oper} {g : Nat} {t : Tmp} {u : Bool}
end
end Go.Proofs.YtjepmdngbafonaaR.PrintLast

