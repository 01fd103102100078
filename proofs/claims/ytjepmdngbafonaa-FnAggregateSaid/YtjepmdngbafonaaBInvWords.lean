/- Words of the print of the kit that this claim's contracts use: those that are reached, no others. Chosen by a program of this session. -/
import Derived.Test.YtjepmdngbafonaaBInv
import Derived.Test.YtjepmdngbafonaaBFootNe
namespace Go.Proofs.YtjepmdngbafonaaB.PrintWords
open Go.RowKit
end Go.Proofs.YtjepmdngbafonaaB.PrintWords
namespace Go.Proofs.YtjepmdngbafonaaB.PrintLast
section
variable {ops : Array Oper} {a : Act} {o og : Oper} {g : Nat} {t : Tmp} {u : Bool}
end
end Go.Proofs.YtjepmdngbafonaaB.PrintLast

