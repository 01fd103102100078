/- Words of the print of the kit that this claim's contracts use: those that are reached, no others. Chosen by a program of this session. -/
import Derived.Test.YtjepmdngbafonaaAInv
import Derived.Test.YtjepmdngbafonaaAFootNe
namespace Go.Proofs.YtjepmdngbafonaaA.PrintWords
open Go.RowKit
end Go.Proofs.YtjepmdngbafonaaA.PrintWords
namespace Go.Proofs.YtjepmdngbafonaaA.PrintLast
section
variable {ops : Array Oper} {a : Act} {o og : Oper} {g : Nat} {t : Tmp} {u : Bool}
end
end Go.Proofs.YtjepmdngbafonaaA.PrintLast

