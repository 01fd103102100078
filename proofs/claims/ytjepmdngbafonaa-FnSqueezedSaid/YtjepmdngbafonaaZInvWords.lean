/- Words of the print of the kit that this claim's contracts use: those that are reached, no others. Chosen by a program of this session. -/
import Derived.Test.YtjepmdngbafonaaZInv
import Derived.Test.YtjepmdngbafonaaZFootNe
namespace Go.Proofs.YtjepmdngbafonaaZ.PrintWords
open Go.RowKit
end Go.Proofs.YtjepmdngbafonaaZ.PrintWords
namespace Go.Proofs.YtjepmdngbafonaaZ.PrintLast
section
variable {ops : Array Oper} {a : Act} {o og : Oper} {g : Nat} {t : Tmp} {u : Bool}
end
end Go.Proofs.YtjepmdngbafonaaZ.PrintLast

