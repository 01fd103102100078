/- Words of the print of the kit that this claim's contracts use: those that are reached, no others. Chosen by a program of this session. -/
import Derived.Test.YtjepabdgmholjaaUInv
import Derived.Test.YtjepabdgmholjaaUFootNe
namespace Go.Proofs.YtjepabdgmholjaaU.PrintWords
open Go.RowKit
end Go.Proofs.YtjepabdgmholjaaU.PrintWords
namespace Go.Proofs.YtjepabdgmholjaaU.PrintLast
section
variable {ops : Array Oper} {a : Act} {o og : Oper} {g : Nat} {t : Tmp} {u : Bool}
end
end Go.Proofs.YtjepabdgmholjaaU.PrintLast

