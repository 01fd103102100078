/- Words of the print of the kit that this claim's contracts use: those that are reached, no others. Chosen by a program of this session. -/
import Derived.Test.YtiikcfaodkiakaaYInv
import Derived.Test.YtiikcfaodkiakaaYFootNe
namespace Go.Proofs.YtiikcfaodkiakaaY.PrintWords
open Go.RowKit
end Go.Proofs.YtiikcfaodkiakaaY.PrintWords
namespace Go.Proofs.YtiikcfaodkiakaaY.PrintLast
section
variable {ops : Array Oper} {a : Act} {o og : Oper} {g : Nat} {t : Tmp} {u : Bool}
end
end Go.Proofs.YtiikcfaodkiakaaY.PrintLast

