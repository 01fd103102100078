/- Words of the print of the kit that this claim's contracts use: those that are reached, no others. Chosen by a program of this session. -/
import Derived.Test.YtiikcfaodkiakaaUInv
import Derived.Test.YtiikcfaodkiakaaUFootNe
namespace Go.Proofs.YtiikcfaodkiakaaU.PrintWords
open Go.RowKit
end Go.Proofs.YtiikcfaodkiakaaU.PrintWords
namespace Go.Proofs.YtiikcfaodkiakaaU.PrintLast
section
variable {ops : Array Oper} {a : Act} {o og : Oper} {g : Nat} {t : Tmp} {u : Bool}
end
end Go.Proofs.YtiikcfaodkiakaaU.PrintLast

