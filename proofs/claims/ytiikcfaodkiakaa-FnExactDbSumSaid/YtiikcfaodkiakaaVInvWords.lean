/- Words of the print of the kit that this claim's contracts use: those that are reached, no others. Chosen by a program of this session. -/
import Derived.Test.YtiikcfaodkiakaaVInv
import Derived.Test.YtiikcfaodkiakaaVFootNe
namespace Go.Proofs.YtiikcfaodkiakaaV.PrintWords
open Go.RowKit
end Go.Proofs.YtiikcfaodkiakaaV.PrintWords
namespace Go.Proofs.YtiikcfaodkiakaaV.PrintLast
section
variable {ops : Array Oper} {a : Act} {o og : Oper} {g : Nat} {t : Tmp} {u : Bool}
end
end Go.Proofs.YtiikcfaodkiakaaV.PrintLast

