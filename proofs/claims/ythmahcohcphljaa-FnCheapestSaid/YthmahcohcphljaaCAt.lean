/- Words of the print of the kit that this claim's contracts use: those that are reached, no others. Chosen by a program of this session. -/
import Derived.Test.YthmahcohcphljaaCFootNe
namespace Go.Proofs.YthmahcohcphljaaC.PrintWords
open Go.RowKit
section
variable {w w' u : World} {m B g : Nat} {o : Obj} {row : Option Nat} {S : Nat → Prop} {a : Addr} {v : Value}
end
namespace Kd
section
variable {α : Type} {d : Kd α} {e base n m : Nat} {ok : Nat → Prop} {w w' : World} {v : Value} {A : Option Addr} {xs : List α}
end
end Kd
end Go.Proofs.YthmahcohcphljaaC.PrintWords

