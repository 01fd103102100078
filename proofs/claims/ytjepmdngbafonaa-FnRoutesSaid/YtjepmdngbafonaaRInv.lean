/- Words of the print of the kit that this claim's contracts use: those that are reached, no others. Chosen by a program of this session. -/
import Derived.Test.YtjepmdngbafonaaRTab
namespace Go.Proofs.YtjepmdngbafonaaR.PrintLast
def up (b : Nat → Bool) (i : Nat) : Nat → Bool := fun j => if j = i then true else b j
section
variable {P : Program} {ops : Array Oper} {Q : Exit → Act → World → Prop} {md : Region.Mode} {T : Bool × List (List Nat × List Nat)} {B : List Nat} {O : List Nat} {b : Nat → Bool} {i j n : Nat}
end
end Go.Proofs.YtjepmdngbafonaaR.PrintLast

