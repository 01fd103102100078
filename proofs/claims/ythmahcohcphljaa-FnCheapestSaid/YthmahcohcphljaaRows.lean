/-
  No cell of these rows narrows 'for every input' (looked for: loops, veiled, ifaces, maps, wideKeys, modest, calm, conditions, laid).
  DERIVED. THE GIVEN ROWS OF THIS SEAT. 7 by the template 'for every input the law returns true; each argument reads behind the call as it read before'; 0 by the template 'total and deterministic' (their statements: YthmahcohcphljaaTotals.lean).
  GIVEN WITH THE SEED: the statements are not yours to turn. If you find one false, say at which input.
  Laid BY PROGRAM, IN A SANDBOX (cutbox-rows.mjs): the forced cells as the released guide's own fill.sh prints them over the translation 37129069a2045de7… (all of the seat's roots in one cut). By AI agents, Wed Nov 11 2026. No macro, syntax, notation, axiom, sorry.
-/
import Derived.Test.YthmahcohcphljaaChecked
import GoSem.Claim
import GoSem.ClaimJoined
import GoSem.ClaimMapViews
import Derived.JoinedTies
import Derived.KernelRfl
namespace Go.Proofs.Ythmahcohcphljaa
/- THE CELL 'sum', in the pinned program and in every row, IS THE sha256 OF THE DUMP (.gsa) THAT YthmahcohcphljaaProg.lean LOADS. Nothing in Lean hashes anything: it is a label: what it is worth is what the hold of that sum in a sandbox is worth. -/
noncomputable def Try.pinned : Pinned := { name := "ythmahcohcphljaa", sum := "37129069a2045de771535b72ac2536d46ddc357dc758aebb83ae66fa35eea639", checked := Try.checked }
namespace Rows
def none {H : Type} : Left H := { results := [], args := [] }

/-- 'laws.FnExactTreeOf': WHATEVER THE INPUT: true; the input reads as it did. -/
def fnExactTreeOfSpec : ChangeSpec := { name := "fnExactTreeOf", fn := fun _ => fun
  | [d1, d2] => { results := [.lit (.bool true)], args := [d1, d2] }
  | _ => none }
def fnExactTreeOfRow : OpenClaim := { program := "ythmahcohcphljaa", sum := "37129069a2045de771535b72ac2536d46ddc357dc758aebb83ae66fa35eea639", func := "loop.example/g00681/laws.FnExactTreeOf", spec := "fnExactTreeOf", apart := false }
def FnExactTreeOfSaid : Prop := fnExactTreeOfRow.holds Try.pinned (OpenSpec.ofChange fnExactTreeOfSpec)

/-- ITS FALSE NEIGHBOUR: 'it returns false'. Refute it at one input. -/
def fnExactTreeOfWrong : ChangeSpec := { name := "fnExactTreeOf", fn := fun _ => fun
  | [d1, d2] => { results := [.lit (.bool false)], args := [d1, d2] }
  | _ => none }
def FnExactTreeOfWrongFalsely : Prop := fnExactTreeOfRow.holds Try.pinned (OpenSpec.ofChange fnExactTreeOfWrong)

/-- 'laws.FnExactShares': WHATEVER THE INPUT: true; the input reads as it did. -/
def fnExactSharesSpec : ChangeSpec := { name := "fnExactShares", fn := fun _ => fun
  | [d1, d2, d3, d4] => { results := [.lit (.bool true)], args := [d1, d2, d3, d4] }
  | _ => none }
def fnExactSharesRow : OpenClaim := { program := "ythmahcohcphljaa", sum := "37129069a2045de771535b72ac2536d46ddc357dc758aebb83ae66fa35eea639", func := "loop.example/g00681/laws.FnExactShares", spec := "fnExactShares", unfollowed := true, recurses := true, apart := false }
def FnExactSharesSaid : Prop := fnExactSharesRow.holds Try.pinned (OpenSpec.ofChange fnExactSharesSpec)

/-- ITS FALSE NEIGHBOUR: 'it returns false'. Refute it at one input. -/
def fnExactSharesWrong : ChangeSpec := { name := "fnExactShares", fn := fun _ => fun
  | [d1, d2, d3, d4] => { results := [.lit (.bool false)], args := [d1, d2, d3, d4] }
  | _ => none }
def FnExactSharesWrongFalsely : Prop := fnExactSharesRow.holds Try.pinned (OpenSpec.ofChange fnExactSharesWrong)

/-- 'laws.FnExactChanged': WHATEVER THE INPUT: true; the input reads as it did. -/
def fnExactChangedSpec : ChangeSpec := { name := "fnExactChanged", fn := fun _ => fun
  | [d1, d2, d3] => { results := [.lit (.bool true)], args := [d1, d2, d3] }
  | _ => none }
def fnExactChangedRow : OpenClaim := { program := "ythmahcohcphljaa", sum := "37129069a2045de771535b72ac2536d46ddc357dc758aebb83ae66fa35eea639", func := "loop.example/g00681/laws.FnExactChanged", spec := "fnExactChanged", apart := false }
def FnExactChangedSaid : Prop := fnExactChangedRow.holds Try.pinned (OpenSpec.ofChange fnExactChangedSpec)

/-- ITS FALSE NEIGHBOUR: 'it returns false'. Refute it at one input. -/
def fnExactChangedWrong : ChangeSpec := { name := "fnExactChanged", fn := fun _ => fun
  | [d1, d2, d3] => { results := [.lit (.bool false)], args := [d1, d2, d3] }
  | _ => none }
def FnExactChangedWrongFalsely : Prop := fnExactChangedRow.holds Try.pinned (OpenSpec.ofChange fnExactChangedWrong)

/-- 'laws.FnTriangle': WHATEVER THE INPUT: true; the input reads as it did. -/
def fnTriangleSpec : ChangeSpec := { name := "fnTriangle", fn := fun _ => fun
  | [d] => { results := [.lit (.bool true)], args := [d] }
  | _ => none }
def fnTriangleRow : OpenClaim := { program := "ythmahcohcphljaa", sum := "37129069a2045de771535b72ac2536d46ddc357dc758aebb83ae66fa35eea639", func := "loop.example/g00681/laws.FnTriangle", spec := "fnTriangle", apart := false }
def FnTriangleSaid : Prop := fnTriangleRow.holds Try.pinned (OpenSpec.ofChange fnTriangleSpec)

/-- ITS FALSE NEIGHBOUR: 'it returns false'. Refute it at one input. -/
def fnTriangleWrong : ChangeSpec := { name := "fnTriangle", fn := fun _ => fun
  | [d] => { results := [.lit (.bool false)], args := [d] }
  | _ => none }
def FnTriangleWrongFalsely : Prop := fnTriangleRow.holds Try.pinned (OpenSpec.ofChange fnTriangleWrong)

/-- 'laws.FnHops': WHATEVER THE INPUT: true; the input reads as it did. -/
def fnHopsSpec : ChangeSpec := { name := "fnHops", fn := fun _ => fun
  | [d] => { results := [.lit (.bool true)], args := [d] }
  | _ => none }
def fnHopsRow : OpenClaim := { program := "ythmahcohcphljaa", sum := "37129069a2045de771535b72ac2536d46ddc357dc758aebb83ae66fa35eea639", func := "loop.example/g00681/laws.FnHops", spec := "fnHops", apart := false }
def FnHopsSaid : Prop := fnHopsRow.holds Try.pinned (OpenSpec.ofChange fnHopsSpec)

/-- ITS FALSE NEIGHBOUR: 'it returns false'. Refute it at one input. -/
def fnHopsWrong : ChangeSpec := { name := "fnHops", fn := fun _ => fun
  | [d] => { results := [.lit (.bool false)], args := [d] }
  | _ => none }
def FnHopsWrongFalsely : Prop := fnHopsRow.holds Try.pinned (OpenSpec.ofChange fnHopsWrong)

/-- 'laws.FnShares': WHATEVER THE INPUT: true; the input reads as it did. -/
def fnSharesSpec : ChangeSpec := { name := "fnShares", fn := fun _ => fun
  | [d] => { results := [.lit (.bool true)], args := [d] }
  | _ => none }
def fnSharesRow : OpenClaim := { program := "ythmahcohcphljaa", sum := "37129069a2045de771535b72ac2536d46ddc357dc758aebb83ae66fa35eea639", func := "loop.example/g00681/laws.FnShares", spec := "fnShares", unfollowed := true, recurses := true, apart := false }
def FnSharesSaid : Prop := fnSharesRow.holds Try.pinned (OpenSpec.ofChange fnSharesSpec)

/-- ITS FALSE NEIGHBOUR: 'it returns false'. Refute it at one input. -/
def fnSharesWrong : ChangeSpec := { name := "fnShares", fn := fun _ => fun
  | [d] => { results := [.lit (.bool false)], args := [d] }
  | _ => none }
def FnSharesWrongFalsely : Prop := fnSharesRow.holds Try.pinned (OpenSpec.ofChange fnSharesWrong)

/-- 'laws.FnCheapest': WHATEVER THE INPUT: true; the input reads as it did. -/
def fnCheapestSpec : ChangeSpec := { name := "fnCheapest", fn := fun _ => fun
  | [d] => { results := [.lit (.bool true)], args := [d] }
  | _ => none }
def fnCheapestRow : OpenClaim := { program := "ythmahcohcphljaa", sum := "37129069a2045de771535b72ac2536d46ddc357dc758aebb83ae66fa35eea639", func := "loop.example/g00681/laws.FnCheapest", spec := "fnCheapest", unfollowed := true, recurses := true, apart := false }
def FnCheapestSaid : Prop := fnCheapestRow.holds Try.pinned (OpenSpec.ofChange fnCheapestSpec)

/-- ITS FALSE NEIGHBOUR: 'it returns false'. Refute it at one input. -/
def fnCheapestWrong : ChangeSpec := { name := "fnCheapest", fn := fun _ => fun
  | [d] => { results := [.lit (.bool false)], args := [d] }
  | _ => none }
def FnCheapestWrongFalsely : Prop := fnCheapestRow.holds Try.pinned (OpenSpec.ofChange fnCheapestWrong)

/- THE SECOND FORM. 'bulk': how many values and letters a reading holds, each counted each time it is reached (what is shared counts as often as it is met; a slice's spare places count too). A statement '..UptoSaid' is the law's where the arguments, and the package variables that the reading takes, are together of bulk at most 1048576: NARROWER than '..Said'. Prove '..Said' where nothing that the law and all that it calls make is longer than what came in: it says more and counts as full. Else prove '..UptoSaid'. A law counts once. -/
mutual
def uptoBulk {H : Type} : DataW H → Nat
  | .lit (.string bytes) => bytes.length + 1
  | .lit _ => 1
  | .nil => 1
  | .ptr d => uptoBulk d + 1
  | .slice elems spare => uptoBulkAll elems + uptoBulkAll spare + 1
  | .agg parts => uptoBulkAll parts + 1
  | .iface _ d => uptoBulk d + 1
  | .map entries => uptoBulkEntries entries + 1
  | .held _ => 1
def uptoBulkAll {H : Type} : List (DataW H) → Nat
  | [] => 0
  | d :: r => uptoBulk d + uptoBulkAll r
def uptoBulkEntries {H : Type} : List (Lit × DataW H) → Nat
  | [] => 0
  | x :: r => uptoBulkEntry x + uptoBulkEntries r
def uptoBulkEntry {H : Type} : Lit × DataW H → Nat
  | (.string bytes, d) => bytes.length + uptoBulk d + 1
  | (_, d) => uptoBulk d + 1
 end
def uptoSmall : (H : Type) → List (DataW H) → Bool := fun _ ds => decide (uptoBulkAll ds ≤ 1048576)
def OpenSpec.upto (s : _root_.Go.ChangeSpec) : _root_.Go.OpenSpec := { _root_.Go.OpenSpec.ofChange s with cond := some uptoSmall }

/-- 'laws.FnExactTreeOf', WHERE WHAT IT READS IS OF BULK AT MOST 1048576: true; the input reads as it did. -/
def fnExactTreeOfUptoRow : OpenClaim := { program := "ythmahcohcphljaa", sum := "37129069a2045de771535b72ac2536d46ddc357dc758aebb83ae66fa35eea639", func := "loop.example/g00681/laws.FnExactTreeOf", spec := "fnExactTreeOf", apart := false, narrowed := true }
def FnExactTreeOfUptoSaid : Prop := fnExactTreeOfUptoRow.holds Try.pinned (OpenSpec.upto fnExactTreeOfSpec)

/-- 'laws.FnExactShares', WHERE WHAT IT READS IS OF BULK AT MOST 1048576: true; the input reads as it did. -/
def fnExactSharesUptoRow : OpenClaim := { program := "ythmahcohcphljaa", sum := "37129069a2045de771535b72ac2536d46ddc357dc758aebb83ae66fa35eea639", func := "loop.example/g00681/laws.FnExactShares", spec := "fnExactShares", unfollowed := true, recurses := true, apart := false, narrowed := true }
def FnExactSharesUptoSaid : Prop := fnExactSharesUptoRow.holds Try.pinned (OpenSpec.upto fnExactSharesSpec)

/-- 'laws.FnExactChanged', WHERE WHAT IT READS IS OF BULK AT MOST 1048576: true; the input reads as it did. -/
def fnExactChangedUptoRow : OpenClaim := { program := "ythmahcohcphljaa", sum := "37129069a2045de771535b72ac2536d46ddc357dc758aebb83ae66fa35eea639", func := "loop.example/g00681/laws.FnExactChanged", spec := "fnExactChanged", apart := false, narrowed := true }
def FnExactChangedUptoSaid : Prop := fnExactChangedUptoRow.holds Try.pinned (OpenSpec.upto fnExactChangedSpec)

/-- 'laws.FnTriangle', WHERE WHAT IT READS IS OF BULK AT MOST 1048576: true; the input reads as it did. -/
def fnTriangleUptoRow : OpenClaim := { program := "ythmahcohcphljaa", sum := "37129069a2045de771535b72ac2536d46ddc357dc758aebb83ae66fa35eea639", func := "loop.example/g00681/laws.FnTriangle", spec := "fnTriangle", apart := false, narrowed := true }
def FnTriangleUptoSaid : Prop := fnTriangleUptoRow.holds Try.pinned (OpenSpec.upto fnTriangleSpec)

/-- 'laws.FnHops', WHERE WHAT IT READS IS OF BULK AT MOST 1048576: true; the input reads as it did. -/
def fnHopsUptoRow : OpenClaim := { program := "ythmahcohcphljaa", sum := "37129069a2045de771535b72ac2536d46ddc357dc758aebb83ae66fa35eea639", func := "loop.example/g00681/laws.FnHops", spec := "fnHops", apart := false, narrowed := true }
def FnHopsUptoSaid : Prop := fnHopsUptoRow.holds Try.pinned (OpenSpec.upto fnHopsSpec)

/-- 'laws.FnShares', WHERE WHAT IT READS IS OF BULK AT MOST 1048576: true; the input reads as it did. -/
def fnSharesUptoRow : OpenClaim := { program := "ythmahcohcphljaa", sum := "37129069a2045de771535b72ac2536d46ddc357dc758aebb83ae66fa35eea639", func := "loop.example/g00681/laws.FnShares", spec := "fnShares", unfollowed := true, recurses := true, apart := false, narrowed := true }
def FnSharesUptoSaid : Prop := fnSharesUptoRow.holds Try.pinned (OpenSpec.upto fnSharesSpec)

/-- 'laws.FnCheapest', WHERE WHAT IT READS IS OF BULK AT MOST 1048576: true; the input reads as it did. -/
def fnCheapestUptoRow : OpenClaim := { program := "ythmahcohcphljaa", sum := "37129069a2045de771535b72ac2536d46ddc357dc758aebb83ae66fa35eea639", func := "loop.example/g00681/laws.FnCheapest", spec := "fnCheapest", unfollowed := true, recurses := true, apart := false, narrowed := true }
def FnCheapestUptoSaid : Prop := fnCheapestUptoRow.holds Try.pinned (OpenSpec.upto fnCheapestSpec)

end Rows
end Go.Proofs.Ythmahcohcphljaa
