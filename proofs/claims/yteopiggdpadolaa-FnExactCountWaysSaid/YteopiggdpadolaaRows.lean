/-
  No cell of these rows narrows 'for every input' (looked for: loops, veiled, ifaces, maps, wideKeys, modest, calm, conditions, laid).
  DERIVED. THE GIVEN ROWS OF THIS SEAT. 12 by the template 'for every input the law returns true; each argument reads behind the call as it read before'; 0 by the template 'total and deterministic' (their statements: YteopiggdpadolaaTotals.lean).
  GIVEN WITH THE SEED: the statements are not yours to turn. If you find one false, say at which input.
  Laid BY PROGRAM, IN A SANDBOX (cutbox-rows.mjs): the forced cells as the released guide's own fill.sh prints them over the translation 307752442fbe377e… (all of the seat's roots in one cut). By AI agents, Wed Nov 11 2026. No macro, syntax, notation, axiom, sorry.
-/
import Derived.Test.YteopiggdpadolaaChecked
import GoSem.Claim
import GoSem.ClaimJoined
import GoSem.ClaimMapViews
import Derived.JoinedTies
import Derived.KernelRfl
namespace Go.Proofs.Yteopiggdpadolaa
/- THE CELL 'sum', in the pinned program and in every row, IS THE sha256 OF THE DUMP (.gsa) THAT YteopiggdpadolaaProg.lean LOADS. Nothing in Lean hashes anything: it is a label: what it is worth is what the hold of that sum in a sandbox is worth. -/
noncomputable def Try.pinned : Pinned := { name := "yteopiggdpadolaa", sum := "307752442fbe377eb6ce097b4d2b49b8eb527d66f85e921d5a45f65fa3a383cd", checked := Try.checked }
namespace Rows
def none {H : Type} : Left H := { results := [], args := [] }

/-- 'laws.FnExactWayCost': WHATEVER THE INPUT: true; the input reads as it did. -/
def fnExactWayCostSpec : ChangeSpec := { name := "fnExactWayCost", fn := fun _ => fun
  | [d1, d2] => { results := [.lit (.bool true)], args := [d1, d2] }
  | _ => none }
def fnExactWayCostRow : OpenClaim := { program := "yteopiggdpadolaa", sum := "307752442fbe377eb6ce097b4d2b49b8eb527d66f85e921d5a45f65fa3a383cd", func := "loop.example/g00681/laws.FnExactWayCost", spec := "fnExactWayCost", apart := false }
def FnExactWayCostSaid : Prop := fnExactWayCostRow.holds Try.pinned (OpenSpec.ofChange fnExactWayCostSpec)

/-- ITS FALSE NEIGHBOUR: 'it returns false'. Refute it at one input. -/
def fnExactWayCostWrong : ChangeSpec := { name := "fnExactWayCost", fn := fun _ => fun
  | [d1, d2] => { results := [.lit (.bool false)], args := [d1, d2] }
  | _ => none }
def FnExactWayCostWrongFalsely : Prop := fnExactWayCostRow.holds Try.pinned (OpenSpec.ofChange fnExactWayCostWrong)

/-- 'laws.FnExactLinked': WHATEVER THE INPUT: true; the input reads as it did. -/
def fnExactLinkedSpec : ChangeSpec := { name := "fnExactLinked", fn := fun _ => fun
  | [d] => { results := [.lit (.bool true)], args := [d] }
  | _ => none }
def fnExactLinkedRow : OpenClaim := { program := "yteopiggdpadolaa", sum := "307752442fbe377eb6ce097b4d2b49b8eb527d66f85e921d5a45f65fa3a383cd", func := "loop.example/g00681/laws.FnExactLinked", spec := "fnExactLinked", apart := false }
def FnExactLinkedSaid : Prop := fnExactLinkedRow.holds Try.pinned (OpenSpec.ofChange fnExactLinkedSpec)

/-- ITS FALSE NEIGHBOUR: 'it returns false'. Refute it at one input. -/
def fnExactLinkedWrong : ChangeSpec := { name := "fnExactLinked", fn := fun _ => fun
  | [d] => { results := [.lit (.bool false)], args := [d] }
  | _ => none }
def FnExactLinkedWrongFalsely : Prop := fnExactLinkedRow.holds Try.pinned (OpenSpec.ofChange fnExactLinkedWrong)

/-- 'laws.FnExactWithout': WHATEVER THE INPUT: true; the input reads as it did. -/
def fnExactWithoutSpec : ChangeSpec := { name := "fnExactWithout", fn := fun _ => fun
  | [d1, d2, d3] => { results := [.lit (.bool true)], args := [d1, d2, d3] }
  | _ => none }
def fnExactWithoutRow : OpenClaim := { program := "yteopiggdpadolaa", sum := "307752442fbe377eb6ce097b4d2b49b8eb527d66f85e921d5a45f65fa3a383cd", func := "loop.example/g00681/laws.FnExactWithout", spec := "fnExactWithout", unfollowed := true, recurses := true, apart := false }
def FnExactWithoutSaid : Prop := fnExactWithoutRow.holds Try.pinned (OpenSpec.ofChange fnExactWithoutSpec)

/-- ITS FALSE NEIGHBOUR: 'it returns false'. Refute it at one input. -/
def fnExactWithoutWrong : ChangeSpec := { name := "fnExactWithout", fn := fun _ => fun
  | [d1, d2, d3] => { results := [.lit (.bool false)], args := [d1, d2, d3] }
  | _ => none }
def FnExactWithoutWrongFalsely : Prop := fnExactWithoutRow.holds Try.pinned (OpenSpec.ofChange fnExactWithoutWrong)

/-- 'laws.FnExactBothWays': WHATEVER THE INPUT: true; the input reads as it did. -/
def fnExactBothWaysSpec : ChangeSpec := { name := "fnExactBothWays", fn := fun _ => fun
  | [d] => { results := [.lit (.bool true)], args := [d] }
  | _ => none }
def fnExactBothWaysRow : OpenClaim := { program := "yteopiggdpadolaa", sum := "307752442fbe377eb6ce097b4d2b49b8eb527d66f85e921d5a45f65fa3a383cd", func := "loop.example/g00681/laws.FnExactBothWays", spec := "fnExactBothWays", unfollowed := true, recurses := true, apart := false }
def FnExactBothWaysSaid : Prop := fnExactBothWaysRow.holds Try.pinned (OpenSpec.ofChange fnExactBothWaysSpec)

/-- ITS FALSE NEIGHBOUR: 'it returns false'. Refute it at one input. -/
def fnExactBothWaysWrong : ChangeSpec := { name := "fnExactBothWays", fn := fun _ => fun
  | [d] => { results := [.lit (.bool false)], args := [d] }
  | _ => none }
def FnExactBothWaysWrongFalsely : Prop := fnExactBothWaysRow.holds Try.pinned (OpenSpec.ofChange fnExactBothWaysWrong)

/-- 'laws.FnExactDistances': WHATEVER THE INPUT: true; the input reads as it did. -/
def fnExactDistancesSpec : ChangeSpec := { name := "fnExactDistances", fn := fun _ => fun
  | [d1, d2] => { results := [.lit (.bool true)], args := [d1, d2] }
  | _ => none }
def fnExactDistancesRow : OpenClaim := { program := "yteopiggdpadolaa", sum := "307752442fbe377eb6ce097b4d2b49b8eb527d66f85e921d5a45f65fa3a383cd", func := "loop.example/g00681/laws.FnExactDistances", spec := "fnExactDistances", apart := false }
def FnExactDistancesSaid : Prop := fnExactDistancesRow.holds Try.pinned (OpenSpec.ofChange fnExactDistancesSpec)

/-- ITS FALSE NEIGHBOUR: 'it returns false'. Refute it at one input. -/
def fnExactDistancesWrong : ChangeSpec := { name := "fnExactDistances", fn := fun _ => fun
  | [d1, d2] => { results := [.lit (.bool false)], args := [d1, d2] }
  | _ => none }
def FnExactDistancesWrongFalsely : Prop := fnExactDistancesRow.holds Try.pinned (OpenSpec.ofChange fnExactDistancesWrong)

/-- 'laws.FnExactAllDistances': WHATEVER THE INPUT: true; the input reads as it did. -/
def fnExactAllDistancesSpec : ChangeSpec := { name := "fnExactAllDistances", fn := fun _ => fun
  | [d] => { results := [.lit (.bool true)], args := [d] }
  | _ => none }
def fnExactAllDistancesRow : OpenClaim := { program := "yteopiggdpadolaa", sum := "307752442fbe377eb6ce097b4d2b49b8eb527d66f85e921d5a45f65fa3a383cd", func := "loop.example/g00681/laws.FnExactAllDistances", spec := "fnExactAllDistances", apart := false }
def FnExactAllDistancesSaid : Prop := fnExactAllDistancesRow.holds Try.pinned (OpenSpec.ofChange fnExactAllDistancesSpec)

/-- ITS FALSE NEIGHBOUR: 'it returns false'. Refute it at one input. -/
def fnExactAllDistancesWrong : ChangeSpec := { name := "fnExactAllDistances", fn := fun _ => fun
  | [d] => { results := [.lit (.bool false)], args := [d] }
  | _ => none }
def FnExactAllDistancesWrongFalsely : Prop := fnExactAllDistancesRow.holds Try.pinned (OpenSpec.ofChange fnExactAllDistancesWrong)

/-- 'laws.FnExactCheapestWay': WHATEVER THE INPUT: true; the input reads as it did. -/
def fnExactCheapestWaySpec : ChangeSpec := { name := "fnExactCheapestWay", fn := fun _ => fun
  | [d1, d2, d3] => { results := [.lit (.bool true)], args := [d1, d2, d3] }
  | _ => none }
def fnExactCheapestWayRow : OpenClaim := { program := "yteopiggdpadolaa", sum := "307752442fbe377eb6ce097b4d2b49b8eb527d66f85e921d5a45f65fa3a383cd", func := "loop.example/g00681/laws.FnExactCheapestWay", spec := "fnExactCheapestWay", apart := false }
def FnExactCheapestWaySaid : Prop := fnExactCheapestWayRow.holds Try.pinned (OpenSpec.ofChange fnExactCheapestWaySpec)

/-- ITS FALSE NEIGHBOUR: 'it returns false'. Refute it at one input. -/
def fnExactCheapestWayWrong : ChangeSpec := { name := "fnExactCheapestWay", fn := fun _ => fun
  | [d1, d2, d3] => { results := [.lit (.bool false)], args := [d1, d2, d3] }
  | _ => none }
def FnExactCheapestWayWrongFalsely : Prop := fnExactCheapestWayRow.holds Try.pinned (OpenSpec.ofChange fnExactCheapestWayWrong)

/-- 'laws.FnExactCountWays': WHATEVER THE INPUT: true; the input reads as it did. -/
def fnExactCountWaysSpec : ChangeSpec := { name := "fnExactCountWays", fn := fun _ => fun
  | [d1, d2, d3] => { results := [.lit (.bool true)], args := [d1, d2, d3] }
  | _ => none }
def fnExactCountWaysRow : OpenClaim := { program := "yteopiggdpadolaa", sum := "307752442fbe377eb6ce097b4d2b49b8eb527d66f85e921d5a45f65fa3a383cd", func := "loop.example/g00681/laws.FnExactCountWays", spec := "fnExactCountWays", unfollowed := true, recurses := true, apart := false }
def FnExactCountWaysSaid : Prop := fnExactCountWaysRow.holds Try.pinned (OpenSpec.ofChange fnExactCountWaysSpec)

/-- ITS FALSE NEIGHBOUR: 'it returns false'. Refute it at one input. -/
def fnExactCountWaysWrong : ChangeSpec := { name := "fnExactCountWays", fn := fun _ => fun
  | [d1, d2, d3] => { results := [.lit (.bool false)], args := [d1, d2, d3] }
  | _ => none }
def FnExactCountWaysWrongFalsely : Prop := fnExactCountWaysRow.holds Try.pinned (OpenSpec.ofChange fnExactCountWaysWrong)

/-- 'laws.FnExactOnWay': WHATEVER THE INPUT: true; the input reads as it did. -/
def fnExactOnWaySpec : ChangeSpec := { name := "fnExactOnWay", fn := fun _ => fun
  | [d1, d2, d3, d4] => { results := [.lit (.bool true)], args := [d1, d2, d3, d4] }
  | _ => none }
def fnExactOnWayRow : OpenClaim := { program := "yteopiggdpadolaa", sum := "307752442fbe377eb6ce097b4d2b49b8eb527d66f85e921d5a45f65fa3a383cd", func := "loop.example/g00681/laws.FnExactOnWay", spec := "fnExactOnWay", apart := false }
def FnExactOnWaySaid : Prop := fnExactOnWayRow.holds Try.pinned (OpenSpec.ofChange fnExactOnWaySpec)

/-- ITS FALSE NEIGHBOUR: 'it returns false'. Refute it at one input. -/
def fnExactOnWayWrong : ChangeSpec := { name := "fnExactOnWay", fn := fun _ => fun
  | [d1, d2, d3, d4] => { results := [.lit (.bool false)], args := [d1, d2, d3, d4] }
  | _ => none }
def FnExactOnWayWrongFalsely : Prop := fnExactOnWayRow.holds Try.pinned (OpenSpec.ofChange fnExactOnWayWrong)

/-- 'laws.FnExactThrough': WHATEVER THE INPUT: true; the input reads as it did. -/
def fnExactThroughSpec : ChangeSpec := { name := "fnExactThrough", fn := fun _ => fun
  | [d1, d2] => { results := [.lit (.bool true)], args := [d1, d2] }
  | _ => none }
def fnExactThroughRow : OpenClaim := { program := "yteopiggdpadolaa", sum := "307752442fbe377eb6ce097b4d2b49b8eb527d66f85e921d5a45f65fa3a383cd", func := "loop.example/g00681/laws.FnExactThrough", spec := "fnExactThrough", apart := false }
def FnExactThroughSaid : Prop := fnExactThroughRow.holds Try.pinned (OpenSpec.ofChange fnExactThroughSpec)

/-- ITS FALSE NEIGHBOUR: 'it returns false'. Refute it at one input. -/
def fnExactThroughWrong : ChangeSpec := { name := "fnExactThrough", fn := fun _ => fun
  | [d1, d2] => { results := [.lit (.bool false)], args := [d1, d2] }
  | _ => none }
def FnExactThroughWrongFalsely : Prop := fnExactThroughRow.holds Try.pinned (OpenSpec.ofChange fnExactThroughWrong)

/-- 'laws.FnExactHopsTo': WHATEVER THE INPUT: true; the input reads as it did. -/
def fnExactHopsToSpec : ChangeSpec := { name := "fnExactHopsTo", fn := fun _ => fun
  | [d1, d2, d3] => { results := [.lit (.bool true)], args := [d1, d2, d3] }
  | _ => none }
def fnExactHopsToRow : OpenClaim := { program := "yteopiggdpadolaa", sum := "307752442fbe377eb6ce097b4d2b49b8eb527d66f85e921d5a45f65fa3a383cd", func := "loop.example/g00681/laws.FnExactHopsTo", spec := "fnExactHopsTo", apart := false }
def FnExactHopsToSaid : Prop := fnExactHopsToRow.holds Try.pinned (OpenSpec.ofChange fnExactHopsToSpec)

/-- ITS FALSE NEIGHBOUR: 'it returns false'. Refute it at one input. -/
def fnExactHopsToWrong : ChangeSpec := { name := "fnExactHopsTo", fn := fun _ => fun
  | [d1, d2, d3] => { results := [.lit (.bool false)], args := [d1, d2, d3] }
  | _ => none }
def FnExactHopsToWrongFalsely : Prop := fnExactHopsToRow.holds Try.pinned (OpenSpec.ofChange fnExactHopsToWrong)

/-- 'laws.FnExactHopTable': WHATEVER THE INPUT: true; the input reads as it did. -/
def fnExactHopTableSpec : ChangeSpec := { name := "fnExactHopTable", fn := fun _ => fun
  | [d1, d2] => { results := [.lit (.bool true)], args := [d1, d2] }
  | _ => none }
def fnExactHopTableRow : OpenClaim := { program := "yteopiggdpadolaa", sum := "307752442fbe377eb6ce097b4d2b49b8eb527d66f85e921d5a45f65fa3a383cd", func := "loop.example/g00681/laws.FnExactHopTable", spec := "fnExactHopTable", apart := false }
def FnExactHopTableSaid : Prop := fnExactHopTableRow.holds Try.pinned (OpenSpec.ofChange fnExactHopTableSpec)

/-- ITS FALSE NEIGHBOUR: 'it returns false'. Refute it at one input. -/
def fnExactHopTableWrong : ChangeSpec := { name := "fnExactHopTable", fn := fun _ => fun
  | [d1, d2] => { results := [.lit (.bool false)], args := [d1, d2] }
  | _ => none }
def FnExactHopTableWrongFalsely : Prop := fnExactHopTableRow.holds Try.pinned (OpenSpec.ofChange fnExactHopTableWrong)

/- THE SECOND FORM. 'bulk': how many values and letters a reading holds, each counted each time it is reached (what is shared counts as often as it is met; a slice's spare places count too). A statement '..UptoSaid' is the law's where the arguments, and the package variables that the reading takes, are together of bulk at most 1048576: NARROWER than '..Said'. Prove '..Said' where nothing that the law and all that it calls make is longer than what came in: it says more and counts as full. Else prove '..UptoSaid'. A law counts once. -/
mutual
def uptoBulk {H : Type} : DataW H → Nat
  | .lit (.string bytes) => bytes.length + 1
  | .lit _ => 1
  | .nil => 1
  | .ptr d => uptoBulk d + 1
  | .slice elems spare => uptoBulkAll elems + uptoBulkAll spare + 1
  | .agg parts => uptoBulkAll parts + 1
  | .iface _ d => uptoBulk d + 1
  | .map entries => uptoBulkEntries entries + 1
  | .held _ => 1
def uptoBulkAll {H : Type} : List (DataW H) → Nat
  | [] => 0
  | d :: r => uptoBulk d + uptoBulkAll r
def uptoBulkEntries {H : Type} : List (Lit × DataW H) → Nat
  | [] => 0
  | x :: r => uptoBulkEntry x + uptoBulkEntries r
def uptoBulkEntry {H : Type} : Lit × DataW H → Nat
  | (.string bytes, d) => bytes.length + uptoBulk d + 1
  | (_, d) => uptoBulk d + 1
 end
def uptoSmall : (H : Type) → List (DataW H) → Bool := fun _ ds => decide (uptoBulkAll ds ≤ 1048576)
def OpenSpec.upto (s : _root_.Go.ChangeSpec) : _root_.Go.OpenSpec := { _root_.Go.OpenSpec.ofChange s with cond := some uptoSmall }

/-- 'laws.FnExactWayCost', WHERE WHAT IT READS IS OF BULK AT MOST 1048576: true; the input reads as it did. -/
def fnExactWayCostUptoRow : OpenClaim := { program := "yteopiggdpadolaa", sum := "307752442fbe377eb6ce097b4d2b49b8eb527d66f85e921d5a45f65fa3a383cd", func := "loop.example/g00681/laws.FnExactWayCost", spec := "fnExactWayCost", apart := false, narrowed := true }
def FnExactWayCostUptoSaid : Prop := fnExactWayCostUptoRow.holds Try.pinned (OpenSpec.upto fnExactWayCostSpec)

/-- 'laws.FnExactLinked', WHERE WHAT IT READS IS OF BULK AT MOST 1048576: true; the input reads as it did. -/
def fnExactLinkedUptoRow : OpenClaim := { program := "yteopiggdpadolaa", sum := "307752442fbe377eb6ce097b4d2b49b8eb527d66f85e921d5a45f65fa3a383cd", func := "loop.example/g00681/laws.FnExactLinked", spec := "fnExactLinked", apart := false, narrowed := true }
def FnExactLinkedUptoSaid : Prop := fnExactLinkedUptoRow.holds Try.pinned (OpenSpec.upto fnExactLinkedSpec)

/-- 'laws.FnExactWithout', WHERE WHAT IT READS IS OF BULK AT MOST 1048576: true; the input reads as it did. -/
def fnExactWithoutUptoRow : OpenClaim := { program := "yteopiggdpadolaa", sum := "307752442fbe377eb6ce097b4d2b49b8eb527d66f85e921d5a45f65fa3a383cd", func := "loop.example/g00681/laws.FnExactWithout", spec := "fnExactWithout", unfollowed := true, recurses := true, apart := false, narrowed := true }
def FnExactWithoutUptoSaid : Prop := fnExactWithoutUptoRow.holds Try.pinned (OpenSpec.upto fnExactWithoutSpec)

/-- 'laws.FnExactBothWays', WHERE WHAT IT READS IS OF BULK AT MOST 1048576: true; the input reads as it did. -/
def fnExactBothWaysUptoRow : OpenClaim := { program := "yteopiggdpadolaa", sum := "307752442fbe377eb6ce097b4d2b49b8eb527d66f85e921d5a45f65fa3a383cd", func := "loop.example/g00681/laws.FnExactBothWays", spec := "fnExactBothWays", unfollowed := true, recurses := true, apart := false, narrowed := true }
def FnExactBothWaysUptoSaid : Prop := fnExactBothWaysUptoRow.holds Try.pinned (OpenSpec.upto fnExactBothWaysSpec)

/-- 'laws.FnExactDistances', WHERE WHAT IT READS IS OF BULK AT MOST 1048576: true; the input reads as it did. -/
def fnExactDistancesUptoRow : OpenClaim := { program := "yteopiggdpadolaa", sum := "307752442fbe377eb6ce097b4d2b49b8eb527d66f85e921d5a45f65fa3a383cd", func := "loop.example/g00681/laws.FnExactDistances", spec := "fnExactDistances", apart := false, narrowed := true }
def FnExactDistancesUptoSaid : Prop := fnExactDistancesUptoRow.holds Try.pinned (OpenSpec.upto fnExactDistancesSpec)

/-- 'laws.FnExactAllDistances', WHERE WHAT IT READS IS OF BULK AT MOST 1048576: true; the input reads as it did. -/
def fnExactAllDistancesUptoRow : OpenClaim := { program := "yteopiggdpadolaa", sum := "307752442fbe377eb6ce097b4d2b49b8eb527d66f85e921d5a45f65fa3a383cd", func := "loop.example/g00681/laws.FnExactAllDistances", spec := "fnExactAllDistances", apart := false, narrowed := true }
def FnExactAllDistancesUptoSaid : Prop := fnExactAllDistancesUptoRow.holds Try.pinned (OpenSpec.upto fnExactAllDistancesSpec)

/-- 'laws.FnExactCheapestWay', WHERE WHAT IT READS IS OF BULK AT MOST 1048576: true; the input reads as it did. -/
def fnExactCheapestWayUptoRow : OpenClaim := { program := "yteopiggdpadolaa", sum := "307752442fbe377eb6ce097b4d2b49b8eb527d66f85e921d5a45f65fa3a383cd", func := "loop.example/g00681/laws.FnExactCheapestWay", spec := "fnExactCheapestWay", apart := false, narrowed := true }
def FnExactCheapestWayUptoSaid : Prop := fnExactCheapestWayUptoRow.holds Try.pinned (OpenSpec.upto fnExactCheapestWaySpec)

/-- 'laws.FnExactCountWays', WHERE WHAT IT READS IS OF BULK AT MOST 1048576: true; the input reads as it did. -/
def fnExactCountWaysUptoRow : OpenClaim := { program := "yteopiggdpadolaa", sum := "307752442fbe377eb6ce097b4d2b49b8eb527d66f85e921d5a45f65fa3a383cd", func := "loop.example/g00681/laws.FnExactCountWays", spec := "fnExactCountWays", unfollowed := true, recurses := true, apart := false, narrowed := true }
def FnExactCountWaysUptoSaid : Prop := fnExactCountWaysUptoRow.holds Try.pinned (OpenSpec.upto fnExactCountWaysSpec)

/-- 'laws.FnExactOnWay', WHERE WHAT IT READS IS OF BULK AT MOST 1048576: true; the input reads as it did. -/
def fnExactOnWayUptoRow : OpenClaim := { program := "yteopiggdpadolaa", sum := "307752442fbe377eb6ce097b4d2b49b8eb527d66f85e921d5a45f65fa3a383cd", func := "loop.example/g00681/laws.FnExactOnWay", spec := "fnExactOnWay", apart := false, narrowed := true }
def FnExactOnWayUptoSaid : Prop := fnExactOnWayUptoRow.holds Try.pinned (OpenSpec.upto fnExactOnWaySpec)

/-- 'laws.FnExactThrough', WHERE WHAT IT READS IS OF BULK AT MOST 1048576: true; the input reads as it did. -/
def fnExactThroughUptoRow : OpenClaim := { program := "yteopiggdpadolaa", sum := "307752442fbe377eb6ce097b4d2b49b8eb527d66f85e921d5a45f65fa3a383cd", func := "loop.example/g00681/laws.FnExactThrough", spec := "fnExactThrough", apart := false, narrowed := true }
def FnExactThroughUptoSaid : Prop := fnExactThroughUptoRow.holds Try.pinned (OpenSpec.upto fnExactThroughSpec)

/-- 'laws.FnExactHopsTo', WHERE WHAT IT READS IS OF BULK AT MOST 1048576: true; the input reads as it did. -/
def fnExactHopsToUptoRow : OpenClaim := { program := "yteopiggdpadolaa", sum := "307752442fbe377eb6ce097b4d2b49b8eb527d66f85e921d5a45f65fa3a383cd", func := "loop.example/g00681/laws.FnExactHopsTo", spec := "fnExactHopsTo", apart := false, narrowed := true }
def FnExactHopsToUptoSaid : Prop := fnExactHopsToUptoRow.holds Try.pinned (OpenSpec.upto fnExactHopsToSpec)

/-- 'laws.FnExactHopTable', WHERE WHAT IT READS IS OF BULK AT MOST 1048576: true; the input reads as it did. -/
def fnExactHopTableUptoRow : OpenClaim := { program := "yteopiggdpadolaa", sum := "307752442fbe377eb6ce097b4d2b49b8eb527d66f85e921d5a45f65fa3a383cd", func := "loop.example/g00681/laws.FnExactHopTable", spec := "fnExactHopTable", apart := false, narrowed := true }
def FnExactHopTableUptoSaid : Prop := fnExactHopTableUptoRow.holds Try.pinned (OpenSpec.upto fnExactHopTableSpec)

end Rows
end Go.Proofs.Yteopiggdpadolaa
