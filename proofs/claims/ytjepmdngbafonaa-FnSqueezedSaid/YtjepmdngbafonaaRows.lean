/-
  No cell of these rows narrows 'for every input' (looked for: loops, veiled, ifaces, maps, wideKeys, modest, calm, conditions, laid).
  DERIVED. THE GIVEN ROWS OF THIS SEAT. 5 by the template 'for every input the law returns true; each argument reads behind the call as it read before'; 0 by the template 'total and deterministic' (their statements: YtjepmdngbafonaaTotals.lean).
  GIVEN WITH THE SEED: the statements are not yours to turn. If you find one false, say at which input.
  Laid BY PROGRAM, IN A SANDBOX (cutbox-rows.mjs): the forced cells as the released guide's own fill.sh prints them over the translation f8c999fda0e53173… (all of the seat's roots in one cut). By AI agents, Wed Nov 11 2026. No macro, syntax, notation, axiom, sorry.
-/
import Derived.Test.YtjepmdngbafonaaChecked
import GoSem.Claim
import GoSem.ClaimJoined
import GoSem.ClaimMapViews
import Derived.JoinedTies
import Derived.KernelRfl
namespace Go.Proofs.Ytjepmdngbafonaa
/- THE CELL 'sum', in the pinned program and in every row, IS THE sha256 OF THE DUMP (.gsa) THAT YtjepmdngbafonaaProg.lean LOADS. Nothing in Lean hashes anything: it is a label: what it is worth is what the hold of that sum in a sandbox is worth. -/
noncomputable def Try.pinned : Pinned := { name := "ytjepmdngbafonaa", sum := "f8c999fda0e531737a4ad31b5dc65315df368897039719c7b6f2c40c5e850b19", checked := Try.checked }
namespace Rows
def none {H : Type} : Left H := { results := [], args := [] }

/-- 'laws.FnRoutes': WHATEVER THE INPUT: true; the input reads as it did. -/
def fnRoutesSpec : ChangeSpec := { name := "fnRoutes", fn := fun _ => fun
  | [d] => { results := [.lit (.bool true)], args := [d] }
  | _ => none }
def fnRoutesRow : OpenClaim := { program := "ytjepmdngbafonaa", sum := "f8c999fda0e531737a4ad31b5dc65315df368897039719c7b6f2c40c5e850b19", func := "loop.example/g00681/laws.FnRoutes", spec := "fnRoutes", inPlace := ["slices.overlaps[loop.example/g00681/impl.Route]"], unfollowed := true, recurses := true, apart := false }
def FnRoutesSaid : Prop := fnRoutesRow.holds Try.pinned (OpenSpec.ofChange fnRoutesSpec)

/-- ITS FALSE NEIGHBOUR: 'it returns false'. Refute it at one input. -/
def fnRoutesWrong : ChangeSpec := { name := "fnRoutes", fn := fun _ => fun
  | [d] => { results := [.lit (.bool false)], args := [d] }
  | _ => none }
def FnRoutesWrongFalsely : Prop := fnRoutesRow.holds Try.pinned (OpenSpec.ofChange fnRoutesWrong)

/-- 'laws.FnSqueezed': WHATEVER THE INPUT: true; the input reads as it did. -/
def fnSqueezedSpec : ChangeSpec := { name := "fnSqueezed", fn := fun _ => fun
  | [d] => { results := [.lit (.bool true)], args := [d] }
  | _ => none }
def fnSqueezedRow : OpenClaim := { program := "ytjepmdngbafonaa", sum := "f8c999fda0e531737a4ad31b5dc65315df368897039719c7b6f2c40c5e850b19", func := "loop.example/g00681/laws.FnSqueezed", spec := "fnSqueezed", unfollowed := true, recurses := true, apart := false }
def FnSqueezedSaid : Prop := fnSqueezedRow.holds Try.pinned (OpenSpec.ofChange fnSqueezedSpec)

/-- ITS FALSE NEIGHBOUR: 'it returns false'. Refute it at one input. -/
def fnSqueezedWrong : ChangeSpec := { name := "fnSqueezed", fn := fun _ => fun
  | [d] => { results := [.lit (.bool false)], args := [d] }
  | _ => none }
def FnSqueezedWrongFalsely : Prop := fnSqueezedRow.holds Try.pinned (OpenSpec.ofChange fnSqueezedWrong)

/-- 'laws.FnExactCountAddrs': WHATEVER THE INPUT: true; the input reads as it did. -/
def fnExactCountAddrsSpec : ChangeSpec := { name := "fnExactCountAddrs", fn := fun _ => fun
  | [d] => { results := [.lit (.bool true)], args := [d] }
  | _ => none }
def fnExactCountAddrsRow : OpenClaim := { program := "ytjepmdngbafonaa", sum := "f8c999fda0e531737a4ad31b5dc65315df368897039719c7b6f2c40c5e850b19", func := "loop.example/g00681/laws.FnExactCountAddrs", spec := "fnExactCountAddrs", unfollowed := true, recurses := true, apart := false }
def FnExactCountAddrsSaid : Prop := fnExactCountAddrsRow.holds Try.pinned (OpenSpec.ofChange fnExactCountAddrsSpec)

/-- ITS FALSE NEIGHBOUR: 'it returns false'. Refute it at one input. -/
def fnExactCountAddrsWrong : ChangeSpec := { name := "fnExactCountAddrs", fn := fun _ => fun
  | [d] => { results := [.lit (.bool false)], args := [d] }
  | _ => none }
def FnExactCountAddrsWrongFalsely : Prop := fnExactCountAddrsRow.holds Try.pinned (OpenSpec.ofChange fnExactCountAddrsWrong)

/-- 'laws.FnExactAggregate': WHATEVER THE INPUT: true; the input reads as it did. -/
def fnExactAggregateSpec : ChangeSpec := { name := "fnExactAggregate", fn := fun _ => fun
  | [d] => { results := [.lit (.bool true)], args := [d] }
  | _ => none }
def fnExactAggregateRow : OpenClaim := { program := "ytjepmdngbafonaa", sum := "f8c999fda0e531737a4ad31b5dc65315df368897039719c7b6f2c40c5e850b19", func := "loop.example/g00681/laws.FnExactAggregate", spec := "fnExactAggregate", unfollowed := true, recurses := true, apart := false }
def FnExactAggregateSaid : Prop := fnExactAggregateRow.holds Try.pinned (OpenSpec.ofChange fnExactAggregateSpec)

/-- ITS FALSE NEIGHBOUR: 'it returns false'. Refute it at one input. -/
def fnExactAggregateWrong : ChangeSpec := { name := "fnExactAggregate", fn := fun _ => fun
  | [d] => { results := [.lit (.bool false)], args := [d] }
  | _ => none }
def FnExactAggregateWrongFalsely : Prop := fnExactAggregateRow.holds Try.pinned (OpenSpec.ofChange fnExactAggregateWrong)

/-- 'laws.FnAggregate': WHATEVER THE INPUT: true; the input reads as it did. -/
def fnAggregateSpec : ChangeSpec := { name := "fnAggregate", fn := fun _ => fun
  | [d] => { results := [.lit (.bool true)], args := [d] }
  | _ => none }
def fnAggregateRow : OpenClaim := { program := "ytjepmdngbafonaa", sum := "f8c999fda0e531737a4ad31b5dc65315df368897039719c7b6f2c40c5e850b19", func := "loop.example/g00681/laws.FnAggregate", spec := "fnAggregate", unfollowed := true, recurses := true, apart := false }
def FnAggregateSaid : Prop := fnAggregateRow.holds Try.pinned (OpenSpec.ofChange fnAggregateSpec)

/-- ITS FALSE NEIGHBOUR: 'it returns false'. Refute it at one input. -/
def fnAggregateWrong : ChangeSpec := { name := "fnAggregate", fn := fun _ => fun
  | [d] => { results := [.lit (.bool false)], args := [d] }
  | _ => none }
def FnAggregateWrongFalsely : Prop := fnAggregateRow.holds Try.pinned (OpenSpec.ofChange fnAggregateWrong)

/- THE SECOND FORM. 'bulk': how many values and letters a reading holds, each counted each time it is reached (what is shared counts as often as it is met; a slice's spare places count too). A statement '..UptoSaid' is the law's where the arguments, and the package variables that the reading takes, are together of bulk at most 1048576: NARROWER than '..Said'. Prove '..Said' where nothing that the law and all that it calls make is longer than what came in: it says more and counts as full. Else prove '..UptoSaid'. A law counts once. -/
mutual
def uptoBulk {H : Type} : DataW H → Nat
  | .lit (.string bytes) => bytes.length + 1
  | .lit _ => 1
  | .nil => 1
  | .ptr d => uptoBulk d + 1
  | .slice elems spare => uptoBulkAll elems + uptoBulkAll spare + 1
  | .agg parts => uptoBulkAll parts + 1
  | .iface _ d => uptoBulk d + 1
  | .map entries => uptoBulkEntries entries + 1
  | .held _ => 1
def uptoBulkAll {H : Type} : List (DataW H) → Nat
  | [] => 0
  | d :: r => uptoBulk d + uptoBulkAll r
def uptoBulkEntries {H : Type} : List (Lit × DataW H) → Nat
  | [] => 0
  | x :: r => uptoBulkEntry x + uptoBulkEntries r
def uptoBulkEntry {H : Type} : Lit × DataW H → Nat
  | (.string bytes, d) => bytes.length + uptoBulk d + 1
  | (_, d) => uptoBulk d + 1
 end
def uptoSmall : (H : Type) → List (DataW H) → Bool := fun _ ds => decide (uptoBulkAll ds ≤ 1048576)
def OpenSpec.upto (s : _root_.Go.ChangeSpec) : _root_.Go.OpenSpec := { _root_.Go.OpenSpec.ofChange s with cond := some uptoSmall }

/-- 'laws.FnRoutes', WHERE WHAT IT READS IS OF BULK AT MOST 1048576: true; the input reads as it did. -/
def fnRoutesUptoRow : OpenClaim := { program := "ytjepmdngbafonaa", sum := "f8c999fda0e531737a4ad31b5dc65315df368897039719c7b6f2c40c5e850b19", func := "loop.example/g00681/laws.FnRoutes", spec := "fnRoutes", inPlace := ["slices.overlaps[loop.example/g00681/impl.Route]"], unfollowed := true, recurses := true, apart := false, narrowed := true }
def FnRoutesUptoSaid : Prop := fnRoutesUptoRow.holds Try.pinned (OpenSpec.upto fnRoutesSpec)

/-- 'laws.FnSqueezed', WHERE WHAT IT READS IS OF BULK AT MOST 1048576: true; the input reads as it did. -/
def fnSqueezedUptoRow : OpenClaim := { program := "ytjepmdngbafonaa", sum := "f8c999fda0e531737a4ad31b5dc65315df368897039719c7b6f2c40c5e850b19", func := "loop.example/g00681/laws.FnSqueezed", spec := "fnSqueezed", unfollowed := true, recurses := true, apart := false, narrowed := true }
def FnSqueezedUptoSaid : Prop := fnSqueezedUptoRow.holds Try.pinned (OpenSpec.upto fnSqueezedSpec)

/-- 'laws.FnExactCountAddrs', WHERE WHAT IT READS IS OF BULK AT MOST 1048576: true; the input reads as it did. -/
def fnExactCountAddrsUptoRow : OpenClaim := { program := "ytjepmdngbafonaa", sum := "f8c999fda0e531737a4ad31b5dc65315df368897039719c7b6f2c40c5e850b19", func := "loop.example/g00681/laws.FnExactCountAddrs", spec := "fnExactCountAddrs", unfollowed := true, recurses := true, apart := false, narrowed := true }
def FnExactCountAddrsUptoSaid : Prop := fnExactCountAddrsUptoRow.holds Try.pinned (OpenSpec.upto fnExactCountAddrsSpec)

/-- 'laws.FnExactAggregate', WHERE WHAT IT READS IS OF BULK AT MOST 1048576: true; the input reads as it did. -/
def fnExactAggregateUptoRow : OpenClaim := { program := "ytjepmdngbafonaa", sum := "f8c999fda0e531737a4ad31b5dc65315df368897039719c7b6f2c40c5e850b19", func := "loop.example/g00681/laws.FnExactAggregate", spec := "fnExactAggregate", unfollowed := true, recurses := true, apart := false, narrowed := true }
def FnExactAggregateUptoSaid : Prop := fnExactAggregateUptoRow.holds Try.pinned (OpenSpec.upto fnExactAggregateSpec)

/-- 'laws.FnAggregate', WHERE WHAT IT READS IS OF BULK AT MOST 1048576: true; the input reads as it did. -/
def fnAggregateUptoRow : OpenClaim := { program := "ytjepmdngbafonaa", sum := "f8c999fda0e531737a4ad31b5dc65315df368897039719c7b6f2c40c5e850b19", func := "loop.example/g00681/laws.FnAggregate", spec := "fnAggregate", unfollowed := true, recurses := true, apart := false, narrowed := true }
def FnAggregateUptoSaid : Prop := fnAggregateUptoRow.holds Try.pinned (OpenSpec.upto fnAggregateSpec)

end Rows
end Go.Proofs.Ytjepmdngbafonaa
