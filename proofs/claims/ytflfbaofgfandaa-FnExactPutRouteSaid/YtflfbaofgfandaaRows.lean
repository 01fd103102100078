/-
  No cell of these rows narrows 'for every input' (looked for: loops, veiled, ifaces, maps, wideKeys, modest, calm, conditions, laid).
  DERIVED. THE GIVEN ROWS OF THIS SEAT. 4 by the template 'for every input the law returns true; each argument reads behind the call as it read before'; 0 by the template 'total and deterministic' (their statements: YtflfbaofgfandaaTotals.lean).
  GIVEN WITH THE SEED: the statements are not yours to turn. If you find one false, say at which input.
  Laid BY PROGRAM, IN A SANDBOX (cutbox-rows.mjs): the forced cells as the released guide's own fill.sh prints them over the translation 3cc6ead29c67e1e5… (all of the seat's roots in one cut). By AI agents, Wed Nov 11 2026. No macro, syntax, notation, axiom, sorry.
-/
import Derived.Test.YtflfbaofgfandaaChecked
import GoSem.Claim
import GoSem.ClaimJoined
import GoSem.ClaimMapViews
import Derived.JoinedTies
import Derived.KernelRfl
namespace Go.Proofs.Ytflfbaofgfandaa
/- THE CELL 'sum', in the pinned program and in every row, IS THE sha256 OF THE DUMP (.gsa) THAT YtflfbaofgfandaaProg.lean LOADS. Nothing in Lean hashes anything: it is a label: what it is worth is what the hold of that sum in a sandbox is worth. -/
noncomputable def Try.pinned : Pinned := { name := "ytflfbaofgfandaa", sum := "3cc6ead29c67e1e56bd5eab2c501b738044531016109beba7345d24dc52a7d46", checked := Try.checked }
namespace Rows
def none {H : Type} : Left H := { results := [], args := [] }

/-- 'laws.FnExactDropRoute': WHATEVER THE INPUT: true; the input reads as it did. -/
def fnExactDropRouteSpec : ChangeSpec := { name := "fnExactDropRoute", fn := fun _ => fun
  | [d1, d2] => { results := [.lit (.bool true)], args := [d1, d2] }
  | _ => none }
def fnExactDropRouteRow : OpenClaim := { program := "ytflfbaofgfandaa", sum := "3cc6ead29c67e1e56bd5eab2c501b738044531016109beba7345d24dc52a7d46", func := "loop.example/g00681/laws.FnExactDropRoute", spec := "fnExactDropRoute", unfollowed := true, recurses := true, apart := false }
def FnExactDropRouteSaid : Prop := fnExactDropRouteRow.holds Try.pinned (OpenSpec.ofChange fnExactDropRouteSpec)

/-- ITS FALSE NEIGHBOUR: 'it returns false'. Refute it at one input. -/
def fnExactDropRouteWrong : ChangeSpec := { name := "fnExactDropRoute", fn := fun _ => fun
  | [d1, d2] => { results := [.lit (.bool false)], args := [d1, d2] }
  | _ => none }
def FnExactDropRouteWrongFalsely : Prop := fnExactDropRouteRow.holds Try.pinned (OpenSpec.ofChange fnExactDropRouteWrong)

/-- 'laws.FnExactPutRoute': WHATEVER THE INPUT: true; the input reads as it did. -/
def fnExactPutRouteSpec : ChangeSpec := { name := "fnExactPutRoute", fn := fun _ => fun
  | [d1, d2] => { results := [.lit (.bool true)], args := [d1, d2] }
  | _ => none }
def fnExactPutRouteRow : OpenClaim := { program := "ytflfbaofgfandaa", sum := "3cc6ead29c67e1e56bd5eab2c501b738044531016109beba7345d24dc52a7d46", func := "loop.example/g00681/laws.FnExactPutRoute", spec := "fnExactPutRoute", inPlace := ["slices.overlaps[loop.example/g00681/impl.Route]"], unfollowed := true, recurses := true, apart := false }
def FnExactPutRouteSaid : Prop := fnExactPutRouteRow.holds Try.pinned (OpenSpec.ofChange fnExactPutRouteSpec)

/-- ITS FALSE NEIGHBOUR: 'it returns false'. Refute it at one input. -/
def fnExactPutRouteWrong : ChangeSpec := { name := "fnExactPutRoute", fn := fun _ => fun
  | [d1, d2] => { results := [.lit (.bool false)], args := [d1, d2] }
  | _ => none }
def FnExactPutRouteWrongFalsely : Prop := fnExactPutRouteRow.holds Try.pinned (OpenSpec.ofChange fnExactPutRouteWrong)

/-- 'laws.FnExactSqueeze': WHATEVER THE INPUT: true; the input reads as it did. -/
def fnExactSqueezeSpec : ChangeSpec := { name := "fnExactSqueeze", fn := fun _ => fun
  | [d] => { results := [.lit (.bool true)], args := [d] }
  | _ => none }
def fnExactSqueezeRow : OpenClaim := { program := "ytflfbaofgfandaa", sum := "3cc6ead29c67e1e56bd5eab2c501b738044531016109beba7345d24dc52a7d46", func := "loop.example/g00681/laws.FnExactSqueeze", spec := "fnExactSqueeze", unfollowed := true, recurses := true, apart := false }
def FnExactSqueezeSaid : Prop := fnExactSqueezeRow.holds Try.pinned (OpenSpec.ofChange fnExactSqueezeSpec)

/-- ITS FALSE NEIGHBOUR: 'it returns false'. Refute it at one input. -/
def fnExactSqueezeWrong : ChangeSpec := { name := "fnExactSqueeze", fn := fun _ => fun
  | [d] => { results := [.lit (.bool false)], args := [d] }
  | _ => none }
def FnExactSqueezeWrongFalsely : Prop := fnExactSqueezeRow.holds Try.pinned (OpenSpec.ofChange fnExactSqueezeWrong)

/-- 'laws.FnExactCover': WHATEVER THE INPUT: true; the input reads as it did. -/
def fnExactCoverSpec : ChangeSpec := { name := "fnExactCover", fn := fun _ => fun
  | [d1, d2] => { results := [.lit (.bool true)], args := [d1, d2] }
  | _ => none }
def fnExactCoverRow : OpenClaim := { program := "ytflfbaofgfandaa", sum := "3cc6ead29c67e1e56bd5eab2c501b738044531016109beba7345d24dc52a7d46", func := "loop.example/g00681/laws.FnExactCover", spec := "fnExactCover", unfollowed := true, recurses := true, apart := false }
def FnExactCoverSaid : Prop := fnExactCoverRow.holds Try.pinned (OpenSpec.ofChange fnExactCoverSpec)

/-- ITS FALSE NEIGHBOUR: 'it returns false'. Refute it at one input. -/
def fnExactCoverWrong : ChangeSpec := { name := "fnExactCover", fn := fun _ => fun
  | [d1, d2] => { results := [.lit (.bool false)], args := [d1, d2] }
  | _ => none }
def FnExactCoverWrongFalsely : Prop := fnExactCoverRow.holds Try.pinned (OpenSpec.ofChange fnExactCoverWrong)

/- THE SECOND FORM. 'bulk': how many values and letters a reading holds, each counted each time it is reached (what is shared counts as often as it is met; a slice's spare places count too). A statement '..UptoSaid' is the law's where the arguments, and the package variables that the reading takes, are together of bulk at most 1048576: NARROWER than '..Said'. Prove '..Said' where nothing that the law and all that it calls make is longer than what came in: it says more and counts as full. Else prove '..UptoSaid'. A law counts once. -/
mutual
def uptoBulk {H : Type} : DataW H → Nat
  | .lit (.string bytes) => bytes.length + 1
  | .lit _ => 1
  | .nil => 1
  | .ptr d => uptoBulk d + 1
  | .slice elems spare => uptoBulkAll elems + uptoBulkAll spare + 1
  | .agg parts => uptoBulkAll parts + 1
  | .iface _ d => uptoBulk d + 1
  | .map entries => uptoBulkEntries entries + 1
  | .held _ => 1
def uptoBulkAll {H : Type} : List (DataW H) → Nat
  | [] => 0
  | d :: r => uptoBulk d + uptoBulkAll r
def uptoBulkEntries {H : Type} : List (Lit × DataW H) → Nat
  | [] => 0
  | x :: r => uptoBulkEntry x + uptoBulkEntries r
def uptoBulkEntry {H : Type} : Lit × DataW H → Nat
  | (.string bytes, d) => bytes.length + uptoBulk d + 1
  | (_, d) => uptoBulk d + 1
 end
def uptoSmall : (H : Type) → List (DataW H) → Bool := fun _ ds => decide (uptoBulkAll ds ≤ 1048576)
def OpenSpec.upto (s : _root_.Go.ChangeSpec) : _root_.Go.OpenSpec := { _root_.Go.OpenSpec.ofChange s with cond := some uptoSmall }

/-- 'laws.FnExactDropRoute', WHERE WHAT IT READS IS OF BULK AT MOST 1048576: true; the input reads as it did. -/
def fnExactDropRouteUptoRow : OpenClaim := { program := "ytflfbaofgfandaa", sum := "3cc6ead29c67e1e56bd5eab2c501b738044531016109beba7345d24dc52a7d46", func := "loop.example/g00681/laws.FnExactDropRoute", spec := "fnExactDropRoute", unfollowed := true, recurses := true, apart := false, narrowed := true }
def FnExactDropRouteUptoSaid : Prop := fnExactDropRouteUptoRow.holds Try.pinned (OpenSpec.upto fnExactDropRouteSpec)

/-- 'laws.FnExactPutRoute', WHERE WHAT IT READS IS OF BULK AT MOST 1048576: true; the input reads as it did. -/
def fnExactPutRouteUptoRow : OpenClaim := { program := "ytflfbaofgfandaa", sum := "3cc6ead29c67e1e56bd5eab2c501b738044531016109beba7345d24dc52a7d46", func := "loop.example/g00681/laws.FnExactPutRoute", spec := "fnExactPutRoute", inPlace := ["slices.overlaps[loop.example/g00681/impl.Route]"], unfollowed := true, recurses := true, apart := false, narrowed := true }
def FnExactPutRouteUptoSaid : Prop := fnExactPutRouteUptoRow.holds Try.pinned (OpenSpec.upto fnExactPutRouteSpec)

/-- 'laws.FnExactSqueeze', WHERE WHAT IT READS IS OF BULK AT MOST 1048576: true; the input reads as it did. -/
def fnExactSqueezeUptoRow : OpenClaim := { program := "ytflfbaofgfandaa", sum := "3cc6ead29c67e1e56bd5eab2c501b738044531016109beba7345d24dc52a7d46", func := "loop.example/g00681/laws.FnExactSqueeze", spec := "fnExactSqueeze", unfollowed := true, recurses := true, apart := false, narrowed := true }
def FnExactSqueezeUptoSaid : Prop := fnExactSqueezeUptoRow.holds Try.pinned (OpenSpec.upto fnExactSqueezeSpec)

/-- 'laws.FnExactCover', WHERE WHAT IT READS IS OF BULK AT MOST 1048576: true; the input reads as it did. -/
def fnExactCoverUptoRow : OpenClaim := { program := "ytflfbaofgfandaa", sum := "3cc6ead29c67e1e56bd5eab2c501b738044531016109beba7345d24dc52a7d46", func := "loop.example/g00681/laws.FnExactCover", spec := "fnExactCover", unfollowed := true, recurses := true, apart := false, narrowed := true }
def FnExactCoverUptoSaid : Prop := fnExactCoverUptoRow.holds Try.pinned (OpenSpec.upto fnExactCoverSpec)

end Rows
end Go.Proofs.Ytflfbaofgfandaa
