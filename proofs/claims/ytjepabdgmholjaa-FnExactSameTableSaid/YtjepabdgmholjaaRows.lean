/-
  No cell of these rows narrows 'for every input' (looked for: loops, veiled, ifaces, maps, wideKeys, modest, calm, conditions, laid).
  DERIVED. THE GIVEN ROWS OF THIS SEAT. 9 by the template 'for every input the law returns true; each argument reads behind the call as it read before'; 0 by the template 'total and deterministic' (their statements: YtjepabdgmholjaaTotals.lean).
  GIVEN WITH THE SEED: the statements are not yours to turn. If you find one false, say at which input.
  Laid BY PROGRAM, IN A SANDBOX (cutbox-rows.mjs): the forced cells as the released guide's own fill.sh prints them over the translation 679eee07af7887fc… (all of the seat's roots in one cut). By AI agents, Wed Nov 11 2026. No macro, syntax, notation, axiom, sorry.
-/
import Derived.Test.YtjepabdgmholjaaChecked
import GoSem.Claim
import GoSem.ClaimJoined
import GoSem.ClaimMapViews
import Derived.JoinedTies
import Derived.KernelRfl
namespace Go.Proofs.Ytjepabdgmholjaa
/- THE CELL 'sum', in the pinned program and in every row, IS THE sha256 OF THE DUMP (.gsa) THAT YtjepabdgmholjaaProg.lean LOADS. Nothing in Lean hashes anything: it is a label: what it is worth is what the hold of that sum in a sandbox is worth. -/
noncomputable def Try.pinned : Pinned := { name := "ytjepabdgmholjaa", sum := "679eee07af7887fc0ff083bc93f17f45fc39c51da21959dc06d712bfb9fd6a1d", checked := Try.checked }
namespace Rows
def none {H : Type} : Left H := { results := [], args := [] }

/-- 'laws.FnExactBestRoute': WHATEVER THE INPUT: true; the input reads as it did. -/
def fnExactBestRouteSpec : ChangeSpec := { name := "fnExactBestRoute", fn := fun _ => fun
  | [d1, d2] => { results := [.lit (.bool true)], args := [d1, d2] }
  | _ => none }
def fnExactBestRouteRow : OpenClaim := { program := "ytjepabdgmholjaa", sum := "679eee07af7887fc0ff083bc93f17f45fc39c51da21959dc06d712bfb9fd6a1d", func := "loop.example/g00681/laws.FnExactBestRoute", spec := "fnExactBestRoute", apart := false }
def FnExactBestRouteSaid : Prop := fnExactBestRouteRow.holds Try.pinned (OpenSpec.ofChange fnExactBestRouteSpec)

/-- ITS FALSE NEIGHBOUR: 'it returns false'. Refute it at one input. -/
def fnExactBestRouteWrong : ChangeSpec := { name := "fnExactBestRoute", fn := fun _ => fun
  | [d1, d2] => { results := [.lit (.bool false)], args := [d1, d2] }
  | _ => none }
def FnExactBestRouteWrongFalsely : Prop := fnExactBestRouteRow.holds Try.pinned (OpenSpec.ofChange fnExactBestRouteWrong)

/-- 'laws.FnExactFindHop': WHATEVER THE INPUT: true; the input reads as it did. -/
def fnExactFindHopSpec : ChangeSpec := { name := "fnExactFindHop", fn := fun _ => fun
  | [d1, d2] => { results := [.lit (.bool true)], args := [d1, d2] }
  | _ => none }
def fnExactFindHopRow : OpenClaim := { program := "ytjepabdgmholjaa", sum := "679eee07af7887fc0ff083bc93f17f45fc39c51da21959dc06d712bfb9fd6a1d", func := "loop.example/g00681/laws.FnExactFindHop", spec := "fnExactFindHop", apart := false }
def FnExactFindHopSaid : Prop := fnExactFindHopRow.holds Try.pinned (OpenSpec.ofChange fnExactFindHopSpec)

/-- ITS FALSE NEIGHBOUR: 'it returns false'. Refute it at one input. -/
def fnExactFindHopWrong : ChangeSpec := { name := "fnExactFindHop", fn := fun _ => fun
  | [d1, d2] => { results := [.lit (.bool false)], args := [d1, d2] }
  | _ => none }
def FnExactFindHopWrongFalsely : Prop := fnExactFindHopRow.holds Try.pinned (OpenSpec.ofChange fnExactFindHopWrong)

/-- 'laws.FnExactDropRoute': WHATEVER THE INPUT: true; the input reads as it did. -/
def fnExactDropRouteSpec : ChangeSpec := { name := "fnExactDropRoute", fn := fun _ => fun
  | [d1, d2] => { results := [.lit (.bool true)], args := [d1, d2] }
  | _ => none }
def fnExactDropRouteRow : OpenClaim := { program := "ytjepabdgmholjaa", sum := "679eee07af7887fc0ff083bc93f17f45fc39c51da21959dc06d712bfb9fd6a1d", func := "loop.example/g00681/laws.FnExactDropRoute", spec := "fnExactDropRoute", unfollowed := true, recurses := true, apart := false }
def FnExactDropRouteSaid : Prop := fnExactDropRouteRow.holds Try.pinned (OpenSpec.ofChange fnExactDropRouteSpec)

/-- ITS FALSE NEIGHBOUR: 'it returns false'. Refute it at one input. -/
def fnExactDropRouteWrong : ChangeSpec := { name := "fnExactDropRoute", fn := fun _ => fun
  | [d1, d2] => { results := [.lit (.bool false)], args := [d1, d2] }
  | _ => none }
def FnExactDropRouteWrongFalsely : Prop := fnExactDropRouteRow.holds Try.pinned (OpenSpec.ofChange fnExactDropRouteWrong)

/-- 'laws.FnExactPutRoute': WHATEVER THE INPUT: true; the input reads as it did. -/
def fnExactPutRouteSpec : ChangeSpec := { name := "fnExactPutRoute", fn := fun _ => fun
  | [d1, d2] => { results := [.lit (.bool true)], args := [d1, d2] }
  | _ => none }
def fnExactPutRouteRow : OpenClaim := { program := "ytjepabdgmholjaa", sum := "679eee07af7887fc0ff083bc93f17f45fc39c51da21959dc06d712bfb9fd6a1d", func := "loop.example/g00681/laws.FnExactPutRoute", spec := "fnExactPutRoute", inPlace := ["slices.overlaps[loop.example/g00681/impl.Route]"], unfollowed := true, recurses := true, apart := false }
def FnExactPutRouteSaid : Prop := fnExactPutRouteRow.holds Try.pinned (OpenSpec.ofChange fnExactPutRouteSpec)

/-- ITS FALSE NEIGHBOUR: 'it returns false'. Refute it at one input. -/
def fnExactPutRouteWrong : ChangeSpec := { name := "fnExactPutRoute", fn := fun _ => fun
  | [d1, d2] => { results := [.lit (.bool false)], args := [d1, d2] }
  | _ => none }
def FnExactPutRouteWrongFalsely : Prop := fnExactPutRouteRow.holds Try.pinned (OpenSpec.ofChange fnExactPutRouteWrong)

/-- 'laws.FnExactSameTable': WHATEVER THE INPUT: true; the input reads as it did. -/
def fnExactSameTableSpec : ChangeSpec := { name := "fnExactSameTable", fn := fun _ => fun
  | [d1, d2] => { results := [.lit (.bool true)], args := [d1, d2] }
  | _ => none }
def fnExactSameTableRow : OpenClaim := { program := "ytjepabdgmholjaa", sum := "679eee07af7887fc0ff083bc93f17f45fc39c51da21959dc06d712bfb9fd6a1d", func := "loop.example/g00681/laws.FnExactSameTable", spec := "fnExactSameTable", unfollowed := true, recurses := true, apart := false }
def FnExactSameTableSaid : Prop := fnExactSameTableRow.holds Try.pinned (OpenSpec.ofChange fnExactSameTableSpec)

/-- ITS FALSE NEIGHBOUR: 'it returns false'. Refute it at one input. -/
def fnExactSameTableWrong : ChangeSpec := { name := "fnExactSameTable", fn := fun _ => fun
  | [d1, d2] => { results := [.lit (.bool false)], args := [d1, d2] }
  | _ => none }
def FnExactSameTableWrongFalsely : Prop := fnExactSameTableRow.holds Try.pinned (OpenSpec.ofChange fnExactSameTableWrong)

/-- 'laws.FnExactSqueeze': WHATEVER THE INPUT: true; the input reads as it did. -/
def fnExactSqueezeSpec : ChangeSpec := { name := "fnExactSqueeze", fn := fun _ => fun
  | [d] => { results := [.lit (.bool true)], args := [d] }
  | _ => none }
def fnExactSqueezeRow : OpenClaim := { program := "ytjepabdgmholjaa", sum := "679eee07af7887fc0ff083bc93f17f45fc39c51da21959dc06d712bfb9fd6a1d", func := "loop.example/g00681/laws.FnExactSqueeze", spec := "fnExactSqueeze", unfollowed := true, recurses := true, apart := false }
def FnExactSqueezeSaid : Prop := fnExactSqueezeRow.holds Try.pinned (OpenSpec.ofChange fnExactSqueezeSpec)

/-- ITS FALSE NEIGHBOUR: 'it returns false'. Refute it at one input. -/
def fnExactSqueezeWrong : ChangeSpec := { name := "fnExactSqueeze", fn := fun _ => fun
  | [d] => { results := [.lit (.bool false)], args := [d] }
  | _ => none }
def FnExactSqueezeWrongFalsely : Prop := fnExactSqueezeRow.holds Try.pinned (OpenSpec.ofChange fnExactSqueezeWrong)

/-- 'laws.FnExactTableSpans': WHATEVER THE INPUT: true; the input reads as it did. -/
def fnExactTableSpansSpec : ChangeSpec := { name := "fnExactTableSpans", fn := fun _ => fun
  | [d] => { results := [.lit (.bool true)], args := [d] }
  | _ => none }
def fnExactTableSpansRow : OpenClaim := { program := "ytjepabdgmholjaa", sum := "679eee07af7887fc0ff083bc93f17f45fc39c51da21959dc06d712bfb9fd6a1d", func := "loop.example/g00681/laws.FnExactTableSpans", spec := "fnExactTableSpans", unfollowed := true, recurses := true, apart := false }
def FnExactTableSpansSaid : Prop := fnExactTableSpansRow.holds Try.pinned (OpenSpec.ofChange fnExactTableSpansSpec)

/-- ITS FALSE NEIGHBOUR: 'it returns false'. Refute it at one input. -/
def fnExactTableSpansWrong : ChangeSpec := { name := "fnExactTableSpans", fn := fun _ => fun
  | [d] => { results := [.lit (.bool false)], args := [d] }
  | _ => none }
def FnExactTableSpansWrongFalsely : Prop := fnExactTableSpansRow.holds Try.pinned (OpenSpec.ofChange fnExactTableSpansWrong)

/-- 'laws.FnRoutes': WHATEVER THE INPUT: true; the input reads as it did. -/
def fnRoutesSpec : ChangeSpec := { name := "fnRoutes", fn := fun _ => fun
  | [d] => { results := [.lit (.bool true)], args := [d] }
  | _ => none }
def fnRoutesRow : OpenClaim := { program := "ytjepabdgmholjaa", sum := "679eee07af7887fc0ff083bc93f17f45fc39c51da21959dc06d712bfb9fd6a1d", func := "loop.example/g00681/laws.FnRoutes", spec := "fnRoutes", inPlace := ["slices.overlaps[loop.example/g00681/impl.Route]"], unfollowed := true, recurses := true, apart := false }
def FnRoutesSaid : Prop := fnRoutesRow.holds Try.pinned (OpenSpec.ofChange fnRoutesSpec)

/-- ITS FALSE NEIGHBOUR: 'it returns false'. Refute it at one input. -/
def fnRoutesWrong : ChangeSpec := { name := "fnRoutes", fn := fun _ => fun
  | [d] => { results := [.lit (.bool false)], args := [d] }
  | _ => none }
def FnRoutesWrongFalsely : Prop := fnRoutesRow.holds Try.pinned (OpenSpec.ofChange fnRoutesWrong)

/-- 'laws.FnSqueezed': WHATEVER THE INPUT: true; the input reads as it did. -/
def fnSqueezedSpec : ChangeSpec := { name := "fnSqueezed", fn := fun _ => fun
  | [d] => { results := [.lit (.bool true)], args := [d] }
  | _ => none }
def fnSqueezedRow : OpenClaim := { program := "ytjepabdgmholjaa", sum := "679eee07af7887fc0ff083bc93f17f45fc39c51da21959dc06d712bfb9fd6a1d", func := "loop.example/g00681/laws.FnSqueezed", spec := "fnSqueezed", unfollowed := true, recurses := true, apart := false }
def FnSqueezedSaid : Prop := fnSqueezedRow.holds Try.pinned (OpenSpec.ofChange fnSqueezedSpec)

/-- ITS FALSE NEIGHBOUR: 'it returns false'. Refute it at one input. -/
def fnSqueezedWrong : ChangeSpec := { name := "fnSqueezed", fn := fun _ => fun
  | [d] => { results := [.lit (.bool false)], args := [d] }
  | _ => none }
def FnSqueezedWrongFalsely : Prop := fnSqueezedRow.holds Try.pinned (OpenSpec.ofChange fnSqueezedWrong)

/- THE SECOND FORM. 'bulk': how many values and letters a reading holds, each counted each time it is reached (what is shared counts as often as it is met; a slice's spare places count too). A statement '..UptoSaid' is the law's where the arguments, and the package variables that the reading takes, are together of bulk at most 1048576: NARROWER than '..Said'. Prove '..Said' where nothing that the law and all that it calls make is longer than what came in: it says more and counts as full. Else prove '..UptoSaid'. A law counts once. -/
mutual
def uptoBulk {H : Type} : DataW H → Nat
  | .lit (.string bytes) => bytes.length + 1
  | .lit _ => 1
  | .nil => 1
  | .ptr d => uptoBulk d + 1
  | .slice elems spare => uptoBulkAll elems + uptoBulkAll spare + 1
  | .agg parts => uptoBulkAll parts + 1
  | .iface _ d => uptoBulk d + 1
  | .map entries => uptoBulkEntries entries + 1
  | .held _ => 1
def uptoBulkAll {H : Type} : List (DataW H) → Nat
  | [] => 0
  | d :: r => uptoBulk d + uptoBulkAll r
def uptoBulkEntries {H : Type} : List (Lit × DataW H) → Nat
  | [] => 0
  | x :: r => uptoBulkEntry x + uptoBulkEntries r
def uptoBulkEntry {H : Type} : Lit × DataW H → Nat
  | (.string bytes, d) => bytes.length + uptoBulk d + 1
  | (_, d) => uptoBulk d + 1
 end
def uptoSmall : (H : Type) → List (DataW H) → Bool := fun _ ds => decide (uptoBulkAll ds ≤ 1048576)
def OpenSpec.upto (s : _root_.Go.ChangeSpec) : _root_.Go.OpenSpec := { _root_.Go.OpenSpec.ofChange s with cond := some uptoSmall }

/-- 'laws.FnExactBestRoute', WHERE WHAT IT READS IS OF BULK AT MOST 1048576: true; the input reads as it did. -/
def fnExactBestRouteUptoRow : OpenClaim := { program := "ytjepabdgmholjaa", sum := "679eee07af7887fc0ff083bc93f17f45fc39c51da21959dc06d712bfb9fd6a1d", func := "loop.example/g00681/laws.FnExactBestRoute", spec := "fnExactBestRoute", apart := false, narrowed := true }
def FnExactBestRouteUptoSaid : Prop := fnExactBestRouteUptoRow.holds Try.pinned (OpenSpec.upto fnExactBestRouteSpec)

/-- 'laws.FnExactFindHop', WHERE WHAT IT READS IS OF BULK AT MOST 1048576: true; the input reads as it did. -/
def fnExactFindHopUptoRow : OpenClaim := { program := "ytjepabdgmholjaa", sum := "679eee07af7887fc0ff083bc93f17f45fc39c51da21959dc06d712bfb9fd6a1d", func := "loop.example/g00681/laws.FnExactFindHop", spec := "fnExactFindHop", apart := false, narrowed := true }
def FnExactFindHopUptoSaid : Prop := fnExactFindHopUptoRow.holds Try.pinned (OpenSpec.upto fnExactFindHopSpec)

/-- 'laws.FnExactDropRoute', WHERE WHAT IT READS IS OF BULK AT MOST 1048576: true; the input reads as it did. -/
def fnExactDropRouteUptoRow : OpenClaim := { program := "ytjepabdgmholjaa", sum := "679eee07af7887fc0ff083bc93f17f45fc39c51da21959dc06d712bfb9fd6a1d", func := "loop.example/g00681/laws.FnExactDropRoute", spec := "fnExactDropRoute", unfollowed := true, recurses := true, apart := false, narrowed := true }
def FnExactDropRouteUptoSaid : Prop := fnExactDropRouteUptoRow.holds Try.pinned (OpenSpec.upto fnExactDropRouteSpec)

/-- 'laws.FnExactPutRoute', WHERE WHAT IT READS IS OF BULK AT MOST 1048576: true; the input reads as it did. -/
def fnExactPutRouteUptoRow : OpenClaim := { program := "ytjepabdgmholjaa", sum := "679eee07af7887fc0ff083bc93f17f45fc39c51da21959dc06d712bfb9fd6a1d", func := "loop.example/g00681/laws.FnExactPutRoute", spec := "fnExactPutRoute", inPlace := ["slices.overlaps[loop.example/g00681/impl.Route]"], unfollowed := true, recurses := true, apart := false, narrowed := true }
def FnExactPutRouteUptoSaid : Prop := fnExactPutRouteUptoRow.holds Try.pinned (OpenSpec.upto fnExactPutRouteSpec)

/-- 'laws.FnExactSameTable', WHERE WHAT IT READS IS OF BULK AT MOST 1048576: true; the input reads as it did. -/
def fnExactSameTableUptoRow : OpenClaim := { program := "ytjepabdgmholjaa", sum := "679eee07af7887fc0ff083bc93f17f45fc39c51da21959dc06d712bfb9fd6a1d", func := "loop.example/g00681/laws.FnExactSameTable", spec := "fnExactSameTable", unfollowed := true, recurses := true, apart := false, narrowed := true }
def FnExactSameTableUptoSaid : Prop := fnExactSameTableUptoRow.holds Try.pinned (OpenSpec.upto fnExactSameTableSpec)

/-- 'laws.FnExactSqueeze', WHERE WHAT IT READS IS OF BULK AT MOST 1048576: true; the input reads as it did. -/
def fnExactSqueezeUptoRow : OpenClaim := { program := "ytjepabdgmholjaa", sum := "679eee07af7887fc0ff083bc93f17f45fc39c51da21959dc06d712bfb9fd6a1d", func := "loop.example/g00681/laws.FnExactSqueeze", spec := "fnExactSqueeze", unfollowed := true, recurses := true, apart := false, narrowed := true }
def FnExactSqueezeUptoSaid : Prop := fnExactSqueezeUptoRow.holds Try.pinned (OpenSpec.upto fnExactSqueezeSpec)

/-- 'laws.FnExactTableSpans', WHERE WHAT IT READS IS OF BULK AT MOST 1048576: true; the input reads as it did. -/
def fnExactTableSpansUptoRow : OpenClaim := { program := "ytjepabdgmholjaa", sum := "679eee07af7887fc0ff083bc93f17f45fc39c51da21959dc06d712bfb9fd6a1d", func := "loop.example/g00681/laws.FnExactTableSpans", spec := "fnExactTableSpans", unfollowed := true, recurses := true, apart := false, narrowed := true }
def FnExactTableSpansUptoSaid : Prop := fnExactTableSpansUptoRow.holds Try.pinned (OpenSpec.upto fnExactTableSpansSpec)

/-- 'laws.FnRoutes', WHERE WHAT IT READS IS OF BULK AT MOST 1048576: true; the input reads as it did. -/
def fnRoutesUptoRow : OpenClaim := { program := "ytjepabdgmholjaa", sum := "679eee07af7887fc0ff083bc93f17f45fc39c51da21959dc06d712bfb9fd6a1d", func := "loop.example/g00681/laws.FnRoutes", spec := "fnRoutes", inPlace := ["slices.overlaps[loop.example/g00681/impl.Route]"], unfollowed := true, recurses := true, apart := false, narrowed := true }
def FnRoutesUptoSaid : Prop := fnRoutesUptoRow.holds Try.pinned (OpenSpec.upto fnRoutesSpec)

/-- 'laws.FnSqueezed', WHERE WHAT IT READS IS OF BULK AT MOST 1048576: true; the input reads as it did. -/
def fnSqueezedUptoRow : OpenClaim := { program := "ytjepabdgmholjaa", sum := "679eee07af7887fc0ff083bc93f17f45fc39c51da21959dc06d712bfb9fd6a1d", func := "loop.example/g00681/laws.FnSqueezed", spec := "fnSqueezed", unfollowed := true, recurses := true, apart := false, narrowed := true }
def FnSqueezedUptoSaid : Prop := fnSqueezedUptoRow.holds Try.pinned (OpenSpec.upto fnSqueezedSpec)

end Rows
end Go.Proofs.Ytjepabdgmholjaa
