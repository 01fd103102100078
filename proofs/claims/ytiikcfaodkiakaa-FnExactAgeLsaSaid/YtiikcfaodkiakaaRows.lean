/-
  No cell of these rows narrows 'for every input' (looked for: loops, veiled, ifaces, maps, wideKeys, modest, calm, conditions, laid).
  DERIVED. THE GIVEN ROWS OF THIS SEAT. 10 by the template 'for every input the law returns true; each argument reads behind the call as it read before'; 0 by the template 'total and deterministic' (their statements: YtiikcfaodkiakaaTotals.lean).
  GIVEN WITH THE SEED: the statements are not yours to turn. If you find one false, say at which input.
  Laid BY PROGRAM, IN A SANDBOX (cutbox-rows.mjs): the forced cells as the released guide's own fill.sh prints them over the translation 77ed9ca0cd7e6473… (all of the seat's roots in one cut). By AI agents, Wed Nov 11 2026. No macro, syntax, notation, axiom, sorry.
-/
import Derived.Test.YtiikcfaodkiakaaChecked
import GoSem.Claim
import GoSem.ClaimJoined
import GoSem.ClaimMapViews
import Derived.JoinedTies
import Derived.KernelRfl
namespace Go.Proofs.Ytiikcfaodkiakaa
/- THE CELL 'sum', in the pinned program and in every row, IS THE sha256 OF THE DUMP (.gsa) THAT YtiikcfaodkiakaaProg.lean LOADS. Nothing in Lean hashes anything: it is a label: what it is worth is what the hold of that sum in a sandbox is worth. -/
noncomputable def Try.pinned : Pinned := { name := "ytiikcfaodkiakaa", sum := "77ed9ca0cd7e6473f3116c2f074ab6bab0ff5c3cb840cfa7f1a02c17029ea221", checked := Try.checked }
namespace Rows
def none {H : Type} : Left H := { results := [], args := [] }

/-- 'laws.FnExactLsaOk': WHATEVER THE INPUT: true; the input reads as it did. -/
def fnExactLsaOkSpec : ChangeSpec := { name := "fnExactLsaOk", fn := fun _ => fun
  | [d] => { results := [.lit (.bool true)], args := [d] }
  | _ => none }
def fnExactLsaOkRow : OpenClaim := { program := "ytiikcfaodkiakaa", sum := "77ed9ca0cd7e6473f3116c2f074ab6bab0ff5c3cb840cfa7f1a02c17029ea221", func := "loop.example/g00681/laws.FnExactLsaOk", spec := "fnExactLsaOk", apart := false }
def FnExactLsaOkSaid : Prop := fnExactLsaOkRow.holds Try.pinned (OpenSpec.ofChange fnExactLsaOkSpec)

/-- ITS FALSE NEIGHBOUR: 'it returns false'. Refute it at one input. -/
def fnExactLsaOkWrong : ChangeSpec := { name := "fnExactLsaOk", fn := fun _ => fun
  | [d] => { results := [.lit (.bool false)], args := [d] }
  | _ => none }
def FnExactLsaOkWrongFalsely : Prop := fnExactLsaOkRow.holds Try.pinned (OpenSpec.ofChange fnExactLsaOkWrong)

/-- 'laws.FnExactSameWords': WHATEVER THE INPUT: true; the input reads as it did. -/
def fnExactSameWordsSpec : ChangeSpec := { name := "fnExactSameWords", fn := fun _ => fun
  | [d1, d2] => { results := [.lit (.bool true)], args := [d1, d2] }
  | _ => none }
def fnExactSameWordsRow : OpenClaim := { program := "ytiikcfaodkiakaa", sum := "77ed9ca0cd7e6473f3116c2f074ab6bab0ff5c3cb840cfa7f1a02c17029ea221", func := "loop.example/g00681/laws.FnExactSameWords", spec := "fnExactSameWords", apart := false }
def FnExactSameWordsSaid : Prop := fnExactSameWordsRow.holds Try.pinned (OpenSpec.ofChange fnExactSameWordsSpec)

/-- ITS FALSE NEIGHBOUR: 'it returns false'. Refute it at one input. -/
def fnExactSameWordsWrong : ChangeSpec := { name := "fnExactSameWords", fn := fun _ => fun
  | [d1, d2] => { results := [.lit (.bool false)], args := [d1, d2] }
  | _ => none }
def FnExactSameWordsWrongFalsely : Prop := fnExactSameWordsRow.holds Try.pinned (OpenSpec.ofChange fnExactSameWordsWrong)

/-- 'laws.FnExactDbOk': WHATEVER THE INPUT: true; the input reads as it did. -/
def fnExactDbOkSpec : ChangeSpec := { name := "fnExactDbOk", fn := fun _ => fun
  | [d] => { results := [.lit (.bool true)], args := [d] }
  | _ => none }
def fnExactDbOkRow : OpenClaim := { program := "ytiikcfaodkiakaa", sum := "77ed9ca0cd7e6473f3116c2f074ab6bab0ff5c3cb840cfa7f1a02c17029ea221", func := "loop.example/g00681/laws.FnExactDbOk", spec := "fnExactDbOk", apart := false }
def FnExactDbOkSaid : Prop := fnExactDbOkRow.holds Try.pinned (OpenSpec.ofChange fnExactDbOkSpec)

/-- ITS FALSE NEIGHBOUR: 'it returns false'. Refute it at one input. -/
def fnExactDbOkWrong : ChangeSpec := { name := "fnExactDbOk", fn := fun _ => fun
  | [d] => { results := [.lit (.bool false)], args := [d] }
  | _ => none }
def FnExactDbOkWrongFalsely : Prop := fnExactDbOkRow.holds Try.pinned (OpenSpec.ofChange fnExactDbOkWrong)

/-- 'laws.FnExactLsaSum': WHATEVER THE INPUT: true; the input reads as it did. -/
def fnExactLsaSumSpec : ChangeSpec := { name := "fnExactLsaSum", fn := fun _ => fun
  | [d] => { results := [.lit (.bool true)], args := [d] }
  | _ => none }
def fnExactLsaSumRow : OpenClaim := { program := "ytiikcfaodkiakaa", sum := "77ed9ca0cd7e6473f3116c2f074ab6bab0ff5c3cb840cfa7f1a02c17029ea221", func := "loop.example/g00681/laws.FnExactLsaSum", spec := "fnExactLsaSum", apart := false }
def FnExactLsaSumSaid : Prop := fnExactLsaSumRow.holds Try.pinned (OpenSpec.ofChange fnExactLsaSumSpec)

/-- ITS FALSE NEIGHBOUR: 'it returns false'. Refute it at one input. -/
def fnExactLsaSumWrong : ChangeSpec := { name := "fnExactLsaSum", fn := fun _ => fun
  | [d] => { results := [.lit (.bool false)], args := [d] }
  | _ => none }
def FnExactLsaSumWrongFalsely : Prop := fnExactLsaSumRow.holds Try.pinned (OpenSpec.ofChange fnExactLsaSumWrong)

/-- 'laws.FnExactNextLsa': WHATEVER THE INPUT: true; the input reads as it did. -/
def fnExactNextLsaSpec : ChangeSpec := { name := "fnExactNextLsa", fn := fun _ => fun
  | [d1, d2, d3] => { results := [.lit (.bool true)], args := [d1, d2, d3] }
  | _ => none }
def fnExactNextLsaRow : OpenClaim := { program := "ytiikcfaodkiakaa", sum := "77ed9ca0cd7e6473f3116c2f074ab6bab0ff5c3cb840cfa7f1a02c17029ea221", func := "loop.example/g00681/laws.FnExactNextLsa", spec := "fnExactNextLsa", apart := false }
def FnExactNextLsaSaid : Prop := fnExactNextLsaRow.holds Try.pinned (OpenSpec.ofChange fnExactNextLsaSpec)

/-- ITS FALSE NEIGHBOUR: 'it returns false'. Refute it at one input. -/
def fnExactNextLsaWrong : ChangeSpec := { name := "fnExactNextLsa", fn := fun _ => fun
  | [d1, d2, d3] => { results := [.lit (.bool false)], args := [d1, d2, d3] }
  | _ => none }
def FnExactNextLsaWrongFalsely : Prop := fnExactNextLsaRow.holds Try.pinned (OpenSpec.ofChange fnExactNextLsaWrong)

/-- 'laws.FnExactAgeLsa': WHATEVER THE INPUT: true; the input reads as it did. -/
def fnExactAgeLsaSpec : ChangeSpec := { name := "fnExactAgeLsa", fn := fun _ => fun
  | [d1, d2] => { results := [.lit (.bool true)], args := [d1, d2] }
  | _ => none }
def fnExactAgeLsaRow : OpenClaim := { program := "ytiikcfaodkiakaa", sum := "77ed9ca0cd7e6473f3116c2f074ab6bab0ff5c3cb840cfa7f1a02c17029ea221", func := "loop.example/g00681/laws.FnExactAgeLsa", spec := "fnExactAgeLsa", apart := false }
def FnExactAgeLsaSaid : Prop := fnExactAgeLsaRow.holds Try.pinned (OpenSpec.ofChange fnExactAgeLsaSpec)

/-- ITS FALSE NEIGHBOUR: 'it returns false'. Refute it at one input. -/
def fnExactAgeLsaWrong : ChangeSpec := { name := "fnExactAgeLsa", fn := fun _ => fun
  | [d1, d2] => { results := [.lit (.bool false)], args := [d1, d2] }
  | _ => none }
def FnExactAgeLsaWrongFalsely : Prop := fnExactAgeLsaRow.holds Try.pinned (OpenSpec.ofChange fnExactAgeLsaWrong)

/-- 'laws.FnExactLsaBytes': WHATEVER THE INPUT: true; the input reads as it did. -/
def fnExactLsaBytesSpec : ChangeSpec := { name := "fnExactLsaBytes", fn := fun _ => fun
  | [d] => { results := [.lit (.bool true)], args := [d] }
  | _ => none }
def fnExactLsaBytesRow : OpenClaim := { program := "ytiikcfaodkiakaa", sum := "77ed9ca0cd7e6473f3116c2f074ab6bab0ff5c3cb840cfa7f1a02c17029ea221", func := "loop.example/g00681/laws.FnExactLsaBytes", spec := "fnExactLsaBytes", apart := false }
def FnExactLsaBytesSaid : Prop := fnExactLsaBytesRow.holds Try.pinned (OpenSpec.ofChange fnExactLsaBytesSpec)

/-- ITS FALSE NEIGHBOUR: 'it returns false'. Refute it at one input. -/
def fnExactLsaBytesWrong : ChangeSpec := { name := "fnExactLsaBytes", fn := fun _ => fun
  | [d] => { results := [.lit (.bool false)], args := [d] }
  | _ => none }
def FnExactLsaBytesWrongFalsely : Prop := fnExactLsaBytesRow.holds Try.pinned (OpenSpec.ofChange fnExactLsaBytesWrong)

/-- 'laws.FnExactPutLsa': WHATEVER THE INPUT: true; the input reads as it did. -/
def fnExactPutLsaSpec : ChangeSpec := { name := "fnExactPutLsa", fn := fun _ => fun
  | [d] => { results := [.lit (.bool true)], args := [d] }
  | _ => none }
def fnExactPutLsaRow : OpenClaim := { program := "ytiikcfaodkiakaa", sum := "77ed9ca0cd7e6473f3116c2f074ab6bab0ff5c3cb840cfa7f1a02c17029ea221", func := "loop.example/g00681/laws.FnExactPutLsa", spec := "fnExactPutLsa", apart := false }
def FnExactPutLsaSaid : Prop := fnExactPutLsaRow.holds Try.pinned (OpenSpec.ofChange fnExactPutLsaSpec)

/-- ITS FALSE NEIGHBOUR: 'it returns false'. Refute it at one input. -/
def fnExactPutLsaWrong : ChangeSpec := { name := "fnExactPutLsa", fn := fun _ => fun
  | [d] => { results := [.lit (.bool false)], args := [d] }
  | _ => none }
def FnExactPutLsaWrongFalsely : Prop := fnExactPutLsaRow.holds Try.pinned (OpenSpec.ofChange fnExactPutLsaWrong)

/-- 'laws.FnExactNewer': WHATEVER THE INPUT: true; the input reads as it did. -/
def fnExactNewerSpec : ChangeSpec := { name := "fnExactNewer", fn := fun _ => fun
  | [d1, d2] => { results := [.lit (.bool true)], args := [d1, d2] }
  | _ => none }
def fnExactNewerRow : OpenClaim := { program := "ytiikcfaodkiakaa", sum := "77ed9ca0cd7e6473f3116c2f074ab6bab0ff5c3cb840cfa7f1a02c17029ea221", func := "loop.example/g00681/laws.FnExactNewer", spec := "fnExactNewer", unfollowed := true, recurses := true, apart := false }
def FnExactNewerSaid : Prop := fnExactNewerRow.holds Try.pinned (OpenSpec.ofChange fnExactNewerSpec)

/-- ITS FALSE NEIGHBOUR: 'it returns false'. Refute it at one input. -/
def fnExactNewerWrong : ChangeSpec := { name := "fnExactNewer", fn := fun _ => fun
  | [d1, d2] => { results := [.lit (.bool false)], args := [d1, d2] }
  | _ => none }
def FnExactNewerWrongFalsely : Prop := fnExactNewerRow.holds Try.pinned (OpenSpec.ofChange fnExactNewerWrong)

/-- 'laws.FnExactDbSum': WHATEVER THE INPUT: true; the input reads as it did. -/
def fnExactDbSumSpec : ChangeSpec := { name := "fnExactDbSum", fn := fun _ => fun
  | [d] => { results := [.lit (.bool true)], args := [d] }
  | _ => none }
def fnExactDbSumRow : OpenClaim := { program := "ytiikcfaodkiakaa", sum := "77ed9ca0cd7e6473f3116c2f074ab6bab0ff5c3cb840cfa7f1a02c17029ea221", func := "loop.example/g00681/laws.FnExactDbSum", spec := "fnExactDbSum", apart := false }
def FnExactDbSumSaid : Prop := fnExactDbSumRow.holds Try.pinned (OpenSpec.ofChange fnExactDbSumSpec)

/-- ITS FALSE NEIGHBOUR: 'it returns false'. Refute it at one input. -/
def fnExactDbSumWrong : ChangeSpec := { name := "fnExactDbSum", fn := fun _ => fun
  | [d] => { results := [.lit (.bool false)], args := [d] }
  | _ => none }
def FnExactDbSumWrongFalsely : Prop := fnExactDbSumRow.holds Try.pinned (OpenSpec.ofChange fnExactDbSumWrong)

/- THE SECOND FORM. 'bulk': how many values and letters a reading holds, each counted each time it is reached (what is shared counts as often as it is met; a slice's spare places count too). A statement '..UptoSaid' is the law's where the arguments, and the package variables that the reading takes, are together of bulk at most 1048576: NARROWER than '..Said'. Prove '..Said' where nothing that the law and all that it calls make is longer than what came in: it says more and counts as full. Else prove '..UptoSaid'. A law counts once. -/
mutual
def uptoBulk {H : Type} : DataW H → Nat
  | .lit (.string bytes) => bytes.length + 1
  | .lit _ => 1
  | .nil => 1
  | .ptr d => uptoBulk d + 1
  | .slice elems spare => uptoBulkAll elems + uptoBulkAll spare + 1
  | .agg parts => uptoBulkAll parts + 1
  | .iface _ d => uptoBulk d + 1
  | .map entries => uptoBulkEntries entries + 1
  | .held _ => 1
def uptoBulkAll {H : Type} : List (DataW H) → Nat
  | [] => 0
  | d :: r => uptoBulk d + uptoBulkAll r
def uptoBulkEntries {H : Type} : List (Lit × DataW H) → Nat
  | [] => 0
  | x :: r => uptoBulkEntry x + uptoBulkEntries r
def uptoBulkEntry {H : Type} : Lit × DataW H → Nat
  | (.string bytes, d) => bytes.length + uptoBulk d + 1
  | (_, d) => uptoBulk d + 1
 end
def uptoSmall : (H : Type) → List (DataW H) → Bool := fun _ ds => decide (uptoBulkAll ds ≤ 1048576)
def OpenSpec.upto (s : _root_.Go.ChangeSpec) : _root_.Go.OpenSpec := { _root_.Go.OpenSpec.ofChange s with cond := some uptoSmall }

/-- 'laws.FnExactLsaOk', WHERE WHAT IT READS IS OF BULK AT MOST 1048576: true; the input reads as it did. -/
def fnExactLsaOkUptoRow : OpenClaim := { program := "ytiikcfaodkiakaa", sum := "77ed9ca0cd7e6473f3116c2f074ab6bab0ff5c3cb840cfa7f1a02c17029ea221", func := "loop.example/g00681/laws.FnExactLsaOk", spec := "fnExactLsaOk", apart := false, narrowed := true }
def FnExactLsaOkUptoSaid : Prop := fnExactLsaOkUptoRow.holds Try.pinned (OpenSpec.upto fnExactLsaOkSpec)

/-- 'laws.FnExactSameWords', WHERE WHAT IT READS IS OF BULK AT MOST 1048576: true; the input reads as it did. -/
def fnExactSameWordsUptoRow : OpenClaim := { program := "ytiikcfaodkiakaa", sum := "77ed9ca0cd7e6473f3116c2f074ab6bab0ff5c3cb840cfa7f1a02c17029ea221", func := "loop.example/g00681/laws.FnExactSameWords", spec := "fnExactSameWords", apart := false, narrowed := true }
def FnExactSameWordsUptoSaid : Prop := fnExactSameWordsUptoRow.holds Try.pinned (OpenSpec.upto fnExactSameWordsSpec)

/-- 'laws.FnExactDbOk', WHERE WHAT IT READS IS OF BULK AT MOST 1048576: true; the input reads as it did. -/
def fnExactDbOkUptoRow : OpenClaim := { program := "ytiikcfaodkiakaa", sum := "77ed9ca0cd7e6473f3116c2f074ab6bab0ff5c3cb840cfa7f1a02c17029ea221", func := "loop.example/g00681/laws.FnExactDbOk", spec := "fnExactDbOk", apart := false, narrowed := true }
def FnExactDbOkUptoSaid : Prop := fnExactDbOkUptoRow.holds Try.pinned (OpenSpec.upto fnExactDbOkSpec)

/-- 'laws.FnExactLsaSum', WHERE WHAT IT READS IS OF BULK AT MOST 1048576: true; the input reads as it did. -/
def fnExactLsaSumUptoRow : OpenClaim := { program := "ytiikcfaodkiakaa", sum := "77ed9ca0cd7e6473f3116c2f074ab6bab0ff5c3cb840cfa7f1a02c17029ea221", func := "loop.example/g00681/laws.FnExactLsaSum", spec := "fnExactLsaSum", apart := false, narrowed := true }
def FnExactLsaSumUptoSaid : Prop := fnExactLsaSumUptoRow.holds Try.pinned (OpenSpec.upto fnExactLsaSumSpec)

/-- 'laws.FnExactNextLsa', WHERE WHAT IT READS IS OF BULK AT MOST 1048576: true; the input reads as it did. -/
def fnExactNextLsaUptoRow : OpenClaim := { program := "ytiikcfaodkiakaa", sum := "77ed9ca0cd7e6473f3116c2f074ab6bab0ff5c3cb840cfa7f1a02c17029ea221", func := "loop.example/g00681/laws.FnExactNextLsa", spec := "fnExactNextLsa", apart := false, narrowed := true }
def FnExactNextLsaUptoSaid : Prop := fnExactNextLsaUptoRow.holds Try.pinned (OpenSpec.upto fnExactNextLsaSpec)

/-- 'laws.FnExactAgeLsa', WHERE WHAT IT READS IS OF BULK AT MOST 1048576: true; the input reads as it did. -/
def fnExactAgeLsaUptoRow : OpenClaim := { program := "ytiikcfaodkiakaa", sum := "77ed9ca0cd7e6473f3116c2f074ab6bab0ff5c3cb840cfa7f1a02c17029ea221", func := "loop.example/g00681/laws.FnExactAgeLsa", spec := "fnExactAgeLsa", apart := false, narrowed := true }
def FnExactAgeLsaUptoSaid : Prop := fnExactAgeLsaUptoRow.holds Try.pinned (OpenSpec.upto fnExactAgeLsaSpec)

/-- 'laws.FnExactLsaBytes', WHERE WHAT IT READS IS OF BULK AT MOST 1048576: true; the input reads as it did. -/
def fnExactLsaBytesUptoRow : OpenClaim := { program := "ytiikcfaodkiakaa", sum := "77ed9ca0cd7e6473f3116c2f074ab6bab0ff5c3cb840cfa7f1a02c17029ea221", func := "loop.example/g00681/laws.FnExactLsaBytes", spec := "fnExactLsaBytes", apart := false, narrowed := true }
def FnExactLsaBytesUptoSaid : Prop := fnExactLsaBytesUptoRow.holds Try.pinned (OpenSpec.upto fnExactLsaBytesSpec)

/-- 'laws.FnExactPutLsa', WHERE WHAT IT READS IS OF BULK AT MOST 1048576: true; the input reads as it did. -/
def fnExactPutLsaUptoRow : OpenClaim := { program := "ytiikcfaodkiakaa", sum := "77ed9ca0cd7e6473f3116c2f074ab6bab0ff5c3cb840cfa7f1a02c17029ea221", func := "loop.example/g00681/laws.FnExactPutLsa", spec := "fnExactPutLsa", apart := false, narrowed := true }
def FnExactPutLsaUptoSaid : Prop := fnExactPutLsaUptoRow.holds Try.pinned (OpenSpec.upto fnExactPutLsaSpec)

/-- 'laws.FnExactNewer', WHERE WHAT IT READS IS OF BULK AT MOST 1048576: true; the input reads as it did. -/
def fnExactNewerUptoRow : OpenClaim := { program := "ytiikcfaodkiakaa", sum := "77ed9ca0cd7e6473f3116c2f074ab6bab0ff5c3cb840cfa7f1a02c17029ea221", func := "loop.example/g00681/laws.FnExactNewer", spec := "fnExactNewer", unfollowed := true, recurses := true, apart := false, narrowed := true }
def FnExactNewerUptoSaid : Prop := fnExactNewerUptoRow.holds Try.pinned (OpenSpec.upto fnExactNewerSpec)

/-- 'laws.FnExactDbSum', WHERE WHAT IT READS IS OF BULK AT MOST 1048576: true; the input reads as it did. -/
def fnExactDbSumUptoRow : OpenClaim := { program := "ytiikcfaodkiakaa", sum := "77ed9ca0cd7e6473f3116c2f074ab6bab0ff5c3cb840cfa7f1a02c17029ea221", func := "loop.example/g00681/laws.FnExactDbSum", spec := "fnExactDbSum", apart := false, narrowed := true }
def FnExactDbSumUptoSaid : Prop := fnExactDbSumUptoRow.holds Try.pinned (OpenSpec.upto fnExactDbSumSpec)

end Rows
end Go.Proofs.Ytiikcfaodkiakaa
