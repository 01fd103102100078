/-
  No cell of these rows narrows 'for every input' (looked for: loops, veiled, ifaces, maps, wideKeys, modest, calm, conditions, laid).
  DERIVED. THE GIVEN ROWS OF THIS SEAT. 11 by the template 'for every input the law returns true; each argument reads behind the call as it read before'; 0 by the template 'total and deterministic' (their statements: YtinmdckpljnpcaaTotals.lean).
  GIVEN WITH THE SEED: the statements are not yours to turn. If you find one false, say at which input.
  Laid BY PROGRAM, IN A SANDBOX (cutbox-rows.mjs): the forced cells as the released guide's own fill.sh prints them over the translation 50aac909edd86ad7… (all of the seat's roots in one cut). By AI agents, Wed Nov 11 2026. No macro, syntax, notation, axiom, sorry.
-/
import Derived.Test.YtinmdckpljnpcaaChecked
import GoSem.Claim
import GoSem.ClaimJoined
import GoSem.ClaimMapViews
import Derived.JoinedTies
import Derived.KernelRfl
namespace Go.Proofs.Ytinmdckpljnpcaa
/- THE CELL 'sum', in the pinned program and in every row, IS THE sha256 OF THE DUMP (.gsa) THAT YtinmdckpljnpcaaProg.lean LOADS. Nothing in Lean hashes anything: it is a label: what it is worth is what the hold of that sum in a sandbox is worth. -/
noncomputable def Try.pinned : Pinned := { name := "ytinmdckpljnpcaa", sum := "50aac909edd86ad7a87cb66a02b3f2d4f0a8af561a121d2ad849cbbb752347fd", checked := Try.checked }
namespace Rows
def none {H : Type} : Left H := { results := [], args := [] }

/-- 'laws.FnExactConstants': WHATEVER THE INPUT: true; the input reads as it did. -/
def fnExactConstantsSpec : ChangeSpec := { name := "fnExactConstants", fn := fun _ => fun
  | [] => { results := [.lit (.bool true)], args := [] }
  | _ => none }
def fnExactConstantsRow : OpenClaim := { program := "ytinmdckpljnpcaa", sum := "50aac909edd86ad7a87cb66a02b3f2d4f0a8af561a121d2ad849cbbb752347fd", func := "loop.example/g00681/laws.FnExactConstants", spec := "fnExactConstants", apart := false }
def FnExactConstantsSaid : Prop := fnExactConstantsRow.holds Try.pinned (OpenSpec.ofChange fnExactConstantsSpec)

/-- ITS FALSE NEIGHBOUR: 'it returns false'. Refute it at one input. -/
def fnExactConstantsWrong : ChangeSpec := { name := "fnExactConstants", fn := fun _ => fun
  | [] => { results := [.lit (.bool false)], args := [] }
  | _ => none }
def FnExactConstantsWrongFalsely : Prop := fnExactConstantsRow.holds Try.pinned (OpenSpec.ofChange fnExactConstantsWrong)

/-- 'laws.FnExactPrefixOk': WHATEVER THE INPUT: true; the input reads as it did. -/
def fnExactPrefixOkSpec : ChangeSpec := { name := "fnExactPrefixOk", fn := fun _ => fun
  | [d] => { results := [.lit (.bool true)], args := [d] }
  | _ => none }
def fnExactPrefixOkRow : OpenClaim := { program := "ytinmdckpljnpcaa", sum := "50aac909edd86ad7a87cb66a02b3f2d4f0a8af561a121d2ad849cbbb752347fd", func := "loop.example/g00681/laws.FnExactPrefixOk", spec := "fnExactPrefixOk", apart := false }
def FnExactPrefixOkSaid : Prop := fnExactPrefixOkRow.holds Try.pinned (OpenSpec.ofChange fnExactPrefixOkSpec)

/-- ITS FALSE NEIGHBOUR: 'it returns false'. Refute it at one input. -/
def fnExactPrefixOkWrong : ChangeSpec := { name := "fnExactPrefixOk", fn := fun _ => fun
  | [d] => { results := [.lit (.bool false)], args := [d] }
  | _ => none }
def FnExactPrefixOkWrongFalsely : Prop := fnExactPrefixOkRow.holds Try.pinned (OpenSpec.ofChange fnExactPrefixOkWrong)

/-- 'laws.FnExactHasAddr': WHATEVER THE INPUT: true; the input reads as it did. -/
def fnExactHasAddrSpec : ChangeSpec := { name := "fnExactHasAddr", fn := fun _ => fun
  | [d1, d2] => { results := [.lit (.bool true)], args := [d1, d2] }
  | _ => none }
def fnExactHasAddrRow : OpenClaim := { program := "ytinmdckpljnpcaa", sum := "50aac909edd86ad7a87cb66a02b3f2d4f0a8af561a121d2ad849cbbb752347fd", func := "loop.example/g00681/laws.FnExactHasAddr", spec := "fnExactHasAddr", apart := false }
def FnExactHasAddrSaid : Prop := fnExactHasAddrRow.holds Try.pinned (OpenSpec.ofChange fnExactHasAddrSpec)

/-- ITS FALSE NEIGHBOUR: 'it returns false'. Refute it at one input. -/
def fnExactHasAddrWrong : ChangeSpec := { name := "fnExactHasAddr", fn := fun _ => fun
  | [d1, d2] => { results := [.lit (.bool false)], args := [d1, d2] }
  | _ => none }
def FnExactHasAddrWrongFalsely : Prop := fnExactHasAddrRow.holds Try.pinned (OpenSpec.ofChange fnExactHasAddrWrong)

/-- 'laws.FnExactCoversPrefix': WHATEVER THE INPUT: true; the input reads as it did. -/
def fnExactCoversPrefixSpec : ChangeSpec := { name := "fnExactCoversPrefix", fn := fun _ => fun
  | [d1, d2] => { results := [.lit (.bool true)], args := [d1, d2] }
  | _ => none }
def fnExactCoversPrefixRow : OpenClaim := { program := "ytinmdckpljnpcaa", sum := "50aac909edd86ad7a87cb66a02b3f2d4f0a8af561a121d2ad849cbbb752347fd", func := "loop.example/g00681/laws.FnExactCoversPrefix", spec := "fnExactCoversPrefix", apart := false }
def FnExactCoversPrefixSaid : Prop := fnExactCoversPrefixRow.holds Try.pinned (OpenSpec.ofChange fnExactCoversPrefixSpec)

/-- ITS FALSE NEIGHBOUR: 'it returns false'. Refute it at one input. -/
def fnExactCoversPrefixWrong : ChangeSpec := { name := "fnExactCoversPrefix", fn := fun _ => fun
  | [d1, d2] => { results := [.lit (.bool false)], args := [d1, d2] }
  | _ => none }
def FnExactCoversPrefixWrongFalsely : Prop := fnExactCoversPrefixRow.holds Try.pinned (OpenSpec.ofChange fnExactCoversPrefixWrong)

/-- 'laws.FnExactCommonPrefix': WHATEVER THE INPUT: true; the input reads as it did. -/
def fnExactCommonPrefixSpec : ChangeSpec := { name := "fnExactCommonPrefix", fn := fun _ => fun
  | [d1, d2] => { results := [.lit (.bool true)], args := [d1, d2] }
  | _ => none }
def fnExactCommonPrefixRow : OpenClaim := { program := "ytinmdckpljnpcaa", sum := "50aac909edd86ad7a87cb66a02b3f2d4f0a8af561a121d2ad849cbbb752347fd", func := "loop.example/g00681/laws.FnExactCommonPrefix", spec := "fnExactCommonPrefix", apart := false }
def FnExactCommonPrefixSaid : Prop := fnExactCommonPrefixRow.holds Try.pinned (OpenSpec.ofChange fnExactCommonPrefixSpec)

/-- ITS FALSE NEIGHBOUR: 'it returns false'. Refute it at one input. -/
def fnExactCommonPrefixWrong : ChangeSpec := { name := "fnExactCommonPrefix", fn := fun _ => fun
  | [d1, d2] => { results := [.lit (.bool false)], args := [d1, d2] }
  | _ => none }
def FnExactCommonPrefixWrongFalsely : Prop := fnExactCommonPrefixRow.holds Try.pinned (OpenSpec.ofChange fnExactCommonPrefixWrong)

/-- 'laws.FnExactSibling': WHATEVER THE INPUT: true; the input reads as it did. -/
def fnExactSiblingSpec : ChangeSpec := { name := "fnExactSibling", fn := fun _ => fun
  | [d] => { results := [.lit (.bool true)], args := [d] }
  | _ => none }
def fnExactSiblingRow : OpenClaim := { program := "ytinmdckpljnpcaa", sum := "50aac909edd86ad7a87cb66a02b3f2d4f0a8af561a121d2ad849cbbb752347fd", func := "loop.example/g00681/laws.FnExactSibling", spec := "fnExactSibling", apart := false }
def FnExactSiblingSaid : Prop := fnExactSiblingRow.holds Try.pinned (OpenSpec.ofChange fnExactSiblingSpec)

/-- ITS FALSE NEIGHBOUR: 'it returns false'. Refute it at one input. -/
def fnExactSiblingWrong : ChangeSpec := { name := "fnExactSibling", fn := fun _ => fun
  | [d] => { results := [.lit (.bool false)], args := [d] }
  | _ => none }
def FnExactSiblingWrongFalsely : Prop := fnExactSiblingRow.holds Try.pinned (OpenSpec.ofChange fnExactSiblingWrong)

/-- 'laws.FnExactHalves': WHATEVER THE INPUT: true; the input reads as it did. -/
def fnExactHalvesSpec : ChangeSpec := { name := "fnExactHalves", fn := fun _ => fun
  | [d] => { results := [.lit (.bool true)], args := [d] }
  | _ => none }
def fnExactHalvesRow : OpenClaim := { program := "ytinmdckpljnpcaa", sum := "50aac909edd86ad7a87cb66a02b3f2d4f0a8af561a121d2ad849cbbb752347fd", func := "loop.example/g00681/laws.FnExactHalves", spec := "fnExactHalves", apart := false }
def FnExactHalvesSaid : Prop := fnExactHalvesRow.holds Try.pinned (OpenSpec.ofChange fnExactHalvesSpec)

/-- ITS FALSE NEIGHBOUR: 'it returns false'. Refute it at one input. -/
def fnExactHalvesWrong : ChangeSpec := { name := "fnExactHalves", fn := fun _ => fun
  | [d] => { results := [.lit (.bool false)], args := [d] }
  | _ => none }
def FnExactHalvesWrongFalsely : Prop := fnExactHalvesRow.holds Try.pinned (OpenSpec.ofChange fnExactHalvesWrong)

/-- 'laws.FnExactCover': WHATEVER THE INPUT: true; the input reads as it did. -/
def fnExactCoverSpec : ChangeSpec := { name := "fnExactCover", fn := fun _ => fun
  | [d1, d2] => { results := [.lit (.bool true)], args := [d1, d2] }
  | _ => none }
def fnExactCoverRow : OpenClaim := { program := "ytinmdckpljnpcaa", sum := "50aac909edd86ad7a87cb66a02b3f2d4f0a8af561a121d2ad849cbbb752347fd", func := "loop.example/g00681/laws.FnExactCover", spec := "fnExactCover", unfollowed := true, recurses := true, apart := false }
def FnExactCoverSaid : Prop := fnExactCoverRow.holds Try.pinned (OpenSpec.ofChange fnExactCoverSpec)

/-- ITS FALSE NEIGHBOUR: 'it returns false'. Refute it at one input. -/
def fnExactCoverWrong : ChangeSpec := { name := "fnExactCover", fn := fun _ => fun
  | [d1, d2] => { results := [.lit (.bool false)], args := [d1, d2] }
  | _ => none }
def FnExactCoverWrongFalsely : Prop := fnExactCoverRow.holds Try.pinned (OpenSpec.ofChange fnExactCoverWrong)

/-- 'laws.FnExactGraphOk': WHATEVER THE INPUT: true; the input reads as it did. -/
def fnExactGraphOkSpec : ChangeSpec := { name := "fnExactGraphOk", fn := fun _ => fun
  | [d] => { results := [.lit (.bool true)], args := [d] }
  | _ => none }
def fnExactGraphOkRow : OpenClaim := { program := "ytinmdckpljnpcaa", sum := "50aac909edd86ad7a87cb66a02b3f2d4f0a8af561a121d2ad849cbbb752347fd", func := "loop.example/g00681/laws.FnExactGraphOk", spec := "fnExactGraphOk", apart := false }
def FnExactGraphOkSaid : Prop := fnExactGraphOkRow.holds Try.pinned (OpenSpec.ofChange fnExactGraphOkSpec)

/-- ITS FALSE NEIGHBOUR: 'it returns false'. Refute it at one input. -/
def fnExactGraphOkWrong : ChangeSpec := { name := "fnExactGraphOk", fn := fun _ => fun
  | [d] => { results := [.lit (.bool false)], args := [d] }
  | _ => none }
def FnExactGraphOkWrongFalsely : Prop := fnExactGraphOkRow.holds Try.pinned (OpenSpec.ofChange fnExactGraphOkWrong)

/-- 'laws.FnExactTableOk': WHATEVER THE INPUT: true; the input reads as it did. -/
def fnExactTableOkSpec : ChangeSpec := { name := "fnExactTableOk", fn := fun _ => fun
  | [d] => { results := [.lit (.bool true)], args := [d] }
  | _ => none }
def fnExactTableOkRow : OpenClaim := { program := "ytinmdckpljnpcaa", sum := "50aac909edd86ad7a87cb66a02b3f2d4f0a8af561a121d2ad849cbbb752347fd", func := "loop.example/g00681/laws.FnExactTableOk", spec := "fnExactTableOk", apart := false }
def FnExactTableOkSaid : Prop := fnExactTableOkRow.holds Try.pinned (OpenSpec.ofChange fnExactTableOkSpec)

/-- ITS FALSE NEIGHBOUR: 'it returns false'. Refute it at one input. -/
def fnExactTableOkWrong : ChangeSpec := { name := "fnExactTableOk", fn := fun _ => fun
  | [d] => { results := [.lit (.bool false)], args := [d] }
  | _ => none }
def FnExactTableOkWrongFalsely : Prop := fnExactTableOkRow.holds Try.pinned (OpenSpec.ofChange fnExactTableOkWrong)

/-- 'laws.FnExactCostOf': WHATEVER THE INPUT: true; the input reads as it did. -/
def fnExactCostOfSpec : ChangeSpec := { name := "fnExactCostOf", fn := fun _ => fun
  | [d1, d2, d3] => { results := [.lit (.bool true)], args := [d1, d2, d3] }
  | _ => none }
def fnExactCostOfRow : OpenClaim := { program := "ytinmdckpljnpcaa", sum := "50aac909edd86ad7a87cb66a02b3f2d4f0a8af561a121d2ad849cbbb752347fd", func := "loop.example/g00681/laws.FnExactCostOf", spec := "fnExactCostOf", apart := false }
def FnExactCostOfSaid : Prop := fnExactCostOfRow.holds Try.pinned (OpenSpec.ofChange fnExactCostOfSpec)

/-- ITS FALSE NEIGHBOUR: 'it returns false'. Refute it at one input. -/
def fnExactCostOfWrong : ChangeSpec := { name := "fnExactCostOf", fn := fun _ => fun
  | [d1, d2, d3] => { results := [.lit (.bool false)], args := [d1, d2, d3] }
  | _ => none }
def FnExactCostOfWrongFalsely : Prop := fnExactCostOfRow.holds Try.pinned (OpenSpec.ofChange fnExactCostOfWrong)

/- THE SECOND FORM. 'bulk': how many values and letters a reading holds, each counted each time it is reached (what is shared counts as often as it is met; a slice's spare places count too). A statement '..UptoSaid' is the law's where the arguments, and the package variables that the reading takes, are together of bulk at most 1048576: NARROWER than '..Said'. Prove '..Said' where nothing that the law and all that it calls make is longer than what came in: it says more and counts as full. Else prove '..UptoSaid'. A law counts once. -/
mutual
def uptoBulk {H : Type} : DataW H → Nat
  | .lit (.string bytes) => bytes.length + 1
  | .lit _ => 1
  | .nil => 1
  | .ptr d => uptoBulk d + 1
  | .slice elems spare => uptoBulkAll elems + uptoBulkAll spare + 1
  | .agg parts => uptoBulkAll parts + 1
  | .iface _ d => uptoBulk d + 1
  | .map entries => uptoBulkEntries entries + 1
  | .held _ => 1
def uptoBulkAll {H : Type} : List (DataW H) → Nat
  | [] => 0
  | d :: r => uptoBulk d + uptoBulkAll r
def uptoBulkEntries {H : Type} : List (Lit × DataW H) → Nat
  | [] => 0
  | x :: r => uptoBulkEntry x + uptoBulkEntries r
def uptoBulkEntry {H : Type} : Lit × DataW H → Nat
  | (.string bytes, d) => bytes.length + uptoBulk d + 1
  | (_, d) => uptoBulk d + 1
 end
def uptoSmall : (H : Type) → List (DataW H) → Bool := fun _ ds => decide (uptoBulkAll ds ≤ 1048576)
def OpenSpec.upto (s : _root_.Go.ChangeSpec) : _root_.Go.OpenSpec := { _root_.Go.OpenSpec.ofChange s with cond := some uptoSmall }

/-- 'laws.FnExactConstants', WHERE WHAT IT READS IS OF BULK AT MOST 1048576: true; the input reads as it did. -/
def fnExactConstantsUptoRow : OpenClaim := { program := "ytinmdckpljnpcaa", sum := "50aac909edd86ad7a87cb66a02b3f2d4f0a8af561a121d2ad849cbbb752347fd", func := "loop.example/g00681/laws.FnExactConstants", spec := "fnExactConstants", apart := false, narrowed := true }
def FnExactConstantsUptoSaid : Prop := fnExactConstantsUptoRow.holds Try.pinned (OpenSpec.upto fnExactConstantsSpec)

/-- 'laws.FnExactPrefixOk', WHERE WHAT IT READS IS OF BULK AT MOST 1048576: true; the input reads as it did. -/
def fnExactPrefixOkUptoRow : OpenClaim := { program := "ytinmdckpljnpcaa", sum := "50aac909edd86ad7a87cb66a02b3f2d4f0a8af561a121d2ad849cbbb752347fd", func := "loop.example/g00681/laws.FnExactPrefixOk", spec := "fnExactPrefixOk", apart := false, narrowed := true }
def FnExactPrefixOkUptoSaid : Prop := fnExactPrefixOkUptoRow.holds Try.pinned (OpenSpec.upto fnExactPrefixOkSpec)

/-- 'laws.FnExactHasAddr', WHERE WHAT IT READS IS OF BULK AT MOST 1048576: true; the input reads as it did. -/
def fnExactHasAddrUptoRow : OpenClaim := { program := "ytinmdckpljnpcaa", sum := "50aac909edd86ad7a87cb66a02b3f2d4f0a8af561a121d2ad849cbbb752347fd", func := "loop.example/g00681/laws.FnExactHasAddr", spec := "fnExactHasAddr", apart := false, narrowed := true }
def FnExactHasAddrUptoSaid : Prop := fnExactHasAddrUptoRow.holds Try.pinned (OpenSpec.upto fnExactHasAddrSpec)

/-- 'laws.FnExactCoversPrefix', WHERE WHAT IT READS IS OF BULK AT MOST 1048576: true; the input reads as it did. -/
def fnExactCoversPrefixUptoRow : OpenClaim := { program := "ytinmdckpljnpcaa", sum := "50aac909edd86ad7a87cb66a02b3f2d4f0a8af561a121d2ad849cbbb752347fd", func := "loop.example/g00681/laws.FnExactCoversPrefix", spec := "fnExactCoversPrefix", apart := false, narrowed := true }
def FnExactCoversPrefixUptoSaid : Prop := fnExactCoversPrefixUptoRow.holds Try.pinned (OpenSpec.upto fnExactCoversPrefixSpec)

/-- 'laws.FnExactCommonPrefix', WHERE WHAT IT READS IS OF BULK AT MOST 1048576: true; the input reads as it did. -/
def fnExactCommonPrefixUptoRow : OpenClaim := { program := "ytinmdckpljnpcaa", sum := "50aac909edd86ad7a87cb66a02b3f2d4f0a8af561a121d2ad849cbbb752347fd", func := "loop.example/g00681/laws.FnExactCommonPrefix", spec := "fnExactCommonPrefix", apart := false, narrowed := true }
def FnExactCommonPrefixUptoSaid : Prop := fnExactCommonPrefixUptoRow.holds Try.pinned (OpenSpec.upto fnExactCommonPrefixSpec)

/-- 'laws.FnExactSibling', WHERE WHAT IT READS IS OF BULK AT MOST 1048576: true; the input reads as it did. -/
def fnExactSiblingUptoRow : OpenClaim := { program := "ytinmdckpljnpcaa", sum := "50aac909edd86ad7a87cb66a02b3f2d4f0a8af561a121d2ad849cbbb752347fd", func := "loop.example/g00681/laws.FnExactSibling", spec := "fnExactSibling", apart := false, narrowed := true }
def FnExactSiblingUptoSaid : Prop := fnExactSiblingUptoRow.holds Try.pinned (OpenSpec.upto fnExactSiblingSpec)

/-- 'laws.FnExactHalves', WHERE WHAT IT READS IS OF BULK AT MOST 1048576: true; the input reads as it did. -/
def fnExactHalvesUptoRow : OpenClaim := { program := "ytinmdckpljnpcaa", sum := "50aac909edd86ad7a87cb66a02b3f2d4f0a8af561a121d2ad849cbbb752347fd", func := "loop.example/g00681/laws.FnExactHalves", spec := "fnExactHalves", apart := false, narrowed := true }
def FnExactHalvesUptoSaid : Prop := fnExactHalvesUptoRow.holds Try.pinned (OpenSpec.upto fnExactHalvesSpec)

/-- 'laws.FnExactCover', WHERE WHAT IT READS IS OF BULK AT MOST 1048576: true; the input reads as it did. -/
def fnExactCoverUptoRow : OpenClaim := { program := "ytinmdckpljnpcaa", sum := "50aac909edd86ad7a87cb66a02b3f2d4f0a8af561a121d2ad849cbbb752347fd", func := "loop.example/g00681/laws.FnExactCover", spec := "fnExactCover", unfollowed := true, recurses := true, apart := false, narrowed := true }
def FnExactCoverUptoSaid : Prop := fnExactCoverUptoRow.holds Try.pinned (OpenSpec.upto fnExactCoverSpec)

/-- 'laws.FnExactGraphOk', WHERE WHAT IT READS IS OF BULK AT MOST 1048576: true; the input reads as it did. -/
def fnExactGraphOkUptoRow : OpenClaim := { program := "ytinmdckpljnpcaa", sum := "50aac909edd86ad7a87cb66a02b3f2d4f0a8af561a121d2ad849cbbb752347fd", func := "loop.example/g00681/laws.FnExactGraphOk", spec := "fnExactGraphOk", apart := false, narrowed := true }
def FnExactGraphOkUptoSaid : Prop := fnExactGraphOkUptoRow.holds Try.pinned (OpenSpec.upto fnExactGraphOkSpec)

/-- 'laws.FnExactTableOk', WHERE WHAT IT READS IS OF BULK AT MOST 1048576: true; the input reads as it did. -/
def fnExactTableOkUptoRow : OpenClaim := { program := "ytinmdckpljnpcaa", sum := "50aac909edd86ad7a87cb66a02b3f2d4f0a8af561a121d2ad849cbbb752347fd", func := "loop.example/g00681/laws.FnExactTableOk", spec := "fnExactTableOk", apart := false, narrowed := true }
def FnExactTableOkUptoSaid : Prop := fnExactTableOkUptoRow.holds Try.pinned (OpenSpec.upto fnExactTableOkSpec)

/-- 'laws.FnExactCostOf', WHERE WHAT IT READS IS OF BULK AT MOST 1048576: true; the input reads as it did. -/
def fnExactCostOfUptoRow : OpenClaim := { program := "ytinmdckpljnpcaa", sum := "50aac909edd86ad7a87cb66a02b3f2d4f0a8af561a121d2ad849cbbb752347fd", func := "loop.example/g00681/laws.FnExactCostOf", spec := "fnExactCostOf", apart := false, narrowed := true }
def FnExactCostOfUptoSaid : Prop := fnExactCostOfUptoRow.holds Try.pinned (OpenSpec.upto fnExactCostOfSpec)

end Rows
end Go.Proofs.Ytinmdckpljnpcaa
