/-
  DERIVED. GIVEN WITH THE SEED: THE CARDS: each row of YtmbaemcnjdgemaaDoorRows.lean that lists a variable, with what it lists TIED to the program's text (the seventh form; the later family's looks); each row that meets fmt, with fmt's text TOLD by the authors' own Lean function (tested against real Go, not proved from fmt's source: count such statements apart). THE CARD IS WHAT COUNTS. Prove the row's statement (the work); the ties are given (YtmbaemcnjdgemaaDoorTie.lean); close each card by the builder's one call (the guide's Derived/Test/ToyasCard.lean, 'card_holds'). Laid BY PROGRAM, IN A SANDBOX (cutbox-door.mjs). By AI agents, Wed Nov 11 2026. No macro, syntax, notation, axiom, sorry.
-/
import Derived.Test.YtmbaemcnjdgemaaDoorRows
import GoSem.ClaimSeven
namespace Go.Proofs.YtmbaemcnjdgemaaDoor
namespace Rows

/-- THE TIED CARD OF 'laws.FnBlocks'. -/
def fnBlocksCard : Claim7 := { stood := { row := fnBlocksRow, standIns := [], harness := (true, "6e67659d40e4ea656ce93092c641688eff9ae5bb2f82964bb4d4a315638b5154"), looks := true }, kinds := [], alts := [], laidByText := true, laidKinds := [.data, .data, .data, .sentinel, .sentinel], laidTests := true, laidLooks := .later }
def FnBlocksCardSaid : Prop := Claim7.holds Tryd.pinned (.plain (OpenSpec.ofChange fnBlocksSpec)) fnBlocksCard

/-- THE TIED CARD OF 'laws.FnExactParsePrefix'. -/
def fnExactParsePrefixCard : Claim7 := { stood := { row := fnExactParsePrefixRow, standIns := [], harness := (true, "6e67659d40e4ea656ce93092c641688eff9ae5bb2f82964bb4d4a315638b5154"), looks := true }, kinds := [], alts := [], laidByText := true, laidKinds := [.data, .data, .data, .sentinel, .sentinel], laidTests := true, laidLooks := .later }
def FnExactParsePrefixCardSaid : Prop := Claim7.holds Tryd.pinned (.plain (OpenSpec.ofChange fnExactParsePrefixSpec)) fnExactParsePrefixCard

/-- THE TIED CARD OF 'laws.FnExactPrefixText'. -/
def fnExactPrefixTextCard : Claim7 := { stood := { row := fnExactPrefixTextRow, standIns := [], harness := (true, "6e67659d40e4ea656ce93092c641688eff9ae5bb2f82964bb4d4a315638b5154"), looks := true }, kinds := [], alts := [], laidByText := true, laidKinds := [.data, .data, .data], laidTests := true, laidLooks := .later }
def FnExactPrefixTextCardSaid : Prop := Claim7.holds Tryd.pinned (.plain (OpenSpec.ofChange fnExactPrefixTextSpec)) fnExactPrefixTextCard

/-- THE TIED CARD OF 'laws.FnExactTableText'. -/
def fnExactTableTextCard : Claim7 := { stood := { row := fnExactTableTextRow, standIns := [], harness := (true, "6e67659d40e4ea656ce93092c641688eff9ae5bb2f82964bb4d4a315638b5154"), looks := true }, kinds := [], alts := [], laidByText := true, laidKinds := [.data, .data, .data], laidTests := true, laidLooks := .later }
def FnExactTableTextCardSaid : Prop := Claim7.holds Tryd.pinned (.plain (OpenSpec.ofChange fnExactTableTextSpec)) fnExactTableTextCard

/-- THE SECOND FORM's CARD OF 'laws.FnBlocks'. -/
def fnBlocksUptoCard : Claim7 := { stood := { row := fnBlocksUptoRow, standIns := [], harness := (true, "6e67659d40e4ea656ce93092c641688eff9ae5bb2f82964bb4d4a315638b5154"), looks := true }, kinds := [], alts := [], laidByText := true, laidKinds := [.data, .data, .data, .sentinel, .sentinel], laidTests := true, laidLooks := .later }
def FnBlocksUptoCardSaid : Prop := Claim7.holds Tryd.pinned (.plain (OpenSpec.upto fnBlocksSpec)) fnBlocksUptoCard

/-- THE SECOND FORM's CARD OF 'laws.FnExactParsePrefix'. -/
def fnExactParsePrefixUptoCard : Claim7 := { stood := { row := fnExactParsePrefixUptoRow, standIns := [], harness := (true, "6e67659d40e4ea656ce93092c641688eff9ae5bb2f82964bb4d4a315638b5154"), looks := true }, kinds := [], alts := [], laidByText := true, laidKinds := [.data, .data, .data, .sentinel, .sentinel], laidTests := true, laidLooks := .later }
def FnExactParsePrefixUptoCardSaid : Prop := Claim7.holds Tryd.pinned (.plain (OpenSpec.upto fnExactParsePrefixSpec)) fnExactParsePrefixUptoCard

/-- THE SECOND FORM's CARD OF 'laws.FnExactPrefixText'. -/
def fnExactPrefixTextUptoCard : Claim7 := { stood := { row := fnExactPrefixTextUptoRow, standIns := [], harness := (true, "6e67659d40e4ea656ce93092c641688eff9ae5bb2f82964bb4d4a315638b5154"), looks := true }, kinds := [], alts := [], laidByText := true, laidKinds := [.data, .data, .data], laidTests := true, laidLooks := .later }
def FnExactPrefixTextUptoCardSaid : Prop := Claim7.holds Tryd.pinned (.plain (OpenSpec.upto fnExactPrefixTextSpec)) fnExactPrefixTextUptoCard

/-- THE SECOND FORM's CARD OF 'laws.FnExactTableText'. -/
def fnExactTableTextUptoCard : Claim7 := { stood := { row := fnExactTableTextUptoRow, standIns := [], harness := (true, "6e67659d40e4ea656ce93092c641688eff9ae5bb2f82964bb4d4a315638b5154"), looks := true }, kinds := [], alts := [], laidByText := true, laidKinds := [.data, .data, .data], laidTests := true, laidLooks := .later }
def FnExactTableTextUptoCardSaid : Prop := Claim7.holds Tryd.pinned (.plain (OpenSpec.upto fnExactTableTextSpec)) fnExactTableTextUptoCard
end Rows
end Go.Proofs.YtmbaemcnjdgemaaDoor
