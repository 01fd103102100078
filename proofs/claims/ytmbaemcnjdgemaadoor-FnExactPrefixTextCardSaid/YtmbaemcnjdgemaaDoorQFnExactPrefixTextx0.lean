/- Contracts of functions that the law reaches: what each call returns and what it leaves in memory. Made by this session over the print of the kit. -/
import Derived.Test.YtmbaemcnjdgemaaDoorProg
import Derived.Below
import Derived.Deep.Draws
import Derived.Deep.AppendLies
import Derived.Maps.AppendAt
import Derived.OwnWalk
import Derived.Laws.BytesArg
import Derived.Laws.MakeOwn
import Derived.Laws.OwnMore
import Derived.Deep.OwnRows
import Derived.Tactics
import Derived.Lib.ConvBytes
import Derived.Laws.Slices
import Derived.WalkKit
import Derived.KernelRfl
import Derived.RowKit3
import Derived.Deep.LoopGhost
import Derived.Deep.QuietTactic
import Derived.BigQuiet
import Derived.WideLaws
import Derived.Deep.DeepCutAuto
import Derived.Deep.CutBlock
import Derived.Deep.RegionHeld3
import Derived.Laws.Rows
import Derived.Lib.AppendStr
import Derived.ArgAppend
import Derived.Laws.IdiomCopy
import Derived.OrdersHeld
import Derived.Laws.BitsLemmas
import Derived.RowKit
import Derived.Deep.RegionLaw
import Derived.Laws.CopyOwn
import Derived.LoopTactic
import Derived.Lib.SliceRun
import Derived.Lib.AppendZerosOnto
import Derived.Lib.Overlaps
import Derived.Shelf.Strconv.Itoa3
import Derived.Test.YtmbaemcnjdgemaaDoorExA
import Derived.Test.YtmbaemcnjdgemaaDoorE2A
import Derived.Test.YtmbaemcnjdgemaaDoorClA
import Derived.Test.YtmbaemcnjdgemaaDoorAWords
import Derived.Test.YtmbaemcnjdgemaaDoorALast
import Derived.Test.YtmbaemcnjdgemaaDoorATab
import Derived.Test.YtmbaemcnjdgemaaDoorAFour
import Derived.Test.YtmbaemcnjdgemaaDoorAQPut
import Derived.Test.YtmbaemcnjdgemaaDoorAApart
import Derived.Test.YtmbaemcnjdgemaaDoorAArr
import Derived.Test.YtmbaemcnjdgemaaDoorAZeros
import Derived.Test.YtmbaemcnjdgemaaDoorAFoot
import Derived.Test.YtmbaemcnjdgemaaDoorAKept
import Derived.Test.YtmbaemcnjdgemaaDoorAShare
import Derived.Test.YtmbaemcnjdgemaaDoorAN
import Derived.Test.YtmbaemcnjdgemaaDoorAFootNe
import Derived.Test.YtmbaemcnjdgemaaDoorAAt
import Derived.Test.YtmbaemcnjdgemaaDoorAEqStruct
import Derived.Test.YtmbaemcnjdgemaaDoorARepsOne
import Derived.Test.YtmbaemcnjdgemaaDoorAInv
import Derived.Test.YtmbaemcnjdgemaaDoorAInvWords
import Derived.Test.YtmbaemcnjdgemaaDoorAGuard
import Derived.Test.YtmbaemcnjdgemaaDoorANEv
import Derived.Test.YtmbaemcnjdgemaaDoorAMore
namespace Go.Proofs.YtmbaemcnjdgemaaDoor.QFnExactPrefixText
open Go.RowKit Go.Proofs.YtmbaemcnjdgemaaDoorA.PrintWords Go.Proofs.YtmbaemcnjdgemaaDoorA.PrintLast Go.Proofs.YtmbaemcnjdgemaaDoorA.PrintMore
attribute [local go_sem] max2_int min2_int max_two min_two max_three min_three max_four min_four   -- for this text's walks alone
set_option linter.unusedVariables false
set_option linter.unusedSimpArgs false



def errW : Option Int → Value
 | none => .nilIface
 | some c => .iface 0 (.int .i64 c)
theorem errW_none : errW none = .nilIface := rfl
theorem errW_some (c : Int) : errW (some c) = .iface 0 (.int .i64 c) := rfl

theorem info5 : (Tryd.prog.info? 5).map (fun i => (i.zero, i.size, i.bytes)) = some (some (.int .u8 0), 1, 1) := by kernel_rfl
-- the values' own types

end Go.Proofs.YtmbaemcnjdgemaaDoor.QFnExactPrefixText
