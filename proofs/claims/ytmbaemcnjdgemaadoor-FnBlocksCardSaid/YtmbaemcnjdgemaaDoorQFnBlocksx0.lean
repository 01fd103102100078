/- Contracts of functions that the law reaches: what each call returns and what it leaves in memory. Made by this session over the print of the kit. -/
import Derived.Test.YtmbaemcnjdgemaaDoorProg
import Derived.Below
import Derived.Deep.Draws
import Derived.Deep.AppendLies
import Derived.Maps.AppendAt
import Derived.OwnWalk
import Derived.Laws.BytesArg
import Derived.Laws.MakeOwn
import Derived.Laws.OwnMore
import Derived.Deep.OwnRows
import Derived.Tactics
import Derived.Lib.ConvBytes
import Derived.Laws.Slices
import Derived.WalkKit
import Derived.KernelRfl
import Derived.RowKit3
import Derived.Deep.LoopGhost
import Derived.Deep.QuietTactic
import Derived.BigQuiet
import Derived.WideLaws
import Derived.Deep.DeepCutAuto
import Derived.Deep.CutBlock
import Derived.Deep.RegionHeld3
import Derived.Laws.Rows
import Derived.Lib.AppendStr
import Derived.ArgAppend
import Derived.Laws.IdiomCopy
import Derived.OrdersHeld
import Derived.Laws.BitsLemmas
import Derived.RowKit
import Derived.Deep.RegionLaw
import Derived.Laws.CopyOwn
import Derived.LoopTactic
import Derived.Lib.SliceRun
import Derived.Lib.AppendZerosOnto
import Derived.Lib.Overlaps
import Derived.Shelf.Strconv.Itoa3
import Derived.Shelf.Strings.Cut
import Derived.Shelf.Strings.Shaped
import Derived.Shelf.Strconv.Atoi
import Derived.Shelf.Strconv.AtoiErr
import Derived.Lib.AtoiErrMem
import Derived.Test.YtmbaemcnjdgemaaDoorExF
import Derived.Test.YtmbaemcnjdgemaaDoorE2F
import Derived.Test.YtmbaemcnjdgemaaDoorClF
import Derived.Test.YtmbaemcnjdgemaaDoorFWords
import Derived.Test.YtmbaemcnjdgemaaDoorFLast
import Derived.Test.YtmbaemcnjdgemaaDoorFTab
import Derived.Test.YtmbaemcnjdgemaaDoorFFour
import Derived.Test.YtmbaemcnjdgemaaDoorFQPut
import Derived.Test.YtmbaemcnjdgemaaDoorFApart
import Derived.Test.YtmbaemcnjdgemaaDoorFArr
import Derived.Test.YtmbaemcnjdgemaaDoorFZeros
import Derived.Test.YtmbaemcnjdgemaaDoorFFoot
import Derived.Test.YtmbaemcnjdgemaaDoorFKept
import Derived.Test.YtmbaemcnjdgemaaDoorFShare
import Derived.Test.YtmbaemcnjdgemaaDoorFN
import Derived.Test.YtmbaemcnjdgemaaDoorFFootNe
import Derived.Test.YtmbaemcnjdgemaaDoorFAt
import Derived.Test.YtmbaemcnjdgemaaDoorFEqStruct
import Derived.Test.YtmbaemcnjdgemaaDoorFRepsOne
import Derived.Test.YtmbaemcnjdgemaaDoorFInv
import Derived.Test.YtmbaemcnjdgemaaDoorFInvWords
import Derived.Test.YtmbaemcnjdgemaaDoorFGuard
import Derived.Test.YtmbaemcnjdgemaaDoorFNEv
import Derived.Test.YtmbaemcnjdgemaaDoorFMore
namespace Go.Proofs.YtmbaemcnjdgemaaDoor.QFnBlocks
open Go.RowKit Go.Proofs.YtmbaemcnjdgemaaDoorF.PrintWords Go.Proofs.YtmbaemcnjdgemaaDoorF.PrintLast Go.Proofs.YtmbaemcnjdgemaaDoorF.PrintMore
attribute [local go_sem] max2_int min2_int max_two min_two max_three min_three max_four min_four   -- for this text's walks alone
set_option linter.unusedVariables false
set_option linter.unusedSimpArgs false



def errW : Option Int → Value
 | none => .nilIface
 | some c => .iface 98 (.int .i64 c)
theorem errW_none : errW none = .nilIface := rfl
theorem errW_some (c : Int) : errW (some c) = .iface 98 (.int .i64 c) := rfl

theorem info3 : (Tryd.prog.info? 3).map (fun i => (i.zero, i.size, i.bytes)) = some (some (.int .i64 0), 1, 8) := by kernel_rfl
-- the values' own types

end Go.Proofs.YtmbaemcnjdgemaaDoor.QFnBlocks
