/- Contracts of functions that the law reaches: what each call returns and what it leaves in memory. Made by this session over the print of the kit. -/
import Derived.Test.YtmbaemcnjdgemaaDoorProg
import Derived.Below
import Derived.Deep.Draws
import Derived.Deep.AppendLies
import Derived.Maps.AppendAt
import Derived.OwnWalk
import Derived.Laws.BytesArg
import Derived.Laws.MakeOwn
import Derived.Laws.OwnMore
import Derived.Deep.OwnRows
import Derived.Tactics
import Derived.Lib.ConvBytes
import Derived.Laws.Slices
import Derived.WalkKit
import Derived.KernelRfl
import Derived.RowKit3
import Derived.Deep.LoopGhost
import Derived.Deep.QuietTactic
import Derived.BigQuiet
import Derived.WideLaws
import Derived.Deep.DeepCutAuto
import Derived.Deep.CutBlock
import Derived.Deep.RegionHeld3
import Derived.Laws.Rows
import Derived.Lib.AppendStr
import Derived.ArgAppend
import Derived.Laws.IdiomCopy
import Derived.OrdersHeld
import Derived.Laws.BitsLemmas
import Derived.RowKit
import Derived.Deep.RegionLaw
import Derived.Laws.CopyOwn
import Derived.LoopTactic
import Derived.Lib.SliceRun
import Derived.Lib.AppendZerosOnto
import Derived.Lib.Overlaps
import Derived.Shelf.Strconv.Itoa3
import Derived.Shelf.Strings.Cut
import Derived.Shelf.Strings.Shaped
import Derived.Shelf.Strconv.Atoi
import Derived.Shelf.Strconv.AtoiErr
import Derived.Lib.AtoiErrMem
import Derived.Test.YtmbaemcnjdgemaaDoorExD
import Derived.Test.YtmbaemcnjdgemaaDoorE2D
import Derived.Test.YtmbaemcnjdgemaaDoorClD
import Derived.Test.YtmbaemcnjdgemaaDoorDWords
import Derived.Test.YtmbaemcnjdgemaaDoorDLast
import Derived.Test.YtmbaemcnjdgemaaDoorDTab
import Derived.Test.YtmbaemcnjdgemaaDoorDFour
import Derived.Test.YtmbaemcnjdgemaaDoorDQPut
import Derived.Test.YtmbaemcnjdgemaaDoorDApart
import Derived.Test.YtmbaemcnjdgemaaDoorDArr
import Derived.Test.YtmbaemcnjdgemaaDoorDZeros
import Derived.Test.YtmbaemcnjdgemaaDoorDFoot
import Derived.Test.YtmbaemcnjdgemaaDoorDKept
import Derived.Test.YtmbaemcnjdgemaaDoorDShare
import Derived.Test.YtmbaemcnjdgemaaDoorDN
import Derived.Test.YtmbaemcnjdgemaaDoorDFootNe
import Derived.Test.YtmbaemcnjdgemaaDoorDAt
import Derived.Test.YtmbaemcnjdgemaaDoorDEqStruct
import Derived.Test.YtmbaemcnjdgemaaDoorDRepsOne
import Derived.Test.YtmbaemcnjdgemaaDoorDInv
import Derived.Test.YtmbaemcnjdgemaaDoorDInvWords
import Derived.Test.YtmbaemcnjdgemaaDoorDGuard
import Derived.Test.YtmbaemcnjdgemaaDoorDNEv
import Derived.Test.YtmbaemcnjdgemaaDoorDMore
namespace Go.Proofs.YtmbaemcnjdgemaaDoor.QFnExactParsePrefix
open Go.RowKit Go.Proofs.YtmbaemcnjdgemaaDoorD.PrintWords Go.Proofs.YtmbaemcnjdgemaaDoorD.PrintLast Go.Proofs.YtmbaemcnjdgemaaDoorD.PrintMore
attribute [local go_sem] max2_int min2_int max_two min_two max_three min_three max_four min_four   -- for this text's walks alone
set_option linter.unusedVariables false
set_option linter.unusedSimpArgs false



def errW : Option Int → Value
 | none => .nilIface
 | some c => .iface 98 (.int .i64 c)
theorem errW_none : errW none = .nilIface := rfl
theorem errW_some (c : Int) : errW (some c) = .iface 98 (.int .i64 c) := rfl

theorem info5 : (Tryd.prog.info? 5).map (fun i => (i.zero, i.size, i.bytes)) = some (some (.int .u8 0), 1, 1) := by kernel_rfl
theorem info9 : (Tryd.prog.info? 9).map (fun i => (i.zero, i.size, i.bytes)) = some (some (.string ⟨#[]⟩), 1, 16) := by kernel_rfl
-- the values' own types

end Go.Proofs.YtmbaemcnjdgemaaDoor.QFnExactParsePrefix
