/- Contracts of functions that the law reaches: what each call returns and what it leaves in memory. Made by this session over the print of the kit. -/
import Derived.Test.YtinmdckpljnpcaaProg
import Derived.Below
import Derived.Deep.Draws
import Derived.Deep.AppendLies
import Derived.Maps.AppendAt
import Derived.OwnWalk
import Derived.Laws.BytesArg
import Derived.Laws.MakeOwn
import Derived.Laws.OwnMore
import Derived.Deep.OwnRows
import Derived.Tactics
import Derived.Lib.ConvBytes
import Derived.Laws.Slices
import Derived.WalkKit
import Derived.KernelRfl
import Derived.RowKit3
import Derived.Deep.LoopGhost
import Derived.Deep.QuietTactic
import Derived.BigQuiet
import Derived.WideLaws
import Derived.Deep.DeepCutAuto
import Derived.Deep.CutBlock
import Derived.Deep.RegionHeld3
import Derived.Laws.Rows
import Derived.Lib.AppendStr
import Derived.ArgAppend
import Derived.Laws.IdiomCopy
import Derived.OrdersHeld
import Derived.Laws.BitsLemmas
import Derived.RowKit
import Derived.Test.YtinmdckpljnpcaaWWords
import Derived.Test.YtinmdckpljnpcaaWLast
import Derived.Test.YtinmdckpljnpcaaWTab
import Derived.Test.YtinmdckpljnpcaaWFour
import Derived.Test.YtinmdckpljnpcaaWQPut
import Derived.Test.YtinmdckpljnpcaaWApart
import Derived.Test.YtinmdckpljnpcaaWArr
import Derived.Test.YtinmdckpljnpcaaWZeros
import Derived.Test.YtinmdckpljnpcaaWFoot
import Derived.Test.YtinmdckpljnpcaaWKept
import Derived.Test.YtinmdckpljnpcaaWShare
import Derived.Test.YtinmdckpljnpcaaWN
import Derived.Test.YtinmdckpljnpcaaWFootNe
import Derived.Test.YtinmdckpljnpcaaWAt
import Derived.Test.YtinmdckpljnpcaaWEqStruct
import Derived.Test.YtinmdckpljnpcaaWRepsOne
import Derived.Test.YtinmdckpljnpcaaWInv
import Derived.Test.YtinmdckpljnpcaaWInvWords
import Derived.Test.YtinmdckpljnpcaaWGuard
import Derived.Test.YtinmdckpljnpcaaWNEv
import Derived.Test.YtinmdckpljnpcaaWMore
namespace Go.Proofs.Ytinmdckpljnpcaa.QFnExactCommonPrefix
open Go.RowKit Go.Proofs.YtinmdckpljnpcaaW.PrintWords Go.Proofs.YtinmdckpljnpcaaW.PrintLast Go.Proofs.YtinmdckpljnpcaaW.PrintMore
attribute [local go_sem] max2_int min2_int max_two min_two max_three min_three max_four min_four   -- for this text's walks alone
set_option linter.unusedVariables false
set_option linter.unusedSimpArgs false



def errW : Option Int → Value
  | none => .nilIface
  | some c => .iface 0 (.int .i64 c)
theorem errW_none : errW none = .nilIface := rfl
theorem errW_some (c : Int) : errW (some c) = .iface 0 (.int .i64 c) := rfl

-- the values' own types

end Go.Proofs.Ytinmdckpljnpcaa.QFnExactCommonPrefix
