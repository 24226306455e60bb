-- Written by this session's own program (wip/tools/xprint.py) on the seat's printed words. Lean checks it.
import Derived.Test.YtkmohnlkldkhdaaProg
import Derived.Below
import Derived.Deep.Draws
import Derived.Deep.AppendLies
import Derived.Maps.AppendAt
import Derived.OwnWalk
import Derived.Laws.BytesArg
import Derived.Laws.MakeOwn
import Derived.Laws.OwnMore
import Derived.Deep.OwnRows
import Derived.Tactics
import Derived.Lib.ConvBytes
import Derived.Laws.Slices
import Derived.WalkKit
import Derived.KernelRfl
import Derived.RowKit3
import Derived.Deep.LoopGhost
import Derived.Deep.QuietTactic
import Derived.BigQuiet
import Derived.WideLaws
import Derived.Deep.DeepCutAuto
import Derived.Deep.CutBlock
import Derived.Deep.RegionHeld3
import Derived.Laws.Rows
import Derived.Lib.AppendStr
import Derived.ArgAppend
import Derived.Laws.IdiomCopy
import Derived.OrdersHeld
import Derived.Laws.BitsLemmas
import Derived.RowKit
import Derived.Test.YtkmohnlkldkhdaaWWords
import Derived.Test.YtkmohnlkldkhdaaWLast
import Derived.Test.YtkmohnlkldkhdaaWTab
import Derived.Test.YtkmohnlkldkhdaaWFour
import Derived.Test.YtkmohnlkldkhdaaWQPut
import Derived.Test.YtkmohnlkldkhdaaWApart
import Derived.Test.YtkmohnlkldkhdaaWArr
import Derived.Test.YtkmohnlkldkhdaaWZeros
import Derived.Test.YtkmohnlkldkhdaaWFoot
import Derived.Test.YtkmohnlkldkhdaaWKept
import Derived.Test.YtkmohnlkldkhdaaWShare
import Derived.Test.YtkmohnlkldkhdaaWN
import Derived.Test.YtkmohnlkldkhdaaWFootNe
import Derived.Test.YtkmohnlkldkhdaaWAt
import Derived.Test.YtkmohnlkldkhdaaWEqStruct
import Derived.Test.YtkmohnlkldkhdaaWRepsOne
import Derived.Test.YtkmohnlkldkhdaaWInv
import Derived.Test.YtkmohnlkldkhdaaWInvWords
import Derived.Test.YtkmohnlkldkhdaaWGuard
import Derived.Test.YtkmohnlkldkhdaaWNEv
import Derived.Test.YtkmohnlkldkhdaaWMore
namespace Go.Proofs.Ytkmohnlkldkhdaa.QFnNums
open Go.RowKit Go.Proofs.YtkmohnlkldkhdaaW.PrintWords Go.Proofs.YtkmohnlkldkhdaaW.PrintLast Go.Proofs.YtkmohnlkldkhdaaW.PrintMore
attribute [local go_sem] max2_int min2_int max_two min_two max_three min_three max_four min_four   -- for this text's walks alone
set_option linter.unusedVariables false
set_option linter.unusedSimpArgs false



def errW : Option Int → Value
  | none => .nilIface
  | some c => .iface 0 (.int .i64 c)
theorem errW_none : errW none = .nilIface := rfl
theorem errW_some (c : Int) : errW (some c) = .iface 0 (.int .i64 c) := rfl

theorem info2 : (Try.prog.info? 2).map (fun i => (i.zero, i.size, i.bytes)) = some (some (.int .i64 0), 1, 8) := by kernel_rfl
theorem info5 : (Try.prog.info? 5).map (fun i => (i.zero, i.size, i.bytes)) = some (some (.int .u8 0), 1, 1) := by kernel_rfl
-- the values' own types

end Go.Proofs.Ytkmohnlkldkhdaa.QFnNums
