-- Written by this session's own program (wip/tools/xprint.py) on the seat's printed words. Lean checks it.
import Derived.Test.YtmmcafjppiamhaaProg
import Derived.Below
import Derived.Deep.Draws
import Derived.Deep.AppendLies
import Derived.Maps.AppendAt
import Derived.OwnWalk
import Derived.Laws.BytesArg
import Derived.Laws.MakeOwn
import Derived.Laws.OwnMore
import Derived.Deep.OwnRows
import Derived.Tactics
import Derived.Lib.ConvBytes
import Derived.Laws.Slices
import Derived.WalkKit
import Derived.KernelRfl
import Derived.RowKit3
import Derived.Deep.LoopGhost
import Derived.Deep.QuietTactic
import Derived.BigQuiet
import Derived.WideLaws
import Derived.Deep.DeepCutAuto
import Derived.Deep.CutBlock
import Derived.Deep.RegionHeld3
import Derived.Laws.Rows
import Derived.Lib.AppendStr
import Derived.ArgAppend
import Derived.Laws.IdiomCopy
import Derived.OrdersHeld
import Derived.Laws.BitsLemmas
import Derived.RowKit
import Derived.Test.YtmmcafjppiamhaaWWords
import Derived.Test.YtmmcafjppiamhaaWLast
import Derived.Test.YtmmcafjppiamhaaWTab
import Derived.Test.YtmmcafjppiamhaaWFour
import Derived.Test.YtmmcafjppiamhaaWQPut
import Derived.Test.YtmmcafjppiamhaaWApart
import Derived.Test.YtmmcafjppiamhaaWArr
import Derived.Test.YtmmcafjppiamhaaWZeros
import Derived.Test.YtmmcafjppiamhaaWFoot
import Derived.Test.YtmmcafjppiamhaaWKept
import Derived.Test.YtmmcafjppiamhaaWShare
import Derived.Test.YtmmcafjppiamhaaWN
import Derived.Test.YtmmcafjppiamhaaWFootNe
import Derived.Test.YtmmcafjppiamhaaWAt
import Derived.Test.YtmmcafjppiamhaaWEqStruct
import Derived.Test.YtmmcafjppiamhaaWRepsOne
import Derived.Test.YtmmcafjppiamhaaWInv
import Derived.Test.YtmmcafjppiamhaaWInvWords
import Derived.Test.YtmmcafjppiamhaaWGuard
import Derived.Test.YtmmcafjppiamhaaWNEv
import Derived.Test.YtmmcafjppiamhaaWMore
namespace Go.Proofs.Ytmmcafjppiamhaa.QFnExactPutNum
open Go.RowKit Go.Proofs.YtmmcafjppiamhaaW.PrintWords Go.Proofs.YtmmcafjppiamhaaW.PrintLast Go.Proofs.YtmmcafjppiamhaaW.PrintMore
attribute [local go_sem] max2_int min2_int max_two min_two max_three min_three max_four min_four   -- for this text's walks alone
set_option linter.unusedVariables false
set_option linter.unusedSimpArgs false



def errW : Option Int → Value
  | none => .nilIface
  | some c => .iface 0 (.int .i64 c)
theorem errW_none : errW none = .nilIface := rfl
theorem errW_some (c : Int) : errW (some c) = .iface 0 (.int .i64 c) := rfl

theorem info5 : (Try.prog.info? 5).map (fun i => (i.zero, i.size, i.bytes)) = some (some (.int .u8 0), 1, 1) := by kernel_rfl
-- the values' own types

end Go.Proofs.Ytmmcafjppiamhaa.QFnExactPutNum
