-- Written by this session's own program (wip/tools/xprint.py) on the seat's printed words. Lean checks it.
import Derived.Test.YthdfokebbcheoaaProg
import Derived.Below
import Derived.Deep.Draws
import Derived.Deep.AppendLies
import Derived.Maps.AppendAt
import Derived.OwnWalk
import Derived.Laws.BytesArg
import Derived.Laws.MakeOwn
import Derived.Laws.OwnMore
import Derived.Deep.OwnRows
import Derived.Tactics
import Derived.Lib.ConvBytes
import Derived.Laws.Slices
import Derived.WalkKit
import Derived.KernelRfl
import Derived.RowKit3
import Derived.Deep.LoopGhost
import Derived.Deep.QuietTactic
import Derived.BigQuiet
import Derived.WideLaws
import Derived.Deep.DeepCutAuto
import Derived.Deep.CutBlock
import Derived.Deep.RegionHeld3
import Derived.Laws.Rows
import Derived.Lib.AppendStr
import Derived.ArgAppend
import Derived.Laws.IdiomCopy
import Derived.OrdersHeld
import Derived.Laws.BitsLemmas
import Derived.RowKit
import Derived.Test.YthdfokebbcheoaaWWords
import Derived.Test.YthdfokebbcheoaaWLast
import Derived.Test.YthdfokebbcheoaaWTab
import Derived.Test.YthdfokebbcheoaaWFour
import Derived.Test.YthdfokebbcheoaaWQPut
import Derived.Test.YthdfokebbcheoaaWApart
import Derived.Test.YthdfokebbcheoaaWArr
import Derived.Test.YthdfokebbcheoaaWZeros
import Derived.Test.YthdfokebbcheoaaWFoot
import Derived.Test.YthdfokebbcheoaaWKept
import Derived.Test.YthdfokebbcheoaaWShare
import Derived.Test.YthdfokebbcheoaaWN
import Derived.Test.YthdfokebbcheoaaWFootNe
import Derived.Test.YthdfokebbcheoaaWAt
import Derived.Test.YthdfokebbcheoaaWEqStruct
import Derived.Test.YthdfokebbcheoaaWRepsOne
import Derived.Test.YthdfokebbcheoaaWInv
import Derived.Test.YthdfokebbcheoaaWInvWords
import Derived.Test.YthdfokebbcheoaaWGuard
import Derived.Test.YthdfokebbcheoaaWNEv
import Derived.Test.YthdfokebbcheoaaWMore
import Derived.Test.YthdfokebbcheoaaShort
import Derived.Test.YthdfokebbcheoaaIsh
namespace Go.Proofs.Ythdfokebbcheoaa.QFnSum
open Go.RowKit Go.Proofs.YthdfokebbcheoaaW.PrintWords Go.Proofs.YthdfokebbcheoaaW.PrintLast Go.Proofs.YthdfokebbcheoaaW.PrintMore Go.Proofs.YthdfokebbcheoaaW.PrintShort Go.Proofs.YthdfokebbcheoaaW.PrintIsh
attribute [local go_sem] max2_int min2_int max_two min_two max_three min_three max_four min_four   -- for this text's walks alone
set_option linter.unusedVariables false
set_option linter.unusedSimpArgs false



def errW : Option Int → Value
  | none => .nilIface
  | some c => .iface 0 (.int .i64 c)
theorem errW_none : errW none = .nilIface := rfl
theorem errW_some (c : Int) : errW (some c) = .iface 0 (.int .i64 c) := rfl

theorem info5 : (Try.prog.info? 5).map (fun i => (i.zero, i.size, i.bytes)) = some (some (.int .u8 0), 1, 1) := by kernel_rfl
-- the values' own types

end Go.Proofs.Ythdfokebbcheoaa.QFnSum
