-- Written by this session's own program (wip/tools/xprint.py) on the seat's printed words. Lean checks it.
import Derived.Test.YtkmohnlkldkhdaaQFnNumsx0
import Derived.Test.YtkmohnlkldkhdaaQFnNumsx1
import Derived.Test.YtkmohnlkldkhdaaQFnNumsx2
import Derived.Test.YtkmohnlkldkhdaaQFnNumsx3
import Derived.Test.YtkmohnlkldkhdaaQFnNumsx4
import Derived.Test.YtkmohnlkldkhdaaQFnNumsx5
namespace Go.Proofs.Ytkmohnlkldkhdaa.QFnNums
open Go.RowKit Go.Proofs.YtkmohnlkldkhdaaW.PrintWords Go.Proofs.YtkmohnlkldkhdaaW.PrintLast Go.Proofs.YtkmohnlkldkhdaaW.PrintMore
attribute [local go_sem] max2_int min2_int max_two min_two max_three min_three max_four min_four   -- for this text's walks alone
set_option linter.unusedVariables false
set_option linter.unusedSimpArgs false

end Go.Proofs.Ytkmohnlkldkhdaa.QFnNums
