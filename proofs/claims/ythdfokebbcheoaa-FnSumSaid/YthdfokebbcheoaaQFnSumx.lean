-- Written by this session's own program (wip/tools/xprint.py) on the seat's printed words. Lean checks it.
import Derived.Test.YthdfokebbcheoaaQFnSumx0
import Derived.Test.YthdfokebbcheoaaQFnSumx1
import Derived.Test.YthdfokebbcheoaaQFnSumx2
import Derived.Test.YthdfokebbcheoaaQFnSumx3
namespace Go.Proofs.Ythdfokebbcheoaa.QFnSum
open Go.RowKit Go.Proofs.YthdfokebbcheoaaW.PrintWords Go.Proofs.YthdfokebbcheoaaW.PrintLast Go.Proofs.YthdfokebbcheoaaW.PrintMore Go.Proofs.YthdfokebbcheoaaW.PrintShort Go.Proofs.YthdfokebbcheoaaW.PrintIsh
attribute [local go_sem] max2_int min2_int max_two min_two max_three min_three max_four min_four   -- for this text's walks alone
set_option linter.unusedVariables false
set_option linter.unusedSimpArgs false

end Go.Proofs.Ythdfokebbcheoaa.QFnSum
