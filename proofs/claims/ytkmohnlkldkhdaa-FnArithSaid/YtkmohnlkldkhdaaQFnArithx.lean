-- Written by this session's own program (wip/tools/xprint.py) on the seat's printed words. Lean checks it.
import Derived.Test.YtkmohnlkldkhdaaQFnArithx0
import Derived.Test.YtkmohnlkldkhdaaQFnArithx1
import Derived.Test.YtkmohnlkldkhdaaQFnArithx2
import Derived.Test.YtkmohnlkldkhdaaQFnArithx3
import Derived.Test.YtkmohnlkldkhdaaQFnArithx4
import Derived.Test.YtkmohnlkldkhdaaQFnArithx5
import Derived.Test.YtkmohnlkldkhdaaQFnArithx6
namespace Go.Proofs.Ytkmohnlkldkhdaa.QFnArith
open Go.RowKit Go.Proofs.YtkmohnlkldkhdaaW.PrintWords Go.Proofs.YtkmohnlkldkhdaaW.PrintLast Go.Proofs.YtkmohnlkldkhdaaW.PrintMore
attribute [local go_sem] max2_int min2_int max_two min_two max_three min_three max_four min_four   -- for this text's walks alone
set_option linter.unusedVariables false
set_option linter.unusedSimpArgs false

end Go.Proofs.Ytkmohnlkldkhdaa.QFnArith
