-- Written by this session's own program (wip/tools/xprint.py) on the seat's printed words. Lean checks it.
import Derived.Test.YtkmohnlkldkhdaaCFnExactStateSamex0
import Derived.Test.YtkmohnlkldkhdaaCFnExactStateSamex1
import Derived.Test.YtkmohnlkldkhdaaCFnExactStateSamex2
import Derived.Test.YtkmohnlkldkhdaaCFnExactStateSamex3
import Derived.Test.YtkmohnlkldkhdaaCFnExactStateSamex4
import Derived.Test.YtkmohnlkldkhdaaCFnExactStateSamex5
import Derived.Test.YtkmohnlkldkhdaaCFnExactStateSamex6
import Derived.Test.YtkmohnlkldkhdaaCFnExactStateSamex7
namespace Go.Proofs.Ytkmohnlkldkhdaa.QFnExactStateSame
open Go.RowKit Go.Proofs.YtkmohnlkldkhdaaW.PrintWords Go.Proofs.YtkmohnlkldkhdaaW.PrintLast Go.Proofs.YtkmohnlkldkhdaaW.PrintMore Go.Proofs.YtkmohnlkldkhdaaW.PrintShort Go.Proofs.YtkmohnlkldkhdaaW.PrintIsh
attribute [local go_sem] max2_int min2_int max_two min_two max_three min_three max_four min_four   -- for this text's walks alone
set_option linter.unusedVariables false
set_option linter.unusedSimpArgs false

end Go.Proofs.Ytkmohnlkldkhdaa.QFnExactStateSame
