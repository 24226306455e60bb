-- Written by this session's own program (wip/tools/xprint.py) on the seat's printed words. Lean checks it.
import Derived.Test.YtkmohnlkldkhdaaCFnExactAsmSamex0
import Derived.Test.YtkmohnlkldkhdaaCFnExactAsmSamex1
import Derived.Test.YtkmohnlkldkhdaaCFnExactAsmSamex2
import Derived.Test.YtkmohnlkldkhdaaCFnExactAsmSamex3
import Derived.Test.YtkmohnlkldkhdaaCFnExactAsmSamex4
import Derived.Test.YtkmohnlkldkhdaaCFnExactAsmSamex5
import Derived.Test.YtkmohnlkldkhdaaCFnExactAsmSamex6
import Derived.Test.YtkmohnlkldkhdaaCFnExactAsmSamex7
import Derived.Test.YtkmohnlkldkhdaaCFnExactAsmSamex8
import Derived.Test.YtkmohnlkldkhdaaCFnExactAsmSamex9
import Derived.Test.YtkmohnlkldkhdaaCFnExactAsmSamex10
import Derived.Test.YtkmohnlkldkhdaaCFnExactAsmSamex11
namespace Go.Proofs.Ytkmohnlkldkhdaa.QFnExactAsmSame
open Go.RowKit Go.Proofs.YtkmohnlkldkhdaaW.PrintWords Go.Proofs.YtkmohnlkldkhdaaW.PrintLast Go.Proofs.YtkmohnlkldkhdaaW.PrintMore Go.Proofs.YtkmohnlkldkhdaaW.PrintShort Go.Proofs.YtkmohnlkldkhdaaW.PrintIsh
attribute [local go_sem] max2_int min2_int max_two min_two max_three min_three max_four min_four   -- for this text's walks alone
set_option linter.unusedVariables false
set_option linter.unusedSimpArgs false

end Go.Proofs.Ytkmohnlkldkhdaa.QFnExactAsmSame
