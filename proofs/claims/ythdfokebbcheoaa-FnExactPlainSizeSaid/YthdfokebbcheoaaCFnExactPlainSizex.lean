-- Written by this session's own program (wip/tools/xprint.py) on the seat's printed words. Lean checks it.
import Derived.Test.YthdfokebbcheoaaCFnExactPlainSizex0
import Derived.Test.YthdfokebbcheoaaCFnExactPlainSizex1
import Derived.Test.YthdfokebbcheoaaCFnExactPlainSizex2
import Derived.Test.YthdfokebbcheoaaCFnExactPlainSizex3
import Derived.Test.YthdfokebbcheoaaCFnExactPlainSizex4
import Derived.Test.YthdfokebbcheoaaCFnExactPlainSizex5
import Derived.Test.YthdfokebbcheoaaCFnExactPlainSizex6
import Derived.Test.YthdfokebbcheoaaCFnExactPlainSizex7
import Derived.Test.YthdfokebbcheoaaCFnExactPlainSizex8
import Derived.Test.YthdfokebbcheoaaCFnExactPlainSizex9
import Derived.Test.YthdfokebbcheoaaCFnExactPlainSizex10
import Derived.Test.YthdfokebbcheoaaCFnExactPlainSizex11
import Derived.Test.YthdfokebbcheoaaCFnExactPlainSizex12
import Derived.Test.YthdfokebbcheoaaCFnExactPlainSizex13
import Derived.Test.YthdfokebbcheoaaCFnExactPlainSizex14
import Derived.Test.YthdfokebbcheoaaCFnExactPlainSizex15
import Derived.Test.YthdfokebbcheoaaCFnExactPlainSizex16
namespace Go.Proofs.Ythdfokebbcheoaa.QFnExactPlainSize
open Go.RowKit Go.Proofs.YthdfokebbcheoaaW.PrintWords Go.Proofs.YthdfokebbcheoaaW.PrintLast Go.Proofs.YthdfokebbcheoaaW.PrintMore Go.Proofs.YthdfokebbcheoaaW.PrintShort Go.Proofs.YthdfokebbcheoaaW.PrintIsh
attribute [local go_sem] max2_int min2_int max_two min_two max_three min_three max_four min_four   -- for this text's walks alone
set_option linter.unusedVariables false
set_option linter.unusedSimpArgs false

end Go.Proofs.Ythdfokebbcheoaa.QFnExactPlainSize
