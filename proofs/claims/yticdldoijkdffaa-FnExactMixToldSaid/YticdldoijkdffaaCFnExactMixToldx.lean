-- Written by this session's own program (wip/tools/xprint.py) on the seat's printed words. Lean checks it.
import Derived.Test.YticdldoijkdffaaCFnExactMixToldx0
import Derived.Test.YticdldoijkdffaaCFnExactMixToldx1
import Derived.Test.YticdldoijkdffaaCFnExactMixToldx2
import Derived.Test.YticdldoijkdffaaCFnExactMixToldx3
import Derived.Test.YticdldoijkdffaaCFnExactMixToldx4
import Derived.Test.YticdldoijkdffaaCFnExactMixToldx5
import Derived.Test.YticdldoijkdffaaCFnExactMixToldx6
import Derived.Test.YticdldoijkdffaaCFnExactMixToldx7
import Derived.Test.YticdldoijkdffaaCFnExactMixToldx8
import Derived.Test.YticdldoijkdffaaCFnExactMixToldx9
import Derived.Test.YticdldoijkdffaaCFnExactMixToldx10
import Derived.Test.YticdldoijkdffaaCFnExactMixToldx11
import Derived.Test.YticdldoijkdffaaCFnExactMixToldx12
import Derived.Test.YticdldoijkdffaaCFnExactMixToldx13
namespace Go.Proofs.Yticdldoijkdffaa.QFnExactMixTold
open Go.RowKit Go.Proofs.YticdldoijkdffaaW.PrintWords Go.Proofs.YticdldoijkdffaaW.PrintLast Go.Proofs.YticdldoijkdffaaW.PrintMore Go.Proofs.YticdldoijkdffaaW.PrintShort Go.Proofs.YticdldoijkdffaaW.PrintIsh
attribute [local go_sem] max2_int min2_int max_two min_two max_three min_three max_four min_four   -- for this text's walks alone
set_option linter.unusedVariables false
set_option linter.unusedSimpArgs false

end Go.Proofs.Yticdldoijkdffaa.QFnExactMixTold
