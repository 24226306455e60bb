-- Written by this session's own program (wip/tools/xprint.py) on the seat's printed words. Lean checks it.
import Derived.Test.YtbmjmaahcaoajaaCFnExactSeenRightx0
import Derived.Test.YtbmjmaahcaoajaaCFnExactSeenRightx1
import Derived.Test.YtbmjmaahcaoajaaCFnExactSeenRightx2
import Derived.Test.YtbmjmaahcaoajaaCFnExactSeenRightx3
import Derived.Test.YtbmjmaahcaoajaaCFnExactSeenRightx4
import Derived.Test.YtbmjmaahcaoajaaCFnExactSeenRightx5
import Derived.Test.YtbmjmaahcaoajaaCFnExactSeenRightx6
import Derived.Test.YtbmjmaahcaoajaaCFnExactSeenRightx7
import Derived.Test.YtbmjmaahcaoajaaCFnExactSeenRightx8
import Derived.Test.YtbmjmaahcaoajaaCFnExactSeenRightx9
import Derived.Test.YtbmjmaahcaoajaaCFnExactSeenRightx10
import Derived.Test.YtbmjmaahcaoajaaCFnExactSeenRightx11
import Derived.Test.YtbmjmaahcaoajaaCFnExactSeenRightx12
import Derived.Test.YtbmjmaahcaoajaaCFnExactSeenRightx13
import Derived.Test.YtbmjmaahcaoajaaCFnExactSeenRightx14
import Derived.Test.YtbmjmaahcaoajaaCFnExactSeenRightx15
import Derived.Test.YtbmjmaahcaoajaaCFnExactSeenRightx16
import Derived.Test.YtbmjmaahcaoajaaCFnExactSeenRightx17
namespace Go.Proofs.Ytbmjmaahcaoajaa.QFnExactSeenRight
open Go.RowKit Go.Proofs.YtbmjmaahcaoajaaW.PrintWords Go.Proofs.YtbmjmaahcaoajaaW.PrintLast Go.Proofs.YtbmjmaahcaoajaaW.PrintMore
attribute [local go_sem] max2_int min2_int max_two min_two max_three min_three max_four min_four   -- for this text's walks alone
set_option linter.unusedVariables false
set_option linter.unusedSimpArgs false

end Go.Proofs.Ytbmjmaahcaoajaa.QFnExactSeenRight
