-- Written by this session's own program (wip/tools/xprint.py) on the seat's printed words. Lean checks it.
import Derived.Test.YtbmjmaahcaoajaaCFnExactLivex0
import Derived.Test.YtbmjmaahcaoajaaCFnExactLivex1
import Derived.Test.YtbmjmaahcaoajaaCFnExactLivex2
import Derived.Test.YtbmjmaahcaoajaaCFnExactLivex3
import Derived.Test.YtbmjmaahcaoajaaCFnExactLivex4
import Derived.Test.YtbmjmaahcaoajaaCFnExactLivex5
import Derived.Test.YtbmjmaahcaoajaaCFnExactLivex6
import Derived.Test.YtbmjmaahcaoajaaCFnExactLivex7
import Derived.Test.YtbmjmaahcaoajaaCFnExactLivex8
import Derived.Test.YtbmjmaahcaoajaaCFnExactLivex9
import Derived.Test.YtbmjmaahcaoajaaCFnExactLivex10
import Derived.Test.YtbmjmaahcaoajaaCFnExactLivex11
import Derived.Test.YtbmjmaahcaoajaaCFnExactLivex12
import Derived.Test.YtbmjmaahcaoajaaCFnExactLivex13
import Derived.Test.YtbmjmaahcaoajaaCFnExactLivex14
import Derived.Test.YtbmjmaahcaoajaaCFnExactLivex15
import Derived.Test.YtbmjmaahcaoajaaCFnExactLivex16
namespace Go.Proofs.Ytbmjmaahcaoajaa.QFnExactLive
open Go.RowKit Go.Proofs.YtbmjmaahcaoajaaW.PrintWords Go.Proofs.YtbmjmaahcaoajaaW.PrintLast Go.Proofs.YtbmjmaahcaoajaaW.PrintMore Go.Proofs.YtbmjmaahcaoajaaW.PrintShort Go.Proofs.YtbmjmaahcaoajaaW.PrintIsh
attribute [local go_sem] max2_int min2_int max_two min_two max_three min_three max_four min_four   -- for this text's walks alone
set_option linter.unusedVariables false
set_option linter.unusedSimpArgs false

end Go.Proofs.Ytbmjmaahcaoajaa.QFnExactLive
