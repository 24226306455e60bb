-- Written by this session's own program (wip/tools/xprint.py) on the seat's printed words. Lean checks it.
import Derived.Test.YtbmjmaahcaoajaaCFnExactHeightsx0
import Derived.Test.YtbmjmaahcaoajaaCFnExactHeightsx1
import Derived.Test.YtbmjmaahcaoajaaCFnExactHeightsx2
import Derived.Test.YtbmjmaahcaoajaaCFnExactHeightsx3
import Derived.Test.YtbmjmaahcaoajaaCFnExactHeightsx4
import Derived.Test.YtbmjmaahcaoajaaCFnExactHeightsx5
import Derived.Test.YtbmjmaahcaoajaaCFnExactHeightsx6
import Derived.Test.YtbmjmaahcaoajaaCFnExactHeightsx7
import Derived.Test.YtbmjmaahcaoajaaCFnExactHeightsx8
import Derived.Test.YtbmjmaahcaoajaaCFnExactHeightsx9
import Derived.Test.YtbmjmaahcaoajaaCFnExactHeightsx10
import Derived.Test.YtbmjmaahcaoajaaCFnExactHeightsx11
import Derived.Test.YtbmjmaahcaoajaaCFnExactHeightsx12
import Derived.Test.YtbmjmaahcaoajaaCFnExactHeightsx13
namespace Go.Proofs.Ytbmjmaahcaoajaa.QFnExactHeights
open Go.RowKit Go.Proofs.YtbmjmaahcaoajaaW.PrintWords Go.Proofs.YtbmjmaahcaoajaaW.PrintLast Go.Proofs.YtbmjmaahcaoajaaW.PrintMore Go.Proofs.YtbmjmaahcaoajaaW.PrintShort Go.Proofs.YtbmjmaahcaoajaaW.PrintIsh
attribute [local go_sem] max2_int min2_int max_two min_two max_three min_three max_four min_four   -- for this text's walks alone
set_option linter.unusedVariables false
set_option linter.unusedSimpArgs false

end Go.Proofs.Ytbmjmaahcaoajaa.QFnExactHeights
