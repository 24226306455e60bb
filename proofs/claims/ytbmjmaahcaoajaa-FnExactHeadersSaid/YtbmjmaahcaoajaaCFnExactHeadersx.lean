-- Written by this session's own program (wip/tools/xprint.py) on the seat's printed words. Lean checks it.
import Derived.Test.YtbmjmaahcaoajaaCFnExactHeadersx0
import Derived.Test.YtbmjmaahcaoajaaCFnExactHeadersx1
import Derived.Test.YtbmjmaahcaoajaaCFnExactHeadersx2
import Derived.Test.YtbmjmaahcaoajaaCFnExactHeadersx3
import Derived.Test.YtbmjmaahcaoajaaCFnExactHeadersx4
import Derived.Test.YtbmjmaahcaoajaaCFnExactHeadersx5
import Derived.Test.YtbmjmaahcaoajaaCFnExactHeadersx6
import Derived.Test.YtbmjmaahcaoajaaCFnExactHeadersx7
import Derived.Test.YtbmjmaahcaoajaaCFnExactHeadersx8
import Derived.Test.YtbmjmaahcaoajaaCFnExactHeadersx9
import Derived.Test.YtbmjmaahcaoajaaCFnExactHeadersx10
import Derived.Test.YtbmjmaahcaoajaaCFnExactHeadersx11
import Derived.Test.YtbmjmaahcaoajaaCFnExactHeadersx12
import Derived.Test.YtbmjmaahcaoajaaCFnExactHeadersx13
import Derived.Test.YtbmjmaahcaoajaaCFnExactHeadersx14
namespace Go.Proofs.Ytbmjmaahcaoajaa.QFnExactHeaders
open Go.RowKit Go.Proofs.YtbmjmaahcaoajaaW.PrintWords Go.Proofs.YtbmjmaahcaoajaaW.PrintLast Go.Proofs.YtbmjmaahcaoajaaW.PrintMore Go.Proofs.YtbmjmaahcaoajaaW.PrintShort Go.Proofs.YtbmjmaahcaoajaaW.PrintIsh
attribute [local go_sem] max2_int min2_int max_two min_two max_three min_three max_four min_four   -- for this text's walks alone
set_option linter.unusedVariables false
set_option linter.unusedSimpArgs false

end Go.Proofs.Ytbmjmaahcaoajaa.QFnExactHeaders
