-- Written by this session's own program (wip/tools/xprint.py) on the seat's printed words. Lean checks it.
import Derived.Test.YtbmjmaahcaoajaaCFnExactGuessx0
import Derived.Test.YtbmjmaahcaoajaaCFnExactGuessx1
import Derived.Test.YtbmjmaahcaoajaaCFnExactGuessx2
import Derived.Test.YtbmjmaahcaoajaaCFnExactGuessx3
import Derived.Test.YtbmjmaahcaoajaaCFnExactGuessx4
import Derived.Test.YtbmjmaahcaoajaaCFnExactGuessx5
import Derived.Test.YtbmjmaahcaoajaaCFnExactGuessx6
import Derived.Test.YtbmjmaahcaoajaaCFnExactGuessx7
import Derived.Test.YtbmjmaahcaoajaaCFnExactGuessx8
import Derived.Test.YtbmjmaahcaoajaaCFnExactGuessx9
import Derived.Test.YtbmjmaahcaoajaaCFnExactGuessx10
import Derived.Test.YtbmjmaahcaoajaaCFnExactGuessx11
import Derived.Test.YtbmjmaahcaoajaaCFnExactGuessx12
import Derived.Test.YtbmjmaahcaoajaaCFnExactGuessx13
import Derived.Test.YtbmjmaahcaoajaaCFnExactGuessx14
import Derived.Test.YtbmjmaahcaoajaaCFnExactGuessx15
import Derived.Test.YtbmjmaahcaoajaaCFnExactGuessx16
import Derived.Test.YtbmjmaahcaoajaaCFnExactGuessx17
namespace Go.Proofs.Ytbmjmaahcaoajaa.QFnExactGuess
open Go.RowKit Go.Proofs.YtbmjmaahcaoajaaW.PrintWords Go.Proofs.YtbmjmaahcaoajaaW.PrintLast Go.Proofs.YtbmjmaahcaoajaaW.PrintMore Go.Proofs.YtbmjmaahcaoajaaW.PrintShort Go.Proofs.YtbmjmaahcaoajaaW.PrintIsh
attribute [local go_sem] max2_int min2_int max_two min_two max_three min_three max_four min_four   -- for this text's walks alone
set_option linter.unusedVariables false
set_option linter.unusedSimpArgs false

end Go.Proofs.Ytbmjmaahcaoajaa.QFnExactGuess
