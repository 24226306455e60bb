-- Written by this session's own program (wip/tools/xprint.py) on the seat's printed words. Lean checks it.
import Derived.Test.YtbmjmaahcaoajaaCFnExactFileBytesx0
import Derived.Test.YtbmjmaahcaoajaaCFnExactFileBytesx1
import Derived.Test.YtbmjmaahcaoajaaCFnExactFileBytesx2
import Derived.Test.YtbmjmaahcaoajaaCFnExactFileBytesx3
import Derived.Test.YtbmjmaahcaoajaaCFnExactFileBytesx4
import Derived.Test.YtbmjmaahcaoajaaCFnExactFileBytesx5
import Derived.Test.YtbmjmaahcaoajaaCFnExactFileBytesx6
import Derived.Test.YtbmjmaahcaoajaaCFnExactFileBytesx7
import Derived.Test.YtbmjmaahcaoajaaCFnExactFileBytesx8
import Derived.Test.YtbmjmaahcaoajaaCFnExactFileBytesx9
import Derived.Test.YtbmjmaahcaoajaaCFnExactFileBytesx10
import Derived.Test.YtbmjmaahcaoajaaCFnExactFileBytesx11
import Derived.Test.YtbmjmaahcaoajaaCFnExactFileBytesx12
import Derived.Test.YtbmjmaahcaoajaaCFnExactFileBytesx13
import Derived.Test.YtbmjmaahcaoajaaCFnExactFileBytesx14
namespace Go.Proofs.Ytbmjmaahcaoajaa.QFnExactFileBytes
open Go.RowKit Go.Proofs.YtbmjmaahcaoajaaW.PrintWords Go.Proofs.YtbmjmaahcaoajaaW.PrintLast Go.Proofs.YtbmjmaahcaoajaaW.PrintMore
attribute [local go_sem] max2_int min2_int max_two min_two max_three min_three max_four min_four   -- for this text's walks alone
set_option linter.unusedVariables false
set_option linter.unusedSimpArgs false

end Go.Proofs.Ytbmjmaahcaoajaa.QFnExactFileBytes
