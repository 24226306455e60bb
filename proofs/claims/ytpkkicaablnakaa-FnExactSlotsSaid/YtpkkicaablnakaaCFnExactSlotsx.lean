-- Written by this session's own program (wip/tools/xprint.py) on the seat's printed words. Lean checks it.
import Derived.Test.YtpkkicaablnakaaCFnExactSlotsx0
import Derived.Test.YtpkkicaablnakaaCFnExactSlotsx1
import Derived.Test.YtpkkicaablnakaaCFnExactSlotsx2
import Derived.Test.YtpkkicaablnakaaCFnExactSlotsx3
import Derived.Test.YtpkkicaablnakaaCFnExactSlotsx4
import Derived.Test.YtpkkicaablnakaaCFnExactSlotsx5
import Derived.Test.YtpkkicaablnakaaCFnExactSlotsx6
import Derived.Test.YtpkkicaablnakaaCFnExactSlotsx7
import Derived.Test.YtpkkicaablnakaaCFnExactSlotsx8
import Derived.Test.YtpkkicaablnakaaCFnExactSlotsx9
import Derived.Test.YtpkkicaablnakaaCFnExactSlotsx10
import Derived.Test.YtpkkicaablnakaaCFnExactSlotsx11
namespace Go.Proofs.Ytpkkicaablnakaa.QFnExactSlots
open Go.RowKit Go.Proofs.YtpkkicaablnakaaW.PrintWords Go.Proofs.YtpkkicaablnakaaW.PrintLast Go.Proofs.YtpkkicaablnakaaW.PrintMore
attribute [local go_sem] max2_int min2_int max_two min_two max_three min_three max_four min_four   -- for this text's walks alone
set_option linter.unusedVariables false
set_option linter.unusedSimpArgs false

end Go.Proofs.Ytpkkicaablnakaa.QFnExactSlots
