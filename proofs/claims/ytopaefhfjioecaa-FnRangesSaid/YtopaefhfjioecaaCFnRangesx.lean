-- Written by this session's own program (wip/tools/xprint.py) on the seat's printed words. Lean checks it.
import Derived.Test.YtopaefhfjioecaaCFnRangesx0
import Derived.Test.YtopaefhfjioecaaCFnRangesx1
import Derived.Test.YtopaefhfjioecaaCFnRangesx2
import Derived.Test.YtopaefhfjioecaaCFnRangesx3
import Derived.Test.YtopaefhfjioecaaCFnRangesx4
import Derived.Test.YtopaefhfjioecaaCFnRangesx5
import Derived.Test.YtopaefhfjioecaaCFnRangesx6
import Derived.Test.YtopaefhfjioecaaCFnRangesx7
import Derived.Test.YtopaefhfjioecaaCFnRangesx8
import Derived.Test.YtopaefhfjioecaaCFnRangesx9
import Derived.Test.YtopaefhfjioecaaCFnRangesx10
import Derived.Test.YtopaefhfjioecaaCFnRangesx11
import Derived.Test.YtopaefhfjioecaaCFnRangesx12
import Derived.Test.YtopaefhfjioecaaCFnRangesx13
import Derived.Test.YtopaefhfjioecaaCFnRangesx14
import Derived.Test.YtopaefhfjioecaaCFnRangesx15
import Derived.Test.YtopaefhfjioecaaCFnRangesx16
import Derived.Test.YtopaefhfjioecaaCFnRangesx17
namespace Go.Proofs.Ytopaefhfjioecaa.QFnRanges
open Go.RowKit Go.Proofs.YtopaefhfjioecaaW.PrintWords Go.Proofs.YtopaefhfjioecaaW.PrintLast Go.Proofs.YtopaefhfjioecaaW.PrintMore
attribute [local go_sem] max2_int min2_int max_two min_two max_three min_three max_four min_four   -- for this text's walks alone
set_option linter.unusedVariables false
set_option linter.unusedSimpArgs false

end Go.Proofs.Ytopaefhfjioecaa.QFnRanges
