-- Written by this session's own program (wip/tools/xprint.py) on the seat's printed words. Lean checks it.
import Derived.Test.YtopaefhfjioecaaCFnHeightsx0
import Derived.Test.YtopaefhfjioecaaCFnHeightsx1
import Derived.Test.YtopaefhfjioecaaCFnHeightsx2
import Derived.Test.YtopaefhfjioecaaCFnHeightsx3
import Derived.Test.YtopaefhfjioecaaCFnHeightsx4
import Derived.Test.YtopaefhfjioecaaCFnHeightsx5
import Derived.Test.YtopaefhfjioecaaCFnHeightsx6
import Derived.Test.YtopaefhfjioecaaCFnHeightsx7
import Derived.Test.YtopaefhfjioecaaCFnHeightsx8
import Derived.Test.YtopaefhfjioecaaCFnHeightsx9
import Derived.Test.YtopaefhfjioecaaCFnHeightsx10
import Derived.Test.YtopaefhfjioecaaCFnHeightsx11
import Derived.Test.YtopaefhfjioecaaCFnHeightsx12
namespace Go.Proofs.Ytopaefhfjioecaa.QFnHeights
open Go.RowKit Go.Proofs.YtopaefhfjioecaaW.PrintWords Go.Proofs.YtopaefhfjioecaaW.PrintLast Go.Proofs.YtopaefhfjioecaaW.PrintMore
attribute [local go_sem] max2_int min2_int max_two min_two max_three min_three max_four min_four   -- for this text's walks alone
set_option linter.unusedVariables false
set_option linter.unusedSimpArgs false

end Go.Proofs.Ytopaefhfjioecaa.QFnHeights
