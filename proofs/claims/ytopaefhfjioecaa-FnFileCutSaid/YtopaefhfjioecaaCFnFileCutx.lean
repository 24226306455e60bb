-- Written by this session's own program (wip/tools/xprint.py) on the seat's printed words. Lean checks it.
import Derived.Test.YtopaefhfjioecaaCFnFileCutx0
import Derived.Test.YtopaefhfjioecaaCFnFileCutx1
import Derived.Test.YtopaefhfjioecaaCFnFileCutx2
import Derived.Test.YtopaefhfjioecaaCFnFileCutx3
import Derived.Test.YtopaefhfjioecaaCFnFileCutx4
import Derived.Test.YtopaefhfjioecaaCFnFileCutx5
import Derived.Test.YtopaefhfjioecaaCFnFileCutx6
import Derived.Test.YtopaefhfjioecaaCFnFileCutx7
import Derived.Test.YtopaefhfjioecaaCFnFileCutx8
import Derived.Test.YtopaefhfjioecaaCFnFileCutx9
import Derived.Test.YtopaefhfjioecaaCFnFileCutx10
import Derived.Test.YtopaefhfjioecaaCFnFileCutx11
import Derived.Test.YtopaefhfjioecaaCFnFileCutx12
namespace Go.Proofs.Ytopaefhfjioecaa.QFnFileCut
open Go.RowKit Go.Proofs.YtopaefhfjioecaaW.PrintWords Go.Proofs.YtopaefhfjioecaaW.PrintLast Go.Proofs.YtopaefhfjioecaaW.PrintMore
attribute [local go_sem] max2_int min2_int max_two min_two max_three min_three max_four min_four   -- for this text's walks alone
set_option linter.unusedVariables false
set_option linter.unusedSimpArgs false

end Go.Proofs.Ytopaefhfjioecaa.QFnFileCut
