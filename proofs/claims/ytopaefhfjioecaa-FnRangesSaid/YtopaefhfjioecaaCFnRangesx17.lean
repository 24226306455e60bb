import Derived.Test.YtopaefhfjioecaaCFnRangesx0
namespace Go.Proofs.Ytopaefhfjioecaa.QFnRanges
open Go.RowKit Go.Proofs.YtopaefhfjioecaaW
open PrintWords PrintLast PrintMore PrintShort
attribute [local go_sem] max2_int min2_int max_two min_two max_three min_three max_four min_four   -- for this text's walks alone
set_option linter.unusedVariables false
set_option linter.unusedSimpArgs false

-- NOT PRINTED: function 6 (laws_FnRanges)

end Go.Proofs.Ytopaefhfjioecaa.QFnRanges
