-- Written by this session's own program (wip/tools/xprint.py) on the seat's printed words. Lean checks it.
import Derived.Test.YtoegdbeajgddiaaCFnExactBeginx0
import Derived.Test.YtoegdbeajgddiaaCFnExactBeginx1
import Derived.Test.YtoegdbeajgddiaaCFnExactBeginx2
import Derived.Test.YtoegdbeajgddiaaCFnExactBeginx3
import Derived.Test.YtoegdbeajgddiaaCFnExactBeginx4
import Derived.Test.YtoegdbeajgddiaaCFnExactBeginx5
import Derived.Test.YtoegdbeajgddiaaCFnExactBeginx6
import Derived.Test.YtoegdbeajgddiaaCFnExactBeginx7
import Derived.Test.YtoegdbeajgddiaaCFnExactBeginx8
import Derived.Test.YtoegdbeajgddiaaCFnExactBeginx9
import Derived.Test.YtoegdbeajgddiaaCFnExactBeginx10
import Derived.Test.YtoegdbeajgddiaaCFnExactBeginx11
import Derived.Test.YtoegdbeajgddiaaCFnExactBeginx12
import Derived.Test.YtoegdbeajgddiaaCFnExactBeginx13
import Derived.Test.YtoegdbeajgddiaaCFnExactBeginx14
namespace Go.Proofs.Ytoegdbeajgddiaa.QFnExactBegin
open Go.RowKit Go.Proofs.YtoegdbeajgddiaaW.PrintWords Go.Proofs.YtoegdbeajgddiaaW.PrintLast Go.Proofs.YtoegdbeajgddiaaW.PrintMore Go.Proofs.YtoegdbeajgddiaaW.PrintShort Go.Proofs.YtoegdbeajgddiaaW.PrintIsh
attribute [local go_sem] max2_int min2_int max_two min_two max_three min_three max_four min_four   -- for this text's walks alone
set_option linter.unusedVariables false
set_option linter.unusedSimpArgs false

end Go.Proofs.Ytoegdbeajgddiaa.QFnExactBegin
