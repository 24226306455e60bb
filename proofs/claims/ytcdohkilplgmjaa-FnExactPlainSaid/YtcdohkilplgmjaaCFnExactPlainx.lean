-- Written by this session's own program (wip/tools/xprint.py) on the seat's printed words. Lean checks it.
import Derived.Test.YtcdohkilplgmjaaCFnExactPlainx0
import Derived.Test.YtcdohkilplgmjaaCFnExactPlainx1
import Derived.Test.YtcdohkilplgmjaaCFnExactPlainx2
import Derived.Test.YtcdohkilplgmjaaCFnExactPlainx3
import Derived.Test.YtcdohkilplgmjaaCFnExactPlainx4
import Derived.Test.YtcdohkilplgmjaaCFnExactPlainx5
import Derived.Test.YtcdohkilplgmjaaCFnExactPlainx6
import Derived.Test.YtcdohkilplgmjaaCFnExactPlainx7
import Derived.Test.YtcdohkilplgmjaaCFnExactPlainx8
import Derived.Test.YtcdohkilplgmjaaCFnExactPlainx9
import Derived.Test.YtcdohkilplgmjaaCFnExactPlainx10
import Derived.Test.YtcdohkilplgmjaaCFnExactPlainx11
import Derived.Test.YtcdohkilplgmjaaCFnExactPlainx12
import Derived.Test.YtcdohkilplgmjaaCFnExactPlainx13
import Derived.Test.YtcdohkilplgmjaaCFnExactPlainx14
import Derived.Test.YtcdohkilplgmjaaCFnExactPlainx15
import Derived.Test.YtcdohkilplgmjaaCFnExactPlainx16
import Derived.Test.YtcdohkilplgmjaaCFnExactPlainx17
import Derived.Test.YtcdohkilplgmjaaCFnExactPlainx18
namespace Go.Proofs.Ytcdohkilplgmjaa.QFnExactPlain
open Go.RowKit Go.Proofs.YtcdohkilplgmjaaW.PrintWords Go.Proofs.YtcdohkilplgmjaaW.PrintLast Go.Proofs.YtcdohkilplgmjaaW.PrintMore Go.Proofs.YtcdohkilplgmjaaW.PrintShort Go.Proofs.YtcdohkilplgmjaaW.PrintIsh
attribute [local go_sem] max2_int min2_int max_two min_two max_three min_three max_four min_four   -- for this text's walks alone
set_option linter.unusedVariables false
set_option linter.unusedSimpArgs false

end Go.Proofs.Ytcdohkilplgmjaa.QFnExactPlain
