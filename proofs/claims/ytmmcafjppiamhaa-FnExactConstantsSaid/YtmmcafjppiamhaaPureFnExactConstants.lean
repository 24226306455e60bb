/- FnExactConstants: every constant of the program is the number that the reference gives it. No condition. -/
import Derived.Test.YtmmcafjppiamhaaPFnExactConstantsx1
namespace Go.Proofs.Ytmmcafjppiamhaa.Pure
open Go.RowKit Go.Proofs.Ytmmcafjppiamhaa.PFnExactConstants Go.Proofs.YtmmcafjppiamhaaW.PrintWords Go.Proofs.YtmmcafjppiamhaaW.PrintLast

theorem FnExactConstants : laws_FnExactConstants.Pure := by
  rfl

end Go.Proofs.Ytmmcafjppiamhaa.Pure
