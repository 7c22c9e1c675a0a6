/- Proved: the law FnExactConstants returns true; there are no conditions. -/
import Derived.Test.YtbdepabelielfaaPFnExactConstantsx1
set_option linter.unusedVariables false
set_option linter.unusedSimpArgs false
namespace Go.Proofs.Ytbdepabelielfaa.Pure
open Go.RowKit Go.Proofs.Ytbdepabelielfaa.PFnExactConstants Go.Proofs.YtbdepabelielfaaW.PrintWords Go.Proofs.YtbdepabelielfaaW.PrintLast

-- FnExactConstants
theorem FnExactConstants : laws_FnExactConstants.Pure := rfl

end Go.Proofs.Ytbdepabelielfaa.Pure
