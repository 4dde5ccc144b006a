/- Each exported constant has the value that the reference gives: the law returns true. No condition. -/
import Derived.Test.YtkdkmpbdpniccaaPFnExactConstantsx1
import Derived.Test.YtkdkmpbdpniccaaBase
namespace Go.Proofs.Ytkdkmpbdpniccaa.Pure
open Go.RowKit Go.Proofs.Ytkdkmpbdpniccaa.PFnExactConstants Go.Proofs.YtkdkmpbdpniccaaW.PrintWords Go.Proofs.YtkdkmpbdpniccaaW.PrintLast Go.Proofs.YtkdkmpbdpniccaaW.PrintMore Go.Proofs.Ytkdkmpbdpniccaa.Base
set_option linter.unusedVariables false
set_option linter.unusedSimpArgs false

theorem FnExactConstants : laws_FnExactConstants.Pure := rfl


end Go.Proofs.Ytkdkmpbdpniccaa.Pure
