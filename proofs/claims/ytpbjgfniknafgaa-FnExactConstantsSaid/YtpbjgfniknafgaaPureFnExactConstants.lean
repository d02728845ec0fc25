/- The program's constants are those that the reference names. No condition. -/
import Derived.Test.YtpbjgfniknafgaaPFnExactConstantsx1
namespace Go.Proofs.Ytpbjgfniknafgaa.Pure
open Go.RowKit Go.Proofs.Ytpbjgfniknafgaa.PFnExactConstants Go.Proofs.YtpbjgfniknafgaaW.PrintWords Go.Proofs.YtpbjgfniknafgaaW.PrintLast

theorem FnExactConstants : laws_FnExactConstants.Pure := rfl

end Go.Proofs.Ytpbjgfniknafgaa.Pure
