/- The law FnExactConstants answers true: all the constants are those that it names; no condition. -/
import Derived.Test.YtpeldebkflpjbaaPFnExactConstantsx1
namespace Go.Proofs.Ytpeldebkflpjbaa.Pure
open Go.RowKit Go.Proofs.Ytpeldebkflpjbaa.PFnExactConstants Go.Proofs.YtpeldebkflpjbaaW.PrintWords Go.Proofs.YtpeldebkflpjbaaW.PrintLast

theorem FnExactConstants : laws_FnExactConstants.Pure := by
  rfl

end Go.Proofs.Ytpeldebkflpjbaa.Pure
