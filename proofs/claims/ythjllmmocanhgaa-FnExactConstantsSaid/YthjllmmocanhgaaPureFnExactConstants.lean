/- The law FnExactConstants: every exported constant of the program is the document's. No condition. -/
import Derived.Test.YthjllmmocanhgaaPFnExactConstantsx1
namespace Go.Proofs.Ythjllmmocanhgaa.Pure
open Go.RowKit Go.Proofs.Ythjllmmocanhgaa.PFnExactConstants Go.Proofs.YthjllmmocanhgaaW.PrintWords Go.Proofs.YthjllmmocanhgaaW.PrintLast

theorem FnExactConstants : laws_FnExactConstants.Pure := by
  rfl

end Go.Proofs.Ythjllmmocanhgaa.Pure
