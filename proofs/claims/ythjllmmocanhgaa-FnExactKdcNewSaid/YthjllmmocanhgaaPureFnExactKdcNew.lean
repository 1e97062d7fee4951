/- The law FnExactKdcNew: the program's KdcNew answers as the reference's, and each answer owns its memory. No condition. -/
import Derived.Test.YthjllmmocanhgaaPFnExactKdcNewx2
namespace Go.Proofs.Ythjllmmocanhgaa.Pure
open Go.RowKit Go.Proofs.Ythjllmmocanhgaa.PFnExactKdcNew Go.Proofs.YthjllmmocanhgaaW.PrintWords Go.Proofs.YthjllmmocanhgaaW.PrintLast

theorem FnExactKdcNew : laws_FnExactKdcNew.Pure := by
  exact ⟨5, rfl⟩

end Go.Proofs.Ythjllmmocanhgaa.Pure
