/- The law FnExactSealHolds: at every seal the program's SealHolds answers as the reference's. No condition. -/
import Derived.Test.YthjllmmocanhgaaHx7
import Derived.Test.YthjllmmocanhgaaSl
namespace Go.Proofs.Ythjllmmocanhgaa.Pure
open Go.RowKit Go.Proofs.Ythjllmmocanhgaa.Hp Go.Proofs.YthjllmmocanhgaaW.PrintWords
theorem FnExactSealHolds (key kind a b c d e : Int) : laws_FnExactSealHolds.f key kind a b c d e = some true := by
  simp only [laws_FnExactSealHolds.f, laws_toSeal.f, Sl.impl_holds, Sl.spec_holds, Option.bind_some, if_true]
end Go.Proofs.Ythjllmmocanhgaa.Pure
