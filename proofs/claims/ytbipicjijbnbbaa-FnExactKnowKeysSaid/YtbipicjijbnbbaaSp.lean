/- What the reference's SealHolds comes to. -/
import Derived.Test.YtbipicjijbnbbaaHx26
import Derived.Test.YtbipicjijbnbbaaSl
set_option linter.unusedVariables false
set_option linter.unusedSimpArgs false
namespace Go.Proofs.Ytbipicjijbnbbaa.Sl
open Go.RowKit Go.Proofs.Ytbipicjijbnbbaa.Hp Go.Proofs.YtbipicjijbnbbaaW.PrintWords

theorem spec_holds (key kind a b c d e : Int) : spec_SealHolds.f key kind a b c d e = some (holds key kind a b c d e) := by
  simp only [spec_SealHolds.f, spec_l1Holds.f, spec_ok, Option.bind_some, holds]
  repeat' split
  all_goals simp_all
end Go.Proofs.Ytbipicjijbnbbaa.Sl
