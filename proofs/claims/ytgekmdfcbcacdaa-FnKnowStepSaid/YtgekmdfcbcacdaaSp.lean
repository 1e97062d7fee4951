/- What the reference's SealHolds comes to. -/
import Derived.Test.YtgekmdfcbcacdaaHx32
import Derived.Test.YtgekmdfcbcacdaaSl
set_option linter.unusedVariables false
set_option linter.unusedSimpArgs false
namespace Go.Proofs.Ytgekmdfcbcacdaa.Sl
open Go.RowKit Go.Proofs.Ytgekmdfcbcacdaa.Hp Go.Proofs.YtgekmdfcbcacdaaW.PrintWords

theorem spec_holds (key kind a b c d e : Int) : spec_SealHolds.f key kind a b c d e = some (holds key kind a b c d e) := by
  simp only [spec_SealHolds.f, spec_l1Holds.f, spec_ok, Option.bind_some, holds]
  repeat' split
  all_goals simp_all
end Go.Proofs.Ytgekmdfcbcacdaa.Sl
