/- The law FnExactSealText: at every seal the program's SealText answers as the reference's. No condition. -/
import Derived.Test.YtgekmdfcbcacdaaDoorHx11
import Derived.Test.YtgekmdfcbcacdaaDoorSt
set_option linter.unusedVariables false
set_option linter.unusedSimpArgs false
namespace Go.Proofs.YtgekmdfcbcacdaaDoor.Pure
open Go.RowKit Go.Proofs.YtgekmdfcbcacdaaDoor.Hp Go.Proofs.YtgekmdfcbcacdaaDoorW.PrintWords Go.Proofs.YtgekmdfcbcacdaaDoor.Dr
theorem FnExactSealText (key kind a b c d e : Int) : ∃ k, laws_FnExactSealText.f k key kind a b c d e = some true := by
  refine Evs.rounds (g := fun k => laws_FnExactSealText.f k key kind a b c d e) ?_
  unfold laws_FnExactSealText.f
  simp only [laws_toSeal.f, Option.bind_some]
  refine (St.spec_text key kind a b c d e).bind ?_
  rintro _ rfl
  simp only [St.impl_text, Option.bind_some]
  exact Evs.then_ (by trivial) (Evs.now rfl)
end Go.Proofs.YtgekmdfcbcacdaaDoor.Pure
