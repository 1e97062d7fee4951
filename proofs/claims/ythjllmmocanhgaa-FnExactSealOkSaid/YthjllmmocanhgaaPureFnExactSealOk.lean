/- The law FnExactSealOk: at every seal the program's SealOk answers as the reference's. No condition. -/
import Derived.Test.YthjllmmocanhgaaHx7
import Derived.Test.YthjllmmocanhgaaSl
namespace Go.Proofs.Ythjllmmocanhgaa.Pure
open Go.RowKit Go.Proofs.Ythjllmmocanhgaa.Hp Go.Proofs.YthjllmmocanhgaaW.PrintWords
theorem FnExactSealOk (key kind a b c d e : Int) : laws_FnExactSealOk.f key kind a b c d e = some true := by
  simp only [laws_FnExactSealOk.f, laws_toSeal.f, Sl.impl_ok, Sl.spec_ok, Option.bind_some, bne_self_eq_false, Bool.false_eq_true, if_false]
end Go.Proofs.Ythjllmmocanhgaa.Pure
