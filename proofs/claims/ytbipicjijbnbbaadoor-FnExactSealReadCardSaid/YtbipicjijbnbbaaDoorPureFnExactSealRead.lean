/- The law FnExactSealRead: at every text the program's SealRead answers as the reference's. No condition. -/
import Derived.Test.YtbipicjijbnbbaaDoorHx23
import Derived.Test.YtbipicjijbnbbaaDoorRs
set_option linter.unusedVariables false
set_option linter.unusedSimpArgs false
namespace Go.Proofs.YtbipicjijbnbbaaDoor.Pure
open Go.RowKit Go.Proofs.YtbipicjijbnbbaaDoor.Hp Go.Proofs.YtbipicjijbnbbaaDoorW.PrintWords Go.Proofs.YtbipicjijbnbbaaDoor.Dr
theorem FnExactSealRead : laws_FnExactSealRead.Pure := by
  intro a0 _
  refine Evs.rounds (g := fun k => laws_FnExactSealRead.f k a0) ?_
  unfold laws_FnExactSealRead.f
  refine Evs.ite (fun _ => Evs.now rfl) (fun hk => ?_)
  obtain ⟨r, hr, hR⟩ := Rw.impl_read a0 (by omega)
  refine (Rw.spec_read a0).bind ?_
  rintro q hq
  obtain rfl := Rw.Rd.unique hR hq
  rw [hr]
  obtain ⟨x0, x1, x2, x3, x4, x5, x6, b⟩ := r
  simp only [Option.bind_some, laws_eqSeal.f, if_true, bne_self_eq_false, Bool.false_eq_true, if_false]
  exact Evs.now rfl
end Go.Proofs.YtbipicjijbnbbaaDoor.Pure
