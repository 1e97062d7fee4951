/- The law FnKnowNothing: a word that one can build tells one nothing. For every input. -/
import Derived.Test.YtbiknbjcidlabaaHx64
import Derived.Test.YtbiknbjcidlabaaDb
import Derived.Test.YtbiknbjcidlabaaRb
import Derived.Test.YtbiknbjcidlabaaLb
set_option linter.unusedVariables false
set_option linter.unusedSimpArgs false
namespace Go.Proofs.Ytbiknbjcidlabaa.Pure
open Go.RowKit Go.Proofs.Ytbiknbjcidlabaa.Hp Go.Proofs.YtbiknbjcidlabaaW.PrintWords Go.Proofs.Ytbiknbjcidlabaa.Dr Go.Proofs.Ytbiknbjcidlabaa.Kn Go.Proofs.Ytbiknbjcidlabaa.Rd
theorem FnKnowNothing : laws_FnKnowNothing.Pure := by
  intro l0 _ _ w0
  refine Evs.rounds (g := fun k => laws_FnKnowNothing.f k l0) ?_
  unfold laws_FnKnowNothing.f
  refine Evs.ite (fun _ => Evs.now rfl) (fun _ => ?_)
  refine (Dm.drawKnowBuild_ev w0).bind ?_
  rintro ⟨keys, ss, kind, client, serv, nonce, l⟩ ⟨h1, h2, h3⟩
  dsimp only at h1 h2 h3 ⊢
  have hlen := keys_len keys ss
  simp only [impl_KnowBuild.f, Option.bind_some]
  refine (knowBuild_ev keys ss kind client serv nonce l (by omega) (by omega) (by omega)).bind ?_
  rintro _ rfl
  refine Evs.else_ (by simp) ?_
  refine Evs.step (fun k => by simp only [laws_FnKnowNothing.j0, impl_KnowKeys.f, Option.bind_some, List.nil_append, List.length_nil]; rfl) ?_
  refine Evs.ite (fun _ => ?_) (fun h => ?_)
  · refine (knowBuild_ev keys ss kind client serv nonce l (by omega) (by omega) (by omega)).bind ?_
    rintro _ rfl
    exact Evs.now (by simp)
  · refine Evs.then_ (by omega) (Evs.then_ (by omega) ?_)
    have hb : l.all (canSeal (ringF keys ss) ss) = true := by
      simp only [Bool.not_eq_true', Bool.not_eq_false, Bool.and_eq_true] at h
      exact h.2
    rw [can_add (List.all_eq_true.1 hb)]
    refine (Lb.ints_ev _ (by omega)).bind ?_
    rintro _ rfl
    exact Evs.now rfl
end Go.Proofs.Ytbiknbjcidlabaa.Pure
