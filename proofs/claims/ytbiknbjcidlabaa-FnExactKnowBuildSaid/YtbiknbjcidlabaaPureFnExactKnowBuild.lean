/- The law FnExactKnowBuild: at every keys, seals and word the program's KnowBuild answers as the reference's, and writes nothing into them. No condition but that a list is no longer than a list can be. -/
import Derived.Test.YtbiknbjcidlabaaHx61
import Derived.Test.YtbiknbjcidlabaaEx
import Derived.Test.YtbiknbjcidlabaaEi
import Derived.Test.YtbiknbjcidlabaaRb
set_option linter.unusedVariables false
set_option linter.unusedSimpArgs false
namespace Go.Proofs.Ytbiknbjcidlabaa.Pure
open Go.RowKit Go.Proofs.Ytbiknbjcidlabaa.Hp Go.Proofs.YtbiknbjcidlabaaW.PrintWords Go.Proofs.Ytbiknbjcidlabaa.Dr
theorem FnExactKnowBuild (l0 : List Int) (l1 : List S77) (kind client serv nonce : Int) (l : List S77) (h0 : l0.length ≤ 9223372036854775807) (h1 : l1.length ≤ 9223372036854775807) (hl : l.length ≤ 9223372036854775807) : ∃ k, laws_FnExactKnowBuild.f k l0 l1 kind client serv nonce l = some true := by
  refine Evs.rounds (g := fun k => laws_FnExactKnowBuild.f k l0 l1 kind client serv nonce l) ?_
  unfold laws_FnExactKnowBuild.f
  refine Evs.ite (fun _ => Evs.now rfl) (fun hk => ?_)
  simp only [laws_szMsg.f, Ex.sz_is l1 1048576 (by omega) (by omega) h1, Option.bind_some]
  by_cases hs : (1048576 : Int) < l1.length
  · rw [if_pos hs]
    exact Evs.always (r := true) (by simp) rfl
  · rw [if_neg hs]
    refine Evs.else_ (by omega) ?_
    simp only [Ex.sz_is l (1048576 - l1.length) (by omega) (by omega) hl, Option.bind_some]
    by_cases hm : (1048576 : Int) - l1.length < l.length
    · rw [if_pos hm]
      exact Evs.always (r := true) (by simp) rfl
    · rw [if_neg hm, if_neg (by omega)]
      simp only [Option.bind_some]
      refine Evs.else_ (by omega) ?_
      have hki := Ei.to_ev l0 (by omega)
      have hss := Ex.to_ev l1 (by omega)
      have hto : Evs (fun k => laws_toMsg.f k kind client serv nonce l) (· = (kind, client, serv, nonce, l.map Ex.conv)) := by
        unfold laws_toMsg.f
        refine (Ex.to_ev l (by omega)).bind ?_
        rintro _ rfl
        exact Evs.now rfl
      refine hki.bind ?_
      rintro _ rfl
      refine hss.bind ?_
      rintro _ rfl
      refine hto.bind ?_
      rintro _ rfl
      refine (Rd.knowBuild_ev _ (l1.map Ex.conv) kind client serv nonce (l.map Ex.conv) h0 (by simp; omega) (by simp; omega)).bind ?_
      rintro _ rfl
      refine hki.bind ?_
      rintro _ rfl
      refine hss.bind ?_
      rintro _ rfl
      refine hto.bind ?_
      rintro _ rfl
      simp only [impl_KnowBuild.f, Option.bind_some, bne_self_eq_false, Bool.false_eq_true, if_false]
      refine hki.bind ?_
      rintro _ rfl
      refine (Ei.eq_ev _ h0).bind ?_
      rintro _ rfl
      refine Evs.then_ rfl ?_
      refine hss.bind ?_
      rintro _ rfl
      refine (Ex.eq_ev _ (by simp; omega)).bind ?_
      rintro _ rfl
      refine Evs.then_ rfl ?_
      refine hto.bind ?_
      rintro _ rfl
      have heq : Evs (fun k => laws_eqMsg.f k kind client serv nonce (l.map Ex.conv) kind client serv nonce (l.map Ex.conv)) (· = true) := by
        unfold laws_eqMsg.f
        simp only [if_true]
        refine (Ex.eq_ev _ (by simp; omega)).bind ?_
        rintro _ rfl
        exact Evs.now rfl
      refine heq.bind ?_
      rintro _ rfl
      exact Evs.now rfl
end Go.Proofs.Ytbiknbjcidlabaa.Pure
