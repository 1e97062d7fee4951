/- The law FnExactMsgOk: at every word the program's MsgOk answers as the reference's, and writes nothing into it. No condition but that a list is no longer than a list can be. -/
import Derived.Test.YtbiknbjcidlabaaHx25
import Derived.Test.YtbiknbjcidlabaaEx
import Derived.Test.YtbiknbjcidlabaaMs
set_option linter.unusedVariables false
set_option linter.unusedSimpArgs false
namespace Go.Proofs.Ytbiknbjcidlabaa.Pure
open Go.RowKit Go.Proofs.Ytbiknbjcidlabaa.Hp Go.Proofs.YtbiknbjcidlabaaW.PrintWords Go.Proofs.Ytbiknbjcidlabaa.Dr
theorem FnExactMsgOk (kind client serv nonce : Int) (l : List S77) (hl : l.length ≤ 9223372036854775807) : ∃ k, laws_FnExactMsgOk.f k kind client serv nonce l = some true := by
  refine Evs.rounds (g := fun k => laws_FnExactMsgOk.f k kind client serv nonce l) ?_
  unfold laws_FnExactMsgOk.f
  simp only [laws_szMsg.f, Ex.sz_is l 1048576 (by omega) (by omega) hl, Option.bind_some]
  by_cases hlen : (1048576 : Int) < l.length
  · rw [if_pos hlen]
    exact Evs.always (r := true) (by simp) rfl
  · rw [if_neg hlen, if_neg (by omega)]
    simp only [Option.bind_some]
    refine Evs.else_ (by omega) ?_
    have hto : Evs (fun k => laws_toMsg.f k kind client serv nonce l) (· = (kind, client, serv, nonce, l.map Ex.conv)) := by
      unfold laws_toMsg.f
      refine (Ex.to_ev l (by omega)).bind ?_
      rintro _ rfl
      exact Evs.now rfl
    refine hto.bind ?_
    rintro _ rfl
    refine (Ms.spec_ev kind client serv nonce _ (by simp; omega)).bind ?_
    rintro _ rfl
    refine hto.bind ?_
    rintro _ rfl
    refine (Ms.impl_ev kind client serv nonce _).bind ?_
    rintro _ rfl
    simp only [bne_self_eq_false, Bool.false_eq_true, if_false]
    refine hto.bind ?_
    rintro _ rfl
    have heq : Evs (fun k => laws_eqMsg.f k kind client serv nonce (l.map Ex.conv) kind client serv nonce (l.map Ex.conv)) (· = true) := by
      unfold laws_eqMsg.f
      simp only [if_true]
      refine (Ex.eq_ev _ (by simp; omega)).bind ?_
      rintro _ rfl
      exact Evs.now rfl
    refine heq.bind ?_
    rintro _ rfl
    exact Evs.now rfl
end Go.Proofs.Ytbiknbjcidlabaa.Pure
