/- The law FnExactMsgText: at every word the program's MsgText answers as the reference's, and writes nothing into it. No condition but that a list is no longer than a list can be. -/
import Derived.Test.YtgekmdfcbcacdaaDoorHx33
import Derived.Test.YtgekmdfcbcacdaaDoorEx
import Derived.Test.YtgekmdfcbcacdaaDoorMt
set_option linter.unusedVariables false
set_option linter.unusedSimpArgs false
namespace Go.Proofs.YtgekmdfcbcacdaaDoor.Pure
open Go.RowKit Go.Proofs.YtgekmdfcbcacdaaDoor.Hp Go.Proofs.YtgekmdfcbcacdaaDoorW.PrintWords Go.Proofs.YtgekmdfcbcacdaaDoor.Dr
theorem FnExactMsgText (kind client serv nonce : Int) (l : List S34) (hl : l.length ≤ 9223372036854775807) : ∃ k, laws_FnExactMsgText.f k kind client serv nonce l = some true := by
  refine Evs.rounds (g := fun k => laws_FnExactMsgText.f k kind client serv nonce l) ?_
  unfold laws_FnExactMsgText.f
  simp only [laws_szMsg.f, Ex.sz_is l 1048576 (by omega) (by omega) hl, Option.bind_some]
  by_cases hlen : (1048576 : Int) < l.length
  · rw [if_pos hlen]
    exact Evs.always (r := true) (by simp) rfl
  · rw [if_neg hlen, if_neg (by omega)]
    simp only [Option.bind_some]
    refine Evs.else_ (by omega) ?_
    have hto : Evs (fun k => laws_toMsg.f k kind client serv nonce l) (· = (kind, client, serv, nonce, l.map Ex.conv)) := by
      unfold laws_toMsg.f
      refine (Ex.to_ev l (by omega)).bind ?_
      rintro _ rfl
      exact Evs.now rfl
    refine hto.bind ?_
    rintro _ rfl
    refine (Mt.spec_msg kind client serv nonce _).bind ?_
    rintro _ rfl
    refine hto.bind ?_
    rintro _ rfl
    refine (Mt.impl_msg kind client serv nonce _).bind ?_
    rintro _ rfl
    refine Evs.then_ rfl ?_
    refine hto.bind ?_
    rintro _ rfl
    have heq : Evs (fun k => laws_eqMsg.f k kind client serv nonce (l.map Ex.conv) kind client serv nonce (l.map Ex.conv)) (· = true) := by
      unfold laws_eqMsg.f
      simp only [if_true]
      refine (Ex.eq_ev _ (by simp; omega)).bind ?_
      rintro _ rfl
      exact Evs.now rfl
    refine heq.bind ?_
    rintro _ rfl
    exact Evs.now rfl
end Go.Proofs.YtgekmdfcbcacdaaDoor.Pure
