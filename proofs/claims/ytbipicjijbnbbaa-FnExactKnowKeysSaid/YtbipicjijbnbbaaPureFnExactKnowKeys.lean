/- The law FnExactKnowKeys: at every keys and seals the program's KnowKeys answers as the reference's, writes nothing into them, and its answer shares no memory with them or with another answer. No condition but that a list is no longer than a list can be. -/
import Derived.Test.YtbipicjijbnbbaaHx41
import Derived.Test.YtbipicjijbnbbaaEx
import Derived.Test.YtbipicjijbnbbaaEi
import Derived.Test.YtbipicjijbnbbaaMi2
import Derived.Test.YtbipicjijbnbbaaMs2
import Derived.Test.YtbipicjijbnbbaaKc
set_option linter.unusedVariables false
set_option linter.unusedSimpArgs false
namespace Go.Proofs.Ytbipicjijbnbbaa.Pure
open Go.RowKit Go.Proofs.Ytbipicjijbnbbaa.Hp Go.Proofs.YtbipicjijbnbbaaW.PrintWords Go.Proofs.Ytbipicjijbnbbaa.Dr Go.Proofs.Ytbipicjijbnbbaa.Kn Go.Proofs.Ytbipicjijbnbbaa.Rd
theorem FnExactKnowKeys (l0 : List Int) (l1 : List S58) (h0 : l0.length ≤ 9223372036854775807) (h1 : l1.length ≤ 9223372036854775807) : ∃ k, laws_FnExactKnowKeys.f k l0 l1 = some true := by
  refine Evs.rounds (g := fun k => laws_FnExactKnowKeys.f k l0 l1) ?_
  unfold laws_FnExactKnowKeys.f
  refine Evs.ite (fun _ => Evs.now rfl) (fun hk => ?_)
  simp only [Ex.sz_is l1 1048576 (by omega) (by omega) h1, Option.bind_some]
  by_cases hs : (1048576 : Int) < l1.length
  · rw [if_pos hs]
    exact Evs.always (r := true) (by simp) rfl
  · rw [if_neg hs]
    refine Evs.else_ (by omega) ?_
    have hki := Ei.to_ev l0 (by omega)
    have hss := Ex.to_ev l1 (by omega)
    have hlm : (l1.map Ex.conv).length = l1.length := by simp
    have hlk := keys_len l0 (l1.map Ex.conv)
    refine hki.bind ?_
    intro r_ (hr_ : r_ = l0)
    subst r_
    refine hss.bind ?_
    rintro _ rfl
    refine (knowKeys_ev _ (l1.map Ex.conv) h0 (by omega)).bind ?_
    rintro _ rfl
    refine hki.bind ?_
    intro r_ (hr_ : r_ = l0)
    subst r_
    refine hss.bind ?_
    rintro _ rfl
    simp only [impl_KnowKeys.f, Option.bind_some]
    refine (Ei.eq_ev _ (by omega)).bind ?_
    rintro _ rfl
    refine Evs.then_ rfl ?_
    refine hki.bind ?_
    intro r_ (hr_ : r_ = l0)
    subst r_
    refine (Ei.eq_ev _ h0).bind ?_
    rintro _ rfl
    refine Evs.then_ rfl ?_
    refine hss.bind ?_
    rintro _ rfl
    refine (Ex.eq_ev _ (by omega)).bind ?_
    rintro _ rfl
    refine Evs.then_ rfl ?_
    refine (Mi2.mark_ev _ 1 (by omega) (by omega) (by omega)).bind ?_
    rintro _ rfl
    refine (Ms2.mark_ev _ _ (by first | omega | (dsimp only; omega)) (by first | omega | (dsimp only; omega)) (by omega)).bind ?_
    rintro _ rfl
    refine Evs.else_ (by first | omega | (dsimp only; omega)) ?_
    refine (Ei.eq_ev _ (by omega)).bind ?_
    rintro _ rfl
    refine Evs.step (fun k => by simp only [laws_FnExactKnowKeys.j0]; rfl) (Evs.else_ (by simp) ?_)
    have hh := Mi2.held_ev (keysOf (ringF l0 (l1.map Ex.conv))).length 1 (by omega) (by omega) (by omega)
    refine (Mi2.mark_ev _ 1 (by omega) (by omega) (by omega)).bind ?_
    rintro _ rfl
    refine hh.bind ?_
    rintro _ rfl
    refine Evs.else_ (by first | omega | (dsimp only; omega)) (Evs.then_ rfl ?_)
    refine hki.bind ?_
    intro r_ (hr_ : r_ = l0)
    subst r_
    refine hss.bind ?_
    rintro _ rfl
    simp only [impl_KnowKeys.f, Option.bind_some]
    refine (Ei.eq_ev _ (by omega)).bind ?_
    rintro _ rfl
    refine Evs.then_ rfl ?_
    refine hh.bind ?_
    rintro _ rfl
    exact Evs.else_ (by first | omega | (dsimp only; omega)) (Evs.then_ rfl (Evs.now rfl))
end Go.Proofs.Ytbipicjijbnbbaa.Pure
