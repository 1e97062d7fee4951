/- The law FnBuildNot: who does not come to a key can not build a seal under it, but one that he has. For every input. -/
import Derived.Test.YtbiknbjcidlabaaHx66
import Derived.Test.YtbiknbjcidlabaaDb
import Derived.Test.YtbiknbjcidlabaaRb
import Derived.Test.YtbiknbjcidlabaaLb
set_option linter.unusedVariables false
set_option linter.unusedSimpArgs false
namespace Go.Proofs.Ytbiknbjcidlabaa.Pure
open Go.RowKit Go.Proofs.Ytbiknbjcidlabaa.Hp Go.Proofs.YtbiknbjcidlabaaW.PrintWords Go.Proofs.Ytbiknbjcidlabaa.Dr Go.Proofs.Ytbiknbjcidlabaa.Kn Go.Proofs.Ytbiknbjcidlabaa.Rd
theorem FnBuildNot.loop (keys : List Int) (ss : List S) (hn : ss.length ≤ 20) : ∀ (d i : Nat), i + d = 61 → 10 ≤ i → Evs (fun k => laws_FnBuildNot.l0 k keys ss (keysOf (ringF keys ss)) (i : Int)) (· = true) := by
  have hlen := keys_len keys ss
  intro d
  induction d with
  | zero => intro i hi _; exact Evs.step (fun k => by simp only [laws_FnBuildNot.l0]; rfl) (Evs.else_ (by omega) (Evs.now rfl))
  | succ d ih =>
    intro i hi h10
    refine Evs.step (fun k => by simp only [laws_FnBuildNot.l0, impl_KnowBuild.f, Option.bind_some]; rfl) (Evs.then_ (by omega) ?_)
    rw [show wrap64 ((i : Int) + 1) = ((i + 1 : Nat) : Int) from by rw [w64 (by omega) (by omega)]; rfl]
    have ih' := ih (i + 1) (by omega) (by omega)
    have hok : Sl.ok (i : Int) 4 1 1 0 0 0 = true := by rw [Sl.ok4, decide_eq_true_eq]; omega
    have hm : Ms.msgOk 6 1 0 0 [(⟨(i : Int), 4, 1, 1, 0, 0, 0⟩ : S)] = true := by
      unfold Ms.msgOk
      rw [Bool.and_eq_true]
      refine ⟨by rw [decide_eq_true_eq]; unfold Ms.Shape; simp, ?_⟩
      rw [List.all_cons, List.all_nil, Bool.and_true]
      exact hok
    have hh : hold (⟨(i : Int), 4, 1, 1, 0, 0, 0⟩ : S) = 0 := by simp [hold, Sl.holds]
    rw [hm, Bool.true_and, List.all_cons, List.all_nil, Bool.and_true]
    refine (Lb.has_ev _ _ (by omega)).bind ?_
    rintro _ rfl
    have hr : ringHas (ringF keys ss) (i : Int) = decide ((i : Int) ∈ keysOf (ringF keys ss)) := by rw [Bool.eq_iff_iff, decide_eq_true_eq, mem_keysOf, has_can]
    refine Evs.ite (fun h => ?_) (fun h => ?_)
    · refine Evs.else_ ?_ ih'
      unfold canSeal
      rw [hh, hr, h]
      simp
    · refine (lawAmong_ev ss ⟨(i : Int), 4, 1, 1, 0, 0, 0⟩ (by omega)).bind ?_
      rintro _ rfl
      refine Evs.else_ ?_ ih'
      unfold canSeal
      rw [hr, Bool.not_eq_true _ |>.mp h, Bool.false_and, Bool.or_false]
      simp
theorem FnBuildNot : laws_FnBuildNot.Pure := by
  intro l0 _ _ w0
  refine Evs.rounds (g := fun k => laws_FnBuildNot.f k l0) ?_
  unfold laws_FnBuildNot.f
  refine Evs.ite (fun _ => Evs.now rfl) (fun _ => ?_)
  refine (Dm.drawKnowBuild_ev w0).bind ?_
  rintro ⟨keys, ss, kind, client, serv, nonce, l⟩ ⟨h1, h2, h3⟩
  dsimp only at h1 h2 h3 ⊢
  simp only [impl_KnowBuild.f, impl_KnowKeys.f, Option.bind_some]
  refine (knowBuild_ev keys ss kind client serv nonce l (by omega) (by omega) (by omega)).bind ?_
  rintro _ rfl
  exact Evs.else_ (by simp) (FnBuildNot.loop keys ss h2 51 10 rfl (by omega))
end Go.Proofs.Ytbiknbjcidlabaa.Pure
