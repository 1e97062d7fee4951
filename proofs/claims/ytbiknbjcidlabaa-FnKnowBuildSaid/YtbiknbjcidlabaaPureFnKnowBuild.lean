/- The law FnKnowBuild: one can build a word just if it is one and each of its seals one has, or can make. For every input. -/
import Derived.Test.YtbiknbjcidlabaaHx67
import Derived.Test.YtbiknbjcidlabaaDb
import Derived.Test.YtbiknbjcidlabaaRb
import Derived.Test.YtbiknbjcidlabaaLb
set_option linter.unusedVariables false
set_option linter.unusedSimpArgs false
namespace Go.Proofs.Ytbiknbjcidlabaa.Pure
open Go.RowKit Go.Proofs.Ytbiknbjcidlabaa.Hp Go.Proofs.YtbiknbjcidlabaaW.PrintWords Go.Proofs.Ytbiknbjcidlabaa.Dr Go.Proofs.Ytbiknbjcidlabaa.Kn Go.Proofs.Ytbiknbjcidlabaa.Rd
theorem FnKnowBuild.loop (keys : List Int) (ss : List S) (x0 x1 x2 x3 : Int) (l : List S) (R : Bool) (hn : ss.length ≤ 20) (hl : l.length ≤ 3) : ∀ (d i : Nat) (b : Bool), i + d = l.length → R = (b && (l.drop i).all (canSeal (ringF keys ss) ss)) →
    Evs (fun k => laws_FnKnowBuild.l0 k ss R (keysOf (ringF keys ss)) b (i : Int) x0 x1 x2 x3 l) (· = true) := by
  have hlen := keys_len keys ss
  have hr : ∀ key : Int, decide (key ∈ keysOf (ringF keys ss)) = ringHas (ringF keys ss) key := fun key => by rw [Bool.eq_iff_iff, decide_eq_true_eq, mem_keysOf, has_can]
  have stop : ∀ (i : Nat) (b : Bool), R = b → Evs (fun k => laws_FnKnowBuild.j1 k ss R (keysOf (ringF keys ss)) b (i : Int) false x0 x1 x2 x3 l) (· = true) := fun i b hb =>
    Evs.step (fun k => by simp only [laws_FnKnowBuild.j1]; rfl) (Evs.else_ (by simp) (Evs.now (by rw [hb]; simp)))
  intro d
  induction d with
  | zero =>
    intro i b hi hR
    rw [List.drop_of_length_le (by omega), List.all_nil, Bool.and_true] at hR
    refine Evs.step (fun k => by simp only [laws_FnKnowBuild.l0]; rfl) (Evs.ite (fun h => ?_) (fun h => stop i b hR))
    rw [decide_eq_false (by omega)]
    exact stop i b hR
  | succ d ih =>
    intro i b hi hR
    have hlt : i < l.length := by omega
    refine Evs.step (fun k => by simp only [laws_FnKnowBuild.l0]; rfl) (Evs.ite (fun h => ?_) (fun h => stop i b ?_))
    · rw [decide_eq_true (by omega : (i : Int) < (l.length : Int))]
      rw [h, Bool.true_and, List.drop_eq_getElem_cons hlt, List.all_cons] at hR
      refine Evs.step (fun k => by simp only [laws_FnKnowBuild.j1]; rfl) (Evs.then_ (by first | rfl | trivial) (Evs.then_ (by omega) (Evs.then_ (by omega) ?_)))
      rw [next_is hlt (by omega), rd_is l i hlt, hold_is]
      have ih' := fun b => ih (i + 1) b (by omega)
      generalize l[i] = s at hR ⊢
      simp only [Option.bind_some]
      refine (lawAmong_ev ss s (by omega)).bind ?_
      rintro _ rfl
      have next : ∀ b : Bool, b = canSeal (ringF keys ss) ss s → Evs (fun k => laws_FnKnowBuild.l0 k ss R (keysOf (ringF keys ss)) b ((i + 1 : Nat) : Int) x0 x1 x2 x3 l) (· = true) := fun b hb => ih' b (by rw [hb]; exact hR)
      refine Evs.ite (fun h1 => next true (by unfold canSeal; rw [h1]; rfl)) (fun h1 => ?_)
      have h1' : ss.any (sameS · s) = false := by simpa using h1
      refine (Lb.has_ev _ _ (by omega)).bind ?_
      rintro _ rfl
      rw [hr]
      refine Evs.ite (fun h2 => ?_) (fun h2 => next false ?_)
      · refine Evs.ite (fun h3 => next true ?_) (fun h3 => ?_)
        · unfold canSeal; rw [h1', h2, h3]; rfl
        · refine (Lb.has_ev _ _ (by omega)).bind ?_
          rintro _ rfl
          refine next _ ?_
          rw [hr]
          unfold canSeal
          rw [h1', h2, beq_eq_false_iff_ne.2 h3]
          simp
      · unfold canSeal
        rw [h1', Bool.not_eq_true _ |>.mp h2]; rfl
    · rw [Bool.not_eq_true _ |>.mp h, Bool.false_and] at hR
      rw [hR, Bool.not_eq_true _ |>.mp h]
theorem FnKnowBuild : laws_FnKnowBuild.Pure := by
  intro l0 _ _ w0
  refine Evs.rounds (g := fun k => laws_FnKnowBuild.f k l0) ?_
  unfold laws_FnKnowBuild.f
  refine Evs.ite (fun _ => Evs.now rfl) (fun _ => ?_)
  refine (Dm.drawKnowBuild_ev w0).bind ?_
  rintro ⟨keys, ss, kind, client, serv, nonce, l⟩ ⟨h1, h2, h3⟩
  dsimp only at h1 h2 h3 ⊢
  simp only [impl_KnowBuild.f, impl_KnowKeys.f, Option.bind_some]
  refine (knowBuild_ev keys ss kind client serv nonce l (by omega) (by omega) (by omega)).bind ?_
  rintro _ rfl
  refine Evs.else_ (by simp) ((Ms.impl_ev kind client serv nonce l).bind ?_)
  rintro _ rfl
  exact FnKnowBuild.loop keys ss kind client serv nonce l _ h2 h3 l.length 0 _ (by omega) rfl
end Go.Proofs.Ytbiknbjcidlabaa.Pure
