/- The law FnKnowOnce: who knows the keys knows no more; the order of the seals is nothing; who has nothing comes to nothing. For every input. -/
import Derived.Test.YtbiknbjcidlabaaHx39
import Derived.Test.YtbiknbjcidlabaaDk
import Derived.Test.YtbiknbjcidlabaaKc
import Derived.Test.YtbiknbjcidlabaaLb
set_option linter.unusedVariables false
set_option linter.unusedSimpArgs false
namespace Go.Proofs.Ytbiknbjcidlabaa.Pure
open Go.RowKit Go.Proofs.Ytbiknbjcidlabaa.Hp Go.Proofs.YtbiknbjcidlabaaW.PrintWords Go.Proofs.Ytbiknbjcidlabaa.Dr Go.Proofs.Ytbiknbjcidlabaa.Kn Go.Proofs.Ytbiknbjcidlabaa.Rd
theorem FnKnowOnce.loop (keys : List Int) (ss : List S) (hn : ss.length ≤ 20) : ∀ (n : Nat) (x : List S), n ≤ ss.length → x = (ss.drop n).reverse → Evs (fun k => laws_FnKnowOnce.l0 k keys ss (keysOf (ringF keys ss)) x ((n : Int) - 1)) (· = true) := by
  have hlen := keys_len keys ss
  intro n
  induction n with
  | zero =>
    intro x _ hx
    refine Evs.step (fun k => by simp only [laws_FnKnowOnce.l0, impl_KnowKeys.f, Option.bind_some]; rfl) (Evs.else_ (by omega) ?_)
    rw [List.drop_zero] at hx
    subst hx
    rw [can_again, can_rev, keys_nil]
    refine (Lb.ints_ev _ (by omega)).bind ?_
    rintro _ rfl
    refine Evs.then_ rfl ((Lb.ints_ev _ (by omega)).bind ?_)
    rintro _ rfl
    exact Evs.then_ rfl (Evs.now rfl)
  | succ n ih =>
    intro x hl hx
    refine Evs.step (fun k => by simp only [laws_FnKnowOnce.l0]; rfl) ?_
    rw [show ((n + 1 : Nat) : Int) - 1 = (n : Int) from by omega, rd_is ss n (by omega), w64 (by omega) (by omega)]
    refine Evs.then_ (by omega) (Evs.then_ (by omega) (Evs.then_ (by omega) (Evs.then_ (by rw [hx]; simp; omega) (ih _ (by omega) ?_))))
    rw [hx, List.drop_eq_getElem_cons (by omega : n < ss.length), List.reverse_cons]
theorem FnKnowOnce : laws_FnKnowOnce.Pure := by
  intro l0 _ _ w0
  refine Evs.rounds (g := fun k => laws_FnKnowOnce.f k l0) ?_
  unfold laws_FnKnowOnce.f
  refine Evs.ite (fun _ => Evs.now rfl) (fun _ => ?_)
  refine (Dm.drawKnowKeys_ev w0).bind ?_
  rintro ⟨keys, ss⟩ ⟨h1, h2⟩
  dsimp only at h1 h2 ⊢
  have hlen := keys_len keys ss
  simp only [impl_KnowKeys.f, Option.bind_some]
  refine (knowKeys_ev keys ss (by omega) (by omega)).bind ?_
  rintro _ rfl
  refine (Lb.ints_ev _ (by omega)).bind ?_
  rintro _ rfl
  refine Evs.then_ rfl ?_
  rw [w64 (by omega) (by omega)]
  exact FnKnowOnce.loop keys ss h2 ss.length [] (Nat.le_refl _) (by simp)
end Go.Proofs.Ytbiknbjcidlabaa.Pure
