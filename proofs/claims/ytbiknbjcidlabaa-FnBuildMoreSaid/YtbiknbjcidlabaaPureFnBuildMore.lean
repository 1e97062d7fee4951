/- The law FnBuildMore: who has more builds no less; who has all keys, or all the seals, builds every word that is one. For every input. -/
import Derived.Test.YtbiknbjcidlabaaHx63
import Derived.Test.YtbiknbjcidlabaaDk
import Derived.Test.YtbiknbjcidlabaaDb
import Derived.Test.YtbiknbjcidlabaaRb
set_option linter.unusedVariables false
set_option linter.unusedSimpArgs false
namespace Go.Proofs.Ytbiknbjcidlabaa.Pure
open Go.RowKit Go.Proofs.Ytbiknbjcidlabaa.Hp Go.Proofs.YtbiknbjcidlabaaW.PrintWords Go.Proofs.Ytbiknbjcidlabaa.Dr Go.Proofs.Ytbiknbjcidlabaa.Kn Go.Proofs.Ytbiknbjcidlabaa.Rd
theorem FnBuildMore.any (kind client serv nonce : Int) (l : List S) {bs : List Bool} {ss : List S} (h : ∀ s ∈ l, Ms.okS s = true → canSeal bs ss s = true) : (Ms.msgOk kind client serv nonce l && l.all (canSeal bs ss)) = Ms.msgOk kind client serv nonce l := by
  cases hm : Ms.msgOk kind client serv nonce l with
  | false => rfl
  | true =>
    rw [Bool.true_and, List.all_eq_true]
    unfold Ms.msgOk at hm
    rw [Bool.and_eq_true] at hm
    exact fun s hs => h s hs (List.all_eq_true.1 hm.2 s hs)
theorem FnBuildMore.end_ (kind client serv nonce : Int) (l : List S) (b : Bool) (hb : b = false) : Evs (fun k => laws_FnBuildMore.j2 k (allKeys 60) b kind client serv nonce l) (· = true) := by
  subst hb
  refine Evs.step (fun k => by simp only [laws_FnBuildMore.j2, impl_KnowBuild.f, Option.bind_some]; rfl) (Evs.else_ (by simp) ?_)
  rw [FnBuildMore.any kind client serv nonce l (bs := ringF (allKeys 60) []) (ss := []) fun s hs ho => ?_, FnBuildMore.any kind client serv nonce l (bs := ringF [] l) (ss := l) fun s hs ho => ?_]
  · refine (Ms.impl_ev kind client serv nonce l).bind ?_
    rintro _ rfl
    refine Evs.then_ (by simp) ((Ms.impl_ev kind client serv nonce l).bind ?_)
    rintro _ rfl
    exact Evs.now (by simp)
  · unfold canSeal
    rw [any_same.2 hs, Bool.true_or]
  · have hk := okS_key ho
    unfold canSeal
    rw [all_has [] hk.1 hk.2]
    rcases hold_range s with h0 | ⟨h1, h2⟩
    · rw [h0]; rfl
    · rw [all_has [] (by omega) h2]; simp
theorem FnBuildMore.loop (keys keys' : List Int) (ss ss' : List S) (kind client serv nonce : Int) (l : List S) (h1 : keys.length ≤ 30) (h2 : ss.length ≤ 20) (h3 : keys'.length ≤ 11) (h4 : ss'.length ≤ 20) : ∀ (d i : Nat), i + d = 60 →
    Evs (fun k => laws_FnBuildMore.l0 k keys ss keys' ss' (Ms.msgOk kind client serv nonce l && l.all (canSeal (ringF keys ss) ss)) (allKeys i) ((i + 1 : Nat) : Int) kind client serv nonce l) (· = true) := by
  intro d
  induction d with
  | zero =>
    intro i hi
    obtain rfl : i = 60 := by omega
    refine Evs.step (fun k => by simp only [laws_FnBuildMore.l0, impl_KnowBuild.f, Option.bind_some, List.nil_append, List.length_nil]; rfl) (Evs.else_ (by omega) ?_)
    refine Evs.ite (fun h => ?_) (fun _ => FnBuildMore.end_ kind client serv nonce l false rfl)
    refine Evs.then_ (by omega) (Evs.then_ (by omega) (Evs.then_ (by omega) (Evs.then_ (by omega) (FnBuildMore.end_ kind client serv nonce l _ ?_))))
    rw [Bool.and_eq_true, List.all_eq_true] at h
    rw [h.1, Bool.true_and, Bool.not_eq_false', List.all_eq_true]
    exact fun s hs => canSeal_mono (fun _ h => List.mem_append_left _ h) (fun _ h => List.mem_append_left _ h) (h.2 s hs)
  | succ d ih =>
    intro i hi
    refine Evs.step (fun k => by simp only [laws_FnBuildMore.l0]; rfl) (Evs.then_ (by omega) (Evs.then_ (by simp [allKeys]; omega) ?_))
    rw [← allKeys_snoc, show wrap64 (((i + 1 : Nat) : Int) + 1) = ((i + 1 + 1 : Nat) : Int) from by rw [w64 (by omega) (by omega)]; rfl]
    exact ih (i + 1) (by omega)
theorem FnBuildMore : laws_FnBuildMore.Pure := by
  intro l0 l1 _ _ w0 _ _ w1
  refine Evs.rounds (g := fun k => laws_FnBuildMore.f k l0 l1) ?_
  unfold laws_FnBuildMore.f
  have main : ∀ b : Bool, Evs (fun k => laws_FnBuildMore.j0 k l0 l1 b) (· = true) := by
    intro b
    refine Evs.step (fun k => by simp only [laws_FnBuildMore.j0, impl_KnowBuild.f, Option.bind_some]; rfl) ?_
    refine Evs.ite (fun _ => Evs.now rfl) (fun _ => ?_)
    refine (Dm.drawKnowBuild_ev w0).bind ?_
    rintro ⟨keys, ss, kind, client, serv, nonce, l⟩ ⟨h1, h2, h3⟩
    dsimp only at h1 h2 h3 ⊢
    refine (Dm.drawKnowKeys_ev w1).bind ?_
    rintro ⟨keys', ss'⟩ ⟨h4, h5⟩
    dsimp only at h4 h5 ⊢
    refine (knowBuild_ev keys ss kind client serv nonce l (by omega) (by omega) (by omega)).bind ?_
    rintro _ rfl
    exact Evs.else_ (by simp) (FnBuildMore.loop keys keys' ss ss' kind client serv nonce l h1 h2 h4 h5 60 0 rfl)
  exact Evs.ite (fun _ => main _) (fun _ => main _)
end Go.Proofs.Ytbiknbjcidlabaa.Pure
