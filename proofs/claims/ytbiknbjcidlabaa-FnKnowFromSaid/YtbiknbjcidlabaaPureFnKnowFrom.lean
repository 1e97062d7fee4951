/- The law FnKnowFrom: each key one comes to one had, or it is in a seal one can read; and what is in such a seal one comes to. For every input. -/
import Derived.Test.YtbiknbjcidlabaaHx46
import Derived.Test.YtbiknbjcidlabaaDk
import Derived.Test.YtbiknbjcidlabaaKc
import Derived.Test.YtbiknbjcidlabaaLb
set_option linter.unusedVariables false
set_option linter.unusedSimpArgs false
namespace Go.Proofs.Ytbiknbjcidlabaa.Pure
open Go.RowKit Go.Proofs.Ytbiknbjcidlabaa.Hp Go.Proofs.YtbiknbjcidlabaaW.PrintWords Go.Proofs.Ytbiknbjcidlabaa.Dr Go.Proofs.Ytbiknbjcidlabaa.Kn Go.Proofs.Ytbiknbjcidlabaa.Rd
theorem FnKnowFrom.last (keys : List Int) (ss : List S) (hn : ss.length ≤ 20) : ∀ (d i : Nat), i + d = ss.length → Evs (fun k => laws_FnKnowFrom.l2 k ss (keysOf (ringF keys ss)) (i : Int)) (· = true) := by
  have hlen := keys_len keys ss
  intro d
  induction d with
  | zero => intro i hi; exact Evs.step (fun k => by simp only [laws_FnKnowFrom.l2]; rfl) (Evs.else_ (by omega) (Evs.now rfl))
  | succ d ih =>
    intro i hi
    have hlt : i < ss.length := by omega
    refine Evs.step (fun k => by simp only [laws_FnKnowFrom.l2]; rfl) (Evs.then_ (by omega) (Evs.then_ (by omega) ?_))
    rw [next_is hlt (by omega), rd_is ss i hlt, hold_is]
    have hm := List.getElem_mem hlt
    have ih' := ih (i + 1) (by omega)
    generalize ss[i] = s at hm ⊢
    simp only [Option.bind_some]
    refine Evs.ite (fun h0 => ?_) (fun _ => ih')
    refine (Lb.has_ev _ _ (by omega)).bind ?_
    rintro _ rfl
    refine Evs.ite (fun h1 => ?_) (fun _ => ih')
    refine (Lb.has_ev _ _ (by omega)).bind ?_
    rintro _ rfl
    refine Evs.then_ ?_ ih'
    rw [decide_eq_true_eq] at h1 ⊢
    exact mem_keysOf.2 (.got hm (by omega) (mem_keysOf.1 h1))
theorem FnKnowFrom.inner (keys : List Int) (ss : List S) (hn : ss.length ≤ 20) (j : Nat) (hj : j < (keysOf (ringF keys ss)).length)
    (next : Evs (fun k => laws_FnKnowFrom.l0 k keys ss (keysOf (ringF keys ss)) ((j + 1 : Nat) : Int)) (· = true)) : ∀ (d i : Nat) (f : Bool), i + d = ss.length →
    (f = true ∨ ∃ s ∈ ss.drop i, hold s = (keysOf (ringF keys ss))[j] ∧ s.f0 ∈ keysOf (ringF keys ss)) →
    Evs (fun k => laws_FnKnowFrom.l1 k keys ss (keysOf (ringF keys ss)) (j : Int) f (i : Int)) (· = true) := by
  have hlen := keys_len keys ss
  intro d
  induction d with
  | zero =>
    intro i f hi hf
    refine Evs.step (fun k => by simp only [laws_FnKnowFrom.l1]; rfl) (Evs.else_ (by omega) ?_)
    rw [List.drop_of_length_le (by omega)] at hf
    have hf' : f = true := hf.resolve_right (by rintro ⟨s, hs, _⟩; cases hs)
    rw [next_is hj (by omega)]
    exact Evs.then_ hf' next
  | succ d ih =>
    intro i f hi hf
    have hlt : i < ss.length := by omega
    refine Evs.step (fun k => by simp only [laws_FnKnowFrom.l1]; rfl) (Evs.then_ (by omega) ?_)
    rw [next_is hlt (by omega), rd_is ss i hlt, hold_is, Lb.rd_is _ j hj]
    refine Evs.ite (fun h => ih (i + 1) true (by omega) (.inl rfl)) (fun h => Evs.then_ (by omega) ?_)
    simp only [Option.bind_some]
    have hf' := hf.resolve_left h
    rw [List.drop_eq_getElem_cons hlt] at hf'
    refine Evs.then_ (by omega) (Evs.then_ (by omega) (Evs.ite (fun h1 => ?_) (fun h1 => ?_)))
    · refine (Lb.has_ev _ _ (by omega)).bind ?_
      rintro _ rfl
      refine ih (i + 1) _ (by omega) ?_
      obtain ⟨s, hs, h2, h3⟩ := hf'
      rcases List.mem_cons.1 hs with rfl | hs
      · exact .inl (by rw [decide_eq_true_eq]; exact h3)
      · exact .inr ⟨s, hs, h2, h3⟩
    · refine ih (i + 1) false (by omega) (.inr ?_)
      obtain ⟨s, hs, h2, h3⟩ := hf'
      rcases List.mem_cons.1 hs with rfl | hs
      · exact absurd h2 h1
      · exact ⟨s, hs, h2, h3⟩
theorem FnKnowFrom.outer (keys : List Int) (ss : List S) (hk : keys.length ≤ 11) (hn : ss.length ≤ 20) : ∀ (d i : Nat), i + d = (keysOf (ringF keys ss)).length → Evs (fun k => laws_FnKnowFrom.l0 k keys ss (keysOf (ringF keys ss)) (i : Int)) (· = true) := by
  have hlen := keys_len keys ss
  intro d
  induction d with
  | zero => intro i hi; exact Evs.step (fun k => by simp only [laws_FnKnowFrom.l0]; rfl) (Evs.else_ (by omega) (FnKnowFrom.last keys ss hn ss.length 0 (by omega)))
  | succ d ih =>
    intro i hi
    have hlt : i < (keysOf (ringF keys ss)).length := by omega
    refine Evs.step (fun k => by simp only [laws_FnKnowFrom.l0]; rfl) (Evs.then_ (by omega) (Evs.then_ (by omega) ?_))
    rw [Lb.rd_is _ i hlt]
    refine (Lb.has_ev _ _ (by omega)).bind ?_
    rintro _ rfl
    refine FnKnowFrom.inner keys ss hn i hlt (ih (i + 1) (by omega)) ss.length 0 _ (by omega) ?_
    have hc := mem_keysOf.1 (List.getElem_mem hlt)
    revert hc
    generalize (keysOf (ringF keys ss))[i] = key
    intro hc
    cases hc with
    | had h _ _ => exact .inl (decide_eq_true h)
    | got hs h0 hk => exact .inr ⟨_, hs, rfl, mem_keysOf.2 hk⟩
theorem FnKnowFrom : laws_FnKnowFrom.Pure := by
  intro l0 _ _ w0
  refine Evs.rounds (g := fun k => laws_FnKnowFrom.f k l0) ?_
  unfold laws_FnKnowFrom.f
  refine Evs.ite (fun _ => Evs.now rfl) (fun _ => ?_)
  refine (Dm.drawKnowKeys_ev w0).bind ?_
  rintro ⟨keys, ss⟩ ⟨h1, h2⟩
  dsimp only at h1 h2 ⊢
  have hlen := keys_len keys ss
  simp only [impl_KnowKeys.f, Option.bind_some]
  refine (knowKeys_ev keys ss (by omega) (by omega)).bind ?_
  rintro _ rfl
  refine (Lb.ints_ev _ (by omega)).bind ?_
  rintro _ rfl
  exact Evs.then_ rfl (FnKnowFrom.outer keys ss h1 h2 (keysOf (ringF keys ss)).length 0 (by omega))
end Go.Proofs.Ytbiknbjcidlabaa.Pure
