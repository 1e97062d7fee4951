/- The law FnKnowMore: who has more comes to no less; what one comes to ascends, and every key one had is there. For every input. -/
import Derived.Test.YtbiknbjcidlabaaHx47
import Derived.Test.YtbiknbjcidlabaaDk
import Derived.Test.YtbiknbjcidlabaaKc
import Derived.Test.YtbiknbjcidlabaaLb
set_option linter.unusedVariables false
set_option linter.unusedSimpArgs false
namespace Go.Proofs.Ytbiknbjcidlabaa.Pure
open Go.RowKit Go.Proofs.Ytbiknbjcidlabaa.Hp Go.Proofs.YtbiknbjcidlabaaW.PrintWords Go.Proofs.Ytbiknbjcidlabaa.Dr Go.Proofs.Ytbiknbjcidlabaa.Kn Go.Proofs.Ytbiknbjcidlabaa.Rd
theorem FnKnowMore.last (keys : List Int) (ss : List S) (hk : keys.length ≤ 11) : ∀ (d i : Nat), i + d = keys.length → Evs (fun k => laws_FnKnowMore.l1 k keys (keysOf (ringF keys ss)) (i : Int)) (· = true) := by
  have hlen := keys_len keys ss
  intro d
  induction d with
  | zero => intro i hi; exact Evs.step (fun k => by simp only [laws_FnKnowMore.l1]; rfl) (Evs.else_ (by omega) (Evs.now rfl))
  | succ d ih =>
    intro i hi
    have hlt : i < keys.length := by omega
    refine Evs.step (fun k => by simp only [laws_FnKnowMore.l1]; rfl) (Evs.then_ (by omega) (Evs.then_ (by omega) ?_))
    rw [next_is hlt (by omega), Lb.rd_is _ i hlt]
    refine Evs.ite (fun h1 => Evs.ite (fun h2 => ?_) (fun _ => ih (i + 1) (by omega))) (fun _ => ih (i + 1) (by omega))
    refine (Lb.has_ev _ _ (by omega)).bind ?_
    rintro _ rfl
    refine Evs.then_ ?_ (ih (i + 1) (by omega))
    rw [decide_eq_true_eq]
    exact mem_keysOf.2 (.had (List.getElem_mem hlt) h1 h2)
theorem FnKnowMore.loop (keys : List Int) (ss : List S) (more : List Int) (hk : keys.length ≤ 11) (hm : more.length ≤ 61) (hin : ∀ k ∈ keysOf (ringF keys ss), k ∈ more) : ∀ (d i : Nat), i + d = (keysOf (ringF keys ss)).length → Evs (fun k => laws_FnKnowMore.l0 k keys (keysOf (ringF keys ss)) more (i : Int)) (· = true) := by
  have hlen := keys_len keys ss
  intro d
  induction d with
  | zero => intro i hi; exact Evs.step (fun k => by simp only [laws_FnKnowMore.l0]; rfl) (Evs.else_ (by omega) (FnKnowMore.last keys ss hk keys.length 0 (by omega)))
  | succ d ih =>
    intro i hi
    have hlt : i < (keysOf (ringF keys ss)).length := by omega
    refine Evs.step (fun k => by simp only [laws_FnKnowMore.l0]; rfl) (Evs.then_ (by omega) (Evs.then_ (by omega) ?_))
    rw [next_is hlt (by omega), Lb.rd_is _ i hlt]
    refine (Lb.has_ev _ _ (by omega)).bind ?_
    rintro _ rfl
    refine Evs.then_ (decide_eq_true (hin _ (List.getElem_mem hlt))) ?_
    refine Evs.ite (fun h => ?_) (fun _ => ih (i + 1) (by omega))
    obtain ⟨j, rfl⟩ : ∃ j, i = j + 1 := ⟨i - 1, by omega⟩
    have hw : wrap64 (((j + 1 : Nat) : Int) - 1) = (j : Int) := by rw [w64 (by omega) (by omega)]; omega
    rw [hw, Lb.rd_is _ j (by omega)]
    have := keys_sorted (ringF keys ss) j hlt
    exact Evs.then_ (by omega) (Evs.then_ (by omega) (Evs.else_ (by omega) (ih (j + 1 + 1) (by omega))))
theorem FnKnowMore : laws_FnKnowMore.Pure := by
  intro l0 l1 _ _ w0 _ _ w1
  refine Evs.rounds (g := fun k => laws_FnKnowMore.f k l0 l1) ?_
  unfold laws_FnKnowMore.f
  have main : ∀ b : Bool, Evs (fun k => laws_FnKnowMore.j0 k l0 l1 b) (· = true) := by
    intro b
    refine Evs.step (fun k => by simp only [laws_FnKnowMore.j0, impl_KnowKeys.f, Option.bind_some, List.nil_append, List.length_nil]; rfl) ?_
    refine Evs.ite (fun _ => Evs.now rfl) (fun _ => ?_)
    refine (Dm.drawKnowKeys_ev w0).bind ?_
    rintro ⟨keys, ss⟩ ⟨h1, h2⟩
    dsimp only at h1 h2 ⊢
    refine (Dm.drawKnowKeys_ev w1).bind ?_
    rintro ⟨keys', ss'⟩ ⟨h3, h4⟩
    dsimp only at h3 h4 ⊢
    have hlen := keys_len keys ss
    refine (knowKeys_ev keys ss (by omega) (by omega)).bind ?_
    rintro _ rfl
    refine (Lb.ints_ev _ (by omega)).bind ?_
    rintro _ rfl
    refine Evs.then_ rfl (Evs.then_ (by omega) (Evs.then_ (by omega) (Evs.then_ (by omega) (Evs.then_ (by omega) ?_))))
    refine FnKnowMore.loop keys ss _ h1 (keys_len _ _) (fun k hk => ?_) (keysOf (ringF keys ss)).length 0 (by omega)
    exact mem_keysOf.2 (can_sub (fun _ h => List.mem_append_left _ h) (fun _ h => List.mem_append_left _ h) (mem_keysOf.1 hk))
  exact Evs.ite (fun _ => main _) (fun _ => main _)
end Go.Proofs.Ytbiknbjcidlabaa.Pure
