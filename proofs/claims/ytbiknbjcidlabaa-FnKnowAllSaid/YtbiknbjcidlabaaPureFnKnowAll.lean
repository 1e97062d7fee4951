/- The law FnKnowAll: who has all keys reads every seal that is one, in order; who has none reads none. For every input. -/
import Derived.Test.YtbiknbjcidlabaaHx44
import Derived.Test.YtbiknbjcidlabaaDe
import Derived.Test.YtbiknbjcidlabaaRd
import Derived.Test.YtbiknbjcidlabaaLb
set_option linter.unusedVariables false
set_option linter.unusedSimpArgs false
namespace Go.Proofs.Ytbiknbjcidlabaa.Pure
open Go.RowKit Go.Proofs.Ytbiknbjcidlabaa.Hp Go.Proofs.YtbiknbjcidlabaaW.PrintWords Go.Proofs.Ytbiknbjcidlabaa.Dr Go.Proofs.Ytbiknbjcidlabaa.Kn Go.Proofs.Ytbiknbjcidlabaa.Rd
theorem FnKnowAll.seals (ss : List S) (hn : ss.length ≤ 20) : ∀ (d i : Nat) (x : List S), i + d = ss.length → x = (ss.take i).filter okSeal → Evs (fun k => laws_FnKnowAll.l1 k ss (allKeys 60) x (i : Int)) (· = true) := by
  intro d
  induction d with
  | zero =>
    intro i x hi hx
    refine Evs.step (fun k => by simp only [laws_FnKnowAll.l1, fun keys => knowRead_some keys ss (by omega), Option.bind_some]; rfl) (Evs.else_ (by omega) ?_)
    rw [List.take_of_length_le (by omega)] at hx
    rw [read_all, read_nil, ← hx]
    have : x.length ≤ ss.length := by rw [hx]; exact List.length_filter_le _ _
    refine (Lb.seals_ev _ (by omega)).bind ?_
    rintro _ rfl
    exact Evs.then_ rfl (Evs.now rfl)
  | succ d ih =>
    intro i x hi hx
    have hlt : i < ss.length := by omega
    refine Evs.step (fun k => by simp only [laws_FnKnowAll.l1]; rfl) (Evs.then_ (by omega) (Evs.then_ (by omega) ?_))
    rw [next_is hlt (by omega), rd_is ss i hlt, Sl.impl_ok]
    simp only [Option.bind_some]
    have hx' : x.length ≤ i := by rw [hx]; exact Nat.le_trans (List.length_filter_le _ _) (by simp; omega)
    have ht : ss.take (i + 1) = ss.take i ++ [ss[i]] := by rw [List.take_succ_eq_append_getElem hlt]
    refine Evs.ite (fun h => Evs.then_ (by omega) (ih (i + 1) _ (by omega) ?_)) (fun h => ih (i + 1) _ (by omega) ?_)
    · rw [ht, List.filter_append, ← hx, List.filter_cons_of_pos (show okSeal ss[i] = true from h)]; rfl
    · rw [ht, List.filter_append, ← hx, List.filter_cons_of_neg (show ¬ okSeal ss[i] = true from h)]; simp
theorem FnKnowAll.keys (ss : List S) (hn : ss.length ≤ 20) : ∀ (d i : Nat), i + d = 60 → Evs (fun k => laws_FnKnowAll.l0 k ss (allKeys i) ((i + 1 : Nat) : Int)) (· = true) := by
  intro d
  induction d with
  | zero =>
    intro i hi
    obtain rfl : i = 60 := by omega
    exact Evs.step (fun k => by simp only [laws_FnKnowAll.l0]; rfl) (Evs.else_ (by omega) (FnKnowAll.seals ss hn ss.length 0 [] (by omega) (by simp)))
  | succ d ih =>
    intro i hi
    refine Evs.step (fun k => by simp only [laws_FnKnowAll.l0]; rfl) (Evs.then_ (by omega) (Evs.then_ (by simp [allKeys]; omega) ?_))
    rw [← allKeys_snoc, show wrap64 (((i + 1 : Nat) : Int) + 1) = ((i + 1 + 1 : Nat) : Int) from by rw [w64 (by omega) (by omega)]; rfl]
    exact ih (i + 1) (by omega)
theorem FnKnowAll : laws_FnKnowAll.Pure := by
  intro l0 _ _ w0
  refine Evs.rounds (g := fun k => laws_FnKnowAll.f k l0) ?_
  unfold laws_FnKnowAll.f
  refine Evs.ite (fun _ => Evs.now rfl) (fun _ => ?_)
  refine (Dm.drawKnowRead_ev w0).bind ?_
  rintro ⟨keys, ss⟩ ⟨h1, h2⟩
  dsimp only at h1 h2 ⊢
  have hlen := read_len (ringF keys ss) ss
  simp only [fun keys => knowRead_some keys ss (by omega), Option.bind_some]
  refine (knowRead_ev keys ss (by omega) (by omega)).bind ?_
  rintro _ rfl
  refine (Lb.seals_ev _ (by omega)).bind ?_
  rintro _ rfl
  exact Evs.then_ rfl (FnKnowAll.keys ss h2 60 0 rfl)
end Go.Proofs.Ytbiknbjcidlabaa.Pure
