/- The law FnKnowRead: one reads just the seals that are ones and whose key one comes to, in order. For every input. -/
import Derived.Test.YtbiknbjcidlabaaHx54
import Derived.Test.YtbiknbjcidlabaaDe
import Derived.Test.YtbiknbjcidlabaaRd
import Derived.Test.YtbiknbjcidlabaaLb
set_option linter.unusedVariables false
set_option linter.unusedSimpArgs false
namespace Go.Proofs.Ytbiknbjcidlabaa.Pure
open Go.RowKit Go.Proofs.Ytbiknbjcidlabaa.Hp Go.Proofs.YtbiknbjcidlabaaW.PrintWords Go.Proofs.Ytbiknbjcidlabaa.Dr Go.Proofs.Ytbiknbjcidlabaa.Kn Go.Proofs.Ytbiknbjcidlabaa.Rd
theorem FnKnowRead.loop (keys : List Int) (ss : List S) (hn : ss.length ≤ 20) : ∀ (d i j : Nat), i + d = ss.length → j ≤ (readOf (ringF keys ss) ss).length → (readOf (ringF keys ss) ss).drop j = readOf (ringF keys ss) (ss.drop i) →
    Evs (fun k => laws_FnKnowRead.l0 k ss (readOf (ringF keys ss) ss) (keysOf (ringF keys ss)) (j : Int) (i : Int)) (· = true) := by
  have hlen := keys_len keys ss
  have hrl := read_len (ringF keys ss) ss
  intro d
  induction d with
  | zero =>
    intro i j hi hj hd
    refine Evs.step (fun k => by simp only [laws_FnKnowRead.l0]; rfl) (Evs.else_ (by omega) (Evs.now ?_))
    rw [List.drop_of_length_le (show ss.length ≤ i by omega)] at hd
    have : (readOf (ringF keys ss) ss).length ≤ j := List.drop_eq_nil_iff.1 hd
    rw [beq_iff_eq]; omega
  | succ d ih =>
    intro i j hi hj hd
    have hlt : i < ss.length := by omega
    rw [List.drop_eq_getElem_cons hlt] at hd
    have tail : ∀ b : Bool, (b = true ↔ (okSeal ss[i] = true ∧ ringHas (ringF keys ss) ss[i].f0 = true)) → Evs (fun k => laws_FnKnowRead.j1 k ss (readOf (ringF keys ss) ss) (keysOf (ringF keys ss)) (j : Int) (i : Int) b) (· = true) := by
      intro b hb
      refine Evs.step (fun k => by simp only [laws_FnKnowRead.j1]; rfl) ?_
      rw [next_is hlt (by omega)]
      refine Evs.ite (fun h => ?_) (fun h => ?_)
      · have hb' := hb.1 h
        rw [read_yes hb'.1 hb'.2] at hd
        have hjl : j < (readOf (ringF keys ss) ss).length := by
          by_cases hjl : j < (readOf (ringF keys ss) ss).length
          · exact hjl
          · rw [List.drop_of_length_le (by omega)] at hd; cases hd
        rw [List.drop_eq_getElem_cons hjl, List.cons.injEq] at hd
        rw [next_is hjl (by omega), rd_is _ j hjl, rd_is ss i hlt, hd.1]
        refine Evs.else_ (by omega) (Evs.then_ (by omega) (Evs.then_ (by omega) (Evs.then_ (by omega) (Evs.then_ (by omega) (Evs.else_ (by simp) ?_)))))
        exact ih (i + 1) (j + 1) (by omega) (by omega) hd.2
      · rw [read_not fun e => h (hb.2 e)] at hd
        exact ih (i + 1) j (by omega) hj hd
    refine Evs.step (fun k => by simp only [laws_FnKnowRead.l0]; rfl) (Evs.then_ (by omega) (Evs.then_ (by omega) ?_))
    rw [rd_is ss i hlt, Sl.impl_ok]
    simp only [Option.bind_some]
    refine Evs.ite (fun h => ?_) (fun h => tail false ⟨fun e => (Bool.false_ne_true e).elim, fun e => absurd e.1 h⟩)
    refine (Lb.has_ev _ _ (by omega)).bind ?_
    rintro _ rfl
    refine tail _ ?_
    rw [decide_eq_true_eq, mem_keysOf, has_can]
    exact ⟨fun e => ⟨h, e⟩, fun e => e.2⟩
theorem FnKnowRead : laws_FnKnowRead.Pure := by
  intro l0 _ _ w0
  refine Evs.rounds (g := fun k => laws_FnKnowRead.f k l0) ?_
  unfold laws_FnKnowRead.f
  refine Evs.ite (fun _ => Evs.now rfl) (fun _ => ?_)
  refine (Dm.drawKnowRead_ev w0).bind ?_
  rintro ⟨keys, ss⟩ ⟨h1, h2⟩
  dsimp only at h1 h2 ⊢
  have hlen := read_len (ringF keys ss) ss
  simp only [fun keys => knowRead_some keys ss (by omega), impl_KnowKeys.f, Option.bind_some]
  refine (knowRead_ev keys ss (by omega) (by omega)).bind ?_
  rintro _ rfl
  refine (Lb.seals_ev _ (by omega)).bind ?_
  rintro _ rfl
  exact Evs.then_ rfl (FnKnowRead.loop keys ss h2 ss.length 0 0 (by omega) (by omega) rfl)
end Go.Proofs.Ytbiknbjcidlabaa.Pure
