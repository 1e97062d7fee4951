/- The law FnMsgKinds: what one kind of word needs another one does not, but for the two that give. For every input. -/
import Derived.Test.YtbiknbjcidlabaaHx29
import Derived.Test.YtbiknbjcidlabaaMs
import Derived.Test.YtbiknbjcidlabaaDo
set_option linter.unusedVariables false
set_option linter.unusedSimpArgs false
namespace Go.Proofs.Ytbiknbjcidlabaa.Pure
open Go.RowKit Go.Proofs.Ytbiknbjcidlabaa.Hp Go.Proofs.YtbiknbjcidlabaaW.PrintWords Go.Proofs.Ytbiknbjcidlabaa.Dr

theorem FnMsgKinds.other {kind client serv nonce x : Int} {l : List S24} (h : Ms.msgOk kind client serv nonce l = true) (hx : 1 ≤ x ∧ x ≤ 6) :
    Ms.msgOk x client serv nonce l = decide (((kind = 2 ∨ kind = 4) ∧ (x = 2 ∨ x = 4)) ∨ x = kind) := by
  unfold Ms.msgOk at h ⊢
  rw [Bool.and_eq_true, decide_eq_true_eq] at h
  obtain ⟨hs, hok⟩ := h
  rw [hok, Bool.and_true, Bool.eq_iff_iff, decide_eq_true_eq, decide_eq_true_eq]
  unfold Ms.Shape at hs ⊢
  have hx' : x = 1 ∨ x = 2 ∨ x = 3 ∨ x = 4 ∨ x = 5 ∨ x = 6 := by omega
  clear hx
  rcases hs with ⟨rfl, hs⟩ | ⟨rfl | rfl, hs⟩ | ⟨rfl, hs⟩ | ⟨rfl, hs⟩ | ⟨rfl, hs⟩ <;> rcases hx' with rfl | rfl | rfl | rfl | rfl | rfl <;> (constructor <;> intro h' <;> omega)
theorem FnMsgKinds : laws_FnMsgKinds.Pure := by
  intro l0 l1 _ _ w0 _ _ _
  have key : ∀ f : Bool, Evs (fun k => laws_FnMsgKinds.j0 k l0 l1 f) (· = true) := by
    intro f
    refine Evs.step (fun k => by simp only [laws_FnMsgKinds.j0]; rfl) ?_
    refine Evs.ite (fun _ => Evs.now rfl) (fun _ => ?_)
    refine (Dm.drawMsgOk_ev w0).bind ?_
    rintro ⟨kind, client, serv, nonce, l⟩ hl
    dsimp only at hl ⊢
    refine (Ms.impl_ev kind client serv nonce l).bind ?_
    rintro _ rfl
    refine (Ms.spec_ev kind client serv nonce l (by omega)).bind ?_
    rintro _ rfl
    simp only [bne_self_eq_false, Bool.false_eq_true, if_false]
    refine Evs.step (fun k => by simp only [laws_FnMsgKinds.j1]; rfl) (Evs.ite (fun h => ?_) (fun h => ?_))
    · refine (Ms.spec_ev kind client serv nonce l (by omega)).bind ?_
      rintro _ rfl
      exact Evs.now (by simp)
    · have hm : Ms.msgOk kind client serv nonce l = true := by simpa using h
      have hk : 1 ≤ kind ∧ kind ≤ 6 := by
        have h1 := hm
        unfold Ms.msgOk at h1
        rw [Bool.and_eq_true, decide_eq_true_eq] at h1
        have h2 := h1.1
        unfold Ms.Shape at h2
        omega
      have hn0 : 0 ≤ (l1.length : Int) % 5 := by omega
      have hn1 : (l1.length : Int) % 5 < 5 := by omega
      generalize (l1.length : Int) % 5 = n at *
      have e1 : wrap64 (kind + n) = kind + n := w64 (by omega) (by omega)
      have e2 : Int.tmod (kind + n) 6 = (kind + n) % 6 := Int.tmod_eq_emod_of_nonneg (by omega)
      have e3 : wrap64 (1 + (kind + n) % 6) = 1 + (kind + n) % 6 := w64 (by omega) (by omega)
      rw [e1, e2, e3]
      have hx : 1 ≤ 1 + (kind + n) % 6 ∧ 1 + (kind + n) % 6 ≤ 6 := by omega
      generalize 1 + (kind + n) % 6 = x at *
      have ho := FnMsgKinds.other hm hx
      have hev : ∀ g : Bool → Nat → Option Bool, (∀ k, g (Ms.msgOk x client serv nonce l) k = some true) → Evs (fun k => (impl_MsgOk.f x client serv nonce l).bind fun t => g t k) (· = true) := by
        intro g hg
        refine (Ms.impl_ev x client serv nonce l).bind ?_
        rintro _ rfl
        exact (Evs.now (P := (· = true)) rfl).congr hg
      refine Evs.ite (fun k2 => Evs.ite (fun x2 => ?_) (fun x2 => ?_)) (fun k2 => Evs.ite (fun k4 => Evs.ite (fun x2 => ?_) (fun x2 => ?_)) (fun k4 => ?_))
      · exact hev (fun t _ => some (t == true)) (fun k => by rw [ho, decide_eq_true (by omega)]; rfl)
      · refine hev (fun t _ => if x = 4 then some (t == true) else some (t == (x == kind))) (fun k => ?_)
        split
        · rw [ho, decide_eq_true (by omega)]; rfl
        · rw [ho, decide_eq_false (by omega), show (x == kind) = false from beq_eq_false_iff_ne.2 (by omega)]; rfl
      · exact hev (fun t _ => some (t == true)) (fun k => by rw [ho, decide_eq_true (by omega)]; rfl)
      · refine hev (fun t _ => if x = 4 then some (t == true) else some (t == (x == kind))) (fun k => ?_)
        split
        · rw [ho, decide_eq_true (by omega)]; rfl
        · rw [ho, decide_eq_false (by omega), show (x == kind) = false from beq_eq_false_iff_ne.2 (by omega)]; rfl
      · refine hev (fun t _ => some (t == (x == kind))) (fun k => ?_)
        by_cases hxk : x = kind
        · rw [ho, decide_eq_true (by omega), show (x == kind) = true from beq_iff_eq.2 hxk]; rfl
        · rw [ho, decide_eq_false (by omega), show (x == kind) = false from beq_eq_false_iff_ne.2 hxk]; rfl
  refine Evs.rounds (g := fun k => laws_FnMsgKinds.f k l0 l1) ?_
  unfold laws_FnMsgKinds.f
  exact Evs.ite (fun _ => key _) (fun _ => key _)
end Go.Proofs.Ytbiknbjcidlabaa.Pure
