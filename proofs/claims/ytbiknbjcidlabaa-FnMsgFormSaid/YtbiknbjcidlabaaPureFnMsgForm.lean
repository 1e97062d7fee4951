/- The law FnMsgForm: a drawn word that is in form has what its kind needs, and nothing else. For every input. -/
import Derived.Test.YtbiknbjcidlabaaHx28
import Derived.Test.YtbiknbjcidlabaaMs
import Derived.Test.YtbiknbjcidlabaaDo
set_option linter.unusedVariables false
set_option linter.unusedSimpArgs false
namespace Go.Proofs.Ytbiknbjcidlabaa.Pure
open Go.RowKit Go.Proofs.Ytbiknbjcidlabaa.Hp Go.Proofs.YtbiknbjcidlabaaW.PrintWords Go.Proofs.Ytbiknbjcidlabaa.Dr

theorem FnMsgForm.loop (kind client serv nonce many : Int) (l : List S24) (hl : l.length ≤ 3) (hok : l.all Ms.okS = true) (hs : Ms.Shape kind client serv nonce l.length) (hm : many = l.length) : ∀ d i : Nat, i + d = l.length →
    Evs (fun k => laws_FnMsgForm.l0 k many (i : Int) kind client serv nonce l) (· = true) := by
  intro d
  induction d with
  | zero =>
    intro i hi
    refine Evs.step (fun k => by simp only [laws_FnMsgForm.l0]; rfl) (Evs.else_ (by omega) ?_)
    refine Evs.always (r := true) ?_ rfl
    rw [hm]
    unfold Ms.Shape at hs
    rcases hs with ⟨rfl, h1, rfl, h2, h3⟩ | ⟨h0, h1, rfl, rfl, h3⟩ | ⟨rfl, rfl, h1, h2, h3⟩ | ⟨rfl, rfl, h1, rfl, h3⟩ | ⟨rfl, h1, rfl, rfl, h3⟩
    · have a1 : ¬ client = 0 := by omega
      have a2 : ¬ nonce = 0 := by omega
      simp [a1, a2]
    · have a1 : ¬ client = 0 := by omega
      have a2 : ¬ kind = 1 := by omega
      have a3 : ¬ kind = 3 := by omega
      simp [a1, a2, a3]
    · have a1 : ¬ serv = 0 := by omega
      have a2 : ¬ nonce = 0 := by omega
      simp [a1, a2]
    · have a1 : ¬ serv = 0 := by omega
      simp [a1]
    · have a1 : ¬ client = 0 := by omega
      simp [a1]
  | succ d ih =>
    intro i hi
    have hlt : i < l.length := by omega
    refine Evs.step (fun k => by simp only [laws_FnMsgForm.l0]; rfl) (Evs.then_ (by omega) (Evs.then_ (by omega) ?_))
    rw [Ms.nextN hlt (by omega), Ms.rdS l i hlt, Sl.impl_ok]
    simp only [Option.bind_some]
    exact Evs.then_ (List.all_eq_true.1 hok _ (List.getElem_mem hlt)) (ih (i + 1) (by omega))
theorem FnMsgForm : laws_FnMsgForm.Pure := by
  intro l0 _ _ w0
  refine Evs.rounds (g := fun k => laws_FnMsgForm.f k l0) ?_
  unfold laws_FnMsgForm.f
  refine Evs.ite (fun _ => Evs.now rfl) (fun _ => ?_)
  refine (Dm.drawMsgOk_ev w0).bind ?_
  rintro ⟨kind, client, serv, nonce, l⟩ hl
  dsimp only at hl ⊢
  refine (Ms.impl_ev kind client serv nonce l).bind ?_
  rintro _ rfl
  refine (Ms.spec_ev kind client serv nonce l (by omega)).bind ?_
  rintro _ rfl
  simp only [bne_self_eq_false, Bool.false_eq_true, if_false]
  refine Evs.step (fun k => by simp only [laws_FnMsgForm.j0]; rfl) (Evs.ite (fun h => ?_) (fun h => ?_))
  · refine (Ms.spec_ev kind client serv nonce l (by omega)).bind ?_
    rintro _ rfl
    exact Evs.now (by simp)
  · have hm : Ms.msgOk kind client serv nonce l = true := by simpa using h
    simp only [Ms.msgOk, Bool.and_eq_true, decide_eq_true_eq] at hm
    obtain ⟨hs, hok⟩ := hm
    simp only [Option.bind_some]
    have hk : 1 ≤ kind ∧ kind ≤ 6 := by have := hs; unfold Ms.Shape at this; omega
    refine Evs.then_ (by omega) (Evs.then_ (by simp; omega) ?_)
    refine FnMsgForm.loop kind client serv nonce _ l hl hok hs ?_ l.length 0 (by omega)
    have hs' := hs
    unfold Ms.Shape at hs'
    have : kind = 1 ∨ kind = 2 ∨ kind = 3 ∨ kind = 4 ∨ kind = 5 ∨ kind = 6 := by omega
    rcases this with rfl | rfl | rfl | rfl | rfl | rfl <;> (simp [rd]; omega)
end Go.Proofs.Ytbiknbjcidlabaa.Pure
