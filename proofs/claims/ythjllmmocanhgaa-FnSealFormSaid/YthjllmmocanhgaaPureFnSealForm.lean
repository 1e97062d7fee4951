/- The law FnSealForm: a drawn seal that is ok has the key that its kind needs, and holds a key just as its kind says. For every input. -/
import Derived.Test.YthjllmmocanhgaaHx24
import Derived.Test.YthjllmmocanhgaaHx16
import Derived.Test.YthjllmmocanhgaaDr
import Derived.Test.YthjllmmocanhgaaSl
set_option linter.unusedVariables false
set_option linter.unusedSimpArgs false
namespace Go.Proofs.Ythjllmmocanhgaa.Pure
open Go.RowKit Go.Proofs.Ythjllmmocanhgaa.Hp Go.Proofs.YthjllmmocanhgaaW.PrintWords Go.Proofs.Ythjllmmocanhgaa.Dr

theorem FnSealForm.draw {l : List Int} (h : ∀ x ∈ l, (Lit.int .u8 x).wf = true) : Evs (fun k => spec_DrawSealOk.f k l) (fun _ => True) := by
  unfold spec_DrawSealOk.f
  obtain ⟨b, hb, hB⟩ := open_ev h
  rw [hb]
  simp only [Option.bind_some]
  refine (seal_ev hB (by omega) (by omega)).bind ?_
  rintro ⟨s1, s2, s3, s4, s5, s6, s7, p1⟩ ⟨h1, h1'⟩
  dsimp only at h1 h1' ⊢
  refine (pick_ev hB (by omega) (by omega) (by omega) (by omega)).bind ?_
  rintro ⟨x2, p2⟩ ⟨_, h2⟩
  dsimp only at h2 ⊢
  refine Evs.ite (fun _ => ?_) (fun _ => Evs.now trivial)
  refine (pick_ev hB (by omega) (by omega) (by omega) (by omega)).bind ?_
  rintro ⟨x3, p3⟩ ⟨_, h3⟩
  exact Evs.now trivial

theorem FnSealForm.tail (k : Nat) (key kind a b c d e : Int) :
    laws_FnSealForm.j0 (k + 2) (Sl.ok key kind a b c d e) (!(Sl.ok key kind a b c d e)) key kind a b c d e = some true := by
  simp only [laws_FnSealForm.j0, laws_FnSealForm.j1, Sl.impl_holds, Sl.spec_ok, Option.bind_some]
  cases ho : Sl.ok key kind a b c d e with
  | false => simp
  | true =>
    simp only [Bool.not_true, Bool.false_eq_true, if_false, Sl.holds, ho, if_true]
    rcases Sl.ok_kind ho with rfl | rfl | rfl | rfl
    · rw [Sl.ok1] at ho
      simp only [decide_eq_true_eq] at ho
      obtain ⟨rfl, _, ⟨h4, h6⟩, ⟨hc, _⟩, _⟩ := ho
      have hn : ¬ 10 ≤ key := by omega
      simp [hn, h4, h6, hc]
    · rw [Sl.ok2] at ho
      simp only [decide_eq_true_eq] at ho
      obtain ⟨hk, _, ⟨hb, _⟩, _⟩ := ho
      rcases hk with ⟨h1, h3⟩ | ⟨h10, h60⟩
      · have hn : ¬ 10 ≤ key := by omega
        simp [hn, h1, h3, hb]
      · simp [h10, h60, hb]
    · rw [Sl.ok3] at ho
      simp only [decide_eq_true_eq] at ho
      obtain ⟨⟨h10, h60⟩, _⟩ := ho
      simp [h10, h60]
    · rw [Sl.ok4] at ho
      simp only [decide_eq_true_eq] at ho
      obtain ⟨⟨h10, h60⟩, _⟩ := ho
      simp [h10, h60]

theorem FnSealForm : laws_FnSealForm.Pure := by
  intro l0 _ _ w0
  refine Evs.rounds (g := fun k => laws_FnSealForm.f k l0) ?_
  unfold laws_FnSealForm.f
  refine Evs.ite (fun _ => Evs.now rfl) (fun _ => ?_)
  refine (FnSealForm.draw w0).bind ?_
  rintro ⟨s1, s2, s3, s4, s5, s6, s7⟩ _
  simp only [Sl.impl_ok, Sl.spec_ok, Option.bind_some, bne_self_eq_false, Bool.false_eq_true, if_false]
  exact Evs.step (f := fun k => laws_FnSealForm.j0 (k + 1) _ _ _ _ _ _ _ _ _) (fun k => rfl) (Evs.step (f := fun _ => some true) (fun k => FnSealForm.tail k _ _ _ _ _ _ _) (Evs.now rfl))
end Go.Proofs.Ythjllmmocanhgaa.Pure
