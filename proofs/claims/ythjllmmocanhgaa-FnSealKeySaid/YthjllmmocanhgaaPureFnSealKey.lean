/- The law FnSealKey: of a drawn seal that is ok, it is ok with another key just where its kind lets it be. For every input. -/
import Derived.Test.YthjllmmocanhgaaHx17
import Derived.Test.YthjllmmocanhgaaHx16
import Derived.Test.YthjllmmocanhgaaDr
import Derived.Test.YthjllmmocanhgaaSl
set_option linter.unusedVariables false
set_option linter.unusedSimpArgs false
namespace Go.Proofs.Ythjllmmocanhgaa.Pure
open Go.RowKit Go.Proofs.Ythjllmmocanhgaa.Hp Go.Proofs.YthjllmmocanhgaaW.PrintWords Go.Proofs.Ythjllmmocanhgaa.Dr

theorem FnSealKey.draw {l : List Int} (h : ∀ x ∈ l, (Lit.int .u8 x).wf = true) : Evs (fun k => spec_DrawSealOk.f k l) (fun _ => True) := by
  unfold spec_DrawSealOk.f
  obtain ⟨b, hb, hB⟩ := open_ev h
  rw [hb]
  simp only [Option.bind_some]
  refine (seal_ev hB (by omega) (by omega)).bind ?_
  rintro ⟨s1, s2, s3, s4, s5, s6, s7, p1⟩ ⟨h1, h1'⟩
  dsimp only at h1 h1' ⊢
  refine (pick_ev hB (by omega) (by omega) (by omega) (by omega)).bind ?_
  rintro ⟨x2, p2⟩ ⟨_, h2⟩
  dsimp only at h2 ⊢
  refine Evs.ite (fun _ => ?_) (fun _ => Evs.now trivial)
  refine (pick_ev hB (by omega) (by omega) (by omega) (by omega)).bind ?_
  rintro ⟨x3, p3⟩ ⟨_, h3⟩
  exact Evs.now trivial

theorem FnSealKey.tail (k : Nat) (l1 : List Int) (key kind a b c d e : Int) :
    laws_FnSealKey.j1 (k + 1) l1 (Sl.ok key kind a b c d e) (!(Sl.ok key kind a b c d e)) key kind a b c d e = some true := by
  simp only [laws_FnSealKey.j1, Sl.impl_ok, Sl.spec_ok, Option.bind_some]
  cases ho : Sl.ok key kind a b c d e with
  | false => simp
  | true =>
    simp only [Bool.not_true, Bool.false_eq_true, if_false]
    have hm0 : 0 ≤ (l1.length : Int) % 60 := by omega
    have hm1 : (l1.length : Int) % 60 < 60 := by omega
    generalize (l1.length : Int) % 60 = m at *
    rcases Sl.ok_kind ho with rfl | rfl | rfl | rfl
    · rw [Sl.ok1] at ho
      simp only [decide_eq_true_eq] at ho
      rw [if_pos rfl, Option.some.injEq, Sl.ok1, beq_iff_eq, Bool.eq_iff_iff]
      simp only [decide_eq_true_eq, beq_iff_eq]
      omega
    · rw [Sl.ok2] at ho
      simp only [decide_eq_true_eq] at ho
      rw [if_neg (by omega), if_pos rfl]
      simp only [Sl.ok2]
      split
      · rw [Option.some.injEq, beq_iff_eq, Bool.eq_iff_iff]
        simp only [decide_eq_true_eq, iff_true]
        omega
      · rw [Option.some.injEq, beq_iff_eq, Bool.eq_iff_iff]
        simp only [decide_eq_true_eq]
        omega
    · rw [Sl.ok3] at ho
      simp only [decide_eq_true_eq] at ho
      rw [if_neg (by omega), if_neg (by omega), Option.some.injEq, Sl.ok3, beq_iff_eq, Bool.eq_iff_iff]
      simp only [decide_eq_true_eq]
      omega
    · rw [Sl.ok4] at ho
      simp only [decide_eq_true_eq] at ho
      rw [if_neg (by omega), if_neg (by omega), Option.some.injEq, Sl.ok4, beq_iff_eq, Bool.eq_iff_iff]
      simp only [decide_eq_true_eq]
      omega

theorem FnSealKey : laws_FnSealKey.Pure := by
  intro l0 l1 _ _ w0 _ _ _
  have key : ∀ f : Bool, Evs (fun k => laws_FnSealKey.j0 k l0 l1 f) (· = true) := by
    intro f
    refine Evs.step (fun k => by simp only [laws_FnSealKey.j0]; rfl) ?_
    refine Evs.ite (fun _ => Evs.now rfl) (fun _ => ?_)
    refine (FnSealKey.draw w0).bind ?_
    rintro ⟨s1, s2, s3, s4, s5, s6, s7⟩ _
    simp only [Sl.impl_ok, Sl.spec_ok, Option.bind_some, bne_self_eq_false, Bool.false_eq_true, if_false]
    exact Evs.step (f := fun _ => some true) (fun k => FnSealKey.tail k _ _ _ _ _ _ _ _) (Evs.now rfl)
  refine Evs.rounds (g := fun k => laws_FnSealKey.f k l0 l1) ?_
  unfold laws_FnSealKey.f
  exact Evs.ite (fun _ => key _) (fun _ => key _)
end Go.Proofs.Ythjllmmocanhgaa.Pure
