/- The law FnSealHolds: what is in a drawn seal is a key made for some time, or none. For every input. -/
import Derived.Test.YtbiknbjcidlabaaHx13
import Derived.Test.YtbiknbjcidlabaaHx11
import Derived.Test.YtbiknbjcidlabaaDr
import Derived.Test.YtbiknbjcidlabaaSl
set_option linter.unusedVariables false
set_option linter.unusedSimpArgs false
namespace Go.Proofs.Ytbiknbjcidlabaa.Pure
open Go.RowKit Go.Proofs.Ytbiknbjcidlabaa.Hp Go.Proofs.YtbiknbjcidlabaaW.PrintWords Go.Proofs.Ytbiknbjcidlabaa.Dr

theorem FnSealHolds.loop {b : List Int} (hb : Bs b) : ∀ (d i : Nat) (p s1 s2 s3 s4 s5 s6 s7 : Int), i + d = 3 → 0 ≤ p → p + 20 * d ≤ 800000 →
    Evs (fun k => spec_DrawSealHolds.l0 k (i : Int) b p s1 s2 s3 s4 s5 s6 s7) (fun _ => True) := by
  intro d
  induction d with
  | zero =>
    intro i p s1 s2 s3 s4 s5 s6 s7 hi hp hp'
    exact Evs.step (fun k => by simp only [spec_DrawSealHolds.l0]; rfl) (Evs.else_ (by omega) (Evs.now trivial))
  | succ d ih =>
    intro i p s1 s2 s3 s4 s5 s6 s7 hi hp hp'
    refine Evs.step (fun k => by simp only [spec_DrawSealHolds.l0, Sl.spec_holds, Option.bind_some]; rfl) (Evs.then_ (by omega) ?_)
    refine Evs.ite (fun _ => ?_) (fun _ => Evs.now trivial)
    refine (pick_ev hb (by omega) (by omega) (by omega) (by omega)).bind ?_
    rintro ⟨x, p1⟩ ⟨_, h1⟩
    dsimp only at h1 ⊢
    refine Evs.ite (fun _ => ?_) (fun _ => Evs.now trivial)
    refine (seal_ev hb (by omega) (by omega)).bind ?_
    rintro ⟨t1, t2, t3, t4, t5, t6, t7, p2⟩ ⟨h2, h2'⟩
    dsimp only at h2 h2' ⊢
    rw [show wrap64 ((i : Int) + 1) = ((i + 1 : Nat) : Int) from by rw [w64 (by omega) (by omega)]; rfl]
    exact ih (i + 1) p2 t1 t2 t3 t4 t5 t6 t7 (by omega) (by omega) (by omega)
theorem FnSealHolds.draw {l : List Int} (h : ∀ x ∈ l, (Lit.int .u8 x).wf = true) : Evs (fun k => spec_DrawSealHolds.f k l) (fun _ => True) := by
  unfold spec_DrawSealHolds.f
  obtain ⟨b, hb, hB⟩ := open_ev h
  rw [hb]
  simp only [Option.bind_some]
  refine (seal_ev hB (by omega) (by omega)).bind ?_
  rintro ⟨s1, s2, s3, s4, s5, s6, s7, p1⟩ ⟨h1, h1'⟩
  dsimp only at h1 h1' ⊢
  exact FnSealHolds.loop hB 3 0 p1 s1 s2 s3 s4 s5 s6 s7 (by omega) (by omega) (by omega)

theorem FnSealHolds : laws_FnSealHolds.Pure := by
  intro l0 _ _ w0
  refine Evs.rounds (g := fun k => laws_FnSealHolds.f k l0) ?_
  unfold laws_FnSealHolds.f
  refine Evs.ite (fun _ => Evs.now rfl) (fun _ => ?_)
  refine (FnSealHolds.draw w0).bind ?_
  rintro ⟨key, kind, a, b, c, d, e⟩ _
  simp only [Sl.impl_ok, Sl.impl_holds, Sl.spec_holds, Option.bind_some, if_true]
  refine Evs.always (r := true) ?_ rfl
  cases ho : Sl.ok key kind a b c d e with
  | false => simp [Sl.holds, ho]
  | true =>
    simp only [Sl.holds, ho, if_true]
    rcases Sl.ok_kind ho with rfl | rfl | rfl | rfl
    · rw [Sl.ok1] at ho
      simp only [decide_eq_true_eq] at ho
      obtain ⟨_, _, _, ⟨h1, h2⟩, _⟩ := ho
      have h0 : ¬ c = 0 := by omega
      simp [h0, h1, h2]
    · rw [Sl.ok2] at ho
      simp only [decide_eq_true_eq] at ho
      obtain ⟨_, _, ⟨h1, h2⟩, _⟩ := ho
      have h0 : ¬ b = 0 := by omega
      simp [h0, h1, h2]
    · simp
    · simp
end Go.Proofs.Ytbiknbjcidlabaa.Pure
