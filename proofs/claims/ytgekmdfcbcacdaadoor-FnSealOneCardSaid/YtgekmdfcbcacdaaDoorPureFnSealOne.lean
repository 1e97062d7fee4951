/- The law FnSealOne: two seals are the same just if their texts are. For every input. -/
import Derived.Test.YtgekmdfcbcacdaaDoorHx19
import Derived.Test.YtgekmdfcbcacdaaDoorHx18
import Derived.Test.YtgekmdfcbcacdaaDoorSi
set_option linter.unusedVariables false
set_option linter.unusedSimpArgs false
namespace Go.Proofs.YtgekmdfcbcacdaaDoor.Pure
open Go.RowKit Go.Proofs.YtgekmdfcbcacdaaDoor.Hp Go.Proofs.YtgekmdfcbcacdaaDoorW.PrintWords Go.Proofs.YtgekmdfcbcacdaaDoor.Dr

theorem FnSealOne.draw {l : List Int} (h : ∀ x ∈ l, (Lit.int .u8 x).wf = true) : Evs (fun k => spec_DrawSealText.f k l) (fun _ => True) := by
  unfold spec_DrawSealText.f
  obtain ⟨b, hb, hB⟩ := open_ev h
  rw [hb]
  simp only [Option.bind_some]
  refine (seal_ev hB (by omega) (by omega)).bind ?_
  rintro ⟨s1, s2, s3, s4, s5, s6, s7, p1⟩ _
  exact Evs.now trivial
theorem FnSealOne.ok_of {key kind a b c d e : Int} (h : ¬ (St.txt key kind a b c d e).toList = []) : Sl.ok key kind a b c d e = true ∧ St.txt key kind a b c d e = sealText key kind a b c d e := by
  unfold St.txt at h ⊢
  by_cases ho : Sl.ok key kind a b c d e = true
  · exact ⟨ho, by rw [if_pos ho]⟩
  · rw [if_neg ho, Dc.toList_is] at h
    exact absurd rfl h
theorem FnSealOne.main (l0 l1 : List Int) (w0 : ∀ x ∈ l0, (Lit.int .u8 x).wf = true) (w1 : ∀ x ∈ l1, (Lit.int .u8 x).wf = true) (bb : Bool) : Evs (fun k => laws_FnSealOne.j0 k l0 l1 bb) (· = true) := by
  refine Evs.step (fun k => by simp only [laws_FnSealOne.j0]; rfl) (Evs.ite (fun _ => Evs.now rfl) (fun _ => ?_))
  refine (FnSealOne.draw w0).bind ?_
  rintro ⟨key, kind, a, b, c, d, e⟩ _
  refine (FnSealOne.draw w1).bind ?_
  rintro ⟨key', kind', a', b', c', d', e'⟩ _
  simp only [St.impl_text, Option.bind_some]
  refine (St.spec_text key kind a b c d e).bind ?_
  rintro _ rfl
  refine Evs.then_ (by first | rfl | trivial) ((St.spec_text key' kind' a' b' c' d' e').bind ?_)
  rintro _ rfl
  refine Evs.then_ (by first | rfl | trivial) ?_
  have stop : Evs (fun k => laws_FnSealOne.j1 k (St.txt key kind a b c d e) (St.txt key' kind' a' b' c' d' e') true key kind a b c d e key' kind' a' b' c' d' e') (· = true) := by
    refine Evs.step (fun k => by simp only [laws_FnSealOne.j1]; rfl) (Evs.then_ (by first | rfl | trivial) ((St.spec_text key kind a b c d e).bind ?_))
    rintro _ rfl
    refine Evs.then_ (by first | rfl | trivial) ((St.spec_text key' kind' a' b' c' d' e').bind ?_)
    rintro _ rfl
    exact Evs.now (by simp)
  refine Evs.ite (fun _ => stop) (fun h1 => ?_)
  by_cases h2 : (St.txt key' kind' a' b' c' d' e').toList = []
  · rw [beq_iff_eq.2 h2]; exact stop
  · rw [beq_eq_false_iff_ne.2 h2]
    refine Evs.step (fun k => by simp only [laws_FnSealOne.j1]; rfl) (Evs.else_ (by simp) (Evs.now ?_))
    obtain ⟨o1, e1⟩ := FnSealOne.ok_of h1
    obtain ⟨o2, e2⟩ := FnSealOne.ok_of h2
    rw [e1, e2, beq_iff_eq, Bool.eq_iff_iff]
    simp only [beq_iff_eq, Bool.and_eq_true, Dc.toList_inj]
    constructor
    · intro q
      exact Si.text_inj o1 o2 q
    · rintro ⟨rfl, rfl, rfl, rfl, rfl, rfl, rfl⟩
      rfl
theorem FnSealOne : laws_FnSealOne.Pure := by
  intro l0 l1 _ _ w0 _ _ w1
  refine Evs.rounds (g := fun k => laws_FnSealOne.f k l0 l1) ?_
  unfold laws_FnSealOne.f
  exact Evs.ite (fun _ => FnSealOne.main l0 l1 w0 w1 _) (fun _ => FnSealOne.main l0 l1 w0 w1 _)
end Go.Proofs.YtgekmdfcbcacdaaDoor.Pure
