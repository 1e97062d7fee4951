/- The law FnSealRange: what is out of range is in no seal that is ok, and has no text. For every input. -/
import Derived.Test.YtgekmdfcbcacdaaDoorHx17
import Derived.Test.YtgekmdfcbcacdaaDoorHx16
import Derived.Test.YtgekmdfcbcacdaaDoorSt
set_option linter.unusedVariables false
set_option linter.unusedSimpArgs false
namespace Go.Proofs.YtgekmdfcbcacdaaDoor.Pure
open Go.RowKit Go.Proofs.YtgekmdfcbcacdaaDoor.Hp Go.Proofs.YtgekmdfcbcacdaaDoorW.PrintWords Go.Proofs.YtgekmdfcbcacdaaDoor.Dr

theorem FnSealRange.draw {l : List Int} (h : ∀ x ∈ l, (Lit.int .u8 x).wf = true) : Evs (fun k => spec_DrawSealOk.f k l) (fun _ => True) := by
  unfold spec_DrawSealOk.f
  obtain ⟨b, hb, hB⟩ := open_ev h
  rw [hb]
  simp only [Option.bind_some]
  refine (seal_ev hB (by omega) (by omega)).bind ?_
  rintro ⟨s1, s2, s3, s4, s5, s6, s7, p1⟩ ⟨h1, h1'⟩
  dsimp only at h1 h1' ⊢
  refine (pick_ev hB (by omega) (by omega) (by omega) (by omega)).bind ?_
  rintro ⟨x2, p2⟩ ⟨_, h2⟩
  dsimp only at h2 ⊢
  refine Evs.ite (fun _ => ?_) (fun _ => Evs.now trivial)
  refine (pick_ev hB (by omega) (by omega) (by omega) (by omega)).bind ?_
  rintro ⟨x3, p3⟩ ⟨_, h3⟩
  exact Evs.now trivial
theorem FnSealRange.empty {key kind a b c d e : Int} (h : Sl.ok key kind a b c d e = false) : (St.txt key kind a b c d e).toList = [] := by
  unfold St.txt
  rw [h, if_neg (by simp), Dc.toList_is]
  rfl
theorem FnSealRange.tail (k : Nat) (key kind a b c d e : Int) (h : Sl.ok key kind a b c d e = true) : laws_FnSealRange.j0 (k + 2) true false key kind a b c d e = some true := by
  have h0 : Sl.ok key 0 a b c d e = false := Sl.ok_no (by decide) (by decide) (by decide) (by decide)
  simp only [laws_FnSealRange.j0, laws_FnSealRange.j1, Sl.impl_ok, St.impl_text, Sl.impl_holds, Option.bind_some, Bool.false_eq_true, if_false]
  rcases Sl.ok_kind h with rfl | rfl | rfl | rfl
  · have h1 : Sl.ok key 1 a b c d 101 = false := by rw [Sl.ok1, decide_eq_false_iff_not]; omega
    have h2 : Sl.ok key 1 4 b c d e = false := by rw [Sl.ok1, decide_eq_false_iff_not]; omega
    simp [h0, h1, h2, FnSealRange.empty h1, Sl.holds]
  · have h1 : Sl.ok key 2 a b c 101 e = false := by rw [Sl.ok2, decide_eq_false_iff_not]; omega
    have h2 : Sl.ok key 2 a b 61 d e = false := by rw [Sl.ok2, decide_eq_false_iff_not]; omega
    simp [h0, h1, h2, FnSealRange.empty h1, Sl.holds]
  · have h1 : Sl.ok key 3 a 101 c d e = false := by rw [Sl.ok3, decide_eq_false_iff_not]; omega
    have h2 : Sl.ok key 3 a b 61 d e = false := by rw [Sl.ok3, decide_eq_false_iff_not]; omega
    simp [h0, h1, h2, FnSealRange.empty h1, Sl.holds]
  · have h1 : Sl.ok key 4 101 b c d e = false := by rw [Sl.ok4, decide_eq_false_iff_not]; omega
    have h2 : Sl.ok key 4 a 61 c d e = false := by rw [Sl.ok4, decide_eq_false_iff_not]; omega
    simp [h0, h1, h2, FnSealRange.empty h1, Sl.holds]
theorem FnSealRange : laws_FnSealRange.Pure := by
  intro l0 _ _ w0
  refine Evs.rounds (g := fun k => laws_FnSealRange.f k l0) ?_
  unfold laws_FnSealRange.f
  refine Evs.ite (fun _ => Evs.now rfl) (fun _ => ?_)
  refine (FnSealRange.draw w0).bind ?_
  rintro ⟨key, kind, a, b, c, d, e⟩ _
  simp only [Sl.impl_ok, Sl.spec_ok, Option.bind_some, bne_self_eq_false, Bool.false_eq_true, if_false]
  cases h : Sl.ok key kind a b c d e with
  | false => exact Evs.step (fun k => by simp only [laws_FnSealRange.j0, Sl.spec_ok, h, Option.bind_some, Bool.not_false, if_true]; rfl) (Evs.now (by rfl))
  | true => exact ⟨true, ⟨2, fun n hn => by obtain ⟨m, rfl⟩ : ∃ m, n = m + 2 := ⟨n - 2, by omega⟩; exact FnSealRange.tail m key kind a b c d e h⟩, rfl⟩
end Go.Proofs.YtgekmdfcbcacdaaDoor.Pure
