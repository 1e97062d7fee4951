/- Seals that are numbered on hold their numbers. -/
import Derived.Test.YtbipicjijbnbbaaHx36
import Derived.Test.YtbipicjijbnbbaaMs2
set_option linter.unusedVariables false
set_option linter.unusedSimpArgs false
namespace Go.Proofs.Ytbipicjijbnbbaa.Ms2
open Go.RowKit Go.Proofs.Ytbipicjijbnbbaa.Hp Go.Proofs.YtbipicjijbnbbaaW.PrintWords Go.Proofs.Ytbipicjijbnbbaa.Dr
theorem heldLoop_ev (n : Nat) (a : Int) (h0 : 0 ≤ a) (ha : a ≤ 1000000000000) (hn : n ≤ 4194304) : ∀ (d i : Nat), i + d = n → Evs (fun k => laws_heldSealS.l0 k (marks a n) (a + 7 * (i : Int)) (i : Int)) (· = a + 7 * (n : Int)) := by
  intro d
  induction d with
  | zero =>
    intro i hi
    refine Evs.step (fun k => by simp only [laws_heldSealS.l0]; rfl) (Evs.else_ (by rw [marks_len]; omega) (Evs.now ?_))
    rw [show i = n by omega]
  | succ d ih =>
    intro i hi
    have hlt : i < n := by omega
    have hr : rd_T41 (marks a n) (i : Int) = one (a + 7 * (i : Int)) := by
      unfold rd_T41
      rw [List.getD_eq_getElem?_getD, Int.toNat_natCast, marks_at hlt]
      rfl
    refine Evs.step (fun k => by simp only [laws_heldSealS.l0]; rfl) (Evs.then_ (by rw [marks_len]; omega) (Evs.then_ (by omega) ?_))
    obtain ⟨x, hx⟩ : ∃ x, a + 7 * (i : Int) = x := ⟨_, rfl⟩
    have e1 : wrap64 (x + 1) = x + 1 := w64 (by omega) (by omega)
    have e2 : wrap64 (x + 1 + 1) = x + 1 + 1 := w64 (by omega) (by omega)
    have e3 : wrap64 (x + 1 + 1 + 1) = x + 1 + 1 + 1 := w64 (by omega) (by omega)
    have e4 : wrap64 (x + 1 + 1 + 1 + 1) = x + 1 + 1 + 1 + 1 := w64 (by omega) (by omega)
    have e5 : wrap64 (x + 1 + 1 + 1 + 1 + 1) = x + 1 + 1 + 1 + 1 + 1 := w64 (by omega) (by omega)
    have e6 : wrap64 (x + 1 + 1 + 1 + 1 + 1 + 1) = x + 1 + 1 + 1 + 1 + 1 + 1 := w64 (by omega) (by omega)
    have e7 : wrap64 (x + 1 + 1 + 1 + 1 + 1 + 1 + 1) = x + 1 + 1 + 1 + 1 + 1 + 1 + 1 := w64 (by omega) (by omega)
    have e8 : x + 1 + 1 + 1 + 1 + 1 + 1 + 1 = a + 7 * ((i + 1 : Nat) : Int) := by omega
    rw [hr, hx]
    simp only [one, e1, e2, e3, e4, e5, e6, e7, if_true]
    rw [next_is hlt (by omega), e8]
    exact ih (i + 1) (by omega)
theorem held_ev (n : Nat) (a : Int) (h0 : 0 ≤ a) (ha : a ≤ 1000000000000) (hn : n ≤ 4194304) : Evs (fun k => laws_heldSealS.f k (marks a n) a) (· = a + 7 * (n : Int)) := by
  unfold laws_heldSealS.f
  have h := heldLoop_ev n a h0 ha hn n 0 (by omega)
  rwa [show a + 7 * ((0 : Nat) : Int) = a by omega] at h
end Go.Proofs.Ytbipicjijbnbbaa.Ms2
