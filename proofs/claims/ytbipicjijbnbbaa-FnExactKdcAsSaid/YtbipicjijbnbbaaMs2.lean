/- What the exact laws' marks of seals come to: seals that are numbered on hold their numbers. -/
import Derived.Test.YtbipicjijbnbbaaHx34
import Derived.Test.YtbipicjijbnbbaaDr0
set_option linter.unusedVariables false
set_option linter.unusedSimpArgs false
namespace Go.Proofs.Ytbipicjijbnbbaa.Ms2
open Go.RowKit Go.Proofs.Ytbipicjijbnbbaa.Hp Go.Proofs.YtbipicjijbnbbaaW.PrintWords Go.Proofs.Ytbipicjijbnbbaa.Dr

abbrev S := S41
/-- A seal of seven numbers from a on. -/
def one (a : Int) : S := ⟨a, a + 1, a + 1 + 1, a + 1 + 1 + 1, a + 1 + 1 + 1 + 1, a + 1 + 1 + 1 + 1 + 1, a + 1 + 1 + 1 + 1 + 1 + 1⟩
/-- Seals of the numbers from a on, n of them. -/
def marks (a : Int) (n : Nat) : List S := (List.range n).map fun (i : Nat) => one (a + 7 * (i : Int))
theorem marks_len (a : Int) (n : Nat) : (marks a n).length = n := by simp [marks]
theorem marks_at {a : Int} {n i : Nat} (h : i < n) : (marks a n)[i]? = some (one (a + 7 * (i : Int))) := by simp [marks, h]
theorem next_is {n i : Nat} (h : i < n) (hn : n ≤ 9223372036854775807) : wrap64 ((i : Int) + 1) = ((i + 1 : Nat) : Int) := by rw [w64 (by omega) (by omega)]; rfl
theorem rd_set {ys : List S} {i : Nat} (h : i < ys.length) (s : S) : rd_T41 (ys.set i s) (i : Int) = s := by
  unfold rd_T41
  rw [List.getD_eq_getElem?_getD, Int.toNat_natCast, List.getElem?_set, if_pos rfl, if_pos h]
  rfl
theorem markLoop_ev (n : Nat) (a : Int) (h0 : 0 ≤ a) (ha : a ≤ 1000000000000) (hn : n ≤ 4194304) : ∀ (d i : Nat) (ys : List S), i + d = n → ys.length = n → (∀ j, j < i → ys[j]? = (marks a n)[j]?) →
    Evs (fun k => laws_markSealS.l0 k ys (a + 7 * (i : Int)) (i : Int)) (· = (a + 7 * (n : Int), marks a n)) := by
  intro d
  induction d with
  | zero =>
    intro i ys hi hy hj
    refine Evs.step (fun k => by simp only [laws_markSealS.l0]; rfl) (Evs.else_ (by omega) (Evs.now ?_))
    have e : ys = marks a n := by
      refine List.ext_getElem? fun j => ?_
      by_cases h : j < i
      · exact hj j h
      · rw [List.getElem?_eq_none (by omega), List.getElem?_eq_none (by rw [marks_len]; omega)]
    rw [e, show i = n by omega]
  | succ d ih =>
    intro i ys hi hy hj
    have hlt : i < n := by omega
    have hly : i < ys.length := by omega
    refine Evs.step (fun k => by simp only [laws_markSealS.l0, Option.bind_some]; rfl) (Evs.then_ (by omega) (Evs.then_ (by omega) ?_))
    obtain ⟨x, hx⟩ : ∃ x, a + 7 * (i : Int) = x := ⟨_, rfl⟩
    have e1 : wrap64 (x + 1) = x + 1 := w64 (by omega) (by omega)
    have e2 : wrap64 (x + 1 + 1) = x + 1 + 1 := w64 (by omega) (by omega)
    have e3 : wrap64 (x + 1 + 1 + 1) = x + 1 + 1 + 1 := w64 (by omega) (by omega)
    have e4 : wrap64 (x + 1 + 1 + 1 + 1) = x + 1 + 1 + 1 + 1 := w64 (by omega) (by omega)
    have e5 : wrap64 (x + 1 + 1 + 1 + 1 + 1) = x + 1 + 1 + 1 + 1 + 1 := w64 (by omega) (by omega)
    have e6 : wrap64 (x + 1 + 1 + 1 + 1 + 1 + 1) = x + 1 + 1 + 1 + 1 + 1 + 1 := w64 (by omega) (by omega)
    have e7 : wrap64 (x + 1 + 1 + 1 + 1 + 1 + 1 + 1) = x + 1 + 1 + 1 + 1 + 1 + 1 + 1 := w64 (by omega) (by omega)
    have e8 : x + 1 + 1 + 1 + 1 + 1 + 1 + 1 = a + 7 * ((i + 1 : Nat) : Int) := by omega
    rw [hx]
    simp only [Int.toNat_natCast, rd_set, List.length_set, hly, List.set_set, e1, e2, e3, e4, e5, e6, e7]
    rw [next_is hlt (by omega), e8]
    refine ih (i + 1) _ (by omega) (by rw [List.length_set]; exact hy) fun j h => ?_
    rw [List.getElem?_set]
    by_cases hji : i = j
    · subst hji
      rw [if_pos rfl, if_pos hly, marks_at hlt, hx]
      rfl
    · rw [if_neg hji]
      exact hj j (by omega)
theorem mark_ev (xs : List S) (a : Int) (h0 : 0 ≤ a) (ha : a ≤ 1000000000000) (hn : xs.length ≤ 4194304) : Evs (fun k => laws_markSealS.f k xs a) (· = (a + 7 * (xs.length : Int), marks a xs.length)) := by
  unfold laws_markSealS.f
  have h := markLoop_ev xs.length a h0 ha hn xs.length 0 xs (by omega) rfl (fun j h => by omega)
  rwa [show a + 7 * ((0 : Nat) : Int) = a by omega] at h
end Go.Proofs.Ytbipicjijbnbbaa.Ms2
