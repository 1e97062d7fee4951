/- What the exact laws' marks come to: a list of numbers that is numbered on holds its numbers. -/
import Derived.Test.YtbipicjijbnbbaaHx38
import Derived.Test.YtbipicjijbnbbaaHx40
import Derived.Test.YtbipicjijbnbbaaDr
set_option linter.unusedVariables false
set_option linter.unusedSimpArgs false
namespace Go.Proofs.Ytbipicjijbnbbaa.Mi2
open Go.RowKit Go.Proofs.Ytbipicjijbnbbaa.Hp Go.Proofs.YtbipicjijbnbbaaW.PrintWords Go.Proofs.Ytbipicjijbnbbaa.Dr

/-- The numbers from a on, n of them. -/
def marks (a : Int) (n : Nat) : List Int := (List.range n).map fun (i : Nat) => a + (i : Int)
theorem marks_len (a : Int) (n : Nat) : (marks a n).length = n := by simp [marks]
theorem marks_at {a : Int} {n i : Nat} (h : i < n) : (marks a n)[i]? = some (a + (i : Int)) := by simp [marks, h]
theorem next_is {n i : Nat} (h : i < n) (hn : n ≤ 9223372036854775807) : wrap64 ((i : Int) + 1) = ((i + 1 : Nat) : Int) := by rw [w64 (by omega) (by omega)]; rfl
theorem markLoop_ev (n : Nat) (a : Int) (h0 : 0 ≤ a) (ha : a ≤ 1000000000000) (hn : n ≤ 4194304) : ∀ (d i : Nat) (ys : List Int), i + d = n → ys.length = n → (∀ j, j < i → ys[j]? = (marks a n)[j]?) →
    Evs (fun k => laws_markIntS.l0 k ys (a + (i : Int)) (i : Int)) (· = (a + (n : Int), marks a n)) := by
  intro d
  induction d with
  | zero =>
    intro i ys hi hy hj
    refine Evs.step (fun k => by simp only [laws_markIntS.l0]; rfl) (Evs.else_ (by omega) (Evs.now ?_))
    have e : ys = marks a n := by
      refine List.ext_getElem? fun j => ?_
      by_cases h : j < i
      · exact hj j h
      · rw [List.getElem?_eq_none (by omega), List.getElem?_eq_none (by rw [marks_len]; omega)]
    rw [e, show i = n by omega]
  | succ d ih =>
    intro i ys hi hy hj
    have hlt : i < n := by omega
    refine Evs.step (fun k => by simp only [laws_markIntS.l0]; rfl) (Evs.then_ (by omega) (Evs.then_ (by omega) ?_))
    rw [next_is hlt (by omega), w64 (by omega) (by omega), show a + (i : Int) + 1 = a + ((i + 1 : Nat) : Int) by omega]
    refine ih (i + 1) _ (by omega) (by rw [List.length_set]; exact hy) fun j h => ?_
    rw [List.getElem?_set, Int.toNat_natCast]
    by_cases hji : i = j
    · subst hji
      rw [if_pos rfl, if_pos (by omega), marks_at hlt]
    · rw [if_neg hji]
      exact hj j (by omega)
theorem mark_ev (xs : List Int) (a : Int) (h0 : 0 ≤ a) (ha : a ≤ 1000000000000) (hn : xs.length ≤ 4194304) : Evs (fun k => laws_markIntS.f k xs a) (· = (a + (xs.length : Int), marks a xs.length)) := by
  unfold laws_markIntS.f
  have h := markLoop_ev xs.length a h0 ha hn xs.length 0 xs (by omega) rfl (fun j h => by omega)
  rwa [show a + ((0 : Nat) : Int) = a by omega] at h
theorem heldLoop_ev (n : Nat) (a : Int) (h0 : 0 ≤ a) (ha : a ≤ 1000000000000) (hn : n ≤ 4194304) : ∀ (d i : Nat), i + d = n → Evs (fun k => laws_heldIntS.l0 k (marks a n) (a + (i : Int)) (i : Int)) (· = a + (n : Int)) := by
  intro d
  induction d with
  | zero =>
    intro i hi
    refine Evs.step (fun k => by simp only [laws_heldIntS.l0]; rfl) (Evs.else_ (by rw [marks_len]; omega) (Evs.now ?_))
    rw [show i = n by omega]
  | succ d ih =>
    intro i hi
    have hlt : i < n := by omega
    refine Evs.step (fun k => by simp only [laws_heldIntS.l0]; rfl) (Evs.then_ (by rw [marks_len]; omega) (Evs.then_ (by omega) (Evs.then_ ?_ ?_)))
    · unfold Go.Proofs.YtbipicjijbnbbaaW.PrintWords.rd
      rw [List.getD_eq_getElem?_getD, Int.toNat_natCast, marks_at hlt]
      rfl
    · rw [next_is hlt (by omega), w64 (by omega) (by omega), show a + (i : Int) + 1 = a + ((i + 1 : Nat) : Int) by omega]
      exact ih (i + 1) (by omega)
theorem held_ev (n : Nat) (a : Int) (h0 : 0 ≤ a) (ha : a ≤ 1000000000000) (hn : n ≤ 4194304) : Evs (fun k => laws_heldIntS.f k (marks a n) a) (· = a + (n : Int)) := by
  unfold laws_heldIntS.f
  have h := heldLoop_ev n a h0 ha hn n 0 (by omega)
  rwa [show a + ((0 : Nat) : Int) = a by omega] at h
end Go.Proofs.Ytbipicjijbnbbaa.Mi2
