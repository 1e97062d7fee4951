/- What the laws' own looks at lists come to: two lists of numbers are the same; a number is among such; lists of seals. -/
import Derived.Test.YtgekmdfcbcacdaaHx31
import Derived.Test.YtgekmdfcbcacdaaHx60
import Derived.Test.YtgekmdfcbcacdaaDr
set_option linter.unusedVariables false
set_option linter.unusedSimpArgs false
namespace Go.Proofs.Ytgekmdfcbcacdaa.Li
open Go.RowKit Go.Proofs.Ytgekmdfcbcacdaa.Hp Go.Proofs.YtgekmdfcbcacdaaW.PrintWords Go.Proofs.Ytgekmdfcbcacdaa.Dr

abbrev S := S41
theorem next_is {n i : Nat} (h : i < n) (hn : n ≤ 9223372036854775807) : wrap64 ((i : Int) + 1) = ((i + 1 : Nat) : Int) := by rw [w64 (by omega) (by omega)]; rfl
theorem rd_is (l : List Int) (i : Nat) (h : i < l.length) : rd l (i : Int) = l[i] := by simp [rd, List.getD_eq_getElem?_getD, List.getElem?_eq_getElem h]
theorem rdS_is (l : List S) (i : Nat) (h : i < l.length) : rd_T41 l (i : Int) = l[i] := by simp [rd_T41, List.getD_eq_getElem?_getD, List.getElem?_eq_getElem h]
theorem ints_loop (a : List Int) (hl : a.length ≤ 9223372036854775807) : ∀ (d i : Nat), i + d = a.length → Evs (fun k => laws_lbInts.l0 k a a (i : Int)) (· = true) := by
  intro d
  induction d with
  | zero => intro i hi; exact Evs.step (fun k => by simp only [laws_lbInts.l0]; rfl) (Evs.else_ (by omega) (Evs.now rfl))
  | succ d ih =>
    intro i hi
    refine Evs.step (fun k => by simp only [laws_lbInts.l0]; rfl) (Evs.then_ (by omega) (Evs.then_ (by omega) (Evs.then_ (by omega) (Evs.then_ (by first | rfl | trivial) ?_))))
    rw [next_is (n := a.length) (by omega) hl]
    exact ih (i + 1) (by omega)
theorem ints_ev (a : List Int) (hl : a.length ≤ 9223372036854775807) : Evs (fun k => laws_lbInts.f k a a) (· = true) := by
  unfold laws_lbInts.f
  exact Evs.then_ (by rfl) (ints_loop a hl a.length 0 (by omega))
theorem seals_loop (a : List S) (hl : a.length ≤ 9223372036854775807) : ∀ (d i : Nat), i + d = a.length → Evs (fun k => laws_lbSeals.l0 k a a (i : Int)) (· = true) := by
  intro d
  induction d with
  | zero => intro i hi; exact Evs.step (fun k => by simp only [laws_lbSeals.l0]; rfl) (Evs.else_ (by omega) (Evs.now rfl))
  | succ d ih =>
    intro i hi
    refine Evs.step (fun k => by simp only [laws_lbSeals.l0]; rfl) (Evs.then_ (by omega) (Evs.then_ (by omega) (Evs.then_ (by omega) (Evs.else_ (by simp) ?_))))
    rw [next_is (n := a.length) (by omega) hl]
    exact ih (i + 1) (by omega)
theorem seals_ev (a : List S) (hl : a.length ≤ 9223372036854775807) : Evs (fun k => laws_lbSeals.f k a a) (· = true) := by
  unfold laws_lbSeals.f
  exact Evs.then_ (by rfl) (seals_loop a hl a.length 0 (by omega))
end Go.Proofs.Ytgekmdfcbcacdaa.Li
