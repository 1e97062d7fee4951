/- What the exact laws' own helpers over wants come to: a list is mirrored, a list is the same as itself. -/
import Derived.Test.YtbipicjijbnbbaaHx15
import Derived.Test.YtbipicjijbnbbaaHx21
import Derived.Test.YtbipicjijbnbbaaHx7
import Derived.Test.YtbipicjijbnbbaaDr0
set_option linter.unusedVariables false
set_option linter.unusedSimpArgs false
namespace Go.Proofs.Ytbipicjijbnbbaa.Ew
open Go.RowKit Go.Proofs.Ytbipicjijbnbbaa.Hp Go.Proofs.YtbipicjijbnbbaaW.PrintWords Go.Proofs.Ytbipicjijbnbbaa.Dr

abbrev S := S104
abbrev L := S174
/-- A want of the law's own type as the program's. -/
def conv (s : L) : S := ⟨s.f0, s.f1⟩
theorem next_is {n i : Nat} (h : i < n) (hn : n ≤ 9223372036854775807) : wrap64 ((i : Int) + 1) = ((i + 1 : Nat) : Int) := by rw [w64 (by omega) (by omega)]; rfl
theorem toLoop_ev (l : List L) (hl : l.length ≤ 1048576) : ∀ (d i : Nat) (ys : List S), i + d = l.length → ys.length = l.length → (∀ j, j < i → ys[j]? = (l.map conv)[j]?) →
    Evs (fun k => laws_toWantS.l0 k l ys (i : Int)) (· = l.map conv) := by
  intro d
  induction d with
  | zero =>
    intro i ys hi hy hj
    refine Evs.step (fun k => by simp only [laws_toWantS.l0]; rfl) (Evs.else_ (by omega) (Evs.now ?_))
    refine List.ext_getElem? fun j => ?_
    by_cases h : j < i
    · exact hj j h
    · rw [List.getElem?_eq_none (by omega), List.getElem?_eq_none (by simp; omega)]
  | succ d ih =>
    intro i ys hi hy hj
    have hlt : i < l.length := by omega
    refine Evs.step (fun k => by simp only [laws_toWantS.l0, laws_toWant.f, Option.bind_some]; rfl) (Evs.then_ (by omega) (Evs.then_ (by omega) (Evs.then_ (by omega) ?_)))
    rw [next_is hlt (by omega)]
    refine ih (i + 1) _ (by omega) (by rw [List.length_set]; exact hy) fun j h => ?_
    rw [List.getElem?_set, Int.toNat_natCast]
    by_cases hji : i = j
    · subst hji
      rw [if_pos rfl, if_pos (by omega), List.getElem?_map, List.getElem?_eq_getElem hlt]
      simp [conv, rd_T174, List.getD_eq_getElem?_getD, List.getElem?_eq_getElem hlt]
    · rw [if_neg (by simpa using hji)]
      exact hj j (by omega)
theorem to_ev (l : List L) (hl : l.length ≤ 1048576) : Evs (fun k => laws_toWantS.f k l) (· = l.map conv) := by
  unfold laws_toWantS.f
  refine Evs.then_ (by omega) (Evs.then_ (by simp; omega) ?_)
  exact toLoop_ev l hl l.length 0 _ (by omega) (by simp) (fun j h => by omega)
theorem eqLoop_ev (a : List S) (hl : a.length ≤ 9223372036854775807) : ∀ (d i : Nat), i + d = a.length → Evs (fun k => laws_eqWantS.l0 k a a (i : Int)) (· = true) := by
  intro d
  induction d with
  | zero => intro i hi; exact Evs.step (fun k => by simp only [laws_eqWantS.l0]; rfl) (Evs.else_ (by omega) (Evs.now rfl))
  | succ d ih =>
    intro i hi
    refine Evs.step (fun k => by simp only [laws_eqWantS.l0, laws_eqWant.f, if_true, Option.bind_some]; rfl) (Evs.then_ (by omega) (Evs.then_ (by omega) (Evs.then_ (by omega) ?_)))
    rw [next_is (n := a.length) (by omega) hl]
    exact ih (i + 1) (by omega)
theorem eq_ev (a : List S) (hl : a.length ≤ 9223372036854775807) : Evs (fun k => laws_eqWantS.f k a a) (· = true) := by
  unfold laws_eqWantS.f
  exact Evs.then_ rfl (eqLoop_ev a hl a.length 0 (by omega))
/-- What is left behind a list, or below 0. -/
theorem sz_is (l : List L) (left : Int) (h0 : 0 ≤ left) (h1 : left ≤ 1048576) (hl : l.length ≤ 9223372036854775807) : laws_szWantS.f l left = some (if left < l.length then -1 else left - l.length) := by
  unfold laws_szWantS.f
  rw [w64 (by omega) (by omega)]
  split <;> split <;> first | rfl | (exfalso; omega)
end Go.Proofs.Ytbipicjijbnbbaa.Ew
