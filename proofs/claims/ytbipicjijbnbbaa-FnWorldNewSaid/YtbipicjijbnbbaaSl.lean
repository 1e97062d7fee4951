/- What SealOk and SealHolds come to, the program's and the reference's alike: one plain test on the seven numbers. No condition. -/
import Derived.Test.YtbipicjijbnbbaaHx21
import Derived.Test.YtbipicjijbnbbaaHx7
import Derived.Test.YtbipicjijbnbbaaHx22
set_option linter.unusedVariables false
set_option linter.unusedSimpArgs false
namespace Go.Proofs.Ytbipicjijbnbbaa.Sl
open Go.RowKit Go.Proofs.Ytbipicjijbnbbaa.Hp Go.Proofs.YtbipicjijbnbbaaW.PrintWords

/-- A seal is ok. -/
def ok (key kind a b c d e : Int) : Bool :=
  (kind == 1 && decide (key = b ∧ (1 ≤ a ∧ a ≤ 3) ∧ (4 ≤ b ∧ b ≤ 6) ∧ (10 ≤ c ∧ c ≤ 60) ∧ (0 ≤ d ∧ d ≤ 100) ∧ 0 ≤ e ∧ e ≤ 100)) ||
  (kind == 2 && decide (((1 ≤ key ∧ key ≤ 3) ∨ (10 ≤ key ∧ key ≤ 60)) ∧ (4 ≤ a ∧ a ≤ 6) ∧ (10 ≤ b ∧ b ≤ 60) ∧ (1 ≤ c ∧ c ≤ 60) ∧ (0 ≤ d ∧ d ≤ 100) ∧ e = 0)) ||
  (kind == 3 && decide ((10 ≤ key ∧ key ≤ 60) ∧ (1 ≤ a ∧ a ≤ 3) ∧ (0 ≤ b ∧ b ≤ 100) ∧ (1 ≤ c ∧ c ≤ 60) ∧ d = 0 ∧ e = 0)) ||
  (kind == 4 && decide ((10 ≤ key ∧ key ≤ 60) ∧ (0 ≤ a ∧ a ≤ 100) ∧ (1 ≤ b ∧ b ≤ 60) ∧ c = 0 ∧ d = 0 ∧ e = 0))
/-- The key in a seal, or 0. -/
def holds (key kind a b c d e : Int) : Int := if ok key kind a b c d e = true then (if kind = 1 then c else if kind = 2 then b else 0) else 0

theorem within (n lo hi : Int) : impl_within.f n lo hi = some (decide (lo ≤ n ∧ n ≤ hi)) := by
  unfold impl_within.f
  split
  · simp; omega
  · simp; omega
theorem l6In (n lo hi : Int) : spec_l6In.f n lo hi = some (decide (lo ≤ n ∧ n ≤ hi)) := by
  unfold spec_l6In.f
  split
  · simp; omega
  · simp; omega
theorem userOk (n : Int) : impl_userOk.f n = some (decide (1 ≤ n ∧ n ≤ 3)) := by simp only [impl_userOk.f, within, Option.bind_some]
theorem servOk (n : Int) : impl_servOk.f n = some (decide (4 ≤ n ∧ n ≤ 5)) := by simp only [impl_servOk.f, within, Option.bind_some]
theorem giverOk (n : Int) : impl_giverOk.f n = some (decide (4 ≤ n ∧ n ≤ 6)) := by
  simp only [impl_giverOk.f, servOk, Option.bind_some, decide_eq_true_eq]
  split <;> (rw [Option.some.injEq, Bool.eq_iff_iff]; simp only [decide_eq_true_eq, beq_iff_eq, true_iff]; omega)
theorem madeOk (n : Int) : impl_madeOk.f n = some (decide (10 ≤ n ∧ n ≤ 60)) := by simp only [impl_madeOk.f, within, Option.bind_some]
theorem timeOk (n : Int) : impl_timeOk.f n = some (decide (0 ≤ n ∧ n ≤ 100)) := by simp only [impl_timeOk.f, within, Option.bind_some]
theorem numberOk (n : Int) : impl_numberOk.f n = some (decide (1 ≤ n ∧ n ≤ 60)) := by simp only [impl_numberOk.f, within, Option.bind_some]
theorem l1User (n : Int) : spec_l1User.f n = some (decide (1 ≤ n ∧ n ≤ 3)) := by simp only [spec_l1User.f, l6In, Option.bind_some]

theorem ok1 (key a b c d e : Int) : ok key 1 a b c d e = decide (key = b ∧ (1 ≤ a ∧ a ≤ 3) ∧ (4 ≤ b ∧ b ≤ 6) ∧ (10 ≤ c ∧ c ≤ 60) ∧ (0 ≤ d ∧ d ≤ 100) ∧ 0 ≤ e ∧ e ≤ 100) := by simp [ok]
theorem ok2 (key a b c d e : Int) : ok key 2 a b c d e = decide (((1 ≤ key ∧ key ≤ 3) ∨ (10 ≤ key ∧ key ≤ 60)) ∧ (4 ≤ a ∧ a ≤ 6) ∧ (10 ≤ b ∧ b ≤ 60) ∧ (1 ≤ c ∧ c ≤ 60) ∧ (0 ≤ d ∧ d ≤ 100) ∧ e = 0) := by simp [ok]
theorem ok3 (key a b c d e : Int) : ok key 3 a b c d e = decide ((10 ≤ key ∧ key ≤ 60) ∧ (1 ≤ a ∧ a ≤ 3) ∧ (0 ≤ b ∧ b ≤ 100) ∧ (1 ≤ c ∧ c ≤ 60) ∧ d = 0 ∧ e = 0) := by simp [ok]
theorem ok4 (key a b c d e : Int) : ok key 4 a b c d e = decide ((10 ≤ key ∧ key ≤ 60) ∧ (0 ≤ a ∧ a ≤ 100) ∧ (1 ≤ b ∧ b ≤ 60) ∧ c = 0 ∧ d = 0 ∧ e = 0) := by simp [ok]
theorem ok_kind {key kind a b c d e : Int} (h : ok key kind a b c d e = true) : kind = 1 ∨ kind = 2 ∨ kind = 3 ∨ kind = 4 := by
  simp only [ok, Bool.or_eq_true, Bool.and_eq_true, beq_iff_eq] at h
  omega
theorem ok_no {key kind a b c d e : Int} (h1 : ¬ kind = 1) (h2 : ¬ kind = 2) (h3 : ¬ kind = 3) (h4 : ¬ kind = 4) : ok key kind a b c d e = false := by
  by_cases h : ok key kind a b c d e = true
  · have := ok_kind h; omega
  · simpa using h

theorem sealOk_is (key kind a b c d e : Int) : sealOk key kind a b c d e = ok key kind a b c d e := by
  rw [Bool.eq_iff_iff]
  unfold sealOk
  by_cases k1 : kind = 1
  · subst k1; rw [if_pos rfl, ok1]; simp only [rng, Bool.and_eq_true, decide_eq_true_eq, beq_iff_eq] <;> omega
  rw [if_neg k1]
  by_cases k2 : kind = 2
  · subst k2; rw [if_pos rfl, ok2]; simp only [rng, Bool.and_eq_true, Bool.or_eq_true, decide_eq_true_eq, beq_iff_eq] <;> omega
  rw [if_neg k2]
  by_cases k3 : kind = 3
  · subst k3; rw [if_pos rfl, ok3]; simp only [rng, Bool.and_eq_true, decide_eq_true_eq, beq_iff_eq] <;> omega
  rw [if_neg k3]
  by_cases k4 : kind = 4
  · subst k4; rw [if_pos rfl, ok4]; simp only [rng, Bool.and_eq_true, decide_eq_true_eq, beq_iff_eq] <;> omega
  rw [if_neg k4, ok_no k1 k2 k3 k4]
theorem impl_ok (key kind a b c d e : Int) : impl_SealOk.f key kind a b c d e = some (ok key kind a b c d e) := by unfold impl_SealOk.f; rw [sealOk_is]
theorem impl_holds (key kind a b c d e : Int) : impl_SealHolds.f key kind a b c d e = some (holds key kind a b c d e) := by
  simp only [impl_SealHolds.f, impl_ok, Option.bind_some, holds]
  repeat' split
  all_goals simp_all
end Go.Proofs.Ytbipicjijbnbbaa.Sl
