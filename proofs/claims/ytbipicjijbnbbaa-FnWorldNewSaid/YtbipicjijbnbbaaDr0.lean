/- What it means that a function with rounds answers from some number of rounds on. -/
import Derived.Test.YtbipicjijbnbbaaV
import Derived.Laws.BitsLemmas
set_option linter.unusedVariables false
set_option linter.unusedSimpArgs false
namespace Go.Proofs.Ytbipicjijbnbbaa.Dr
open Go.RowKit Go.Proofs.YtbipicjijbnbbaaW.PrintWords

/-- From some number of rounds on it answers, and the answer is such. -/
def Evs {α : Type} (g : Nat → Option α) (P : α → Prop) : Prop := ∃ r, Ev g r ∧ P r
theorem Evs.bind {α β : Type} {g : Nat → Option α} {f : Nat → α → Option β} {P : α → Prop} {Q : β → Prop} (h : Evs g P) (k : ∀ a, P a → Evs (fun n => f n a) Q) : Evs (fun n => (g n).bind (f n)) Q := by
  obtain ⟨a, ha, hp⟩ := h
  obtain ⟨r, hr, hq⟩ := k a hp
  exact ⟨r, ha.bind hr, hq⟩
theorem Evs.now {α : Type} {r : α} {P : α → Prop} (h : P r) : Evs (fun _ => some r) P := ⟨r, Ev.now r, h⟩
theorem Evs.step {α : Type} {g f : Nat → Option α} {P : α → Prop} (h : ∀ k, g (k + 1) = f k) (k : Evs f P) : Evs g P := by
  obtain ⟨r, hr, hp⟩ := k
  exact ⟨r, hr.step h, hp⟩
theorem Evs.congr {α : Type} {g f : Nat → Option α} {P : α → Prop} (h : ∀ k, g k = f k) (k : Evs f P) : Evs g P := by
  obtain ⟨r, hr, hp⟩ := k
  exact ⟨r, hr.congr h, hp⟩
theorem Evs.imp {α : Type} {g : Nat → Option α} {P Q : α → Prop} (h : Evs g P) (k : ∀ r, P r → Q r) : Evs g Q := by
  obtain ⟨r, hr, hp⟩ := h
  exact ⟨r, hr, k r hp⟩
theorem Evs.ite {α : Type} {c : Prop} [Decidable c] {g f : Nat → Option α} {P : α → Prop} (h : c → Evs g P) (k : ¬ c → Evs f P) : Evs (fun n => if c then g n else f n) P := by
  by_cases hc : c
  · exact (h hc).congr fun n => if_pos hc
  · exact (k hc).congr fun n => if_neg hc
theorem Evs.then_ {α : Type} {c : Prop} [Decidable c] {g f : Nat → Option α} {P : α → Prop} (hc : c) (h : Evs g P) : Evs (fun n => if c then g n else f n) P := h.congr fun n => if_pos hc
theorem Evs.else_ {α : Type} {c : Prop} [Decidable c] {g f : Nat → Option α} {P : α → Prop} (hc : ¬ c) (h : Evs f P) : Evs (fun n => if c then g n else f n) P := h.congr fun n => if_neg hc
theorem Evs.rounds {α : Type} {g : Nat → Option α} {r : α} (h : Evs g (· = r)) : ∃ k, g k = some r := by
  obtain ⟨_, hr, rfl⟩ := h
  exact hr.rounds
theorem Evs.always {α : Type} {o : Option α} {r : α} {P : α → Prop} (h : o = some r) (hp : P r) : Evs (fun _ => o) P := ⟨r, ⟨0, fun _ _ => h⟩, hp⟩

theorem w64 {x : Int} (h0 : -9223372036854775808 ≤ x) (h1 : x ≤ 9223372036854775807) : wrap64 x = x := by unfold wrap64; omega
theorem wraps_i64 (n : Int) (h₀ : 0 ≤ n) (h₁ : n < 2 ^ 62) : IntKind.i64.wrap n = n := by rw [IntKind.wrap_i64]; omega
theorem xor_nonneg (x y : Int) (h0 : 0 ≤ x) (h1 : x < 2 ^ 62) (h2 : 0 ≤ y) (h3 : y < 2 ^ 62) : 0 ≤ bits .xor .i64 x y := by
  obtain ⟨a, rfl⟩ := Int.eq_ofNat_of_zero_le h0
  obtain ⟨b, rfl⟩ := Int.eq_ofNat_of_zero_le h2
  have ha : a < 2 ^ 62 := by exact_mod_cast h1
  have hb : b < 2 ^ 62 := by exact_mod_cast h3
  have hp : 2 ^ 62 ≤ 2 ^ IntKind.i64.bits := Nat.pow_le_pow_right (by decide) (by decide)
  have ha' : a % 2 ^ IntKind.i64.bits = a := Nat.mod_eq_of_lt (Nat.lt_of_lt_of_le ha hp)
  have hb' : b % 2 ^ IntKind.i64.bits = b := Nat.mod_eq_of_lt (Nat.lt_of_lt_of_le hb hp)
  simp only [bits, BitVec.ofInt_natCast, BitVec.toNat_xor, BitVec.toNat_ofNat, ha', hb']
  rw [wraps_i64 _ (Int.natCast_nonneg _) (by exact_mod_cast Nat.xor_lt_two_pow ha hb)]
  exact Int.natCast_nonneg _

end Go.Proofs.Ytbipicjijbnbbaa.Dr
