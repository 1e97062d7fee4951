/- A seal's text tells the seal. Plain lists of bytes. -/
import Derived.Test.YtbipicjijbnbbaaDoorSt
set_option linter.unusedVariables false
set_option linter.unusedSimpArgs false
namespace Go.Proofs.YtbipicjijbnbbaaDoor.Si
open Go.RowKit Go.Proofs.YtbipicjijbnbbaaDoor.Hp Go.Proofs.YtbipicjijbnbbaaDoor.Dc Go.Proofs.YtbipicjijbnbbaaDoor.St

theorem split_at {s : UInt8} : ∀ {a b x y : List UInt8}, s ∉ a → s ∉ b → a ++ s :: x = b ++ s :: y → a = b ∧ x = y
  | [], [], x, y, _, _, h => by
    rw [List.nil_append, List.nil_append] at h
    exact ⟨rfl, (List.cons.inj h).2⟩
  | [], c :: b, x, y, _, hb, h => by
    rw [List.nil_append, List.cons_append] at h
    exact absurd (by rw [(List.cons.inj h).1]; exact List.mem_cons_self) hb
  | c :: a, [], x, y, ha, _, h => by
    rw [List.nil_append, List.cons_append] at h
    exact absurd (by rw [← (List.cons.inj h).1]; exact List.mem_cons_self) ha
  | c :: a, e :: b, x, y, ha, hb, h => by
    rw [List.cons_append, List.cons_append] at h
    obtain ⟨h1, h2⟩ := List.cons.inj h
    obtain ⟨h3, h4⟩ := split_at (fun q => ha (List.mem_cons_of_mem _ q)) (fun q => hb (List.mem_cons_of_mem _ q)) h2
    exact ⟨by rw [h1, h3], h4⟩
theorem dig_ne : ∀ u : Nat, u < 10 → ¬ (UInt8.ofNat (48 + u) = 32 ∨ UInt8.ofNat (48 + u) = 10) := by decide
theorem dig_val : ∀ u : Nat, u < 10 → (UInt8.ofNat (48 + u)).toNat - 48 = u := by decide
theorem dec_no : ∀ u : Nat, (32 : UInt8) ∉ Lib.decDigits u ∧ (10 : UInt8) ∉ Lib.decDigits u := by
  intro u
  induction u using Nat.strongRecOn with
  | _ u ih =>
    by_cases h : u < 10
    · rw [digits_one h]
      have := dig_ne u h
      exact ⟨fun q => this (.inl (List.mem_singleton.1 q).symm), fun q => this (.inr (List.mem_singleton.1 q).symm)⟩
    · rw [digits_more h]
      have h1 := ih (u / 10) (by omega)
      have := dig_ne (u % 10) (by omega)
      refine ⟨fun q => ?_, fun q => ?_⟩
      · rcases List.mem_append.1 q with q | q
        · exact h1.1 q
        · exact this (.inl (List.mem_singleton.1 q).symm)
      · rcases List.mem_append.1 q with q | q
        · exact h1.2 q
        · exact this (.inr (List.mem_singleton.1 q).symm)
def val (l : List UInt8) : Nat := l.foldl (fun n c => 10 * n + (c.toNat - 48)) 0
theorem val_dec : ∀ u : Nat, val (Lib.decDigits u) = u := by
  intro u
  induction u using Nat.strongRecOn with
  | _ u ih =>
    by_cases h : u < 10
    · rw [digits_one h]
      have := dig_val u h
      simp only [val, List.foldl_cons, List.foldl_nil]
      omega
    · rw [digits_more h]
      have h1 := ih (u / 10) (by omega)
      have := dig_val (u % 10) (by omega)
      unfold val at h1 ⊢
      rw [List.foldl_append, h1]
      simp only [List.foldl_cons, List.foldl_nil]
      omega
theorem no_dec {x : Int} (h : 0 ≤ x ∧ x ≤ 100) : (32 : UInt8) ∉ bs (decOf x) ∧ (10 : UInt8) ∉ bs (decOf x) := by
  obtain ⟨u, rfl⟩ := Int.eq_ofNat_of_zero_le h.1
  rw [bs_dec]
  exact dec_no u
theorem dec_inj {x y : Int} (h : 0 ≤ x ∧ x ≤ 100) (k : 0 ≤ y ∧ y ≤ 100) (e : bs (decOf x) = bs (decOf y)) : x = y := by
  obtain ⟨u, rfl⟩ := Int.eq_ofNat_of_zero_le h.1
  obtain ⟨v, rfl⟩ := Int.eq_ofNat_of_zero_le k.1
  rw [bs_dec, bs_dec] at e
  have := val_dec u
  rw [e, val_dec] at this
  omega
theorem word_no {k : Int} (h : k = 1 ∨ k = 2 ∨ k = 3 ∨ k = 4) : (32 : UInt8) ∉ bs (kindWord k) ∧ (10 : UInt8) ∉ bs (kindWord k) := by
  rcases h with rfl | rfl | rfl | rfl <;> decide
theorem word_inj {k j : Int} (h : k = 1 ∨ k = 2 ∨ k = 3 ∨ k = 4) (g : j = 1 ∨ j = 2 ∨ j = 3 ∨ j = 4) (e : bs (kindWord k) = bs (kindWord j)) : k = j := by
  rcases h with rfl | rfl | rfl | rfl <;> rcases g with rfl | rfl | rfl | rfl <;> first | rfl | (exact absurd e (by decide))
theorem bs_text (key kind a b c d e : Int) : bs (sealText key kind a b c d e) = bs (kindWord kind) ++ 32 :: (bs (decOf key) ++ 32 :: (bs (decOf a) ++ 32 :: (bs (decOf b) ++ 32 :: (bs (decOf c) ++ 32 :: (bs (decOf d) ++ 32 :: bs (decOf e)))))) := by
  unfold sealText
  simp only [bs_append, bs_nums, bs_sp, List.map_cons, List.map_nil, Lib.join_cons, Lib.joinTail, List.flatten_cons, List.flatten_nil, List.append_assoc, List.append_nil, List.cons_append, List.nil_append]
theorem text_inj {key kind a b c d e key' kind' a' b' c' d' e' : Int} (h : Sl.ok key kind a b c d e = true) (g : Sl.ok key' kind' a' b' c' d' e' = true) (q : sealText key kind a b c d e = sealText key' kind' a' b' c' d' e') :
    key = key' ∧ kind = kind' ∧ a = a' ∧ b = b' ∧ c = c' ∧ d = d' ∧ e = e' := by
  obtain ⟨hk, hn⟩ := nums h
  obtain ⟨gk, gn⟩ := nums g
  have q0 := congrArg bs q
  rw [bs_text, bs_text] at q0
  obtain ⟨w, q0⟩ := split_at (word_no hk).1 (word_no gk).1 q0
  obtain ⟨e0, q0⟩ := split_at (no_dec (hn key (by simp))).1 (no_dec (gn key' (by simp))).1 q0
  obtain ⟨e1, q0⟩ := split_at (no_dec (hn a (by simp))).1 (no_dec (gn a' (by simp))).1 q0
  obtain ⟨e2, q0⟩ := split_at (no_dec (hn b (by simp))).1 (no_dec (gn b' (by simp))).1 q0
  obtain ⟨e3, q0⟩ := split_at (no_dec (hn c (by simp))).1 (no_dec (gn c' (by simp))).1 q0
  obtain ⟨e4, e5⟩ := split_at (no_dec (hn d (by simp))).1 (no_dec (gn d' (by simp))).1 q0
  exact ⟨dec_inj (hn key (by simp)) (gn key' (by simp)) e0, word_inj hk gk w, dec_inj (hn a (by simp)) (gn a' (by simp)) e1, dec_inj (hn b (by simp)) (gn b' (by simp)) e2, dec_inj (hn c (by simp)) (gn c' (by simp)) e3, dec_inj (hn d (by simp)) (gn d' (by simp)) e4, dec_inj (hn e (by simp)) (gn e' (by simp)) e5⟩
theorem text_ne {key kind a b c d e : Int} (h : Sl.ok key kind a b c d e = true) : bs (sealText key kind a b c d e) ≠ [] := by
  rw [bs_text]
  intro q
  have := congrArg List.length q
  simp at this
end Go.Proofs.YtbipicjijbnbbaaDoor.Si
