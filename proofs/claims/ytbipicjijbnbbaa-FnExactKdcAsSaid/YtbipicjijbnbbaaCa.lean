/- When a cache is ok: the program's test and the reference's tell the same. Plain lists. -/
import Derived.Test.YtbipicjijbnbbaaHx23
import Derived.Test.YtbipicjijbnbbaaHx8
import Derived.Test.YtbipicjijbnbbaaDr0
import Derived.Test.YtbipicjijbnbbaaSl
set_option linter.unusedVariables false
set_option linter.unusedSimpArgs false
namespace Go.Proofs.Ytbipicjijbnbbaa.Ca
open Go.RowKit Go.Proofs.Ytbipicjijbnbbaa.Hp Go.Proofs.YtbipicjijbnbbaaW.PrintWords Go.Proofs.Ytbipicjijbnbbaa.Dr

abbrev S := S41
abbrev z : S := z41
def same (x y : S) : Bool := x.f0 == y.f0 && (x.f1 == y.f1 && (x.f2 == y.f2 && (x.f3 == y.f3 && (x.f4 == y.f4 && (x.f5 == y.f5 && (x.f6 == y.f6))))))
theorem same_iff {x y : S} : same x y = true ↔ x = y := by
  constructor
  · intro h
    obtain ⟨a0, a1, a2, a3, a4, a5, a6⟩ := x
    obtain ⟨b0, b1, b2, b3, b4, b5, b6⟩ := y
    simp only [same, Bool.and_eq_true, beq_iff_eq] at h
    obtain ⟨rfl, rfl, rfl, rfl, rfl, rfl, rfl⟩ := h
    rfl
  · rintro rfl
    simp [same]
theorem next_is {n i : Nat} (h : i < n) (hn : n ≤ 9223372036854775807) : wrap64 ((i : Int) + 1) = ((i + 1 : Nat) : Int) := by rw [w64 (by omega) (by omega)]; rfl
theorem rd_is (l : List S) (i : Nat) (h : i < l.length) : rd_T41 l (i : Int) = l[i] := by simp [rd_T41, List.getD_eq_getElem?_getD, List.getElem?_eq_getElem h]
theorem index_loop (l : List S) (s : S) (hl : l.length ≤ 9223372036854775807) : ∀ d i : Nat, i + d = l.length →
    Evs (fun k => impl_Seal_165.l0 k l (l.length : Int) (i : Int) s.f0 s.f1 s.f2 s.f3 s.f4 s.f5 s.f6) (fun r => 0 ≤ r ↔ s ∈ l.drop i) := by
  intro d
  induction d with
  | zero =>
    intro i hi
    refine Evs.step (fun k => by simp only [impl_Seal_165.l0]; rfl) (Evs.else_ (by omega) (Evs.now ?_))
    rw [List.drop_of_length_le (by omega)]; simp
  | succ d ih =>
    intro i hi
    have hlt : i < l.length := by omega
    refine Evs.step (fun k => by simp only [impl_Seal_165.l0]; rfl) (Evs.then_ (by omega) (Evs.then_ (by omega) (Evs.then_ (by omega) ?_)))
    rw [next_is hlt hl, rd_is l i hlt, List.drop_eq_getElem_cons hlt]
    refine Evs.ite (fun h => Evs.now ?_) (fun h => (ih (i + 1) (by omega)).imp fun r hr => ?_)
    · have e : s = l[i] := same_iff.1 h
      rw [← e]; simp
    · have e : ¬ s = l[i] := fun e => h (same_iff.2 e)
      rw [hr, List.mem_cons]
      exact ⟨.inr, fun h' => h'.resolve_left e⟩
theorem contains_ev (l : List S) (s : S) (hl : l.length ≤ 9223372036854775807) : Evs (fun k => impl_Seal_146.f k l s.f0 s.f1 s.f2 s.f3 s.f4 s.f5 s.f6) (fun r => r = true ↔ s ∈ l) := by
  unfold impl_Seal_146.f impl_Seal_165.f
  refine (index_loop l s hl l.length 0 (by omega)).bind fun r hr => Evs.now ?_
  rw [decide_eq_true_eq]
  exact hr
theorem among_loop (l : List S) (s : S) (hl : l.length ≤ 9223372036854775807) : ∀ d i : Nat, i + d = l.length → Evs (fun k => spec_l3Among.l0 k l (i : Int) s.f0 s.f1 s.f2 s.f3 s.f4 s.f5 s.f6) (fun r => r = true ↔ s ∈ l.drop i) := by
  intro d
  induction d with
  | zero =>
    intro i hi
    refine Evs.step (fun k => by simp only [spec_l3Among.l0]; rfl) (Evs.else_ (by omega) (Evs.now ?_))
    rw [List.drop_of_length_le (by omega)]; simp
  | succ d ih =>
    intro i hi
    have hlt : i < l.length := by omega
    refine Evs.step (fun k => by simp only [spec_l3Among.l0]; rfl) (Evs.then_ (by omega) (Evs.then_ (by omega) ?_))
    rw [next_is hlt hl, rd_is l i hlt, List.drop_eq_getElem_cons hlt]
    refine Evs.ite (fun h => Evs.now ?_) (fun h => (ih (i + 1) (by omega)).imp fun r hr => ?_)
    · have e : l[i] = s := same_iff.1 h
      rw [e]; simp
    · have e : ¬ s = l[i] := fun e => h (same_iff.2 e.symm)
      rw [hr, List.mem_cons]
      exact ⟨.inr, fun h' => h'.resolve_left e⟩
theorem among_ev (l : List S) (s : S) (hl : l.length ≤ 9223372036854775807) : Evs (fun k => spec_l3Among.f k l s.f0 s.f1 s.f2 s.f3 s.f4 s.f5 s.f6) (fun r => r = true ↔ s ∈ l) := by
  unfold spec_l3Among.f
  exact among_loop l s hl l.length 0 (by omega)
/-- A seal by which somebody tells of himself. -/
def AuthOk (s : S) : Prop := s.f1 = 3 ∧ Sl.ok s.f0 s.f1 s.f2 s.f3 s.f4 s.f5 s.f6 = true
theorem auth_is (s : S) : ∃ b, impl_authOk.f s.f0 s.f1 s.f2 s.f3 s.f4 s.f5 s.f6 = some b ∧ (b = true ↔ AuthOk s) := by
  unfold impl_authOk.f AuthOk
  rw [Sl.impl_ok]
  by_cases h : s.f1 = 3
  · rw [if_pos h]; exact ⟨_, rfl, by simp [h]⟩
  · rw [if_neg h]; exact ⟨_, rfl, by simp [h]⟩
def At (l : List S) (j : Nat) (h : j < l.length) : Prop := AuthOk l[j] ∧ l[j] ∉ l.take j
def CacheOk (l : List S) : Prop := (∀ j (h : j < l.length), At l j h) ∧ l.length ≤ 20
theorem cache_loop (l : List S) (hl : l.length ≤ 9223372036854775807) : ∀ d i : Nat, i + d = l.length → Evs (fun k => impl_cacheOk.l0 k l l (l.length : Int) (i : Int)) (fun r => r = true ↔ ((∀ j (h : j < l.length), i ≤ j → At l j h) ∧ l.length ≤ 20)) := by
  intro d
  induction d with
  | zero =>
    intro i hi
    refine Evs.step (fun k => by simp only [impl_cacheOk.l0]; rfl) (Evs.else_ (by omega) (Evs.now ?_))
    rw [decide_eq_true_eq]
    exact ⟨fun h => ⟨fun j hj hij => by omega, by omega⟩, fun h => by have := h.2; omega⟩
  | succ d ih =>
    intro i hi
    have hlt : i < l.length := by omega
    refine Evs.step (fun k => by simp only [impl_cacheOk.l0]; rfl) (Evs.then_ (by omega) (Evs.then_ (by omega) (Evs.then_ (by omega) ?_)))
    rw [next_is hlt hl, rd_is l i hlt]
    obtain ⟨b, hb, hB⟩ := auth_is l[i]
    rw [hb]
    simp only [Option.bind_some]
    refine Evs.ite (fun h => Evs.then_ (by omega) ?_) (fun h => Evs.now ?_)
    · rw [Int.toNat_natCast]
      refine (contains_ev (l.take i) l[i] (by rw [List.length_take]; omega)).bind fun c hc => ?_
      refine Evs.ite (fun h' => Evs.now ?_) (fun h' => (ih (i + 1) (by omega)).imp fun r hr => ?_)
      · exact ⟨fun e => (by cases e), fun e => absurd (hc.1 h') (e.1 i hlt (Nat.le_refl _)).2⟩
      · rw [hr]
        refine ⟨fun e => ⟨fun j hj hij => ?_, e.2⟩, fun e => ⟨fun j hj hij => e.1 j hj (by omega), e.2⟩⟩
        rcases Nat.eq_or_lt_of_le hij with rfl | h2
        · exact ⟨hB.1 h, fun hm => h' (hc.2 hm)⟩
        · exact e.1 j hj h2
    · exact ⟨fun e => (by cases e), fun e => absurd (hB.2 (e.1 i hlt (Nat.le_refl _)).1) h⟩
theorem cacheOk_ev (l : List S) (hl : l.length ≤ 9223372036854775807) : Evs (fun k => impl_cacheOk.f k l) (fun r => r = true ↔ CacheOk l) := by
  unfold impl_cacheOk.f
  refine (cache_loop l hl l.length 0 (by omega)).imp fun r hr => ?_
  rw [hr]
  exact ⟨fun e => ⟨fun j hj => e.1 j hj (Nat.zero_le _), e.2⟩, fun e => ⟨fun j hj _ => e.1 j hj, e.2⟩⟩
theorem spec_loop (l : List S) (hl : l.length ≤ 9223372036854775807) : ∀ d i : Nat, i + d = l.length → Evs (fun k => spec_l11Cache.l0 k l (i : Int)) (fun r => r = true ↔ ((∀ j (h : j < l.length), i ≤ j → At l j h) ∧ l.length ≤ 20)) := by
  intro d
  induction d with
  | zero =>
    intro i hi
    refine Evs.step (fun k => by simp only [spec_l11Cache.l0]; rfl) (Evs.else_ (by omega) (Evs.now ?_))
    rw [decide_eq_true_eq]
    exact ⟨fun h => ⟨fun j hj hij => by omega, by omega⟩, fun h => by have := h.2; omega⟩
  | succ d ih =>
    intro i hi
    have hlt : i < l.length := by omega
    refine Evs.step (fun k => by simp only [spec_l11Cache.l0]; rfl) (Evs.then_ (by omega) (Evs.then_ (by omega) ?_))
    rw [next_is hlt hl, rd_is l i hlt, Sl.spec_ok]
    simp only [Option.bind_some]
    refine Evs.ite (fun h1 => Evs.ite (fun h2 => Evs.then_ (by omega) ?_) (fun h => Evs.now ?_)) (fun h => Evs.now ?_)
    · rw [Int.toNat_natCast]
      refine (among_ev (l.take i) l[i] (by rw [List.length_take]; omega)).bind fun c hc => ?_
      refine Evs.ite (fun h' => Evs.now ?_) (fun h' => (ih (i + 1) (by omega)).imp fun r hr => ?_)
      · exact ⟨fun e => (by cases e), fun e => absurd (hc.1 h') (e.1 i hlt (Nat.le_refl _)).2⟩
      · rw [hr]
        refine ⟨fun e => ⟨fun j hj hij => ?_, e.2⟩, fun e => ⟨fun j hj hij => e.1 j hj (by omega), e.2⟩⟩
        rcases Nat.eq_or_lt_of_le hij with rfl | h3
        · exact ⟨⟨h1, h2⟩, fun hm => h' (hc.2 hm)⟩
        · exact e.1 j hj h3
    · exact ⟨fun e => (by cases e), fun e => absurd (e.1 i hlt (Nat.le_refl _)).1.2 h⟩
    · exact ⟨fun e => (by cases e), fun e => absurd (e.1 i hlt (Nat.le_refl _)).1.1 h⟩
theorem specCache_ev (l : List S) (hl : l.length ≤ 9223372036854775807) : Evs (fun k => spec_l11Cache.f k l) (fun r => r = true ↔ CacheOk l) := by
  unfold spec_l11Cache.f
  refine (spec_loop l hl l.length 0 (by omega)).imp fun r hr => ?_
  rw [hr]
  exact ⟨fun e => ⟨fun j hj => e.1 j hj (Nat.zero_le _), e.2⟩, fun e => ⟨fun j hj _ => e.1 j hj, e.2⟩⟩
end Go.Proofs.Ytbipicjijbnbbaa.Ca
