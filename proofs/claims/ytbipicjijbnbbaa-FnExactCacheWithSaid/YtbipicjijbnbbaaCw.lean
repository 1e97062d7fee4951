/- What a cache comes to with a seal: the program's and the reference's tell the same. Plain lists. -/
import Derived.Test.YtbipicjijbnbbaaHx24
import Derived.Test.YtbipicjijbnbbaaHx15
import Derived.Test.YtbipicjijbnbbaaCa
set_option linter.unusedVariables false
set_option linter.unusedSimpArgs false
namespace Go.Proofs.Ytbipicjijbnbbaa.Cw
open Go.RowKit Go.Proofs.Ytbipicjijbnbbaa.Hp Go.Proofs.YtbipicjijbnbbaaW.PrintWords Go.Proofs.Ytbipicjijbnbbaa.Dr Go.Proofs.Ytbipicjijbnbbaa.Ca

def remF (out : List S) (a : S) (now : Int) : List S × Bool :=
  if freshB now a = true then (if out.any (same a) = true then (out, false) else if out.length < 20 then (out ++ [a], true) else (out, false)) else (out, false)
theorem rememb_is (l : List S) (a : S) (now : Int) : rememb l a now = remF (l.filter (freshB now)) a now := rfl
open Classical in
noncomputable def CW (l : List S) (a : S) (now : Int) : List S × Bool := if CacheOk l ∧ AuthOk a ∧ 0 ≤ now ∧ now ≤ 100 then rememb l a now else ([], false)
theorem any_same (l : List S) (a : S) : l.any (same a) = true ↔ a ∈ l := by
  rw [List.any_eq_true]
  exact ⟨fun ⟨x, hx, he⟩ => by rw [same_iff.1 he]; exact hx, fun h => ⟨a, h, same_iff.2 rfl⟩⟩
theorem auth3 {s : S} (h : AuthOk s) : 0 ≤ s.f3 ∧ s.f3 ≤ 100 := by
  have := h.2
  rw [h.1, Sl.ok3, decide_eq_true_eq] at this
  exact this.2.2.1
theorem cache_mem {l : List S} (h : CacheOk l) {s : S} (hs : s ∈ l) : AuthOk s := by
  obtain ⟨j, hj, rfl⟩ := List.mem_iff_getElem.1 hs
  exact (h.1 j hj).1
theorem implWith_ev (l : List S) (a : S) (now : Int) (hl : l.length ≤ 9223372036854775807) : Evs (fun k => impl_CacheWith.f k l a.f0 a.f1 a.f2 a.f3 a.f4 a.f5 a.f6 now) (· = CW l a now) := by
  unfold impl_CacheWith.f
  refine (cacheOk_ev l hl).bind fun b hb => ?_
  obtain ⟨b2, hb2, hB2⟩ := auth_is a
  have ht : impl_timeOk.f now = some (decide (0 ≤ now ∧ now ≤ 100)) := by simp only [impl_timeOk.f, within_rng, Option.bind_some, rng]
  rw [hb2, ht]
  simp only [Option.bind_some, decide_eq_true_eq]
  refine Evs.ite (fun h1 => Evs.ite (fun h2 => Evs.ite (fun h3 => ?_) (fun h => Evs.now ?_)) (fun h => Evs.now ?_)) (fun h => Evs.now ?_)
  · have hr : impl_remember.f l a.f0 a.f1 a.f2 a.f3 a.f4 a.f5 a.f6 now = some (rememb l a now) := by
      unfold impl_remember.f
      rw [if_pos ⟨h3.1, h3.2, by have := (hb.1 h1).2; omega⟩]
    rw [hr]
    refine Evs.always (r := rememb l a now) rfl ?_
    unfold CW
    rw [if_pos ⟨hb.1 h1, hB2.1 h2, h3⟩]
  · unfold CW; rw [if_neg fun e => h e.2.2]
  · unfold CW; rw [if_neg fun e => h (hB2.2 e.2.1)]
  · unfold CW; rw [if_neg fun e => h (hb.2 e.1)]
theorem fresh_is {t now : Int} (h0 : 0 ≤ t) (h1 : t ≤ 100) (h2 : 0 ≤ now) (h3 : now ≤ 100) : spec_l11Fresh.f t now = some (rng t (now - 3) now) := by
  unfold spec_l11Fresh.f rng
  rw [w64 (by omega) (by omega)]
  split
  · congr 1; rw [decide_eq_decide]; omega
  · congr 1; symm; rw [decide_eq_false_iff_not]; omega
theorem with_loop (l : List S) (a : S) (now : Int) (hl : CacheOk l) (ha : AuthOk a) (h0 : 0 ≤ now) (h1 : now ≤ 100) : ∀ d i : Nat, ∀ acc : List S, i + d = l.length → acc.length ≤ i →
    Evs (fun k => spec_l11With.l0 k l now acc (i : Int) a.f0 a.f1 a.f2 a.f3 a.f4 a.f5 a.f6) (· = remF (acc ++ (l.drop i).filter (freshB now)) a now) := by
  have h20 := hl.2
  intro d
  induction d with
  | zero =>
    intro i acc hi hacc
    refine Evs.step (fun k => by simp only [spec_l11With.l0]; rfl) (Evs.else_ (by omega) ?_)
    have ha3 := auth3 ha
    rw [fresh_is ha3.1 ha3.2 h0 h1, List.drop_of_length_le (by omega)]
    simp only [Option.bind_some, List.filter_nil, List.append_nil]
    unfold remF freshB
    refine Evs.ite (fun h2 => ?_) (fun h => Evs.now ?_)
    · rw [if_pos h2]
      refine (among_ev acc a (by omega)).bind fun r hr => ?_
      refine Evs.ite (fun h3 => Evs.now ?_) (fun h3 => ?_)
      · rw [if_pos ((any_same acc a).2 (hr.1 h3))]
      · rw [if_neg fun e => h3 (hr.2 ((any_same acc a).1 e))]
        refine Evs.ite (fun h4 => Evs.now ?_) (fun h4 => Evs.then_ (by omega) (Evs.now ?_))
        · rw [if_neg (by omega)]
        · rw [if_pos (by omega)]
    · rw [if_neg h]
  | succ d ih =>
    intro i acc hi hacc
    have hlt : i < l.length := by omega
    refine Evs.step (fun k => by simp only [spec_l11With.l0]; rfl) (Evs.then_ (by omega) (Evs.then_ (by omega) ?_))
    have ha3 := auth3 (cache_mem hl (List.getElem_mem hlt))
    rw [next_is hlt (by omega), rd_is l i hlt, fresh_is ha3.1 ha3.2 h0 h1, List.drop_eq_getElem_cons hlt]
    simp only [Option.bind_some]
    refine Evs.ite (fun h2 => Evs.then_ (by omega) ((ih (i + 1) _ (by omega) (by rw [List.length_append, List.length_singleton]; omega)).imp fun r hr => ?_)) (fun h2 => (ih (i + 1) acc (by omega) (by omega)).imp fun r hr => ?_)
    · rw [hr, List.filter_cons_of_pos (by exact h2), List.append_assoc]; rfl
    · rw [hr, List.filter_cons_of_neg (by exact h2)]
theorem specWith_ev (l : List S) (a : S) (now : Int) (hl : l.length ≤ 9223372036854775807) : Evs (fun k => spec_CacheWith.f k l a.f0 a.f1 a.f2 a.f3 a.f4 a.f5 a.f6 now) (· = CW l a now) := by
  unfold spec_CacheWith.f
  refine (specCache_ev l hl).bind fun b hb => ?_
  have ht : spec_l1Time.f now = some (decide (0 ≤ now ∧ now ≤ 100)) := by simp only [spec_l1Time.f, Sl.l6In, Option.bind_some]
  rw [Sl.spec_ok, ht]
  simp only [Option.bind_some, decide_eq_true_eq]
  refine Evs.ite (fun h1 => Evs.ite (fun h2 => Evs.ite (fun h3 => Evs.ite (fun h4 => ?_) (fun h => Evs.now ?_)) (fun h => Evs.now ?_)) (fun h => Evs.now ?_)) (fun h => Evs.now ?_)
  · have hc := hb.1 h1
    unfold spec_l11With.f
    refine (with_loop l a now hc ⟨h2, h3⟩ h4.1 h4.2 l.length 0 [] (by omega) (by simp)).bind fun r hr => Evs.now ?_
    unfold CW
    rw [if_pos ⟨hc, ⟨h2, h3⟩, h4⟩, rememb_is, hr, List.drop_zero]
    rfl
  · unfold CW; rw [if_neg fun e => h e.2.2]
  · unfold CW; rw [if_neg fun e => h e.2.1.2]
  · unfold CW; rw [if_neg fun e => h e.2.1.1]
  · unfold CW; rw [if_neg fun e => h (hb.2 e.1)]
theorem At_filter {l : List S} {p : S → Bool} (h : ∀ j (h : j < l.length), At l j h) : ∀ j (h : j < (l.filter p).length), At (l.filter p) j h := by
  have nd : l.Nodup := by
    rw [List.nodup_iff_pairwise_ne, List.pairwise_iff_getElem]
    intro i j hi hj hij e
    refine (h j hj).2 ?_
    rw [← e]
    exact List.mem_iff_getElem.2 ⟨i, by rw [List.length_take]; omega, by rw [List.getElem_take]⟩
  have nd' : (l.filter p).Nodup := nd.filter p
  intro j hj
  have hm : (l.filter p)[j] ∈ l := (List.mem_filter.1 (List.getElem_mem hj)).1
  obtain ⟨i, hi, hie⟩ := List.mem_iff_getElem.1 hm
  refine ⟨hie ▸ (h i hi).1, fun hx => ?_⟩
  obtain ⟨q, hq, hqe⟩ := List.mem_iff_getElem.1 hx
  rw [List.length_take] at hq
  rw [List.getElem_take] at hqe
  have := (List.pairwise_iff_getElem.1 nd') q j (by omega) hj (by omega)
  exact this hqe
theorem CW_ok {l : List S} {a : S} {now : Int} (h : (CW l a now).2 = true) : CacheOk l ∧ AuthOk a ∧ (0 ≤ now ∧ now ≤ 100) ∧ freshB now a = true ∧ a ∉ l.filter (freshB now) ∧ (l.filter (freshB now)).length < 20 ∧ (CW l a now).1 = l.filter (freshB now) ++ [a] := by
  unfold CW at h ⊢
  by_cases hc : CacheOk l ∧ AuthOk a ∧ 0 ≤ now ∧ now ≤ 100
  · rw [if_pos hc] at h ⊢
    rw [rememb_is] at h ⊢
    unfold remF at h ⊢
    by_cases h1 : freshB now a = true
    · rw [if_pos h1] at h ⊢
      by_cases h2 : (l.filter (freshB now)).any (same a) = true
      · rw [if_pos h2] at h; cases h
      · rw [if_neg h2] at h ⊢
        by_cases h3 : (l.filter (freshB now)).length < 20
        · rw [if_pos h3] at h ⊢
          exact ⟨hc.1, hc.2.1, hc.2.2, h1, fun e => h2 ((any_same _ _).2 e), h3, rfl⟩
        · rw [if_neg h3] at h; cases h
    · rw [if_neg h1] at h; cases h
  · rw [if_neg hc] at h; cases h
theorem CW_cache {l : List S} {a : S} {now : Int} (h : (CW l a now).2 = true) : CacheOk (CW l a now).1 := by
  obtain ⟨hc, ha, ht, hf, hn, hlen, he⟩ := CW_ok h
  rw [he]
  have hat := At_filter (p := freshB now) hc.1
  refine ⟨fun j hj => ?_, by rw [List.length_append, List.length_singleton]; omega⟩
  rw [List.length_append, List.length_singleton] at hj
  unfold At
  by_cases hjl : j < (l.filter (freshB now)).length
  · rw [List.getElem_append_left hjl, List.take_append_of_le_length (by omega)]
    exact hat j hjl
  · obtain rfl : j = (l.filter (freshB now)).length := by omega
    rw [List.getElem_append_right (by omega)]
    simp only [Nat.sub_self, List.getElem_cons_zero]
    rw [List.take_append_of_le_length (by omega), List.take_of_length_le (by omega)]
    exact ⟨ha, hn⟩
theorem CW_len {l : List S} {a : S} {now : Int} : (CW l a now).1.length ≤ 20 := by
  unfold CW
  by_cases hc : CacheOk l ∧ AuthOk a ∧ 0 ≤ now ∧ now ≤ 100
  · rw [if_pos hc, rememb_is]
    have h20 := hc.1.2
    have hle := List.length_filter_le (freshB now) l
    unfold remF
    split
    · split
      · show (l.filter (freshB now)).length ≤ 20; omega
      · split
        · show (l.filter (freshB now) ++ [a]).length ≤ 20; rw [List.length_append, List.length_singleton]; omega
        · show (l.filter (freshB now)).length ≤ 20; omega
    · show (l.filter (freshB now)).length ≤ 20; omega
  · rw [if_neg hc]; simp
theorem fresh_iff {now : Int} {s : S} : freshB now s = true ↔ now - 3 ≤ s.f3 ∧ s.f3 ≤ now := by
  unfold freshB rng
  rw [decide_eq_true_eq]
theorem CW_later {l : List S} {a : S} {t : Int} (hl : CacheOk l) (ho : ∀ s ∈ l, s.f3 ≤ t) (ha : AuthOk a) (h3 : a.f3 = t + 3 + 1) (h0 : 0 ≤ t) (h1 : t + 3 + 1 ≤ 100) : CW l a (t + 3 + 1) = ([a], true) := by
  have he : l.filter (freshB (t + 3 + 1)) = [] := by
    rw [List.filter_eq_nil_iff]
    intro s hs hf
    have := ho s hs
    rw [fresh_iff] at hf
    omega
  unfold CW
  rw [if_pos ⟨hl, ha, by omega, h1⟩, rememb_is, he]
  unfold remF
  rw [if_pos (fresh_iff.2 (by omega)), if_neg (by simp), if_pos (by simp)]
  rfl
theorem auth_is3 {s : S} : AuthOk s ↔ s.f1 = 3 ∧ (10 ≤ s.f0 ∧ s.f0 ≤ 60) ∧ (1 ≤ s.f2 ∧ s.f2 ≤ 3) ∧ (0 ≤ s.f3 ∧ s.f3 ≤ 100) ∧ (1 ≤ s.f4 ∧ s.f4 ≤ 60) ∧ s.f5 = 0 ∧ s.f6 = 0 := by
  unfold AuthOk
  constructor
  · rintro ⟨h1, h2⟩
    rw [h1, Sl.ok3, decide_eq_true_eq] at h2
    exact ⟨h1, h2⟩
  · rintro ⟨h1, h2⟩
    refine ⟨h1, ?_⟩
    rw [h1, Sl.ok3, decide_eq_true_eq]
    exact h2
theorem CW_mem {l : List S} {a : S} {now : Int} (h : (CW l a now).2 = true) : ∀ s ∈ (CW l a now).1, s.f3 ≤ now := by
  obtain ⟨hc, ha, ht, hf, hn, hlen, he⟩ := CW_ok h
  rw [he]
  intro s hs
  rcases List.mem_append.1 hs with h | h
  · exact (fresh_iff.1 (List.mem_filter.1 h).2).2
  · rw [List.mem_singleton] at h
    rw [h]
    exact (fresh_iff.1 hf).2
theorem CW_sub {l : List S} {a : S} {now : Int} : ∀ s ∈ (CW l a now).1, freshB now s = true ∧ (s = a ∨ s ∈ l) ∧ AuthOk s ∧ 0 ≤ now ∧ now ≤ 100 := by
  unfold CW
  by_cases hc : CacheOk l ∧ AuthOk a ∧ 0 ≤ now ∧ now ≤ 100
  · have hl : ∀ s ∈ l.filter (freshB now), freshB now s = true ∧ (s = a ∨ s ∈ l) ∧ AuthOk s ∧ 0 ≤ now ∧ now ≤ 100 := fun s hs => by
      rw [List.mem_filter] at hs
      exact ⟨hs.2, .inr hs.1, cache_mem hc.1 hs.1, hc.2.2⟩
    rw [if_pos hc, rememb_is]
    unfold remF
    split
    · rename_i hf
      split
      · exact hl
      · split
        · intro s hs
          rcases List.mem_append.1 hs with h | h
          · exact hl s h
          · rw [List.mem_singleton] at h
            exact ⟨h ▸ hf, .inl h, h ▸ hc.2.1, hc.2.2⟩
        · exact hl
    · exact hl
  · rw [if_neg hc]
    intro s hs
    cases hs
theorem CW_new {l : List S} {a : S} {now : Int} (hl : CacheOk l) (ha : AuthOk a) (h0 : 0 ≤ now) (h1 : now ≤ 100) (hf : ∀ s ∈ l, freshB now s = true) (hfa : freshB now a = true) (hn : a ∉ l) (hlen : l.length < 20) : CW l a now = (l ++ [a], true) := by
  unfold CW
  rw [if_pos ⟨hl, ha, h0, h1⟩, rememb_is, List.filter_eq_self.2 hf]
  unfold remF
  rw [if_pos hfa, if_neg (fun e => hn ((any_same _ _).1 e)), if_pos hlen]
end Go.Proofs.Ytbipicjijbnbbaa.Cw
