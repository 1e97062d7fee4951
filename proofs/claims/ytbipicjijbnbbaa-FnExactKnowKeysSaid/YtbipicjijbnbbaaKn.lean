/- Which keys one can come to: what the program's ring and the reference's table hold is one and the same: the keys that one had, and what is in seals that one can read. Plain lists. -/
import Derived.Test.YtbipicjijbnbbaaHx33
import Derived.Test.YtbipicjijbnbbaaHx34
import Derived.Test.YtbipicjijbnbbaaHx28
import Derived.Test.YtbipicjijbnbbaaDr
import Derived.Test.YtbipicjijbnbbaaSl
import Derived.Test.YtbipicjijbnbbaaSp
set_option linter.unusedVariables false
set_option linter.unusedSimpArgs false
namespace Go.Proofs.Ytbipicjijbnbbaa.Kn
open Go.RowKit Go.Proofs.Ytbipicjijbnbbaa.Hp Go.Proofs.YtbipicjijbnbbaaW.PrintWords Go.Proofs.Ytbipicjijbnbbaa.Dr

abbrev S := S41
abbrev z : S := z41
/-- A key that one can come to. -/
inductive Can (keys : List Int) (ss : List S) : Int → Prop where
  | had {k : Int} (h : k ∈ keys) (h1 : 1 ≤ k) (h2 : k ≤ 60) : Can keys ss k
  | got {s : S} (h : s ∈ ss) (h0 : 0 < hold s) (hk : Can keys ss s.f0) : Can keys ss (hold s)
theorem Can.range {keys : List Int} {ss : List S} {k : Int} (h : Can keys ss k) : 1 ≤ k ∧ k ≤ 60 := by
  cases h with
  | had _ h1 h2 => exact ⟨h1, h2⟩
  | @got s _ h0 _ => rcases hold_range s with h | h <;> omega
theorem Can.mono {keys keys' : List Int} {ss ss' : List S} (hk : ∀ k ∈ keys, 1 ≤ k → k ≤ 60 → Can keys' ss' k) (hs : ∀ s ∈ ss, 0 < hold s → Can keys' ss' s.f0 → Can keys' ss' (hold s)) {k : Int} (h : Can keys ss k) : Can keys' ss' k := by
  induction h with
  | had h h1 h2 => exact hk _ h h1 h2
  | got h h0 _ ih => exact hs _ h h0 ih
theorem hold_key {s : S} (h : 0 < hold s) : 1 ≤ s.f0 ∧ s.f0 ≤ 60 := by
  unfold hold Sl.holds at h
  split at h
  · rename_i ho
    rcases Sl.ok_kind ho with h1 | h1 | h1 | h1
    · rw [h1, Sl.ok1] at ho
      simp only [decide_eq_true_eq] at ho
      omega
    · rw [h1, Sl.ok2] at ho
      simp only [decide_eq_true_eq] at ho
      omega
    · rw [if_neg (by omega), if_neg (by omega)] at h; omega
    · rw [if_neg (by omega), if_neg (by omega)] at h; omega
  · omega
/-- A ring, or a table, tells just the keys that one can come to. -/
def Says (keys : List Int) (ss : List S) (bs : List Bool) : Prop := bs.length = 61 ∧ ∀ i : Nat, i < 61 → (bs.getD i false = true ↔ Can keys ss (i : Int))
def Sound (keys : List Int) (ss : List S) (bs : List Bool) : Prop := ∀ i : Nat, i < 61 → bs.getD i false = true → Can keys ss (i : Int)
def Incl (keys : List Int) (bs : List Bool) : Prop := ∀ k ∈ keys, 1 ≤ k → k ≤ 60 → bs.getD k.toNat false = true
def Fine (bs : List Bool) (s : S) : Prop := 0 < hold s → bs.getD s.f0.toNat false = true → bs.getD (hold s).toNat false = true
theorem Says.unique {keys : List Int} {ss : List S} {b c : List Bool} (hb : Says keys ss b) (hc : Says keys ss c) : b = c := by
  refine List.ext_getElem (by rw [hb.1, hc.1]) fun i h1 h2 => ?_
  have e1 := hb.2 i (by have := hb.1; omega)
  have e2 := hc.2 i (by have := hb.1; omega)
  rw [List.getD_eq_getElem?_getD, List.getElem?_eq_getElem h1, Option.getD_some] at e1
  rw [List.getD_eq_getElem?_getD, List.getElem?_eq_getElem h2, Option.getD_some] at e2
  rw [Bool.eq_iff_iff, e1, e2]
theorem says_of {keys : List Int} {ss : List S} {bs : List Bool} (hl : bs.length = 61) (hs : Sound keys ss bs) (hi : Incl keys bs) (hc : ∀ s ∈ ss, Fine bs s) : Says keys ss bs := by
  have key : ∀ k, Can keys ss k → bs.getD k.toNat false = true := by
    intro k h
    induction h with
    | had h h1 h2 => exact hi _ h h1 h2
    | got h h0 _ ih => exact hc _ h h0 ih
  exact ⟨hl, fun i h => ⟨hs i h, fun hcan => by simpa using key _ hcan⟩⟩
theorem getD_set (bs : List Bool) (i j : Nat) (h : i < bs.length) : (bs.set i true).getD j false = true ↔ j = i ∨ bs.getD j false = true := by
  rw [List.getD_eq_getElem?_getD, List.getD_eq_getElem?_getD, List.getElem?_set]
  by_cases hj : i = j
  · subst hj; simp [h]
  · simp [hj, Ne.symm hj]

/-! ### the program's ring -/
theorem keys_bits (ks : List Int) : ∀ (bs : List Bool), bs.length = 61 → ∀ j : Nat, (ringKeys bs ks).getD j false = true ↔ (bs.getD j false = true ∨ ∃ k ∈ ks, 1 ≤ k ∧ k ≤ 60 ∧ k.toNat = j) := by
  induction ks with
  | nil => intro bs _ j; simp [ringKeys]
  | cons a t ih =>
    intro bs hl j
    simp only [ringKeys]
    by_cases ha : 1 ≤ a ∧ a ≤ 60
    · rw [if_pos ha, ih _ (by rw [List.length_set]; exact hl), getD_set _ _ _ (by omega)]
      simp only [List.mem_cons, exists_eq_or_imp]
      constructor
      · rintro ((rfl | h) | h)
        · exact .inr (.inl ⟨ha.1, ha.2, rfl⟩)
        · exact .inl h
        · exact .inr (.inr h)
      · rintro (h | ⟨_, _, rfl⟩ | h)
        · exact .inl (.inr h)
        · exact .inl (.inl rfl)
        · exact .inr h
    · rw [if_neg ha, ih _ hl]
      simp only [List.mem_cons, exists_eq_or_imp]
      constructor
      · rintro (h | h)
        · exact .inl h
        · exact .inr (.inr h)
      · rintro (h | ⟨h1, h2, _⟩ | h)
        · exact .inl h
        · exact absurd ⟨h1, h2⟩ ha
        · exact .inr h
theorem step_bits {p : List Bool × Bool} {s : S} (hl : p.1.length = 61) (j : Nat) : (ringStep p s).1.getD j false = true ↔ (p.1.getD j false = true ∨ (ringHit p.1 s = true ∧ j = (hold s).toNat)) := by
  unfold ringStep
  by_cases h : ringHit p.1 s = true
  · rw [if_pos h]
    have h' := h
    simp only [ringHit, Bool.and_eq_true, decide_eq_true_eq] at h'
    have := hold_range s
    dsimp only
    rw [getD_set _ _ _ (by omega)]
    constructor
    · rintro (h1 | h1)
      · exact .inr ⟨h, h1⟩
      · exact .inl h1
    · rintro (h1 | ⟨_, h1⟩)
      · exact .inr h1
      · exact .inl h1
  · rw [if_neg h]
    simp [h]
theorem hit_sound {keys : List Int} {ss : List S} {bs : List Bool} {s : S} (hl : bs.length = 61) (hs : Sound keys ss bs) (hm : s ∈ ss) (h : ringHit bs s = true) : Can keys ss (hold s) := by
  simp only [ringHit, ringHas, Bool.and_eq_true, decide_eq_true_eq] at h
  obtain ⟨h0, ⟨h1, h2⟩, _⟩ := h
  have h3 := hs s.f0.toNat (by omega) h2
  rw [Int.toNat_of_nonneg (by omega)] at h3
  exact .got hm h0 h3
theorem fold_keeps {keys : List Int} {ss : List S} (ts : List S) : ∀ p : List Bool × Bool, (∀ s ∈ ts, s ∈ ss) → p.1.length = 61 → Sound keys ss p.1 → Sound keys ss (ts.foldl ringStep p).1 ∧ ∀ j, p.1.getD j false = true → (ts.foldl ringStep p).1.getD j false = true := by
  induction ts with
  | nil => intro p _ _ hs; exact ⟨hs, fun _ h => h⟩
  | cons t ts ih =>
    intro p hm hl hs
    have hl' : (ringStep p t).1.length = 61 := by rw [ringStep_len]; exact hl
    have hs' : Sound keys ss (ringStep p t).1 := by
      intro i hi hb
      rcases (step_bits hl i).1 hb with h | ⟨h, rfl⟩
      · exact hs i hi h
      · have := hit_sound hl hs (hm t List.mem_cons_self) h
        have h0 := this.range
        rw [Int.toNat_of_nonneg (by omega)]
        exact this
    obtain ⟨h1, h2⟩ := ih (ringStep p t) (fun s hsm => hm s (List.mem_cons_of_mem _ hsm)) hl' hs'
    exact ⟨h1, fun j hj => h2 j ((step_bits hl j).2 (.inl hj))⟩
theorem fold_none (ts : List S) : ∀ p : List Bool × Bool, p.1.length = 61 → (ts.foldl ringStep p).2 = false → ∀ s ∈ ts, ringHit p.1 s = false := by
  induction ts with
  | nil => intro p _ _ s hs; cases hs
  | cons t ts ih =>
    intro p hl hf s hs
    rw [List.foldl_cons] at hf
    by_cases hh : ringHit p.1 t = true
    · have hs2 : (ringStep p t).2 = true := by unfold ringStep; rw [if_pos hh]
      rw [(ringFold_lacks ts (ringStep p t) (by rw [ringStep_len]; exact hl)).2.2.2.1 hs2] at hf
      cases hf
    · have hst : ringStep p t = p := by unfold ringStep; rw [if_neg hh]
      rw [hst] at hf
      rcases List.mem_cons.1 hs with rfl | hs
      · simpa using hh
      · exact ih p hl hf s hs
theorem fine_of_none {bs : List Bool} {s : S} (h : ringHit bs s = false) : Fine bs s := by
  intro h0 h1
  have hk := hold_key h0
  by_cases hb : bs.getD (hold s).toNat false = true
  · exact hb
  · have : ringHit bs s = true := by
      simp only [ringHit, ringHas, Bool.and_eq_true, decide_eq_true_eq]
      exact ⟨h0, ⟨hk, h1⟩, by simpa using hb⟩
    rw [this] at h; cases h
theorem fix_says {keys : List Int} {ss : List S} : ∀ (n : Nat) (bs : List Bool), bs.length = 61 → lacks bs < n → Sound keys ss bs → Incl keys bs → Says keys ss (ringFix n bs ss) := by
  intro n
  induction n with
  | zero => intro bs _ h; omega
  | succ n ih =>
    intro bs hl hn hs hi
    have hk := fold_keeps ss (bs, false) (fun s h => h) hl hs
    rw [ringFix]
    by_cases hc : (ringPass bs ss).2 = true
    · rw [if_pos hc]
      exact ih _ (ringPass_len hl) (by have := ringPass_less hl hc; omega) hk.1 (fun k hkm h1 h2 => hk.2 _ (hi k hkm h1 h2))
    · rw [if_neg hc]
      have hc' : (ringPass bs ss).2 = false := by simpa using hc
      have he : (ringPass bs ss).1 = bs := (ringFold_lacks ss (bs, false) hl).2.2.2.2 hc'
      rw [he]
      exact says_of hl hs hi fun s hsm => fine_of_none (fold_none ss (bs, false) hl hc' s hsm)
theorem ring_says (keys : List Int) (ss : List S) : Says keys ss (ringF keys ss) := by
  have hl0 : ringNew.length = 61 := by simp [ringNew]
  have hn : ∀ j : Nat, ringNew.getD j false = false := by
    intro j
    rw [ringNew, List.getD_eq_getElem?_getD, List.getElem?_replicate]
    split <;> rfl
  have hl : (ringKeys ringNew keys).length = 61 := by rw [ringKeys_len, hl0]
  refine fix_says 62 _ hl (by have := lacks_le (ringKeys ringNew keys); omega) ?_ ?_
  · intro i hi hb
    rcases (keys_bits keys ringNew hl0 i).1 hb with h | ⟨k, hk, h1, h2, rfl⟩
    · rw [hn] at h; cases h
    · rw [Int.toNat_of_nonneg (by omega)]
      exact .had hk h1 h2
  · intro k hk h1 h2
    exact (keys_bits keys ringNew hl0 _).2 (.inr ⟨k, hk, h1, h2, rfl⟩)

/-! ### the reference's table -/
theorem rd_is (ss : List S) (i : Nat) (h : i < ss.length) : rd_T41 ss (i : Int) = ss[i] := by
  simp [rd_T41, List.getD_eq_getElem?_getD, List.getElem?_eq_getElem h]
theorem next_is {n i : Nat} (h : i < n) (hn : n ≤ 9223372036854775807) : wrap64 ((i : Int) + 1) = ((i + 1 : Nat) : Int) := by rw [w64 (by omega) (by omega)]; rfl
theorem table_ev (keys : List Int) (ss : List S) (hn : ss.length ≤ 9223372036854775807) : ∀ (M : Nat) (bs : List Bool) (i : Nat), bs.length = 61 → i ≤ ss.length → lacks bs * (ss.length + 1) + (ss.length - i) < M → Sound keys ss bs → Incl keys bs → (∀ j (h : j < ss.length), j < i → Fine bs ss[j]) →
    Evs (fun k => spec_l3All.l1 k ss bs (i : Int)) (Says keys ss) := by
  intro M
  induction M with
  | zero => intro bs i _ _ h; omega
  | succ M ih =>
    intro bs i hl hi hM hs hin hf
    refine Evs.step (fun k => by simp only [spec_l3All.l1]; rfl) ?_
    by_cases hlt : i < ss.length
    · refine Evs.then_ (by omega) (Evs.then_ (by omega) ?_)
      rw [next_is hlt hn, rd_is ss i hlt, Sl.spec_holds]
      have hmem : ss[i] ∈ ss := List.getElem_mem hlt
      have hnext : Fine bs ss[i] → Evs (fun k => spec_l3All.l1 k ss bs ((i + 1 : Nat) : Int)) (Says keys ss) := fun hfi =>
        ih bs (i + 1) hl (by omega) (by omega) hs hin fun j hj hji => by
          by_cases h : j < i
          · exact hf j hj h
          · obtain rfl : j = i := by omega
            exact hfi
      generalize ss[i] = s at hmem hnext ⊢
      simp only [Option.bind_some]
      change Evs (fun n => if hold s > 0 then _ else _) _
      refine Evs.ite (fun h0 => ?_) (fun h0 => hnext fun h => absurd h h0)
      obtain ⟨k1, k2⟩ := hold_key h0
      have hr := hold_range s
      refine Evs.then_ (by omega) (Evs.then_ (by omega) (Evs.ite (fun hb => ?_) (fun hb => hnext fun _ h => absurd h hb)))
      refine Evs.then_ (by show 0 ≤ hold s; omega) (Evs.then_ (by show hold s < _; omega) (Evs.ite (fun hh => hnext fun _ _ => hh) (fun hh => ?_)))
      have hh' : bs.getD (hold s).toNat false = false := (Bool.not_eq_true _).mp hh
      have hlk := lacks_set bs (hold s).toNat (by omega) hh'
      have hmul : lacks bs * (ss.length + 1) = lacks (bs.set (hold s).toNat true) * (ss.length + 1) + (ss.length + 1) := by rw [← hlk, Nat.add_mul, Nat.one_mul]
      refine ih (bs.set (hold s).toNat true) 0 (by rw [List.length_set]; exact hl) (by omega) (by omega) ?_ ?_ (fun j _ h => by omega)
      · intro j hj hbj
        rcases (getD_set _ _ _ (by omega)).1 hbj with rfl | h
        · rw [Int.toNat_of_nonneg (by omega)]
          have := hs s.f0.toNat (by omega) hb
          rw [Int.toNat_of_nonneg (by omega)] at this
          exact .got hmem h0 this
        · exact hs j hj h
      · intro k hk h1 h2
        exact (getD_set _ _ _ (by omega)).2 (.inr (hin k hk h1 h2))
    · refine Evs.else_ (by omega) (Evs.now ?_)
      refine says_of hl hs hin fun s hsm => ?_
      obtain ⟨j, hj, rfl⟩ := List.getElem_of_mem hsm
      exact hf j hj (by omega)
theorem had_ev (keys : List Int) (ss : List S) (hk : keys.length ≤ 9223372036854775807) (hn : ss.length ≤ 9223372036854775807) : ∀ (d i : Nat) (bs : List Bool), i + d = keys.length → bs.length = 61 → Sound keys ss bs → (∀ j (h : j < keys.length), j < i → 1 ≤ keys[j] → keys[j] ≤ 60 → bs.getD keys[j].toNat false = true) →
    Evs (fun k => spec_l3All.l0 k keys ss bs (i : Int)) (Says keys ss) := by
  intro d
  induction d with
  | zero =>
    intro i bs hi hl hs hf
    refine Evs.step (fun k => by simp only [spec_l3All.l0]; rfl) (Evs.else_ (by omega) ?_)
    refine table_ev keys ss hn _ bs 0 hl (by omega) (Nat.lt_succ_self _) hs ?_ (fun j _ h => by omega)
    intro k hkm h1 h2
    obtain ⟨j, hj, rfl⟩ := List.getElem_of_mem hkm
    exact hf j hj (by omega) h1 h2
  | succ d ih =>
    intro i bs hi hl hs hf
    have hlt : i < keys.length := by omega
    have hrd : rd keys (i : Int) = keys[i] := by simp [rd, List.getD_eq_getElem?_getD, List.getElem?_eq_getElem hlt]
    refine Evs.step (fun k => by simp only [spec_l3All.l0]; rfl) (Evs.then_ (by omega) (Evs.then_ (by omega) ?_))
    rw [next_is hlt hk, hrd, Sl.l6In]
    simp only [Option.bind_some, decide_eq_true_eq]
    refine Evs.ite (fun h => ?_) (fun h => ?_)
    · refine Evs.then_ (by omega) (Evs.then_ (by omega) (ih (i + 1) _ (by omega) (by rw [List.length_set]; exact hl) ?_ ?_))
      · intro j hj hbj
        rcases (getD_set _ _ _ (by omega)).1 hbj with rfl | h'
        · rw [Int.toNat_of_nonneg (by omega)]
          exact .had (List.getElem_mem hlt) h.1 h.2
        · exact hs j hj h'
      · intro j hj hji h1 h2
        refine (getD_set _ _ _ (by omega)).2 ?_
        by_cases hji' : j < i
        · exact .inr (hf j hj hji' h1 h2)
        · obtain rfl : j = i := by omega
          exact .inl rfl
    · refine ih (i + 1) bs (by omega) hl hs fun j hj hji h1 h2 => ?_
      by_cases hji' : j < i
      · exact hf j hj hji' h1 h2
      · obtain rfl : j = i := by omega
        exact absurd ⟨h1, h2⟩ h
theorem all_ev (keys : List Int) (ss : List S) (hk : keys.length ≤ 9223372036854775807) (hn : ss.length ≤ 9223372036854775807) : Evs (fun k => spec_l3All.f k keys ss) (· = ringF keys ss) := by
  unfold spec_l3All.f
  refine Evs.then_ (by omega) ?_
  refine (had_ev keys ss hk hn keys.length 0 (List.replicate 61 false) (by omega) (by simp) ?_ (fun j _ h => by omega)).imp fun r h => h.unique (ring_says keys ss)
  intro i hi hb
  rw [List.getD_eq_getElem?_getD, List.getElem?_replicate, if_pos hi] at hb
  cases hb

/-! ### the lists that are handed back -/
theorem keysLoop_ev (bs : List Bool) (hb : bs.length = 61) : ∀ (d i : Nat) (acc : List Int), i + d = bs.length → acc.length ≤ i → Evs (fun k => spec_KnowKeys.l0 k bs acc (i : Int)) (· = acc ++ keysFrom bs i d) := by
  intro d
  induction d with
  | zero =>
    intro i acc hi ha
    exact Evs.step (fun k => by simp only [spec_KnowKeys.l0]; rfl) (Evs.else_ (by omega) (Evs.now (by simp [keysFrom])))
  | succ d ih =>
    intro i acc hi ha
    refine Evs.step (fun k => by simp only [spec_KnowKeys.l0]; rfl) (Evs.then_ (by omega) (Evs.then_ (by omega) ?_))
    rw [next_is (n := bs.length) (by omega) (by omega)]
    refine Evs.ite (fun h => ?_) (fun h => ?_)
    · have h' : bs.getD i false = true := by simpa [rdOf] using h
      have h'' : bs[i]?.getD false = true := by simpa [List.getD_eq_getElem?_getD] using h'
      refine Evs.then_ (by omega) ((ih (i + 1) _ (by omega) (by simp; omega)).imp fun r hr => ?_)
      rw [hr]
      simp [keysFrom, List.range'_succ, List.filter_cons, h'']
    · have h' : bs.getD i false = false := by simpa [rdOf] using h
      have h'' : bs[i]?.getD false = false := by simpa [List.getD_eq_getElem?_getD] using h'
      refine (ih (i + 1) _ (by omega) (by omega)).imp fun r hr => ?_
      rw [hr]
      simp [keysFrom, List.range'_succ, List.filter_cons, h'']
theorem knowKeys_ev (keys : List Int) (ss : List S) (hk : keys.length ≤ 9223372036854775807) (hn : ss.length ≤ 9223372036854775807) : Evs (fun k => spec_KnowKeys.f k keys ss) (· = keysOf (ringF keys ss)) := by
  unfold spec_KnowKeys.f
  refine (all_ev keys ss hk hn).bind ?_
  rintro _ rfl
  have hl := (ring_says keys ss).1
  exact (keysLoop_ev _ hl 61 0 [] (by omega) (by simp)).imp fun r hr => by rw [hr, List.nil_append]; unfold keysOf; rw [hl]
theorem mem_keysOf {keys : List Int} {ss : List S} {k : Int} : k ∈ keysOf (ringF keys ss) ↔ Can keys ss k := by
  have hs := ring_says keys ss
  simp only [keysOf, keysFrom, List.mem_map, List.mem_filter, List.mem_range'_1]
  constructor
  · rintro ⟨j, ⟨⟨_, hj⟩, hb⟩, rfl⟩
    exact (hs.2 j (by have := hs.1; omega)).1 hb
  · intro h
    have hr := h.range
    refine ⟨k.toNat, ⟨⟨by omega, by have := hs.1; omega⟩, ?_⟩, Int.toNat_of_nonneg (by omega)⟩
    exact (hs.2 _ (by omega)).2 (by rw [Int.toNat_of_nonneg (by omega)]; exact h)
/-- What one comes to hangs on nothing but what one can come to. -/
theorem ring_same {keys keys' : List Int} {ss ss' : List S} (h : ∀ k, Can keys ss k ↔ Can keys' ss' k) : ringF keys ss = ringF keys' ss' := by
  have h1 := ring_says keys ss
  have h2 := ring_says keys' ss'
  exact h1.unique ⟨h2.1, fun i hi => (h2.2 i hi).trans (h _).symm⟩
theorem has_can {keys : List Int} {ss : List S} (k : Int) : ringHas (ringF keys ss) k = true ↔ Can keys ss k := by
  have hs := ring_says keys ss
  simp only [ringHas, Bool.and_eq_true, decide_eq_true_eq]
  constructor
  · rintro ⟨h1, h2⟩
    have := (hs.2 k.toNat (by omega)).1 h2
    rwa [Int.toNat_of_nonneg (by omega)] at this
  · intro h
    have hr := h.range
    exact ⟨hr, (hs.2 _ (by omega)).2 (by rw [Int.toNat_of_nonneg (by omega)]; exact h)⟩
end Go.Proofs.Ytbipicjijbnbbaa.Kn
