/- What one can build: the reference's answer as the program's. Plain lists. -/
import Derived.Test.YtbiknbjcidlabaaHx59
import Derived.Test.YtbiknbjcidlabaaHx60
import Derived.Test.YtbiknbjcidlabaaHx65
import Derived.Test.YtbiknbjcidlabaaKc
import Derived.Test.YtbiknbjcidlabaaMs
set_option linter.unusedVariables false
set_option linter.unusedSimpArgs false
namespace Go.Proofs.Ytbiknbjcidlabaa.Rd
open Go.RowKit Go.Proofs.Ytbiknbjcidlabaa.Hp Go.Proofs.YtbiknbjcidlabaaW.PrintWords Go.Proofs.Ytbiknbjcidlabaa.Dr Go.Proofs.Ytbiknbjcidlabaa.Kn

theorem okS_key {s : S} (h : Ms.okS s = true) : 1 ≤ s.f0 ∧ s.f0 ≤ 60 := ok_key h
theorem lawAmong_loop (l : List S) (s : S) (hl : l.length ≤ 9223372036854775807) : ∀ (d i : Nat), i + d = l.length → Evs (fun k => laws_lbAmong.l0 k l (i : Int) s.f0 s.f1 s.f2 s.f3 s.f4 s.f5 s.f6) (· = (l.drop i).any (sameS · s)) := by
  intro d
  induction d with
  | zero => intro i hi; exact Evs.step (fun k => by simp only [laws_lbAmong.l0]; rfl) (Evs.else_ (by omega) (Evs.now (by rw [List.drop_of_length_le (by omega)]; rfl)))
  | succ d ih =>
    intro i hi
    have hlt : i < l.length := by omega
    refine Evs.step (fun k => by simp only [laws_lbAmong.l0]; rfl) (Evs.then_ (by omega) (Evs.then_ (by omega) ?_))
    rw [next_is hlt hl, rd_is l i hlt, List.drop_eq_getElem_cons hlt, List.any_cons]
    refine Evs.ite (fun h => Evs.now ?_) (fun h => (ih (i + 1) (by omega)).imp fun r hr => ?_)
    · rw [show sameS l[i] s = true from h]; rfl
    · rw [hr, show sameS l[i] s = false from by simpa [sameS] using h]; rfl
theorem lawAmong_ev (l : List S) (s : S) (hl : l.length ≤ 9223372036854775807) : Evs (fun k => laws_lbAmong.f k l s.f0 s.f1 s.f2 s.f3 s.f4 s.f5 s.f6) (· = l.any (sameS · s)) := by
  unfold laws_lbAmong.f
  exact lawAmong_loop l s hl l.length 0 (by omega)
theorem among_loop (l : List S) (s : S) (hl : l.length ≤ 9223372036854775807) : ∀ (d i : Nat), i + d = l.length → Evs (fun k => spec_l3Among.l0 k l (i : Int) s.f0 s.f1 s.f2 s.f3 s.f4 s.f5 s.f6) (· = (l.drop i).any (sameS · s)) := by
  intro d
  induction d with
  | zero => intro i hi; exact Evs.step (fun k => by simp only [spec_l3Among.l0]; rfl) (Evs.else_ (by omega) (Evs.now (by rw [List.drop_of_length_le (by omega)]; rfl)))
  | succ d ih =>
    intro i hi
    have hlt : i < l.length := by omega
    refine Evs.step (fun k => by simp only [spec_l3Among.l0]; rfl) (Evs.then_ (by omega) (Evs.then_ (by omega) ?_))
    rw [next_is hlt hl, rd_is l i hlt, List.drop_eq_getElem_cons hlt, List.any_cons]
    refine Evs.ite (fun h => Evs.now ?_) (fun h => (ih (i + 1) (by omega)).imp fun r hr => ?_)
    · rw [show sameS l[i] s = true from h]; rfl
    · rw [hr, show sameS l[i] s = false from by simpa [sameS] using h]; rfl
theorem among_ev (l : List S) (s : S) (hl : l.length ≤ 9223372036854775807) : Evs (fun k => spec_l3Among.f k l s.f0 s.f1 s.f2 s.f3 s.f4 s.f5 s.f6) (· = l.any (sameS · s)) := by
  unfold spec_l3Among.f
  exact among_loop l s hl l.length 0 (by omega)
theorem l1Holds (s : S) (h : Ms.okS s = true) : spec_l1Holds.f s.f0 s.f1 s.f2 s.f3 s.f4 s.f5 s.f6 = some (hold s) := by
  unfold spec_l1Holds.f hold Sl.holds
  rw [if_pos (show Sl.ok s.f0 s.f1 s.f2 s.f3 s.f4 s.f5 s.f6 = true from h)]
  split
  · rfl
  · split <;> rfl
theorem hold_nonneg (s : S) : 0 ≤ hold s := by rcases hold_range s with h | h <;> omega
theorem buildLoop_ev (bs : List Bool) (hb : bs.length = 61) (ss l : List S) (x0 x1 x2 x3 : Int) (hn : ss.length ≤ 9223372036854775807) (hl : l.length ≤ 9223372036854775807) (hok : ∀ s ∈ l, Ms.okS s = true) : ∀ (d i : Nat), i + d = l.length → Evs (fun k => spec_KnowBuild.l0 k ss bs (i : Int) x0 x1 x2 x3 l) (· = (l.drop i).all (canSeal bs ss)) := by
  intro d
  induction d with
  | zero => intro i hi; exact Evs.step (fun k => by simp only [spec_KnowBuild.l0]; rfl) (Evs.else_ (by omega) (Evs.now (by rw [List.drop_of_length_le (by omega)]; rfl)))
  | succ d ih =>
    intro i hi
    have hlt : i < l.length := by omega
    refine Evs.step (fun k => by simp only [spec_KnowBuild.l0]; rfl) (Evs.then_ (by omega) (Evs.then_ (by omega) ?_))
    rw [next_is hlt hl, rd_is l i hlt, l1Holds _ (hok _ (List.getElem_mem hlt)), List.drop_eq_getElem_cons hlt, List.all_cons]
    have hk := okS_key (hok _ (List.getElem_mem hlt))
    have ih' := ih (i + 1) (by omega)
    generalize l[i] = s at ih' hk ⊢
    simp only [Option.bind_some]
    refine (among_ev ss s hn).bind ?_
    rintro _ rfl
    have hs := hold_range s
    have yes : canSeal bs ss s = true → Evs (fun k => spec_KnowBuild.l0 k ss bs ((i + 1 : Nat) : Int) x0 x1 x2 x3 l) (· = (canSeal bs ss s && (l.drop (i + 1)).all (canSeal bs ss))) := fun h => ih'.imp fun r hr => by rw [hr, h, Bool.true_and]
    have no : canSeal bs ss s = false → Evs (fun _ => some false) (· = (canSeal bs ss s && (l.drop (i + 1)).all (canSeal bs ss))) := fun h => Evs.now (by rw [h, Bool.false_and])
    refine Evs.ite (fun h => yes (by unfold canSeal; rw [h, Bool.true_or])) (fun h => ?_)
    have h0 : ss.any (sameS · s) = false := by simpa using h
    refine Evs.then_ (by omega) (Evs.then_ (by omega) (Evs.ite (fun h' => ?_) (fun h' => no ?_)))
    · have hh : ringHas bs s.f0 = true := by rw [has_is hk.1 hk.2, ← rdOf_is]; exact h'
      refine Evs.ite (fun hp => ?_) (fun hp => yes ?_)
      · refine Evs.then_ (by omega) (Evs.then_ (by omega) (Evs.ite (fun h2 => yes ?_) (fun h2 => no ?_)))
        · unfold canSeal
          rw [h0, hh, has_is (by omega) (by omega), ← rdOf_is, h2]
          simp
        · unfold canSeal
          rw [h0, hh, has_is (by omega) (by omega), ← rdOf_is, Bool.not_eq_true _ |>.mp h2, beq_eq_false_iff_ne.2 (by omega)]
          rfl
      · unfold canSeal
        rw [h0, hh, show hold s = 0 from by omega]
        rfl
    · unfold canSeal
      rw [h0, has_is hk.1 hk.2, ← rdOf_is, Bool.not_eq_true _ |>.mp h']
      rfl
theorem knowBuild_ev (keys : List Int) (ss : List S) (kind client serv nonce : Int) (l : List S) (hk : keys.length ≤ 9223372036854775807) (hn : ss.length ≤ 9223372036854775807) (hl : l.length ≤ 9223372036854775807) :
    Evs (fun k => spec_KnowBuild.f k keys ss kind client serv nonce l) (· = (Ms.msgOk kind client serv nonce l && l.all (canSeal (ringF keys ss) ss))) := by
  unfold spec_KnowBuild.f
  refine (Ms.spec_ev kind client serv nonce l hl).bind ?_
  rintro _ rfl
  refine Evs.ite (fun h => ?_) (fun h => Evs.now ?_)
  · refine (all_ev keys ss hk hn).bind ?_
    rintro _ rfl
    have hok : ∀ s ∈ l, Ms.okS s = true := by
      have h' := h
      unfold Ms.msgOk at h'
      rw [Bool.and_eq_true] at h'
      exact List.all_eq_true.1 h'.2
    refine (buildLoop_ev _ (ring_says keys ss).1 ss l kind client serv nonce hn hl hok l.length 0 (by omega)).imp fun r hr => ?_
    rw [hr, h]; rfl
  · rw [Bool.not_eq_true _ |>.mp h]; rfl

theorem sameS_eq {x y : S} (h : sameS x y = true) : x = y := by
  obtain ⟨a0, a1, a2, a3, a4, a5, a6⟩ := x
  obtain ⟨b0, b1, b2, b3, b4, b5, b6⟩ := y
  simp only [sameS, Bool.and_eq_true, beq_iff_eq] at h
  obtain ⟨rfl, rfl, rfl, rfl, rfl, rfl, rfl⟩ := h
  rfl
theorem sameS_self (x : S) : sameS x x = true := by simp [sameS]
theorem any_same {ss : List S} {s : S} : ss.any (sameS · s) = true ↔ s ∈ ss := by
  rw [List.any_eq_true]
  exact ⟨fun ⟨x, hx, h⟩ => sameS_eq h ▸ hx, fun h => ⟨s, h, sameS_self s⟩⟩
theorem canSeal_can {keys : List Int} {ss : List S} {s : S} (h : canSeal (ringF keys ss) ss s = true) (h0 : 0 < hold s) (hk : Kn.Can keys ss s.f0) : Kn.Can keys ss (hold s) := by
  unfold canSeal at h
  rw [Bool.or_eq_true, Bool.and_eq_true, Bool.or_eq_true, beq_iff_eq] at h
  rcases h with h | ⟨_, h | h⟩
  · exact .got (any_same.1 h) h0 hk
  · omega
  · exact (has_can _).1 h
theorem can_add {keys : List Int} {ss l : List S} (h : ∀ s ∈ l, canSeal (ringF keys ss) ss s = true) : ringF keys (ss ++ l) = ringF keys ss := by
  refine ring_same fun k => ⟨Kn.Can.mono (fun k h h1 h2 => .had h h1 h2) fun s hs h0 hk => ?_, can_sub (fun _ h => h) (fun s h => List.mem_append_left _ h)⟩
  rcases List.mem_append.1 hs with hs | hs
  · exact .got hs h0 hk
  · exact canSeal_can (h s hs) h0 hk
theorem canSeal_mono {keys keys' : List Int} {ss ss' : List S} (hk : ∀ k ∈ keys, k ∈ keys') (hs : ∀ s ∈ ss, s ∈ ss') {s : S} (h : canSeal (ringF keys ss) ss s = true) : canSeal (ringF keys' ss') ss' s = true := by
  unfold canSeal at h ⊢
  rw [Bool.or_eq_true, Bool.and_eq_true, Bool.or_eq_true, beq_iff_eq] at h ⊢
  rcases h with h | ⟨h1, h | h⟩
  · exact .inl (any_same.2 (hs s (any_same.1 h)))
  · exact .inr ⟨has_mono hk hs h1, .inl h⟩
  · exact .inr ⟨has_mono hk hs h1, .inr (has_mono hk hs h)⟩
end Go.Proofs.Ytbiknbjcidlabaa.Rd
