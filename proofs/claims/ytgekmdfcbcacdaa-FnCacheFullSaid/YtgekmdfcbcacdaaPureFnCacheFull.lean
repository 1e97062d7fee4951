/- The law FnCacheFull, for every input. -/
import Derived.Test.YtgekmdfcbcacdaaHx60
import Derived.Test.YtgekmdfcbcacdaaCw
import Derived.Test.YtgekmdfcbcacdaaDw
set_option linter.unusedVariables false
set_option linter.unusedSimpArgs false
namespace Go.Proofs.Ytgekmdfcbcacdaa.Pure
open Go.RowKit Go.Proofs.Ytgekmdfcbcacdaa.Hp Go.Proofs.YtgekmdfcbcacdaaW.PrintWords Go.Proofs.Ytgekmdfcbcacdaa.Dr

/-- A cache that is full. -/
def FnCacheFull.full (t : Int) (n : Nat) : List Ca.S := (List.range n).map fun (i : Nat) => (⟨10 + (i : Int), 3, 1, t, 60, 0, 0⟩ : Ca.S)
theorem FnCacheFull.len (t : Int) (n : Nat) : (FnCacheFull.full t n).length = n := by simp [FnCacheFull.full]
theorem FnCacheFull.get (t : Int) (n i : Nat) (h : i < (FnCacheFull.full t n).length) : (FnCacheFull.full t n)[i] = ⟨10 + (i : Int), 3, 1, t, 60, 0, 0⟩ := by simp [FnCacheFull.full]
theorem FnCacheFull.mem {t : Int} {n : Nat} {s : Ca.S} (h : s ∈ FnCacheFull.full t n) : ∃ i : Nat, i < n ∧ s = ⟨10 + (i : Int), 3, 1, t, 60, 0, 0⟩ := by
  obtain ⟨i, hi, he⟩ := List.mem_map.1 h
  exact ⟨i, List.mem_range.1 hi, he.symm⟩
theorem FnCacheFull.is (t : Int) (h0 : 0 ≤ t) (h1 : t ≤ 100) : Ca.CacheOk (FnCacheFull.full t 20) := by
  refine ⟨fun j hj => ⟨?_, fun hx => ?_⟩, by rw [FnCacheFull.len]; omega⟩
  · rw [FnCacheFull.get]
    rw [FnCacheFull.len] at hj
    exact Cw.auth_is3.2 ⟨rfl, ⟨by dsimp only; omega, by dsimp only; omega⟩, ⟨by dsimp only; omega, by dsimp only; omega⟩, ⟨h0, h1⟩, ⟨by dsimp only; omega, by dsimp only; omega⟩, rfl, rfl⟩
  · obtain ⟨q, hq, he⟩ := List.mem_iff_getElem.1 hx
    rw [List.length_take] at hq
    rw [List.getElem_take, FnCacheFull.get, FnCacheFull.get] at he
    injection he with h _ _ _ _ _ _
    omega
theorem FnCacheFull.loop (t a0 a1 a2 a3 a5 a6 : Int) (h0 : 0 ≤ t) (h1 : t + 3 + 1 ≤ 100) (ha : Ca.AuthOk (⟨a0, a1, a2, a3, 1, a5, a6⟩ : Ca.S)) : ∀ d i : Nat, i + d = 20 → ∀ a4 : Int, Evs (fun k => laws_FnCacheFull.l0 k t (FnCacheFull.full t i) (i : Int) a0 a1 a2 a3 a4 a5 a6) (· = true) := by
  intro d
  induction d with
  | zero =>
    intro i hi a4
    obtain rfl : i = 20 := by omega
    refine Evs.step (fun k => by simp only [laws_FnCacheFull.l0]; rfl) (Evs.else_ (by omega) ?_)
    have hlen := FnCacheFull.len t 20
    have hfull := FnCacheFull.is t h0 (by omega)
    have e1 : wrap64 (wrap64 (t + 3) + 1) = t + 3 + 1 := by rw [w64 (x := t + 3) (by omega) (by omega), w64 (by omega) (by omega)]
    rw [e1]
    refine (Cw.implWith_ev (FnCacheFull.full t 20) (⟨a0, a1, a2, a3, 1, a5, a6⟩ : Ca.S) t (by omega)).bind ?_
    rintro _ rfl
    refine (Cw.implWith_ev (FnCacheFull.full t 20) (⟨a0, a1, a2, t + 3 + 1, 1, a5, a6⟩ : Ca.S) (t + 3 + 1) (by omega)).bind ?_
    rintro _ rfl
    have hy : Ca.AuthOk (⟨a0, a1, a2, t + 3 + 1, 1, a5, a6⟩ : Ca.S) := by
      have := Cw.auth_is3.1 ha
      exact Cw.auth_is3.2 ⟨this.1, this.2.1, this.2.2.1, ⟨by dsimp only; omega, by dsimp only; omega⟩, this.2.2.2.2⟩
    rw [Cw.CW_later hfull (fun s hs => by obtain ⟨i, _, rfl⟩ := FnCacheFull.mem hs; exact Int.le_refl _) hy rfl h0 h1]
    have hfil : (FnCacheFull.full t 20).filter (freshB t) = FnCacheFull.full t 20 := by
      refine List.filter_eq_self.2 fun s hs => ?_
      obtain ⟨i, _, rfl⟩ := FnCacheFull.mem hs
      exact Cw.fresh_iff.2 ⟨by dsimp only; omega, by dsimp only; omega⟩
    have hcw : Cw.CW (FnCacheFull.full t 20) (⟨a0, a1, a2, a3, 1, a5, a6⟩ : Ca.S) t = (FnCacheFull.full t 20, false) := by
      unfold Cw.CW
      rw [if_pos ⟨hfull, ha, h0, by omega⟩, Cw.rememb_is, hfil]
      unfold Cw.remF
      split
      · split
        · rfl
        · rw [if_neg (by omega)]
      · rfl
    rw [hcw]
    refine Evs.else_ (by simp) ((Cw.lb_ev _ (by dsimp only; omega)).bind ?_)
    rintro _ rfl
    refine Evs.then_ rfl (Evs.then_ rfl ((Cw.lb_ev _ (by simp)).bind ?_))
    rintro _ rfl
    exact Evs.now rfl
  | succ d ih =>
    intro i hi a4
    refine Evs.step (fun k => by simp only [laws_FnCacheFull.l0]; rfl) (Evs.then_ (by omega) (Evs.then_ (by rw [FnCacheFull.len]; omega) ?_))
    rw [show wrap64 ((i : Int) + 1) = ((i + 1 : Nat) : Int) by rw [w64 (by omega) (by omega)]; rfl, show wrap64 (10 + (i : Int)) = 10 + (i : Int) from w64 (by omega) (by omega)]
    have hs : FnCacheFull.full t (i + 1) = FnCacheFull.full t i ++ [⟨10 + (i : Int), 3, 1, t, 60, 0, 0⟩] := by simp [FnCacheFull.full, List.range_succ]
    rw [← hs]
    exact ih (i + 1) (by omega) a4
theorem FnCacheFull : laws_FnCacheFull.Pure := by
  intro l0 _ _ w0
  refine Evs.rounds (g := fun k => laws_FnCacheFull.f k l0) ?_
  unfold laws_FnCacheFull.f
  refine Evs.ite (fun _ => Evs.now rfl) (fun _ => ?_)
  refine (Dw.draw_ev w0).bind ?_
  rintro ⟨l, a0, a1, a2, a3, a4, a5, a6, t⟩ hl
  replace hl : l.length ≤ 40 := hl
  dsimp only
  refine (Cw.specWith_ev l (⟨a0, a1, a2, a3, a4, a5, a6⟩ : Ca.S) t (by omega)).bind ?_
  rintro _ rfl
  refine (Cw.implWith_ev l (⟨a0, a1, a2, a3, a4, a5, a6⟩ : Ca.S) t (by omega)).bind ?_
  rintro _ rfl
  simp only [bne_self_eq_false, Bool.false_eq_true, if_false]
  have h20 := Cw.CW_len (l := l) (a := (⟨a0, a1, a2, a3, a4, a5, a6⟩ : Ca.S)) (now := t)
  refine (Cw.lb_ev _ (by omega)).bind ?_
  rintro _ rfl
  simp only [if_true]
  have hok := Cw.CW_ok (l := l) (a := (⟨a0, a1, a2, a3, a4, a5, a6⟩ : Ca.S)) (now := t)
  have hcache := Cw.CW_cache (l := l) (a := (⟨a0, a1, a2, a3, a4, a5, a6⟩ : Ca.S)) (now := t)
  have hmem := Cw.CW_mem (l := l) (a := (⟨a0, a1, a2, a3, a4, a5, a6⟩ : Ca.S)) (now := t)
  generalize Cw.CW l (⟨a0, a1, a2, a3, a4, a5, a6⟩ : Ca.S) t = r at hok hcache hmem h20 ⊢
  obtain ⟨x, b⟩ := r
  dsimp only at hok hcache hmem h20 ⊢
  have stop : Evs (fun k => laws_FnCacheFull.j0 k t x b x b true a0 a1 a2 a3 a4 a5 a6) (· = true) := by
    refine Evs.step (fun k => by simp only [laws_FnCacheFull.j0]; rfl) (Evs.then_ (by simp) (Evs.then_ (by simp) ?_))
    refine (Cw.lb_ev x (by omega)).bind ?_
    rintro _ rfl
    exact Evs.now rfl
  cases b with
  | false => simp only [Bool.false_eq_true, if_false]; exact stop
  | true =>
    simp only [if_true]
    obtain ⟨hc, ha, ht, hf, hn, hlen, he⟩ := hok rfl
    have e1 : wrap64 (wrap64 (t + 3) + 1) = t + 3 + 1 := by rw [w64 (x := t + 3) (by omega) (by omega), w64 (by omega) (by omega)]
    rw [e1]
    by_cases hb : t + 3 + 1 > 100
    · rw [decide_eq_true hb]; exact stop
    · rw [decide_eq_false hb]
      refine Evs.step (fun k => by simp only [laws_FnCacheFull.j0]; rfl) (Evs.else_ (by simp) ?_)
      have hy : Ca.AuthOk (⟨a0, a1, a2, a3, 1, a5, a6⟩ : Ca.S) := by
        have := Cw.auth_is3.1 ha
        exact Cw.auth_is3.2 ⟨this.1, this.2.1, this.2.2.1, this.2.2.2.1, ⟨by dsimp only; omega, by dsimp only; omega⟩, this.2.2.2.2.2⟩
      exact FnCacheFull.loop t a0 a1 a2 a3 a5 a6 ht.1 (by omega) hy 20 0 (by omega) a4
end Go.Proofs.Ytgekmdfcbcacdaa.Pure
