/- The law FnCacheOnce, for every input. -/
import Derived.Test.YtpdeincniaiajaaHx70
import Derived.Test.YtpdeincniaiajaaCw
import Derived.Test.YtpdeincniaiajaaDw
import Derived.Test.YtpdeincniaiajaaAm
set_option linter.unusedVariables false
set_option linter.unusedSimpArgs false
namespace Go.Proofs.Ytpdeincniaiajaa.Pure
open Go.RowKit Go.Proofs.Ytpdeincniaiajaa.Hp Go.Proofs.YtpdeincniaiajaaW.PrintWords Go.Proofs.Ytpdeincniaiajaa.Dr

theorem FnCacheOnce.twice {x : List Ca.S} {a : Ca.S} {u : Int} (ha : a ∈ x) : (Cw.CW x a u).2 = false := by
  cases h : (Cw.CW x a u).2 with
  | false => rfl
  | true =>
    obtain ⟨_, _, _, hf, hn, _⟩ := Cw.CW_ok h
    exact absurd (List.mem_filter.2 ⟨ha, hf⟩) hn
theorem FnCacheOnce.again {x : List Ca.S} {a : Ca.S} {u : Int} (hx : Ca.CacheOk x) (ho : Ca.AuthOk a) (h0 : 0 ≤ u) (h1 : u ≤ 100) (ha : a ∈ x) : (Cw.CW (Cw.CW x a u).1 a u).2 = false := by
  have he : (Cw.CW x a u).1 = x.filter (freshB u) := by
    unfold Cw.CW
    rw [if_pos ⟨hx, ho, h0, h1⟩, Cw.rememb_is]
    unfold Cw.remF
    split
    · rename_i hf
      rw [if_pos ((Cw.any_same _ _).2 (List.mem_filter.2 ⟨ha, hf⟩))]
    · rfl
  rw [he]
  cases h : (Cw.CW (x.filter (freshB u)) a u).2 with
  | false => rfl
  | true =>
    obtain ⟨_, _, _, hf, hn, _⟩ := Cw.CW_ok h
    exact absurd (List.mem_filter.2 ⟨List.mem_filter.2 ⟨ha, hf⟩, hf⟩) hn
theorem FnCacheOnce.main (l0 l1 : List Int) (w0 : ∀ x ∈ l0, (Lit.int .u8 x).wf = true) : ∀ stopped : Bool, Evs (fun k => laws_FnCacheOnce.j0 k l0 l1 stopped) (· = true) := by
  intro stopped
  refine Evs.step (fun k => by simp only [laws_FnCacheOnce.j0]; rfl) (Evs.ite (fun _ => Evs.now rfl) (fun _ => ?_))
  refine (Dw.draw_ev w0).bind ?_
  rintro ⟨l, a0, a1, a2, a3, a4, a5, a6, t⟩ hl
  replace hl : l.length ≤ 40 := hl
  dsimp only
  refine (Cw.specWith_ev l (⟨a0, a1, a2, a3, a4, a5, a6⟩ : Ca.S) t (by omega)).bind ?_
  rintro _ rfl
  refine (Cw.implWith_ev l (⟨a0, a1, a2, a3, a4, a5, a6⟩ : Ca.S) t (by omega)).bind ?_
  rintro _ rfl
  simp only [bne_self_eq_false, Bool.false_eq_true, if_false]
  have h20 := Cw.CW_len (l := l) (a := (⟨a0, a1, a2, a3, a4, a5, a6⟩ : Ca.S)) (now := t)
  refine (Cw.lb_ev _ (by omega)).bind ?_
  rintro _ rfl
  simp only [if_true]
  have hok := Cw.CW_ok (l := l) (a := (⟨a0, a1, a2, a3, a4, a5, a6⟩ : Ca.S)) (now := t)
  have hcache := Cw.CW_cache (l := l) (a := (⟨a0, a1, a2, a3, a4, a5, a6⟩ : Ca.S)) (now := t)
  have hmem := Cw.CW_mem (l := l) (a := (⟨a0, a1, a2, a3, a4, a5, a6⟩ : Ca.S)) (now := t)
  generalize Cw.CW l (⟨a0, a1, a2, a3, a4, a5, a6⟩ : Ca.S) t = r at hok hcache hmem h20 ⊢
  obtain ⟨x, b⟩ := r
  dsimp only at hok hcache hmem h20 ⊢
  have stop : Evs (fun k => laws_FnCacheOnce.j1 k l1 t x b x b true a0 a1 a2 a3 a4 a5 a6) (· = true) := by
    refine Evs.step (fun k => by simp only [laws_FnCacheOnce.j1]; rfl) (Evs.then_ (by simp) (Evs.then_ (by simp) ?_))
    refine (Cw.lb_ev x (by omega)).bind ?_
    rintro _ rfl
    exact Evs.now rfl
  cases b with
  | false => exact stop
  | true =>
    obtain ⟨hc, ha, ht, hf, hn, hlen, he⟩ := hok rfl
    refine Evs.step (fun k => by simp only [laws_FnCacheOnce.j1]; rfl) (Evs.else_ (by simp) ?_)
    have hu : 0 ≤ mn (wrap64 (t + ((l1.length : Int) % 8))) 100 ∧ mn (wrap64 (t + ((l1.length : Int) % 8))) 100 ≤ 100 := by
      rw [w64 (by omega) (by omega)]
      unfold mn
      split <;> omega
    generalize mn (wrap64 (t + ((l1.length : Int) % 8))) 100 = u at hu ⊢
    have hax : (⟨a0, a1, a2, a3, a4, a5, a6⟩ : Ca.S) ∈ x := by rw [he]; simp
    have h1 := FnCacheOnce.twice (u := u) hax
    have h2 := FnCacheOnce.again (hcache rfl) ha hu.1 hu.2 hax
    refine (Cw.implWith_ev x (⟨a0, a1, a2, a3, a4, a5, a6⟩ : Ca.S) u (by omega)).bind ?_
    rintro _ rfl
    refine (Cw.implWith_ev _ (⟨a0, a1, a2, a3, a4, a5, a6⟩ : Ca.S) u (by have := Cw.CW_len (l := x) (a := (⟨a0, a1, a2, a3, a4, a5, a6⟩ : Ca.S)) (now := u); omega)).bind ?_
    rintro _ rfl
    rw [h1, h2]
    refine Evs.else_ (by simp) (Evs.else_ (by simp) ((Am.ev x (⟨a0, a1, a2, a3, a4, a5, a6⟩ : Ca.S) (by omega)).bind fun r hr => ?_))
    rw [hr.2 hax]
    exact Evs.now rfl
theorem FnCacheOnce : laws_FnCacheOnce.Pure := by
  intro l0 l1 _ _ w0 _ _ _
  refine Evs.rounds (g := fun k => laws_FnCacheOnce.f k l0 l1) ?_
  unfold laws_FnCacheOnce.f
  exact Evs.ite (fun _ => FnCacheOnce.main l0 l1 w0 _) (fun _ => FnCacheOnce.main l0 l1 w0 _)
end Go.Proofs.Ytpdeincniaiajaa.Pure
