/- The law FnCacheLater, for every input. -/
import Derived.Test.YtgekmdfcbcacdaaHx61
import Derived.Test.YtgekmdfcbcacdaaCw
import Derived.Test.YtgekmdfcbcacdaaDw
set_option linter.unusedVariables false
set_option linter.unusedSimpArgs false
namespace Go.Proofs.Ytgekmdfcbcacdaa.Pure
open Go.RowKit Go.Proofs.Ytgekmdfcbcacdaa.Hp Go.Proofs.YtgekmdfcbcacdaaW.PrintWords Go.Proofs.Ytgekmdfcbcacdaa.Dr

theorem FnCacheLater : laws_FnCacheLater.Pure := by
  intro l0 _ _ w0
  refine Evs.rounds (g := fun k => laws_FnCacheLater.f k l0) ?_
  unfold laws_FnCacheLater.f
  refine Evs.ite (fun _ => Evs.now rfl) (fun _ => ?_)
  refine (Dw.draw_ev w0).bind ?_
  rintro ⟨l, a0, a1, a2, a3, a4, a5, a6, t⟩ hl
  replace hl : l.length ≤ 40 := hl
  dsimp only
  refine (Cw.specWith_ev l (⟨a0, a1, a2, a3, a4, a5, a6⟩ : Ca.S) t (by omega)).bind ?_
  rintro _ rfl
  refine (Cw.implWith_ev l (⟨a0, a1, a2, a3, a4, a5, a6⟩ : Ca.S) t (by omega)).bind ?_
  rintro _ rfl
  simp only [bne_self_eq_false, Bool.false_eq_true, if_false]
  have h20 := Cw.CW_len (l := l) (a := (⟨a0, a1, a2, a3, a4, a5, a6⟩ : Ca.S)) (now := t)
  refine (Cw.lb_ev _ (by omega)).bind ?_
  rintro _ rfl
  simp only [if_true]
  have hok := Cw.CW_ok (l := l) (a := (⟨a0, a1, a2, a3, a4, a5, a6⟩ : Ca.S)) (now := t)
  have hcache := Cw.CW_cache (l := l) (a := (⟨a0, a1, a2, a3, a4, a5, a6⟩ : Ca.S)) (now := t)
  have hmem := Cw.CW_mem (l := l) (a := (⟨a0, a1, a2, a3, a4, a5, a6⟩ : Ca.S)) (now := t)
  generalize Cw.CW l (⟨a0, a1, a2, a3, a4, a5, a6⟩ : Ca.S) t = r at hok hcache hmem h20 ⊢
  obtain ⟨x, b⟩ := r
  dsimp only at hok hcache hmem h20 ⊢
  have stop : Evs (fun k => laws_FnCacheLater.j0 k t x b x b true a0 a1 a2 a3 a4 a5 a6) (· = true) := by
    refine Evs.step (fun k => by simp only [laws_FnCacheLater.j0]; rfl) (Evs.then_ (by simp) (Evs.then_ (by simp) ?_))
    refine (Cw.lb_ev x (by omega)).bind ?_
    rintro _ rfl
    exact Evs.now rfl
  cases b with
  | false => simp only [Bool.false_eq_true, if_false]; exact stop
  | true =>
    simp only [if_true]
    obtain ⟨hc, ha, ht, hf, hn, hlen, he⟩ := hok rfl
    have e1 : wrap64 (wrap64 (t + 3) + 1) = t + 3 + 1 := by rw [w64 (x := t + 3) (by omega) (by omega), w64 (by omega) (by omega)]
    rw [e1]
    by_cases hb : t + 3 + 1 > 100
    · rw [decide_eq_true hb]; exact stop
    · rw [decide_eq_false hb]
      refine Evs.step (fun k => by simp only [laws_FnCacheLater.j0]; rfl) (Evs.else_ (by simp) ?_)
      rw [e1]
      refine (Cw.implWith_ev x (⟨a0, a1, a2, t + 3 + 1, a4, a5, a6⟩ : Ca.S) (t + 3 + 1) (by omega)).bind ?_
      rintro _ rfl
      have hy : Ca.AuthOk (⟨a0, a1, a2, t + 3 + 1, a4, a5, a6⟩ : Ca.S) := by
        have := Cw.auth_is3.1 ha
        exact Cw.auth_is3.2 ⟨this.1, this.2.1, this.2.2.1, ⟨by dsimp only; omega, by dsimp only; omega⟩, this.2.2.2.2⟩
      rw [Cw.CW_later (hcache rfl) (hmem rfl) hy rfl ht.1 (by omega)]
      refine Evs.then_ rfl ((Cw.lb_ev _ (by simp)).bind ?_)
      rintro _ rfl
      exact Evs.now rfl
end Go.Proofs.Ytgekmdfcbcacdaa.Pure
