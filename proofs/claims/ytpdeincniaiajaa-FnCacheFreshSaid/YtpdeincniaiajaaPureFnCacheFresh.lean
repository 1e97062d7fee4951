/- The law FnCacheFresh, for every input. -/
import Derived.Test.YtpdeincniaiajaaHx68
import Derived.Test.YtpdeincniaiajaaCw
import Derived.Test.YtpdeincniaiajaaDw
import Derived.Test.YtpdeincniaiajaaAm
set_option linter.unusedVariables false
set_option linter.unusedSimpArgs false
namespace Go.Proofs.Ytpdeincniaiajaa.Pure
open Go.RowKit Go.Proofs.Ytpdeincniaiajaa.Hp Go.Proofs.YtpdeincniaiajaaW.PrintWords Go.Proofs.Ytpdeincniaiajaa.Dr

theorem FnCacheFresh.loop (l x : List Ca.S) (a : Ca.S) (t : Int) (b : Bool) (hl : l.length ≤ 40) (hx : x.length ≤ 20) (hs : ∀ s ∈ x, freshB t s = true ∧ (s = a ∨ s ∈ l) ∧ Ca.AuthOk s ∧ 0 ≤ t ∧ t ≤ 100) (hb : b = true → freshB t a = true ∧ 0 ≤ t ∧ t ≤ 100) : ∀ d i : Nat, i + d = x.length →
    Evs (fun k => laws_FnCacheFresh.l0 k l t x b (i : Int) a.f0 a.f1 a.f2 a.f3 a.f4 a.f5 a.f6) (· = true) := by
  intro d
  induction d with
  | zero =>
    intro i hi
    refine Evs.step (fun k => by simp only [laws_FnCacheFresh.l0]; rfl) (Evs.else_ (by omega) ?_)
    cases b with
    | false => exact Evs.else_ (by simp) (Evs.now (by rw [decide_eq_true_eq]; omega))
    | true =>
      obtain ⟨h1, h2, h3⟩ := hb rfl
      have h4 := Cw.fresh_iff.1 h1
      exact Evs.then_ rfl (Evs.then_ h4.2 (Evs.then_ (by rw [w64 (by omega) (by omega)]; omega) (Evs.now (by rw [decide_eq_true_eq]; omega))))
  | succ d ih =>
    intro i hi
    have hlt : i < x.length := by omega
    obtain ⟨h1, h2, h3, h4, h5⟩ := hs x[i] (List.getElem_mem hlt)
    have h6 := Cw.fresh_iff.1 h1
    refine Evs.step (fun k => by simp only [laws_FnCacheFresh.l0]; rfl) (Evs.then_ (by omega) (Evs.then_ (by omega) ?_))
    rw [Ca.next_is hlt (by omega), Ca.rd_is x i hlt]
    refine Evs.else_ (by omega) (Evs.else_ (by rw [w64 (by omega) (by omega)]; omega) (Evs.ite (fun hne => ?_) (fun _ => ih (i + 1) (by omega))))
    have hne' : ¬ x[i] = a := fun e => by rw [e] at hne; simp at hne
    refine (Am.ev l x[i] (by omega)).bind fun r hr => Evs.then_ (hr.2 (h2.resolve_left hne')) (ih (i + 1) (by omega))
theorem FnCacheFresh : laws_FnCacheFresh.Pure := by
  intro l0 _ _ w0
  refine Evs.rounds (g := fun k => laws_FnCacheFresh.f k l0) ?_
  unfold laws_FnCacheFresh.f
  refine Evs.ite (fun _ => Evs.now rfl) (fun _ => ?_)
  refine (Dw.draw_ev w0).bind ?_
  rintro ⟨l, a0, a1, a2, a3, a4, a5, a6, t⟩ hl
  replace hl : l.length ≤ 40 := hl
  dsimp only
  refine (Cw.specWith_ev l (⟨a0, a1, a2, a3, a4, a5, a6⟩ : Ca.S) t (by omega)).bind ?_
  rintro _ rfl
  refine (Cw.implWith_ev l (⟨a0, a1, a2, a3, a4, a5, a6⟩ : Ca.S) t (by omega)).bind ?_
  rintro _ rfl
  simp only [bne_self_eq_false, Bool.false_eq_true, if_false]
  have h20 := Cw.CW_len (l := l) (a := (⟨a0, a1, a2, a3, a4, a5, a6⟩ : Ca.S)) (now := t)
  refine (Cw.lb_ev _ (by omega)).bind ?_
  rintro _ rfl
  simp only [Bool.not_true]
  have hok := Cw.CW_ok (l := l) (a := (⟨a0, a1, a2, a3, a4, a5, a6⟩ : Ca.S)) (now := t)
  have hcache := Cw.CW_cache (l := l) (a := (⟨a0, a1, a2, a3, a4, a5, a6⟩ : Ca.S)) (now := t)
  have hmem := Cw.CW_mem (l := l) (a := (⟨a0, a1, a2, a3, a4, a5, a6⟩ : Ca.S)) (now := t)
  have hsub := Cw.CW_sub (l := l) (a := (⟨a0, a1, a2, a3, a4, a5, a6⟩ : Ca.S)) (now := t)
  generalize Cw.CW l (⟨a0, a1, a2, a3, a4, a5, a6⟩ : Ca.S) t = r at hok hcache hmem hsub h20 ⊢
  obtain ⟨x, b⟩ := r
  dsimp only at hok hcache hmem hsub h20 ⊢
  refine Evs.step (fun k => by simp only [laws_FnCacheFresh.j0]; rfl) (Evs.else_ (by simp) ?_)
  exact FnCacheFresh.loop l x (⟨a0, a1, a2, a3, a4, a5, a6⟩ : Ca.S) t b hl h20 hsub (fun e => by obtain ⟨_, _, ht, hf, _⟩ := hok e; exact ⟨hf, ht⟩) x.length 0 (by omega)
end Go.Proofs.Ytpdeincniaiajaa.Pure
