/- The law FnCacheOrder, for every input. -/
import Derived.Test.YtpdeincniaiajaaHx71
import Derived.Test.YtpdeincniaiajaaCw
import Derived.Test.YtpdeincniaiajaaDw
import Derived.Test.YtpdeincniaiajaaAm
set_option linter.unusedVariables false
set_option linter.unusedSimpArgs false
namespace Go.Proofs.Ytpdeincniaiajaa.Pure
open Go.RowKit Go.Proofs.Ytpdeincniaiajaa.Hp Go.Proofs.YtpdeincniaiajaaW.PrintWords Go.Proofs.Ytpdeincniaiajaa.Dr

theorem FnCacheOrder.main (l0 l1 : List Int) (w0 : ∀ x ∈ l0, (Lit.int .u8 x).wf = true) (w1 : ∀ x ∈ l1, (Lit.int .u8 x).wf = true) : ∀ stopped : Bool, Evs (fun k => laws_FnCacheOrder.j0 k l0 l1 stopped) (· = true) := by
  intro stopped
  refine Evs.step (fun k => by simp only [laws_FnCacheOrder.j0]; rfl) (Evs.ite (fun _ => Evs.now rfl) (fun _ => ?_))
  refine (Dw.draw_ev w0).bind ?_
  rintro ⟨l, a0, a1, a2, a3, a4, a5, a6, t⟩ hl
  replace hl : l.length ≤ 40 := hl
  dsimp only
  refine (Dw.draw_ev w1).bind ?_
  rintro ⟨l', b0, b1, b2, b3, b4, b5, b6, t'⟩ hl'
  dsimp only
  refine (Cw.specWith_ev l (⟨a0, a1, a2, a3, a4, a5, a6⟩ : Ca.S) t (by omega)).bind ?_
  rintro _ rfl
  refine (Cw.implWith_ev l (⟨a0, a1, a2, a3, a4, a5, a6⟩ : Ca.S) t (by omega)).bind ?_
  rintro _ rfl
  simp only [bne_self_eq_false, Bool.false_eq_true, if_false]
  have h20 := Cw.CW_len (l := l) (a := (⟨a0, a1, a2, a3, a4, a5, a6⟩ : Ca.S)) (now := t)
  refine (Cw.lb_ev _ (by omega)).bind ?_
  rintro _ rfl
  simp only [if_true]
  have hok := Cw.CW_ok (l := l) (a := (⟨a0, a1, a2, a3, a4, a5, a6⟩ : Ca.S)) (now := t)
  have hcache := Cw.CW_cache (l := l) (a := (⟨a0, a1, a2, a3, a4, a5, a6⟩ : Ca.S)) (now := t)
  have hmem := Cw.CW_mem (l := l) (a := (⟨a0, a1, a2, a3, a4, a5, a6⟩ : Ca.S)) (now := t)
  generalize Cw.CW l (⟨a0, a1, a2, a3, a4, a5, a6⟩ : Ca.S) t = r at hok hcache hmem h20 ⊢
  obtain ⟨x, b⟩ := r
  dsimp only at hok hcache hmem h20 ⊢
  have stop : Evs (fun k => laws_FnCacheOrder.j1 k l t x b x b true a0 a1 a2 a3 a4 a5 a6 b0 b1 b2 b3 b4 b5 b6) (· = true) := by
    refine Evs.step (fun k => by simp only [laws_FnCacheOrder.j1]; rfl) (Evs.then_ (by simp) (Evs.then_ (by simp) ?_))
    refine (Cw.lb_ev x (by omega)).bind ?_
    rintro _ rfl
    exact Evs.now rfl
  cases b with
  | false => simp only [Bool.false_eq_true, if_false]; exact stop
  | true =>
    simp only [if_true]
    obtain ⟨hc, ha, ht, hf, hn, hlen, he⟩ := hok rfl
    refine Evs.ite (fun _ => stop) (fun hne => ?_)
    have hab : ¬ (⟨b0, b1, b2, b3, b4, b5, b6⟩ : Ca.S) = (⟨a0, a1, a2, a3, a4, a5, a6⟩ : Ca.S) := fun e => hne (Ca.same_iff.2 e)
    by_cases h20' : x.length = 20
    · rw [show ((x.length : Int) == 20) = true by simp; omega]; exact stop
    · rw [show ((x.length : Int) == 20) = false by simp; omega]
      refine Evs.step (fun k => by simp only [laws_FnCacheOrder.j1]; rfl) (Evs.else_ (by simp) ?_)
      have hokb := Cw.CW_ok (l := l) (a := (⟨b0, b1, b2, b3, b4, b5, b6⟩ : Ca.S)) (now := t)
      have hcb := Cw.CW_cache (l := l) (a := (⟨b0, b1, b2, b3, b4, b5, b6⟩ : Ca.S)) (now := t)
      refine (Cw.implWith_ev l (⟨b0, b1, b2, b3, b4, b5, b6⟩ : Ca.S) t (by omega)).bind ?_
      rintro _ rfl
      generalize Cw.CW l (⟨b0, b1, b2, b3, b4, b5, b6⟩ : Ca.S) t = q at hokb hcb ⊢
      obtain ⟨y, c⟩ := q
      dsimp only at hokb hcb ⊢
      refine Evs.ite (fun hcc => ?_) (fun _ => Evs.now rfl)
      obtain ⟨_, hb, _, hfb, hnb, _, heb⟩ := hokb hcc
      have hlx : x.length = (l.filter (freshB t)).length + 1 := by rw [he]; simp
      have hly : y.length = (l.filter (freshB t)).length + 1 := by rw [heb]; simp
      have hx := Cw.CW_new (l := x) (a := (⟨b0, b1, b2, b3, b4, b5, b6⟩ : Ca.S)) (now := t) (hcache rfl) hb ht.1 ht.2 (fun s hs => by
        rw [he] at hs
        rcases List.mem_append.1 hs with h | h
        · exact (List.mem_filter.1 h).2
        · rw [List.mem_singleton] at h; rw [h]; exact hf) hfb (fun e => by
        rw [he] at e
        rcases List.mem_append.1 e with h | h
        · exact hnb h
        · rw [List.mem_singleton] at h; exact hab h) (by omega)
      have hy := Cw.CW_new (l := y) (a := (⟨a0, a1, a2, a3, a4, a5, a6⟩ : Ca.S)) (now := t) (hcb hcc) ha ht.1 ht.2 (fun s hs => by
        rw [heb] at hs
        rcases List.mem_append.1 hs with h | h
        · exact (List.mem_filter.1 h).2
        · rw [List.mem_singleton] at h; rw [h]; exact hfb) hf (fun e => by
        rw [heb] at e
        rcases List.mem_append.1 e with h | h
        · exact hn h
        · rw [List.mem_singleton] at h; exact hab h.symm) (by omega)
      have hax : (⟨a0, a1, a2, a3, a4, a5, a6⟩ : Ca.S) ∈ x := by rw [he]; simp
      have hby : (⟨b0, b1, b2, b3, b4, b5, b6⟩ : Ca.S) ∈ y := by rw [heb]; simp
      refine (Cw.implWith_ev x (⟨b0, b1, b2, b3, b4, b5, b6⟩ : Ca.S) t (by omega)).bind ?_
      rintro _ rfl
      refine (Cw.implWith_ev y (⟨a0, a1, a2, a3, a4, a5, a6⟩ : Ca.S) t (by omega)).bind ?_
      rintro _ rfl
      rw [hx, hy]
      refine Evs.then_ rfl (Evs.then_ rfl (Evs.then_ (by simp; omega) ?_))
      refine (Am.ev _ (⟨a0, a1, a2, a3, a4, a5, a6⟩ : Ca.S) (by simp; omega)).bind fun r1 e1 => Evs.then_ (e1.2 (by simp [hax])) ?_
      refine (Am.ev _ (⟨b0, b1, b2, b3, b4, b5, b6⟩ : Ca.S) (by simp; omega)).bind fun r2 e2 => Evs.then_ (e2.2 (by simp)) ?_
      refine (Am.ev _ (⟨a0, a1, a2, a3, a4, a5, a6⟩ : Ca.S) (by simp; omega)).bind fun r3 e3 => Evs.then_ (e3.2 (by simp)) ?_
      exact (Am.ev _ (⟨b0, b1, b2, b3, b4, b5, b6⟩ : Ca.S) (by simp; omega)).bind fun r4 e4 => Evs.now (e4.2 (by simp [hby]))
theorem FnCacheOrder : laws_FnCacheOrder.Pure := by
  intro l0 l1 _ _ w0 _ _ w1
  refine Evs.rounds (g := fun k => laws_FnCacheOrder.f k l0 l1) ?_
  unfold laws_FnCacheOrder.f
  exact Evs.ite (fun _ => FnCacheOrder.main l0 l1 w0 w1 _) (fun _ => FnCacheOrder.main l0 l1 w0 w1 _)
end Go.Proofs.Ytpdeincniaiajaa.Pure
