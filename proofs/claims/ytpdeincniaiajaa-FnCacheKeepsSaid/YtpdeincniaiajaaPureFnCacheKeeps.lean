/- The law FnCacheKeeps, for every input. -/
import Derived.Test.YtpdeincniaiajaaHx69
import Derived.Test.YtpdeincniaiajaaCw
import Derived.Test.YtpdeincniaiajaaDw
import Derived.Test.YtpdeincniaiajaaAm
set_option linter.unusedVariables false
set_option linter.unusedSimpArgs false
namespace Go.Proofs.Ytpdeincniaiajaa.Pure
open Go.RowKit Go.Proofs.Ytpdeincniaiajaa.Hp Go.Proofs.YtpdeincniaiajaaW.PrintWords Go.Proofs.Ytpdeincniaiajaa.Dr

theorem FnCacheKeeps.loop (l : List Ca.S) (x : List Ca.S) (a : Ca.S) (t : Int) (hl : Ca.CacheOk l) (h0 : 0 ≤ t) (h1 : t ≤ 100) (hx : x.length ≤ 20) (hn : a ∉ l) : ∀ d i : Nat, ∀ acc : List Ca.S, i + d = l.length → acc.length ≤ i → x = acc ++ (l.drop i).filter (freshB t) ++ [a] →
    Evs (fun k => laws_FnCacheKeeps.l0 k l t x acc (i : Int) a.f0 a.f1 a.f2 a.f3 a.f4 a.f5 a.f6) (· = true) := by
  have h20 := hl.2
  intro d
  induction d with
  | zero =>
    intro i acc hi hacc he
    rw [List.drop_of_length_le (by omega), List.filter_nil, List.append_nil] at he
    refine Evs.step (fun k => by simp only [laws_FnCacheKeeps.l0]; rfl) (Evs.else_ (by omega) (Evs.then_ (by omega) ?_))
    have hlb : Evs (fun k => laws_lbSeals.f k x (acc ++ [a])) (· = true) := by
      rw [← he]
      exact Cw.lb_ev x (by omega)
    refine hlb.bind ?_
    rintro _ rfl
    refine Evs.then_ rfl ((Am.ev l a (by omega)).bind fun r hr => ?_)
    cases r with
    | false => exact Evs.now rfl
    | true => exact absurd (hr.1 rfl) hn
  | succ d ih =>
    intro i acc hi hacc he
    have hlt : i < l.length := by omega
    refine Evs.step (fun k => by simp only [laws_FnCacheKeeps.l0]; rfl) (Evs.then_ (by omega) (Evs.then_ (by omega) ?_))
    have ha3 := Cw.auth3 (Cw.cache_mem hl (List.getElem_mem hlt))
    rw [Ca.next_is hlt (by omega), Ca.rd_is l i hlt, w64 (x := t - l[i].f3) (by omega) (by omega)]
    rw [List.drop_eq_getElem_cons hlt] at he
    have skip : freshB t l[i] ≠ true → Evs (fun k => laws_FnCacheKeeps.l0 k l t x acc ((i + 1 : Nat) : Int) a.f0 a.f1 a.f2 a.f3 a.f4 a.f5 a.f6) (· = true) := fun h => by
      refine ih (i + 1) acc (by omega) (by omega) ?_
      rw [List.filter_cons_of_neg h] at he
      exact he
    refine Evs.ite (fun h2 => Evs.ite (fun h3 => Evs.then_ (by omega) (ih (i + 1) _ (by omega) (by rw [List.length_append, List.length_singleton]; omega) ?_)) (fun h3 => skip fun e => ?_)) (fun h2 => skip fun e => ?_)
    · rw [List.filter_cons_of_pos (Cw.fresh_iff.2 ⟨by omega, h2⟩)] at he
      rw [he]; simp
    · have := Cw.fresh_iff.1 e; omega
    · have := Cw.fresh_iff.1 e; omega
theorem FnCacheKeeps : laws_FnCacheKeeps.Pure := by
  intro l0 _ _ w0
  refine Evs.rounds (g := fun k => laws_FnCacheKeeps.f k l0) ?_
  unfold laws_FnCacheKeeps.f
  refine Evs.ite (fun _ => Evs.now rfl) (fun _ => ?_)
  refine (Dw.draw_ev w0).bind ?_
  rintro ⟨l, a0, a1, a2, a3, a4, a5, a6, t⟩ hl
  replace hl : l.length ≤ 40 := hl
  dsimp only
  refine (Cw.specWith_ev l (⟨a0, a1, a2, a3, a4, a5, a6⟩ : Ca.S) t (by omega)).bind ?_
  rintro _ rfl
  refine (Cw.implWith_ev l (⟨a0, a1, a2, a3, a4, a5, a6⟩ : Ca.S) t (by omega)).bind ?_
  rintro _ rfl
  simp only [bne_self_eq_false, Bool.false_eq_true, if_false]
  have h20 := Cw.CW_len (l := l) (a := (⟨a0, a1, a2, a3, a4, a5, a6⟩ : Ca.S)) (now := t)
  refine (Cw.lb_ev _ (by omega)).bind ?_
  rintro _ rfl
  simp only [if_true]
  have hok := Cw.CW_ok (l := l) (a := (⟨a0, a1, a2, a3, a4, a5, a6⟩ : Ca.S)) (now := t)
  have hcache := Cw.CW_cache (l := l) (a := (⟨a0, a1, a2, a3, a4, a5, a6⟩ : Ca.S)) (now := t)
  have hmem := Cw.CW_mem (l := l) (a := (⟨a0, a1, a2, a3, a4, a5, a6⟩ : Ca.S)) (now := t)
  generalize Cw.CW l (⟨a0, a1, a2, a3, a4, a5, a6⟩ : Ca.S) t = r at hok hcache hmem h20 ⊢
  obtain ⟨x, b⟩ := r
  dsimp only at hok hcache hmem h20 ⊢
  have stop : Evs (fun k => laws_FnCacheKeeps.j0 k l t x b x b true a0 a1 a2 a3 a4 a5 a6) (· = true) := by
    refine Evs.step (fun k => by simp only [laws_FnCacheKeeps.j0]; rfl) (Evs.then_ (by simp) (Evs.then_ (by simp) ?_))
    refine (Cw.lb_ev x (by omega)).bind ?_
    rintro _ rfl
    exact Evs.now rfl
  cases b with
  | false => exact stop
  | true =>
    obtain ⟨hc, ha, ht, hf, hn, hlen, he⟩ := hok rfl
    refine Evs.step (fun k => by simp only [laws_FnCacheKeeps.j0]; rfl) (Evs.else_ (by simp) ?_)
    exact FnCacheKeeps.loop l x (⟨a0, a1, a2, a3, a4, a5, a6⟩ : Ca.S) t hc ht.1 ht.2 (by omega) (fun e => hn (List.mem_filter.2 ⟨e, hf⟩)) l.length 0 [] (by omega) (by simp) (by rw [List.drop_zero, List.nil_append]; exact he)
end Go.Proofs.Ytpdeincniaiajaa.Pure
