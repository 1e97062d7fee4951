/- The law FnMsgSeals: in a drawn word the seals may stand in any order, none more and none less, and another one just if it is ok. For every input. -/
import Derived.Test.YtbipicjijbnbbaaHx17
import Derived.Test.YtbipicjijbnbbaaMs
import Derived.Test.YtbipicjijbnbbaaDo
import Derived.Test.YtbipicjijbnbbaaHx7
import Derived.Test.YtbipicjijbnbbaaDr
set_option linter.unusedVariables false
set_option linter.unusedSimpArgs false
namespace Go.Proofs.Ytbipicjijbnbbaa.Pure
open Go.RowKit Go.Proofs.Ytbipicjijbnbbaa.Hp Go.Proofs.YtbipicjijbnbbaaW.PrintWords Go.Proofs.Ytbipicjijbnbbaa.Dr

theorem drawText_ev {l : List Int} (h : ∀ x ∈ l, (Lit.int .u8 x).wf = true) : Evs (fun k => spec_DrawSealText.f k l) (fun _ => True) := by
  unfold spec_DrawSealText.f
  obtain ⟨b, hb, hB⟩ := open_ev h
  rw [hb]
  simp only [Option.bind_some]
  refine (seal_ev hB (by omega) (by omega)).bind ?_
  rintro ⟨s1, s2, s3, s4, s5, s6, s7, p1⟩ _
  exact Evs.now trivial
abbrev Z := S41
theorem shapeLen {kind client serv nonce n m : Int} (h : Ms.Shape kind client serv nonce n) (hm : m ≠ n) : ¬ Ms.Shape kind client serv nonce m := by
  unfold Ms.Shape at h ⊢
  omega
theorem okLen {kind client serv nonce : Int} {l m : List Z} (h : Ms.msgOk kind client serv nonce l = true) (hm : m.length ≠ l.length) : Ms.msgOk kind client serv nonce m = false := by
  simp only [Ms.msgOk, Bool.and_eq_true, decide_eq_true_eq] at h
  simp only [Ms.msgOk]
  rw [decide_eq_false (shapeLen h.1 (by omega)), Bool.false_and]
theorem okSame {kind client serv nonce : Int} {l m : List Z} (h : Ms.msgOk kind client serv nonce l = true) (hm : m.length = l.length) : Ms.msgOk kind client serv nonce m = m.all Ms.okS := by
  simp only [Ms.msgOk, Bool.and_eq_true, decide_eq_true_eq] at h
  simp only [Ms.msgOk]
  rw [hm, decide_eq_true h.1, Bool.true_and]
theorem okAll {kind client serv nonce : Int} {l : List Z} (h : Ms.msgOk kind client serv nonce l = true) : l.all Ms.okS = true := by
  simp only [Ms.msgOk, Bool.and_eq_true] at h
  exact h.2
theorem revSet (l : List Z) (s : Z) (h0 : l ≠ []) (h : l.all Ms.okS = true) : (l.reverse.set 0 s).all Ms.okS = Ms.okS s := by
  have hr : l.reverse.all Ms.okS = true := by rw [List.all_reverse]; exact h
  generalize hq : l.reverse = r at hr
  cases r with
  | nil => exact absurd (List.reverse_eq_nil_iff.1 hq) h0
  | cons a t =>
    simp only [List.all_cons, Bool.and_eq_true] at hr
    simp [List.set_cons_zero, List.all_cons, hr.2]
theorem FnMsgSeals.end_ (kind client serv nonce : Int) (l : List Z) (s : Z) (hl : l.length ≤ 3) (h : Ms.msgOk kind client serv nonce l = true) :
    Evs (fun k => laws_FnMsgSeals.j3 k false kind client serv nonce l s.f0 s.f1 s.f2 s.f3 s.f4 s.f5 s.f6 kind client serv nonce l.reverse) (· = true) := by
  refine Evs.step (fun k => by simp only [laws_FnMsgSeals.j3]; rfl) (Evs.else_ (by simp) (Evs.ite (fun _ => Evs.now rfl) (fun h0 => ?_)))
  have h1 : 0 < l.length := by omega
  refine Evs.then_ (by omega) (Evs.then_ (by rw [List.length_reverse]; omega) ?_)
  rw [Ms.impl_is, okLen h (by rw [List.length_drop]; omega), Ms.impl_is, okSame h (by rw [List.length_set, List.length_reverse]), Sl.impl_ok]
  have e : (⟨s.f0, s.f1, s.f2, s.f3, s.f4, s.f5, s.f6⟩ : Z) = s := rfl
  rw [e, show (0 : Int).toNat = 0 from rfl, revSet l s (by intro q; rw [q] at h1; simp at h1) (okAll h)]
  simp only [Option.bind_some]
  exact Evs.else_ (by simp) (Evs.now (by simp [Ms.okS]))
theorem FnMsgSeals.loop (kind client serv nonce : Int) (l : List Z) (s : Z) (hl : l.length ≤ 3) (h : Ms.msgOk kind client serv nonce l = true) : ∀ d : Nat, d ≤ l.length →
    Evs (fun k => laws_FnMsgSeals.l0 k ((d : Int) - 1) kind client serv nonce l s.f0 s.f1 s.f2 s.f3 s.f4 s.f5 s.f6 kind client serv nonce (l.drop d).reverse) (· = true) := by
  intro d
  induction d with
  | zero =>
    intro hd
    refine Evs.step (fun k => by simp only [laws_FnMsgSeals.l0, Option.bind_some, List.drop_zero, List.nil_append]; rfl) (Evs.else_ (by omega) (Evs.then_ (by simp; omega) ?_))
    refine Evs.then_ (by simp; omega) ?_
    rw [Ms.impl_is, okSame h (List.length_reverse), List.all_reverse, okAll h, Ms.impl_is, okLen h (by simp)]
    simp only [Option.bind_some]
    exact Evs.then_ (by simp) (FnMsgSeals.end_ kind client serv nonce l s hl h)
  | succ d ih =>
    intro hd
    have hlt : d < l.length := by omega
    refine Evs.step (fun k => by simp only [laws_FnMsgSeals.l0, Option.bind_some]; rfl) (Evs.then_ (by omega) (Evs.then_ (by omega) (Evs.then_ (by omega) (Evs.then_ (by simp; omega) ?_))))
    have e1 : wrap64 (((d + 1 : Nat) : Int) - 1 - 1) = (d : Int) - 1 := by rw [w64 (by omega) (by omega)]; omega
    have e2 : (((d + 1 : Nat) : Int) - 1) = (d : Int) := by omega
    have e3 : (l.drop (d + 1)).reverse ++ [(⟨(rd_T41 l (d : Int)).f0, (rd_T41 l (d : Int)).f1, (rd_T41 l (d : Int)).f2, (rd_T41 l (d : Int)).f3, (rd_T41 l (d : Int)).f4, (rd_T41 l (d : Int)).f5, (rd_T41 l (d : Int)).f6⟩ : Z)] = (l.drop d).reverse := by
      rw [Ms.rdS l d hlt, List.drop_eq_getElem_cons hlt, List.reverse_cons]
    rw [e1, e2, e3]
    exact ih (by omega)
theorem FnMsgSeals : laws_FnMsgSeals.Pure := by
  intro l0 l1 _ _ w0 _ _ w1
  refine Evs.rounds (g := fun k => laws_FnMsgSeals.f k l0 l1) ?_
  have long : Evs (fun k => laws_FnMsgSeals.j0 k l0 l1 true) (· = true) := Evs.step (fun k => by simp only [laws_FnMsgSeals.j0]; rfl) (Evs.then_ (c := true = true) rfl (Evs.now rfl))
  unfold laws_FnMsgSeals.f
  refine Evs.ite (fun _ => long) (fun _ => ?_)
  by_cases hb : (l1.length : Int) > 1048576
  · rw [decide_eq_true hb]; exact long
  rw [decide_eq_false hb]
  refine Evs.step (fun k => by simp only [laws_FnMsgSeals.j0]; rfl) (Evs.else_ (by simp) ?_)
  refine (Dm.drawMsgOk_ev w0).bind ?_
  rintro ⟨kind, client, serv, nonce, l⟩ hl
  dsimp only at hl ⊢
  refine (drawText_ev w1).bind ?_
  rintro ⟨s0, s1, s2, s3, s4, s5, s6⟩ _
  dsimp only
  refine (Ms.impl_ev kind client serv nonce l).bind ?_
  rintro _ rfl
  refine (Ms.spec_ev kind client serv nonce l (by omega)).bind ?_
  rintro _ rfl
  simp only [bne_self_eq_false, Bool.false_eq_true, if_false]
  refine Evs.step (fun k => by simp only [laws_FnMsgSeals.j1]; rfl) (Evs.ite (fun h => ?_) (fun h => ?_))
  · refine (Ms.spec_ev kind client serv nonce l (by omega)).bind ?_
    rintro _ rfl
    exact Evs.now (by simp)
  · have hm : Ms.msgOk kind client serv nonce l = true := by simpa using h
    have hq := FnMsgSeals.loop kind client serv nonce l ⟨s0, s1, s2, s3, s4, s5, s6⟩ hl hm l.length (Nat.le_refl _)
    rw [List.drop_length] at hq
    rw [w64 (by omega) (by omega)]
    exact hq
end Go.Proofs.Ytbipicjijbnbbaa.Pure
