/- The law FnMsgOne: two words are the same just if their texts are. For every input. -/
import Derived.Test.YtgekmdfcbcacdaaDoorHx38
import Derived.Test.YtgekmdfcbcacdaaDoorHx35
import Derived.Test.YtgekmdfcbcacdaaDoorDm
import Derived.Test.YtgekmdfcbcacdaaDoorMi
set_option linter.unusedVariables false
set_option linter.unusedSimpArgs false
namespace Go.Proofs.YtgekmdfcbcacdaaDoor.Pure
open Go.RowKit Go.Proofs.YtgekmdfcbcacdaaDoor.Hp Go.Proofs.YtgekmdfcbcacdaaDoorW.PrintWords Go.Proofs.YtgekmdfcbcacdaaDoor.Dr

theorem FnMsgOne.draw {l : List Int} (h : ∀ x ∈ l, (Lit.int .u8 x).wf = true) : Evs (fun k => spec_DrawMsgText.f k l) (fun _ => True) := by
  unfold spec_DrawMsgText.f
  obtain ⟨b, hb, hB⟩ := open_ev h
  rw [hb]
  simp only [Option.bind_some]
  refine (Dm.msg_ev hB (by omega) (by omega)).bind ?_
  intro r _
  exact Evs.now trivial
theorem FnMsgOne.ok_of {kind client serv nonce : Int} {l : List Mt.S} (h : ¬ (Mt.msgTxt kind client serv nonce l).toList = []) : Ms.msgOk kind client serv nonce l = true := by
  unfold Mt.msgTxt at h
  by_cases ho : Ms.msgOk kind client serv nonce l = true
  · exact ho
  · rw [if_neg ho, Dc.toList_is] at h
    exact absurd rfl h
theorem FnMsgOne.main (l0 l1 : List Int) (w0 : ∀ x ∈ l0, (Lit.int .u8 x).wf = true) (w1 : ∀ x ∈ l1, (Lit.int .u8 x).wf = true) (bb : Bool) : Evs (fun k => laws_FnMsgOne.j0 k l0 l1 bb) (· = true) := by
  refine Evs.step (fun k => by simp only [laws_FnMsgOne.j0]; rfl) (Evs.ite (fun _ => Evs.now rfl) (fun _ => ?_))
  refine (FnMsgOne.draw w0).bind ?_
  rintro ⟨kind, client, serv, nonce, l⟩ _
  refine (FnMsgOne.draw w1).bind ?_
  rintro ⟨kind', client', serv', nonce', l'⟩ _
  dsimp only
  refine (Mt.impl_msg kind client serv nonce l).bind ?_
  rintro _ rfl
  refine (Mt.impl_msg kind' client' serv' nonce' l').bind ?_
  rintro _ rfl
  refine (Mt.spec_msg kind client serv nonce l).bind ?_
  rintro _ rfl
  refine Evs.then_ (by first | rfl | trivial) ((Mt.spec_msg kind' client' serv' nonce' l').bind ?_)
  rintro _ rfl
  refine Evs.then_ (by first | rfl | trivial) ?_
  have stop : Evs (fun k => laws_FnMsgOne.j1 k (Mt.msgTxt kind client serv nonce l) (Mt.msgTxt kind' client' serv' nonce' l') true kind client serv nonce l kind' client' serv' nonce' l') (· = true) := by
    refine Evs.step (fun k => by simp only [laws_FnMsgOne.j1]; rfl) (Evs.then_ (by first | rfl | trivial) ((Mt.spec_msg kind client serv nonce l).bind ?_))
    rintro _ rfl
    refine Evs.then_ (by first | rfl | trivial) ((Mt.spec_msg kind' client' serv' nonce' l').bind ?_)
    rintro _ rfl
    exact Evs.now (by simp)
  refine Evs.ite (fun _ => stop) (fun h1 => ?_)
  by_cases h2 : (Mt.msgTxt kind' client' serv' nonce' l').toList = []
  · rw [beq_iff_eq.2 h2]; exact stop
  · rw [beq_eq_false_iff_ne.2 h2]
    have o1 := FnMsgOne.ok_of h1
    have o2 := FnMsgOne.ok_of h2
    have hl := (Mt.ok_nums o1).2.1
    refine Evs.step (fun k => by simp only [laws_FnMsgOne.j1]; rfl) (Evs.else_ (by simp) ((Mi.cmp_msg kind client serv nonce kind' client' serv' nonce' l l' (by omega)).bind ?_))
    intro t ht
    refine Evs.now ?_
    rw [beq_iff_eq, Bool.eq_iff_iff, beq_iff_eq, ht, Dc.toList_inj]
    constructor
    · intro q
      exact Mi.msg_inj o1 o2 q
    · rintro ⟨rfl, rfl, rfl, rfl, rfl⟩
      rfl
theorem FnMsgOne : laws_FnMsgOne.Pure := by
  intro l0 l1 _ _ w0 _ _ w1
  refine Evs.rounds (g := fun k => laws_FnMsgOne.f k l0 l1) ?_
  unfold laws_FnMsgOne.f
  exact Evs.ite (fun _ => FnMsgOne.main l0 l1 w0 w1 _) (fun _ => FnMsgOne.main l0 l1 w0 w1 _)
end Go.Proofs.YtgekmdfcbcacdaaDoor.Pure
