/- The law FnExactServOk: at every service the program's ServOk answers as the reference's, and writes nothing into it. No condition but that a list is no longer than a list can be. -/
import Derived.Test.YtpdeincniaiajaaHx62
import Derived.Test.YtpdeincniaiajaaEx
import Derived.Test.YtpdeincniaiajaaEc
import Derived.Test.YtpdeincniaiajaaCa
set_option linter.unusedVariables false
set_option linter.unusedSimpArgs false
namespace Go.Proofs.Ytpdeincniaiajaa.Pure
open Go.RowKit Go.Proofs.Ytpdeincniaiajaa.Hp Go.Proofs.YtpdeincniaiajaaW.PrintWords Go.Proofs.Ytpdeincniaiajaa.Dr
def FnExactServOk.Took (c : S125) : Prop := (1 ≤ c.f0 ∧ c.f0 ≤ 3) ∧ (10 ≤ c.f1 ∧ c.f1 ≤ 60) ∧ (0 ≤ c.f2 ∧ c.f2 ≤ 100) ∧ 1 ≤ c.f3 ∧ c.f3 ≤ 60
theorem FnExactServOk.took_is (c : S125) : ∃ b, spec_l13Took.f c.f0 c.f1 c.f2 c.f3 = some b ∧ (b = true ↔ FnExactServOk.Took c) := by
  unfold spec_l13Took.f FnExactServOk.Took
  simp only [Sl.l1User, Sl.l1Session, Sl.l1Time, Sl.l1Num, Option.bind_some, decide_eq_true_eq]
  repeat' split
  all_goals refine ⟨_, rfl, ?_⟩
  all_goals simp only [decide_eq_true_eq, Bool.false_eq_true, false_iff] <;> omega
theorem FnExactServOk.b_is (c : S125) : impl_ServOk_1.b c = true ↔ ¬ FnExactServOk.Took c := by
  unfold impl_ServOk_1.b impl_ServOk_1.f FnExactServOk.Took
  simp only [Sl.userOk, Sl.madeOk, Sl.timeOk, Sl.numberOk, Option.bind_some, decide_eq_true_eq]
  repeat' split
  all_goals simp only [Option.getD_some, Bool.not_eq_true', decide_eq_false_iff_not, true_iff] <;> omega
def FnExactServOk.Is (id since : Int) (cache : List S57) (took : List S125) : Prop := (4 ≤ id ∧ id ≤ 5) ∧ (-1 ≤ since ∧ since ≤ 100) ∧ Ca.CacheOk cache ∧ ∀ c ∈ took, FnExactServOk.Took c
theorem FnExactServOk.impl (id since : Int) (cache : List S57) (took : List S125) (hl : cache.length ≤ 9223372036854775807) : Evs (fun k => impl_ServOk.f k id since cache took) (fun r => r = true ↔ FnExactServOk.Is id since cache took) := by
  unfold impl_ServOk.f
  simp only [Sl.servOk, Sl.within, Option.bind_some, decide_eq_true_eq]
  refine Evs.ite (fun h1 => Evs.ite (fun h2 => ?_) (fun h => Evs.now ⟨fun e => (by cases e), fun e => absurd e.2.1 h⟩)) (fun h => Evs.now ⟨fun e => (by cases e), fun e => absurd e.1 h⟩)
  refine (Ca.cacheOk_ev cache hl).bind fun r hr => ?_
  refine Evs.ite (fun h3 => ?_) (fun h => Evs.now ⟨fun e => (by cases e), fun e => absurd (hr.2 e.2.2.1) h⟩)
  refine Evs.always (r := !(took.any impl_ServOk_1.b)) rfl ?_
  have ha : (!(took.any impl_ServOk_1.b)) = true ↔ ∀ c ∈ took, FnExactServOk.Took c := by
    rw [Bool.not_eq_true', List.any_eq_false]
    exact ⟨fun e c hc => Classical.byContradiction fun hn => e c hc ((FnExactServOk.b_is c).2 hn), fun e c hc hb => (FnExactServOk.b_is c).1 hb (e c hc)⟩
  exact ha.trans ⟨fun e => ⟨h1, h2, hr.1 h3, e⟩, fun e => e.2.2.2⟩
theorem FnExactServOk.loop (x0 x1 : Int) (cache : List S57) (took : List S125) (hl : took.length ≤ 9223372036854775807) : ∀ d i : Nat, i + d = took.length → Evs (fun k => spec_ServOk.l0 k (i : Int) x0 x1 cache took) (fun r => r = true ↔ ∀ c ∈ took.drop i, FnExactServOk.Took c) := by
  intro d
  induction d with
  | zero =>
    intro i hi
    refine Evs.step (fun k => by simp only [spec_ServOk.l0]; rfl) (Evs.else_ (by omega) (Evs.now ?_))
    rw [List.drop_of_length_le (by omega)]; simp
  | succ d ih =>
    intro i hi
    have hlt : i < took.length := by omega
    have hrd : rd_T125 took (i : Int) = took[i] := by simp [rd_T125, List.getD_eq_getElem?_getD, List.getElem?_eq_getElem hlt]
    refine Evs.step (fun k => by simp only [spec_ServOk.l0]; rfl) (Evs.then_ (by omega) (Evs.then_ (by omega) ?_))
    rw [Ca.next_is hlt hl, hrd, List.drop_eq_getElem_cons hlt]
    obtain ⟨b, hb, hB⟩ := FnExactServOk.took_is took[i]
    rw [hb]
    simp only [Option.bind_some]
    refine Evs.ite (fun h => (ih (i + 1) (by omega)).imp fun r hr => ?_) (fun h => Evs.now ?_)
    · rw [hr, List.forall_mem_cons]
      exact ⟨fun e => ⟨hB.1 h, e⟩, fun e => e.2⟩
    · rw [List.forall_mem_cons]
      exact ⟨fun e => (by cases e), fun e => absurd (hB.2 e.1) h⟩
theorem FnExactServOk.spec (id since : Int) (cache : List S57) (took : List S125) (hl : cache.length ≤ 9223372036854775807) (hl' : took.length ≤ 9223372036854775807) : Evs (fun k => spec_ServOk.f k id since cache took) (fun r => r = true ↔ FnExactServOk.Is id since cache took) := by
  have h1S : ∀ n, spec_l1Serv.f n = some (decide (4 ≤ n ∧ n ≤ 5)) := fun n => by simp only [spec_l1Serv.f, Sl.l6In, Option.bind_some]
  have no : ¬ FnExactServOk.Is id since cache took → Evs (fun k => spec_ServOk.j0 k true id since cache took) (fun r => r = true ↔ FnExactServOk.Is id since cache took) := fun h =>
    Evs.step (fun k => by simp only [spec_ServOk.j0]; rfl) (Evs.then_ (by simp) (Evs.now ⟨fun e => (by cases e), fun e => absurd e h⟩))
  unfold spec_ServOk.f
  simp only [h1S, Sl.l6In, Option.bind_some, decide_eq_true_eq]
  refine Evs.ite (fun h1 => Evs.ite (fun h2 => ?_) (fun h => no fun e => h e.2.1)) (fun h => no fun e => h e.1)
  refine (Ca.specCache_ev cache hl).bind fun r hr => ?_
  cases r with
  | false => exact no fun e => by have := hr.2 e.2.2.1; cases this
  | true =>
    refine Evs.step (fun k => by simp only [spec_ServOk.j0]; rfl) (Evs.else_ (by simp) ?_)
    refine (FnExactServOk.loop id since cache took hl' took.length 0 (by omega)).imp fun q hq => ?_
    rw [hq, List.drop_zero]
    exact ⟨fun e => ⟨h1, h2, hr.1 rfl, e⟩, fun e => e.2.2.2⟩
theorem FnExactServOk (id since : Int) (l : List S72) (m : List S168) (hl : l.length ≤ 9223372036854775807) (hm : m.length ≤ 9223372036854775807) : ∃ k, laws_FnExactServOk.f k id since l m = some true := by
  refine Evs.rounds (g := fun k => laws_FnExactServOk.f k id since l m) ?_
  unfold laws_FnExactServOk.f
  simp only [laws_szServ.f, Ex.sz_is l 1048576 (by omega) (by omega) hl, Option.bind_some]
  by_cases hlen : (1048576 : Int) < l.length
  · rw [if_pos hlen]
    exact Evs.always (r := true) (by simp) rfl
  · rw [if_neg hlen, if_neg (by omega)]
    simp only [Ec.sz_is m (1048576 - l.length) (by omega) (by omega) hm, Option.bind_some]
    by_cases hlen2 : (1048576 : Int) - l.length < m.length
    · rw [if_pos hlen2]
      exact Evs.always (r := true) (by simp) rfl
    · rw [if_neg hlen2, if_neg (by omega)]
      simp only [Option.bind_some]
      refine Evs.else_ (by omega) ?_
      have hto : Evs (fun k => laws_toServ.f k id since l m) (· = (id, since, l.map Ex.conv, m.map Ec.conv)) := by
        unfold laws_toServ.f
        refine (Ex.to_ev l (by omega)).bind ?_
        rintro _ rfl
        refine (Ec.to_ev m (by omega)).bind ?_
        rintro _ rfl
        exact Evs.now rfl
      refine hto.bind ?_
      rintro _ rfl
      refine (FnExactServOk.spec id since (l.map Ex.conv) (m.map Ec.conv) (by simp; omega) (by simp; omega)).bind fun r1 hr1 => ?_
      refine hto.bind ?_
      rintro _ rfl
      refine (FnExactServOk.impl id since (l.map Ex.conv) (m.map Ec.conv) (by simp; omega)).bind fun r2 hr2 => ?_
      obtain rfl : r1 = r2 := Bool.eq_iff_iff.2 (hr1.trans hr2.symm)
      simp only [bne_self_eq_false, Bool.false_eq_true, if_false]
      refine hto.bind ?_
      rintro _ rfl
      have heq : Evs (fun k => laws_eqServ.f k id since (l.map Ex.conv) (m.map Ec.conv) id since (l.map Ex.conv) (m.map Ec.conv)) (· = true) := by
        unfold laws_eqServ.f
        simp only [if_true]
        refine (Ex.eq_ev _ (by simp; omega)).bind ?_
        rintro _ rfl
        refine (Ec.eq_ev _ (by simp; omega)).bind ?_
        rintro _ rfl
        exact Evs.now rfl
      refine heq.bind ?_
      rintro _ rfl
      exact Evs.now rfl
end Go.Proofs.Ytpdeincniaiajaa.Pure
