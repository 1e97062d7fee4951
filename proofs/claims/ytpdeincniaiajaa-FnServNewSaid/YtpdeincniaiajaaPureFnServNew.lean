/- The law FnServNew: a drawn service begins as the reference says, is ok, and nobody has called it. For every input. -/
import Derived.Test.YtpdeincniaiajaaHx110
import Derived.Test.YtpdeincniaiajaaDr
import Derived.Test.YtpdeincniaiajaaSl
set_option linter.unusedVariables false
set_option linter.unusedSimpArgs false
namespace Go.Proofs.Ytpdeincniaiajaa.Pure
open Go.RowKit Go.Proofs.Ytpdeincniaiajaa.Hp Go.Proofs.YtpdeincniaiajaaW.PrintWords Go.Proofs.Ytpdeincniaiajaa.Dr

theorem FnServNew.draw {l : List Int} (h : ∀ x ∈ l, (Lit.int .u8 x).wf = true) : Evs (fun k => spec_DrawServNew.f k l) (fun _ => True) := by
  unfold spec_DrawServNew.f
  obtain ⟨b, hb, hB⟩ := open_ev h
  rw [hb]
  simp only [Option.bind_some]
  refine (pick_ev hB (by omega) (by omega) (by omega) (by omega)).bind ?_
  rintro ⟨x2, p2⟩ ⟨_, h2⟩
  exact Evs.now trivial
theorem FnServNew.l1Serv (n : Int) : spec_l1Serv.f n = some (decide (4 ≤ n ∧ n ≤ 5)) := by simp only [spec_l1Serv.f, Sl.l6In, Option.bind_some]
theorem FnServNew.servSame (k : Nat) (x y : Int) : laws_lbServ.f (k + 1) x y [] [] x y [] [] = some true := by
  simp [laws_lbServ.f, laws_lbSeals.f, laws_lbSeals.l0, laws_lbCalls.f, laws_lbCalls.l0]
theorem FnServNew.same_ev (x y : Int) : Evs (fun k => laws_lbServ.f k x y [] [] x y [] []) (· = true) :=
  Evs.step (f := fun _ => some true) (fun k => FnServNew.servSame k x y) (Evs.now rfl)
theorem FnServNew.begun (k : Nat) (n : Int) (h : 4 ≤ n ∧ n ≤ 5) : impl_ServOk.f (k + 1) n (-1) [] [] = some true := by
  have hd : decide (4 ≤ n ∧ n ≤ 5) = true := by simpa using h
  simp only [impl_ServOk.f, Sl.servOk, Sl.within, Option.bind_some, hd, if_true, impl_cacheOk.f, impl_cacheOk.l0]
  rfl
theorem FnServNew.begun_ev (n : Int) (h : 4 ≤ n ∧ n ≤ 5) : Evs (fun k => impl_ServOk.f k n (-1) [] []) (· = true) :=
  Evs.step (f := fun _ => some true) (fun k => FnServNew.begun k n h) (Evs.now rfl)

theorem FnServNew : laws_FnServNew.Pure := by
  intro l0 _ _ w0
  refine Evs.rounds (g := fun k => laws_FnServNew.f k l0) ?_
  unfold laws_FnServNew.f
  refine Evs.ite (fun _ => Evs.now rfl) (fun _ => ?_)
  refine (FnServNew.draw w0).bind ?_
  intro n _
  simp only [spec_ServNew.f, impl_ServNew.f, FnServNew.l1Serv, Sl.servOk, Option.bind_some]
  by_cases h : 4 ≤ n ∧ n ≤ 5
  · have hd : decide (4 ≤ n ∧ n ≤ 5) = true := by simpa using h
    simp only [hd, if_true, Option.bind_some, bne_self_eq_false, Bool.false_eq_true, if_false]
    refine (FnServNew.same_ev n (-1)).bind ?_
    rintro _ rfl
    simp only [if_true]
    refine Evs.step (fun k => by simp only [laws_FnServNew.j0]; rfl) (Evs.else_ (by simp) ?_)
    refine (FnServNew.begun_ev n h).bind ?_
    rintro _ rfl
    simp only [if_true]
    exact Evs.now (by simp [wrap64])
  · have hd : decide (4 ≤ n ∧ n ≤ 5) = false := by simpa using h
    simp only [hd, Bool.false_eq_true, if_false, Option.bind_some, bne_self_eq_false]
    refine (FnServNew.same_ev 0 0).bind ?_
    rintro _ rfl
    simp only [if_true]
    refine Evs.step (fun k => by simp only [laws_FnServNew.j0]; rfl) (Evs.then_ (by simp) (Evs.then_ (by simp) ?_))
    refine (FnServNew.same_ev 0 0).bind ?_
    rintro _ rfl
    exact Evs.now rfl
end Go.Proofs.Ytpdeincniaiajaa.Pure
