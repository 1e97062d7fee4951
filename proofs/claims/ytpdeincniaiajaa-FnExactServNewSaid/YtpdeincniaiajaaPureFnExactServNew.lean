/- The law FnExactServNew: at every number the program's ServNew answers as the reference's; its answer owns its memory. For every input. -/
import Derived.Test.YtpdeincniaiajaaHx33
import Derived.Test.YtpdeincniaiajaaDr
import Derived.Test.YtpdeincniaiajaaSl
set_option linter.unusedVariables false
set_option linter.unusedSimpArgs false
namespace Go.Proofs.Ytpdeincniaiajaa.Pure
open Go.RowKit Go.Proofs.Ytpdeincniaiajaa.Hp Go.Proofs.YtpdeincniaiajaaW.PrintWords Go.Proofs.Ytpdeincniaiajaa.Dr
theorem FnExactServNew : laws_FnExactServNew.Pure := by
  intro n _
  refine ⟨4, ?_⟩
  have hs : spec_l1Serv.f n = some (decide (4 ≤ n ∧ n ≤ 5)) := by simp only [spec_l1Serv.f, Sl.l6In, Option.bind_some]
  have he : ∀ k x y, laws_eqServ.f (k + 1) x y [] [] x y [] [] = some true := fun k x y => by simp [laws_eqServ.f, laws_eqSealS.f, laws_eqSealS.l0, laws_eqCallS.f, laws_eqCallS.l0]
  have hm : ∀ k x y a, laws_markServ.f (k + 1) x y [] [] a = some (a, [], []) := fun k x y a => by simp [laws_markServ.f, laws_markSealS.f, laws_markSealS.l0, laws_markCallS.f, laws_markCallS.l0]
  have hh : ∀ k x y, laws_heldServ.f (k + 1) x y [] [] 1 = some 1 := fun k x y => by simp [laws_heldServ.f, laws_heldSealS.f, laws_heldSealS.l0, laws_heldCallS.f, laws_heldCallS.l0]
  by_cases h : 4 ≤ n ∧ n ≤ 5
  · have hd : decide (4 ≤ n ∧ n ≤ 5) = true := decide_eq_true h
    simp [laws_FnExactServNew.f, laws_FnExactServNew.j0, laws_FnExactServNew.j1, spec_ServNew.f, impl_ServNew.f, hs, Sl.servOk, hd, he, hm, hh]
  · have hd : decide (4 ≤ n ∧ n ≤ 5) = false := decide_eq_false h
    simp [laws_FnExactServNew.f, laws_FnExactServNew.j0, laws_FnExactServNew.j1, spec_ServNew.f, impl_ServNew.f, hs, Sl.servOk, hd, he, hm, hh]
end Go.Proofs.Ytpdeincniaiajaa.Pure
