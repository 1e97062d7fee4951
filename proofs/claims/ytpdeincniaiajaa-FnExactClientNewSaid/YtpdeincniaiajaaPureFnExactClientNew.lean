/- The law FnExactClientNew: at every number the program's ClientNew answers as the reference's; its answer owns its memory. For every input. -/
import Derived.Test.YtpdeincniaiajaaHx74
import Derived.Test.YtpdeincniaiajaaDr
import Derived.Test.YtpdeincniaiajaaSl
set_option linter.unusedVariables false
set_option linter.unusedSimpArgs false
namespace Go.Proofs.Ytpdeincniaiajaa.Pure
open Go.RowKit Go.Proofs.Ytpdeincniaiajaa.Hp Go.Proofs.YtpdeincniaiajaaW.PrintWords Go.Proofs.Ytpdeincniaiajaa.Dr
theorem FnExactClientNew : laws_FnExactClientNew.Pure := by
  intro n _
  refine ⟨4, ?_⟩
  have he : ∀ k x y, laws_eqClient.f (k + 1) x y [] [] [] [] x y [] [] [] [] = some true := fun k x y => by simp [laws_eqClient.f, laws_eqWantS.f, laws_eqWantS.l0, laws_eqCredS.f, laws_eqCredS.l0, laws_eqCallS.f, laws_eqCallS.l0]
  have hm : ∀ k x y a, laws_markClient.f (k + 1) x y [] [] [] [] a = some (a, [], [], []) := fun k x y a => by simp [laws_markClient.f, laws_markWantS.f, laws_markWantS.l0, laws_markCredS.f, laws_markCallS.f, laws_markCallS.l0]
  have hh : ∀ k x y, laws_heldClient.f (k + 1) x y [] [] [] [] 1 = some 1 := fun k x y => by simp [laws_heldClient.f, laws_heldWantS.f, laws_heldWantS.l0, laws_heldCredS.f, laws_heldCredS.l0, laws_heldCallS.f, laws_heldCallS.l0]
  by_cases h : 1 ≤ n ∧ n ≤ 3
  · have hd : decide (1 ≤ n ∧ n ≤ 3) = true := decide_eq_true h
    simp [laws_FnExactClientNew.f, laws_FnExactClientNew.j0, laws_FnExactClientNew.j1, spec_ClientNew.f, impl_ClientNew.f, Sl.l1User, Sl.userOk, hd, he, hm, hh]
  · have hd : decide (1 ≤ n ∧ n ≤ 3) = false := decide_eq_false h
    simp [laws_FnExactClientNew.f, laws_FnExactClientNew.j0, laws_FnExactClientNew.j1, spec_ClientNew.f, impl_ClientNew.f, Sl.l1User, Sl.userOk, hd, he, hm, hh]
end Go.Proofs.Ytpdeincniaiajaa.Pure
