/- The law FnClientNew: a user begins with nothing, and comes to nothing by asking. For every input. -/
import Derived.Test.YtbipicjijbnbbaaHx15
import Derived.Test.YtbipicjijbnbbaaDr
set_option linter.unusedVariables false
set_option linter.unusedSimpArgs false
namespace Go.Proofs.Ytbipicjijbnbbaa.Pure
open Go.RowKit Go.Proofs.Ytbipicjijbnbbaa.Hp Go.Proofs.YtbipicjijbnbbaaW.PrintWords Go.Proofs.Ytbipicjijbnbbaa.Dr
theorem FnClientNew : laws_FnClientNew.Pure := by
  intro l0 hw
  have hd : Evs (fun k => spec_DrawClientNew.f k l0) (fun _ => True) := by
    unfold spec_DrawClientNew.f
    obtain ⟨b, hb, hB⟩ := open_ev hw
    rw [hb]
    simp only [Option.bind_some]
    refine (pick_ev hB (by omega) (by omega) (by omega) (by omega)).bind ?_
    rintro ⟨x, p⟩ _
    exact Evs.now trivial
  obtain ⟨id, ⟨K, hK⟩, _⟩ := hd
  refine ⟨K + 8, id, hK _ (by omega), fun i => ?_⟩
  simp [laws_lbClient.f, laws_lbClient.j0, laws_lbClient.l0, laws_lbClient.l1, laws_lbCalls.f, laws_lbCalls.l0]
end Go.Proofs.Ytbipicjijbnbbaa.Pure
