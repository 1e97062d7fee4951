/- What the draw of MsgOk's argument comes to. -/
import Derived.Test.YtbipicjijbnbbaaHx7
import Derived.Test.YtbipicjijbnbbaaDm
set_option linter.unusedVariables false
set_option linter.unusedSimpArgs false
namespace Go.Proofs.Ytbipicjijbnbbaa.Dm
open Go.RowKit Go.Proofs.Ytbipicjijbnbbaa.Hp Go.Proofs.YtbipicjijbnbbaaW.PrintWords Go.Proofs.Ytbipicjijbnbbaa.Dr

theorem drawMsgOk_ev {l : List Int} (h : ∀ x ∈ l, (Lit.int .u8 x).wf = true) : Evs (fun k => spec_DrawMsgOk.f k l) (fun r => r.2.2.2.2.length ≤ 3) := by
  unfold spec_DrawMsgOk.f
  obtain ⟨b, hb, hB⟩ := open_ev h
  rw [hb]
  simp only [Option.bind_some]
  refine (msg_ev hB (by omega) (by omega)).bind ?_
  rintro ⟨m1, m2, m3, m4, m5, p1⟩ ⟨⟨h1, h1'⟩, hl⟩
  dsimp only at h1 h1' hl ⊢
  refine (pick_ev hB (by omega) (by omega) (by omega) (by omega)).bind ?_
  rintro ⟨x2, p2⟩ ⟨_, h2⟩
  dsimp only at h2 ⊢
  refine Evs.ite (fun _ => ?_) (fun _ => Evs.now hl)
  refine (pick_ev hB (by omega) (by omega) (by omega) (by omega)).bind ?_
  rintro ⟨x3, p3⟩ ⟨_, h3⟩
  exact Evs.now hl
end Go.Proofs.Ytbipicjijbnbbaa.Dm
