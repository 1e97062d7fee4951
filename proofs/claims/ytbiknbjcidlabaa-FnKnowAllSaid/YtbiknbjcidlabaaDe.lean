/- What the draw of KnowRead's arguments comes to. -/
import Derived.Test.YtbiknbjcidlabaaHx40
import Derived.Test.YtbiknbjcidlabaaDs
set_option linter.unusedVariables false
set_option linter.unusedSimpArgs false
namespace Go.Proofs.Ytbiknbjcidlabaa.Dm
open Go.RowKit Go.Proofs.Ytbiknbjcidlabaa.Hp Go.Proofs.YtbiknbjcidlabaaW.PrintWords Go.Proofs.Ytbiknbjcidlabaa.Dr

theorem drawKnowRead_ev {l : List Int} (h : ∀ x ∈ l, (Lit.int .u8 x).wf = true) : Evs (fun k => spec_DrawKnowRead.f k l) (fun r => r.1.length ≤ 12 ∧ r.2.length ≤ 20) := by
  unfold spec_DrawKnowRead.f
  obtain ⟨b, hb, hB⟩ := open_ev h
  rw [hb]
  simp only [Option.bind_some]
  refine (keys_ev hB (by omega) (by omega)).bind ?_
  rintro ⟨ks, p1⟩ ⟨hk, h1, h1'⟩
  dsimp only at hk h1 h1' ⊢
  refine (seals_ev hB (by omega) (by omega)).bind ?_
  rintro ⟨ss, p2⟩ ⟨hs, h2, h2'⟩
  dsimp only at hs h2 h2' ⊢
  refine Evs.ite (fun h0 => ?_) (fun _ => Evs.now ⟨by dsimp only; omega, hs⟩)
  refine (pick_ev hB (by omega) (by omega) (by omega) (by omega)).bind ?_
  rintro ⟨x3, p3⟩ ⟨_, h3⟩
  dsimp only at h3 ⊢
  refine Evs.ite (fun _ => ?_) (fun _ => Evs.now ⟨by dsimp only; omega, hs⟩)
  refine (pick_ev hB (by omega) (by omega) (by omega) (by omega)).bind ?_
  rintro ⟨x4, p4⟩ ⟨hx, h4⟩
  dsimp only at hx h4 ⊢
  exact Evs.then_ hx.1 (Evs.then_ hx.2 (Evs.then_ (by omega) (Evs.now ⟨by dsimp only; simp; omega, hs⟩)))
end Go.Proofs.Ytbiknbjcidlabaa.Dm
