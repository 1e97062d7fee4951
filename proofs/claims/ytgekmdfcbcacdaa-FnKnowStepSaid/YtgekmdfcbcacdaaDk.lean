/- What the draw of KnowKeys' arguments comes to. -/
import Derived.Test.YtgekmdfcbcacdaaHx28
import Derived.Test.YtgekmdfcbcacdaaDs
set_option linter.unusedVariables false
set_option linter.unusedSimpArgs false
namespace Go.Proofs.Ytgekmdfcbcacdaa.Dm
open Go.RowKit Go.Proofs.Ytgekmdfcbcacdaa.Hp Go.Proofs.YtgekmdfcbcacdaaW.PrintWords Go.Proofs.Ytgekmdfcbcacdaa.Dr

theorem drawKnowKeys_ev {l : List Int} (h : ∀ x ∈ l, (Lit.int .u8 x).wf = true) : Evs (fun k => spec_DrawKnowKeys.f k l) (fun r => r.1.length ≤ 11 ∧ r.2.length ≤ 20) := by
  unfold spec_DrawKnowKeys.f
  obtain ⟨b, hb, hB⟩ := open_ev h
  rw [hb]
  simp only [Option.bind_some]
  refine (keys_ev hB (by omega) (by omega)).bind ?_
  rintro ⟨ks, p1⟩ ⟨hk, h1, h1'⟩
  dsimp only at hk h1 h1' ⊢
  refine (seals_ev hB (by omega) (by omega)).bind ?_
  rintro ⟨ss, p2⟩ ⟨hs, h2, h2'⟩
  exact Evs.now ⟨hk, hs⟩
end Go.Proofs.Ytgekmdfcbcacdaa.Dm
