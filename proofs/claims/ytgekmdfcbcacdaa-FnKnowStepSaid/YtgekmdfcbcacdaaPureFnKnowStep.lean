/- The law FnKnowStep: who has one of the keys that one comes to, or the seals that one reads, a second time comes to the same keys. For every input. -/
import Derived.Test.YtgekmdfcbcacdaaHx36
import Derived.Test.YtgekmdfcbcacdaaDk
import Derived.Test.YtgekmdfcbcacdaaKc
import Derived.Test.YtgekmdfcbcacdaaLi
set_option linter.unusedVariables false
set_option linter.unusedSimpArgs false
namespace Go.Proofs.Ytgekmdfcbcacdaa.Pure
open Go.RowKit Go.Proofs.Ytgekmdfcbcacdaa.Hp Go.Proofs.YtgekmdfcbcacdaaW.PrintWords Go.Proofs.Ytgekmdfcbcacdaa.Dr Go.Proofs.Ytgekmdfcbcacdaa.Kn Go.Proofs.Ytgekmdfcbcacdaa.Rd
theorem FnKnowStep : laws_FnKnowStep.Pure := by
  intro l0 l1 hw
  obtain ⟨⟨ks, ss⟩, ⟨k0, h0⟩, h1, h2⟩ := Dm.drawKnowKeys_ev hw
  dsimp only at h1 h2
  obtain ⟨_, ⟨k1, e1⟩, rfl⟩ := knowKeys_ev ks ss (by omega) (by omega)
  have hlen := keys_len ks ss
  obtain ⟨_, ⟨k2, e2⟩, rfl⟩ := Li.ints_ev (keysOf (ringF ks ss)) (by omega)
  refine ⟨max k0 (max k1 k2), ks, keysOf (ringF ks ss), ss, h0 _ (by omega), by omega, by omega, hlen, rfl, e1 _ (by omega), e2 _ (by omega), fun x hx => ?_, ?_⟩
  · show some (keysOf (ringF (ks ++ [x]) ss)) = _
    rw [ring_same (keys := ks ++ [x]) (keys' := ks) (ss' := ss)]
    intro j
    refine ⟨fun h => Can.mono (fun y hy y1 y2 => ?_) (fun s hs s0 hk => .got hs s0 hk) h, fun h => can_sub (fun _ h => List.mem_append_left _ h) (fun _ h => h) h⟩
    rcases List.mem_append.1 hy with hy | hy
    · exact .had hy y1 y2
    · obtain rfl := List.mem_singleton.1 hy
      exact mem_keysOf.1 hx
  · show some (keysOf (ringF ks (ss ++ readOf (ringF ks ss) ss))) = _
    rw [ring_same (keys := ks) (ss := ss ++ readOf (ringF ks ss) ss) (keys' := ks) (ss' := ss)]
    intro j
    refine ⟨fun h => can_sub (fun _ h => h) (fun s hs => ?_) h, fun h => can_sub (fun _ h => h) (fun _ h => List.mem_append_left _ h) h⟩
    rcases List.mem_append.1 hs with hs | hs
    · exact hs
    · exact (List.mem_filter.1 hs).1
end Go.Proofs.Ytgekmdfcbcacdaa.Pure
