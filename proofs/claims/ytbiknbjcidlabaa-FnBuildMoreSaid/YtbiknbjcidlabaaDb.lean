/- What the draw of KnowBuild's arguments comes to. -/
import Derived.Test.YtbiknbjcidlabaaHx62
import Derived.Test.YtbiknbjcidlabaaDm
import Derived.Test.YtbiknbjcidlabaaDs
set_option linter.unusedVariables false
set_option linter.unusedSimpArgs false
namespace Go.Proofs.Ytbiknbjcidlabaa.Dm
open Go.RowKit Go.Proofs.Ytbiknbjcidlabaa.Hp Go.Proofs.YtbiknbjcidlabaaW.PrintWords Go.Proofs.Ytbiknbjcidlabaa.Dr

theorem buildLoop_ev {b : List Int} (hb : Bs b) (ss : List S) (hs : ss.length ≤ 20) (x0 x1 x2 x3 : Int) : ∀ (d i : Nat) (ks : List Int) (ms : List S) (p : Int), i + d = ms.length → d ≤ 3 → ks.length + 2 * d ≤ 30 → ms.length ≤ 3 → 0 ≤ p → p + 5 * d ≤ 900000 →
    Evs (fun k => spec_DrawKnowBuild.l0 k ks ss (i : Int) b p x0 x1 x2 x3 ms) (fun r => r.1.length ≤ 30 ∧ r.2.1 = ss ∧ r.2.2.2.2.2.2.length ≤ 3) := by
  intro d
  induction d with
  | zero =>
    intro i ks ms p hi _ hk hm hp hp'
    exact Evs.step (fun k => by simp only [spec_DrawKnowBuild.l0]; rfl) (Evs.else_ (by omega) (Evs.now ⟨by dsimp only; omega, rfl, by dsimp only; omega⟩))
  | succ d ih =>
    intro i ks ms p hi hd hk hm hp hp'
    have hw : wrap64 ((i : Int) + 1) = ((i + 1 : Nat) : Int) := by rw [w64 (by omega) (by omega)]; rfl
    have tail : ∀ (f : Bool) (q : Int), (f = true → 0 < ss.length) → p ≤ q → q ≤ p + 1 → Evs (fun k => spec_DrawKnowBuild.j1 k ks ss (i : Int) f b q x0 x1 x2 x3 ms) (fun r => r.1.length ≤ 30 ∧ r.2.1 = ss ∧ r.2.2.2.2.2.2.length ≤ 3) := by
      intro f q hf hq hq'
      refine Evs.step (fun k => by simp only [spec_DrawKnowBuild.j1]; rfl) (Evs.ite (fun h => ?_) (fun h => ?_))
      · have h0 := hf h
        refine (pick_ev hb (by omega) (by omega) (by omega) (by omega)).bind ?_
        rintro ⟨x, p1⟩ ⟨hx, h1⟩
        dsimp only at hx h1 ⊢
        refine Evs.then_ hx.1 (Evs.then_ hx.2 (Evs.then_ (by omega) (Evs.then_ (by omega) ?_)))
        rw [hw]
        exact ih (i + 1) ks _ p1 (by rw [List.length_set]; omega) (by omega) (by omega) (by rw [List.length_set]; omega) (by omega) (by omega)
      · refine (pick_ev hb (by omega) (by omega) (by omega) (by omega)).bind ?_
        rintro ⟨x, p1⟩ ⟨hx, h1⟩
        dsimp only at hx h1 ⊢
        refine Evs.ite (fun _ => ?_) (fun _ => ?_)
        · refine Evs.then_ (by omega) (Evs.then_ (by omega) ?_)
          have hh : ∀ a b c d e f g : Int, ∃ r, spec_l1Holds.f a b c d e f g = some r := fun a b c d e f g => by unfold spec_l1Holds.f; (repeat' split) <;> exact ⟨_, rfl⟩
          obtain ⟨r, hr⟩ := hh ((rd_T24 ms (i : Int)).f0) ((rd_T24 ms (i : Int)).f1) ((rd_T24 ms (i : Int)).f2) ((rd_T24 ms (i : Int)).f3) ((rd_T24 ms (i : Int)).f4) ((rd_T24 ms (i : Int)).f5) ((rd_T24 ms (i : Int)).f6)
          rw [hr, hw]
          simp only [Option.bind_some]
          refine Evs.then_ (by simp; omega) ?_
          exact ih (i + 1) _ ms p1 (by omega) (by omega) (by simp; omega) hm (by omega) (by omega)
        · rw [hw]
          exact ih (i + 1) ks ms p1 (by omega) (by omega) (by omega) hm (by omega) (by omega)
    refine Evs.step (fun k => by simp only [spec_DrawKnowBuild.l0]; rfl) (Evs.then_ (by omega) (Evs.ite (fun h => ?_) (fun h => tail false p (fun h => by cases h) (by omega) (by omega))))
    refine (pick_ev hb hp (by omega) (by omega) (by omega)).bind ?_
    rintro ⟨x, p1⟩ ⟨hx, h1⟩
    dsimp only at hx h1 ⊢
    exact tail _ p1 (fun _ => by omega) (by omega) (by omega)
theorem drawKnowBuild_ev {l : List Int} (h : ∀ x ∈ l, (Lit.int .u8 x).wf = true) : Evs (fun k => spec_DrawKnowBuild.f k l) (fun r => r.1.length ≤ 30 ∧ r.2.1.length ≤ 20 ∧ r.2.2.2.2.2.2.length ≤ 3) := by
  unfold spec_DrawKnowBuild.f
  obtain ⟨b, hb, hB⟩ := open_ev h
  rw [hb]
  simp only [Option.bind_some]
  refine (keys_ev hB (by omega) (by omega)).bind ?_
  rintro ⟨ks, p1⟩ ⟨hk, h1, h1'⟩
  dsimp only at hk h1 h1' ⊢
  refine (seals_ev hB (by omega) (by omega)).bind ?_
  rintro ⟨ss, p2⟩ ⟨hs, h2, h2'⟩
  dsimp only at hs h2 h2' ⊢
  refine (msg_ev hB (by omega) (by omega)).bind ?_
  rintro ⟨m1, m2, m3, m4, m5, p3⟩ ⟨⟨h3, h3'⟩, hl⟩
  dsimp only at h3 h3' hl ⊢
  exact (buildLoop_ev hB ss hs m1 m2 m3 m4 m5.length 0 ks m5 p3 (by omega) hl (by omega) hl (by omega) (by omega)).imp fun r hr => ⟨hr.1, by rw [hr.2.1]; exact hs, hr.2.2⟩
end Go.Proofs.Ytbiknbjcidlabaa.Dm
