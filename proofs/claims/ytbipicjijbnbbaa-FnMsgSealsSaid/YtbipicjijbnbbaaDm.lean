/- What the reference's draw of a word comes to: from some number of rounds on it answers, with few seals, whatever the bytes. -/
import Derived.Test.YtbipicjijbnbbaaHx6
import Derived.Test.YtbipicjijbnbbaaDr
set_option linter.unusedVariables false
set_option linter.unusedSimpArgs false
namespace Go.Proofs.Ytbipicjijbnbbaa.Dm
open Go.RowKit Go.Proofs.Ytbipicjijbnbbaa.Hp Go.Proofs.YtbipicjijbnbbaaW.PrintWords Go.Proofs.Ytbipicjijbnbbaa.Dr

abbrev S := S41
/-- A word that was drawn: few seals, the reader a little further on. -/
def OnM (p c : Int) (m : Nat) (r : Int × Int × Int × Int × List S × Int) : Prop := (p ≤ r.2.2.2.2.2 ∧ r.2.2.2.2.2 ≤ p + c) ∧ r.2.2.2.2.1.length ≤ m
theorem msgLoop_ev {b : List Int} (hb : Bs b) (many : Nat) (hm : many ≤ 2) (x0 x1 x2 x3 : Int) : ∀ (d i : Nat) (acc : List S) (p : Int), i + d = many → acc.length = i → 0 ≤ p → p + 20 * d ≤ 700000 →
    Evs (fun k => spec_l71Msg.l0 k (many : Int) (i : Int) b p x0 x1 x2 x3 acc) (OnM p (10 * d + 20) (many + 1)) := by
  intro d
  induction d with
  | zero =>
    intro i acc p hi ha hp hp'
    refine Evs.step (fun k => by simp only [spec_l71Msg.l0]; rfl) (Evs.else_ (by omega) ?_)
    refine (pick_ev hb hp (by omega) (by omega) (by omega)).bind ?_
    rintro ⟨x, p1⟩ ⟨_, h1⟩
    dsimp only at h1 ⊢
    refine Evs.ite (fun _ => ?_) (fun _ => Evs.ite (fun _ => ?_) (fun _ => Evs.ite (fun _ => ?_) (fun _ => Evs.ite (fun _ => ?_) (fun _ => Evs.ite (fun _ => ?_) (fun _ => Evs.now ⟨⟨by dsimp only; omega, by dsimp only; omega⟩, by dsimp only; omega⟩)))))
    · refine (pick_ev hb (by omega) (by omega) (by omega) (by omega)).bind ?_
      rintro ⟨x2, p2⟩ ⟨_, h2⟩
      dsimp only at h2 ⊢
      exact Evs.now ⟨⟨by dsimp only; omega, by dsimp only; omega⟩, by dsimp only; omega⟩
    · refine (pick_ev hb (by omega) (by omega) (by omega) (by omega)).bind ?_
      rintro ⟨x2, p2⟩ ⟨_, h2⟩
      dsimp only at h2 ⊢
      exact Evs.now ⟨⟨by dsimp only; omega, by dsimp only; omega⟩, by dsimp only; omega⟩
    · refine (pick_ev hb (by omega) (by omega) (by omega) (by omega)).bind ?_
      rintro ⟨x2, p2⟩ ⟨_, h2⟩
      dsimp only at h2 ⊢
      exact Evs.now ⟨⟨by dsimp only; omega, by dsimp only; omega⟩, by dsimp only; omega⟩
    · simp only [Option.bind_some]
      refine (pick_ev hb (by omega) (by omega) (by omega) (by omega)).bind ?_
      rintro ⟨x2, p2⟩ ⟨hx, h2⟩
      dsimp only at hx h2 ⊢
      exact Evs.then_ hx.1 (Evs.then_ (by simp; omega) (Evs.now ⟨⟨by dsimp only; omega, by dsimp only; omega⟩, by dsimp only; omega⟩))
    · refine (seal_ev hb (by omega) (by omega)).bind ?_
      rintro ⟨s1, s2, s3, s4, s5, s6, s7, p2⟩ ⟨h2, h2'⟩
      dsimp only at h2 h2' ⊢
      exact Evs.then_ (by omega) (Evs.now ⟨⟨by dsimp only; omega, by dsimp only; omega⟩, by dsimp only; simp; omega⟩)
  | succ d ih =>
    intro i acc p hi ha hp hp'
    refine Evs.step (fun k => by simp only [spec_l71Msg.l0]; rfl) (Evs.then_ (by omega) ?_)
    refine (fine_ev hb hp (by omega)).bind ?_
    rintro ⟨s1, s2, s3, s4, s5, s6, s7, p1⟩ ⟨h1, h1'⟩
    dsimp only at h1 h1' ⊢
    refine Evs.then_ (by omega) ?_
    rw [show wrap64 ((i : Int) + 1) = ((i + 1 : Nat) : Int) from by rw [w64 (by omega) (by omega)]; rfl]
    refine (ih (i + 1) _ p1 (by omega) (by simp; omega) (by omega) (by omega)).imp fun r hr => ?_
    obtain ⟨⟨g1, g2⟩, g3⟩ := hr
    exact ⟨⟨by omega, by omega⟩, g3⟩
theorem msg_ev {b : List Int} (hb : Bs b) {p : Int} (hp : 0 ≤ p) (hp' : p ≤ 600000) : Evs (fun k => spec_l71Msg.f k b p) (OnM p 50 3) := by
  have tail : ∀ (many : Nat), many ≤ 2 → ∀ (x0 x1 x2 x3 q : Int), 0 ≤ q → q ≤ 690000 → Evs (fun k => spec_l71Msg.j0 k (many : Int) b q x0 x1 x2 x3 []) (OnM q 40 3) := by
    intro many hm x0 x1 x2 x3 q hq hq'
    refine Evs.step (fun k => by simp only [spec_l71Msg.j0]; rfl) ?_
    refine (msgLoop_ev hb many hm x0 x1 x2 x3 many 0 [] q (by omega) rfl hq (by omega)).imp fun r hr => ?_
    obtain ⟨⟨g1, g2⟩, g3⟩ := hr
    exact ⟨⟨by omega, by omega⟩, by omega⟩
  have up : ∀ {q : Int} {r : Int × Int × Int × Int × List S × Int}, p ≤ q → q ≤ p + 10 → OnM q 40 3 r → OnM p 50 3 r := fun h1 h2 ⟨⟨g1, g2⟩, g3⟩ => ⟨⟨by omega, by omega⟩, g3⟩
  unfold spec_l71Msg.f
  refine (pick_ev hb hp (by omega) (by omega) (by omega)).bind ?_
  rintro ⟨x, p1⟩ ⟨_, h1⟩
  dsimp only at h1 ⊢
  simp only [Option.bind_some]
  refine Evs.ite (fun _ => ?_) (fun _ => Evs.ite (fun _ => ?_) (fun _ => Evs.ite (fun _ => ?_) (fun _ => Evs.ite (fun _ => ?_) (fun _ => ?_))))
  · refine (pick_ev hb (by omega) (by omega) (by omega) (by omega)).bind ?_
    rintro ⟨x2, p2⟩ ⟨_, h2⟩
    dsimp only at h2 ⊢
    refine (pick_ev hb (by omega) (by omega) (by omega) (by omega)).bind ?_
    rintro ⟨x3, p3⟩ ⟨_, h3⟩
    dsimp only at h3 ⊢
    exact (tail 0 (by omega) _ _ _ _ p3 (by omega) (by omega)).imp fun r hr => up (by omega) (by omega) hr
  · refine (pick_ev hb (by omega) (by omega) (by omega) (by omega)).bind ?_
    rintro ⟨x2, p2⟩ ⟨_, h2⟩
    dsimp only at h2 ⊢
    refine (pick_ev hb (by omega) (by omega) (by omega) (by omega)).bind ?_
    rintro ⟨x3, p3⟩ ⟨_, h3⟩
    dsimp only at h3 ⊢
    exact (tail 2 (by omega) _ _ _ _ p3 (by omega) (by omega)).imp fun r hr => up (by omega) (by omega) hr
  · refine (pick_ev hb (by omega) (by omega) (by omega) (by omega)).bind ?_
    rintro ⟨x2, p2⟩ ⟨_, h2⟩
    dsimp only at h2 ⊢
    exact (tail 2 (by omega) _ _ _ _ p2 (by omega) (by omega)).imp fun r hr => up (by omega) (by omega) hr
  · refine (pick_ev hb (by omega) (by omega) (by omega) (by omega)).bind ?_
    rintro ⟨x2, p2⟩ ⟨_, h2⟩
    dsimp only at h2 ⊢
    exact (tail 1 (by omega) _ _ _ _ p2 (by omega) (by omega)).imp fun r hr => up (by omega) (by omega) hr
  · refine (pick_ev hb (by omega) (by omega) (by omega) (by omega)).bind ?_
    rintro ⟨x2, p2⟩ ⟨_, h2⟩
    dsimp only at h2 ⊢
    exact (tail 2 (by omega) _ _ _ _ p2 (by omega) (by omega)).imp fun r hr => up (by omega) (by omega) hr
end Go.Proofs.Ytbipicjijbnbbaa.Dm
