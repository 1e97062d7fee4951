/- What the reference's draws of keys and of lists of seals come to: short lists, whatever the bytes. -/
import Derived.Test.YtgekmdfcbcacdaaHx26
import Derived.Test.YtgekmdfcbcacdaaHx27
import Derived.Test.YtgekmdfcbcacdaaDr
set_option linter.unusedVariables false
set_option linter.unusedSimpArgs false
namespace Go.Proofs.Ytgekmdfcbcacdaa.Dm
open Go.RowKit Go.Proofs.Ytgekmdfcbcacdaa.Hp Go.Proofs.YtgekmdfcbcacdaaW.PrintWords Go.Proofs.Ytgekmdfcbcacdaa.Dr

abbrev T := S41
theorem keysLoop_ev {b : List Int} (hb : Bs b) : ∀ (d : Nat) (acc : List Int) (p : Int), d ≤ 10 → acc.length + d ≤ 10 → 0 ≤ p → p + 20 * d ≤ 700000 →
    Evs (fun k => spec_l71Keys.l0 k acc (d : Int) b p) (fun r => r.1.length ≤ 11 ∧ p ≤ r.2 ∧ r.2 ≤ p + 4 * d + 2) := by
  intro d
  induction d with
  | zero =>
    intro acc p _ ha hp hp'
    refine Evs.step (fun k => by simp only [spec_l71Keys.l0]; rfl) (Evs.else_ (by omega) ?_)
    refine (pick_ev hb hp (by omega) (by omega) (by omega)).bind ?_
    rintro ⟨x, p1⟩ ⟨_, h1⟩
    dsimp only at h1 ⊢
    refine Evs.ite (fun _ => ?_) (fun _ => Evs.now ⟨by dsimp only; omega, by dsimp only; omega, by dsimp only; omega⟩)
    simp only [Option.bind_some]
    refine (pick_ev hb (by omega) (by omega) (by omega) (by omega)).bind ?_
    rintro ⟨x2, p2⟩ ⟨hx, h2⟩
    dsimp only at hx h2 ⊢
    exact Evs.then_ hx.1 (Evs.then_ (by simp; omega) (Evs.then_ (by omega) (Evs.now ⟨by dsimp only; simp; omega, by dsimp only; omega, by dsimp only; omega⟩)))
  | succ d ih =>
    intro acc p hd ha hp hp'
    refine Evs.step (fun k => by simp only [spec_l71Keys.l0]; rfl) (Evs.then_ (by omega) ?_)
    refine (pick_ev hb hp (by omega) (by omega) (by omega)).bind ?_
    rintro ⟨x1, p1⟩ ⟨_, h1⟩
    dsimp only at h1 ⊢
    refine (key_ev hb (by omega) (by omega)).bind ?_
    rintro ⟨x2, p2⟩ ⟨_, h2⟩
    dsimp only at h2 ⊢
    refine (pick_ev hb (by omega) (by omega) (by omega) (by omega)).bind ?_
    rintro ⟨x3, p3⟩ ⟨_, h3⟩
    dsimp only at h3 ⊢
    simp only [Option.bind_some]
    refine (pick_ev hb (by omega) (by omega) (by omega) (by omega)).bind ?_
    rintro ⟨x4, p4⟩ ⟨hx, h4⟩
    dsimp only at hx h4 ⊢
    refine Evs.then_ hx.1 (Evs.then_ (by simp; omega) (Evs.then_ (by omega) ?_))
    rw [show wrap64 (((d + 1 : Nat) : Int) - 1) = (d : Int) from by rw [w64 (by omega) (by omega)]; omega]
    exact (ih _ p4 (by omega) (by simp; omega) (by omega) (by omega)).imp fun r hr => ⟨hr.1, by omega, by omega⟩
theorem keys_ev {b : List Int} (hb : Bs b) {p : Int} (hp : 0 ≤ p) (hp' : p ≤ 600000) : Evs (fun k => spec_l71Keys.f k b p) (fun r => r.1.length ≤ 11 ∧ p ≤ r.2 ∧ r.2 ≤ p + 20) := by
  unfold spec_l71Keys.f
  refine (pick_ev hb hp (by omega) (by omega) (by omega)).bind ?_
  rintro ⟨x, p1⟩ ⟨hx, h1⟩
  dsimp only at hx h1 ⊢
  obtain ⟨n, rfl⟩ := Int.eq_ofNat_of_zero_le hx.1
  exact (keysLoop_ev hb n [] p1 (by omega) (by simp; omega) (by omega) (by omega)).imp fun r hr => ⟨hr.1, by omega, by omega⟩
theorem sealsLoop_ev {b : List Int} (hb : Bs b) : ∀ (d : Nat) (acc : List T) (p : Int), d ≤ 20 → acc.length + d ≤ 20 → 0 ≤ p → p + 20 * d ≤ 700000 →
    Evs (fun k => spec_l71Seals.l0 k acc (d : Int) b p) (fun r => r.1.length ≤ 20 ∧ p ≤ r.2 ∧ r.2 ≤ p + 14 * d) := by
  intro d
  induction d with
  | zero =>
    intro acc p _ ha hp hp'
    exact Evs.step (fun k => by simp only [spec_l71Seals.l0]; rfl) (Evs.else_ (by omega) (Evs.now ⟨by dsimp only; omega, by dsimp only; omega, by dsimp only; omega⟩))
  | succ d ih =>
    intro acc p hd ha hp hp'
    refine Evs.step (fun k => by simp only [spec_l71Seals.l0]; rfl) (Evs.then_ (by omega) ?_)
    refine (seal_ev hb hp (by omega)).bind ?_
    rintro ⟨s1, s2, s3, s4, s5, s6, s7, p1⟩ ⟨h1, h1'⟩
    dsimp only at h1 h1' ⊢
    refine Evs.then_ (by omega) ?_
    rw [show wrap64 (((d + 1 : Nat) : Int) - 1) = (d : Int) from by rw [w64 (by omega) (by omega)]; omega]
    exact (ih _ p1 (by omega) (by simp; omega) (by omega) (by omega)).imp fun r hr => ⟨hr.1, by omega, by omega⟩
theorem seals_ev {b : List Int} (hb : Bs b) {p : Int} (hp : 0 ≤ p) (hp' : p ≤ 600000) : Evs (fun k => spec_l71Seals.f k b p) (fun r => r.1.length ≤ 20 ∧ p ≤ r.2 ∧ r.2 ≤ p + 200) := by
  unfold spec_l71Seals.f
  refine (pick_ev hb hp (by omega) (by omega) (by omega)).bind ?_
  rintro ⟨x, p1⟩ ⟨hx, h1⟩
  dsimp only at hx h1 ⊢
  obtain ⟨n, rfl⟩ := Int.eq_ofNat_of_zero_le hx.1
  exact (sealsLoop_ev hb n [] p1 (by omega) (by simp; omega) (by omega) (by omega)).imp fun r hr => ⟨hr.1, by omega, by omega⟩
end Go.Proofs.Ytgekmdfcbcacdaa.Dm
