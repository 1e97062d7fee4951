/- What the reference's draws of seals come to: from some number of rounds on each answers (no draw panics), whatever the bytes. No condition but that the bytes are bytes. -/
import Derived.Test.YtbipicjijbnbbaaHx6
import Derived.Test.YtbipicjijbnbbaaHx5
import Derived.Test.YtbipicjijbnbbaaDr0
import Derived.Laws.BitsLemmas
set_option linter.unusedVariables false
set_option linter.unusedSimpArgs false
namespace Go.Proofs.Ytbipicjijbnbbaa.Dr
open Go.RowKit Go.Proofs.Ytbipicjijbnbbaa.Hp Go.Proofs.YtbipicjijbnbbaaW.PrintWords

/-- The bytes that a reader holds. -/
def Bs (b : List Int) : Prop := b.length ≤ 2000 ∧ ∀ x ∈ b, 0 ≤ x ∧ x ≤ 255
theorem Bs.rd {b : List Int} (h : Bs b) (i : Int) : 0 ≤ rd b i ∧ rd b i ≤ 255 := by
  unfold Go.Proofs.YtbipicjijbnbbaaW.PrintWords.rd
  rw [List.getD_eq_getElem?_getD]
  by_cases hi : i.toNat < b.length
  · rw [List.getElem?_eq_getElem hi]
    exact h.2 _ (List.getElem_mem _)
  · rw [List.getElem?_eq_none (by omega)]
    simp

theorem pick_ev {b : List Int} (hb : Bs b) {p n : Int} (hp : 0 ≤ p) (hp' : p ≤ 1000000) (hn : 1 ≤ n) (hn' : n ≤ 1000000) :
    Evs (fun k => spec_l6Rd_pick.f k b p n) (fun r => (0 ≤ r.1 ∧ r.1 < n) ∧ r.2 = p + 1) := by
  unfold spec_l6Rd_pick.f
  refine Evs.else_ (by omega) ?_
  have e1 : wrap64 (p + 1) = p + 1 := w64 (by omega) (by omega)
  have e2 : wrap64 (p + 1 - 1) = p := by rw [w64 (by omega) (by omega)]; omega
  rw [e1]
  refine Evs.step (fun k => by simp only [spec_l6Rd_pick.j0]; rfl) ?_
  by_cases hl : (b.length : Int) = 0
  · exact Evs.then_ (by simpa using hl) (Evs.now ⟨⟨by simp, by simp; omega⟩, rfl⟩)
  · refine Evs.else_ (by simpa using hl) ?_
    rw [e2]
    have hlb := hb.1
    refine Evs.ite (fun hlt => ?_) (fun hge => ?_)
    · refine Evs.then_ hp (Evs.else_ (by omega) (Evs.now ⟨?_, rfl⟩))
      have := hb.rd p
      rw [w64 (by omega) (by omega)]
      rw [Int.tmod_eq_emod_of_nonneg (by omega)]
      exact ⟨Int.emod_nonneg _ (by omega), Int.emod_lt_of_pos _ (by omega)⟩
    · refine Evs.else_ hl ?_
      have t1 : Int.tmod p (b.length : Int) = p % (b.length : Int) := Int.tmod_eq_emod_of_nonneg hp
      have e3 : wrap64 (p * 7) = p * 7 := w64 (by omega) (by omega)
      have e4 : wrap64 (p * 7 + 3) = p * 7 + 3 := w64 (by omega) (by omega)
      have t2 : Int.tmod (p * 7 + 3) (b.length : Int) = (p * 7 + 3) % (b.length : Int) := Int.tmod_eq_emod_of_nonneg (by omega)
      have t3 : Int.tdiv p (b.length : Int) = p / (b.length : Int) := Int.tdiv_eq_ediv_of_nonneg hp
      rw [e3, e4, t1, t2, t3]
      have m1 : 0 ≤ p % (b.length : Int) := Int.emod_nonneg _ hl
      have m2 : p % (b.length : Int) < (b.length : Int) := Int.emod_lt_of_pos _ (by omega)
      have m3 : 0 ≤ (p * 7 + 3) % (b.length : Int) := Int.emod_nonneg _ hl
      have m4 : (p * 7 + 3) % (b.length : Int) < (b.length : Int) := Int.emod_lt_of_pos _ (by omega)
      refine Evs.then_ m1 (Evs.then_ m2 (Evs.then_ m3 (Evs.then_ m4 (Evs.else_ (by omega) (Evs.now ⟨?_, rfl⟩)))))
      have d0 : 0 ≤ p / (b.length : Int) := Int.ediv_nonneg hp (by omega)
      have d1 : p / (b.length : Int) ≤ p := Int.ediv_le_self _ hp
      obtain ⟨r1, r2⟩ := hb.rd (p % (b.length : Int))
      obtain ⟨r3, r4⟩ := hb.rd ((p * 7 + 3) % (b.length : Int))
      generalize rd b (p % (b.length : Int)) = u at *
      generalize rd b ((p * 7 + 3) % (b.length : Int)) = v at *
      generalize p / (b.length : Int) = d at *
      have f1 : wrap64 u = u := w64 (by omega) (by omega)
      have f2 : wrap64 v = v := w64 (by omega) (by omega)
      have f3 : wrap64 (u * 131) = u * 131 := w64 (by omega) (by omega)
      have f4 : wrap64 (v * 1117) = v * 1117 := w64 (by omega) (by omega)
      have f5 : wrap64 (u * 131 + v * 1117) = u * 131 + v * 1117 := w64 (by omega) (by omega)
      have f6 : wrap64 (p * 29) = p * 29 := w64 (by omega) (by omega)
      have f7 : wrap64 (u * 131 + v * 1117 + p * 29) = u * 131 + v * 1117 + p * 29 := w64 (by omega) (by omega)
      have f8 : wrap64 d = d := w64 (by omega) (by omega)
      have f9 : wrap64 (d * 53) = d * 53 := w64 (by omega) (by omega)
      have f10 : wrap64 (u * 131 + v * 1117 + p * 29 + d * 53) = u * 131 + v * 1117 + p * 29 + d * 53 := w64 (by omega) (by omega)
      rw [f1, f2, f3, f4, f5, f6, f7, f8, f9, f10]
      generalize hX : u * 131 + v * 1117 + p * 29 + d * 53 = X
      have hX0 : 0 ≤ X := by omega
      have hX1 : X < 2 ^ 62 := by omega
      rw [Int.tdiv_eq_ediv_of_nonneg hX0, w64 (by omega) (by omega)]
      have hx := xor_nonneg X (X / 64) hX0 hX1 (by omega) (by omega)
      rw [Int.tmod_eq_emod_of_nonneg hx]
      exact ⟨Int.emod_nonneg _ (by omega), Int.emod_lt_of_pos _ (by omega)⟩

/-- The reader is opened. -/
theorem open_ev {l : List Int} (h : ∀ x ∈ l, (Lit.int .u8 x).wf = true) : ∃ b, spec_l6Open.f l = some (b, 0) ∧ Bs b := by
  have hr : ∀ x ∈ l, 0 ≤ x ∧ x ≤ 255 := by
    intro x hx
    have h1 := h x hx
    have hmin : IntKind.u8.min = 0 := rfl
    have hmax : IntKind.u8.max = 255 := rfl
    simp only [Lit.wf, Bool.and_eq_true, decide_eq_true_eq] at h1
    omega
  unfold spec_l6Open.f
  by_cases hl : (l.length : Int) > 2000
  · rw [if_pos hl, if_pos (by omega)]
    exact ⟨_, rfl, by rw [List.length_take]; omega, fun x hx => hr x (List.mem_of_mem_take hx)⟩
  · rw [if_neg hl]
    exact ⟨_, rfl, by omega, hr⟩

end Go.Proofs.Ytbipicjijbnbbaa.Dr
