/- What the draw of CacheWith's arguments comes to. -/
import Derived.Test.YtgekmdfcbcacdaaHx47
import Derived.Test.YtgekmdfcbcacdaaDr
import Derived.Test.YtgekmdfcbcacdaaCa
set_option linter.unusedVariables false
set_option linter.unusedSimpArgs false
namespace Go.Proofs.Ytgekmdfcbcacdaa.Dw
open Go.RowKit Go.Proofs.Ytgekmdfcbcacdaa.Hp Go.Proofs.YtgekmdfcbcacdaaW.PrintWords Go.Proofs.Ytgekmdfcbcacdaa.Dr

abbrev Q (r : List S41 × Int × Int × Int × Int × Int × Int × Int × Int) : Prop := r.1.length ≤ 40
theorem l1_ev {b : List Int} (hB : Bs b) (t : Int) (a0 a1 a2 a3 a4 a5 a6 : Int) : ∀ d : Nat, ∀ (l : List S41) (p : Int), l.length + d = 30 → 0 ≤ p → p + 2 * d ≤ 2000 → Evs (fun k => spec_DrawCacheWith.l1 k t l b p a0 a1 a2 a3 a4 a5 a6) Q := by
  intro d
  induction d with
  | zero =>
    intro l p hl h0 h1
    refine Evs.step (fun k => by simp only [spec_DrawCacheWith.l1]; rfl) ?_
    refine (pick_ev hB h0 (by omega) (by omega) (by omega)).bind ?_
    rintro ⟨x, q⟩ ⟨hx, hq⟩
    dsimp only at hx hq ⊢
    refine Evs.else_ (by rw [w64 (by omega) (by omega)]; omega) ?_
    refine (pick_ev hB (by omega) (by omega) (by omega) (by omega)).bind ?_
    rintro ⟨y, q2⟩ ⟨hy, hq2⟩
    exact Evs.now (show l.length ≤ 40 by omega)
  | succ d ih =>
    intro l p hl h0 h1
    refine Evs.step (fun k => by simp only [spec_DrawCacheWith.l1]; rfl) ?_
    refine (pick_ev hB h0 (by omega) (by omega) (by omega)).bind ?_
    rintro ⟨x, q⟩ ⟨hx, hq⟩
    dsimp only at hx hq ⊢
    refine Evs.ite (fun h => Evs.then_ (by omega) (ih _ _ (by rw [List.length_append, List.length_singleton]; omega) (by omega) (by omega))) (fun h => ?_)
    refine (pick_ev hB (by omega) (by omega) (by omega) (by omega)).bind ?_
    rintro ⟨y, q2⟩ ⟨hy, hq2⟩
    exact Evs.now (show l.length ≤ 40 by omega)
theorem l0_ev {b : List Int} (hB : Bs b) (t : Int) : ∀ c : Nat, ∀ (l : List S41) (p : Int), l.length + c ≤ 10 → 0 ≤ p → p + 10 * c ≤ 1000 → Evs (fun k => spec_DrawCacheWith.l0 k t l (c : Int) b p) Q := by
  intro c
  induction c with
  | zero =>
    intro l p hl h0 h1
    refine Evs.step (fun k => by simp only [spec_DrawCacheWith.l0]; rfl) (Evs.else_ (by omega) ?_)
    refine (key_ev hB h0 (by omega)).bind ?_
    rintro ⟨x1, p1⟩ ⟨hx1, h1'⟩
    dsimp only at hx1 h1' ⊢
    refine (pick_ev hB (by omega) (by omega) (by omega) (by omega)).bind ?_
    rintro ⟨x2, p2⟩ ⟨hx2, h2⟩
    dsimp only at hx2 h2 ⊢
    refine (pick_ev hB (by omega) (by omega) (by omega) (by omega)).bind ?_
    rintro ⟨x3, p3⟩ ⟨hx3, h3⟩
    dsimp only at hx3 h3 ⊢
    refine (pick_ev hB (by omega) (by omega) (by omega) (by omega)).bind ?_
    rintro ⟨x4, p4⟩ ⟨hx4, h4⟩
    dsimp only at hx4 h4 ⊢
    refine (pick_ev hB (by omega) (by omega) (by omega) (by omega)).bind ?_
    rintro ⟨x5, p5⟩ ⟨hx5, h5⟩
    dsimp only at hx5 h5 ⊢
    have last : ∀ (a0 a1 a2 a3 a4 a5 a6 : Int) (g : Int → Int), Evs (fun k => (spec_l6Rd_pick.f k b p5 30).bind fun r => some (l, a0, a1, a2, a3, a4, a5, a6, g r.1)) Q := fun a0 a1 a2 a3 a4 a5 a6 g =>
      (pick_ev hB (by omega) (by omega) (by omega) (by omega)).bind fun r hr => Evs.now (show l.length ≤ 40 by omega)
    refine Evs.ite (fun _ => ?_) (fun _ => Evs.ite (fun _ => Evs.ite (fun hp => ?_) (fun _ => last _ _ _ _ _ _ _ (fun x => wrap64 (t + wrap64 (wrap64 (Int.tdiv x 29) * 100))))) (fun _ => Evs.ite (fun _ => last _ _ _ _ _ _ _ (fun x => wrap64 (t + wrap64 (wrap64 (Int.tdiv x 29) * 100)))) (fun _ => Evs.ite (fun _ => ?_) (fun _ => Evs.ite (fun _ => ?_) (fun _ => last _ _ _ _ _ _ _ (fun x => wrap64 (t + wrap64 (wrap64 (Int.tdiv x 29) * 100))))))))
    · refine (seal_ev hB (by omega) (by omega)).bind ?_
      rintro ⟨s0, s1, s2, s3, s4, s5, s6, p6⟩ ⟨h6, h6'⟩
      dsimp only at h6 h6' ⊢
      exact (pick_ev hB (by omega) (by omega) (by omega) (by omega)).bind fun r hr => Evs.now (show l.length ≤ 40 by omega)
    · refine (pick_ev hB (by omega) (by omega) (by omega) (by omega)).bind ?_
      rintro ⟨x6, p6⟩ ⟨hx6, h6⟩
      dsimp only at hx6 h6 ⊢
      refine Evs.then_ hx6.1 (Evs.then_ hx6.2 ?_)
      exact (pick_ev hB (by omega) (by omega) (by omega) (by omega)).bind fun r hr => Evs.now (show l.length ≤ 40 by omega)
    · exact l1_ev hB t _ _ _ _ _ _ _ (30 - l.length) l p5 (by omega) (by omega) (by omega)
    · refine (seal_ev hB (by omega) (by omega)).bind ?_
      rintro ⟨s0, s1, s2, s3, s4, s5, s6, p6⟩ ⟨h6, h6'⟩
      dsimp only at h6 h6' ⊢
      refine Evs.then_ (by omega) ?_
      exact (pick_ev hB (by omega) (by omega) (by omega) (by omega)).bind fun r hr => Evs.now (by show (l ++ [_]).length ≤ 40; rw [List.length_append, List.length_singleton]; omega)
  | succ c ih =>
    intro l p hl h0 h1
    refine Evs.step (fun k => by simp only [spec_DrawCacheWith.l0]; rfl) (Evs.then_ (by omega) ?_)
    rw [show wrap64 (((c + 1 : Nat) : Int) - 1) = (c : Int) by rw [w64 (by omega) (by omega)]; omega]
    refine (key_ev hB h0 (by omega)).bind ?_
    rintro ⟨x1, p1⟩ ⟨hx1, h1'⟩
    dsimp only at hx1 h1' ⊢
    refine (pick_ev hB (by omega) (by omega) (by omega) (by omega)).bind ?_
    rintro ⟨x2, p2⟩ ⟨hx2, h2⟩
    dsimp only at hx2 h2 ⊢
    refine (pick_ev hB (by omega) (by omega) (by omega) (by omega)).bind ?_
    rintro ⟨x3, p3⟩ ⟨hx3, h3⟩
    dsimp only at hx3 h3 ⊢
    refine (pick_ev hB (by omega) (by omega) (by omega) (by omega)).bind ?_
    rintro ⟨x4, p4⟩ ⟨hx4, h4⟩
    dsimp only at hx4 h4 ⊢
    refine (Ca.among_ev l ⟨x1, 3, wrap64 (1 + x2), mx (wrap64 (t - x3)) 0, wrap64 (1 + x4), 0, 0⟩ (by omega)).bind fun r hr => ?_
    refine Evs.ite (fun _ => ih l p4 (by omega) (by omega) (by omega)) (fun _ => Evs.then_ (by omega) (ih _ p4 (by rw [List.length_append, List.length_singleton]; omega) (by omega) (by omega)))
theorem draw_ev {l : List Int} (h : ∀ x ∈ l, (Lit.int .u8 x).wf = true) : Evs (fun k => spec_DrawCacheWith.f k l) Q := by
  unfold spec_DrawCacheWith.f
  obtain ⟨b, hb, hB⟩ := open_ev h
  rw [hb]
  simp only [Option.bind_some]
  refine (pick_ev hB (by omega) (by omega) (by omega) (by omega)).bind ?_
  rintro ⟨x1, p1⟩ ⟨hx1, h1⟩
  dsimp only at hx1 h1 ⊢
  refine (pick_ev hB (by omega) (by omega) (by omega) (by omega)).bind ?_
  rintro ⟨x2, p2⟩ ⟨hx2, h2⟩
  dsimp only at hx2 h2 ⊢
  obtain ⟨c, rfl⟩ : ∃ c : Nat, x2 = (c : Int) := ⟨x2.toNat, by omega⟩
  exact l0_ev hB x1 c [] p2 (by simp; omega) (by omega) (by omega)
end Go.Proofs.Ytgekmdfcbcacdaa.Dw
