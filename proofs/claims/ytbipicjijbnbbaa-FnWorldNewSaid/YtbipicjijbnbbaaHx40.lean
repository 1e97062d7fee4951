-- hp.py
import Derived.Test.YtbipicjijbnbbaaHx0
import Derived.Test.YtbipicjijbnbbaaHx38
import Derived.Test.YtbipicjijbnbbaaMk0
namespace Go.Proofs.Ytbipicjijbnbbaa.Hp
open Go.RowKit Go.Proofs.YtbipicjijbnbbaaW.PrintWords Go.Proofs.YtbipicjijbnbbaaW.PrintLast Go.Proofs.YtbipicjijbnbbaaW.PrintMore
attribute [local go_sem] max2_int min2_int max_two min_two max_three min_three max_four min_four   -- for this text's walks alone
set_option linter.unusedVariables false
set_option linter.unusedSimpArgs false
-- squeezed by wip/tools/squeeze.py

/-! ### impl_World_seals: function 106 -/
-- IMPORT Derived.Test.YtbipicjijbnbbaaMk0
/-- At no words. -/
def impl_World_seals.f (s0_0 : Int) (s0_1 : Int) (s0_2 : List S41) (s0_3 : List S28) (s0_4 : List S128) (s0_5 : List S34) (s0_6 : Int) : Option (List S41 × Int × Int × Int) := if s0_5.isEmpty = true then some ([], s0_0, s0_1, s0_6) else none
set_option maxHeartbeats 4000000 in
theorem clipNoSeal.calls (A0 : Option Addr) (w : World) : Calls Try.prog 151 #[.slice A0 0 0] w fun e w' => e = .returned (.slice A0 0 0) ∧ Below w.heap.size w w' := by
  have HB := Aside0.mk (Below.refl w.heap.size w)
  go_enter Try.func151, Try.ntmps151
  go_wp2_with fail
  go_ret
  exact ⟨rfl, by repeat (first | (with_reducible first | exact HB.out | apply below_alloc | apply pw_below_drewN | apply below_drew1) | exact HB.out)⟩
set_option maxHeartbeats 8000000 in
set_option maxRecDepth 100000 in
theorem impl_World_seals.calls (g : Nat) (s0_0 : Int) (s0_1 : Int) (s0_2 : List S41) (s0_3 : List S28) (s0_4 : List S128) (s0_5 : List S34) (s0_6 : Int) (r1 : List S41) (r2 : Int) (r3 : Int) (r4 : Int) (w0 w : World) (hI : IsS69 w0 w g s0_0 s0_1 s0_2 s0_3 s0_4 s0_5 s0_6) (hB : Below w0.heap.size w0 w) (h : impl_World_seals.f s0_0 s0_1 s0_2 s0_3 s0_4 s0_5 s0_6 = some (r1, r2, r3, r4)) :
    Calls Try.prog 106 #[.pointer (some ⟨g, 0, none⟩)] w fun e w' => ∃ v0_ : Value, e = .returned (v0_) ∧ Kd.R k41 41 w' w.heap.size (fun _ => True) v0_ r1 ∧ IsS69 w0 w' g r2 r3 s0_2 s0_3 s0_4 s0_5 r4 ∧ Below w0.heap.size w0 w' ∧ KeepBut w w' g none := by
  cases s0_5 with
  | cons x l => simp [impl_World_seals.f] at h
  | nil =>
    simp only [impl_World_seals.f, List.isEmpty_nil, if_true, Option.some.injEq, Prod.mk.injEq] at h
    obtain ⟨rfl, rfl, rfl, rfl⟩ := h
    have HI0 := Aside0.mk hI
    obtain ⟨A2, c2, A3, c3, A4, c4, A5, c5, HG, hg, HS2, HS3, HS4, HS5⟩ := hI
    have HL := Aside0.mk hB
    have hc5 : ∀ o : Obj, (w.alloc o).cell? ⟨g, 5, none⟩ = some (.slice A5 0 c5) := fun o => cellS69_5 (blk_alloc HG o)
    have HO := Aside0.mk (rMade0 k41 (w := w) (base := w.heap.size) (e := 41) (c := 0) (zs := #[]) (ok := fun _ => True) (by rfl) (by decide) trivial (Nat.le_refl _))
    have HK := Aside0.mk (keep_alloc (KeepBut.refl w g none) (.cells #[] 41))
    have HI1 := Aside0.mk (IsS69.alloc HI0.out (.cells #[] 41))
    have HB1 := Aside0.mk (below_alloc HL.out (.cells #[] 41))
    clear HG hg HI0 HL HS2 HS3 HS4 HS5 hB
    go_enter Try.func106, Try.ntmps106
    go_wp2_with fail
    generalize hW : w.alloc (.cells #[] 41) = w1 at HO HK HI1 HB1 ⊢
    clear hc5 hW
    generalize hg1 : w.heap.size = g1 at HO ⊢
    go_loopg [3, 14] 0 (fun kq v3 v14 w' => v3 = .slice (some ⟨g1, 0, none⟩) 0 0 ∧ v14 = .int .i64 0 ∧ Aside0 (Below w1.heap.size w1 w'))
    case atStart => exact ⟨rfl, rfl, ⟨Below.refl _ _⟩⟩
    case round =>
      obtain ⟨rfl, rfl, HW⟩ := hrel
      go_wp2_with (first | (go_at_call 151; refine (clipNoSeal.calls _ _).mono ?_; rintro e w2 ⟨rfl, hb2⟩; have HB2 := Aside0.mk (below_step HW.out hb2); clear hb2))
      go_ret
      exact ⟨_, rfl, by rw [hg1]; exact Kd.R_below HO.out HB2.out, IsS69.below HI1.out HB2.out, below_step HB1.out HB2.out, KeepBut.trans HK.out (KeepBut.of_below HB2.out g none) (.inl rfl)⟩

end Go.Proofs.Ytbipicjijbnbbaa.Hp
