-- hp.py
import Derived.Test.YtbipicjijbnbbaaHx0
import Derived.Test.YtbipicjijbnbbaaHx10
import Derived.Test.YtbipicjijbnbbaaSl
namespace Go.Proofs.Ytbipicjijbnbbaa.Hp
open Go.RowKit Go.Proofs.YtbipicjijbnbbaaW.PrintWords Go.Proofs.YtbipicjijbnbbaaW.PrintLast Go.Proofs.YtbipicjijbnbbaaW.PrintMore
attribute [local go_sem] max2_int min2_int max_two min_two max_three min_three max_four min_four   -- for this text's walks alone
set_option linter.unusedVariables false
set_option linter.unusedSimpArgs false
-- squeezed by wip/tools/squeeze.py

/-! ### impl_Seal_141: function 141 -/
-- IMPORT Derived.Test.YtbipicjijbnbbaaSl
/-- Is the test of a seal true? (The function value is MsgOk's.) -/
def impl_MsgOk_1.b (x : S41) : Bool := (impl_MsgOk_1.f x.f0 x.f1 x.f2 x.f3 x.f4 x.f5 x.f6).getD false
theorem impl_MsgOk_1.total (x : S41) : impl_MsgOk_1.f x.f0 x.f1 x.f2 x.f3 x.f4 x.f5 x.f6 = some (impl_MsgOk_1.b x) := by
  unfold impl_MsgOk_1.b
  simp only [impl_MsgOk_1.f, Go.Proofs.Ytbipicjijbnbbaa.Sl.impl_ok, Option.bind_some, Option.getD_some]
def sealNone (l : List S41) (x : Int) : Prop := ∀ j : Nat, (j : Int) < x → impl_MsgOk_1.b (rd_T41 l j) = false
def sealSome (l : List S41) (r : Int) : Prop := (r = -1 ∧ sealNone l l.length) ∨ (0 ≤ r ∧ r < l.length ∧ impl_MsgOk_1.b (rd_T41 l r) = true)
set_option maxHeartbeats 8000000 in
set_option maxRecDepth 100000 in
theorem impl_Seal_141.calls (A0 : Option Addr) (c0 : Nat) (l0 : List S41) (w : World) (hr0 : Kd.C k41 w A0 l0.length l0) :
    Calls Try.prog 141 #[.slice A0 l0.length c0, .func (Fn.func 82) #[] #[]] w fun e w' => (∃ r : Int, sealSome l0 r ∧ e = .returned (.int .i64 r)) ∧ Below w.heap.size w w' := by
  have hlen := hr0.2.1
  have HL := Aside0.mk hlen
  have HR0 := Aside0.mk hr0
  clear hr0
  go_enter Try.func141, Try.ntmps141
  go_wp2_with fail
  go_loopg [8] l0.length (fun kq v8 w' => ∃ (x8 : Int), v8 = .int .i64 x8 ∧ Aside0 (0 ≤ x8 ∧ x8 + kq = l0.length) ∧ Aside0 (sealNone l0 x8) ∧ Aside0 (Below w.heap.size w w'))
  case atStart => exact ⟨0, by first | rfl | (simp; done) | (simp [*]; done), ⟨by omega⟩, ⟨fun j hj => by omega⟩, ⟨by first | exact Below.refl _ _ | exact below_drew (Below.refl _ _)⟩⟩
  case round =>
    obtain ⟨x8, rfl, HX, HN, HB⟩ := hrel
    by_cases hlt : x8 < (l0.length : Int)
    · have c1 : decide (x8 < (l0.length : Int)) = true := decide_eq_true hlt
      have p0 : 0 ≤ x8 := HX.out.1
      obtain ⟨ad, e0, hx0, hx1, hx2, hx3, hx4, hx5, hx6⟩ := at_T41 HR0.out x8 p0 hlt
      cases e0
      replace hx0 := (HB.out.cell (World.block_lt_of_cell? w _ hx0)).trans hx0
      replace hx1 := (HB.out.cell (World.block_lt_of_cell? w _ hx1)).trans hx1
      replace hx2 := (HB.out.cell (World.block_lt_of_cell? w _ hx2)).trans hx2
      replace hx3 := (HB.out.cell (World.block_lt_of_cell? w _ hx3)).trans hx3
      replace hx4 := (HB.out.cell (World.block_lt_of_cell? w _ hx4)).trans hx4
      replace hx5 := (HB.out.cell (World.block_lt_of_cell? w _ hx5)).trans hx5
      replace hx6 := (HB.out.cell (World.block_lt_of_cell? w _ hx6)).trans hx6
      have hw1 : x8 + 1 ≤ 9223372036854775807 := by have := HL.out; omega
      cases hb : impl_MsgOk_1.b (rd_T41 l0 x8) with
      | true =>
        have HF := Aside0.mk ((impl_MsgOk_1.total (rd_T41 l0 x8)).trans (by rw [hb]))
        have HS := Aside0.mk hb
        clear hb
        go_wp2_with (first | (go_at_call 82; refine (impl_MsgOk_1.calls _ _ _ _ _ _ _ true _ HF.out).mono ?_; rintro e w1 ⟨rfl, hb1⟩))
        go_ret
        exact ⟨⟨_, .inr ⟨p0, hlt, HS.out⟩, rfl⟩, below_then HB.out HB.out.size hb1⟩
      | false =>
        have HF := Aside0.mk ((impl_MsgOk_1.total (rd_T41 l0 x8)).trans (by rw [hb]))
        have HS := Aside0.mk hb
        clear hb
        go_wp2_with (first | (go_at_call 82; refine (impl_MsgOk_1.calls _ _ _ _ _ _ _ false _ HF.out).mono ?_; rintro e w1 ⟨rfl, hb1⟩))
        go_roundg (gk - 1)
        case measure => have := HX.out.2; omega
        case rel =>
          refine ⟨x8 + 1, by first | rfl | (simp; done) | (simp [*]; done), ⟨by have := HX.out; omega⟩, ⟨fun j hj => ?_⟩, ⟨below_then HB.out HB.out.size hb1⟩⟩
          by_cases hj' : (j : Int) < x8
          · exact HN.out j hj'
          · obtain rfl : (j : Int) = x8 := by omega
            exact HS.out
    · have c1 : decide (x8 < (l0.length : Int)) = false := decide_eq_false hlt
      go_wp2_with fail
      go_ret
      exact ⟨⟨-1, .inl ⟨rfl, fun j hj => HN.out j (by have := HX.out; omega)⟩, rfl⟩, HB.out⟩

end Go.Proofs.Ytbipicjijbnbbaa.Hp
