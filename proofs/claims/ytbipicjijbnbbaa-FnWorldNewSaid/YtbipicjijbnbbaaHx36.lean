-- hp.py
import Derived.Test.YtbipicjijbnbbaaHx0
namespace Go.Proofs.Ytbipicjijbnbbaa.Hp
open Go.RowKit Go.Proofs.YtbipicjijbnbbaaW.PrintWords Go.Proofs.YtbipicjijbnbbaaW.PrintLast Go.Proofs.YtbipicjijbnbbaaW.PrintMore
attribute [local go_sem] max2_int min2_int max_two min_two max_three min_three max_four min_four   -- for this text's walks alone
set_option linter.unusedVariables false
set_option linter.unusedSimpArgs false
-- squeezed by wip/tools/squeeze.py

/-! ### impl_Msg_109: function 109 -/
set_option maxHeartbeats 4000000 in
theorem indexNoMsg.calls (A0 : Option Addr) (c0 : Nat) (fv : Value) (w : World) : Calls Try.prog 155 #[.slice A0 0 c0, fv] w fun e w' => e = .returned (.int .i64 (-1)) ∧ Below w.heap.size w w' := by
  have HB := Aside0.mk (Below.refl w.heap.size w)
  go_enter Try.func155, Try.ntmps155
  go_wp2_with fail
  go_loopg [8] 0 (fun kq v8 w' => v8 = .int .i64 0 ∧ Aside0 (Below w.heap.size w w'))
  case atStart => exact ⟨rfl, ⟨by repeat (first | (with_reducible first | exact HB.out | apply below_alloc | apply pw_below_drewN | apply below_drew1) | exact HB.out)⟩⟩
  case round =>
    obtain ⟨rfl, HW⟩ := hrel
    go_wp2_with fail
    go_ret
    exact ⟨rfl, HW.out⟩
/-- At no words. -/
def impl_Msg_109.f (l0 : List S34) : Option Bool := if l0.isEmpty = true then some false else none
set_option maxHeartbeats 8000000 in
set_option maxRecDepth 100000 in
theorem impl_Msg_109.calls (A0 : Option Addr) (c0 : Nat) (l0 : List S34) (r : Bool) (w : World) (_hr0 : Kd.C k34 w A0 l0.length l0) (_hc0 : l0.length ≤ c0) (h : impl_Msg_109.f l0 = some r) :
    Calls Try.prog 109 #[.slice A0 l0.length c0, .func (Fn.func 110) #[] #[]] w fun e w' => e = .returned (.bool r) ∧ Below w.heap.size w w' := by
  cases l0 with
  | cons x l => simp [impl_Msg_109.f] at h
  | nil =>
    obtain rfl : false = r := by simpa [impl_Msg_109.f] using h
    clear h _hr0 _hc0
    show Calls Try.prog 109 #[.slice A0 0 c0, .func (Fn.func 110) #[] #[]] w _
    go_enter Try.func109, Try.ntmps109
    go_wp2_with (first | (go_at_call 155; refine (indexNoMsg.calls _ _ _ _).mono ?_; rintro e w1 ⟨rfl, hb1⟩))
    go_ret
    exact ⟨rfl, hb1⟩

end Go.Proofs.Ytbipicjijbnbbaa.Hp
