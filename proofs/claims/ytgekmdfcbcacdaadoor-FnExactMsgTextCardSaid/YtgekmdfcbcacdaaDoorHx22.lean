-- hp.py
import Derived.Test.YtgekmdfcbcacdaaDoorHx0
import Derived.Test.YtgekmdfcbcacdaaDoorHx2
import Derived.Test.YtgekmdfcbcacdaaDoorHx3
namespace Go.Proofs.YtgekmdfcbcacdaaDoor.Hp
open Go.RowKit Go.Proofs.YtgekmdfcbcacdaaDoorW.PrintWords Go.Proofs.YtgekmdfcbcacdaaDoorW.PrintLast Go.Proofs.YtgekmdfcbcacdaaDoorW.PrintMore
attribute [local go_sem] max2_int min2_int max_two min_two max_three min_three max_four min_four   -- for this text's walks alone
set_option linter.unusedVariables false
set_option linter.unusedSimpArgs false
-- squeezed by wip/tools/squeeze.py

/-! ### spec_l1Serv: function 68 -/
def spec_l1Serv.f (a0 : Int) : Option (Bool) := (spec_l6In.f a0 4 5).bind fun t298 => (some t298)
set_option maxHeartbeats 8000000 in
set_option maxRecDepth 100000 in
theorem spec_l1Serv.calls (a0 : Int) (r : Bool) (w : World) (h : spec_l1Serv.f a0 = some r) :
  Calls Tryd.prog 68 #[.int .i64 a0] w fun e w' => e = .returned (.bool r) ∧ Drawn0 w w' := by
 have H : ((spec_l6In.f a0 4 5).bind fun t298 => (some t298)) = some r := h
 clear h
 replace H := Option.bind_eq_some_iff.mp H
 obtain ⟨t298, A20, H⟩ := H
 replace H : (some t298) = some r := H
 have A2 := Aside0.mk A20
 clear A20
 obtain rfl := Option.some.inj H
 go_enter Tryd.func68, Tryd.ntmps68
 go_wp2_with (first | ((with_reducible refine gate_callee (f := 48) rfl ?_); refine goesL_ (some 4) rfl rfl Tryd.func48 (by kernel_rfl) rfl #[.int .i64 a0, .int .i64 4, .int .i64 5] rfl (by (try simp only [List.map_toArray, List.map_cons, List.map_nil]); first | done | rfl | (simp only [List.length_drop, List.length_take]; rfl)) ?_; (with_reducible refine (spec_l6In.calls a0 4 5 t298 _ A2.out).mono ?_); rintro e w' ⟨rfl, ⟨nd, rfl⟩⟩; refine ⟨_, rfl, ?_⟩))
 go_ret
 exact ⟨by first | rfl | (simp; done) | (simp [*]; done), by repeat (first | exact Drawn0.refl _ | apply Drawn0.step)⟩

/-! ### impl_Msg_shaped: function 69 -/
/-- A word is of its kind, but for its seals. -/
def shapeB (kind client serv nonce : Int) (n : Nat) : Bool :=
  if kind = 1 then rng client 1 3 && ((serv == 0) && (rng nonce 1 60 && ((n : Int) == 0)))
  else if kind = 2 then rng client 1 3 && ((serv == 0) && ((nonce == 0) && ((n : Int) == 2)))
  else if kind = 3 then (client == 0) && (rng serv 4 5 && (rng nonce 1 60 && ((n : Int) == 2)))
  else if kind = 4 then rng client 1 3 && ((serv == 0) && ((nonce == 0) && ((n : Int) == 2)))
  else if kind = 5 then (client == 0) && (rng serv 4 5 && ((nonce == 0) && ((n : Int) == 2)))
  else if kind = 6 then rng client 1 3 && ((serv == 0) && ((nonce == 0) && ((n : Int) == 1)))
  else false
theorem path3 : ∀ a b c : Bool, a = false ∨ (a = true ∧ b = false) ∨ (a = true ∧ b = true ∧ c = false) ∨ (a = true ∧ b = true ∧ c = true) := by decide
def impl_Msg_shaped.f (kind client serv nonce : Int) (l : List S24) : Option Bool := some (shapeB kind client serv nonce l.length)
set_option maxHeartbeats 16000000 in
set_option maxRecDepth 100000 in
theorem impl_Msg_shaped.calls (kind client serv nonce : Int) (A : Option Addr) (c : Nat) (l : List S24) (r : Bool) (w : World) (hr : Kd.C k24 w A l.length l) (hc : l.length ≤ c) (h : impl_Msg_shaped.f kind client serv nonce l = some r) :
    Calls Tryd.prog 69 #[.agg #[.int .i64 kind, .int .i64 client, .int .i64 serv, .int .i64 nonce, .slice A l.length c]] w fun e w' => e = .returned (.bool r) ∧ Below w.heap.size w w' := by
  obtain rfl : shapeB kind client serv nonce l.length = r := Option.some.inj h
  clear h hr hc
  generalize l.length = n
  by_cases k1 : kind = 1
  case' pos =>
    subst k1
    rcases path3 (rng client 1 3) (serv == 0) (rng nonce 1 60) with h1 | ⟨h1, h2⟩ | ⟨h1, h2, h3⟩ | ⟨h1, h2, h3⟩
  case' neg =>
    have e1 : (kind == 1) = false := beq_eq_false_iff_ne.2 k1
    by_cases k2 : kind = 2
    case' pos =>
      subst k2
      rcases path3 (rng client 1 3) (serv == 0) (nonce == 0) with h1 | ⟨h1, h2⟩ | ⟨h1, h2, h3⟩ | ⟨h1, h2, h3⟩
    case' neg =>
      have e2 : (kind == 2) = false := beq_eq_false_iff_ne.2 k2
      by_cases k4 : kind = 4
      case' pos =>
        subst k4
        rcases path3 (rng client 1 3) (serv == 0) (nonce == 0) with h1 | ⟨h1, h2⟩ | ⟨h1, h2, h3⟩ | ⟨h1, h2, h3⟩
      case' neg =>
        have e4 : (kind == 4) = false := beq_eq_false_iff_ne.2 k4
        by_cases k3 : kind = 3
        case' pos =>
          subst k3
          rcases path3 (client == 0) (rng serv 4 5) (rng nonce 1 60) with h1 | ⟨h1, h2⟩ | ⟨h1, h2, h3⟩ | ⟨h1, h2, h3⟩
        case' neg =>
          have e3 : (kind == 3) = false := beq_eq_false_iff_ne.2 k3
          by_cases k5 : kind = 5
          case' pos =>
            subst k5
            rcases path3 (client == 0) (rng serv 4 5) (nonce == 0) with h1 | ⟨h1, h2⟩ | ⟨h1, h2, h3⟩ | ⟨h1, h2, h3⟩
          case' neg =>
            have e5 : (kind == 5) = false := beq_eq_false_iff_ne.2 k5
            by_cases k6 : kind = 6
            case' pos =>
              subst k6
              rcases path3 (rng client 1 3) (serv == 0) (nonce == 0) with h1 | ⟨h1, h2⟩ | ⟨h1, h2, h3⟩ | ⟨h1, h2, h3⟩
            case' neg =>
              have e6 : (kind == 6) = false := beq_eq_false_iff_ne.2 k6
  all_goals
    go_enter Tryd.func69, Tryd.ntmps69
    go_wp2_with fail
    go_quiet (fail)
    go_wp2_with (first | (go_at_call 43; refine (impl_userOk.calls _ _ _ (userOk_rng _)).mono ?_; rintro e w1 ⟨rfl, hd⟩; obtain ⟨m, rfl⟩ := hd.out; clear hd) | (go_at_call 66; refine (impl_servOk.calls _ _ _ (servOk_rng _)).mono ?_; rintro e w1 ⟨rfl, hd⟩; obtain ⟨m, rfl⟩ := hd.out; clear hd) | (go_at_call 47; refine (impl_numberOk.calls _ _ _ (numberOk_rng _)).mono ?_; rintro e w1 ⟨rfl, hd⟩; obtain ⟨m, rfl⟩ := hd.out; clear hd))
    go_ret
    exact ⟨by simp [shapeB, *], by repeat (first | (with_reducible exact Below.refl _ _) | apply pw_below_drewN | apply below_drew1 | apply below_alloc)⟩

end Go.Proofs.YtgekmdfcbcacdaaDoor.Hp
