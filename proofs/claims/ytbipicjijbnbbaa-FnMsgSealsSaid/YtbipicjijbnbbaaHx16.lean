-- hp.py
import Derived.Test.YtbipicjijbnbbaaHx0
import Derived.Test.YtbipicjijbnbbaaHx9
import Derived.Test.YtbipicjijbnbbaaHx10
import Derived.Test.YtbipicjijbnbbaaHx11
import Derived.Test.YtbipicjijbnbbaaHx15
namespace Go.Proofs.Ytbipicjijbnbbaa.Hp
open Go.RowKit Go.Proofs.YtbipicjijbnbbaaW.PrintWords Go.Proofs.YtbipicjijbnbbaaW.PrintLast Go.Proofs.YtbipicjijbnbbaaW.PrintMore
attribute [local go_sem] max2_int min2_int max_two min_two max_three min_three max_four min_four   -- for this text's walks alone
set_option linter.unusedVariables false
set_option linter.unusedSimpArgs false
-- squeezed by wip/tools/squeeze.py

/-! ### spec_l1Serv: function 85 -/
def spec_l1Serv.f (a0 : Int) : Option (Bool) := (spec_l6In.f a0 4 5).bind fun t274 => (some t274)
set_option maxHeartbeats 8000000 in
set_option maxRecDepth 100000 in
theorem spec_l1Serv.calls (a0 : Int) (r : Bool) (w : World) (h : spec_l1Serv.f a0 = some r) :
  Calls Try.prog 85 #[.int .i64 a0] w fun e w' => e = .returned (.bool r) ∧ Drawn0 w w' := by
 have H : ((spec_l6In.f a0 4 5).bind fun t274 => (some t274)) = some r := h
 clear h
 replace H := Option.bind_eq_some_iff.mp H
 obtain ⟨t274, A20, H⟩ := H
 replace H : (some t274) = some r := H
 have A2 := Aside0.mk A20
 clear A20
 obtain rfl := Option.some.inj H
 go_enter Try.func85, Try.ntmps85
 go_wp2_with (first | ((with_reducible refine gate_callee (f := 98) rfl ?_); refine goesL_ (some 4) rfl rfl Try.func98 (by kernel_rfl) rfl #[.int .i64 a0, .int .i64 4, .int .i64 5] rfl (by (try simp only [List.map_toArray, List.map_cons, List.map_nil]); first | done | rfl | (simp only [List.length_drop, List.length_take]; rfl)) ?_; (with_reducible refine (spec_l6In.calls a0 4 5 t274 _ A2.out).mono ?_); rintro e w' ⟨rfl, ⟨nd, rfl⟩⟩; refine ⟨_, rfl, ?_⟩))
 go_ret
 exact ⟨by first | rfl | (simp; done) | (simp [*]; done), by repeat (first | exact Drawn0.refl _ | apply Drawn0.step)⟩

/-! ### spec_MsgOk: function 21 -/
def okSealB (s : S41) : Bool := sealOk s.f0 s.f1 s.f2 s.f3 s.f4 s.f5 s.f6
theorem l2Seals_loop (x0 x1 x2 x3 many : Int) (l : List S41) (hl : l.length ≤ 9223372036854775807) : ∀ d i : Nat, i + d = l.length → spec_l2Seals.l0 (d + 1) many (i : Int) x0 x1 x2 x3 l = some ((l.drop i).all okSealB && ((l.length : Int) == many)) := by
  intro d
  induction d with
  | zero =>
    intro i hi
    simp only [spec_l2Seals.l0]
    rw [if_neg (by omega), List.drop_of_length_le (by omega)]; rfl
  | succ d ih =>
    intro i hi
    have hlt : i < l.length := by omega
    have hw : wrap64 ((i : Int) + 1) = ((i + 1 : Nat) : Int) := by unfold wrap64; omega
    have hrd : rd_T41 l (i : Int) = l[i] := by simp [rd_T41, List.getD_eq_getElem?_getD, List.getElem?_eq_getElem hlt]
    rw [spec_l2Seals.l0, if_pos (by omega), if_pos (by omega), hw, hrd, List.drop_eq_getElem_cons hlt, List.all_cons]
    have ih' := ih (i + 1) (by omega)
    show (Option.bind (some (okSealB l[i])) fun t => if t = true then spec_l2Seals.l0 (d + 1) many ((i + 1 : Nat) : Int) x0 x1 x2 x3 l else some false) = _
    rw [Option.bind_some]
    cases h : okSealB l[i] with
    | true => rw [if_pos rfl, ih', Bool.true_and]
    | false => rfl
theorem l2Seals_is (x0 x1 x2 x3 many : Int) (l : List S41) (hl : l.length ≤ 9223372036854775807) : spec_l2Seals.f (l.length + 1) x0 x1 x2 x3 l many = some (l.all okSealB && ((l.length : Int) == many)) := l2Seals_loop x0 x1 x2 x3 many l hl l.length 0 (by omega)
theorem l1Serv_rng (n : Int) : spec_l1Serv.f n = some (rng n 4 5) := by simp only [spec_l1Serv.f, l6In_rng, Option.bind_some]
/-- A word is in form. -/
def msgOkB (kind client serv nonce : Int) (l : List S41) : Bool := shapeB kind client serv nonce l.length && l.all okSealB
def spec_MsgOk.f (kind client serv nonce : Int) (l : List S41) : Option Bool := some (msgOkB kind client serv nonce l)
set_option maxHeartbeats 32000000 in
set_option maxRecDepth 100000 in
theorem spec_MsgOk.calls (kind client serv nonce : Int) (A : Option Addr) (c : Nat) (l : List S41) (r : Bool) (w : World) (hr : Kd.C k41 w A l.length l) (hc : l.length ≤ c) (h : spec_MsgOk.f kind client serv nonce l = some r) :
    Calls Try.prog 21 #[.agg #[.int .i64 kind, .int .i64 client, .int .i64 serv, .int .i64 nonce, .slice A l.length c]] w fun e w' => e = .returned (.bool r) ∧ Below w.heap.size w w' := by
  obtain rfl : msgOkB kind client serv nonce l = r := Option.some.inj h
  clear h
  have HS := Aside0.mk (fun many => l2Seals_is kind client serv nonce many l hr.2.1)
  have HR := Aside0.mk hr
  have HC := Aside0.mk hc
  clear hr hc
  obtain ⟨q, hq⟩ : ∃ q, l.all okSealB = q := ⟨_, rfl⟩
  have hm : msgOkB kind client serv nonce l = (shapeB kind client serv nonce l.length && q) := by unfold msgOkB; rw [hq]
  rw [hm]
  clear hm
  rw [hq] at HS
  clear hq
  have HB := Aside0.mk (Below.refl w.heap.size w)
  by_cases k1 : kind = 1
  case' pos =>
    subst k1
    rcases path3 (rng client 1 3) (serv == 0) (rng nonce 1 60) with h1 | ⟨h1, h2⟩ | ⟨h1, h2, h3⟩ | ⟨h1, h2, h3⟩
  case' neg =>
    have e1 : (kind == 1) = false := beq_eq_false_iff_ne.2 k1
    by_cases k2 : kind = 2
    case' pos =>
      subst k2
      rcases path3 (rng client 1 3) (serv == 0) (nonce == 0) with h1 | ⟨h1, h2⟩ | ⟨h1, h2, h3⟩ | ⟨h1, h2, h3⟩
    case' neg =>
      have e2 : (kind == 2) = false := beq_eq_false_iff_ne.2 k2
      by_cases k4 : kind = 4
      case' pos =>
        subst k4
        rcases path3 (rng client 1 3) (serv == 0) (nonce == 0) with h1 | ⟨h1, h2⟩ | ⟨h1, h2, h3⟩ | ⟨h1, h2, h3⟩
      case' neg =>
        have e4 : (kind == 4) = false := beq_eq_false_iff_ne.2 k4
        by_cases k3 : kind = 3
        case' pos =>
          subst k3
          rcases path3 (client == 0) (rng serv 4 5) (rng nonce 1 60) with h1 | ⟨h1, h2⟩ | ⟨h1, h2, h3⟩ | ⟨h1, h2, h3⟩
        case' neg =>
          have e3 : (kind == 3) = false := beq_eq_false_iff_ne.2 k3
          by_cases k5 : kind = 5
          case' pos =>
            subst k5
            rcases path3 (client == 0) (rng serv 4 5) (nonce == 0) with h1 | ⟨h1, h2⟩ | ⟨h1, h2, h3⟩ | ⟨h1, h2, h3⟩
          case' neg =>
            have e5 : (kind == 5) = false := beq_eq_false_iff_ne.2 k5
            by_cases k6 : kind = 6
            case' pos =>
              subst k6
              rcases path3 (rng client 1 3) (serv == 0) (nonce == 0) with h1 | ⟨h1, h2⟩ | ⟨h1, h2, h3⟩ | ⟨h1, h2, h3⟩
            case' neg =>
              have e6 : (kind == 6) = false := beq_eq_false_iff_ne.2 k6
  all_goals
    go_enter Try.func21, Try.ntmps21
    go_wp2_with (first | (go_at_call 65; refine (spec_l1User.calls _ _ _ (l1User_rng _)).mono ?_; rintro e w1 ⟨rfl, hd⟩; obtain ⟨m, rfl⟩ := hd.out; clear hd) | (go_at_call 85; refine (spec_l1Serv.calls _ _ _ (l1Serv_rng _)).mono ?_; rintro e w1 ⟨rfl, hd⟩; obtain ⟨m, rfl⟩ := hd.out; clear hd) | (go_at_call 83; refine (spec_l1Num.calls _ _ _ (l1Num_rng _)).mono ?_; rintro e w1 ⟨rfl, hd⟩; obtain ⟨m, rfl⟩ := hd.out; clear hd) | (go_at_call 84; refine (spec_l2Seals.calls _ _ _ _ _ _ _ _ _ _ _ (by (with_reducible repeat (first | exact HR.out | refine Kd.C_drewN ?_ _ | refine Kd.C_alloc ?_ _))) HC.out (HS.out _)).mono ?_; rintro e w2 ⟨rfl, hb⟩; have n0_ := Aside0.mk (below_then (by repeat (first | (with_reducible exact HB.out) | apply pw_below_drewN | apply below_drew1 | apply below_alloc)) (below_size (by repeat (first | (with_reducible exact HB.out) | apply pw_below_drewN | apply below_drew1 | apply below_alloc))) hb); clear HB hb; have HB := n0_; clear n0_))
    go_ret
    exact ⟨by simp [shapeB, Bool.and_comm, *], by repeat (first | (with_reducible exact HB.out) | apply pw_below_drewN | apply below_drew1 | apply below_alloc)⟩

end Go.Proofs.Ytbipicjijbnbbaa.Hp
