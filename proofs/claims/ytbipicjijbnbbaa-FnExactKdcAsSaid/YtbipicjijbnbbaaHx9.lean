-- hp.py
import Derived.Test.YtbipicjijbnbbaaHx0
import Derived.Test.YtbipicjijbnbbaaHx2
import Derived.Test.YtbipicjijbnbbaaHx3
import Derived.Test.YtbipicjijbnbbaaHx4
import Derived.Test.YtbipicjijbnbbaaHx5
import Derived.Test.YtbipicjijbnbbaaHx8
namespace Go.Proofs.Ytbipicjijbnbbaa.Hp
open Go.RowKit Go.Proofs.YtbipicjijbnbbaaW.PrintWords Go.Proofs.YtbipicjijbnbbaaW.PrintLast Go.Proofs.YtbipicjijbnbbaaW.PrintMore
attribute [local go_sem] max2_int min2_int max_two min_two max_three min_three max_four min_four   -- for this text's walks alone
set_option linter.unusedVariables false
set_option linter.unusedSimpArgs false
-- squeezed by wip/tools/squeeze.py
theorem z9x0 {P : Prop} (h : P := by rw [hg]; exact (below_size (by repeat (first | (with_reducible first | exact HB.out | apply below_alloc | apply pw_below_drewN | apply below_drew1) | exact HB.out)))) : P := h

/-! ### spec_KdcOk: function 124 -/
def spec_KdcOk.f (k : Nat) (a0_0 : Int) (l0_1 : List (S41)) : Option (Bool) := (spec_l6In.f a0_0 10 61).bind fun t127 => (if t127 = true then ((spec_l11Cache.f k l0_1).bind fun t128 => (some t128)) else (some false))
theorem spec_KdcOk.mono : ∀ a0 a1 k, LeO (spec_KdcOk.f k a0 a1) (spec_KdcOk.f (k + 1) a0 a1) := by
 intro a0 a1 k
 unfold spec_KdcOk.f
 repeat' first
   | (with_reducible exact spec_l11Cache.mono _ _)
   | (with_reducible exact LeO.refl _)
   | (with_reducible exact LeO.none _)
   | (with_reducible refine LeO.ite ?_ ?_)
   | (with_reducible refine LeO.bind ?_ (fun _ => ?_))
   | exact spec_l11Cache.mono _ _
   | exact LeO.none _
   | refine LeO.ite ?_ ?_
   | refine LeO.bind ?_ (fun _ => ?_)
set_option maxHeartbeats 8000000 in
set_option maxRecDepth 100000 in
theorem spec_KdcOk.calls (k : Nat) (a0_0 : Int) (A0_1 : Option Addr) (c0_1 : Nat) (l0_1 : List (S41)) (r : Bool) (w : World) (hr0_1 : Kd.C k41 w A0_1 l0_1.length l0_1) (hc0_1 : l0_1.length ≤ c0_1) (h : spec_KdcOk.f k a0_0 l0_1 = some r) :
  Calls Try.prog 124 #[.agg #[.int .i64 a0_0, .slice A0_1 l0_1.length c0_1]] w fun e w' => e = .returned (.bool r) ∧ Below w.heap.size w w' := by
 have hu64 := Try.underlying64
 have HR0_1 := Aside0.mk hr0_1
 have HC0_1 := Aside0.mk hc0_1
 clear hr0_1 hc0_1
 have HB := Aside0.mk (Below.refl w.heap.size w)
 have H : ((spec_l6In.f a0_0 10 61).bind fun t127 => (if t127 = true then ((spec_l11Cache.f k l0_1).bind fun t128 => (some t128)) else (some false))) = some r := h
 clear h
 replace H := Option.bind_eq_some_iff.mp H
 obtain ⟨t127, A20, H⟩ := H
 replace H : (if t127 = true then ((spec_l11Cache.f k l0_1).bind fun t128 => (some t128)) else (some false)) = some r := H
 have A2 := Aside0.mk A20
 clear A20
 by_cases c3 : t127 = true
 ·subst c3
  rw [if_pos rfl] at H
  replace H := Option.bind_eq_some_iff.mp H
  obtain ⟨t128, A40, H⟩ := H
  replace H : (some t128) = some r := H
  have A4 := Aside0.mk A40
  clear A40
  obtain rfl := Option.some.inj H
  go_enter Try.func124, Try.ntmps124
  go_wp2_with (first | ((with_reducible refine gate_dst (N := 1) rfl ?_); refine box_event ?hg (N := 1) ?hd (cs := #[.int .i64 a0_0, .slice A0_1 l0_1.length c0_1]) (t := 64) ?hr ?_; (case hd => rfl); (case hg => rfl); (case hr => first | (go_simp; done) | (go_simp; rfl)); intro gb126 hg w5 hbox hb; have n0_ := Aside0.mk (below_step (by repeat (first | (with_reducible first | exact HB.out | apply below_alloc | apply pw_below_drewN | apply below_drew1) | exact HB.out)) hb); have n1_ := Aside0.mk (hbox); have n2_ := Aside0.mk ((z9x0 : w.heap.size ≤ gb126)); have n3_ := Aside0.mk ((z9x0 : w.heap.size ≤ gb126)); clear HB; have HB := n0_; have BK126 := n1_; have GW126 := n2_; have GE126 := n3_; clear n0_ n1_ n2_ n3_; clear hb hbox hg; have hcz6_0 : w5.cell? ⟨gb126, 0, none⟩ = some (.int .i64 a0_0) := (blk_cell BK126.out 0).trans rfl; have hcz6_1 : w5.cell? ⟨gb126, 1, none⟩ = some (.slice A0_1 l0_1.length c0_1) := (blk_cell BK126.out 1).trans rfl; have hfz6_0 := blk_frozen BK126.out 0; have hfz6_1 := blk_frozen BK126.out 1) | ((with_reducible refine gate_callee (f := 98) rfl ?_); refine goesL_ (some 5) rfl rfl Try.func98 (by kernel_rfl) rfl #[.int .i64 a0_0, .int .i64 10, .int .i64 61] rfl (by (try simp only [List.map_toArray, List.map_cons, List.map_nil]); first | done | rfl | (simp only [List.length_drop, List.length_take]; rfl)) ?_; (with_reducible refine (spec_l6In.calls a0_0 10 61 true _ A2.out).mono ?_); rintro e w' ⟨rfl, ⟨nd, rfl⟩⟩; refine ⟨_, rfl, ?_⟩) | (go_at_call 92; (with_reducible refine (spec_l11Cache.calls k _ _ l0_1 t128 _ ?side1 ?side2 A4.out).mono ?_); (case side1 => repeat (first | exact (Kd.C_below HR0_1.out (by repeat (first | (with_reducible first | exact HB.out | apply below_alloc | apply pw_below_drewN | apply below_drew1 | refine below_set ?_ GE126.out) | exact HB.out))) | (with_reducible refine Kd.C_alloc ?_ _) | (with_reducible refine Kd.C_drewN ?_ _) | (with_reducible refine Kd.C_drew ?_))); (case side2 => exact HC0_1.out); rintro e w7 ⟨rfl, hb⟩; have n0_ := Aside0.mk (blk_below (g := gb126) (o := .cells #[.int .i64 a0_0, .slice A0_1 l0_1.length c0_1] 64 (0, 0)) (by (with_reducible repeat (first | refine blk_drewN ?_ _ | refine blk_drew ?_ | refine blk_alloc ?_ _)); exact BK126.out) hb); have n1_ := Aside0.mk (below_step (by repeat (first | (with_reducible first | exact HB.out | apply below_alloc | apply pw_below_drewN | apply below_drew1 | refine below_set ?_ GE126.out) | exact HB.out)) hb); clear BK126; clear HB; have BK126 := n0_; have HB := n1_; clear n0_ n1_; (try clear hb); (try clear hb2); (try clear hk); (try clear hi)))
  go_ret
  exact ⟨by first | rfl | (simp [errW_none, errW_some] <;> rfl) | (simp [*, errW_none, errW_some] <;> rfl), by repeat (first | (with_reducible first | exact HB.out | apply below_alloc | apply pw_below_drewN | apply below_drew1 | refine below_set ?_ GE126.out) | exact HB.out)⟩
 ·replace c3 := Bool.eq_false_iff.mpr c3
  subst c3
  rw [if_neg (show ¬ (false = true) by decide)] at H
  obtain rfl := Option.some.inj H
  go_enter Try.func124, Try.ntmps124
  go_wp2_with (first | ((with_reducible refine gate_dst (N := 1) rfl ?_); refine box_event ?hg (N := 1) ?hd (cs := #[.int .i64 a0_0, .slice A0_1 l0_1.length c0_1]) (t := 64) ?hr ?_; (case hd => rfl); (case hg => rfl); (case hr => first | (go_simp; done) | (go_simp; rfl)); intro gb126 hg w8 hbox hb; have n0_ := Aside0.mk (below_step (by repeat (first | (with_reducible first | exact HB.out | apply below_alloc | apply pw_below_drewN | apply below_drew1) | exact HB.out)) hb); have n1_ := Aside0.mk (hbox); have n2_ := Aside0.mk ((z9x0 : w.heap.size ≤ gb126)); have n3_ := Aside0.mk ((z9x0 : w.heap.size ≤ gb126)); clear HB; have HB := n0_; have BK126 := n1_; have GW126 := n2_; have GE126 := n3_; clear n0_ n1_ n2_ n3_; clear hb hbox hg; have hcz9_0 : w8.cell? ⟨gb126, 0, none⟩ = some (.int .i64 a0_0) := (blk_cell BK126.out 0).trans rfl; have hcz9_1 : w8.cell? ⟨gb126, 1, none⟩ = some (.slice A0_1 l0_1.length c0_1) := (blk_cell BK126.out 1).trans rfl; have hfz9_0 := blk_frozen BK126.out 0; have hfz9_1 := blk_frozen BK126.out 1) | ((with_reducible refine gate_callee (f := 98) rfl ?_); refine goesL_ (some 5) rfl rfl Try.func98 (by kernel_rfl) rfl #[.int .i64 a0_0, .int .i64 10, .int .i64 61] rfl (by (try simp only [List.map_toArray, List.map_cons, List.map_nil]); first | done | rfl | (simp only [List.length_drop, List.length_take]; rfl)) ?_; (with_reducible refine (spec_l6In.calls a0_0 10 61 false _ A2.out).mono ?_); rintro e w' ⟨rfl, ⟨nd, rfl⟩⟩; refine ⟨_, rfl, ?_⟩))
  go_ret
  exact ⟨by first | rfl | (simp [errW_none, errW_some] <;> rfl) | (simp [*, errW_none, errW_some] <;> rfl), by repeat (first | (with_reducible first | exact HB.out | apply below_alloc | apply pw_below_drewN | apply below_drew1 | refine below_set ?_ GE126.out) | exact HB.out)⟩

/-! ### impl_Msg_shaped: function 80 -/
/-- A word is of its kind, but for its seals. -/
def shapeB (kind client serv nonce : Int) (n : Nat) : Bool :=
  if kind = 1 then rng client 1 3 && ((serv == 0) && (rng nonce 1 60 && ((n : Int) == 0)))
  else if kind = 2 then rng client 1 3 && ((serv == 0) && ((nonce == 0) && ((n : Int) == 2)))
  else if kind = 3 then (client == 0) && (rng serv 4 5 && (rng nonce 1 60 && ((n : Int) == 2)))
  else if kind = 4 then rng client 1 3 && ((serv == 0) && ((nonce == 0) && ((n : Int) == 2)))
  else if kind = 5 then (client == 0) && (rng serv 4 5 && ((nonce == 0) && ((n : Int) == 2)))
  else if kind = 6 then rng client 1 3 && ((serv == 0) && ((nonce == 0) && ((n : Int) == 1)))
  else false
theorem path3 : ∀ a b c : Bool, a = false ∨ (a = true ∧ b = false) ∨ (a = true ∧ b = true ∧ c = false) ∨ (a = true ∧ b = true ∧ c = true) := by decide
def impl_Msg_shaped.f (kind client serv nonce : Int) (l : List S41) : Option Bool := some (shapeB kind client serv nonce l.length)
set_option maxHeartbeats 16000000 in
set_option maxRecDepth 100000 in
theorem impl_Msg_shaped.calls (kind client serv nonce : Int) (A : Option Addr) (c : Nat) (l : List S41) (r : Bool) (w : World) (hr : Kd.C k41 w A l.length l) (hc : l.length ≤ c) (h : impl_Msg_shaped.f kind client serv nonce l = some r) :
    Calls Try.prog 80 #[.agg #[.int .i64 kind, .int .i64 client, .int .i64 serv, .int .i64 nonce, .slice A l.length c]] w fun e w' => e = .returned (.bool r) ∧ Below w.heap.size w w' := by
  obtain rfl : shapeB kind client serv nonce l.length = r := Option.some.inj h
  clear h hr hc
  generalize l.length = n
  by_cases k1 : kind = 1
  case' pos =>
    subst k1
    rcases path3 (rng client 1 3) (serv == 0) (rng nonce 1 60) with h1 | ⟨h1, h2⟩ | ⟨h1, h2, h3⟩ | ⟨h1, h2, h3⟩
  case' neg =>
    have e1 : (kind == 1) = false := beq_eq_false_iff_ne.2 k1
    by_cases k2 : kind = 2
    case' pos =>
      subst k2
      rcases path3 (rng client 1 3) (serv == 0) (nonce == 0) with h1 | ⟨h1, h2⟩ | ⟨h1, h2, h3⟩ | ⟨h1, h2, h3⟩
    case' neg =>
      have e2 : (kind == 2) = false := beq_eq_false_iff_ne.2 k2
      by_cases k4 : kind = 4
      case' pos =>
        subst k4
        rcases path3 (rng client 1 3) (serv == 0) (nonce == 0) with h1 | ⟨h1, h2⟩ | ⟨h1, h2, h3⟩ | ⟨h1, h2, h3⟩
      case' neg =>
        have e4 : (kind == 4) = false := beq_eq_false_iff_ne.2 k4
        by_cases k3 : kind = 3
        case' pos =>
          subst k3
          rcases path3 (client == 0) (rng serv 4 5) (rng nonce 1 60) with h1 | ⟨h1, h2⟩ | ⟨h1, h2, h3⟩ | ⟨h1, h2, h3⟩
        case' neg =>
          have e3 : (kind == 3) = false := beq_eq_false_iff_ne.2 k3
          by_cases k5 : kind = 5
          case' pos =>
            subst k5
            rcases path3 (client == 0) (rng serv 4 5) (nonce == 0) with h1 | ⟨h1, h2⟩ | ⟨h1, h2, h3⟩ | ⟨h1, h2, h3⟩
          case' neg =>
            have e5 : (kind == 5) = false := beq_eq_false_iff_ne.2 k5
            by_cases k6 : kind = 6
            case' pos =>
              subst k6
              rcases path3 (rng client 1 3) (serv == 0) (nonce == 0) with h1 | ⟨h1, h2⟩ | ⟨h1, h2, h3⟩ | ⟨h1, h2, h3⟩
            case' neg =>
              have e6 : (kind == 6) = false := beq_eq_false_iff_ne.2 k6
  all_goals
    go_enter Try.func80, Try.ntmps80
    go_wp2_with fail
    go_quiet (fail)
    go_wp2_with (first | (go_at_call 66; refine (impl_userOk.calls _ _ _ (userOk_rng _)).mono ?_; rintro e w1 ⟨rfl, hd⟩; obtain ⟨m, rfl⟩ := hd.out; clear hd) | (go_at_call 76; refine (impl_servOk.calls _ _ _ (servOk_rng _)).mono ?_; rintro e w1 ⟨rfl, hd⟩; obtain ⟨m, rfl⟩ := hd.out; clear hd) | (go_at_call 86; refine (impl_numberOk.calls _ _ _ (numberOk_rng _)).mono ?_; rintro e w1 ⟨rfl, hd⟩; obtain ⟨m, rfl⟩ := hd.out; clear hd))
    go_ret
    exact ⟨by simp [shapeB, *], by repeat (first | (with_reducible exact Below.refl _ _) | apply pw_below_drewN | apply below_drew1 | apply below_alloc)⟩

end Go.Proofs.Ytbipicjijbnbbaa.Hp
