-- hp.py
import Derived.Test.YtbipicjijbnbbaaHx0
import Derived.Test.YtbipicjijbnbbaaHx3
import Derived.Test.YtbipicjijbnbbaaHx8
namespace Go.Proofs.Ytbipicjijbnbbaa.Hp
open Go.RowKit Go.Proofs.YtbipicjijbnbbaaW.PrintWords Go.Proofs.YtbipicjijbnbbaaW.PrintLast Go.Proofs.YtbipicjijbnbbaaW.PrintMore
attribute [local go_sem] max2_int min2_int max_two min_two max_three min_three max_four min_four   -- for this text's walks alone
set_option linter.unusedVariables false
set_option linter.unusedSimpArgs false
-- squeezed by wip/tools/squeeze.py
theorem z9x0 {P : Prop} (h : P := by (try simp only [List.map_toArray, List.map_cons, List.map_nil]); first | done | rfl | (simp only [List.length_drop, List.length_take]; rfl)) : P := h

/-! ### spec_l1User: function 65 -/
def spec_l1User.f (a0 : Int) : Option (Bool) := (spec_l6In.f a0 1 3).bind fun t116 => (some t116)
set_option maxHeartbeats 8000000 in
set_option maxRecDepth 100000 in
theorem spec_l1User.calls (a0 : Int) (r : Bool) (w : World) (h : spec_l1User.f a0 = some r) :
  Calls Try.prog 65 #[.int .i64 a0] w fun e w' => e = .returned (.bool r) ∧ Drawn0 w w' := by
 have H : ((spec_l6In.f a0 1 3).bind fun t116 => (some t116)) = some r := h
 clear h
 replace H := Option.bind_eq_some_iff.mp H
 obtain ⟨t116, A20, H⟩ := H
 replace H : (some t116) = some r := H
 have A2 := Aside0.mk A20
 clear A20
 obtain rfl := Option.some.inj H
 go_enter Try.func65, Try.ntmps65
 go_wp2_with (first | ((with_reducible refine gate_callee (f := 98) rfl ?_); refine goesL_ (some 4) rfl rfl Try.func98 (by kernel_rfl) rfl #[.int .i64 a0, .int .i64 1, .int .i64 3] rfl z9x0 ?_; (with_reducible refine (spec_l6In.calls a0 1 3 t116 _ A2.out).mono ?_); rintro e w' ⟨rfl, ⟨nd, rfl⟩⟩; refine ⟨_, rfl, ?_⟩))
 go_ret
 exact ⟨by first | rfl | (simp; done) | (simp [*]; done), by repeat (first | exact Drawn0.refl _ | apply Drawn0.step)⟩

/-! ### spec_l1Num: function 83 -/
def spec_l1Num.f (a0 : Int) : Option (Bool) := (spec_l6In.f a0 1 60).bind fun t117 => (some t117)
set_option maxHeartbeats 8000000 in
set_option maxRecDepth 100000 in
theorem spec_l1Num.calls (a0 : Int) (r : Bool) (w : World) (h : spec_l1Num.f a0 = some r) :
  Calls Try.prog 83 #[.int .i64 a0] w fun e w' => e = .returned (.bool r) ∧ Drawn0 w w' := by
 have H : ((spec_l6In.f a0 1 60).bind fun t117 => (some t117)) = some r := h
 clear h
 replace H := Option.bind_eq_some_iff.mp H
 obtain ⟨t117, A20, H⟩ := H
 replace H : (some t117) = some r := H
 have A2 := Aside0.mk A20
 clear A20
 obtain rfl := Option.some.inj H
 go_enter Try.func83, Try.ntmps83
 go_wp2_with (first | ((with_reducible refine gate_callee (f := 98) rfl ?_); refine goesL_ (some 4) rfl rfl Try.func98 (by kernel_rfl) rfl #[.int .i64 a0, .int .i64 1, .int .i64 60] rfl z9x0 ?_; (with_reducible refine (spec_l6In.calls a0 1 60 t117 _ A2.out).mono ?_); rintro e w' ⟨rfl, ⟨nd, rfl⟩⟩; refine ⟨_, rfl, ?_⟩))
 go_ret
 exact ⟨by first | rfl | (simp; done) | (simp [*]; done), by repeat (first | exact Drawn0.refl _ | apply Drawn0.step)⟩

/-! ### spec_l1Time: function 93 -/
def spec_l1Time.f (a0 : Int) : Option (Bool) := (spec_l6In.f a0 0 100).bind fun t118 => (some t118)
set_option maxHeartbeats 8000000 in
set_option maxRecDepth 100000 in
theorem spec_l1Time.calls (a0 : Int) (r : Bool) (w : World) (h : spec_l1Time.f a0 = some r) :
  Calls Try.prog 93 #[.int .i64 a0] w fun e w' => e = .returned (.bool r) ∧ Drawn0 w w' := by
 have H : ((spec_l6In.f a0 0 100).bind fun t118 => (some t118)) = some r := h
 clear h
 replace H := Option.bind_eq_some_iff.mp H
 obtain ⟨t118, A20, H⟩ := H
 replace H : (some t118) = some r := H
 have A2 := Aside0.mk A20
 clear A20
 obtain rfl := Option.some.inj H
 go_enter Try.func93, Try.ntmps93
 go_wp2_with (first | ((with_reducible refine gate_callee (f := 98) rfl ?_); refine goesL_ (some 4) rfl rfl Try.func98 (by kernel_rfl) rfl #[.int .i64 a0, .int .i64 0, .int .i64 100] rfl z9x0 ?_; (with_reducible refine (spec_l6In.calls a0 0 100 t118 _ A2.out).mono ?_); rintro e w' ⟨rfl, ⟨nd, rfl⟩⟩; refine ⟨_, rfl, ?_⟩))
 go_ret
 exact ⟨by first | rfl | (simp; done) | (simp [*]; done), by repeat (first | exact Drawn0.refl _ | apply Drawn0.step)⟩

/-! ### spec_l1Session: function 115 -/
def spec_l1Session.f (a0 : Int) : Option (Bool) := (spec_l6In.f a0 10 60).bind fun t119 => (some t119)
set_option maxHeartbeats 8000000 in
set_option maxRecDepth 100000 in
theorem spec_l1Session.calls (a0 : Int) (r : Bool) (w : World) (h : spec_l1Session.f a0 = some r) :
  Calls Try.prog 115 #[.int .i64 a0] w fun e w' => e = .returned (.bool r) ∧ Drawn0 w w' := by
 have H : ((spec_l6In.f a0 10 60).bind fun t119 => (some t119)) = some r := h
 clear h
 replace H := Option.bind_eq_some_iff.mp H
 obtain ⟨t119, A20, H⟩ := H
 replace H : (some t119) = some r := H
 have A2 := Aside0.mk A20
 clear A20
 obtain rfl := Option.some.inj H
 go_enter Try.func115, Try.ntmps115
 go_wp2_with (first | ((with_reducible refine gate_callee (f := 98) rfl ?_); refine goesL_ (some 4) rfl rfl Try.func98 (by kernel_rfl) rfl #[.int .i64 a0, .int .i64 10, .int .i64 60] rfl z9x0 ?_; (with_reducible refine (spec_l6In.calls a0 10 60 t119 _ A2.out).mono ?_); rintro e w' ⟨rfl, ⟨nd, rfl⟩⟩; refine ⟨_, rfl, ?_⟩))
 go_ret
 exact ⟨by first | rfl | (simp; done) | (simp [*]; done), by repeat (first | exact Drawn0.refl _ | apply Drawn0.step)⟩

/-! ### spec_SealOk: function 90 -/
theorem l6In_rng (n lo hi : Int) : spec_l6In.f n lo hi = some (rng n lo hi) := rng_if n lo hi
theorem l1User_rng (n : Int) : spec_l1User.f n = some (rng n 1 3) := by simp only [spec_l1User.f, l6In_rng, Option.bind_some]
theorem l1Session_rng (n : Int) : spec_l1Session.f n = some (rng n 10 60) := by simp only [spec_l1Session.f, l6In_rng, Option.bind_some]
theorem l1Time_rng (n : Int) : spec_l1Time.f n = some (rng n 0 100) := by simp only [spec_l1Time.f, l6In_rng, Option.bind_some]
theorem l1Num_rng (n : Int) : spec_l1Num.f n = some (rng n 1 60) := by simp only [spec_l1Num.f, l6In_rng, Option.bind_some]
def spec_SealOk.f (key kind a b c d e : Int) : Option Bool := some (sealOk key kind a b c d e)
set_option maxHeartbeats 16000000 in
set_option maxRecDepth 100000 in
theorem spec_SealOk.calls (key kind a b c d e : Int) (r : Bool) (w : World) (h : spec_SealOk.f key kind a b c d e = some r) :
    Calls Try.prog 90 #[.agg #[.int .i64 key, .int .i64 kind, .int .i64 a, .int .i64 b, .int .i64 c, .int .i64 d, .int .i64 e]] w fun e w' => e = .returned (.bool r) ∧ Below w.heap.size w w' := by
  obtain rfl : sealOk key kind a b c d e = r := Option.some.inj h
  clear h
  by_cases k1 : kind = 1
  case' pos =>
    subst k1
    rcases path5 (key == b) (rng b 4 6) (rng a 1 3) (rng c 10 60) (rng d 0 100) with h1 | ⟨h1, h2⟩ | ⟨h1, h2, h3⟩ | ⟨h1, h2, h3, h4⟩ | ⟨h1, h2, h3, h4, h5⟩ | ⟨h1, h2, h3, h4, h5⟩
  case' neg =>
    have e1 : (kind == 1) = false := beq_eq_false_iff_ne.2 k1
    by_cases k2 : kind = 2
    case' pos =>
      subst k2
      rcases path6 (rng key 1 3) (rng key 10 60) (rng a 4 6) (rng b 10 60) (rng c 1 60) (rng d 0 100) with ⟨h1, h2⟩ | ⟨(h1 | ⟨h1, h2⟩), (h3 | ⟨h3, h4⟩ | ⟨h3, h4, h5⟩ | ⟨h3, h4, h5, h6⟩ | ⟨h3, h4, h5, h6⟩)⟩
    case' neg =>
      have e2 : (kind == 2) = false := beq_eq_false_iff_ne.2 k2
      by_cases k3 : kind = 3
      case' pos =>
        subst k3
        rcases path5 (rng key 10 60) (rng a 1 3) (rng b 0 100) (rng c 1 60) (d == 0) with h1 | ⟨h1, h2⟩ | ⟨h1, h2, h3⟩ | ⟨h1, h2, h3, h4⟩ | ⟨h1, h2, h3, h4, h5⟩ | ⟨h1, h2, h3, h4, h5⟩
      case' neg =>
        have e3 : (kind == 3) = false := beq_eq_false_iff_ne.2 k3
        by_cases k4 : kind = 4
        case' pos =>
          subst k4
          rcases path5 (rng key 10 60) (rng a 0 100) (rng b 1 60) (c == 0) (d == 0) with h1 | ⟨h1, h2⟩ | ⟨h1, h2, h3⟩ | ⟨h1, h2, h3, h4⟩ | ⟨h1, h2, h3, h4, h5⟩ | ⟨h1, h2, h3, h4, h5⟩
        case' neg =>
          have e4 : (kind == 4) = false := beq_eq_false_iff_ne.2 k4
  all_goals
    go_enter Try.func90, Try.ntmps90
    go_wp2_with (first | (go_at_call 98; refine (spec_l6In.calls _ _ _ _ _ (l6In_rng _ _ _)).mono ?_; rintro e w1 ⟨rfl, hd⟩; obtain ⟨m, rfl⟩ := hd.out; clear hd) | (go_at_call 65; refine (spec_l1User.calls _ _ _ (l1User_rng _)).mono ?_; rintro e w1 ⟨rfl, hd⟩; obtain ⟨m, rfl⟩ := hd.out; clear hd) | (go_at_call 115; refine (spec_l1Session.calls _ _ _ (l1Session_rng _)).mono ?_; rintro e w1 ⟨rfl, hd⟩; obtain ⟨m, rfl⟩ := hd.out; clear hd) | (go_at_call 93; refine (spec_l1Time.calls _ _ _ (l1Time_rng _)).mono ?_; rintro e w1 ⟨rfl, hd⟩; obtain ⟨m, rfl⟩ := hd.out; clear hd) | (go_at_call 83; refine (spec_l1Num.calls _ _ _ (l1Num_rng _)).mono ?_; rintro e w1 ⟨rfl, hd⟩; obtain ⟨m, rfl⟩ := hd.out; clear hd))
    go_ret
    exact ⟨by simp [sealOk, *], by repeat (first | (with_reducible exact Below.refl _ _) | apply pw_below_drewN | apply below_drew1 | apply below_alloc)⟩

end Go.Proofs.Ytbipicjijbnbbaa.Hp
