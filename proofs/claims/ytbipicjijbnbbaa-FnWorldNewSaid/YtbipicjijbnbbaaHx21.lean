-- hp.py
import Derived.Test.YtbipicjijbnbbaaHx0
import Derived.Test.YtbipicjijbnbbaaHx11
import Derived.Test.YtbipicjijbnbbaaHx20
namespace Go.Proofs.Ytbipicjijbnbbaa.Hp
open Go.RowKit Go.Proofs.YtbipicjijbnbbaaW.PrintWords Go.Proofs.YtbipicjijbnbbaaW.PrintLast Go.Proofs.YtbipicjijbnbbaaW.PrintMore
attribute [local go_sem] max2_int min2_int max_two min_two max_three min_three max_four min_four   -- for this text's walks alone
set_option linter.unusedVariables false
set_option linter.unusedSimpArgs false
-- squeezed by wip/tools/squeeze.py

/-! ### impl_madeOk: function 75 -/
def impl_madeOk.f (a0 : Int) : Option (Bool):=(impl_within.f a0 10 60).bind fun qb=>(some qb)
set_option maxHeartbeats 8000000 in
set_option maxRecDepth 100000 in
theorem impl_madeOk.calls (a0 : Int) (r : Bool) (w : World) (h : impl_madeOk.f a0 = some r) :
  Calls Try.prog 75 #[.int .i64 a0] w fun e w' => e = .returned (.bool r) ∧ Drawn0 w w':=by
 have H : ((impl_within.f a0 10 60).bind fun qb=>(some qb)) = some r:=h
 clear h
 replace H:=Option.bind_eq_some_iff.mp H
 obtain ⟨qb,A20,H⟩:=H
 replace H : (some qb) = some r:=H
 have A2:=Aside0.mk A20
 clear A20
 obtain rfl:=Option.some.inj H
 go_enter Try.func75,Try.ntmps75
 go_wp2_with (first|((with_reducible refine gate_callee (f:=72) rfl ?_);refine goesL_ (some 4) rfl rfl Try.func72 (by kernel_rfl) rfl #[.int .i64 a0,.int .i64 10,.int .i64 60] rfl (by (try simp only [List.map_toArray,List.map_cons,List.map_nil]);first|done|rfl|(simp only [List.length_drop,List.length_take];rfl)) ?_;(with_reducible refine (impl_within.calls a0 10 60 qb _ A2.out).mono ?_);rintro e w' ⟨rfl,⟨nd,rfl⟩⟩; refine ⟨_,rfl,?_⟩))
 go_ret
 exact ⟨by first|rfl|(simp;done)|(simp [*];done),by repeat (first|exact Drawn0.refl _|apply Drawn0.step)⟩

/-! ### impl_numberOk: function 86 -/
def impl_numberOk.f (a0 : Int) : Option (Bool):=(impl_within.f a0 1 60).bind fun qa=>(some qa)
set_option maxHeartbeats 8000000 in
set_option maxRecDepth 100000 in
theorem impl_numberOk.calls (a0 : Int) (r : Bool) (w : World) (h : impl_numberOk.f a0 = some r) :
  Calls Try.prog 86 #[.int .i64 a0] w fun e w' => e = .returned (.bool r) ∧ Drawn0 w w':=by
 have H : ((impl_within.f a0 1 60).bind fun qa=>(some qa)) = some r:=h
 clear h
 replace H:=Option.bind_eq_some_iff.mp H
 obtain ⟨qa,A20,H⟩:=H
 replace H : (some qa) = some r:=H
 have A2:=Aside0.mk A20
 clear A20
 obtain rfl:=Option.some.inj H
 go_enter Try.func86,Try.ntmps86
 go_wp2_with (first|((with_reducible refine gate_callee (f:=72) rfl ?_);refine goesL_ (some 4) rfl rfl Try.func72 (by kernel_rfl) rfl #[.int .i64 a0,.int .i64 1,.int .i64 60] rfl (by (try simp only [List.map_toArray,List.map_cons,List.map_nil]);first|done|rfl|(simp only [List.length_drop,List.length_take];rfl)) ?_;(with_reducible refine (impl_within.calls a0 1 60 qa _ A2.out).mono ?_);rintro e w' ⟨rfl,⟨nd,rfl⟩⟩; refine ⟨_,rfl,?_⟩))
 go_ret
 exact ⟨by first|rfl|(simp;done)|(simp [*];done),by repeat (first|exact Drawn0.refl _|apply Drawn0.step)⟩

/-! ### impl_SealOk: function 22 -/
/- What a seal must be. -/
/-- Is a number from lo to hi? -/
def rng (n lo hi : Int) : Bool:=decide (lo ≤ n ∧ n ≤ hi)
theorem rng_if (n lo hi : Int) : (if n ≥ lo then some (decide (n ≤ hi)) else some false) = some (rng n lo hi):=by
  unfold rng
  split
  · simp;omega
  · simp;omega
/-- A seal is ok. -/
def sealOk (key kind a b c d e : Int) : Bool :=
  if kind = 1 then (key == b) && (rng a 1 3 && (rng b 4 6 && (rng c 10 60 && (rng d 0 100 && rng e 0 100))))
  else if kind = 2 then (rng key 1 3 || rng key 10 60) && (rng a 4 6 && (rng b 10 60 && (rng c 1 60 && (rng d 0 100 && (e == 0)))))
  else if kind = 3 then rng key 10 60 && (rng a 1 3 && (rng b 0 100 && (rng c 1 60 && ((d == 0) && (e == 0)))))
  else if kind = 4 then rng key 10 60 && (rng a 0 100 && (rng b 1 60 && ((c == 0) && ((d == 0) && (e == 0)))))
  else false
theorem path5 : ∀ a b c d e : Bool,a = false ∨ (a = true ∧ b = false) ∨ (a = true ∧ b = true ∧ c = false) ∨ (a = true ∧ b = true ∧ c = true ∧ d = false) ∨ (a = true ∧ b = true ∧ c = true ∧ d = true ∧ e = false) ∨ (a = true ∧ b = true ∧ c = true ∧ d = true ∧ e = true):=by decide
theorem path6 : ∀ p q b c d e : Bool,(p = false ∧ q = false) ∨ ((p = true ∨ (p = false ∧ q = true)) ∧ (b = false ∨ (b = true ∧ c = false) ∨ (b = true ∧ c = true ∧ d = false) ∨ (b = true ∧ c = true ∧ d = true ∧ e = false) ∨ (b = true ∧ c = true ∧ d = true ∧ e = true))):=by decide
theorem within_rng (n lo hi : Int) : impl_within.f n lo hi = some (rng n lo hi):=rng_if n lo hi
theorem userOk_rng (n : Int) : impl_userOk.f n = some (rng n 1 3):=by simp only [impl_userOk.f,within_rng,Option.bind_some]
theorem servOk_rng (n : Int) : impl_servOk.f n = some (rng n 4 5):=by simp only [impl_servOk.f,within_rng,Option.bind_some]
theorem giverOk_rng (n : Int) : impl_giverOk.f n = some (rng n 4 6):=by
  simp only [impl_giverOk.f,servOk_rng,Option.bind_some]
  split <;> (rename_i h;rw [Option.some.injEq,Bool.eq_iff_iff];unfold rng at *; simp only [decide_eq_true_eq,beq_iff_eq,true_iff] at *; omega)
theorem madeOk_rng (n : Int) : impl_madeOk.f n = some (rng n 10 60):=by simp only [impl_madeOk.f,within_rng,Option.bind_some]
theorem timeOk_rng (n : Int) : impl_timeOk.f n = some (rng n 0 100):=by simp only [impl_timeOk.f,within_rng,Option.bind_some]
theorem numberOk_rng (n : Int) : impl_numberOk.f n = some (rng n 1 60):=by simp only [impl_numberOk.f,within_rng,Option.bind_some]
def impl_SealOk.f (key kind a b c d e : Int) : Option Bool:=some (sealOk key kind a b c d e)
set_option maxHeartbeats 16000000 in
set_option maxRecDepth 100000 in
theorem impl_SealOk.calls (key kind a b c d e : Int) (r : Bool) (w : World) (h : impl_SealOk.f key kind a b c d e = some r) :
    Calls Try.prog 22 #[.agg #[.int .i64 key,.int .i64 kind,.int .i64 a,.int .i64 b,.int .i64 c,.int .i64 d,.int .i64 e]] w fun e w' => e = .returned (.bool r) ∧ Below w.heap.size w w':=by
  obtain rfl : sealOk key kind a b c d e = r:=Option.some.inj h
  clear h
  by_cases k1 : kind = 1
  case' pos =>
    subst k1
    rcases path5 (key == b) (rng a 1 3) (rng b 4 6) (rng c 10 60) (rng d 0 100) with h1|⟨h1,h2⟩|⟨h1,h2,h3⟩|⟨h1,h2,h3,h4⟩|⟨h1,h2,h3,h4,h5⟩|⟨h1,h2,h3,h4,h5⟩
  case' neg =>
    have e1 : (kind == 1) = false:=beq_eq_false_iff_ne.2 k1
    by_cases k2 : kind = 2
    case' pos =>
      subst k2
      rcases path6 (rng key 1 3) (rng key 10 60) (rng a 4 6) (rng b 10 60) (rng c 1 60) (rng d 0 100) with ⟨h1,h2⟩|⟨(h1|⟨h1,h2⟩),(h3|⟨h3,h4⟩|⟨h3,h4,h5⟩|⟨h3,h4,h5,h6⟩|⟨h3,h4,h5,h6⟩)⟩
    case' neg =>
      have e2 : (kind == 2) = false:=beq_eq_false_iff_ne.2 k2
      by_cases k3 : kind = 3
      case' pos =>
        subst k3
        rcases path5 (rng key 10 60) (rng a 1 3) (rng b 0 100) (rng c 1 60) (d == 0) with h1|⟨h1,h2⟩|⟨h1,h2,h3⟩|⟨h1,h2,h3,h4⟩|⟨h1,h2,h3,h4,h5⟩|⟨h1,h2,h3,h4,h5⟩
      case' neg =>
        have e3 : (kind == 3) = false:=beq_eq_false_iff_ne.2 k3
        by_cases k4 : kind = 4
        case' pos =>
          subst k4
          rcases path5 (rng key 10 60) (rng a 0 100) (rng b 1 60) (c == 0) (d == 0) with h1|⟨h1,h2⟩|⟨h1,h2,h3⟩|⟨h1,h2,h3,h4⟩|⟨h1,h2,h3,h4,h5⟩|⟨h1,h2,h3,h4,h5⟩
        case' neg =>
          have e4 : (kind == 4) = false:=beq_eq_false_iff_ne.2 k4
  all_goals
    go_enter Try.func22,Try.ntmps22
    go_wp2_with (first|(go_at_call 66;refine (impl_userOk.calls _ _ _ (userOk_rng _)).mono ?_;rintro e w1 ⟨rfl,hd⟩; obtain ⟨m,rfl⟩:=hd.out;clear hd)|(go_at_call 73;refine (impl_giverOk.calls _ _ _ (giverOk_rng _)).mono ?_;rintro e w1 ⟨rfl,hd⟩; obtain ⟨m,rfl⟩:=hd.out;clear hd)|(go_at_call 75;refine (impl_madeOk.calls _ _ _ (madeOk_rng _)).mono ?_;rintro e w1 ⟨rfl,hd⟩; obtain ⟨m,rfl⟩:=hd.out;clear hd)|(go_at_call 68;refine (impl_timeOk.calls _ _ _ (timeOk_rng _)).mono ?_;rintro e w1 ⟨rfl,hd⟩; obtain ⟨m,rfl⟩:=hd.out;clear hd)|(go_at_call 86;refine (impl_numberOk.calls _ _ _ (numberOk_rng _)).mono ?_;rintro e w1 ⟨rfl,hd⟩; obtain ⟨m,rfl⟩:=hd.out;clear hd))
    go_ret
    exact ⟨by simp [sealOk, *],by repeat (first|(with_reducible exact Below.refl _ _)|apply pw_below_drewN|apply below_drew1|apply below_alloc)⟩

end Go.Proofs.Ytbipicjijbnbbaa.Hp
