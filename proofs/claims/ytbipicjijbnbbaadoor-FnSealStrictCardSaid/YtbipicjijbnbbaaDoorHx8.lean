-- hp.py
import Derived.Test.YtbipicjijbnbbaaDoorHx0
import Derived.Test.YtbipicjijbnbbaaDoorHx6
import Derived.Test.YtbipicjijbnbbaaDoorHx7
namespace Go.Proofs.YtbipicjijbnbbaaDoor.Hp
open Go.RowKit Go.Proofs.YtbipicjijbnbbaaDoorW.PrintWords Go.Proofs.YtbipicjijbnbbaaDoorW.PrintLast Go.Proofs.YtbipicjijbnbbaaDoorW.PrintMore
attribute [local go_sem] max2_int min2_int max_two min_two max_three min_three max_four min_four   -- for this text's walks alone
set_option linter.unusedVariables false
set_option linter.unusedSimpArgs false
-- squeezed by wip/tools/squeeze.py

/-! ### impl_SealOk: function 14 -/
/- What a seal must be. -/
/-- Is a number from lo to hi? -/
def rng (n lo hi : Int) : Bool := decide (lo ≤ n ∧ n ≤ hi)
theorem rng_if (n lo hi : Int) : (if n ≥ lo then some (decide (n ≤ hi)) else some false) = some (rng n lo hi) := by
  unfold rng
  split
  · simp; omega
  · simp; omega
/-- A seal is ok. -/
def sealOk (key kind a b c d e : Int) : Bool :=
  if kind = 1 then (key == b) && (rng a 1 3 && (rng b 4 6 && (rng c 10 60 && (rng d 0 100 && rng e 0 100))))
  else if kind = 2 then (rng key 1 3 || rng key 10 60) && (rng a 4 6 && (rng b 10 60 && (rng c 1 60 && (rng d 0 100 && (e == 0)))))
  else if kind = 3 then rng key 10 60 && (rng a 1 3 && (rng b 0 100 && (rng c 1 60 && ((d == 0) && (e == 0)))))
  else if kind = 4 then rng key 10 60 && (rng a 0 100 && (rng b 1 60 && ((c == 0) && ((d == 0) && (e == 0)))))
  else false
theorem path5 : ∀ a b c d e : Bool, a = false ∨ (a = true ∧ b = false) ∨ (a = true ∧ b = true ∧ c = false) ∨ (a = true ∧ b = true ∧ c = true ∧ d = false) ∨ (a = true ∧ b = true ∧ c = true ∧ d = true ∧ e = false) ∨ (a = true ∧ b = true ∧ c = true ∧ d = true ∧ e = true) := by decide
theorem path6 : ∀ p q b c d e : Bool, (p = false ∧ q = false) ∨ ((p = true ∨ (p = false ∧ q = true)) ∧ (b = false ∨ (b = true ∧ c = false) ∨ (b = true ∧ c = true ∧ d = false) ∨ (b = true ∧ c = true ∧ d = true ∧ e = false) ∨ (b = true ∧ c = true ∧ d = true ∧ e = true))) := by decide
theorem within_rng (n lo hi : Int) : impl_within.f n lo hi = some (rng n lo hi) := rng_if n lo hi
theorem userOk_rng (n : Int) : impl_userOk.f n = some (rng n 1 3) := by simp only [impl_userOk.f, within_rng, Option.bind_some]
theorem servOk_rng (n : Int) : impl_servOk.f n = some (rng n 4 5) := by simp only [impl_servOk.f, within_rng, Option.bind_some]
theorem giverOk_rng (n : Int) : impl_giverOk.f n = some (rng n 4 6) := by
  simp only [impl_giverOk.f, servOk_rng, Option.bind_some]
  split <;> (rename_i h; rw [Option.some.injEq, Bool.eq_iff_iff]; unfold rng at *; simp only [decide_eq_true_eq, beq_iff_eq, true_iff] at *; omega)
theorem madeOk_rng (n : Int) : impl_madeOk.f n = some (rng n 10 60) := by simp only [impl_madeOk.f, within_rng, Option.bind_some]
theorem timeOk_rng (n : Int) : impl_timeOk.f n = some (rng n 0 100) := by simp only [impl_timeOk.f, within_rng, Option.bind_some]
theorem numberOk_rng (n : Int) : impl_numberOk.f n = some (rng n 1 60) := by simp only [impl_numberOk.f, within_rng, Option.bind_some]
def impl_SealOk.f (key kind a b c d e : Int) : Option Bool := some (sealOk key kind a b c d e)
set_option maxHeartbeats 16000000 in
set_option maxRecDepth 100000 in
theorem impl_SealOk.calls (key kind a b c d e : Int) (r : Bool) (w : World) (h : impl_SealOk.f key kind a b c d e = some r) :
    Calls Tryd.prog 14 #[.agg #[.int .i64 key, .int .i64 kind, .int .i64 a, .int .i64 b, .int .i64 c, .int .i64 d, .int .i64 e]] w fun e w' => e = .returned (.bool r) ∧ Below w.heap.size w w' := by
  obtain rfl : sealOk key kind a b c d e = r := Option.some.inj h
  clear h
  by_cases k1 : kind = 1
  case' pos =>
    subst k1
    rcases path5 (key == b) (rng a 1 3) (rng b 4 6) (rng c 10 60) (rng d 0 100) with h1 | ⟨h1, h2⟩ | ⟨h1, h2, h3⟩ | ⟨h1, h2, h3, h4⟩ | ⟨h1, h2, h3, h4, h5⟩ | ⟨h1, h2, h3, h4, h5⟩
  case' neg =>
    have e1 : (kind == 1) = false := beq_eq_false_iff_ne.2 k1
    by_cases k2 : kind = 2
    case' pos =>
      subst k2
      rcases path6 (rng key 1 3) (rng key 10 60) (rng a 4 6) (rng b 10 60) (rng c 1 60) (rng d 0 100) with ⟨h1, h2⟩ | ⟨(h1 | ⟨h1, h2⟩), (h3 | ⟨h3, h4⟩ | ⟨h3, h4, h5⟩ | ⟨h3, h4, h5, h6⟩ | ⟨h3, h4, h5, h6⟩)⟩
    case' neg =>
      have e2 : (kind == 2) = false := beq_eq_false_iff_ne.2 k2
      by_cases k3 : kind = 3
      case' pos =>
        subst k3
        rcases path5 (rng key 10 60) (rng a 1 3) (rng b 0 100) (rng c 1 60) (d == 0) with h1 | ⟨h1, h2⟩ | ⟨h1, h2, h3⟩ | ⟨h1, h2, h3, h4⟩ | ⟨h1, h2, h3, h4, h5⟩ | ⟨h1, h2, h3, h4, h5⟩
      case' neg =>
        have e3 : (kind == 3) = false := beq_eq_false_iff_ne.2 k3
        by_cases k4 : kind = 4
        case' pos =>
          subst k4
          rcases path5 (rng key 10 60) (rng a 0 100) (rng b 1 60) (c == 0) (d == 0) with h1 | ⟨h1, h2⟩ | ⟨h1, h2, h3⟩ | ⟨h1, h2, h3, h4⟩ | ⟨h1, h2, h3, h4, h5⟩ | ⟨h1, h2, h3, h4, h5⟩
        case' neg =>
          have e4 : (kind == 4) = false := beq_eq_false_iff_ne.2 k4
  all_goals
    go_enter Tryd.func14, Tryd.ntmps14
    go_wp2_with (first | (go_at_call 28; refine (impl_userOk.calls _ _ _ (userOk_rng _)).mono ?_; rintro e w1 ⟨rfl, hd⟩; obtain ⟨m, rfl⟩ := hd.out; clear hd) | (go_at_call 29; refine (impl_giverOk.calls _ _ _ (giverOk_rng _)).mono ?_; rintro e w1 ⟨rfl, hd⟩; obtain ⟨m, rfl⟩ := hd.out; clear hd) | (go_at_call 30; refine (impl_madeOk.calls _ _ _ (madeOk_rng _)).mono ?_; rintro e w1 ⟨rfl, hd⟩; obtain ⟨m, rfl⟩ := hd.out; clear hd) | (go_at_call 31; refine (impl_timeOk.calls _ _ _ (timeOk_rng _)).mono ?_; rintro e w1 ⟨rfl, hd⟩; obtain ⟨m, rfl⟩ := hd.out; clear hd) | (go_at_call 32; refine (impl_numberOk.calls _ _ _ (numberOk_rng _)).mono ?_; rintro e w1 ⟨rfl, hd⟩; obtain ⟨m, rfl⟩ := hd.out; clear hd))
    go_ret
    exact ⟨by simp [sealOk, *], by repeat (first | (with_reducible exact Below.refl _ _) | apply pw_below_drewN | apply below_drew1 | apply below_alloc)⟩

-- NOT PRINTED: function 17 (impl_sealWords)

-- NOT PRINTED: function 67 (strconv_small)

-- NOT PRINTED: function 81 (strconv_log10Pow2)

-- NOT PRINTED: function 82 (bits_Len64)

-- NOT PRINTED: function 83 (strconv_bool2_int)

-- NOT PRINTED: function 68 (strconv_numDigits)

-- NOT PRINTED: function 69 (strconv_formatBase10)

-- NOT PRINTED: function 84 (strconv_isPowerOfTwo)

-- NOT PRINTED: function 90 (bits_TrailingZeros32)

-- NOT PRINTED: function 91 (bits_TrailingZeros64)

-- NOT PRINTED: function 85 (bits_TrailingZeros)

-- NOT PRINTED: function 70 (strconv_formatBits)

-- NOT PRINTED: function 55 (strconv_FormatInt)

-- NOT PRINTED: function 46 (strconv_Itoa_46)

-- NOT PRINTED: function 34 (strconv_Itoa_34)

-- NOT PRINTED: function 71 (abi_NoEscape)

-- NOT PRINTED: function 56 (strings_Builder_copyCheck)

-- NOT PRINTED: function 72 (bytealg_MakeNoZero)

-- NOT PRINTED: function 57 (strings_Builder_grow)

-- NOT PRINTED: function 47 (strings_Builder_Grow)

-- NOT PRINTED: function 48 (strings_Builder_WriteString)

-- NOT PRINTED: function 49 (strings_Builder_String)

-- NOT PRINTED: function 35 (strings_Join)

end Go.Proofs.YtbipicjijbnbbaaDoor.Hp
