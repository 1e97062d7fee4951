/- The law FnExactKdcOk: at every one who gives tickets the program's KdcOk answers as the reference's, and writes nothing into it. No condition but that a list is no longer than a list can be. -/
import Derived.Test.YtpdeincniaiajaaHx22
import Derived.Test.YtpdeincniaiajaaEx
import Derived.Test.YtpdeincniaiajaaCa
set_option linter.unusedVariables false
set_option linter.unusedSimpArgs false
namespace Go.Proofs.Ytpdeincniaiajaa.Pure
open Go.RowKit Go.Proofs.Ytpdeincniaiajaa.Hp Go.Proofs.YtpdeincniaiajaaW.PrintWords Go.Proofs.Ytpdeincniaiajaa.Dr
theorem FnExactKdcOk.impl (n : Int) (l : List S57) (hl : l.length ≤ 9223372036854775807) : Evs (fun k => impl_KdcOk.f k n l) (fun r => r = true ↔ ((10 ≤ n ∧ n ≤ 61) ∧ Ca.CacheOk l)) := by
  unfold impl_KdcOk.f
  rw [Sl.within]
  simp only [Option.bind_some, decide_eq_true_eq]
  refine Evs.ite (fun h => ?_) (fun h => Evs.now ⟨fun e => (by cases e), fun e => absurd e.1 h⟩)
  refine (Ca.cacheOk_ev l hl).bind fun r hr => Evs.now ?_
  exact hr.trans ⟨fun e => ⟨h, e⟩, fun e => e.2⟩
theorem FnExactKdcOk.spec (n : Int) (l : List S57) (hl : l.length ≤ 9223372036854775807) : Evs (fun k => spec_KdcOk.f k n l) (fun r => r = true ↔ ((10 ≤ n ∧ n ≤ 61) ∧ Ca.CacheOk l)) := by
  unfold spec_KdcOk.f
  rw [Sl.l6In]
  simp only [Option.bind_some, decide_eq_true_eq]
  refine Evs.ite (fun h => ?_) (fun h => Evs.now ⟨fun e => (by cases e), fun e => absurd e.1 h⟩)
  refine (Ca.specCache_ev l hl).bind fun r hr => Evs.now ?_
  exact hr.trans ⟨fun e => ⟨h, e⟩, fun e => e.2⟩
theorem FnExactKdcOk (n : Int) (l : List S72) (hl : l.length ≤ 9223372036854775807) : ∃ k, laws_FnExactKdcOk.f k n l = some true := by
  refine Evs.rounds (g := fun k => laws_FnExactKdcOk.f k n l) ?_
  unfold laws_FnExactKdcOk.f
  simp only [laws_szKdc.f, Ex.sz_is l 1048576 (by omega) (by omega) hl, Option.bind_some]
  by_cases hlen : (1048576 : Int) < l.length
  · rw [if_pos hlen]
    exact Evs.always (r := true) (by simp) rfl
  · rw [if_neg hlen, if_neg (by omega)]
    simp only [Option.bind_some]
    refine Evs.else_ (by omega) ?_
    have hto : Evs (fun k => laws_toKdc.f k n l) (· = (n, l.map Ex.conv)) := by
      unfold laws_toKdc.f
      refine (Ex.to_ev l (by omega)).bind ?_
      rintro _ rfl
      exact Evs.now rfl
    refine hto.bind ?_
    rintro _ rfl
    refine (FnExactKdcOk.spec n (l.map Ex.conv) (by simp; omega)).bind fun r1 hr1 => ?_
    refine hto.bind ?_
    rintro _ rfl
    refine (FnExactKdcOk.impl n (l.map Ex.conv) (by simp; omega)).bind fun r2 hr2 => ?_
    obtain rfl : r1 = r2 := Bool.eq_iff_iff.2 (hr1.trans hr2.symm)
    simp only [bne_self_eq_false, Bool.false_eq_true, if_false]
    refine hto.bind ?_
    rintro _ rfl
    have heq : Evs (fun k => laws_eqKdc.f k n (l.map Ex.conv) n (l.map Ex.conv)) (· = true) := by
      unfold laws_eqKdc.f
      simp only [if_true]
      refine (Ex.eq_ev _ (by simp; omega)).bind ?_
      rintro _ rfl
      exact Evs.now rfl
    refine heq.bind ?_
    rintro _ rfl
    exact Evs.now rfl
end Go.Proofs.Ytpdeincniaiajaa.Pure
