-- hp.py
import Derived.Test.YtgekmdfcbcacdaaDoorHx0
import Derived.Test.YtgekmdfcbcacdaaDoorHx3
import Derived.Test.YtgekmdfcbcacdaaDoorHx4
import Derived.Test.YtgekmdfcbcacdaaDoorHx5
import Derived.Test.YtgekmdfcbcacdaaDoorHx7
import Derived.Test.YtgekmdfcbcacdaaDoorHx16
namespace Go.Proofs.YtgekmdfcbcacdaaDoor.Hp
open Go.RowKit Go.Proofs.YtgekmdfcbcacdaaDoorW.PrintWords Go.Proofs.YtgekmdfcbcacdaaDoorW.PrintLast Go.Proofs.YtgekmdfcbcacdaaDoorW.PrintMore
attribute [local go_sem] max2_int min2_int max_two min_two max_three min_three max_four min_four   -- for this text's walks alone
set_option linter.unusedVariables false
set_option linter.unusedSimpArgs false
-- squeezed by wip/tools/squeeze.py
theorem z17x23 {P : Prop} (h : P := by (with_reducible repeat (first | refine blk_drewN ?_ _ | refine blk_drew ?_ | refine blk_alloc ?_ _)); exact BK253.out) : P := h
theorem z17x22 {P : Prop} (h : P := by (with_reducible repeat (first | refine blk_drewN ?_ _ | refine blk_drew ?_ | refine blk_alloc ?_ _)); exact BK252.out) : P := h
theorem z17x21 {P : Prop} (h : P := by (with_reducible repeat (first | refine blk_drewN ?_ _ | refine blk_drew ?_ | refine blk_alloc ?_ _)); exact BK251.out) : P := h
theorem z17x20 {P : Prop} (h : P := by (with_reducible repeat (first | refine blk_drewN ?_ _ | refine blk_drew ?_ | refine blk_alloc ?_ _)); exact BK247.out) : P := h
theorem z17x19 {P : Prop} (h : P := by repeat (first | (with_reducible first | exact HB.out | apply below_alloc | apply pw_below_drewN | apply below_drew1) | exact HB.out)) : P := h
theorem z17x18 {P : Prop} (h : P := by (try simp only [List.map_toArray, List.map_cons, List.map_nil]); first | done | rfl | (simp only [List.length_drop, List.length_take]; rfl)) : P := h
theorem z17x17 {P : Prop} (h : P := by repeat (first | (with_reducible first | exact HB.out | apply below_alloc | apply pw_below_drewN | apply below_drew1 | refine below_set ?_ GE247.out) | exact HB.out)) : P := h
theorem z17x16 {P : Prop} (h : P := by rw [hg]; exact (below_size (by repeat (first | (with_reducible first | exact HB.out | apply below_alloc | apply pw_below_drewN | apply below_drew1 | refine below_set ?_ GE247.out) | exact HB.out)))) : P := h
theorem z17x15 {P : Prop} (h : P := by rw [hg]; exact (below_size (by repeat (first | (with_reducible first | exact HB.out | apply below_alloc | apply pw_below_drewN | apply below_drew1 | refine below_set ?_ GE247.out | refine below_set ?_ GE251.out) | exact HB.out)))) : P := h
theorem z17x14 {P : Prop} (h : P := by repeat (first | (with_reducible first | exact HB.out | apply below_alloc | apply pw_below_drewN | apply below_drew1 | refine below_set ?_ GE247.out | refine below_set ?_ GE251.out | refine below_set ?_ GE252.out) | exact HB.out)) : P := h
theorem z17x13 {P : Prop} (h : P := by rw [hg]; exact (below_size (by repeat (first | (with_reducible first | exact HB.out | apply below_alloc | apply pw_below_drewN | apply below_drew1 | refine below_set ?_ GE247.out | refine below_set ?_ GE251.out | refine below_set ?_ GE252.out) | exact HB.out)))) : P := h
theorem z17x12 {P : Prop} (h : P := by repeat (first | (with_reducible first | exact HB.out | apply below_alloc | apply pw_below_drewN | apply below_drew1 | refine below_set ?_ GE247.out | refine below_set ?_ GE251.out | refine below_set ?_ GE252.out | refine below_set ?_ GE253.out) | exact HB.out)) : P := h
theorem z17x11 {P : Prop} (h : P := by rw [hg]; exact Nat.ne_of_lt (blk_lt (g := gb247) (o := .cells #[.int .i64 t240, .int .i64 t241, .int .i64 t242, .int .i64 t243, .int .i64 t244, .int .i64 t245, .int .i64 t246] 24 (0, 0)) (by (with_reducible repeat (first | refine blk_drewN ?_ _ | refine blk_drew ?_ | refine blk_alloc ?_ _)); exact BK247.out))) : P := h
theorem z17x10 {P : Prop} (h : P := by rw [hg]; exact Nat.ne_of_gt (blk_lt (g := gb247) (o := .cells #[.int .i64 t240, .int .i64 t241, .int .i64 t242, .int .i64 t243, .int .i64 t244, .int .i64 t245, .int .i64 t246] 24 (0, 0)) (by (with_reducible repeat (first | refine blk_drewN ?_ _ | refine blk_drew ?_ | refine blk_alloc ?_ _)); exact BK247.out))) : P := h
theorem z17x9 {P : Prop} (h : P := by rw [hg]; exact Nat.ne_of_lt (blk_lt (g := gb252) (o := .cells #[.int .i64 t240, .int .i64 t241, .int .i64 x253002_19, .int .i64 x253003_19, .int .i64 x253004_19, .int .i64 t245, .int .i64 t246] 24 (0, 0)) (by (with_reducible repeat (first | refine blk_drewN ?_ _ | refine blk_drew ?_ | refine blk_alloc ?_ _)); exact BK252.out))) : P := h
theorem z17x8 {P : Prop} (h : P := by rw [hg]; exact Nat.ne_of_gt (blk_lt (g := gb252) (o := .cells #[.int .i64 t240, .int .i64 t241, .int .i64 x253002_19, .int .i64 x253003_19, .int .i64 x253004_19, .int .i64 t245, .int .i64 t246] 24 (0, 0)) (by (with_reducible repeat (first | refine blk_drewN ?_ _ | refine blk_drew ?_ | refine blk_alloc ?_ _)); exact BK252.out))) : P := h
theorem z17x7 {P : Prop} (h : P := by rw [hg]; exact Nat.ne_of_lt (blk_lt (g := gb251) (o := .cells #[.int .i64 t240, .int .i64 t241, .int .i64 x252002_19, .int .i64 x252003_19, .int .i64 t244, .int .i64 x252005_19, .int .i64 x252006_19] 24 (0, 0)) (by (with_reducible repeat (first | refine blk_drewN ?_ _ | refine blk_drew ?_ | refine blk_alloc ?_ _)); exact BK251.out))) : P := h
theorem z17x6 {P : Prop} (h : P := by rw [hg]; exact Nat.ne_of_gt (blk_lt (g := gb251) (o := .cells #[.int .i64 t240, .int .i64 t241, .int .i64 x252002_19, .int .i64 x252003_19, .int .i64 t244, .int .i64 x252005_19, .int .i64 x252006_19] 24 (0, 0)) (by (with_reducible repeat (first | refine blk_drewN ?_ _ | refine blk_drew ?_ | refine blk_alloc ?_ _)); exact BK251.out))) : P := h
theorem z17x5 {P : Prop} (h : P := by (with_reducible repeat (first | refine blk_drewN ?_ _ | refine blk_drew ?_ | refine blk_alloc ?_ _)); refine blk_far ?_ NB247_251.out _; (with_reducible repeat (first | refine blk_drewN ?_ _ | refine blk_drew ?_ | refine blk_alloc ?_ _)); refine blk_far ?_ NB247_251.out _; (with_reducible repeat (first | refine blk_drewN ?_ _ | refine blk_drew ?_ | refine blk_alloc ?_ _)); refine blk_far ?_ NB247_251.out _; (with_reducible repeat (first | refine blk_drewN ?_ _ | refine blk_drew ?_ | refine blk_alloc ?_ _)); refine blk_far ?_ NB247_251.out _; (with_reducible repeat (first | refine blk_drewN ?_ _ | refine blk_drew ?_ | refine blk_alloc ?_ _)); refine blk_far ?_ NB247_251.out _; (with_reducible repeat (first | refine blk_drewN ?_ _ | refine blk_drew ?_ | refine blk_alloc ?_ _)); refine blk_far ?_ NB247_251.out _; (with_reducible repeat (first | refine blk_drewN ?_ _ | refine blk_drew ?_ | refine blk_alloc ?_ _)); refine blk_far ?_ NB247_251.out _; (with_reducible repeat (first | refine blk_drewN ?_ _ | refine blk_drew ?_ | refine blk_alloc ?_ _)); exact BK247.out) : P := h
theorem z17x4 {P : Prop} (h : P := by (with_reducible repeat (first | refine blk_drewN ?_ _ | refine blk_drew ?_ | refine blk_alloc ?_ _)); refine blk_far ?_ NB252_253.out _; (with_reducible repeat (first | refine blk_drewN ?_ _ | refine blk_drew ?_ | refine blk_alloc ?_ _)); refine blk_far ?_ NB252_253.out _; (with_reducible repeat (first | refine blk_drewN ?_ _ | refine blk_drew ?_ | refine blk_alloc ?_ _)); refine blk_far ?_ NB252_253.out _; (with_reducible repeat (first | refine blk_drewN ?_ _ | refine blk_drew ?_ | refine blk_alloc ?_ _)); refine blk_far ?_ NB252_253.out _; (with_reducible repeat (first | refine blk_drewN ?_ _ | refine blk_drew ?_ | refine blk_alloc ?_ _)); refine blk_far ?_ NB252_253.out _; (with_reducible repeat (first | refine blk_drewN ?_ _ | refine blk_drew ?_ | refine blk_alloc ?_ _)); refine blk_far ?_ NB252_253.out _; (with_reducible repeat (first | refine blk_drewN ?_ _ | refine blk_drew ?_ | refine blk_alloc ?_ _)); refine blk_far ?_ NB252_253.out _; (with_reducible repeat (first | refine blk_drewN ?_ _ | refine blk_drew ?_ | refine blk_alloc ?_ _)); refine blk_far ?_ NB252_253.out _; (with_reducible repeat (first | refine blk_drewN ?_ _ | refine blk_drew ?_ | refine blk_alloc ?_ _)); exact BK252.out) : P := h
theorem z17x3 {P : Prop} (h : P := by (with_reducible repeat (first | refine blk_drewN ?_ _ | refine blk_drew ?_ | refine blk_alloc ?_ _)); refine blk_far ?_ NB251_253.out _; (with_reducible repeat (first | refine blk_drewN ?_ _ | refine blk_drew ?_ | refine blk_alloc ?_ _)); refine blk_far ?_ NB251_253.out _; (with_reducible repeat (first | refine blk_drewN ?_ _ | refine blk_drew ?_ | refine blk_alloc ?_ _)); refine blk_far ?_ NB251_253.out _; (with_reducible repeat (first | refine blk_drewN ?_ _ | refine blk_drew ?_ | refine blk_alloc ?_ _)); refine blk_far ?_ NB251_253.out _; (with_reducible repeat (first | refine blk_drewN ?_ _ | refine blk_drew ?_ | refine blk_alloc ?_ _)); refine blk_far ?_ NB251_253.out _; (with_reducible repeat (first | refine blk_drewN ?_ _ | refine blk_drew ?_ | refine blk_alloc ?_ _)); refine blk_far ?_ NB251_253.out _; (with_reducible repeat (first | refine blk_drewN ?_ _ | refine blk_drew ?_ | refine blk_alloc ?_ _)); refine blk_far ?_ NB251_253.out _; (with_reducible repeat (first | refine blk_drewN ?_ _ | refine blk_drew ?_ | refine blk_alloc ?_ _)); refine blk_far ?_ NB251_253.out _; (with_reducible repeat (first | refine blk_drewN ?_ _ | refine blk_drew ?_ | refine blk_alloc ?_ _)); exact BK251.out) : P := h
theorem z17x2 {P : Prop} (h : P := by (with_reducible repeat (first | refine blk_drewN ?_ _ | refine blk_drew ?_ | refine blk_alloc ?_ _)); refine blk_far ?_ NB247_253.out _; (with_reducible repeat (first | refine blk_drewN ?_ _ | refine blk_drew ?_ | refine blk_alloc ?_ _)); refine blk_far ?_ NB247_253.out _; (with_reducible repeat (first | refine blk_drewN ?_ _ | refine blk_drew ?_ | refine blk_alloc ?_ _)); refine blk_far ?_ NB247_253.out _; (with_reducible repeat (first | refine blk_drewN ?_ _ | refine blk_drew ?_ | refine blk_alloc ?_ _)); refine blk_far ?_ NB247_253.out _; (with_reducible repeat (first | refine blk_drewN ?_ _ | refine blk_drew ?_ | refine blk_alloc ?_ _)); refine blk_far ?_ NB247_253.out _; (with_reducible repeat (first | refine blk_drewN ?_ _ | refine blk_drew ?_ | refine blk_alloc ?_ _)); refine blk_far ?_ NB247_253.out _; (with_reducible repeat (first | refine blk_drewN ?_ _ | refine blk_drew ?_ | refine blk_alloc ?_ _)); refine blk_far ?_ NB247_253.out _; (with_reducible repeat (first | refine blk_drewN ?_ _ | refine blk_drew ?_ | refine blk_alloc ?_ _)); refine blk_far ?_ NB247_253.out _; (with_reducible repeat (first | refine blk_drewN ?_ _ | refine blk_drew ?_ | refine blk_alloc ?_ _)); exact BK247.out) : P := h
theorem z17x1 {P : Prop} (h : P := by (with_reducible repeat (first | refine blk_drewN ?_ _ | refine blk_drew ?_ | refine blk_alloc ?_ _)); refine blk_put (cs := #[.int .i64 t240, .int .i64 t241, .int .i64 t242, .int .i64 t243, .int .i64 t244, .int .i64 t245, .int .i64 0]) ?_ 6 _ rfl; (with_reducible repeat (first | refine blk_drewN ?_ _ | refine blk_drew ?_ | refine blk_alloc ?_ _)); refine blk_put (cs := #[.int .i64 t240, .int .i64 t241, .int .i64 t242, .int .i64 t243, .int .i64 t244, .int .i64 0, .int .i64 0]) ?_ 5 _ rfl; (with_reducible repeat (first | refine blk_drewN ?_ _ | refine blk_drew ?_ | refine blk_alloc ?_ _)); refine blk_put (cs := #[.int .i64 t240, .int .i64 t241, .int .i64 t242, .int .i64 t243, .int .i64 0, .int .i64 0, .int .i64 0]) ?_ 4 _ rfl; (with_reducible repeat (first | refine blk_drewN ?_ _ | refine blk_drew ?_ | refine blk_alloc ?_ _)); refine blk_put (cs := #[.int .i64 t240, .int .i64 t241, .int .i64 t242, .int .i64 0, .int .i64 0, .int .i64 0, .int .i64 0]) ?_ 3 _ rfl; (with_reducible repeat (first | refine blk_drewN ?_ _ | refine blk_drew ?_ | refine blk_alloc ?_ _)); refine blk_put (cs := #[.int .i64 t240, .int .i64 t241, .int .i64 0, .int .i64 0, .int .i64 0, .int .i64 0, .int .i64 0]) ?_ 2 _ rfl; (with_reducible repeat (first | refine blk_drewN ?_ _ | refine blk_drew ?_ | refine blk_alloc ?_ _)); refine blk_put (cs := #[.int .i64 t240, .int .i64 0, .int .i64 0, .int .i64 0, .int .i64 0, .int .i64 0, .int .i64 0]) ?_ 1 _ rfl; (with_reducible repeat (first | refine blk_drewN ?_ _ | refine blk_drew ?_ | refine blk_alloc ?_ _)); refine blk_put (cs := #[.int .i64 0, .int .i64 0, .int .i64 0, .int .i64 0, .int .i64 0, .int .i64 0, .int .i64 0]) ?_ 0 _ rfl; (with_reducible repeat (first | refine blk_drewN ?_ _ | refine blk_drew ?_ | refine blk_alloc ?_ _)); exact BK251.out) : P := h
theorem z17x0 {P : Prop} (h : P := by (with_reducible repeat (first | refine blk_drewN ?_ _ | refine blk_drew ?_ | refine blk_alloc ?_ _)); refine blk_put (cs := #[.int .i64 t240, .int .i64 t241, .int .i64 t242, .int .i64 t243, .int .i64 t244, .int .i64 t245, .int .i64 t246]) ?_ 1 _ rfl; (with_reducible repeat (first | refine blk_drewN ?_ _ | refine blk_drew ?_ | refine blk_alloc ?_ _)); refine blk_put (cs := #[.int .i64 t240, .int .i64 t241, .int .i64 t242, .int .i64 t243, .int .i64 t244, .int .i64 t245, .int .i64 0]) ?_ 6 _ rfl; (with_reducible repeat (first | refine blk_drewN ?_ _ | refine blk_drew ?_ | refine blk_alloc ?_ _)); refine blk_put (cs := #[.int .i64 t240, .int .i64 t241, .int .i64 t242, .int .i64 t243, .int .i64 t244, .int .i64 0, .int .i64 0]) ?_ 5 _ rfl; (with_reducible repeat (first | refine blk_drewN ?_ _ | refine blk_drew ?_ | refine blk_alloc ?_ _)); refine blk_put (cs := #[.int .i64 t240, .int .i64 t241, .int .i64 t242, .int .i64 t243, .int .i64 0, .int .i64 0, .int .i64 0]) ?_ 4 _ rfl; (with_reducible repeat (first | refine blk_drewN ?_ _ | refine blk_drew ?_ | refine blk_alloc ?_ _)); refine blk_put (cs := #[.int .i64 t240, .int .i64 t241, .int .i64 t242, .int .i64 0, .int .i64 0, .int .i64 0, .int .i64 0]) ?_ 3 _ rfl; (with_reducible repeat (first | refine blk_drewN ?_ _ | refine blk_drew ?_ | refine blk_alloc ?_ _)); refine blk_put (cs := #[.int .i64 t240, .int .i64 t241, .int .i64 0, .int .i64 0, .int .i64 0, .int .i64 0, .int .i64 0]) ?_ 2 _ rfl; (with_reducible repeat (first | refine blk_drewN ?_ _ | refine blk_drew ?_ | refine blk_alloc ?_ _)); refine blk_put (cs := #[.int .i64 t240, .int .i64 0, .int .i64 0, .int .i64 0, .int .i64 0, .int .i64 0, .int .i64 0]) ?_ 1 _ rfl; (with_reducible repeat (first | refine blk_drewN ?_ _ | refine blk_drew ?_ | refine blk_alloc ?_ _)); refine blk_put (cs := #[.int .i64 0, .int .i64 0, .int .i64 0, .int .i64 0, .int .i64 0, .int .i64 0, .int .i64 0]) ?_ 0 _ rfl; (with_reducible repeat (first | refine blk_drewN ?_ _ | refine blk_drew ?_ | refine blk_alloc ?_ _)); exact BK253.out) : P := h

/-! ### laws_FnSealRange: function 7 -/
mutual
def laws_FnSealRange.j0 : Nat → Bool → Bool → Int → Int → Int → Int → Int → Int → Int → Option (Bool)
 | 0, _, _, _, _, _, _, _, _, _ => none
 | k + 1, x4, x22, x248000, x248001, x248002, x248003, x248004, x248005, x248006 => if x22 = true then ((spec_SealOk.f x248000 x248001 x248002 x248003 x248004 x248005 x248006).bind fun t250 => (some (x4 == t250))) else (if x248001 = 1 then (laws_FnSealRange.j1 k x248000 x248001 x248002 x248003 x248004 x248005 x248006 x248000 x248001 x248002 x248003 x248004 x248005 101 x248000 x248001 4 x248003 x248004 x248005 x248006) else (if x248001 = 2 then (laws_FnSealRange.j1 k x248000 x248001 x248002 x248003 x248004 x248005 x248006 x248000 x248001 x248002 x248003 x248004 101 x248006 x248000 x248001 x248002 x248003 61 x248005 x248006) else (if x248001 = 3 then (laws_FnSealRange.j1 k x248000 x248001 x248002 x248003 x248004 x248005 x248006 x248000 x248001 x248002 101 x248004 x248005 x248006 x248000 x248001 x248002 x248003 61 x248005 x248006) else (laws_FnSealRange.j1 k x248000 x248001 x248002 x248003 x248004 x248005 x248006 x248000 x248001 101 x248003 x248004 x248005 x248006 x248000 x248001 x248002 61 x248004 x248005 x248006))))
def laws_FnSealRange.j1 : Nat → Int → Int → Int → Int → Int → Int → Int → Int → Int → Int → Int → Int → Int → Int → Int → Int → Int → Int → Int → Int → Int → Option (Bool)
 | 0, _, _, _, _, _, _, _, _, _, _, _, _, _, _, _, _, _, _, _, _, _ => none
 | k + 1, x248000, x248001, x248002, x248003, x248004, x248005, x248006, x252000, x252001, x252002, x252003, x252004, x252005, x252006, x253000, x253001, x253002, x253003, x253004, x253005, x253006 => (impl_SealOk.f x252000 x252001 x252002 x252003 x252004 x252005 x252006).bind fun t254 => (if t254 = true then (some false) else ((impl_SealOk.f x253000 x253001 x253002 x253003 x253004 x253005 x253006).bind fun t255 => (if t255 = true then (some false) else ((impl_SealOk.f x248000 0 x248002 x248003 x248004 x248005 x248006).bind fun t256 => (if t256 = true then (some false) else ((impl_SealText.f x252000 x252001 x252002 x252003 x252004 x252005 x252006).bind fun t257 => (if t257.toList = ([] : List UInt8) then ((impl_SealHolds.f x253000 x253001 x253002 x253003 x253004 x253005 x253006).bind fun t258 => (some (t258 == 0))) else (some false))))))))
end
def laws_FnSealRange.f (k : Nat) (l0 : List Int) : Option (Bool) := if (l0.length : Int) > 1048576 then (some true) else ((spec_DrawSealOk.f k l0).bind fun bt240 => ((impl_SealOk.f bt240.1 bt240.2.1 bt240.2.2.1 bt240.2.2.2.1 bt240.2.2.2.2.1 bt240.2.2.2.2.2.1 bt240.2.2.2.2.2.2).bind fun t248 => ((spec_SealOk.f bt240.1 bt240.2.1 bt240.2.2.1 bt240.2.2.2.1 bt240.2.2.2.2.1 bt240.2.2.2.2.2.1 bt240.2.2.2.2.2.2).bind fun t249 => (if (t248 != t249) = true then (laws_FnSealRange.j0 k t248 true bt240.1 bt240.2.1 bt240.2.2.1 bt240.2.2.2.1 bt240.2.2.2.2.1 bt240.2.2.2.2.2.1 bt240.2.2.2.2.2.2) else (laws_FnSealRange.j0 k t248 (!t248) bt240.1 bt240.2.1 bt240.2.2.1 bt240.2.2.2.1 bt240.2.2.2.2.1 bt240.2.2.2.2.2.1 bt240.2.2.2.2.2.2)))))
theorem laws_FnSealRange.mono_l : ∀ k, (∀ y0 y1 y2 y3 y4 y5 y6 y7 y8, LeO (laws_FnSealRange.j0 k y0 y1 y2 y3 y4 y5 y6 y7 y8) (laws_FnSealRange.j0 (k + 1) y0 y1 y2 y3 y4 y5 y6 y7 y8)) ∧ (∀ y0 y1 y2 y3 y4 y5 y6 y7 y8 y9 y10 y11 y12 y13 y14 y15 y16 y17 y18 y19 y20, LeO (laws_FnSealRange.j1 k y0 y1 y2 y3 y4 y5 y6 y7 y8 y9 y10 y11 y12 y13 y14 y15 y16 y17 y18 y19 y20) (laws_FnSealRange.j1 (k + 1) y0 y1 y2 y3 y4 y5 y6 y7 y8 y9 y10 y11 y12 y13 y14 y15 y16 y17 y18 y19 y20))
 | 0 => ⟨fun _ _ _ _ _ _ _ _ _ r h => by simp [laws_FnSealRange.j0] at h, fun _ _ _ _ _ _ _ _ _ _ _ _ _ _ _ _ _ _ _ _ _ r h => by simp [laws_FnSealRange.j1] at h⟩
 | k + 1 => by
  obtain ⟨ih0, ih1⟩ := laws_FnSealRange.mono_l k
  refine ⟨?_, ?_⟩
  ·intro y0 y1 y2 y3 y4 y5 y6 y7 y8
   unfold laws_FnSealRange.j0
   repeat' first
   | (with_reducible exact ih0 _ _ _ _ _ _ _ _ _)
   | (with_reducible exact ih1 _ _ _ _ _ _ _ _ _ _ _ _ _ _ _ _ _ _ _ _ _)
   | (with_reducible exact spec_DrawSealOk.mono _ _)
   | (with_reducible exact LeO.refl _)
   | (with_reducible exact LeO.none _)
   | (with_reducible refine LeO.ite ?_ ?_)
   | (with_reducible refine LeO.bind ?_ (fun _ => ?_))
   | exact ih0 _ _ _ _ _ _ _ _ _
   | exact ih1 _ _ _ _ _ _ _ _ _ _ _ _ _ _ _ _ _ _ _ _ _
   | exact spec_DrawSealOk.mono _ _
   | exact LeO.none _
   | refine LeO.ite ?_ ?_
   | refine LeO.bind ?_ (fun _ => ?_)
  ·intro y0 y1 y2 y3 y4 y5 y6 y7 y8 y9 y10 y11 y12 y13 y14 y15 y16 y17 y18 y19 y20
   unfold laws_FnSealRange.j1
   repeat' first
   | (with_reducible exact ih0 _ _ _ _ _ _ _ _ _)
   | (with_reducible exact ih1 _ _ _ _ _ _ _ _ _ _ _ _ _ _ _ _ _ _ _ _ _)
   | (with_reducible exact spec_DrawSealOk.mono _ _)
   | (with_reducible exact LeO.refl _)
   | (with_reducible exact LeO.none _)
   | (with_reducible refine LeO.ite ?_ ?_)
   | (with_reducible refine LeO.bind ?_ (fun _ => ?_))
   | exact ih0 _ _ _ _ _ _ _ _ _
   | exact ih1 _ _ _ _ _ _ _ _ _ _ _ _ _ _ _ _ _ _ _ _ _
   | exact spec_DrawSealOk.mono _ _
   | exact LeO.none _
   | refine LeO.ite ?_ ?_
   | refine LeO.bind ?_ (fun _ => ?_)
theorem laws_FnSealRange.mono : ∀ a0 k, LeO (laws_FnSealRange.f k a0) (laws_FnSealRange.f (k + 1) a0) := by
 intro a0 k
 obtain ⟨ih0, ih1⟩ := laws_FnSealRange.mono_l k
 unfold laws_FnSealRange.f
 repeat' first
   | (with_reducible exact ih0 _ _ _ _ _ _ _ _ _)
   | (with_reducible exact ih1 _ _ _ _ _ _ _ _ _ _ _ _ _ _ _ _ _ _ _ _ _)
   | (with_reducible exact spec_DrawSealOk.mono _ _)
   | (with_reducible exact LeO.refl _)
   | (with_reducible exact LeO.none _)
   | (with_reducible refine LeO.ite ?_ ?_)
   | (with_reducible refine LeO.bind ?_ (fun _ => ?_))
   | exact ih0 _ _ _ _ _ _ _ _ _
   | exact ih1 _ _ _ _ _ _ _ _ _ _ _ _ _ _ _ _ _ _ _ _ _
   | exact spec_DrawSealOk.mono _ _
   | exact LeO.none _
   | refine LeO.ite ?_ ?_
   | refine LeO.bind ?_ (fun _ => ?_)
set_option maxHeartbeats 8000000 in
set_option maxRecDepth 100000 in
theorem laws_FnSealRange.calls (k : Nat) (A0 : Option Addr) (c0 : Nat) (l0 : List Int) (r : Bool) (w : World) (hr0 : Kd.C (Kd.int .u8) w A0 l0.length l0) (hc0 : l0.length ≤ c0) (h : laws_FnSealRange.f k l0 = some r) (ht : Tens w) :
  Calls Tryd.prog 7 #[.slice A0 l0.length c0] w fun e w' => e = .returned (.bool r) ∧ Below w.heap.size w w' := by
 have HT := Aside0.mk ht
 clear ht
 have hu24 := Tryd.underlying24
 have HR0 := Aside0.mk hr0
 have HC0 := Aside0.mk hc0
 clear hr0 hc0
 have HB := Aside0.mk (Below.refl w.heap.size w)
 have H : (if (l0.length : Int) > 1048576 then (some true) else ((spec_DrawSealOk.f k l0).bind fun bt240 => ((impl_SealOk.f bt240.1 bt240.2.1 bt240.2.2.1 bt240.2.2.2.1 bt240.2.2.2.2.1 bt240.2.2.2.2.2.1 bt240.2.2.2.2.2.2).bind fun t248 => ((spec_SealOk.f bt240.1 bt240.2.1 bt240.2.2.1 bt240.2.2.2.1 bt240.2.2.2.2.1 bt240.2.2.2.2.2.1 bt240.2.2.2.2.2.2).bind fun t249 => (if (t248 != t249) = true then (laws_FnSealRange.j0 k t248 true bt240.1 bt240.2.1 bt240.2.2.1 bt240.2.2.2.1 bt240.2.2.2.2.1 bt240.2.2.2.2.2.1 bt240.2.2.2.2.2.2) else (laws_FnSealRange.j0 k t248 (!t248) bt240.1 bt240.2.1 bt240.2.2.1 bt240.2.2.2.1 bt240.2.2.2.2.1 bt240.2.2.2.2.2.1 bt240.2.2.2.2.2.2)))))) = some r := h
 clear h
 by_cases c2 : (l0.length : Int) > 1048576
 ·rw [if_pos c2] at H
  have c2b0 : decide (1048576 < (l0.length : Int)) = true := decide_eq_true c2
  have c2b1 : decide (1048576 < l0.length) = true := decide_eq_true (by omega)
  clear c2
  obtain rfl := Option.some.inj H
  go_enter Tryd.func7, Tryd.ntmps7
  go_wp2
  go_ret
  exact ⟨by first | rfl | (simp [errW_none, errW_some] <;> rfl) | (simp [*, errW_none, errW_some] <;> rfl), by repeat (first | (with_reducible first | exact HB.out | apply below_alloc | apply pw_below_drewN | apply below_drew1) | exact HB.out)⟩
 ·rw [if_neg c2] at H
  have c2b0 : decide (1048576 < (l0.length : Int)) = false := decide_eq_false c2
  have c2b1 : decide (1048576 < l0.length) = false := decide_eq_false (by omega)
  clear c2
  replace H := Option.bind_eq_some_iff.mp H
  obtain ⟨⟨t240, t241, t242, t243, t244, t245, t246⟩, A30, H⟩ := H
  replace H : ((impl_SealOk.f t240 t241 t242 t243 t244 t245 t246).bind fun t248 => ((spec_SealOk.f t240 t241 t242 t243 t244 t245 t246).bind fun t249 => (if (t248 != t249) = true then (laws_FnSealRange.j0 k t248 true t240 t241 t242 t243 t244 t245 t246) else (laws_FnSealRange.j0 k t248 (!t248) t240 t241 t242 t243 t244 t245 t246)))) = some r := H
  have A3 := Aside0.mk A30
  clear A30
  replace H := Option.bind_eq_some_iff.mp H
  obtain ⟨t248, A40, H⟩ := H
  replace H : ((spec_SealOk.f t240 t241 t242 t243 t244 t245 t246).bind fun t249 => (if (t248 != t249) = true then (laws_FnSealRange.j0 k t248 true t240 t241 t242 t243 t244 t245 t246) else (laws_FnSealRange.j0 k t248 (!t248) t240 t241 t242 t243 t244 t245 t246))) = some r := H
  have A4 := Aside0.mk A40
  clear A40
  have HC5 := Aside0.mk H
  clear H
  go_enter Tryd.func7, Tryd.ntmps7
  go_upto_region 5 with (first | ((with_reducible refine gate_callee (f := 21) rfl ?_); refine goesL_ (some 12) rfl rfl Tryd.func21 (by kernel_rfl) rfl #[.slice A0 l0.length c0] rfl z17x18 ?_; (with_reducible refine (spec_DrawSealOk.calls k _ _ l0 t240 t241 t242 t243 t244 t245 t246 _ ?side1 ?side2 A3.out).mono ?_); (case side1 => repeat (first | exact HR0.out | (with_reducible refine Kd.C_alloc ?_ _) | (with_reducible refine Kd.C_drewN ?_ _) | (with_reducible refine Kd.C_drew ?_))); (case side2 => exact HC0.out); rintro e w6 ⟨rfl, hb⟩; refine ⟨_, rfl, ?_⟩; have n0_ := Aside0.mk (below_step z17x19 hb); clear HB; have HB := n0_; clear n0_; (try clear hb); (try clear hb2); (try clear hk); (try clear hi)) | ((with_reducible refine gate_dst (N := 3) rfl ?_); refine box_event ?hg (N := 3) ?hd (cs := #[.int .i64 0, .int .i64 0, .int .i64 0, .int .i64 0, .int .i64 0, .int .i64 0, .int .i64 0]) (t := 24) ?hr ?_; (case hd => rfl); (case hg => rfl); (case hr => first | (go_simp; done) | (go_simp; rfl)); intro gb247 hg w7 hbox hb; have n0_ := Aside0.mk (below_step z17x19 hb); have n1_ := Aside0.mk (hbox); have n2_ := Aside0.mk ((by rw [hg]; exact (below_size z17x19) : w.heap.size ≤ gb247)); have n3_ := Aside0.mk ((by rw [hg]; exact (below_size z17x19) : w.heap.size ≤ gb247)); clear HB; have HB := n0_; have BK247 := n1_; have GW247 := n2_; have GE247 := n3_; clear n0_ n1_ n2_ n3_; clear hb hbox hg; have hcz8_0 : w7.cell? ⟨gb247, 0, none⟩ = some (.int .i64 0) := (blk_cell BK247.out 0).trans rfl; have hcz8_1 : w7.cell? ⟨gb247, 1, none⟩ = some (.int .i64 0) := (blk_cell BK247.out 1).trans rfl; have hcz8_2 : w7.cell? ⟨gb247, 2, none⟩ = some (.int .i64 0) := (blk_cell BK247.out 2).trans rfl; have hcz8_3 : w7.cell? ⟨gb247, 3, none⟩ = some (.int .i64 0) := (blk_cell BK247.out 3).trans rfl; have hcz8_4 : w7.cell? ⟨gb247, 4, none⟩ = some (.int .i64 0) := (blk_cell BK247.out 4).trans rfl; have hcz8_5 : w7.cell? ⟨gb247, 5, none⟩ = some (.int .i64 0) := (blk_cell BK247.out 5).trans rfl; have hcz8_6 : w7.cell? ⟨gb247, 6, none⟩ = some (.int .i64 0) := (blk_cell BK247.out 6).trans rfl; have hfz8_0 := blk_frozen BK247.out 0; have hfz8_1 := blk_frozen BK247.out 1; have hfz8_2 := blk_frozen BK247.out 2; have hfz8_3 := blk_frozen BK247.out 3; have hfz8_4 := blk_frozen BK247.out 4; have hfz8_5 := blk_frozen BK247.out 5; have hfz8_6 := blk_frozen BK247.out 6) | ((with_reducible refine gate_callee (f := 19) rfl ?_); refine goesL_ (some 14) rfl rfl Tryd.func19 (by kernel_rfl) rfl #[.agg #[.int .i64 t240, .int .i64 t241, .int .i64 t242, .int .i64 t243, .int .i64 t244, .int .i64 t245, .int .i64 t246]] rfl z17x18 ?_; (with_reducible refine (impl_SealOk.calls t240 t241 t242 t243 t244 t245 t246 t248 _ A4.out).mono ?_); rintro e w9 ⟨rfl, hb⟩; refine ⟨_, rfl, ?_⟩; have n0_ := Aside0.mk (blk_below (g := gb247) (o := .cells #[.int .i64 t240, .int .i64 t241, .int .i64 t242, .int .i64 t243, .int .i64 t244, .int .i64 t245, .int .i64 t246] 24 (0, 0)) (by (with_reducible repeat (first | refine blk_drewN ?_ _ | refine blk_drew ?_ | refine blk_alloc ?_ _)); refine blk_put (cs := #[.int .i64 t240, .int .i64 t241, .int .i64 t242, .int .i64 t243, .int .i64 t244, .int .i64 t245, .int .i64 0]) ?_ 6 _ rfl; (with_reducible repeat (first | refine blk_drewN ?_ _ | refine blk_drew ?_ | refine blk_alloc ?_ _)); refine blk_put (cs := #[.int .i64 t240, .int .i64 t241, .int .i64 t242, .int .i64 t243, .int .i64 t244, .int .i64 0, .int .i64 0]) ?_ 5 _ rfl; (with_reducible repeat (first | refine blk_drewN ?_ _ | refine blk_drew ?_ | refine blk_alloc ?_ _)); refine blk_put (cs := #[.int .i64 t240, .int .i64 t241, .int .i64 t242, .int .i64 t243, .int .i64 0, .int .i64 0, .int .i64 0]) ?_ 4 _ rfl; (with_reducible repeat (first | refine blk_drewN ?_ _ | refine blk_drew ?_ | refine blk_alloc ?_ _)); refine blk_put (cs := #[.int .i64 t240, .int .i64 t241, .int .i64 t242, .int .i64 0, .int .i64 0, .int .i64 0, .int .i64 0]) ?_ 3 _ rfl; (with_reducible repeat (first | refine blk_drewN ?_ _ | refine blk_drew ?_ | refine blk_alloc ?_ _)); refine blk_put (cs := #[.int .i64 t240, .int .i64 t241, .int .i64 0, .int .i64 0, .int .i64 0, .int .i64 0, .int .i64 0]) ?_ 2 _ rfl; (with_reducible repeat (first | refine blk_drewN ?_ _ | refine blk_drew ?_ | refine blk_alloc ?_ _)); refine blk_put (cs := #[.int .i64 t240, .int .i64 0, .int .i64 0, .int .i64 0, .int .i64 0, .int .i64 0, .int .i64 0]) ?_ 1 _ rfl; (with_reducible repeat (first | refine blk_drewN ?_ _ | refine blk_drew ?_ | refine blk_alloc ?_ _)); refine blk_put (cs := #[.int .i64 0, .int .i64 0, .int .i64 0, .int .i64 0, .int .i64 0, .int .i64 0, .int .i64 0]) ?_ 0 _ rfl; (with_reducible repeat (first | refine blk_drewN ?_ _ | refine blk_drew ?_ | refine blk_alloc ?_ _)); exact BK247.out) hb); have n1_ := Aside0.mk (below_step z17x17 hb); clear BK247; clear HB; have BK247 := n0_; have HB := n1_; clear n0_ n1_; (try clear hb); (try clear hb2); (try clear hk); (try clear hi)))
  (try simp only [Act.put, List.setIfInBounds_toArray, List.set_cons_zero, List.set_cons_succ])
  go_cut [22] (fun v22 wc => ∃ (kq : Nat) (x22_4 : Bool), v22 = .bool x22_4 ∧ Aside0 (laws_FnSealRange.j0 kq t248 x22_4 t240 t241 t242 t243 t244 t245 t246 = some r) ∧ Aside0 (kq ≤ k) ∧ Aside0 (wc.heap[gb247]? = some (.cells #[.int .i64 t240, .int .i64 t241, .int .i64 t242, .int .i64 t243, .int .i64 t244, .int .i64 t245, .int .i64 t246] 24 (0, 0))) ∧ Aside0 (Below w.heap.size w wc))
  case first =>
   have H := HC5.out
   clear HC5
   replace H := Option.bind_eq_some_iff.mp H
   obtain ⟨t249, A100, H⟩ := H
   replace H : (if (t248 != t249) = true then (laws_FnSealRange.j0 k t248 true t240 t241 t242 t243 t244 t245 t246) else (laws_FnSealRange.j0 k t248 (!t248) t240 t241 t242 t243 t244 t245 t246)) = some r := H
   have A10 := Aside0.mk A100
   clear A100
   by_cases c11 : (t248 != t249) = true
   ·rw [if_pos c11] at H
    have c11b0 : (t248 != t249) = true := c11
    (try (have c11b1 : decide (t248 = t249) = false := by simpa using c11))
    (try (have c11b2 : (t248 == t249) = false := by simpa using c11))
    (try (have c11b3 : ¬ (t248 = t249) := by simpa using c11))
    clear c11
    (first | rw [c11b0] | (simp only [i64_w, i32_w]; rw [c11b0]) | skip)
    have H' := Aside0.mk H
    clear H
    have hcz12_0 : w9.cell? ⟨gb247, 0, none⟩ = some (.int .i64 t240) := (blk_cell BK247.out 0).trans rfl
    have hcz12_1 : w9.cell? ⟨gb247, 1, none⟩ = some (.int .i64 t241) := (blk_cell BK247.out 1).trans rfl
    have hcz12_2 : w9.cell? ⟨gb247, 2, none⟩ = some (.int .i64 t242) := (blk_cell BK247.out 2).trans rfl
    have hcz12_3 : w9.cell? ⟨gb247, 3, none⟩ = some (.int .i64 t243) := (blk_cell BK247.out 3).trans rfl
    have hcz12_4 : w9.cell? ⟨gb247, 4, none⟩ = some (.int .i64 t244) := (blk_cell BK247.out 4).trans rfl
    have hcz12_5 : w9.cell? ⟨gb247, 5, none⟩ = some (.int .i64 t245) := (blk_cell BK247.out 5).trans rfl
    have hcz12_6 : w9.cell? ⟨gb247, 6, none⟩ = some (.int .i64 t246) := (blk_cell BK247.out 6).trans rfl
    have hfz12_0 := blk_frozen BK247.out 0
    have hfz12_1 := blk_frozen BK247.out 1
    have hfz12_2 := blk_frozen BK247.out 2
    have hfz12_3 := blk_frozen BK247.out 3
    have hfz12_4 := blk_frozen BK247.out 4
    have hfz12_5 := blk_frozen BK247.out 5
    have hfz12_6 := blk_frozen BK247.out 6
    go_wp2_with (first | ((with_reducible refine gate_callee (f := 22) rfl ?_); refine goesL_ (some 17) rfl rfl Tryd.func22 (by kernel_rfl) rfl #[.agg #[.int .i64 t240, .int .i64 t241, .int .i64 t242, .int .i64 t243, .int .i64 t244, .int .i64 t245, .int .i64 t246]] rfl z17x18 ?_; (with_reducible refine (spec_SealOk.calls t240 t241 t242 t243 t244 t245 t246 t249 _ A10.out).mono ?_); rintro e w13 ⟨rfl, hb⟩; refine ⟨_, rfl, ?_⟩; have n0_ := Aside0.mk (blk_below (g := gb247) (o := .cells #[.int .i64 t240, .int .i64 t241, .int .i64 t242, .int .i64 t243, .int .i64 t244, .int .i64 t245, .int .i64 t246] 24 (0, 0)) z17x20 hb); have n1_ := Aside0.mk (below_step z17x17 hb); clear BK247; clear HB; have BK247 := n0_; have HB := n1_; clear n0_ n1_; (try clear hb); (try clear hb2); (try clear hk); (try clear hi)))
    go_meet
    case rel => exact ⟨_, (true), (by first | rfl | (simp; done) | (simp [*]; done)), H', ⟨by first | omega | exact Nat.le_refl _⟩, ⟨by (with_reducible repeat (first | refine blk_drewN ?_ _ | refine blk_drew ?_ | refine blk_alloc ?_ _)); exact BK247.out⟩, ⟨by repeat (first | (with_reducible first | exact HB.out | apply below_alloc | apply pw_below_drewN | apply below_drew1 | refine below_set ?_ GE247.out) | exact HB.out)⟩⟩
   ·rw [if_neg c11] at H
    have c11b0 : (t248 != t249) = false := by simpa using c11
    (try (have c11b1 : decide (t248 = t249) = true := by simpa using c11))
    (try (have c11b2 : (t248 == t249) = true := by simpa using c11))
    clear c11
    (first | rw [c11b0] | (simp only [i64_w, i32_w]; rw [c11b0]) | skip)
    have H' := Aside0.mk H
    clear H
    have hcz14_0 : w9.cell? ⟨gb247, 0, none⟩ = some (.int .i64 t240) := (blk_cell BK247.out 0).trans rfl
    have hcz14_1 : w9.cell? ⟨gb247, 1, none⟩ = some (.int .i64 t241) := (blk_cell BK247.out 1).trans rfl
    have hcz14_2 : w9.cell? ⟨gb247, 2, none⟩ = some (.int .i64 t242) := (blk_cell BK247.out 2).trans rfl
    have hcz14_3 : w9.cell? ⟨gb247, 3, none⟩ = some (.int .i64 t243) := (blk_cell BK247.out 3).trans rfl
    have hcz14_4 : w9.cell? ⟨gb247, 4, none⟩ = some (.int .i64 t244) := (blk_cell BK247.out 4).trans rfl
    have hcz14_5 : w9.cell? ⟨gb247, 5, none⟩ = some (.int .i64 t245) := (blk_cell BK247.out 5).trans rfl
    have hcz14_6 : w9.cell? ⟨gb247, 6, none⟩ = some (.int .i64 t246) := (blk_cell BK247.out 6).trans rfl
    have hfz14_0 := blk_frozen BK247.out 0
    have hfz14_1 := blk_frozen BK247.out 1
    have hfz14_2 := blk_frozen BK247.out 2
    have hfz14_3 := blk_frozen BK247.out 3
    have hfz14_4 := blk_frozen BK247.out 4
    have hfz14_5 := blk_frozen BK247.out 5
    have hfz14_6 := blk_frozen BK247.out 6
    go_wp2_with (first | ((with_reducible refine gate_callee (f := 22) rfl ?_); refine goesL_ (some 17) rfl rfl Tryd.func22 (by kernel_rfl) rfl #[.agg #[.int .i64 t240, .int .i64 t241, .int .i64 t242, .int .i64 t243, .int .i64 t244, .int .i64 t245, .int .i64 t246]] rfl z17x18 ?_; (with_reducible refine (spec_SealOk.calls t240 t241 t242 t243 t244 t245 t246 t249 _ A10.out).mono ?_); rintro e w15 ⟨rfl, hb⟩; refine ⟨_, rfl, ?_⟩; have n0_ := Aside0.mk (blk_below (g := gb247) (o := .cells #[.int .i64 t240, .int .i64 t241, .int .i64 t242, .int .i64 t243, .int .i64 t244, .int .i64 t245, .int .i64 t246] 24 (0, 0)) z17x20 hb); have n1_ := Aside0.mk (below_step z17x17 hb); clear BK247; clear HB; have BK247 := n0_; have HB := n1_; clear n0_ n1_; (try clear hb); (try clear hb2); (try clear hk); (try clear hi)))
    go_meet
    case rel => exact ⟨_, (!t248), (by first | rfl | (simp; done) | (simp [*]; done)), H', ⟨by first | omega | exact Nat.le_refl _⟩, ⟨by (with_reducible repeat (first | refine blk_drewN ?_ _ | refine blk_drew ?_ | refine blk_alloc ?_ _)); exact BK247.out⟩, ⟨by repeat (first | (with_reducible first | exact HB.out | apply below_alloc | apply pw_below_drewN | apply below_drew1 | refine below_set ?_ GE247.out) | exact HB.out)⟩⟩
  case rest =>
   clear HC5
   try clear c1
   try clear c2
   try clear c2b0
   try clear c2b1
   try clear p2
   try clear c7
   try clear c11
   try clear c11b0
   try clear c11b1
   try clear c11b2
   try clear hcz12_0
   try clear hcz12_1
   try clear hcz12_2
   try clear hcz12_3
   try clear hcz12_4
   try clear hcz12_5
   try clear hcz12_6
   try clear hcz14_0
   try clear hcz14_1
   try clear hcz14_2
   try clear hcz14_3
   try clear hcz14_4
   try clear hcz14_5
   try clear hcz14_6
   try clear hcz8_0
   try clear hcz8_1
   try clear hcz8_2
   try clear hcz8_3
   try clear hcz8_4
   try clear hcz8_5
   try clear hcz8_6
   try clear hfz12_0
   try clear hfz12_1
   try clear hfz12_2
   try clear hfz12_3
   try clear hfz12_4
   try clear hfz12_5
   try clear hfz12_6
   try clear hfz14_0
   try clear hfz14_1
   try clear hfz14_2
   try clear hfz14_3
   try clear hfz14_4
   try clear hfz14_5
   try clear hfz14_6
   try clear hfz8_0
   try clear hfz8_1
   try clear hfz8_2
   try clear hfz8_3
   try clear hfz8_4
   try clear hfz8_5
   try clear hfz8_6
   obtain ⟨kq, x22_4, rfl, HA, HJ4, BK247, HB⟩ := hcut
   cases kq with
   | zero => exact absurd HA.out (by simp [laws_FnSealRange.j0])
   | succ kj4 =>
    have H := HA.out
    clear HA
    simp only [laws_FnSealRange.j0] at H
    by_cases c16 : x22_4 = true
    ·subst c16
     rw [if_pos rfl] at H
     replace H := Option.bind_eq_some_iff.mp H
     obtain ⟨t250, A170, H⟩ := H
     replace H : (some (t248 == t250)) = some r := H
     have A17 := Aside0.mk A170
     clear A170
     obtain rfl := Option.some.inj H
     have hcz18_0 : wc.cell? ⟨gb247, 0, none⟩ = some (.int .i64 t240) := (blk_cell BK247.out 0).trans rfl
     have hcz18_1 : wc.cell? ⟨gb247, 1, none⟩ = some (.int .i64 t241) := (blk_cell BK247.out 1).trans rfl
     have hcz18_2 : wc.cell? ⟨gb247, 2, none⟩ = some (.int .i64 t242) := (blk_cell BK247.out 2).trans rfl
     have hcz18_3 : wc.cell? ⟨gb247, 3, none⟩ = some (.int .i64 t243) := (blk_cell BK247.out 3).trans rfl
     have hcz18_4 : wc.cell? ⟨gb247, 4, none⟩ = some (.int .i64 t244) := (blk_cell BK247.out 4).trans rfl
     have hcz18_5 : wc.cell? ⟨gb247, 5, none⟩ = some (.int .i64 t245) := (blk_cell BK247.out 5).trans rfl
     have hcz18_6 : wc.cell? ⟨gb247, 6, none⟩ = some (.int .i64 t246) := (blk_cell BK247.out 6).trans rfl
     have hfz18_0 := blk_frozen BK247.out 0
     have hfz18_1 := blk_frozen BK247.out 1
     have hfz18_2 := blk_frozen BK247.out 2
     have hfz18_3 := blk_frozen BK247.out 3
     have hfz18_4 := blk_frozen BK247.out 4
     have hfz18_5 := blk_frozen BK247.out 5
     have hfz18_6 := blk_frozen BK247.out 6
     go_wp2_with (first | ((with_reducible refine gate_callee (f := 22) rfl ?_); refine goesL_ (some 25) rfl rfl Tryd.func22 (by kernel_rfl) rfl #[.agg #[.int .i64 t240, .int .i64 t241, .int .i64 t242, .int .i64 t243, .int .i64 t244, .int .i64 t245, .int .i64 t246]] rfl z17x18 ?_; (with_reducible refine (spec_SealOk.calls t240 t241 t242 t243 t244 t245 t246 t250 _ A17.out).mono ?_); rintro e w19 ⟨rfl, hb⟩; refine ⟨_, rfl, ?_⟩; have n0_ := Aside0.mk (blk_below (g := gb247) (o := .cells #[.int .i64 t240, .int .i64 t241, .int .i64 t242, .int .i64 t243, .int .i64 t244, .int .i64 t245, .int .i64 t246] 24 (0, 0)) z17x20 hb); have n1_ := Aside0.mk (below_step z17x17 hb); clear BK247; clear HB; have BK247 := n0_; have HB := n1_; clear n0_ n1_; (try clear hb); (try clear hb2); (try clear hk); (try clear hi)))
     go_ret
     exact ⟨by first | rfl | (simp [errW_none, errW_some] <;> rfl) | (simp [*, errW_none, errW_some] <;> rfl), by repeat (first | (with_reducible first | exact HB.out | apply below_alloc | apply pw_below_drewN | apply below_drew1 | refine below_set ?_ GE247.out) | exact HB.out)⟩
    ·replace c16 := Bool.eq_false_iff.mpr c16
     subst c16
     rw [if_neg (show ¬ (false = true) by decide)] at H
     have HC20 := Aside0.mk H
     clear H
     have hcz21_0 : wc.cell? ⟨gb247, 0, none⟩ = some (.int .i64 t240) := (blk_cell BK247.out 0).trans rfl
     have hcz21_1 : wc.cell? ⟨gb247, 1, none⟩ = some (.int .i64 t241) := (blk_cell BK247.out 1).trans rfl
     have hcz21_2 : wc.cell? ⟨gb247, 2, none⟩ = some (.int .i64 t242) := (blk_cell BK247.out 2).trans rfl
     have hcz21_3 : wc.cell? ⟨gb247, 3, none⟩ = some (.int .i64 t243) := (blk_cell BK247.out 3).trans rfl
     have hcz21_4 : wc.cell? ⟨gb247, 4, none⟩ = some (.int .i64 t244) := (blk_cell BK247.out 4).trans rfl
     have hcz21_5 : wc.cell? ⟨gb247, 5, none⟩ = some (.int .i64 t245) := (blk_cell BK247.out 5).trans rfl
     have hcz21_6 : wc.cell? ⟨gb247, 6, none⟩ = some (.int .i64 t246) := (blk_cell BK247.out 6).trans rfl
     have hfz21_0 := blk_frozen BK247.out 0
     have hfz21_1 := blk_frozen BK247.out 1
     have hfz21_2 := blk_frozen BK247.out 2
     have hfz21_3 := blk_frozen BK247.out 3
     have hfz21_4 := blk_frozen BK247.out 4
     have hfz21_5 := blk_frozen BK247.out 5
     have hfz21_6 := blk_frozen BK247.out 6
     go_upto_block 0 with (first | ((with_reducible refine gate_dst (N := 5) rfl ?_); refine box_event ?hg (N := 5) ?hd (cs := #[.int .i64 0, .int .i64 0, .int .i64 0, .int .i64 0, .int .i64 0, .int .i64 0, .int .i64 0]) (t := 24) ?hr ?_; (case hd => rfl); (case hg => rfl); (case hr => first | (go_simp; done) | (go_simp; rfl)); intro gb251 hg w22 hbox hb; have n0_ := Aside0.mk (blk_below (g := gb247) (o := .cells #[.int .i64 t240, .int .i64 t241, .int .i64 t242, .int .i64 t243, .int .i64 t244, .int .i64 t245, .int .i64 t246] 24 (0, 0)) z17x20 hb); have n1_ := Aside0.mk (below_step z17x17 hb); have n2_ := Aside0.mk (hbox); have n3_ := Aside0.mk ((z17x16 : w.heap.size ≤ gb251)); have n4_ := Aside0.mk ((z17x16 : w.heap.size ≤ gb251)); have n5_ := Aside0.mk ((z17x11 : gb247 ≠ gb251)); have n6_ := Aside0.mk ((z17x10 : gb251 ≠ gb247)); clear BK247; clear HB; have BK247 := n0_; have HB := n1_; have BK251 := n2_; have GW251 := n3_; have GE251 := n4_; have NB247_251 := n5_; have NB251_247 := n6_; clear n0_ n1_ n2_ n3_ n4_ n5_ n6_; clear hb hbox hg; have hnb23 := NB251_247.out; have hnc23 := NB247_251.out; have hcz24_0 : w22.cell? ⟨gb251, 0, none⟩ = some (.int .i64 0) := (blk_cell BK251.out 0).trans rfl; have hcz24_1 : w22.cell? ⟨gb251, 1, none⟩ = some (.int .i64 0) := (blk_cell BK251.out 1).trans rfl; have hcz24_2 : w22.cell? ⟨gb251, 2, none⟩ = some (.int .i64 0) := (blk_cell BK251.out 2).trans rfl; have hcz24_3 : w22.cell? ⟨gb251, 3, none⟩ = some (.int .i64 0) := (blk_cell BK251.out 3).trans rfl; have hcz24_4 : w22.cell? ⟨gb251, 4, none⟩ = some (.int .i64 0) := (blk_cell BK251.out 4).trans rfl; have hcz24_5 : w22.cell? ⟨gb251, 5, none⟩ = some (.int .i64 0) := (blk_cell BK251.out 5).trans rfl; have hcz24_6 : w22.cell? ⟨gb251, 6, none⟩ = some (.int .i64 0) := (blk_cell BK251.out 6).trans rfl; have hfz24_0 := blk_frozen BK251.out 0; have hfz24_1 := blk_frozen BK251.out 1; have hfz24_2 := blk_frozen BK251.out 2; have hfz24_3 := blk_frozen BK251.out 3; have hfz24_4 := blk_frozen BK251.out 4; have hfz24_5 := blk_frozen BK251.out 5; have hfz24_6 := blk_frozen BK251.out 6; have hcz25_0 : w22.cell? ⟨gb247, 0, none⟩ = some (.int .i64 t240) := (blk_cell BK247.out 0).trans rfl; have hcz25_1 : w22.cell? ⟨gb247, 1, none⟩ = some (.int .i64 t241) := (blk_cell BK247.out 1).trans rfl; have hcz25_2 : w22.cell? ⟨gb247, 2, none⟩ = some (.int .i64 t242) := (blk_cell BK247.out 2).trans rfl; have hcz25_3 : w22.cell? ⟨gb247, 3, none⟩ = some (.int .i64 t243) := (blk_cell BK247.out 3).trans rfl; have hcz25_4 : w22.cell? ⟨gb247, 4, none⟩ = some (.int .i64 t244) := (blk_cell BK247.out 4).trans rfl; have hcz25_5 : w22.cell? ⟨gb247, 5, none⟩ = some (.int .i64 t245) := (blk_cell BK247.out 5).trans rfl; have hcz25_6 : w22.cell? ⟨gb247, 6, none⟩ = some (.int .i64 t246) := (blk_cell BK247.out 6).trans rfl; have hfz25_0 := blk_frozen BK247.out 0; have hfz25_1 := blk_frozen BK247.out 1; have hfz25_2 := blk_frozen BK247.out 2; have hfz25_3 := blk_frozen BK247.out 3; have hfz25_4 := blk_frozen BK247.out 4; have hfz25_5 := blk_frozen BK247.out 5; have hfz25_6 := blk_frozen BK247.out 6) | ((with_reducible refine gate_dst (N := 6) rfl ?_); refine box_event ?hg (N := 6) ?hd (cs := #[.int .i64 0, .int .i64 0, .int .i64 0, .int .i64 0, .int .i64 0, .int .i64 0, .int .i64 0]) (t := 24) ?hr ?_; (case hd => rfl); (case hg => rfl); (case hr => first | (go_simp; done) | (go_simp; rfl)); intro gb252 hg w26 hbox hb; have n0_ := Aside0.mk (blk_below (g := gb247) (o := .cells #[.int .i64 t240, .int .i64 t241, .int .i64 t242, .int .i64 t243, .int .i64 t244, .int .i64 t245, .int .i64 t246] 24 (0, 0)) z17x5 hb); have n1_ := Aside0.mk (blk_below (g := gb251) (o := .cells #[.int .i64 t240, .int .i64 t241, .int .i64 t242, .int .i64 t243, .int .i64 t244, .int .i64 t245, .int .i64 t246] 24 (0, 0)) z17x1 hb); have n2_ := Aside0.mk (below_step (by repeat (first | (with_reducible first | exact HB.out | apply below_alloc | apply pw_below_drewN | apply below_drew1 | refine below_set ?_ GE247.out | refine below_set ?_ GE251.out) | exact HB.out)) hb); have n3_ := Aside0.mk (hbox); have n4_ := Aside0.mk ((z17x15 : w.heap.size ≤ gb252)); have n5_ := Aside0.mk ((z17x15 : w.heap.size ≤ gb252)); have n6_ := Aside0.mk ((by rw [hg]; exact Nat.ne_of_lt (blk_lt (g := gb247) (o := .cells #[.int .i64 t240, .int .i64 t241, .int .i64 t242, .int .i64 t243, .int .i64 t244, .int .i64 t245, .int .i64 t246] 24 (0, 0)) z17x5) : gb247 ≠ gb252)); have n7_ := Aside0.mk ((by rw [hg]; exact Nat.ne_of_gt (blk_lt (g := gb247) (o := .cells #[.int .i64 t240, .int .i64 t241, .int .i64 t242, .int .i64 t243, .int .i64 t244, .int .i64 t245, .int .i64 t246] 24 (0, 0)) z17x5) : gb252 ≠ gb247)); have n8_ := Aside0.mk ((by rw [hg]; exact Nat.ne_of_lt (blk_lt (g := gb251) (o := .cells #[.int .i64 t240, .int .i64 t241, .int .i64 t242, .int .i64 t243, .int .i64 t244, .int .i64 t245, .int .i64 t246] 24 (0, 0)) z17x1) : gb251 ≠ gb252)); have n9_ := Aside0.mk ((by rw [hg]; exact Nat.ne_of_gt (blk_lt (g := gb251) (o := .cells #[.int .i64 t240, .int .i64 t241, .int .i64 t242, .int .i64 t243, .int .i64 t244, .int .i64 t245, .int .i64 t246] 24 (0, 0)) z17x1) : gb252 ≠ gb251)); clear BK247; clear BK251; clear HB; have BK247 := n0_; have BK251 := n1_; have HB := n2_; have BK252 := n3_; have GW252 := n4_; have GE252 := n5_; have NB247_252 := n6_; have NB252_247 := n7_; have NB251_252 := n8_; have NB252_251 := n9_; clear n0_ n1_ n2_ n3_ n4_ n5_ n6_ n7_ n8_ n9_; clear hb hbox hg; have hnb27 := NB252_247.out; have hnc27 := NB247_252.out; have hnb28 := NB252_251.out; have hnc28 := NB251_252.out; have hcz29_0 : w26.cell? ⟨gb252, 0, none⟩ = some (.int .i64 0) := (blk_cell BK252.out 0).trans rfl; have hcz29_1 : w26.cell? ⟨gb252, 1, none⟩ = some (.int .i64 0) := (blk_cell BK252.out 1).trans rfl; have hcz29_2 : w26.cell? ⟨gb252, 2, none⟩ = some (.int .i64 0) := (blk_cell BK252.out 2).trans rfl; have hcz29_3 : w26.cell? ⟨gb252, 3, none⟩ = some (.int .i64 0) := (blk_cell BK252.out 3).trans rfl; have hcz29_4 : w26.cell? ⟨gb252, 4, none⟩ = some (.int .i64 0) := (blk_cell BK252.out 4).trans rfl; have hcz29_5 : w26.cell? ⟨gb252, 5, none⟩ = some (.int .i64 0) := (blk_cell BK252.out 5).trans rfl; have hcz29_6 : w26.cell? ⟨gb252, 6, none⟩ = some (.int .i64 0) := (blk_cell BK252.out 6).trans rfl; have hfz29_0 := blk_frozen BK252.out 0; have hfz29_1 := blk_frozen BK252.out 1; have hfz29_2 := blk_frozen BK252.out 2; have hfz29_3 := blk_frozen BK252.out 3; have hfz29_4 := blk_frozen BK252.out 4; have hfz29_5 := blk_frozen BK252.out 5; have hfz29_6 := blk_frozen BK252.out 6; have hcz30_0 : w26.cell? ⟨gb247, 0, none⟩ = some (.int .i64 t240) := (blk_cell BK247.out 0).trans rfl; have hcz30_1 : w26.cell? ⟨gb247, 1, none⟩ = some (.int .i64 t241) := (blk_cell BK247.out 1).trans rfl; have hcz30_2 : w26.cell? ⟨gb247, 2, none⟩ = some (.int .i64 t242) := (blk_cell BK247.out 2).trans rfl; have hcz30_3 : w26.cell? ⟨gb247, 3, none⟩ = some (.int .i64 t243) := (blk_cell BK247.out 3).trans rfl; have hcz30_4 : w26.cell? ⟨gb247, 4, none⟩ = some (.int .i64 t244) := (blk_cell BK247.out 4).trans rfl; have hcz30_5 : w26.cell? ⟨gb247, 5, none⟩ = some (.int .i64 t245) := (blk_cell BK247.out 5).trans rfl; have hcz30_6 : w26.cell? ⟨gb247, 6, none⟩ = some (.int .i64 t246) := (blk_cell BK247.out 6).trans rfl; have hfz30_0 := blk_frozen BK247.out 0; have hfz30_1 := blk_frozen BK247.out 1; have hfz30_2 := blk_frozen BK247.out 2; have hfz30_3 := blk_frozen BK247.out 3; have hfz30_4 := blk_frozen BK247.out 4; have hfz30_5 := blk_frozen BK247.out 5; have hfz30_6 := blk_frozen BK247.out 6))
     (try simp only [Act.put, List.setIfInBounds_toArray, List.set_cons_zero, List.set_cons_succ])
     go_cut [] (fun wc => ∃ (kq : Nat) (x252002_19 : Int) (x252003_19 : Int) (x252005_19 : Int) (x252006_19 : Int) (x253002_19 : Int) (x253003_19 : Int) (x253004_19 : Int), Aside0 (laws_FnSealRange.j1 kq t240 t241 t242 t243 t244 t245 t246 t240 t241 x252002_19 x252003_19 t244 x252005_19 x252006_19 t240 t241 x253002_19 x253003_19 x253004_19 t245 t246 = some r) ∧ Aside0 (kq ≤ kj4) ∧ Aside0 (wc.heap[gb247]? = some (.cells #[.int .i64 t240, .int .i64 t241, .int .i64 t242, .int .i64 t243, .int .i64 t244, .int .i64 t245, .int .i64 t246] 24 (0, 0))) ∧ Aside0 (wc.heap[gb251]? = some (.cells #[.int .i64 t240, .int .i64 t241, .int .i64 x252002_19, .int .i64 x252003_19, .int .i64 t244, .int .i64 x252005_19, .int .i64 x252006_19] 24 (0, 0))) ∧ Aside0 (wc.heap[gb252]? = some (.cells #[.int .i64 t240, .int .i64 t241, .int .i64 x253002_19, .int .i64 x253003_19, .int .i64 x253004_19, .int .i64 t245, .int .i64 t246] 24 (0, 0))) ∧ Aside0 (Below w.heap.size w wc))
     case first =>
      have H := HC20.out
      clear HC20
      by_cases c31 : t241 = 1
      ·rw [if_pos c31] at H
       have c31b0 : (t241 == 1) = true := beq_iff_eq.mpr c31
       have c31b1 : (t241 != 1) = false := bne_eq_false_iff_eq.mpr c31
       clear c31
       (first | rw [c31b0] | (simp only [i64_w, i32_w]; rw [c31b0]) | skip)
       have H' := Aside0.mk H
       clear H
       have hnb32 := NB251_247.out
       have hnc32 := NB247_251.out
       have hnb33 := NB251_252.out
       have hnc33 := NB252_251.out
       have hcz34_0 : w26.cell? ⟨gb251, 0, none⟩ = some (.int .i64 t240) := (blk_cell BK251.out 0).trans rfl
       have hcz34_1 : w26.cell? ⟨gb251, 1, none⟩ = some (.int .i64 t241) := (blk_cell BK251.out 1).trans rfl
       have hcz34_2 : w26.cell? ⟨gb251, 2, none⟩ = some (.int .i64 t242) := (blk_cell BK251.out 2).trans rfl
       have hcz34_3 : w26.cell? ⟨gb251, 3, none⟩ = some (.int .i64 t243) := (blk_cell BK251.out 3).trans rfl
       have hcz34_4 : w26.cell? ⟨gb251, 4, none⟩ = some (.int .i64 t244) := (blk_cell BK251.out 4).trans rfl
       have hcz34_5 : w26.cell? ⟨gb251, 5, none⟩ = some (.int .i64 t245) := (blk_cell BK251.out 5).trans rfl
       have hcz34_6 : w26.cell? ⟨gb251, 6, none⟩ = some (.int .i64 t246) := (blk_cell BK251.out 6).trans rfl
       have hfz34_0 := blk_frozen BK251.out 0
       have hfz34_1 := blk_frozen BK251.out 1
       have hfz34_2 := blk_frozen BK251.out 2
       have hfz34_3 := blk_frozen BK251.out 3
       have hfz34_4 := blk_frozen BK251.out 4
       have hfz34_5 := blk_frozen BK251.out 5
       have hfz34_6 := blk_frozen BK251.out 6
       have hnb35 := NB252_247.out
       have hnc35 := NB247_252.out
       have hcz36_0 : w26.cell? ⟨gb252, 0, none⟩ = some (.int .i64 0) := (blk_cell BK252.out 0).trans rfl
       have hcz36_1 : w26.cell? ⟨gb252, 1, none⟩ = some (.int .i64 0) := (blk_cell BK252.out 1).trans rfl
       have hcz36_2 : w26.cell? ⟨gb252, 2, none⟩ = some (.int .i64 0) := (blk_cell BK252.out 2).trans rfl
       have hcz36_3 : w26.cell? ⟨gb252, 3, none⟩ = some (.int .i64 0) := (blk_cell BK252.out 3).trans rfl
       have hcz36_4 : w26.cell? ⟨gb252, 4, none⟩ = some (.int .i64 0) := (blk_cell BK252.out 4).trans rfl
       have hcz36_5 : w26.cell? ⟨gb252, 5, none⟩ = some (.int .i64 0) := (blk_cell BK252.out 5).trans rfl
       have hcz36_6 : w26.cell? ⟨gb252, 6, none⟩ = some (.int .i64 0) := (blk_cell BK252.out 6).trans rfl
       have hfz36_0 := blk_frozen BK252.out 0
       have hfz36_1 := blk_frozen BK252.out 1
       have hfz36_2 := blk_frozen BK252.out 2
       have hfz36_3 := blk_frozen BK252.out 3
       have hfz36_4 := blk_frozen BK252.out 4
       have hfz36_5 := blk_frozen BK252.out 5
       have hfz36_6 := blk_frozen BK252.out 6
       go_wp2
       go_meet
       case rel => exact ⟨_, (t242), (t243), (t245), (101), (4), (t243), (t244), H', ⟨by have := HJ4.out; first | omega | exact Nat.le_refl _⟩, ⟨by (with_reducible repeat (first | refine blk_drewN ?_ _ | refine blk_drew ?_ | refine blk_alloc ?_ _)); refine blk_far ?_ NB247_252.out _; (with_reducible repeat (first | refine blk_drewN ?_ _ | refine blk_drew ?_ | refine blk_alloc ?_ _)); refine blk_far ?_ NB247_251.out _; (with_reducible repeat (first | refine blk_drewN ?_ _ | refine blk_drew ?_ | refine blk_alloc ?_ _)); refine blk_far ?_ NB247_252.out _; (with_reducible repeat (first | refine blk_drewN ?_ _ | refine blk_drew ?_ | refine blk_alloc ?_ _)); refine blk_far ?_ NB247_252.out _; (with_reducible repeat (first | refine blk_drewN ?_ _ | refine blk_drew ?_ | refine blk_alloc ?_ _)); refine blk_far ?_ NB247_252.out _; (with_reducible repeat (first | refine blk_drewN ?_ _ | refine blk_drew ?_ | refine blk_alloc ?_ _)); refine blk_far ?_ NB247_252.out _; (with_reducible repeat (first | refine blk_drewN ?_ _ | refine blk_drew ?_ | refine blk_alloc ?_ _)); refine blk_far ?_ NB247_252.out _; (with_reducible repeat (first | refine blk_drewN ?_ _ | refine blk_drew ?_ | refine blk_alloc ?_ _)); refine blk_far ?_ NB247_252.out _; (with_reducible repeat (first | refine blk_drewN ?_ _ | refine blk_drew ?_ | refine blk_alloc ?_ _)); refine blk_far ?_ NB247_252.out _; (with_reducible repeat (first | refine blk_drewN ?_ _ | refine blk_drew ?_ | refine blk_alloc ?_ _)); exact BK247.out⟩, ⟨by (with_reducible repeat (first | refine blk_drewN ?_ _ | refine blk_drew ?_ | refine blk_alloc ?_ _)); refine blk_far ?_ NB251_252.out _; (with_reducible repeat (first | refine blk_drewN ?_ _ | refine blk_drew ?_ | refine blk_alloc ?_ _)); refine blk_put (cs := #[.int .i64 t240, .int .i64 t241, .int .i64 t242, .int .i64 t243, .int .i64 t244, .int .i64 t245, .int .i64 t246]) ?_ 6 _ rfl; (with_reducible repeat (first | refine blk_drewN ?_ _ | refine blk_drew ?_ | refine blk_alloc ?_ _)); refine blk_far ?_ NB251_252.out _; (with_reducible repeat (first | refine blk_drewN ?_ _ | refine blk_drew ?_ | refine blk_alloc ?_ _)); refine blk_far ?_ NB251_252.out _; (with_reducible repeat (first | refine blk_drewN ?_ _ | refine blk_drew ?_ | refine blk_alloc ?_ _)); refine blk_far ?_ NB251_252.out _; (with_reducible repeat (first | refine blk_drewN ?_ _ | refine blk_drew ?_ | refine blk_alloc ?_ _)); refine blk_far ?_ NB251_252.out _; (with_reducible repeat (first | refine blk_drewN ?_ _ | refine blk_drew ?_ | refine blk_alloc ?_ _)); refine blk_far ?_ NB251_252.out _; (with_reducible repeat (first | refine blk_drewN ?_ _ | refine blk_drew ?_ | refine blk_alloc ?_ _)); refine blk_far ?_ NB251_252.out _; (with_reducible repeat (first | refine blk_drewN ?_ _ | refine blk_drew ?_ | refine blk_alloc ?_ _)); refine blk_far ?_ NB251_252.out _; (with_reducible repeat (first | refine blk_drewN ?_ _ | refine blk_drew ?_ | refine blk_alloc ?_ _)); exact BK251.out⟩, ⟨by (with_reducible repeat (first | refine blk_drewN ?_ _ | refine blk_drew ?_ | refine blk_alloc ?_ _)); refine blk_put (cs := #[.int .i64 t240, .int .i64 t241, .int .i64 t242, .int .i64 t243, .int .i64 t244, .int .i64 t245, .int .i64 t246]) ?_ 2 _ rfl; (with_reducible repeat (first | refine blk_drewN ?_ _ | refine blk_drew ?_ | refine blk_alloc ?_ _)); refine blk_far ?_ NB252_251.out _; (with_reducible repeat (first | refine blk_drewN ?_ _ | refine blk_drew ?_ | refine blk_alloc ?_ _)); refine blk_put (cs := #[.int .i64 t240, .int .i64 t241, .int .i64 t242, .int .i64 t243, .int .i64 t244, .int .i64 t245, .int .i64 0]) ?_ 6 _ rfl; (with_reducible repeat (first | refine blk_drewN ?_ _ | refine blk_drew ?_ | refine blk_alloc ?_ _)); refine blk_put (cs := #[.int .i64 t240, .int .i64 t241, .int .i64 t242, .int .i64 t243, .int .i64 t244, .int .i64 0, .int .i64 0]) ?_ 5 _ rfl; (with_reducible repeat (first | refine blk_drewN ?_ _ | refine blk_drew ?_ | refine blk_alloc ?_ _)); refine blk_put (cs := #[.int .i64 t240, .int .i64 t241, .int .i64 t242, .int .i64 t243, .int .i64 0, .int .i64 0, .int .i64 0]) ?_ 4 _ rfl; (with_reducible repeat (first | refine blk_drewN ?_ _ | refine blk_drew ?_ | refine blk_alloc ?_ _)); refine blk_put (cs := #[.int .i64 t240, .int .i64 t241, .int .i64 t242, .int .i64 0, .int .i64 0, .int .i64 0, .int .i64 0]) ?_ 3 _ rfl; (with_reducible repeat (first | refine blk_drewN ?_ _ | refine blk_drew ?_ | refine blk_alloc ?_ _)); refine blk_put (cs := #[.int .i64 t240, .int .i64 t241, .int .i64 0, .int .i64 0, .int .i64 0, .int .i64 0, .int .i64 0]) ?_ 2 _ rfl; (with_reducible repeat (first | refine blk_drewN ?_ _ | refine blk_drew ?_ | refine blk_alloc ?_ _)); refine blk_put (cs := #[.int .i64 t240, .int .i64 0, .int .i64 0, .int .i64 0, .int .i64 0, .int .i64 0, .int .i64 0]) ?_ 1 _ rfl; (with_reducible repeat (first | refine blk_drewN ?_ _ | refine blk_drew ?_ | refine blk_alloc ?_ _)); refine blk_put (cs := #[.int .i64 0, .int .i64 0, .int .i64 0, .int .i64 0, .int .i64 0, .int .i64 0, .int .i64 0]) ?_ 0 _ rfl; (with_reducible repeat (first | refine blk_drewN ?_ _ | refine blk_drew ?_ | refine blk_alloc ?_ _)); exact BK252.out⟩, ⟨by repeat (first | (with_reducible first | exact HB.out | apply below_alloc | apply pw_below_drewN | apply below_drew1 | refine below_set ?_ GE247.out | refine below_set ?_ GE251.out | refine below_set ?_ GE252.out) | exact HB.out)⟩⟩
      ·rw [if_neg c31] at H
       have c31b0 : (t241 == 1) = false := beq_eq_false_iff_ne.mpr c31
       have c31b1 : (t241 != 1) = true := bne_iff_ne.mpr c31
       (first | rw [c31b0] | (simp only [i64_w, i32_w]; rw [c31b0]) | skip)
       by_cases c37 : t241 = 2
       ·rw [if_pos c37] at H
        have c37b0 : (t241 == 2) = true := beq_iff_eq.mpr c37
        have c37b1 : (t241 != 2) = false := bne_eq_false_iff_eq.mpr c37
        clear c37
        have H' := Aside0.mk H
        clear H
        have hnb38 := NB251_247.out
        have hnc38 := NB247_251.out
        have hnb39 := NB251_252.out
        have hnc39 := NB252_251.out
        have hcz40_0 : w26.cell? ⟨gb251, 0, none⟩ = some (.int .i64 t240) := (blk_cell BK251.out 0).trans rfl
        have hcz40_1 : w26.cell? ⟨gb251, 1, none⟩ = some (.int .i64 t241) := (blk_cell BK251.out 1).trans rfl
        have hcz40_2 : w26.cell? ⟨gb251, 2, none⟩ = some (.int .i64 t242) := (blk_cell BK251.out 2).trans rfl
        have hcz40_3 : w26.cell? ⟨gb251, 3, none⟩ = some (.int .i64 t243) := (blk_cell BK251.out 3).trans rfl
        have hcz40_4 : w26.cell? ⟨gb251, 4, none⟩ = some (.int .i64 t244) := (blk_cell BK251.out 4).trans rfl
        have hcz40_5 : w26.cell? ⟨gb251, 5, none⟩ = some (.int .i64 t245) := (blk_cell BK251.out 5).trans rfl
        have hcz40_6 : w26.cell? ⟨gb251, 6, none⟩ = some (.int .i64 t246) := (blk_cell BK251.out 6).trans rfl
        have hfz40_0 := blk_frozen BK251.out 0
        have hfz40_1 := blk_frozen BK251.out 1
        have hfz40_2 := blk_frozen BK251.out 2
        have hfz40_3 := blk_frozen BK251.out 3
        have hfz40_4 := blk_frozen BK251.out 4
        have hfz40_5 := blk_frozen BK251.out 5
        have hfz40_6 := blk_frozen BK251.out 6
        have hnb41 := NB252_247.out
        have hnc41 := NB247_252.out
        have hcz42_0 : w26.cell? ⟨gb252, 0, none⟩ = some (.int .i64 0) := (blk_cell BK252.out 0).trans rfl
        have hcz42_1 : w26.cell? ⟨gb252, 1, none⟩ = some (.int .i64 0) := (blk_cell BK252.out 1).trans rfl
        have hcz42_2 : w26.cell? ⟨gb252, 2, none⟩ = some (.int .i64 0) := (blk_cell BK252.out 2).trans rfl
        have hcz42_3 : w26.cell? ⟨gb252, 3, none⟩ = some (.int .i64 0) := (blk_cell BK252.out 3).trans rfl
        have hcz42_4 : w26.cell? ⟨gb252, 4, none⟩ = some (.int .i64 0) := (blk_cell BK252.out 4).trans rfl
        have hcz42_5 : w26.cell? ⟨gb252, 5, none⟩ = some (.int .i64 0) := (blk_cell BK252.out 5).trans rfl
        have hcz42_6 : w26.cell? ⟨gb252, 6, none⟩ = some (.int .i64 0) := (blk_cell BK252.out 6).trans rfl
        have hfz42_0 := blk_frozen BK252.out 0
        have hfz42_1 := blk_frozen BK252.out 1
        have hfz42_2 := blk_frozen BK252.out 2
        have hfz42_3 := blk_frozen BK252.out 3
        have hfz42_4 := blk_frozen BK252.out 4
        have hfz42_5 := blk_frozen BK252.out 5
        have hfz42_6 := blk_frozen BK252.out 6
        go_wp2
        go_meet
        case rel => exact ⟨_, (t242), (t243), (101), (t246), (t242), (t243), (61), H', ⟨by have := HJ4.out; first | omega | exact Nat.le_refl _⟩, ⟨by (with_reducible repeat (first | refine blk_drewN ?_ _ | refine blk_drew ?_ | refine blk_alloc ?_ _)); refine blk_far ?_ NB247_252.out _; (with_reducible repeat (first | refine blk_drewN ?_ _ | refine blk_drew ?_ | refine blk_alloc ?_ _)); refine blk_far ?_ NB247_251.out _; (with_reducible repeat (first | refine blk_drewN ?_ _ | refine blk_drew ?_ | refine blk_alloc ?_ _)); refine blk_far ?_ NB247_252.out _; (with_reducible repeat (first | refine blk_drewN ?_ _ | refine blk_drew ?_ | refine blk_alloc ?_ _)); refine blk_far ?_ NB247_252.out _; (with_reducible repeat (first | refine blk_drewN ?_ _ | refine blk_drew ?_ | refine blk_alloc ?_ _)); refine blk_far ?_ NB247_252.out _; (with_reducible repeat (first | refine blk_drewN ?_ _ | refine blk_drew ?_ | refine blk_alloc ?_ _)); refine blk_far ?_ NB247_252.out _; (with_reducible repeat (first | refine blk_drewN ?_ _ | refine blk_drew ?_ | refine blk_alloc ?_ _)); refine blk_far ?_ NB247_252.out _; (with_reducible repeat (first | refine blk_drewN ?_ _ | refine blk_drew ?_ | refine blk_alloc ?_ _)); refine blk_far ?_ NB247_252.out _; (with_reducible repeat (first | refine blk_drewN ?_ _ | refine blk_drew ?_ | refine blk_alloc ?_ _)); refine blk_far ?_ NB247_252.out _; (with_reducible repeat (first | refine blk_drewN ?_ _ | refine blk_drew ?_ | refine blk_alloc ?_ _)); exact BK247.out⟩, ⟨by (with_reducible repeat (first | refine blk_drewN ?_ _ | refine blk_drew ?_ | refine blk_alloc ?_ _)); refine blk_far ?_ NB251_252.out _; (with_reducible repeat (first | refine blk_drewN ?_ _ | refine blk_drew ?_ | refine blk_alloc ?_ _)); refine blk_put (cs := #[.int .i64 t240, .int .i64 t241, .int .i64 t242, .int .i64 t243, .int .i64 t244, .int .i64 t245, .int .i64 t246]) ?_ 5 _ rfl; (with_reducible repeat (first | refine blk_drewN ?_ _ | refine blk_drew ?_ | refine blk_alloc ?_ _)); refine blk_far ?_ NB251_252.out _; (with_reducible repeat (first | refine blk_drewN ?_ _ | refine blk_drew ?_ | refine blk_alloc ?_ _)); refine blk_far ?_ NB251_252.out _; (with_reducible repeat (first | refine blk_drewN ?_ _ | refine blk_drew ?_ | refine blk_alloc ?_ _)); refine blk_far ?_ NB251_252.out _; (with_reducible repeat (first | refine blk_drewN ?_ _ | refine blk_drew ?_ | refine blk_alloc ?_ _)); refine blk_far ?_ NB251_252.out _; (with_reducible repeat (first | refine blk_drewN ?_ _ | refine blk_drew ?_ | refine blk_alloc ?_ _)); refine blk_far ?_ NB251_252.out _; (with_reducible repeat (first | refine blk_drewN ?_ _ | refine blk_drew ?_ | refine blk_alloc ?_ _)); refine blk_far ?_ NB251_252.out _; (with_reducible repeat (first | refine blk_drewN ?_ _ | refine blk_drew ?_ | refine blk_alloc ?_ _)); refine blk_far ?_ NB251_252.out _; (with_reducible repeat (first | refine blk_drewN ?_ _ | refine blk_drew ?_ | refine blk_alloc ?_ _)); exact BK251.out⟩, ⟨by (with_reducible repeat (first | refine blk_drewN ?_ _ | refine blk_drew ?_ | refine blk_alloc ?_ _)); refine blk_put (cs := #[.int .i64 t240, .int .i64 t241, .int .i64 t242, .int .i64 t243, .int .i64 t244, .int .i64 t245, .int .i64 t246]) ?_ 4 _ rfl; (with_reducible repeat (first | refine blk_drewN ?_ _ | refine blk_drew ?_ | refine blk_alloc ?_ _)); refine blk_far ?_ NB252_251.out _; (with_reducible repeat (first | refine blk_drewN ?_ _ | refine blk_drew ?_ | refine blk_alloc ?_ _)); refine blk_put (cs := #[.int .i64 t240, .int .i64 t241, .int .i64 t242, .int .i64 t243, .int .i64 t244, .int .i64 t245, .int .i64 0]) ?_ 6 _ rfl; (with_reducible repeat (first | refine blk_drewN ?_ _ | refine blk_drew ?_ | refine blk_alloc ?_ _)); refine blk_put (cs := #[.int .i64 t240, .int .i64 t241, .int .i64 t242, .int .i64 t243, .int .i64 t244, .int .i64 0, .int .i64 0]) ?_ 5 _ rfl; (with_reducible repeat (first | refine blk_drewN ?_ _ | refine blk_drew ?_ | refine blk_alloc ?_ _)); refine blk_put (cs := #[.int .i64 t240, .int .i64 t241, .int .i64 t242, .int .i64 t243, .int .i64 0, .int .i64 0, .int .i64 0]) ?_ 4 _ rfl; (with_reducible repeat (first | refine blk_drewN ?_ _ | refine blk_drew ?_ | refine blk_alloc ?_ _)); refine blk_put (cs := #[.int .i64 t240, .int .i64 t241, .int .i64 t242, .int .i64 0, .int .i64 0, .int .i64 0, .int .i64 0]) ?_ 3 _ rfl; (with_reducible repeat (first | refine blk_drewN ?_ _ | refine blk_drew ?_ | refine blk_alloc ?_ _)); refine blk_put (cs := #[.int .i64 t240, .int .i64 t241, .int .i64 0, .int .i64 0, .int .i64 0, .int .i64 0, .int .i64 0]) ?_ 2 _ rfl; (with_reducible repeat (first | refine blk_drewN ?_ _ | refine blk_drew ?_ | refine blk_alloc ?_ _)); refine blk_put (cs := #[.int .i64 t240, .int .i64 0, .int .i64 0, .int .i64 0, .int .i64 0, .int .i64 0, .int .i64 0]) ?_ 1 _ rfl; (with_reducible repeat (first | refine blk_drewN ?_ _ | refine blk_drew ?_ | refine blk_alloc ?_ _)); refine blk_put (cs := #[.int .i64 0, .int .i64 0, .int .i64 0, .int .i64 0, .int .i64 0, .int .i64 0, .int .i64 0]) ?_ 0 _ rfl; (with_reducible repeat (first | refine blk_drewN ?_ _ | refine blk_drew ?_ | refine blk_alloc ?_ _)); exact BK252.out⟩, ⟨by repeat (first | (with_reducible first | exact HB.out | apply below_alloc | apply pw_below_drewN | apply below_drew1 | refine below_set ?_ GE247.out | refine below_set ?_ GE251.out | refine below_set ?_ GE252.out) | exact HB.out)⟩⟩
       ·rw [if_neg c37] at H
        have c37b0 : (t241 == 2) = false := beq_eq_false_iff_ne.mpr c37
        have c37b1 : (t241 != 2) = true := bne_iff_ne.mpr c37
        by_cases c43 : t241 = 3
        ·rw [if_pos c43] at H
         have c43b0 : (t241 == 3) = true := beq_iff_eq.mpr c43
         have c43b1 : (t241 != 3) = false := bne_eq_false_iff_eq.mpr c43
         clear c43
         have H' := Aside0.mk H
         clear H
         have hnb44 := NB251_247.out
         have hnc44 := NB247_251.out
         have hnb45 := NB251_252.out
         have hnc45 := NB252_251.out
         have hcz46_0 : w26.cell? ⟨gb251, 0, none⟩ = some (.int .i64 t240) := (blk_cell BK251.out 0).trans rfl
         have hcz46_1 : w26.cell? ⟨gb251, 1, none⟩ = some (.int .i64 t241) := (blk_cell BK251.out 1).trans rfl
         have hcz46_2 : w26.cell? ⟨gb251, 2, none⟩ = some (.int .i64 t242) := (blk_cell BK251.out 2).trans rfl
         have hcz46_3 : w26.cell? ⟨gb251, 3, none⟩ = some (.int .i64 t243) := (blk_cell BK251.out 3).trans rfl
         have hcz46_4 : w26.cell? ⟨gb251, 4, none⟩ = some (.int .i64 t244) := (blk_cell BK251.out 4).trans rfl
         have hcz46_5 : w26.cell? ⟨gb251, 5, none⟩ = some (.int .i64 t245) := (blk_cell BK251.out 5).trans rfl
         have hcz46_6 : w26.cell? ⟨gb251, 6, none⟩ = some (.int .i64 t246) := (blk_cell BK251.out 6).trans rfl
         have hfz46_0 := blk_frozen BK251.out 0
         have hfz46_1 := blk_frozen BK251.out 1
         have hfz46_2 := blk_frozen BK251.out 2
         have hfz46_3 := blk_frozen BK251.out 3
         have hfz46_4 := blk_frozen BK251.out 4
         have hfz46_5 := blk_frozen BK251.out 5
         have hfz46_6 := blk_frozen BK251.out 6
         have hnb47 := NB252_247.out
         have hnc47 := NB247_252.out
         have hcz48_0 : w26.cell? ⟨gb252, 0, none⟩ = some (.int .i64 0) := (blk_cell BK252.out 0).trans rfl
         have hcz48_1 : w26.cell? ⟨gb252, 1, none⟩ = some (.int .i64 0) := (blk_cell BK252.out 1).trans rfl
         have hcz48_2 : w26.cell? ⟨gb252, 2, none⟩ = some (.int .i64 0) := (blk_cell BK252.out 2).trans rfl
         have hcz48_3 : w26.cell? ⟨gb252, 3, none⟩ = some (.int .i64 0) := (blk_cell BK252.out 3).trans rfl
         have hcz48_4 : w26.cell? ⟨gb252, 4, none⟩ = some (.int .i64 0) := (blk_cell BK252.out 4).trans rfl
         have hcz48_5 : w26.cell? ⟨gb252, 5, none⟩ = some (.int .i64 0) := (blk_cell BK252.out 5).trans rfl
         have hcz48_6 : w26.cell? ⟨gb252, 6, none⟩ = some (.int .i64 0) := (blk_cell BK252.out 6).trans rfl
         have hfz48_0 := blk_frozen BK252.out 0
         have hfz48_1 := blk_frozen BK252.out 1
         have hfz48_2 := blk_frozen BK252.out 2
         have hfz48_3 := blk_frozen BK252.out 3
         have hfz48_4 := blk_frozen BK252.out 4
         have hfz48_5 := blk_frozen BK252.out 5
         have hfz48_6 := blk_frozen BK252.out 6
         go_wp2
         go_meet
         case rel => exact ⟨_, (t242), (101), (t245), (t246), (t242), (t243), (61), H', ⟨by have := HJ4.out; first | omega | exact Nat.le_refl _⟩, ⟨by (with_reducible repeat (first | refine blk_drewN ?_ _ | refine blk_drew ?_ | refine blk_alloc ?_ _)); refine blk_far ?_ NB247_252.out _; (with_reducible repeat (first | refine blk_drewN ?_ _ | refine blk_drew ?_ | refine blk_alloc ?_ _)); refine blk_far ?_ NB247_251.out _; (with_reducible repeat (first | refine blk_drewN ?_ _ | refine blk_drew ?_ | refine blk_alloc ?_ _)); refine blk_far ?_ NB247_252.out _; (with_reducible repeat (first | refine blk_drewN ?_ _ | refine blk_drew ?_ | refine blk_alloc ?_ _)); refine blk_far ?_ NB247_252.out _; (with_reducible repeat (first | refine blk_drewN ?_ _ | refine blk_drew ?_ | refine blk_alloc ?_ _)); refine blk_far ?_ NB247_252.out _; (with_reducible repeat (first | refine blk_drewN ?_ _ | refine blk_drew ?_ | refine blk_alloc ?_ _)); refine blk_far ?_ NB247_252.out _; (with_reducible repeat (first | refine blk_drewN ?_ _ | refine blk_drew ?_ | refine blk_alloc ?_ _)); refine blk_far ?_ NB247_252.out _; (with_reducible repeat (first | refine blk_drewN ?_ _ | refine blk_drew ?_ | refine blk_alloc ?_ _)); refine blk_far ?_ NB247_252.out _; (with_reducible repeat (first | refine blk_drewN ?_ _ | refine blk_drew ?_ | refine blk_alloc ?_ _)); refine blk_far ?_ NB247_252.out _; (with_reducible repeat (first | refine blk_drewN ?_ _ | refine blk_drew ?_ | refine blk_alloc ?_ _)); exact BK247.out⟩, ⟨by (with_reducible repeat (first | refine blk_drewN ?_ _ | refine blk_drew ?_ | refine blk_alloc ?_ _)); refine blk_far ?_ NB251_252.out _; (with_reducible repeat (first | refine blk_drewN ?_ _ | refine blk_drew ?_ | refine blk_alloc ?_ _)); refine blk_put (cs := #[.int .i64 t240, .int .i64 t241, .int .i64 t242, .int .i64 t243, .int .i64 t244, .int .i64 t245, .int .i64 t246]) ?_ 3 _ rfl; (with_reducible repeat (first | refine blk_drewN ?_ _ | refine blk_drew ?_ | refine blk_alloc ?_ _)); refine blk_far ?_ NB251_252.out _; (with_reducible repeat (first | refine blk_drewN ?_ _ | refine blk_drew ?_ | refine blk_alloc ?_ _)); refine blk_far ?_ NB251_252.out _; (with_reducible repeat (first | refine blk_drewN ?_ _ | refine blk_drew ?_ | refine blk_alloc ?_ _)); refine blk_far ?_ NB251_252.out _; (with_reducible repeat (first | refine blk_drewN ?_ _ | refine blk_drew ?_ | refine blk_alloc ?_ _)); refine blk_far ?_ NB251_252.out _; (with_reducible repeat (first | refine blk_drewN ?_ _ | refine blk_drew ?_ | refine blk_alloc ?_ _)); refine blk_far ?_ NB251_252.out _; (with_reducible repeat (first | refine blk_drewN ?_ _ | refine blk_drew ?_ | refine blk_alloc ?_ _)); refine blk_far ?_ NB251_252.out _; (with_reducible repeat (first | refine blk_drewN ?_ _ | refine blk_drew ?_ | refine blk_alloc ?_ _)); refine blk_far ?_ NB251_252.out _; (with_reducible repeat (first | refine blk_drewN ?_ _ | refine blk_drew ?_ | refine blk_alloc ?_ _)); exact BK251.out⟩, ⟨by (with_reducible repeat (first | refine blk_drewN ?_ _ | refine blk_drew ?_ | refine blk_alloc ?_ _)); refine blk_put (cs := #[.int .i64 t240, .int .i64 t241, .int .i64 t242, .int .i64 t243, .int .i64 t244, .int .i64 t245, .int .i64 t246]) ?_ 4 _ rfl; (with_reducible repeat (first | refine blk_drewN ?_ _ | refine blk_drew ?_ | refine blk_alloc ?_ _)); refine blk_far ?_ NB252_251.out _; (with_reducible repeat (first | refine blk_drewN ?_ _ | refine blk_drew ?_ | refine blk_alloc ?_ _)); refine blk_put (cs := #[.int .i64 t240, .int .i64 t241, .int .i64 t242, .int .i64 t243, .int .i64 t244, .int .i64 t245, .int .i64 0]) ?_ 6 _ rfl; (with_reducible repeat (first | refine blk_drewN ?_ _ | refine blk_drew ?_ | refine blk_alloc ?_ _)); refine blk_put (cs := #[.int .i64 t240, .int .i64 t241, .int .i64 t242, .int .i64 t243, .int .i64 t244, .int .i64 0, .int .i64 0]) ?_ 5 _ rfl; (with_reducible repeat (first | refine blk_drewN ?_ _ | refine blk_drew ?_ | refine blk_alloc ?_ _)); refine blk_put (cs := #[.int .i64 t240, .int .i64 t241, .int .i64 t242, .int .i64 t243, .int .i64 0, .int .i64 0, .int .i64 0]) ?_ 4 _ rfl; (with_reducible repeat (first | refine blk_drewN ?_ _ | refine blk_drew ?_ | refine blk_alloc ?_ _)); refine blk_put (cs := #[.int .i64 t240, .int .i64 t241, .int .i64 t242, .int .i64 0, .int .i64 0, .int .i64 0, .int .i64 0]) ?_ 3 _ rfl; (with_reducible repeat (first | refine blk_drewN ?_ _ | refine blk_drew ?_ | refine blk_alloc ?_ _)); refine blk_put (cs := #[.int .i64 t240, .int .i64 t241, .int .i64 0, .int .i64 0, .int .i64 0, .int .i64 0, .int .i64 0]) ?_ 2 _ rfl; (with_reducible repeat (first | refine blk_drewN ?_ _ | refine blk_drew ?_ | refine blk_alloc ?_ _)); refine blk_put (cs := #[.int .i64 t240, .int .i64 0, .int .i64 0, .int .i64 0, .int .i64 0, .int .i64 0, .int .i64 0]) ?_ 1 _ rfl; (with_reducible repeat (first | refine blk_drewN ?_ _ | refine blk_drew ?_ | refine blk_alloc ?_ _)); refine blk_put (cs := #[.int .i64 0, .int .i64 0, .int .i64 0, .int .i64 0, .int .i64 0, .int .i64 0, .int .i64 0]) ?_ 0 _ rfl; (with_reducible repeat (first | refine blk_drewN ?_ _ | refine blk_drew ?_ | refine blk_alloc ?_ _)); exact BK252.out⟩, ⟨by repeat (first | (with_reducible first | exact HB.out | apply below_alloc | apply pw_below_drewN | apply below_drew1 | refine below_set ?_ GE247.out | refine below_set ?_ GE251.out | refine below_set ?_ GE252.out) | exact HB.out)⟩⟩
        ·rw [if_neg c43] at H
         have c43b0 : (t241 == 3) = false := beq_eq_false_iff_ne.mpr c43
         have c43b1 : (t241 != 3) = true := bne_iff_ne.mpr c43
         have H' := Aside0.mk H
         clear H
         have hnb49 := NB251_247.out
         have hnc49 := NB247_251.out
         have hnb50 := NB251_252.out
         have hnc50 := NB252_251.out
         have hcz51_0 : w26.cell? ⟨gb251, 0, none⟩ = some (.int .i64 t240) := (blk_cell BK251.out 0).trans rfl
         have hcz51_1 : w26.cell? ⟨gb251, 1, none⟩ = some (.int .i64 t241) := (blk_cell BK251.out 1).trans rfl
         have hcz51_2 : w26.cell? ⟨gb251, 2, none⟩ = some (.int .i64 t242) := (blk_cell BK251.out 2).trans rfl
         have hcz51_3 : w26.cell? ⟨gb251, 3, none⟩ = some (.int .i64 t243) := (blk_cell BK251.out 3).trans rfl
         have hcz51_4 : w26.cell? ⟨gb251, 4, none⟩ = some (.int .i64 t244) := (blk_cell BK251.out 4).trans rfl
         have hcz51_5 : w26.cell? ⟨gb251, 5, none⟩ = some (.int .i64 t245) := (blk_cell BK251.out 5).trans rfl
         have hcz51_6 : w26.cell? ⟨gb251, 6, none⟩ = some (.int .i64 t246) := (blk_cell BK251.out 6).trans rfl
         have hfz51_0 := blk_frozen BK251.out 0
         have hfz51_1 := blk_frozen BK251.out 1
         have hfz51_2 := blk_frozen BK251.out 2
         have hfz51_3 := blk_frozen BK251.out 3
         have hfz51_4 := blk_frozen BK251.out 4
         have hfz51_5 := blk_frozen BK251.out 5
         have hfz51_6 := blk_frozen BK251.out 6
         have hnb52 := NB252_247.out
         have hnc52 := NB247_252.out
         have hcz53_0 : w26.cell? ⟨gb252, 0, none⟩ = some (.int .i64 0) := (blk_cell BK252.out 0).trans rfl
         have hcz53_1 : w26.cell? ⟨gb252, 1, none⟩ = some (.int .i64 0) := (blk_cell BK252.out 1).trans rfl
         have hcz53_2 : w26.cell? ⟨gb252, 2, none⟩ = some (.int .i64 0) := (blk_cell BK252.out 2).trans rfl
         have hcz53_3 : w26.cell? ⟨gb252, 3, none⟩ = some (.int .i64 0) := (blk_cell BK252.out 3).trans rfl
         have hcz53_4 : w26.cell? ⟨gb252, 4, none⟩ = some (.int .i64 0) := (blk_cell BK252.out 4).trans rfl
         have hcz53_5 : w26.cell? ⟨gb252, 5, none⟩ = some (.int .i64 0) := (blk_cell BK252.out 5).trans rfl
         have hcz53_6 : w26.cell? ⟨gb252, 6, none⟩ = some (.int .i64 0) := (blk_cell BK252.out 6).trans rfl
         have hfz53_0 := blk_frozen BK252.out 0
         have hfz53_1 := blk_frozen BK252.out 1
         have hfz53_2 := blk_frozen BK252.out 2
         have hfz53_3 := blk_frozen BK252.out 3
         have hfz53_4 := blk_frozen BK252.out 4
         have hfz53_5 := blk_frozen BK252.out 5
         have hfz53_6 := blk_frozen BK252.out 6
         go_wp2
         go_meet
         case rel => exact ⟨_, (101), (t243), (t245), (t246), (t242), (61), (t244), H', ⟨by have := HJ4.out; first | omega | exact Nat.le_refl _⟩, ⟨by (with_reducible repeat (first | refine blk_drewN ?_ _ | refine blk_drew ?_ | refine blk_alloc ?_ _)); refine blk_far ?_ NB247_252.out _; (with_reducible repeat (first | refine blk_drewN ?_ _ | refine blk_drew ?_ | refine blk_alloc ?_ _)); refine blk_far ?_ NB247_251.out _; (with_reducible repeat (first | refine blk_drewN ?_ _ | refine blk_drew ?_ | refine blk_alloc ?_ _)); refine blk_far ?_ NB247_252.out _; (with_reducible repeat (first | refine blk_drewN ?_ _ | refine blk_drew ?_ | refine blk_alloc ?_ _)); refine blk_far ?_ NB247_252.out _; (with_reducible repeat (first | refine blk_drewN ?_ _ | refine blk_drew ?_ | refine blk_alloc ?_ _)); refine blk_far ?_ NB247_252.out _; (with_reducible repeat (first | refine blk_drewN ?_ _ | refine blk_drew ?_ | refine blk_alloc ?_ _)); refine blk_far ?_ NB247_252.out _; (with_reducible repeat (first | refine blk_drewN ?_ _ | refine blk_drew ?_ | refine blk_alloc ?_ _)); refine blk_far ?_ NB247_252.out _; (with_reducible repeat (first | refine blk_drewN ?_ _ | refine blk_drew ?_ | refine blk_alloc ?_ _)); refine blk_far ?_ NB247_252.out _; (with_reducible repeat (first | refine blk_drewN ?_ _ | refine blk_drew ?_ | refine blk_alloc ?_ _)); refine blk_far ?_ NB247_252.out _; (with_reducible repeat (first | refine blk_drewN ?_ _ | refine blk_drew ?_ | refine blk_alloc ?_ _)); exact BK247.out⟩, ⟨by (with_reducible repeat (first | refine blk_drewN ?_ _ | refine blk_drew ?_ | refine blk_alloc ?_ _)); refine blk_far ?_ NB251_252.out _; (with_reducible repeat (first | refine blk_drewN ?_ _ | refine blk_drew ?_ | refine blk_alloc ?_ _)); refine blk_put (cs := #[.int .i64 t240, .int .i64 t241, .int .i64 t242, .int .i64 t243, .int .i64 t244, .int .i64 t245, .int .i64 t246]) ?_ 2 _ rfl; (with_reducible repeat (first | refine blk_drewN ?_ _ | refine blk_drew ?_ | refine blk_alloc ?_ _)); refine blk_far ?_ NB251_252.out _; (with_reducible repeat (first | refine blk_drewN ?_ _ | refine blk_drew ?_ | refine blk_alloc ?_ _)); refine blk_far ?_ NB251_252.out _; (with_reducible repeat (first | refine blk_drewN ?_ _ | refine blk_drew ?_ | refine blk_alloc ?_ _)); refine blk_far ?_ NB251_252.out _; (with_reducible repeat (first | refine blk_drewN ?_ _ | refine blk_drew ?_ | refine blk_alloc ?_ _)); refine blk_far ?_ NB251_252.out _; (with_reducible repeat (first | refine blk_drewN ?_ _ | refine blk_drew ?_ | refine blk_alloc ?_ _)); refine blk_far ?_ NB251_252.out _; (with_reducible repeat (first | refine blk_drewN ?_ _ | refine blk_drew ?_ | refine blk_alloc ?_ _)); refine blk_far ?_ NB251_252.out _; (with_reducible repeat (first | refine blk_drewN ?_ _ | refine blk_drew ?_ | refine blk_alloc ?_ _)); refine blk_far ?_ NB251_252.out _; (with_reducible repeat (first | refine blk_drewN ?_ _ | refine blk_drew ?_ | refine blk_alloc ?_ _)); exact BK251.out⟩, ⟨by (with_reducible repeat (first | refine blk_drewN ?_ _ | refine blk_drew ?_ | refine blk_alloc ?_ _)); refine blk_put (cs := #[.int .i64 t240, .int .i64 t241, .int .i64 t242, .int .i64 t243, .int .i64 t244, .int .i64 t245, .int .i64 t246]) ?_ 3 _ rfl; (with_reducible repeat (first | refine blk_drewN ?_ _ | refine blk_drew ?_ | refine blk_alloc ?_ _)); refine blk_far ?_ NB252_251.out _; (with_reducible repeat (first | refine blk_drewN ?_ _ | refine blk_drew ?_ | refine blk_alloc ?_ _)); refine blk_put (cs := #[.int .i64 t240, .int .i64 t241, .int .i64 t242, .int .i64 t243, .int .i64 t244, .int .i64 t245, .int .i64 0]) ?_ 6 _ rfl; (with_reducible repeat (first | refine blk_drewN ?_ _ | refine blk_drew ?_ | refine blk_alloc ?_ _)); refine blk_put (cs := #[.int .i64 t240, .int .i64 t241, .int .i64 t242, .int .i64 t243, .int .i64 t244, .int .i64 0, .int .i64 0]) ?_ 5 _ rfl; (with_reducible repeat (first | refine blk_drewN ?_ _ | refine blk_drew ?_ | refine blk_alloc ?_ _)); refine blk_put (cs := #[.int .i64 t240, .int .i64 t241, .int .i64 t242, .int .i64 t243, .int .i64 0, .int .i64 0, .int .i64 0]) ?_ 4 _ rfl; (with_reducible repeat (first | refine blk_drewN ?_ _ | refine blk_drew ?_ | refine blk_alloc ?_ _)); refine blk_put (cs := #[.int .i64 t240, .int .i64 t241, .int .i64 t242, .int .i64 0, .int .i64 0, .int .i64 0, .int .i64 0]) ?_ 3 _ rfl; (with_reducible repeat (first | refine blk_drewN ?_ _ | refine blk_drew ?_ | refine blk_alloc ?_ _)); refine blk_put (cs := #[.int .i64 t240, .int .i64 t241, .int .i64 0, .int .i64 0, .int .i64 0, .int .i64 0, .int .i64 0]) ?_ 2 _ rfl; (with_reducible repeat (first | refine blk_drewN ?_ _ | refine blk_drew ?_ | refine blk_alloc ?_ _)); refine blk_put (cs := #[.int .i64 t240, .int .i64 0, .int .i64 0, .int .i64 0, .int .i64 0, .int .i64 0, .int .i64 0]) ?_ 1 _ rfl; (with_reducible repeat (first | refine blk_drewN ?_ _ | refine blk_drew ?_ | refine blk_alloc ?_ _)); refine blk_put (cs := #[.int .i64 0, .int .i64 0, .int .i64 0, .int .i64 0, .int .i64 0, .int .i64 0, .int .i64 0]) ?_ 0 _ rfl; (with_reducible repeat (first | refine blk_drewN ?_ _ | refine blk_drew ?_ | refine blk_alloc ?_ _)); exact BK252.out⟩, ⟨by repeat (first | (with_reducible first | exact HB.out | apply below_alloc | apply pw_below_drewN | apply below_drew1 | refine below_set ?_ GE247.out | refine below_set ?_ GE251.out | refine below_set ?_ GE252.out) | exact HB.out)⟩⟩
     case rest =>
      clear HC20
      try clear c1
      try clear c2
      try clear c2b0
      try clear c2b1
      try clear p2
      try clear c3
      try clear c4
      try clear c5
      try clear c7
      try clear c11
      try clear c11b0
      try clear c11b1
      try clear c11b2
      try clear c16
      try clear c19
      try clear c21
      try clear c22
      try clear c23
      try clear c27
      try clear c28
      try clear c31
      try clear c31b0
      try clear c31b1
      try clear c32
      try clear c33
      try clear c35
      try clear c37
      try clear c37b0
      try clear c37b1
      try clear c38
      try clear c39
      try clear c41
      try clear c43
      try clear c43b0
      try clear c43b1
      try clear c44
      try clear c45
      try clear c47
      try clear c49
      try clear c50
      try clear c52
      try clear hcz12_0
      try clear hcz12_1
      try clear hcz12_2
      try clear hcz12_3
      try clear hcz12_4
      try clear hcz12_5
      try clear hcz12_6
      try clear hcz14_0
      try clear hcz14_1
      try clear hcz14_2
      try clear hcz14_3
      try clear hcz14_4
      try clear hcz14_5
      try clear hcz14_6
      try clear hcz18_0
      try clear hcz18_1
      try clear hcz18_2
      try clear hcz18_3
      try clear hcz18_4
      try clear hcz18_5
      try clear hcz18_6
      try clear hcz21_0
      try clear hcz21_1
      try clear hcz21_2
      try clear hcz21_3
      try clear hcz21_4
      try clear hcz21_5
      try clear hcz21_6
      try clear hcz24_0
      try clear hcz24_1
      try clear hcz24_2
      try clear hcz24_3
      try clear hcz24_4
      try clear hcz24_5
      try clear hcz24_6
      try clear hcz25_0
      try clear hcz25_1
      try clear hcz25_2
      try clear hcz25_3
      try clear hcz25_4
      try clear hcz25_5
      try clear hcz25_6
      try clear hcz29_0
      try clear hcz29_1
      try clear hcz29_2
      try clear hcz29_3
      try clear hcz29_4
      try clear hcz29_5
      try clear hcz29_6
      try clear hcz30_0
      try clear hcz30_1
      try clear hcz30_2
      try clear hcz30_3
      try clear hcz30_4
      try clear hcz30_5
      try clear hcz30_6
      try clear hcz34_0
      try clear hcz34_1
      try clear hcz34_2
      try clear hcz34_3
      try clear hcz34_4
      try clear hcz34_5
      try clear hcz34_6
      try clear hcz36_0
      try clear hcz36_1
      try clear hcz36_2
      try clear hcz36_3
      try clear hcz36_4
      try clear hcz36_5
      try clear hcz36_6
      try clear hcz40_0
      try clear hcz40_1
      try clear hcz40_2
      try clear hcz40_3
      try clear hcz40_4
      try clear hcz40_5
      try clear hcz40_6
      try clear hcz42_0
      try clear hcz42_1
      try clear hcz42_2
      try clear hcz42_3
      try clear hcz42_4
      try clear hcz42_5
      try clear hcz42_6
      try clear hcz46_0
      try clear hcz46_1
      try clear hcz46_2
      try clear hcz46_3
      try clear hcz46_4
      try clear hcz46_5
      try clear hcz46_6
      try clear hcz48_0
      try clear hcz48_1
      try clear hcz48_2
      try clear hcz48_3
      try clear hcz48_4
      try clear hcz48_5
      try clear hcz48_6
      try clear hcz51_0
      try clear hcz51_1
      try clear hcz51_2
      try clear hcz51_3
      try clear hcz51_4
      try clear hcz51_5
      try clear hcz51_6
      try clear hcz53_0
      try clear hcz53_1
      try clear hcz53_2
      try clear hcz53_3
      try clear hcz53_4
      try clear hcz53_5
      try clear hcz53_6
      try clear hcz8_0
      try clear hcz8_1
      try clear hcz8_2
      try clear hcz8_3
      try clear hcz8_4
      try clear hcz8_5
      try clear hcz8_6
      try clear hfz12_0
      try clear hfz12_1
      try clear hfz12_2
      try clear hfz12_3
      try clear hfz12_4
      try clear hfz12_5
      try clear hfz12_6
      try clear hfz14_0
      try clear hfz14_1
      try clear hfz14_2
      try clear hfz14_3
      try clear hfz14_4
      try clear hfz14_5
      try clear hfz14_6
      try clear hfz18_0
      try clear hfz18_1
      try clear hfz18_2
      try clear hfz18_3
      try clear hfz18_4
      try clear hfz18_5
      try clear hfz18_6
      try clear hfz21_0
      try clear hfz21_1
      try clear hfz21_2
      try clear hfz21_3
      try clear hfz21_4
      try clear hfz21_5
      try clear hfz21_6
      try clear hfz24_0
      try clear hfz24_1
      try clear hfz24_2
      try clear hfz24_3
      try clear hfz24_4
      try clear hfz24_5
      try clear hfz24_6
      try clear hfz25_0
      try clear hfz25_1
      try clear hfz25_2
      try clear hfz25_3
      try clear hfz25_4
      try clear hfz25_5
      try clear hfz25_6
      try clear hfz29_0
      try clear hfz29_1
      try clear hfz29_2
      try clear hfz29_3
      try clear hfz29_4
      try clear hfz29_5
      try clear hfz29_6
      try clear hfz30_0
      try clear hfz30_1
      try clear hfz30_2
      try clear hfz30_3
      try clear hfz30_4
      try clear hfz30_5
      try clear hfz30_6
      try clear hfz34_0
      try clear hfz34_1
      try clear hfz34_2
      try clear hfz34_3
      try clear hfz34_4
      try clear hfz34_5
      try clear hfz34_6
      try clear hfz36_0
      try clear hfz36_1
      try clear hfz36_2
      try clear hfz36_3
      try clear hfz36_4
      try clear hfz36_5
      try clear hfz36_6
      try clear hfz40_0
      try clear hfz40_1
      try clear hfz40_2
      try clear hfz40_3
      try clear hfz40_4
      try clear hfz40_5
      try clear hfz40_6
      try clear hfz42_0
      try clear hfz42_1
      try clear hfz42_2
      try clear hfz42_3
      try clear hfz42_4
      try clear hfz42_5
      try clear hfz42_6
      try clear hfz46_0
      try clear hfz46_1
      try clear hfz46_2
      try clear hfz46_3
      try clear hfz46_4
      try clear hfz46_5
      try clear hfz46_6
      try clear hfz48_0
      try clear hfz48_1
      try clear hfz48_2
      try clear hfz48_3
      try clear hfz48_4
      try clear hfz48_5
      try clear hfz48_6
      try clear hfz51_0
      try clear hfz51_1
      try clear hfz51_2
      try clear hfz51_3
      try clear hfz51_4
      try clear hfz51_5
      try clear hfz51_6
      try clear hfz53_0
      try clear hfz53_1
      try clear hfz53_2
      try clear hfz53_3
      try clear hfz53_4
      try clear hfz53_5
      try clear hfz53_6
      try clear hfz8_0
      try clear hfz8_1
      try clear hfz8_2
      try clear hfz8_3
      try clear hfz8_4
      try clear hfz8_5
      try clear hfz8_6
      try clear p2
      obtain ⟨kq, x252002_19, x252003_19, x252005_19, x252006_19, x253002_19, x253003_19, x253004_19, HA, HJ19, BK247, BK251, BK252, HB⟩ := hcut
      cases kq with
      | zero => exact absurd HA.out (by simp [laws_FnSealRange.j1])
      | succ kj19 =>
       have H := HA.out
       clear HA
       simp only [laws_FnSealRange.j1] at H
       replace H := Option.bind_eq_some_iff.mp H
       obtain ⟨t254, A540, H⟩ := H
       replace H : (if t254 = true then (some false) else ((impl_SealOk.f t240 t241 x253002_19 x253003_19 x253004_19 t245 t246).bind fun t255 => (if t255 = true then (some false) else ((impl_SealOk.f t240 0 t242 t243 t244 t245 t246).bind fun t256 => (if t256 = true then (some false) else ((impl_SealText.f t240 t241 x252002_19 x252003_19 t244 x252005_19 x252006_19).bind fun t257 => (if t257.toList = ([] : List UInt8) then ((impl_SealHolds.f t240 t241 x253002_19 x253003_19 x253004_19 t245 t246).bind fun t258 => (some (t258 == 0))) else (some false)))))))) = some r := H
       have A54 := Aside0.mk A540
       clear A540
       by_cases c55 : t254 = true
       ·subst c55
        rw [if_pos rfl] at H
        obtain rfl := Option.some.inj H
        have hnb56 := NB247_251.out
        have hnc56 := NB251_247.out
        have hnb57 := NB247_252.out
        have hnc57 := NB252_247.out
        have hcz58_0 : wc.cell? ⟨gb247, 0, none⟩ = some (.int .i64 t240) := (blk_cell BK247.out 0).trans rfl
        have hcz58_1 : wc.cell? ⟨gb247, 1, none⟩ = some (.int .i64 t241) := (blk_cell BK247.out 1).trans rfl
        have hcz58_2 : wc.cell? ⟨gb247, 2, none⟩ = some (.int .i64 t242) := (blk_cell BK247.out 2).trans rfl
        have hcz58_3 : wc.cell? ⟨gb247, 3, none⟩ = some (.int .i64 t243) := (blk_cell BK247.out 3).trans rfl
        have hcz58_4 : wc.cell? ⟨gb247, 4, none⟩ = some (.int .i64 t244) := (blk_cell BK247.out 4).trans rfl
        have hcz58_5 : wc.cell? ⟨gb247, 5, none⟩ = some (.int .i64 t245) := (blk_cell BK247.out 5).trans rfl
        have hcz58_6 : wc.cell? ⟨gb247, 6, none⟩ = some (.int .i64 t246) := (blk_cell BK247.out 6).trans rfl
        have hfz58_0 := blk_frozen BK247.out 0
        have hfz58_1 := blk_frozen BK247.out 1
        have hfz58_2 := blk_frozen BK247.out 2
        have hfz58_3 := blk_frozen BK247.out 3
        have hfz58_4 := blk_frozen BK247.out 4
        have hfz58_5 := blk_frozen BK247.out 5
        have hfz58_6 := blk_frozen BK247.out 6
        go_wp2_with (first | ((with_reducible refine gate_dst (N := 7) rfl ?_); refine box_event ?hg (N := 7) ?hd (cs := #[.int .i64 0, .int .i64 0, .int .i64 0, .int .i64 0, .int .i64 0, .int .i64 0, .int .i64 0]) (t := 24) ?hr ?_; (case hd => rfl); (case hg => rfl); (case hr => first | (go_simp; done) | (go_simp; rfl)); intro gb253 hg w59 hbox hb; have n0_ := Aside0.mk (blk_below (g := gb247) (o := .cells #[.int .i64 t240, .int .i64 t241, .int .i64 t242, .int .i64 t243, .int .i64 t244, .int .i64 t245, .int .i64 t246] 24 (0, 0)) z17x20 hb); have n1_ := Aside0.mk (blk_below (g := gb251) (o := .cells #[.int .i64 t240, .int .i64 t241, .int .i64 x252002_19, .int .i64 x252003_19, .int .i64 t244, .int .i64 x252005_19, .int .i64 x252006_19] 24 (0, 0)) z17x21 hb); have n2_ := Aside0.mk (blk_below (g := gb252) (o := .cells #[.int .i64 t240, .int .i64 t241, .int .i64 x253002_19, .int .i64 x253003_19, .int .i64 x253004_19, .int .i64 t245, .int .i64 t246] 24 (0, 0)) z17x22 hb); have n3_ := Aside0.mk (below_step z17x14 hb); have n4_ := Aside0.mk (hbox); have n5_ := Aside0.mk ((z17x13 : w.heap.size ≤ gb253)); have n6_ := Aside0.mk ((z17x13 : w.heap.size ≤ gb253)); have n7_ := Aside0.mk ((z17x11 : gb247 ≠ gb253)); have n8_ := Aside0.mk ((z17x10 : gb253 ≠ gb247)); have n9_ := Aside0.mk ((z17x7 : gb251 ≠ gb253)); have n10_ := Aside0.mk ((z17x6 : gb253 ≠ gb251)); have n11_ := Aside0.mk ((z17x9 : gb252 ≠ gb253)); have n12_ := Aside0.mk ((z17x8 : gb253 ≠ gb252)); clear BK247; clear BK251; clear BK252; clear HB; have BK247 := n0_; have BK251 := n1_; have BK252 := n2_; have HB := n3_; have BK253 := n4_; have GW253 := n5_; have GE253 := n6_; have NB247_253 := n7_; have NB253_247 := n8_; have NB251_253 := n9_; have NB253_251 := n10_; have NB252_253 := n11_; have NB253_252 := n12_; clear n0_ n1_ n2_ n3_ n4_ n5_ n6_ n7_ n8_ n9_ n10_ n11_ n12_; clear hb hbox hg; have hnb60 := NB253_247.out; have hnc60 := NB247_253.out; have hnb61 := NB253_251.out; have hnc61 := NB251_253.out; have hnb62 := NB253_252.out; have hnc62 := NB252_253.out; have hcz63_0 : w59.cell? ⟨gb253, 0, none⟩ = some (.int .i64 0) := (blk_cell BK253.out 0).trans rfl; have hcz63_1 : w59.cell? ⟨gb253, 1, none⟩ = some (.int .i64 0) := (blk_cell BK253.out 1).trans rfl; have hcz63_2 : w59.cell? ⟨gb253, 2, none⟩ = some (.int .i64 0) := (blk_cell BK253.out 2).trans rfl; have hcz63_3 : w59.cell? ⟨gb253, 3, none⟩ = some (.int .i64 0) := (blk_cell BK253.out 3).trans rfl; have hcz63_4 : w59.cell? ⟨gb253, 4, none⟩ = some (.int .i64 0) := (blk_cell BK253.out 4).trans rfl; have hcz63_5 : w59.cell? ⟨gb253, 5, none⟩ = some (.int .i64 0) := (blk_cell BK253.out 5).trans rfl; have hcz63_6 : w59.cell? ⟨gb253, 6, none⟩ = some (.int .i64 0) := (blk_cell BK253.out 6).trans rfl; have hfz63_0 := blk_frozen BK253.out 0; have hfz63_1 := blk_frozen BK253.out 1; have hfz63_2 := blk_frozen BK253.out 2; have hfz63_3 := blk_frozen BK253.out 3; have hfz63_4 := blk_frozen BK253.out 4; have hfz63_5 := blk_frozen BK253.out 5; have hfz63_6 := blk_frozen BK253.out 6; have hnb64 := NB251_252.out; have hnc64 := NB252_251.out; have hcz65_0 : w59.cell? ⟨gb251, 0, none⟩ = some (.int .i64 t240) := (blk_cell BK251.out 0).trans rfl; have hcz65_1 : w59.cell? ⟨gb251, 1, none⟩ = some (.int .i64 t241) := (blk_cell BK251.out 1).trans rfl; have hcz65_2 : w59.cell? ⟨gb251, 2, none⟩ = some (.int .i64 x252002_19) := (blk_cell BK251.out 2).trans rfl; have hcz65_3 : w59.cell? ⟨gb251, 3, none⟩ = some (.int .i64 x252003_19) := (blk_cell BK251.out 3).trans rfl; have hcz65_4 : w59.cell? ⟨gb251, 4, none⟩ = some (.int .i64 t244) := (blk_cell BK251.out 4).trans rfl; have hcz65_5 : w59.cell? ⟨gb251, 5, none⟩ = some (.int .i64 x252005_19) := (blk_cell BK251.out 5).trans rfl; have hcz65_6 : w59.cell? ⟨gb251, 6, none⟩ = some (.int .i64 x252006_19) := (blk_cell BK251.out 6).trans rfl; have hfz65_0 := blk_frozen BK251.out 0; have hfz65_1 := blk_frozen BK251.out 1; have hfz65_2 := blk_frozen BK251.out 2; have hfz65_3 := blk_frozen BK251.out 3; have hfz65_4 := blk_frozen BK251.out 4; have hfz65_5 := blk_frozen BK251.out 5; have hfz65_6 := blk_frozen BK251.out 6) | ((with_reducible refine gate_callee (f := 19) rfl ?_); refine goesL_ (some 48) rfl rfl Tryd.func19 (by kernel_rfl) rfl #[.agg #[.int .i64 t240, .int .i64 t241, .int .i64 x252002_19, .int .i64 x252003_19, .int .i64 t244, .int .i64 x252005_19, .int .i64 x252006_19]] rfl z17x18 ?_; (with_reducible refine (impl_SealOk.calls t240 t241 x252002_19 x252003_19 t244 x252005_19 x252006_19 true _ A54.out).mono ?_); rintro e w66 ⟨rfl, hb⟩; refine ⟨_, rfl, ?_⟩; have n0_ := Aside0.mk (blk_below (g := gb247) (o := .cells #[.int .i64 t240, .int .i64 t241, .int .i64 t242, .int .i64 t243, .int .i64 t244, .int .i64 t245, .int .i64 t246] 24 (0, 0)) z17x2 hb); have n1_ := Aside0.mk (blk_below (g := gb251) (o := .cells #[.int .i64 t240, .int .i64 t241, .int .i64 x252002_19, .int .i64 x252003_19, .int .i64 t244, .int .i64 x252005_19, .int .i64 x252006_19] 24 (0, 0)) z17x3 hb); have n2_ := Aside0.mk (blk_below (g := gb252) (o := .cells #[.int .i64 t240, .int .i64 t241, .int .i64 x253002_19, .int .i64 x253003_19, .int .i64 x253004_19, .int .i64 t245, .int .i64 t246] 24 (0, 0)) z17x4 hb); have n3_ := Aside0.mk (blk_below (g := gb253) (o := .cells #[.int .i64 t240, .int .i64 0, .int .i64 t242, .int .i64 t243, .int .i64 t244, .int .i64 t245, .int .i64 t246] 24 (0, 0)) z17x0 hb); have n4_ := Aside0.mk (below_step z17x12 hb); clear BK247; clear BK251; clear BK252; clear BK253; clear HB; have BK247 := n0_; have BK251 := n1_; have BK252 := n2_; have BK253 := n3_; have HB := n4_; clear n0_ n1_ n2_ n3_ n4_; (try clear hb); (try clear hb2); (try clear hk); (try clear hi)))
        go_ret
        exact ⟨by first | rfl | (simp [errW_none, errW_some] <;> rfl) | (simp [*, errW_none, errW_some] <;> rfl), by repeat (first | (with_reducible first | exact HB.out | apply below_alloc | apply pw_below_drewN | apply below_drew1 | refine below_set ?_ GE247.out | refine below_set ?_ GE251.out | refine below_set ?_ GE252.out | refine below_set ?_ GE253.out) | exact HB.out)⟩
       ·replace c55 := Bool.eq_false_iff.mpr c55
        subst c55
        rw [if_neg (show ¬ (false = true) by decide)] at H
        replace H := Option.bind_eq_some_iff.mp H
        obtain ⟨t255, A670, H⟩ := H
        replace H : (if t255 = true then (some false) else ((impl_SealOk.f t240 0 t242 t243 t244 t245 t246).bind fun t256 => (if t256 = true then (some false) else ((impl_SealText.f t240 t241 x252002_19 x252003_19 t244 x252005_19 x252006_19).bind fun t257 => (if t257.toList = ([] : List UInt8) then ((impl_SealHolds.f t240 t241 x253002_19 x253003_19 x253004_19 t245 t246).bind fun t258 => (some (t258 == 0))) else (some false)))))) = some r := H
        have A67 := Aside0.mk A670
        clear A670
        by_cases c68 : t255 = true
        ·subst c68
         rw [if_pos rfl] at H
         obtain rfl := Option.some.inj H
         have hnb69 := NB247_251.out
         have hnc69 := NB251_247.out
         have hnb70 := NB247_252.out
         have hnc70 := NB252_247.out
         have hcz71_0 : wc.cell? ⟨gb247, 0, none⟩ = some (.int .i64 t240) := (blk_cell BK247.out 0).trans rfl
         have hcz71_1 : wc.cell? ⟨gb247, 1, none⟩ = some (.int .i64 t241) := (blk_cell BK247.out 1).trans rfl
         have hcz71_2 : wc.cell? ⟨gb247, 2, none⟩ = some (.int .i64 t242) := (blk_cell BK247.out 2).trans rfl
         have hcz71_3 : wc.cell? ⟨gb247, 3, none⟩ = some (.int .i64 t243) := (blk_cell BK247.out 3).trans rfl
         have hcz71_4 : wc.cell? ⟨gb247, 4, none⟩ = some (.int .i64 t244) := (blk_cell BK247.out 4).trans rfl
         have hcz71_5 : wc.cell? ⟨gb247, 5, none⟩ = some (.int .i64 t245) := (blk_cell BK247.out 5).trans rfl
         have hcz71_6 : wc.cell? ⟨gb247, 6, none⟩ = some (.int .i64 t246) := (blk_cell BK247.out 6).trans rfl
         have hfz71_0 := blk_frozen BK247.out 0
         have hfz71_1 := blk_frozen BK247.out 1
         have hfz71_2 := blk_frozen BK247.out 2
         have hfz71_3 := blk_frozen BK247.out 3
         have hfz71_4 := blk_frozen BK247.out 4
         have hfz71_5 := blk_frozen BK247.out 5
         have hfz71_6 := blk_frozen BK247.out 6
         go_wp2_with (first | ((with_reducible refine gate_dst (N := 7) rfl ?_); refine box_event ?hg (N := 7) ?hd (cs := #[.int .i64 0, .int .i64 0, .int .i64 0, .int .i64 0, .int .i64 0, .int .i64 0, .int .i64 0]) (t := 24) ?hr ?_; (case hd => rfl); (case hg => rfl); (case hr => first | (go_simp; done) | (go_simp; rfl)); intro gb253 hg w72 hbox hb; have n0_ := Aside0.mk (blk_below (g := gb247) (o := .cells #[.int .i64 t240, .int .i64 t241, .int .i64 t242, .int .i64 t243, .int .i64 t244, .int .i64 t245, .int .i64 t246] 24 (0, 0)) z17x20 hb); have n1_ := Aside0.mk (blk_below (g := gb251) (o := .cells #[.int .i64 t240, .int .i64 t241, .int .i64 x252002_19, .int .i64 x252003_19, .int .i64 t244, .int .i64 x252005_19, .int .i64 x252006_19] 24 (0, 0)) z17x21 hb); have n2_ := Aside0.mk (blk_below (g := gb252) (o := .cells #[.int .i64 t240, .int .i64 t241, .int .i64 x253002_19, .int .i64 x253003_19, .int .i64 x253004_19, .int .i64 t245, .int .i64 t246] 24 (0, 0)) z17x22 hb); have n3_ := Aside0.mk (below_step z17x14 hb); have n4_ := Aside0.mk (hbox); have n5_ := Aside0.mk ((z17x13 : w.heap.size ≤ gb253)); have n6_ := Aside0.mk ((z17x13 : w.heap.size ≤ gb253)); have n7_ := Aside0.mk ((z17x11 : gb247 ≠ gb253)); have n8_ := Aside0.mk ((z17x10 : gb253 ≠ gb247)); have n9_ := Aside0.mk ((z17x7 : gb251 ≠ gb253)); have n10_ := Aside0.mk ((z17x6 : gb253 ≠ gb251)); have n11_ := Aside0.mk ((z17x9 : gb252 ≠ gb253)); have n12_ := Aside0.mk ((z17x8 : gb253 ≠ gb252)); clear BK247; clear BK251; clear BK252; clear HB; have BK247 := n0_; have BK251 := n1_; have BK252 := n2_; have HB := n3_; have BK253 := n4_; have GW253 := n5_; have GE253 := n6_; have NB247_253 := n7_; have NB253_247 := n8_; have NB251_253 := n9_; have NB253_251 := n10_; have NB252_253 := n11_; have NB253_252 := n12_; clear n0_ n1_ n2_ n3_ n4_ n5_ n6_ n7_ n8_ n9_ n10_ n11_ n12_; clear hb hbox hg; have hnb73 := NB253_247.out; have hnc73 := NB247_253.out; have hnb74 := NB253_251.out; have hnc74 := NB251_253.out; have hnb75 := NB253_252.out; have hnc75 := NB252_253.out; have hcz76_0 : w72.cell? ⟨gb253, 0, none⟩ = some (.int .i64 0) := (blk_cell BK253.out 0).trans rfl; have hcz76_1 : w72.cell? ⟨gb253, 1, none⟩ = some (.int .i64 0) := (blk_cell BK253.out 1).trans rfl; have hcz76_2 : w72.cell? ⟨gb253, 2, none⟩ = some (.int .i64 0) := (blk_cell BK253.out 2).trans rfl; have hcz76_3 : w72.cell? ⟨gb253, 3, none⟩ = some (.int .i64 0) := (blk_cell BK253.out 3).trans rfl; have hcz76_4 : w72.cell? ⟨gb253, 4, none⟩ = some (.int .i64 0) := (blk_cell BK253.out 4).trans rfl; have hcz76_5 : w72.cell? ⟨gb253, 5, none⟩ = some (.int .i64 0) := (blk_cell BK253.out 5).trans rfl; have hcz76_6 : w72.cell? ⟨gb253, 6, none⟩ = some (.int .i64 0) := (blk_cell BK253.out 6).trans rfl; have hfz76_0 := blk_frozen BK253.out 0; have hfz76_1 := blk_frozen BK253.out 1; have hfz76_2 := blk_frozen BK253.out 2; have hfz76_3 := blk_frozen BK253.out 3; have hfz76_4 := blk_frozen BK253.out 4; have hfz76_5 := blk_frozen BK253.out 5; have hfz76_6 := blk_frozen BK253.out 6; have hnb77 := NB251_252.out; have hnc77 := NB252_251.out; have hcz78_0 : w72.cell? ⟨gb251, 0, none⟩ = some (.int .i64 t240) := (blk_cell BK251.out 0).trans rfl; have hcz78_1 : w72.cell? ⟨gb251, 1, none⟩ = some (.int .i64 t241) := (blk_cell BK251.out 1).trans rfl; have hcz78_2 : w72.cell? ⟨gb251, 2, none⟩ = some (.int .i64 x252002_19) := (blk_cell BK251.out 2).trans rfl; have hcz78_3 : w72.cell? ⟨gb251, 3, none⟩ = some (.int .i64 x252003_19) := (blk_cell BK251.out 3).trans rfl; have hcz78_4 : w72.cell? ⟨gb251, 4, none⟩ = some (.int .i64 t244) := (blk_cell BK251.out 4).trans rfl; have hcz78_5 : w72.cell? ⟨gb251, 5, none⟩ = some (.int .i64 x252005_19) := (blk_cell BK251.out 5).trans rfl; have hcz78_6 : w72.cell? ⟨gb251, 6, none⟩ = some (.int .i64 x252006_19) := (blk_cell BK251.out 6).trans rfl; have hfz78_0 := blk_frozen BK251.out 0; have hfz78_1 := blk_frozen BK251.out 1; have hfz78_2 := blk_frozen BK251.out 2; have hfz78_3 := blk_frozen BK251.out 3; have hfz78_4 := blk_frozen BK251.out 4; have hfz78_5 := blk_frozen BK251.out 5; have hfz78_6 := blk_frozen BK251.out 6) | ((with_reducible refine gate_callee (f := 19) rfl ?_); refine goesL_ (some 48) rfl rfl Tryd.func19 (by kernel_rfl) rfl #[.agg #[.int .i64 t240, .int .i64 t241, .int .i64 x252002_19, .int .i64 x252003_19, .int .i64 t244, .int .i64 x252005_19, .int .i64 x252006_19]] rfl z17x18 ?_; (with_reducible refine (impl_SealOk.calls t240 t241 x252002_19 x252003_19 t244 x252005_19 x252006_19 false _ A54.out).mono ?_); rintro e w79 ⟨rfl, hb⟩; refine ⟨_, rfl, ?_⟩; have n0_ := Aside0.mk (blk_below (g := gb247) (o := .cells #[.int .i64 t240, .int .i64 t241, .int .i64 t242, .int .i64 t243, .int .i64 t244, .int .i64 t245, .int .i64 t246] 24 (0, 0)) z17x2 hb); have n1_ := Aside0.mk (blk_below (g := gb251) (o := .cells #[.int .i64 t240, .int .i64 t241, .int .i64 x252002_19, .int .i64 x252003_19, .int .i64 t244, .int .i64 x252005_19, .int .i64 x252006_19] 24 (0, 0)) z17x3 hb); have n2_ := Aside0.mk (blk_below (g := gb252) (o := .cells #[.int .i64 t240, .int .i64 t241, .int .i64 x253002_19, .int .i64 x253003_19, .int .i64 x253004_19, .int .i64 t245, .int .i64 t246] 24 (0, 0)) z17x4 hb); have n3_ := Aside0.mk (blk_below (g := gb253) (o := .cells #[.int .i64 t240, .int .i64 0, .int .i64 t242, .int .i64 t243, .int .i64 t244, .int .i64 t245, .int .i64 t246] 24 (0, 0)) z17x0 hb); have n4_ := Aside0.mk (below_step z17x12 hb); clear BK247; clear BK251; clear BK252; clear BK253; clear HB; have BK247 := n0_; have BK251 := n1_; have BK252 := n2_; have BK253 := n3_; have HB := n4_; clear n0_ n1_ n2_ n3_ n4_; (try clear hb); (try clear hb2); (try clear hk); (try clear hi); have hcz80_0 : w79.cell? ⟨gb252, 0, none⟩ = some (.int .i64 t240) := (blk_cell BK252.out 0).trans rfl; have hcz80_1 : w79.cell? ⟨gb252, 1, none⟩ = some (.int .i64 t241) := (blk_cell BK252.out 1).trans rfl; have hcz80_2 : w79.cell? ⟨gb252, 2, none⟩ = some (.int .i64 x253002_19) := (blk_cell BK252.out 2).trans rfl; have hcz80_3 : w79.cell? ⟨gb252, 3, none⟩ = some (.int .i64 x253003_19) := (blk_cell BK252.out 3).trans rfl; have hcz80_4 : w79.cell? ⟨gb252, 4, none⟩ = some (.int .i64 x253004_19) := (blk_cell BK252.out 4).trans rfl; have hcz80_5 : w79.cell? ⟨gb252, 5, none⟩ = some (.int .i64 t245) := (blk_cell BK252.out 5).trans rfl; have hcz80_6 : w79.cell? ⟨gb252, 6, none⟩ = some (.int .i64 t246) := (blk_cell BK252.out 6).trans rfl; have hfz80_0 := blk_frozen BK252.out 0; have hfz80_1 := blk_frozen BK252.out 1; have hfz80_2 := blk_frozen BK252.out 2; have hfz80_3 := blk_frozen BK252.out 3; have hfz80_4 := blk_frozen BK252.out 4; have hfz80_5 := blk_frozen BK252.out 5; have hfz80_6 := blk_frozen BK252.out 6) | (go_at_call 19; (with_reducible refine (impl_SealOk.calls t240 t241 x253002_19 x253003_19 x253004_19 t245 t246 true _ A67.out).mono ?_); rintro e w81 ⟨rfl, hb⟩; have n0_ := Aside0.mk (blk_below (g := gb247) (o := .cells #[.int .i64 t240, .int .i64 t241, .int .i64 t242, .int .i64 t243, .int .i64 t244, .int .i64 t245, .int .i64 t246] 24 (0, 0)) z17x20 hb); have n1_ := Aside0.mk (blk_below (g := gb251) (o := .cells #[.int .i64 t240, .int .i64 t241, .int .i64 x252002_19, .int .i64 x252003_19, .int .i64 t244, .int .i64 x252005_19, .int .i64 x252006_19] 24 (0, 0)) z17x21 hb); have n2_ := Aside0.mk (blk_below (g := gb252) (o := .cells #[.int .i64 t240, .int .i64 t241, .int .i64 x253002_19, .int .i64 x253003_19, .int .i64 x253004_19, .int .i64 t245, .int .i64 t246] 24 (0, 0)) z17x22 hb); have n3_ := Aside0.mk (blk_below (g := gb253) (o := .cells #[.int .i64 t240, .int .i64 0, .int .i64 t242, .int .i64 t243, .int .i64 t244, .int .i64 t245, .int .i64 t246] 24 (0, 0)) z17x23 hb); have n4_ := Aside0.mk (below_step z17x12 hb); clear BK247; clear BK251; clear BK252; clear BK253; clear HB; have BK247 := n0_; have BK251 := n1_; have BK252 := n2_; have BK253 := n3_; have HB := n4_; clear n0_ n1_ n2_ n3_ n4_; (try clear hb); (try clear hb2); (try clear hk); (try clear hi)))
         go_ret
         exact ⟨by first | rfl | (simp [errW_none, errW_some] <;> rfl) | (simp [*, errW_none, errW_some] <;> rfl), by repeat (first | (with_reducible first | exact HB.out | apply below_alloc | apply pw_below_drewN | apply below_drew1 | refine below_set ?_ GE247.out | refine below_set ?_ GE251.out | refine below_set ?_ GE252.out | refine below_set ?_ GE253.out) | exact HB.out)⟩
        ·replace c68 := Bool.eq_false_iff.mpr c68
         subst c68
         rw [if_neg (show ¬ (false = true) by decide)] at H
         replace H := Option.bind_eq_some_iff.mp H
         obtain ⟨t256, A820, H⟩ := H
         replace H : (if t256 = true then (some false) else ((impl_SealText.f t240 t241 x252002_19 x252003_19 t244 x252005_19 x252006_19).bind fun t257 => (if t257.toList = ([] : List UInt8) then ((impl_SealHolds.f t240 t241 x253002_19 x253003_19 x253004_19 t245 t246).bind fun t258 => (some (t258 == 0))) else (some false)))) = some r := H
         have A82 := Aside0.mk A820
         clear A820
         by_cases c83 : t256 = true
         ·subst c83
          rw [if_pos rfl] at H
          obtain rfl := Option.some.inj H
          have hnb84 := NB247_251.out
          have hnc84 := NB251_247.out
          have hnb85 := NB247_252.out
          have hnc85 := NB252_247.out
          have hcz86_0 : wc.cell? ⟨gb247, 0, none⟩ = some (.int .i64 t240) := (blk_cell BK247.out 0).trans rfl
          have hcz86_1 : wc.cell? ⟨gb247, 1, none⟩ = some (.int .i64 t241) := (blk_cell BK247.out 1).trans rfl
          have hcz86_2 : wc.cell? ⟨gb247, 2, none⟩ = some (.int .i64 t242) := (blk_cell BK247.out 2).trans rfl
          have hcz86_3 : wc.cell? ⟨gb247, 3, none⟩ = some (.int .i64 t243) := (blk_cell BK247.out 3).trans rfl
          have hcz86_4 : wc.cell? ⟨gb247, 4, none⟩ = some (.int .i64 t244) := (blk_cell BK247.out 4).trans rfl
          have hcz86_5 : wc.cell? ⟨gb247, 5, none⟩ = some (.int .i64 t245) := (blk_cell BK247.out 5).trans rfl
          have hcz86_6 : wc.cell? ⟨gb247, 6, none⟩ = some (.int .i64 t246) := (blk_cell BK247.out 6).trans rfl
          have hfz86_0 := blk_frozen BK247.out 0
          have hfz86_1 := blk_frozen BK247.out 1
          have hfz86_2 := blk_frozen BK247.out 2
          have hfz86_3 := blk_frozen BK247.out 3
          have hfz86_4 := blk_frozen BK247.out 4
          have hfz86_5 := blk_frozen BK247.out 5
          have hfz86_6 := blk_frozen BK247.out 6
          go_wp2_with (first | ((with_reducible refine gate_dst (N := 7) rfl ?_); refine box_event ?hg (N := 7) ?hd (cs := #[.int .i64 0, .int .i64 0, .int .i64 0, .int .i64 0, .int .i64 0, .int .i64 0, .int .i64 0]) (t := 24) ?hr ?_; (case hd => rfl); (case hg => rfl); (case hr => first | (go_simp; done) | (go_simp; rfl)); intro gb253 hg w87 hbox hb; have n0_ := Aside0.mk (blk_below (g := gb247) (o := .cells #[.int .i64 t240, .int .i64 t241, .int .i64 t242, .int .i64 t243, .int .i64 t244, .int .i64 t245, .int .i64 t246] 24 (0, 0)) z17x20 hb); have n1_ := Aside0.mk (blk_below (g := gb251) (o := .cells #[.int .i64 t240, .int .i64 t241, .int .i64 x252002_19, .int .i64 x252003_19, .int .i64 t244, .int .i64 x252005_19, .int .i64 x252006_19] 24 (0, 0)) z17x21 hb); have n2_ := Aside0.mk (blk_below (g := gb252) (o := .cells #[.int .i64 t240, .int .i64 t241, .int .i64 x253002_19, .int .i64 x253003_19, .int .i64 x253004_19, .int .i64 t245, .int .i64 t246] 24 (0, 0)) z17x22 hb); have n3_ := Aside0.mk (below_step z17x14 hb); have n4_ := Aside0.mk (hbox); have n5_ := Aside0.mk ((z17x13 : w.heap.size ≤ gb253)); have n6_ := Aside0.mk ((z17x13 : w.heap.size ≤ gb253)); have n7_ := Aside0.mk ((z17x11 : gb247 ≠ gb253)); have n8_ := Aside0.mk ((z17x10 : gb253 ≠ gb247)); have n9_ := Aside0.mk ((z17x7 : gb251 ≠ gb253)); have n10_ := Aside0.mk ((z17x6 : gb253 ≠ gb251)); have n11_ := Aside0.mk ((z17x9 : gb252 ≠ gb253)); have n12_ := Aside0.mk ((z17x8 : gb253 ≠ gb252)); clear BK247; clear BK251; clear BK252; clear HB; have BK247 := n0_; have BK251 := n1_; have BK252 := n2_; have HB := n3_; have BK253 := n4_; have GW253 := n5_; have GE253 := n6_; have NB247_253 := n7_; have NB253_247 := n8_; have NB251_253 := n9_; have NB253_251 := n10_; have NB252_253 := n11_; have NB253_252 := n12_; clear n0_ n1_ n2_ n3_ n4_ n5_ n6_ n7_ n8_ n9_ n10_ n11_ n12_; clear hb hbox hg; have hnb88 := NB253_247.out; have hnc88 := NB247_253.out; have hnb89 := NB253_251.out; have hnc89 := NB251_253.out; have hnb90 := NB253_252.out; have hnc90 := NB252_253.out; have hcz91_0 : w87.cell? ⟨gb253, 0, none⟩ = some (.int .i64 0) := (blk_cell BK253.out 0).trans rfl; have hcz91_1 : w87.cell? ⟨gb253, 1, none⟩ = some (.int .i64 0) := (blk_cell BK253.out 1).trans rfl; have hcz91_2 : w87.cell? ⟨gb253, 2, none⟩ = some (.int .i64 0) := (blk_cell BK253.out 2).trans rfl; have hcz91_3 : w87.cell? ⟨gb253, 3, none⟩ = some (.int .i64 0) := (blk_cell BK253.out 3).trans rfl; have hcz91_4 : w87.cell? ⟨gb253, 4, none⟩ = some (.int .i64 0) := (blk_cell BK253.out 4).trans rfl; have hcz91_5 : w87.cell? ⟨gb253, 5, none⟩ = some (.int .i64 0) := (blk_cell BK253.out 5).trans rfl; have hcz91_6 : w87.cell? ⟨gb253, 6, none⟩ = some (.int .i64 0) := (blk_cell BK253.out 6).trans rfl; have hfz91_0 := blk_frozen BK253.out 0; have hfz91_1 := blk_frozen BK253.out 1; have hfz91_2 := blk_frozen BK253.out 2; have hfz91_3 := blk_frozen BK253.out 3; have hfz91_4 := blk_frozen BK253.out 4; have hfz91_5 := blk_frozen BK253.out 5; have hfz91_6 := blk_frozen BK253.out 6; have hnb92 := NB251_252.out; have hnc92 := NB252_251.out; have hcz93_0 : w87.cell? ⟨gb251, 0, none⟩ = some (.int .i64 t240) := (blk_cell BK251.out 0).trans rfl; have hcz93_1 : w87.cell? ⟨gb251, 1, none⟩ = some (.int .i64 t241) := (blk_cell BK251.out 1).trans rfl; have hcz93_2 : w87.cell? ⟨gb251, 2, none⟩ = some (.int .i64 x252002_19) := (blk_cell BK251.out 2).trans rfl; have hcz93_3 : w87.cell? ⟨gb251, 3, none⟩ = some (.int .i64 x252003_19) := (blk_cell BK251.out 3).trans rfl; have hcz93_4 : w87.cell? ⟨gb251, 4, none⟩ = some (.int .i64 t244) := (blk_cell BK251.out 4).trans rfl; have hcz93_5 : w87.cell? ⟨gb251, 5, none⟩ = some (.int .i64 x252005_19) := (blk_cell BK251.out 5).trans rfl; have hcz93_6 : w87.cell? ⟨gb251, 6, none⟩ = some (.int .i64 x252006_19) := (blk_cell BK251.out 6).trans rfl; have hfz93_0 := blk_frozen BK251.out 0; have hfz93_1 := blk_frozen BK251.out 1; have hfz93_2 := blk_frozen BK251.out 2; have hfz93_3 := blk_frozen BK251.out 3; have hfz93_4 := blk_frozen BK251.out 4; have hfz93_5 := blk_frozen BK251.out 5; have hfz93_6 := blk_frozen BK251.out 6) | ((with_reducible refine gate_callee (f := 19) rfl ?_); refine goesL_ (some 48) rfl rfl Tryd.func19 (by kernel_rfl) rfl #[.agg #[.int .i64 t240, .int .i64 t241, .int .i64 x252002_19, .int .i64 x252003_19, .int .i64 t244, .int .i64 x252005_19, .int .i64 x252006_19]] rfl z17x18 ?_; (with_reducible refine (impl_SealOk.calls t240 t241 x252002_19 x252003_19 t244 x252005_19 x252006_19 false _ A54.out).mono ?_); rintro e w94 ⟨rfl, hb⟩; refine ⟨_, rfl, ?_⟩; have n0_ := Aside0.mk (blk_below (g := gb247) (o := .cells #[.int .i64 t240, .int .i64 t241, .int .i64 t242, .int .i64 t243, .int .i64 t244, .int .i64 t245, .int .i64 t246] 24 (0, 0)) z17x2 hb); have n1_ := Aside0.mk (blk_below (g := gb251) (o := .cells #[.int .i64 t240, .int .i64 t241, .int .i64 x252002_19, .int .i64 x252003_19, .int .i64 t244, .int .i64 x252005_19, .int .i64 x252006_19] 24 (0, 0)) z17x3 hb); have n2_ := Aside0.mk (blk_below (g := gb252) (o := .cells #[.int .i64 t240, .int .i64 t241, .int .i64 x253002_19, .int .i64 x253003_19, .int .i64 x253004_19, .int .i64 t245, .int .i64 t246] 24 (0, 0)) z17x4 hb); have n3_ := Aside0.mk (blk_below (g := gb253) (o := .cells #[.int .i64 t240, .int .i64 0, .int .i64 t242, .int .i64 t243, .int .i64 t244, .int .i64 t245, .int .i64 t246] 24 (0, 0)) z17x0 hb); have n4_ := Aside0.mk (below_step z17x12 hb); clear BK247; clear BK251; clear BK252; clear BK253; clear HB; have BK247 := n0_; have BK251 := n1_; have BK252 := n2_; have BK253 := n3_; have HB := n4_; clear n0_ n1_ n2_ n3_ n4_; (try clear hb); (try clear hb2); (try clear hk); (try clear hi); have hcz95_0 : w94.cell? ⟨gb252, 0, none⟩ = some (.int .i64 t240) := (blk_cell BK252.out 0).trans rfl; have hcz95_1 : w94.cell? ⟨gb252, 1, none⟩ = some (.int .i64 t241) := (blk_cell BK252.out 1).trans rfl; have hcz95_2 : w94.cell? ⟨gb252, 2, none⟩ = some (.int .i64 x253002_19) := (blk_cell BK252.out 2).trans rfl; have hcz95_3 : w94.cell? ⟨gb252, 3, none⟩ = some (.int .i64 x253003_19) := (blk_cell BK252.out 3).trans rfl; have hcz95_4 : w94.cell? ⟨gb252, 4, none⟩ = some (.int .i64 x253004_19) := (blk_cell BK252.out 4).trans rfl; have hcz95_5 : w94.cell? ⟨gb252, 5, none⟩ = some (.int .i64 t245) := (blk_cell BK252.out 5).trans rfl; have hcz95_6 : w94.cell? ⟨gb252, 6, none⟩ = some (.int .i64 t246) := (blk_cell BK252.out 6).trans rfl; have hfz95_0 := blk_frozen BK252.out 0; have hfz95_1 := blk_frozen BK252.out 1; have hfz95_2 := blk_frozen BK252.out 2; have hfz95_3 := blk_frozen BK252.out 3; have hfz95_4 := blk_frozen BK252.out 4; have hfz95_5 := blk_frozen BK252.out 5; have hfz95_6 := blk_frozen BK252.out 6) | (go_at_call 19; (with_reducible refine (impl_SealOk.calls t240 t241 x253002_19 x253003_19 x253004_19 t245 t246 false _ A67.out).mono ?_); rintro e w96 ⟨rfl, hb⟩; have n0_ := Aside0.mk (blk_below (g := gb247) (o := .cells #[.int .i64 t240, .int .i64 t241, .int .i64 t242, .int .i64 t243, .int .i64 t244, .int .i64 t245, .int .i64 t246] 24 (0, 0)) z17x20 hb); have n1_ := Aside0.mk (blk_below (g := gb251) (o := .cells #[.int .i64 t240, .int .i64 t241, .int .i64 x252002_19, .int .i64 x252003_19, .int .i64 t244, .int .i64 x252005_19, .int .i64 x252006_19] 24 (0, 0)) z17x21 hb); have n2_ := Aside0.mk (blk_below (g := gb252) (o := .cells #[.int .i64 t240, .int .i64 t241, .int .i64 x253002_19, .int .i64 x253003_19, .int .i64 x253004_19, .int .i64 t245, .int .i64 t246] 24 (0, 0)) z17x22 hb); have n3_ := Aside0.mk (blk_below (g := gb253) (o := .cells #[.int .i64 t240, .int .i64 0, .int .i64 t242, .int .i64 t243, .int .i64 t244, .int .i64 t245, .int .i64 t246] 24 (0, 0)) z17x23 hb); have n4_ := Aside0.mk (below_step z17x12 hb); clear BK247; clear BK251; clear BK252; clear BK253; clear HB; have BK247 := n0_; have BK251 := n1_; have BK252 := n2_; have BK253 := n3_; have HB := n4_; clear n0_ n1_ n2_ n3_ n4_; (try clear hb); (try clear hb2); (try clear hk); (try clear hi); have hcz97_0 : w96.cell? ⟨gb253, 0, none⟩ = some (.int .i64 t240) := (blk_cell BK253.out 0).trans rfl; have hcz97_1 : w96.cell? ⟨gb253, 1, none⟩ = some (.int .i64 0) := (blk_cell BK253.out 1).trans rfl; have hcz97_2 : w96.cell? ⟨gb253, 2, none⟩ = some (.int .i64 t242) := (blk_cell BK253.out 2).trans rfl; have hcz97_3 : w96.cell? ⟨gb253, 3, none⟩ = some (.int .i64 t243) := (blk_cell BK253.out 3).trans rfl; have hcz97_4 : w96.cell? ⟨gb253, 4, none⟩ = some (.int .i64 t244) := (blk_cell BK253.out 4).trans rfl; have hcz97_5 : w96.cell? ⟨gb253, 5, none⟩ = some (.int .i64 t245) := (blk_cell BK253.out 5).trans rfl; have hcz97_6 : w96.cell? ⟨gb253, 6, none⟩ = some (.int .i64 t246) := (blk_cell BK253.out 6).trans rfl; have hfz97_0 := blk_frozen BK253.out 0; have hfz97_1 := blk_frozen BK253.out 1; have hfz97_2 := blk_frozen BK253.out 2; have hfz97_3 := blk_frozen BK253.out 3; have hfz97_4 := blk_frozen BK253.out 4; have hfz97_5 := blk_frozen BK253.out 5; have hfz97_6 := blk_frozen BK253.out 6) | (go_at_call 19; (with_reducible refine (impl_SealOk.calls t240 0 t242 t243 t244 t245 t246 true _ A82.out).mono ?_); rintro e w98 ⟨rfl, hb⟩; have n0_ := Aside0.mk (blk_below (g := gb247) (o := .cells #[.int .i64 t240, .int .i64 t241, .int .i64 t242, .int .i64 t243, .int .i64 t244, .int .i64 t245, .int .i64 t246] 24 (0, 0)) z17x20 hb); have n1_ := Aside0.mk (blk_below (g := gb251) (o := .cells #[.int .i64 t240, .int .i64 t241, .int .i64 x252002_19, .int .i64 x252003_19, .int .i64 t244, .int .i64 x252005_19, .int .i64 x252006_19] 24 (0, 0)) z17x21 hb); have n2_ := Aside0.mk (blk_below (g := gb252) (o := .cells #[.int .i64 t240, .int .i64 t241, .int .i64 x253002_19, .int .i64 x253003_19, .int .i64 x253004_19, .int .i64 t245, .int .i64 t246] 24 (0, 0)) z17x22 hb); have n3_ := Aside0.mk (blk_below (g := gb253) (o := .cells #[.int .i64 t240, .int .i64 0, .int .i64 t242, .int .i64 t243, .int .i64 t244, .int .i64 t245, .int .i64 t246] 24 (0, 0)) z17x23 hb); have n4_ := Aside0.mk (below_step z17x12 hb); clear BK247; clear BK251; clear BK252; clear BK253; clear HB; have BK247 := n0_; have BK251 := n1_; have BK252 := n2_; have BK253 := n3_; have HB := n4_; clear n0_ n1_ n2_ n3_ n4_; (try clear hb); (try clear hb2); (try clear hk); (try clear hi)))
          go_ret
          exact ⟨by first | rfl | (simp [errW_none, errW_some] <;> rfl) | (simp [*, errW_none, errW_some] <;> rfl), by repeat (first | (with_reducible first | exact HB.out | apply below_alloc | apply pw_below_drewN | apply below_drew1 | refine below_set ?_ GE247.out | refine below_set ?_ GE251.out | refine below_set ?_ GE252.out | refine below_set ?_ GE253.out) | exact HB.out)⟩
         ·replace c83 := Bool.eq_false_iff.mpr c83
          subst c83
          rw [if_neg (show ¬ (false = true) by decide)] at H
          replace H := Option.bind_eq_some_iff.mp H
          obtain ⟨t257, A990, H⟩ := H
          replace H : (if t257.toList = ([] : List UInt8) then ((impl_SealHolds.f t240 t241 x253002_19 x253003_19 x253004_19 t245 t246).bind fun t258 => (some (t258 == 0))) else (some false)) = some r := H
          have A99 := Aside0.mk A990
          clear A990
          by_cases c100 : t257.toList = ([] : List UInt8)
          ·rw [if_pos c100] at H
           have c100b0 : (t257.toList == ([] : List UInt8)) = true := beq_iff_eq.mpr c100
           have c100b1 : (t257.toList != ([] : List UInt8)) = false := bne_eq_false_iff_eq.mpr c100
           clear c100
           replace H := Option.bind_eq_some_iff.mp H
           obtain ⟨t258, A1010, H⟩ := H
           replace H : (some (t258 == 0)) = some r := H
           have A101 := Aside0.mk A1010
           clear A1010
           obtain rfl := Option.some.inj H
           have hnb102 := NB247_251.out
           have hnc102 := NB251_247.out
           have hnb103 := NB247_252.out
           have hnc103 := NB252_247.out
           have hcz104_0 : wc.cell? ⟨gb247, 0, none⟩ = some (.int .i64 t240) := (blk_cell BK247.out 0).trans rfl
           have hcz104_1 : wc.cell? ⟨gb247, 1, none⟩ = some (.int .i64 t241) := (blk_cell BK247.out 1).trans rfl
           have hcz104_2 : wc.cell? ⟨gb247, 2, none⟩ = some (.int .i64 t242) := (blk_cell BK247.out 2).trans rfl
           have hcz104_3 : wc.cell? ⟨gb247, 3, none⟩ = some (.int .i64 t243) := (blk_cell BK247.out 3).trans rfl
           have hcz104_4 : wc.cell? ⟨gb247, 4, none⟩ = some (.int .i64 t244) := (blk_cell BK247.out 4).trans rfl
           have hcz104_5 : wc.cell? ⟨gb247, 5, none⟩ = some (.int .i64 t245) := (blk_cell BK247.out 5).trans rfl
           have hcz104_6 : wc.cell? ⟨gb247, 6, none⟩ = some (.int .i64 t246) := (blk_cell BK247.out 6).trans rfl
           have hfz104_0 := blk_frozen BK247.out 0
           have hfz104_1 := blk_frozen BK247.out 1
           have hfz104_2 := blk_frozen BK247.out 2
           have hfz104_3 := blk_frozen BK247.out 3
           have hfz104_4 := blk_frozen BK247.out 4
           have hfz104_5 := blk_frozen BK247.out 5
           have hfz104_6 := blk_frozen BK247.out 6
           go_wp2_with (first | ((with_reducible refine gate_dst (N := 7) rfl ?_); refine box_event ?hg (N := 7) ?hd (cs := #[.int .i64 0, .int .i64 0, .int .i64 0, .int .i64 0, .int .i64 0, .int .i64 0, .int .i64 0]) (t := 24) ?hr ?_; (case hd => rfl); (case hg => rfl); (case hr => first | (go_simp; done) | (go_simp; rfl)); intro gb253 hg w105 hbox hb; have n0_ := Aside0.mk (blk_below (g := gb247) (o := .cells #[.int .i64 t240, .int .i64 t241, .int .i64 t242, .int .i64 t243, .int .i64 t244, .int .i64 t245, .int .i64 t246] 24 (0, 0)) z17x20 hb); have n1_ := Aside0.mk (blk_below (g := gb251) (o := .cells #[.int .i64 t240, .int .i64 t241, .int .i64 x252002_19, .int .i64 x252003_19, .int .i64 t244, .int .i64 x252005_19, .int .i64 x252006_19] 24 (0, 0)) z17x21 hb); have n2_ := Aside0.mk (blk_below (g := gb252) (o := .cells #[.int .i64 t240, .int .i64 t241, .int .i64 x253002_19, .int .i64 x253003_19, .int .i64 x253004_19, .int .i64 t245, .int .i64 t246] 24 (0, 0)) z17x22 hb); have n3_ := Aside0.mk (below_step z17x14 hb); have n4_ := Aside0.mk (hbox); have n5_ := Aside0.mk ((z17x13 : w.heap.size ≤ gb253)); have n6_ := Aside0.mk ((z17x13 : w.heap.size ≤ gb253)); have n7_ := Aside0.mk ((z17x11 : gb247 ≠ gb253)); have n8_ := Aside0.mk ((z17x10 : gb253 ≠ gb247)); have n9_ := Aside0.mk ((z17x7 : gb251 ≠ gb253)); have n10_ := Aside0.mk ((z17x6 : gb253 ≠ gb251)); have n11_ := Aside0.mk ((z17x9 : gb252 ≠ gb253)); have n12_ := Aside0.mk ((z17x8 : gb253 ≠ gb252)); clear BK247; clear BK251; clear BK252; clear HB; have BK247 := n0_; have BK251 := n1_; have BK252 := n2_; have HB := n3_; have BK253 := n4_; have GW253 := n5_; have GE253 := n6_; have NB247_253 := n7_; have NB253_247 := n8_; have NB251_253 := n9_; have NB253_251 := n10_; have NB252_253 := n11_; have NB253_252 := n12_; clear n0_ n1_ n2_ n3_ n4_ n5_ n6_ n7_ n8_ n9_ n10_ n11_ n12_; clear hb hbox hg; have hnb106 := NB253_247.out; have hnc106 := NB247_253.out; have hnb107 := NB253_251.out; have hnc107 := NB251_253.out; have hnb108 := NB253_252.out; have hnc108 := NB252_253.out; have hcz109_0 : w105.cell? ⟨gb253, 0, none⟩ = some (.int .i64 0) := (blk_cell BK253.out 0).trans rfl; have hcz109_1 : w105.cell? ⟨gb253, 1, none⟩ = some (.int .i64 0) := (blk_cell BK253.out 1).trans rfl; have hcz109_2 : w105.cell? ⟨gb253, 2, none⟩ = some (.int .i64 0) := (blk_cell BK253.out 2).trans rfl; have hcz109_3 : w105.cell? ⟨gb253, 3, none⟩ = some (.int .i64 0) := (blk_cell BK253.out 3).trans rfl; have hcz109_4 : w105.cell? ⟨gb253, 4, none⟩ = some (.int .i64 0) := (blk_cell BK253.out 4).trans rfl; have hcz109_5 : w105.cell? ⟨gb253, 5, none⟩ = some (.int .i64 0) := (blk_cell BK253.out 5).trans rfl; have hcz109_6 : w105.cell? ⟨gb253, 6, none⟩ = some (.int .i64 0) := (blk_cell BK253.out 6).trans rfl; have hfz109_0 := blk_frozen BK253.out 0; have hfz109_1 := blk_frozen BK253.out 1; have hfz109_2 := blk_frozen BK253.out 2; have hfz109_3 := blk_frozen BK253.out 3; have hfz109_4 := blk_frozen BK253.out 4; have hfz109_5 := blk_frozen BK253.out 5; have hfz109_6 := blk_frozen BK253.out 6; have hnb110 := NB251_252.out; have hnc110 := NB252_251.out; have hcz111_0 : w105.cell? ⟨gb251, 0, none⟩ = some (.int .i64 t240) := (blk_cell BK251.out 0).trans rfl; have hcz111_1 : w105.cell? ⟨gb251, 1, none⟩ = some (.int .i64 t241) := (blk_cell BK251.out 1).trans rfl; have hcz111_2 : w105.cell? ⟨gb251, 2, none⟩ = some (.int .i64 x252002_19) := (blk_cell BK251.out 2).trans rfl; have hcz111_3 : w105.cell? ⟨gb251, 3, none⟩ = some (.int .i64 x252003_19) := (blk_cell BK251.out 3).trans rfl; have hcz111_4 : w105.cell? ⟨gb251, 4, none⟩ = some (.int .i64 t244) := (blk_cell BK251.out 4).trans rfl; have hcz111_5 : w105.cell? ⟨gb251, 5, none⟩ = some (.int .i64 x252005_19) := (blk_cell BK251.out 5).trans rfl; have hcz111_6 : w105.cell? ⟨gb251, 6, none⟩ = some (.int .i64 x252006_19) := (blk_cell BK251.out 6).trans rfl; have hfz111_0 := blk_frozen BK251.out 0; have hfz111_1 := blk_frozen BK251.out 1; have hfz111_2 := blk_frozen BK251.out 2; have hfz111_3 := blk_frozen BK251.out 3; have hfz111_4 := blk_frozen BK251.out 4; have hfz111_5 := blk_frozen BK251.out 5; have hfz111_6 := blk_frozen BK251.out 6) | ((with_reducible refine gate_callee (f := 19) rfl ?_); refine goesL_ (some 48) rfl rfl Tryd.func19 (by kernel_rfl) rfl #[.agg #[.int .i64 t240, .int .i64 t241, .int .i64 x252002_19, .int .i64 x252003_19, .int .i64 t244, .int .i64 x252005_19, .int .i64 x252006_19]] rfl z17x18 ?_; (with_reducible refine (impl_SealOk.calls t240 t241 x252002_19 x252003_19 t244 x252005_19 x252006_19 false _ A54.out).mono ?_); rintro e w112 ⟨rfl, hb⟩; refine ⟨_, rfl, ?_⟩; have n0_ := Aside0.mk (blk_below (g := gb247) (o := .cells #[.int .i64 t240, .int .i64 t241, .int .i64 t242, .int .i64 t243, .int .i64 t244, .int .i64 t245, .int .i64 t246] 24 (0, 0)) z17x2 hb); have n1_ := Aside0.mk (blk_below (g := gb251) (o := .cells #[.int .i64 t240, .int .i64 t241, .int .i64 x252002_19, .int .i64 x252003_19, .int .i64 t244, .int .i64 x252005_19, .int .i64 x252006_19] 24 (0, 0)) z17x3 hb); have n2_ := Aside0.mk (blk_below (g := gb252) (o := .cells #[.int .i64 t240, .int .i64 t241, .int .i64 x253002_19, .int .i64 x253003_19, .int .i64 x253004_19, .int .i64 t245, .int .i64 t246] 24 (0, 0)) z17x4 hb); have n3_ := Aside0.mk (blk_below (g := gb253) (o := .cells #[.int .i64 t240, .int .i64 0, .int .i64 t242, .int .i64 t243, .int .i64 t244, .int .i64 t245, .int .i64 t246] 24 (0, 0)) z17x0 hb); have n4_ := Aside0.mk (below_step z17x12 hb); clear BK247; clear BK251; clear BK252; clear BK253; clear HB; have BK247 := n0_; have BK251 := n1_; have BK252 := n2_; have BK253 := n3_; have HB := n4_; clear n0_ n1_ n2_ n3_ n4_; (try clear hb); (try clear hb2); (try clear hk); (try clear hi); have hcz113_0 : w112.cell? ⟨gb252, 0, none⟩ = some (.int .i64 t240) := (blk_cell BK252.out 0).trans rfl; have hcz113_1 : w112.cell? ⟨gb252, 1, none⟩ = some (.int .i64 t241) := (blk_cell BK252.out 1).trans rfl; have hcz113_2 : w112.cell? ⟨gb252, 2, none⟩ = some (.int .i64 x253002_19) := (blk_cell BK252.out 2).trans rfl; have hcz113_3 : w112.cell? ⟨gb252, 3, none⟩ = some (.int .i64 x253003_19) := (blk_cell BK252.out 3).trans rfl; have hcz113_4 : w112.cell? ⟨gb252, 4, none⟩ = some (.int .i64 x253004_19) := (blk_cell BK252.out 4).trans rfl; have hcz113_5 : w112.cell? ⟨gb252, 5, none⟩ = some (.int .i64 t245) := (blk_cell BK252.out 5).trans rfl; have hcz113_6 : w112.cell? ⟨gb252, 6, none⟩ = some (.int .i64 t246) := (blk_cell BK252.out 6).trans rfl; have hfz113_0 := blk_frozen BK252.out 0; have hfz113_1 := blk_frozen BK252.out 1; have hfz113_2 := blk_frozen BK252.out 2; have hfz113_3 := blk_frozen BK252.out 3; have hfz113_4 := blk_frozen BK252.out 4; have hfz113_5 := blk_frozen BK252.out 5; have hfz113_6 := blk_frozen BK252.out 6) | (go_at_call 19; (with_reducible refine (impl_SealOk.calls t240 t241 x253002_19 x253003_19 x253004_19 t245 t246 false _ A67.out).mono ?_); rintro e w114 ⟨rfl, hb⟩; have n0_ := Aside0.mk (blk_below (g := gb247) (o := .cells #[.int .i64 t240, .int .i64 t241, .int .i64 t242, .int .i64 t243, .int .i64 t244, .int .i64 t245, .int .i64 t246] 24 (0, 0)) z17x20 hb); have n1_ := Aside0.mk (blk_below (g := gb251) (o := .cells #[.int .i64 t240, .int .i64 t241, .int .i64 x252002_19, .int .i64 x252003_19, .int .i64 t244, .int .i64 x252005_19, .int .i64 x252006_19] 24 (0, 0)) z17x21 hb); have n2_ := Aside0.mk (blk_below (g := gb252) (o := .cells #[.int .i64 t240, .int .i64 t241, .int .i64 x253002_19, .int .i64 x253003_19, .int .i64 x253004_19, .int .i64 t245, .int .i64 t246] 24 (0, 0)) z17x22 hb); have n3_ := Aside0.mk (blk_below (g := gb253) (o := .cells #[.int .i64 t240, .int .i64 0, .int .i64 t242, .int .i64 t243, .int .i64 t244, .int .i64 t245, .int .i64 t246] 24 (0, 0)) z17x23 hb); have n4_ := Aside0.mk (below_step z17x12 hb); clear BK247; clear BK251; clear BK252; clear BK253; clear HB; have BK247 := n0_; have BK251 := n1_; have BK252 := n2_; have BK253 := n3_; have HB := n4_; clear n0_ n1_ n2_ n3_ n4_; (try clear hb); (try clear hb2); (try clear hk); (try clear hi); have hcz115_0 : w114.cell? ⟨gb253, 0, none⟩ = some (.int .i64 t240) := (blk_cell BK253.out 0).trans rfl; have hcz115_1 : w114.cell? ⟨gb253, 1, none⟩ = some (.int .i64 0) := (blk_cell BK253.out 1).trans rfl; have hcz115_2 : w114.cell? ⟨gb253, 2, none⟩ = some (.int .i64 t242) := (blk_cell BK253.out 2).trans rfl; have hcz115_3 : w114.cell? ⟨gb253, 3, none⟩ = some (.int .i64 t243) := (blk_cell BK253.out 3).trans rfl; have hcz115_4 : w114.cell? ⟨gb253, 4, none⟩ = some (.int .i64 t244) := (blk_cell BK253.out 4).trans rfl; have hcz115_5 : w114.cell? ⟨gb253, 5, none⟩ = some (.int .i64 t245) := (blk_cell BK253.out 5).trans rfl; have hcz115_6 : w114.cell? ⟨gb253, 6, none⟩ = some (.int .i64 t246) := (blk_cell BK253.out 6).trans rfl; have hfz115_0 := blk_frozen BK253.out 0; have hfz115_1 := blk_frozen BK253.out 1; have hfz115_2 := blk_frozen BK253.out 2; have hfz115_3 := blk_frozen BK253.out 3; have hfz115_4 := blk_frozen BK253.out 4; have hfz115_5 := blk_frozen BK253.out 5; have hfz115_6 := blk_frozen BK253.out 6) | (go_at_call 19; (with_reducible refine (impl_SealOk.calls t240 0 t242 t243 t244 t245 t246 false _ A82.out).mono ?_); rintro e w116 ⟨rfl, hb⟩; have n0_ := Aside0.mk (blk_below (g := gb247) (o := .cells #[.int .i64 t240, .int .i64 t241, .int .i64 t242, .int .i64 t243, .int .i64 t244, .int .i64 t245, .int .i64 t246] 24 (0, 0)) z17x20 hb); have n1_ := Aside0.mk (blk_below (g := gb251) (o := .cells #[.int .i64 t240, .int .i64 t241, .int .i64 x252002_19, .int .i64 x252003_19, .int .i64 t244, .int .i64 x252005_19, .int .i64 x252006_19] 24 (0, 0)) z17x21 hb); have n2_ := Aside0.mk (blk_below (g := gb252) (o := .cells #[.int .i64 t240, .int .i64 t241, .int .i64 x253002_19, .int .i64 x253003_19, .int .i64 x253004_19, .int .i64 t245, .int .i64 t246] 24 (0, 0)) z17x22 hb); have n3_ := Aside0.mk (blk_below (g := gb253) (o := .cells #[.int .i64 t240, .int .i64 0, .int .i64 t242, .int .i64 t243, .int .i64 t244, .int .i64 t245, .int .i64 t246] 24 (0, 0)) z17x23 hb); have n4_ := Aside0.mk (below_step z17x12 hb); clear BK247; clear BK251; clear BK252; clear BK253; clear HB; have BK247 := n0_; have BK251 := n1_; have BK252 := n2_; have BK253 := n3_; have HB := n4_; clear n0_ n1_ n2_ n3_ n4_; (try clear hb); (try clear hb2); (try clear hk); (try clear hi); have hcz117_0 : w116.cell? ⟨gb251, 0, none⟩ = some (.int .i64 t240) := (blk_cell BK251.out 0).trans rfl; have hcz117_1 : w116.cell? ⟨gb251, 1, none⟩ = some (.int .i64 t241) := (blk_cell BK251.out 1).trans rfl; have hcz117_2 : w116.cell? ⟨gb251, 2, none⟩ = some (.int .i64 x252002_19) := (blk_cell BK251.out 2).trans rfl; have hcz117_3 : w116.cell? ⟨gb251, 3, none⟩ = some (.int .i64 x252003_19) := (blk_cell BK251.out 3).trans rfl; have hcz117_4 : w116.cell? ⟨gb251, 4, none⟩ = some (.int .i64 t244) := (blk_cell BK251.out 4).trans rfl; have hcz117_5 : w116.cell? ⟨gb251, 5, none⟩ = some (.int .i64 x252005_19) := (blk_cell BK251.out 5).trans rfl; have hcz117_6 : w116.cell? ⟨gb251, 6, none⟩ = some (.int .i64 x252006_19) := (blk_cell BK251.out 6).trans rfl; have hfz117_0 := blk_frozen BK251.out 0; have hfz117_1 := blk_frozen BK251.out 1; have hfz117_2 := blk_frozen BK251.out 2; have hfz117_3 := blk_frozen BK251.out 3; have hfz117_4 := blk_frozen BK251.out 4; have hfz117_5 := blk_frozen BK251.out 5; have hfz117_6 := blk_frozen BK251.out 6) | (go_at_call 13; (with_reducible refine (impl_SealText.calls t240 t241 x252002_19 x252003_19 t244 x252005_19 x252006_19 t257 _ A99.out ?tens1).mono ?_); (case tens1 => exact Tens.on HT.out z17x12); rintro e w118 ⟨rfl, hb⟩; have n0_ := Aside0.mk (blk_below (g := gb247) (o := .cells #[.int .i64 t240, .int .i64 t241, .int .i64 t242, .int .i64 t243, .int .i64 t244, .int .i64 t245, .int .i64 t246] 24 (0, 0)) z17x20 hb); have n1_ := Aside0.mk (blk_below (g := gb251) (o := .cells #[.int .i64 t240, .int .i64 t241, .int .i64 x252002_19, .int .i64 x252003_19, .int .i64 t244, .int .i64 x252005_19, .int .i64 x252006_19] 24 (0, 0)) z17x21 hb); have n2_ := Aside0.mk (blk_below (g := gb252) (o := .cells #[.int .i64 t240, .int .i64 t241, .int .i64 x253002_19, .int .i64 x253003_19, .int .i64 x253004_19, .int .i64 t245, .int .i64 t246] 24 (0, 0)) z17x22 hb); have n3_ := Aside0.mk (blk_below (g := gb253) (o := .cells #[.int .i64 t240, .int .i64 0, .int .i64 t242, .int .i64 t243, .int .i64 t244, .int .i64 t245, .int .i64 t246] 24 (0, 0)) z17x23 hb); have n4_ := Aside0.mk (below_step z17x12 hb); clear BK247; clear BK251; clear BK252; clear BK253; clear HB; have BK247 := n0_; have BK251 := n1_; have BK252 := n2_; have BK253 := n3_; have HB := n4_; clear n0_ n1_ n2_ n3_ n4_; (try clear hb); (try clear hb2); (try clear hk); (try clear hi); have hcz119_0 : w118.cell? ⟨gb252, 0, none⟩ = some (.int .i64 t240) := (blk_cell BK252.out 0).trans rfl; have hcz119_1 : w118.cell? ⟨gb252, 1, none⟩ = some (.int .i64 t241) := (blk_cell BK252.out 1).trans rfl; have hcz119_2 : w118.cell? ⟨gb252, 2, none⟩ = some (.int .i64 x253002_19) := (blk_cell BK252.out 2).trans rfl; have hcz119_3 : w118.cell? ⟨gb252, 3, none⟩ = some (.int .i64 x253003_19) := (blk_cell BK252.out 3).trans rfl; have hcz119_4 : w118.cell? ⟨gb252, 4, none⟩ = some (.int .i64 x253004_19) := (blk_cell BK252.out 4).trans rfl; have hcz119_5 : w118.cell? ⟨gb252, 5, none⟩ = some (.int .i64 t245) := (blk_cell BK252.out 5).trans rfl; have hcz119_6 : w118.cell? ⟨gb252, 6, none⟩ = some (.int .i64 t246) := (blk_cell BK252.out 6).trans rfl; have hfz119_0 := blk_frozen BK252.out 0; have hfz119_1 := blk_frozen BK252.out 1; have hfz119_2 := blk_frozen BK252.out 2; have hfz119_3 := blk_frozen BK252.out 3; have hfz119_4 := blk_frozen BK252.out 4; have hfz119_5 := blk_frozen BK252.out 5; have hfz119_6 := blk_frozen BK252.out 6) | (go_at_call 23; (with_reducible refine (impl_SealHolds.calls t240 t241 x253002_19 x253003_19 x253004_19 t245 t246 t258 _ A101.out).mono ?_); rintro e w120 ⟨rfl, hb⟩; have n0_ := Aside0.mk (blk_below (g := gb247) (o := .cells #[.int .i64 t240, .int .i64 t241, .int .i64 t242, .int .i64 t243, .int .i64 t244, .int .i64 t245, .int .i64 t246] 24 (0, 0)) z17x20 hb); have n1_ := Aside0.mk (blk_below (g := gb251) (o := .cells #[.int .i64 t240, .int .i64 t241, .int .i64 x252002_19, .int .i64 x252003_19, .int .i64 t244, .int .i64 x252005_19, .int .i64 x252006_19] 24 (0, 0)) z17x21 hb); have n2_ := Aside0.mk (blk_below (g := gb252) (o := .cells #[.int .i64 t240, .int .i64 t241, .int .i64 x253002_19, .int .i64 x253003_19, .int .i64 x253004_19, .int .i64 t245, .int .i64 t246] 24 (0, 0)) z17x22 hb); have n3_ := Aside0.mk (blk_below (g := gb253) (o := .cells #[.int .i64 t240, .int .i64 0, .int .i64 t242, .int .i64 t243, .int .i64 t244, .int .i64 t245, .int .i64 t246] 24 (0, 0)) z17x23 hb); have n4_ := Aside0.mk (below_step z17x12 hb); clear BK247; clear BK251; clear BK252; clear BK253; clear HB; have BK247 := n0_; have BK251 := n1_; have BK252 := n2_; have BK253 := n3_; have HB := n4_; clear n0_ n1_ n2_ n3_ n4_; (try clear hb); (try clear hb2); (try clear hk); (try clear hi)))
           go_ret
           exact ⟨by first | rfl | (simp [errW_none, errW_some] <;> rfl) | (simp [*, errW_none, errW_some] <;> rfl), by repeat (first | (with_reducible first | exact HB.out | apply below_alloc | apply pw_below_drewN | apply below_drew1 | refine below_set ?_ GE247.out | refine below_set ?_ GE251.out | refine below_set ?_ GE252.out | refine below_set ?_ GE253.out) | exact HB.out)⟩
          ·rw [if_neg c100] at H
           have c100b0 : (t257.toList == ([] : List UInt8)) = false := beq_eq_false_iff_ne.mpr c100
           have c100b1 : (t257.toList != ([] : List UInt8)) = true := bne_iff_ne.mpr c100
           obtain rfl := Option.some.inj H
           have hnb121 := NB247_251.out
           have hnc121 := NB251_247.out
           have hnb122 := NB247_252.out
           have hnc122 := NB252_247.out
           have hcz123_0 : wc.cell? ⟨gb247, 0, none⟩ = some (.int .i64 t240) := (blk_cell BK247.out 0).trans rfl
           have hcz123_1 : wc.cell? ⟨gb247, 1, none⟩ = some (.int .i64 t241) := (blk_cell BK247.out 1).trans rfl
           have hcz123_2 : wc.cell? ⟨gb247, 2, none⟩ = some (.int .i64 t242) := (blk_cell BK247.out 2).trans rfl
           have hcz123_3 : wc.cell? ⟨gb247, 3, none⟩ = some (.int .i64 t243) := (blk_cell BK247.out 3).trans rfl
           have hcz123_4 : wc.cell? ⟨gb247, 4, none⟩ = some (.int .i64 t244) := (blk_cell BK247.out 4).trans rfl
           have hcz123_5 : wc.cell? ⟨gb247, 5, none⟩ = some (.int .i64 t245) := (blk_cell BK247.out 5).trans rfl
           have hcz123_6 : wc.cell? ⟨gb247, 6, none⟩ = some (.int .i64 t246) := (blk_cell BK247.out 6).trans rfl
           have hfz123_0 := blk_frozen BK247.out 0
           have hfz123_1 := blk_frozen BK247.out 1
           have hfz123_2 := blk_frozen BK247.out 2
           have hfz123_3 := blk_frozen BK247.out 3
           have hfz123_4 := blk_frozen BK247.out 4
           have hfz123_5 := blk_frozen BK247.out 5
           have hfz123_6 := blk_frozen BK247.out 6
           go_wp2_with (first | ((with_reducible refine gate_dst (N := 7) rfl ?_); refine box_event ?hg (N := 7) ?hd (cs := #[.int .i64 0, .int .i64 0, .int .i64 0, .int .i64 0, .int .i64 0, .int .i64 0, .int .i64 0]) (t := 24) ?hr ?_; (case hd => rfl); (case hg => rfl); (case hr => first | (go_simp; done) | (go_simp; rfl)); intro gb253 hg w124 hbox hb; have n0_ := Aside0.mk (blk_below (g := gb247) (o := .cells #[.int .i64 t240, .int .i64 t241, .int .i64 t242, .int .i64 t243, .int .i64 t244, .int .i64 t245, .int .i64 t246] 24 (0, 0)) z17x20 hb); have n1_ := Aside0.mk (blk_below (g := gb251) (o := .cells #[.int .i64 t240, .int .i64 t241, .int .i64 x252002_19, .int .i64 x252003_19, .int .i64 t244, .int .i64 x252005_19, .int .i64 x252006_19] 24 (0, 0)) z17x21 hb); have n2_ := Aside0.mk (blk_below (g := gb252) (o := .cells #[.int .i64 t240, .int .i64 t241, .int .i64 x253002_19, .int .i64 x253003_19, .int .i64 x253004_19, .int .i64 t245, .int .i64 t246] 24 (0, 0)) z17x22 hb); have n3_ := Aside0.mk (below_step z17x14 hb); have n4_ := Aside0.mk (hbox); have n5_ := Aside0.mk ((z17x13 : w.heap.size ≤ gb253)); have n6_ := Aside0.mk ((z17x13 : w.heap.size ≤ gb253)); have n7_ := Aside0.mk ((z17x11 : gb247 ≠ gb253)); have n8_ := Aside0.mk ((z17x10 : gb253 ≠ gb247)); have n9_ := Aside0.mk ((z17x7 : gb251 ≠ gb253)); have n10_ := Aside0.mk ((z17x6 : gb253 ≠ gb251)); have n11_ := Aside0.mk ((z17x9 : gb252 ≠ gb253)); have n12_ := Aside0.mk ((z17x8 : gb253 ≠ gb252)); clear BK247; clear BK251; clear BK252; clear HB; have BK247 := n0_; have BK251 := n1_; have BK252 := n2_; have HB := n3_; have BK253 := n4_; have GW253 := n5_; have GE253 := n6_; have NB247_253 := n7_; have NB253_247 := n8_; have NB251_253 := n9_; have NB253_251 := n10_; have NB252_253 := n11_; have NB253_252 := n12_; clear n0_ n1_ n2_ n3_ n4_ n5_ n6_ n7_ n8_ n9_ n10_ n11_ n12_; clear hb hbox hg; have hnb125 := NB253_247.out; have hnc125 := NB247_253.out; have hnb126 := NB253_251.out; have hnc126 := NB251_253.out; have hnb127 := NB253_252.out; have hnc127 := NB252_253.out; have hcz128_0 : w124.cell? ⟨gb253, 0, none⟩ = some (.int .i64 0) := (blk_cell BK253.out 0).trans rfl; have hcz128_1 : w124.cell? ⟨gb253, 1, none⟩ = some (.int .i64 0) := (blk_cell BK253.out 1).trans rfl; have hcz128_2 : w124.cell? ⟨gb253, 2, none⟩ = some (.int .i64 0) := (blk_cell BK253.out 2).trans rfl; have hcz128_3 : w124.cell? ⟨gb253, 3, none⟩ = some (.int .i64 0) := (blk_cell BK253.out 3).trans rfl; have hcz128_4 : w124.cell? ⟨gb253, 4, none⟩ = some (.int .i64 0) := (blk_cell BK253.out 4).trans rfl; have hcz128_5 : w124.cell? ⟨gb253, 5, none⟩ = some (.int .i64 0) := (blk_cell BK253.out 5).trans rfl; have hcz128_6 : w124.cell? ⟨gb253, 6, none⟩ = some (.int .i64 0) := (blk_cell BK253.out 6).trans rfl; have hfz128_0 := blk_frozen BK253.out 0; have hfz128_1 := blk_frozen BK253.out 1; have hfz128_2 := blk_frozen BK253.out 2; have hfz128_3 := blk_frozen BK253.out 3; have hfz128_4 := blk_frozen BK253.out 4; have hfz128_5 := blk_frozen BK253.out 5; have hfz128_6 := blk_frozen BK253.out 6; have hnb129 := NB251_252.out; have hnc129 := NB252_251.out; have hcz130_0 : w124.cell? ⟨gb251, 0, none⟩ = some (.int .i64 t240) := (blk_cell BK251.out 0).trans rfl; have hcz130_1 : w124.cell? ⟨gb251, 1, none⟩ = some (.int .i64 t241) := (blk_cell BK251.out 1).trans rfl; have hcz130_2 : w124.cell? ⟨gb251, 2, none⟩ = some (.int .i64 x252002_19) := (blk_cell BK251.out 2).trans rfl; have hcz130_3 : w124.cell? ⟨gb251, 3, none⟩ = some (.int .i64 x252003_19) := (blk_cell BK251.out 3).trans rfl; have hcz130_4 : w124.cell? ⟨gb251, 4, none⟩ = some (.int .i64 t244) := (blk_cell BK251.out 4).trans rfl; have hcz130_5 : w124.cell? ⟨gb251, 5, none⟩ = some (.int .i64 x252005_19) := (blk_cell BK251.out 5).trans rfl; have hcz130_6 : w124.cell? ⟨gb251, 6, none⟩ = some (.int .i64 x252006_19) := (blk_cell BK251.out 6).trans rfl; have hfz130_0 := blk_frozen BK251.out 0; have hfz130_1 := blk_frozen BK251.out 1; have hfz130_2 := blk_frozen BK251.out 2; have hfz130_3 := blk_frozen BK251.out 3; have hfz130_4 := blk_frozen BK251.out 4; have hfz130_5 := blk_frozen BK251.out 5; have hfz130_6 := blk_frozen BK251.out 6) | ((with_reducible refine gate_callee (f := 19) rfl ?_); refine goesL_ (some 48) rfl rfl Tryd.func19 (by kernel_rfl) rfl #[.agg #[.int .i64 t240, .int .i64 t241, .int .i64 x252002_19, .int .i64 x252003_19, .int .i64 t244, .int .i64 x252005_19, .int .i64 x252006_19]] rfl z17x18 ?_; (with_reducible refine (impl_SealOk.calls t240 t241 x252002_19 x252003_19 t244 x252005_19 x252006_19 false _ A54.out).mono ?_); rintro e w131 ⟨rfl, hb⟩; refine ⟨_, rfl, ?_⟩; have n0_ := Aside0.mk (blk_below (g := gb247) (o := .cells #[.int .i64 t240, .int .i64 t241, .int .i64 t242, .int .i64 t243, .int .i64 t244, .int .i64 t245, .int .i64 t246] 24 (0, 0)) z17x2 hb); have n1_ := Aside0.mk (blk_below (g := gb251) (o := .cells #[.int .i64 t240, .int .i64 t241, .int .i64 x252002_19, .int .i64 x252003_19, .int .i64 t244, .int .i64 x252005_19, .int .i64 x252006_19] 24 (0, 0)) z17x3 hb); have n2_ := Aside0.mk (blk_below (g := gb252) (o := .cells #[.int .i64 t240, .int .i64 t241, .int .i64 x253002_19, .int .i64 x253003_19, .int .i64 x253004_19, .int .i64 t245, .int .i64 t246] 24 (0, 0)) z17x4 hb); have n3_ := Aside0.mk (blk_below (g := gb253) (o := .cells #[.int .i64 t240, .int .i64 0, .int .i64 t242, .int .i64 t243, .int .i64 t244, .int .i64 t245, .int .i64 t246] 24 (0, 0)) z17x0 hb); have n4_ := Aside0.mk (below_step z17x12 hb); clear BK247; clear BK251; clear BK252; clear BK253; clear HB; have BK247 := n0_; have BK251 := n1_; have BK252 := n2_; have BK253 := n3_; have HB := n4_; clear n0_ n1_ n2_ n3_ n4_; (try clear hb); (try clear hb2); (try clear hk); (try clear hi); have hcz132_0 : w131.cell? ⟨gb252, 0, none⟩ = some (.int .i64 t240) := (blk_cell BK252.out 0).trans rfl; have hcz132_1 : w131.cell? ⟨gb252, 1, none⟩ = some (.int .i64 t241) := (blk_cell BK252.out 1).trans rfl; have hcz132_2 : w131.cell? ⟨gb252, 2, none⟩ = some (.int .i64 x253002_19) := (blk_cell BK252.out 2).trans rfl; have hcz132_3 : w131.cell? ⟨gb252, 3, none⟩ = some (.int .i64 x253003_19) := (blk_cell BK252.out 3).trans rfl; have hcz132_4 : w131.cell? ⟨gb252, 4, none⟩ = some (.int .i64 x253004_19) := (blk_cell BK252.out 4).trans rfl; have hcz132_5 : w131.cell? ⟨gb252, 5, none⟩ = some (.int .i64 t245) := (blk_cell BK252.out 5).trans rfl; have hcz132_6 : w131.cell? ⟨gb252, 6, none⟩ = some (.int .i64 t246) := (blk_cell BK252.out 6).trans rfl; have hfz132_0 := blk_frozen BK252.out 0; have hfz132_1 := blk_frozen BK252.out 1; have hfz132_2 := blk_frozen BK252.out 2; have hfz132_3 := blk_frozen BK252.out 3; have hfz132_4 := blk_frozen BK252.out 4; have hfz132_5 := blk_frozen BK252.out 5; have hfz132_6 := blk_frozen BK252.out 6) | (go_at_call 19; (with_reducible refine (impl_SealOk.calls t240 t241 x253002_19 x253003_19 x253004_19 t245 t246 false _ A67.out).mono ?_); rintro e w133 ⟨rfl, hb⟩; have n0_ := Aside0.mk (blk_below (g := gb247) (o := .cells #[.int .i64 t240, .int .i64 t241, .int .i64 t242, .int .i64 t243, .int .i64 t244, .int .i64 t245, .int .i64 t246] 24 (0, 0)) z17x20 hb); have n1_ := Aside0.mk (blk_below (g := gb251) (o := .cells #[.int .i64 t240, .int .i64 t241, .int .i64 x252002_19, .int .i64 x252003_19, .int .i64 t244, .int .i64 x252005_19, .int .i64 x252006_19] 24 (0, 0)) z17x21 hb); have n2_ := Aside0.mk (blk_below (g := gb252) (o := .cells #[.int .i64 t240, .int .i64 t241, .int .i64 x253002_19, .int .i64 x253003_19, .int .i64 x253004_19, .int .i64 t245, .int .i64 t246] 24 (0, 0)) z17x22 hb); have n3_ := Aside0.mk (blk_below (g := gb253) (o := .cells #[.int .i64 t240, .int .i64 0, .int .i64 t242, .int .i64 t243, .int .i64 t244, .int .i64 t245, .int .i64 t246] 24 (0, 0)) z17x23 hb); have n4_ := Aside0.mk (below_step z17x12 hb); clear BK247; clear BK251; clear BK252; clear BK253; clear HB; have BK247 := n0_; have BK251 := n1_; have BK252 := n2_; have BK253 := n3_; have HB := n4_; clear n0_ n1_ n2_ n3_ n4_; (try clear hb); (try clear hb2); (try clear hk); (try clear hi); have hcz134_0 : w133.cell? ⟨gb253, 0, none⟩ = some (.int .i64 t240) := (blk_cell BK253.out 0).trans rfl; have hcz134_1 : w133.cell? ⟨gb253, 1, none⟩ = some (.int .i64 0) := (blk_cell BK253.out 1).trans rfl; have hcz134_2 : w133.cell? ⟨gb253, 2, none⟩ = some (.int .i64 t242) := (blk_cell BK253.out 2).trans rfl; have hcz134_3 : w133.cell? ⟨gb253, 3, none⟩ = some (.int .i64 t243) := (blk_cell BK253.out 3).trans rfl; have hcz134_4 : w133.cell? ⟨gb253, 4, none⟩ = some (.int .i64 t244) := (blk_cell BK253.out 4).trans rfl; have hcz134_5 : w133.cell? ⟨gb253, 5, none⟩ = some (.int .i64 t245) := (blk_cell BK253.out 5).trans rfl; have hcz134_6 : w133.cell? ⟨gb253, 6, none⟩ = some (.int .i64 t246) := (blk_cell BK253.out 6).trans rfl; have hfz134_0 := blk_frozen BK253.out 0; have hfz134_1 := blk_frozen BK253.out 1; have hfz134_2 := blk_frozen BK253.out 2; have hfz134_3 := blk_frozen BK253.out 3; have hfz134_4 := blk_frozen BK253.out 4; have hfz134_5 := blk_frozen BK253.out 5; have hfz134_6 := blk_frozen BK253.out 6) | (go_at_call 19; (with_reducible refine (impl_SealOk.calls t240 0 t242 t243 t244 t245 t246 false _ A82.out).mono ?_); rintro e w135 ⟨rfl, hb⟩; have n0_ := Aside0.mk (blk_below (g := gb247) (o := .cells #[.int .i64 t240, .int .i64 t241, .int .i64 t242, .int .i64 t243, .int .i64 t244, .int .i64 t245, .int .i64 t246] 24 (0, 0)) z17x20 hb); have n1_ := Aside0.mk (blk_below (g := gb251) (o := .cells #[.int .i64 t240, .int .i64 t241, .int .i64 x252002_19, .int .i64 x252003_19, .int .i64 t244, .int .i64 x252005_19, .int .i64 x252006_19] 24 (0, 0)) z17x21 hb); have n2_ := Aside0.mk (blk_below (g := gb252) (o := .cells #[.int .i64 t240, .int .i64 t241, .int .i64 x253002_19, .int .i64 x253003_19, .int .i64 x253004_19, .int .i64 t245, .int .i64 t246] 24 (0, 0)) z17x22 hb); have n3_ := Aside0.mk (blk_below (g := gb253) (o := .cells #[.int .i64 t240, .int .i64 0, .int .i64 t242, .int .i64 t243, .int .i64 t244, .int .i64 t245, .int .i64 t246] 24 (0, 0)) z17x23 hb); have n4_ := Aside0.mk (below_step z17x12 hb); clear BK247; clear BK251; clear BK252; clear BK253; clear HB; have BK247 := n0_; have BK251 := n1_; have BK252 := n2_; have BK253 := n3_; have HB := n4_; clear n0_ n1_ n2_ n3_ n4_; (try clear hb); (try clear hb2); (try clear hk); (try clear hi); have hcz136_0 : w135.cell? ⟨gb251, 0, none⟩ = some (.int .i64 t240) := (blk_cell BK251.out 0).trans rfl; have hcz136_1 : w135.cell? ⟨gb251, 1, none⟩ = some (.int .i64 t241) := (blk_cell BK251.out 1).trans rfl; have hcz136_2 : w135.cell? ⟨gb251, 2, none⟩ = some (.int .i64 x252002_19) := (blk_cell BK251.out 2).trans rfl; have hcz136_3 : w135.cell? ⟨gb251, 3, none⟩ = some (.int .i64 x252003_19) := (blk_cell BK251.out 3).trans rfl; have hcz136_4 : w135.cell? ⟨gb251, 4, none⟩ = some (.int .i64 t244) := (blk_cell BK251.out 4).trans rfl; have hcz136_5 : w135.cell? ⟨gb251, 5, none⟩ = some (.int .i64 x252005_19) := (blk_cell BK251.out 5).trans rfl; have hcz136_6 : w135.cell? ⟨gb251, 6, none⟩ = some (.int .i64 x252006_19) := (blk_cell BK251.out 6).trans rfl; have hfz136_0 := blk_frozen BK251.out 0; have hfz136_1 := blk_frozen BK251.out 1; have hfz136_2 := blk_frozen BK251.out 2; have hfz136_3 := blk_frozen BK251.out 3; have hfz136_4 := blk_frozen BK251.out 4; have hfz136_5 := blk_frozen BK251.out 5; have hfz136_6 := blk_frozen BK251.out 6) | (go_at_call 13; (with_reducible refine (impl_SealText.calls t240 t241 x252002_19 x252003_19 t244 x252005_19 x252006_19 t257 _ A99.out ?tens2).mono ?_); (case tens2 => exact Tens.on HT.out z17x12); rintro e w137 ⟨rfl, hb⟩; have n0_ := Aside0.mk (blk_below (g := gb247) (o := .cells #[.int .i64 t240, .int .i64 t241, .int .i64 t242, .int .i64 t243, .int .i64 t244, .int .i64 t245, .int .i64 t246] 24 (0, 0)) z17x20 hb); have n1_ := Aside0.mk (blk_below (g := gb251) (o := .cells #[.int .i64 t240, .int .i64 t241, .int .i64 x252002_19, .int .i64 x252003_19, .int .i64 t244, .int .i64 x252005_19, .int .i64 x252006_19] 24 (0, 0)) z17x21 hb); have n2_ := Aside0.mk (blk_below (g := gb252) (o := .cells #[.int .i64 t240, .int .i64 t241, .int .i64 x253002_19, .int .i64 x253003_19, .int .i64 x253004_19, .int .i64 t245, .int .i64 t246] 24 (0, 0)) z17x22 hb); have n3_ := Aside0.mk (blk_below (g := gb253) (o := .cells #[.int .i64 t240, .int .i64 0, .int .i64 t242, .int .i64 t243, .int .i64 t244, .int .i64 t245, .int .i64 t246] 24 (0, 0)) z17x23 hb); have n4_ := Aside0.mk (below_step z17x12 hb); clear BK247; clear BK251; clear BK252; clear BK253; clear HB; have BK247 := n0_; have BK251 := n1_; have BK252 := n2_; have BK253 := n3_; have HB := n4_; clear n0_ n1_ n2_ n3_ n4_; (try clear hb); (try clear hb2); (try clear hk); (try clear hi)))
           go_ret
           exact ⟨by first | rfl | (simp [errW_none, errW_some] <;> rfl) | (simp [*, errW_none, errW_some] <;> rfl), by repeat (first | (with_reducible first | exact HB.out | apply below_alloc | apply pw_below_drewN | apply below_drew1 | refine below_set ?_ GE247.out | refine below_set ?_ GE251.out | refine below_set ?_ GE252.out | refine below_set ?_ GE253.out) | exact HB.out)⟩

/-- THE ONE PURE STATEMENT of laws_FnSealRange: yours. -/
def laws_FnSealRange.Pure : Prop := ∀ (l0 : List Int), l0.length ≤ maxLen → l0.length * 1 ≤ 140737488351232 → (∀ x ∈ l0, (Lit.int .u8 x).wf = true) → ∃ k, laws_FnSealRange.f k l0 = some true
theorem laws_FnSealRange.walk (P : laws_FnSealRange.Pure) (a0 : Option Addr) (len0 cap0 : Nat) (z0 : List Int) (w : World) (w0 : (a0 = none ∧ len0 = 0 ∧ cap0 = 0 ∧ z0 = []) ∨ ∃ x, a0 = some x ∧ len0 ≤ cap0 ∧ cap0 ≤ maxLen ∧ z0.length = cap0 ∧ (∀ i, i < z0.length → w.cell? (x.add i) = some (.int .u8 (z0.getD i 0))) ∧ ∀ n ∈ z0, (Lit.int .u8 n).wf = true) (y0 : len0 * 1 ≤ 140737488351232) (ht : Tens w) :
  Calls Tryd.prog 7 #[.slice a0 len0 cap0] w fun e w' => e = .returned (.bool true) ∧ Below w.heap.size w w' := by
 obtain ⟨l0, rfl, hr0, hm0, hw0, hc0⟩ := ReadsInt.ofRowC w0
 obtain ⟨k, h⟩ := P l0 hm0 y0 hw0
 refine (laws_FnSealRange.calls k _ _ l0 true w (Kd.C_of_reads (d := (0 : Int)) (h1 := fun _ => rfl) hr0) hc0 h ht).mono ?_
 rintro e w' ⟨rfl, hd⟩
 exact ⟨rfl, hd⟩

end Go.Proofs.YtgekmdfcbcacdaaDoor.Hp
