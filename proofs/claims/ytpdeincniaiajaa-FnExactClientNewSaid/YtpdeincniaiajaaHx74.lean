-- hp.py
import Derived.Test.YtpdeincniaiajaaHx0
import Derived.Test.YtpdeincniaiajaaHx36
import Derived.Test.YtpdeincniaiajaaHx37
import Derived.Test.YtpdeincniaiajaaHx68
import Derived.Test.YtpdeincniaiajaaHx70
import Derived.Test.YtpdeincniaiajaaHx73
namespace Go.Proofs.Ytpdeincniaiajaa.Hp
open Go.RowKit Go.Proofs.YtpdeincniaiajaaW.PrintWords Go.Proofs.YtpdeincniaiajaaW.PrintLast Go.Proofs.YtpdeincniaiajaaW.PrintMore
attribute [local go_sem] max2_int min2_int max_two min_two max_three min_three max_four min_four   -- for this text's walks alone
set_option linter.unusedVariables false
set_option linter.unusedSimpArgs false
-- squeezed by wip/tools/squeeze.py
theorem z74x53 {P : Prop} (h : P := by (with_reducible repeat (first | apply Kd.R_alloc | apply Kd.R_drewN | apply Kd.R_drew)); exact HO_869005.out) : P := h
theorem z74x52 {P : Prop} (h : P := by (with_reducible repeat (first | apply Kd.R_alloc | apply Kd.R_drewN | apply Kd.R_drew)); exact HO_869004.out) : P := h
theorem z74x51 {P : Prop} (h : P := by (with_reducible repeat (first | apply Kd.R_alloc | apply Kd.R_drewN | apply Kd.R_drew)); exact HO_869003.out) : P := h
theorem z74x50 {P : Prop} (h : P := by (with_reducible repeat (first | apply Kd.R_alloc | apply Kd.R_drewN | apply Kd.R_drew)); exact HO_869002.out) : P := h
theorem z74x49 {P : Prop} (h : P := by (with_reducible repeat (first | apply Kd.R_alloc | apply Kd.R_drewN | apply Kd.R_drew)); exact HO_847005.out) : P := h
theorem z74x48 {P : Prop} (h : P := by (with_reducible repeat (first | apply Kd.R_alloc | apply Kd.R_drewN | apply Kd.R_drew)); exact HO_847004.out) : P := h
theorem z74x47 {P : Prop} (h : P := by (with_reducible repeat (first | apply Kd.R_alloc | apply Kd.R_drewN | apply Kd.R_drew)); exact HO_847003.out) : P := h
theorem z74x46 {P : Prop} (h : P := by (with_reducible repeat (first | apply Kd.R_alloc | apply Kd.R_drewN | apply Kd.R_drew)); exact HO_847002.out) : P := h
theorem z74x45 {P : Prop} (h : P := by (with_reducible repeat (first | apply Kd.R_alloc | apply Kd.R_drewN | apply Kd.R_drew)); exact HO_831005.out) : P := h
theorem z74x44 {P : Prop} (h : P := by (with_reducible repeat (first | apply Kd.R_alloc | apply Kd.R_drewN | apply Kd.R_drew)); exact HO_831004.out) : P := h
theorem z74x43 {P : Prop} (h : P := by (with_reducible repeat (first | apply Kd.R_alloc | apply Kd.R_drewN | apply Kd.R_drew)); exact HO_831003.out) : P := h
theorem z74x42 {P : Prop} (h : P := by (with_reducible repeat (first | apply Kd.R_alloc | apply Kd.R_drewN | apply Kd.R_drew)); exact HO_831002.out) : P := h
theorem z74x41 {P : Prop} (h : P := by (with_reducible repeat (first | refine blk_drewN ?_ _ | refine blk_drew ?_ | refine blk_alloc ?_ _)); exact BK868.out) : P := h
theorem z74x40 {P : Prop} (h : P := by (with_reducible repeat (first | refine blk_drewN ?_ _ | refine blk_drew ?_ | refine blk_alloc ?_ _)); exact BK846.out) : P := h
theorem z74x39 {P : Prop} (h : P := by (with_reducible repeat (first | refine blk_drewN ?_ _ | refine blk_drew ?_ | refine blk_alloc ?_ _)); exact BK830.out) : P := h
theorem z74x38 {P : Prop} (h : P := by repeat (first | (with_reducible first | exact HB.out | apply below_alloc | apply pw_below_drewN | apply below_drew1) | exact HB.out)) : P := h
theorem z74x37 {P : Prop} (h : P := by (try simp only [List.map_toArray, List.map_cons, List.map_nil]); first | done | rfl | (simp only [List.length_drop, List.length_take]; rfl)) : P := h
theorem z74x36 {P : Prop} (h : P := by repeat (first | (with_reducible first | exact HB.out | apply below_alloc | apply pw_below_drewN | apply below_drew1 | refine below_set ?_ GE830.out) | exact HB.out)) : P := h
theorem z74x35 {P : Prop} (h : P := by rw [hg]; exact (below_size (by repeat (first | (with_reducible first | exact HB.out | apply below_alloc | apply pw_below_drewN | apply below_drew1 | refine below_set ?_ GE830.out) | exact HB.out)))) : P := h
theorem z74x34 {P : Prop} (h : P := by repeat (first | (with_reducible first | exact HB.out | apply below_alloc | apply pw_below_drewN | apply below_drew1 | refine below_set ?_ GE830.out | refine below_set ?_ GE846.out) | exact HB.out)) : P := h
theorem z74x33 {P : Prop} (h : P := by rw [hg]; exact (below_size (by repeat (first | (with_reducible first | exact HB.out | apply below_alloc | apply pw_below_drewN | apply below_drew1 | refine below_set ?_ GE830.out | refine below_set ?_ GE846.out) | exact HB.out)))) : P := h
theorem z74x32 {P : Prop} (h : P := by repeat (first | (with_reducible first | exact HB.out | apply below_alloc | apply pw_below_drewN | apply below_drew1 | refine below_set ?_ GE830.out | refine below_set ?_ GE846.out | refine below_set ?_ GE868.out) | exact HB.out)) : P := h
theorem z74x31 {P : Prop} (h : P := by rw [hg]; exact Nat.ne_of_lt (blk_lt (g := gb830) (o := .cells #[.int .i64 t815, .int .i64 t816, .slice Ao8 t817.length co8, .slice Ao9 t820.length co9, .slice Ao10 t823.length co10, .slice Ao11 t826.length co11] 46 (0, 0)) (by (with_reducible repeat (first | refine blk_drewN ?_ _ | refine blk_drew ?_ | refine blk_alloc ?_ _)); exact BK830.out))) : P := h
theorem z74x30 {P : Prop} (h : P := by rw [hg]; exact Nat.ne_of_gt (blk_lt (g := gb830) (o := .cells #[.int .i64 t815, .int .i64 t816, .slice Ao8 t817.length co8, .slice Ao9 t820.length co9, .slice Ao10 t823.length co10, .slice Ao11 t826.length co11] 46 (0, 0)) (by (with_reducible repeat (first | refine blk_drewN ?_ _ | refine blk_drew ?_ | refine blk_alloc ?_ _)); exact BK830.out))) : P := h
theorem z74x29 {P : Prop} (h : P := by (try simp only [List.map_toArray, List.map_cons, List.map_nil]); first | done | (rw [show t849.length = t833.length from (Kd.R_reads' HO_847002.out).1.symm, show t850.length = t839.length from (Kd.R_reads' HO_847004.out).1.symm, show t851.length = t842.length from (Kd.R_reads' HO_847005.out).1.symm] <;> rfl) | rfl | (simp only [List.length_drop, List.length_take]; rfl)) : P := h
theorem z74x28 {P : Prop} (h : P := by (with_reducible repeat (first | apply Kd.R_alloc | apply Kd.R_drewN | apply Kd.R_drew)); exact (Kd.R_mono (Kd.R_far (p := ⟨gb830, 5, none⟩) (Kd.R_far (p := ⟨gb830, 4, none⟩) (Kd.R_far (p := ⟨gb830, 3, none⟩) (Kd.R_far (p := ⟨gb830, 2, none⟩) (Kd.R_far (p := ⟨gb830, 1, none⟩) (Kd.R_far (p := ⟨gb830, 0, none⟩) (Kd.R_types HO828.out BK830.out (by decide)) (fun _ hk => hk.2) (.int .i64 t815)) (fun _ hk => hk.2) (.int .i64 t816)) (fun _ hk => hk.2) (.slice Ao8 t817.length co8)) (fun _ hk => hk.2) (.slice Ao9 t820.length co9)) (fun _ hk => hk.2) (.slice Ao10 t823.length co10)) (fun _ hk => hk.2) (.slice Ao11 t826.length co11)) (fun _ h_ => h_.1))) : P := h
theorem z74x27 {P : Prop} (h : P := by (with_reducible repeat (first | apply Kd.R_alloc | apply Kd.R_drewN | apply Kd.R_drew)); exact (Kd.R_mono (Kd.R_far (p := ⟨gb830, 5, none⟩) (Kd.R_far (p := ⟨gb830, 4, none⟩) (Kd.R_far (p := ⟨gb830, 3, none⟩) (Kd.R_far (p := ⟨gb830, 2, none⟩) (Kd.R_far (p := ⟨gb830, 1, none⟩) (Kd.R_far (p := ⟨gb830, 0, none⟩) (Kd.R_types HO825.out BK830.out (by decide)) (fun _ hk => hk.2) (.int .i64 t815)) (fun _ hk => hk.2) (.int .i64 t816)) (fun _ hk => hk.2) (.slice Ao8 t817.length co8)) (fun _ hk => hk.2) (.slice Ao9 t820.length co9)) (fun _ hk => hk.2) (.slice Ao10 t823.length co10)) (fun _ hk => hk.2) (.slice Ao11 t826.length co11)) (fun _ h_ => h_.1))) : P := h
theorem z74x26 {P : Prop} (h : P := by (with_reducible repeat (first | apply Kd.R_alloc | apply Kd.R_drewN | apply Kd.R_drew)); exact (Kd.R_mono (Kd.R_far (p := ⟨gb830, 5, none⟩) (Kd.R_far (p := ⟨gb830, 4, none⟩) (Kd.R_far (p := ⟨gb830, 3, none⟩) (Kd.R_far (p := ⟨gb830, 2, none⟩) (Kd.R_far (p := ⟨gb830, 1, none⟩) (Kd.R_far (p := ⟨gb830, 0, none⟩) (Kd.R_types HO822.out BK830.out (by decide)) (fun _ hk => hk.2) (.int .i64 t815)) (fun _ hk => hk.2) (.int .i64 t816)) (fun _ hk => hk.2) (.slice Ao8 t817.length co8)) (fun _ hk => hk.2) (.slice Ao9 t820.length co9)) (fun _ hk => hk.2) (.slice Ao10 t823.length co10)) (fun _ hk => hk.2) (.slice Ao11 t826.length co11)) (fun _ h_ => h_.1))) : P := h
theorem z74x25 {P : Prop} (h : P := by (with_reducible repeat (first | apply Kd.R_alloc | apply Kd.R_drewN | apply Kd.R_drew)); exact (Kd.R_mono (Kd.R_far (p := ⟨gb830, 5, none⟩) (Kd.R_far (p := ⟨gb830, 4, none⟩) (Kd.R_far (p := ⟨gb830, 3, none⟩) (Kd.R_far (p := ⟨gb830, 2, none⟩) (Kd.R_far (p := ⟨gb830, 1, none⟩) (Kd.R_far (p := ⟨gb830, 0, none⟩) (Kd.R_types HO819.out BK830.out (by decide)) (fun _ hk => hk.2) (.int .i64 t815)) (fun _ hk => hk.2) (.int .i64 t816)) (fun _ hk => hk.2) (.slice Ao8 t817.length co8)) (fun _ hk => hk.2) (.slice Ao9 t820.length co9)) (fun _ hk => hk.2) (.slice Ao10 t823.length co10)) (fun _ hk => hk.2) (.slice Ao11 t826.length co11)) (fun _ h_ => h_.1))) : P := h
theorem z74x24 {P : Prop} (h : P := by (with_reducible repeat (first | apply Kd.R_alloc | apply Kd.R_drewN | apply Kd.R_drew)); exact (Kd.R_mono (Kd.R_far (p := ⟨gb868, 5, none⟩) (Kd.R_far (p := ⟨gb868, 4, none⟩) (Kd.R_far (p := ⟨gb868, 3, none⟩) (Kd.R_far (p := ⟨gb868, 2, none⟩) (Kd.R_far (p := ⟨gb868, 1, none⟩) (Kd.R_far (p := ⟨gb868, 0, none⟩) (Kd.R_types HO866.out BK868.out (by decide)) (fun _ hk => hk.2) (.int .i64 t853)) (fun _ hk => hk.2) (.int .i64 t854)) (fun _ hk => hk.2) (.slice Ao52 t855.length co52)) (fun _ hk => hk.2) (.slice Ao53 t858.length co53)) (fun _ hk => hk.2) (.slice Ao54 t861.length co54)) (fun _ hk => hk.2) (.slice Ao55 t864.length co55)) (fun _ h_ => h_.1))) : P := h
theorem z74x23 {P : Prop} (h : P := by (with_reducible repeat (first | apply Kd.R_alloc | apply Kd.R_drewN | apply Kd.R_drew)); exact (Kd.R_mono (Kd.R_far (p := ⟨gb868, 5, none⟩) (Kd.R_far (p := ⟨gb868, 4, none⟩) (Kd.R_far (p := ⟨gb868, 3, none⟩) (Kd.R_far (p := ⟨gb868, 2, none⟩) (Kd.R_far (p := ⟨gb868, 1, none⟩) (Kd.R_far (p := ⟨gb868, 0, none⟩) (Kd.R_types HO863.out BK868.out (by decide)) (fun _ hk => hk.2) (.int .i64 t853)) (fun _ hk => hk.2) (.int .i64 t854)) (fun _ hk => hk.2) (.slice Ao52 t855.length co52)) (fun _ hk => hk.2) (.slice Ao53 t858.length co53)) (fun _ hk => hk.2) (.slice Ao54 t861.length co54)) (fun _ hk => hk.2) (.slice Ao55 t864.length co55)) (fun _ h_ => h_.1))) : P := h
theorem z74x22 {P : Prop} (h : P := by (with_reducible repeat (first | apply Kd.R_alloc | apply Kd.R_drewN | apply Kd.R_drew)); exact (Kd.R_mono (Kd.R_far (p := ⟨gb868, 5, none⟩) (Kd.R_far (p := ⟨gb868, 4, none⟩) (Kd.R_far (p := ⟨gb868, 3, none⟩) (Kd.R_far (p := ⟨gb868, 2, none⟩) (Kd.R_far (p := ⟨gb868, 1, none⟩) (Kd.R_far (p := ⟨gb868, 0, none⟩) (Kd.R_types HO860.out BK868.out (by decide)) (fun _ hk => hk.2) (.int .i64 t853)) (fun _ hk => hk.2) (.int .i64 t854)) (fun _ hk => hk.2) (.slice Ao52 t855.length co52)) (fun _ hk => hk.2) (.slice Ao53 t858.length co53)) (fun _ hk => hk.2) (.slice Ao54 t861.length co54)) (fun _ hk => hk.2) (.slice Ao55 t864.length co55)) (fun _ h_ => h_.1))) : P := h
theorem z74x21 {P : Prop} (h : P := by (with_reducible repeat (first | apply Kd.R_alloc | apply Kd.R_drewN | apply Kd.R_drew)); exact (Kd.R_mono (Kd.R_far (p := ⟨gb868, 5, none⟩) (Kd.R_far (p := ⟨gb868, 4, none⟩) (Kd.R_far (p := ⟨gb868, 3, none⟩) (Kd.R_far (p := ⟨gb868, 2, none⟩) (Kd.R_far (p := ⟨gb868, 1, none⟩) (Kd.R_far (p := ⟨gb868, 0, none⟩) (Kd.R_types HO857.out BK868.out (by decide)) (fun _ hk => hk.2) (.int .i64 t853)) (fun _ hk => hk.2) (.int .i64 t854)) (fun _ hk => hk.2) (.slice Ao52 t855.length co52)) (fun _ hk => hk.2) (.slice Ao53 t858.length co53)) (fun _ hk => hk.2) (.slice Ao54 t861.length co54)) (fun _ hk => hk.2) (.slice Ao55 t864.length co55)) (fun _ h_ => h_.1))) : P := h
theorem z74x20 {P : Prop} (h : P := by (with_reducible repeat (first | apply Kd.R_alloc | apply Kd.R_drewN | apply Kd.R_drew)); exact (Kd.R_mono (Kd.R_far (p := ⟨gb846, 5, none⟩) (Kd.R_far (p := ⟨gb846, 4, none⟩) (Kd.R_far (p := ⟨gb846, 3, none⟩) (Kd.R_far (p := ⟨gb846, 2, none⟩) (Kd.R_far (p := ⟨gb846, 1, none⟩) (Kd.R_far (p := ⟨gb846, 0, none⟩) (Kd.R_types HO844.out BK846.out (by decide)) (fun _ hk => hk.2) (.int .i64 t831)) (fun _ hk => hk.2) (.int .i64 t832)) (fun _ hk => hk.2) (.slice Ao16 t833.length co16)) (fun _ hk => hk.2) (.slice Ao17 t836.length co17)) (fun _ hk => hk.2) (.slice Ao18 t839.length co18)) (fun _ hk => hk.2) (.slice Ao19 t842.length co19)) (fun _ h_ => h_.1))) : P := h
theorem z74x19 {P : Prop} (h : P := by (with_reducible repeat (first | apply Kd.R_alloc | apply Kd.R_drewN | apply Kd.R_drew)); exact (Kd.R_mono (Kd.R_far (p := ⟨gb846, 5, none⟩) (Kd.R_far (p := ⟨gb846, 4, none⟩) (Kd.R_far (p := ⟨gb846, 3, none⟩) (Kd.R_far (p := ⟨gb846, 2, none⟩) (Kd.R_far (p := ⟨gb846, 1, none⟩) (Kd.R_far (p := ⟨gb846, 0, none⟩) (Kd.R_types HO841.out BK846.out (by decide)) (fun _ hk => hk.2) (.int .i64 t831)) (fun _ hk => hk.2) (.int .i64 t832)) (fun _ hk => hk.2) (.slice Ao16 t833.length co16)) (fun _ hk => hk.2) (.slice Ao17 t836.length co17)) (fun _ hk => hk.2) (.slice Ao18 t839.length co18)) (fun _ hk => hk.2) (.slice Ao19 t842.length co19)) (fun _ h_ => h_.1))) : P := h
theorem z74x18 {P : Prop} (h : P := by (with_reducible repeat (first | apply Kd.R_alloc | apply Kd.R_drewN | apply Kd.R_drew)); exact (Kd.R_mono (Kd.R_far (p := ⟨gb846, 5, none⟩) (Kd.R_far (p := ⟨gb846, 4, none⟩) (Kd.R_far (p := ⟨gb846, 3, none⟩) (Kd.R_far (p := ⟨gb846, 2, none⟩) (Kd.R_far (p := ⟨gb846, 1, none⟩) (Kd.R_far (p := ⟨gb846, 0, none⟩) (Kd.R_types HO838.out BK846.out (by decide)) (fun _ hk => hk.2) (.int .i64 t831)) (fun _ hk => hk.2) (.int .i64 t832)) (fun _ hk => hk.2) (.slice Ao16 t833.length co16)) (fun _ hk => hk.2) (.slice Ao17 t836.length co17)) (fun _ hk => hk.2) (.slice Ao18 t839.length co18)) (fun _ hk => hk.2) (.slice Ao19 t842.length co19)) (fun _ h_ => h_.1))) : P := h
theorem z74x17 {P : Prop} (h : P := by (with_reducible repeat (first | apply Kd.R_alloc | apply Kd.R_drewN | apply Kd.R_drew)); exact (Kd.R_mono (Kd.R_far (p := ⟨gb846, 5, none⟩) (Kd.R_far (p := ⟨gb846, 4, none⟩) (Kd.R_far (p := ⟨gb846, 3, none⟩) (Kd.R_far (p := ⟨gb846, 2, none⟩) (Kd.R_far (p := ⟨gb846, 1, none⟩) (Kd.R_far (p := ⟨gb846, 0, none⟩) (Kd.R_types HO835.out BK846.out (by decide)) (fun _ hk => hk.2) (.int .i64 t831)) (fun _ hk => hk.2) (.int .i64 t832)) (fun _ hk => hk.2) (.slice Ao16 t833.length co16)) (fun _ hk => hk.2) (.slice Ao17 t836.length co17)) (fun _ hk => hk.2) (.slice Ao18 t839.length co18)) (fun _ hk => hk.2) (.slice Ao19 t842.length co19)) (fun _ h_ => h_.1))) : P := h
theorem z74x16 {P : Prop} (h : P := by (with_reducible repeat (first | apply Kd.R_alloc | apply Kd.R_drewN | apply Kd.R_drew)); exact (Kd.R_mono (Kd.R_far (p := ⟨gb846, 5, none⟩) (Kd.R_far (p := ⟨gb846, 4, none⟩) (Kd.R_far (p := ⟨gb846, 3, none⟩) (Kd.R_far (p := ⟨gb846, 2, none⟩) (Kd.R_far (p := ⟨gb846, 1, none⟩) (Kd.R_far (p := ⟨gb846, 0, none⟩) (Kd.R_types HO828.out BK846.out (by decide)) (fun _ hk => hk.2) (.int .i64 t831)) (fun _ hk => hk.2) (.int .i64 t832)) (fun _ hk => hk.2) (.slice Ao16 t833.length co16)) (fun _ hk => hk.2) (.slice Ao17 t836.length co17)) (fun _ hk => hk.2) (.slice Ao18 t839.length co18)) (fun _ hk => hk.2) (.slice Ao19 t842.length co19)) (fun _ h_ => h_.1))) : P := h
theorem z74x15 {P : Prop} (h : P := by (with_reducible repeat (first | apply Kd.R_alloc | apply Kd.R_drewN | apply Kd.R_drew)); exact (Kd.R_mono (Kd.R_far (p := ⟨gb846, 5, none⟩) (Kd.R_far (p := ⟨gb846, 4, none⟩) (Kd.R_far (p := ⟨gb846, 3, none⟩) (Kd.R_far (p := ⟨gb846, 2, none⟩) (Kd.R_far (p := ⟨gb846, 1, none⟩) (Kd.R_far (p := ⟨gb846, 0, none⟩) (Kd.R_types HO825.out BK846.out (by decide)) (fun _ hk => hk.2) (.int .i64 t831)) (fun _ hk => hk.2) (.int .i64 t832)) (fun _ hk => hk.2) (.slice Ao16 t833.length co16)) (fun _ hk => hk.2) (.slice Ao17 t836.length co17)) (fun _ hk => hk.2) (.slice Ao18 t839.length co18)) (fun _ hk => hk.2) (.slice Ao19 t842.length co19)) (fun _ h_ => h_.1))) : P := h
theorem z74x14 {P : Prop} (h : P := by (with_reducible repeat (first | apply Kd.R_alloc | apply Kd.R_drewN | apply Kd.R_drew)); exact (Kd.R_mono (Kd.R_far (p := ⟨gb846, 5, none⟩) (Kd.R_far (p := ⟨gb846, 4, none⟩) (Kd.R_far (p := ⟨gb846, 3, none⟩) (Kd.R_far (p := ⟨gb846, 2, none⟩) (Kd.R_far (p := ⟨gb846, 1, none⟩) (Kd.R_far (p := ⟨gb846, 0, none⟩) (Kd.R_types HO822.out BK846.out (by decide)) (fun _ hk => hk.2) (.int .i64 t831)) (fun _ hk => hk.2) (.int .i64 t832)) (fun _ hk => hk.2) (.slice Ao16 t833.length co16)) (fun _ hk => hk.2) (.slice Ao17 t836.length co17)) (fun _ hk => hk.2) (.slice Ao18 t839.length co18)) (fun _ hk => hk.2) (.slice Ao19 t842.length co19)) (fun _ h_ => h_.1))) : P := h
theorem z74x13 {P : Prop} (h : P := by (with_reducible repeat (first | apply Kd.R_alloc | apply Kd.R_drewN | apply Kd.R_drew)); exact (Kd.R_mono (Kd.R_far (p := ⟨gb846, 5, none⟩) (Kd.R_far (p := ⟨gb846, 4, none⟩) (Kd.R_far (p := ⟨gb846, 3, none⟩) (Kd.R_far (p := ⟨gb846, 2, none⟩) (Kd.R_far (p := ⟨gb846, 1, none⟩) (Kd.R_far (p := ⟨gb846, 0, none⟩) (Kd.R_types HO819.out BK846.out (by decide)) (fun _ hk => hk.2) (.int .i64 t831)) (fun _ hk => hk.2) (.int .i64 t832)) (fun _ hk => hk.2) (.slice Ao16 t833.length co16)) (fun _ hk => hk.2) (.slice Ao17 t836.length co17)) (fun _ hk => hk.2) (.slice Ao18 t839.length co18)) (fun _ hk => hk.2) (.slice Ao19 t842.length co19)) (fun _ h_ => h_.1))) : P := h
theorem z74x12 {P : Prop} (h : P := by (with_reducible repeat (first | apply Kd.R_alloc | apply Kd.R_drewN | apply Kd.R_drew)); exact (Kd.R_mono (Kd.R_far (p := ⟨gb868, 5, none⟩) (Kd.R_far (p := ⟨gb868, 4, none⟩) (Kd.R_far (p := ⟨gb868, 3, none⟩) (Kd.R_far (p := ⟨gb868, 2, none⟩) (Kd.R_far (p := ⟨gb868, 1, none⟩) (Kd.R_far (p := ⟨gb868, 0, none⟩) (Kd.R_types HO_847005.out BK868.out (by decide)) (fun _ hk => hk.2) (.int .i64 t853)) (fun _ hk => hk.2) (.int .i64 t854)) (fun _ hk => hk.2) (.slice Ao52 t855.length co52)) (fun _ hk => hk.2) (.slice Ao53 t858.length co53)) (fun _ hk => hk.2) (.slice Ao54 t861.length co54)) (fun _ hk => hk.2) (.slice Ao55 t864.length co55)) (fun _ h_ => h_.1))) : P := h
theorem z74x11 {P : Prop} (h : P := by (with_reducible repeat (first | apply Kd.R_alloc | apply Kd.R_drewN | apply Kd.R_drew)); exact (Kd.R_mono (Kd.R_far (p := ⟨gb868, 5, none⟩) (Kd.R_far (p := ⟨gb868, 4, none⟩) (Kd.R_far (p := ⟨gb868, 3, none⟩) (Kd.R_far (p := ⟨gb868, 2, none⟩) (Kd.R_far (p := ⟨gb868, 1, none⟩) (Kd.R_far (p := ⟨gb868, 0, none⟩) (Kd.R_types HO_847004.out BK868.out (by decide)) (fun _ hk => hk.2) (.int .i64 t853)) (fun _ hk => hk.2) (.int .i64 t854)) (fun _ hk => hk.2) (.slice Ao52 t855.length co52)) (fun _ hk => hk.2) (.slice Ao53 t858.length co53)) (fun _ hk => hk.2) (.slice Ao54 t861.length co54)) (fun _ hk => hk.2) (.slice Ao55 t864.length co55)) (fun _ h_ => h_.1))) : P := h
theorem z74x10 {P : Prop} (h : P := by (with_reducible repeat (first | apply Kd.R_alloc | apply Kd.R_drewN | apply Kd.R_drew)); exact (Kd.R_mono (Kd.R_far (p := ⟨gb868, 5, none⟩) (Kd.R_far (p := ⟨gb868, 4, none⟩) (Kd.R_far (p := ⟨gb868, 3, none⟩) (Kd.R_far (p := ⟨gb868, 2, none⟩) (Kd.R_far (p := ⟨gb868, 1, none⟩) (Kd.R_far (p := ⟨gb868, 0, none⟩) (Kd.R_types HO_847003.out BK868.out (by decide)) (fun _ hk => hk.2) (.int .i64 t853)) (fun _ hk => hk.2) (.int .i64 t854)) (fun _ hk => hk.2) (.slice Ao52 t855.length co52)) (fun _ hk => hk.2) (.slice Ao53 t858.length co53)) (fun _ hk => hk.2) (.slice Ao54 t861.length co54)) (fun _ hk => hk.2) (.slice Ao55 t864.length co55)) (fun _ h_ => h_.1))) : P := h
theorem z74x9 {P : Prop} (h : P := by (with_reducible repeat (first | apply Kd.R_alloc | apply Kd.R_drewN | apply Kd.R_drew)); exact (Kd.R_mono (Kd.R_far (p := ⟨gb868, 5, none⟩) (Kd.R_far (p := ⟨gb868, 4, none⟩) (Kd.R_far (p := ⟨gb868, 3, none⟩) (Kd.R_far (p := ⟨gb868, 2, none⟩) (Kd.R_far (p := ⟨gb868, 1, none⟩) (Kd.R_far (p := ⟨gb868, 0, none⟩) (Kd.R_types HO_847002.out BK868.out (by decide)) (fun _ hk => hk.2) (.int .i64 t853)) (fun _ hk => hk.2) (.int .i64 t854)) (fun _ hk => hk.2) (.slice Ao52 t855.length co52)) (fun _ hk => hk.2) (.slice Ao53 t858.length co53)) (fun _ hk => hk.2) (.slice Ao54 t861.length co54)) (fun _ hk => hk.2) (.slice Ao55 t864.length co55)) (fun _ h_ => h_.1))) : P := h
theorem z74x8 {P : Prop} (h : P := by (with_reducible repeat (first | apply Kd.R_alloc | apply Kd.R_drewN | apply Kd.R_drew)); exact (Kd.R_mono (Kd.R_far (p := ⟨gb868, 5, none⟩) (Kd.R_far (p := ⟨gb868, 4, none⟩) (Kd.R_far (p := ⟨gb868, 3, none⟩) (Kd.R_far (p := ⟨gb868, 2, none⟩) (Kd.R_far (p := ⟨gb868, 1, none⟩) (Kd.R_far (p := ⟨gb868, 0, none⟩) (Kd.R_types HO_831005.out BK868.out (by decide)) (fun _ hk => hk.2) (.int .i64 t853)) (fun _ hk => hk.2) (.int .i64 t854)) (fun _ hk => hk.2) (.slice Ao52 t855.length co52)) (fun _ hk => hk.2) (.slice Ao53 t858.length co53)) (fun _ hk => hk.2) (.slice Ao54 t861.length co54)) (fun _ hk => hk.2) (.slice Ao55 t864.length co55)) (fun _ h_ => h_.1))) : P := h
theorem z74x7 {P : Prop} (h : P := by (with_reducible repeat (first | apply Kd.R_alloc | apply Kd.R_drewN | apply Kd.R_drew)); exact (Kd.R_mono (Kd.R_far (p := ⟨gb868, 5, none⟩) (Kd.R_far (p := ⟨gb868, 4, none⟩) (Kd.R_far (p := ⟨gb868, 3, none⟩) (Kd.R_far (p := ⟨gb868, 2, none⟩) (Kd.R_far (p := ⟨gb868, 1, none⟩) (Kd.R_far (p := ⟨gb868, 0, none⟩) (Kd.R_types HO_831004.out BK868.out (by decide)) (fun _ hk => hk.2) (.int .i64 t853)) (fun _ hk => hk.2) (.int .i64 t854)) (fun _ hk => hk.2) (.slice Ao52 t855.length co52)) (fun _ hk => hk.2) (.slice Ao53 t858.length co53)) (fun _ hk => hk.2) (.slice Ao54 t861.length co54)) (fun _ hk => hk.2) (.slice Ao55 t864.length co55)) (fun _ h_ => h_.1))) : P := h
theorem z74x6 {P : Prop} (h : P := by (with_reducible repeat (first | apply Kd.R_alloc | apply Kd.R_drewN | apply Kd.R_drew)); exact (Kd.R_mono (Kd.R_far (p := ⟨gb868, 5, none⟩) (Kd.R_far (p := ⟨gb868, 4, none⟩) (Kd.R_far (p := ⟨gb868, 3, none⟩) (Kd.R_far (p := ⟨gb868, 2, none⟩) (Kd.R_far (p := ⟨gb868, 1, none⟩) (Kd.R_far (p := ⟨gb868, 0, none⟩) (Kd.R_types HO_831003.out BK868.out (by decide)) (fun _ hk => hk.2) (.int .i64 t853)) (fun _ hk => hk.2) (.int .i64 t854)) (fun _ hk => hk.2) (.slice Ao52 t855.length co52)) (fun _ hk => hk.2) (.slice Ao53 t858.length co53)) (fun _ hk => hk.2) (.slice Ao54 t861.length co54)) (fun _ hk => hk.2) (.slice Ao55 t864.length co55)) (fun _ h_ => h_.1))) : P := h
theorem z74x5 {P : Prop} (h : P := by (with_reducible repeat (first | apply Kd.R_alloc | apply Kd.R_drewN | apply Kd.R_drew)); exact (Kd.R_mono (Kd.R_far (p := ⟨gb868, 5, none⟩) (Kd.R_far (p := ⟨gb868, 4, none⟩) (Kd.R_far (p := ⟨gb868, 3, none⟩) (Kd.R_far (p := ⟨gb868, 2, none⟩) (Kd.R_far (p := ⟨gb868, 1, none⟩) (Kd.R_far (p := ⟨gb868, 0, none⟩) (Kd.R_types HO_831002.out BK868.out (by decide)) (fun _ hk => hk.2) (.int .i64 t853)) (fun _ hk => hk.2) (.int .i64 t854)) (fun _ hk => hk.2) (.slice Ao52 t855.length co52)) (fun _ hk => hk.2) (.slice Ao53 t858.length co53)) (fun _ hk => hk.2) (.slice Ao54 t861.length co54)) (fun _ hk => hk.2) (.slice Ao55 t864.length co55)) (fun _ h_ => h_.1))) : P := h
theorem z74x4 {P : Prop} (h : P := by (with_reducible repeat (first | refine blk_drewN ?_ _ | refine blk_drew ?_ | refine blk_alloc ?_ _)); refine blk_far ?_ NB846_868.out _; (with_reducible repeat (first | refine blk_drewN ?_ _ | refine blk_drew ?_ | refine blk_alloc ?_ _)); refine blk_far ?_ NB846_868.out _; (with_reducible repeat (first | refine blk_drewN ?_ _ | refine blk_drew ?_ | refine blk_alloc ?_ _)); refine blk_far ?_ NB846_868.out _; (with_reducible repeat (first | refine blk_drewN ?_ _ | refine blk_drew ?_ | refine blk_alloc ?_ _)); refine blk_far ?_ NB846_868.out _; (with_reducible repeat (first | refine blk_drewN ?_ _ | refine blk_drew ?_ | refine blk_alloc ?_ _)); refine blk_far ?_ NB846_868.out _; (with_reducible repeat (first | refine blk_drewN ?_ _ | refine blk_drew ?_ | refine blk_alloc ?_ _)); refine blk_far ?_ NB846_868.out _; (with_reducible repeat (first | refine blk_drewN ?_ _ | refine blk_drew ?_ | refine blk_alloc ?_ _)); exact BK846.out) : P := h
theorem z74x3 {P : Prop} (h : P := by (with_reducible repeat (first | refine blk_drewN ?_ _ | refine blk_drew ?_ | refine blk_alloc ?_ _)); refine blk_far ?_ NB830_868.out _; (with_reducible repeat (first | refine blk_drewN ?_ _ | refine blk_drew ?_ | refine blk_alloc ?_ _)); refine blk_far ?_ NB830_868.out _; (with_reducible repeat (first | refine blk_drewN ?_ _ | refine blk_drew ?_ | refine blk_alloc ?_ _)); refine blk_far ?_ NB830_868.out _; (with_reducible repeat (first | refine blk_drewN ?_ _ | refine blk_drew ?_ | refine blk_alloc ?_ _)); refine blk_far ?_ NB830_868.out _; (with_reducible repeat (first | refine blk_drewN ?_ _ | refine blk_drew ?_ | refine blk_alloc ?_ _)); refine blk_far ?_ NB830_868.out _; (with_reducible repeat (first | refine blk_drewN ?_ _ | refine blk_drew ?_ | refine blk_alloc ?_ _)); refine blk_far ?_ NB830_868.out _; (with_reducible repeat (first | refine blk_drewN ?_ _ | refine blk_drew ?_ | refine blk_alloc ?_ _)); exact BK830.out) : P := h
theorem z74x2 {P : Prop} (h : P := by (with_reducible repeat (first | refine blk_drewN ?_ _ | refine blk_drew ?_ | refine blk_alloc ?_ _)); refine blk_far ?_ NB830_846.out _; (with_reducible repeat (first | refine blk_drewN ?_ _ | refine blk_drew ?_ | refine blk_alloc ?_ _)); refine blk_far ?_ NB830_846.out _; (with_reducible repeat (first | refine blk_drewN ?_ _ | refine blk_drew ?_ | refine blk_alloc ?_ _)); refine blk_far ?_ NB830_846.out _; (with_reducible repeat (first | refine blk_drewN ?_ _ | refine blk_drew ?_ | refine blk_alloc ?_ _)); refine blk_far ?_ NB830_846.out _; (with_reducible repeat (first | refine blk_drewN ?_ _ | refine blk_drew ?_ | refine blk_alloc ?_ _)); refine blk_far ?_ NB830_846.out _; (with_reducible repeat (first | refine blk_drewN ?_ _ | refine blk_drew ?_ | refine blk_alloc ?_ _)); refine blk_far ?_ NB830_846.out _; (with_reducible repeat (first | refine blk_drewN ?_ _ | refine blk_drew ?_ | refine blk_alloc ?_ _)); exact BK830.out) : P := h
theorem z74x1 {P : Prop} (h : P := by (with_reducible repeat (first | refine blk_drewN ?_ _ | refine blk_drew ?_ | refine blk_alloc ?_ _)); refine blk_put (cs := #[.int .i64 t853, .int .i64 t854, .slice Ao52 t855.length co52, .slice Ao53 t858.length co53, .slice Ao54 t861.length co54, .slice none 0 0]) ?_ 5 _ rfl; (with_reducible repeat (first | refine blk_drewN ?_ _ | refine blk_drew ?_ | refine blk_alloc ?_ _)); refine blk_put (cs := #[.int .i64 t853, .int .i64 t854, .slice Ao52 t855.length co52, .slice Ao53 t858.length co53, .slice none 0 0, .slice none 0 0]) ?_ 4 _ rfl; (with_reducible repeat (first | refine blk_drewN ?_ _ | refine blk_drew ?_ | refine blk_alloc ?_ _)); refine blk_put (cs := #[.int .i64 t853, .int .i64 t854, .slice Ao52 t855.length co52, .slice none 0 0, .slice none 0 0, .slice none 0 0]) ?_ 3 _ rfl; (with_reducible repeat (first | refine blk_drewN ?_ _ | refine blk_drew ?_ | refine blk_alloc ?_ _)); refine blk_put (cs := #[.int .i64 t853, .int .i64 t854, .slice none 0 0, .slice none 0 0, .slice none 0 0, .slice none 0 0]) ?_ 2 _ rfl; (with_reducible repeat (first | refine blk_drewN ?_ _ | refine blk_drew ?_ | refine blk_alloc ?_ _)); refine blk_put (cs := #[.int .i64 t853, .int .i64 0, .slice none 0 0, .slice none 0 0, .slice none 0 0, .slice none 0 0]) ?_ 1 _ rfl; (with_reducible repeat (first | refine blk_drewN ?_ _ | refine blk_drew ?_ | refine blk_alloc ?_ _)); refine blk_put (cs := #[.int .i64 0, .int .i64 0, .slice none 0 0, .slice none 0 0, .slice none 0 0, .slice none 0 0]) ?_ 0 _ rfl; (with_reducible repeat (first | refine blk_drewN ?_ _ | refine blk_drew ?_ | refine blk_alloc ?_ _)); exact BK868.out) : P := h
theorem z74x0 {P : Prop} (h : P := by (with_reducible repeat (first | refine blk_drewN ?_ _ | refine blk_drew ?_ | refine blk_alloc ?_ _)); refine blk_put (cs := #[.int .i64 t831, .int .i64 t832, .slice Ao16 t833.length co16, .slice Ao17 t836.length co17, .slice Ao18 t839.length co18, .slice none 0 0]) ?_ 5 _ rfl; (with_reducible repeat (first | refine blk_drewN ?_ _ | refine blk_drew ?_ | refine blk_alloc ?_ _)); refine blk_put (cs := #[.int .i64 t831, .int .i64 t832, .slice Ao16 t833.length co16, .slice Ao17 t836.length co17, .slice none 0 0, .slice none 0 0]) ?_ 4 _ rfl; (with_reducible repeat (first | refine blk_drewN ?_ _ | refine blk_drew ?_ | refine blk_alloc ?_ _)); refine blk_put (cs := #[.int .i64 t831, .int .i64 t832, .slice Ao16 t833.length co16, .slice none 0 0, .slice none 0 0, .slice none 0 0]) ?_ 3 _ rfl; (with_reducible repeat (first | refine blk_drewN ?_ _ | refine blk_drew ?_ | refine blk_alloc ?_ _)); refine blk_put (cs := #[.int .i64 t831, .int .i64 t832, .slice none 0 0, .slice none 0 0, .slice none 0 0, .slice none 0 0]) ?_ 2 _ rfl; (with_reducible repeat (first | refine blk_drewN ?_ _ | refine blk_drew ?_ | refine blk_alloc ?_ _)); refine blk_put (cs := #[.int .i64 t831, .int .i64 0, .slice none 0 0, .slice none 0 0, .slice none 0 0, .slice none 0 0]) ?_ 1 _ rfl; (with_reducible repeat (first | refine blk_drewN ?_ _ | refine blk_drew ?_ | refine blk_alloc ?_ _)); refine blk_put (cs := #[.int .i64 0, .int .i64 0, .slice none 0 0, .slice none 0 0, .slice none 0 0, .slice none 0 0]) ?_ 0 _ rfl; (with_reducible repeat (first | refine blk_drewN ?_ _ | refine blk_drew ?_ | refine blk_alloc ?_ _)); exact BK846.out) : P := h

/-! ### laws_FnExactClientNew: function 14 -/
mutual
def laws_FnExactClientNew.j0 : Nat → Int → Bool → Bool → Int → Int → List (S117) → List (S119) → List (S125) → List (S125) → Int → Int → List (S117) → List (S119) → List (S125) → List (S125) → Option (Bool)
 | 0, _, _, _, _, _, _, _, _, _, _, _, _, _, _, _ => none
 | k + 1, x0, x4, x29, x831000, x831001, x831002, x831003, x831004, x831005, x847000, x847001, x847002, x847003, x847004, x847005 => if x29 = true then (some false) else ((laws_markClient.f k x847000 x847001 x847002 x847003 x847004 x847005 1).bind fun bt848 => ((laws_heldClient.f k x847000 x847001 bt848.2.1 x847003 bt848.2.2.1 bt848.2.2.2 1).bind fun t852 => (if t852 < 0 then (some false) else (if t852 = bt848.1 then ((impl_ClientNew.f x0).bind fun bt853 => ((laws_eqClient.f k bt853.1 bt853.2.1 bt853.2.2.1 bt853.2.2.2.1 bt853.2.2.2.2.1 bt853.2.2.2.2.2.1 x831000 x831001 x831002 x831003 x831004 x831005).bind fun t869 => (if t869 = true then (laws_FnExactClientNew.j1 k bt848.1 (bt853.2.2.2.2.2.2 != x4) x847000 x847001 bt848.2.1 x847003 bt848.2.2.1 bt848.2.2.2) else (laws_FnExactClientNew.j1 k bt848.1 true x847000 x847001 bt848.2.1 x847003 bt848.2.2.1 bt848.2.2.2)))) else (some false)))))
def laws_FnExactClientNew.j1 : Nat → Int → Bool → Int → Int → List (S117) → List (S119) → List (S125) → List (S125) → Option (Bool)
 | 0, _, _, _, _, _, _, _, _ => none
 | k + 1, x7, x54, x847000, x847001, x847002, x847003, x847004, x847005 => if x54 = true then (some false) else ((laws_heldClient.f k x847000 x847001 x847002 x847003 x847004 x847005 1).bind fun t870 => (if t870 < 0 then (some false) else (if t870 = x7 then (some true) else (some false))))
end
def laws_FnExactClientNew.f (k : Nat) (a0 : Int) : Option (Bool) := (spec_ClientNew.f a0).bind fun bt815 => ((impl_ClientNew.f a0).bind fun bt831 => ((laws_eqClient.f k bt831.1 bt831.2.1 bt831.2.2.1 bt831.2.2.2.1 bt831.2.2.2.2.1 bt831.2.2.2.2.2.1 bt815.1 bt815.2.1 bt815.2.2.1 bt815.2.2.2.1 bt815.2.2.2.2.1 bt815.2.2.2.2.2.1).bind fun t847 => (if t847 = true then (laws_FnExactClientNew.j0 k a0 bt815.2.2.2.2.2.2 (bt831.2.2.2.2.2.2 != bt815.2.2.2.2.2.2) bt815.1 bt815.2.1 bt815.2.2.1 bt815.2.2.2.1 bt815.2.2.2.2.1 bt815.2.2.2.2.2.1 bt831.1 bt831.2.1 bt831.2.2.1 bt831.2.2.2.1 bt831.2.2.2.2.1 bt831.2.2.2.2.2.1) else (laws_FnExactClientNew.j0 k a0 bt815.2.2.2.2.2.2 true bt815.1 bt815.2.1 bt815.2.2.1 bt815.2.2.2.1 bt815.2.2.2.2.1 bt815.2.2.2.2.2.1 bt831.1 bt831.2.1 bt831.2.2.1 bt831.2.2.2.1 bt831.2.2.2.2.1 bt831.2.2.2.2.2.1))))
theorem laws_FnExactClientNew.mono_l : ∀ k, (∀ y0 y1 y2 y3 y4 y5 y6 y7 y8 y9 y10 y11 y12 y13 y14, LeO (laws_FnExactClientNew.j0 k y0 y1 y2 y3 y4 y5 y6 y7 y8 y9 y10 y11 y12 y13 y14) (laws_FnExactClientNew.j0 (k + 1) y0 y1 y2 y3 y4 y5 y6 y7 y8 y9 y10 y11 y12 y13 y14)) ∧ (∀ y0 y1 y2 y3 y4 y5 y6 y7, LeO (laws_FnExactClientNew.j1 k y0 y1 y2 y3 y4 y5 y6 y7) (laws_FnExactClientNew.j1 (k + 1) y0 y1 y2 y3 y4 y5 y6 y7))
 | 0 => ⟨fun _ _ _ _ _ _ _ _ _ _ _ _ _ _ _ r h => by simp [laws_FnExactClientNew.j0] at h, fun _ _ _ _ _ _ _ _ r h => by simp [laws_FnExactClientNew.j1] at h⟩
 | k + 1 => by
  obtain ⟨ih0, ih1⟩ := laws_FnExactClientNew.mono_l k
  refine ⟨?_, ?_⟩
  ·intro y0 y1 y2 y3 y4 y5 y6 y7 y8 y9 y10 y11 y12 y13 y14
   unfold laws_FnExactClientNew.j0
   repeat' first
   | (with_reducible exact ih0 _ _ _ _ _ _ _ _ _ _ _ _ _ _ _)
   | (with_reducible exact ih1 _ _ _ _ _ _ _ _)
   | (with_reducible exact laws_eqClient.mono _ _ _ _ _ _ _ _ _ _ _ _ _)
   | (with_reducible exact laws_heldClient.mono _ _ _ _ _ _ _ _)
   | (with_reducible exact laws_markClient.mono _ _ _ _ _ _ _ _)
   | (with_reducible exact LeO.refl _)
   | (with_reducible exact LeO.none _)
   | (with_reducible refine LeO.ite ?_ ?_)
   | (with_reducible refine LeO.bind ?_ (fun _ => ?_))
   | exact ih0 _ _ _ _ _ _ _ _ _ _ _ _ _ _ _
   | exact ih1 _ _ _ _ _ _ _ _
   | exact laws_eqClient.mono _ _ _ _ _ _ _ _ _ _ _ _ _
   | exact laws_heldClient.mono _ _ _ _ _ _ _ _
   | exact laws_markClient.mono _ _ _ _ _ _ _ _
   | exact LeO.none _
   | refine LeO.ite ?_ ?_
   | refine LeO.bind ?_ (fun _ => ?_)
  ·intro y0 y1 y2 y3 y4 y5 y6 y7
   unfold laws_FnExactClientNew.j1
   repeat' first
   | (with_reducible exact ih0 _ _ _ _ _ _ _ _ _ _ _ _ _ _ _)
   | (with_reducible exact ih1 _ _ _ _ _ _ _ _)
   | (with_reducible exact laws_eqClient.mono _ _ _ _ _ _ _ _ _ _ _ _ _)
   | (with_reducible exact laws_heldClient.mono _ _ _ _ _ _ _ _)
   | (with_reducible exact laws_markClient.mono _ _ _ _ _ _ _ _)
   | (with_reducible exact LeO.refl _)
   | (with_reducible exact LeO.none _)
   | (with_reducible refine LeO.ite ?_ ?_)
   | (with_reducible refine LeO.bind ?_ (fun _ => ?_))
   | exact ih0 _ _ _ _ _ _ _ _ _ _ _ _ _ _ _
   | exact ih1 _ _ _ _ _ _ _ _
   | exact laws_eqClient.mono _ _ _ _ _ _ _ _ _ _ _ _ _
   | exact laws_heldClient.mono _ _ _ _ _ _ _ _
   | exact laws_markClient.mono _ _ _ _ _ _ _ _
   | exact LeO.none _
   | refine LeO.ite ?_ ?_
   | refine LeO.bind ?_ (fun _ => ?_)
theorem laws_FnExactClientNew.mono : ∀ a0 k, LeO (laws_FnExactClientNew.f k a0) (laws_FnExactClientNew.f (k + 1) a0) := by
 intro a0 k
 obtain ⟨ih0, ih1⟩ := laws_FnExactClientNew.mono_l k
 unfold laws_FnExactClientNew.f
 repeat' first
   | (with_reducible exact ih0 _ _ _ _ _ _ _ _ _ _ _ _ _ _ _)
   | (with_reducible exact ih1 _ _ _ _ _ _ _ _)
   | (with_reducible exact laws_eqClient.mono _ _ _ _ _ _ _ _ _ _ _ _ _)
   | (with_reducible exact laws_heldClient.mono _ _ _ _ _ _ _ _)
   | (with_reducible exact laws_markClient.mono _ _ _ _ _ _ _ _)
   | (with_reducible exact LeO.refl _)
   | (with_reducible exact LeO.none _)
   | (with_reducible refine LeO.ite ?_ ?_)
   | (with_reducible refine LeO.bind ?_ (fun _ => ?_))
   | exact ih0 _ _ _ _ _ _ _ _ _ _ _ _ _ _ _
   | exact ih1 _ _ _ _ _ _ _ _
   | exact laws_eqClient.mono _ _ _ _ _ _ _ _ _ _ _ _ _
   | exact laws_heldClient.mono _ _ _ _ _ _ _ _
   | exact laws_markClient.mono _ _ _ _ _ _ _ _
   | exact LeO.none _
   | refine LeO.ite ?_ ?_
   | refine LeO.bind ?_ (fun _ => ?_)
set_option maxHeartbeats 8000000 in
set_option maxRecDepth 100000 in
theorem laws_FnExactClientNew.calls (k : Nat) (a0 : Int) (r : Bool) (w : World) (h : laws_FnExactClientNew.f k a0 = some r) :
  Calls Try.prog 14 #[.int .i64 a0] w fun e w' => e = .returned (.bool r) ∧ Below w.heap.size w w' := by
 have hu46 := Try.underlying46
 have HB := Aside0.mk (Below.refl w.heap.size w)
 have H : ((spec_ClientNew.f a0).bind fun bt815 => ((impl_ClientNew.f a0).bind fun bt831 => ((laws_eqClient.f k bt831.1 bt831.2.1 bt831.2.2.1 bt831.2.2.2.1 bt831.2.2.2.2.1 bt831.2.2.2.2.2.1 bt815.1 bt815.2.1 bt815.2.2.1 bt815.2.2.2.1 bt815.2.2.2.2.1 bt815.2.2.2.2.2.1).bind fun t847 => (if t847 = true then (laws_FnExactClientNew.j0 k a0 bt815.2.2.2.2.2.2 (bt831.2.2.2.2.2.2 != bt815.2.2.2.2.2.2) bt815.1 bt815.2.1 bt815.2.2.1 bt815.2.2.2.1 bt815.2.2.2.2.1 bt815.2.2.2.2.2.1 bt831.1 bt831.2.1 bt831.2.2.1 bt831.2.2.2.1 bt831.2.2.2.2.1 bt831.2.2.2.2.2.1) else (laws_FnExactClientNew.j0 k a0 bt815.2.2.2.2.2.2 true bt815.1 bt815.2.1 bt815.2.2.1 bt815.2.2.2.1 bt815.2.2.2.2.1 bt815.2.2.2.2.2.1 bt831.1 bt831.2.1 bt831.2.2.1 bt831.2.2.2.1 bt831.2.2.2.2.1 bt831.2.2.2.2.2.1))))) = some r := h
 clear h
 replace H := Option.bind_eq_some_iff.mp H
 obtain ⟨⟨t815, t816, t817, t820, t823, t826, t829⟩, A20, H⟩ := H
 replace H : ((impl_ClientNew.f a0).bind fun bt831 => ((laws_eqClient.f k bt831.1 bt831.2.1 bt831.2.2.1 bt831.2.2.2.1 bt831.2.2.2.2.1 bt831.2.2.2.2.2.1 t815 t816 t817 t820 t823 t826).bind fun t847 => (if t847 = true then (laws_FnExactClientNew.j0 k a0 t829 (bt831.2.2.2.2.2.2 != t829) t815 t816 t817 t820 t823 t826 bt831.1 bt831.2.1 bt831.2.2.1 bt831.2.2.2.1 bt831.2.2.2.2.1 bt831.2.2.2.2.2.1) else (laws_FnExactClientNew.j0 k a0 t829 true t815 t816 t817 t820 t823 t826 bt831.1 bt831.2.1 bt831.2.2.1 bt831.2.2.2.1 bt831.2.2.2.2.1 bt831.2.2.2.2.2.1)))) = some r := H
 have A2 := Aside0.mk A20
 clear A20
 replace H := Option.bind_eq_some_iff.mp H
 obtain ⟨⟨t831, t832, t833, t836, t839, t842, t845⟩, A30, H⟩ := H
 replace H : ((laws_eqClient.f k t831 t832 t833 t836 t839 t842 t815 t816 t817 t820 t823 t826).bind fun t847 => (if t847 = true then (laws_FnExactClientNew.j0 k a0 t829 (t845 != t829) t815 t816 t817 t820 t823 t826 t831 t832 t833 t836 t839 t842) else (laws_FnExactClientNew.j0 k a0 t829 true t815 t816 t817 t820 t823 t826 t831 t832 t833 t836 t839 t842))) = some r := H
 have A3 := Aside0.mk A30
 clear A30
 have HC4 := Aside0.mk H
 clear H
 go_enter Try.func14, Try.ntmps14
 go_upto_region 3 with (first | ((with_reducible refine gate_callee (f := 30) rfl ?_); refine goesL_ (some 13) rfl rfl Try.func30 (by kernel_rfl) rfl #[.int .i64 a0] rfl z74x37 ?_; (with_reducible refine (spec_ClientNew.calls a0 t815 t816 t817 t820 t823 t826 t829 _ A2.out).mono ?_); rintro e w5 ⟨v818, v821, v824, v827, rfl, ho0, ho1, ho2, ho3, hb⟩; refine ⟨_, rfl, ?_⟩; have n0_ := Aside0.mk (Kd.R_lower ho0 (below_size z74x38)); have n1_ := Aside0.mk (Kd.R_lower ho1 (below_size z74x38)); have n2_ := Aside0.mk (Kd.R_lower ho2 (below_size z74x38)); have n3_ := Aside0.mk (Kd.R_lower ho3 (below_size z74x38)); have n4_ := Aside0.mk (below_step z74x38 hb); clear HB; have HO819 := n0_; have HO822 := n1_; have HO825 := n2_; have HO828 := n3_; have HB := n4_; clear n0_ n1_ n2_ n3_ n4_; (try clear hb); (try clear hb2); (try clear hk); (try clear hi); (try clear ho0); (try clear ho1); (try clear ho2); (try clear ho3)) | ((with_reducible refine gate_dst (N := 3) rfl ?_); refine box_event ?hg (N := 3) ?hd (cs := #[.int .i64 0, .int .i64 0, .slice none 0 0, .slice none 0 0, .slice none 0 0, .slice none 0 0]) (t := 46) ?hr ?_; (case hd => rfl); (case hg => rfl); (case hr => first | (go_simp; done) | (go_simp; rfl)); intro gb830 hg w6 hbox hb; have n0_ := Aside0.mk (Kd.R_below (by (with_reducible repeat (first | apply Kd.R_alloc | apply Kd.R_drewN | apply Kd.R_drew)); exact HO819.out) hb); have n1_ := Aside0.mk (Kd.R_below (by (with_reducible repeat (first | apply Kd.R_alloc | apply Kd.R_drewN | apply Kd.R_drew)); exact HO822.out) hb); have n2_ := Aside0.mk (Kd.R_below (by (with_reducible repeat (first | apply Kd.R_alloc | apply Kd.R_drewN | apply Kd.R_drew)); exact HO825.out) hb); have n3_ := Aside0.mk (Kd.R_below (by (with_reducible repeat (first | apply Kd.R_alloc | apply Kd.R_drewN | apply Kd.R_drew)); exact HO828.out) hb); have n4_ := Aside0.mk (below_step z74x38 hb); have n5_ := Aside0.mk (hbox); have n6_ := Aside0.mk ((by rw [hg]; exact (below_size z74x38) : w.heap.size ≤ gb830)); have n7_ := Aside0.mk ((by rw [hg]; exact (below_size z74x38) : w.heap.size ≤ gb830)); clear HO819; clear HO822; clear HO825; clear HO828; clear HB; have HO819 := n0_; have HO822 := n1_; have HO825 := n2_; have HO828 := n3_; have HB := n4_; have BK830 := n5_; have GW830 := n6_; have GE830 := n7_; clear n0_ n1_ n2_ n3_ n4_ n5_ n6_ n7_; clear hb hbox hg; have hcz7_0 : w6.cell? ⟨gb830, 0, none⟩ = some (.int .i64 0) := (blk_cell BK830.out 0).trans rfl; have hcz7_1 : w6.cell? ⟨gb830, 1, none⟩ = some (.int .i64 0) := (blk_cell BK830.out 1).trans rfl; have hcz7_2 : w6.cell? ⟨gb830, 2, none⟩ = some (.slice none 0 0) := (blk_cell BK830.out 2).trans rfl; have hcz7_3 : w6.cell? ⟨gb830, 3, none⟩ = some (.slice none 0 0) := (blk_cell BK830.out 3).trans rfl; have hcz7_4 : w6.cell? ⟨gb830, 4, none⟩ = some (.slice none 0 0) := (blk_cell BK830.out 4).trans rfl; have hcz7_5 : w6.cell? ⟨gb830, 5, none⟩ = some (.slice none 0 0) := (blk_cell BK830.out 5).trans rfl; have hfz7_0 := blk_frozen BK830.out 0; have hfz7_1 := blk_frozen BK830.out 1; have hfz7_2 := blk_frozen BK830.out 2; have hfz7_3 := blk_frozen BK830.out 3; have hfz7_4 := blk_frozen BK830.out 4; have hfz7_5 := blk_frozen BK830.out 5; obtain ⟨Ao8, co8, eo8⟩ := Kd.R_slice HO819.out; subst eo8; obtain ⟨Ao9, co9, eo9⟩ := Kd.R_slice HO822.out; subst eo9; obtain ⟨Ao10, co10, eo10⟩ := Kd.R_slice HO825.out; subst eo10; obtain ⟨Ao11, co11, eo11⟩ := Kd.R_slice HO828.out; subst eo11) | ((with_reducible refine gate_callee (f := 31) rfl ?_); refine goesL_ (some 18) rfl rfl Try.func31 (by kernel_rfl) rfl #[.int .i64 a0] rfl z74x37 ?_; (with_reducible refine (impl_ClientNew.calls a0 t831 t832 t833 t836 t839 t842 t845 _ A3.out).mono ?_); rintro e w12 ⟨v834, v837, v840, v843, rfl, ho0, ho1, ho2, ho3, hb⟩; refine ⟨_, rfl, ?_⟩; have n0_ := Aside0.mk (Kd.R_elder' z74x25 (Kd.R_base ho0) hb); have n1_ := Aside0.mk (Kd.R_elder' z74x26 (Kd.R_base ho1) hb); have n2_ := Aside0.mk (Kd.R_mono (Kd.R_told (Kd.R_told (Kd.R_old z74x27 hb) (Kd.R_base ho2)) (Kd.R_base ho3)) (fun _ h_ => h_.1)); have n3_ := Aside0.mk (Kd.R_mono (Kd.R_told (Kd.R_told (Kd.R_old z74x28 hb) (Kd.R_base ho2)) (Kd.R_base ho3)) (fun _ h_ => h_.1)); have n4_ := Aside0.mk (Kd.R_lower (Kd.R_new' ho0 (Kd.R_lt z74x25)) (below_size z74x36)); have n5_ := Aside0.mk (Kd.R_lower (Kd.R_new' ho1 (Kd.R_lt z74x26)) (below_size z74x36)); have n6_ := Aside0.mk (Kd.R_lower (Kd.R_new' (Kd.R_new' ho2 (Kd.R_lt z74x27)) (Kd.R_lt z74x28)) (below_size z74x36)); have n7_ := Aside0.mk (Kd.R_lower (Kd.R_new' (Kd.R_new' ho3 (Kd.R_lt z74x27)) (Kd.R_lt z74x28)) (below_size z74x36)); have n8_ := Aside0.mk (blk_below (g := gb830) (o := .cells #[.int .i64 t815, .int .i64 t816, .slice Ao8 t817.length co8, .slice Ao9 t820.length co9, .slice Ao10 t823.length co10, .slice Ao11 t826.length co11] 46 (0, 0)) (by (with_reducible repeat (first | refine blk_drewN ?_ _ | refine blk_drew ?_ | refine blk_alloc ?_ _)); refine blk_put (cs := #[.int .i64 t815, .int .i64 t816, .slice Ao8 t817.length co8, .slice Ao9 t820.length co9, .slice Ao10 t823.length co10, .slice none 0 0]) ?_ 5 _ rfl; (with_reducible repeat (first | refine blk_drewN ?_ _ | refine blk_drew ?_ | refine blk_alloc ?_ _)); refine blk_put (cs := #[.int .i64 t815, .int .i64 t816, .slice Ao8 t817.length co8, .slice Ao9 t820.length co9, .slice none 0 0, .slice none 0 0]) ?_ 4 _ rfl; (with_reducible repeat (first | refine blk_drewN ?_ _ | refine blk_drew ?_ | refine blk_alloc ?_ _)); refine blk_put (cs := #[.int .i64 t815, .int .i64 t816, .slice Ao8 t817.length co8, .slice none 0 0, .slice none 0 0, .slice none 0 0]) ?_ 3 _ rfl; (with_reducible repeat (first | refine blk_drewN ?_ _ | refine blk_drew ?_ | refine blk_alloc ?_ _)); refine blk_put (cs := #[.int .i64 t815, .int .i64 t816, .slice none 0 0, .slice none 0 0, .slice none 0 0, .slice none 0 0]) ?_ 2 _ rfl; (with_reducible repeat (first | refine blk_drewN ?_ _ | refine blk_drew ?_ | refine blk_alloc ?_ _)); refine blk_put (cs := #[.int .i64 t815, .int .i64 0, .slice none 0 0, .slice none 0 0, .slice none 0 0, .slice none 0 0]) ?_ 1 _ rfl; (with_reducible repeat (first | refine blk_drewN ?_ _ | refine blk_drew ?_ | refine blk_alloc ?_ _)); refine blk_put (cs := #[.int .i64 0, .int .i64 0, .slice none 0 0, .slice none 0 0, .slice none 0 0, .slice none 0 0]) ?_ 0 _ rfl; (with_reducible repeat (first | refine blk_drewN ?_ _ | refine blk_drew ?_ | refine blk_alloc ?_ _)); exact BK830.out) hb); have n9_ := Aside0.mk (below_step z74x36 hb); clear HO819; clear HO822; clear HO825; clear HO828; clear BK830; clear HB; have HO819 := n0_; have HO822 := n1_; have HO825 := n2_; have HO828 := n3_; have HO835 := n4_; have HO838 := n5_; have HO841 := n6_; have HO844 := n7_; have BK830 := n8_; have HB := n9_; clear n0_ n1_ n2_ n3_ n4_ n5_ n6_ n7_ n8_ n9_; (try clear hb); (try clear hb2); (try clear hk); (try clear hi); (try clear ho0); (try clear ho1); (try clear ho2); (try clear ho3)) | ((with_reducible refine gate_dst (N := 5) rfl ?_); refine box_event ?hg (N := 5) ?hd (cs := #[.int .i64 0, .int .i64 0, .slice none 0 0, .slice none 0 0, .slice none 0 0, .slice none 0 0]) (t := 46) ?hr ?_; (case hd => rfl); (case hg => rfl); (case hr => first | (go_simp; done) | (go_simp; rfl)); intro gb846 hg w13 hbox hb; have n0_ := Aside0.mk (Kd.R_below (by (with_reducible repeat (first | apply Kd.R_alloc | apply Kd.R_drewN | apply Kd.R_drew)); exact HO819.out) hb); have n1_ := Aside0.mk (Kd.R_below (by (with_reducible repeat (first | apply Kd.R_alloc | apply Kd.R_drewN | apply Kd.R_drew)); exact HO822.out) hb); have n2_ := Aside0.mk (Kd.R_below (by (with_reducible repeat (first | apply Kd.R_alloc | apply Kd.R_drewN | apply Kd.R_drew)); exact HO825.out) hb); have n3_ := Aside0.mk (Kd.R_below (by (with_reducible repeat (first | apply Kd.R_alloc | apply Kd.R_drewN | apply Kd.R_drew)); exact HO828.out) hb); have n4_ := Aside0.mk (Kd.R_below (by (with_reducible repeat (first | apply Kd.R_alloc | apply Kd.R_drewN | apply Kd.R_drew)); exact HO835.out) hb); have n5_ := Aside0.mk (Kd.R_below (by (with_reducible repeat (first | apply Kd.R_alloc | apply Kd.R_drewN | apply Kd.R_drew)); exact HO838.out) hb); have n6_ := Aside0.mk (Kd.R_below (by (with_reducible repeat (first | apply Kd.R_alloc | apply Kd.R_drewN | apply Kd.R_drew)); exact HO841.out) hb); have n7_ := Aside0.mk (Kd.R_below (by (with_reducible repeat (first | apply Kd.R_alloc | apply Kd.R_drewN | apply Kd.R_drew)); exact HO844.out) hb); have n8_ := Aside0.mk (blk_below (g := gb830) (o := .cells #[.int .i64 t815, .int .i64 t816, .slice Ao8 t817.length co8, .slice Ao9 t820.length co9, .slice Ao10 t823.length co10, .slice Ao11 t826.length co11] 46 (0, 0)) z74x39 hb); have n9_ := Aside0.mk (below_step z74x36 hb); have n10_ := Aside0.mk (hbox); have n11_ := Aside0.mk ((z74x35 : w.heap.size ≤ gb846)); have n12_ := Aside0.mk ((z74x35 : w.heap.size ≤ gb846)); have n13_ := Aside0.mk ((z74x31 : gb830 ≠ gb846)); have n14_ := Aside0.mk ((z74x30 : gb846 ≠ gb830)); clear HO819; clear HO822; clear HO825; clear HO828; clear HO835; clear HO838; clear HO841; clear HO844; clear BK830; clear HB; have HO819 := n0_; have HO822 := n1_; have HO825 := n2_; have HO828 := n3_; have HO835 := n4_; have HO838 := n5_; have HO841 := n6_; have HO844 := n7_; have BK830 := n8_; have HB := n9_; have BK846 := n10_; have GW846 := n11_; have GE846 := n12_; have NB830_846 := n13_; have NB846_830 := n14_; clear n0_ n1_ n2_ n3_ n4_ n5_ n6_ n7_ n8_ n9_ n10_ n11_ n12_ n13_ n14_; clear hb hbox hg; have hnb14 := NB846_830.out; have hnc14 := NB830_846.out; have hcz15_0 : w13.cell? ⟨gb846, 0, none⟩ = some (.int .i64 0) := (blk_cell BK846.out 0).trans rfl; have hcz15_1 : w13.cell? ⟨gb846, 1, none⟩ = some (.int .i64 0) := (blk_cell BK846.out 1).trans rfl; have hcz15_2 : w13.cell? ⟨gb846, 2, none⟩ = some (.slice none 0 0) := (blk_cell BK846.out 2).trans rfl; have hcz15_3 : w13.cell? ⟨gb846, 3, none⟩ = some (.slice none 0 0) := (blk_cell BK846.out 3).trans rfl; have hcz15_4 : w13.cell? ⟨gb846, 4, none⟩ = some (.slice none 0 0) := (blk_cell BK846.out 4).trans rfl; have hcz15_5 : w13.cell? ⟨gb846, 5, none⟩ = some (.slice none 0 0) := (blk_cell BK846.out 5).trans rfl; have hfz15_0 := blk_frozen BK846.out 0; have hfz15_1 := blk_frozen BK846.out 1; have hfz15_2 := blk_frozen BK846.out 2; have hfz15_3 := blk_frozen BK846.out 3; have hfz15_4 := blk_frozen BK846.out 4; have hfz15_5 := blk_frozen BK846.out 5; obtain ⟨Ao16, co16, eo16⟩ := Kd.R_slice HO835.out; subst eo16; obtain ⟨Ao17, co17, eo17⟩ := Kd.R_slice HO838.out; subst eo17; obtain ⟨Ao18, co18, eo18⟩ := Kd.R_slice HO841.out; subst eo18; obtain ⟨Ao19, co19, eo19⟩ := Kd.R_slice HO844.out; subst eo19))
 (try simp only [Act.put, List.setIfInBounds_toArray, List.set_cons_zero, List.set_cons_succ])
 go_cut [29] (fun v29 wc => ∃ (kq : Nat) (x29_3 : Bool), v29 = .bool x29_3 ∧ Aside0 (laws_FnExactClientNew.j0 kq a0 t829 x29_3 t815 t816 t817 t820 t823 t826 t831 t832 t833 t836 t839 t842 = some r) ∧ Aside0 (kq ≤ k) ∧ Aside0 (Kd.R k117 117 wc w.heap.size (fun k_ => some k_ ≠ ((.slice Ao16 t833.length co16) : Value).ownBlock) (.slice Ao8 t817.length co8) t817) ∧ Aside0 (Kd.R k119 119 wc w.heap.size (fun k_ => some k_ ≠ ((.slice Ao17 t836.length co17) : Value).ownBlock) (.slice Ao9 t820.length co9) t820) ∧ Aside0 (Kd.R k125 125 wc w.heap.size (fun k_ => some k_ ≠ ((.slice Ao11 t826.length co11) : Value).ownBlock ∧ some k_ ≠ ((.slice Ao18 t839.length co18) : Value).ownBlock ∧ some k_ ≠ ((.slice Ao19 t842.length co19) : Value).ownBlock) (.slice Ao10 t823.length co10) t823) ∧ Aside0 (Kd.R k125 125 wc w.heap.size (fun k_ => some k_ ≠ ((.slice Ao10 t823.length co10) : Value).ownBlock ∧ some k_ ≠ ((.slice Ao18 t839.length co18) : Value).ownBlock ∧ some k_ ≠ ((.slice Ao19 t842.length co19) : Value).ownBlock) (.slice Ao11 t826.length co11) t826) ∧ Aside0 (Kd.R k117 117 wc w.heap.size (fun k_ => some k_ ≠ ((.slice Ao8 t817.length co8) : Value).ownBlock) (.slice Ao16 t833.length co16) t833) ∧ Aside0 (Kd.R k119 119 wc w.heap.size (fun k_ => some k_ ≠ ((.slice Ao9 t820.length co9) : Value).ownBlock) (.slice Ao17 t836.length co17) t836) ∧ Aside0 (Kd.R k125 125 wc w.heap.size (fun k_ => some k_ ≠ ((.slice Ao10 t823.length co10) : Value).ownBlock ∧ some k_ ≠ ((.slice Ao11 t826.length co11) : Value).ownBlock ∧ some k_ ≠ ((.slice Ao19 t842.length co19) : Value).ownBlock) (.slice Ao18 t839.length co18) t839) ∧ Aside0 (Kd.R k125 125 wc w.heap.size (fun k_ => some k_ ≠ ((.slice Ao10 t823.length co10) : Value).ownBlock ∧ some k_ ≠ ((.slice Ao11 t826.length co11) : Value).ownBlock ∧ some k_ ≠ ((.slice Ao18 t839.length co18) : Value).ownBlock) (.slice Ao19 t842.length co19) t842) ∧ Aside0 (wc.heap[gb830]? = some (.cells #[.int .i64 t815, .int .i64 t816, (.slice Ao8 t817.length co8), (.slice Ao9 t820.length co9), (.slice Ao10 t823.length co10), (.slice Ao11 t826.length co11)] 46 (0, 0))) ∧ Aside0 (wc.heap[gb846]? = some (.cells #[.int .i64 t831, .int .i64 t832, (.slice Ao16 t833.length co16), (.slice Ao17 t836.length co17), (.slice Ao18 t839.length co18), (.slice Ao19 t842.length co19)] 46 (0, 0))) ∧ Aside0 (Below w.heap.size w wc))
 case first =>
  have H := HC4.out
  clear HC4
  replace H := Option.bind_eq_some_iff.mp H
  obtain ⟨t847, A200, H⟩ := H
  replace H : (if t847 = true then (laws_FnExactClientNew.j0 k a0 t829 (t845 != t829) t815 t816 t817 t820 t823 t826 t831 t832 t833 t836 t839 t842) else (laws_FnExactClientNew.j0 k a0 t829 true t815 t816 t817 t820 t823 t826 t831 t832 t833 t836 t839 t842)) = some r := H
  have A20 := Aside0.mk A200
  clear A200
  by_cases c21 : t847 = true
  ·subst c21
   rw [if_pos rfl] at H
   have H' := Aside0.mk H
   clear H
   have hnb22 := NB846_830.out
   have hnc22 := NB830_846.out
   have hcz23_0 : w13.cell? ⟨gb846, 0, none⟩ = some (.int .i64 0) := (blk_cell BK846.out 0).trans rfl
   have hcz23_1 : w13.cell? ⟨gb846, 1, none⟩ = some (.int .i64 0) := (blk_cell BK846.out 1).trans rfl
   have hcz23_2 : w13.cell? ⟨gb846, 2, none⟩ = some (.slice none 0 0) := (blk_cell BK846.out 2).trans rfl
   have hcz23_3 : w13.cell? ⟨gb846, 3, none⟩ = some (.slice none 0 0) := (blk_cell BK846.out 3).trans rfl
   have hcz23_4 : w13.cell? ⟨gb846, 4, none⟩ = some (.slice none 0 0) := (blk_cell BK846.out 4).trans rfl
   have hcz23_5 : w13.cell? ⟨gb846, 5, none⟩ = some (.slice none 0 0) := (blk_cell BK846.out 5).trans rfl
   have hfz23_0 := blk_frozen BK846.out 0
   have hfz23_1 := blk_frozen BK846.out 1
   have hfz23_2 := blk_frozen BK846.out 2
   have hfz23_3 := blk_frozen BK846.out 3
   have hfz23_4 := blk_frozen BK846.out 4
   have hfz23_5 := blk_frozen BK846.out 5
   have hcz24_0 : w13.cell? ⟨gb830, 0, none⟩ = some (.int .i64 t815) := (blk_cell BK830.out 0).trans rfl
   have hcz24_1 : w13.cell? ⟨gb830, 1, none⟩ = some (.int .i64 t816) := (blk_cell BK830.out 1).trans rfl
   have hcz24_2 : w13.cell? ⟨gb830, 2, none⟩ = some (.slice Ao8 t817.length co8) := (blk_cell BK830.out 2).trans rfl
   have hcz24_3 : w13.cell? ⟨gb830, 3, none⟩ = some (.slice Ao9 t820.length co9) := (blk_cell BK830.out 3).trans rfl
   have hcz24_4 : w13.cell? ⟨gb830, 4, none⟩ = some (.slice Ao10 t823.length co10) := (blk_cell BK830.out 4).trans rfl
   have hcz24_5 : w13.cell? ⟨gb830, 5, none⟩ = some (.slice Ao11 t826.length co11) := (blk_cell BK830.out 5).trans rfl
   have hfz24_0 := blk_frozen BK830.out 0
   have hfz24_1 := blk_frozen BK830.out 1
   have hfz24_2 := blk_frozen BK830.out 2
   have hfz24_3 := blk_frozen BK830.out 3
   have hfz24_4 := blk_frozen BK830.out 4
   have hfz24_5 := blk_frozen BK830.out 5
   go_wp2_with (first | ((with_reducible refine gate_callee (f := 51) rfl ?_); refine goesL_ (some 23) rfl rfl Try.func51 (by kernel_rfl) rfl #[.agg #[.int .i64 t831, .int .i64 t832, .slice Ao16 t833.length co16, .slice Ao17 t836.length co17, .slice Ao18 t839.length co18, .slice Ao19 t842.length co19], .agg #[.int .i64 t815, .int .i64 t816, .slice Ao8 t817.length co8, .slice Ao9 t820.length co9, .slice Ao10 t823.length co10, .slice Ao11 t826.length co11]] rfl z74x37 ?_; (with_reducible refine (laws_eqClient.calls k t831 t832 _ _ t833 _ _ t836 _ _ t839 _ _ t842 t815 t816 _ _ t817 _ _ t820 _ _ t823 _ _ t826 true _ ?side1 ?side2 ?side3 ?side4 ?side5 ?side6 ?side7 ?side8 ?side9 ?side10 ?side11 ?side12 ?side13 ?side14 ?side15 ?side16 A20.out).mono ?_); (case side1 => refine (Kd.R_reads' (e := 117) (base := w.heap.size) (ok := fun k_ => (True ∧ some k_ ≠ (.slice Ao8 t817.length co8 : Value).ownBlock)) (n := t833.length) (c := co16) ?_).2.2; exact z74x17); (case side2 => exact (Kd.R_reads' HO835.out).2.1); (case side3 => refine (Kd.R_reads' (e := 119) (base := w.heap.size) (ok := fun k_ => (True ∧ some k_ ≠ (.slice Ao9 t820.length co9 : Value).ownBlock)) (n := t836.length) (c := co17) ?_).2.2; exact z74x18); (case side4 => exact (Kd.R_reads' HO838.out).2.1); (case side5 => refine (Kd.R_reads' (e := 125) (base := w.heap.size) (ok := fun k_ => ((some k_ ≠ (.slice Ao19 t842.length co19 : Value).ownBlock ∧ some k_ ≠ (.slice Ao10 t823.length co10 : Value).ownBlock) ∧ some k_ ≠ (.slice Ao11 t826.length co11 : Value).ownBlock)) (n := t839.length) (c := co18) ?_).2.2; exact z74x19); (case side6 => exact (Kd.R_reads' HO841.out).2.1); (case side7 => refine (Kd.R_reads' (e := 125) (base := w.heap.size) (ok := fun k_ => ((some k_ ≠ (.slice Ao18 t839.length co18 : Value).ownBlock ∧ some k_ ≠ (.slice Ao10 t823.length co10 : Value).ownBlock) ∧ some k_ ≠ (.slice Ao11 t826.length co11 : Value).ownBlock)) (n := t842.length) (c := co19) ?_).2.2; exact z74x20); (case side8 => exact (Kd.R_reads' HO844.out).2.1); (case side9 => refine (Kd.R_reads' (e := 117) (base := w.heap.size) (ok := fun k_ => (True ∧ some k_ ≠ (.slice Ao16 t833.length co16 : Value).ownBlock)) (n := t817.length) (c := co8) ?_).2.2; exact z74x13); (case side10 => exact (Kd.R_reads' HO819.out).2.1); (case side11 => refine (Kd.R_reads' (e := 119) (base := w.heap.size) (ok := fun k_ => (True ∧ some k_ ≠ (.slice Ao17 t836.length co17 : Value).ownBlock)) (n := t820.length) (c := co9) ?_).2.2; exact z74x14); (case side12 => exact (Kd.R_reads' HO822.out).2.1); (case side13 => refine (Kd.R_reads' (e := 125) (base := w.heap.size) (ok := fun k_ => ((some k_ ≠ (.slice Ao11 t826.length co11 : Value).ownBlock ∧ some k_ ≠ (.slice Ao18 t839.length co18 : Value).ownBlock) ∧ some k_ ≠ (.slice Ao19 t842.length co19 : Value).ownBlock)) (n := t823.length) (c := co10) ?_).2.2; exact z74x15); (case side14 => exact (Kd.R_reads' HO825.out).2.1); (case side15 => refine (Kd.R_reads' (e := 125) (base := w.heap.size) (ok := fun k_ => ((some k_ ≠ (.slice Ao10 t823.length co10 : Value).ownBlock ∧ some k_ ≠ (.slice Ao18 t839.length co18 : Value).ownBlock) ∧ some k_ ≠ (.slice Ao19 t842.length co19 : Value).ownBlock)) (n := t826.length) (c := co11) ?_).2.2; exact z74x16); (case side16 => exact (Kd.R_reads' HO828.out).2.1); rintro e w25 ⟨rfl, hb⟩; refine ⟨_, rfl, ?_⟩; have n0_ := Aside0.mk (Kd.R_below z74x13 hb); have n1_ := Aside0.mk (Kd.R_below z74x14 hb); have n2_ := Aside0.mk (Kd.R_below z74x15 hb); have n3_ := Aside0.mk (Kd.R_below z74x16 hb); have n4_ := Aside0.mk (Kd.R_below z74x17 hb); have n5_ := Aside0.mk (Kd.R_below z74x18 hb); have n6_ := Aside0.mk (Kd.R_below z74x19 hb); have n7_ := Aside0.mk (Kd.R_below z74x20 hb); have n8_ := Aside0.mk (blk_below (g := gb830) (o := .cells #[.int .i64 t815, .int .i64 t816, .slice Ao8 t817.length co8, .slice Ao9 t820.length co9, .slice Ao10 t823.length co10, .slice Ao11 t826.length co11] 46 (0, 0)) z74x2 hb); have n9_ := Aside0.mk (blk_below (g := gb846) (o := .cells #[.int .i64 t831, .int .i64 t832, .slice Ao16 t833.length co16, .slice Ao17 t836.length co17, .slice Ao18 t839.length co18, .slice Ao19 t842.length co19] 46 (0, 0)) z74x0 hb); have n10_ := Aside0.mk (below_step z74x34 hb); clear HO819; clear HO822; clear HO825; clear HO828; clear HO835; clear HO838; clear HO841; clear HO844; clear BK830; clear BK846; clear HB; have HO819 := n0_; have HO822 := n1_; have HO825 := n2_; have HO828 := n3_; have HO835 := n4_; have HO838 := n5_; have HO841 := n6_; have HO844 := n7_; have BK830 := n8_; have BK846 := n9_; have HB := n10_; clear n0_ n1_ n2_ n3_ n4_ n5_ n6_ n7_ n8_ n9_ n10_; (try clear hb); (try clear hb2); (try clear hk); (try clear hi)))
   go_meet
   case rel => exact ⟨_, ((t845 != t829)), (by first | rfl | (simp; done) | (simp [*]; done)), H', ⟨by first | omega | exact Nat.le_refl _⟩, ⟨by (with_reducible repeat (first | apply Kd.R_alloc | apply Kd.R_drewN | apply Kd.R_drew)); exact Kd.R_mono HO819.out (fun _ hk => hk.2)⟩, ⟨by (with_reducible repeat (first | apply Kd.R_alloc | apply Kd.R_drewN | apply Kd.R_drew)); exact Kd.R_mono HO822.out (fun _ hk => hk.2)⟩, ⟨by (with_reducible repeat (first | apply Kd.R_alloc | apply Kd.R_drewN | apply Kd.R_drew)); exact Kd.R_mono HO825.out (fun _ hk => ⟨hk.1.1, ⟨hk.1.2, hk.2⟩⟩)⟩, ⟨by (with_reducible repeat (first | apply Kd.R_alloc | apply Kd.R_drewN | apply Kd.R_drew)); exact Kd.R_mono HO828.out (fun _ hk => ⟨hk.1.1, ⟨hk.1.2, hk.2⟩⟩)⟩, ⟨by (with_reducible repeat (first | apply Kd.R_alloc | apply Kd.R_drewN | apply Kd.R_drew)); exact Kd.R_mono HO835.out (fun _ hk => hk.2)⟩, ⟨by (with_reducible repeat (first | apply Kd.R_alloc | apply Kd.R_drewN | apply Kd.R_drew)); exact Kd.R_mono HO838.out (fun _ hk => hk.2)⟩, ⟨by (with_reducible repeat (first | apply Kd.R_alloc | apply Kd.R_drewN | apply Kd.R_drew)); exact Kd.R_mono HO841.out (fun _ hk => ⟨hk.1.2, ⟨hk.2, hk.1.1⟩⟩)⟩, ⟨by (with_reducible repeat (first | apply Kd.R_alloc | apply Kd.R_drewN | apply Kd.R_drew)); exact Kd.R_mono HO844.out (fun _ hk => ⟨hk.1.2, ⟨hk.2, hk.1.1⟩⟩)⟩, ⟨by (with_reducible repeat (first | refine blk_drewN ?_ _ | refine blk_drew ?_ | refine blk_alloc ?_ _)); exact BK830.out⟩, ⟨by (with_reducible repeat (first | refine blk_drewN ?_ _ | refine blk_drew ?_ | refine blk_alloc ?_ _)); exact BK846.out⟩, ⟨by repeat (first | (with_reducible first | exact HB.out | apply below_alloc | apply pw_below_drewN | apply below_drew1 | refine below_set ?_ GE830.out | refine below_set ?_ GE846.out) | exact HB.out)⟩⟩
  ·replace c21 := Bool.eq_false_iff.mpr c21
   subst c21
   rw [if_neg (show ¬ (false = true) by decide)] at H
   have H' := Aside0.mk H
   clear H
   have hnb26 := NB846_830.out
   have hnc26 := NB830_846.out
   have hcz27_0 : w13.cell? ⟨gb846, 0, none⟩ = some (.int .i64 0) := (blk_cell BK846.out 0).trans rfl
   have hcz27_1 : w13.cell? ⟨gb846, 1, none⟩ = some (.int .i64 0) := (blk_cell BK846.out 1).trans rfl
   have hcz27_2 : w13.cell? ⟨gb846, 2, none⟩ = some (.slice none 0 0) := (blk_cell BK846.out 2).trans rfl
   have hcz27_3 : w13.cell? ⟨gb846, 3, none⟩ = some (.slice none 0 0) := (blk_cell BK846.out 3).trans rfl
   have hcz27_4 : w13.cell? ⟨gb846, 4, none⟩ = some (.slice none 0 0) := (blk_cell BK846.out 4).trans rfl
   have hcz27_5 : w13.cell? ⟨gb846, 5, none⟩ = some (.slice none 0 0) := (blk_cell BK846.out 5).trans rfl
   have hfz27_0 := blk_frozen BK846.out 0
   have hfz27_1 := blk_frozen BK846.out 1
   have hfz27_2 := blk_frozen BK846.out 2
   have hfz27_3 := blk_frozen BK846.out 3
   have hfz27_4 := blk_frozen BK846.out 4
   have hfz27_5 := blk_frozen BK846.out 5
   have hcz28_0 : w13.cell? ⟨gb830, 0, none⟩ = some (.int .i64 t815) := (blk_cell BK830.out 0).trans rfl
   have hcz28_1 : w13.cell? ⟨gb830, 1, none⟩ = some (.int .i64 t816) := (blk_cell BK830.out 1).trans rfl
   have hcz28_2 : w13.cell? ⟨gb830, 2, none⟩ = some (.slice Ao8 t817.length co8) := (blk_cell BK830.out 2).trans rfl
   have hcz28_3 : w13.cell? ⟨gb830, 3, none⟩ = some (.slice Ao9 t820.length co9) := (blk_cell BK830.out 3).trans rfl
   have hcz28_4 : w13.cell? ⟨gb830, 4, none⟩ = some (.slice Ao10 t823.length co10) := (blk_cell BK830.out 4).trans rfl
   have hcz28_5 : w13.cell? ⟨gb830, 5, none⟩ = some (.slice Ao11 t826.length co11) := (blk_cell BK830.out 5).trans rfl
   have hfz28_0 := blk_frozen BK830.out 0
   have hfz28_1 := blk_frozen BK830.out 1
   have hfz28_2 := blk_frozen BK830.out 2
   have hfz28_3 := blk_frozen BK830.out 3
   have hfz28_4 := blk_frozen BK830.out 4
   have hfz28_5 := blk_frozen BK830.out 5
   go_wp2_with (first | ((with_reducible refine gate_callee (f := 51) rfl ?_); refine goesL_ (some 23) rfl rfl Try.func51 (by kernel_rfl) rfl #[.agg #[.int .i64 t831, .int .i64 t832, .slice Ao16 t833.length co16, .slice Ao17 t836.length co17, .slice Ao18 t839.length co18, .slice Ao19 t842.length co19], .agg #[.int .i64 t815, .int .i64 t816, .slice Ao8 t817.length co8, .slice Ao9 t820.length co9, .slice Ao10 t823.length co10, .slice Ao11 t826.length co11]] rfl z74x37 ?_; (with_reducible refine (laws_eqClient.calls k t831 t832 _ _ t833 _ _ t836 _ _ t839 _ _ t842 t815 t816 _ _ t817 _ _ t820 _ _ t823 _ _ t826 false _ ?side1 ?side2 ?side3 ?side4 ?side5 ?side6 ?side7 ?side8 ?side9 ?side10 ?side11 ?side12 ?side13 ?side14 ?side15 ?side16 A20.out).mono ?_); (case side1 => refine (Kd.R_reads' (e := 117) (base := w.heap.size) (ok := fun k_ => (True ∧ some k_ ≠ (.slice Ao8 t817.length co8 : Value).ownBlock)) (n := t833.length) (c := co16) ?_).2.2; exact z74x17); (case side2 => exact (Kd.R_reads' HO835.out).2.1); (case side3 => refine (Kd.R_reads' (e := 119) (base := w.heap.size) (ok := fun k_ => (True ∧ some k_ ≠ (.slice Ao9 t820.length co9 : Value).ownBlock)) (n := t836.length) (c := co17) ?_).2.2; exact z74x18); (case side4 => exact (Kd.R_reads' HO838.out).2.1); (case side5 => refine (Kd.R_reads' (e := 125) (base := w.heap.size) (ok := fun k_ => ((some k_ ≠ (.slice Ao19 t842.length co19 : Value).ownBlock ∧ some k_ ≠ (.slice Ao10 t823.length co10 : Value).ownBlock) ∧ some k_ ≠ (.slice Ao11 t826.length co11 : Value).ownBlock)) (n := t839.length) (c := co18) ?_).2.2; exact z74x19); (case side6 => exact (Kd.R_reads' HO841.out).2.1); (case side7 => refine (Kd.R_reads' (e := 125) (base := w.heap.size) (ok := fun k_ => ((some k_ ≠ (.slice Ao18 t839.length co18 : Value).ownBlock ∧ some k_ ≠ (.slice Ao10 t823.length co10 : Value).ownBlock) ∧ some k_ ≠ (.slice Ao11 t826.length co11 : Value).ownBlock)) (n := t842.length) (c := co19) ?_).2.2; exact z74x20); (case side8 => exact (Kd.R_reads' HO844.out).2.1); (case side9 => refine (Kd.R_reads' (e := 117) (base := w.heap.size) (ok := fun k_ => (True ∧ some k_ ≠ (.slice Ao16 t833.length co16 : Value).ownBlock)) (n := t817.length) (c := co8) ?_).2.2; exact z74x13); (case side10 => exact (Kd.R_reads' HO819.out).2.1); (case side11 => refine (Kd.R_reads' (e := 119) (base := w.heap.size) (ok := fun k_ => (True ∧ some k_ ≠ (.slice Ao17 t836.length co17 : Value).ownBlock)) (n := t820.length) (c := co9) ?_).2.2; exact z74x14); (case side12 => exact (Kd.R_reads' HO822.out).2.1); (case side13 => refine (Kd.R_reads' (e := 125) (base := w.heap.size) (ok := fun k_ => ((some k_ ≠ (.slice Ao11 t826.length co11 : Value).ownBlock ∧ some k_ ≠ (.slice Ao18 t839.length co18 : Value).ownBlock) ∧ some k_ ≠ (.slice Ao19 t842.length co19 : Value).ownBlock)) (n := t823.length) (c := co10) ?_).2.2; exact z74x15); (case side14 => exact (Kd.R_reads' HO825.out).2.1); (case side15 => refine (Kd.R_reads' (e := 125) (base := w.heap.size) (ok := fun k_ => ((some k_ ≠ (.slice Ao10 t823.length co10 : Value).ownBlock ∧ some k_ ≠ (.slice Ao18 t839.length co18 : Value).ownBlock) ∧ some k_ ≠ (.slice Ao19 t842.length co19 : Value).ownBlock)) (n := t826.length) (c := co11) ?_).2.2; exact z74x16); (case side16 => exact (Kd.R_reads' HO828.out).2.1); rintro e w29 ⟨rfl, hb⟩; refine ⟨_, rfl, ?_⟩; have n0_ := Aside0.mk (Kd.R_below z74x13 hb); have n1_ := Aside0.mk (Kd.R_below z74x14 hb); have n2_ := Aside0.mk (Kd.R_below z74x15 hb); have n3_ := Aside0.mk (Kd.R_below z74x16 hb); have n4_ := Aside0.mk (Kd.R_below z74x17 hb); have n5_ := Aside0.mk (Kd.R_below z74x18 hb); have n6_ := Aside0.mk (Kd.R_below z74x19 hb); have n7_ := Aside0.mk (Kd.R_below z74x20 hb); have n8_ := Aside0.mk (blk_below (g := gb830) (o := .cells #[.int .i64 t815, .int .i64 t816, .slice Ao8 t817.length co8, .slice Ao9 t820.length co9, .slice Ao10 t823.length co10, .slice Ao11 t826.length co11] 46 (0, 0)) z74x2 hb); have n9_ := Aside0.mk (blk_below (g := gb846) (o := .cells #[.int .i64 t831, .int .i64 t832, .slice Ao16 t833.length co16, .slice Ao17 t836.length co17, .slice Ao18 t839.length co18, .slice Ao19 t842.length co19] 46 (0, 0)) z74x0 hb); have n10_ := Aside0.mk (below_step z74x34 hb); clear HO819; clear HO822; clear HO825; clear HO828; clear HO835; clear HO838; clear HO841; clear HO844; clear BK830; clear BK846; clear HB; have HO819 := n0_; have HO822 := n1_; have HO825 := n2_; have HO828 := n3_; have HO835 := n4_; have HO838 := n5_; have HO841 := n6_; have HO844 := n7_; have BK830 := n8_; have BK846 := n9_; have HB := n10_; clear n0_ n1_ n2_ n3_ n4_ n5_ n6_ n7_ n8_ n9_ n10_; (try clear hb); (try clear hb2); (try clear hk); (try clear hi)))
   go_meet
   case rel => exact ⟨_, (true), (by first | rfl | (simp; done) | (simp [*]; done)), H', ⟨by first | omega | exact Nat.le_refl _⟩, ⟨by (with_reducible repeat (first | apply Kd.R_alloc | apply Kd.R_drewN | apply Kd.R_drew)); exact Kd.R_mono HO819.out (fun _ hk => hk.2)⟩, ⟨by (with_reducible repeat (first | apply Kd.R_alloc | apply Kd.R_drewN | apply Kd.R_drew)); exact Kd.R_mono HO822.out (fun _ hk => hk.2)⟩, ⟨by (with_reducible repeat (first | apply Kd.R_alloc | apply Kd.R_drewN | apply Kd.R_drew)); exact Kd.R_mono HO825.out (fun _ hk => ⟨hk.1.1, ⟨hk.1.2, hk.2⟩⟩)⟩, ⟨by (with_reducible repeat (first | apply Kd.R_alloc | apply Kd.R_drewN | apply Kd.R_drew)); exact Kd.R_mono HO828.out (fun _ hk => ⟨hk.1.1, ⟨hk.1.2, hk.2⟩⟩)⟩, ⟨by (with_reducible repeat (first | apply Kd.R_alloc | apply Kd.R_drewN | apply Kd.R_drew)); exact Kd.R_mono HO835.out (fun _ hk => hk.2)⟩, ⟨by (with_reducible repeat (first | apply Kd.R_alloc | apply Kd.R_drewN | apply Kd.R_drew)); exact Kd.R_mono HO838.out (fun _ hk => hk.2)⟩, ⟨by (with_reducible repeat (first | apply Kd.R_alloc | apply Kd.R_drewN | apply Kd.R_drew)); exact Kd.R_mono HO841.out (fun _ hk => ⟨hk.1.2, ⟨hk.2, hk.1.1⟩⟩)⟩, ⟨by (with_reducible repeat (first | apply Kd.R_alloc | apply Kd.R_drewN | apply Kd.R_drew)); exact Kd.R_mono HO844.out (fun _ hk => ⟨hk.1.2, ⟨hk.2, hk.1.1⟩⟩)⟩, ⟨by (with_reducible repeat (first | refine blk_drewN ?_ _ | refine blk_drew ?_ | refine blk_alloc ?_ _)); exact BK830.out⟩, ⟨by (with_reducible repeat (first | refine blk_drewN ?_ _ | refine blk_drew ?_ | refine blk_alloc ?_ _)); exact BK846.out⟩, ⟨by repeat (first | (with_reducible first | exact HB.out | apply below_alloc | apply pw_below_drewN | apply below_drew1 | refine below_set ?_ GE830.out | refine below_set ?_ GE846.out) | exact HB.out)⟩⟩
 case rest =>
  clear HC4
  try clear c1
  try clear c2
  try clear p2
  try clear c3
  try clear c5
  try clear c14
  try clear c21
  try clear c22
  try clear c26
  try clear hcz15_0
  try clear hcz15_1
  try clear hcz15_2
  try clear hcz15_3
  try clear hcz15_4
  try clear hcz15_5
  try clear hcz23_0
  try clear hcz23_1
  try clear hcz23_2
  try clear hcz23_3
  try clear hcz23_4
  try clear hcz23_5
  try clear hcz24_0
  try clear hcz24_1
  try clear hcz24_2
  try clear hcz24_3
  try clear hcz24_4
  try clear hcz24_5
  try clear hcz27_0
  try clear hcz27_1
  try clear hcz27_2
  try clear hcz27_3
  try clear hcz27_4
  try clear hcz27_5
  try clear hcz28_0
  try clear hcz28_1
  try clear hcz28_2
  try clear hcz28_3
  try clear hcz28_4
  try clear hcz28_5
  try clear hcz7_0
  try clear hcz7_1
  try clear hcz7_2
  try clear hcz7_3
  try clear hcz7_4
  try clear hcz7_5
  try clear hfz15_0
  try clear hfz15_1
  try clear hfz15_2
  try clear hfz15_3
  try clear hfz15_4
  try clear hfz15_5
  try clear hfz23_0
  try clear hfz23_1
  try clear hfz23_2
  try clear hfz23_3
  try clear hfz23_4
  try clear hfz23_5
  try clear hfz24_0
  try clear hfz24_1
  try clear hfz24_2
  try clear hfz24_3
  try clear hfz24_4
  try clear hfz24_5
  try clear hfz27_0
  try clear hfz27_1
  try clear hfz27_2
  try clear hfz27_3
  try clear hfz27_4
  try clear hfz27_5
  try clear hfz28_0
  try clear hfz28_1
  try clear hfz28_2
  try clear hfz28_3
  try clear hfz28_4
  try clear hfz28_5
  try clear hfz7_0
  try clear hfz7_1
  try clear hfz7_2
  try clear hfz7_3
  try clear hfz7_4
  try clear hfz7_5
  obtain ⟨kq, x29_3, rfl, HA, HJ3, HO_831002, HO_831003, HO_831004, HO_831005, HO_847002, HO_847003, HO_847004, HO_847005, BK830, BK846, HB⟩ := hcut
  cases kq with
  | zero => exact absurd HA.out (by simp [laws_FnExactClientNew.j0])
  | succ kj3 =>
   have H := HA.out
   clear HA
   simp only [laws_FnExactClientNew.j0] at H
   by_cases c30 : x29_3 = true
   ·subst c30
    rw [if_pos rfl] at H
    obtain rfl := Option.some.inj H
    go_wp2
    go_ret
    exact ⟨by first | rfl | (simp [errW_none, errW_some] <;> rfl) | (simp [*, errW_none, errW_some] <;> rfl), by repeat (first | (with_reducible first | exact HB.out | apply below_alloc | apply pw_below_drewN | apply below_drew1 | refine below_set ?_ GE830.out | refine below_set ?_ GE846.out) | exact HB.out)⟩
   ·replace c30 := Bool.eq_false_iff.mpr c30
    subst c30
    rw [if_neg (show ¬ (false = true) by decide)] at H
    replace H := Option.bind_eq_some_iff.mp H
    obtain ⟨⟨t848, t849, t850, t851⟩, A310, H⟩ := H
    replace H : ((laws_heldClient.f kj3 t831 t832 t849 t836 t850 t851 1).bind fun t852 => (if t852 < 0 then (some false) else (if t852 = t848 then ((impl_ClientNew.f a0).bind fun bt853 => ((laws_eqClient.f kj3 bt853.1 bt853.2.1 bt853.2.2.1 bt853.2.2.2.1 bt853.2.2.2.2.1 bt853.2.2.2.2.2.1 t815 t816 t817 t820 t823 t826).bind fun t869 => (if t869 = true then (laws_FnExactClientNew.j1 kj3 t848 (bt853.2.2.2.2.2.2 != t829) t831 t832 t849 t836 t850 t851) else (laws_FnExactClientNew.j1 kj3 t848 true t831 t832 t849 t836 t850 t851)))) else (some false)))) = some r := H
    have A31 := Aside0.mk A310
    clear A310
    replace H := Option.bind_eq_some_iff.mp H
    obtain ⟨t852, A320, H⟩ := H
    replace H : (if t852 < 0 then (some false) else (if t852 = t848 then ((impl_ClientNew.f a0).bind fun bt853 => ((laws_eqClient.f kj3 bt853.1 bt853.2.1 bt853.2.2.1 bt853.2.2.2.1 bt853.2.2.2.2.1 bt853.2.2.2.2.2.1 t815 t816 t817 t820 t823 t826).bind fun t869 => (if t869 = true then (laws_FnExactClientNew.j1 kj3 t848 (bt853.2.2.2.2.2.2 != t829) t831 t832 t849 t836 t850 t851) else (laws_FnExactClientNew.j1 kj3 t848 true t831 t832 t849 t836 t850 t851)))) else (some false))) = some r := H
    have A32 := Aside0.mk A320
    clear A320
    by_cases c33 : t852 < 0
    ·rw [if_pos c33] at H
     have c33b0 : decide (t852 < 0) = true := decide_eq_true c33
     clear c33
     obtain rfl := Option.some.inj H
     have hnb34 := NB846_830.out
     have hnc34 := NB830_846.out
     have hcz35_0 : wc.cell? ⟨gb846, 0, none⟩ = some (.int .i64 t831) := (blk_cell BK846.out 0).trans rfl
     have hcz35_1 : wc.cell? ⟨gb846, 1, none⟩ = some (.int .i64 t832) := (blk_cell BK846.out 1).trans rfl
     have hcz35_2 : wc.cell? ⟨gb846, 2, none⟩ = some (.slice Ao16 t833.length co16) := (blk_cell BK846.out 2).trans rfl
     have hcz35_3 : wc.cell? ⟨gb846, 3, none⟩ = some (.slice Ao17 t836.length co17) := (blk_cell BK846.out 3).trans rfl
     have hcz35_4 : wc.cell? ⟨gb846, 4, none⟩ = some (.slice Ao18 t839.length co18) := (blk_cell BK846.out 4).trans rfl
     have hcz35_5 : wc.cell? ⟨gb846, 5, none⟩ = some (.slice Ao19 t842.length co19) := (blk_cell BK846.out 5).trans rfl
     have hfz35_0 := blk_frozen BK846.out 0
     have hfz35_1 := blk_frozen BK846.out 1
     have hfz35_2 := blk_frozen BK846.out 2
     have hfz35_3 := blk_frozen BK846.out 3
     have hfz35_4 := blk_frozen BK846.out 4
     have hfz35_5 := blk_frozen BK846.out 5
     go_wp2_with (first | ((with_reducible refine gate_callee (f := 52) rfl ?_); refine goesL_ (some 32) rfl rfl Try.func52 (by kernel_rfl) rfl #[.agg #[.int .i64 t831, .int .i64 t832, .slice Ao16 t833.length co16, .slice Ao17 t836.length co17, .slice Ao18 t839.length co18, .slice Ao19 t842.length co19], .int .i64 1] rfl z74x37 ?_; (with_reducible refine (laws_markClient.calls kj3 t831 t832 (fun k_ => some k_ = (.slice Ao16 t833.length co16 : Value).ownBlock) (.slice Ao16 t833.length co16) t833 _ _ t836 (fun k_ => some k_ = (.slice Ao18 t839.length co18 : Value).ownBlock) (.slice Ao18 t839.length co18) t839 (fun k_ => some k_ = (.slice Ao19 t842.length co19 : Value).ownBlock) (.slice Ao19 t842.length co19) t842 1 t848 t849 t850 t851 w _ ?side1 ?side2 ?side3 ?side4 ?side5 ?side6 ?side7 ?side8 A31.out).mono ?_); (case side1 => repeat (first | (with_reducible first | exact HB.out | apply below_alloc | apply pw_below_drewN | apply below_drew1 | refine below_set ?_ GE830.out | refine below_set ?_ GE846.out) | exact HB.out)); (case side2 => exact Kd.R_tight rfl HO_847002.out); (case side3 => exact Kd.C_kept_own ((Kd.R_apart' (Kd.R_apart' (Kd.R_apart' HO_847003.out (Kd.R_typed HO_847002.out) (by decide)) (Kd.R_typed HO_847004.out) (by decide)) (Kd.R_typed HO_847005.out) (by decide))) (fun k_ hk_ hs_ => Or.elim hs_ (fun e_ => (hk_.1.1.2) e_) (fun e_ => Or.elim e_ (fun e_ => (hk_.1.2) e_) (fun e_ => (hk_.2) e_)))); (case side4 => exact (Kd.R_reads' HO_847003.out).2.1); (case side5 => exact Kd.R_tight rfl HO_847004.out); (case side6 => exact fun k_ e_ => (HO_847004.out.1 k_ e_.symm).2.2); (case side7 => exact Kd.R_tight rfl HO_847005.out); (case side8 => exact fun k_ e_ => (HO_847005.out.1 k_ e_.symm).2.2); rintro e w36 ⟨rfl, hy0, hy1, hy2, hb, hkp⟩; refine ⟨_, rfl, ?_⟩; have n0_ := Aside0.mk (Kd.R_mono (ok' := fun k_ => some k_ ≠ (.slice Ao16 t833.length co16 : Value).ownBlock) (Kd.R_keptB ((Kd.R_apart' (Kd.R_apart' HO_831002.out (Kd.R_typed HO_847004.out) (by decide)) (Kd.R_typed HO_847005.out) (by decide))) hkp (fun k_ hk_ hs_ => Or.elim hs_ (fun e_ => (hk_.1.1) e_) (fun e_ => Or.elim e_ (fun e_ => (hk_.1.2) e_) (fun e_ => (hk_.2) e_)))) (fun k_ hk_ => hk_.1.1.1)); have n1_ := Aside0.mk (Kd.R_mono (ok' := fun k_ => some k_ ≠ (.slice Ao17 t836.length co17 : Value).ownBlock) (Kd.R_keptB ((Kd.R_apart' (Kd.R_apart' (Kd.R_apart' HO_831003.out (Kd.R_typed HO_847002.out) (by decide)) (Kd.R_typed HO_847004.out) (by decide)) (Kd.R_typed HO_847005.out) (by decide))) hkp (fun k_ hk_ hs_ => Or.elim hs_ (fun e_ => (hk_.1.1.2) e_) (fun e_ => Or.elim e_ (fun e_ => (hk_.1.2) e_) (fun e_ => (hk_.2) e_)))) (fun k_ hk_ => hk_.1.1.1.1)); have n2_ := Aside0.mk (Kd.R_mono (ok' := fun k_ => some k_ ≠ (.slice Ao11 t826.length co11 : Value).ownBlock ∧ some k_ ≠ (.slice Ao18 t839.length co18 : Value).ownBlock ∧ some k_ ≠ (.slice Ao19 t842.length co19 : Value).ownBlock) (Kd.R_keptB ((Kd.R_apart' HO_831004.out (Kd.R_typed HO_847002.out) (by decide))) hkp (fun k_ hk_ hs_ => Or.elim hs_ (fun e_ => (hk_.2) e_) (fun e_ => Or.elim e_ (fun e_ => (hk_.1.2.1) e_) (fun e_ => (hk_.1.2.2) e_)))) (fun k_ hk_ => ⟨hk_.1.1.1, hk_.1.1.2.1, hk_.1.1.2.2⟩)); have n3_ := Aside0.mk (Kd.R_mono (ok' := fun k_ => some k_ ≠ (.slice Ao10 t823.length co10 : Value).ownBlock ∧ some k_ ≠ (.slice Ao18 t839.length co18 : Value).ownBlock ∧ some k_ ≠ (.slice Ao19 t842.length co19 : Value).ownBlock) (Kd.R_keptB ((Kd.R_apart' HO_831005.out (Kd.R_typed HO_847002.out) (by decide))) hkp (fun k_ hk_ hs_ => Or.elim hs_ (fun e_ => (hk_.2) e_) (fun e_ => Or.elim e_ (fun e_ => (hk_.1.2.1) e_) (fun e_ => (hk_.1.2.2) e_)))) (fun k_ hk_ => ⟨hk_.1.1.1, hk_.1.1.2.1, hk_.1.1.2.2⟩)); have n4_ := Aside0.mk (Kd.R_reok rfl hy0 (fun k_ e_ => HO_847002.out.1 k_ e_)); have n5_ := Aside0.mk (Kd.R_mono (ok' := fun k_ => some k_ ≠ (.slice Ao9 t820.length co9 : Value).ownBlock) (Kd.R_keptB ((Kd.R_apart' (Kd.R_apart' (Kd.R_apart' HO_847003.out (Kd.R_typed HO_847002.out) (by decide)) (Kd.R_typed HO_847004.out) (by decide)) (Kd.R_typed HO_847005.out) (by decide))) hkp (fun k_ hk_ hs_ => Or.elim hs_ (fun e_ => (hk_.1.1.2) e_) (fun e_ => Or.elim e_ (fun e_ => (hk_.1.2) e_) (fun e_ => (hk_.2) e_)))) (fun k_ hk_ => hk_.1.1.1.1)); have n6_ := Aside0.mk (Kd.R_reok rfl hy1 (fun k_ e_ => HO_847004.out.1 k_ e_)); have n7_ := Aside0.mk (Kd.R_reok rfl hy2 (fun k_ e_ => HO_847005.out.1 k_ e_)); have n8_ := Aside0.mk (blk_kept z74x39 hkp (fun hs_ => Or.elim hs_ (fun e_ => (fun e_ => (Kd.R_ne HO_847002.out BK830.out (by decide)) e_) e_) (fun e_ => Or.elim e_ (fun e_ => (fun e_ => (Kd.R_ne HO_847004.out BK830.out (by decide)) e_) e_) (fun e_ => (fun e_ => (Kd.R_ne HO_847005.out BK830.out (by decide)) e_) e_)))); have n9_ := Aside0.mk (blk_kept z74x40 hkp (fun hs_ => Or.elim hs_ (fun e_ => (fun e_ => (Kd.R_ne HO_847002.out BK846.out (by decide)) e_) e_) (fun e_ => Or.elim e_ (fun e_ => (fun e_ => (Kd.R_ne HO_847004.out BK846.out (by decide)) e_) e_) (fun e_ => (fun e_ => (Kd.R_ne HO_847005.out BK846.out (by decide)) e_) e_)))); have n10_ := Aside0.mk (hb); clear HO_831002; clear HO_831003; clear HO_831004; clear HO_831005; clear HO_847002; clear HO_847003; clear HO_847004; clear HO_847005; clear BK830; clear BK846; clear HB; have HO_831002 := n0_; have HO_831003 := n1_; have HO_831004 := n2_; have HO_831005 := n3_; have HO_847002 := n4_; have HO_847003 := n5_; have HO_847004 := n6_; have HO_847005 := n7_; have BK830 := n8_; have BK846 := n9_; have HB := n10_; clear n0_ n1_ n2_ n3_ n4_ n5_ n6_ n7_ n8_ n9_ n10_; (try clear hb); (try clear hkp); (try clear hy0); (try clear hy1); (try clear hy2); have hcz37_0 : w36.cell? ⟨gb846, 0, none⟩ = some (.int .i64 t831) := (blk_cell BK846.out 0).trans rfl; have hcz37_1 : w36.cell? ⟨gb846, 1, none⟩ = some (.int .i64 t832) := (blk_cell BK846.out 1).trans rfl; have hcz37_2 : w36.cell? ⟨gb846, 2, none⟩ = some (.slice Ao16 t833.length co16) := (blk_cell BK846.out 2).trans rfl; have hcz37_3 : w36.cell? ⟨gb846, 3, none⟩ = some (.slice Ao17 t836.length co17) := (blk_cell BK846.out 3).trans rfl; have hcz37_4 : w36.cell? ⟨gb846, 4, none⟩ = some (.slice Ao18 t839.length co18) := (blk_cell BK846.out 4).trans rfl; have hcz37_5 : w36.cell? ⟨gb846, 5, none⟩ = some (.slice Ao19 t842.length co19) := (blk_cell BK846.out 5).trans rfl; have hfz37_0 := blk_frozen BK846.out 0; have hfz37_1 := blk_frozen BK846.out 1; have hfz37_2 := blk_frozen BK846.out 2; have hfz37_3 := blk_frozen BK846.out 3; have hfz37_4 := blk_frozen BK846.out 4; have hfz37_5 := blk_frozen BK846.out 5) | ((with_reducible refine gate_callee (f := 53) rfl ?_); refine goesL_ (some 35) rfl rfl Try.func53 (by kernel_rfl) rfl #[.agg #[.int .i64 t831, .int .i64 t832, .slice Ao16 t849.length co16, .slice Ao17 t836.length co17, .slice Ao18 t850.length co18, .slice Ao19 t851.length co19], .int .i64 1] rfl z74x29 ?_; (with_reducible refine (laws_heldClient.calls kj3 t831 t832 _ _ t849 _ _ t836 _ _ t850 _ _ t851 1 t852 _ ?side1 ?side2 ?side3 ?side4 ?side5 ?side6 ?side7 ?side8 A32.out).mono ?_); (case side1 => repeat (first | exact (Kd.R_reads' HO_847002.out).2.2 | (with_reducible refine Kd.C_alloc ?_ _) | (with_reducible refine Kd.C_drewN ?_ _) | (with_reducible refine Kd.C_drew ?_))); (case side2 => rw [show t849.length = t833.length from (Kd.R_reads' HO_847002.out).1.symm]; exact (Kd.R_reads' HO_847002.out).2.1); (case side3 => repeat (first | exact (Kd.R_reads' HO_847003.out).2.2 | (with_reducible refine Kd.C_alloc ?_ _) | (with_reducible refine Kd.C_drewN ?_ _) | (with_reducible refine Kd.C_drew ?_))); (case side4 => exact (Kd.R_reads' HO_847003.out).2.1); (case side5 => repeat (first | exact (Kd.R_reads' HO_847004.out).2.2 | (with_reducible refine Kd.C_alloc ?_ _) | (with_reducible refine Kd.C_drewN ?_ _) | (with_reducible refine Kd.C_drew ?_))); (case side6 => rw [show t850.length = t839.length from (Kd.R_reads' HO_847004.out).1.symm]; exact (Kd.R_reads' HO_847004.out).2.1); (case side7 => repeat (first | exact (Kd.R_reads' HO_847005.out).2.2 | (with_reducible refine Kd.C_alloc ?_ _) | (with_reducible refine Kd.C_drewN ?_ _) | (with_reducible refine Kd.C_drew ?_))); (case side8 => rw [show t851.length = t842.length from (Kd.R_reads' HO_847005.out).1.symm]; exact (Kd.R_reads' HO_847005.out).2.1); rintro e w38 ⟨rfl, hb⟩; refine ⟨_, rfl, ?_⟩; have n0_ := Aside0.mk (Kd.R_below z74x42 hb); have n1_ := Aside0.mk (Kd.R_below z74x43 hb); have n2_ := Aside0.mk (Kd.R_below z74x44 hb); have n3_ := Aside0.mk (Kd.R_below z74x45 hb); have n4_ := Aside0.mk (Kd.R_below z74x46 hb); have n5_ := Aside0.mk (Kd.R_below z74x47 hb); have n6_ := Aside0.mk (Kd.R_below z74x48 hb); have n7_ := Aside0.mk (Kd.R_below z74x49 hb); have n8_ := Aside0.mk (blk_below (g := gb830) (o := .cells #[.int .i64 t815, .int .i64 t816, .slice Ao8 t817.length co8, .slice Ao9 t820.length co9, .slice Ao10 t823.length co10, .slice Ao11 t826.length co11] 46 (0, 0)) z74x39 hb); have n9_ := Aside0.mk (blk_below (g := gb846) (o := .cells #[.int .i64 t831, .int .i64 t832, .slice Ao16 t833.length co16, .slice Ao17 t836.length co17, .slice Ao18 t839.length co18, .slice Ao19 t842.length co19] 46 (0, 0)) z74x40 hb); have n10_ := Aside0.mk (below_step z74x34 hb); clear HO_831002; clear HO_831003; clear HO_831004; clear HO_831005; clear HO_847002; clear HO_847003; clear HO_847004; clear HO_847005; clear BK830; clear BK846; clear HB; have HO_831002 := n0_; have HO_831003 := n1_; have HO_831004 := n2_; have HO_831005 := n3_; have HO_847002 := n4_; have HO_847003 := n5_; have HO_847004 := n6_; have HO_847005 := n7_; have BK830 := n8_; have BK846 := n9_; have HB := n10_; clear n0_ n1_ n2_ n3_ n4_ n5_ n6_ n7_ n8_ n9_ n10_; (try clear hb); (try clear hb2); (try clear hk); (try clear hi)))
     go_ret
     exact ⟨by first | rfl | (simp [errW_none, errW_some] <;> rfl) | (simp [*, errW_none, errW_some] <;> rfl), by repeat (first | (with_reducible first | exact HB.out | apply below_alloc | apply pw_below_drewN | apply below_drew1 | refine below_set ?_ GE830.out | refine below_set ?_ GE846.out) | exact HB.out)⟩
    ·rw [if_neg c33] at H
     have c33b0 : decide (t852 < 0) = false := decide_eq_false c33
     clear c33
     by_cases c39 : t852 = t848
     ·rw [if_pos c39] at H
      have c39b0 : (t852 == t848) = true := beq_iff_eq.mpr c39
      have c39b1 : (t852 != t848) = false := bne_eq_false_iff_eq.mpr c39
      clear c39
      replace H := Option.bind_eq_some_iff.mp H
      obtain ⟨⟨t853, t854, t855, t858, t861, t864, t867⟩, A400, H⟩ := H
      replace H : ((laws_eqClient.f kj3 t853 t854 t855 t858 t861 t864 t815 t816 t817 t820 t823 t826).bind fun t869 => (if t869 = true then (laws_FnExactClientNew.j1 kj3 t848 (t867 != t829) t831 t832 t849 t836 t850 t851) else (laws_FnExactClientNew.j1 kj3 t848 true t831 t832 t849 t836 t850 t851))) = some r := H
      have A40 := Aside0.mk A400
      clear A400
      have HC41 := Aside0.mk H
      clear H
      have hnb42 := NB846_830.out
      have hnc42 := NB830_846.out
      have hcz43_0 : wc.cell? ⟨gb846, 0, none⟩ = some (.int .i64 t831) := (blk_cell BK846.out 0).trans rfl
      have hcz43_1 : wc.cell? ⟨gb846, 1, none⟩ = some (.int .i64 t832) := (blk_cell BK846.out 1).trans rfl
      have hcz43_2 : wc.cell? ⟨gb846, 2, none⟩ = some (.slice Ao16 t833.length co16) := (blk_cell BK846.out 2).trans rfl
      have hcz43_3 : wc.cell? ⟨gb846, 3, none⟩ = some (.slice Ao17 t836.length co17) := (blk_cell BK846.out 3).trans rfl
      have hcz43_4 : wc.cell? ⟨gb846, 4, none⟩ = some (.slice Ao18 t839.length co18) := (blk_cell BK846.out 4).trans rfl
      have hcz43_5 : wc.cell? ⟨gb846, 5, none⟩ = some (.slice Ao19 t842.length co19) := (blk_cell BK846.out 5).trans rfl
      have hfz43_0 := blk_frozen BK846.out 0
      have hfz43_1 := blk_frozen BK846.out 1
      have hfz43_2 := blk_frozen BK846.out 2
      have hfz43_3 := blk_frozen BK846.out 3
      have hfz43_4 := blk_frozen BK846.out 4
      have hfz43_5 := blk_frozen BK846.out 5
      go_upto_region 14 with (first | ((with_reducible refine gate_callee (f := 52) rfl ?_); refine goesL_ (some 32) rfl rfl Try.func52 (by kernel_rfl) rfl #[.agg #[.int .i64 t831, .int .i64 t832, .slice Ao16 t833.length co16, .slice Ao17 t836.length co17, .slice Ao18 t839.length co18, .slice Ao19 t842.length co19], .int .i64 1] rfl z74x37 ?_; (with_reducible refine (laws_markClient.calls kj3 t831 t832 (fun k_ => some k_ = (.slice Ao16 t833.length co16 : Value).ownBlock) (.slice Ao16 t833.length co16) t833 _ _ t836 (fun k_ => some k_ = (.slice Ao18 t839.length co18 : Value).ownBlock) (.slice Ao18 t839.length co18) t839 (fun k_ => some k_ = (.slice Ao19 t842.length co19 : Value).ownBlock) (.slice Ao19 t842.length co19) t842 1 t848 t849 t850 t851 w _ ?side1 ?side2 ?side3 ?side4 ?side5 ?side6 ?side7 ?side8 A31.out).mono ?_); (case side1 => repeat (first | (with_reducible first | exact HB.out | apply below_alloc | apply pw_below_drewN | apply below_drew1 | refine below_set ?_ GE830.out | refine below_set ?_ GE846.out) | exact HB.out)); (case side2 => exact Kd.R_tight rfl HO_847002.out); (case side3 => exact Kd.C_kept_own ((Kd.R_apart' (Kd.R_apart' (Kd.R_apart' HO_847003.out (Kd.R_typed HO_847002.out) (by decide)) (Kd.R_typed HO_847004.out) (by decide)) (Kd.R_typed HO_847005.out) (by decide))) (fun k_ hk_ hs_ => Or.elim hs_ (fun e_ => (hk_.1.1.2) e_) (fun e_ => Or.elim e_ (fun e_ => (hk_.1.2) e_) (fun e_ => (hk_.2) e_)))); (case side4 => exact (Kd.R_reads' HO_847003.out).2.1); (case side5 => exact Kd.R_tight rfl HO_847004.out); (case side6 => exact fun k_ e_ => (HO_847004.out.1 k_ e_.symm).2.2); (case side7 => exact Kd.R_tight rfl HO_847005.out); (case side8 => exact fun k_ e_ => (HO_847005.out.1 k_ e_.symm).2.2); rintro e w44 ⟨rfl, hy0, hy1, hy2, hb, hkp⟩; refine ⟨_, rfl, ?_⟩; have n0_ := Aside0.mk (Kd.R_mono (ok' := fun k_ => some k_ ≠ (.slice Ao16 t833.length co16 : Value).ownBlock) (Kd.R_keptB ((Kd.R_apart' (Kd.R_apart' HO_831002.out (Kd.R_typed HO_847004.out) (by decide)) (Kd.R_typed HO_847005.out) (by decide))) hkp (fun k_ hk_ hs_ => Or.elim hs_ (fun e_ => (hk_.1.1) e_) (fun e_ => Or.elim e_ (fun e_ => (hk_.1.2) e_) (fun e_ => (hk_.2) e_)))) (fun k_ hk_ => hk_.1.1.1)); have n1_ := Aside0.mk (Kd.R_mono (ok' := fun k_ => some k_ ≠ (.slice Ao17 t836.length co17 : Value).ownBlock) (Kd.R_keptB ((Kd.R_apart' (Kd.R_apart' (Kd.R_apart' HO_831003.out (Kd.R_typed HO_847002.out) (by decide)) (Kd.R_typed HO_847004.out) (by decide)) (Kd.R_typed HO_847005.out) (by decide))) hkp (fun k_ hk_ hs_ => Or.elim hs_ (fun e_ => (hk_.1.1.2) e_) (fun e_ => Or.elim e_ (fun e_ => (hk_.1.2) e_) (fun e_ => (hk_.2) e_)))) (fun k_ hk_ => hk_.1.1.1.1)); have n2_ := Aside0.mk (Kd.R_mono (ok' := fun k_ => some k_ ≠ (.slice Ao11 t826.length co11 : Value).ownBlock ∧ some k_ ≠ (.slice Ao18 t839.length co18 : Value).ownBlock ∧ some k_ ≠ (.slice Ao19 t842.length co19 : Value).ownBlock) (Kd.R_keptB ((Kd.R_apart' HO_831004.out (Kd.R_typed HO_847002.out) (by decide))) hkp (fun k_ hk_ hs_ => Or.elim hs_ (fun e_ => (hk_.2) e_) (fun e_ => Or.elim e_ (fun e_ => (hk_.1.2.1) e_) (fun e_ => (hk_.1.2.2) e_)))) (fun k_ hk_ => ⟨hk_.1.1.1, hk_.1.1.2.1, hk_.1.1.2.2⟩)); have n3_ := Aside0.mk (Kd.R_mono (ok' := fun k_ => some k_ ≠ (.slice Ao10 t823.length co10 : Value).ownBlock ∧ some k_ ≠ (.slice Ao18 t839.length co18 : Value).ownBlock ∧ some k_ ≠ (.slice Ao19 t842.length co19 : Value).ownBlock) (Kd.R_keptB ((Kd.R_apart' HO_831005.out (Kd.R_typed HO_847002.out) (by decide))) hkp (fun k_ hk_ hs_ => Or.elim hs_ (fun e_ => (hk_.2) e_) (fun e_ => Or.elim e_ (fun e_ => (hk_.1.2.1) e_) (fun e_ => (hk_.1.2.2) e_)))) (fun k_ hk_ => ⟨hk_.1.1.1, hk_.1.1.2.1, hk_.1.1.2.2⟩)); have n4_ := Aside0.mk (Kd.R_reok rfl hy0 (fun k_ e_ => HO_847002.out.1 k_ e_)); have n5_ := Aside0.mk (Kd.R_mono (ok' := fun k_ => some k_ ≠ (.slice Ao9 t820.length co9 : Value).ownBlock) (Kd.R_keptB ((Kd.R_apart' (Kd.R_apart' (Kd.R_apart' HO_847003.out (Kd.R_typed HO_847002.out) (by decide)) (Kd.R_typed HO_847004.out) (by decide)) (Kd.R_typed HO_847005.out) (by decide))) hkp (fun k_ hk_ hs_ => Or.elim hs_ (fun e_ => (hk_.1.1.2) e_) (fun e_ => Or.elim e_ (fun e_ => (hk_.1.2) e_) (fun e_ => (hk_.2) e_)))) (fun k_ hk_ => hk_.1.1.1.1)); have n6_ := Aside0.mk (Kd.R_reok rfl hy1 (fun k_ e_ => HO_847004.out.1 k_ e_)); have n7_ := Aside0.mk (Kd.R_reok rfl hy2 (fun k_ e_ => HO_847005.out.1 k_ e_)); have n8_ := Aside0.mk (blk_kept z74x39 hkp (fun hs_ => Or.elim hs_ (fun e_ => (fun e_ => (Kd.R_ne HO_847002.out BK830.out (by decide)) e_) e_) (fun e_ => Or.elim e_ (fun e_ => (fun e_ => (Kd.R_ne HO_847004.out BK830.out (by decide)) e_) e_) (fun e_ => (fun e_ => (Kd.R_ne HO_847005.out BK830.out (by decide)) e_) e_)))); have n9_ := Aside0.mk (blk_kept z74x40 hkp (fun hs_ => Or.elim hs_ (fun e_ => (fun e_ => (Kd.R_ne HO_847002.out BK846.out (by decide)) e_) e_) (fun e_ => Or.elim e_ (fun e_ => (fun e_ => (Kd.R_ne HO_847004.out BK846.out (by decide)) e_) e_) (fun e_ => (fun e_ => (Kd.R_ne HO_847005.out BK846.out (by decide)) e_) e_)))); have n10_ := Aside0.mk (hb); clear HO_831002; clear HO_831003; clear HO_831004; clear HO_831005; clear HO_847002; clear HO_847003; clear HO_847004; clear HO_847005; clear BK830; clear BK846; clear HB; have HO_831002 := n0_; have HO_831003 := n1_; have HO_831004 := n2_; have HO_831005 := n3_; have HO_847002 := n4_; have HO_847003 := n5_; have HO_847004 := n6_; have HO_847005 := n7_; have BK830 := n8_; have BK846 := n9_; have HB := n10_; clear n0_ n1_ n2_ n3_ n4_ n5_ n6_ n7_ n8_ n9_ n10_; (try clear hb); (try clear hkp); (try clear hy0); (try clear hy1); (try clear hy2); have hcz45_0 : w44.cell? ⟨gb846, 0, none⟩ = some (.int .i64 t831) := (blk_cell BK846.out 0).trans rfl; have hcz45_1 : w44.cell? ⟨gb846, 1, none⟩ = some (.int .i64 t832) := (blk_cell BK846.out 1).trans rfl; have hcz45_2 : w44.cell? ⟨gb846, 2, none⟩ = some (.slice Ao16 t833.length co16) := (blk_cell BK846.out 2).trans rfl; have hcz45_3 : w44.cell? ⟨gb846, 3, none⟩ = some (.slice Ao17 t836.length co17) := (blk_cell BK846.out 3).trans rfl; have hcz45_4 : w44.cell? ⟨gb846, 4, none⟩ = some (.slice Ao18 t839.length co18) := (blk_cell BK846.out 4).trans rfl; have hcz45_5 : w44.cell? ⟨gb846, 5, none⟩ = some (.slice Ao19 t842.length co19) := (blk_cell BK846.out 5).trans rfl; have hfz45_0 := blk_frozen BK846.out 0; have hfz45_1 := blk_frozen BK846.out 1; have hfz45_2 := blk_frozen BK846.out 2; have hfz45_3 := blk_frozen BK846.out 3; have hfz45_4 := blk_frozen BK846.out 4; have hfz45_5 := blk_frozen BK846.out 5) | ((with_reducible refine gate_callee (f := 53) rfl ?_); refine goesL_ (some 35) rfl rfl Try.func53 (by kernel_rfl) rfl #[.agg #[.int .i64 t831, .int .i64 t832, .slice Ao16 t849.length co16, .slice Ao17 t836.length co17, .slice Ao18 t850.length co18, .slice Ao19 t851.length co19], .int .i64 1] rfl z74x29 ?_; (with_reducible refine (laws_heldClient.calls kj3 t831 t832 _ _ t849 _ _ t836 _ _ t850 _ _ t851 1 t852 _ ?side1 ?side2 ?side3 ?side4 ?side5 ?side6 ?side7 ?side8 A32.out).mono ?_); (case side1 => repeat (first | exact (Kd.R_reads' HO_847002.out).2.2 | (with_reducible refine Kd.C_alloc ?_ _) | (with_reducible refine Kd.C_drewN ?_ _) | (with_reducible refine Kd.C_drew ?_))); (case side2 => rw [show t849.length = t833.length from (Kd.R_reads' HO_847002.out).1.symm]; exact (Kd.R_reads' HO_847002.out).2.1); (case side3 => repeat (first | exact (Kd.R_reads' HO_847003.out).2.2 | (with_reducible refine Kd.C_alloc ?_ _) | (with_reducible refine Kd.C_drewN ?_ _) | (with_reducible refine Kd.C_drew ?_))); (case side4 => exact (Kd.R_reads' HO_847003.out).2.1); (case side5 => repeat (first | exact (Kd.R_reads' HO_847004.out).2.2 | (with_reducible refine Kd.C_alloc ?_ _) | (with_reducible refine Kd.C_drewN ?_ _) | (with_reducible refine Kd.C_drew ?_))); (case side6 => rw [show t850.length = t839.length from (Kd.R_reads' HO_847004.out).1.symm]; exact (Kd.R_reads' HO_847004.out).2.1); (case side7 => repeat (first | exact (Kd.R_reads' HO_847005.out).2.2 | (with_reducible refine Kd.C_alloc ?_ _) | (with_reducible refine Kd.C_drewN ?_ _) | (with_reducible refine Kd.C_drew ?_))); (case side8 => rw [show t851.length = t842.length from (Kd.R_reads' HO_847005.out).1.symm]; exact (Kd.R_reads' HO_847005.out).2.1); rintro e w46 ⟨rfl, hb⟩; refine ⟨_, rfl, ?_⟩; have n0_ := Aside0.mk (Kd.R_below z74x42 hb); have n1_ := Aside0.mk (Kd.R_below z74x43 hb); have n2_ := Aside0.mk (Kd.R_below z74x44 hb); have n3_ := Aside0.mk (Kd.R_below z74x45 hb); have n4_ := Aside0.mk (Kd.R_below z74x46 hb); have n5_ := Aside0.mk (Kd.R_below z74x47 hb); have n6_ := Aside0.mk (Kd.R_below z74x48 hb); have n7_ := Aside0.mk (Kd.R_below z74x49 hb); have n8_ := Aside0.mk (blk_below (g := gb830) (o := .cells #[.int .i64 t815, .int .i64 t816, .slice Ao8 t817.length co8, .slice Ao9 t820.length co9, .slice Ao10 t823.length co10, .slice Ao11 t826.length co11] 46 (0, 0)) z74x39 hb); have n9_ := Aside0.mk (blk_below (g := gb846) (o := .cells #[.int .i64 t831, .int .i64 t832, .slice Ao16 t833.length co16, .slice Ao17 t836.length co17, .slice Ao18 t839.length co18, .slice Ao19 t842.length co19] 46 (0, 0)) z74x40 hb); have n10_ := Aside0.mk (below_step z74x34 hb); clear HO_831002; clear HO_831003; clear HO_831004; clear HO_831005; clear HO_847002; clear HO_847003; clear HO_847004; clear HO_847005; clear BK830; clear BK846; clear HB; have HO_831002 := n0_; have HO_831003 := n1_; have HO_831004 := n2_; have HO_831005 := n3_; have HO_847002 := n4_; have HO_847003 := n5_; have HO_847004 := n6_; have HO_847005 := n7_; have BK830 := n8_; have BK846 := n9_; have HB := n10_; clear n0_ n1_ n2_ n3_ n4_ n5_ n6_ n7_ n8_ n9_ n10_; (try clear hb); (try clear hb2); (try clear hk); (try clear hi)) | ((with_reducible refine gate_callee (f := 31) rfl ?_); refine goesL_ (some 43) rfl rfl Try.func31 (by kernel_rfl) rfl #[.int .i64 a0] rfl z74x37 ?_; (with_reducible refine (impl_ClientNew.calls a0 t853 t854 t855 t858 t861 t864 t867 _ A40.out).mono ?_); rintro e w47 ⟨v856, v859, v862, v865, rfl, ho0, ho1, ho2, ho3, hb⟩; refine ⟨_, rfl, ?_⟩; have n0_ := Aside0.mk (Kd.R_elder' z74x42 (Kd.R_base ho0) hb); have n1_ := Aside0.mk (Kd.R_elder' z74x43 (Kd.R_base ho1) hb); have n2_ := Aside0.mk (Kd.R_mono (Kd.R_told (Kd.R_told (Kd.R_old z74x44 hb) (Kd.R_base ho2)) (Kd.R_base ho3)) (fun _ h_ => h_.1)); have n3_ := Aside0.mk (Kd.R_mono (Kd.R_told (Kd.R_told (Kd.R_old z74x45 hb) (Kd.R_base ho2)) (Kd.R_base ho3)) (fun _ h_ => h_.1)); have n4_ := Aside0.mk (Kd.R_elder' z74x46 (Kd.R_base ho0) hb); have n5_ := Aside0.mk (Kd.R_elder' z74x47 (Kd.R_base ho1) hb); have n6_ := Aside0.mk (Kd.R_mono (Kd.R_told (Kd.R_told (Kd.R_old z74x48 hb) (Kd.R_base ho2)) (Kd.R_base ho3)) (fun _ h_ => h_.1)); have n7_ := Aside0.mk (Kd.R_mono (Kd.R_told (Kd.R_told (Kd.R_old z74x49 hb) (Kd.R_base ho2)) (Kd.R_base ho3)) (fun _ h_ => h_.1)); have n8_ := Aside0.mk (Kd.R_lower (Kd.R_new' (Kd.R_new' ho0 (Kd.R_lt z74x42)) (Kd.R_lt z74x46)) (below_size z74x34)); have n9_ := Aside0.mk (Kd.R_lower (Kd.R_new' (Kd.R_new' ho1 (Kd.R_lt z74x43)) (Kd.R_lt z74x47)) (below_size z74x34)); have n10_ := Aside0.mk (Kd.R_lower (Kd.R_new' (Kd.R_new' (Kd.R_new' (Kd.R_new' ho2 (Kd.R_lt z74x44)) (Kd.R_lt z74x45)) (Kd.R_lt z74x48)) (Kd.R_lt z74x49)) (below_size z74x34)); have n11_ := Aside0.mk (Kd.R_lower (Kd.R_new' (Kd.R_new' (Kd.R_new' (Kd.R_new' ho3 (Kd.R_lt z74x44)) (Kd.R_lt z74x45)) (Kd.R_lt z74x48)) (Kd.R_lt z74x49)) (below_size z74x34)); have n12_ := Aside0.mk (blk_below (g := gb830) (o := .cells #[.int .i64 t815, .int .i64 t816, .slice Ao8 t817.length co8, .slice Ao9 t820.length co9, .slice Ao10 t823.length co10, .slice Ao11 t826.length co11] 46 (0, 0)) z74x39 hb); have n13_ := Aside0.mk (blk_below (g := gb846) (o := .cells #[.int .i64 t831, .int .i64 t832, .slice Ao16 t833.length co16, .slice Ao17 t836.length co17, .slice Ao18 t839.length co18, .slice Ao19 t842.length co19] 46 (0, 0)) z74x40 hb); have n14_ := Aside0.mk (below_step z74x34 hb); clear HO_831002; clear HO_831003; clear HO_831004; clear HO_831005; clear HO_847002; clear HO_847003; clear HO_847004; clear HO_847005; clear BK830; clear BK846; clear HB; have HO_831002 := n0_; have HO_831003 := n1_; have HO_831004 := n2_; have HO_831005 := n3_; have HO_847002 := n4_; have HO_847003 := n5_; have HO_847004 := n6_; have HO_847005 := n7_; have HO857 := n8_; have HO860 := n9_; have HO863 := n10_; have HO866 := n11_; have BK830 := n12_; have BK846 := n13_; have HB := n14_; clear n0_ n1_ n2_ n3_ n4_ n5_ n6_ n7_ n8_ n9_ n10_ n11_ n12_ n13_ n14_; (try clear hb); (try clear hb2); (try clear hk); (try clear hi); (try clear ho0); (try clear ho1); (try clear ho2); (try clear ho3)) | ((with_reducible refine gate_dst (N := 9) rfl ?_); refine box_event ?hg (N := 9) ?hd (cs := #[.int .i64 0, .int .i64 0, .slice none 0 0, .slice none 0 0, .slice none 0 0, .slice none 0 0]) (t := 46) ?hr ?_; (case hd => rfl); (case hg => rfl); (case hr => first | (go_simp; done) | (go_simp; rfl)); intro gb868 hg w48 hbox hb; have n0_ := Aside0.mk (Kd.R_below z74x42 hb); have n1_ := Aside0.mk (Kd.R_below z74x43 hb); have n2_ := Aside0.mk (Kd.R_below z74x44 hb); have n3_ := Aside0.mk (Kd.R_below z74x45 hb); have n4_ := Aside0.mk (Kd.R_below z74x46 hb); have n5_ := Aside0.mk (Kd.R_below z74x47 hb); have n6_ := Aside0.mk (Kd.R_below z74x48 hb); have n7_ := Aside0.mk (Kd.R_below z74x49 hb); have n8_ := Aside0.mk (Kd.R_below (by (with_reducible repeat (first | apply Kd.R_alloc | apply Kd.R_drewN | apply Kd.R_drew)); exact HO857.out) hb); have n9_ := Aside0.mk (Kd.R_below (by (with_reducible repeat (first | apply Kd.R_alloc | apply Kd.R_drewN | apply Kd.R_drew)); exact HO860.out) hb); have n10_ := Aside0.mk (Kd.R_below (by (with_reducible repeat (first | apply Kd.R_alloc | apply Kd.R_drewN | apply Kd.R_drew)); exact HO863.out) hb); have n11_ := Aside0.mk (Kd.R_below (by (with_reducible repeat (first | apply Kd.R_alloc | apply Kd.R_drewN | apply Kd.R_drew)); exact HO866.out) hb); have n12_ := Aside0.mk (blk_below (g := gb830) (o := .cells #[.int .i64 t815, .int .i64 t816, .slice Ao8 t817.length co8, .slice Ao9 t820.length co9, .slice Ao10 t823.length co10, .slice Ao11 t826.length co11] 46 (0, 0)) z74x39 hb); have n13_ := Aside0.mk (blk_below (g := gb846) (o := .cells #[.int .i64 t831, .int .i64 t832, .slice Ao16 t833.length co16, .slice Ao17 t836.length co17, .slice Ao18 t839.length co18, .slice Ao19 t842.length co19] 46 (0, 0)) z74x40 hb); have n14_ := Aside0.mk (below_step z74x34 hb); have n15_ := Aside0.mk (hbox); have n16_ := Aside0.mk ((z74x33 : w.heap.size ≤ gb868)); have n17_ := Aside0.mk ((z74x33 : w.heap.size ≤ gb868)); have n18_ := Aside0.mk ((z74x31 : gb830 ≠ gb868)); have n19_ := Aside0.mk ((z74x30 : gb868 ≠ gb830)); have n20_ := Aside0.mk ((by rw [hg]; exact Nat.ne_of_lt (blk_lt (g := gb846) (o := .cells #[.int .i64 t831, .int .i64 t832, .slice Ao16 t833.length co16, .slice Ao17 t836.length co17, .slice Ao18 t839.length co18, .slice Ao19 t842.length co19] 46 (0, 0)) z74x40) : gb846 ≠ gb868)); have n21_ := Aside0.mk ((by rw [hg]; exact Nat.ne_of_gt (blk_lt (g := gb846) (o := .cells #[.int .i64 t831, .int .i64 t832, .slice Ao16 t833.length co16, .slice Ao17 t836.length co17, .slice Ao18 t839.length co18, .slice Ao19 t842.length co19] 46 (0, 0)) z74x40) : gb868 ≠ gb846)); clear HO_831002; clear HO_831003; clear HO_831004; clear HO_831005; clear HO_847002; clear HO_847003; clear HO_847004; clear HO_847005; clear HO857; clear HO860; clear HO863; clear HO866; clear BK830; clear BK846; clear HB; have HO_831002 := n0_; have HO_831003 := n1_; have HO_831004 := n2_; have HO_831005 := n3_; have HO_847002 := n4_; have HO_847003 := n5_; have HO_847004 := n6_; have HO_847005 := n7_; have HO857 := n8_; have HO860 := n9_; have HO863 := n10_; have HO866 := n11_; have BK830 := n12_; have BK846 := n13_; have HB := n14_; have BK868 := n15_; have GW868 := n16_; have GE868 := n17_; have NB830_868 := n18_; have NB868_830 := n19_; have NB846_868 := n20_; have NB868_846 := n21_; clear n0_ n1_ n2_ n3_ n4_ n5_ n6_ n7_ n8_ n9_ n10_ n11_ n12_ n13_ n14_ n15_ n16_ n17_ n18_ n19_ n20_ n21_; clear hb hbox hg; have hnb49 := NB868_830.out; have hnc49 := NB830_868.out; have hnb50 := NB868_846.out; have hnc50 := NB846_868.out; have hcz51_0 : w48.cell? ⟨gb868, 0, none⟩ = some (.int .i64 0) := (blk_cell BK868.out 0).trans rfl; have hcz51_1 : w48.cell? ⟨gb868, 1, none⟩ = some (.int .i64 0) := (blk_cell BK868.out 1).trans rfl; have hcz51_2 : w48.cell? ⟨gb868, 2, none⟩ = some (.slice none 0 0) := (blk_cell BK868.out 2).trans rfl; have hcz51_3 : w48.cell? ⟨gb868, 3, none⟩ = some (.slice none 0 0) := (blk_cell BK868.out 3).trans rfl; have hcz51_4 : w48.cell? ⟨gb868, 4, none⟩ = some (.slice none 0 0) := (blk_cell BK868.out 4).trans rfl; have hcz51_5 : w48.cell? ⟨gb868, 5, none⟩ = some (.slice none 0 0) := (blk_cell BK868.out 5).trans rfl; have hfz51_0 := blk_frozen BK868.out 0; have hfz51_1 := blk_frozen BK868.out 1; have hfz51_2 := blk_frozen BK868.out 2; have hfz51_3 := blk_frozen BK868.out 3; have hfz51_4 := blk_frozen BK868.out 4; have hfz51_5 := blk_frozen BK868.out 5; obtain ⟨Ao52, co52, eo52⟩ := Kd.R_slice HO857.out; subst eo52; obtain ⟨Ao53, co53, eo53⟩ := Kd.R_slice HO860.out; subst eo53; obtain ⟨Ao54, co54, eo54⟩ := Kd.R_slice HO863.out; subst eo54; obtain ⟨Ao55, co55, eo55⟩ := Kd.R_slice HO866.out; subst eo55))
      (try simp only [Act.put, List.setIfInBounds_toArray, List.set_cons_zero, List.set_cons_succ])
      go_cut [54] (fun v54 wc => ∃ (kq : Nat) (x54_40 : Bool), v54 = .bool x54_40 ∧ Aside0 (laws_FnExactClientNew.j1 kq t848 x54_40 t831 t832 t849 t836 t850 t851 = some r) ∧ Aside0 (kq ≤ kj3) ∧ Aside0 (Kd.R k117 117 wc w.heap.size (fun k_ => some k_ ≠ ((.slice Ao16 t833.length co16) : Value).ownBlock ∧ some k_ ≠ ((.slice Ao52 t855.length co52) : Value).ownBlock) (.slice Ao8 t817.length co8) t817) ∧ Aside0 (Kd.R k119 119 wc w.heap.size (fun k_ => some k_ ≠ ((.slice Ao17 t836.length co17) : Value).ownBlock ∧ some k_ ≠ ((.slice Ao53 t858.length co53) : Value).ownBlock) (.slice Ao9 t820.length co9) t820) ∧ Aside0 (Kd.R k125 125 wc w.heap.size (fun k_ => some k_ ≠ ((.slice Ao11 t826.length co11) : Value).ownBlock ∧ some k_ ≠ ((.slice Ao18 t839.length co18) : Value).ownBlock ∧ some k_ ≠ ((.slice Ao19 t842.length co19) : Value).ownBlock ∧ some k_ ≠ ((.slice Ao54 t861.length co54) : Value).ownBlock ∧ some k_ ≠ ((.slice Ao55 t864.length co55) : Value).ownBlock) (.slice Ao10 t823.length co10) t823) ∧ Aside0 (Kd.R k125 125 wc w.heap.size (fun k_ => some k_ ≠ ((.slice Ao10 t823.length co10) : Value).ownBlock ∧ some k_ ≠ ((.slice Ao18 t839.length co18) : Value).ownBlock ∧ some k_ ≠ ((.slice Ao19 t842.length co19) : Value).ownBlock ∧ some k_ ≠ ((.slice Ao54 t861.length co54) : Value).ownBlock ∧ some k_ ≠ ((.slice Ao55 t864.length co55) : Value).ownBlock) (.slice Ao11 t826.length co11) t826) ∧ Aside0 (Kd.R k117 117 wc w.heap.size (fun k_ => some k_ ≠ ((.slice Ao8 t817.length co8) : Value).ownBlock ∧ some k_ ≠ ((.slice Ao52 t855.length co52) : Value).ownBlock) (.slice Ao16 t833.length co16) t849) ∧ Aside0 (Kd.R k119 119 wc w.heap.size (fun k_ => some k_ ≠ ((.slice Ao9 t820.length co9) : Value).ownBlock ∧ some k_ ≠ ((.slice Ao53 t858.length co53) : Value).ownBlock) (.slice Ao17 t836.length co17) t836) ∧ Aside0 (Kd.R k125 125 wc w.heap.size (fun k_ => some k_ ≠ ((.slice Ao10 t823.length co10) : Value).ownBlock ∧ some k_ ≠ ((.slice Ao11 t826.length co11) : Value).ownBlock ∧ some k_ ≠ ((.slice Ao19 t842.length co19) : Value).ownBlock ∧ some k_ ≠ ((.slice Ao54 t861.length co54) : Value).ownBlock ∧ some k_ ≠ ((.slice Ao55 t864.length co55) : Value).ownBlock) (.slice Ao18 t839.length co18) t850) ∧ Aside0 (Kd.R k125 125 wc w.heap.size (fun k_ => some k_ ≠ ((.slice Ao10 t823.length co10) : Value).ownBlock ∧ some k_ ≠ ((.slice Ao11 t826.length co11) : Value).ownBlock ∧ some k_ ≠ ((.slice Ao18 t839.length co18) : Value).ownBlock ∧ some k_ ≠ ((.slice Ao54 t861.length co54) : Value).ownBlock ∧ some k_ ≠ ((.slice Ao55 t864.length co55) : Value).ownBlock) (.slice Ao19 t842.length co19) t851) ∧ Aside0 (Kd.R k117 117 wc w.heap.size (fun k_ => some k_ ≠ ((.slice Ao8 t817.length co8) : Value).ownBlock ∧ some k_ ≠ ((.slice Ao16 t833.length co16) : Value).ownBlock) (.slice Ao52 t855.length co52) t855) ∧ Aside0 (Kd.R k119 119 wc w.heap.size (fun k_ => some k_ ≠ ((.slice Ao9 t820.length co9) : Value).ownBlock ∧ some k_ ≠ ((.slice Ao17 t836.length co17) : Value).ownBlock) (.slice Ao53 t858.length co53) t858) ∧ Aside0 (Kd.R k125 125 wc w.heap.size (fun k_ => some k_ ≠ ((.slice Ao10 t823.length co10) : Value).ownBlock ∧ some k_ ≠ ((.slice Ao11 t826.length co11) : Value).ownBlock ∧ some k_ ≠ ((.slice Ao18 t839.length co18) : Value).ownBlock ∧ some k_ ≠ ((.slice Ao19 t842.length co19) : Value).ownBlock ∧ some k_ ≠ ((.slice Ao55 t864.length co55) : Value).ownBlock) (.slice Ao54 t861.length co54) t861) ∧ Aside0 (Kd.R k125 125 wc w.heap.size (fun k_ => some k_ ≠ ((.slice Ao10 t823.length co10) : Value).ownBlock ∧ some k_ ≠ ((.slice Ao11 t826.length co11) : Value).ownBlock ∧ some k_ ≠ ((.slice Ao18 t839.length co18) : Value).ownBlock ∧ some k_ ≠ ((.slice Ao19 t842.length co19) : Value).ownBlock ∧ some k_ ≠ ((.slice Ao54 t861.length co54) : Value).ownBlock) (.slice Ao55 t864.length co55) t864) ∧ Aside0 (wc.heap[gb830]? = some (.cells #[.int .i64 t815, .int .i64 t816, (.slice Ao8 t817.length co8), (.slice Ao9 t820.length co9), (.slice Ao10 t823.length co10), (.slice Ao11 t826.length co11)] 46 (0, 0))) ∧ Aside0 (wc.heap[gb846]? = some (.cells #[.int .i64 t831, .int .i64 t832, (.slice Ao16 t833.length co16), (.slice Ao17 t836.length co17), (.slice Ao18 t839.length co18), (.slice Ao19 t842.length co19)] 46 (0, 0))) ∧ Aside0 (wc.heap[gb868]? = some (.cells #[.int .i64 t853, .int .i64 t854, (.slice Ao52 t855.length co52), (.slice Ao53 t858.length co53), (.slice Ao54 t861.length co54), (.slice Ao55 t864.length co55)] 46 (0, 0))) ∧ Aside0 (Below w.heap.size w wc))
      case first =>
       have H := HC41.out
       clear HC41
       replace H := Option.bind_eq_some_iff.mp H
       obtain ⟨t869, A560, H⟩ := H
       replace H : (if t869 = true then (laws_FnExactClientNew.j1 kj3 t848 (t867 != t829) t831 t832 t849 t836 t850 t851) else (laws_FnExactClientNew.j1 kj3 t848 true t831 t832 t849 t836 t850 t851)) = some r := H
       have A56 := Aside0.mk A560
       clear A560
       by_cases c57 : t869 = true
       ·subst c57
        rw [if_pos rfl] at H
        have H' := Aside0.mk H
        clear H
        have hnb58 := NB868_830.out
        have hnc58 := NB830_868.out
        have hnb59 := NB868_846.out
        have hnc59 := NB846_868.out
        have hcz60_0 : w48.cell? ⟨gb868, 0, none⟩ = some (.int .i64 0) := (blk_cell BK868.out 0).trans rfl
        have hcz60_1 : w48.cell? ⟨gb868, 1, none⟩ = some (.int .i64 0) := (blk_cell BK868.out 1).trans rfl
        have hcz60_2 : w48.cell? ⟨gb868, 2, none⟩ = some (.slice none 0 0) := (blk_cell BK868.out 2).trans rfl
        have hcz60_3 : w48.cell? ⟨gb868, 3, none⟩ = some (.slice none 0 0) := (blk_cell BK868.out 3).trans rfl
        have hcz60_4 : w48.cell? ⟨gb868, 4, none⟩ = some (.slice none 0 0) := (blk_cell BK868.out 4).trans rfl
        have hcz60_5 : w48.cell? ⟨gb868, 5, none⟩ = some (.slice none 0 0) := (blk_cell BK868.out 5).trans rfl
        have hfz60_0 := blk_frozen BK868.out 0
        have hfz60_1 := blk_frozen BK868.out 1
        have hfz60_2 := blk_frozen BK868.out 2
        have hfz60_3 := blk_frozen BK868.out 3
        have hfz60_4 := blk_frozen BK868.out 4
        have hfz60_5 := blk_frozen BK868.out 5
        have hnb61 := NB830_846.out
        have hnc61 := NB846_830.out
        have hcz62_0 : w48.cell? ⟨gb830, 0, none⟩ = some (.int .i64 t815) := (blk_cell BK830.out 0).trans rfl
        have hcz62_1 : w48.cell? ⟨gb830, 1, none⟩ = some (.int .i64 t816) := (blk_cell BK830.out 1).trans rfl
        have hcz62_2 : w48.cell? ⟨gb830, 2, none⟩ = some (.slice Ao8 t817.length co8) := (blk_cell BK830.out 2).trans rfl
        have hcz62_3 : w48.cell? ⟨gb830, 3, none⟩ = some (.slice Ao9 t820.length co9) := (blk_cell BK830.out 3).trans rfl
        have hcz62_4 : w48.cell? ⟨gb830, 4, none⟩ = some (.slice Ao10 t823.length co10) := (blk_cell BK830.out 4).trans rfl
        have hcz62_5 : w48.cell? ⟨gb830, 5, none⟩ = some (.slice Ao11 t826.length co11) := (blk_cell BK830.out 5).trans rfl
        have hfz62_0 := blk_frozen BK830.out 0
        have hfz62_1 := blk_frozen BK830.out 1
        have hfz62_2 := blk_frozen BK830.out 2
        have hfz62_3 := blk_frozen BK830.out 3
        have hfz62_4 := blk_frozen BK830.out 4
        have hfz62_5 := blk_frozen BK830.out 5
        go_wp2_with (first | ((with_reducible refine gate_callee (f := 51) rfl ?_); refine goesL_ (some 48) rfl rfl Try.func51 (by kernel_rfl) rfl #[.agg #[.int .i64 t853, .int .i64 t854, .slice Ao52 t855.length co52, .slice Ao53 t858.length co53, .slice Ao54 t861.length co54, .slice Ao55 t864.length co55], .agg #[.int .i64 t815, .int .i64 t816, .slice Ao8 t817.length co8, .slice Ao9 t820.length co9, .slice Ao10 t823.length co10, .slice Ao11 t826.length co11]] rfl z74x37 ?_; (with_reducible refine (laws_eqClient.calls kj3 t853 t854 _ _ t855 _ _ t858 _ _ t861 _ _ t864 t815 t816 _ _ t817 _ _ t820 _ _ t823 _ _ t826 true _ ?side1 ?side2 ?side3 ?side4 ?side5 ?side6 ?side7 ?side8 ?side9 ?side10 ?side11 ?side12 ?side13 ?side14 ?side15 ?side16 A56.out).mono ?_); (case side1 => refine (Kd.R_reads' (e := 117) (base := w.heap.size) (ok := fun k_ => ((True ∧ some k_ ≠ (.slice Ao8 t817.length co8 : Value).ownBlock) ∧ some k_ ≠ (.slice Ao16 t833.length co16 : Value).ownBlock)) (n := t855.length) (c := co52) ?_).2.2; exact z74x21); (case side2 => exact (Kd.R_reads' HO857.out).2.1); (case side3 => refine (Kd.R_reads' (e := 119) (base := w.heap.size) (ok := fun k_ => ((True ∧ some k_ ≠ (.slice Ao9 t820.length co9 : Value).ownBlock) ∧ some k_ ≠ (.slice Ao17 t836.length co17 : Value).ownBlock)) (n := t858.length) (c := co53) ?_).2.2; exact z74x22); (case side4 => exact (Kd.R_reads' HO860.out).2.1); (case side5 => refine (Kd.R_reads' (e := 125) (base := w.heap.size) (ok := fun k_ => ((((some k_ ≠ (.slice Ao55 t864.length co55 : Value).ownBlock ∧ some k_ ≠ (.slice Ao10 t823.length co10 : Value).ownBlock) ∧ some k_ ≠ (.slice Ao11 t826.length co11 : Value).ownBlock) ∧ some k_ ≠ (.slice Ao18 t839.length co18 : Value).ownBlock) ∧ some k_ ≠ (.slice Ao19 t842.length co19 : Value).ownBlock)) (n := t861.length) (c := co54) ?_).2.2; exact z74x23); (case side6 => exact (Kd.R_reads' HO863.out).2.1); (case side7 => refine (Kd.R_reads' (e := 125) (base := w.heap.size) (ok := fun k_ => ((((some k_ ≠ (.slice Ao54 t861.length co54 : Value).ownBlock ∧ some k_ ≠ (.slice Ao10 t823.length co10 : Value).ownBlock) ∧ some k_ ≠ (.slice Ao11 t826.length co11 : Value).ownBlock) ∧ some k_ ≠ (.slice Ao18 t839.length co18 : Value).ownBlock) ∧ some k_ ≠ (.slice Ao19 t842.length co19 : Value).ownBlock)) (n := t864.length) (c := co55) ?_).2.2; exact z74x24); (case side8 => exact (Kd.R_reads' HO866.out).2.1); (case side9 => refine (Kd.R_reads' (e := 117) (base := w.heap.size) (ok := fun k_ => (some k_ ≠ (.slice Ao16 t833.length co16 : Value).ownBlock ∧ some k_ ≠ (.slice Ao52 t855.length co52 : Value).ownBlock)) (n := t817.length) (c := co8) ?_).2.2; exact z74x5); (case side10 => exact (Kd.R_reads' HO_831002.out).2.1); (case side11 => refine (Kd.R_reads' (e := 119) (base := w.heap.size) (ok := fun k_ => (some k_ ≠ (.slice Ao17 t836.length co17 : Value).ownBlock ∧ some k_ ≠ (.slice Ao53 t858.length co53 : Value).ownBlock)) (n := t820.length) (c := co9) ?_).2.2; exact z74x6); (case side12 => exact (Kd.R_reads' HO_831003.out).2.1); (case side13 => refine (Kd.R_reads' (e := 125) (base := w.heap.size) (ok := fun k_ => (((some k_ ≠ (.slice Ao11 t826.length co11 : Value).ownBlock ∧ (some k_ ≠ (.slice Ao18 t839.length co18 : Value).ownBlock ∧ some k_ ≠ (.slice Ao19 t842.length co19 : Value).ownBlock)) ∧ some k_ ≠ (.slice Ao54 t861.length co54 : Value).ownBlock) ∧ some k_ ≠ (.slice Ao55 t864.length co55 : Value).ownBlock)) (n := t823.length) (c := co10) ?_).2.2; exact z74x7); (case side14 => exact (Kd.R_reads' HO_831004.out).2.1); (case side15 => refine (Kd.R_reads' (e := 125) (base := w.heap.size) (ok := fun k_ => (((some k_ ≠ (.slice Ao10 t823.length co10 : Value).ownBlock ∧ (some k_ ≠ (.slice Ao18 t839.length co18 : Value).ownBlock ∧ some k_ ≠ (.slice Ao19 t842.length co19 : Value).ownBlock)) ∧ some k_ ≠ (.slice Ao54 t861.length co54 : Value).ownBlock) ∧ some k_ ≠ (.slice Ao55 t864.length co55 : Value).ownBlock)) (n := t826.length) (c := co11) ?_).2.2; exact z74x8); (case side16 => exact (Kd.R_reads' HO_831005.out).2.1); rintro e w63 ⟨rfl, hb⟩; refine ⟨_, rfl, ?_⟩; have n0_ := Aside0.mk (Kd.R_below z74x5 hb); have n1_ := Aside0.mk (Kd.R_below z74x6 hb); have n2_ := Aside0.mk (Kd.R_below z74x7 hb); have n3_ := Aside0.mk (Kd.R_below z74x8 hb); have n4_ := Aside0.mk (Kd.R_below z74x9 hb); have n5_ := Aside0.mk (Kd.R_below z74x10 hb); have n6_ := Aside0.mk (Kd.R_below z74x11 hb); have n7_ := Aside0.mk (Kd.R_below z74x12 hb); have n8_ := Aside0.mk (Kd.R_below z74x21 hb); have n9_ := Aside0.mk (Kd.R_below z74x22 hb); have n10_ := Aside0.mk (Kd.R_below z74x23 hb); have n11_ := Aside0.mk (Kd.R_below z74x24 hb); have n12_ := Aside0.mk (blk_below (g := gb830) (o := .cells #[.int .i64 t815, .int .i64 t816, .slice Ao8 t817.length co8, .slice Ao9 t820.length co9, .slice Ao10 t823.length co10, .slice Ao11 t826.length co11] 46 (0, 0)) z74x3 hb); have n13_ := Aside0.mk (blk_below (g := gb846) (o := .cells #[.int .i64 t831, .int .i64 t832, .slice Ao16 t833.length co16, .slice Ao17 t836.length co17, .slice Ao18 t839.length co18, .slice Ao19 t842.length co19] 46 (0, 0)) z74x4 hb); have n14_ := Aside0.mk (blk_below (g := gb868) (o := .cells #[.int .i64 t853, .int .i64 t854, .slice Ao52 t855.length co52, .slice Ao53 t858.length co53, .slice Ao54 t861.length co54, .slice Ao55 t864.length co55] 46 (0, 0)) z74x1 hb); have n15_ := Aside0.mk (below_step z74x32 hb); clear HO_831002; clear HO_831003; clear HO_831004; clear HO_831005; clear HO_847002; clear HO_847003; clear HO_847004; clear HO_847005; clear HO857; clear HO860; clear HO863; clear HO866; clear BK830; clear BK846; clear BK868; clear HB; have HO_831002 := n0_; have HO_831003 := n1_; have HO_831004 := n2_; have HO_831005 := n3_; have HO_847002 := n4_; have HO_847003 := n5_; have HO_847004 := n6_; have HO_847005 := n7_; have HO857 := n8_; have HO860 := n9_; have HO863 := n10_; have HO866 := n11_; have BK830 := n12_; have BK846 := n13_; have BK868 := n14_; have HB := n15_; clear n0_ n1_ n2_ n3_ n4_ n5_ n6_ n7_ n8_ n9_ n10_ n11_ n12_ n13_ n14_ n15_; (try clear hb); (try clear hb2); (try clear hk); (try clear hi)))
        go_meet
        case rel => exact ⟨_, ((t867 != t829)), (by first | rfl | (simp; done) | (simp [*]; done)), H', ⟨by have := HJ3.out; first | omega | exact Nat.le_refl _⟩, ⟨by (with_reducible repeat (first | apply Kd.R_alloc | apply Kd.R_drewN | apply Kd.R_drew)); exact HO_831002.out⟩, ⟨by (with_reducible repeat (first | apply Kd.R_alloc | apply Kd.R_drewN | apply Kd.R_drew)); exact HO_831003.out⟩, ⟨by (with_reducible repeat (first | apply Kd.R_alloc | apply Kd.R_drewN | apply Kd.R_drew)); exact Kd.R_mono HO_831004.out (fun _ hk => ⟨hk.1.1.1, ⟨hk.1.1.2.1, ⟨hk.1.1.2.2, ⟨hk.1.2, hk.2⟩⟩⟩⟩)⟩, ⟨by (with_reducible repeat (first | apply Kd.R_alloc | apply Kd.R_drewN | apply Kd.R_drew)); exact Kd.R_mono HO_831005.out (fun _ hk => ⟨hk.1.1.1, ⟨hk.1.1.2.1, ⟨hk.1.1.2.2, ⟨hk.1.2, hk.2⟩⟩⟩⟩)⟩, ⟨by (with_reducible repeat (first | apply Kd.R_alloc | apply Kd.R_drewN | apply Kd.R_drew)); exact HO_847002.out⟩, ⟨by (with_reducible repeat (first | apply Kd.R_alloc | apply Kd.R_drewN | apply Kd.R_drew)); exact HO_847003.out⟩, ⟨by (with_reducible repeat (first | apply Kd.R_alloc | apply Kd.R_drewN | apply Kd.R_drew)); exact Kd.R_mono HO_847004.out (fun _ hk => ⟨hk.1.1.1, ⟨hk.1.1.2.1, ⟨hk.1.1.2.2, ⟨hk.1.2, hk.2⟩⟩⟩⟩)⟩, ⟨by (with_reducible repeat (first | apply Kd.R_alloc | apply Kd.R_drewN | apply Kd.R_drew)); exact Kd.R_mono HO_847005.out (fun _ hk => ⟨hk.1.1.1, ⟨hk.1.1.2.1, ⟨hk.1.1.2.2, ⟨hk.1.2, hk.2⟩⟩⟩⟩)⟩, ⟨by (with_reducible repeat (first | apply Kd.R_alloc | apply Kd.R_drewN | apply Kd.R_drew)); exact Kd.R_mono HO857.out (fun _ hk => ⟨hk.1.2, hk.2⟩)⟩, ⟨by (with_reducible repeat (first | apply Kd.R_alloc | apply Kd.R_drewN | apply Kd.R_drew)); exact Kd.R_mono HO860.out (fun _ hk => ⟨hk.1.2, hk.2⟩)⟩, ⟨by (with_reducible repeat (first | apply Kd.R_alloc | apply Kd.R_drewN | apply Kd.R_drew)); exact Kd.R_mono HO863.out (fun _ hk => ⟨hk.1.1.1.2, ⟨hk.1.1.2, ⟨hk.1.2, ⟨hk.2, hk.1.1.1.1⟩⟩⟩⟩)⟩, ⟨by (with_reducible repeat (first | apply Kd.R_alloc | apply Kd.R_drewN | apply Kd.R_drew)); exact Kd.R_mono HO866.out (fun _ hk => ⟨hk.1.1.1.2, ⟨hk.1.1.2, ⟨hk.1.2, ⟨hk.2, hk.1.1.1.1⟩⟩⟩⟩)⟩, ⟨by (with_reducible repeat (first | refine blk_drewN ?_ _ | refine blk_drew ?_ | refine blk_alloc ?_ _)); exact BK830.out⟩, ⟨by (with_reducible repeat (first | refine blk_drewN ?_ _ | refine blk_drew ?_ | refine blk_alloc ?_ _)); exact BK846.out⟩, ⟨by (with_reducible repeat (first | refine blk_drewN ?_ _ | refine blk_drew ?_ | refine blk_alloc ?_ _)); exact BK868.out⟩, ⟨by repeat (first | (with_reducible first | exact HB.out | apply below_alloc | apply pw_below_drewN | apply below_drew1 | refine below_set ?_ GE830.out | refine below_set ?_ GE846.out | refine below_set ?_ GE868.out) | exact HB.out)⟩⟩
       ·replace c57 := Bool.eq_false_iff.mpr c57
        subst c57
        rw [if_neg (show ¬ (false = true) by decide)] at H
        have H' := Aside0.mk H
        clear H
        have hnb64 := NB868_830.out
        have hnc64 := NB830_868.out
        have hnb65 := NB868_846.out
        have hnc65 := NB846_868.out
        have hcz66_0 : w48.cell? ⟨gb868, 0, none⟩ = some (.int .i64 0) := (blk_cell BK868.out 0).trans rfl
        have hcz66_1 : w48.cell? ⟨gb868, 1, none⟩ = some (.int .i64 0) := (blk_cell BK868.out 1).trans rfl
        have hcz66_2 : w48.cell? ⟨gb868, 2, none⟩ = some (.slice none 0 0) := (blk_cell BK868.out 2).trans rfl
        have hcz66_3 : w48.cell? ⟨gb868, 3, none⟩ = some (.slice none 0 0) := (blk_cell BK868.out 3).trans rfl
        have hcz66_4 : w48.cell? ⟨gb868, 4, none⟩ = some (.slice none 0 0) := (blk_cell BK868.out 4).trans rfl
        have hcz66_5 : w48.cell? ⟨gb868, 5, none⟩ = some (.slice none 0 0) := (blk_cell BK868.out 5).trans rfl
        have hfz66_0 := blk_frozen BK868.out 0
        have hfz66_1 := blk_frozen BK868.out 1
        have hfz66_2 := blk_frozen BK868.out 2
        have hfz66_3 := blk_frozen BK868.out 3
        have hfz66_4 := blk_frozen BK868.out 4
        have hfz66_5 := blk_frozen BK868.out 5
        have hnb67 := NB830_846.out
        have hnc67 := NB846_830.out
        have hcz68_0 : w48.cell? ⟨gb830, 0, none⟩ = some (.int .i64 t815) := (blk_cell BK830.out 0).trans rfl
        have hcz68_1 : w48.cell? ⟨gb830, 1, none⟩ = some (.int .i64 t816) := (blk_cell BK830.out 1).trans rfl
        have hcz68_2 : w48.cell? ⟨gb830, 2, none⟩ = some (.slice Ao8 t817.length co8) := (blk_cell BK830.out 2).trans rfl
        have hcz68_3 : w48.cell? ⟨gb830, 3, none⟩ = some (.slice Ao9 t820.length co9) := (blk_cell BK830.out 3).trans rfl
        have hcz68_4 : w48.cell? ⟨gb830, 4, none⟩ = some (.slice Ao10 t823.length co10) := (blk_cell BK830.out 4).trans rfl
        have hcz68_5 : w48.cell? ⟨gb830, 5, none⟩ = some (.slice Ao11 t826.length co11) := (blk_cell BK830.out 5).trans rfl
        have hfz68_0 := blk_frozen BK830.out 0
        have hfz68_1 := blk_frozen BK830.out 1
        have hfz68_2 := blk_frozen BK830.out 2
        have hfz68_3 := blk_frozen BK830.out 3
        have hfz68_4 := blk_frozen BK830.out 4
        have hfz68_5 := blk_frozen BK830.out 5
        go_wp2_with (first | ((with_reducible refine gate_callee (f := 51) rfl ?_); refine goesL_ (some 48) rfl rfl Try.func51 (by kernel_rfl) rfl #[.agg #[.int .i64 t853, .int .i64 t854, .slice Ao52 t855.length co52, .slice Ao53 t858.length co53, .slice Ao54 t861.length co54, .slice Ao55 t864.length co55], .agg #[.int .i64 t815, .int .i64 t816, .slice Ao8 t817.length co8, .slice Ao9 t820.length co9, .slice Ao10 t823.length co10, .slice Ao11 t826.length co11]] rfl z74x37 ?_; (with_reducible refine (laws_eqClient.calls kj3 t853 t854 _ _ t855 _ _ t858 _ _ t861 _ _ t864 t815 t816 _ _ t817 _ _ t820 _ _ t823 _ _ t826 false _ ?side1 ?side2 ?side3 ?side4 ?side5 ?side6 ?side7 ?side8 ?side9 ?side10 ?side11 ?side12 ?side13 ?side14 ?side15 ?side16 A56.out).mono ?_); (case side1 => refine (Kd.R_reads' (e := 117) (base := w.heap.size) (ok := fun k_ => ((True ∧ some k_ ≠ (.slice Ao8 t817.length co8 : Value).ownBlock) ∧ some k_ ≠ (.slice Ao16 t833.length co16 : Value).ownBlock)) (n := t855.length) (c := co52) ?_).2.2; exact z74x21); (case side2 => exact (Kd.R_reads' HO857.out).2.1); (case side3 => refine (Kd.R_reads' (e := 119) (base := w.heap.size) (ok := fun k_ => ((True ∧ some k_ ≠ (.slice Ao9 t820.length co9 : Value).ownBlock) ∧ some k_ ≠ (.slice Ao17 t836.length co17 : Value).ownBlock)) (n := t858.length) (c := co53) ?_).2.2; exact z74x22); (case side4 => exact (Kd.R_reads' HO860.out).2.1); (case side5 => refine (Kd.R_reads' (e := 125) (base := w.heap.size) (ok := fun k_ => ((((some k_ ≠ (.slice Ao55 t864.length co55 : Value).ownBlock ∧ some k_ ≠ (.slice Ao10 t823.length co10 : Value).ownBlock) ∧ some k_ ≠ (.slice Ao11 t826.length co11 : Value).ownBlock) ∧ some k_ ≠ (.slice Ao18 t839.length co18 : Value).ownBlock) ∧ some k_ ≠ (.slice Ao19 t842.length co19 : Value).ownBlock)) (n := t861.length) (c := co54) ?_).2.2; exact z74x23); (case side6 => exact (Kd.R_reads' HO863.out).2.1); (case side7 => refine (Kd.R_reads' (e := 125) (base := w.heap.size) (ok := fun k_ => ((((some k_ ≠ (.slice Ao54 t861.length co54 : Value).ownBlock ∧ some k_ ≠ (.slice Ao10 t823.length co10 : Value).ownBlock) ∧ some k_ ≠ (.slice Ao11 t826.length co11 : Value).ownBlock) ∧ some k_ ≠ (.slice Ao18 t839.length co18 : Value).ownBlock) ∧ some k_ ≠ (.slice Ao19 t842.length co19 : Value).ownBlock)) (n := t864.length) (c := co55) ?_).2.2; exact z74x24); (case side8 => exact (Kd.R_reads' HO866.out).2.1); (case side9 => refine (Kd.R_reads' (e := 117) (base := w.heap.size) (ok := fun k_ => (some k_ ≠ (.slice Ao16 t833.length co16 : Value).ownBlock ∧ some k_ ≠ (.slice Ao52 t855.length co52 : Value).ownBlock)) (n := t817.length) (c := co8) ?_).2.2; exact z74x5); (case side10 => exact (Kd.R_reads' HO_831002.out).2.1); (case side11 => refine (Kd.R_reads' (e := 119) (base := w.heap.size) (ok := fun k_ => (some k_ ≠ (.slice Ao17 t836.length co17 : Value).ownBlock ∧ some k_ ≠ (.slice Ao53 t858.length co53 : Value).ownBlock)) (n := t820.length) (c := co9) ?_).2.2; exact z74x6); (case side12 => exact (Kd.R_reads' HO_831003.out).2.1); (case side13 => refine (Kd.R_reads' (e := 125) (base := w.heap.size) (ok := fun k_ => (((some k_ ≠ (.slice Ao11 t826.length co11 : Value).ownBlock ∧ (some k_ ≠ (.slice Ao18 t839.length co18 : Value).ownBlock ∧ some k_ ≠ (.slice Ao19 t842.length co19 : Value).ownBlock)) ∧ some k_ ≠ (.slice Ao54 t861.length co54 : Value).ownBlock) ∧ some k_ ≠ (.slice Ao55 t864.length co55 : Value).ownBlock)) (n := t823.length) (c := co10) ?_).2.2; exact z74x7); (case side14 => exact (Kd.R_reads' HO_831004.out).2.1); (case side15 => refine (Kd.R_reads' (e := 125) (base := w.heap.size) (ok := fun k_ => (((some k_ ≠ (.slice Ao10 t823.length co10 : Value).ownBlock ∧ (some k_ ≠ (.slice Ao18 t839.length co18 : Value).ownBlock ∧ some k_ ≠ (.slice Ao19 t842.length co19 : Value).ownBlock)) ∧ some k_ ≠ (.slice Ao54 t861.length co54 : Value).ownBlock) ∧ some k_ ≠ (.slice Ao55 t864.length co55 : Value).ownBlock)) (n := t826.length) (c := co11) ?_).2.2; exact z74x8); (case side16 => exact (Kd.R_reads' HO_831005.out).2.1); rintro e w69 ⟨rfl, hb⟩; refine ⟨_, rfl, ?_⟩; have n0_ := Aside0.mk (Kd.R_below z74x5 hb); have n1_ := Aside0.mk (Kd.R_below z74x6 hb); have n2_ := Aside0.mk (Kd.R_below z74x7 hb); have n3_ := Aside0.mk (Kd.R_below z74x8 hb); have n4_ := Aside0.mk (Kd.R_below z74x9 hb); have n5_ := Aside0.mk (Kd.R_below z74x10 hb); have n6_ := Aside0.mk (Kd.R_below z74x11 hb); have n7_ := Aside0.mk (Kd.R_below z74x12 hb); have n8_ := Aside0.mk (Kd.R_below z74x21 hb); have n9_ := Aside0.mk (Kd.R_below z74x22 hb); have n10_ := Aside0.mk (Kd.R_below z74x23 hb); have n11_ := Aside0.mk (Kd.R_below z74x24 hb); have n12_ := Aside0.mk (blk_below (g := gb830) (o := .cells #[.int .i64 t815, .int .i64 t816, .slice Ao8 t817.length co8, .slice Ao9 t820.length co9, .slice Ao10 t823.length co10, .slice Ao11 t826.length co11] 46 (0, 0)) z74x3 hb); have n13_ := Aside0.mk (blk_below (g := gb846) (o := .cells #[.int .i64 t831, .int .i64 t832, .slice Ao16 t833.length co16, .slice Ao17 t836.length co17, .slice Ao18 t839.length co18, .slice Ao19 t842.length co19] 46 (0, 0)) z74x4 hb); have n14_ := Aside0.mk (blk_below (g := gb868) (o := .cells #[.int .i64 t853, .int .i64 t854, .slice Ao52 t855.length co52, .slice Ao53 t858.length co53, .slice Ao54 t861.length co54, .slice Ao55 t864.length co55] 46 (0, 0)) z74x1 hb); have n15_ := Aside0.mk (below_step z74x32 hb); clear HO_831002; clear HO_831003; clear HO_831004; clear HO_831005; clear HO_847002; clear HO_847003; clear HO_847004; clear HO_847005; clear HO857; clear HO860; clear HO863; clear HO866; clear BK830; clear BK846; clear BK868; clear HB; have HO_831002 := n0_; have HO_831003 := n1_; have HO_831004 := n2_; have HO_831005 := n3_; have HO_847002 := n4_; have HO_847003 := n5_; have HO_847004 := n6_; have HO_847005 := n7_; have HO857 := n8_; have HO860 := n9_; have HO863 := n10_; have HO866 := n11_; have BK830 := n12_; have BK846 := n13_; have BK868 := n14_; have HB := n15_; clear n0_ n1_ n2_ n3_ n4_ n5_ n6_ n7_ n8_ n9_ n10_ n11_ n12_ n13_ n14_ n15_; (try clear hb); (try clear hb2); (try clear hk); (try clear hi)))
        go_meet
        case rel => exact ⟨_, (true), (by first | rfl | (simp; done) | (simp [*]; done)), H', ⟨by have := HJ3.out; first | omega | exact Nat.le_refl _⟩, ⟨by (with_reducible repeat (first | apply Kd.R_alloc | apply Kd.R_drewN | apply Kd.R_drew)); exact HO_831002.out⟩, ⟨by (with_reducible repeat (first | apply Kd.R_alloc | apply Kd.R_drewN | apply Kd.R_drew)); exact HO_831003.out⟩, ⟨by (with_reducible repeat (first | apply Kd.R_alloc | apply Kd.R_drewN | apply Kd.R_drew)); exact Kd.R_mono HO_831004.out (fun _ hk => ⟨hk.1.1.1, ⟨hk.1.1.2.1, ⟨hk.1.1.2.2, ⟨hk.1.2, hk.2⟩⟩⟩⟩)⟩, ⟨by (with_reducible repeat (first | apply Kd.R_alloc | apply Kd.R_drewN | apply Kd.R_drew)); exact Kd.R_mono HO_831005.out (fun _ hk => ⟨hk.1.1.1, ⟨hk.1.1.2.1, ⟨hk.1.1.2.2, ⟨hk.1.2, hk.2⟩⟩⟩⟩)⟩, ⟨by (with_reducible repeat (first | apply Kd.R_alloc | apply Kd.R_drewN | apply Kd.R_drew)); exact HO_847002.out⟩, ⟨by (with_reducible repeat (first | apply Kd.R_alloc | apply Kd.R_drewN | apply Kd.R_drew)); exact HO_847003.out⟩, ⟨by (with_reducible repeat (first | apply Kd.R_alloc | apply Kd.R_drewN | apply Kd.R_drew)); exact Kd.R_mono HO_847004.out (fun _ hk => ⟨hk.1.1.1, ⟨hk.1.1.2.1, ⟨hk.1.1.2.2, ⟨hk.1.2, hk.2⟩⟩⟩⟩)⟩, ⟨by (with_reducible repeat (first | apply Kd.R_alloc | apply Kd.R_drewN | apply Kd.R_drew)); exact Kd.R_mono HO_847005.out (fun _ hk => ⟨hk.1.1.1, ⟨hk.1.1.2.1, ⟨hk.1.1.2.2, ⟨hk.1.2, hk.2⟩⟩⟩⟩)⟩, ⟨by (with_reducible repeat (first | apply Kd.R_alloc | apply Kd.R_drewN | apply Kd.R_drew)); exact Kd.R_mono HO857.out (fun _ hk => ⟨hk.1.2, hk.2⟩)⟩, ⟨by (with_reducible repeat (first | apply Kd.R_alloc | apply Kd.R_drewN | apply Kd.R_drew)); exact Kd.R_mono HO860.out (fun _ hk => ⟨hk.1.2, hk.2⟩)⟩, ⟨by (with_reducible repeat (first | apply Kd.R_alloc | apply Kd.R_drewN | apply Kd.R_drew)); exact Kd.R_mono HO863.out (fun _ hk => ⟨hk.1.1.1.2, ⟨hk.1.1.2, ⟨hk.1.2, ⟨hk.2, hk.1.1.1.1⟩⟩⟩⟩)⟩, ⟨by (with_reducible repeat (first | apply Kd.R_alloc | apply Kd.R_drewN | apply Kd.R_drew)); exact Kd.R_mono HO866.out (fun _ hk => ⟨hk.1.1.1.2, ⟨hk.1.1.2, ⟨hk.1.2, ⟨hk.2, hk.1.1.1.1⟩⟩⟩⟩)⟩, ⟨by (with_reducible repeat (first | refine blk_drewN ?_ _ | refine blk_drew ?_ | refine blk_alloc ?_ _)); exact BK830.out⟩, ⟨by (with_reducible repeat (first | refine blk_drewN ?_ _ | refine blk_drew ?_ | refine blk_alloc ?_ _)); exact BK846.out⟩, ⟨by (with_reducible repeat (first | refine blk_drewN ?_ _ | refine blk_drew ?_ | refine blk_alloc ?_ _)); exact BK868.out⟩, ⟨by repeat (first | (with_reducible first | exact HB.out | apply below_alloc | apply pw_below_drewN | apply below_drew1 | refine below_set ?_ GE830.out | refine below_set ?_ GE846.out | refine below_set ?_ GE868.out) | exact HB.out)⟩⟩
      case rest =>
       clear HC41
       try clear c1
       try clear c2
       try clear p2
       try clear c3
       try clear c4
       try clear c5
       try clear c6
       try clear c14
       try clear c21
       try clear c22
       try clear c26
       try clear c30
       try clear c31
       try clear c33
       try clear c33b0
       try clear c34
       try clear c39
       try clear c39b0
       try clear c39b1
       try clear c42
       try clear c49
       try clear c50
       try clear c51
       try clear c52
       try clear c53
       try clear c57
       try clear c58
       try clear c59
       try clear c61
       try clear c64
       try clear c65
       try clear c67
       try clear hcz15_0
       try clear hcz15_1
       try clear hcz15_2
       try clear hcz15_3
       try clear hcz15_4
       try clear hcz15_5
       try clear hcz23_0
       try clear hcz23_1
       try clear hcz23_2
       try clear hcz23_3
       try clear hcz23_4
       try clear hcz23_5
       try clear hcz24_0
       try clear hcz24_1
       try clear hcz24_2
       try clear hcz24_3
       try clear hcz24_4
       try clear hcz24_5
       try clear hcz27_0
       try clear hcz27_1
       try clear hcz27_2
       try clear hcz27_3
       try clear hcz27_4
       try clear hcz27_5
       try clear hcz28_0
       try clear hcz28_1
       try clear hcz28_2
       try clear hcz28_3
       try clear hcz28_4
       try clear hcz28_5
       try clear hcz35_0
       try clear hcz35_1
       try clear hcz35_2
       try clear hcz35_3
       try clear hcz35_4
       try clear hcz35_5
       try clear hcz37_0
       try clear hcz37_1
       try clear hcz37_2
       try clear hcz37_3
       try clear hcz37_4
       try clear hcz37_5
       try clear hcz43_0
       try clear hcz43_1
       try clear hcz43_2
       try clear hcz43_3
       try clear hcz43_4
       try clear hcz43_5
       try clear hcz45_0
       try clear hcz45_1
       try clear hcz45_2
       try clear hcz45_3
       try clear hcz45_4
       try clear hcz45_5
       try clear hcz51_0
       try clear hcz51_1
       try clear hcz51_2
       try clear hcz51_3
       try clear hcz51_4
       try clear hcz51_5
       try clear hcz60_0
       try clear hcz60_1
       try clear hcz60_2
       try clear hcz60_3
       try clear hcz60_4
       try clear hcz60_5
       try clear hcz62_0
       try clear hcz62_1
       try clear hcz62_2
       try clear hcz62_3
       try clear hcz62_4
       try clear hcz62_5
       try clear hcz66_0
       try clear hcz66_1
       try clear hcz66_2
       try clear hcz66_3
       try clear hcz66_4
       try clear hcz66_5
       try clear hcz68_0
       try clear hcz68_1
       try clear hcz68_2
       try clear hcz68_3
       try clear hcz68_4
       try clear hcz68_5
       try clear hcz7_0
       try clear hcz7_1
       try clear hcz7_2
       try clear hcz7_3
       try clear hcz7_4
       try clear hcz7_5
       try clear hfz15_0
       try clear hfz15_1
       try clear hfz15_2
       try clear hfz15_3
       try clear hfz15_4
       try clear hfz15_5
       try clear hfz23_0
       try clear hfz23_1
       try clear hfz23_2
       try clear hfz23_3
       try clear hfz23_4
       try clear hfz23_5
       try clear hfz24_0
       try clear hfz24_1
       try clear hfz24_2
       try clear hfz24_3
       try clear hfz24_4
       try clear hfz24_5
       try clear hfz27_0
       try clear hfz27_1
       try clear hfz27_2
       try clear hfz27_3
       try clear hfz27_4
       try clear hfz27_5
       try clear hfz28_0
       try clear hfz28_1
       try clear hfz28_2
       try clear hfz28_3
       try clear hfz28_4
       try clear hfz28_5
       try clear hfz35_0
       try clear hfz35_1
       try clear hfz35_2
       try clear hfz35_3
       try clear hfz35_4
       try clear hfz35_5
       try clear hfz37_0
       try clear hfz37_1
       try clear hfz37_2
       try clear hfz37_3
       try clear hfz37_4
       try clear hfz37_5
       try clear hfz43_0
       try clear hfz43_1
       try clear hfz43_2
       try clear hfz43_3
       try clear hfz43_4
       try clear hfz43_5
       try clear hfz45_0
       try clear hfz45_1
       try clear hfz45_2
       try clear hfz45_3
       try clear hfz45_4
       try clear hfz45_5
       try clear hfz51_0
       try clear hfz51_1
       try clear hfz51_2
       try clear hfz51_3
       try clear hfz51_4
       try clear hfz51_5
       try clear hfz60_0
       try clear hfz60_1
       try clear hfz60_2
       try clear hfz60_3
       try clear hfz60_4
       try clear hfz60_5
       try clear hfz62_0
       try clear hfz62_1
       try clear hfz62_2
       try clear hfz62_3
       try clear hfz62_4
       try clear hfz62_5
       try clear hfz66_0
       try clear hfz66_1
       try clear hfz66_2
       try clear hfz66_3
       try clear hfz66_4
       try clear hfz66_5
       try clear hfz68_0
       try clear hfz68_1
       try clear hfz68_2
       try clear hfz68_3
       try clear hfz68_4
       try clear hfz68_5
       try clear hfz7_0
       try clear hfz7_1
       try clear hfz7_2
       try clear hfz7_3
       try clear hfz7_4
       try clear hfz7_5
       try clear p2
       obtain ⟨kq, x54_40, rfl, HA, HJ40, HO_831002, HO_831003, HO_831004, HO_831005, HO_847002, HO_847003, HO_847004, HO_847005, HO_869002, HO_869003, HO_869004, HO_869005, BK830, BK846, BK868, HB⟩ := hcut
       have hl847002_40 := (Kd.R_reads' HO_847002.out).1
       rw [hl847002_40] at HO_847002
       (try simp only [hl847002_40])
       (try simp only [hl847002_40] at BK830)
       (try simp only [hl847002_40] at BK846)
       (try simp only [hl847002_40] at BK868)
       (try simp only [hl847002_40] at HO_831002)
       (try simp only [hl847002_40] at HO_831003)
       (try simp only [hl847002_40] at HO_831004)
       (try simp only [hl847002_40] at HO_831005)
       (try simp only [hl847002_40] at HO_847003)
       (try simp only [hl847002_40] at HO_847004)
       (try simp only [hl847002_40] at HO_847005)
       (try simp only [hl847002_40] at HO_869002)
       (try simp only [hl847002_40] at HO_869003)
       (try simp only [hl847002_40] at HO_869004)
       (try simp only [hl847002_40] at HO_869005)
       have hl847004_40 := (Kd.R_reads' HO_847004.out).1
       rw [hl847004_40] at HO_847004
       (try simp only [hl847004_40])
       (try simp only [hl847004_40] at BK830)
       (try simp only [hl847004_40] at BK846)
       (try simp only [hl847004_40] at BK868)
       (try simp only [hl847004_40] at HO_831002)
       (try simp only [hl847004_40] at HO_831003)
       (try simp only [hl847004_40] at HO_831004)
       (try simp only [hl847004_40] at HO_831005)
       (try simp only [hl847004_40] at HO_847002)
       (try simp only [hl847004_40] at HO_847003)
       (try simp only [hl847004_40] at HO_847005)
       (try simp only [hl847004_40] at HO_869002)
       (try simp only [hl847004_40] at HO_869003)
       (try simp only [hl847004_40] at HO_869004)
       (try simp only [hl847004_40] at HO_869005)
       have hl847005_40 := (Kd.R_reads' HO_847005.out).1
       rw [hl847005_40] at HO_847005
       (try simp only [hl847005_40])
       (try simp only [hl847005_40] at BK830)
       (try simp only [hl847005_40] at BK846)
       (try simp only [hl847005_40] at BK868)
       (try simp only [hl847005_40] at HO_831002)
       (try simp only [hl847005_40] at HO_831003)
       (try simp only [hl847005_40] at HO_831004)
       (try simp only [hl847005_40] at HO_831005)
       (try simp only [hl847005_40] at HO_847002)
       (try simp only [hl847005_40] at HO_847003)
       (try simp only [hl847005_40] at HO_847004)
       (try simp only [hl847005_40] at HO_869002)
       (try simp only [hl847005_40] at HO_869003)
       (try simp only [hl847005_40] at HO_869004)
       (try simp only [hl847005_40] at HO_869005)
       cases kq with
       | zero => exact absurd HA.out (by simp [laws_FnExactClientNew.j1])
       | succ kj40 =>
        have H := HA.out
        clear HA
        simp only [laws_FnExactClientNew.j1] at H
        by_cases c70 : x54_40 = true
        ·subst c70
         rw [if_pos rfl] at H
         obtain rfl := Option.some.inj H
         go_wp2
         go_ret
         exact ⟨by first | rfl | (simp [errW_none, errW_some] <;> rfl) | (simp [*, errW_none, errW_some] <;> rfl), by repeat (first | (with_reducible first | exact HB.out | apply below_alloc | apply pw_below_drewN | apply below_drew1 | refine below_set ?_ GE830.out | refine below_set ?_ GE846.out | refine below_set ?_ GE868.out) | exact HB.out)⟩
        ·replace c70 := Bool.eq_false_iff.mpr c70
         subst c70
         rw [if_neg (show ¬ (false = true) by decide)] at H
         replace H := Option.bind_eq_some_iff.mp H
         obtain ⟨t870, A710, H⟩ := H
         replace H : (if t870 < 0 then (some false) else (if t870 = t848 then (some true) else (some false))) = some r := H
         have A71 := Aside0.mk A710
         clear A710
         by_cases c72 : t870 < 0
         ·rw [if_pos c72] at H
          have c72b0 : decide (t870 < 0) = true := decide_eq_true c72
          clear c72
          obtain rfl := Option.some.inj H
          have hnb73 := NB846_830.out
          have hnc73 := NB830_846.out
          have hnb74 := NB846_868.out
          have hnc74 := NB868_846.out
          have hcz75_0 : wc.cell? ⟨gb846, 0, none⟩ = some (.int .i64 t831) := (blk_cell BK846.out 0).trans rfl
          have hcz75_1 : wc.cell? ⟨gb846, 1, none⟩ = some (.int .i64 t832) := (blk_cell BK846.out 1).trans rfl
          have hcz75_2 : wc.cell? ⟨gb846, 2, none⟩ = some (.slice Ao16 t849.length co16) := (blk_cell BK846.out 2).trans rfl
          have hcz75_3 : wc.cell? ⟨gb846, 3, none⟩ = some (.slice Ao17 t836.length co17) := (blk_cell BK846.out 3).trans rfl
          have hcz75_4 : wc.cell? ⟨gb846, 4, none⟩ = some (.slice Ao18 t850.length co18) := (blk_cell BK846.out 4).trans rfl
          have hcz75_5 : wc.cell? ⟨gb846, 5, none⟩ = some (.slice Ao19 t851.length co19) := (blk_cell BK846.out 5).trans rfl
          have hfz75_0 := blk_frozen BK846.out 0
          have hfz75_1 := blk_frozen BK846.out 1
          have hfz75_2 := blk_frozen BK846.out 2
          have hfz75_3 := blk_frozen BK846.out 3
          have hfz75_4 := blk_frozen BK846.out 4
          have hfz75_5 := blk_frozen BK846.out 5
          go_wp2_with (first | ((with_reducible refine gate_callee (f := 53) rfl ?_); refine goesL_ (some 57) rfl rfl Try.func53 (by kernel_rfl) rfl #[.agg #[.int .i64 t831, .int .i64 t832, .slice Ao16 t849.length co16, .slice Ao17 t836.length co17, .slice Ao18 t850.length co18, .slice Ao19 t851.length co19], .int .i64 1] rfl z74x37 ?_; (with_reducible refine (laws_heldClient.calls kj40 t831 t832 _ _ t849 _ _ t836 _ _ t850 _ _ t851 1 t870 _ ?side1 ?side2 ?side3 ?side4 ?side5 ?side6 ?side7 ?side8 A71.out).mono ?_); (case side1 => repeat (first | exact (Kd.R_reads' HO_847002.out).2.2 | (with_reducible refine Kd.C_alloc ?_ _) | (with_reducible refine Kd.C_drewN ?_ _) | (with_reducible refine Kd.C_drew ?_))); (case side2 => exact (Kd.R_reads' HO_847002.out).2.1); (case side3 => repeat (first | exact (Kd.R_reads' HO_847003.out).2.2 | (with_reducible refine Kd.C_alloc ?_ _) | (with_reducible refine Kd.C_drewN ?_ _) | (with_reducible refine Kd.C_drew ?_))); (case side4 => exact (Kd.R_reads' HO_847003.out).2.1); (case side5 => repeat (first | exact (Kd.R_reads' HO_847004.out).2.2 | (with_reducible refine Kd.C_alloc ?_ _) | (with_reducible refine Kd.C_drewN ?_ _) | (with_reducible refine Kd.C_drew ?_))); (case side6 => exact (Kd.R_reads' HO_847004.out).2.1); (case side7 => repeat (first | exact (Kd.R_reads' HO_847005.out).2.2 | (with_reducible refine Kd.C_alloc ?_ _) | (with_reducible refine Kd.C_drewN ?_ _) | (with_reducible refine Kd.C_drew ?_))); (case side8 => exact (Kd.R_reads' HO_847005.out).2.1); rintro e w76 ⟨rfl, hb⟩; refine ⟨_, rfl, ?_⟩; have n0_ := Aside0.mk (Kd.R_below z74x42 hb); have n1_ := Aside0.mk (Kd.R_below z74x43 hb); have n2_ := Aside0.mk (Kd.R_below z74x44 hb); have n3_ := Aside0.mk (Kd.R_below z74x45 hb); have n4_ := Aside0.mk (Kd.R_below z74x46 hb); have n5_ := Aside0.mk (Kd.R_below z74x47 hb); have n6_ := Aside0.mk (Kd.R_below z74x48 hb); have n7_ := Aside0.mk (Kd.R_below z74x49 hb); have n8_ := Aside0.mk (Kd.R_below z74x50 hb); have n9_ := Aside0.mk (Kd.R_below z74x51 hb); have n10_ := Aside0.mk (Kd.R_below z74x52 hb); have n11_ := Aside0.mk (Kd.R_below z74x53 hb); have n12_ := Aside0.mk (blk_below (g := gb830) (o := .cells #[.int .i64 t815, .int .i64 t816, .slice Ao8 t817.length co8, .slice Ao9 t820.length co9, .slice Ao10 t823.length co10, .slice Ao11 t826.length co11] 46 (0, 0)) z74x39 hb); have n13_ := Aside0.mk (blk_below (g := gb846) (o := .cells #[.int .i64 t831, .int .i64 t832, .slice Ao16 t849.length co16, .slice Ao17 t836.length co17, .slice Ao18 t850.length co18, .slice Ao19 t851.length co19] 46 (0, 0)) z74x40 hb); have n14_ := Aside0.mk (blk_below (g := gb868) (o := .cells #[.int .i64 t853, .int .i64 t854, .slice Ao52 t855.length co52, .slice Ao53 t858.length co53, .slice Ao54 t861.length co54, .slice Ao55 t864.length co55] 46 (0, 0)) z74x41 hb); have n15_ := Aside0.mk (below_step z74x32 hb); clear HO_831002; clear HO_831003; clear HO_831004; clear HO_831005; clear HO_847002; clear HO_847003; clear HO_847004; clear HO_847005; clear HO_869002; clear HO_869003; clear HO_869004; clear HO_869005; clear BK830; clear BK846; clear BK868; clear HB; have HO_831002 := n0_; have HO_831003 := n1_; have HO_831004 := n2_; have HO_831005 := n3_; have HO_847002 := n4_; have HO_847003 := n5_; have HO_847004 := n6_; have HO_847005 := n7_; have HO_869002 := n8_; have HO_869003 := n9_; have HO_869004 := n10_; have HO_869005 := n11_; have BK830 := n12_; have BK846 := n13_; have BK868 := n14_; have HB := n15_; clear n0_ n1_ n2_ n3_ n4_ n5_ n6_ n7_ n8_ n9_ n10_ n11_ n12_ n13_ n14_ n15_; (try clear hb); (try clear hb2); (try clear hk); (try clear hi)))
          go_ret
          exact ⟨by first | rfl | (simp [errW_none, errW_some] <;> rfl) | (simp [*, errW_none, errW_some] <;> rfl), by repeat (first | (with_reducible first | exact HB.out | apply below_alloc | apply pw_below_drewN | apply below_drew1 | refine below_set ?_ GE830.out | refine below_set ?_ GE846.out | refine below_set ?_ GE868.out) | exact HB.out)⟩
         ·rw [if_neg c72] at H
          have c72b0 : decide (t870 < 0) = false := decide_eq_false c72
          clear c72
          by_cases c77 : t870 = t848
          ·rw [if_pos c77] at H
           have c77b0 : (t870 == t848) = true := beq_iff_eq.mpr c77
           have c77b1 : (t870 != t848) = false := bne_eq_false_iff_eq.mpr c77
           clear c77
           obtain rfl := Option.some.inj H
           have hnb78 := NB846_830.out
           have hnc78 := NB830_846.out
           have hnb79 := NB846_868.out
           have hnc79 := NB868_846.out
           have hcz80_0 : wc.cell? ⟨gb846, 0, none⟩ = some (.int .i64 t831) := (blk_cell BK846.out 0).trans rfl
           have hcz80_1 : wc.cell? ⟨gb846, 1, none⟩ = some (.int .i64 t832) := (blk_cell BK846.out 1).trans rfl
           have hcz80_2 : wc.cell? ⟨gb846, 2, none⟩ = some (.slice Ao16 t849.length co16) := (blk_cell BK846.out 2).trans rfl
           have hcz80_3 : wc.cell? ⟨gb846, 3, none⟩ = some (.slice Ao17 t836.length co17) := (blk_cell BK846.out 3).trans rfl
           have hcz80_4 : wc.cell? ⟨gb846, 4, none⟩ = some (.slice Ao18 t850.length co18) := (blk_cell BK846.out 4).trans rfl
           have hcz80_5 : wc.cell? ⟨gb846, 5, none⟩ = some (.slice Ao19 t851.length co19) := (blk_cell BK846.out 5).trans rfl
           have hfz80_0 := blk_frozen BK846.out 0
           have hfz80_1 := blk_frozen BK846.out 1
           have hfz80_2 := blk_frozen BK846.out 2
           have hfz80_3 := blk_frozen BK846.out 3
           have hfz80_4 := blk_frozen BK846.out 4
           have hfz80_5 := blk_frozen BK846.out 5
           go_wp2_with (first | ((with_reducible refine gate_callee (f := 53) rfl ?_); refine goesL_ (some 57) rfl rfl Try.func53 (by kernel_rfl) rfl #[.agg #[.int .i64 t831, .int .i64 t832, .slice Ao16 t849.length co16, .slice Ao17 t836.length co17, .slice Ao18 t850.length co18, .slice Ao19 t851.length co19], .int .i64 1] rfl z74x37 ?_; (with_reducible refine (laws_heldClient.calls kj40 t831 t832 _ _ t849 _ _ t836 _ _ t850 _ _ t851 1 t870 _ ?side1 ?side2 ?side3 ?side4 ?side5 ?side6 ?side7 ?side8 A71.out).mono ?_); (case side1 => repeat (first | exact (Kd.R_reads' HO_847002.out).2.2 | (with_reducible refine Kd.C_alloc ?_ _) | (with_reducible refine Kd.C_drewN ?_ _) | (with_reducible refine Kd.C_drew ?_))); (case side2 => exact (Kd.R_reads' HO_847002.out).2.1); (case side3 => repeat (first | exact (Kd.R_reads' HO_847003.out).2.2 | (with_reducible refine Kd.C_alloc ?_ _) | (with_reducible refine Kd.C_drewN ?_ _) | (with_reducible refine Kd.C_drew ?_))); (case side4 => exact (Kd.R_reads' HO_847003.out).2.1); (case side5 => repeat (first | exact (Kd.R_reads' HO_847004.out).2.2 | (with_reducible refine Kd.C_alloc ?_ _) | (with_reducible refine Kd.C_drewN ?_ _) | (with_reducible refine Kd.C_drew ?_))); (case side6 => exact (Kd.R_reads' HO_847004.out).2.1); (case side7 => repeat (first | exact (Kd.R_reads' HO_847005.out).2.2 | (with_reducible refine Kd.C_alloc ?_ _) | (with_reducible refine Kd.C_drewN ?_ _) | (with_reducible refine Kd.C_drew ?_))); (case side8 => exact (Kd.R_reads' HO_847005.out).2.1); rintro e w81 ⟨rfl, hb⟩; refine ⟨_, rfl, ?_⟩; have n0_ := Aside0.mk (Kd.R_below z74x42 hb); have n1_ := Aside0.mk (Kd.R_below z74x43 hb); have n2_ := Aside0.mk (Kd.R_below z74x44 hb); have n3_ := Aside0.mk (Kd.R_below z74x45 hb); have n4_ := Aside0.mk (Kd.R_below z74x46 hb); have n5_ := Aside0.mk (Kd.R_below z74x47 hb); have n6_ := Aside0.mk (Kd.R_below z74x48 hb); have n7_ := Aside0.mk (Kd.R_below z74x49 hb); have n8_ := Aside0.mk (Kd.R_below z74x50 hb); have n9_ := Aside0.mk (Kd.R_below z74x51 hb); have n10_ := Aside0.mk (Kd.R_below z74x52 hb); have n11_ := Aside0.mk (Kd.R_below z74x53 hb); have n12_ := Aside0.mk (blk_below (g := gb830) (o := .cells #[.int .i64 t815, .int .i64 t816, .slice Ao8 t817.length co8, .slice Ao9 t820.length co9, .slice Ao10 t823.length co10, .slice Ao11 t826.length co11] 46 (0, 0)) z74x39 hb); have n13_ := Aside0.mk (blk_below (g := gb846) (o := .cells #[.int .i64 t831, .int .i64 t832, .slice Ao16 t849.length co16, .slice Ao17 t836.length co17, .slice Ao18 t850.length co18, .slice Ao19 t851.length co19] 46 (0, 0)) z74x40 hb); have n14_ := Aside0.mk (blk_below (g := gb868) (o := .cells #[.int .i64 t853, .int .i64 t854, .slice Ao52 t855.length co52, .slice Ao53 t858.length co53, .slice Ao54 t861.length co54, .slice Ao55 t864.length co55] 46 (0, 0)) z74x41 hb); have n15_ := Aside0.mk (below_step z74x32 hb); clear HO_831002; clear HO_831003; clear HO_831004; clear HO_831005; clear HO_847002; clear HO_847003; clear HO_847004; clear HO_847005; clear HO_869002; clear HO_869003; clear HO_869004; clear HO_869005; clear BK830; clear BK846; clear BK868; clear HB; have HO_831002 := n0_; have HO_831003 := n1_; have HO_831004 := n2_; have HO_831005 := n3_; have HO_847002 := n4_; have HO_847003 := n5_; have HO_847004 := n6_; have HO_847005 := n7_; have HO_869002 := n8_; have HO_869003 := n9_; have HO_869004 := n10_; have HO_869005 := n11_; have BK830 := n12_; have BK846 := n13_; have BK868 := n14_; have HB := n15_; clear n0_ n1_ n2_ n3_ n4_ n5_ n6_ n7_ n8_ n9_ n10_ n11_ n12_ n13_ n14_ n15_; (try clear hb); (try clear hb2); (try clear hk); (try clear hi)))
           go_ret
           exact ⟨by first | rfl | (simp [errW_none, errW_some] <;> rfl) | (simp [*, errW_none, errW_some] <;> rfl), by repeat (first | (with_reducible first | exact HB.out | apply below_alloc | apply pw_below_drewN | apply below_drew1 | refine below_set ?_ GE830.out | refine below_set ?_ GE846.out | refine below_set ?_ GE868.out) | exact HB.out)⟩
          ·rw [if_neg c77] at H
           have c77b0 : (t870 == t848) = false := beq_eq_false_iff_ne.mpr c77
           have c77b1 : (t870 != t848) = true := bne_iff_ne.mpr c77
           obtain rfl := Option.some.inj H
           have hnb82 := NB846_830.out
           have hnc82 := NB830_846.out
           have hnb83 := NB846_868.out
           have hnc83 := NB868_846.out
           have hcz84_0 : wc.cell? ⟨gb846, 0, none⟩ = some (.int .i64 t831) := (blk_cell BK846.out 0).trans rfl
           have hcz84_1 : wc.cell? ⟨gb846, 1, none⟩ = some (.int .i64 t832) := (blk_cell BK846.out 1).trans rfl
           have hcz84_2 : wc.cell? ⟨gb846, 2, none⟩ = some (.slice Ao16 t849.length co16) := (blk_cell BK846.out 2).trans rfl
           have hcz84_3 : wc.cell? ⟨gb846, 3, none⟩ = some (.slice Ao17 t836.length co17) := (blk_cell BK846.out 3).trans rfl
           have hcz84_4 : wc.cell? ⟨gb846, 4, none⟩ = some (.slice Ao18 t850.length co18) := (blk_cell BK846.out 4).trans rfl
           have hcz84_5 : wc.cell? ⟨gb846, 5, none⟩ = some (.slice Ao19 t851.length co19) := (blk_cell BK846.out 5).trans rfl
           have hfz84_0 := blk_frozen BK846.out 0
           have hfz84_1 := blk_frozen BK846.out 1
           have hfz84_2 := blk_frozen BK846.out 2
           have hfz84_3 := blk_frozen BK846.out 3
           have hfz84_4 := blk_frozen BK846.out 4
           have hfz84_5 := blk_frozen BK846.out 5
           go_wp2_with (first | ((with_reducible refine gate_callee (f := 53) rfl ?_); refine goesL_ (some 57) rfl rfl Try.func53 (by kernel_rfl) rfl #[.agg #[.int .i64 t831, .int .i64 t832, .slice Ao16 t849.length co16, .slice Ao17 t836.length co17, .slice Ao18 t850.length co18, .slice Ao19 t851.length co19], .int .i64 1] rfl z74x37 ?_; (with_reducible refine (laws_heldClient.calls kj40 t831 t832 _ _ t849 _ _ t836 _ _ t850 _ _ t851 1 t870 _ ?side1 ?side2 ?side3 ?side4 ?side5 ?side6 ?side7 ?side8 A71.out).mono ?_); (case side1 => repeat (first | exact (Kd.R_reads' HO_847002.out).2.2 | (with_reducible refine Kd.C_alloc ?_ _) | (with_reducible refine Kd.C_drewN ?_ _) | (with_reducible refine Kd.C_drew ?_))); (case side2 => exact (Kd.R_reads' HO_847002.out).2.1); (case side3 => repeat (first | exact (Kd.R_reads' HO_847003.out).2.2 | (with_reducible refine Kd.C_alloc ?_ _) | (with_reducible refine Kd.C_drewN ?_ _) | (with_reducible refine Kd.C_drew ?_))); (case side4 => exact (Kd.R_reads' HO_847003.out).2.1); (case side5 => repeat (first | exact (Kd.R_reads' HO_847004.out).2.2 | (with_reducible refine Kd.C_alloc ?_ _) | (with_reducible refine Kd.C_drewN ?_ _) | (with_reducible refine Kd.C_drew ?_))); (case side6 => exact (Kd.R_reads' HO_847004.out).2.1); (case side7 => repeat (first | exact (Kd.R_reads' HO_847005.out).2.2 | (with_reducible refine Kd.C_alloc ?_ _) | (with_reducible refine Kd.C_drewN ?_ _) | (with_reducible refine Kd.C_drew ?_))); (case side8 => exact (Kd.R_reads' HO_847005.out).2.1); rintro e w85 ⟨rfl, hb⟩; refine ⟨_, rfl, ?_⟩; have n0_ := Aside0.mk (Kd.R_below z74x42 hb); have n1_ := Aside0.mk (Kd.R_below z74x43 hb); have n2_ := Aside0.mk (Kd.R_below z74x44 hb); have n3_ := Aside0.mk (Kd.R_below z74x45 hb); have n4_ := Aside0.mk (Kd.R_below z74x46 hb); have n5_ := Aside0.mk (Kd.R_below z74x47 hb); have n6_ := Aside0.mk (Kd.R_below z74x48 hb); have n7_ := Aside0.mk (Kd.R_below z74x49 hb); have n8_ := Aside0.mk (Kd.R_below z74x50 hb); have n9_ := Aside0.mk (Kd.R_below z74x51 hb); have n10_ := Aside0.mk (Kd.R_below z74x52 hb); have n11_ := Aside0.mk (Kd.R_below z74x53 hb); have n12_ := Aside0.mk (blk_below (g := gb830) (o := .cells #[.int .i64 t815, .int .i64 t816, .slice Ao8 t817.length co8, .slice Ao9 t820.length co9, .slice Ao10 t823.length co10, .slice Ao11 t826.length co11] 46 (0, 0)) z74x39 hb); have n13_ := Aside0.mk (blk_below (g := gb846) (o := .cells #[.int .i64 t831, .int .i64 t832, .slice Ao16 t849.length co16, .slice Ao17 t836.length co17, .slice Ao18 t850.length co18, .slice Ao19 t851.length co19] 46 (0, 0)) z74x40 hb); have n14_ := Aside0.mk (blk_below (g := gb868) (o := .cells #[.int .i64 t853, .int .i64 t854, .slice Ao52 t855.length co52, .slice Ao53 t858.length co53, .slice Ao54 t861.length co54, .slice Ao55 t864.length co55] 46 (0, 0)) z74x41 hb); have n15_ := Aside0.mk (below_step z74x32 hb); clear HO_831002; clear HO_831003; clear HO_831004; clear HO_831005; clear HO_847002; clear HO_847003; clear HO_847004; clear HO_847005; clear HO_869002; clear HO_869003; clear HO_869004; clear HO_869005; clear BK830; clear BK846; clear BK868; clear HB; have HO_831002 := n0_; have HO_831003 := n1_; have HO_831004 := n2_; have HO_831005 := n3_; have HO_847002 := n4_; have HO_847003 := n5_; have HO_847004 := n6_; have HO_847005 := n7_; have HO_869002 := n8_; have HO_869003 := n9_; have HO_869004 := n10_; have HO_869005 := n11_; have BK830 := n12_; have BK846 := n13_; have BK868 := n14_; have HB := n15_; clear n0_ n1_ n2_ n3_ n4_ n5_ n6_ n7_ n8_ n9_ n10_ n11_ n12_ n13_ n14_ n15_; (try clear hb); (try clear hb2); (try clear hk); (try clear hi)))
           go_ret
           exact ⟨by first | rfl | (simp [errW_none, errW_some] <;> rfl) | (simp [*, errW_none, errW_some] <;> rfl), by repeat (first | (with_reducible first | exact HB.out | apply below_alloc | apply pw_below_drewN | apply below_drew1 | refine below_set ?_ GE830.out | refine below_set ?_ GE846.out | refine below_set ?_ GE868.out) | exact HB.out)⟩
     ·rw [if_neg c39] at H
      have c39b0 : (t852 == t848) = false := beq_eq_false_iff_ne.mpr c39
      have c39b1 : (t852 != t848) = true := bne_iff_ne.mpr c39
      obtain rfl := Option.some.inj H
      have hnb86 := NB846_830.out
      have hnc86 := NB830_846.out
      have hcz87_0 : wc.cell? ⟨gb846, 0, none⟩ = some (.int .i64 t831) := (blk_cell BK846.out 0).trans rfl
      have hcz87_1 : wc.cell? ⟨gb846, 1, none⟩ = some (.int .i64 t832) := (blk_cell BK846.out 1).trans rfl
      have hcz87_2 : wc.cell? ⟨gb846, 2, none⟩ = some (.slice Ao16 t833.length co16) := (blk_cell BK846.out 2).trans rfl
      have hcz87_3 : wc.cell? ⟨gb846, 3, none⟩ = some (.slice Ao17 t836.length co17) := (blk_cell BK846.out 3).trans rfl
      have hcz87_4 : wc.cell? ⟨gb846, 4, none⟩ = some (.slice Ao18 t839.length co18) := (blk_cell BK846.out 4).trans rfl
      have hcz87_5 : wc.cell? ⟨gb846, 5, none⟩ = some (.slice Ao19 t842.length co19) := (blk_cell BK846.out 5).trans rfl
      have hfz87_0 := blk_frozen BK846.out 0
      have hfz87_1 := blk_frozen BK846.out 1
      have hfz87_2 := blk_frozen BK846.out 2
      have hfz87_3 := blk_frozen BK846.out 3
      have hfz87_4 := blk_frozen BK846.out 4
      have hfz87_5 := blk_frozen BK846.out 5
      go_wp2_with (first | ((with_reducible refine gate_callee (f := 52) rfl ?_); refine goesL_ (some 32) rfl rfl Try.func52 (by kernel_rfl) rfl #[.agg #[.int .i64 t831, .int .i64 t832, .slice Ao16 t833.length co16, .slice Ao17 t836.length co17, .slice Ao18 t839.length co18, .slice Ao19 t842.length co19], .int .i64 1] rfl z74x37 ?_; (with_reducible refine (laws_markClient.calls kj3 t831 t832 (fun k_ => some k_ = (.slice Ao16 t833.length co16 : Value).ownBlock) (.slice Ao16 t833.length co16) t833 _ _ t836 (fun k_ => some k_ = (.slice Ao18 t839.length co18 : Value).ownBlock) (.slice Ao18 t839.length co18) t839 (fun k_ => some k_ = (.slice Ao19 t842.length co19 : Value).ownBlock) (.slice Ao19 t842.length co19) t842 1 t848 t849 t850 t851 w _ ?side1 ?side2 ?side3 ?side4 ?side5 ?side6 ?side7 ?side8 A31.out).mono ?_); (case side1 => repeat (first | (with_reducible first | exact HB.out | apply below_alloc | apply pw_below_drewN | apply below_drew1 | refine below_set ?_ GE830.out | refine below_set ?_ GE846.out) | exact HB.out)); (case side2 => exact Kd.R_tight rfl HO_847002.out); (case side3 => exact Kd.C_kept_own ((Kd.R_apart' (Kd.R_apart' (Kd.R_apart' HO_847003.out (Kd.R_typed HO_847002.out) (by decide)) (Kd.R_typed HO_847004.out) (by decide)) (Kd.R_typed HO_847005.out) (by decide))) (fun k_ hk_ hs_ => Or.elim hs_ (fun e_ => (hk_.1.1.2) e_) (fun e_ => Or.elim e_ (fun e_ => (hk_.1.2) e_) (fun e_ => (hk_.2) e_)))); (case side4 => exact (Kd.R_reads' HO_847003.out).2.1); (case side5 => exact Kd.R_tight rfl HO_847004.out); (case side6 => exact fun k_ e_ => (HO_847004.out.1 k_ e_.symm).2.2); (case side7 => exact Kd.R_tight rfl HO_847005.out); (case side8 => exact fun k_ e_ => (HO_847005.out.1 k_ e_.symm).2.2); rintro e w88 ⟨rfl, hy0, hy1, hy2, hb, hkp⟩; refine ⟨_, rfl, ?_⟩; have n0_ := Aside0.mk (Kd.R_mono (ok' := fun k_ => some k_ ≠ (.slice Ao16 t833.length co16 : Value).ownBlock) (Kd.R_keptB ((Kd.R_apart' (Kd.R_apart' HO_831002.out (Kd.R_typed HO_847004.out) (by decide)) (Kd.R_typed HO_847005.out) (by decide))) hkp (fun k_ hk_ hs_ => Or.elim hs_ (fun e_ => (hk_.1.1) e_) (fun e_ => Or.elim e_ (fun e_ => (hk_.1.2) e_) (fun e_ => (hk_.2) e_)))) (fun k_ hk_ => hk_.1.1.1)); have n1_ := Aside0.mk (Kd.R_mono (ok' := fun k_ => some k_ ≠ (.slice Ao17 t836.length co17 : Value).ownBlock) (Kd.R_keptB ((Kd.R_apart' (Kd.R_apart' (Kd.R_apart' HO_831003.out (Kd.R_typed HO_847002.out) (by decide)) (Kd.R_typed HO_847004.out) (by decide)) (Kd.R_typed HO_847005.out) (by decide))) hkp (fun k_ hk_ hs_ => Or.elim hs_ (fun e_ => (hk_.1.1.2) e_) (fun e_ => Or.elim e_ (fun e_ => (hk_.1.2) e_) (fun e_ => (hk_.2) e_)))) (fun k_ hk_ => hk_.1.1.1.1)); have n2_ := Aside0.mk (Kd.R_mono (ok' := fun k_ => some k_ ≠ (.slice Ao11 t826.length co11 : Value).ownBlock ∧ some k_ ≠ (.slice Ao18 t839.length co18 : Value).ownBlock ∧ some k_ ≠ (.slice Ao19 t842.length co19 : Value).ownBlock) (Kd.R_keptB ((Kd.R_apart' HO_831004.out (Kd.R_typed HO_847002.out) (by decide))) hkp (fun k_ hk_ hs_ => Or.elim hs_ (fun e_ => (hk_.2) e_) (fun e_ => Or.elim e_ (fun e_ => (hk_.1.2.1) e_) (fun e_ => (hk_.1.2.2) e_)))) (fun k_ hk_ => ⟨hk_.1.1.1, hk_.1.1.2.1, hk_.1.1.2.2⟩)); have n3_ := Aside0.mk (Kd.R_mono (ok' := fun k_ => some k_ ≠ (.slice Ao10 t823.length co10 : Value).ownBlock ∧ some k_ ≠ (.slice Ao18 t839.length co18 : Value).ownBlock ∧ some k_ ≠ (.slice Ao19 t842.length co19 : Value).ownBlock) (Kd.R_keptB ((Kd.R_apart' HO_831005.out (Kd.R_typed HO_847002.out) (by decide))) hkp (fun k_ hk_ hs_ => Or.elim hs_ (fun e_ => (hk_.2) e_) (fun e_ => Or.elim e_ (fun e_ => (hk_.1.2.1) e_) (fun e_ => (hk_.1.2.2) e_)))) (fun k_ hk_ => ⟨hk_.1.1.1, hk_.1.1.2.1, hk_.1.1.2.2⟩)); have n4_ := Aside0.mk (Kd.R_reok rfl hy0 (fun k_ e_ => HO_847002.out.1 k_ e_)); have n5_ := Aside0.mk (Kd.R_mono (ok' := fun k_ => some k_ ≠ (.slice Ao9 t820.length co9 : Value).ownBlock) (Kd.R_keptB ((Kd.R_apart' (Kd.R_apart' (Kd.R_apart' HO_847003.out (Kd.R_typed HO_847002.out) (by decide)) (Kd.R_typed HO_847004.out) (by decide)) (Kd.R_typed HO_847005.out) (by decide))) hkp (fun k_ hk_ hs_ => Or.elim hs_ (fun e_ => (hk_.1.1.2) e_) (fun e_ => Or.elim e_ (fun e_ => (hk_.1.2) e_) (fun e_ => (hk_.2) e_)))) (fun k_ hk_ => hk_.1.1.1.1)); have n6_ := Aside0.mk (Kd.R_reok rfl hy1 (fun k_ e_ => HO_847004.out.1 k_ e_)); have n7_ := Aside0.mk (Kd.R_reok rfl hy2 (fun k_ e_ => HO_847005.out.1 k_ e_)); have n8_ := Aside0.mk (blk_kept z74x39 hkp (fun hs_ => Or.elim hs_ (fun e_ => (fun e_ => (Kd.R_ne HO_847002.out BK830.out (by decide)) e_) e_) (fun e_ => Or.elim e_ (fun e_ => (fun e_ => (Kd.R_ne HO_847004.out BK830.out (by decide)) e_) e_) (fun e_ => (fun e_ => (Kd.R_ne HO_847005.out BK830.out (by decide)) e_) e_)))); have n9_ := Aside0.mk (blk_kept z74x40 hkp (fun hs_ => Or.elim hs_ (fun e_ => (fun e_ => (Kd.R_ne HO_847002.out BK846.out (by decide)) e_) e_) (fun e_ => Or.elim e_ (fun e_ => (fun e_ => (Kd.R_ne HO_847004.out BK846.out (by decide)) e_) e_) (fun e_ => (fun e_ => (Kd.R_ne HO_847005.out BK846.out (by decide)) e_) e_)))); have n10_ := Aside0.mk (hb); clear HO_831002; clear HO_831003; clear HO_831004; clear HO_831005; clear HO_847002; clear HO_847003; clear HO_847004; clear HO_847005; clear BK830; clear BK846; clear HB; have HO_831002 := n0_; have HO_831003 := n1_; have HO_831004 := n2_; have HO_831005 := n3_; have HO_847002 := n4_; have HO_847003 := n5_; have HO_847004 := n6_; have HO_847005 := n7_; have BK830 := n8_; have BK846 := n9_; have HB := n10_; clear n0_ n1_ n2_ n3_ n4_ n5_ n6_ n7_ n8_ n9_ n10_; (try clear hb); (try clear hkp); (try clear hy0); (try clear hy1); (try clear hy2); have hcz89_0 : w88.cell? ⟨gb846, 0, none⟩ = some (.int .i64 t831) := (blk_cell BK846.out 0).trans rfl; have hcz89_1 : w88.cell? ⟨gb846, 1, none⟩ = some (.int .i64 t832) := (blk_cell BK846.out 1).trans rfl; have hcz89_2 : w88.cell? ⟨gb846, 2, none⟩ = some (.slice Ao16 t833.length co16) := (blk_cell BK846.out 2).trans rfl; have hcz89_3 : w88.cell? ⟨gb846, 3, none⟩ = some (.slice Ao17 t836.length co17) := (blk_cell BK846.out 3).trans rfl; have hcz89_4 : w88.cell? ⟨gb846, 4, none⟩ = some (.slice Ao18 t839.length co18) := (blk_cell BK846.out 4).trans rfl; have hcz89_5 : w88.cell? ⟨gb846, 5, none⟩ = some (.slice Ao19 t842.length co19) := (blk_cell BK846.out 5).trans rfl; have hfz89_0 := blk_frozen BK846.out 0; have hfz89_1 := blk_frozen BK846.out 1; have hfz89_2 := blk_frozen BK846.out 2; have hfz89_3 := blk_frozen BK846.out 3; have hfz89_4 := blk_frozen BK846.out 4; have hfz89_5 := blk_frozen BK846.out 5) | ((with_reducible refine gate_callee (f := 53) rfl ?_); refine goesL_ (some 35) rfl rfl Try.func53 (by kernel_rfl) rfl #[.agg #[.int .i64 t831, .int .i64 t832, .slice Ao16 t849.length co16, .slice Ao17 t836.length co17, .slice Ao18 t850.length co18, .slice Ao19 t851.length co19], .int .i64 1] rfl z74x29 ?_; (with_reducible refine (laws_heldClient.calls kj3 t831 t832 _ _ t849 _ _ t836 _ _ t850 _ _ t851 1 t852 _ ?side1 ?side2 ?side3 ?side4 ?side5 ?side6 ?side7 ?side8 A32.out).mono ?_); (case side1 => repeat (first | exact (Kd.R_reads' HO_847002.out).2.2 | (with_reducible refine Kd.C_alloc ?_ _) | (with_reducible refine Kd.C_drewN ?_ _) | (with_reducible refine Kd.C_drew ?_))); (case side2 => rw [show t849.length = t833.length from (Kd.R_reads' HO_847002.out).1.symm]; exact (Kd.R_reads' HO_847002.out).2.1); (case side3 => repeat (first | exact (Kd.R_reads' HO_847003.out).2.2 | (with_reducible refine Kd.C_alloc ?_ _) | (with_reducible refine Kd.C_drewN ?_ _) | (with_reducible refine Kd.C_drew ?_))); (case side4 => exact (Kd.R_reads' HO_847003.out).2.1); (case side5 => repeat (first | exact (Kd.R_reads' HO_847004.out).2.2 | (with_reducible refine Kd.C_alloc ?_ _) | (with_reducible refine Kd.C_drewN ?_ _) | (with_reducible refine Kd.C_drew ?_))); (case side6 => rw [show t850.length = t839.length from (Kd.R_reads' HO_847004.out).1.symm]; exact (Kd.R_reads' HO_847004.out).2.1); (case side7 => repeat (first | exact (Kd.R_reads' HO_847005.out).2.2 | (with_reducible refine Kd.C_alloc ?_ _) | (with_reducible refine Kd.C_drewN ?_ _) | (with_reducible refine Kd.C_drew ?_))); (case side8 => rw [show t851.length = t842.length from (Kd.R_reads' HO_847005.out).1.symm]; exact (Kd.R_reads' HO_847005.out).2.1); rintro e w90 ⟨rfl, hb⟩; refine ⟨_, rfl, ?_⟩; have n0_ := Aside0.mk (Kd.R_below z74x42 hb); have n1_ := Aside0.mk (Kd.R_below z74x43 hb); have n2_ := Aside0.mk (Kd.R_below z74x44 hb); have n3_ := Aside0.mk (Kd.R_below z74x45 hb); have n4_ := Aside0.mk (Kd.R_below z74x46 hb); have n5_ := Aside0.mk (Kd.R_below z74x47 hb); have n6_ := Aside0.mk (Kd.R_below z74x48 hb); have n7_ := Aside0.mk (Kd.R_below z74x49 hb); have n8_ := Aside0.mk (blk_below (g := gb830) (o := .cells #[.int .i64 t815, .int .i64 t816, .slice Ao8 t817.length co8, .slice Ao9 t820.length co9, .slice Ao10 t823.length co10, .slice Ao11 t826.length co11] 46 (0, 0)) z74x39 hb); have n9_ := Aside0.mk (blk_below (g := gb846) (o := .cells #[.int .i64 t831, .int .i64 t832, .slice Ao16 t833.length co16, .slice Ao17 t836.length co17, .slice Ao18 t839.length co18, .slice Ao19 t842.length co19] 46 (0, 0)) z74x40 hb); have n10_ := Aside0.mk (below_step z74x34 hb); clear HO_831002; clear HO_831003; clear HO_831004; clear HO_831005; clear HO_847002; clear HO_847003; clear HO_847004; clear HO_847005; clear BK830; clear BK846; clear HB; have HO_831002 := n0_; have HO_831003 := n1_; have HO_831004 := n2_; have HO_831005 := n3_; have HO_847002 := n4_; have HO_847003 := n5_; have HO_847004 := n6_; have HO_847005 := n7_; have BK830 := n8_; have BK846 := n9_; have HB := n10_; clear n0_ n1_ n2_ n3_ n4_ n5_ n6_ n7_ n8_ n9_ n10_; (try clear hb); (try clear hb2); (try clear hk); (try clear hi)))
      go_ret
      exact ⟨by first | rfl | (simp [errW_none, errW_some] <;> rfl) | (simp [*, errW_none, errW_some] <;> rfl), by repeat (first | (with_reducible first | exact HB.out | apply below_alloc | apply pw_below_drewN | apply below_drew1 | refine below_set ?_ GE830.out | refine below_set ?_ GE846.out) | exact HB.out)⟩

/-- THE ONE PURE STATEMENT of laws_FnExactClientNew: yours. -/
def laws_FnExactClientNew.Pure : Prop := ∀ (a0 : Int), (Lit.int .i64 a0).wf = true → ∃ k, laws_FnExactClientNew.f k a0 = some true
theorem laws_FnExactClientNew.walk (P : laws_FnExactClientNew.Pure) (a0 : Int) (w : World) (w0 : (Lit.int .i64 a0).wf = true) :
  Calls Try.prog 14 #[.int .i64 a0] w fun e w' => e = .returned (.bool true) ∧ Below w.heap.size w w' := by
 obtain ⟨k, h⟩ := P a0 w0
 refine (laws_FnExactClientNew.calls k a0 true w h).mono ?_
 rintro e w' ⟨rfl, hd⟩
 exact ⟨rfl, hd⟩

end Go.Proofs.Ytpdeincniaiajaa.Hp
