-- Printed by wip/tools/hp.py of this session (the kit's print.py, with contracts typed by hand beside).
import Derived.Test.YtbiknbjcidlabaaHx0
import Derived.Test.YtbiknbjcidlabaaHx12
import Derived.Test.YtbiknbjcidlabaaHx21
import Derived.Test.YtbiknbjcidlabaaHx35
import Derived.Test.YtbiknbjcidlabaaHx45
import Derived.Test.YtbiknbjcidlabaaHx59
import Derived.Test.YtbiknbjcidlabaaHx60
import Derived.Test.YtbiknbjcidlabaaHx62
import Derived.Test.YtbiknbjcidlabaaHx65
namespace Go.Proofs.Ytbiknbjcidlabaa.Hp
open Go.RowKit Go.Proofs.YtbiknbjcidlabaaW.PrintWords Go.Proofs.YtbiknbjcidlabaaW.PrintLast Go.Proofs.YtbiknbjcidlabaaW.PrintMore
attribute [local go_sem] max2_int min2_int max_two min_two max_three min_three max_four min_four   -- for this text's walks alone
set_option linter.unusedVariables false
set_option linter.unusedSimpArgs false
-- squeezed by wip/tools/squeeze.py
theorem z67x27 {P : Prop} (h : P := by (with_reducible repeat (first | apply Kd.V_alloc | apply Kd.V_drewN | apply Kd.V_drew)); exact HO_7.out) : P := h
theorem z67x26 {P : Prop} (h : P := by (with_reducible repeat (first | apply Kd.R_alloc | apply Kd.R_drewN | apply Kd.R_drew)); exact HO_4.out) : P := h
theorem z67x25 {P : Prop} (h : P := by (with_reducible repeat (first | apply Kd.R_alloc | apply Kd.R_drewN | apply Kd.R_drew)); exact HO1102.out) : P := h
theorem z67x24 {P : Prop} (h : P := by (with_reducible repeat (first | apply Kd.R_alloc | apply Kd.R_drewN | apply Kd.R_drew)); exact HO1095.out) : P := h
theorem z67x23 {P : Prop} (h : P := by (with_reducible repeat (first | apply Kd.R_alloc | apply Kd.R_drewN | apply Kd.R_drew)); exact HO1092.out) : P := h
theorem z67x22 {P : Prop} (h : P := by (with_reducible repeat (first | apply Kd.R_alloc | apply Kd.R_drewN | apply Kd.R_drew)); exact HO_1104004.out) : P := h
theorem z67x21 {P : Prop} (h : P := by (with_reducible repeat (first | refine blk_drewN ?_ _ | refine blk_drew ?_ | refine blk_alloc ?_ _)); exact BK1111.out) : P := h
theorem z67x20 {P : Prop} (h : P := by (with_reducible repeat (first | refine blk_drewN ?_ _ | refine blk_drew ?_ | refine blk_alloc ?_ _)); exact BK1103.out) : P := h
theorem z67x19 {P : Prop} (h : P := by repeat (first | (with_reducible first | exact HB.out | apply below_alloc | apply pw_below_drewN | apply below_drew1) | exact HB.out)) : P := h
theorem z67x18 {P : Prop} (h : P := by (try simp only [List.map_toArray, List.map_cons, List.map_nil]); first | done | rfl | (simp only [List.length_drop, List.length_take]; rfl)) : P := h
theorem z67x17 {P : Prop} (h : P := by rw [hg]; exact (below_size (by repeat (first | (with_reducible first | exact HB.out | apply below_alloc | apply pw_below_drewN | apply below_drew1) | exact HB.out)))) : P := h
theorem z67x16 {P : Prop} (h : P := by repeat (first | (with_reducible first | exact HB.out | apply below_alloc | apply pw_below_drewN | apply below_drew1 | refine below_set ?_ GE1103.out) | exact HB.out)) : P := h
theorem z67x15 {P : Prop} (h : P := by rw [hg]; exact (below_size (by repeat (first | (with_reducible first | exact HB.out | apply below_alloc | apply pw_below_drewN | apply below_drew1 | refine below_set ?_ GE1103.out) | exact HB.out)))) : P := h
theorem z67x14 {P : Prop} (h : P := by repeat (first | (with_reducible first | exact HB.out | apply below_alloc | apply pw_below_drewN | apply below_drew1 | refine below_set ?_ GE1103.out | refine below_set ?_ GE1111.out) | exact HB.out)) : P := h
theorem z67x13 {P : Prop} (h : P := by rw [hg]; exact Nat.ne_of_lt (blk_lt (g := gb1103) (o := .cells #[.int .i64 t1096, .int .i64 t1097, .int .i64 t1098, .int .i64 t1099, .slice (some ad1110) t1100.length co21] 36 (0, 0)) (by (with_reducible repeat (first | refine blk_drewN ?_ _ | refine blk_drew ?_ | refine blk_alloc ?_ _)); exact BK1103.out))) : P := h
theorem z67x12 {P : Prop} (h : P := by rw [hg]; exact Nat.ne_of_gt (blk_lt (g := gb1103) (o := .cells #[.int .i64 t1096, .int .i64 t1097, .int .i64 t1098, .int .i64 t1099, .slice (some ad1110) t1100.length co21] 36 (0, 0)) (by (with_reducible repeat (first | refine blk_drewN ?_ _ | refine blk_drew ?_ | refine blk_alloc ?_ _)); exact BK1103.out))) : P := h
theorem z67x11 {P : Prop} (h : P := by (with_reducible repeat (first | apply Kd.R_alloc | apply Kd.R_drewN | apply Kd.R_drew)); exact (Kd.R_mono (Kd.R_far (p := ⟨gb1103, 4, none⟩) (Kd.R_far (p := ⟨gb1103, 3, none⟩) (Kd.R_far (p := ⟨gb1103, 2, none⟩) (Kd.R_far (p := ⟨gb1103, 1, none⟩) (Kd.R_far (p := ⟨gb1103, 0, none⟩) (Kd.R_types HO1102.out BK1103.out (by decide)) (fun _ hk => hk.2) (.int .i64 t1096)) (fun _ hk => hk.2) (.int .i64 t1097)) (fun _ hk => hk.2) (.int .i64 t1098)) (fun _ hk => hk.2) (.int .i64 t1099)) (fun _ hk => hk.2) (.slice Ao21 t1100.length co21)) (fun _ h_ => h_.1))) : P := h
theorem z67x10 {P : Prop} (h : P := by (with_reducible repeat (first | apply Kd.R_alloc | apply Kd.R_drewN | apply Kd.R_drew)); exact (Kd.R_mono (Kd.R_far (p := ⟨gb1103, 4, none⟩) (Kd.R_far (p := ⟨gb1103, 3, none⟩) (Kd.R_far (p := ⟨gb1103, 2, none⟩) (Kd.R_far (p := ⟨gb1103, 1, none⟩) (Kd.R_far (p := ⟨gb1103, 0, none⟩) (Kd.R_types HO1102.out BK1103.out (by decide)) (fun _ hk => hk.2) (.int .i64 t1096)) (fun _ hk => hk.2) (.int .i64 t1097)) (fun _ hk => hk.2) (.int .i64 t1098)) (fun _ hk => hk.2) (.int .i64 t1099)) (fun _ hk => hk.2) (.slice Ao10 t1100.length co10)) (fun _ h_ => h_.1))) : P := h
theorem z67x9 {P : Prop} (h : P := by (with_reducible repeat (first | apply Kd.R_alloc | apply Kd.R_drewN | apply Kd.R_drew)); exact (Kd.R_mono (Kd.R_far (p := ⟨gb1103, 4, none⟩) (Kd.R_far (p := ⟨gb1103, 3, none⟩) (Kd.R_far (p := ⟨gb1103, 2, none⟩) (Kd.R_far (p := ⟨gb1103, 1, none⟩) (Kd.R_far (p := ⟨gb1103, 0, none⟩) (Kd.R_types HO1095.out BK1103.out (by decide)) (fun _ hk => hk.2) (.int .i64 t1096)) (fun _ hk => hk.2) (.int .i64 t1097)) (fun _ hk => hk.2) (.int .i64 t1098)) (fun _ hk => hk.2) (.int .i64 t1099)) (fun _ hk => hk.2) (.slice Ao21 t1100.length co21)) (fun _ h_ => h_.1))) : P := h
theorem z67x8 {P : Prop} (h : P := by (with_reducible repeat (first | apply Kd.R_alloc | apply Kd.R_drewN | apply Kd.R_drew)); exact (Kd.R_mono (Kd.R_far (p := ⟨gb1103, 4, none⟩) (Kd.R_far (p := ⟨gb1103, 3, none⟩) (Kd.R_far (p := ⟨gb1103, 2, none⟩) (Kd.R_far (p := ⟨gb1103, 1, none⟩) (Kd.R_far (p := ⟨gb1103, 0, none⟩) (Kd.R_types HO1095.out BK1103.out (by decide)) (fun _ hk => hk.2) (.int .i64 t1096)) (fun _ hk => hk.2) (.int .i64 t1097)) (fun _ hk => hk.2) (.int .i64 t1098)) (fun _ hk => hk.2) (.int .i64 t1099)) (fun _ hk => hk.2) (.slice Ao10 t1100.length co10)) (fun _ h_ => h_.1))) : P := h
theorem z67x7 {P : Prop} (h : P := by (with_reducible repeat (first | apply Kd.R_alloc | apply Kd.R_drewN | apply Kd.R_drew)); exact (Kd.R_mono (Kd.R_far (p := ⟨gb1103, 4, none⟩) (Kd.R_far (p := ⟨gb1103, 3, none⟩) (Kd.R_far (p := ⟨gb1103, 2, none⟩) (Kd.R_far (p := ⟨gb1103, 1, none⟩) (Kd.R_far (p := ⟨gb1103, 0, none⟩) (Kd.R_types HO1092.out BK1103.out (by decide)) (fun _ hk => hk.2) (.int .i64 t1096)) (fun _ hk => hk.2) (.int .i64 t1097)) (fun _ hk => hk.2) (.int .i64 t1098)) (fun _ hk => hk.2) (.int .i64 t1099)) (fun _ hk => hk.2) (.slice Ao21 t1100.length co21)) (fun _ h_ => h_.1))) : P := h
theorem z67x6 {P : Prop} (h : P := by (with_reducible repeat (first | apply Kd.R_alloc | apply Kd.R_drewN | apply Kd.R_drew)); exact (Kd.R_mono (Kd.R_far (p := ⟨gb1103, 4, none⟩) (Kd.R_far (p := ⟨gb1103, 3, none⟩) (Kd.R_far (p := ⟨gb1103, 2, none⟩) (Kd.R_far (p := ⟨gb1103, 1, none⟩) (Kd.R_far (p := ⟨gb1103, 0, none⟩) (Kd.R_types HO1092.out BK1103.out (by decide)) (fun _ hk => hk.2) (.int .i64 t1096)) (fun _ hk => hk.2) (.int .i64 t1097)) (fun _ hk => hk.2) (.int .i64 t1098)) (fun _ hk => hk.2) (.int .i64 t1099)) (fun _ hk => hk.2) (.slice Ao10 t1100.length co10)) (fun _ h_ => h_.1))) : P := h
theorem z67x5 {P : Prop} (h : P := by (with_reducible repeat (first | apply Kd.V_alloc | apply Kd.V_drewN | apply Kd.V_drew)); exact (Kd.V_mono (Kd.V_far (p := ⟨gb1111, 6, none⟩) (Kd.V_far (p := ⟨gb1111, 5, none⟩) (Kd.V_far (p := ⟨gb1111, 4, none⟩) (Kd.V_far (p := ⟨gb1111, 3, none⟩) (Kd.V_far (p := ⟨gb1111, 2, none⟩) (Kd.V_far (p := ⟨gb1111, 1, none⟩) (Kd.V_far (p := ⟨gb1111, 0, none⟩) (Kd.V_mono HO_7.out (fun k_ hk => (⟨hk, hk.2⟩ : _ ∧ k_ ≠ gb1111))) (fun _ hk => hk.2) (.int .i64 ((rd_T24 t1100 x9_1).f0))) (fun _ hk => hk.2) (.int .i64 ((rd_T24 t1100 x9_1).f1))) (fun _ hk => hk.2) (.int .i64 ((rd_T24 t1100 x9_1).f2))) (fun _ hk => hk.2) (.int .i64 ((rd_T24 t1100 x9_1).f3))) (fun _ hk => hk.2) (.int .i64 ((rd_T24 t1100 x9_1).f4))) (fun _ hk => hk.2) (.int .i64 ((rd_T24 t1100 x9_1).f5))) (fun _ hk => hk.2) (.int .i64 ((rd_T24 t1100 x9_1).f6))) (fun _ h_ => h_.1))) : P := h
theorem z67x4 {P : Prop} (h : P := by (with_reducible repeat (first | apply Kd.R_alloc | apply Kd.R_drewN | apply Kd.R_drew)); exact (Kd.R_mono (Kd.R_far (p := ⟨gb1111, 6, none⟩) (Kd.R_far (p := ⟨gb1111, 5, none⟩) (Kd.R_far (p := ⟨gb1111, 4, none⟩) (Kd.R_far (p := ⟨gb1111, 3, none⟩) (Kd.R_far (p := ⟨gb1111, 2, none⟩) (Kd.R_far (p := ⟨gb1111, 1, none⟩) (Kd.R_far (p := ⟨gb1111, 0, none⟩) (Kd.R_mono HO_4.out (fun k_ hk => (⟨hk, hk.2⟩ : _ ∧ k_ ≠ gb1111))) (fun _ hk => hk.2) (.int .i64 ((rd_T24 t1100 x9_1).f0))) (fun _ hk => hk.2) (.int .i64 ((rd_T24 t1100 x9_1).f1))) (fun _ hk => hk.2) (.int .i64 ((rd_T24 t1100 x9_1).f2))) (fun _ hk => hk.2) (.int .i64 ((rd_T24 t1100 x9_1).f3))) (fun _ hk => hk.2) (.int .i64 ((rd_T24 t1100 x9_1).f4))) (fun _ hk => hk.2) (.int .i64 ((rd_T24 t1100 x9_1).f5))) (fun _ hk => hk.2) (.int .i64 ((rd_T24 t1100 x9_1).f6))) (fun _ h_ => h_.1))) : P := h
theorem z67x3 {P : Prop} (h : P := by (with_reducible repeat (first | apply Kd.R_alloc | apply Kd.R_drewN | apply Kd.R_drew)); exact (Kd.R_mono (Kd.R_far (p := ⟨gb1111, 6, none⟩) (Kd.R_far (p := ⟨gb1111, 5, none⟩) (Kd.R_far (p := ⟨gb1111, 4, none⟩) (Kd.R_far (p := ⟨gb1111, 3, none⟩) (Kd.R_far (p := ⟨gb1111, 2, none⟩) (Kd.R_far (p := ⟨gb1111, 1, none⟩) (Kd.R_far (p := ⟨gb1111, 0, none⟩) (Kd.R_mono HO_1104004.out (fun k_ hk => (⟨hk, hk.2⟩ : _ ∧ k_ ≠ gb1111))) (fun _ hk => hk.2) (.int .i64 ((rd_T24 t1100 x9_1).f0))) (fun _ hk => hk.2) (.int .i64 ((rd_T24 t1100 x9_1).f1))) (fun _ hk => hk.2) (.int .i64 ((rd_T24 t1100 x9_1).f2))) (fun _ hk => hk.2) (.int .i64 ((rd_T24 t1100 x9_1).f3))) (fun _ hk => hk.2) (.int .i64 ((rd_T24 t1100 x9_1).f4))) (fun _ hk => hk.2) (.int .i64 ((rd_T24 t1100 x9_1).f5))) (fun _ hk => hk.2) (.int .i64 ((rd_T24 t1100 x9_1).f6))) (fun _ h_ => h_.1))) : P := h
theorem z67x2 {P : Prop} (h : P := by (with_reducible repeat (first | refine blk_drewN ?_ _ | refine blk_drew ?_ | refine blk_alloc ?_ _)); refine blk_far ?_ NB1103_1111.out _; (with_reducible repeat (first | refine blk_drewN ?_ _ | refine blk_drew ?_ | refine blk_alloc ?_ _)); refine blk_far ?_ NB1103_1111.out _; (with_reducible repeat (first | refine blk_drewN ?_ _ | refine blk_drew ?_ | refine blk_alloc ?_ _)); refine blk_far ?_ NB1103_1111.out _; (with_reducible repeat (first | refine blk_drewN ?_ _ | refine blk_drew ?_ | refine blk_alloc ?_ _)); refine blk_far ?_ NB1103_1111.out _; (with_reducible repeat (first | refine blk_drewN ?_ _ | refine blk_drew ?_ | refine blk_alloc ?_ _)); refine blk_far ?_ NB1103_1111.out _; (with_reducible repeat (first | refine blk_drewN ?_ _ | refine blk_drew ?_ | refine blk_alloc ?_ _)); refine blk_far ?_ NB1103_1111.out _; (with_reducible repeat (first | refine blk_drewN ?_ _ | refine blk_drew ?_ | refine blk_alloc ?_ _)); refine blk_far ?_ NB1103_1111.out _; (with_reducible repeat (first | refine blk_drewN ?_ _ | refine blk_drew ?_ | refine blk_alloc ?_ _)); exact BK1103.out) : P := h
theorem z67x1 {P : Prop} (h : P := by (with_reducible repeat (first | refine blk_drewN ?_ _ | refine blk_drew ?_ | refine blk_alloc ?_ _)); refine blk_put (cs := #[.int .i64 t1096, .int .i64 t1097, .int .i64 t1098, .int .i64 t1099, .slice none 0 0]) ?_ 4 _ rfl; (with_reducible repeat (first | refine blk_drewN ?_ _ | refine blk_drew ?_ | refine blk_alloc ?_ _)); refine blk_put (cs := #[.int .i64 t1096, .int .i64 t1097, .int .i64 t1098, .int .i64 0, .slice none 0 0]) ?_ 3 _ rfl; (with_reducible repeat (first | refine blk_drewN ?_ _ | refine blk_drew ?_ | refine blk_alloc ?_ _)); refine blk_put (cs := #[.int .i64 t1096, .int .i64 t1097, .int .i64 0, .int .i64 0, .slice none 0 0]) ?_ 2 _ rfl; (with_reducible repeat (first | refine blk_drewN ?_ _ | refine blk_drew ?_ | refine blk_alloc ?_ _)); refine blk_put (cs := #[.int .i64 t1096, .int .i64 0, .int .i64 0, .int .i64 0, .slice none 0 0]) ?_ 1 _ rfl; (with_reducible repeat (first | refine blk_drewN ?_ _ | refine blk_drew ?_ | refine blk_alloc ?_ _)); refine blk_put (cs := #[.int .i64 0, .int .i64 0, .int .i64 0, .int .i64 0, .slice none 0 0]) ?_ 0 _ rfl; (with_reducible repeat (first | refine blk_drewN ?_ _ | refine blk_drew ?_ | refine blk_alloc ?_ _)); exact BK1103.out) : P := h
theorem z67x0 {P : Prop} (h : P := by (with_reducible repeat (first | refine blk_drewN ?_ _ | refine blk_drew ?_ | refine blk_alloc ?_ _)); refine blk_put (cs := #[.int .i64 ((rd_T24 t1100 x9_1).f0), .int .i64 ((rd_T24 t1100 x9_1).f1), .int .i64 ((rd_T24 t1100 x9_1).f2), .int .i64 ((rd_T24 t1100 x9_1).f3), .int .i64 ((rd_T24 t1100 x9_1).f4), .int .i64 ((rd_T24 t1100 x9_1).f5), .int .i64 0]) ?_ 6 _ rfl; (with_reducible repeat (first | refine blk_drewN ?_ _ | refine blk_drew ?_ | refine blk_alloc ?_ _)); refine blk_put (cs := #[.int .i64 ((rd_T24 t1100 x9_1).f0), .int .i64 ((rd_T24 t1100 x9_1).f1), .int .i64 ((rd_T24 t1100 x9_1).f2), .int .i64 ((rd_T24 t1100 x9_1).f3), .int .i64 ((rd_T24 t1100 x9_1).f4), .int .i64 0, .int .i64 0]) ?_ 5 _ rfl; (with_reducible repeat (first | refine blk_drewN ?_ _ | refine blk_drew ?_ | refine blk_alloc ?_ _)); refine blk_put (cs := #[.int .i64 ((rd_T24 t1100 x9_1).f0), .int .i64 ((rd_T24 t1100 x9_1).f1), .int .i64 ((rd_T24 t1100 x9_1).f2), .int .i64 ((rd_T24 t1100 x9_1).f3), .int .i64 0, .int .i64 0, .int .i64 0]) ?_ 4 _ rfl; (with_reducible repeat (first | refine blk_drewN ?_ _ | refine blk_drew ?_ | refine blk_alloc ?_ _)); refine blk_put (cs := #[.int .i64 ((rd_T24 t1100 x9_1).f0), .int .i64 ((rd_T24 t1100 x9_1).f1), .int .i64 ((rd_T24 t1100 x9_1).f2), .int .i64 0, .int .i64 0, .int .i64 0, .int .i64 0]) ?_ 3 _ rfl; (with_reducible repeat (first | refine blk_drewN ?_ _ | refine blk_drew ?_ | refine blk_alloc ?_ _)); refine blk_put (cs := #[.int .i64 ((rd_T24 t1100 x9_1).f0), .int .i64 ((rd_T24 t1100 x9_1).f1), .int .i64 0, .int .i64 0, .int .i64 0, .int .i64 0, .int .i64 0]) ?_ 2 _ rfl; (with_reducible repeat (first | refine blk_drewN ?_ _ | refine blk_drew ?_ | refine blk_alloc ?_ _)); refine blk_put (cs := #[.int .i64 ((rd_T24 t1100 x9_1).f0), .int .i64 0, .int .i64 0, .int .i64 0, .int .i64 0, .int .i64 0, .int .i64 0]) ?_ 1 _ rfl; (with_reducible repeat (first | refine blk_drewN ?_ _ | refine blk_drew ?_ | refine blk_alloc ?_ _)); refine blk_put (cs := #[.int .i64 0, .int .i64 0, .int .i64 0, .int .i64 0, .int .i64 0, .int .i64 0, .int .i64 0]) ?_ 0 _ rfl; (with_reducible repeat (first | refine blk_drewN ?_ _ | refine blk_drew ?_ | refine blk_alloc ?_ _)); exact BK1111.out) : P := h

/-! ### laws_FnKnowBuild: function 21 -/
mutual
def laws_FnKnowBuild.l0 : Nat → List (S24) → Bool → List Int → Bool → Int → Int → Int → Int → Int → List (S24) → Option (Bool)
 | 0, _, _, _, _, _, _, _, _, _, _ => none
 | k + 1, x4, x6, x7, x8, x9, x1104000, x1104001, x1104002, x1104003, x1104004 => if x8 = true then (laws_FnKnowBuild.j1 k x4 x6 x7 x8 x9 (decide (x9 < (x1104004.length : Int))) x1104000 x1104001 x1104002 x1104003 x1104004) else (laws_FnKnowBuild.j1 k x4 x6 x7 x8 x9 false x1104000 x1104001 x1104002 x1104003 x1104004)
def laws_FnKnowBuild.j1 : Nat → List (S24) → Bool → List Int → Bool → Int → Bool → Int → Int → Int → Int → List (S24) → Option (Bool)
 | 0, _, _, _, _, _, _, _, _, _, _, _ => none
 | k + 1, x4, x6, x7, x8, x9, x43, x1104000, x1104001, x1104002, x1104003, x1104004 => if x43 = true then (if 0 ≤ x9 then (if x9 < (x1104004.length : Int) then ((impl_SealHolds.f ((rd_T24 x1104004 x9).f0) ((rd_T24 x1104004 x9).f1) ((rd_T24 x1104004 x9).f2) ((rd_T24 x1104004 x9).f3) ((rd_T24 x1104004 x9).f4) ((rd_T24 x1104004 x9).f5) ((rd_T24 x1104004 x9).f6)).bind fun t1112 => ((laws_lbAmong.f k x4 ((rd_T24 x1104004 x9).f0) ((rd_T24 x1104004 x9).f1) ((rd_T24 x1104004 x9).f2) ((rd_T24 x1104004 x9).f3) ((rd_T24 x1104004 x9).f4) ((rd_T24 x1104004 x9).f5) ((rd_T24 x1104004 x9).f6)).bind fun t1113 => (if t1113 = true then (laws_FnKnowBuild.l0 k x4 x6 x7 true (wrap64 (x9 + 1)) x1104000 x1104001 x1104002 x1104003 x1104004) else ((laws_lbHas.f k x7 ((rd_T24 x1104004 x9).f0)).bind fun t1114 => (if t1114 = true then (if t1112 = 0 then (laws_FnKnowBuild.l0 k x4 x6 x7 true (wrap64 (x9 + 1)) x1104000 x1104001 x1104002 x1104003 x1104004) else ((laws_lbHas.f k x7 t1112).bind fun t1115 => (laws_FnKnowBuild.l0 k x4 x6 x7 t1115 (wrap64 (x9 + 1)) x1104000 x1104001 x1104002 x1104003 x1104004))) else (laws_FnKnowBuild.l0 k x4 x6 x7 false (wrap64 (x9 + 1)) x1104000 x1104001 x1104002 x1104003 x1104004)))))) else (none)) else (none)) else (some (x6 == x8))
end
def laws_FnKnowBuild.f (k : Nat) (l0 : List Int) : Option (Bool) := if (l0.length : Int) > 1048576 then (some true) else ((spec_DrawKnowBuild.f k l0).bind fun bt1090 => ((impl_KnowBuild.f bt1090.1 bt1090.2.1 bt1090.2.2.1 bt1090.2.2.2.1 bt1090.2.2.2.2.1 bt1090.2.2.2.2.2.1 bt1090.2.2.2.2.2.2).bind fun t1104 => ((spec_KnowBuild.f k bt1090.1 bt1090.2.1 bt1090.2.2.1 bt1090.2.2.2.1 bt1090.2.2.2.2.1 bt1090.2.2.2.2.2.1 bt1090.2.2.2.2.2.2).bind fun t1105 => (if (t1104 != t1105) = true then (some false) else ((impl_KnowKeys.f bt1090.1 bt1090.2.1).bind fun t1106 => ((impl_MsgOk.f bt1090.2.2.1 bt1090.2.2.2.1 bt1090.2.2.2.2.1 bt1090.2.2.2.2.2.1 bt1090.2.2.2.2.2.2).bind fun t1109 => (laws_FnKnowBuild.l0 k bt1090.2.1 t1104 t1106 t1109 0 bt1090.2.2.1 bt1090.2.2.2.1 bt1090.2.2.2.2.1 bt1090.2.2.2.2.2.1 bt1090.2.2.2.2.2.2)))))))
theorem laws_FnKnowBuild.mono_l : ∀ k, (∀ y0 y1 y2 y3 y4 y5 y6 y7 y8 y9, LeO (laws_FnKnowBuild.l0 k y0 y1 y2 y3 y4 y5 y6 y7 y8 y9) (laws_FnKnowBuild.l0 (k + 1) y0 y1 y2 y3 y4 y5 y6 y7 y8 y9)) ∧ (∀ y0 y1 y2 y3 y4 y5 y6 y7 y8 y9 y10, LeO (laws_FnKnowBuild.j1 k y0 y1 y2 y3 y4 y5 y6 y7 y8 y9 y10) (laws_FnKnowBuild.j1 (k + 1) y0 y1 y2 y3 y4 y5 y6 y7 y8 y9 y10))
 | 0 => ⟨fun _ _ _ _ _ _ _ _ _ _ r h => by simp [laws_FnKnowBuild.l0] at h, fun _ _ _ _ _ _ _ _ _ _ _ r h => by simp [laws_FnKnowBuild.j1] at h⟩
 | k + 1 => by
  obtain ⟨ih0, ih1⟩ := laws_FnKnowBuild.mono_l k
  refine ⟨?_, ?_⟩
  ·intro y0 y1 y2 y3 y4 y5 y6 y7 y8 y9
   unfold laws_FnKnowBuild.l0
   repeat' first
   | (with_reducible exact ih0 _ _ _ _ _ _ _ _ _ _)
   | (with_reducible exact ih1 _ _ _ _ _ _ _ _ _ _ _)
   | (with_reducible exact laws_lbAmong.mono _ _ _ _ _ _ _ _ _)
   | (with_reducible exact laws_lbHas.mono _ _ _)
   | (with_reducible exact spec_DrawKnowBuild.mono _ _)
   | (with_reducible exact spec_KnowBuild.mono _ _ _ _ _ _ _ _)
   | (with_reducible exact LeO.refl _)
   | (with_reducible exact LeO.none _)
   | (with_reducible refine LeO.ite ?_ ?_)
   | (with_reducible refine LeO.bind ?_ (fun _ => ?_))
   | exact ih0 _ _ _ _ _ _ _ _ _ _
   | exact ih1 _ _ _ _ _ _ _ _ _ _ _
   | exact laws_lbAmong.mono _ _ _ _ _ _ _ _ _
   | exact laws_lbHas.mono _ _ _
   | exact spec_DrawKnowBuild.mono _ _
   | exact spec_KnowBuild.mono _ _ _ _ _ _ _ _
   | exact LeO.none _
   | refine LeO.ite ?_ ?_
   | refine LeO.bind ?_ (fun _ => ?_)
  ·intro y0 y1 y2 y3 y4 y5 y6 y7 y8 y9 y10
   unfold laws_FnKnowBuild.j1
   repeat' first
   | (with_reducible exact ih0 _ _ _ _ _ _ _ _ _ _)
   | (with_reducible exact ih1 _ _ _ _ _ _ _ _ _ _ _)
   | (with_reducible exact laws_lbAmong.mono _ _ _ _ _ _ _ _ _)
   | (with_reducible exact laws_lbHas.mono _ _ _)
   | (with_reducible exact spec_DrawKnowBuild.mono _ _)
   | (with_reducible exact spec_KnowBuild.mono _ _ _ _ _ _ _ _)
   | (with_reducible exact LeO.refl _)
   | (with_reducible exact LeO.none _)
   | (with_reducible refine LeO.ite ?_ ?_)
   | (with_reducible refine LeO.bind ?_ (fun _ => ?_))
   | exact ih0 _ _ _ _ _ _ _ _ _ _
   | exact ih1 _ _ _ _ _ _ _ _ _ _ _
   | exact laws_lbAmong.mono _ _ _ _ _ _ _ _ _
   | exact laws_lbHas.mono _ _ _
   | exact spec_DrawKnowBuild.mono _ _
   | exact spec_KnowBuild.mono _ _ _ _ _ _ _ _
   | exact LeO.none _
   | refine LeO.ite ?_ ?_
   | refine LeO.bind ?_ (fun _ => ?_)
theorem laws_FnKnowBuild.mono : ∀ a0 k, LeO (laws_FnKnowBuild.f k a0) (laws_FnKnowBuild.f (k + 1) a0) := by
 intro a0 k
 obtain ⟨ih0, ih1⟩ := laws_FnKnowBuild.mono_l k
 unfold laws_FnKnowBuild.f
 repeat' first
   | (with_reducible exact ih0 _ _ _ _ _ _ _ _ _ _)
   | (with_reducible exact ih1 _ _ _ _ _ _ _ _ _ _ _)
   | (with_reducible exact laws_lbAmong.mono _ _ _ _ _ _ _ _ _)
   | (with_reducible exact laws_lbHas.mono _ _ _)
   | (with_reducible exact spec_DrawKnowBuild.mono _ _)
   | (with_reducible exact spec_KnowBuild.mono _ _ _ _ _ _ _ _)
   | (with_reducible exact LeO.refl _)
   | (with_reducible exact LeO.none _)
   | (with_reducible refine LeO.ite ?_ ?_)
   | (with_reducible refine LeO.bind ?_ (fun _ => ?_))
   | exact ih0 _ _ _ _ _ _ _ _ _ _
   | exact ih1 _ _ _ _ _ _ _ _ _ _ _
   | exact laws_lbAmong.mono _ _ _ _ _ _ _ _ _
   | exact laws_lbHas.mono _ _ _
   | exact spec_DrawKnowBuild.mono _ _
   | exact spec_KnowBuild.mono _ _ _ _ _ _ _ _
   | exact LeO.none _
   | refine LeO.ite ?_ ?_
   | refine LeO.bind ?_ (fun _ => ?_)
set_option maxHeartbeats 8000000 in
set_option maxRecDepth 100000 in
theorem laws_FnKnowBuild.calls (k : Nat) (A0 : Option Addr) (c0 : Nat) (l0 : List Int) (r : Bool) (w : World) (hr0 : Kd.C (Kd.int .u8) w A0 l0.length l0) (hc0 : l0.length ≤ c0) (h : laws_FnKnowBuild.f k l0 = some r) :
  Calls Try.prog 21 #[.slice A0 l0.length c0] w fun e w' => e = .returned (.bool r) ∧ Below w.heap.size w w' := by
 have hu36 := Try.underlying36
 have hu24 := Try.underlying24
 have HR0 := Aside0.mk hr0
 have HC0 := Aside0.mk hc0
 clear hr0 hc0
 have HB := Aside0.mk (Below.refl w.heap.size w)
 have H : (if (l0.length : Int) > 1048576 then (some true) else ((spec_DrawKnowBuild.f k l0).bind fun bt1090 => ((impl_KnowBuild.f bt1090.1 bt1090.2.1 bt1090.2.2.1 bt1090.2.2.2.1 bt1090.2.2.2.2.1 bt1090.2.2.2.2.2.1 bt1090.2.2.2.2.2.2).bind fun t1104 => ((spec_KnowBuild.f k bt1090.1 bt1090.2.1 bt1090.2.2.1 bt1090.2.2.2.1 bt1090.2.2.2.2.1 bt1090.2.2.2.2.2.1 bt1090.2.2.2.2.2.2).bind fun t1105 => (if (t1104 != t1105) = true then (some false) else ((impl_KnowKeys.f bt1090.1 bt1090.2.1).bind fun t1106 => ((impl_MsgOk.f bt1090.2.2.1 bt1090.2.2.2.1 bt1090.2.2.2.2.1 bt1090.2.2.2.2.2.1 bt1090.2.2.2.2.2.2).bind fun t1109 => (laws_FnKnowBuild.l0 k bt1090.2.1 t1104 t1106 t1109 0 bt1090.2.2.1 bt1090.2.2.2.1 bt1090.2.2.2.2.1 bt1090.2.2.2.2.2.1 bt1090.2.2.2.2.2.2)))))))) = some r := h
 clear h
 by_cases c2 : (l0.length : Int) > 1048576
 ·rw [if_pos c2] at H
  have c2b0 : decide (1048576 < (l0.length : Int)) = true := decide_eq_true c2
  have c2b1 : decide (1048576 < l0.length) = true := decide_eq_true (by omega)
  clear c2
  obtain rfl := Option.some.inj H
  go_enter Try.func21, Try.ntmps21
  go_wp2
  go_ret
  exact ⟨by first | rfl | (simp [errW_none, errW_some] <;> rfl) | (simp [*, errW_none, errW_some] <;> rfl), by repeat (first | (with_reducible first | exact HB.out | apply below_alloc | apply pw_below_drewN | apply below_drew1) | exact HB.out)⟩
 ·rw [if_neg c2] at H
  have c2b0 : decide (1048576 < (l0.length : Int)) = false := decide_eq_false c2
  have c2b1 : decide (1048576 < l0.length) = false := decide_eq_false (by omega)
  clear c2
  replace H := Option.bind_eq_some_iff.mp H
  obtain ⟨⟨t1090, t1093, t1096, t1097, t1098, t1099, t1100⟩, A30, H⟩ := H
  replace H : ((impl_KnowBuild.f t1090 t1093 t1096 t1097 t1098 t1099 t1100).bind fun t1104 => ((spec_KnowBuild.f k t1090 t1093 t1096 t1097 t1098 t1099 t1100).bind fun t1105 => (if (t1104 != t1105) = true then (some false) else ((impl_KnowKeys.f t1090 t1093).bind fun t1106 => ((impl_MsgOk.f t1096 t1097 t1098 t1099 t1100).bind fun t1109 => (laws_FnKnowBuild.l0 k t1093 t1104 t1106 t1109 0 t1096 t1097 t1098 t1099 t1100)))))) = some r := H
  have A3 := Aside0.mk A30
  clear A30
  replace H := Option.bind_eq_some_iff.mp H
  obtain ⟨t1104, A40, H⟩ := H
  replace H : ((spec_KnowBuild.f k t1090 t1093 t1096 t1097 t1098 t1099 t1100).bind fun t1105 => (if (t1104 != t1105) = true then (some false) else ((impl_KnowKeys.f t1090 t1093).bind fun t1106 => ((impl_MsgOk.f t1096 t1097 t1098 t1099 t1100).bind fun t1109 => (laws_FnKnowBuild.l0 k t1093 t1104 t1106 t1109 0 t1096 t1097 t1098 t1099 t1100))))) = some r := H
  have A4 := Aside0.mk A40
  clear A40
  replace H := Option.bind_eq_some_iff.mp H
  obtain ⟨t1105, A50, H⟩ := H
  replace H : (if (t1104 != t1105) = true then (some false) else ((impl_KnowKeys.f t1090 t1093).bind fun t1106 => ((impl_MsgOk.f t1096 t1097 t1098 t1099 t1100).bind fun t1109 => (laws_FnKnowBuild.l0 k t1093 t1104 t1106 t1109 0 t1096 t1097 t1098 t1099 t1100)))) = some r := H
  have A5 := Aside0.mk A50
  clear A50
  by_cases c6 : (t1104 != t1105) = true
  ·rw [if_pos c6] at H
   have c6b0 : (t1104 != t1105) = true := c6
   (try (have c6b1 : decide (t1104 = t1105) = false := by simpa using c6))
   (try (have c6b2 : (t1104 == t1105) = false := by simpa using c6))
   (try (have c6b3 : ¬ (t1104 = t1105) := by simpa using c6))
   clear c6
   obtain rfl := Option.some.inj H
   go_enter Try.func21, Try.ntmps21
   go_wp2_with (first | ((with_reducible refine gate_callee (f := 53) rfl ?_); refine goesL_ (some 17) rfl rfl Try.func53 (by kernel_rfl) rfl #[.slice A0 l0.length c0] rfl z67x18 ?_; (with_reducible refine (spec_DrawKnowBuild.calls k _ _ l0 t1090 t1093 t1096 t1097 t1098 t1099 t1100 _ ?side1 ?side2 A3.out).mono ?_); (case side1 => repeat (first | exact HR0.out | (with_reducible refine Kd.C_alloc ?_ _) | (with_reducible refine Kd.C_drewN ?_ _) | (with_reducible refine Kd.C_drew ?_))); (case side2 => exact HC0.out); rintro e w7 ⟨v1091, v1094, v1101, rfl, ho0, ho1, ho2, hb⟩; refine ⟨_, rfl, ?_⟩; have n0_ := Aside0.mk (Kd.R_lower ho0 (below_size z67x19)); have n1_ := Aside0.mk (Kd.R_lower ho1 (below_size z67x19)); have n2_ := Aside0.mk (Kd.R_lower ho2 (below_size z67x19)); have n3_ := Aside0.mk (below_step z67x19 hb); clear HB; have HO1092 := n0_; have HO1095 := n1_; have HO1102 := n2_; have HB := n3_; clear n0_ n1_ n2_ n3_; (try clear hb); (try clear hb2); (try clear hk); (try clear hi); (try clear ho0); (try clear ho1); (try clear ho2)) | ((with_reducible refine gate_dst (N := 5) rfl ?_); refine box_event ?hg (N := 5) ?hd (cs := #[.int .i64 0, .int .i64 0, .int .i64 0, .int .i64 0, .slice none 0 0]) (t := 36) ?hr ?_; (case hd => rfl); (case hg => rfl); (case hr => first | (go_simp; done) | (go_simp; rfl)); intro gb1103 hg w8 hbox hb; have n0_ := Aside0.mk (Kd.R_below z67x23 hb); have n1_ := Aside0.mk (Kd.R_below z67x24 hb); have n2_ := Aside0.mk (Kd.R_below z67x25 hb); have n3_ := Aside0.mk (below_step z67x19 hb); have n4_ := Aside0.mk (hbox); have n5_ := Aside0.mk ((z67x17 : w.heap.size ≤ gb1103)); have n6_ := Aside0.mk ((z67x17 : w.heap.size ≤ gb1103)); clear HO1092; clear HO1095; clear HO1102; clear HB; have HO1092 := n0_; have HO1095 := n1_; have HO1102 := n2_; have HB := n3_; have BK1103 := n4_; have GW1103 := n5_; have GE1103 := n6_; clear n0_ n1_ n2_ n3_ n4_ n5_ n6_; clear hb hbox hg; have hcz9_0 : w8.cell? ⟨gb1103, 0, none⟩ = some (.int .i64 0) := (blk_cell BK1103.out 0).trans rfl; have hcz9_1 : w8.cell? ⟨gb1103, 1, none⟩ = some (.int .i64 0) := (blk_cell BK1103.out 1).trans rfl; have hcz9_2 : w8.cell? ⟨gb1103, 2, none⟩ = some (.int .i64 0) := (blk_cell BK1103.out 2).trans rfl; have hcz9_3 : w8.cell? ⟨gb1103, 3, none⟩ = some (.int .i64 0) := (blk_cell BK1103.out 3).trans rfl; have hcz9_4 : w8.cell? ⟨gb1103, 4, none⟩ = some (.slice none 0 0) := (blk_cell BK1103.out 4).trans rfl; have hfz9_0 := blk_frozen BK1103.out 0; have hfz9_1 := blk_frozen BK1103.out 1; have hfz9_2 := blk_frozen BK1103.out 2; have hfz9_3 := blk_frozen BK1103.out 3; have hfz9_4 := blk_frozen BK1103.out 4; obtain ⟨Ao10, co10, eo10⟩ := Kd.R_slice HO1102.out; subst eo10; obtain ⟨Ao11, co11, eo11⟩ := Kd.R_slice HO1092.out; subst eo11; obtain ⟨Ao12, co12, eo12⟩ := Kd.R_slice HO1095.out; subst eo12) | ((with_reducible refine gate_callee (f := 52) rfl ?_); refine goesL_ (some 24) rfl rfl Try.func52 (by kernel_rfl) rfl #[.slice Ao11 t1090.length co11, .slice Ao12 t1093.length co12, .agg #[.int .i64 t1096, .int .i64 t1097, .int .i64 t1098, .int .i64 t1099, .slice Ao10 t1100.length co10]] rfl z67x18 ?_; (with_reducible refine (impl_KnowBuild.calls _ _ t1090 _ _ t1093 t1096 t1097 t1098 t1099 _ _ t1100 t1104 _ ?side1 ?side2 ?side3 ?side4 ?side5 ?side6 A4.out).mono ?_); (case side1 => refine (Kd.R_reads' (e := 3) (base := w.heap.size) (ok := fun k_ => True) (n := t1090.length) (c := co11) ?_).2.2; exact z67x6); (case side2 => exact (Kd.R_reads' HO1092.out).2.1); (case side3 => refine (Kd.R_reads' (e := 24) (base := w.heap.size) (ok := fun k_ => some k_ ≠ (.slice Ao10 t1100.length co10 : Value).ownBlock) (n := t1093.length) (c := co12) ?_).2.2; exact z67x8); (case side4 => exact (Kd.R_reads' HO1095.out).2.1); (case side5 => refine (Kd.R_reads' (e := 24) (base := w.heap.size) (ok := fun k_ => some k_ ≠ (.slice Ao12 t1093.length co12 : Value).ownBlock) (n := t1100.length) (c := co10) ?_).2.2; exact z67x10); (case side6 => exact (Kd.R_reads' HO1102.out).2.1); rintro e w13 ⟨rfl, hb⟩; refine ⟨_, rfl, ?_⟩; have n0_ := Aside0.mk (Kd.R_below z67x6 hb); have n1_ := Aside0.mk (Kd.R_below z67x8 hb); have n2_ := Aside0.mk (Kd.R_below z67x10 hb); have n3_ := Aside0.mk (blk_below (g := gb1103) (o := .cells #[.int .i64 t1096, .int .i64 t1097, .int .i64 t1098, .int .i64 t1099, .slice Ao10 t1100.length co10] 36 (0, 0)) z67x1 hb); have n4_ := Aside0.mk (below_step z67x16 hb); clear HO1092; clear HO1095; clear HO1102; clear BK1103; clear HB; have HO1092 := n0_; have HO1095 := n1_; have HO1102 := n2_; have BK1103 := n3_; have HB := n4_; clear n0_ n1_ n2_ n3_ n4_; (try clear hb); (try clear hb2); (try clear hk); (try clear hi); have hcz14_0 : w13.cell? ⟨gb1103, 0, none⟩ = some (.int .i64 t1096) := (blk_cell BK1103.out 0).trans rfl; have hcz14_1 : w13.cell? ⟨gb1103, 1, none⟩ = some (.int .i64 t1097) := (blk_cell BK1103.out 1).trans rfl; have hcz14_2 : w13.cell? ⟨gb1103, 2, none⟩ = some (.int .i64 t1098) := (blk_cell BK1103.out 2).trans rfl; have hcz14_3 : w13.cell? ⟨gb1103, 3, none⟩ = some (.int .i64 t1099) := (blk_cell BK1103.out 3).trans rfl; have hcz14_4 : w13.cell? ⟨gb1103, 4, none⟩ = some (.slice Ao10 t1100.length co10) := (blk_cell BK1103.out 4).trans rfl; have hfz14_0 := blk_frozen BK1103.out 0; have hfz14_1 := blk_frozen BK1103.out 1; have hfz14_2 := blk_frozen BK1103.out 2; have hfz14_3 := blk_frozen BK1103.out 3; have hfz14_4 := blk_frozen BK1103.out 4) | ((with_reducible refine gate_callee (f := 51) rfl ?_); refine goesL_ (some 29) rfl rfl Try.func51 (by kernel_rfl) rfl #[.slice Ao11 t1090.length co11, .slice Ao12 t1093.length co12, .agg #[.int .i64 t1096, .int .i64 t1097, .int .i64 t1098, .int .i64 t1099, .slice Ao10 t1100.length co10]] rfl z67x18 ?_; (with_reducible refine (spec_KnowBuild.calls k _ _ t1090 _ _ t1093 t1096 t1097 t1098 t1099 _ _ t1100 t1105 _ ?side1 ?side2 ?side3 ?side4 ?side5 ?side6 A5.out).mono ?_); (case side1 => repeat (first | exact (Kd.R_reads' HO1092.out).2.2 | (with_reducible refine Kd.C_alloc ?_ _) | (with_reducible refine Kd.C_drewN ?_ _) | (with_reducible refine Kd.C_drew ?_))); (case side2 => exact (Kd.R_reads' HO1092.out).2.1); (case side3 => repeat (first | exact (Kd.R_reads' HO1095.out).2.2 | (with_reducible refine Kd.C_alloc ?_ _) | (with_reducible refine Kd.C_drewN ?_ _) | (with_reducible refine Kd.C_drew ?_))); (case side4 => exact (Kd.R_reads' HO1095.out).2.1); (case side5 => repeat (first | exact (Kd.R_reads' HO1102.out).2.2 | (with_reducible refine Kd.C_alloc ?_ _) | (with_reducible refine Kd.C_drewN ?_ _) | (with_reducible refine Kd.C_drew ?_))); (case side6 => exact (Kd.R_reads' HO1102.out).2.1); rintro e w15 ⟨rfl, hb⟩; refine ⟨_, rfl, ?_⟩; have n0_ := Aside0.mk (Kd.R_below z67x23 hb); have n1_ := Aside0.mk (Kd.R_below z67x24 hb); have n2_ := Aside0.mk (Kd.R_below z67x25 hb); have n3_ := Aside0.mk (blk_below (g := gb1103) (o := .cells #[.int .i64 t1096, .int .i64 t1097, .int .i64 t1098, .int .i64 t1099, .slice Ao10 t1100.length co10] 36 (0, 0)) z67x20 hb); have n4_ := Aside0.mk (below_step z67x16 hb); clear HO1092; clear HO1095; clear HO1102; clear BK1103; clear HB; have HO1092 := n0_; have HO1095 := n1_; have HO1102 := n2_; have BK1103 := n3_; have HB := n4_; clear n0_ n1_ n2_ n3_ n4_; (try clear hb); (try clear hb2); (try clear hk); (try clear hi)))
   go_ret
   exact ⟨by first | rfl | (simp [errW_none, errW_some] <;> rfl) | (simp [*, errW_none, errW_some] <;> rfl), by repeat (first | (with_reducible first | exact HB.out | apply below_alloc | apply pw_below_drewN | apply below_drew1 | refine below_set ?_ GE1103.out) | exact HB.out)⟩
  ·rw [if_neg c6] at H
   have c6b0 : (t1104 != t1105) = false := by simpa using c6
   (try (have c6b1 : decide (t1104 = t1105) = true := by simpa using c6))
   (try (have c6b2 : (t1104 == t1105) = true := by simpa using c6))
   clear c6
   replace H := Option.bind_eq_some_iff.mp H
   obtain ⟨t1106, A160, H⟩ := H
   replace H : ((impl_MsgOk.f t1096 t1097 t1098 t1099 t1100).bind fun t1109 => (laws_FnKnowBuild.l0 k t1093 t1104 t1106 t1109 0 t1096 t1097 t1098 t1099 t1100)) = some r := H
   have A16 := Aside0.mk A160
   clear A160
   replace H := Option.bind_eq_some_iff.mp H
   obtain ⟨t1109, A170, H⟩ := H
   replace H : (laws_FnKnowBuild.l0 k t1093 t1104 t1106 t1109 0 t1096 t1097 t1098 t1099 t1100) = some r := H
   have A17 := Aside0.mk A170
   clear A170
   have H' := Aside0.mk H
   clear H
   go_enter Try.func21, Try.ntmps21
   go_wp2_with (first | ((with_reducible refine gate_callee (f := 53) rfl ?_); refine goesL_ (some 17) rfl rfl Try.func53 (by kernel_rfl) rfl #[.slice A0 l0.length c0] rfl z67x18 ?_; (with_reducible refine (spec_DrawKnowBuild.calls k _ _ l0 t1090 t1093 t1096 t1097 t1098 t1099 t1100 _ ?side1 ?side2 A3.out).mono ?_); (case side1 => repeat (first | exact HR0.out | (with_reducible refine Kd.C_alloc ?_ _) | (with_reducible refine Kd.C_drewN ?_ _) | (with_reducible refine Kd.C_drew ?_))); (case side2 => exact HC0.out); rintro e w18 ⟨v1091, v1094, v1101, rfl, ho0, ho1, ho2, hb⟩; refine ⟨_, rfl, ?_⟩; have n0_ := Aside0.mk (Kd.R_lower ho0 (below_size z67x19)); have n1_ := Aside0.mk (Kd.R_lower ho1 (below_size z67x19)); have n2_ := Aside0.mk (Kd.R_lower ho2 (below_size z67x19)); have n3_ := Aside0.mk (below_step z67x19 hb); clear HB; have HO1092 := n0_; have HO1095 := n1_; have HO1102 := n2_; have HB := n3_; clear n0_ n1_ n2_ n3_; (try clear hb); (try clear hb2); (try clear hk); (try clear hi); (try clear ho0); (try clear ho1); (try clear ho2)) | ((with_reducible refine gate_dst (N := 5) rfl ?_); refine box_event ?hg (N := 5) ?hd (cs := #[.int .i64 0, .int .i64 0, .int .i64 0, .int .i64 0, .slice none 0 0]) (t := 36) ?hr ?_; (case hd => rfl); (case hg => rfl); (case hr => first | (go_simp; done) | (go_simp; rfl)); intro gb1103 hg w19 hbox hb; have n0_ := Aside0.mk (Kd.R_below z67x23 hb); have n1_ := Aside0.mk (Kd.R_below z67x24 hb); have n2_ := Aside0.mk (Kd.R_below z67x25 hb); have n3_ := Aside0.mk (below_step z67x19 hb); have n4_ := Aside0.mk (hbox); have n5_ := Aside0.mk ((z67x17 : w.heap.size ≤ gb1103)); have n6_ := Aside0.mk ((z67x17 : w.heap.size ≤ gb1103)); clear HO1092; clear HO1095; clear HO1102; clear HB; have HO1092 := n0_; have HO1095 := n1_; have HO1102 := n2_; have HB := n3_; have BK1103 := n4_; have GW1103 := n5_; have GE1103 := n6_; clear n0_ n1_ n2_ n3_ n4_ n5_ n6_; clear hb hbox hg; have hcz20_0 : w19.cell? ⟨gb1103, 0, none⟩ = some (.int .i64 0) := (blk_cell BK1103.out 0).trans rfl; have hcz20_1 : w19.cell? ⟨gb1103, 1, none⟩ = some (.int .i64 0) := (blk_cell BK1103.out 1).trans rfl; have hcz20_2 : w19.cell? ⟨gb1103, 2, none⟩ = some (.int .i64 0) := (blk_cell BK1103.out 2).trans rfl; have hcz20_3 : w19.cell? ⟨gb1103, 3, none⟩ = some (.int .i64 0) := (blk_cell BK1103.out 3).trans rfl; have hcz20_4 : w19.cell? ⟨gb1103, 4, none⟩ = some (.slice none 0 0) := (blk_cell BK1103.out 4).trans rfl; have hfz20_0 := blk_frozen BK1103.out 0; have hfz20_1 := blk_frozen BK1103.out 1; have hfz20_2 := blk_frozen BK1103.out 2; have hfz20_3 := blk_frozen BK1103.out 3; have hfz20_4 := blk_frozen BK1103.out 4; obtain ⟨Ao21, co21, eo21⟩ := Kd.R_slice HO1102.out; subst eo21; obtain ⟨Ao22, co22, eo22⟩ := Kd.R_slice HO1092.out; subst eo22; obtain ⟨Ao23, co23, eo23⟩ := Kd.R_slice HO1095.out; subst eo23) | ((with_reducible refine gate_callee (f := 52) rfl ?_); refine goesL_ (some 24) rfl rfl Try.func52 (by kernel_rfl) rfl #[.slice Ao22 t1090.length co22, .slice Ao23 t1093.length co23, .agg #[.int .i64 t1096, .int .i64 t1097, .int .i64 t1098, .int .i64 t1099, .slice Ao21 t1100.length co21]] rfl z67x18 ?_; (with_reducible refine (impl_KnowBuild.calls _ _ t1090 _ _ t1093 t1096 t1097 t1098 t1099 _ _ t1100 t1104 _ ?side1 ?side2 ?side3 ?side4 ?side5 ?side6 A4.out).mono ?_); (case side1 => refine (Kd.R_reads' (e := 3) (base := w.heap.size) (ok := fun k_ => True) (n := t1090.length) (c := co22) ?_).2.2; exact z67x7); (case side2 => exact (Kd.R_reads' HO1092.out).2.1); (case side3 => refine (Kd.R_reads' (e := 24) (base := w.heap.size) (ok := fun k_ => some k_ ≠ (.slice Ao21 t1100.length co21 : Value).ownBlock) (n := t1093.length) (c := co23) ?_).2.2; exact z67x9); (case side4 => exact (Kd.R_reads' HO1095.out).2.1); (case side5 => refine (Kd.R_reads' (e := 24) (base := w.heap.size) (ok := fun k_ => some k_ ≠ (.slice Ao23 t1093.length co23 : Value).ownBlock) (n := t1100.length) (c := co21) ?_).2.2; exact z67x11); (case side6 => exact (Kd.R_reads' HO1102.out).2.1); rintro e w24 ⟨rfl, hb⟩; refine ⟨_, rfl, ?_⟩; have n0_ := Aside0.mk (Kd.R_below z67x7 hb); have n1_ := Aside0.mk (Kd.R_below z67x9 hb); have n2_ := Aside0.mk (Kd.R_below z67x11 hb); have n3_ := Aside0.mk (blk_below (g := gb1103) (o := .cells #[.int .i64 t1096, .int .i64 t1097, .int .i64 t1098, .int .i64 t1099, .slice Ao21 t1100.length co21] 36 (0, 0)) z67x1 hb); have n4_ := Aside0.mk (below_step z67x16 hb); clear HO1092; clear HO1095; clear HO1102; clear BK1103; clear HB; have HO1092 := n0_; have HO1095 := n1_; have HO1102 := n2_; have BK1103 := n3_; have HB := n4_; clear n0_ n1_ n2_ n3_ n4_; (try clear hb); (try clear hb2); (try clear hk); (try clear hi); have hcz25_0 : w24.cell? ⟨gb1103, 0, none⟩ = some (.int .i64 t1096) := (blk_cell BK1103.out 0).trans rfl; have hcz25_1 : w24.cell? ⟨gb1103, 1, none⟩ = some (.int .i64 t1097) := (blk_cell BK1103.out 1).trans rfl; have hcz25_2 : w24.cell? ⟨gb1103, 2, none⟩ = some (.int .i64 t1098) := (blk_cell BK1103.out 2).trans rfl; have hcz25_3 : w24.cell? ⟨gb1103, 3, none⟩ = some (.int .i64 t1099) := (blk_cell BK1103.out 3).trans rfl; have hcz25_4 : w24.cell? ⟨gb1103, 4, none⟩ = some (.slice Ao21 t1100.length co21) := (blk_cell BK1103.out 4).trans rfl; have hfz25_0 := blk_frozen BK1103.out 0; have hfz25_1 := blk_frozen BK1103.out 1; have hfz25_2 := blk_frozen BK1103.out 2; have hfz25_3 := blk_frozen BK1103.out 3; have hfz25_4 := blk_frozen BK1103.out 4) | ((with_reducible refine gate_callee (f := 51) rfl ?_); refine goesL_ (some 29) rfl rfl Try.func51 (by kernel_rfl) rfl #[.slice Ao22 t1090.length co22, .slice Ao23 t1093.length co23, .agg #[.int .i64 t1096, .int .i64 t1097, .int .i64 t1098, .int .i64 t1099, .slice Ao21 t1100.length co21]] rfl z67x18 ?_; (with_reducible refine (spec_KnowBuild.calls k _ _ t1090 _ _ t1093 t1096 t1097 t1098 t1099 _ _ t1100 t1105 _ ?side1 ?side2 ?side3 ?side4 ?side5 ?side6 A5.out).mono ?_); (case side1 => repeat (first | exact (Kd.R_reads' HO1092.out).2.2 | (with_reducible refine Kd.C_alloc ?_ _) | (with_reducible refine Kd.C_drewN ?_ _) | (with_reducible refine Kd.C_drew ?_))); (case side2 => exact (Kd.R_reads' HO1092.out).2.1); (case side3 => repeat (first | exact (Kd.R_reads' HO1095.out).2.2 | (with_reducible refine Kd.C_alloc ?_ _) | (with_reducible refine Kd.C_drewN ?_ _) | (with_reducible refine Kd.C_drew ?_))); (case side4 => exact (Kd.R_reads' HO1095.out).2.1); (case side5 => repeat (first | exact (Kd.R_reads' HO1102.out).2.2 | (with_reducible refine Kd.C_alloc ?_ _) | (with_reducible refine Kd.C_drewN ?_ _) | (with_reducible refine Kd.C_drew ?_))); (case side6 => exact (Kd.R_reads' HO1102.out).2.1); rintro e w26 ⟨rfl, hb⟩; refine ⟨_, rfl, ?_⟩; have n0_ := Aside0.mk (Kd.R_below z67x23 hb); have n1_ := Aside0.mk (Kd.R_below z67x24 hb); have n2_ := Aside0.mk (Kd.R_below z67x25 hb); have n3_ := Aside0.mk (blk_below (g := gb1103) (o := .cells #[.int .i64 t1096, .int .i64 t1097, .int .i64 t1098, .int .i64 t1099, .slice Ao21 t1100.length co21] 36 (0, 0)) z67x20 hb); have n4_ := Aside0.mk (below_step z67x16 hb); clear HO1092; clear HO1095; clear HO1102; clear BK1103; clear HB; have HO1092 := n0_; have HO1095 := n1_; have HO1102 := n2_; have BK1103 := n3_; have HB := n4_; clear n0_ n1_ n2_ n3_ n4_; (try clear hb); (try clear hb2); (try clear hk); (try clear hi)) | ((with_reducible refine gate_callee (f := 34) rfl ?_); refine goesL_ (some 33) rfl rfl Try.func34 (by kernel_rfl) rfl #[.slice Ao22 t1090.length co22, .slice Ao23 t1093.length co23] rfl z67x18 ?_; (with_reducible refine (impl_KnowKeys.calls _ _ t1090 _ _ t1093 t1106 _ ?side1 ?side2 ?side3 ?side4 A16.out).mono ?_); (case side1 => repeat (first | exact (Kd.R_reads' HO1092.out).2.2 | (with_reducible refine Kd.C_alloc ?_ _) | (with_reducible refine Kd.C_drewN ?_ _) | (with_reducible refine Kd.C_drew ?_))); (case side2 => exact (Kd.R_reads' HO1092.out).2.1); (case side3 => repeat (first | exact (Kd.R_reads' HO1095.out).2.2 | (with_reducible refine Kd.C_alloc ?_ _) | (with_reducible refine Kd.C_drewN ?_ _) | (with_reducible refine Kd.C_drew ?_))); (case side4 => exact (Kd.R_reads' HO1095.out).2.1); rintro e w27 ⟨v1107, rfl, ho0, hb⟩; refine ⟨_, rfl, ?_⟩; have n0_ := Aside0.mk (Kd.R_below z67x23 hb); have n1_ := Aside0.mk (Kd.R_below z67x24 hb); have n2_ := Aside0.mk (Kd.R_below z67x25 hb); have n3_ := Aside0.mk (Kd.V_lower (Kd.V_mono (ok' := fun k_ => some k_ ≠ (.slice Ao22 t1090.length co22 : Value).ownBlock ∧ some k_ ≠ (.slice Ao23 t1093.length co23 : Value).ownBlock ∧ some k_ ≠ (.slice Ao21 t1100.length co21 : Value).ownBlock ∧ k_ ≠ gb1103) ho0 (fun k_ hk_ => ⟨(Kd.fresh' (Kd.R_lt z67x23) k_ hk_), (Kd.fresh' (Kd.R_lt z67x24) k_ hk_), (Kd.fresh' (Kd.R_lt z67x25) k_ hk_), (Kd.freshB (g := gb1103) (o := .cells #[.int .i64 t1096, .int .i64 t1097, .int .i64 t1098, .int .i64 t1099, .slice Ao21 t1100.length co21] 36 (0, 0)) z67x20 k_ hk_)⟩)) (below_size z67x16)); have n4_ := Aside0.mk (blk_below (g := gb1103) (o := .cells #[.int .i64 t1096, .int .i64 t1097, .int .i64 t1098, .int .i64 t1099, .slice Ao21 t1100.length co21] 36 (0, 0)) z67x20 hb); have n5_ := Aside0.mk (below_step z67x16 hb); clear HO1092; clear HO1095; clear HO1102; clear BK1103; clear HB; have HO1092 := n0_; have HO1095 := n1_; have HO1102 := n2_; have HO1108 := n3_; have BK1103 := n4_; have HB := n5_; clear n0_ n1_ n2_ n3_ n4_ n5_; (try clear hb); (try clear hb2); (try clear hk); (try clear hi); (try clear ho0); have hcz28_0 : w27.cell? ⟨gb1103, 0, none⟩ = some (.int .i64 t1096) := (blk_cell BK1103.out 0).trans rfl; have hcz28_1 : w27.cell? ⟨gb1103, 1, none⟩ = some (.int .i64 t1097) := (blk_cell BK1103.out 1).trans rfl; have hcz28_2 : w27.cell? ⟨gb1103, 2, none⟩ = some (.int .i64 t1098) := (blk_cell BK1103.out 2).trans rfl; have hcz28_3 : w27.cell? ⟨gb1103, 3, none⟩ = some (.int .i64 t1099) := (blk_cell BK1103.out 3).trans rfl; have hcz28_4 : w27.cell? ⟨gb1103, 4, none⟩ = some (.slice Ao21 t1100.length co21) := (blk_cell BK1103.out 4).trans rfl; have hfz28_0 := blk_frozen BK1103.out 0; have hfz28_1 := blk_frozen BK1103.out 1; have hfz28_2 := blk_frozen BK1103.out 2; have hfz28_3 := blk_frozen BK1103.out 3; have hfz28_4 := blk_frozen BK1103.out 4) | ((with_reducible refine gate_callee (f := 29) rfl ?_); refine goesL_ (some 35) rfl rfl Try.func29 (by kernel_rfl) rfl #[.agg #[.int .i64 t1096, .int .i64 t1097, .int .i64 t1098, .int .i64 t1099, .slice Ao21 t1100.length co21]] rfl z67x18 ?_; (with_reducible refine (impl_MsgOk.calls t1096 t1097 t1098 t1099 _ _ t1100 t1109 _ ?side1 ?side2 A17.out).mono ?_); (case side1 => repeat (first | exact (Kd.R_reads' HO1102.out).2.2 | (with_reducible refine Kd.C_alloc ?_ _) | (with_reducible refine Kd.C_drewN ?_ _) | (with_reducible refine Kd.C_drew ?_))); (case side2 => exact (Kd.R_reads' HO1102.out).2.1); rintro e w29 ⟨rfl, hb⟩; refine ⟨_, rfl, ?_⟩; have n0_ := Aside0.mk (Kd.R_below z67x23 hb); have n1_ := Aside0.mk (Kd.R_below z67x24 hb); have n2_ := Aside0.mk (Kd.R_below z67x25 hb); have n3_ := Aside0.mk (Kd.V_below (by (with_reducible repeat (first | apply Kd.V_alloc | apply Kd.V_drewN | apply Kd.V_drew)); exact HO1108.out) hb); have n4_ := Aside0.mk (blk_below (g := gb1103) (o := .cells #[.int .i64 t1096, .int .i64 t1097, .int .i64 t1098, .int .i64 t1099, .slice Ao21 t1100.length co21] 36 (0, 0)) z67x20 hb); have n5_ := Aside0.mk (below_step z67x16 hb); clear HO1092; clear HO1095; clear HO1102; clear HO1108; clear BK1103; clear HB; have HO1092 := n0_; have HO1095 := n1_; have HO1102 := n2_; have HO1108 := n3_; have BK1103 := n4_; have HB := n5_; clear n0_ n1_ n2_ n3_ n4_ n5_; (try clear hb); (try clear hb2); (try clear hk); (try clear hi)))
   go_loopg [8, 9] k (fun kq v8 v9 w' => ∃ (x8_1 : Bool) (x9_1 : Int), v8 = .bool x8_1 ∧ v9 = .int .i64 x9_1 ∧ Aside0 (laws_FnKnowBuild.l0 kq t1093 t1104 t1106 x8_1 x9_1 t1096 t1097 t1098 t1099 t1100 = some r) ∧ Aside0 (kq ≤ k) ∧ Aside0 (Kd.R k24 24 w' w.heap.size (fun k_ => some k_ ≠ ((.slice Ao21 t1100.length co21) : Value).ownBlock) (.slice Ao23 t1093.length co23) t1093) ∧ Aside0 (Kd.V (Kd.int .i64) 3 w' w.heap.size (fun k_ => some k_ ≠ ((.slice Ao23 t1093.length co23) : Value).ownBlock ∧ some k_ ≠ ((.slice Ao21 t1100.length co21) : Value).ownBlock ∧ k_ ≠ gb1103) v1107 t1106) ∧ Aside0 (Kd.R k24 24 w' w.heap.size (fun k_ => some k_ ≠ ((.slice Ao23 t1093.length co23) : Value).ownBlock) (.slice Ao21 t1100.length co21) t1100) ∧ Aside0 (w'.heap[gb1103]? = some (.cells #[.int .i64 t1096, .int .i64 t1097, .int .i64 t1098, .int .i64 t1099, (.slice Ao21 t1100.length co21)] 36 (0, 0))) ∧ Aside0 (Below w.heap.size w w'))
   case atStart => exact ⟨(t1109), (0), (by first | rfl | (simp; done) | (simp [*]; done)), (by first | rfl | (simp; done) | (simp [*]; done)), H', ⟨Nat.le_refl _⟩, ⟨by (with_reducible repeat (first | apply Kd.R_alloc | apply Kd.R_drewN | apply Kd.R_drew)); exact HO1095.out⟩, ⟨by (with_reducible repeat (first | apply Kd.V_alloc | apply Kd.V_drewN | apply Kd.V_drew)); exact Kd.V_mono HO1108.out (fun _ hk => ⟨hk.2.1, ⟨hk.2.2.1, hk.2.2.2⟩⟩)⟩, ⟨by (with_reducible repeat (first | apply Kd.R_alloc | apply Kd.R_drewN | apply Kd.R_drew)); exact HO1102.out⟩, ⟨by (with_reducible repeat (first | refine blk_drewN ?_ _ | refine blk_drew ?_ | refine blk_alloc ?_ _)); exact BK1103.out⟩, ⟨by repeat (first | (with_reducible first | exact HB.out | apply below_alloc | apply pw_below_drewN | apply below_drew1 | refine below_set ?_ GE1103.out) | exact HB.out)⟩⟩
   case round =>
    clear H'
    try clear c2
    try clear c2b0
    try clear c2b1
    try clear p2
    try clear c3
    try clear c5
    try clear c6
    try clear c6b0
    try clear c6b1
    try clear c6b2
    try clear c21
    try clear c29
    try clear hcz14_0
    try clear hcz14_1
    try clear hcz14_2
    try clear hcz14_3
    try clear hcz14_4
    try clear hcz20_0
    try clear hcz20_1
    try clear hcz20_2
    try clear hcz20_3
    try clear hcz20_4
    try clear hcz25_0
    try clear hcz25_1
    try clear hcz25_2
    try clear hcz25_3
    try clear hcz25_4
    try clear hcz28_0
    try clear hcz28_1
    try clear hcz28_2
    try clear hcz28_3
    try clear hcz28_4
    try clear hcz9_0
    try clear hcz9_1
    try clear hcz9_2
    try clear hcz9_3
    try clear hcz9_4
    try clear hfz14_0
    try clear hfz14_1
    try clear hfz14_2
    try clear hfz14_3
    try clear hfz14_4
    try clear hfz20_0
    try clear hfz20_1
    try clear hfz20_2
    try clear hfz20_3
    try clear hfz20_4
    try clear hfz25_0
    try clear hfz25_1
    try clear hfz25_2
    try clear hfz25_3
    try clear hfz25_4
    try clear hfz28_0
    try clear hfz28_1
    try clear hfz28_2
    try clear hfz28_3
    try clear hfz28_4
    try clear hfz9_0
    try clear hfz9_1
    try clear hfz9_2
    try clear hfz9_3
    try clear hfz9_4
    obtain ⟨x8_1, x9_1, rfl, rfl, HA, HK1, HO_4, HO_7, HO_1104004, BK1103, HB⟩ := hrel
    cases gk with
    | zero => exact absurd HA.out (by simp [laws_FnKnowBuild.l0])
    | succ k1 =>
     have H := HA.out
     clear HA
     simp only [laws_FnKnowBuild.l0] at H
     have HC30 := Aside0.mk H
     clear H
     go_upto_region 10 with (fail)
     go_cut [43] (fun v43 wc => ∃ (kq : Nat) (x43_29 : Bool), v43 = .bool x43_29 ∧ Aside0 (laws_FnKnowBuild.j1 kq t1093 t1104 t1106 x8_1 x9_1 x43_29 t1096 t1097 t1098 t1099 t1100 = some r) ∧ Aside0 (kq ≤ k1) ∧ Aside0 (Kd.R k24 24 wc w.heap.size (fun k_ => some k_ ≠ ((.slice Ao21 t1100.length co21) : Value).ownBlock) (.slice Ao23 t1093.length co23) t1093) ∧ Aside0 (Kd.V (Kd.int .i64) 3 wc w.heap.size (fun k_ => some k_ ≠ ((.slice Ao23 t1093.length co23) : Value).ownBlock ∧ some k_ ≠ ((.slice Ao21 t1100.length co21) : Value).ownBlock ∧ k_ ≠ gb1103) v1107 t1106) ∧ Aside0 (Kd.R k24 24 wc w.heap.size (fun k_ => some k_ ≠ ((.slice Ao23 t1093.length co23) : Value).ownBlock) (.slice Ao21 t1100.length co21) t1100) ∧ Aside0 (wc.heap[gb1103]? = some (.cells #[.int .i64 t1096, .int .i64 t1097, .int .i64 t1098, .int .i64 t1099, (.slice Ao21 t1100.length co21)] 36 (0, 0))) ∧ Aside0 (Below w.heap.size w wc))
     case first =>
      have H := HC30.out
      clear HC30
      by_cases c31 : x8_1 = true
      ·subst c31
       rw [if_pos rfl] at H
       have H' := Aside0.mk H
       clear H
       have hcz32_0 : wr.cell? ⟨gb1103, 0, none⟩ = some (.int .i64 t1096) := (blk_cell BK1103.out 0).trans rfl
       have hcz32_1 : wr.cell? ⟨gb1103, 1, none⟩ = some (.int .i64 t1097) := (blk_cell BK1103.out 1).trans rfl
       have hcz32_2 : wr.cell? ⟨gb1103, 2, none⟩ = some (.int .i64 t1098) := (blk_cell BK1103.out 2).trans rfl
       have hcz32_3 : wr.cell? ⟨gb1103, 3, none⟩ = some (.int .i64 t1099) := (blk_cell BK1103.out 3).trans rfl
       have hcz32_4 : wr.cell? ⟨gb1103, 4, none⟩ = some (.slice Ao21 t1100.length co21) := (blk_cell BK1103.out 4).trans rfl
       have hfz32_0 := blk_frozen BK1103.out 0
       have hfz32_1 := blk_frozen BK1103.out 1
       have hfz32_2 := blk_frozen BK1103.out 2
       have hfz32_3 := blk_frozen BK1103.out 3
       have hfz32_4 := blk_frozen BK1103.out 4
       go_wp2
       go_meet
       case rel => exact ⟨_, (decide (x9_1 < (t1100.length : Int))), (by first | rfl | (simp; done) | (simp [*]; done)), H', ⟨by have := HK1.out; first | omega | exact Nat.le_refl _⟩, ⟨by (with_reducible repeat (first | apply Kd.R_alloc | apply Kd.R_drewN | apply Kd.R_drew)); exact HO_4.out⟩, ⟨by (with_reducible repeat (first | apply Kd.V_alloc | apply Kd.V_drewN | apply Kd.V_drew)); exact HO_7.out⟩, ⟨by (with_reducible repeat (first | apply Kd.R_alloc | apply Kd.R_drewN | apply Kd.R_drew)); exact HO_1104004.out⟩, ⟨by (with_reducible repeat (first | refine blk_drewN ?_ _ | refine blk_drew ?_ | refine blk_alloc ?_ _)); exact BK1103.out⟩, ⟨by repeat (first | (with_reducible first | exact HB.out | apply below_alloc | apply pw_below_drewN | apply below_drew1 | refine below_set ?_ GE1103.out) | exact HB.out)⟩⟩
      ·replace c31 := Bool.eq_false_iff.mpr c31
       subst c31
       rw [if_neg (show ¬ (false = true) by decide)] at H
       have H' := Aside0.mk H
       clear H
       go_wp2
       go_meet
       case rel => exact ⟨_, (false), (by first | rfl | (simp; done) | (simp [*]; done)), H', ⟨by have := HK1.out; first | omega | exact Nat.le_refl _⟩, ⟨by (with_reducible repeat (first | apply Kd.R_alloc | apply Kd.R_drewN | apply Kd.R_drew)); exact HO_4.out⟩, ⟨by (with_reducible repeat (first | apply Kd.V_alloc | apply Kd.V_drewN | apply Kd.V_drew)); exact HO_7.out⟩, ⟨by (with_reducible repeat (first | apply Kd.R_alloc | apply Kd.R_drewN | apply Kd.R_drew)); exact HO_1104004.out⟩, ⟨by (with_reducible repeat (first | refine blk_drewN ?_ _ | refine blk_drew ?_ | refine blk_alloc ?_ _)); exact BK1103.out⟩, ⟨by repeat (first | (with_reducible first | exact HB.out | apply below_alloc | apply pw_below_drewN | apply below_drew1 | refine below_set ?_ GE1103.out) | exact HB.out)⟩⟩
     case rest =>
      clear HC30
      try clear c2
      try clear c2b0
      try clear c2b1
      try clear p2
      try clear c3
      try clear c5
      try clear c6
      try clear c6b0
      try clear c6b1
      try clear c6b2
      try clear c21
      try clear c29
      try clear c31
      try clear hcz14_0
      try clear hcz14_1
      try clear hcz14_2
      try clear hcz14_3
      try clear hcz14_4
      try clear hcz20_0
      try clear hcz20_1
      try clear hcz20_2
      try clear hcz20_3
      try clear hcz20_4
      try clear hcz25_0
      try clear hcz25_1
      try clear hcz25_2
      try clear hcz25_3
      try clear hcz25_4
      try clear hcz28_0
      try clear hcz28_1
      try clear hcz28_2
      try clear hcz28_3
      try clear hcz28_4
      try clear hcz32_0
      try clear hcz32_1
      try clear hcz32_2
      try clear hcz32_3
      try clear hcz32_4
      try clear hcz9_0
      try clear hcz9_1
      try clear hcz9_2
      try clear hcz9_3
      try clear hcz9_4
      try clear hfz14_0
      try clear hfz14_1
      try clear hfz14_2
      try clear hfz14_3
      try clear hfz14_4
      try clear hfz20_0
      try clear hfz20_1
      try clear hfz20_2
      try clear hfz20_3
      try clear hfz20_4
      try clear hfz25_0
      try clear hfz25_1
      try clear hfz25_2
      try clear hfz25_3
      try clear hfz25_4
      try clear hfz28_0
      try clear hfz28_1
      try clear hfz28_2
      try clear hfz28_3
      try clear hfz28_4
      try clear hfz32_0
      try clear hfz32_1
      try clear hfz32_2
      try clear hfz32_3
      try clear hfz32_4
      try clear hfz9_0
      try clear hfz9_1
      try clear hfz9_2
      try clear hfz9_3
      try clear hfz9_4
      try clear p2
      obtain ⟨kq, x43_29, rfl, HA, HJ29, HO_4, HO_7, HO_1104004, BK1103, HB⟩ := hcut
      cases kq with
      | zero => exact absurd HA.out (by simp [laws_FnKnowBuild.j1])
      | succ kj29 =>
       have H := HA.out
       clear HA
       simp only [laws_FnKnowBuild.j1] at H
       by_cases c33 : x43_29 = true
       ·subst c33
        rw [if_pos rfl] at H
        by_cases c34 : 0 ≤ x9_1
        ·rw [if_pos c34] at H
         have c34b0 : decide (0 ≤ x9_1) = true := decide_eq_true c34
         clear c34
         by_cases c35 : x9_1 < (t1100.length : Int)
         ·rw [if_pos c35] at H
          have c35b0 : decide (x9_1 < (t1100.length : Int)) = true := decide_eq_true c35
          clear c35
          replace H := Option.bind_eq_some_iff.mp H
          obtain ⟨t1112, A360, H⟩ := H
          replace H : ((laws_lbAmong.f kj29 t1093 ((rd_T24 t1100 x9_1).f0) ((rd_T24 t1100 x9_1).f1) ((rd_T24 t1100 x9_1).f2) ((rd_T24 t1100 x9_1).f3) ((rd_T24 t1100 x9_1).f4) ((rd_T24 t1100 x9_1).f5) ((rd_T24 t1100 x9_1).f6)).bind fun t1113 => (if t1113 = true then (laws_FnKnowBuild.l0 kj29 t1093 t1104 t1106 true (wrap64 (x9_1 + 1)) t1096 t1097 t1098 t1099 t1100) else ((laws_lbHas.f kj29 t1106 ((rd_T24 t1100 x9_1).f0)).bind fun t1114 => (if t1114 = true then (if t1112 = 0 then (laws_FnKnowBuild.l0 kj29 t1093 t1104 t1106 true (wrap64 (x9_1 + 1)) t1096 t1097 t1098 t1099 t1100) else ((laws_lbHas.f kj29 t1106 t1112).bind fun t1115 => (laws_FnKnowBuild.l0 kj29 t1093 t1104 t1106 t1115 (wrap64 (x9_1 + 1)) t1096 t1097 t1098 t1099 t1100))) else (laws_FnKnowBuild.l0 kj29 t1093 t1104 t1106 false (wrap64 (x9_1 + 1)) t1096 t1097 t1098 t1099 t1100))))) = some r := H
          have A36 := Aside0.mk A360
          clear A360
          replace H := Option.bind_eq_some_iff.mp H
          obtain ⟨t1113, A370, H⟩ := H
          replace H : (if t1113 = true then (laws_FnKnowBuild.l0 kj29 t1093 t1104 t1106 true (wrap64 (x9_1 + 1)) t1096 t1097 t1098 t1099 t1100) else ((laws_lbHas.f kj29 t1106 ((rd_T24 t1100 x9_1).f0)).bind fun t1114 => (if t1114 = true then (if t1112 = 0 then (laws_FnKnowBuild.l0 kj29 t1093 t1104 t1106 true (wrap64 (x9_1 + 1)) t1096 t1097 t1098 t1099 t1100) else ((laws_lbHas.f kj29 t1106 t1112).bind fun t1115 => (laws_FnKnowBuild.l0 kj29 t1093 t1104 t1106 t1115 (wrap64 (x9_1 + 1)) t1096 t1097 t1098 t1099 t1100))) else (laws_FnKnowBuild.l0 kj29 t1093 t1104 t1106 false (wrap64 (x9_1 + 1)) t1096 t1097 t1098 t1099 t1100)))) = some r := H
          have A37 := Aside0.mk A370
          clear A370
          by_cases c38 : t1113 = true
          ·subst c38
           rw [if_pos rfl] at H
           have H' := Aside0.mk H
           clear H
           have hcz39_0 : wc.cell? ⟨gb1103, 0, none⟩ = some (.int .i64 t1096) := (blk_cell BK1103.out 0).trans rfl
           have hcz39_1 : wc.cell? ⟨gb1103, 1, none⟩ = some (.int .i64 t1097) := (blk_cell BK1103.out 1).trans rfl
           have hcz39_2 : wc.cell? ⟨gb1103, 2, none⟩ = some (.int .i64 t1098) := (blk_cell BK1103.out 2).trans rfl
           have hcz39_3 : wc.cell? ⟨gb1103, 3, none⟩ = some (.int .i64 t1099) := (blk_cell BK1103.out 3).trans rfl
           have hcz39_4 : wc.cell? ⟨gb1103, 4, none⟩ = some (.slice Ao21 t1100.length co21) := (blk_cell BK1103.out 4).trans rfl
           have hfz39_0 := blk_frozen BK1103.out 0
           have hfz39_1 := blk_frozen BK1103.out 1
           have hfz39_2 := blk_frozen BK1103.out 2
           have hfz39_3 := blk_frozen BK1103.out 3
           have hfz39_4 := blk_frozen BK1103.out 4
           have p1110 : 0 ≤ (x9_1 : Int) := of_decide_eq_true (by first | (with_reducible assumption) | assumption)
           have q1110 : x9_1 < (t1100.length : Int) := of_decide_eq_true (by first | (with_reducible assumption) | assumption)
           obtain ⟨ad1110, e1110, hx1110_0, hx1110_1, hx1110_2, hx1110_3, hx1110_4, hx1110_5, hx1110_6⟩ := at_T24 (Kd.R_reads' HO_1104004.out).2.2 x9_1 p1110 q1110
           cases e1110
           replace p1110 := eq_true p1110
           replace q1110 := eq_true q1110
           go_wp2_with (first | ((with_reducible refine gate_dst (N := 10) rfl ?_); refine box_event ?hg (N := 10) ?hd (cs := #[.int .i64 0, .int .i64 0, .int .i64 0, .int .i64 0, .int .i64 0, .int .i64 0, .int .i64 0]) (t := 24) ?hr ?_; (case hd => rfl); (case hg => rfl); (case hr => first | (go_simp; done) | (go_simp; rfl)); intro gb1111 hg w40 hbox hb; have n0_ := Aside0.mk (Kd.R_below (Kd.R_elderB z67x26 gb1111 (Nat.le_of_eq hg.symm)) hb); have n1_ := Aside0.mk (Kd.V_below (Kd.V_elderB z67x27 gb1111 (Nat.le_of_eq hg.symm)) hb); have n2_ := Aside0.mk (Kd.R_below (Kd.R_elderB z67x22 gb1111 (Nat.le_of_eq hg.symm)) hb); have n3_ := Aside0.mk (blk_below (g := gb1103) (o := .cells #[.int .i64 t1096, .int .i64 t1097, .int .i64 t1098, .int .i64 t1099, .slice (some ad1110) t1100.length co21] 36 (0, 0)) z67x20 hb); have n4_ := Aside0.mk (below_step z67x16 hb); have n5_ := Aside0.mk (hbox); have n6_ := Aside0.mk ((z67x15 : w.heap.size ≤ gb1111)); have n7_ := Aside0.mk ((z67x15 : w.heap.size ≤ gb1111)); have n8_ := Aside0.mk ((z67x13 : gb1103 ≠ gb1111)); have n9_ := Aside0.mk ((z67x12 : gb1111 ≠ gb1103)); clear HO_4; clear HO_7; clear HO_1104004; clear BK1103; clear HB; have HO_4 := n0_; have HO_7 := n1_; have HO_1104004 := n2_; have BK1103 := n3_; have HB := n4_; have BK1111 := n5_; have GW1111 := n6_; have GE1111 := n7_; have NB1103_1111 := n8_; have NB1111_1103 := n9_; clear n0_ n1_ n2_ n3_ n4_ n5_ n6_ n7_ n8_ n9_; clear hb hbox hg; have hnb41 := NB1111_1103.out; have hnc41 := NB1103_1111.out; have hcz42_0 : w40.cell? ⟨gb1111, 0, none⟩ = some (.int .i64 0) := (blk_cell BK1111.out 0).trans rfl; have hcz42_1 : w40.cell? ⟨gb1111, 1, none⟩ = some (.int .i64 0) := (blk_cell BK1111.out 1).trans rfl; have hcz42_2 : w40.cell? ⟨gb1111, 2, none⟩ = some (.int .i64 0) := (blk_cell BK1111.out 2).trans rfl; have hcz42_3 : w40.cell? ⟨gb1111, 3, none⟩ = some (.int .i64 0) := (blk_cell BK1111.out 3).trans rfl; have hcz42_4 : w40.cell? ⟨gb1111, 4, none⟩ = some (.int .i64 0) := (blk_cell BK1111.out 4).trans rfl; have hcz42_5 : w40.cell? ⟨gb1111, 5, none⟩ = some (.int .i64 0) := (blk_cell BK1111.out 5).trans rfl; have hcz42_6 : w40.cell? ⟨gb1111, 6, none⟩ = some (.int .i64 0) := (blk_cell BK1111.out 6).trans rfl; have hfz42_0 := blk_frozen BK1111.out 0; have hfz42_1 := blk_frozen BK1111.out 1; have hfz42_2 := blk_frozen BK1111.out 2; have hfz42_3 := blk_frozen BK1111.out 3; have hfz42_4 := blk_frozen BK1111.out 4; have hfz42_5 := blk_frozen BK1111.out 5; have hfz42_6 := blk_frozen BK1111.out 6) | ((with_reducible refine gate_callee (f := 23) rfl ?_); refine goesL_ (some 52) rfl rfl Try.func23 (by kernel_rfl) rfl #[.agg #[.int .i64 ((rd_T24 t1100 x9_1).f0), .int .i64 ((rd_T24 t1100 x9_1).f1), .int .i64 ((rd_T24 t1100 x9_1).f2), .int .i64 ((rd_T24 t1100 x9_1).f3), .int .i64 ((rd_T24 t1100 x9_1).f4), .int .i64 ((rd_T24 t1100 x9_1).f5), .int .i64 ((rd_T24 t1100 x9_1).f6)]] rfl z67x18 ?_; (with_reducible refine (impl_SealHolds.calls ((rd_T24 t1100 x9_1).f0) ((rd_T24 t1100 x9_1).f1) ((rd_T24 t1100 x9_1).f2) ((rd_T24 t1100 x9_1).f3) ((rd_T24 t1100 x9_1).f4) ((rd_T24 t1100 x9_1).f5) ((rd_T24 t1100 x9_1).f6) t1112 _ A36.out).mono ?_); rintro e w43 ⟨rfl, hb⟩; refine ⟨_, rfl, ?_⟩; have n0_ := Aside0.mk (Kd.R_below z67x4 hb); have n1_ := Aside0.mk (Kd.V_below z67x5 hb); have n2_ := Aside0.mk (Kd.R_below z67x3 hb); have n3_ := Aside0.mk (blk_below (g := gb1103) (o := .cells #[.int .i64 t1096, .int .i64 t1097, .int .i64 t1098, .int .i64 t1099, .slice (some ad1110) t1100.length co21] 36 (0, 0)) z67x2 hb); have n4_ := Aside0.mk (blk_below (g := gb1111) (o := .cells #[.int .i64 ((rd_T24 t1100 x9_1).f0), .int .i64 ((rd_T24 t1100 x9_1).f1), .int .i64 ((rd_T24 t1100 x9_1).f2), .int .i64 ((rd_T24 t1100 x9_1).f3), .int .i64 ((rd_T24 t1100 x9_1).f4), .int .i64 ((rd_T24 t1100 x9_1).f5), .int .i64 ((rd_T24 t1100 x9_1).f6)] 24 (0, 0)) z67x0 hb); have n5_ := Aside0.mk (below_step z67x14 hb); clear HO_4; clear HO_7; clear HO_1104004; clear BK1103; clear BK1111; clear HB; have HO_4 := n0_; have HO_7 := n1_; have HO_1104004 := n2_; have BK1103 := n3_; have BK1111 := n4_; have HB := n5_; clear n0_ n1_ n2_ n3_ n4_ n5_; (try clear hb); (try clear hb2); (try clear hk); (try clear hi); have hcz44_0 : w43.cell? ⟨gb1111, 0, none⟩ = some (.int .i64 ((rd_T24 t1100 x9_1).f0)) := (blk_cell BK1111.out 0).trans rfl; have hcz44_1 : w43.cell? ⟨gb1111, 1, none⟩ = some (.int .i64 ((rd_T24 t1100 x9_1).f1)) := (blk_cell BK1111.out 1).trans rfl; have hcz44_2 : w43.cell? ⟨gb1111, 2, none⟩ = some (.int .i64 ((rd_T24 t1100 x9_1).f2)) := (blk_cell BK1111.out 2).trans rfl; have hcz44_3 : w43.cell? ⟨gb1111, 3, none⟩ = some (.int .i64 ((rd_T24 t1100 x9_1).f3)) := (blk_cell BK1111.out 3).trans rfl; have hcz44_4 : w43.cell? ⟨gb1111, 4, none⟩ = some (.int .i64 ((rd_T24 t1100 x9_1).f4)) := (blk_cell BK1111.out 4).trans rfl; have hcz44_5 : w43.cell? ⟨gb1111, 5, none⟩ = some (.int .i64 ((rd_T24 t1100 x9_1).f5)) := (blk_cell BK1111.out 5).trans rfl; have hcz44_6 : w43.cell? ⟨gb1111, 6, none⟩ = some (.int .i64 ((rd_T24 t1100 x9_1).f6)) := (blk_cell BK1111.out 6).trans rfl; have hfz44_0 := blk_frozen BK1111.out 0; have hfz44_1 := blk_frozen BK1111.out 1; have hfz44_2 := blk_frozen BK1111.out 2; have hfz44_3 := blk_frozen BK1111.out 3; have hfz44_4 := blk_frozen BK1111.out 4; have hfz44_5 := blk_frozen BK1111.out 5; have hfz44_6 := blk_frozen BK1111.out 6) | ((with_reducible refine gate_callee (f := 54) rfl ?_); refine goesL_ (some 55) rfl rfl Try.func54 (by kernel_rfl) rfl #[.slice Ao23 t1093.length co23, .agg #[.int .i64 ((rd_T24 t1100 x9_1).f0), .int .i64 ((rd_T24 t1100 x9_1).f1), .int .i64 ((rd_T24 t1100 x9_1).f2), .int .i64 ((rd_T24 t1100 x9_1).f3), .int .i64 ((rd_T24 t1100 x9_1).f4), .int .i64 ((rd_T24 t1100 x9_1).f5), .int .i64 ((rd_T24 t1100 x9_1).f6)]] rfl z67x18 ?_; (with_reducible refine (laws_lbAmong.calls kj29 _ _ t1093 ((rd_T24 t1100 x9_1).f0) ((rd_T24 t1100 x9_1).f1) ((rd_T24 t1100 x9_1).f2) ((rd_T24 t1100 x9_1).f3) ((rd_T24 t1100 x9_1).f4) ((rd_T24 t1100 x9_1).f5) ((rd_T24 t1100 x9_1).f6) true _ ?side1 ?side2 A37.out).mono ?_); (case side1 => repeat (first | exact (Kd.R_reads' HO_4.out).2.2 | (with_reducible refine Kd.C_alloc ?_ _) | (with_reducible refine Kd.C_drewN ?_ _) | (with_reducible refine Kd.C_drew ?_))); (case side2 => exact (Kd.R_reads' HO_4.out).2.1); rintro e w45 ⟨rfl, hb⟩; refine ⟨_, rfl, ?_⟩; have n0_ := Aside0.mk (Kd.R_below z67x26 hb); have n1_ := Aside0.mk (Kd.V_below z67x27 hb); have n2_ := Aside0.mk (Kd.R_below z67x22 hb); have n3_ := Aside0.mk (blk_below (g := gb1103) (o := .cells #[.int .i64 t1096, .int .i64 t1097, .int .i64 t1098, .int .i64 t1099, .slice (some ad1110) t1100.length co21] 36 (0, 0)) z67x20 hb); have n4_ := Aside0.mk (blk_below (g := gb1111) (o := .cells #[.int .i64 ((rd_T24 t1100 x9_1).f0), .int .i64 ((rd_T24 t1100 x9_1).f1), .int .i64 ((rd_T24 t1100 x9_1).f2), .int .i64 ((rd_T24 t1100 x9_1).f3), .int .i64 ((rd_T24 t1100 x9_1).f4), .int .i64 ((rd_T24 t1100 x9_1).f5), .int .i64 ((rd_T24 t1100 x9_1).f6)] 24 (0, 0)) z67x21 hb); have n5_ := Aside0.mk (below_step z67x14 hb); clear HO_4; clear HO_7; clear HO_1104004; clear BK1103; clear BK1111; clear HB; have HO_4 := n0_; have HO_7 := n1_; have HO_1104004 := n2_; have BK1103 := n3_; have BK1111 := n4_; have HB := n5_; clear n0_ n1_ n2_ n3_ n4_ n5_; (try clear hb); (try clear hb2); (try clear hk); (try clear hi)))
           go_roundg kj29
           case measure => have := HK1.out; have := HJ29.out; omega
           case rel => exact ⟨(true), (wrap64 (x9_1 + 1)), (by first | rfl | (simp; done) | (simp [*]; done)), (by first | rfl | (simp; done) | (simp [*]; done)), H', ⟨by have := HK1.out; have := HJ29.out; omega⟩, ⟨by (with_reducible repeat (first | apply Kd.R_alloc | apply Kd.R_drewN | apply Kd.R_drew)); exact Kd.R_mono HO_4.out (fun _ hk => hk.1)⟩, ⟨by (with_reducible repeat (first | apply Kd.V_alloc | apply Kd.V_drewN | apply Kd.V_drew)); exact Kd.V_mono HO_7.out (fun _ hk => ⟨hk.1.1, ⟨hk.1.2.1, hk.1.2.2⟩⟩)⟩, ⟨by (with_reducible repeat (first | apply Kd.R_alloc | apply Kd.R_drewN | apply Kd.R_drew)); exact Kd.R_mono HO_1104004.out (fun _ hk => hk.1)⟩, ⟨by (with_reducible repeat (first | refine blk_drewN ?_ _ | refine blk_drew ?_ | refine blk_alloc ?_ _)); exact BK1103.out⟩, ⟨by repeat (first | (with_reducible first | exact HB.out | apply below_alloc | apply pw_below_drewN | apply below_drew1 | refine below_set ?_ GE1103.out | refine below_set ?_ GE1111.out) | exact HB.out)⟩⟩
          ·replace c38 := Bool.eq_false_iff.mpr c38
           subst c38
           rw [if_neg (show ¬ (false = true) by decide)] at H
           replace H := Option.bind_eq_some_iff.mp H
           obtain ⟨t1114, A460, H⟩ := H
           replace H : (if t1114 = true then (if t1112 = 0 then (laws_FnKnowBuild.l0 kj29 t1093 t1104 t1106 true (wrap64 (x9_1 + 1)) t1096 t1097 t1098 t1099 t1100) else ((laws_lbHas.f kj29 t1106 t1112).bind fun t1115 => (laws_FnKnowBuild.l0 kj29 t1093 t1104 t1106 t1115 (wrap64 (x9_1 + 1)) t1096 t1097 t1098 t1099 t1100))) else (laws_FnKnowBuild.l0 kj29 t1093 t1104 t1106 false (wrap64 (x9_1 + 1)) t1096 t1097 t1098 t1099 t1100)) = some r := H
           have A46 := Aside0.mk A460
           clear A460
           by_cases c47 : t1114 = true
           ·subst c47
            rw [if_pos rfl] at H
            by_cases c48 : t1112 = 0
            ·rw [if_pos c48] at H
             have c48b0 : (t1112 == 0) = true := beq_iff_eq.mpr c48
             have c48b1 : (t1112 != 0) = false := bne_eq_false_iff_eq.mpr c48
             clear c48
             have H' := Aside0.mk H
             clear H
             have hcz49_0 : wc.cell? ⟨gb1103, 0, none⟩ = some (.int .i64 t1096) := (blk_cell BK1103.out 0).trans rfl
             have hcz49_1 : wc.cell? ⟨gb1103, 1, none⟩ = some (.int .i64 t1097) := (blk_cell BK1103.out 1).trans rfl
             have hcz49_2 : wc.cell? ⟨gb1103, 2, none⟩ = some (.int .i64 t1098) := (blk_cell BK1103.out 2).trans rfl
             have hcz49_3 : wc.cell? ⟨gb1103, 3, none⟩ = some (.int .i64 t1099) := (blk_cell BK1103.out 3).trans rfl
             have hcz49_4 : wc.cell? ⟨gb1103, 4, none⟩ = some (.slice Ao21 t1100.length co21) := (blk_cell BK1103.out 4).trans rfl
             have hfz49_0 := blk_frozen BK1103.out 0
             have hfz49_1 := blk_frozen BK1103.out 1
             have hfz49_2 := blk_frozen BK1103.out 2
             have hfz49_3 := blk_frozen BK1103.out 3
             have hfz49_4 := blk_frozen BK1103.out 4
             have p1110 : 0 ≤ (x9_1 : Int) := of_decide_eq_true (by first | (with_reducible assumption) | assumption)
             have q1110 : x9_1 < (t1100.length : Int) := of_decide_eq_true (by first | (with_reducible assumption) | assumption)
             obtain ⟨ad1110, e1110, hx1110_0, hx1110_1, hx1110_2, hx1110_3, hx1110_4, hx1110_5, hx1110_6⟩ := at_T24 (Kd.R_reads' HO_1104004.out).2.2 x9_1 p1110 q1110
             cases e1110
             replace p1110 := eq_true p1110
             replace q1110 := eq_true q1110
             go_wp2_with (first | ((with_reducible refine gate_dst (N := 10) rfl ?_); refine box_event ?hg (N := 10) ?hd (cs := #[.int .i64 0, .int .i64 0, .int .i64 0, .int .i64 0, .int .i64 0, .int .i64 0, .int .i64 0]) (t := 24) ?hr ?_; (case hd => rfl); (case hg => rfl); (case hr => first | (go_simp; done) | (go_simp; rfl)); intro gb1111 hg w50 hbox hb; have n0_ := Aside0.mk (Kd.R_below (Kd.R_elderB z67x26 gb1111 (Nat.le_of_eq hg.symm)) hb); have n1_ := Aside0.mk (Kd.V_below (Kd.V_elderB z67x27 gb1111 (Nat.le_of_eq hg.symm)) hb); have n2_ := Aside0.mk (Kd.R_below (Kd.R_elderB z67x22 gb1111 (Nat.le_of_eq hg.symm)) hb); have n3_ := Aside0.mk (blk_below (g := gb1103) (o := .cells #[.int .i64 t1096, .int .i64 t1097, .int .i64 t1098, .int .i64 t1099, .slice (some ad1110) t1100.length co21] 36 (0, 0)) z67x20 hb); have n4_ := Aside0.mk (below_step z67x16 hb); have n5_ := Aside0.mk (hbox); have n6_ := Aside0.mk ((z67x15 : w.heap.size ≤ gb1111)); have n7_ := Aside0.mk ((z67x15 : w.heap.size ≤ gb1111)); have n8_ := Aside0.mk ((z67x13 : gb1103 ≠ gb1111)); have n9_ := Aside0.mk ((z67x12 : gb1111 ≠ gb1103)); clear HO_4; clear HO_7; clear HO_1104004; clear BK1103; clear HB; have HO_4 := n0_; have HO_7 := n1_; have HO_1104004 := n2_; have BK1103 := n3_; have HB := n4_; have BK1111 := n5_; have GW1111 := n6_; have GE1111 := n7_; have NB1103_1111 := n8_; have NB1111_1103 := n9_; clear n0_ n1_ n2_ n3_ n4_ n5_ n6_ n7_ n8_ n9_; clear hb hbox hg; have hnb51 := NB1111_1103.out; have hnc51 := NB1103_1111.out; have hcz52_0 : w50.cell? ⟨gb1111, 0, none⟩ = some (.int .i64 0) := (blk_cell BK1111.out 0).trans rfl; have hcz52_1 : w50.cell? ⟨gb1111, 1, none⟩ = some (.int .i64 0) := (blk_cell BK1111.out 1).trans rfl; have hcz52_2 : w50.cell? ⟨gb1111, 2, none⟩ = some (.int .i64 0) := (blk_cell BK1111.out 2).trans rfl; have hcz52_3 : w50.cell? ⟨gb1111, 3, none⟩ = some (.int .i64 0) := (blk_cell BK1111.out 3).trans rfl; have hcz52_4 : w50.cell? ⟨gb1111, 4, none⟩ = some (.int .i64 0) := (blk_cell BK1111.out 4).trans rfl; have hcz52_5 : w50.cell? ⟨gb1111, 5, none⟩ = some (.int .i64 0) := (blk_cell BK1111.out 5).trans rfl; have hcz52_6 : w50.cell? ⟨gb1111, 6, none⟩ = some (.int .i64 0) := (blk_cell BK1111.out 6).trans rfl; have hfz52_0 := blk_frozen BK1111.out 0; have hfz52_1 := blk_frozen BK1111.out 1; have hfz52_2 := blk_frozen BK1111.out 2; have hfz52_3 := blk_frozen BK1111.out 3; have hfz52_4 := blk_frozen BK1111.out 4; have hfz52_5 := blk_frozen BK1111.out 5; have hfz52_6 := blk_frozen BK1111.out 6) | ((with_reducible refine gate_callee (f := 23) rfl ?_); refine goesL_ (some 52) rfl rfl Try.func23 (by kernel_rfl) rfl #[.agg #[.int .i64 ((rd_T24 t1100 x9_1).f0), .int .i64 ((rd_T24 t1100 x9_1).f1), .int .i64 ((rd_T24 t1100 x9_1).f2), .int .i64 ((rd_T24 t1100 x9_1).f3), .int .i64 ((rd_T24 t1100 x9_1).f4), .int .i64 ((rd_T24 t1100 x9_1).f5), .int .i64 ((rd_T24 t1100 x9_1).f6)]] rfl z67x18 ?_; (with_reducible refine (impl_SealHolds.calls ((rd_T24 t1100 x9_1).f0) ((rd_T24 t1100 x9_1).f1) ((rd_T24 t1100 x9_1).f2) ((rd_T24 t1100 x9_1).f3) ((rd_T24 t1100 x9_1).f4) ((rd_T24 t1100 x9_1).f5) ((rd_T24 t1100 x9_1).f6) t1112 _ A36.out).mono ?_); rintro e w53 ⟨rfl, hb⟩; refine ⟨_, rfl, ?_⟩; have n0_ := Aside0.mk (Kd.R_below z67x4 hb); have n1_ := Aside0.mk (Kd.V_below z67x5 hb); have n2_ := Aside0.mk (Kd.R_below z67x3 hb); have n3_ := Aside0.mk (blk_below (g := gb1103) (o := .cells #[.int .i64 t1096, .int .i64 t1097, .int .i64 t1098, .int .i64 t1099, .slice (some ad1110) t1100.length co21] 36 (0, 0)) z67x2 hb); have n4_ := Aside0.mk (blk_below (g := gb1111) (o := .cells #[.int .i64 ((rd_T24 t1100 x9_1).f0), .int .i64 ((rd_T24 t1100 x9_1).f1), .int .i64 ((rd_T24 t1100 x9_1).f2), .int .i64 ((rd_T24 t1100 x9_1).f3), .int .i64 ((rd_T24 t1100 x9_1).f4), .int .i64 ((rd_T24 t1100 x9_1).f5), .int .i64 ((rd_T24 t1100 x9_1).f6)] 24 (0, 0)) z67x0 hb); have n5_ := Aside0.mk (below_step z67x14 hb); clear HO_4; clear HO_7; clear HO_1104004; clear BK1103; clear BK1111; clear HB; have HO_4 := n0_; have HO_7 := n1_; have HO_1104004 := n2_; have BK1103 := n3_; have BK1111 := n4_; have HB := n5_; clear n0_ n1_ n2_ n3_ n4_ n5_; (try clear hb); (try clear hb2); (try clear hk); (try clear hi); have hcz54_0 : w53.cell? ⟨gb1111, 0, none⟩ = some (.int .i64 ((rd_T24 t1100 x9_1).f0)) := (blk_cell BK1111.out 0).trans rfl; have hcz54_1 : w53.cell? ⟨gb1111, 1, none⟩ = some (.int .i64 ((rd_T24 t1100 x9_1).f1)) := (blk_cell BK1111.out 1).trans rfl; have hcz54_2 : w53.cell? ⟨gb1111, 2, none⟩ = some (.int .i64 ((rd_T24 t1100 x9_1).f2)) := (blk_cell BK1111.out 2).trans rfl; have hcz54_3 : w53.cell? ⟨gb1111, 3, none⟩ = some (.int .i64 ((rd_T24 t1100 x9_1).f3)) := (blk_cell BK1111.out 3).trans rfl; have hcz54_4 : w53.cell? ⟨gb1111, 4, none⟩ = some (.int .i64 ((rd_T24 t1100 x9_1).f4)) := (blk_cell BK1111.out 4).trans rfl; have hcz54_5 : w53.cell? ⟨gb1111, 5, none⟩ = some (.int .i64 ((rd_T24 t1100 x9_1).f5)) := (blk_cell BK1111.out 5).trans rfl; have hcz54_6 : w53.cell? ⟨gb1111, 6, none⟩ = some (.int .i64 ((rd_T24 t1100 x9_1).f6)) := (blk_cell BK1111.out 6).trans rfl; have hfz54_0 := blk_frozen BK1111.out 0; have hfz54_1 := blk_frozen BK1111.out 1; have hfz54_2 := blk_frozen BK1111.out 2; have hfz54_3 := blk_frozen BK1111.out 3; have hfz54_4 := blk_frozen BK1111.out 4; have hfz54_5 := blk_frozen BK1111.out 5; have hfz54_6 := blk_frozen BK1111.out 6) | ((with_reducible refine gate_callee (f := 54) rfl ?_); refine goesL_ (some 55) rfl rfl Try.func54 (by kernel_rfl) rfl #[.slice Ao23 t1093.length co23, .agg #[.int .i64 ((rd_T24 t1100 x9_1).f0), .int .i64 ((rd_T24 t1100 x9_1).f1), .int .i64 ((rd_T24 t1100 x9_1).f2), .int .i64 ((rd_T24 t1100 x9_1).f3), .int .i64 ((rd_T24 t1100 x9_1).f4), .int .i64 ((rd_T24 t1100 x9_1).f5), .int .i64 ((rd_T24 t1100 x9_1).f6)]] rfl z67x18 ?_; (with_reducible refine (laws_lbAmong.calls kj29 _ _ t1093 ((rd_T24 t1100 x9_1).f0) ((rd_T24 t1100 x9_1).f1) ((rd_T24 t1100 x9_1).f2) ((rd_T24 t1100 x9_1).f3) ((rd_T24 t1100 x9_1).f4) ((rd_T24 t1100 x9_1).f5) ((rd_T24 t1100 x9_1).f6) false _ ?side1 ?side2 A37.out).mono ?_); (case side1 => repeat (first | exact (Kd.R_reads' HO_4.out).2.2 | (with_reducible refine Kd.C_alloc ?_ _) | (with_reducible refine Kd.C_drewN ?_ _) | (with_reducible refine Kd.C_drew ?_))); (case side2 => exact (Kd.R_reads' HO_4.out).2.1); rintro e w55 ⟨rfl, hb⟩; refine ⟨_, rfl, ?_⟩; have n0_ := Aside0.mk (Kd.R_below z67x26 hb); have n1_ := Aside0.mk (Kd.V_below z67x27 hb); have n2_ := Aside0.mk (Kd.R_below z67x22 hb); have n3_ := Aside0.mk (blk_below (g := gb1103) (o := .cells #[.int .i64 t1096, .int .i64 t1097, .int .i64 t1098, .int .i64 t1099, .slice (some ad1110) t1100.length co21] 36 (0, 0)) z67x20 hb); have n4_ := Aside0.mk (blk_below (g := gb1111) (o := .cells #[.int .i64 ((rd_T24 t1100 x9_1).f0), .int .i64 ((rd_T24 t1100 x9_1).f1), .int .i64 ((rd_T24 t1100 x9_1).f2), .int .i64 ((rd_T24 t1100 x9_1).f3), .int .i64 ((rd_T24 t1100 x9_1).f4), .int .i64 ((rd_T24 t1100 x9_1).f5), .int .i64 ((rd_T24 t1100 x9_1).f6)] 24 (0, 0)) z67x21 hb); have n5_ := Aside0.mk (below_step z67x14 hb); clear HO_4; clear HO_7; clear HO_1104004; clear BK1103; clear BK1111; clear HB; have HO_4 := n0_; have HO_7 := n1_; have HO_1104004 := n2_; have BK1103 := n3_; have BK1111 := n4_; have HB := n5_; clear n0_ n1_ n2_ n3_ n4_ n5_; (try clear hb); (try clear hb2); (try clear hk); (try clear hi); have hcz56_0 : w55.cell? ⟨gb1111, 0, none⟩ = some (.int .i64 ((rd_T24 t1100 x9_1).f0)) := (blk_cell BK1111.out 0).trans rfl; have hcz56_1 : w55.cell? ⟨gb1111, 1, none⟩ = some (.int .i64 ((rd_T24 t1100 x9_1).f1)) := (blk_cell BK1111.out 1).trans rfl; have hcz56_2 : w55.cell? ⟨gb1111, 2, none⟩ = some (.int .i64 ((rd_T24 t1100 x9_1).f2)) := (blk_cell BK1111.out 2).trans rfl; have hcz56_3 : w55.cell? ⟨gb1111, 3, none⟩ = some (.int .i64 ((rd_T24 t1100 x9_1).f3)) := (blk_cell BK1111.out 3).trans rfl; have hcz56_4 : w55.cell? ⟨gb1111, 4, none⟩ = some (.int .i64 ((rd_T24 t1100 x9_1).f4)) := (blk_cell BK1111.out 4).trans rfl; have hcz56_5 : w55.cell? ⟨gb1111, 5, none⟩ = some (.int .i64 ((rd_T24 t1100 x9_1).f5)) := (blk_cell BK1111.out 5).trans rfl; have hcz56_6 : w55.cell? ⟨gb1111, 6, none⟩ = some (.int .i64 ((rd_T24 t1100 x9_1).f6)) := (blk_cell BK1111.out 6).trans rfl; have hfz56_0 := blk_frozen BK1111.out 0; have hfz56_1 := blk_frozen BK1111.out 1; have hfz56_2 := blk_frozen BK1111.out 2; have hfz56_3 := blk_frozen BK1111.out 3; have hfz56_4 := blk_frozen BK1111.out 4; have hfz56_5 := blk_frozen BK1111.out 5; have hfz56_6 := blk_frozen BK1111.out 6; obtain ⟨Ao57, co57, eo57⟩ := Kd.V_slice HO_7.out; subst eo57) | (go_at_call 41; (with_reducible refine (laws_lbHas.calls kj29 _ _ t1106 ((rd_T24 t1100 x9_1).f0) true _ ?side1 ?side2 A46.out).mono ?_); (case side1 => repeat (first | exact (Kd.V_reads' HO_7.out).2.2 | (with_reducible refine Kd.C_alloc ?_ _) | (with_reducible refine Kd.C_drewN ?_ _) | (with_reducible refine Kd.C_drew ?_))); (case side2 => exact (Kd.V_reads' HO_7.out).2.1); rintro e w' ⟨rfl, ⟨nd, rfl⟩⟩))
             go_roundg kj29
             case measure => have := HK1.out; have := HJ29.out; omega
             case rel => exact ⟨(true), (wrap64 (x9_1 + 1)), (by first | rfl | (simp; done) | (simp [*]; done)), (by first | rfl | (simp; done) | (simp [*]; done)), H', ⟨by have := HK1.out; have := HJ29.out; omega⟩, ⟨by (with_reducible repeat (first | apply Kd.R_alloc | apply Kd.R_drewN | apply Kd.R_drew)); exact Kd.R_mono HO_4.out (fun _ hk => hk.1)⟩, ⟨by (with_reducible repeat (first | apply Kd.V_alloc | apply Kd.V_drewN | apply Kd.V_drew)); exact Kd.V_mono HO_7.out (fun _ hk => ⟨hk.1.1, ⟨hk.1.2.1, hk.1.2.2⟩⟩)⟩, ⟨by (with_reducible repeat (first | apply Kd.R_alloc | apply Kd.R_drewN | apply Kd.R_drew)); exact Kd.R_mono HO_1104004.out (fun _ hk => hk.1)⟩, ⟨by (with_reducible repeat (first | refine blk_drewN ?_ _ | refine blk_drew ?_ | refine blk_alloc ?_ _)); exact BK1103.out⟩, ⟨by repeat (first | (with_reducible first | exact HB.out | apply below_alloc | apply pw_below_drewN | apply below_drew1 | refine below_set ?_ GE1103.out | refine below_set ?_ GE1111.out) | exact HB.out)⟩⟩
            ·rw [if_neg c48] at H
             have c48b0 : (t1112 == 0) = false := beq_eq_false_iff_ne.mpr c48
             have c48b1 : (t1112 != 0) = true := bne_iff_ne.mpr c48
             replace H := Option.bind_eq_some_iff.mp H
             obtain ⟨t1115, A580, H⟩ := H
             replace H : (laws_FnKnowBuild.l0 kj29 t1093 t1104 t1106 t1115 (wrap64 (x9_1 + 1)) t1096 t1097 t1098 t1099 t1100) = some r := H
             have A58 := Aside0.mk A580
             clear A580
             have H' := Aside0.mk H
             clear H
             have hcz59_0 : wc.cell? ⟨gb1103, 0, none⟩ = some (.int .i64 t1096) := (blk_cell BK1103.out 0).trans rfl
             have hcz59_1 : wc.cell? ⟨gb1103, 1, none⟩ = some (.int .i64 t1097) := (blk_cell BK1103.out 1).trans rfl
             have hcz59_2 : wc.cell? ⟨gb1103, 2, none⟩ = some (.int .i64 t1098) := (blk_cell BK1103.out 2).trans rfl
             have hcz59_3 : wc.cell? ⟨gb1103, 3, none⟩ = some (.int .i64 t1099) := (blk_cell BK1103.out 3).trans rfl
             have hcz59_4 : wc.cell? ⟨gb1103, 4, none⟩ = some (.slice Ao21 t1100.length co21) := (blk_cell BK1103.out 4).trans rfl
             have hfz59_0 := blk_frozen BK1103.out 0
             have hfz59_1 := blk_frozen BK1103.out 1
             have hfz59_2 := blk_frozen BK1103.out 2
             have hfz59_3 := blk_frozen BK1103.out 3
             have hfz59_4 := blk_frozen BK1103.out 4
             have p1110 : 0 ≤ (x9_1 : Int) := of_decide_eq_true (by first | (with_reducible assumption) | assumption)
             have q1110 : x9_1 < (t1100.length : Int) := of_decide_eq_true (by first | (with_reducible assumption) | assumption)
             obtain ⟨ad1110, e1110, hx1110_0, hx1110_1, hx1110_2, hx1110_3, hx1110_4, hx1110_5, hx1110_6⟩ := at_T24 (Kd.R_reads' HO_1104004.out).2.2 x9_1 p1110 q1110
             cases e1110
             replace p1110 := eq_true p1110
             replace q1110 := eq_true q1110
             go_wp2_with (first | ((with_reducible refine gate_dst (N := 10) rfl ?_); refine box_event ?hg (N := 10) ?hd (cs := #[.int .i64 0, .int .i64 0, .int .i64 0, .int .i64 0, .int .i64 0, .int .i64 0, .int .i64 0]) (t := 24) ?hr ?_; (case hd => rfl); (case hg => rfl); (case hr => first | (go_simp; done) | (go_simp; rfl)); intro gb1111 hg w60 hbox hb; have n0_ := Aside0.mk (Kd.R_below (Kd.R_elderB z67x26 gb1111 (Nat.le_of_eq hg.symm)) hb); have n1_ := Aside0.mk (Kd.V_below (Kd.V_elderB z67x27 gb1111 (Nat.le_of_eq hg.symm)) hb); have n2_ := Aside0.mk (Kd.R_below (Kd.R_elderB z67x22 gb1111 (Nat.le_of_eq hg.symm)) hb); have n3_ := Aside0.mk (blk_below (g := gb1103) (o := .cells #[.int .i64 t1096, .int .i64 t1097, .int .i64 t1098, .int .i64 t1099, .slice (some ad1110) t1100.length co21] 36 (0, 0)) z67x20 hb); have n4_ := Aside0.mk (below_step z67x16 hb); have n5_ := Aside0.mk (hbox); have n6_ := Aside0.mk ((z67x15 : w.heap.size ≤ gb1111)); have n7_ := Aside0.mk ((z67x15 : w.heap.size ≤ gb1111)); have n8_ := Aside0.mk ((z67x13 : gb1103 ≠ gb1111)); have n9_ := Aside0.mk ((z67x12 : gb1111 ≠ gb1103)); clear HO_4; clear HO_7; clear HO_1104004; clear BK1103; clear HB; have HO_4 := n0_; have HO_7 := n1_; have HO_1104004 := n2_; have BK1103 := n3_; have HB := n4_; have BK1111 := n5_; have GW1111 := n6_; have GE1111 := n7_; have NB1103_1111 := n8_; have NB1111_1103 := n9_; clear n0_ n1_ n2_ n3_ n4_ n5_ n6_ n7_ n8_ n9_; clear hb hbox hg; have hnb61 := NB1111_1103.out; have hnc61 := NB1103_1111.out; have hcz62_0 : w60.cell? ⟨gb1111, 0, none⟩ = some (.int .i64 0) := (blk_cell BK1111.out 0).trans rfl; have hcz62_1 : w60.cell? ⟨gb1111, 1, none⟩ = some (.int .i64 0) := (blk_cell BK1111.out 1).trans rfl; have hcz62_2 : w60.cell? ⟨gb1111, 2, none⟩ = some (.int .i64 0) := (blk_cell BK1111.out 2).trans rfl; have hcz62_3 : w60.cell? ⟨gb1111, 3, none⟩ = some (.int .i64 0) := (blk_cell BK1111.out 3).trans rfl; have hcz62_4 : w60.cell? ⟨gb1111, 4, none⟩ = some (.int .i64 0) := (blk_cell BK1111.out 4).trans rfl; have hcz62_5 : w60.cell? ⟨gb1111, 5, none⟩ = some (.int .i64 0) := (blk_cell BK1111.out 5).trans rfl; have hcz62_6 : w60.cell? ⟨gb1111, 6, none⟩ = some (.int .i64 0) := (blk_cell BK1111.out 6).trans rfl; have hfz62_0 := blk_frozen BK1111.out 0; have hfz62_1 := blk_frozen BK1111.out 1; have hfz62_2 := blk_frozen BK1111.out 2; have hfz62_3 := blk_frozen BK1111.out 3; have hfz62_4 := blk_frozen BK1111.out 4; have hfz62_5 := blk_frozen BK1111.out 5; have hfz62_6 := blk_frozen BK1111.out 6) | ((with_reducible refine gate_callee (f := 23) rfl ?_); refine goesL_ (some 52) rfl rfl Try.func23 (by kernel_rfl) rfl #[.agg #[.int .i64 ((rd_T24 t1100 x9_1).f0), .int .i64 ((rd_T24 t1100 x9_1).f1), .int .i64 ((rd_T24 t1100 x9_1).f2), .int .i64 ((rd_T24 t1100 x9_1).f3), .int .i64 ((rd_T24 t1100 x9_1).f4), .int .i64 ((rd_T24 t1100 x9_1).f5), .int .i64 ((rd_T24 t1100 x9_1).f6)]] rfl z67x18 ?_; (with_reducible refine (impl_SealHolds.calls ((rd_T24 t1100 x9_1).f0) ((rd_T24 t1100 x9_1).f1) ((rd_T24 t1100 x9_1).f2) ((rd_T24 t1100 x9_1).f3) ((rd_T24 t1100 x9_1).f4) ((rd_T24 t1100 x9_1).f5) ((rd_T24 t1100 x9_1).f6) t1112 _ A36.out).mono ?_); rintro e w63 ⟨rfl, hb⟩; refine ⟨_, rfl, ?_⟩; have n0_ := Aside0.mk (Kd.R_below z67x4 hb); have n1_ := Aside0.mk (Kd.V_below z67x5 hb); have n2_ := Aside0.mk (Kd.R_below z67x3 hb); have n3_ := Aside0.mk (blk_below (g := gb1103) (o := .cells #[.int .i64 t1096, .int .i64 t1097, .int .i64 t1098, .int .i64 t1099, .slice (some ad1110) t1100.length co21] 36 (0, 0)) z67x2 hb); have n4_ := Aside0.mk (blk_below (g := gb1111) (o := .cells #[.int .i64 ((rd_T24 t1100 x9_1).f0), .int .i64 ((rd_T24 t1100 x9_1).f1), .int .i64 ((rd_T24 t1100 x9_1).f2), .int .i64 ((rd_T24 t1100 x9_1).f3), .int .i64 ((rd_T24 t1100 x9_1).f4), .int .i64 ((rd_T24 t1100 x9_1).f5), .int .i64 ((rd_T24 t1100 x9_1).f6)] 24 (0, 0)) z67x0 hb); have n5_ := Aside0.mk (below_step z67x14 hb); clear HO_4; clear HO_7; clear HO_1104004; clear BK1103; clear BK1111; clear HB; have HO_4 := n0_; have HO_7 := n1_; have HO_1104004 := n2_; have BK1103 := n3_; have BK1111 := n4_; have HB := n5_; clear n0_ n1_ n2_ n3_ n4_ n5_; (try clear hb); (try clear hb2); (try clear hk); (try clear hi); have hcz64_0 : w63.cell? ⟨gb1111, 0, none⟩ = some (.int .i64 ((rd_T24 t1100 x9_1).f0)) := (blk_cell BK1111.out 0).trans rfl; have hcz64_1 : w63.cell? ⟨gb1111, 1, none⟩ = some (.int .i64 ((rd_T24 t1100 x9_1).f1)) := (blk_cell BK1111.out 1).trans rfl; have hcz64_2 : w63.cell? ⟨gb1111, 2, none⟩ = some (.int .i64 ((rd_T24 t1100 x9_1).f2)) := (blk_cell BK1111.out 2).trans rfl; have hcz64_3 : w63.cell? ⟨gb1111, 3, none⟩ = some (.int .i64 ((rd_T24 t1100 x9_1).f3)) := (blk_cell BK1111.out 3).trans rfl; have hcz64_4 : w63.cell? ⟨gb1111, 4, none⟩ = some (.int .i64 ((rd_T24 t1100 x9_1).f4)) := (blk_cell BK1111.out 4).trans rfl; have hcz64_5 : w63.cell? ⟨gb1111, 5, none⟩ = some (.int .i64 ((rd_T24 t1100 x9_1).f5)) := (blk_cell BK1111.out 5).trans rfl; have hcz64_6 : w63.cell? ⟨gb1111, 6, none⟩ = some (.int .i64 ((rd_T24 t1100 x9_1).f6)) := (blk_cell BK1111.out 6).trans rfl; have hfz64_0 := blk_frozen BK1111.out 0; have hfz64_1 := blk_frozen BK1111.out 1; have hfz64_2 := blk_frozen BK1111.out 2; have hfz64_3 := blk_frozen BK1111.out 3; have hfz64_4 := blk_frozen BK1111.out 4; have hfz64_5 := blk_frozen BK1111.out 5; have hfz64_6 := blk_frozen BK1111.out 6) | ((with_reducible refine gate_callee (f := 54) rfl ?_); refine goesL_ (some 55) rfl rfl Try.func54 (by kernel_rfl) rfl #[.slice Ao23 t1093.length co23, .agg #[.int .i64 ((rd_T24 t1100 x9_1).f0), .int .i64 ((rd_T24 t1100 x9_1).f1), .int .i64 ((rd_T24 t1100 x9_1).f2), .int .i64 ((rd_T24 t1100 x9_1).f3), .int .i64 ((rd_T24 t1100 x9_1).f4), .int .i64 ((rd_T24 t1100 x9_1).f5), .int .i64 ((rd_T24 t1100 x9_1).f6)]] rfl z67x18 ?_; (with_reducible refine (laws_lbAmong.calls kj29 _ _ t1093 ((rd_T24 t1100 x9_1).f0) ((rd_T24 t1100 x9_1).f1) ((rd_T24 t1100 x9_1).f2) ((rd_T24 t1100 x9_1).f3) ((rd_T24 t1100 x9_1).f4) ((rd_T24 t1100 x9_1).f5) ((rd_T24 t1100 x9_1).f6) false _ ?side1 ?side2 A37.out).mono ?_); (case side1 => repeat (first | exact (Kd.R_reads' HO_4.out).2.2 | (with_reducible refine Kd.C_alloc ?_ _) | (with_reducible refine Kd.C_drewN ?_ _) | (with_reducible refine Kd.C_drew ?_))); (case side2 => exact (Kd.R_reads' HO_4.out).2.1); rintro e w65 ⟨rfl, hb⟩; refine ⟨_, rfl, ?_⟩; have n0_ := Aside0.mk (Kd.R_below z67x26 hb); have n1_ := Aside0.mk (Kd.V_below z67x27 hb); have n2_ := Aside0.mk (Kd.R_below z67x22 hb); have n3_ := Aside0.mk (blk_below (g := gb1103) (o := .cells #[.int .i64 t1096, .int .i64 t1097, .int .i64 t1098, .int .i64 t1099, .slice (some ad1110) t1100.length co21] 36 (0, 0)) z67x20 hb); have n4_ := Aside0.mk (blk_below (g := gb1111) (o := .cells #[.int .i64 ((rd_T24 t1100 x9_1).f0), .int .i64 ((rd_T24 t1100 x9_1).f1), .int .i64 ((rd_T24 t1100 x9_1).f2), .int .i64 ((rd_T24 t1100 x9_1).f3), .int .i64 ((rd_T24 t1100 x9_1).f4), .int .i64 ((rd_T24 t1100 x9_1).f5), .int .i64 ((rd_T24 t1100 x9_1).f6)] 24 (0, 0)) z67x21 hb); have n5_ := Aside0.mk (below_step z67x14 hb); clear HO_4; clear HO_7; clear HO_1104004; clear BK1103; clear BK1111; clear HB; have HO_4 := n0_; have HO_7 := n1_; have HO_1104004 := n2_; have BK1103 := n3_; have BK1111 := n4_; have HB := n5_; clear n0_ n1_ n2_ n3_ n4_ n5_; (try clear hb); (try clear hb2); (try clear hk); (try clear hi); have hcz66_0 : w65.cell? ⟨gb1111, 0, none⟩ = some (.int .i64 ((rd_T24 t1100 x9_1).f0)) := (blk_cell BK1111.out 0).trans rfl; have hcz66_1 : w65.cell? ⟨gb1111, 1, none⟩ = some (.int .i64 ((rd_T24 t1100 x9_1).f1)) := (blk_cell BK1111.out 1).trans rfl; have hcz66_2 : w65.cell? ⟨gb1111, 2, none⟩ = some (.int .i64 ((rd_T24 t1100 x9_1).f2)) := (blk_cell BK1111.out 2).trans rfl; have hcz66_3 : w65.cell? ⟨gb1111, 3, none⟩ = some (.int .i64 ((rd_T24 t1100 x9_1).f3)) := (blk_cell BK1111.out 3).trans rfl; have hcz66_4 : w65.cell? ⟨gb1111, 4, none⟩ = some (.int .i64 ((rd_T24 t1100 x9_1).f4)) := (blk_cell BK1111.out 4).trans rfl; have hcz66_5 : w65.cell? ⟨gb1111, 5, none⟩ = some (.int .i64 ((rd_T24 t1100 x9_1).f5)) := (blk_cell BK1111.out 5).trans rfl; have hcz66_6 : w65.cell? ⟨gb1111, 6, none⟩ = some (.int .i64 ((rd_T24 t1100 x9_1).f6)) := (blk_cell BK1111.out 6).trans rfl; have hfz66_0 := blk_frozen BK1111.out 0; have hfz66_1 := blk_frozen BK1111.out 1; have hfz66_2 := blk_frozen BK1111.out 2; have hfz66_3 := blk_frozen BK1111.out 3; have hfz66_4 := blk_frozen BK1111.out 4; have hfz66_5 := blk_frozen BK1111.out 5; have hfz66_6 := blk_frozen BK1111.out 6; obtain ⟨Ao67, co67, eo67⟩ := Kd.V_slice HO_7.out; subst eo67) | (go_at_call 41; (with_reducible refine (laws_lbHas.calls kj29 _ _ t1106 ((rd_T24 t1100 x9_1).f0) true _ ?side1 ?side2 A46.out).mono ?_); (case side1 => repeat (first | exact (Kd.V_reads' HO_7.out).2.2 | (with_reducible refine Kd.C_alloc ?_ _) | (with_reducible refine Kd.C_drewN ?_ _) | (with_reducible refine Kd.C_drew ?_))); (case side2 => exact (Kd.V_reads' HO_7.out).2.1); rintro e w' ⟨rfl, ⟨nd, rfl⟩⟩) | (go_at_call 41; (with_reducible refine (laws_lbHas.calls kj29 _ _ t1106 t1112 t1115 _ ?side1 ?side2 A58.out).mono ?_); (case side1 => repeat (first | exact (Kd.V_reads' HO_7.out).2.2 | (with_reducible refine Kd.C_alloc ?_ _) | (with_reducible refine Kd.C_drewN ?_ _) | (with_reducible refine Kd.C_drew ?_))); (case side2 => exact (Kd.V_reads' HO_7.out).2.1); rintro e w' ⟨rfl, ⟨nd, rfl⟩⟩))
             go_roundg kj29
             case measure => have := HK1.out; have := HJ29.out; omega
             case rel => exact ⟨(t1115), (wrap64 (x9_1 + 1)), (by first | rfl | (simp; done) | (simp [*]; done)), (by first | rfl | (simp; done) | (simp [*]; done)), H', ⟨by have := HK1.out; have := HJ29.out; omega⟩, ⟨by (with_reducible repeat (first | apply Kd.R_alloc | apply Kd.R_drewN | apply Kd.R_drew)); exact Kd.R_mono HO_4.out (fun _ hk => hk.1)⟩, ⟨by (with_reducible repeat (first | apply Kd.V_alloc | apply Kd.V_drewN | apply Kd.V_drew)); exact Kd.V_mono HO_7.out (fun _ hk => ⟨hk.1.1, ⟨hk.1.2.1, hk.1.2.2⟩⟩)⟩, ⟨by (with_reducible repeat (first | apply Kd.R_alloc | apply Kd.R_drewN | apply Kd.R_drew)); exact Kd.R_mono HO_1104004.out (fun _ hk => hk.1)⟩, ⟨by (with_reducible repeat (first | refine blk_drewN ?_ _ | refine blk_drew ?_ | refine blk_alloc ?_ _)); exact BK1103.out⟩, ⟨by repeat (first | (with_reducible first | exact HB.out | apply below_alloc | apply pw_below_drewN | apply below_drew1 | refine below_set ?_ GE1103.out | refine below_set ?_ GE1111.out) | exact HB.out)⟩⟩
           ·replace c47 := Bool.eq_false_iff.mpr c47
            subst c47
            rw [if_neg (show ¬ (false = true) by decide)] at H
            have H' := Aside0.mk H
            clear H
            have hcz68_0 : wc.cell? ⟨gb1103, 0, none⟩ = some (.int .i64 t1096) := (blk_cell BK1103.out 0).trans rfl
            have hcz68_1 : wc.cell? ⟨gb1103, 1, none⟩ = some (.int .i64 t1097) := (blk_cell BK1103.out 1).trans rfl
            have hcz68_2 : wc.cell? ⟨gb1103, 2, none⟩ = some (.int .i64 t1098) := (blk_cell BK1103.out 2).trans rfl
            have hcz68_3 : wc.cell? ⟨gb1103, 3, none⟩ = some (.int .i64 t1099) := (blk_cell BK1103.out 3).trans rfl
            have hcz68_4 : wc.cell? ⟨gb1103, 4, none⟩ = some (.slice Ao21 t1100.length co21) := (blk_cell BK1103.out 4).trans rfl
            have hfz68_0 := blk_frozen BK1103.out 0
            have hfz68_1 := blk_frozen BK1103.out 1
            have hfz68_2 := blk_frozen BK1103.out 2
            have hfz68_3 := blk_frozen BK1103.out 3
            have hfz68_4 := blk_frozen BK1103.out 4
            have p1110 : 0 ≤ (x9_1 : Int) := of_decide_eq_true (by first | (with_reducible assumption) | assumption)
            have q1110 : x9_1 < (t1100.length : Int) := of_decide_eq_true (by first | (with_reducible assumption) | assumption)
            obtain ⟨ad1110, e1110, hx1110_0, hx1110_1, hx1110_2, hx1110_3, hx1110_4, hx1110_5, hx1110_6⟩ := at_T24 (Kd.R_reads' HO_1104004.out).2.2 x9_1 p1110 q1110
            cases e1110
            replace p1110 := eq_true p1110
            replace q1110 := eq_true q1110
            go_wp2_with (first | ((with_reducible refine gate_dst (N := 10) rfl ?_); refine box_event ?hg (N := 10) ?hd (cs := #[.int .i64 0, .int .i64 0, .int .i64 0, .int .i64 0, .int .i64 0, .int .i64 0, .int .i64 0]) (t := 24) ?hr ?_; (case hd => rfl); (case hg => rfl); (case hr => first | (go_simp; done) | (go_simp; rfl)); intro gb1111 hg w69 hbox hb; have n0_ := Aside0.mk (Kd.R_below (Kd.R_elderB z67x26 gb1111 (Nat.le_of_eq hg.symm)) hb); have n1_ := Aside0.mk (Kd.V_below (Kd.V_elderB z67x27 gb1111 (Nat.le_of_eq hg.symm)) hb); have n2_ := Aside0.mk (Kd.R_below (Kd.R_elderB z67x22 gb1111 (Nat.le_of_eq hg.symm)) hb); have n3_ := Aside0.mk (blk_below (g := gb1103) (o := .cells #[.int .i64 t1096, .int .i64 t1097, .int .i64 t1098, .int .i64 t1099, .slice (some ad1110) t1100.length co21] 36 (0, 0)) z67x20 hb); have n4_ := Aside0.mk (below_step z67x16 hb); have n5_ := Aside0.mk (hbox); have n6_ := Aside0.mk ((z67x15 : w.heap.size ≤ gb1111)); have n7_ := Aside0.mk ((z67x15 : w.heap.size ≤ gb1111)); have n8_ := Aside0.mk ((z67x13 : gb1103 ≠ gb1111)); have n9_ := Aside0.mk ((z67x12 : gb1111 ≠ gb1103)); clear HO_4; clear HO_7; clear HO_1104004; clear BK1103; clear HB; have HO_4 := n0_; have HO_7 := n1_; have HO_1104004 := n2_; have BK1103 := n3_; have HB := n4_; have BK1111 := n5_; have GW1111 := n6_; have GE1111 := n7_; have NB1103_1111 := n8_; have NB1111_1103 := n9_; clear n0_ n1_ n2_ n3_ n4_ n5_ n6_ n7_ n8_ n9_; clear hb hbox hg; have hnb70 := NB1111_1103.out; have hnc70 := NB1103_1111.out; have hcz71_0 : w69.cell? ⟨gb1111, 0, none⟩ = some (.int .i64 0) := (blk_cell BK1111.out 0).trans rfl; have hcz71_1 : w69.cell? ⟨gb1111, 1, none⟩ = some (.int .i64 0) := (blk_cell BK1111.out 1).trans rfl; have hcz71_2 : w69.cell? ⟨gb1111, 2, none⟩ = some (.int .i64 0) := (blk_cell BK1111.out 2).trans rfl; have hcz71_3 : w69.cell? ⟨gb1111, 3, none⟩ = some (.int .i64 0) := (blk_cell BK1111.out 3).trans rfl; have hcz71_4 : w69.cell? ⟨gb1111, 4, none⟩ = some (.int .i64 0) := (blk_cell BK1111.out 4).trans rfl; have hcz71_5 : w69.cell? ⟨gb1111, 5, none⟩ = some (.int .i64 0) := (blk_cell BK1111.out 5).trans rfl; have hcz71_6 : w69.cell? ⟨gb1111, 6, none⟩ = some (.int .i64 0) := (blk_cell BK1111.out 6).trans rfl; have hfz71_0 := blk_frozen BK1111.out 0; have hfz71_1 := blk_frozen BK1111.out 1; have hfz71_2 := blk_frozen BK1111.out 2; have hfz71_3 := blk_frozen BK1111.out 3; have hfz71_4 := blk_frozen BK1111.out 4; have hfz71_5 := blk_frozen BK1111.out 5; have hfz71_6 := blk_frozen BK1111.out 6) | ((with_reducible refine gate_callee (f := 23) rfl ?_); refine goesL_ (some 52) rfl rfl Try.func23 (by kernel_rfl) rfl #[.agg #[.int .i64 ((rd_T24 t1100 x9_1).f0), .int .i64 ((rd_T24 t1100 x9_1).f1), .int .i64 ((rd_T24 t1100 x9_1).f2), .int .i64 ((rd_T24 t1100 x9_1).f3), .int .i64 ((rd_T24 t1100 x9_1).f4), .int .i64 ((rd_T24 t1100 x9_1).f5), .int .i64 ((rd_T24 t1100 x9_1).f6)]] rfl z67x18 ?_; (with_reducible refine (impl_SealHolds.calls ((rd_T24 t1100 x9_1).f0) ((rd_T24 t1100 x9_1).f1) ((rd_T24 t1100 x9_1).f2) ((rd_T24 t1100 x9_1).f3) ((rd_T24 t1100 x9_1).f4) ((rd_T24 t1100 x9_1).f5) ((rd_T24 t1100 x9_1).f6) t1112 _ A36.out).mono ?_); rintro e w72 ⟨rfl, hb⟩; refine ⟨_, rfl, ?_⟩; have n0_ := Aside0.mk (Kd.R_below z67x4 hb); have n1_ := Aside0.mk (Kd.V_below z67x5 hb); have n2_ := Aside0.mk (Kd.R_below z67x3 hb); have n3_ := Aside0.mk (blk_below (g := gb1103) (o := .cells #[.int .i64 t1096, .int .i64 t1097, .int .i64 t1098, .int .i64 t1099, .slice (some ad1110) t1100.length co21] 36 (0, 0)) z67x2 hb); have n4_ := Aside0.mk (blk_below (g := gb1111) (o := .cells #[.int .i64 ((rd_T24 t1100 x9_1).f0), .int .i64 ((rd_T24 t1100 x9_1).f1), .int .i64 ((rd_T24 t1100 x9_1).f2), .int .i64 ((rd_T24 t1100 x9_1).f3), .int .i64 ((rd_T24 t1100 x9_1).f4), .int .i64 ((rd_T24 t1100 x9_1).f5), .int .i64 ((rd_T24 t1100 x9_1).f6)] 24 (0, 0)) z67x0 hb); have n5_ := Aside0.mk (below_step z67x14 hb); clear HO_4; clear HO_7; clear HO_1104004; clear BK1103; clear BK1111; clear HB; have HO_4 := n0_; have HO_7 := n1_; have HO_1104004 := n2_; have BK1103 := n3_; have BK1111 := n4_; have HB := n5_; clear n0_ n1_ n2_ n3_ n4_ n5_; (try clear hb); (try clear hb2); (try clear hk); (try clear hi); have hcz73_0 : w72.cell? ⟨gb1111, 0, none⟩ = some (.int .i64 ((rd_T24 t1100 x9_1).f0)) := (blk_cell BK1111.out 0).trans rfl; have hcz73_1 : w72.cell? ⟨gb1111, 1, none⟩ = some (.int .i64 ((rd_T24 t1100 x9_1).f1)) := (blk_cell BK1111.out 1).trans rfl; have hcz73_2 : w72.cell? ⟨gb1111, 2, none⟩ = some (.int .i64 ((rd_T24 t1100 x9_1).f2)) := (blk_cell BK1111.out 2).trans rfl; have hcz73_3 : w72.cell? ⟨gb1111, 3, none⟩ = some (.int .i64 ((rd_T24 t1100 x9_1).f3)) := (blk_cell BK1111.out 3).trans rfl; have hcz73_4 : w72.cell? ⟨gb1111, 4, none⟩ = some (.int .i64 ((rd_T24 t1100 x9_1).f4)) := (blk_cell BK1111.out 4).trans rfl; have hcz73_5 : w72.cell? ⟨gb1111, 5, none⟩ = some (.int .i64 ((rd_T24 t1100 x9_1).f5)) := (blk_cell BK1111.out 5).trans rfl; have hcz73_6 : w72.cell? ⟨gb1111, 6, none⟩ = some (.int .i64 ((rd_T24 t1100 x9_1).f6)) := (blk_cell BK1111.out 6).trans rfl; have hfz73_0 := blk_frozen BK1111.out 0; have hfz73_1 := blk_frozen BK1111.out 1; have hfz73_2 := blk_frozen BK1111.out 2; have hfz73_3 := blk_frozen BK1111.out 3; have hfz73_4 := blk_frozen BK1111.out 4; have hfz73_5 := blk_frozen BK1111.out 5; have hfz73_6 := blk_frozen BK1111.out 6) | ((with_reducible refine gate_callee (f := 54) rfl ?_); refine goesL_ (some 55) rfl rfl Try.func54 (by kernel_rfl) rfl #[.slice Ao23 t1093.length co23, .agg #[.int .i64 ((rd_T24 t1100 x9_1).f0), .int .i64 ((rd_T24 t1100 x9_1).f1), .int .i64 ((rd_T24 t1100 x9_1).f2), .int .i64 ((rd_T24 t1100 x9_1).f3), .int .i64 ((rd_T24 t1100 x9_1).f4), .int .i64 ((rd_T24 t1100 x9_1).f5), .int .i64 ((rd_T24 t1100 x9_1).f6)]] rfl z67x18 ?_; (with_reducible refine (laws_lbAmong.calls kj29 _ _ t1093 ((rd_T24 t1100 x9_1).f0) ((rd_T24 t1100 x9_1).f1) ((rd_T24 t1100 x9_1).f2) ((rd_T24 t1100 x9_1).f3) ((rd_T24 t1100 x9_1).f4) ((rd_T24 t1100 x9_1).f5) ((rd_T24 t1100 x9_1).f6) false _ ?side1 ?side2 A37.out).mono ?_); (case side1 => repeat (first | exact (Kd.R_reads' HO_4.out).2.2 | (with_reducible refine Kd.C_alloc ?_ _) | (with_reducible refine Kd.C_drewN ?_ _) | (with_reducible refine Kd.C_drew ?_))); (case side2 => exact (Kd.R_reads' HO_4.out).2.1); rintro e w74 ⟨rfl, hb⟩; refine ⟨_, rfl, ?_⟩; have n0_ := Aside0.mk (Kd.R_below z67x26 hb); have n1_ := Aside0.mk (Kd.V_below z67x27 hb); have n2_ := Aside0.mk (Kd.R_below z67x22 hb); have n3_ := Aside0.mk (blk_below (g := gb1103) (o := .cells #[.int .i64 t1096, .int .i64 t1097, .int .i64 t1098, .int .i64 t1099, .slice (some ad1110) t1100.length co21] 36 (0, 0)) z67x20 hb); have n4_ := Aside0.mk (blk_below (g := gb1111) (o := .cells #[.int .i64 ((rd_T24 t1100 x9_1).f0), .int .i64 ((rd_T24 t1100 x9_1).f1), .int .i64 ((rd_T24 t1100 x9_1).f2), .int .i64 ((rd_T24 t1100 x9_1).f3), .int .i64 ((rd_T24 t1100 x9_1).f4), .int .i64 ((rd_T24 t1100 x9_1).f5), .int .i64 ((rd_T24 t1100 x9_1).f6)] 24 (0, 0)) z67x21 hb); have n5_ := Aside0.mk (below_step z67x14 hb); clear HO_4; clear HO_7; clear HO_1104004; clear BK1103; clear BK1111; clear HB; have HO_4 := n0_; have HO_7 := n1_; have HO_1104004 := n2_; have BK1103 := n3_; have BK1111 := n4_; have HB := n5_; clear n0_ n1_ n2_ n3_ n4_ n5_; (try clear hb); (try clear hb2); (try clear hk); (try clear hi); have hcz75_0 : w74.cell? ⟨gb1111, 0, none⟩ = some (.int .i64 ((rd_T24 t1100 x9_1).f0)) := (blk_cell BK1111.out 0).trans rfl; have hcz75_1 : w74.cell? ⟨gb1111, 1, none⟩ = some (.int .i64 ((rd_T24 t1100 x9_1).f1)) := (blk_cell BK1111.out 1).trans rfl; have hcz75_2 : w74.cell? ⟨gb1111, 2, none⟩ = some (.int .i64 ((rd_T24 t1100 x9_1).f2)) := (blk_cell BK1111.out 2).trans rfl; have hcz75_3 : w74.cell? ⟨gb1111, 3, none⟩ = some (.int .i64 ((rd_T24 t1100 x9_1).f3)) := (blk_cell BK1111.out 3).trans rfl; have hcz75_4 : w74.cell? ⟨gb1111, 4, none⟩ = some (.int .i64 ((rd_T24 t1100 x9_1).f4)) := (blk_cell BK1111.out 4).trans rfl; have hcz75_5 : w74.cell? ⟨gb1111, 5, none⟩ = some (.int .i64 ((rd_T24 t1100 x9_1).f5)) := (blk_cell BK1111.out 5).trans rfl; have hcz75_6 : w74.cell? ⟨gb1111, 6, none⟩ = some (.int .i64 ((rd_T24 t1100 x9_1).f6)) := (blk_cell BK1111.out 6).trans rfl; have hfz75_0 := blk_frozen BK1111.out 0; have hfz75_1 := blk_frozen BK1111.out 1; have hfz75_2 := blk_frozen BK1111.out 2; have hfz75_3 := blk_frozen BK1111.out 3; have hfz75_4 := blk_frozen BK1111.out 4; have hfz75_5 := blk_frozen BK1111.out 5; have hfz75_6 := blk_frozen BK1111.out 6; obtain ⟨Ao76, co76, eo76⟩ := Kd.V_slice HO_7.out; subst eo76) | (go_at_call 41; (with_reducible refine (laws_lbHas.calls kj29 _ _ t1106 ((rd_T24 t1100 x9_1).f0) false _ ?side1 ?side2 A46.out).mono ?_); (case side1 => repeat (first | exact (Kd.V_reads' HO_7.out).2.2 | (with_reducible refine Kd.C_alloc ?_ _) | (with_reducible refine Kd.C_drewN ?_ _) | (with_reducible refine Kd.C_drew ?_))); (case side2 => exact (Kd.V_reads' HO_7.out).2.1); rintro e w' ⟨rfl, ⟨nd, rfl⟩⟩))
            go_roundg kj29
            case measure => have := HK1.out; have := HJ29.out; omega
            case rel => exact ⟨(false), (wrap64 (x9_1 + 1)), (by first | rfl | (simp; done) | (simp [*]; done)), (by first | rfl | (simp; done) | (simp [*]; done)), H', ⟨by have := HK1.out; have := HJ29.out; omega⟩, ⟨by (with_reducible repeat (first | apply Kd.R_alloc | apply Kd.R_drewN | apply Kd.R_drew)); exact Kd.R_mono HO_4.out (fun _ hk => hk.1)⟩, ⟨by (with_reducible repeat (first | apply Kd.V_alloc | apply Kd.V_drewN | apply Kd.V_drew)); exact Kd.V_mono HO_7.out (fun _ hk => ⟨hk.1.1, ⟨hk.1.2.1, hk.1.2.2⟩⟩)⟩, ⟨by (with_reducible repeat (first | apply Kd.R_alloc | apply Kd.R_drewN | apply Kd.R_drew)); exact Kd.R_mono HO_1104004.out (fun _ hk => hk.1)⟩, ⟨by (with_reducible repeat (first | refine blk_drewN ?_ _ | refine blk_drew ?_ | refine blk_alloc ?_ _)); exact BK1103.out⟩, ⟨by repeat (first | (with_reducible first | exact HB.out | apply below_alloc | apply pw_below_drewN | apply below_drew1 | refine below_set ?_ GE1103.out | refine below_set ?_ GE1111.out) | exact HB.out)⟩⟩
         ·rw [if_neg c35] at H
          exact absurd H (by simp)
        ·rw [if_neg c34] at H
         exact absurd H (by simp)
       ·replace c33 := Bool.eq_false_iff.mpr c33
        subst c33
        rw [if_neg (show ¬ (false = true) by decide)] at H
        obtain rfl := Option.some.inj H
        go_wp2
        go_ret
        exact ⟨by first | rfl | (simp [errW_none, errW_some] <;> rfl) | (simp [*, errW_none, errW_some] <;> rfl), by repeat (first | (with_reducible first | exact HB.out | apply below_alloc | apply pw_below_drewN | apply below_drew1 | refine below_set ?_ GE1103.out) | exact HB.out)⟩

/-- THE ONE PURE STATEMENT of laws_FnKnowBuild: yours. -/
def laws_FnKnowBuild.Pure : Prop := ∀ (l0 : List Int), l0.length ≤ maxLen → l0.length * 1 ≤ 140737488351232 → (∀ x ∈ l0, (Lit.int .u8 x).wf = true) → ∃ k, laws_FnKnowBuild.f k l0 = some true
theorem laws_FnKnowBuild.walk (P : laws_FnKnowBuild.Pure) (a0 : Option Addr) (len0 cap0 : Nat) (z0 : List Int) (w : World) (w0 : (a0 = none ∧ len0 = 0 ∧ cap0 = 0 ∧ z0 = []) ∨ ∃ x, a0 = some x ∧ len0 ≤ cap0 ∧ cap0 ≤ maxLen ∧ z0.length = cap0 ∧ (∀ i, i < z0.length → w.cell? (x.add i) = some (.int .u8 (z0.getD i 0))) ∧ ∀ n ∈ z0, (Lit.int .u8 n).wf = true) (y0 : len0 * 1 ≤ 140737488351232) :
  Calls Try.prog 21 #[.slice a0 len0 cap0] w fun e w' => e = .returned (.bool true) ∧ Below w.heap.size w w' := by
 obtain ⟨l0, rfl, hr0, hm0, hw0, hc0⟩ := ReadsInt.ofRowC w0
 obtain ⟨k, h⟩ := P l0 hm0 y0 hw0
 refine (laws_FnKnowBuild.calls k _ _ l0 true w (Kd.C_of_reads (d := (0 : Int)) (h1 := fun _ => rfl) hr0) hc0 h).mono ?_
 rintro e w' ⟨rfl, hd⟩
 exact ⟨rfl, hd⟩

end Go.Proofs.Ytbiknbjcidlabaa.Hp
