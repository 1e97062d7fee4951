-- hp.py
import Derived.Test.YtbipicjijbnbbaaHx0
import Derived.Test.YtbipicjijbnbbaaHx7
import Derived.Test.YtbipicjijbnbbaaHx9
import Derived.Test.YtbipicjijbnbbaaHx14
import Derived.Test.YtbipicjijbnbbaaHx16
namespace Go.Proofs.Ytbipicjijbnbbaa.Hp
open Go.RowKit Go.Proofs.YtbipicjijbnbbaaW.PrintWords Go.Proofs.YtbipicjijbnbbaaW.PrintLast Go.Proofs.YtbipicjijbnbbaaW.PrintMore
attribute [local go_sem] max2_int min2_int max_two min_two max_three min_three max_four min_four   -- for this text's walks alone
set_option linter.unusedVariables false
set_option linter.unusedSimpArgs false
-- squeezed by wip/tools/squeeze.py
theorem z17x59 {P : Prop} (h : P := by simp only [putAll, Act.put, List.setIfInBounds_toArray, List.set_cons_zero, List.set_cons_succ]) : P := h
theorem z17x58 {P : Prop} (h : P := by (with_reducible repeat (first | apply Kd.R_alloc | apply Kd.R_drewN | apply Kd.R_drew)); exact HO314.out) : P := h
theorem z17x57 {P : Prop} (h : P := by (with_reducible repeat (first | apply Kd.R_alloc | apply Kd.R_drewN | apply Kd.R_drew)); exact HO281.out) : P := h
theorem z17x56 {P : Prop} (h : P := by (with_reducible repeat (first | apply Kd.R_alloc | apply Kd.R_drewN | apply Kd.R_drew)); exact HO_306004.out) : P := h
theorem z17x55 {P : Prop} (h : P := by (with_reducible repeat (first | apply Kd.R_alloc | apply Kd.R_drewN | apply Kd.R_drew)); exact HO_295004.out) : P := h
theorem z17x54 {P : Prop} (h : P := by (with_reducible repeat (first | apply Kd.R_alloc | apply Kd.R_drewN | apply Kd.R_drew)); exact HO_283004.out) : P := h
theorem z17x53 {P : Prop} (h : P := by (with_reducible repeat (first | refine blk_drewN ?_ _ | refine blk_drew ?_ | refine blk_alloc ?_ _)); exact BK320.out) : P := h
theorem z17x52 {P : Prop} (h : P := by (with_reducible repeat (first | refine blk_drewN ?_ _ | refine blk_drew ?_ | refine blk_alloc ?_ _)); exact BK305.out) : P := h
theorem z17x51 {P : Prop} (h : P := by (with_reducible repeat (first | refine blk_drewN ?_ _ | refine blk_drew ?_ | refine blk_alloc ?_ _)); exact BK294.out) : P := h
theorem z17x50 {P : Prop} (h : P := by (with_reducible repeat (first | refine blk_drewN ?_ _ | refine blk_drew ?_ | refine blk_alloc ?_ _)); exact BK290.out) : P := h
theorem z17x49 {P : Prop} (h : P := by (with_reducible repeat (first | refine blk_drewN ?_ _ | refine blk_drew ?_ | refine blk_alloc ?_ _)); exact BK282.out) : P := h
theorem z17x48 {P : Prop} (h : P := by repeat (first | (with_reducible first | exact HB.out | apply below_alloc | apply pw_below_drewN | apply below_drew1) | exact HB.out)) : P := h
theorem z17x47 {P : Prop} (h : P := by (try simp only [List.map_toArray, List.map_cons, List.map_nil]); first | done | rfl | (simp only [List.length_drop, List.length_take]; rfl)) : P := h
theorem z17x46 {P : Prop} (h : P := by (with_reducible repeat (first | apply Kd.R_alloc | apply Kd.R_drewN | apply Kd.R_drew)); exact Kd.R_mono HO_283004.out (fun _ hk => ⟨⟨hk.2.1, hk.2.2⟩, hk.1⟩)) : P := h
theorem z17x45 {P : Prop} (h : P := by repeat (first | (with_reducible first | exact HB.out | apply below_alloc | apply pw_below_drewN | apply below_drew1 | refine below_set ?_ GE282.out) | exact HB.out)) : P := h
theorem z17x44 {P : Prop} (h : P := by (with_reducible repeat (first | apply Kd.R_alloc | apply Kd.R_drewN | apply Kd.R_drew)); exact Kd.R_mono HO_295004.out (fun _ hk => ⟨hk.2, ⟨hk.1.2.1, ⟨hk.1.1, hk.1.2.2⟩⟩⟩)) : P := h
theorem z17x43 {P : Prop} (h : P := by (with_reducible repeat (first | apply Kd.R_alloc | apply Kd.R_drewN | apply Kd.R_drew)); exact Kd.R_mono HO_283004.out (fun _ hk => ⟨hk.2, ⟨hk.1.2.1, ⟨hk.1.1, hk.1.2.2⟩⟩⟩)) : P := h
theorem z17x42 {P : Prop} (h : P := by rw [hw]; exact below_set (below_set (below_set (below_set (below_set (below_set (below_set (HB.out) GB105.out) GB105.out) GB105.out) GB105.out) GB105.out) GB105.out) GB105.out) : P := h
theorem z17x41 {P : Prop} (h : P := by repeat (first | (with_reducible exact HR324.out) | (with_reducible refine Kd.C_alloc ?_ _) | (with_reducible refine Kd.C_drewN ?_ _) | (with_reducible refine Kd.C_drew ?_) | exact HR324.out)) : P := h
theorem z17x40 {P : Prop} (h : P := by rw [hg]; exact (below_size (by repeat (first | (with_reducible first | exact HB.out | apply below_alloc | apply pw_below_drewN | apply below_drew1 | refine below_set ?_ GE282.out) | exact HB.out)))) : P := h
theorem z17x39 {P : Prop} (h : P := by repeat (first | (with_reducible first | exact HB.out | apply below_alloc | apply pw_below_drewN | apply below_drew1 | refine below_set ?_ GE282.out | refine below_set ?_ GE290.out) | exact HB.out)) : P := h
theorem z17x38 {P : Prop} (h : P := by rw [hg]; exact (below_size (by repeat (first | (with_reducible first | exact HB.out | apply below_alloc | apply pw_below_drewN | apply below_drew1 | refine below_set ?_ GE282.out | refine below_set ?_ GE290.out) | exact HB.out)))) : P := h
theorem z17x37 {P : Prop} (h : P := by repeat (first | (with_reducible first | exact HB.out | apply below_alloc | apply pw_below_drewN | apply below_drew1 | refine below_set ?_ GE282.out | refine below_set ?_ GE290.out | refine below_set ?_ GE294.out) | exact HB.out)) : P := h
theorem z17x36 {P : Prop} (h : P := by (with_reducible repeat (first | refine blk_drewN ?_ _ | refine blk_drew ?_ | refine blk_alloc ?_ _)); refine blk_far ?_ NB294_305.out _; (with_reducible repeat (first | refine blk_drewN ?_ _ | refine blk_drew ?_ | refine blk_alloc ?_ _)); exact BK294.out) : P := h
theorem z17x35 {P : Prop} (h : P := by (with_reducible repeat (first | refine blk_drewN ?_ _ | refine blk_drew ?_ | refine blk_alloc ?_ _)); refine blk_far ?_ NB290_305.out _; (with_reducible repeat (first | refine blk_drewN ?_ _ | refine blk_drew ?_ | refine blk_alloc ?_ _)); exact BK290.out) : P := h
theorem z17x34 {P : Prop} (h : P := by (with_reducible repeat (first | refine blk_drewN ?_ _ | refine blk_drew ?_ | refine blk_alloc ?_ _)); refine blk_far ?_ NB282_305.out _; (with_reducible repeat (first | refine blk_drewN ?_ _ | refine blk_drew ?_ | refine blk_alloc ?_ _)); exact BK282.out) : P := h
theorem z17x33 {P : Prop} (h : P := by (with_reducible repeat (first | apply Kd.R_alloc | apply Kd.R_drewN | apply Kd.R_drew)); exact (Kd.R_mono (Kd.R_far (p := ⟨gb305, 4, none⟩) (Kd.R_types HO317.out BK305.out (by decide)) (fun _ hk => hk.2) (.slice Ao76 y315.length co76)) (fun _ h_ => h_.1))) : P := h
theorem z17x32 {P : Prop} (h : P := by (with_reducible repeat (first | apply Kd.R_alloc | apply Kd.R_drewN | apply Kd.R_drew)); exact (Kd.R_mono (Kd.R_far (p := ⟨gb305, 4, none⟩) (Kd.R_types HO314.out BK305.out (by decide)) (fun _ hk => hk.2) (.slice Ao76 y315.length co76)) (fun _ h_ => h_.1))) : P := h
theorem z17x31 {P : Prop} (h : P := by (with_reducible repeat (first | apply Kd.R_alloc | apply Kd.R_drewN | apply Kd.R_drew)); exact (Kd.R_mono (Kd.R_far (p := ⟨gb305, 4, none⟩) (Kd.R_types HO_295004.out BK305.out (by decide)) (fun _ hk => hk.2) (.slice Ao76 y315.length co76)) (fun _ h_ => h_.1))) : P := h
theorem z17x30 {P : Prop} (h : P := by (with_reducible repeat (first | apply Kd.R_alloc | apply Kd.R_drewN | apply Kd.R_drew)); exact (Kd.R_mono (Kd.R_far (p := ⟨gb305, 4, none⟩) (Kd.R_types HO_283004.out BK305.out (by decide)) (fun _ hk => hk.2) (.slice Ao76 y315.length co76)) (fun _ h_ => h_.1))) : P := h
theorem z17x29 {P : Prop} (h : P := by rw [hg]; exact (below_size (by repeat (first | (with_reducible first | exact HB.out | apply below_alloc | apply pw_below_drewN | apply below_drew1 | refine below_set ?_ GE282.out | refine below_set ?_ GE290.out | refine below_set ?_ GE294.out) | exact HB.out)))) : P := h
theorem z17x28 {P : Prop} (h : P := by repeat (first | (with_reducible first | exact HB.out | apply below_alloc | apply pw_below_drewN | apply below_drew1 | refine below_set ?_ GE282.out | refine below_set ?_ GE290.out | refine below_set ?_ GE294.out | refine below_set ?_ GE305.out) | exact HB.out)) : P := h
theorem z17x27 {P : Prop} (h : P := by rw [hg]; exact Nat.ne_of_lt (blk_lt (g := gb294) (o := .cells #[.int .i64 t275, .int .i64 t276, .int .i64 t277, .int .i64 t278, u295004] 34 (0, 0)) (by (with_reducible repeat (first | refine blk_drewN ?_ _ | refine blk_drew ?_ | refine blk_alloc ?_ _)); exact BK294.out))) : P := h
theorem z17x26 {P : Prop} (h : P := by rw [hg]; exact Nat.ne_of_gt (blk_lt (g := gb294) (o := .cells #[.int .i64 t275, .int .i64 t276, .int .i64 t277, .int .i64 t278, u295004] 34 (0, 0)) (by (with_reducible repeat (first | refine blk_drewN ?_ _ | refine blk_drew ?_ | refine blk_alloc ?_ _)); exact BK294.out))) : P := h
theorem z17x25 {P : Prop} (h : P := by rw [hw]; exact (by (with_reducible repeat (first | refine blk_drewN ?_ _ | refine blk_drew ?_ | refine blk_alloc ?_ _)); refine blk_far ?_ NB305_320.out _; (with_reducible repeat (first | refine blk_drewN ?_ _ | refine blk_drew ?_ | refine blk_alloc ?_ _)); exact BK305.out)) : P := h
theorem z17x24 {P : Prop} (h : P := by rw [hw]; exact (by (with_reducible repeat (first | refine blk_drewN ?_ _ | refine blk_drew ?_ | refine blk_alloc ?_ _)); refine blk_far ?_ NB294_320.out _; (with_reducible repeat (first | refine blk_drewN ?_ _ | refine blk_drew ?_ | refine blk_alloc ?_ _)); exact BK294.out)) : P := h
theorem z17x23 {P : Prop} (h : P := by rw [hw]; exact (by (with_reducible repeat (first | refine blk_drewN ?_ _ | refine blk_drew ?_ | refine blk_alloc ?_ _)); refine blk_far ?_ NB290_320.out _; (with_reducible repeat (first | refine blk_drewN ?_ _ | refine blk_drew ?_ | refine blk_alloc ?_ _)); exact BK290.out)) : P := h
theorem z17x22 {P : Prop} (h : P := by rw [hw]; exact (by (with_reducible repeat (first | refine blk_drewN ?_ _ | refine blk_drew ?_ | refine blk_alloc ?_ _)); refine blk_far ?_ NB282_320.out _; (with_reducible repeat (first | refine blk_drewN ?_ _ | refine blk_drew ?_ | refine blk_alloc ?_ _)); exact BK282.out)) : P := h
theorem z17x21 {P : Prop} (h : P := by rw [hg]; exact Nat.ne_of_lt (blk_lt (g := gb305) (o := .cells #[.int .i64 t275, .int .i64 t276, .int .i64 t277, .int .i64 t278, .slice Ao76 y315.length co76] 34 (0, 0)) (by (with_reducible repeat (first | refine blk_drewN ?_ _ | refine blk_drew ?_ | refine blk_alloc ?_ _)); exact BK305.out))) : P := h
theorem z17x20 {P : Prop} (h : P := by rw [hg]; exact Nat.ne_of_lt (blk_lt (g := gb282) (o := .cells #[.int .i64 t275, .int .i64 t276, .int .i64 t277, .int .i64 t278, .slice Ao13 t279.length co13] 34 (0, 0)) (by (with_reducible repeat (first | refine blk_drewN ?_ _ | refine blk_drew ?_ | refine blk_alloc ?_ _)); exact BK282.out))) : P := h
theorem z17x19 {P : Prop} (h : P := by rw [hg]; exact Nat.ne_of_gt (blk_lt (g := gb305) (o := .cells #[.int .i64 t275, .int .i64 t276, .int .i64 t277, .int .i64 t278, .slice Ao76 y315.length co76] 34 (0, 0)) (by (with_reducible repeat (first | refine blk_drewN ?_ _ | refine blk_drew ?_ | refine blk_alloc ?_ _)); exact BK305.out))) : P := h
theorem z17x18 {P : Prop} (h : P := by rw [hg]; exact Nat.ne_of_gt (blk_lt (g := gb282) (o := .cells #[.int .i64 t275, .int .i64 t276, .int .i64 t277, .int .i64 t278, .slice Ao13 t279.length co13] 34 (0, 0)) (by (with_reducible repeat (first | refine blk_drewN ?_ _ | refine blk_drew ?_ | refine blk_alloc ?_ _)); exact BK282.out))) : P := h
theorem z17x17 {P : Prop} (h : P := by rw [hg]; exact (below_size (by repeat (first | (with_reducible first | exact HB.out | apply below_alloc | apply pw_below_drewN | apply below_drew1 | refine below_set ?_ GE282.out | refine below_set ?_ GE290.out | refine below_set ?_ GE294.out | refine below_set ?_ GE305.out) | exact HB.out)))) : P := h
theorem z17x16 {P : Prop} (h : P := by repeat (first | (with_reducible first | exact HB.out | apply below_alloc | apply pw_below_drewN | apply below_drew1 | refine below_set ?_ GE282.out | refine below_set ?_ GE290.out | refine below_set ?_ GE294.out | refine below_set ?_ GE305.out | refine below_set ?_ GE320.out) | exact HB.out)) : P := h
theorem z17x15 {P : Prop} (h : P := by rw [hg]; exact Nat.ne_of_lt (blk_lt (g := gb290) (o := .cells #[.int .i64 t283, .int .i64 t284, .int .i64 t285, .int .i64 t286, .int .i64 t287, .int .i64 t288, .int .i64 t289] 41 (0, 0)) (by (with_reducible repeat (first | refine blk_drewN ?_ _ | refine blk_drew ?_ | refine blk_alloc ?_ _)); exact BK290.out))) : P := h
theorem z17x14 {P : Prop} (h : P := by rw [hg]; exact Nat.ne_of_gt (blk_lt (g := gb290) (o := .cells #[.int .i64 t283, .int .i64 t284, .int .i64 t285, .int .i64 t286, .int .i64 t287, .int .i64 t288, .int .i64 t289] 41 (0, 0)) (by (with_reducible repeat (first | refine blk_drewN ?_ _ | refine blk_drew ?_ | refine blk_alloc ?_ _)); exact BK290.out))) : P := h
theorem z17x13 {P : Prop} (h : P := by rw [hw]; exact (by repeat (first | (with_reducible first | exact HB.out | apply below_alloc | apply pw_below_drewN | apply below_drew1 | refine below_set ?_ GE282.out | refine below_set ?_ GE290.out | refine below_set ?_ GE294.out | refine below_set ?_ GE305.out | refine below_set ?_ GE320.out) | exact HB.out))) : P := h
theorem z17x12 {P : Prop} (h : P := by (with_reducible repeat (first | refine blk_drewN ?_ _ | refine blk_drew ?_ | refine blk_alloc ?_ _)); refine blk_put (cs := #[.int .i64 t275, .int .i64 t276, .int .i64 t277, .int .i64 t278, .slice Ao13 t279.length co13]) ?_ 4 _ rfl; (with_reducible repeat (first | refine blk_drewN ?_ _ | refine blk_drew ?_ | refine blk_alloc ?_ _)); exact BK305.out) : P := h
theorem z17x11 {P : Prop} (h : P := by rw [hw]; exact (by (with_reducible repeat (first | refine blk_drewN ?_ _ | refine blk_drew ?_ | refine blk_alloc ?_ _)); refine blk_put (cs := #[.int .i64 t275, .int .i64 t276, .int .i64 t277, .int .i64 t278, .slice Ao13 t279.length co13]) ?_ 4 _ rfl; (with_reducible repeat (first | refine blk_drewN ?_ _ | refine blk_drew ?_ | refine blk_alloc ?_ _)); exact BK320.out)) : P := h
theorem z17x10 {P : Prop} (h : P := by (with_reducible repeat (first | apply Kd.R_alloc | apply Kd.R_drewN | apply Kd.R_drew)); exact (Kd.R_mono (Kd.R_far (p := ⟨gb294, 4, none⟩) (Kd.R_far (p := ⟨gb294, 3, none⟩) (Kd.R_far (p := ⟨gb294, 2, none⟩) (Kd.R_far (p := ⟨gb294, 1, none⟩) (Kd.R_far (p := ⟨gb294, 0, none⟩) (Kd.R_types HO_283004.out BK294.out (by decide)) (fun _ hk => hk.2) (.int .i64 t275)) (fun _ hk => hk.2) (.int .i64 t276)) (fun _ hk => hk.2) (.int .i64 t277)) (fun _ hk => hk.2) (.int .i64 t278)) (fun _ hk => hk.2) (.slice Ao13 t279.length co13)) (fun _ h_ => h_.1))) : P := h
theorem z17x9 {P : Prop} (h : P := by rw [hw]; exact (by (with_reducible repeat (first | apply Kd.R_alloc | apply Kd.R_drewN | apply Kd.R_drew)); exact Kd.R_mono (Kd.R_far (p := ⟨gb320, 4, none⟩) (Kd.R_far (p := ⟨gb320, 3, none⟩) (Kd.R_far (p := ⟨gb320, 2, none⟩) (Kd.R_far (p := ⟨gb320, 1, none⟩) (Kd.R_far (p := ⟨gb320, 0, none⟩) (Kd.R_types HO_306004.out BK320.out (by decide)) (fun _ hk => hk.2) (.int .i64 t275)) (fun _ hk => hk.2) (.int .i64 t276)) (fun _ hk => hk.2) (.int .i64 t277)) (fun _ hk => hk.2) (.int .i64 t278)) (fun _ hk => hk.2) (.slice Ao13 t279.length co13)) (fun _ hk => ⟨hk.1.1, ⟨hk.1.2.1, hk.1.2.2⟩⟩))) : P := h
theorem z17x8 {P : Prop} (h : P := by rw [hw]; exact (by (with_reducible repeat (first | apply Kd.R_alloc | apply Kd.R_drewN | apply Kd.R_drew)); exact Kd.R_mono (Kd.R_far (p := ⟨gb320, 4, none⟩) (Kd.R_far (p := ⟨gb320, 3, none⟩) (Kd.R_far (p := ⟨gb320, 2, none⟩) (Kd.R_far (p := ⟨gb320, 1, none⟩) (Kd.R_far (p := ⟨gb320, 0, none⟩) (Kd.R_types HO_295004.out BK320.out (by decide)) (fun _ hk => hk.2) (.int .i64 t275)) (fun _ hk => hk.2) (.int .i64 t276)) (fun _ hk => hk.2) (.int .i64 t277)) (fun _ hk => hk.2) (.int .i64 t278)) (fun _ hk => hk.2) (.slice Ao13 t279.length co13)) (fun _ hk => ⟨hk.1.1, ⟨hk.1.2.1, hk.1.2.2⟩⟩))) : P := h
theorem z17x7 {P : Prop} (h : P := by rw [hw]; exact (by (with_reducible repeat (first | apply Kd.R_alloc | apply Kd.R_drewN | apply Kd.R_drew)); exact Kd.R_mono (Kd.R_far (p := ⟨gb320, 4, none⟩) (Kd.R_far (p := ⟨gb320, 3, none⟩) (Kd.R_far (p := ⟨gb320, 2, none⟩) (Kd.R_far (p := ⟨gb320, 1, none⟩) (Kd.R_far (p := ⟨gb320, 0, none⟩) (Kd.R_types HO_283004.out BK320.out (by decide)) (fun _ hk => hk.2) (.int .i64 t275)) (fun _ hk => hk.2) (.int .i64 t276)) (fun _ hk => hk.2) (.int .i64 t277)) (fun _ hk => hk.2) (.int .i64 t278)) (fun _ hk => hk.2) (.slice Ao13 t279.length co13)) (fun _ hk => ⟨hk.1.1, ⟨hk.1.2.1, hk.1.2.2⟩⟩))) : P := h
theorem z17x6 {P : Prop} (h : P := by (with_reducible repeat (first | apply Kd.R_alloc | apply Kd.R_drewN | apply Kd.R_drew)); exact (Kd.R_mono (Kd.R_far (p := ⟨gb290, 6, none⟩) (Kd.R_far (p := ⟨gb290, 5, none⟩) (Kd.R_far (p := ⟨gb290, 4, none⟩) (Kd.R_far (p := ⟨gb290, 3, none⟩) (Kd.R_far (p := ⟨gb290, 2, none⟩) (Kd.R_far (p := ⟨gb290, 1, none⟩) (Kd.R_far (p := ⟨gb290, 0, none⟩) (Kd.R_mono HO281.out (fun k_ hk => (⟨hk, hk.2⟩ : _ ∧ k_ ≠ gb290))) (fun _ hk => hk.2) (.int .i64 t283)) (fun _ hk => hk.2) (.int .i64 t284)) (fun _ hk => hk.2) (.int .i64 t285)) (fun _ hk => hk.2) (.int .i64 t286)) (fun _ hk => hk.2) (.int .i64 t287)) (fun _ hk => hk.2) (.int .i64 t288)) (fun _ hk => hk.2) (.int .i64 t289)) (fun _ h_ => h_.1))) : P := h
theorem z17x5 {P : Prop} (h : P := by (with_reducible repeat (first | refine blk_drewN ?_ _ | refine blk_drew ?_ | refine blk_alloc ?_ _)); refine blk_far ?_ NB290_294.out _; (with_reducible repeat (first | refine blk_drewN ?_ _ | refine blk_drew ?_ | refine blk_alloc ?_ _)); refine blk_far ?_ NB290_294.out _; (with_reducible repeat (first | refine blk_drewN ?_ _ | refine blk_drew ?_ | refine blk_alloc ?_ _)); refine blk_far ?_ NB290_294.out _; (with_reducible repeat (first | refine blk_drewN ?_ _ | refine blk_drew ?_ | refine blk_alloc ?_ _)); refine blk_far ?_ NB290_294.out _; (with_reducible repeat (first | refine blk_drewN ?_ _ | refine blk_drew ?_ | refine blk_alloc ?_ _)); refine blk_far ?_ NB290_294.out _; (with_reducible repeat (first | refine blk_drewN ?_ _ | refine blk_drew ?_ | refine blk_alloc ?_ _)); exact BK290.out) : P := h
theorem z17x4 {P : Prop} (h : P := by rw [hw]; exact (by (with_reducible repeat (first | refine blk_drewN ?_ _ | refine blk_drew ?_ | refine blk_alloc ?_ _)); refine blk_far ?_ NB305_320.out _; (with_reducible repeat (first | refine blk_drewN ?_ _ | refine blk_drew ?_ | refine blk_alloc ?_ _)); refine blk_far ?_ NB305_320.out _; (with_reducible repeat (first | refine blk_drewN ?_ _ | refine blk_drew ?_ | refine blk_alloc ?_ _)); refine blk_far ?_ NB305_320.out _; (with_reducible repeat (first | refine blk_drewN ?_ _ | refine blk_drew ?_ | refine blk_alloc ?_ _)); refine blk_far ?_ NB305_320.out _; (with_reducible repeat (first | refine blk_drewN ?_ _ | refine blk_drew ?_ | refine blk_alloc ?_ _)); refine blk_far ?_ NB305_320.out _; (with_reducible repeat (first | refine blk_drewN ?_ _ | refine blk_drew ?_ | refine blk_alloc ?_ _)); exact BK305.out)) : P := h
theorem z17x3 {P : Prop} (h : P := by rw [hw]; exact (by (with_reducible repeat (first | refine blk_drewN ?_ _ | refine blk_drew ?_ | refine blk_alloc ?_ _)); refine blk_far ?_ NB294_320.out _; (with_reducible repeat (first | refine blk_drewN ?_ _ | refine blk_drew ?_ | refine blk_alloc ?_ _)); refine blk_far ?_ NB294_320.out _; (with_reducible repeat (first | refine blk_drewN ?_ _ | refine blk_drew ?_ | refine blk_alloc ?_ _)); refine blk_far ?_ NB294_320.out _; (with_reducible repeat (first | refine blk_drewN ?_ _ | refine blk_drew ?_ | refine blk_alloc ?_ _)); refine blk_far ?_ NB294_320.out _; (with_reducible repeat (first | refine blk_drewN ?_ _ | refine blk_drew ?_ | refine blk_alloc ?_ _)); refine blk_far ?_ NB294_320.out _; (with_reducible repeat (first | refine blk_drewN ?_ _ | refine blk_drew ?_ | refine blk_alloc ?_ _)); exact BK294.out)) : P := h
theorem z17x2 {P : Prop} (h : P := by rw [hw]; exact (by (with_reducible repeat (first | refine blk_drewN ?_ _ | refine blk_drew ?_ | refine blk_alloc ?_ _)); refine blk_far ?_ NB290_320.out _; (with_reducible repeat (first | refine blk_drewN ?_ _ | refine blk_drew ?_ | refine blk_alloc ?_ _)); refine blk_far ?_ NB290_320.out _; (with_reducible repeat (first | refine blk_drewN ?_ _ | refine blk_drew ?_ | refine blk_alloc ?_ _)); refine blk_far ?_ NB290_320.out _; (with_reducible repeat (first | refine blk_drewN ?_ _ | refine blk_drew ?_ | refine blk_alloc ?_ _)); refine blk_far ?_ NB290_320.out _; (with_reducible repeat (first | refine blk_drewN ?_ _ | refine blk_drew ?_ | refine blk_alloc ?_ _)); refine blk_far ?_ NB290_320.out _; (with_reducible repeat (first | refine blk_drewN ?_ _ | refine blk_drew ?_ | refine blk_alloc ?_ _)); exact BK290.out)) : P := h
theorem z17x1 {P : Prop} (h : P := by rw [hw]; exact (by (with_reducible repeat (first | refine blk_drewN ?_ _ | refine blk_drew ?_ | refine blk_alloc ?_ _)); refine blk_far ?_ NB282_320.out _; (with_reducible repeat (first | refine blk_drewN ?_ _ | refine blk_drew ?_ | refine blk_alloc ?_ _)); refine blk_far ?_ NB282_320.out _; (with_reducible repeat (first | refine blk_drewN ?_ _ | refine blk_drew ?_ | refine blk_alloc ?_ _)); refine blk_far ?_ NB282_320.out _; (with_reducible repeat (first | refine blk_drewN ?_ _ | refine blk_drew ?_ | refine blk_alloc ?_ _)); refine blk_far ?_ NB282_320.out _; (with_reducible repeat (first | refine blk_drewN ?_ _ | refine blk_drew ?_ | refine blk_alloc ?_ _)); refine blk_far ?_ NB282_320.out _; (with_reducible repeat (first | refine blk_drewN ?_ _ | refine blk_drew ?_ | refine blk_alloc ?_ _)); exact BK282.out)) : P := h
theorem z17x0 {P : Prop} (h : P := by rw [hw]; exact (by (with_reducible repeat (first | refine blk_drewN ?_ _ | refine blk_drew ?_ | refine blk_alloc ?_ _)); refine blk_put (cs := #[.int .i64 t275, .int .i64 t276, .int .i64 t277, .int .i64 t278, .slice none 0 0]) ?_ 4 _ rfl; (with_reducible repeat (first | refine blk_drewN ?_ _ | refine blk_drew ?_ | refine blk_alloc ?_ _)); refine blk_put (cs := #[.int .i64 t275, .int .i64 t276, .int .i64 t277, .int .i64 0, .slice none 0 0]) ?_ 3 _ rfl; (with_reducible repeat (first | refine blk_drewN ?_ _ | refine blk_drew ?_ | refine blk_alloc ?_ _)); refine blk_put (cs := #[.int .i64 t275, .int .i64 t276, .int .i64 0, .int .i64 0, .slice none 0 0]) ?_ 2 _ rfl; (with_reducible repeat (first | refine blk_drewN ?_ _ | refine blk_drew ?_ | refine blk_alloc ?_ _)); refine blk_put (cs := #[.int .i64 t275, .int .i64 0, .int .i64 0, .int .i64 0, .slice none 0 0]) ?_ 1 _ rfl; (with_reducible repeat (first | refine blk_drewN ?_ _ | refine blk_drew ?_ | refine blk_alloc ?_ _)); refine blk_put (cs := #[.int .i64 0, .int .i64 0, .int .i64 0, .int .i64 0, .slice none 0 0]) ?_ 0 _ rfl; (with_reducible repeat (first | refine blk_drewN ?_ _ | refine blk_drew ?_ | refine blk_alloc ?_ _)); exact BK320.out)) : P := h

/-! ### laws_FnMsgSeals: function 4 -/
mutual
def laws_FnMsgSeals.j0 : Nat → List Int → List Int → Bool → Option (Bool)
 | 0, _, _, _ => none
 | k + 1, x0, x1, x19 => if x19 = true then (some true) else ((spec_DrawMsgOk.f k x0).bind fun bt275 => ((spec_DrawSealText.f k x1).bind fun bt283 => ((impl_MsgOk.f bt275.1 bt275.2.1 bt275.2.2.1 bt275.2.2.2.1 bt275.2.2.2.2).bind fun t291 => ((spec_MsgOk.f bt275.1 bt275.2.1 bt275.2.2.1 bt275.2.2.2.1 bt275.2.2.2.2).bind fun t292 => (if (t291 != t292) = true then (laws_FnMsgSeals.j1 k t291 true bt275.1 bt275.2.1 bt275.2.2.1 bt275.2.2.2.1 bt275.2.2.2.2 bt283.1 bt283.2.1 bt283.2.2.1 bt283.2.2.2.1 bt283.2.2.2.2.1 bt283.2.2.2.2.2.1 bt283.2.2.2.2.2.2) else (laws_FnMsgSeals.j1 k t291 (!t291) bt275.1 bt275.2.1 bt275.2.2.1 bt275.2.2.2.1 bt275.2.2.2.2 bt283.1 bt283.2.1 bt283.2.2.1 bt283.2.2.2.1 bt283.2.2.2.2.1 bt283.2.2.2.2.2.1 bt283.2.2.2.2.2.2))))))
def laws_FnMsgSeals.j1 : Nat → Bool → Bool → Int → Int → Int → Int → List (S41) → Int → Int → Int → Int → Int → Int → Int → Option (Bool)
 | 0, _, _, _, _, _, _, _, _, _, _, _, _, _, _ => none
 | k + 1, x7, x33, x283000, x283001, x283002, x283003, x283004, x291000, x291001, x291002, x291003, x291004, x291005, x291006 => if x33 = true then ((spec_MsgOk.f x283000 x283001 x283002 x283003 x283004).bind fun t293 => (some (x7 == t293))) else (laws_FnMsgSeals.l0 k (wrap64 ((x283004.length : Int) - 1)) x283000 x283001 x283002 x283003 x283004 x291000 x291001 x291002 x291003 x291004 x291005 x291006 x283000 x283001 x283002 x283003 (([] : List (S41))))
def laws_FnMsgSeals.l0 : Nat → Int → Int → Int → Int → Int → List (S41) → Int → Int → Int → Int → Int → Int → Int → Int → Int → Int → Int → List (S41) → Option (Bool)
 | 0, _, _, _, _, _, _, _, _, _, _, _, _, _, _, _, _, _, _ => none
 | k + 1, x9, x283000, x283001, x283002, x283003, x283004, x291000, x291001, x291002, x291003, x291004, x291005, x291006, x295000, x295001, x295002, x295003, x295004 => if x9 ≥ 0 then (if 0 ≤ x9 then (if x9 < (x283004.length : Int) then ((some (([(⟨(rd_T41 x283004 x9).f0, (rd_T41 x283004 x9).f1, (rd_T41 x283004 x9).f2, (rd_T41 x283004 x9).f3, (rd_T41 x283004 x9).f4, (rd_T41 x283004 x9).f5, (rd_T41 x283004 x9).f6⟩ : S41)] : List (S41)) : List (S41))).bind fun y299 => (if x295004.length + y299.length < 2513169434916 then (laws_FnMsgSeals.l0 k (wrap64 (x9 - 1)) x283000 x283001 x283002 x283003 x283004 x291000 x291001 x291002 x291003 x291004 x291005 x291006 x295000 x295001 x295002 x295003 (x295004 ++ y299)) else (none))) else (none)) else (none)) else ((some (([] : List (S41)) : List (S41))).bind fun y306 => (if y306.length + x283004.length < 2513169434916 then ((some (y306 ++ x283004 : List (S41))).bind fun y309 => ((some (([(⟨x291000, x291001, x291002, x291003, x291004, x291005, x291006⟩ : S41)] : List (S41)) : List (S41))).bind fun y312 => (if y309.length + y312.length < 2513169434916 then ((impl_MsgOk.f x295000 x295001 x295002 x295003 x295004).bind fun t318 => (if t318 = true then ((impl_MsgOk.f x283000 x283001 x283002 x283003 (y309 ++ y312)).bind fun t319 => (laws_FnMsgSeals.j3 k t319 x283000 x283001 x283002 x283003 x283004 x291000 x291001 x291002 x291003 x291004 x291005 x291006 x295000 x295001 x295002 x295003 x295004)) else (laws_FnMsgSeals.j3 k true x283000 x283001 x283002 x283003 x283004 x291000 x291001 x291002 x291003 x291004 x291005 x291006 x295000 x295001 x295002 x295003 x295004))) else (none)))) else (none)))
def laws_FnMsgSeals.j3 : Nat → Bool → Int → Int → Int → Int → List (S41) → Int → Int → Int → Int → Int → Int → Int → Int → Int → Int → Int → List (S41) → Option (Bool)
 | 0, _, _, _, _, _, _, _, _, _, _, _, _, _, _, _, _, _, _ => none
 | k + 1, x74, x283000, x283001, x283002, x283003, x283004, x291000, x291001, x291002, x291003, x291004, x291005, x291006, x295000, x295001, x295002, x295003, x295004 => if x74 = true then (some false) else (if (x283004.length : Int) = 0 then (some true) else (if 1 ≤ (x283004.length : Int) then (if 0 < (x295004.length : Int) then ((impl_MsgOk.f x283000 x283001 x283002 x283003 (x283004.drop 1)).bind fun t326 => (if t326 = true then (some false) else ((impl_MsgOk.f x295000 x295001 x295002 x295003 (x295004.set (0 : Int).toNat (⟨x291000, x291001, x291002, x291003, x291004, x291005, x291006⟩ : S41))).bind fun t327 => ((impl_SealOk.f x291000 x291001 x291002 x291003 x291004 x291005 x291006).bind fun t328 => (some (t327 == t328)))))) else (none)) else (none)))
end
def laws_FnMsgSeals.f (k : Nat) (l0 : List Int) (l1 : List Int) : Option (Bool) := if (l0.length : Int) > 1048576 then (laws_FnMsgSeals.j0 k l0 l1 true) else (laws_FnMsgSeals.j0 k l0 l1 (decide ((l1.length : Int) > 1048576)))
theorem laws_FnMsgSeals.mono_l : ∀ k, (∀ y0 y1 y2, LeO (laws_FnMsgSeals.j0 k y0 y1 y2) (laws_FnMsgSeals.j0 (k + 1) y0 y1 y2)) ∧ (∀ y0 y1 y2 y3 y4 y5 y6 y7 y8 y9 y10 y11 y12 y13, LeO (laws_FnMsgSeals.j1 k y0 y1 y2 y3 y4 y5 y6 y7 y8 y9 y10 y11 y12 y13) (laws_FnMsgSeals.j1 (k + 1) y0 y1 y2 y3 y4 y5 y6 y7 y8 y9 y10 y11 y12 y13)) ∧ (∀ y0 y1 y2 y3 y4 y5 y6 y7 y8 y9 y10 y11 y12 y13 y14 y15 y16 y17, LeO (laws_FnMsgSeals.l0 k y0 y1 y2 y3 y4 y5 y6 y7 y8 y9 y10 y11 y12 y13 y14 y15 y16 y17) (laws_FnMsgSeals.l0 (k + 1) y0 y1 y2 y3 y4 y5 y6 y7 y8 y9 y10 y11 y12 y13 y14 y15 y16 y17)) ∧ (∀ y0 y1 y2 y3 y4 y5 y6 y7 y8 y9 y10 y11 y12 y13 y14 y15 y16 y17, LeO (laws_FnMsgSeals.j3 k y0 y1 y2 y3 y4 y5 y6 y7 y8 y9 y10 y11 y12 y13 y14 y15 y16 y17) (laws_FnMsgSeals.j3 (k + 1) y0 y1 y2 y3 y4 y5 y6 y7 y8 y9 y10 y11 y12 y13 y14 y15 y16 y17))
 | 0 => ⟨fun _ _ _ r h => by simp [laws_FnMsgSeals.j0] at h, fun _ _ _ _ _ _ _ _ _ _ _ _ _ _ r h => by simp [laws_FnMsgSeals.j1] at h, fun _ _ _ _ _ _ _ _ _ _ _ _ _ _ _ _ _ _ r h => by simp [laws_FnMsgSeals.l0] at h, fun _ _ _ _ _ _ _ _ _ _ _ _ _ _ _ _ _ _ r h => by simp [laws_FnMsgSeals.j3] at h⟩
 | k + 1 => by
  obtain ⟨ih0, ih1, ih2, ih3⟩ := laws_FnMsgSeals.mono_l k
  refine ⟨?_, ?_, ?_, ?_⟩
  ·intro y0 y1 y2
   unfold laws_FnMsgSeals.j0
   repeat' first
   | (with_reducible exact ih0 _ _ _)
   | (with_reducible exact ih1 _ _ _ _ _ _ _ _ _ _ _ _ _ _)
   | (with_reducible exact ih2 _ _ _ _ _ _ _ _ _ _ _ _ _ _ _ _ _ _)
   | (with_reducible exact ih3 _ _ _ _ _ _ _ _ _ _ _ _ _ _ _ _ _ _)
   | (with_reducible exact spec_DrawMsgOk.mono _ _)
   | (with_reducible exact spec_DrawSealText.mono _ _)
   | (with_reducible exact LeO.refl _)
   | (with_reducible exact LeO.none _)
   | (with_reducible refine LeO.ite ?_ ?_)
   | (with_reducible refine LeO.bind ?_ (fun _ => ?_))
   | exact ih0 _ _ _
   | exact ih1 _ _ _ _ _ _ _ _ _ _ _ _ _ _
   | exact ih2 _ _ _ _ _ _ _ _ _ _ _ _ _ _ _ _ _ _
   | exact ih3 _ _ _ _ _ _ _ _ _ _ _ _ _ _ _ _ _ _
   | exact spec_DrawMsgOk.mono _ _
   | exact spec_DrawSealText.mono _ _
   | exact LeO.none _
   | refine LeO.ite ?_ ?_
   | refine LeO.bind ?_ (fun _ => ?_)
  ·intro y0 y1 y2 y3 y4 y5 y6 y7 y8 y9 y10 y11 y12 y13
   unfold laws_FnMsgSeals.j1
   repeat' first
   | (with_reducible exact ih0 _ _ _)
   | (with_reducible exact ih1 _ _ _ _ _ _ _ _ _ _ _ _ _ _)
   | (with_reducible exact ih2 _ _ _ _ _ _ _ _ _ _ _ _ _ _ _ _ _ _)
   | (with_reducible exact ih3 _ _ _ _ _ _ _ _ _ _ _ _ _ _ _ _ _ _)
   | (with_reducible exact spec_DrawMsgOk.mono _ _)
   | (with_reducible exact spec_DrawSealText.mono _ _)
   | (with_reducible exact LeO.refl _)
   | (with_reducible exact LeO.none _)
   | (with_reducible refine LeO.ite ?_ ?_)
   | (with_reducible refine LeO.bind ?_ (fun _ => ?_))
   | exact ih0 _ _ _
   | exact ih1 _ _ _ _ _ _ _ _ _ _ _ _ _ _
   | exact ih2 _ _ _ _ _ _ _ _ _ _ _ _ _ _ _ _ _ _
   | exact ih3 _ _ _ _ _ _ _ _ _ _ _ _ _ _ _ _ _ _
   | exact spec_DrawMsgOk.mono _ _
   | exact spec_DrawSealText.mono _ _
   | exact LeO.none _
   | refine LeO.ite ?_ ?_
   | refine LeO.bind ?_ (fun _ => ?_)
  ·intro y0 y1 y2 y3 y4 y5 y6 y7 y8 y9 y10 y11 y12 y13 y14 y15 y16 y17
   unfold laws_FnMsgSeals.l0
   repeat' first
   | (with_reducible exact ih0 _ _ _)
   | (with_reducible exact ih1 _ _ _ _ _ _ _ _ _ _ _ _ _ _)
   | (with_reducible exact ih2 _ _ _ _ _ _ _ _ _ _ _ _ _ _ _ _ _ _)
   | (with_reducible exact ih3 _ _ _ _ _ _ _ _ _ _ _ _ _ _ _ _ _ _)
   | (with_reducible exact spec_DrawMsgOk.mono _ _)
   | (with_reducible exact spec_DrawSealText.mono _ _)
   | (with_reducible exact LeO.refl _)
   | (with_reducible exact LeO.none _)
   | (with_reducible refine LeO.ite ?_ ?_)
   | (with_reducible refine LeO.bind ?_ (fun _ => ?_))
   | exact ih0 _ _ _
   | exact ih1 _ _ _ _ _ _ _ _ _ _ _ _ _ _
   | exact ih2 _ _ _ _ _ _ _ _ _ _ _ _ _ _ _ _ _ _
   | exact ih3 _ _ _ _ _ _ _ _ _ _ _ _ _ _ _ _ _ _
   | exact spec_DrawMsgOk.mono _ _
   | exact spec_DrawSealText.mono _ _
   | exact LeO.none _
   | refine LeO.ite ?_ ?_
   | refine LeO.bind ?_ (fun _ => ?_)
  ·intro y0 y1 y2 y3 y4 y5 y6 y7 y8 y9 y10 y11 y12 y13 y14 y15 y16 y17
   unfold laws_FnMsgSeals.j3
   repeat' first
   | (with_reducible exact ih0 _ _ _)
   | (with_reducible exact ih1 _ _ _ _ _ _ _ _ _ _ _ _ _ _)
   | (with_reducible exact ih2 _ _ _ _ _ _ _ _ _ _ _ _ _ _ _ _ _ _)
   | (with_reducible exact ih3 _ _ _ _ _ _ _ _ _ _ _ _ _ _ _ _ _ _)
   | (with_reducible exact spec_DrawMsgOk.mono _ _)
   | (with_reducible exact spec_DrawSealText.mono _ _)
   | (with_reducible exact LeO.refl _)
   | (with_reducible exact LeO.none _)
   | (with_reducible refine LeO.ite ?_ ?_)
   | (with_reducible refine LeO.bind ?_ (fun _ => ?_))
   | exact ih0 _ _ _
   | exact ih1 _ _ _ _ _ _ _ _ _ _ _ _ _ _
   | exact ih2 _ _ _ _ _ _ _ _ _ _ _ _ _ _ _ _ _ _
   | exact ih3 _ _ _ _ _ _ _ _ _ _ _ _ _ _ _ _ _ _
   | exact spec_DrawMsgOk.mono _ _
   | exact spec_DrawSealText.mono _ _
   | exact LeO.none _
   | refine LeO.ite ?_ ?_
   | refine LeO.bind ?_ (fun _ => ?_)
theorem laws_FnMsgSeals.mono : ∀ a0 a1 k, LeO (laws_FnMsgSeals.f k a0 a1) (laws_FnMsgSeals.f (k + 1) a0 a1) := by
 intro a0 a1 k
 obtain ⟨ih0, ih1, ih2, ih3⟩ := laws_FnMsgSeals.mono_l k
 unfold laws_FnMsgSeals.f
 repeat' first
   | (with_reducible exact ih0 _ _ _)
   | (with_reducible exact ih1 _ _ _ _ _ _ _ _ _ _ _ _ _ _)
   | (with_reducible exact ih2 _ _ _ _ _ _ _ _ _ _ _ _ _ _ _ _ _ _)
   | (with_reducible exact ih3 _ _ _ _ _ _ _ _ _ _ _ _ _ _ _ _ _ _)
   | (with_reducible exact spec_DrawMsgOk.mono _ _)
   | (with_reducible exact spec_DrawSealText.mono _ _)
   | (with_reducible exact LeO.refl _)
   | (with_reducible exact LeO.none _)
   | (with_reducible refine LeO.ite ?_ ?_)
   | (with_reducible refine LeO.bind ?_ (fun _ => ?_))
   | exact ih0 _ _ _
   | exact ih1 _ _ _ _ _ _ _ _ _ _ _ _ _ _
   | exact ih2 _ _ _ _ _ _ _ _ _ _ _ _ _ _ _ _ _ _
   | exact ih3 _ _ _ _ _ _ _ _ _ _ _ _ _ _ _ _ _ _
   | exact spec_DrawMsgOk.mono _ _
   | exact spec_DrawSealText.mono _ _
   | exact LeO.none _
   | refine LeO.ite ?_ ?_
   | refine LeO.bind ?_ (fun _ => ?_)
def laws_FnMsgSeals.T13 : Bool × List (List Nat × List Nat) := (true, [([], []), ([0], [0]), ([], []), ([2], [2]), ([], []), ([3, 4], [3, 4]), ([5], [5]), ([6], [6]), ([1, 7], [1, 7]), ([0, 1, 2, 3, 4, 5, 6, 7, 8], []), ([9, 8, 8, 0, 1, 2, 3, 4, 5, 6, 7, 8], [8, 9])])
def laws_FnMsgSeals.B13 : List Nat := [0, 1, 0, 4, 0, 28, 60, 124, 255, 511, 1023]
theorem laws_FnMsgSeals.tab13 : rtab .any (opsOf Try.f4 13) = laws_FnMsgSeals.T13 := by kernel_rfl
theorem laws_FnMsgSeals.bits13 : waitsOk laws_FnMsgSeals.T13.2 laws_FnMsgSeals.B13 = true := by kernel_rfl
def laws_FnMsgSeals.T15 : Bool × List (List Nat × List Nat) := (true, [([], []), ([], []), ([1], [1]), ([0, 2], [0, 2]), ([], []), ([4], [4]), ([3, 5, 3], [3, 5]), ([0, 1, 2, 3, 4, 5, 6], []), ([7, 6, 6, 0, 1, 2, 3, 4, 5, 6], [6, 7])])
def laws_FnMsgSeals.B15 : List Nat := [0, 0, 2, 7, 0, 16, 63, 127, 255]
theorem laws_FnMsgSeals.tab15 : rtab .any (opsOf Try.f4 15) = laws_FnMsgSeals.T15 := by kernel_rfl
theorem laws_FnMsgSeals.bits15 : waitsOk laws_FnMsgSeals.T15.2 laws_FnMsgSeals.B15 = true := by kernel_rfl
def laws_FnMsgSeals.T23 : Bool × List (List Nat × List Nat) := (true, [([], []), ([0], [0]), ([1], [1]), ([2, 1], [2]), ([3], [3]), ([4, 3, 3], [3, 4]), ([3], [3]), ([6, 5, 3], [3, 6]), ([5, 7, 3], [3, 5, 7]), ([3, 8], [3, 8]), ([9, 7, 0, 1, 2, 3, 4, 5, 6, 7, 8, 9], [9])])
def laws_FnMsgSeals.B23 : List Nat := [0, 1, 3, 7, 15, 31, 15, 127, 255, 511, 1023]
theorem laws_FnMsgSeals.tab23 : rtab .any (opsOf Try.f4 23) = laws_FnMsgSeals.T23 := by kernel_rfl
theorem laws_FnMsgSeals.bits23 : waitsOk laws_FnMsgSeals.T23.2 laws_FnMsgSeals.B23 = true := by kernel_rfl
set_option maxHeartbeats 8000000 in
set_option maxRecDepth 100000 in
theorem laws_FnMsgSeals.calls (k : Nat) (A0 : Option Addr) (c0 : Nat) (l0 : List Int) (A1 : Option Addr) (c1 : Nat) (l1 : List Int) (r : Bool) (w : World) (hr0 : Kd.C (Kd.int .u8) w A0 l0.length l0) (hc0 : l0.length ≤ c0) (hr1 : Kd.C (Kd.int .u8) w A1 l1.length l1) (hc1 : l1.length ≤ c1) (h : laws_FnMsgSeals.f k l0 l1 = some r) :
  Calls Try.prog 4 #[.slice A0 l0.length c0, .slice A1 l1.length c1] w fun e w' => e = .returned (.bool r) ∧ Below w.heap.size w w' := by
 have hu34 := Try.underlying34
 have hu41 := Try.underlying41
 have HR0 := Aside0.mk hr0
 have HC0 := Aside0.mk hc0
 clear hr0 hc0
 have HR1 := Aside0.mk hr1
 have HC1 := Aside0.mk hc1
 clear hr1 hc1
 have HB := Aside0.mk (Below.refl w.heap.size w)
 have H : (if (l0.length : Int) > 1048576 then (laws_FnMsgSeals.j0 k l0 l1 true) else (laws_FnMsgSeals.j0 k l0 l1 (decide ((l1.length : Int) > 1048576)))) = some r := h
 clear h
 have HC3 := Aside0.mk H
 clear H
 go_enter Try.func4, Try.ntmps4
 go_upto_region 1 with (fail)
 go_cut [19] (fun v19 wc => ∃ (kq : Nat) (x19_2 : Bool), v19 = .bool x19_2 ∧ Aside0 (laws_FnMsgSeals.j0 kq l0 l1 x19_2 = some r) ∧ Aside0 (kq ≤ k) ∧ Aside0 (Below w.heap.size w wc))
 case first =>
  have H := HC3.out
  clear HC3
  by_cases c4 : (l0.length : Int) > 1048576
  ·rw [if_pos c4] at H
   have c4b0 : decide (1048576 < (l0.length : Int)) = true := decide_eq_true c4
   have c4b1 : decide (1048576 < l0.length) = true := decide_eq_true (by omega)
   clear c4
   (first | rw [c4b0] | (simp only [i64_w, i32_w]; rw [c4b0]) | skip)
   have H' := Aside0.mk H
   clear H
   go_wp2
   go_meet
   case rel => exact ⟨_, (true), (by first | rfl | (simp; done) | (simp [*]; done)), H', ⟨by first | omega | exact Nat.le_refl _⟩, ⟨by repeat (first | (with_reducible first | exact HB.out | apply below_alloc | apply pw_below_drewN | apply below_drew1) | exact HB.out)⟩⟩
  ·rw [if_neg c4] at H
   have c4b0 : decide (1048576 < (l0.length : Int)) = false := decide_eq_false c4
   have c4b1 : decide (1048576 < l0.length) = false := decide_eq_false (by omega)
   clear c4
   (first | rw [c4b0] | (simp only [i64_w, i32_w]; rw [c4b0]) | skip)
   have H' := Aside0.mk H
   clear H
   go_wp2
   go_meet
   case rel => exact ⟨_, (decide ((l1.length : Int) > 1048576)), (by first | rfl | (simp; done) | (simp [*]; done)), H', ⟨by first | omega | exact Nat.le_refl _⟩, ⟨by repeat (first | (with_reducible first | exact HB.out | apply below_alloc | apply pw_below_drewN | apply below_drew1) | exact HB.out)⟩⟩
 case rest =>
  clear HC3
  try clear c1
  try clear p2
  try clear c4
  try clear c4b0
  try clear c4b1
  obtain ⟨kq, x19_2, rfl, HA, HJ2, HB⟩ := hcut
  cases kq with
  | zero => exact absurd HA.out (by simp [laws_FnMsgSeals.j0])
  | succ kj2 =>
   have H := HA.out
   clear HA
   simp only [laws_FnMsgSeals.j0] at H
   by_cases c5 : x19_2 = true
   ·subst c5
    rw [if_pos rfl] at H
    obtain rfl := Option.some.inj H
    go_wp2
    go_ret
    exact ⟨by first | rfl | (simp [errW_none, errW_some] <;> rfl) | (simp [*, errW_none, errW_some] <;> rfl), by repeat (first | (with_reducible first | exact HB.out | apply below_alloc | apply pw_below_drewN | apply below_drew1) | exact HB.out)⟩
   ·replace c5 := Bool.eq_false_iff.mpr c5
    subst c5
    rw [if_neg (show ¬ (false = true) by decide)] at H
    replace H := Option.bind_eq_some_iff.mp H
    obtain ⟨⟨t275, t276, t277, t278, t279⟩, A60, H⟩ := H
    replace H : ((spec_DrawSealText.f kj2 l1).bind fun bt283 => ((impl_MsgOk.f t275 t276 t277 t278 t279).bind fun t291 => ((spec_MsgOk.f t275 t276 t277 t278 t279).bind fun t292 => (if (t291 != t292) = true then (laws_FnMsgSeals.j1 kj2 t291 true t275 t276 t277 t278 t279 bt283.1 bt283.2.1 bt283.2.2.1 bt283.2.2.2.1 bt283.2.2.2.2.1 bt283.2.2.2.2.2.1 bt283.2.2.2.2.2.2) else (laws_FnMsgSeals.j1 kj2 t291 (!t291) t275 t276 t277 t278 t279 bt283.1 bt283.2.1 bt283.2.2.1 bt283.2.2.2.1 bt283.2.2.2.2.1 bt283.2.2.2.2.2.1 bt283.2.2.2.2.2.2))))) = some r := H
    have A6 := Aside0.mk A60
    clear A60
    replace H := Option.bind_eq_some_iff.mp H
    obtain ⟨⟨t283, t284, t285, t286, t287, t288, t289⟩, A70, H⟩ := H
    replace H : ((impl_MsgOk.f t275 t276 t277 t278 t279).bind fun t291 => ((spec_MsgOk.f t275 t276 t277 t278 t279).bind fun t292 => (if (t291 != t292) = true then (laws_FnMsgSeals.j1 kj2 t291 true t275 t276 t277 t278 t279 t283 t284 t285 t286 t287 t288 t289) else (laws_FnMsgSeals.j1 kj2 t291 (!t291) t275 t276 t277 t278 t279 t283 t284 t285 t286 t287 t288 t289)))) = some r := H
    have A7 := Aside0.mk A70
    clear A70
    replace H := Option.bind_eq_some_iff.mp H
    obtain ⟨t291, A80, H⟩ := H
    replace H : ((spec_MsgOk.f t275 t276 t277 t278 t279).bind fun t292 => (if (t291 != t292) = true then (laws_FnMsgSeals.j1 kj2 t291 true t275 t276 t277 t278 t279 t283 t284 t285 t286 t287 t288 t289) else (laws_FnMsgSeals.j1 kj2 t291 (!t291) t275 t276 t277 t278 t279 t283 t284 t285 t286 t287 t288 t289))) = some r := H
    have A8 := Aside0.mk A80
    clear A80
    have HC9 := Aside0.mk H
    clear H
    go_upto_region 6 with (first | ((with_reducible refine gate_callee (f := 18) rfl ?_); refine goesL_ (some 21) rfl rfl Try.func18 (by kernel_rfl) rfl #[.slice A0 l0.length c0] rfl z17x47 ?_; (with_reducible refine (spec_DrawMsgOk.calls kj2 _ _ l0 t275 t276 t277 t278 t279 _ ?side1 ?side2 A6.out).mono ?_); (case side1 => repeat (first | exact (Kd.C_below HR0.out HB.out) | (with_reducible refine Kd.C_alloc ?_ _) | (with_reducible refine Kd.C_drewN ?_ _) | (with_reducible refine Kd.C_drew ?_))); (case side2 => exact HC0.out); rintro e w10 ⟨v280, rfl, ho0, hb⟩; refine ⟨_, rfl, ?_⟩; have n0_ := Aside0.mk (Kd.R_lower ho0 (below_size z17x48)); have n1_ := Aside0.mk (below_step z17x48 hb); clear HB; have HO281 := n0_; have HB := n1_; clear n0_ n1_; (try clear hb); (try clear hb2); (try clear hk); (try clear hi); (try clear ho0)) | ((with_reducible refine gate_dst (N := 5) rfl ?_); refine box_event ?hg (N := 5) ?hd (cs := #[.int .i64 0, .int .i64 0, .int .i64 0, .int .i64 0, .slice none 0 0]) (t := 34) ?hr ?_; (case hd => rfl); (case hg => rfl); (case hr => first | (go_simp; done) | (go_simp; rfl)); intro gb282 hg w11 hbox hb; have n0_ := Aside0.mk (Kd.R_below z17x57 hb); have n1_ := Aside0.mk (below_step z17x48 hb); have n2_ := Aside0.mk (hbox); have n3_ := Aside0.mk ((by rw [hg]; exact (below_size z17x48) : w.heap.size ≤ gb282)); have n4_ := Aside0.mk ((by rw [hg]; exact (below_size z17x48) : w.heap.size ≤ gb282)); clear HO281; clear HB; have HO281 := n0_; have HB := n1_; have BK282 := n2_; have GW282 := n3_; have GE282 := n4_; clear n0_ n1_ n2_ n3_ n4_; clear hb hbox hg; have hcz12_0 : w11.cell? ⟨gb282, 0, none⟩ = some (.int .i64 0) := (blk_cell BK282.out 0).trans rfl; have hcz12_1 : w11.cell? ⟨gb282, 1, none⟩ = some (.int .i64 0) := (blk_cell BK282.out 1).trans rfl; have hcz12_2 : w11.cell? ⟨gb282, 2, none⟩ = some (.int .i64 0) := (blk_cell BK282.out 2).trans rfl; have hcz12_3 : w11.cell? ⟨gb282, 3, none⟩ = some (.int .i64 0) := (blk_cell BK282.out 3).trans rfl; have hcz12_4 : w11.cell? ⟨gb282, 4, none⟩ = some (.slice none 0 0) := (blk_cell BK282.out 4).trans rfl; have hfz12_0 := blk_frozen BK282.out 0; have hfz12_1 := blk_frozen BK282.out 1; have hfz12_2 := blk_frozen BK282.out 2; have hfz12_3 := blk_frozen BK282.out 3; have hfz12_4 := blk_frozen BK282.out 4; obtain ⟨Ao13, co13, eo13⟩ := Kd.R_slice HO281.out; subst eo13) | ((with_reducible refine gate_callee (f := 19) rfl ?_); refine goesL_ (some 23) rfl rfl Try.func19 (by kernel_rfl) rfl #[.slice A1 l1.length c1] rfl z17x47 ?_; (with_reducible refine (spec_DrawSealText.calls kj2 _ _ l1 t283 t284 t285 t286 t287 t288 t289 _ ?side1 ?side2 A7.out).mono ?_); (case side1 => exact Kd.C_below HR1.out z17x45); (case side2 => exact HC1.out); rintro e w14 ⟨rfl, hb⟩; refine ⟨_, rfl, ?_⟩; have n0_ := Aside0.mk (Kd.R_below (by (with_reducible repeat (first | apply Kd.R_alloc | apply Kd.R_drewN | apply Kd.R_drew)); exact (Kd.R_mono (Kd.R_far (p := ⟨gb282, 4, none⟩) (Kd.R_far (p := ⟨gb282, 3, none⟩) (Kd.R_far (p := ⟨gb282, 2, none⟩) (Kd.R_far (p := ⟨gb282, 1, none⟩) (Kd.R_far (p := ⟨gb282, 0, none⟩) (Kd.R_types HO281.out BK282.out (by decide)) (fun _ hk => hk.2) (.int .i64 t275)) (fun _ hk => hk.2) (.int .i64 t276)) (fun _ hk => hk.2) (.int .i64 t277)) (fun _ hk => hk.2) (.int .i64 t278)) (fun _ hk => hk.2) (.slice Ao13 t279.length co13)) (fun _ h_ => h_.1))) hb); have n1_ := Aside0.mk (blk_below (g := gb282) (o := .cells #[.int .i64 t275, .int .i64 t276, .int .i64 t277, .int .i64 t278, .slice Ao13 t279.length co13] 34 (0, 0)) (by (with_reducible repeat (first | refine blk_drewN ?_ _ | refine blk_drew ?_ | refine blk_alloc ?_ _)); refine blk_put (cs := #[.int .i64 t275, .int .i64 t276, .int .i64 t277, .int .i64 t278, .slice none 0 0]) ?_ 4 _ rfl; (with_reducible repeat (first | refine blk_drewN ?_ _ | refine blk_drew ?_ | refine blk_alloc ?_ _)); refine blk_put (cs := #[.int .i64 t275, .int .i64 t276, .int .i64 t277, .int .i64 0, .slice none 0 0]) ?_ 3 _ rfl; (with_reducible repeat (first | refine blk_drewN ?_ _ | refine blk_drew ?_ | refine blk_alloc ?_ _)); refine blk_put (cs := #[.int .i64 t275, .int .i64 t276, .int .i64 0, .int .i64 0, .slice none 0 0]) ?_ 2 _ rfl; (with_reducible repeat (first | refine blk_drewN ?_ _ | refine blk_drew ?_ | refine blk_alloc ?_ _)); refine blk_put (cs := #[.int .i64 t275, .int .i64 0, .int .i64 0, .int .i64 0, .slice none 0 0]) ?_ 1 _ rfl; (with_reducible repeat (first | refine blk_drewN ?_ _ | refine blk_drew ?_ | refine blk_alloc ?_ _)); refine blk_put (cs := #[.int .i64 0, .int .i64 0, .int .i64 0, .int .i64 0, .slice none 0 0]) ?_ 0 _ rfl; (with_reducible repeat (first | refine blk_drewN ?_ _ | refine blk_drew ?_ | refine blk_alloc ?_ _)); exact BK282.out) hb); have n2_ := Aside0.mk (below_step z17x45 hb); clear HO281; clear BK282; clear HB; have HO281 := n0_; have BK282 := n1_; have HB := n2_; clear n0_ n1_ n2_; (try clear hb); (try clear hb2); (try clear hk); (try clear hi)) | ((with_reducible refine gate_dst (N := 6) rfl ?_); refine box_event ?hg (N := 6) ?hd (cs := #[.int .i64 0, .int .i64 0, .int .i64 0, .int .i64 0, .int .i64 0, .int .i64 0, .int .i64 0]) (t := 41) ?hr ?_; (case hd => rfl); (case hg => rfl); (case hr => first | (go_simp; done) | (go_simp; rfl)); intro gb290 hg w15 hbox hb; have n0_ := Aside0.mk (Kd.R_below (Kd.R_elderB z17x57 gb290 (Nat.le_of_eq hg.symm)) hb); have n1_ := Aside0.mk (blk_below (g := gb282) (o := .cells #[.int .i64 t275, .int .i64 t276, .int .i64 t277, .int .i64 t278, .slice Ao13 t279.length co13] 34 (0, 0)) z17x49 hb); have n2_ := Aside0.mk (below_step z17x45 hb); have n3_ := Aside0.mk (hbox); have n4_ := Aside0.mk ((z17x40 : w.heap.size ≤ gb290)); have n5_ := Aside0.mk ((z17x40 : w.heap.size ≤ gb290)); have n6_ := Aside0.mk ((z17x20 : gb282 ≠ gb290)); have n7_ := Aside0.mk ((z17x18 : gb290 ≠ gb282)); clear HO281; clear BK282; clear HB; have HO281 := n0_; have BK282 := n1_; have HB := n2_; have BK290 := n3_; have GW290 := n4_; have GE290 := n5_; have NB282_290 := n6_; have NB290_282 := n7_; clear n0_ n1_ n2_ n3_ n4_ n5_ n6_ n7_; clear hb hbox hg; have hnb16 := NB290_282.out; have hnc16 := NB282_290.out; have hcz17_0 : w15.cell? ⟨gb290, 0, none⟩ = some (.int .i64 0) := (blk_cell BK290.out 0).trans rfl; have hcz17_1 : w15.cell? ⟨gb290, 1, none⟩ = some (.int .i64 0) := (blk_cell BK290.out 1).trans rfl; have hcz17_2 : w15.cell? ⟨gb290, 2, none⟩ = some (.int .i64 0) := (blk_cell BK290.out 2).trans rfl; have hcz17_3 : w15.cell? ⟨gb290, 3, none⟩ = some (.int .i64 0) := (blk_cell BK290.out 3).trans rfl; have hcz17_4 : w15.cell? ⟨gb290, 4, none⟩ = some (.int .i64 0) := (blk_cell BK290.out 4).trans rfl; have hcz17_5 : w15.cell? ⟨gb290, 5, none⟩ = some (.int .i64 0) := (blk_cell BK290.out 5).trans rfl; have hcz17_6 : w15.cell? ⟨gb290, 6, none⟩ = some (.int .i64 0) := (blk_cell BK290.out 6).trans rfl; have hfz17_0 := blk_frozen BK290.out 0; have hfz17_1 := blk_frozen BK290.out 1; have hfz17_2 := blk_frozen BK290.out 2; have hfz17_3 := blk_frozen BK290.out 3; have hfz17_4 := blk_frozen BK290.out 4; have hfz17_5 := blk_frozen BK290.out 5; have hfz17_6 := blk_frozen BK290.out 6; have hcz18_0 : w15.cell? ⟨gb282, 0, none⟩ = some (.int .i64 t275) := (blk_cell BK282.out 0).trans rfl; have hcz18_1 : w15.cell? ⟨gb282, 1, none⟩ = some (.int .i64 t276) := (blk_cell BK282.out 1).trans rfl; have hcz18_2 : w15.cell? ⟨gb282, 2, none⟩ = some (.int .i64 t277) := (blk_cell BK282.out 2).trans rfl; have hcz18_3 : w15.cell? ⟨gb282, 3, none⟩ = some (.int .i64 t278) := (blk_cell BK282.out 3).trans rfl; have hcz18_4 : w15.cell? ⟨gb282, 4, none⟩ = some (.slice Ao13 t279.length co13) := (blk_cell BK282.out 4).trans rfl; have hfz18_0 := blk_frozen BK282.out 0; have hfz18_1 := blk_frozen BK282.out 1; have hfz18_2 := blk_frozen BK282.out 2; have hfz18_3 := blk_frozen BK282.out 3; have hfz18_4 := blk_frozen BK282.out 4) | ((with_reducible refine gate_callee (f := 20) rfl ?_); refine goesL_ (some 25) rfl rfl Try.func20 (by kernel_rfl) rfl #[.agg #[.int .i64 t275, .int .i64 t276, .int .i64 t277, .int .i64 t278, .slice Ao13 t279.length co13]] rfl z17x47 ?_; (with_reducible refine (impl_MsgOk.calls t275 t276 t277 t278 _ _ t279 t291 _ ?side1 ?side2 A8.out).mono ?_); (case side1 => refine (Kd.R_reads' (e := 41) (base := w.heap.size) (ok := fun k_ => (True ∧ k_ ≠ gb290)) (n := t279.length) (c := co13) ?_).2.2; exact z17x6); (case side2 => exact (Kd.R_reads' HO281.out).2.1); rintro e w19 ⟨rfl, hb⟩; refine ⟨_, rfl, ?_⟩; have n0_ := Aside0.mk (Kd.R_below z17x6 hb); have n1_ := Aside0.mk (blk_below (g := gb282) (o := .cells #[.int .i64 t275, .int .i64 t276, .int .i64 t277, .int .i64 t278, .slice Ao13 t279.length co13] 34 (0, 0)) (by (with_reducible repeat (first | refine blk_drewN ?_ _ | refine blk_drew ?_ | refine blk_alloc ?_ _)); refine blk_far ?_ NB282_290.out _; (with_reducible repeat (first | refine blk_drewN ?_ _ | refine blk_drew ?_ | refine blk_alloc ?_ _)); refine blk_far ?_ NB282_290.out _; (with_reducible repeat (first | refine blk_drewN ?_ _ | refine blk_drew ?_ | refine blk_alloc ?_ _)); refine blk_far ?_ NB282_290.out _; (with_reducible repeat (first | refine blk_drewN ?_ _ | refine blk_drew ?_ | refine blk_alloc ?_ _)); refine blk_far ?_ NB282_290.out _; (with_reducible repeat (first | refine blk_drewN ?_ _ | refine blk_drew ?_ | refine blk_alloc ?_ _)); refine blk_far ?_ NB282_290.out _; (with_reducible repeat (first | refine blk_drewN ?_ _ | refine blk_drew ?_ | refine blk_alloc ?_ _)); refine blk_far ?_ NB282_290.out _; (with_reducible repeat (first | refine blk_drewN ?_ _ | refine blk_drew ?_ | refine blk_alloc ?_ _)); refine blk_far ?_ NB282_290.out _; (with_reducible repeat (first | refine blk_drewN ?_ _ | refine blk_drew ?_ | refine blk_alloc ?_ _)); exact BK282.out) hb); have n2_ := Aside0.mk (blk_below (g := gb290) (o := .cells #[.int .i64 t283, .int .i64 t284, .int .i64 t285, .int .i64 t286, .int .i64 t287, .int .i64 t288, .int .i64 t289] 41 (0, 0)) (by (with_reducible repeat (first | refine blk_drewN ?_ _ | refine blk_drew ?_ | refine blk_alloc ?_ _)); refine blk_put (cs := #[.int .i64 t283, .int .i64 t284, .int .i64 t285, .int .i64 t286, .int .i64 t287, .int .i64 t288, .int .i64 0]) ?_ 6 _ rfl; (with_reducible repeat (first | refine blk_drewN ?_ _ | refine blk_drew ?_ | refine blk_alloc ?_ _)); refine blk_put (cs := #[.int .i64 t283, .int .i64 t284, .int .i64 t285, .int .i64 t286, .int .i64 t287, .int .i64 0, .int .i64 0]) ?_ 5 _ rfl; (with_reducible repeat (first | refine blk_drewN ?_ _ | refine blk_drew ?_ | refine blk_alloc ?_ _)); refine blk_put (cs := #[.int .i64 t283, .int .i64 t284, .int .i64 t285, .int .i64 t286, .int .i64 0, .int .i64 0, .int .i64 0]) ?_ 4 _ rfl; (with_reducible repeat (first | refine blk_drewN ?_ _ | refine blk_drew ?_ | refine blk_alloc ?_ _)); refine blk_put (cs := #[.int .i64 t283, .int .i64 t284, .int .i64 t285, .int .i64 0, .int .i64 0, .int .i64 0, .int .i64 0]) ?_ 3 _ rfl; (with_reducible repeat (first | refine blk_drewN ?_ _ | refine blk_drew ?_ | refine blk_alloc ?_ _)); refine blk_put (cs := #[.int .i64 t283, .int .i64 t284, .int .i64 0, .int .i64 0, .int .i64 0, .int .i64 0, .int .i64 0]) ?_ 2 _ rfl; (with_reducible repeat (first | refine blk_drewN ?_ _ | refine blk_drew ?_ | refine blk_alloc ?_ _)); refine blk_put (cs := #[.int .i64 t283, .int .i64 0, .int .i64 0, .int .i64 0, .int .i64 0, .int .i64 0, .int .i64 0]) ?_ 1 _ rfl; (with_reducible repeat (first | refine blk_drewN ?_ _ | refine blk_drew ?_ | refine blk_alloc ?_ _)); refine blk_put (cs := #[.int .i64 0, .int .i64 0, .int .i64 0, .int .i64 0, .int .i64 0, .int .i64 0, .int .i64 0]) ?_ 0 _ rfl; (with_reducible repeat (first | refine blk_drewN ?_ _ | refine blk_drew ?_ | refine blk_alloc ?_ _)); exact BK290.out) hb); have n3_ := Aside0.mk (below_step z17x39 hb); clear HO281; clear BK282; clear BK290; clear HB; have HO281 := n0_; have BK282 := n1_; have BK290 := n2_; have HB := n3_; clear n0_ n1_ n2_ n3_; (try clear hb); (try clear hb2); (try clear hk); (try clear hi)))
    (try simp only [Act.put, List.setIfInBounds_toArray, List.set_cons_zero, List.set_cons_succ])
    go_cut [33] (fun v33 wc => ∃ (kq : Nat) (x33_8 : Bool), v33 = .bool x33_8 ∧ Aside0 (laws_FnMsgSeals.j1 kq t291 x33_8 t275 t276 t277 t278 t279 t283 t284 t285 t286 t287 t288 t289 = some r) ∧ Aside0 (kq ≤ kj2) ∧ Aside0 (Kd.R k41 41 wc w.heap.size (fun k_ => k_ ≠ gb290) (.slice Ao13 t279.length co13) t279) ∧ Aside0 (wc.heap[gb282]? = some (.cells #[.int .i64 t275, .int .i64 t276, .int .i64 t277, .int .i64 t278, (.slice Ao13 t279.length co13)] 34 (0, 0))) ∧ Aside0 (wc.heap[gb290]? = some (.cells #[.int .i64 t283, .int .i64 t284, .int .i64 t285, .int .i64 t286, .int .i64 t287, .int .i64 t288, .int .i64 t289] 41 (0, 0))) ∧ Aside0 (Below w.heap.size w wc))
    case first =>
     have H := HC9.out
     clear HC9
     replace H := Option.bind_eq_some_iff.mp H
     obtain ⟨t292, A200, H⟩ := H
     replace H : (if (t291 != t292) = true then (laws_FnMsgSeals.j1 kj2 t291 true t275 t276 t277 t278 t279 t283 t284 t285 t286 t287 t288 t289) else (laws_FnMsgSeals.j1 kj2 t291 (!t291) t275 t276 t277 t278 t279 t283 t284 t285 t286 t287 t288 t289)) = some r := H
     have A20 := Aside0.mk A200
     clear A200
     by_cases c21 : (t291 != t292) = true
     ·rw [if_pos c21] at H
      have c21b0 : (t291 != t292) = true := c21
      (try (have c21b1 : decide (t291 = t292) = false := by simpa using c21))
      (try (have c21b2 : (t291 == t292) = false := by simpa using c21))
      (try (have c21b3 : ¬ (t291 = t292) := by simpa using c21))
      clear c21
      (first | rw [c21b0] | (simp only [i64_w, i32_w]; rw [c21b0]) | skip)
      have H' := Aside0.mk H
      clear H
      have hnb22 := NB282_290.out
      have hnc22 := NB290_282.out
      have hcz23_0 : w19.cell? ⟨gb282, 0, none⟩ = some (.int .i64 t275) := (blk_cell BK282.out 0).trans rfl
      have hcz23_1 : w19.cell? ⟨gb282, 1, none⟩ = some (.int .i64 t276) := (blk_cell BK282.out 1).trans rfl
      have hcz23_2 : w19.cell? ⟨gb282, 2, none⟩ = some (.int .i64 t277) := (blk_cell BK282.out 2).trans rfl
      have hcz23_3 : w19.cell? ⟨gb282, 3, none⟩ = some (.int .i64 t278) := (blk_cell BK282.out 3).trans rfl
      have hcz23_4 : w19.cell? ⟨gb282, 4, none⟩ = some (.slice Ao13 t279.length co13) := (blk_cell BK282.out 4).trans rfl
      have hfz23_0 := blk_frozen BK282.out 0
      have hfz23_1 := blk_frozen BK282.out 1
      have hfz23_2 := blk_frozen BK282.out 2
      have hfz23_3 := blk_frozen BK282.out 3
      have hfz23_4 := blk_frozen BK282.out 4
      go_wp2_with (first | ((with_reducible refine gate_callee (f := 21) rfl ?_); refine goesL_ (some 28) rfl rfl Try.func21 (by kernel_rfl) rfl #[.agg #[.int .i64 t275, .int .i64 t276, .int .i64 t277, .int .i64 t278, .slice Ao13 t279.length co13]] rfl z17x47 ?_; (with_reducible refine (spec_MsgOk.calls t275 t276 t277 t278 _ _ t279 t292 _ ?side1 ?side2 A20.out).mono ?_); (case side1 => repeat (first | exact (Kd.R_reads' HO281.out).2.2 | (with_reducible refine Kd.C_alloc ?_ _) | (with_reducible refine Kd.C_drewN ?_ _) | (with_reducible refine Kd.C_drew ?_))); (case side2 => exact (Kd.R_reads' HO281.out).2.1); rintro e w24 ⟨rfl, hb⟩; refine ⟨_, rfl, ?_⟩; have n0_ := Aside0.mk (Kd.R_below z17x57 hb); have n1_ := Aside0.mk (blk_below (g := gb282) (o := .cells #[.int .i64 t275, .int .i64 t276, .int .i64 t277, .int .i64 t278, .slice Ao13 t279.length co13] 34 (0, 0)) z17x49 hb); have n2_ := Aside0.mk (blk_below (g := gb290) (o := .cells #[.int .i64 t283, .int .i64 t284, .int .i64 t285, .int .i64 t286, .int .i64 t287, .int .i64 t288, .int .i64 t289] 41 (0, 0)) z17x50 hb); have n3_ := Aside0.mk (below_step z17x39 hb); clear HO281; clear BK282; clear BK290; clear HB; have HO281 := n0_; have BK282 := n1_; have BK290 := n2_; have HB := n3_; clear n0_ n1_ n2_ n3_; (try clear hb); (try clear hb2); (try clear hk); (try clear hi)))
      go_meet
      case rel => exact ⟨_, (true), (by first | rfl | (simp; done) | (simp [*]; done)), H', ⟨by have := HJ2.out; first | omega | exact Nat.le_refl _⟩, ⟨by (with_reducible repeat (first | apply Kd.R_alloc | apply Kd.R_drewN | apply Kd.R_drew)); exact Kd.R_mono HO281.out (fun _ hk => hk.2)⟩, ⟨by (with_reducible repeat (first | refine blk_drewN ?_ _ | refine blk_drew ?_ | refine blk_alloc ?_ _)); exact BK282.out⟩, ⟨by (with_reducible repeat (first | refine blk_drewN ?_ _ | refine blk_drew ?_ | refine blk_alloc ?_ _)); exact BK290.out⟩, ⟨by repeat (first | (with_reducible first | exact HB.out | apply below_alloc | apply pw_below_drewN | apply below_drew1 | refine below_set ?_ GE282.out | refine below_set ?_ GE290.out) | exact HB.out)⟩⟩
     ·rw [if_neg c21] at H
      have c21b0 : (t291 != t292) = false := by simpa using c21
      (try (have c21b1 : decide (t291 = t292) = true := by simpa using c21))
      (try (have c21b2 : (t291 == t292) = true := by simpa using c21))
      clear c21
      (first | rw [c21b0] | (simp only [i64_w, i32_w]; rw [c21b0]) | skip)
      have H' := Aside0.mk H
      clear H
      have hnb25 := NB282_290.out
      have hnc25 := NB290_282.out
      have hcz26_0 : w19.cell? ⟨gb282, 0, none⟩ = some (.int .i64 t275) := (blk_cell BK282.out 0).trans rfl
      have hcz26_1 : w19.cell? ⟨gb282, 1, none⟩ = some (.int .i64 t276) := (blk_cell BK282.out 1).trans rfl
      have hcz26_2 : w19.cell? ⟨gb282, 2, none⟩ = some (.int .i64 t277) := (blk_cell BK282.out 2).trans rfl
      have hcz26_3 : w19.cell? ⟨gb282, 3, none⟩ = some (.int .i64 t278) := (blk_cell BK282.out 3).trans rfl
      have hcz26_4 : w19.cell? ⟨gb282, 4, none⟩ = some (.slice Ao13 t279.length co13) := (blk_cell BK282.out 4).trans rfl
      have hfz26_0 := blk_frozen BK282.out 0
      have hfz26_1 := blk_frozen BK282.out 1
      have hfz26_2 := blk_frozen BK282.out 2
      have hfz26_3 := blk_frozen BK282.out 3
      have hfz26_4 := blk_frozen BK282.out 4
      go_wp2_with (first | ((with_reducible refine gate_callee (f := 21) rfl ?_); refine goesL_ (some 28) rfl rfl Try.func21 (by kernel_rfl) rfl #[.agg #[.int .i64 t275, .int .i64 t276, .int .i64 t277, .int .i64 t278, .slice Ao13 t279.length co13]] rfl z17x47 ?_; (with_reducible refine (spec_MsgOk.calls t275 t276 t277 t278 _ _ t279 t292 _ ?side1 ?side2 A20.out).mono ?_); (case side1 => repeat (first | exact (Kd.R_reads' HO281.out).2.2 | (with_reducible refine Kd.C_alloc ?_ _) | (with_reducible refine Kd.C_drewN ?_ _) | (with_reducible refine Kd.C_drew ?_))); (case side2 => exact (Kd.R_reads' HO281.out).2.1); rintro e w27 ⟨rfl, hb⟩; refine ⟨_, rfl, ?_⟩; have n0_ := Aside0.mk (Kd.R_below z17x57 hb); have n1_ := Aside0.mk (blk_below (g := gb282) (o := .cells #[.int .i64 t275, .int .i64 t276, .int .i64 t277, .int .i64 t278, .slice Ao13 t279.length co13] 34 (0, 0)) z17x49 hb); have n2_ := Aside0.mk (blk_below (g := gb290) (o := .cells #[.int .i64 t283, .int .i64 t284, .int .i64 t285, .int .i64 t286, .int .i64 t287, .int .i64 t288, .int .i64 t289] 41 (0, 0)) z17x50 hb); have n3_ := Aside0.mk (below_step z17x39 hb); clear HO281; clear BK282; clear BK290; clear HB; have HO281 := n0_; have BK282 := n1_; have BK290 := n2_; have HB := n3_; clear n0_ n1_ n2_ n3_; (try clear hb); (try clear hb2); (try clear hk); (try clear hi)))
      go_meet
      case rel => exact ⟨_, (!t291), (by first | rfl | (simp; done) | (simp [*]; done)), H', ⟨by have := HJ2.out; first | omega | exact Nat.le_refl _⟩, ⟨by (with_reducible repeat (first | apply Kd.R_alloc | apply Kd.R_drewN | apply Kd.R_drew)); exact Kd.R_mono HO281.out (fun _ hk => hk.2)⟩, ⟨by (with_reducible repeat (first | refine blk_drewN ?_ _ | refine blk_drew ?_ | refine blk_alloc ?_ _)); exact BK282.out⟩, ⟨by (with_reducible repeat (first | refine blk_drewN ?_ _ | refine blk_drew ?_ | refine blk_alloc ?_ _)); exact BK290.out⟩, ⟨by repeat (first | (with_reducible first | exact HB.out | apply below_alloc | apply pw_below_drewN | apply below_drew1 | refine below_set ?_ GE282.out | refine below_set ?_ GE290.out) | exact HB.out)⟩⟩
    case rest =>
     clear HC9
     try clear c1
     try clear c2
     try clear p2
     try clear c4
     try clear c4b0
     try clear c4b1
     try clear c5
     try clear c16
     try clear c18
     try clear c19
     try clear c20
     try clear c21
     try clear c21b0
     try clear c21b1
     try clear c21b2
     try clear c22
     try clear c25
     try clear hcz12_0
     try clear hcz12_1
     try clear hcz12_2
     try clear hcz12_3
     try clear hcz12_4
     try clear hcz17_0
     try clear hcz17_1
     try clear hcz17_2
     try clear hcz17_3
     try clear hcz17_4
     try clear hcz17_5
     try clear hcz17_6
     try clear hcz18_0
     try clear hcz18_1
     try clear hcz18_2
     try clear hcz18_3
     try clear hcz18_4
     try clear hcz23_0
     try clear hcz23_1
     try clear hcz23_2
     try clear hcz23_3
     try clear hcz23_4
     try clear hcz26_0
     try clear hcz26_1
     try clear hcz26_2
     try clear hcz26_3
     try clear hcz26_4
     try clear hfz12_0
     try clear hfz12_1
     try clear hfz12_2
     try clear hfz12_3
     try clear hfz12_4
     try clear hfz17_0
     try clear hfz17_1
     try clear hfz17_2
     try clear hfz17_3
     try clear hfz17_4
     try clear hfz17_5
     try clear hfz17_6
     try clear hfz18_0
     try clear hfz18_1
     try clear hfz18_2
     try clear hfz18_3
     try clear hfz18_4
     try clear hfz23_0
     try clear hfz23_1
     try clear hfz23_2
     try clear hfz23_3
     try clear hfz23_4
     try clear hfz26_0
     try clear hfz26_1
     try clear hfz26_2
     try clear hfz26_3
     try clear hfz26_4
     try clear p2
     obtain ⟨kq, x33_8, rfl, HA, HJ8, HO_283004, BK282, BK290, HB⟩ := hcut
     cases kq with
     | zero => exact absurd HA.out (by simp [laws_FnMsgSeals.j1])
     | succ kj8 =>
      have H := HA.out
      clear HA
      simp only [laws_FnMsgSeals.j1] at H
      by_cases c28 : x33_8 = true
      ·subst c28
       rw [if_pos rfl] at H
       replace H := Option.bind_eq_some_iff.mp H
       obtain ⟨t293, A290, H⟩ := H
       replace H : (some (t291 == t293)) = some r := H
       have A29 := Aside0.mk A290
       clear A290
       obtain rfl := Option.some.inj H
       have hnb30 := NB282_290.out
       have hnc30 := NB290_282.out
       have hcz31_0 : wc.cell? ⟨gb282, 0, none⟩ = some (.int .i64 t275) := (blk_cell BK282.out 0).trans rfl
       have hcz31_1 : wc.cell? ⟨gb282, 1, none⟩ = some (.int .i64 t276) := (blk_cell BK282.out 1).trans rfl
       have hcz31_2 : wc.cell? ⟨gb282, 2, none⟩ = some (.int .i64 t277) := (blk_cell BK282.out 2).trans rfl
       have hcz31_3 : wc.cell? ⟨gb282, 3, none⟩ = some (.int .i64 t278) := (blk_cell BK282.out 3).trans rfl
       have hcz31_4 : wc.cell? ⟨gb282, 4, none⟩ = some (.slice Ao13 t279.length co13) := (blk_cell BK282.out 4).trans rfl
       have hfz31_0 := blk_frozen BK282.out 0
       have hfz31_1 := blk_frozen BK282.out 1
       have hfz31_2 := blk_frozen BK282.out 2
       have hfz31_3 := blk_frozen BK282.out 3
       have hfz31_4 := blk_frozen BK282.out 4
       go_wp2_with (first | ((with_reducible refine gate_callee (f := 21) rfl ?_); refine goesL_ (some 36) rfl rfl Try.func21 (by kernel_rfl) rfl #[.agg #[.int .i64 t275, .int .i64 t276, .int .i64 t277, .int .i64 t278, .slice Ao13 t279.length co13]] rfl z17x47 ?_; (with_reducible refine (spec_MsgOk.calls t275 t276 t277 t278 _ _ t279 t293 _ ?side1 ?side2 A29.out).mono ?_); (case side1 => repeat (first | exact (Kd.R_reads' HO_283004.out).2.2 | (with_reducible refine Kd.C_alloc ?_ _) | (with_reducible refine Kd.C_drewN ?_ _) | (with_reducible refine Kd.C_drew ?_))); (case side2 => exact (Kd.R_reads' HO_283004.out).2.1); rintro e w32 ⟨rfl, hb⟩; refine ⟨_, rfl, ?_⟩; have n0_ := Aside0.mk (Kd.R_below z17x54 hb); have n1_ := Aside0.mk (blk_below (g := gb282) (o := .cells #[.int .i64 t275, .int .i64 t276, .int .i64 t277, .int .i64 t278, .slice Ao13 t279.length co13] 34 (0, 0)) z17x49 hb); have n2_ := Aside0.mk (blk_below (g := gb290) (o := .cells #[.int .i64 t283, .int .i64 t284, .int .i64 t285, .int .i64 t286, .int .i64 t287, .int .i64 t288, .int .i64 t289] 41 (0, 0)) z17x50 hb); have n3_ := Aside0.mk (below_step z17x39 hb); clear HO_283004; clear BK282; clear BK290; clear HB; have HO_283004 := n0_; have BK282 := n1_; have BK290 := n2_; have HB := n3_; clear n0_ n1_ n2_ n3_; (try clear hb); (try clear hb2); (try clear hk); (try clear hi)))
       go_ret
       exact ⟨by first | rfl | (simp [errW_none, errW_some] <;> rfl) | (simp [*, errW_none, errW_some] <;> rfl), by repeat (first | (with_reducible first | exact HB.out | apply below_alloc | apply pw_below_drewN | apply below_drew1 | refine below_set ?_ GE282.out | refine below_set ?_ GE290.out) | exact HB.out)⟩
      ·replace c28 := Bool.eq_false_iff.mpr c28
       subst c28
       rw [if_neg (show ¬ (false = true) by decide)] at H
       obtain ⟨y295, hy295⟩ : ∃ y_ : List (S41), y_ = (([] : List (S41))) := ⟨_, rfl⟩
       replace H : (laws_FnMsgSeals.l0 kj8 (wrap64 ((t279.length : Int) - 1)) t275 t276 t277 t278 t279 t283 t284 t285 t286 t287 t288 t289 t275 t276 t277 t278 y295) = some r := by first | (rw [hy295]; with_reducible exact H) | (have H2_ := (Option.bind_some _ _).symm.trans H; rw [hy295]; with_reducible exact H2_) | (have H2_ := (Option.bind_some _ _).symm.trans H; with_reducible exact H2_) | with_reducible exact H | (rw [hy295]; exact H) | exact H
       have Ny295 := Aside0.mk hy295
       clear hy295
       have H' := Aside0.mk H
       clear H
       have hnb33 := NB282_290.out
       have hnc33 := NB290_282.out
       have hcz34_0 : wc.cell? ⟨gb282, 0, none⟩ = some (.int .i64 t275) := (blk_cell BK282.out 0).trans rfl
       have hcz34_1 : wc.cell? ⟨gb282, 1, none⟩ = some (.int .i64 t276) := (blk_cell BK282.out 1).trans rfl
       have hcz34_2 : wc.cell? ⟨gb282, 2, none⟩ = some (.int .i64 t277) := (blk_cell BK282.out 2).trans rfl
       have hcz34_3 : wc.cell? ⟨gb282, 3, none⟩ = some (.int .i64 t278) := (blk_cell BK282.out 3).trans rfl
       have hcz34_4 : wc.cell? ⟨gb282, 4, none⟩ = some (.slice Ao13 t279.length co13) := (blk_cell BK282.out 4).trans rfl
       have hfz34_0 := blk_frozen BK282.out 0
       have hfz34_1 := blk_frozen BK282.out 1
       have hfz34_2 := blk_frozen BK282.out 2
       have hfz34_3 := blk_frozen BK282.out 3
       have hfz34_4 := blk_frozen BK282.out 4
       go_wp2_with (first | ((with_reducible refine gate_dst (N := 8) rfl ?_); refine box_event ?hg (N := 8) ?hd (cs := #[.int .i64 0, .int .i64 0, .int .i64 0, .int .i64 0, .slice none 0 0]) (t := 34) ?hr ?_; (case hd => rfl); (case hg => rfl); (case hr => first | (go_simp; done) | (go_simp; rfl)); intro gb294 hg w35 hbox hb; have n0_ := Aside0.mk (Kd.R_below z17x54 hb); have n1_ := Aside0.mk (blk_below (g := gb282) (o := .cells #[.int .i64 t275, .int .i64 t276, .int .i64 t277, .int .i64 t278, .slice Ao13 t279.length co13] 34 (0, 0)) z17x49 hb); have n2_ := Aside0.mk (blk_below (g := gb290) (o := .cells #[.int .i64 t283, .int .i64 t284, .int .i64 t285, .int .i64 t286, .int .i64 t287, .int .i64 t288, .int .i64 t289] 41 (0, 0)) z17x50 hb); have n3_ := Aside0.mk (below_step z17x39 hb); have n4_ := Aside0.mk (hbox); have n5_ := Aside0.mk ((z17x38 : w.heap.size ≤ gb294)); have n6_ := Aside0.mk ((z17x38 : w.heap.size ≤ gb294)); have n7_ := Aside0.mk ((z17x20 : gb282 ≠ gb294)); have n8_ := Aside0.mk ((z17x18 : gb294 ≠ gb282)); have n9_ := Aside0.mk ((z17x15 : gb290 ≠ gb294)); have n10_ := Aside0.mk ((z17x14 : gb294 ≠ gb290)); clear HO_283004; clear BK282; clear BK290; clear HB; have HO_283004 := n0_; have BK282 := n1_; have BK290 := n2_; have HB := n3_; have BK294 := n4_; have GW294 := n5_; have GE294 := n6_; have NB282_294 := n7_; have NB294_282 := n8_; have NB290_294 := n9_; have NB294_290 := n10_; clear n0_ n1_ n2_ n3_ n4_ n5_ n6_ n7_ n8_ n9_ n10_; clear hb hbox hg; have hnb36 := NB294_282.out; have hnc36 := NB282_294.out; have hnb37 := NB294_290.out; have hnc37 := NB290_294.out; have hcz38_0 : w35.cell? ⟨gb294, 0, none⟩ = some (.int .i64 0) := (blk_cell BK294.out 0).trans rfl; have hcz38_1 : w35.cell? ⟨gb294, 1, none⟩ = some (.int .i64 0) := (blk_cell BK294.out 1).trans rfl; have hcz38_2 : w35.cell? ⟨gb294, 2, none⟩ = some (.int .i64 0) := (blk_cell BK294.out 2).trans rfl; have hcz38_3 : w35.cell? ⟨gb294, 3, none⟩ = some (.int .i64 0) := (blk_cell BK294.out 3).trans rfl; have hcz38_4 : w35.cell? ⟨gb294, 4, none⟩ = some (.slice none 0 0) := (blk_cell BK294.out 4).trans rfl; have hfz38_0 := blk_frozen BK294.out 0; have hfz38_1 := blk_frozen BK294.out 1; have hfz38_2 := blk_frozen BK294.out 2; have hfz38_3 := blk_frozen BK294.out 3; have hfz38_4 := blk_frozen BK294.out 4) | ((with_reducible refine gate_dst (N := 39) rfl ?_); refine Kd.R_lit k41 _ 41 ?hg (N := 39) ?hd (xs := ([] : List (S41))) (inner := []) (ok := fun _ => True) (okp := fun _ => True) ?hr ?hp (fun _ hk => hk) trivial (Below.refl _ _) (Nat.le_refl _) (by simp) ?_; (case hd => rfl); (case hg => rfl); (case hr => first | (go_simp; done) | (go_simp; rfl)); (case hp => exact (Reps.none _ _)); intro v296 w39 ho40 hb hg_ hnew_; clear hg_ hnew_; (first | rw [← Ny295.out] at ho40 | (simp only [Int.reduceToNat] at ho40; rw [← Ny295.out] at ho40)); have n0_ := Aside0.mk (Kd.R_elder' z17x10 (Kd.R_base ho40) hb); have n1_ := Aside0.mk (Kd.R_lower (Kd.R_newB (Kd.R_new' ho40 (Kd.R_lt z17x10)) (g := gb290) (o := .cells #[.int .i64 t283, .int .i64 t284, .int .i64 t285, .int .i64 t286, .int .i64 t287, .int .i64 t288, .int .i64 t289] 41 (0, 0)) z17x5) (below_size z17x37)); have n2_ := Aside0.mk (blk_below (g := gb282) (o := .cells #[.int .i64 t275, .int .i64 t276, .int .i64 t277, .int .i64 t278, .slice Ao13 t279.length co13] 34 (0, 0)) (by (with_reducible repeat (first | refine blk_drewN ?_ _ | refine blk_drew ?_ | refine blk_alloc ?_ _)); refine blk_far ?_ NB282_294.out _; (with_reducible repeat (first | refine blk_drewN ?_ _ | refine blk_drew ?_ | refine blk_alloc ?_ _)); refine blk_far ?_ NB282_294.out _; (with_reducible repeat (first | refine blk_drewN ?_ _ | refine blk_drew ?_ | refine blk_alloc ?_ _)); refine blk_far ?_ NB282_294.out _; (with_reducible repeat (first | refine blk_drewN ?_ _ | refine blk_drew ?_ | refine blk_alloc ?_ _)); refine blk_far ?_ NB282_294.out _; (with_reducible repeat (first | refine blk_drewN ?_ _ | refine blk_drew ?_ | refine blk_alloc ?_ _)); refine blk_far ?_ NB282_294.out _; (with_reducible repeat (first | refine blk_drewN ?_ _ | refine blk_drew ?_ | refine blk_alloc ?_ _)); exact BK282.out) hb); have n3_ := Aside0.mk (blk_below (g := gb290) (o := .cells #[.int .i64 t283, .int .i64 t284, .int .i64 t285, .int .i64 t286, .int .i64 t287, .int .i64 t288, .int .i64 t289] 41 (0, 0)) z17x5 hb); have n4_ := Aside0.mk (blk_below (g := gb294) (o := .cells #[.int .i64 t275, .int .i64 t276, .int .i64 t277, .int .i64 t278, .slice Ao13 t279.length co13] 34 (0, 0)) (by (with_reducible repeat (first | refine blk_drewN ?_ _ | refine blk_drew ?_ | refine blk_alloc ?_ _)); refine blk_put (cs := #[.int .i64 t275, .int .i64 t276, .int .i64 t277, .int .i64 t278, .slice none 0 0]) ?_ 4 _ rfl; (with_reducible repeat (first | refine blk_drewN ?_ _ | refine blk_drew ?_ | refine blk_alloc ?_ _)); refine blk_put (cs := #[.int .i64 t275, .int .i64 t276, .int .i64 t277, .int .i64 0, .slice none 0 0]) ?_ 3 _ rfl; (with_reducible repeat (first | refine blk_drewN ?_ _ | refine blk_drew ?_ | refine blk_alloc ?_ _)); refine blk_put (cs := #[.int .i64 t275, .int .i64 t276, .int .i64 0, .int .i64 0, .slice none 0 0]) ?_ 2 _ rfl; (with_reducible repeat (first | refine blk_drewN ?_ _ | refine blk_drew ?_ | refine blk_alloc ?_ _)); refine blk_put (cs := #[.int .i64 t275, .int .i64 0, .int .i64 0, .int .i64 0, .slice none 0 0]) ?_ 1 _ rfl; (with_reducible repeat (first | refine blk_drewN ?_ _ | refine blk_drew ?_ | refine blk_alloc ?_ _)); refine blk_put (cs := #[.int .i64 0, .int .i64 0, .int .i64 0, .int .i64 0, .slice none 0 0]) ?_ 0 _ rfl; (with_reducible repeat (first | refine blk_drewN ?_ _ | refine blk_drew ?_ | refine blk_alloc ?_ _)); exact BK294.out) hb); have n5_ := Aside0.mk (below_step z17x37 hb); clear HO_283004; clear BK282; clear BK290; clear BK294; clear HB; have HO_283004 := n0_; have HO297 := n1_; have BK282 := n2_; have BK290 := n3_; have BK294 := n4_; have HB := n5_; clear n0_ n1_ n2_ n3_ n4_ n5_; clear hb ho40; obtain ⟨Ao41, co41, eo41⟩ := Kd.R_slice HO297.out; subst eo41; have hcz42_0 : w39.cell? ⟨gb294, 0, none⟩ = some (.int .i64 t275) := (blk_cell BK294.out 0).trans rfl; have hcz42_1 : w39.cell? ⟨gb294, 1, none⟩ = some (.int .i64 t276) := (blk_cell BK294.out 1).trans rfl; have hcz42_2 : w39.cell? ⟨gb294, 2, none⟩ = some (.int .i64 t277) := (blk_cell BK294.out 2).trans rfl; have hcz42_3 : w39.cell? ⟨gb294, 3, none⟩ = some (.int .i64 t278) := (blk_cell BK294.out 3).trans rfl; have hcz42_4 : w39.cell? ⟨gb294, 4, none⟩ = some (.slice Ao13 t279.length co13) := (blk_cell BK294.out 4).trans rfl; have hfz42_0 := blk_frozen BK294.out 0; have hfz42_1 := blk_frozen BK294.out 1; have hfz42_2 := blk_frozen BK294.out 2; have hfz42_3 := blk_frozen BK294.out 3; have hfz42_4 := blk_frozen BK294.out 4; have hcz43_0 : w39.cell? ⟨gb282, 0, none⟩ = some (.int .i64 t275) := (blk_cell BK282.out 0).trans rfl; have hcz43_1 : w39.cell? ⟨gb282, 1, none⟩ = some (.int .i64 t276) := (blk_cell BK282.out 1).trans rfl; have hcz43_2 : w39.cell? ⟨gb282, 2, none⟩ = some (.int .i64 t277) := (blk_cell BK282.out 2).trans rfl; have hcz43_3 : w39.cell? ⟨gb282, 3, none⟩ = some (.int .i64 t278) := (blk_cell BK282.out 3).trans rfl; have hcz43_4 : w39.cell? ⟨gb282, 4, none⟩ = some (.slice Ao13 t279.length co13) := (blk_cell BK282.out 4).trans rfl; have hfz43_0 := blk_frozen BK282.out 0; have hfz43_1 := blk_frozen BK282.out 1; have hfz43_2 := blk_frozen BK282.out 2; have hfz43_3 := blk_frozen BK282.out 3; have hfz43_4 := blk_frozen BK282.out 4))
       go_loopg [9] kj8 (fun kq v9 w' => ∃ (x9_3 : Int) (x295004_3 : List (S41)) (u295004 : Value), v9 = .int .i64 x9_3 ∧ Aside0 (laws_FnMsgSeals.l0 kq x9_3 t275 t276 t277 t278 t279 t283 t284 t285 t286 t287 t288 t289 t275 t276 t277 t278 x295004_3 = some r) ∧ Aside0 (kq ≤ kj8) ∧ Aside0 (Kd.R k41 41 w' w.heap.size (fun k_ => some k_ ≠ (u295004 : Value).ownBlock ∧ k_ ≠ gb290) (.slice Ao13 t279.length co13) t279) ∧ Aside0 (Kd.R k41 41 w' w.heap.size (fun k_ => some k_ ≠ ((.slice Ao13 t279.length co13) : Value).ownBlock ∧ k_ ≠ gb290) u295004 x295004_3) ∧ Aside0 (w'.heap[gb282]? = some (.cells #[.int .i64 t275, .int .i64 t276, .int .i64 t277, .int .i64 t278, (.slice Ao13 t279.length co13)] 34 (0, 0))) ∧ Aside0 (w'.heap[gb290]? = some (.cells #[.int .i64 t283, .int .i64 t284, .int .i64 t285, .int .i64 t286, .int .i64 t287, .int .i64 t288, .int .i64 t289] 41 (0, 0))) ∧ Aside0 (w'.heap[gb294]? = some (.cells #[.int .i64 t275, .int .i64 t276, .int .i64 t277, .int .i64 t278, u295004] 34 (0, 0))) ∧ Aside0 (Below w.heap.size w w'))
       case atStart => exact ⟨(wrap64 ((t279.length : Int) - 1)), (y295), (.slice Ao41 y295.length co41), (by first | rfl | (simp; done) | (simp [*]; done)), H', ⟨Nat.le_refl _⟩, ⟨by (with_reducible repeat (first | apply Kd.R_alloc | apply Kd.R_drewN | apply Kd.R_drew)); exact Kd.R_mono (Kd.R_far (p := ⟨gb294, 4, none⟩) (Kd.R_types HO_283004.out BK294.out (by decide)) (fun _ hk => hk.2) (.slice Ao41 y295.length co41)) (fun _ hk => ⟨hk.1.2, hk.1.1⟩)⟩, ⟨by (with_reducible repeat (first | apply Kd.R_alloc | apply Kd.R_drewN | apply Kd.R_drew)); exact Kd.R_mono (Kd.R_far (p := ⟨gb294, 4, none⟩) (Kd.R_types HO297.out BK294.out (by decide)) (fun _ hk => hk.2) (.slice Ao41 y295.length co41)) (fun _ hk => ⟨hk.1.1.2, hk.1.2⟩)⟩, ⟨by (with_reducible repeat (first | refine blk_drewN ?_ _ | refine blk_drew ?_ | refine blk_alloc ?_ _)); refine blk_far ?_ NB282_294.out _; (with_reducible repeat (first | refine blk_drewN ?_ _ | refine blk_drew ?_ | refine blk_alloc ?_ _)); exact BK282.out⟩, ⟨by (with_reducible repeat (first | refine blk_drewN ?_ _ | refine blk_drew ?_ | refine blk_alloc ?_ _)); refine blk_far ?_ NB290_294.out _; (with_reducible repeat (first | refine blk_drewN ?_ _ | refine blk_drew ?_ | refine blk_alloc ?_ _)); exact BK290.out⟩, ⟨by (with_reducible repeat (first | refine blk_drewN ?_ _ | refine blk_drew ?_ | refine blk_alloc ?_ _)); refine blk_put (cs := #[.int .i64 t275, .int .i64 t276, .int .i64 t277, .int .i64 t278, .slice Ao13 t279.length co13]) ?_ 4 _ rfl; (with_reducible repeat (first | refine blk_drewN ?_ _ | refine blk_drew ?_ | refine blk_alloc ?_ _)); exact BK294.out⟩, ⟨by repeat (first | (with_reducible first | exact HB.out | apply below_alloc | apply pw_below_drewN | apply below_drew1 | refine below_set ?_ GE282.out | refine below_set ?_ GE290.out | refine below_set ?_ GE294.out) | exact HB.out)⟩⟩
       case round =>
        try clear BK282
        try clear BK290
        try clear BK294
        try clear HB
        clear H'
        try clear c1
        try clear c2
        try clear p2
        try clear c3
        try clear c4
        try clear c4b0
        try clear c4b1
        try clear c5
        try clear p6
        try clear c16
        try clear c18
        try clear c19
        try clear c20
        try clear c21
        try clear c21b0
        try clear c21b1
        try clear c21b2
        try clear c22
        try clear c25
        try clear c28
        try clear c30
        try clear c33
        try clear c36
        try clear c37
        try clear hcz12_0
        try clear hcz12_1
        try clear hcz12_2
        try clear hcz12_3
        try clear hcz12_4
        try clear hcz17_0
        try clear hcz17_1
        try clear hcz17_2
        try clear hcz17_3
        try clear hcz17_4
        try clear hcz17_5
        try clear hcz17_6
        try clear hcz18_0
        try clear hcz18_1
        try clear hcz18_2
        try clear hcz18_3
        try clear hcz18_4
        try clear hcz23_0
        try clear hcz23_1
        try clear hcz23_2
        try clear hcz23_3
        try clear hcz23_4
        try clear hcz26_0
        try clear hcz26_1
        try clear hcz26_2
        try clear hcz26_3
        try clear hcz26_4
        try clear hcz31_0
        try clear hcz31_1
        try clear hcz31_2
        try clear hcz31_3
        try clear hcz31_4
        try clear hcz34_0
        try clear hcz34_1
        try clear hcz34_2
        try clear hcz34_3
        try clear hcz34_4
        try clear hcz38_0
        try clear hcz38_1
        try clear hcz38_2
        try clear hcz38_3
        try clear hcz38_4
        try clear hcz42_0
        try clear hcz42_1
        try clear hcz42_2
        try clear hcz42_3
        try clear hcz42_4
        try clear hcz43_0
        try clear hcz43_1
        try clear hcz43_2
        try clear hcz43_3
        try clear hcz43_4
        try clear hfz12_0
        try clear hfz12_1
        try clear hfz12_2
        try clear hfz12_3
        try clear hfz12_4
        try clear hfz17_0
        try clear hfz17_1
        try clear hfz17_2
        try clear hfz17_3
        try clear hfz17_4
        try clear hfz17_5
        try clear hfz17_6
        try clear hfz18_0
        try clear hfz18_1
        try clear hfz18_2
        try clear hfz18_3
        try clear hfz18_4
        try clear hfz23_0
        try clear hfz23_1
        try clear hfz23_2
        try clear hfz23_3
        try clear hfz23_4
        try clear hfz26_0
        try clear hfz26_1
        try clear hfz26_2
        try clear hfz26_3
        try clear hfz26_4
        try clear hfz31_0
        try clear hfz31_1
        try clear hfz31_2
        try clear hfz31_3
        try clear hfz31_4
        try clear hfz34_0
        try clear hfz34_1
        try clear hfz34_2
        try clear hfz34_3
        try clear hfz34_4
        try clear hfz38_0
        try clear hfz38_1
        try clear hfz38_2
        try clear hfz38_3
        try clear hfz38_4
        try clear hfz42_0
        try clear hfz42_1
        try clear hfz42_2
        try clear hfz42_3
        try clear hfz42_4
        try clear hfz43_0
        try clear hfz43_1
        try clear hfz43_2
        try clear hfz43_3
        try clear hfz43_4
        try clear p2
        obtain ⟨x9_3, x295004_3, u295004, rfl, HA, HK3, HO_283004, HO_295004, BK282, BK290, BK294, HB⟩ := hrel
        cases gk with
        | zero => exact absurd HA.out (by simp [laws_FnMsgSeals.l0])
        | succ k3 =>
         have H := HA.out
         clear HA
         simp only [laws_FnMsgSeals.l0] at H
         by_cases c44 : x9_3 ≥ 0
         ·rw [if_pos c44] at H
          have c44b0 : decide (0 ≤ x9_3) = true := decide_eq_true c44
          clear c44
          by_cases c45 : 0 ≤ x9_3
          ·rw [if_pos c45] at H
           have c45b0 : decide (0 ≤ x9_3) = true := decide_eq_true c45
           clear c45
           by_cases c46 : x9_3 < (t279.length : Int)
           ·rw [if_pos c46] at H
            have c46b0 : decide (x9_3 < (t279.length : Int)) = true := decide_eq_true c46
            clear c46
            obtain ⟨y299, hy299⟩ : ∃ y_ : List (S41), y_ = (([(⟨(rd_T41 t279 x9_3).f0, (rd_T41 t279 x9_3).f1, (rd_T41 t279 x9_3).f2, (rd_T41 t279 x9_3).f3, (rd_T41 t279 x9_3).f4, (rd_T41 t279 x9_3).f5, (rd_T41 t279 x9_3).f6⟩ : S41)] : List (S41))) := ⟨_, rfl⟩
            replace H : (if x295004_3.length + y299.length < 2513169434916 then (laws_FnMsgSeals.l0 k3 (wrap64 (x9_3 - 1)) t275 t276 t277 t278 t279 t283 t284 t285 t286 t287 t288 t289 t275 t276 t277 t278 (x295004_3 ++ y299)) else (none)) = some r := by first | (rw [hy299]; with_reducible exact H) | (have H2_ := (Option.bind_some _ _).symm.trans H; rw [hy299]; with_reducible exact H2_) | (have H2_ := (Option.bind_some _ _).symm.trans H; with_reducible exact H2_) | with_reducible exact H | (rw [hy299]; exact H) | exact H
            have Ny299 := Aside0.mk hy299
            clear hy299
            by_cases c47 : x295004_3.length + y299.length < 2513169434916
            ·rw [if_pos c47] at H
             have LMc47 := Aside0.mk c47
             clear c47
             obtain ⟨y302, hy302⟩ : ∃ y_ : List (S41), y_ = (x295004_3 ++ y299) := ⟨_, rfl⟩
             replace H : (laws_FnMsgSeals.l0 k3 (wrap64 (x9_3 - 1)) t275 t276 t277 t278 t279 t283 t284 t285 t286 t287 t288 t289 t275 t276 t277 t278 y302) = some r := by first | (rw [hy302]; with_reducible exact H) | (have H2_ := (Option.bind_some _ _).symm.trans H; rw [hy302]; with_reducible exact H2_) | (have H2_ := (Option.bind_some _ _).symm.trans H; with_reducible exact H2_) | with_reducible exact H | (rw [hy302]; exact H) | exact H
             have Ny302 := Aside0.mk hy302
             clear hy302
             have H' := Aside0.mk H
             clear H
             try go_wp2
             have n0_ := Aside0.mk (Kd.R_drew HO_283004.out)
             have n1_ := Aside0.mk (Kd.R_drew HO_295004.out)
             have n2_ := Aside0.mk (blk_drew BK282.out)
             have n3_ := Aside0.mk (blk_drew BK290.out)
             have n4_ := Aside0.mk (blk_drew BK294.out)
             have n5_ := Aside0.mk (below_drew1 HB.out)
             clear HO_283004
             clear HO_295004
             clear BK282
             clear BK290
             clear BK294
             clear HB
             have HO_283004 := n0_
             have HO_295004 := n1_
             have BK282 := n2_
             have BK290 := n3_
             have BK294 := n4_
             have HB := n5_
             clear n0_ n1_ n2_ n3_ n4_ n5_
             have p298 : 0 ≤ (x9_3 : Int) := of_decide_eq_true (by first | (with_reducible assumption) | assumption)
             have q298 : x9_3 < (t279.length : Int) := of_decide_eq_true (by first | (with_reducible assumption) | assumption)
             obtain ⟨ad298, e298, hx298_0, hx298_1, hx298_2, hx298_3, hx298_4, hx298_5, hx298_6⟩ := at_T41 (Kd.R_reads' HO_283004.out).2.2 x9_3 p298 q298
             cases e298
             replace p298 := eq_true p298
             replace q298 := eq_true q298
             refine start_ (n := 11) (S := fun w' => w'.cell? ⟨gb294, 0, none⟩ = some (.int .i64 t275) ∧ w'.cell? ⟨gb294, 1, none⟩ = some (.int .i64 t276) ∧ w'.cell? ⟨gb294, 2, none⟩ = some (.int .i64 t277) ∧ w'.cell? ⟨gb294, 3, none⟩ = some (.int .i64 t278) ∧ w'.cell? ⟨gb294, 4, none⟩ = some (u295004) ∧ w'.cell? ⟨gb282, 0, none⟩ = some (.int .i64 t275) ∧ w'.cell? ⟨gb282, 1, none⟩ = some (.int .i64 t276) ∧ w'.cell? ⟨gb282, 2, none⟩ = some (.int .i64 t277) ∧ w'.cell? ⟨gb282, 3, none⟩ = some (.int .i64 t278) ∧ w'.cell? ⟨gb282, 4, none⟩ = some (.slice (some ad298) t279.length co13) ∧ w'.cell? (ad298.add ((x9_3).toNat * 7)) = some (.int .i64 ((rd_T41 t279 x9_3).f0)) ∧ w'.cell? ⟨(ad298.add ((x9_3).toNat * 7)).block, (ad298.add ((x9_3).toNat * 7)).off + 1, none⟩ = some (.int .i64 ((rd_T41 t279 x9_3).f1)) ∧ w'.cell? ⟨(ad298.add ((x9_3).toNat * 7)).block, (ad298.add ((x9_3).toNat * 7)).off + 2, none⟩ = some (.int .i64 ((rd_T41 t279 x9_3).f2)) ∧ w'.cell? ⟨(ad298.add ((x9_3).toNat * 7)).block, (ad298.add ((x9_3).toNat * 7)).off + 3, none⟩ = some (.int .i64 ((rd_T41 t279 x9_3).f3)) ∧ w'.cell? ⟨(ad298.add ((x9_3).toNat * 7)).block, (ad298.add ((x9_3).toNat * 7)).off + 4, none⟩ = some (.int .i64 ((rd_T41 t279 x9_3).f4)) ∧ w'.cell? ⟨(ad298.add ((x9_3).toNat * 7)).block, (ad298.add ((x9_3).toNat * 7)).off + 5, none⟩ = some (.int .i64 ((rd_T41 t279 x9_3).f5)) ∧ w'.cell? ⟨(ad298.add ((x9_3).toNat * 7)).block, (ad298.add ((x9_3).toNat * 7)).off + 6, none⟩ = some (.int .i64 ((rd_T41 t279 x9_3).f6))) (ds := [8, 10]) #[false, false, false, false, false, false, false, false, false, false, false] (by kernel_rfl) rfl rfl ⟨(blk_cell BK294.out 0).trans rfl, (blk_cell BK294.out 1).trans rfl, (blk_cell BK294.out 2).trans rfl, (blk_cell BK294.out 3).trans rfl, (blk_cell BK294.out 4).trans rfl, (blk_cell BK282.out 0).trans rfl, (blk_cell BK282.out 1).trans rfl, (blk_cell BK282.out 2).trans rfl, (blk_cell BK282.out 3).trans rfl, (blk_cell BK282.out 4).trans rfl, hx298_0, hx298_1, hx298_2, hx298_3, hx298_4, hx298_5, hx298_6⟩ (fun hHeld => ?_); refine with_tabW laws_FnMsgSeals.tab13 laws_FnMsgSeals.bits13 (fun HT_ HW_ => ?_)
             generalize wr.drew = w48 at HO_283004 HO_295004 BK282 BK290 BK294 HB hx298_0 hx298_1 hx298_2 hx298_3 hx298_4 hx298_5 hx298_6 hHeld ⊢
             refine pure_ (i := 0) (N := some 49) (v := ?_) (a' := ?_) #[true, false, false, false, false, false, false, false, false, false, false] rfl rfl (any_of HT_.out (by kernel_rfl)) (fun _ _ _ h => h) (Or.inl ⟨by rfl, ?_⟩) ?_ ?_
             rotate_left
             ·intro w'
              go_simp
              with_reducible rfl
             rotate_left
             ·simp only [Act.put, List.setIfInBounds_toArray, List.set_cons_zero, List.set_cons_succ, i64_w, i32_w]
              rfl
             refine pure_ (i := 2) (N := some 51) (v := ?_) (a' := ?_) #[true, false, true, false, false, false, false, false, false, false, false] rfl rfl (any_of HT_.out (by kernel_rfl)) (fun _ _ _ h => h) (Or.inl ⟨by rfl, ?_⟩) ?_ ?_
             rotate_left
             ·intro w'
              go_simp
              with_reducible rfl
             rotate_left
             ·simp only [Act.put, List.setIfInBounds_toArray, List.set_cons_zero, List.set_cons_succ, i64_w, i32_w]
              rfl
             refine pure_ (i := 4) (N := some 53) (v := ?_) (a' := ?_) #[true, false, true, false, true, false, false, false, false, false, false] rfl rfl (any_of HT_.out (by kernel_rfl)) (fun _ _ _ h => h) (Or.inl ⟨by rfl, ?_⟩) ?_ ?_
             rotate_left
             ·intro w'
              go_simp
              with_reducible rfl
             rotate_left
             ·simp only [Act.put, List.setIfInBounds_toArray, List.set_cons_zero, List.set_cons_succ, i64_w, i32_w]
              rfl
             refine take_ (i := 1) (N := some 50) (v := ?_) (a' := ?_) #[true, true, true, false, true, false, false, false, false, false, false] rfl rfl (take_ofW HT_.out HW_.out (by kernel_rfl)) (fun _ _ _ h => h) (Or.inl ⟨by rfl, ?_⟩) hHeld ?_ ?_
             rotate_left
             ·rintro w' ⟨s0, s1, s2, s3, s4, s5, s6, s7, s8, s9, s10, s11, s12, s13, s14, s15, s16⟩
              go_simp
              with_reducible rfl
             rotate_left
             ·simp only [Act.put, List.setIfInBounds_toArray, List.set_cons_zero, List.set_cons_succ, i64_w, i32_w]
              rfl
             refine take_ (i := 3) (N := some 52) (v := ?_) (a' := ?_) #[true, true, true, true, true, false, false, false, false, false, false] rfl rfl (take_ofW HT_.out HW_.out (by kernel_rfl)) (fun _ _ _ h => h) (Or.inl ⟨by rfl, ?_⟩) hHeld ?_ ?_
             rotate_left
             ·rintro w' ⟨s0, s1, s2, s3, s4, s5, s6, s7, s8, s9, s10, s11, s12, s13, s14, s15, s16⟩
              go_simp
              with_reducible rfl
             rotate_left
             ·simp only [Act.put, List.setIfInBounds_toArray, List.set_cons_zero, List.set_cons_succ, i64_w, i32_w]
              rfl
             refine pure_ (i := 5) (N := some 54) (v := ?_) (a' := ?_) #[true, true, true, true, true, true, false, false, false, false, false] rfl rfl (any_of HT_.out (by kernel_rfl)) (fun _ _ _ h => h) (Or.inl ⟨by rfl, ?_⟩) ?_ ?_
             rotate_left
             ·intro w'
              go_simp
              with_reducible rfl
             rotate_left
             ·simp only [Act.put, List.setIfInBounds_toArray, List.set_cons_zero, List.set_cons_succ, i64_w, i32_w]
              rfl
             refine take_ (i := 6) (N := some 55) (v := ?_) (a' := ?_) #[true, true, true, true, true, true, true, false, false, false, false] rfl rfl (take_ofW HT_.out HW_.out (by kernel_rfl)) (fun _ _ _ h => h) (Or.inl ⟨by rfl, ?_⟩) hHeld ?_ ?_
             rotate_left
             ·rintro w' ⟨s0, s1, s2, s3, s4, s5, s6, s7, s8, s9, s10, s11, s12, s13, s14, s15, s16⟩
              go_simp
              with_reducible rfl
             rotate_left
             ·simp only [Act.put, List.setIfInBounds_toArray, List.set_cons_zero, List.set_cons_succ, i64_w, i32_w]
              rfl
             refine one_ (i := 7) (N := some 56) #[true, true, true, true, true, true, true, true, false, false, false] rfl rfl (one_of HT_.out (by kernel_rfl)) (by decide) (fun K hK => ?_)
             refine Kd.R_lit_step k41 _ 41 ?hg (N := 56) ?hd (xs := ([(⟨(rd_T41 t279 x9_3).f0, (rd_T41 t279 x9_3).f1, (rd_T41 t279 x9_3).f2, (rd_T41 t279 x9_3).f3, (rd_T41 t279 x9_3).f4, (rd_T41 t279 x9_3).f5, (rd_T41 t279 x9_3).f6⟩ : S41)] : List (S41))) (inner := [.int .i64 ((rd_T41 t279 x9_3).f0), .int .i64 ((rd_T41 t279 x9_3).f1), .int .i64 ((rd_T41 t279 x9_3).f2), .int .i64 ((rd_T41 t279 x9_3).f3), .int .i64 ((rd_T41 t279 x9_3).f4), .int .i64 ((rd_T41 t279 x9_3).f5), .int .i64 ((rd_T41 t279 x9_3).f6)]) (ok := fun _ => True) (okp := fun _ => True) ?hr ?hp (fun _ hk => hk) trivial (Below.refl _ _) (Nat.le_refl _) (by simp) ?_; (case hd => rfl); (case hg => rfl); (case hr => first | (go_simp; done) | (go_simp; rfl)); (case hp => exact (Reps.c7 (show Kd.M k41 _ _ _ (⟨(rd_T41 t279 x9_3).f0, (rd_T41 t279 x9_3).f1, (rd_T41 t279 x9_3).f2, (rd_T41 t279 x9_3).f3, (rd_T41 t279 x9_3).f4, (rd_T41 t279 x9_3).f5, (rd_T41 t279 x9_3).f6⟩ : S41) [.int .i64 ((rd_T41 t279 x9_3).f0), .int .i64 ((rd_T41 t279 x9_3).f1), .int .i64 ((rd_T41 t279 x9_3).f2), .int .i64 ((rd_T41 t279 x9_3).f3), .int .i64 ((rd_T41 t279 x9_3).f4), .int .i64 ((rd_T41 t279 x9_3).f5), .int .i64 ((rd_T41 t279 x9_3).f6)] from (k41_mkM _ _ _ (⟨(rd_T41 t279 x9_3).f0, (rd_T41 t279 x9_3).f1, (rd_T41 t279 x9_3).f2, (rd_T41 t279 x9_3).f3, (rd_T41 t279 x9_3).f4, (rd_T41 t279 x9_3).f5, (rd_T41 t279 x9_3).f6⟩ : S41) )) (Reps.none _ _)))
             intro v300 w49 ho50 hb hg_ hnew_
             have HS10_ := (hb.cell (World.block_lt_of_cell? _ _ (hHeld.2.2.2.2.2.2.2.2.2.2.1))).trans (hHeld.2.2.2.2.2.2.2.2.2.2.1)
             have HS11_ := (hb.cell (World.block_lt_of_cell? _ _ (hHeld.2.2.2.2.2.2.2.2.2.2.2.1))).trans (hHeld.2.2.2.2.2.2.2.2.2.2.2.1)
             have HS12_ := (hb.cell (World.block_lt_of_cell? _ _ (hHeld.2.2.2.2.2.2.2.2.2.2.2.2.1))).trans (hHeld.2.2.2.2.2.2.2.2.2.2.2.2.1)
             have HS13_ := (hb.cell (World.block_lt_of_cell? _ _ (hHeld.2.2.2.2.2.2.2.2.2.2.2.2.2.1))).trans (hHeld.2.2.2.2.2.2.2.2.2.2.2.2.2.1)
             have HS14_ := (hb.cell (World.block_lt_of_cell? _ _ (hHeld.2.2.2.2.2.2.2.2.2.2.2.2.2.2.1))).trans (hHeld.2.2.2.2.2.2.2.2.2.2.2.2.2.2.1)
             have HS15_ := (hb.cell (World.block_lt_of_cell? _ _ (hHeld.2.2.2.2.2.2.2.2.2.2.2.2.2.2.2.1))).trans (hHeld.2.2.2.2.2.2.2.2.2.2.2.2.2.2.2.1)
             have HS16_ := (hb.cell (World.block_lt_of_cell? _ _ (hHeld.2.2.2.2.2.2.2.2.2.2.2.2.2.2.2.2))).trans (hHeld.2.2.2.2.2.2.2.2.2.2.2.2.2.2.2.2)
             clear hg_ hnew_
             (first | rw [← Ny299.out] at ho50 | (simp only [Int.reduceToNat] at ho50; rw [← Ny299.out] at ho50))
             have n0_ := Aside0.mk (Kd.R_elder' z17x54 (Kd.R_base ho50) hb)
             have n1_ := Aside0.mk (Kd.R_elder' z17x55 (Kd.R_base ho50) hb)
             have n2_ := Aside0.mk (Kd.R_lower (Kd.R_newB (Kd.R_new' (Kd.R_new' ho50 (Kd.R_lt z17x54)) (Kd.R_lt z17x55)) (g := gb290) (o := .cells #[.int .i64 t283, .int .i64 t284, .int .i64 t285, .int .i64 t286, .int .i64 t287, .int .i64 t288, .int .i64 t289] 41 (0, 0)) z17x50) (below_size z17x37))
             have n3_ := Aside0.mk (blk_below (g := gb282) (o := .cells #[.int .i64 t275, .int .i64 t276, .int .i64 t277, .int .i64 t278, .slice (some ad298) t279.length co13] 34 (0, 0)) z17x49 hb)
             have n4_ := Aside0.mk (blk_below (g := gb290) (o := .cells #[.int .i64 t283, .int .i64 t284, .int .i64 t285, .int .i64 t286, .int .i64 t287, .int .i64 t288, .int .i64 t289] 41 (0, 0)) z17x50 hb)
             have n5_ := Aside0.mk (blk_below (g := gb294) (o := .cells #[.int .i64 t275, .int .i64 t276, .int .i64 t277, .int .i64 t278, u295004] 34 (0, 0)) z17x51 hb)
             have n6_ := Aside0.mk (below_step z17x37 hb)
             clear HO_283004
             clear HO_295004
             clear BK282
             clear BK290
             clear BK294
             clear HB
             have HO_283004 := n0_
             have HO_295004 := n1_
             have HO301 := n2_
             have BK282 := n3_
             have BK290 := n4_
             have BK294 := n5_
             have HB := n6_
             clear n0_ n1_ n2_ n3_ n4_ n5_ n6_
             clear hb ho50
             obtain ⟨Ao52, co52, eo52⟩ := Kd.R_slice HO301.out
             (first | subst eo52 | (injection eo52 with f1_ f2_ f3_; have f4_ := f1_.symm; have f5_ := f3_.symm; clear f1_ f2_ f3_; subst f4_; subst f5_))
             refine hK.out _ _ ⟨(blk_cell BK294.out 0).trans rfl, (blk_cell BK294.out 1).trans rfl, (blk_cell BK294.out 2).trans rfl, (blk_cell BK294.out 3).trans rfl, (blk_cell BK294.out 4).trans rfl, (blk_cell BK282.out 0).trans rfl, (blk_cell BK282.out 1).trans rfl, (blk_cell BK282.out 2).trans rfl, (blk_cell BK282.out 3).trans rfl, (blk_cell BK282.out 4).trans rfl, HS10_, HS11_, HS12_, HS13_, HS14_, HS15_, HS16_⟩ (fun hHeld => ?_)
             clear hK K
             refine norm_ (a' := ?_) ?_ ?_
             rotate_left
             ·show Act.put _ (some 56) _ = _
              simp only [Act.put, List.setIfInBounds_toArray, List.set_cons_zero, List.set_cons_succ, i64_w, i32_w]
              rfl
             refine last_ (i := 8) (N := some 57) #[true, true, true, true, true, true, true, true, true, false, false] rfl rfl (one_of HT_.out (by kernel_rfl)) (by decide) (fun K hK => ?_)
             refine Kd.R_append_rows_step k41 (w0 := w) w.heap.size (by rfl) (.tmp 50) (.tmp 56) 32 41 (.agg #[(.int .i64 0), (.int .i64 0), (.int .i64 0), (.int .i64 0), (.int .i64 0), (.int .i64 0), (.int .i64 0)]) 56 rfl Try.underlying32 info41 rfl (by decide) (by omega) u295004 x295004_3 y299 _ _ _ (fun k_ => some k_ ≠ (.slice (some ad298) t279.length co13 : Value).ownBlock ∧ some k_ ≠ (.slice Ao52 y299.length co52 : Value).ownBlock ∧ k_ ≠ gb290) (fun _ => False) rfl rfl ?aO ?aR (fun _ _ h => h) (fun _ h => h.elim) ?aF ?aB ?aS ?aL ?_
             (case aR => repeat (first | exact (Kd.R_reads' HO301.out).2.2 | (with_reducible refine Kd.C_alloc ?_ _) | (with_reducible refine Kd.C_drewN ?_ _) | (with_reducible refine Kd.C_drew ?_)))
             (case aB => exact z17x37)
             (case aF => exact (fun k_ hk => ⟨Kd.fresh' (Kd.R_lt z17x54) k_ hk, Kd.fresh' (Kd.R_lt (by (with_reducible repeat (first | apply Kd.R_alloc | apply Kd.R_drewN | apply Kd.R_drew)); exact HO301.out)) k_ hk, Kd.freshB (g := gb290) (o := .cells #[.int .i64 t283, .int .i64 t284, .int .i64 t285, .int .i64 t286, .int .i64 t287, .int .i64 t288, .int .i64 t289] 41 (0, 0)) z17x50 k_ hk⟩))
             (case aO => exact (by (with_reducible repeat (first | apply Kd.R_alloc | apply Kd.R_drewN | apply Kd.R_drew)); exact Kd.R_mono HO_295004.out (fun _ hk => ⟨hk.1.1, ⟨hk.2, hk.1.2⟩⟩)))
             (case aS => exact (below_size z17x37))
             (case aL => have := LMc47.out; omega)
             intro v303 w51 ho hb hg hat
             rw [← Ny302.out] at ho
             have n0_ := Aside0.mk (Kd.R_after (ok := (fun k_ => some k_ ≠ (.slice Ao52 y299.length co52 : Value).ownBlock ∧ k_ ≠ gb290)) (by (with_reducible repeat (first | apply Kd.R_alloc | apply Kd.R_drewN | apply Kd.R_drew)); exact Kd.R_mono HO_283004.out (fun _ hk => ⟨⟨hk.2, hk.1.2⟩, hk.1.1⟩)) hg hat)
             have n1_ := Aside0.mk (blk_grown (g := gb282) (o := .cells #[.int .i64 t275, .int .i64 t276, .int .i64 t277, .int .i64 t278, .slice (some ad298) t279.length co13] 34 (0, 0)) z17x49 hg (Kd.R_ne HO_295004.out BK282.out (by decide)))
             have n2_ := Aside0.mk (blk_grown (g := gb290) (o := .cells #[.int .i64 t283, .int .i64 t284, .int .i64 t285, .int .i64 t286, .int .i64 t287, .int .i64 t288, .int .i64 t289] 41 (0, 0)) z17x50 hg (Kd.R_away HO_295004.out (fun _ hk => hk.1.2)))
             have n3_ := Aside0.mk (blk_grown (g := gb294) (o := .cells #[.int .i64 t275, .int .i64 t276, .int .i64 t277, .int .i64 t278, u295004] 34 (0, 0)) z17x51 hg (Kd.R_ne HO_295004.out BK294.out (by decide)))
             have n4_ := Aside0.mk (Kd.R_after (ok := (fun k_ => some k_ ≠ (.slice (some ad298) t279.length co13 : Value).ownBlock ∧ k_ ≠ gb290)) (by (with_reducible repeat (first | apply Kd.R_alloc | apply Kd.R_drewN | apply Kd.R_drew)); exact Kd.R_mono HO301.out (fun _ hk => ⟨⟨hk.1.1.2, hk.2⟩, hk.1.2⟩)) hg hat)
             have n5_ := Aside0.mk (hb)
             have n6_ := Aside0.mk (ho)
             clear HO_283004
             clear BK282
             clear BK290
             clear BK294
             clear HO301
             clear HB
             clear HO_295004
             have HO_283004 := n0_
             have BK282 := n1_
             have BK290 := n2_
             have BK294 := n3_
             have HO301 := n4_
             have HB := n5_
             have HO304 := n6_
             clear n0_ n1_ n2_ n3_ n4_ n5_ n6_
             clear ho hb hg hat
             obtain ⟨Ao53, co53, eo53⟩ := Kd.R_slice HO304.out
             (first | subst eo53 | (injection eo53 with f1_ f2_ f3_; have f4_ := f1_.symm; have f5_ := f3_.symm; clear f1_ f2_ f3_; subst f4_; subst f5_))
             refine hK.out _ _ ?_
             clear hK K
             refine norm_ (a' := ?_) ?_ ?_
             rotate_left
             ·show Act.put _ (some 57) _ = _
              simp only [Act.put, List.setIfInBounds_toArray, List.set_cons_zero, List.set_cons_succ, i64_w, i32_w]
              rfl
             refine pure_ (i := 9) (N := some 58) (v := ?_) (a' := ?_) #[true, true, true, true, true, true, true, true, true, true, false] rfl rfl (any_of HT_.out (by kernel_rfl)) (fun _ _ _ h => h) (Or.inl ⟨by rfl, ?_⟩) ?_ ?_
             rotate_left
             ·intro w'
              go_simp
              with_reducible rfl
             rotate_left
             ·simp only [Act.put, List.setIfInBounds_toArray, List.set_cons_zero, List.set_cons_succ, i64_w, i32_w]
              rfl
             refine last_ (i := 10) (N := none) #[true, true, true, true, true, true, true, true, true, true, true] rfl rfl (one_of HT_.out (by kernel_rfl)) (by decide) (fun K hK => ?_)
             have hs54 : w51.cell? ⟨gb294, 4, none⟩ = some (u295004) := (blk_cell BK294.out 4).trans rfl
             have hfs54 := blk_frozen BK294.out 4
             have hns54_0 := NB282_294.out
             have hns54_1 := NB290_294.out
             have hms54_0 := NB294_282.out
             have hms54_1 := NB294_290.out
             refine skip_ (w1 := ?_) (by rfl) rfl ?_ ?_
             rotate_left
             ·go_simp
              rfl
             refine hK.out _ _ ?_
             clear hK K
             refine done_ (done_of HT_.out (by kernel_rfl)) ?_
             try go_wp2
             go_roundg k3
             case measure => have := HJ2.out; have := HJ8.out; have := HK3.out; omega
             case rel => exact ⟨(wrap64 (x9_3 - 1)), (y302), (.slice Ao53 y302.length co53), (by first | rfl | (simp; done) | (simp [*]; done)), H', ⟨by have := HJ2.out; have := HJ8.out; have := HK3.out; omega⟩, ⟨by (with_reducible repeat (first | apply Kd.R_alloc | apply Kd.R_drewN | apply Kd.R_drew)); exact Kd.R_mono (Kd.R_far (p := ⟨gb294, 4, none⟩) (Kd.R_types HO_283004.out BK294.out (by decide)) (fun _ hk => hk.2) (.slice Ao53 y302.length co53)) (fun _ hk => ⟨hk.1.2, hk.1.1.2⟩)⟩, ⟨by (with_reducible repeat (first | apply Kd.R_alloc | apply Kd.R_drewN | apply Kd.R_drew)); exact Kd.R_mono (Kd.R_far (p := ⟨gb294, 4, none⟩) (Kd.R_types HO304.out BK294.out (by decide)) (fun _ hk => hk.2) (.slice Ao53 y302.length co53)) (fun _ hk => ⟨hk.1.1, hk.1.2.2⟩)⟩, ⟨by (with_reducible repeat (first | refine blk_drewN ?_ _ | refine blk_drew ?_ | refine blk_alloc ?_ _)); refine blk_far ?_ NB282_294.out _; (with_reducible repeat (first | refine blk_drewN ?_ _ | refine blk_drew ?_ | refine blk_alloc ?_ _)); exact BK282.out⟩, ⟨by (with_reducible repeat (first | refine blk_drewN ?_ _ | refine blk_drew ?_ | refine blk_alloc ?_ _)); refine blk_far ?_ NB290_294.out _; (with_reducible repeat (first | refine blk_drewN ?_ _ | refine blk_drew ?_ | refine blk_alloc ?_ _)); exact BK290.out⟩, ⟨by (with_reducible repeat (first | refine blk_drewN ?_ _ | refine blk_drew ?_ | refine blk_alloc ?_ _)); refine blk_put (cs := #[.int .i64 t275, .int .i64 t276, .int .i64 t277, .int .i64 t278, u295004]) ?_ 4 _ rfl; (with_reducible repeat (first | refine blk_drewN ?_ _ | refine blk_drew ?_ | refine blk_alloc ?_ _)); exact BK294.out⟩, ⟨by repeat (first | (with_reducible first | exact HB.out | apply below_alloc | apply pw_below_drewN | apply below_drew1 | refine below_set ?_ GE282.out | refine below_set ?_ GE290.out | refine below_set ?_ GE294.out) | exact HB.out)⟩⟩
            ·rw [if_neg c47] at H
             exact absurd H (by simp)
           ·rw [if_neg c46] at H
            exact absurd H (by simp)
          ·rw [if_neg c45] at H
           exact absurd H (by simp)
         ·rw [if_neg c44] at H
          have c44b0 : decide (0 ≤ x9_3) = false := decide_eq_false c44
          clear c44
          obtain ⟨y306, hy306⟩ : ∃ y_ : List (S41), y_ = (([] : List (S41))) := ⟨_, rfl⟩
          replace H : (if y306.length + t279.length < 2513169434916 then ((some (y306 ++ t279 : List (S41))).bind fun y309 => ((some (([(⟨t283, t284, t285, t286, t287, t288, t289⟩ : S41)] : List (S41)) : List (S41))).bind fun y312 => (if y309.length + y312.length < 2513169434916 then ((impl_MsgOk.f t275 t276 t277 t278 x295004_3).bind fun t318 => (if t318 = true then ((impl_MsgOk.f t275 t276 t277 t278 (y309 ++ y312)).bind fun t319 => (laws_FnMsgSeals.j3 k3 t319 t275 t276 t277 t278 t279 t283 t284 t285 t286 t287 t288 t289 t275 t276 t277 t278 x295004_3)) else (laws_FnMsgSeals.j3 k3 true t275 t276 t277 t278 t279 t283 t284 t285 t286 t287 t288 t289 t275 t276 t277 t278 x295004_3))) else (none)))) else (none)) = some r := by first | (rw [hy306]; with_reducible exact H) | (have H2_ := (Option.bind_some _ _).symm.trans H; rw [hy306]; with_reducible exact H2_) | (have H2_ := (Option.bind_some _ _).symm.trans H; with_reducible exact H2_) | with_reducible exact H | (rw [hy306]; exact H) | exact H
          have Ny306 := Aside0.mk hy306
          clear hy306
          by_cases c55 : y306.length + t279.length < 2513169434916
          ·rw [if_pos c55] at H
           have LMc55 := Aside0.mk c55
           clear c55
           obtain ⟨y309, hy309⟩ : ∃ y_ : List (S41), y_ = (y306 ++ t279) := ⟨_, rfl⟩
           replace H : ((some (([(⟨t283, t284, t285, t286, t287, t288, t289⟩ : S41)] : List (S41)) : List (S41))).bind fun y312 => (if y309.length + y312.length < 2513169434916 then ((impl_MsgOk.f t275 t276 t277 t278 x295004_3).bind fun t318 => (if t318 = true then ((impl_MsgOk.f t275 t276 t277 t278 (y309 ++ y312)).bind fun t319 => (laws_FnMsgSeals.j3 k3 t319 t275 t276 t277 t278 t279 t283 t284 t285 t286 t287 t288 t289 t275 t276 t277 t278 x295004_3)) else (laws_FnMsgSeals.j3 k3 true t275 t276 t277 t278 t279 t283 t284 t285 t286 t287 t288 t289 t275 t276 t277 t278 x295004_3))) else (none))) = some r := by first | (rw [hy309]; with_reducible exact H) | (have H2_ := (Option.bind_some _ _).symm.trans H; rw [hy309]; with_reducible exact H2_) | (have H2_ := (Option.bind_some _ _).symm.trans H; with_reducible exact H2_) | with_reducible exact H | (rw [hy309]; exact H) | exact H
           have Ny309 := Aside0.mk hy309
           clear hy309
           obtain ⟨y312, hy312⟩ : ∃ y_ : List (S41), y_ = (([(⟨t283, t284, t285, t286, t287, t288, t289⟩ : S41)] : List (S41))) := ⟨_, rfl⟩
           replace H : (if y309.length + y312.length < 2513169434916 then ((impl_MsgOk.f t275 t276 t277 t278 x295004_3).bind fun t318 => (if t318 = true then ((impl_MsgOk.f t275 t276 t277 t278 (y309 ++ y312)).bind fun t319 => (laws_FnMsgSeals.j3 k3 t319 t275 t276 t277 t278 t279 t283 t284 t285 t286 t287 t288 t289 t275 t276 t277 t278 x295004_3)) else (laws_FnMsgSeals.j3 k3 true t275 t276 t277 t278 t279 t283 t284 t285 t286 t287 t288 t289 t275 t276 t277 t278 x295004_3))) else (none)) = some r := by first | (rw [hy312]; with_reducible exact H) | (have H2_ := (Option.bind_some _ _).symm.trans H; rw [hy312]; with_reducible exact H2_) | (have H2_ := (Option.bind_some _ _).symm.trans H; with_reducible exact H2_) | with_reducible exact H | (rw [hy312]; exact H) | exact H
           have Ny312 := Aside0.mk hy312
           clear hy312
           by_cases c56 : y309.length + y312.length < 2513169434916
           ·rw [if_pos c56] at H
            have LMc56 := Aside0.mk c56
            clear c56
            obtain ⟨y315, hy315⟩ : ∃ y_ : List (S41), y_ = (y309 ++ y312) := ⟨_, rfl⟩
            replace H : ((impl_MsgOk.f t275 t276 t277 t278 x295004_3).bind fun t318 => (if t318 = true then ((impl_MsgOk.f t275 t276 t277 t278 y315).bind fun t319 => (laws_FnMsgSeals.j3 k3 t319 t275 t276 t277 t278 t279 t283 t284 t285 t286 t287 t288 t289 t275 t276 t277 t278 x295004_3)) else (laws_FnMsgSeals.j3 k3 true t275 t276 t277 t278 t279 t283 t284 t285 t286 t287 t288 t289 t275 t276 t277 t278 x295004_3))) = some r := by first | (rw [hy315]; with_reducible exact H) | (have H2_ := (Option.bind_some _ _).symm.trans H; rw [hy315]; with_reducible exact H2_) | (have H2_ := (Option.bind_some _ _).symm.trans H; with_reducible exact H2_) | with_reducible exact H | (rw [hy315]; exact H) | exact H
            have Ny315 := Aside0.mk hy315
            clear hy315
            have HC57 := Aside0.mk H
            clear H
            have hnb58 := NB282_290.out
            have hnc58 := NB290_282.out
            have hnb59 := NB282_294.out
            have hnc59 := NB294_282.out
            have hcz60_0 : wr.cell? ⟨gb282, 0, none⟩ = some (.int .i64 t275) := (blk_cell BK282.out 0).trans rfl
            have hcz60_1 : wr.cell? ⟨gb282, 1, none⟩ = some (.int .i64 t276) := (blk_cell BK282.out 1).trans rfl
            have hcz60_2 : wr.cell? ⟨gb282, 2, none⟩ = some (.int .i64 t277) := (blk_cell BK282.out 2).trans rfl
            have hcz60_3 : wr.cell? ⟨gb282, 3, none⟩ = some (.int .i64 t278) := (blk_cell BK282.out 3).trans rfl
            have hcz60_4 : wr.cell? ⟨gb282, 4, none⟩ = some (.slice Ao13 t279.length co13) := (blk_cell BK282.out 4).trans rfl
            have hfz60_0 := blk_frozen BK282.out 0
            have hfz60_1 := blk_frozen BK282.out 1
            have hfz60_2 := blk_frozen BK282.out 2
            have hfz60_3 := blk_frozen BK282.out 3
            have hfz60_4 := blk_frozen BK282.out 4
            try go_wp2_with (first | ((with_reducible refine gate_dst (N := 10) rfl ?_); refine box_event ?hg (N := 10) ?hd (cs := #[.int .i64 0, .int .i64 0, .int .i64 0, .int .i64 0, .slice none 0 0]) (t := 34) ?hr ?_; (case hd => rfl); (case hg => rfl); (case hr => first | (go_simp; done) | (go_simp; rfl)); intro gb305 hg w61 hbox hb; have n0_ := Aside0.mk (Kd.R_below z17x54 hb); have n1_ := Aside0.mk (Kd.R_below z17x55 hb); have n2_ := Aside0.mk (blk_below (g := gb282) (o := .cells #[.int .i64 t275, .int .i64 t276, .int .i64 t277, .int .i64 t278, .slice Ao13 t279.length co13] 34 (0, 0)) z17x49 hb); have n3_ := Aside0.mk (blk_below (g := gb290) (o := .cells #[.int .i64 t283, .int .i64 t284, .int .i64 t285, .int .i64 t286, .int .i64 t287, .int .i64 t288, .int .i64 t289] 41 (0, 0)) z17x50 hb); have n4_ := Aside0.mk (blk_below (g := gb294) (o := .cells #[.int .i64 t275, .int .i64 t276, .int .i64 t277, .int .i64 t278, u295004] 34 (0, 0)) z17x51 hb); have n5_ := Aside0.mk (below_step z17x37 hb); have n6_ := Aside0.mk (hbox); have n7_ := Aside0.mk ((z17x29 : w.heap.size ≤ gb305)); have n8_ := Aside0.mk ((z17x29 : w.heap.size ≤ gb305)); have n9_ := Aside0.mk ((z17x20 : gb282 ≠ gb305)); have n10_ := Aside0.mk ((z17x18 : gb305 ≠ gb282)); have n11_ := Aside0.mk ((z17x15 : gb290 ≠ gb305)); have n12_ := Aside0.mk ((z17x14 : gb305 ≠ gb290)); have n13_ := Aside0.mk ((z17x27 : gb294 ≠ gb305)); have n14_ := Aside0.mk ((z17x26 : gb305 ≠ gb294)); clear HO_283004; clear HO_295004; clear BK282; clear BK290; clear BK294; clear HB; have HO_283004 := n0_; have HO_295004 := n1_; have BK282 := n2_; have BK290 := n3_; have BK294 := n4_; have HB := n5_; have BK305 := n6_; have GW305 := n7_; have GE305 := n8_; have NB282_305 := n9_; have NB305_282 := n10_; have NB290_305 := n11_; have NB305_290 := n12_; have NB294_305 := n13_; have NB305_294 := n14_; clear n0_ n1_ n2_ n3_ n4_ n5_ n6_ n7_ n8_ n9_ n10_ n11_ n12_ n13_ n14_; clear hb hbox hg; have hnb62 := NB305_282.out; have hnc62 := NB282_305.out; have hnb63 := NB305_290.out; have hnc63 := NB290_305.out; have hnb64 := NB305_294.out; have hnc64 := NB294_305.out; have hcz65_0 : w61.cell? ⟨gb305, 0, none⟩ = some (.int .i64 0) := (blk_cell BK305.out 0).trans rfl; have hcz65_1 : w61.cell? ⟨gb305, 1, none⟩ = some (.int .i64 0) := (blk_cell BK305.out 1).trans rfl; have hcz65_2 : w61.cell? ⟨gb305, 2, none⟩ = some (.int .i64 0) := (blk_cell BK305.out 2).trans rfl; have hcz65_3 : w61.cell? ⟨gb305, 3, none⟩ = some (.int .i64 0) := (blk_cell BK305.out 3).trans rfl; have hcz65_4 : w61.cell? ⟨gb305, 4, none⟩ = some (.slice none 0 0) := (blk_cell BK305.out 4).trans rfl; have hfz65_0 := blk_frozen BK305.out 0; have hfz65_1 := blk_frozen BK305.out 1; have hfz65_2 := blk_frozen BK305.out 2; have hfz65_3 := blk_frozen BK305.out 3; have hfz65_4 := blk_frozen BK305.out 4))
            have n0_ : Aside0 (Kd.R k41 41 (((((w61.setCell ⟨gb305, 0, none⟩ (.int .i64 t275)).setCell ⟨gb305, 1, none⟩ (.int .i64 t276)).setCell ⟨gb305, 2, none⟩ (.int .i64 t277)).setCell ⟨gb305, 3, none⟩ (.int .i64 t278)).setCell ⟨gb305, 4, none⟩ (.slice Ao13 t279.length co13)) w.heap.size (fun k_ => some k_ ≠ (u295004 : Value).ownBlock ∧ k_ ≠ gb290) (.slice Ao13 t279.length co13) t279) := ⟨by (with_reducible repeat (first | apply Kd.R_alloc | apply Kd.R_drewN | apply Kd.R_drew)); exact Kd.R_mono (Kd.R_far (p := ⟨gb305, 4, none⟩) (Kd.R_far (p := ⟨gb305, 3, none⟩) (Kd.R_far (p := ⟨gb305, 2, none⟩) (Kd.R_far (p := ⟨gb305, 1, none⟩) (Kd.R_far (p := ⟨gb305, 0, none⟩) (Kd.R_types HO_283004.out BK305.out (by decide)) (fun _ hk => hk.2) (.int .i64 t275)) (fun _ hk => hk.2) (.int .i64 t276)) (fun _ hk => hk.2) (.int .i64 t277)) (fun _ hk => hk.2) (.int .i64 t278)) (fun _ hk => hk.2) (.slice Ao13 t279.length co13)) (fun _ hk => ⟨hk.1.1, hk.1.2⟩)⟩
            have n1_ : Aside0 (Kd.R k41 41 (((((w61.setCell ⟨gb305, 0, none⟩ (.int .i64 t275)).setCell ⟨gb305, 1, none⟩ (.int .i64 t276)).setCell ⟨gb305, 2, none⟩ (.int .i64 t277)).setCell ⟨gb305, 3, none⟩ (.int .i64 t278)).setCell ⟨gb305, 4, none⟩ (.slice Ao13 t279.length co13)) w.heap.size (fun k_ => some k_ ≠ (.slice Ao13 t279.length co13 : Value).ownBlock ∧ k_ ≠ gb290) u295004 x295004_3) := ⟨by (with_reducible repeat (first | apply Kd.R_alloc | apply Kd.R_drewN | apply Kd.R_drew)); exact Kd.R_mono (Kd.R_far (p := ⟨gb305, 4, none⟩) (Kd.R_far (p := ⟨gb305, 3, none⟩) (Kd.R_far (p := ⟨gb305, 2, none⟩) (Kd.R_far (p := ⟨gb305, 1, none⟩) (Kd.R_far (p := ⟨gb305, 0, none⟩) (Kd.R_types HO_295004.out BK305.out (by decide)) (fun _ hk => hk.2) (.int .i64 t275)) (fun _ hk => hk.2) (.int .i64 t276)) (fun _ hk => hk.2) (.int .i64 t277)) (fun _ hk => hk.2) (.int .i64 t278)) (fun _ hk => hk.2) (.slice Ao13 t279.length co13)) (fun _ hk => ⟨hk.1.1, hk.1.2⟩)⟩
            have n2_ : Aside0 ((((((w61.setCell ⟨gb305, 0, none⟩ (.int .i64 t275)).setCell ⟨gb305, 1, none⟩ (.int .i64 t276)).setCell ⟨gb305, 2, none⟩ (.int .i64 t277)).setCell ⟨gb305, 3, none⟩ (.int .i64 t278)).setCell ⟨gb305, 4, none⟩ (.slice Ao13 t279.length co13)).heap[gb282]? = some (.cells #[.int .i64 t275, .int .i64 t276, .int .i64 t277, .int .i64 t278, .slice Ao13 t279.length co13] 34 (0, 0))) := ⟨by (with_reducible repeat (first | refine blk_drewN ?_ _ | refine blk_drew ?_ | refine blk_alloc ?_ _)); refine blk_far ?_ NB282_305.out _; (with_reducible repeat (first | refine blk_drewN ?_ _ | refine blk_drew ?_ | refine blk_alloc ?_ _)); refine blk_far ?_ NB282_305.out _; (with_reducible repeat (first | refine blk_drewN ?_ _ | refine blk_drew ?_ | refine blk_alloc ?_ _)); refine blk_far ?_ NB282_305.out _; (with_reducible repeat (first | refine blk_drewN ?_ _ | refine blk_drew ?_ | refine blk_alloc ?_ _)); refine blk_far ?_ NB282_305.out _; (with_reducible repeat (first | refine blk_drewN ?_ _ | refine blk_drew ?_ | refine blk_alloc ?_ _)); refine blk_far ?_ NB282_305.out _; (with_reducible repeat (first | refine blk_drewN ?_ _ | refine blk_drew ?_ | refine blk_alloc ?_ _)); exact BK282.out⟩
            have n3_ : Aside0 ((((((w61.setCell ⟨gb305, 0, none⟩ (.int .i64 t275)).setCell ⟨gb305, 1, none⟩ (.int .i64 t276)).setCell ⟨gb305, 2, none⟩ (.int .i64 t277)).setCell ⟨gb305, 3, none⟩ (.int .i64 t278)).setCell ⟨gb305, 4, none⟩ (.slice Ao13 t279.length co13)).heap[gb290]? = some (.cells #[.int .i64 t283, .int .i64 t284, .int .i64 t285, .int .i64 t286, .int .i64 t287, .int .i64 t288, .int .i64 t289] 41 (0, 0))) := ⟨by (with_reducible repeat (first | refine blk_drewN ?_ _ | refine blk_drew ?_ | refine blk_alloc ?_ _)); refine blk_far ?_ NB290_305.out _; (with_reducible repeat (first | refine blk_drewN ?_ _ | refine blk_drew ?_ | refine blk_alloc ?_ _)); refine blk_far ?_ NB290_305.out _; (with_reducible repeat (first | refine blk_drewN ?_ _ | refine blk_drew ?_ | refine blk_alloc ?_ _)); refine blk_far ?_ NB290_305.out _; (with_reducible repeat (first | refine blk_drewN ?_ _ | refine blk_drew ?_ | refine blk_alloc ?_ _)); refine blk_far ?_ NB290_305.out _; (with_reducible repeat (first | refine blk_drewN ?_ _ | refine blk_drew ?_ | refine blk_alloc ?_ _)); refine blk_far ?_ NB290_305.out _; (with_reducible repeat (first | refine blk_drewN ?_ _ | refine blk_drew ?_ | refine blk_alloc ?_ _)); exact BK290.out⟩
            have n4_ : Aside0 ((((((w61.setCell ⟨gb305, 0, none⟩ (.int .i64 t275)).setCell ⟨gb305, 1, none⟩ (.int .i64 t276)).setCell ⟨gb305, 2, none⟩ (.int .i64 t277)).setCell ⟨gb305, 3, none⟩ (.int .i64 t278)).setCell ⟨gb305, 4, none⟩ (.slice Ao13 t279.length co13)).heap[gb294]? = some (.cells #[.int .i64 t275, .int .i64 t276, .int .i64 t277, .int .i64 t278, u295004] 34 (0, 0))) := ⟨by (with_reducible repeat (first | refine blk_drewN ?_ _ | refine blk_drew ?_ | refine blk_alloc ?_ _)); refine blk_far ?_ NB294_305.out _; (with_reducible repeat (first | refine blk_drewN ?_ _ | refine blk_drew ?_ | refine blk_alloc ?_ _)); refine blk_far ?_ NB294_305.out _; (with_reducible repeat (first | refine blk_drewN ?_ _ | refine blk_drew ?_ | refine blk_alloc ?_ _)); refine blk_far ?_ NB294_305.out _; (with_reducible repeat (first | refine blk_drewN ?_ _ | refine blk_drew ?_ | refine blk_alloc ?_ _)); refine blk_far ?_ NB294_305.out _; (with_reducible repeat (first | refine blk_drewN ?_ _ | refine blk_drew ?_ | refine blk_alloc ?_ _)); refine blk_far ?_ NB294_305.out _; (with_reducible repeat (first | refine blk_drewN ?_ _ | refine blk_drew ?_ | refine blk_alloc ?_ _)); exact BK294.out⟩
            have n5_ : Aside0 ((((((w61.setCell ⟨gb305, 0, none⟩ (.int .i64 t275)).setCell ⟨gb305, 1, none⟩ (.int .i64 t276)).setCell ⟨gb305, 2, none⟩ (.int .i64 t277)).setCell ⟨gb305, 3, none⟩ (.int .i64 t278)).setCell ⟨gb305, 4, none⟩ (.slice Ao13 t279.length co13)).heap[gb305]? = some (.cells #[.int .i64 t275, .int .i64 t276, .int .i64 t277, .int .i64 t278, .slice Ao13 t279.length co13] 34 (0, 0))) := ⟨by (with_reducible repeat (first | refine blk_drewN ?_ _ | refine blk_drew ?_ | refine blk_alloc ?_ _)); refine blk_put (cs := #[.int .i64 t275, .int .i64 t276, .int .i64 t277, .int .i64 t278, .slice none 0 0]) ?_ 4 _ rfl; (with_reducible repeat (first | refine blk_drewN ?_ _ | refine blk_drew ?_ | refine blk_alloc ?_ _)); refine blk_put (cs := #[.int .i64 t275, .int .i64 t276, .int .i64 t277, .int .i64 0, .slice none 0 0]) ?_ 3 _ rfl; (with_reducible repeat (first | refine blk_drewN ?_ _ | refine blk_drew ?_ | refine blk_alloc ?_ _)); refine blk_put (cs := #[.int .i64 t275, .int .i64 t276, .int .i64 0, .int .i64 0, .slice none 0 0]) ?_ 2 _ rfl; (with_reducible repeat (first | refine blk_drewN ?_ _ | refine blk_drew ?_ | refine blk_alloc ?_ _)); refine blk_put (cs := #[.int .i64 t275, .int .i64 0, .int .i64 0, .int .i64 0, .slice none 0 0]) ?_ 1 _ rfl; (with_reducible repeat (first | refine blk_drewN ?_ _ | refine blk_drew ?_ | refine blk_alloc ?_ _)); refine blk_put (cs := #[.int .i64 0, .int .i64 0, .int .i64 0, .int .i64 0, .slice none 0 0]) ?_ 0 _ rfl; (with_reducible repeat (first | refine blk_drewN ?_ _ | refine blk_drew ?_ | refine blk_alloc ?_ _)); exact BK305.out⟩
            have n6_ : Aside0 (Below w.heap.size w (((((w61.setCell ⟨gb305, 0, none⟩ (.int .i64 t275)).setCell ⟨gb305, 1, none⟩ (.int .i64 t276)).setCell ⟨gb305, 2, none⟩ (.int .i64 t277)).setCell ⟨gb305, 3, none⟩ (.int .i64 t278)).setCell ⟨gb305, 4, none⟩ (.slice Ao13 t279.length co13))) := ⟨by repeat (first | (with_reducible first | exact HB.out | apply below_alloc | apply pw_below_drewN | apply below_drew1 | refine below_set ?_ GE282.out | refine below_set ?_ GE290.out | refine below_set ?_ GE294.out | refine below_set ?_ GE305.out) | exact HB.out)⟩
            (try clear HO_283004)
            (try clear HO_295004)
            (try clear BK282)
            (try clear BK290)
            (try clear BK294)
            (try clear BK305)
            (try clear HB)
            generalize (((((w61.setCell ⟨gb305, 0, none⟩ (.int .i64 t275)).setCell ⟨gb305, 1, none⟩ (.int .i64 t276)).setCell ⟨gb305, 2, none⟩ (.int .i64 t277)).setCell ⟨gb305, 3, none⟩ (.int .i64 t278)).setCell ⟨gb305, 4, none⟩ (.slice Ao13 t279.length co13)) = w66 at n0_ n1_ n2_ n3_ n4_ n5_ n6_ ⊢
            have HO_283004 := n0_
            have HO_295004 := n1_
            have BK282 := n2_
            have BK290 := n3_
            have BK294 := n4_
            have BK305 := n5_
            have HB := n6_
            clear n0_ n1_ n2_ n3_ n4_ n5_ n6_
            have n0_ := Aside0.mk (Kd.R_drew HO_283004.out)
            have n1_ := Aside0.mk (Kd.R_drew HO_295004.out)
            have n2_ := Aside0.mk (blk_drew BK282.out)
            have n3_ := Aside0.mk (blk_drew BK290.out)
            have n4_ := Aside0.mk (blk_drew BK294.out)
            have n5_ := Aside0.mk (blk_drew BK305.out)
            have n6_ := Aside0.mk (below_drew1 HB.out)
            clear HO_283004
            clear HO_295004
            clear BK282
            clear BK290
            clear BK294
            clear BK305
            clear HB
            have HO_283004 := n0_
            have HO_295004 := n1_
            have BK282 := n2_
            have BK290 := n3_
            have BK294 := n4_
            have BK305 := n5_
            have HB := n6_
            clear n0_ n1_ n2_ n3_ n4_ n5_ n6_
            refine start_ (n := 9) (S := fun w' => w'.cell? ⟨gb282, 0, none⟩ = some (.int .i64 t275) ∧ w'.cell? ⟨gb282, 1, none⟩ = some (.int .i64 t276) ∧ w'.cell? ⟨gb282, 2, none⟩ = some (.int .i64 t277) ∧ w'.cell? ⟨gb282, 3, none⟩ = some (.int .i64 t278) ∧ w'.cell? ⟨gb282, 4, none⟩ = some (.slice Ao13 t279.length co13) ∧ w'.cell? ⟨gb290, 0, none⟩ = some (.int .i64 t283) ∧ w'.cell? ⟨gb290, 1, none⟩ = some (.int .i64 t284) ∧ w'.cell? ⟨gb290, 2, none⟩ = some (.int .i64 t285) ∧ w'.cell? ⟨gb290, 3, none⟩ = some (.int .i64 t286) ∧ w'.cell? ⟨gb290, 4, none⟩ = some (.int .i64 t287) ∧ w'.cell? ⟨gb290, 5, none⟩ = some (.int .i64 t288) ∧ w'.cell? ⟨gb290, 6, none⟩ = some (.int .i64 t289)) (ds := []) #[false, false, false, false, false, false, false, false, false] (by kernel_rfl) rfl rfl ⟨(blk_cell BK282.out 0).trans rfl, (blk_cell BK282.out 1).trans rfl, (blk_cell BK282.out 2).trans rfl, (blk_cell BK282.out 3).trans rfl, (blk_cell BK282.out 4).trans rfl, (blk_cell BK290.out 0).trans rfl, (blk_cell BK290.out 1).trans rfl, (blk_cell BK290.out 2).trans rfl, (blk_cell BK290.out 3).trans rfl, (blk_cell BK290.out 4).trans rfl, (blk_cell BK290.out 5).trans rfl, (blk_cell BK290.out 6).trans rfl⟩ (fun hHeld => ?_); refine with_tabW laws_FnMsgSeals.tab15 laws_FnMsgSeals.bits15 (fun HT_ HW_ => ?_)
            generalize w66.drew = w67 at HO_283004 HO_295004 BK282 BK290 BK294 BK305 HB hHeld ⊢
            refine pure_ (i := 1) (N := some 61) (v := ?_) (a' := ?_) #[false, true, false, false, false, false, false, false, false] rfl rfl (any_of HT_.out (by kernel_rfl)) (fun _ _ _ h => h) (Or.inl ⟨by rfl, ?_⟩) ?_ ?_
            rotate_left
            ·intro w'
             go_simp
             with_reducible rfl
            rotate_left
            ·simp only [Act.put, List.setIfInBounds_toArray, List.set_cons_zero, List.set_cons_succ, i64_w, i32_w]
             rfl
            refine take_ (i := 2) (N := some 62) (v := ?_) (a' := ?_) #[false, true, true, false, false, false, false, false, false] rfl rfl (take_ofW HT_.out HW_.out (by kernel_rfl)) (fun _ _ _ h => h) (Or.inl ⟨by rfl, ?_⟩) hHeld ?_ ?_
            rotate_left
            ·rintro w' ⟨s0, s1, s2, s3, s4, s5, s6, s7, s8, s9, s10, s11⟩
             go_simp
             with_reducible rfl
            rotate_left
            ·simp only [Act.put, List.setIfInBounds_toArray, List.set_cons_zero, List.set_cons_succ, i64_w, i32_w]
             rfl
            refine take_ (i := 4) (N := some 64) (v := ?_) (a' := ?_) #[false, true, true, false, true, false, false, false, false] rfl rfl (take_ofW HT_.out HW_.out (by kernel_rfl)) (fun _ _ _ h => h) (Or.inl ⟨by rfl, ?_⟩) hHeld ?_ ?_
            rotate_left
            ·rintro w' ⟨s0, s1, s2, s3, s4, s5, s6, s7, s8, s9, s10, s11⟩
             go_simp
             with_reducible rfl
            rotate_left
            ·simp only [Act.put, List.setIfInBounds_toArray, List.set_cons_zero, List.set_cons_succ, i64_w, i32_w]
             rfl
            refine join_ (σ := Value × Value × Value) 3 #[true, true, true, true, true, true, false, false, false] (fun s_ => [(60, s_.1), (63, s_.2.1), (65, s_.2.2)]) (fun s_ w' => (w'.cell? ⟨gb282, 0, none⟩ = some (.int .i64 t275) ∧ w'.cell? ⟨gb282, 1, none⟩ = some (.int .i64 t276) ∧ w'.cell? ⟨gb282, 2, none⟩ = some (.int .i64 t277) ∧ w'.cell? ⟨gb282, 3, none⟩ = some (.int .i64 t278) ∧ w'.cell? ⟨gb282, 4, none⟩ = some (.slice Ao13 t279.length co13) ∧ w'.cell? ⟨gb290, 0, none⟩ = some (.int .i64 t283) ∧ w'.cell? ⟨gb290, 1, none⟩ = some (.int .i64 t284) ∧ w'.cell? ⟨gb290, 2, none⟩ = some (.int .i64 t285) ∧ w'.cell? ⟨gb290, 3, none⟩ = some (.int .i64 t286) ∧ w'.cell? ⟨gb290, 4, none⟩ = some (.int .i64 t287) ∧ w'.cell? ⟨gb290, 5, none⟩ = some (.int .i64 t288) ∧ w'.cell? ⟨gb290, 6, none⟩ = some (.int .i64 t289)) ∧ (Kd.R k41 41 w' w.heap.size (fun k_ => some k_ ≠ (s_.2.2 : Value).ownBlock ∧ some k_ ≠ (.slice Ao13 t279.length co13 : Value).ownBlock ∧ some k_ ≠ (u295004 : Value).ownBlock ∧ k_ ≠ gb290) s_.2.1 y309) ∧ (Kd.R k41 41 w' w.heap.size (fun k_ => some k_ ≠ (s_.2.1 : Value).ownBlock ∧ some k_ ≠ (.slice Ao13 t279.length co13 : Value).ownBlock ∧ some k_ ≠ (u295004 : Value).ownBlock ∧ k_ ≠ gb290) s_.2.2 y312) ∧ (Kd.R k41 41 w' w.heap.size (fun k_ => some k_ ≠ (s_.2.1 : Value).ownBlock ∧ some k_ ≠ (s_.2.2 : Value).ownBlock ∧ some k_ ≠ (u295004 : Value).ownBlock ∧ k_ ≠ gb290) (.slice Ao13 t279.length co13) t279) ∧ (Kd.R k41 41 w' w.heap.size (fun k_ => some k_ ≠ (s_.2.1 : Value).ownBlock ∧ some k_ ≠ (s_.2.2 : Value).ownBlock ∧ some k_ ≠ (.slice Ao13 t279.length co13 : Value).ownBlock ∧ k_ ≠ gb290) u295004 x295004_3) ∧ (w'.heap[gb282]? = some (.cells #[.int .i64 t275, .int .i64 t276, .int .i64 t277, .int .i64 t278, .slice Ao13 t279.length co13] 34 (0, 0))) ∧ (w'.heap[gb290]? = some (.cells #[.int .i64 t283, .int .i64 t284, .int .i64 t285, .int .i64 t286, .int .i64 t287, .int .i64 t288, .int .i64 t289] 41 (0, 0))) ∧ (w'.heap[gb294]? = some (.cells #[.int .i64 t275, .int .i64 t276, .int .i64 t277, .int .i64 t278, u295004] 34 (0, 0))) ∧ (w'.heap[gb305]? = some (.cells #[.int .i64 t275, .int .i64 t276, .int .i64 t277, .int .i64 t278, .slice Ao13 t279.length co13] 34 (0, 0))) ∧ (Below w.heap.size w w')) ?_ ?_
            rotate_left
            ·intro hCont
             refine two_ (i := 0) (j := 5) (Ni := some 60) (Nj := some 65) #[true, true, true, false, true, false, false, false, false] #[false, true, true, false, true, true, false, false, false] rfl rfl rfl rfl (two_of HT_.out (by kernel_rfl)) (by decide) (by decide) (fun K hK => ?_) (fun K hK => ?_)
             ·skip
              refine Kd.R_lit_step k41 _ 41 ?hg (N := 60) ?hd (xs := ([] : List (S41))) (inner := []) (ok := fun _ => True) (okp := fun _ => True) ?hr ?hp (fun _ hk => hk) trivial (Below.refl _ _) (Nat.le_refl _) (by simp) ?_; (case hd => rfl); (case hg => rfl); (case hr => first | (go_simp; done) | (go_simp; rfl)); (case hp => exact (Reps.none _ _))
              intro v307 w68 ho69 hb hg_ hnew_
              clear hg_ hnew_
              (first | rw [← Ny306.out] at ho69 | (simp only [Int.reduceToNat] at ho69; rw [← Ny306.out] at ho69))
              have n0_ := Aside0.mk (Kd.R_elder' z17x54 (Kd.R_base ho69) hb)
              have n1_ := Aside0.mk (Kd.R_elder' z17x55 (Kd.R_base ho69) hb)
              have n2_ := Aside0.mk (Kd.R_lower (Kd.R_newB (Kd.R_new' (Kd.R_new' ho69 (Kd.R_lt z17x54)) (Kd.R_lt z17x55)) (g := gb290) (o := .cells #[.int .i64 t283, .int .i64 t284, .int .i64 t285, .int .i64 t286, .int .i64 t287, .int .i64 t288, .int .i64 t289] 41 (0, 0)) z17x50) (below_size z17x28))
              have n3_ := Aside0.mk (blk_below (g := gb282) (o := .cells #[.int .i64 t275, .int .i64 t276, .int .i64 t277, .int .i64 t278, .slice Ao13 t279.length co13] 34 (0, 0)) z17x49 hb)
              have n4_ := Aside0.mk (blk_below (g := gb290) (o := .cells #[.int .i64 t283, .int .i64 t284, .int .i64 t285, .int .i64 t286, .int .i64 t287, .int .i64 t288, .int .i64 t289] 41 (0, 0)) z17x50 hb)
              have n5_ := Aside0.mk (blk_below (g := gb294) (o := .cells #[.int .i64 t275, .int .i64 t276, .int .i64 t277, .int .i64 t278, u295004] 34 (0, 0)) z17x51 hb)
              have n6_ := Aside0.mk (blk_below (g := gb305) (o := .cells #[.int .i64 t275, .int .i64 t276, .int .i64 t277, .int .i64 t278, .slice Ao13 t279.length co13] 34 (0, 0)) z17x52 hb)
              have n7_ := Aside0.mk (below_step z17x28 hb)
              clear HO_283004
              clear HO_295004
              clear BK282
              clear BK290
              clear BK294
              clear BK305
              clear HB
              have HO_283004 := n0_
              have HO_295004 := n1_
              have HO308 := n2_
              have BK282 := n3_
              have BK290 := n4_
              have BK294 := n5_
              have BK305 := n6_
              have HB := n7_
              clear n0_ n1_ n2_ n3_ n4_ n5_ n6_ n7_
              clear hb ho69
              refine hK.out _ _ ⟨(blk_cell BK282.out 0).trans rfl, (blk_cell BK282.out 1).trans rfl, (blk_cell BK282.out 2).trans rfl, (blk_cell BK282.out 3).trans rfl, (blk_cell BK282.out 4).trans rfl, (blk_cell BK290.out 0).trans rfl, (blk_cell BK290.out 1).trans rfl, (blk_cell BK290.out 2).trans rfl, (blk_cell BK290.out 3).trans rfl, (blk_cell BK290.out 4).trans rfl, (blk_cell BK290.out 5).trans rfl, (blk_cell BK290.out 6).trans rfl⟩ (fun hHeld => ?_)
              clear hK K
              refine norm_ (a' := ?_) ?_ ?_
              rotate_left
              ·show Act.put _ (some 60) _ = _
               simp only [Act.put, List.setIfInBounds_toArray, List.set_cons_zero, List.set_cons_succ, i64_w, i32_w]
               rfl
              refine two_ (i := 3) (j := 5) (Ni := some 63) (Nj := some 65) #[true, true, true, true, true, false, false, false, false] #[true, true, true, false, true, true, false, false, false] rfl rfl rfl rfl (two_of HT_.out (by kernel_rfl)) (by decide) (by decide) (fun K hK => ?_) (fun K hK => ?_)
              ·skip
               refine Kd.R_append_rows_step k41 (w0 := w) w.heap.size (by rfl) (.tmp 60) (.tmp 62) 32 41 (.agg #[(.int .i64 0), (.int .i64 0), (.int .i64 0), (.int .i64 0), (.int .i64 0), (.int .i64 0), (.int .i64 0)]) 56 rfl Try.underlying32 info41 rfl (by decide) (by omega) v307 y306 t279 _ _ _ (fun k_ => some k_ ≠ (.slice Ao13 t279.length co13 : Value).ownBlock ∧ some k_ ≠ (u295004 : Value).ownBlock ∧ k_ ≠ gb290) (fun _ => False) rfl rfl ?aO ?aR (fun _ _ h => h) (fun _ h => h.elim) ?aF ?aB ?aS ?aL ?_
               (case aR => repeat (first | exact (Kd.R_reads' HO_283004.out).2.2 | (with_reducible refine Kd.C_alloc ?_ _) | (with_reducible refine Kd.C_drewN ?_ _) | (with_reducible refine Kd.C_drew ?_)))
               (case aB => exact z17x28)
               (case aF => exact (fun k_ hk => ⟨Kd.fresh' (Kd.R_lt z17x54) k_ hk, Kd.fresh' (Kd.R_lt z17x55) k_ hk, Kd.freshB (g := gb290) (o := .cells #[.int .i64 t283, .int .i64 t284, .int .i64 t285, .int .i64 t286, .int .i64 t287, .int .i64 t288, .int .i64 t289] 41 (0, 0)) z17x50 k_ hk⟩))
               (case aO => exact (by (with_reducible repeat (first | apply Kd.R_alloc | apply Kd.R_drewN | apply Kd.R_drew)); exact Kd.R_mono HO308.out (fun _ hk => ⟨hk.1.1.2, ⟨hk.1.2, hk.2⟩⟩)))
               (case aS => exact (below_size z17x28))
               (case aL => have := LMc55.out; omega)
               intro v310 w70 ho hb hg hat
               rw [← Ny309.out] at ho
               have n0_ := Aside0.mk (Kd.R_after (ok := (fun k_ => some k_ ≠ (u295004 : Value).ownBlock ∧ k_ ≠ gb290)) z17x54 hg hat)
               have n1_ := Aside0.mk (Kd.R_after (ok := (fun k_ => some k_ ≠ (.slice Ao13 t279.length co13 : Value).ownBlock ∧ k_ ≠ gb290)) z17x55 hg hat)
               have n2_ := Aside0.mk (blk_grown (g := gb282) (o := .cells #[.int .i64 t275, .int .i64 t276, .int .i64 t277, .int .i64 t278, .slice Ao13 t279.length co13] 34 (0, 0)) z17x49 hg (Kd.R_ne HO308.out BK282.out (by decide)))
               have n3_ := Aside0.mk (blk_grown (g := gb290) (o := .cells #[.int .i64 t283, .int .i64 t284, .int .i64 t285, .int .i64 t286, .int .i64 t287, .int .i64 t288, .int .i64 t289] 41 (0, 0)) z17x50 hg (Kd.R_away HO308.out (fun _ hk => hk.2)))
               have n4_ := Aside0.mk (blk_grown (g := gb294) (o := .cells #[.int .i64 t275, .int .i64 t276, .int .i64 t277, .int .i64 t278, u295004] 34 (0, 0)) z17x51 hg (Kd.R_ne HO308.out BK294.out (by decide)))
               have n5_ := Aside0.mk (blk_grown (g := gb305) (o := .cells #[.int .i64 t275, .int .i64 t276, .int .i64 t277, .int .i64 t278, .slice Ao13 t279.length co13] 34 (0, 0)) z17x52 hg (Kd.R_ne HO308.out BK305.out (by decide)))
               have n6_ := Aside0.mk (hb)
               have n7_ := Aside0.mk (ho)
               clear HO_283004
               clear HO_295004
               clear BK282
               clear BK290
               clear BK294
               clear BK305
               clear HB
               clear HO308
               have HO_283004 := n0_
               have HO_295004 := n1_
               have BK282 := n2_
               have BK290 := n3_
               have BK294 := n4_
               have BK305 := n5_
               have HB := n6_
               have HO311 := n7_
               clear n0_ n1_ n2_ n3_ n4_ n5_ n6_ n7_
               clear ho hb hg hat
               refine hK.out _ _ ⟨(blk_cell BK282.out 0).trans rfl, (blk_cell BK282.out 1).trans rfl, (blk_cell BK282.out 2).trans rfl, (blk_cell BK282.out 3).trans rfl, (blk_cell BK282.out 4).trans rfl, (blk_cell BK290.out 0).trans rfl, (blk_cell BK290.out 1).trans rfl, (blk_cell BK290.out 2).trans rfl, (blk_cell BK290.out 3).trans rfl, (blk_cell BK290.out 4).trans rfl, (blk_cell BK290.out 5).trans rfl, (blk_cell BK290.out 6).trans rfl⟩ (fun hHeld => ?_)
               clear hK K
               refine norm_ (a' := ?_) ?_ ?_
               rotate_left
               ·show Act.put _ (some 63) _ = _
                simp only [Act.put, List.setIfInBounds_toArray, List.set_cons_zero, List.set_cons_succ, i64_w, i32_w]
                rfl
               refine one_ (i := 5) (N := some 65) #[true, true, true, true, true, true, false, false, false] rfl rfl (one_of HT_.out (by kernel_rfl)) (by decide) (fun K hK => ?_)
               refine Kd.R_lit_step k41 _ 41 ?hg (N := 65) ?hd (xs := ([(⟨t283, t284, t285, t286, t287, t288, t289⟩ : S41)] : List (S41))) (inner := [.int .i64 t283, .int .i64 t284, .int .i64 t285, .int .i64 t286, .int .i64 t287, .int .i64 t288, .int .i64 t289]) (ok := fun _ => True) (okp := fun _ => True) ?hr ?hp (fun _ hk => hk) trivial (Below.refl _ _) (Nat.le_refl _) (by simp) ?_; (case hd => rfl); (case hg => rfl); (case hr => first | (go_simp; done) | (go_simp; rfl)); (case hp => exact (Reps.c7 (show Kd.M k41 _ _ _ (⟨t283, t284, t285, t286, t287, t288, t289⟩ : S41) [.int .i64 t283, .int .i64 t284, .int .i64 t285, .int .i64 t286, .int .i64 t287, .int .i64 t288, .int .i64 t289] from (k41_mkM _ _ _ (⟨t283, t284, t285, t286, t287, t288, t289⟩ : S41) )) (Reps.none _ _)))
               intro v313 w71 ho72 hb hg_ hnew_
               clear hg_ hnew_
               (first | rw [← Ny312.out] at ho72 | (simp only [Int.reduceToNat] at ho72; rw [← Ny312.out] at ho72))
               have n0_ := Aside0.mk (Kd.R_elder' z17x54 (Kd.R_base ho72) hb)
               have n1_ := Aside0.mk (Kd.R_elder' z17x55 (Kd.R_base ho72) hb)
               have n2_ := Aside0.mk (Kd.R_elder' (by (with_reducible repeat (first | apply Kd.R_alloc | apply Kd.R_drewN | apply Kd.R_drew)); exact HO311.out) (Kd.R_base ho72) hb)
               have n3_ := Aside0.mk (Kd.R_lower (Kd.R_newB (Kd.R_new' (Kd.R_new' (Kd.R_new' ho72 (Kd.R_lt z17x54)) (Kd.R_lt z17x55)) (Kd.R_lt (by (with_reducible repeat (first | apply Kd.R_alloc | apply Kd.R_drewN | apply Kd.R_drew)); exact HO311.out))) (g := gb290) (o := .cells #[.int .i64 t283, .int .i64 t284, .int .i64 t285, .int .i64 t286, .int .i64 t287, .int .i64 t288, .int .i64 t289] 41 (0, 0)) z17x50) (below_size z17x28))
               have n4_ := Aside0.mk (blk_below (g := gb282) (o := .cells #[.int .i64 t275, .int .i64 t276, .int .i64 t277, .int .i64 t278, .slice Ao13 t279.length co13] 34 (0, 0)) z17x49 hb)
               have n5_ := Aside0.mk (blk_below (g := gb290) (o := .cells #[.int .i64 t283, .int .i64 t284, .int .i64 t285, .int .i64 t286, .int .i64 t287, .int .i64 t288, .int .i64 t289] 41 (0, 0)) z17x50 hb)
               have n6_ := Aside0.mk (blk_below (g := gb294) (o := .cells #[.int .i64 t275, .int .i64 t276, .int .i64 t277, .int .i64 t278, u295004] 34 (0, 0)) z17x51 hb)
               have n7_ := Aside0.mk (blk_below (g := gb305) (o := .cells #[.int .i64 t275, .int .i64 t276, .int .i64 t277, .int .i64 t278, .slice Ao13 t279.length co13] 34 (0, 0)) z17x52 hb)
               have n8_ := Aside0.mk (below_step z17x28 hb)
               clear HO_283004
               clear HO_295004
               clear HO311
               clear BK282
               clear BK290
               clear BK294
               clear BK305
               clear HB
               have HO_283004 := n0_
               have HO_295004 := n1_
               have HO311 := n2_
               have HO314 := n3_
               have BK282 := n4_
               have BK290 := n5_
               have BK294 := n6_
               have BK305 := n7_
               have HB := n8_
               clear n0_ n1_ n2_ n3_ n4_ n5_ n6_ n7_ n8_
               clear hb ho72
               refine hK.out _ _ ⟨(blk_cell BK282.out 0).trans rfl, (blk_cell BK282.out 1).trans rfl, (blk_cell BK282.out 2).trans rfl, (blk_cell BK282.out 3).trans rfl, (blk_cell BK282.out 4).trans rfl, (blk_cell BK290.out 0).trans rfl, (blk_cell BK290.out 1).trans rfl, (blk_cell BK290.out 2).trans rfl, (blk_cell BK290.out 3).trans rfl, (blk_cell BK290.out 4).trans rfl, (blk_cell BK290.out 5).trans rfl, (blk_cell BK290.out 6).trans rfl⟩ (fun hHeld => ?_)
               clear hK K
               refine norm_ (a' := ?_) ?_ ?_
               rotate_left
               ·show Act.put _ (some 65) _ = _
                simp only [Act.put, List.setIfInBounds_toArray, List.set_cons_zero, List.set_cons_succ, i64_w, i32_w]
                rfl
               exact norm_ z17x59 (hCont (v307, v310, v313) _ ⟨hHeld, (by (with_reducible repeat (first | apply Kd.R_alloc | apply Kd.R_drewN | apply Kd.R_drew)); exact Kd.R_mono HO311.out (fun _ hk => ⟨hk.2, ⟨hk.1.1, ⟨hk.1.2.1, hk.1.2.2⟩⟩⟩)), (by (with_reducible repeat (first | apply Kd.R_alloc | apply Kd.R_drewN | apply Kd.R_drew)); exact Kd.R_mono HO314.out (fun _ hk => ⟨hk.1.2, ⟨hk.1.1.1.2, ⟨hk.1.1.2, hk.2⟩⟩⟩)), (by (with_reducible repeat (first | apply Kd.R_alloc | apply Kd.R_drewN | apply Kd.R_drew)); exact Kd.R_mono HO_283004.out (fun _ hk => ⟨hk.1.2, ⟨hk.2, ⟨hk.1.1.1, hk.1.1.2⟩⟩⟩)), (by (with_reducible repeat (first | apply Kd.R_alloc | apply Kd.R_drewN | apply Kd.R_drew)); exact Kd.R_mono HO_295004.out (fun _ hk => ⟨hk.1.2, ⟨hk.2, ⟨hk.1.1.1, hk.1.1.2⟩⟩⟩)), z17x49, z17x50, z17x51, z17x52, z17x28⟩)
              ·skip
               refine Kd.R_lit_step k41 _ 41 ?hg (N := 65) ?hd (xs := ([(⟨t283, t284, t285, t286, t287, t288, t289⟩ : S41)] : List (S41))) (inner := [.int .i64 t283, .int .i64 t284, .int .i64 t285, .int .i64 t286, .int .i64 t287, .int .i64 t288, .int .i64 t289]) (ok := fun _ => True) (okp := fun _ => True) ?hr ?hp (fun _ hk => hk) trivial (Below.refl _ _) (Nat.le_refl _) (by simp) ?_; (case hd => rfl); (case hg => rfl); (case hr => first | (go_simp; done) | (go_simp; rfl)); (case hp => exact (Reps.c7 (show Kd.M k41 _ _ _ (⟨t283, t284, t285, t286, t287, t288, t289⟩ : S41) [.int .i64 t283, .int .i64 t284, .int .i64 t285, .int .i64 t286, .int .i64 t287, .int .i64 t288, .int .i64 t289] from (k41_mkM _ _ _ (⟨t283, t284, t285, t286, t287, t288, t289⟩ : S41) )) (Reps.none _ _)))
               intro v313 w70 ho71 hb hg_ hnew_
               clear hg_ hnew_
               (first | rw [← Ny312.out] at ho71 | (simp only [Int.reduceToNat] at ho71; rw [← Ny312.out] at ho71))
               have n0_ := Aside0.mk (Kd.R_elder' z17x54 (Kd.R_base ho71) hb)
               have n1_ := Aside0.mk (Kd.R_elder' z17x55 (Kd.R_base ho71) hb)
               have n2_ := Aside0.mk (Kd.R_elder' (by (with_reducible repeat (first | apply Kd.R_alloc | apply Kd.R_drewN | apply Kd.R_drew)); exact HO308.out) (Kd.R_base ho71) hb)
               have n3_ := Aside0.mk (Kd.R_lower (Kd.R_newB (Kd.R_new' (Kd.R_new' (Kd.R_new' ho71 (Kd.R_lt z17x54)) (Kd.R_lt z17x55)) (Kd.R_lt (by (with_reducible repeat (first | apply Kd.R_alloc | apply Kd.R_drewN | apply Kd.R_drew)); exact HO308.out))) (g := gb290) (o := .cells #[.int .i64 t283, .int .i64 t284, .int .i64 t285, .int .i64 t286, .int .i64 t287, .int .i64 t288, .int .i64 t289] 41 (0, 0)) z17x50) (below_size z17x28))
               have n4_ := Aside0.mk (blk_below (g := gb282) (o := .cells #[.int .i64 t275, .int .i64 t276, .int .i64 t277, .int .i64 t278, .slice Ao13 t279.length co13] 34 (0, 0)) z17x49 hb)
               have n5_ := Aside0.mk (blk_below (g := gb290) (o := .cells #[.int .i64 t283, .int .i64 t284, .int .i64 t285, .int .i64 t286, .int .i64 t287, .int .i64 t288, .int .i64 t289] 41 (0, 0)) z17x50 hb)
               have n6_ := Aside0.mk (blk_below (g := gb294) (o := .cells #[.int .i64 t275, .int .i64 t276, .int .i64 t277, .int .i64 t278, u295004] 34 (0, 0)) z17x51 hb)
               have n7_ := Aside0.mk (blk_below (g := gb305) (o := .cells #[.int .i64 t275, .int .i64 t276, .int .i64 t277, .int .i64 t278, .slice Ao13 t279.length co13] 34 (0, 0)) z17x52 hb)
               have n8_ := Aside0.mk (below_step z17x28 hb)
               clear HO_283004
               clear HO_295004
               clear HO308
               clear BK282
               clear BK290
               clear BK294
               clear BK305
               clear HB
               have HO_283004 := n0_
               have HO_295004 := n1_
               have HO308 := n2_
               have HO314 := n3_
               have BK282 := n4_
               have BK290 := n5_
               have BK294 := n6_
               have BK305 := n7_
               have HB := n8_
               clear n0_ n1_ n2_ n3_ n4_ n5_ n6_ n7_ n8_
               clear hb ho71
               refine hK.out _ _ ⟨(blk_cell BK282.out 0).trans rfl, (blk_cell BK282.out 1).trans rfl, (blk_cell BK282.out 2).trans rfl, (blk_cell BK282.out 3).trans rfl, (blk_cell BK282.out 4).trans rfl, (blk_cell BK290.out 0).trans rfl, (blk_cell BK290.out 1).trans rfl, (blk_cell BK290.out 2).trans rfl, (blk_cell BK290.out 3).trans rfl, (blk_cell BK290.out 4).trans rfl, (blk_cell BK290.out 5).trans rfl, (blk_cell BK290.out 6).trans rfl⟩ (fun hHeld => ?_)
               clear hK K
               refine norm_ (a' := ?_) ?_ ?_
               rotate_left
               ·show Act.put _ (some 65) _ = _
                simp only [Act.put, List.setIfInBounds_toArray, List.set_cons_zero, List.set_cons_succ, i64_w, i32_w]
                rfl
               refine one_ (i := 3) (N := some 63) #[true, true, true, true, true, true, false, false, false] rfl rfl (one_of HT_.out (by kernel_rfl)) (by decide) (fun K hK => ?_)
               refine Kd.R_append_rows_step k41 (w0 := w) w.heap.size (by rfl) (.tmp 60) (.tmp 62) 32 41 (.agg #[(.int .i64 0), (.int .i64 0), (.int .i64 0), (.int .i64 0), (.int .i64 0), (.int .i64 0), (.int .i64 0)]) 56 rfl Try.underlying32 info41 rfl (by decide) (by omega) v307 y306 t279 _ _ _ (fun k_ => some k_ ≠ (.slice Ao13 t279.length co13 : Value).ownBlock ∧ some k_ ≠ (u295004 : Value).ownBlock ∧ some k_ ≠ (v313 : Value).ownBlock ∧ k_ ≠ gb290) (fun _ => False) rfl rfl ?aO ?aR (fun _ _ h => h) (fun _ h => h.elim) ?aF ?aB ?aS ?aL ?_
               (case aR => repeat (first | exact (Kd.R_reads' HO_283004.out).2.2 | (with_reducible refine Kd.C_alloc ?_ _) | (with_reducible refine Kd.C_drewN ?_ _) | (with_reducible refine Kd.C_drew ?_)))
               (case aB => exact z17x28)
               (case aF => exact (fun k_ hk => ⟨Kd.fresh' (Kd.R_lt z17x54) k_ hk, Kd.fresh' (Kd.R_lt z17x55) k_ hk, Kd.fresh' (Kd.R_lt z17x58) k_ hk, Kd.freshB (g := gb290) (o := .cells #[.int .i64 t283, .int .i64 t284, .int .i64 t285, .int .i64 t286, .int .i64 t287, .int .i64 t288, .int .i64 t289] 41 (0, 0)) z17x50 k_ hk⟩))
               (case aO => exact (by (with_reducible repeat (first | apply Kd.R_alloc | apply Kd.R_drewN | apply Kd.R_drew)); exact Kd.R_mono HO308.out (fun _ hk => ⟨hk.1.1.1.2, ⟨hk.1.1.2, ⟨hk.2, hk.1.2⟩⟩⟩)))
               (case aS => exact (below_size z17x28))
               (case aL => have := LMc55.out; omega)
               intro v310 w72 ho hb hg hat
               rw [← Ny309.out] at ho
               have n0_ := Aside0.mk (Kd.R_after (ok := (fun k_ => some k_ ≠ (u295004 : Value).ownBlock ∧ some k_ ≠ (v313 : Value).ownBlock ∧ k_ ≠ gb290)) (by (with_reducible repeat (first | apply Kd.R_alloc | apply Kd.R_drewN | apply Kd.R_drew)); exact Kd.R_mono HO_283004.out (fun _ hk => ⟨⟨hk.1.1.1, ⟨hk.2, hk.1.1.2⟩⟩, hk.1.2⟩)) hg hat)
               have n1_ := Aside0.mk (Kd.R_after (ok := (fun k_ => some k_ ≠ (.slice Ao13 t279.length co13 : Value).ownBlock ∧ some k_ ≠ (v313 : Value).ownBlock ∧ k_ ≠ gb290)) (by (with_reducible repeat (first | apply Kd.R_alloc | apply Kd.R_drewN | apply Kd.R_drew)); exact Kd.R_mono HO_295004.out (fun _ hk => ⟨⟨hk.1.1.1, ⟨hk.2, hk.1.1.2⟩⟩, hk.1.2⟩)) hg hat)
               have n2_ := Aside0.mk (blk_grown (g := gb282) (o := .cells #[.int .i64 t275, .int .i64 t276, .int .i64 t277, .int .i64 t278, .slice Ao13 t279.length co13] 34 (0, 0)) z17x49 hg (Kd.R_ne HO308.out BK282.out (by decide)))
               have n3_ := Aside0.mk (blk_grown (g := gb290) (o := .cells #[.int .i64 t283, .int .i64 t284, .int .i64 t285, .int .i64 t286, .int .i64 t287, .int .i64 t288, .int .i64 t289] 41 (0, 0)) z17x50 hg (Kd.R_away HO308.out (fun _ hk => hk.1.2)))
               have n4_ := Aside0.mk (blk_grown (g := gb294) (o := .cells #[.int .i64 t275, .int .i64 t276, .int .i64 t277, .int .i64 t278, u295004] 34 (0, 0)) z17x51 hg (Kd.R_ne HO308.out BK294.out (by decide)))
               have n5_ := Aside0.mk (blk_grown (g := gb305) (o := .cells #[.int .i64 t275, .int .i64 t276, .int .i64 t277, .int .i64 t278, .slice Ao13 t279.length co13] 34 (0, 0)) z17x52 hg (Kd.R_ne HO308.out BK305.out (by decide)))
               have n6_ := Aside0.mk (Kd.R_after (ok := (fun k_ => some k_ ≠ (.slice Ao13 t279.length co13 : Value).ownBlock ∧ some k_ ≠ (u295004 : Value).ownBlock ∧ k_ ≠ gb290)) (by (with_reducible repeat (first | apply Kd.R_alloc | apply Kd.R_drewN | apply Kd.R_drew)); exact Kd.R_mono HO314.out (fun _ hk => ⟨⟨hk.1.1.1.2, ⟨hk.1.1.2, hk.2⟩⟩, hk.1.2⟩)) hg hat)
               have n7_ := Aside0.mk (hb)
               have n8_ := Aside0.mk (ho)
               clear HO_283004
               clear HO_295004
               clear BK282
               clear BK290
               clear BK294
               clear BK305
               clear HO314
               clear HB
               clear HO308
               have HO_283004 := n0_
               have HO_295004 := n1_
               have BK282 := n2_
               have BK290 := n3_
               have BK294 := n4_
               have BK305 := n5_
               have HO314 := n6_
               have HB := n7_
               have HO311 := n8_
               clear n0_ n1_ n2_ n3_ n4_ n5_ n6_ n7_ n8_
               clear ho hb hg hat
               refine hK.out _ _ ⟨(blk_cell BK282.out 0).trans rfl, (blk_cell BK282.out 1).trans rfl, (blk_cell BK282.out 2).trans rfl, (blk_cell BK282.out 3).trans rfl, (blk_cell BK282.out 4).trans rfl, (blk_cell BK290.out 0).trans rfl, (blk_cell BK290.out 1).trans rfl, (blk_cell BK290.out 2).trans rfl, (blk_cell BK290.out 3).trans rfl, (blk_cell BK290.out 4).trans rfl, (blk_cell BK290.out 5).trans rfl, (blk_cell BK290.out 6).trans rfl⟩ (fun hHeld => ?_)
               clear hK K
               refine norm_ (a' := ?_) ?_ ?_
               rotate_left
               ·show Act.put _ (some 63) _ = _
                simp only [Act.put, List.setIfInBounds_toArray, List.set_cons_zero, List.set_cons_succ, i64_w, i32_w]
                rfl
               exact norm_ z17x59 (hCont (v307, v310, v313) _ ⟨hHeld, (by (with_reducible repeat (first | apply Kd.R_alloc | apply Kd.R_drewN | apply Kd.R_drew)); exact Kd.R_mono HO311.out (fun _ hk => ⟨hk.2.2.1, ⟨hk.1, ⟨hk.2.1, hk.2.2.2⟩⟩⟩)), (by (with_reducible repeat (first | apply Kd.R_alloc | apply Kd.R_drewN | apply Kd.R_drew)); exact Kd.R_mono HO314.out (fun _ hk => ⟨hk.2, ⟨hk.1.1, ⟨hk.1.2.1, hk.1.2.2⟩⟩⟩)), z17x43, z17x44, z17x49, z17x50, z17x51, z17x52, z17x28⟩)
             ·skip
              refine Kd.R_lit_step k41 _ 41 ?hg (N := 65) ?hd (xs := ([(⟨t283, t284, t285, t286, t287, t288, t289⟩ : S41)] : List (S41))) (inner := [.int .i64 t283, .int .i64 t284, .int .i64 t285, .int .i64 t286, .int .i64 t287, .int .i64 t288, .int .i64 t289]) (ok := fun _ => True) (okp := fun _ => True) ?hr ?hp (fun _ hk => hk) trivial (Below.refl _ _) (Nat.le_refl _) (by simp) ?_; (case hd => rfl); (case hg => rfl); (case hr => first | (go_simp; done) | (go_simp; rfl)); (case hp => exact (Reps.c7 (show Kd.M k41 _ _ _ (⟨t283, t284, t285, t286, t287, t288, t289⟩ : S41) [.int .i64 t283, .int .i64 t284, .int .i64 t285, .int .i64 t286, .int .i64 t287, .int .i64 t288, .int .i64 t289] from (k41_mkM _ _ _ (⟨t283, t284, t285, t286, t287, t288, t289⟩ : S41) )) (Reps.none _ _)))
              intro v313 w68 ho69 hb hg_ hnew_
              clear hg_ hnew_
              (first | rw [← Ny312.out] at ho69 | (simp only [Int.reduceToNat] at ho69; rw [← Ny312.out] at ho69))
              have n0_ := Aside0.mk (Kd.R_elder' z17x54 (Kd.R_base ho69) hb)
              have n1_ := Aside0.mk (Kd.R_elder' z17x55 (Kd.R_base ho69) hb)
              have n2_ := Aside0.mk (Kd.R_lower (Kd.R_newB (Kd.R_new' (Kd.R_new' ho69 (Kd.R_lt z17x54)) (Kd.R_lt z17x55)) (g := gb290) (o := .cells #[.int .i64 t283, .int .i64 t284, .int .i64 t285, .int .i64 t286, .int .i64 t287, .int .i64 t288, .int .i64 t289] 41 (0, 0)) z17x50) (below_size z17x28))
              have n3_ := Aside0.mk (blk_below (g := gb282) (o := .cells #[.int .i64 t275, .int .i64 t276, .int .i64 t277, .int .i64 t278, .slice Ao13 t279.length co13] 34 (0, 0)) z17x49 hb)
              have n4_ := Aside0.mk (blk_below (g := gb290) (o := .cells #[.int .i64 t283, .int .i64 t284, .int .i64 t285, .int .i64 t286, .int .i64 t287, .int .i64 t288, .int .i64 t289] 41 (0, 0)) z17x50 hb)
              have n5_ := Aside0.mk (blk_below (g := gb294) (o := .cells #[.int .i64 t275, .int .i64 t276, .int .i64 t277, .int .i64 t278, u295004] 34 (0, 0)) z17x51 hb)
              have n6_ := Aside0.mk (blk_below (g := gb305) (o := .cells #[.int .i64 t275, .int .i64 t276, .int .i64 t277, .int .i64 t278, .slice Ao13 t279.length co13] 34 (0, 0)) z17x52 hb)
              have n7_ := Aside0.mk (below_step z17x28 hb)
              clear HO_283004
              clear HO_295004
              clear BK282
              clear BK290
              clear BK294
              clear BK305
              clear HB
              have HO_283004 := n0_
              have HO_295004 := n1_
              have HO314 := n2_
              have BK282 := n3_
              have BK290 := n4_
              have BK294 := n5_
              have BK305 := n6_
              have HB := n7_
              clear n0_ n1_ n2_ n3_ n4_ n5_ n6_ n7_
              clear hb ho69
              refine hK.out _ _ ⟨(blk_cell BK282.out 0).trans rfl, (blk_cell BK282.out 1).trans rfl, (blk_cell BK282.out 2).trans rfl, (blk_cell BK282.out 3).trans rfl, (blk_cell BK282.out 4).trans rfl, (blk_cell BK290.out 0).trans rfl, (blk_cell BK290.out 1).trans rfl, (blk_cell BK290.out 2).trans rfl, (blk_cell BK290.out 3).trans rfl, (blk_cell BK290.out 4).trans rfl, (blk_cell BK290.out 5).trans rfl, (blk_cell BK290.out 6).trans rfl⟩ (fun hHeld => ?_)
              clear hK K
              refine norm_ (a' := ?_) ?_ ?_
              rotate_left
              ·show Act.put _ (some 65) _ = _
               simp only [Act.put, List.setIfInBounds_toArray, List.set_cons_zero, List.set_cons_succ, i64_w, i32_w]
               rfl
              refine one_ (i := 0) (N := some 60) #[true, true, true, false, true, true, false, false, false] rfl rfl (one_of HT_.out (by kernel_rfl)) (by decide) (fun K hK => ?_)
              refine Kd.R_lit_step k41 _ 41 ?hg (N := 60) ?hd (xs := ([] : List (S41))) (inner := []) (ok := fun _ => True) (okp := fun _ => True) ?hr ?hp (fun _ hk => hk) trivial (Below.refl _ _) (Nat.le_refl _) (by simp) ?_; (case hd => rfl); (case hg => rfl); (case hr => first | (go_simp; done) | (go_simp; rfl)); (case hp => exact (Reps.none _ _))
              intro v307 w70 ho71 hb hg_ hnew_
              clear hg_ hnew_
              (first | rw [← Ny306.out] at ho71 | (simp only [Int.reduceToNat] at ho71; rw [← Ny306.out] at ho71))
              have n0_ := Aside0.mk (Kd.R_elder' z17x54 (Kd.R_base ho71) hb)
              have n1_ := Aside0.mk (Kd.R_elder' z17x55 (Kd.R_base ho71) hb)
              have n2_ := Aside0.mk (Kd.R_elder' z17x58 (Kd.R_base ho71) hb)
              have n3_ := Aside0.mk (Kd.R_lower (Kd.R_newB (Kd.R_new' (Kd.R_new' (Kd.R_new' ho71 (Kd.R_lt z17x54)) (Kd.R_lt z17x55)) (Kd.R_lt z17x58)) (g := gb290) (o := .cells #[.int .i64 t283, .int .i64 t284, .int .i64 t285, .int .i64 t286, .int .i64 t287, .int .i64 t288, .int .i64 t289] 41 (0, 0)) z17x50) (below_size z17x28))
              have n4_ := Aside0.mk (blk_below (g := gb282) (o := .cells #[.int .i64 t275, .int .i64 t276, .int .i64 t277, .int .i64 t278, .slice Ao13 t279.length co13] 34 (0, 0)) z17x49 hb)
              have n5_ := Aside0.mk (blk_below (g := gb290) (o := .cells #[.int .i64 t283, .int .i64 t284, .int .i64 t285, .int .i64 t286, .int .i64 t287, .int .i64 t288, .int .i64 t289] 41 (0, 0)) z17x50 hb)
              have n6_ := Aside0.mk (blk_below (g := gb294) (o := .cells #[.int .i64 t275, .int .i64 t276, .int .i64 t277, .int .i64 t278, u295004] 34 (0, 0)) z17x51 hb)
              have n7_ := Aside0.mk (blk_below (g := gb305) (o := .cells #[.int .i64 t275, .int .i64 t276, .int .i64 t277, .int .i64 t278, .slice Ao13 t279.length co13] 34 (0, 0)) z17x52 hb)
              have n8_ := Aside0.mk (below_step z17x28 hb)
              clear HO_283004
              clear HO_295004
              clear HO314
              clear BK282
              clear BK290
              clear BK294
              clear BK305
              clear HB
              have HO_283004 := n0_
              have HO_295004 := n1_
              have HO314 := n2_
              have HO308 := n3_
              have BK282 := n4_
              have BK290 := n5_
              have BK294 := n6_
              have BK305 := n7_
              have HB := n8_
              clear n0_ n1_ n2_ n3_ n4_ n5_ n6_ n7_ n8_
              clear hb ho71
              refine hK.out _ _ ⟨(blk_cell BK282.out 0).trans rfl, (blk_cell BK282.out 1).trans rfl, (blk_cell BK282.out 2).trans rfl, (blk_cell BK282.out 3).trans rfl, (blk_cell BK282.out 4).trans rfl, (blk_cell BK290.out 0).trans rfl, (blk_cell BK290.out 1).trans rfl, (blk_cell BK290.out 2).trans rfl, (blk_cell BK290.out 3).trans rfl, (blk_cell BK290.out 4).trans rfl, (blk_cell BK290.out 5).trans rfl, (blk_cell BK290.out 6).trans rfl⟩ (fun hHeld => ?_)
              clear hK K
              refine norm_ (a' := ?_) ?_ ?_
              rotate_left
              ·show Act.put _ (some 60) _ = _
               simp only [Act.put, List.setIfInBounds_toArray, List.set_cons_zero, List.set_cons_succ, i64_w, i32_w]
               rfl
              refine one_ (i := 3) (N := some 63) #[true, true, true, true, true, true, false, false, false] rfl rfl (one_of HT_.out (by kernel_rfl)) (by decide) (fun K hK => ?_)
              refine Kd.R_append_rows_step k41 (w0 := w) w.heap.size (by rfl) (.tmp 60) (.tmp 62) 32 41 (.agg #[(.int .i64 0), (.int .i64 0), (.int .i64 0), (.int .i64 0), (.int .i64 0), (.int .i64 0), (.int .i64 0)]) 56 rfl Try.underlying32 info41 rfl (by decide) (by omega) v307 y306 t279 _ _ _ (fun k_ => some k_ ≠ (.slice Ao13 t279.length co13 : Value).ownBlock ∧ some k_ ≠ (u295004 : Value).ownBlock ∧ some k_ ≠ (v313 : Value).ownBlock ∧ k_ ≠ gb290) (fun _ => False) rfl rfl ?aO ?aR (fun _ _ h => h) (fun _ h => h.elim) ?aF ?aB ?aS ?aL ?_
              (case aR => repeat (first | exact (Kd.R_reads' HO_283004.out).2.2 | (with_reducible refine Kd.C_alloc ?_ _) | (with_reducible refine Kd.C_drewN ?_ _) | (with_reducible refine Kd.C_drew ?_)))
              (case aB => exact z17x28)
              (case aF => exact (fun k_ hk => ⟨Kd.fresh' (Kd.R_lt z17x54) k_ hk, Kd.fresh' (Kd.R_lt z17x55) k_ hk, Kd.fresh' (Kd.R_lt z17x58) k_ hk, Kd.freshB (g := gb290) (o := .cells #[.int .i64 t283, .int .i64 t284, .int .i64 t285, .int .i64 t286, .int .i64 t287, .int .i64 t288, .int .i64 t289] 41 (0, 0)) z17x50 k_ hk⟩))
              (case aO => exact (by (with_reducible repeat (first | apply Kd.R_alloc | apply Kd.R_drewN | apply Kd.R_drew)); exact Kd.R_mono HO308.out (fun _ hk => ⟨hk.1.1.1.2, ⟨hk.1.1.2, ⟨hk.1.2, hk.2⟩⟩⟩)))
              (case aS => exact (below_size z17x28))
              (case aL => have := LMc55.out; omega)
              intro v310 w72 ho hb hg hat
              rw [← Ny309.out] at ho
              have n0_ := Aside0.mk (Kd.R_after (ok := (fun k_ => some k_ ≠ (u295004 : Value).ownBlock ∧ some k_ ≠ (v313 : Value).ownBlock ∧ k_ ≠ gb290)) (by (with_reducible repeat (first | apply Kd.R_alloc | apply Kd.R_drewN | apply Kd.R_drew)); exact Kd.R_mono HO_283004.out (fun _ hk => ⟨⟨hk.1.1.1, ⟨hk.1.2, hk.1.1.2⟩⟩, hk.2⟩)) hg hat)
              have n1_ := Aside0.mk (Kd.R_after (ok := (fun k_ => some k_ ≠ (.slice Ao13 t279.length co13 : Value).ownBlock ∧ some k_ ≠ (v313 : Value).ownBlock ∧ k_ ≠ gb290)) (by (with_reducible repeat (first | apply Kd.R_alloc | apply Kd.R_drewN | apply Kd.R_drew)); exact Kd.R_mono HO_295004.out (fun _ hk => ⟨⟨hk.1.1.1, ⟨hk.1.2, hk.1.1.2⟩⟩, hk.2⟩)) hg hat)
              have n2_ := Aside0.mk (blk_grown (g := gb282) (o := .cells #[.int .i64 t275, .int .i64 t276, .int .i64 t277, .int .i64 t278, .slice Ao13 t279.length co13] 34 (0, 0)) z17x49 hg (Kd.R_ne HO308.out BK282.out (by decide)))
              have n3_ := Aside0.mk (blk_grown (g := gb290) (o := .cells #[.int .i64 t283, .int .i64 t284, .int .i64 t285, .int .i64 t286, .int .i64 t287, .int .i64 t288, .int .i64 t289] 41 (0, 0)) z17x50 hg (Kd.R_away HO308.out (fun _ hk => hk.2)))
              have n4_ := Aside0.mk (blk_grown (g := gb294) (o := .cells #[.int .i64 t275, .int .i64 t276, .int .i64 t277, .int .i64 t278, u295004] 34 (0, 0)) z17x51 hg (Kd.R_ne HO308.out BK294.out (by decide)))
              have n5_ := Aside0.mk (blk_grown (g := gb305) (o := .cells #[.int .i64 t275, .int .i64 t276, .int .i64 t277, .int .i64 t278, .slice Ao13 t279.length co13] 34 (0, 0)) z17x52 hg (Kd.R_ne HO308.out BK305.out (by decide)))
              have n6_ := Aside0.mk (Kd.R_after (ok := (fun k_ => some k_ ≠ (.slice Ao13 t279.length co13 : Value).ownBlock ∧ some k_ ≠ (u295004 : Value).ownBlock ∧ k_ ≠ gb290)) (by (with_reducible repeat (first | apply Kd.R_alloc | apply Kd.R_drewN | apply Kd.R_drew)); exact Kd.R_mono HO314.out (fun _ hk => ⟨⟨hk.1.1.1.2, ⟨hk.1.1.2, hk.1.2⟩⟩, hk.2⟩)) hg hat)
              have n7_ := Aside0.mk (hb)
              have n8_ := Aside0.mk (ho)
              clear HO_283004
              clear HO_295004
              clear BK282
              clear BK290
              clear BK294
              clear BK305
              clear HO314
              clear HB
              clear HO308
              have HO_283004 := n0_
              have HO_295004 := n1_
              have BK282 := n2_
              have BK290 := n3_
              have BK294 := n4_
              have BK305 := n5_
              have HO314 := n6_
              have HB := n7_
              have HO311 := n8_
              clear n0_ n1_ n2_ n3_ n4_ n5_ n6_ n7_ n8_
              clear ho hb hg hat
              refine hK.out _ _ ⟨(blk_cell BK282.out 0).trans rfl, (blk_cell BK282.out 1).trans rfl, (blk_cell BK282.out 2).trans rfl, (blk_cell BK282.out 3).trans rfl, (blk_cell BK282.out 4).trans rfl, (blk_cell BK290.out 0).trans rfl, (blk_cell BK290.out 1).trans rfl, (blk_cell BK290.out 2).trans rfl, (blk_cell BK290.out 3).trans rfl, (blk_cell BK290.out 4).trans rfl, (blk_cell BK290.out 5).trans rfl, (blk_cell BK290.out 6).trans rfl⟩ (fun hHeld => ?_)
              clear hK K
              refine norm_ (a' := ?_) ?_ ?_
              rotate_left
              ·show Act.put _ (some 63) _ = _
               simp only [Act.put, List.setIfInBounds_toArray, List.set_cons_zero, List.set_cons_succ, i64_w, i32_w]
               rfl
              exact norm_ z17x59 (hCont (v307, v310, v313) _ ⟨hHeld, (by (with_reducible repeat (first | apply Kd.R_alloc | apply Kd.R_drewN | apply Kd.R_drew)); exact Kd.R_mono HO311.out (fun _ hk => ⟨hk.2.2.1, ⟨hk.1, ⟨hk.2.1, hk.2.2.2⟩⟩⟩)), (by (with_reducible repeat (first | apply Kd.R_alloc | apply Kd.R_drewN | apply Kd.R_drew)); exact Kd.R_mono HO314.out (fun _ hk => ⟨hk.2, ⟨hk.1.1, ⟨hk.1.2.1, hk.1.2.2⟩⟩⟩)), z17x43, z17x44, z17x49, z17x50, z17x51, z17x52, z17x28⟩)
            rintro ⟨v307, v310, v313⟩ w73 ⟨hS_, h0_, h1_, h2_, h3_, h4_, h5_, h6_, h7_, h8_⟩
            have n0_ : Aside0 (Kd.R k41 41 w73 w.heap.size (fun k_ => some k_ ≠ (v313 : Value).ownBlock ∧ some k_ ≠ (.slice Ao13 t279.length co13 : Value).ownBlock ∧ some k_ ≠ (u295004 : Value).ownBlock ∧ k_ ≠ gb290) v310 y309) := ⟨h0_⟩
            have n1_ : Aside0 (Kd.R k41 41 w73 w.heap.size (fun k_ => some k_ ≠ (v310 : Value).ownBlock ∧ some k_ ≠ (.slice Ao13 t279.length co13 : Value).ownBlock ∧ some k_ ≠ (u295004 : Value).ownBlock ∧ k_ ≠ gb290) v313 y312) := ⟨h1_⟩
            have n2_ : Aside0 (Kd.R k41 41 w73 w.heap.size (fun k_ => some k_ ≠ (v310 : Value).ownBlock ∧ some k_ ≠ (v313 : Value).ownBlock ∧ some k_ ≠ (u295004 : Value).ownBlock ∧ k_ ≠ gb290) (.slice Ao13 t279.length co13) t279) := ⟨h2_⟩
            have n3_ : Aside0 (Kd.R k41 41 w73 w.heap.size (fun k_ => some k_ ≠ (v310 : Value).ownBlock ∧ some k_ ≠ (v313 : Value).ownBlock ∧ some k_ ≠ (.slice Ao13 t279.length co13 : Value).ownBlock ∧ k_ ≠ gb290) u295004 x295004_3) := ⟨h3_⟩
            have n4_ : Aside0 (w73.heap[gb282]? = some (.cells #[.int .i64 t275, .int .i64 t276, .int .i64 t277, .int .i64 t278, .slice Ao13 t279.length co13] 34 (0, 0))) := ⟨h4_⟩
            have n5_ : Aside0 (w73.heap[gb290]? = some (.cells #[.int .i64 t283, .int .i64 t284, .int .i64 t285, .int .i64 t286, .int .i64 t287, .int .i64 t288, .int .i64 t289] 41 (0, 0))) := ⟨h5_⟩
            have n6_ : Aside0 (w73.heap[gb294]? = some (.cells #[.int .i64 t275, .int .i64 t276, .int .i64 t277, .int .i64 t278, u295004] 34 (0, 0))) := ⟨h6_⟩
            have n7_ : Aside0 (w73.heap[gb305]? = some (.cells #[.int .i64 t275, .int .i64 t276, .int .i64 t277, .int .i64 t278, .slice Ao13 t279.length co13] 34 (0, 0))) := ⟨h7_⟩
            have n8_ : Aside0 (Below w.heap.size w w73) := ⟨h8_⟩
            clear HO_283004
            clear HO_295004
            clear BK282
            clear BK290
            clear BK294
            clear BK305
            clear HB
            clear h0_ h1_ h2_ h3_ h4_ h5_ h6_ h7_ h8_
            have HO311 := n0_
            have HO314 := n1_
            have HO_283004 := n2_
            have HO_295004 := n3_
            have BK282 := n4_
            have BK290 := n5_
            have BK294 := n6_
            have BK305 := n7_
            have HB := n8_
            clear n0_ n1_ n2_ n3_ n4_ n5_ n6_ n7_ n8_
            have hHeld : w73.cell? ⟨gb282, 0, none⟩ = some (.int .i64 t275) ∧ w73.cell? ⟨gb282, 1, none⟩ = some (.int .i64 t276) ∧ w73.cell? ⟨gb282, 2, none⟩ = some (.int .i64 t277) ∧ w73.cell? ⟨gb282, 3, none⟩ = some (.int .i64 t278) ∧ w73.cell? ⟨gb282, 4, none⟩ = some (.slice Ao13 t279.length co13) ∧ w73.cell? ⟨gb290, 0, none⟩ = some (.int .i64 t283) ∧ w73.cell? ⟨gb290, 1, none⟩ = some (.int .i64 t284) ∧ w73.cell? ⟨gb290, 2, none⟩ = some (.int .i64 t285) ∧ w73.cell? ⟨gb290, 3, none⟩ = some (.int .i64 t286) ∧ w73.cell? ⟨gb290, 4, none⟩ = some (.int .i64 t287) ∧ w73.cell? ⟨gb290, 5, none⟩ = some (.int .i64 t288) ∧ w73.cell? ⟨gb290, 6, none⟩ = some (.int .i64 t289) := hS_
            obtain ⟨Ao75, co75, eo75⟩ := Kd.R_slice HO314.out
            (first | subst eo75 | (injection eo75 with f1_ f2_ f3_; have f4_ := f1_.symm; have f5_ := f3_.symm; clear f1_ f2_ f3_; subst f4_; subst f5_))
            refine norm_ (a' := ?_) ?_ ?_
            rotate_left
            ·simp only [putAll, Act.put, List.setIfInBounds_toArray, List.set_cons_zero, List.set_cons_succ]
             rfl
            refine one_ (i := 6) (N := some 66) #[true, true, true, true, true, true, true, false, false] rfl rfl (one_of HT_.out (by kernel_rfl)) (by decide) (fun K hK => ?_)
            refine Kd.R_append_rows_step k41 (w0 := w) w.heap.size (by rfl) (.tmp 63) (.tmp 65) 32 41 (.agg #[(.int .i64 0), (.int .i64 0), (.int .i64 0), (.int .i64 0), (.int .i64 0), (.int .i64 0), (.int .i64 0)]) 56 rfl Try.underlying32 info41 rfl (by decide) (by omega) v310 y309 y312 _ _ _ (fun k_ => some k_ ≠ (.slice Ao13 t279.length co13 : Value).ownBlock ∧ some k_ ≠ (u295004 : Value).ownBlock ∧ some k_ ≠ (.slice Ao75 y312.length co75 : Value).ownBlock ∧ k_ ≠ gb290) (fun _ => False) rfl rfl ?aO ?aR (fun _ _ h => h) (fun _ h => h.elim) ?aF ?aB ?aS ?aL ?_
            (case aR => repeat (first | exact (Kd.R_reads' HO314.out).2.2 | (with_reducible refine Kd.C_alloc ?_ _) | (with_reducible refine Kd.C_drewN ?_ _) | (with_reducible refine Kd.C_drew ?_)))
            (case aB => exact z17x28)
            (case aF => exact (fun k_ hk => ⟨Kd.fresh' (Kd.R_lt z17x54) k_ hk, Kd.fresh' (Kd.R_lt z17x55) k_ hk, Kd.fresh' (Kd.R_lt z17x58) k_ hk, Kd.freshB (g := gb290) (o := .cells #[.int .i64 t283, .int .i64 t284, .int .i64 t285, .int .i64 t286, .int .i64 t287, .int .i64 t288, .int .i64 t289] 41 (0, 0)) z17x50 k_ hk⟩))
            (case aO => exact (by (with_reducible repeat (first | apply Kd.R_alloc | apply Kd.R_drewN | apply Kd.R_drew)); exact Kd.R_mono HO311.out (fun _ hk => ⟨hk.2.1, ⟨hk.2.2.1, ⟨hk.1, hk.2.2.2⟩⟩⟩)))
            (case aS => exact (below_size z17x28))
            (case aL => have := LMc56.out; omega)
            intro v316 w74 ho hb hg hat
            rw [← Ny315.out] at ho
            have n0_ := Aside0.mk (Kd.R_after (ok := (fun k_ => some k_ ≠ (u295004 : Value).ownBlock ∧ some k_ ≠ (.slice Ao75 y312.length co75 : Value).ownBlock ∧ k_ ≠ gb290)) (by (with_reducible repeat (first | apply Kd.R_alloc | apply Kd.R_drewN | apply Kd.R_drew)); exact Kd.R_mono HO_283004.out (fun _ hk => ⟨⟨hk.2.2.1, ⟨hk.2.1, hk.2.2.2⟩⟩, hk.1⟩)) hg hat)
            have n1_ := Aside0.mk (Kd.R_after (ok := (fun k_ => some k_ ≠ (.slice Ao13 t279.length co13 : Value).ownBlock ∧ some k_ ≠ (.slice Ao75 y312.length co75 : Value).ownBlock ∧ k_ ≠ gb290)) (by (with_reducible repeat (first | apply Kd.R_alloc | apply Kd.R_drewN | apply Kd.R_drew)); exact Kd.R_mono HO_295004.out (fun _ hk => ⟨⟨hk.2.2.1, ⟨hk.2.1, hk.2.2.2⟩⟩, hk.1⟩)) hg hat)
            have n2_ := Aside0.mk (blk_grown (g := gb282) (o := .cells #[.int .i64 t275, .int .i64 t276, .int .i64 t277, .int .i64 t278, .slice Ao13 t279.length co13] 34 (0, 0)) z17x49 hg (Kd.R_ne HO311.out BK282.out (by decide)))
            have n3_ := Aside0.mk (blk_grown (g := gb290) (o := .cells #[.int .i64 t283, .int .i64 t284, .int .i64 t285, .int .i64 t286, .int .i64 t287, .int .i64 t288, .int .i64 t289] 41 (0, 0)) z17x50 hg (Kd.R_away HO311.out (fun _ hk => hk.2.2.2)))
            have n4_ := Aside0.mk (blk_grown (g := gb294) (o := .cells #[.int .i64 t275, .int .i64 t276, .int .i64 t277, .int .i64 t278, u295004] 34 (0, 0)) z17x51 hg (Kd.R_ne HO311.out BK294.out (by decide)))
            have n5_ := Aside0.mk (blk_grown (g := gb305) (o := .cells #[.int .i64 t275, .int .i64 t276, .int .i64 t277, .int .i64 t278, .slice Ao13 t279.length co13] 34 (0, 0)) z17x52 hg (Kd.R_ne HO311.out BK305.out (by decide)))
            have n6_ := Aside0.mk (Kd.R_after (ok := (fun k_ => some k_ ≠ (.slice Ao13 t279.length co13 : Value).ownBlock ∧ some k_ ≠ (u295004 : Value).ownBlock ∧ k_ ≠ gb290)) (by (with_reducible repeat (first | apply Kd.R_alloc | apply Kd.R_drewN | apply Kd.R_drew)); exact Kd.R_mono HO314.out (fun _ hk => ⟨⟨hk.2.1, ⟨hk.2.2.1, hk.2.2.2⟩⟩, hk.1⟩)) hg hat)
            have n7_ := Aside0.mk (hb)
            have n8_ := Aside0.mk (ho)
            clear HO_283004
            clear HO_295004
            clear BK282
            clear BK290
            clear BK294
            clear BK305
            clear HO314
            clear HB
            clear HO311
            have HO_283004 := n0_
            have HO_295004 := n1_
            have BK282 := n2_
            have BK290 := n3_
            have BK294 := n4_
            have BK305 := n5_
            have HO314 := n6_
            have HB := n7_
            have HO317 := n8_
            clear n0_ n1_ n2_ n3_ n4_ n5_ n6_ n7_ n8_
            clear ho hb hg hat
            obtain ⟨Ao76, co76, eo76⟩ := Kd.R_slice HO317.out
            (first | subst eo76 | (injection eo76 with f1_ f2_ f3_; have f4_ := f1_.symm; have f5_ := f3_.symm; clear f1_ f2_ f3_; subst f4_; subst f5_))
            refine hK.out _ _ ⟨(blk_cell BK282.out 0).trans rfl, (blk_cell BK282.out 1).trans rfl, (blk_cell BK282.out 2).trans rfl, (blk_cell BK282.out 3).trans rfl, (blk_cell BK282.out 4).trans rfl, (blk_cell BK290.out 0).trans rfl, (blk_cell BK290.out 1).trans rfl, (blk_cell BK290.out 2).trans rfl, (blk_cell BK290.out 3).trans rfl, (blk_cell BK290.out 4).trans rfl, (blk_cell BK290.out 5).trans rfl, (blk_cell BK290.out 6).trans rfl⟩ (fun hHeld => ?_)
            clear hK K
            refine norm_ (a' := ?_) ?_ ?_
            rotate_left
            ·show Act.put _ (some 66) _ = _
             simp only [Act.put, List.setIfInBounds_toArray, List.set_cons_zero, List.set_cons_succ, i64_w, i32_w]
             rfl
            refine pure_ (i := 7) (N := some 67) (v := ?_) (a' := ?_) #[true, true, true, true, true, true, true, true, false] rfl rfl (any_of HT_.out (by kernel_rfl)) (fun _ _ _ h => h) (Or.inl ⟨by rfl, ?_⟩) ?_ ?_
            rotate_left
            ·intro w'
             go_simp
             with_reducible rfl
            rotate_left
            ·simp only [Act.put, List.setIfInBounds_toArray, List.set_cons_zero, List.set_cons_succ, i64_w, i32_w]
             rfl
            refine one_ (i := 8) (N := none) #[true, true, true, true, true, true, true, true, true] rfl rfl (one_of HT_.out (by kernel_rfl)) (by decide) (fun K hK => ?_)
            have hs77 : w74.cell? ⟨gb305, 4, none⟩ = some (.slice Ao13 t279.length co13) := (blk_cell BK305.out 4).trans rfl
            have hfs77 := blk_frozen BK305.out 4
            have hns77_0 := NB282_305.out
            have hns77_1 := NB290_305.out
            have hns77_2 := NB294_305.out
            have hms77_0 := NB305_282.out
            have hms77_1 := NB305_290.out
            have hms77_2 := NB305_294.out
            refine skip_ (w1 := ?_) (by rfl) rfl ?_ ?_
            rotate_left
            ·go_simp
             rfl
            refine hK.out _ _ ⟨((cell_far (p := ⟨gb305, _, none⟩) NB282_305.out _).trans (hHeld.1)), ((cell_far (p := ⟨gb305, _, none⟩) NB282_305.out _).trans (hHeld.2.1)), ((cell_far (p := ⟨gb305, _, none⟩) NB282_305.out _).trans (hHeld.2.2.1)), ((cell_far (p := ⟨gb305, _, none⟩) NB282_305.out _).trans (hHeld.2.2.2.1)), ((cell_far (p := ⟨gb305, _, none⟩) NB282_305.out _).trans (hHeld.2.2.2.2.1)), ((cell_far (p := ⟨gb305, _, none⟩) NB290_305.out _).trans (hHeld.2.2.2.2.2.1)), ((cell_far (p := ⟨gb305, _, none⟩) NB290_305.out _).trans (hHeld.2.2.2.2.2.2.1)), ((cell_far (p := ⟨gb305, _, none⟩) NB290_305.out _).trans (hHeld.2.2.2.2.2.2.2.1)), ((cell_far (p := ⟨gb305, _, none⟩) NB290_305.out _).trans (hHeld.2.2.2.2.2.2.2.2.1)), ((cell_far (p := ⟨gb305, _, none⟩) NB290_305.out _).trans (hHeld.2.2.2.2.2.2.2.2.2.1)), ((cell_far (p := ⟨gb305, _, none⟩) NB290_305.out _).trans (hHeld.2.2.2.2.2.2.2.2.2.2.1)), ((cell_far (p := ⟨gb305, _, none⟩) NB290_305.out _).trans (hHeld.2.2.2.2.2.2.2.2.2.2.2))⟩ (fun hHeld => ?_)
            clear hK K
            refine done_ (done_of HT_.out (by kernel_rfl)) ?_
            go_upto_region 16 with (fail)
            go_cut [74] (fun v74 wc => ∃ (kq : Nat) (x74_56 : Bool), v74 = .bool x74_56 ∧ Aside0 (laws_FnMsgSeals.j3 kq x74_56 t275 t276 t277 t278 t279 t283 t284 t285 t286 t287 t288 t289 t275 t276 t277 t278 x295004_3 = some r) ∧ Aside0 (kq ≤ k3) ∧ Aside0 (Kd.R k41 41 wc w.heap.size (fun k_ => some k_ ≠ (u295004 : Value).ownBlock ∧ some k_ ≠ ((.slice Ao76 y315.length co76) : Value).ownBlock ∧ k_ ≠ gb290) (.slice Ao13 t279.length co13) t279) ∧ Aside0 (Kd.R k41 41 wc w.heap.size (fun k_ => some k_ ≠ ((.slice Ao13 t279.length co13) : Value).ownBlock ∧ some k_ ≠ ((.slice Ao76 y315.length co76) : Value).ownBlock ∧ k_ ≠ gb290) u295004 x295004_3) ∧ Aside0 (Kd.R k41 41 wc w.heap.size (fun k_ => some k_ ≠ ((.slice Ao13 t279.length co13) : Value).ownBlock ∧ some k_ ≠ (u295004 : Value).ownBlock ∧ k_ ≠ gb290) (.slice Ao76 y315.length co76) y315) ∧ Aside0 (wc.heap[gb282]? = some (.cells #[.int .i64 t275, .int .i64 t276, .int .i64 t277, .int .i64 t278, (.slice Ao13 t279.length co13)] 34 (0, 0))) ∧ Aside0 (wc.heap[gb290]? = some (.cells #[.int .i64 t283, .int .i64 t284, .int .i64 t285, .int .i64 t286, .int .i64 t287, .int .i64 t288, .int .i64 t289] 41 (0, 0))) ∧ Aside0 (wc.heap[gb294]? = some (.cells #[.int .i64 t275, .int .i64 t276, .int .i64 t277, .int .i64 t278, u295004] 34 (0, 0))) ∧ Aside0 (wc.heap[gb305]? = some (.cells #[.int .i64 t275, .int .i64 t276, .int .i64 t277, .int .i64 t278, (.slice Ao76 y315.length co76)] 34 (0, 0))) ∧ Aside0 (Below w.heap.size w wc))
            case first =>
             have H := HC57.out
             clear HC57
             replace H := Option.bind_eq_some_iff.mp H
             obtain ⟨t318, A780, H⟩ := H
             replace H : (if t318 = true then ((impl_MsgOk.f t275 t276 t277 t278 y315).bind fun t319 => (laws_FnMsgSeals.j3 k3 t319 t275 t276 t277 t278 t279 t283 t284 t285 t286 t287 t288 t289 t275 t276 t277 t278 x295004_3)) else (laws_FnMsgSeals.j3 k3 true t275 t276 t277 t278 t279 t283 t284 t285 t286 t287 t288 t289 t275 t276 t277 t278 x295004_3)) = some r := H
             have A78 := Aside0.mk A780
             clear A780
             by_cases c79 : t318 = true
             ·subst c79
              rw [if_pos rfl] at H
              replace H := Option.bind_eq_some_iff.mp H
              obtain ⟨t319, A800, H⟩ := H
              replace H : (laws_FnMsgSeals.j3 k3 t319 t275 t276 t277 t278 t279 t283 t284 t285 t286 t287 t288 t289 t275 t276 t277 t278 x295004_3) = some r := H
              have A80 := Aside0.mk A800
              clear A800
              have H' := Aside0.mk H
              clear H
              have hnb81 := NB294_282.out
              have hnc81 := NB282_294.out
              have hnb82 := NB294_290.out
              have hnc82 := NB290_294.out
              have hnb83 := NB294_305.out
              have hnc83 := NB305_294.out
              have hcz84_0 : w74.cell? ⟨gb294, 0, none⟩ = some (.int .i64 t275) := (blk_cell BK294.out 0).trans rfl
              have hcz84_1 : w74.cell? ⟨gb294, 1, none⟩ = some (.int .i64 t276) := (blk_cell BK294.out 1).trans rfl
              have hcz84_2 : w74.cell? ⟨gb294, 2, none⟩ = some (.int .i64 t277) := (blk_cell BK294.out 2).trans rfl
              have hcz84_3 : w74.cell? ⟨gb294, 3, none⟩ = some (.int .i64 t278) := (blk_cell BK294.out 3).trans rfl
              have hcz84_4 : w74.cell? ⟨gb294, 4, none⟩ = some (u295004) := (blk_cell BK294.out 4).trans rfl
              have hfz84_0 := blk_frozen BK294.out 0
              have hfz84_1 := blk_frozen BK294.out 1
              have hfz84_2 := blk_frozen BK294.out 2
              have hfz84_3 := blk_frozen BK294.out 3
              have hfz84_4 := blk_frozen BK294.out 4
              obtain ⟨Ao85, co85, eo85⟩ := Kd.R_slice HO_295004.out
              subst eo85
              go_wp2_with (first | ((with_reducible refine gate_callee (f := 20) rfl ?_); refine goesL_ (some 69) rfl rfl Try.func20 (by kernel_rfl) rfl #[.agg #[.int .i64 t275, .int .i64 t276, .int .i64 t277, .int .i64 t278, .slice Ao85 x295004_3.length co85]] rfl z17x47 ?_; (with_reducible refine (impl_MsgOk.calls t275 t276 t277 t278 _ _ x295004_3 true _ ?side1 ?side2 A78.out).mono ?_); (case side1 => refine (Kd.R_reads' (e := 41) (base := w.heap.size) (ok := fun k_ => ((some k_ ≠ (.slice Ao13 t279.length co13 : Value).ownBlock ∧ (some k_ ≠ (.slice Ao75 y312.length co75 : Value).ownBlock ∧ k_ ≠ gb290)) ∧ some k_ ≠ (.slice Ao76 y315.length co76 : Value).ownBlock)) (n := x295004_3.length) (c := co85) ?_).2.2; exact z17x31); (case side2 => exact (Kd.R_reads' HO_295004.out).2.1); rintro e w86 ⟨rfl, hb⟩; refine ⟨_, rfl, ?_⟩; have n0_ := Aside0.mk (Kd.R_below z17x30 hb); have n1_ := Aside0.mk (Kd.R_below z17x31 hb); have n2_ := Aside0.mk (Kd.R_below z17x32 hb); have n3_ := Aside0.mk (Kd.R_below z17x33 hb); have n4_ := Aside0.mk (blk_below (g := gb282) (o := .cells #[.int .i64 t275, .int .i64 t276, .int .i64 t277, .int .i64 t278, .slice Ao13 t279.length co13] 34 (0, 0)) z17x34 hb); have n5_ := Aside0.mk (blk_below (g := gb290) (o := .cells #[.int .i64 t283, .int .i64 t284, .int .i64 t285, .int .i64 t286, .int .i64 t287, .int .i64 t288, .int .i64 t289] 41 (0, 0)) z17x35 hb); have n6_ := Aside0.mk (blk_below (g := gb294) (o := .cells #[.int .i64 t275, .int .i64 t276, .int .i64 t277, .int .i64 t278, .slice Ao85 x295004_3.length co85] 34 (0, 0)) z17x36 hb); have n7_ := Aside0.mk (blk_below (g := gb305) (o := .cells #[.int .i64 t275, .int .i64 t276, .int .i64 t277, .int .i64 t278, .slice Ao76 y315.length co76] 34 (0, 0)) z17x12 hb); have n8_ := Aside0.mk (below_step z17x28 hb); clear HO_283004; clear HO_295004; clear HO314; clear HO317; clear BK282; clear BK290; clear BK294; clear BK305; clear HB; have HO_283004 := n0_; have HO_295004 := n1_; have HO314 := n2_; have HO317 := n3_; have BK282 := n4_; have BK290 := n5_; have BK294 := n6_; have BK305 := n7_; have HB := n8_; clear n0_ n1_ n2_ n3_ n4_ n5_ n6_ n7_ n8_; (try clear hb); (try clear hb2); (try clear hk); (try clear hi); have hnb87 := NB305_282.out; have hnc87 := NB282_305.out; have hnb88 := NB305_290.out; have hnc88 := NB290_305.out; have hcz89_0 : w86.cell? ⟨gb305, 0, none⟩ = some (.int .i64 t275) := (blk_cell BK305.out 0).trans rfl; have hcz89_1 : w86.cell? ⟨gb305, 1, none⟩ = some (.int .i64 t276) := (blk_cell BK305.out 1).trans rfl; have hcz89_2 : w86.cell? ⟨gb305, 2, none⟩ = some (.int .i64 t277) := (blk_cell BK305.out 2).trans rfl; have hcz89_3 : w86.cell? ⟨gb305, 3, none⟩ = some (.int .i64 t278) := (blk_cell BK305.out 3).trans rfl; have hcz89_4 : w86.cell? ⟨gb305, 4, none⟩ = some (.slice Ao76 y315.length co76) := (blk_cell BK305.out 4).trans rfl; have hfz89_0 := blk_frozen BK305.out 0; have hfz89_1 := blk_frozen BK305.out 1; have hfz89_2 := blk_frozen BK305.out 2; have hfz89_3 := blk_frozen BK305.out 3; have hfz89_4 := blk_frozen BK305.out 4) | (go_at_call 20; (with_reducible refine (impl_MsgOk.calls t275 t276 t277 t278 _ _ y315 t319 _ ?side1 ?side2 A80.out).mono ?_); (case side1 => repeat (first | exact (Kd.R_reads' HO317.out).2.2 | (with_reducible refine Kd.C_alloc ?_ _) | (with_reducible refine Kd.C_drewN ?_ _) | (with_reducible refine Kd.C_drew ?_))); (case side2 => exact (Kd.R_reads' HO317.out).2.1); rintro e w90 ⟨rfl, hb⟩; have n0_ := Aside0.mk (Kd.R_below z17x54 hb); have n1_ := Aside0.mk (Kd.R_below z17x55 hb); have n2_ := Aside0.mk (Kd.R_below z17x58 hb); have n3_ := Aside0.mk (Kd.R_below (by (with_reducible repeat (first | apply Kd.R_alloc | apply Kd.R_drewN | apply Kd.R_drew)); exact HO317.out) hb); have n4_ := Aside0.mk (blk_below (g := gb282) (o := .cells #[.int .i64 t275, .int .i64 t276, .int .i64 t277, .int .i64 t278, .slice Ao13 t279.length co13] 34 (0, 0)) z17x49 hb); have n5_ := Aside0.mk (blk_below (g := gb290) (o := .cells #[.int .i64 t283, .int .i64 t284, .int .i64 t285, .int .i64 t286, .int .i64 t287, .int .i64 t288, .int .i64 t289] 41 (0, 0)) z17x50 hb); have n6_ := Aside0.mk (blk_below (g := gb294) (o := .cells #[.int .i64 t275, .int .i64 t276, .int .i64 t277, .int .i64 t278, .slice Ao85 x295004_3.length co85] 34 (0, 0)) z17x51 hb); have n7_ := Aside0.mk (blk_below (g := gb305) (o := .cells #[.int .i64 t275, .int .i64 t276, .int .i64 t277, .int .i64 t278, .slice Ao76 y315.length co76] 34 (0, 0)) z17x52 hb); have n8_ := Aside0.mk (below_step z17x28 hb); clear HO_283004; clear HO_295004; clear HO314; clear HO317; clear BK282; clear BK290; clear BK294; clear BK305; clear HB; have HO_283004 := n0_; have HO_295004 := n1_; have HO314 := n2_; have HO317 := n3_; have BK282 := n4_; have BK290 := n5_; have BK294 := n6_; have BK305 := n7_; have HB := n8_; clear n0_ n1_ n2_ n3_ n4_ n5_ n6_ n7_ n8_; (try clear hb); (try clear hb2); (try clear hk); (try clear hi)))
              go_meet
              case rel => exact ⟨_, (t319), (by first | rfl | (simp; done) | (simp [*]; done)), H', ⟨by have := HJ2.out; have := HJ8.out; have := HK3.out; first | omega | exact Nat.le_refl _⟩, ⟨by (with_reducible repeat (first | apply Kd.R_alloc | apply Kd.R_drewN | apply Kd.R_drew)); exact Kd.R_mono HO_283004.out (fun _ hk => ⟨hk.1.1, ⟨hk.2, hk.1.2.2⟩⟩)⟩, ⟨by (with_reducible repeat (first | apply Kd.R_alloc | apply Kd.R_drewN | apply Kd.R_drew)); exact Kd.R_mono HO_295004.out (fun _ hk => ⟨hk.1.1, ⟨hk.2, hk.1.2.2⟩⟩)⟩, ⟨by (with_reducible repeat (first | apply Kd.R_alloc | apply Kd.R_drewN | apply Kd.R_drew)); exact Kd.R_mono HO317.out (fun _ hk => ⟨hk.1, ⟨hk.2.1, hk.2.2.2⟩⟩)⟩, ⟨by (with_reducible repeat (first | refine blk_drewN ?_ _ | refine blk_drew ?_ | refine blk_alloc ?_ _)); exact BK282.out⟩, ⟨by (with_reducible repeat (first | refine blk_drewN ?_ _ | refine blk_drew ?_ | refine blk_alloc ?_ _)); exact BK290.out⟩, ⟨by (with_reducible repeat (first | refine blk_drewN ?_ _ | refine blk_drew ?_ | refine blk_alloc ?_ _)); exact BK294.out⟩, ⟨by (with_reducible repeat (first | refine blk_drewN ?_ _ | refine blk_drew ?_ | refine blk_alloc ?_ _)); exact BK305.out⟩, ⟨by repeat (first | (with_reducible first | exact HB.out | apply below_alloc | apply pw_below_drewN | apply below_drew1 | refine below_set ?_ GE282.out | refine below_set ?_ GE290.out | refine below_set ?_ GE294.out | refine below_set ?_ GE305.out) | exact HB.out)⟩⟩
             ·replace c79 := Bool.eq_false_iff.mpr c79
              subst c79
              rw [if_neg (show ¬ (false = true) by decide)] at H
              have H' := Aside0.mk H
              clear H
              have hnb91 := NB294_282.out
              have hnc91 := NB282_294.out
              have hnb92 := NB294_290.out
              have hnc92 := NB290_294.out
              have hnb93 := NB294_305.out
              have hnc93 := NB305_294.out
              have hcz94_0 : w74.cell? ⟨gb294, 0, none⟩ = some (.int .i64 t275) := (blk_cell BK294.out 0).trans rfl
              have hcz94_1 : w74.cell? ⟨gb294, 1, none⟩ = some (.int .i64 t276) := (blk_cell BK294.out 1).trans rfl
              have hcz94_2 : w74.cell? ⟨gb294, 2, none⟩ = some (.int .i64 t277) := (blk_cell BK294.out 2).trans rfl
              have hcz94_3 : w74.cell? ⟨gb294, 3, none⟩ = some (.int .i64 t278) := (blk_cell BK294.out 3).trans rfl
              have hcz94_4 : w74.cell? ⟨gb294, 4, none⟩ = some (u295004) := (blk_cell BK294.out 4).trans rfl
              have hfz94_0 := blk_frozen BK294.out 0
              have hfz94_1 := blk_frozen BK294.out 1
              have hfz94_2 := blk_frozen BK294.out 2
              have hfz94_3 := blk_frozen BK294.out 3
              have hfz94_4 := blk_frozen BK294.out 4
              obtain ⟨Ao95, co95, eo95⟩ := Kd.R_slice HO_295004.out
              subst eo95
              go_wp2_with (first | ((with_reducible refine gate_callee (f := 20) rfl ?_); refine goesL_ (some 69) rfl rfl Try.func20 (by kernel_rfl) rfl #[.agg #[.int .i64 t275, .int .i64 t276, .int .i64 t277, .int .i64 t278, .slice Ao95 x295004_3.length co95]] rfl z17x47 ?_; (with_reducible refine (impl_MsgOk.calls t275 t276 t277 t278 _ _ x295004_3 false _ ?side1 ?side2 A78.out).mono ?_); (case side1 => refine (Kd.R_reads' (e := 41) (base := w.heap.size) (ok := fun k_ => ((some k_ ≠ (.slice Ao13 t279.length co13 : Value).ownBlock ∧ (some k_ ≠ (.slice Ao75 y312.length co75 : Value).ownBlock ∧ k_ ≠ gb290)) ∧ some k_ ≠ (.slice Ao76 y315.length co76 : Value).ownBlock)) (n := x295004_3.length) (c := co95) ?_).2.2; exact z17x31); (case side2 => exact (Kd.R_reads' HO_295004.out).2.1); rintro e w96 ⟨rfl, hb⟩; refine ⟨_, rfl, ?_⟩; have n0_ := Aside0.mk (Kd.R_below z17x30 hb); have n1_ := Aside0.mk (Kd.R_below z17x31 hb); have n2_ := Aside0.mk (Kd.R_below z17x32 hb); have n3_ := Aside0.mk (Kd.R_below z17x33 hb); have n4_ := Aside0.mk (blk_below (g := gb282) (o := .cells #[.int .i64 t275, .int .i64 t276, .int .i64 t277, .int .i64 t278, .slice Ao13 t279.length co13] 34 (0, 0)) z17x34 hb); have n5_ := Aside0.mk (blk_below (g := gb290) (o := .cells #[.int .i64 t283, .int .i64 t284, .int .i64 t285, .int .i64 t286, .int .i64 t287, .int .i64 t288, .int .i64 t289] 41 (0, 0)) z17x35 hb); have n6_ := Aside0.mk (blk_below (g := gb294) (o := .cells #[.int .i64 t275, .int .i64 t276, .int .i64 t277, .int .i64 t278, .slice Ao95 x295004_3.length co95] 34 (0, 0)) z17x36 hb); have n7_ := Aside0.mk (blk_below (g := gb305) (o := .cells #[.int .i64 t275, .int .i64 t276, .int .i64 t277, .int .i64 t278, .slice Ao76 y315.length co76] 34 (0, 0)) z17x12 hb); have n8_ := Aside0.mk (below_step z17x28 hb); clear HO_283004; clear HO_295004; clear HO314; clear HO317; clear BK282; clear BK290; clear BK294; clear BK305; clear HB; have HO_283004 := n0_; have HO_295004 := n1_; have HO314 := n2_; have HO317 := n3_; have BK282 := n4_; have BK290 := n5_; have BK294 := n6_; have BK305 := n7_; have HB := n8_; clear n0_ n1_ n2_ n3_ n4_ n5_ n6_ n7_ n8_; (try clear hb); (try clear hb2); (try clear hk); (try clear hi)))
              go_meet
              case rel => exact ⟨_, (true), (by first | rfl | (simp; done) | (simp [*]; done)), H', ⟨by have := HJ2.out; have := HJ8.out; have := HK3.out; first | omega | exact Nat.le_refl _⟩, ⟨by (with_reducible repeat (first | apply Kd.R_alloc | apply Kd.R_drewN | apply Kd.R_drew)); exact Kd.R_mono HO_283004.out (fun _ hk => ⟨hk.1.1, ⟨hk.2, hk.1.2.2⟩⟩)⟩, ⟨by (with_reducible repeat (first | apply Kd.R_alloc | apply Kd.R_drewN | apply Kd.R_drew)); exact Kd.R_mono HO_295004.out (fun _ hk => ⟨hk.1.1, ⟨hk.2, hk.1.2.2⟩⟩)⟩, ⟨by (with_reducible repeat (first | apply Kd.R_alloc | apply Kd.R_drewN | apply Kd.R_drew)); exact Kd.R_mono HO317.out (fun _ hk => ⟨hk.1, ⟨hk.2.1, hk.2.2.2⟩⟩)⟩, ⟨by (with_reducible repeat (first | refine blk_drewN ?_ _ | refine blk_drew ?_ | refine blk_alloc ?_ _)); exact BK282.out⟩, ⟨by (with_reducible repeat (first | refine blk_drewN ?_ _ | refine blk_drew ?_ | refine blk_alloc ?_ _)); exact BK290.out⟩, ⟨by (with_reducible repeat (first | refine blk_drewN ?_ _ | refine blk_drew ?_ | refine blk_alloc ?_ _)); exact BK294.out⟩, ⟨by (with_reducible repeat (first | refine blk_drewN ?_ _ | refine blk_drew ?_ | refine blk_alloc ?_ _)); exact BK305.out⟩, ⟨by repeat (first | (with_reducible first | exact HB.out | apply below_alloc | apply pw_below_drewN | apply below_drew1 | refine below_set ?_ GE282.out | refine below_set ?_ GE290.out | refine below_set ?_ GE294.out | refine below_set ?_ GE305.out) | exact HB.out)⟩⟩
            case rest =>
             clear HC57
             try clear c2
             try clear p2
             try clear c5
             try clear c6
             try clear c7
             try clear c8
             try clear c9
             try clear c20
             try clear c55
             try clear c56
             try clear c62
             try clear c63
             try clear c64
             try clear c79
             try clear c81
             try clear c82
             try clear c83
             try clear c87
             try clear c88
             try clear c91
             try clear c92
             try clear c93
             try clear hcz60_1
             try clear hcz60_2
             try clear hcz60_3
             try clear hcz60_4
             try clear hcz65_0
             try clear hcz65_1
             try clear hcz65_2
             try clear hcz65_3
             try clear hcz65_4
             try clear hcz84_0
             try clear hcz84_1
             try clear hcz84_2
             try clear hcz84_3
             try clear hcz84_4
             try clear hcz89_0
             try clear hcz89_1
             try clear hcz89_2
             try clear hcz89_3
             try clear hcz89_4
             try clear hcz94_0
             try clear hcz94_1
             try clear hcz94_2
             try clear hcz94_3
             try clear hcz94_4
             try clear hfz60_0
             try clear hfz60_1
             try clear hfz60_2
             try clear hfz60_3
             try clear hfz60_4
             try clear hfz65_0
             try clear hfz65_1
             try clear hfz65_2
             try clear hfz65_3
             try clear hfz65_4
             try clear hfz84_0
             try clear hfz84_1
             try clear hfz84_2
             try clear hfz84_3
             try clear hfz84_4
             try clear hfz89_0
             try clear hfz89_1
             try clear hfz89_2
             try clear hfz89_3
             try clear hfz89_4
             try clear hfz94_0
             try clear hfz94_1
             try clear hfz94_2
             try clear hfz94_3
             try clear hfz94_4
             obtain ⟨kq, x74_56, rfl, HA, HJ56, HO_283004, HO_295004, HO_306004, BK282, BK290, BK294, BK305, HB⟩ := hcut
             cases kq with
             | zero => exact absurd HA.out (by simp [laws_FnMsgSeals.j3])
             | succ kj56 =>
              have H := HA.out
              clear HA
              simp only [laws_FnMsgSeals.j3] at H
              by_cases c97 : x74_56 = true
              ·subst c97
               rw [if_pos rfl] at H
               obtain rfl := Option.some.inj H
               go_wp2
               go_ret
               exact ⟨by first | rfl | (simp [errW_none, errW_some] <;> rfl) | (simp [*, errW_none, errW_some] <;> rfl), by repeat (first | (with_reducible first | exact HB.out | apply below_alloc | apply pw_below_drewN | apply below_drew1 | refine below_set ?_ GE282.out | refine below_set ?_ GE290.out | refine below_set ?_ GE294.out | refine below_set ?_ GE305.out) | exact HB.out)⟩
              ·replace c97 := Bool.eq_false_iff.mpr c97
               subst c97
               rw [if_neg (show ¬ (false = true) by decide)] at H
               by_cases c98 : (t279.length : Int) = 0
               ·rw [if_pos c98] at H
                have c98b0 : ((t279.length : Int) == 0) = true := beq_iff_eq.mpr c98
                have c98b1 : ((t279.length : Int) != 0) = false := bne_eq_false_iff_eq.mpr c98
                clear c98
                obtain rfl := Option.some.inj H
                have hnb99 := NB282_290.out
                have hnc99 := NB290_282.out
                have hnb100 := NB282_294.out
                have hnc100 := NB294_282.out
                have hnb101 := NB282_305.out
                have hnc101 := NB305_282.out
                have hcz102_0 : wc.cell? ⟨gb282, 0, none⟩ = some (.int .i64 t275) := (blk_cell BK282.out 0).trans rfl
                have hcz102_1 : wc.cell? ⟨gb282, 1, none⟩ = some (.int .i64 t276) := (blk_cell BK282.out 1).trans rfl
                have hcz102_2 : wc.cell? ⟨gb282, 2, none⟩ = some (.int .i64 t277) := (blk_cell BK282.out 2).trans rfl
                have hcz102_3 : wc.cell? ⟨gb282, 3, none⟩ = some (.int .i64 t278) := (blk_cell BK282.out 3).trans rfl
                have hcz102_4 : wc.cell? ⟨gb282, 4, none⟩ = some (.slice Ao13 t279.length co13) := (blk_cell BK282.out 4).trans rfl
                have hfz102_0 := blk_frozen BK282.out 0
                have hfz102_1 := blk_frozen BK282.out 1
                have hfz102_2 := blk_frozen BK282.out 2
                have hfz102_3 := blk_frozen BK282.out 3
                have hfz102_4 := blk_frozen BK282.out 4
                go_wp2
                go_ret
                exact ⟨by first | rfl | (simp [errW_none, errW_some] <;> rfl) | (simp [*, errW_none, errW_some] <;> rfl), by repeat (first | (with_reducible first | exact HB.out | apply below_alloc | apply pw_below_drewN | apply below_drew1 | refine below_set ?_ GE282.out | refine below_set ?_ GE290.out | refine below_set ?_ GE294.out | refine below_set ?_ GE305.out) | exact HB.out)⟩
               ·rw [if_neg c98] at H
                have c98b0 : ((t279.length : Int) == 0) = false := beq_eq_false_iff_ne.mpr c98
                have c98b1 : ((t279.length : Int) != 0) = true := bne_iff_ne.mpr c98
                have c98b2 : ¬ (t279 = []) := fun h_ => c98 (by rw [h_]; rfl)
                by_cases c103 : 1 ≤ (t279.length : Int)
                ·rw [if_pos c103] at H
                 have c103b0 := eq_true c103
                 have c103b1 : decide (1 ≤ (t279.length : Int)) = true := decide_eq_true c103
                 clear c103
                 obtain ⟨y321, hy321⟩ : ∃ y_ : List (S41), y_ = (t279.drop 1) := ⟨_, rfl⟩
                 replace H : (if 0 < (x295004_3.length : Int) then ((impl_MsgOk.f t275 t276 t277 t278 y321).bind fun t326 => (if t326 = true then (some false) else ((impl_MsgOk.f t275 t276 t277 t278 (x295004_3.set (0 : Int).toNat (⟨t283, t284, t285, t286, t287, t288, t289⟩ : S41))).bind fun t327 => ((impl_SealOk.f t283 t284 t285 t286 t287 t288 t289).bind fun t328 => (some (t327 == t328)))))) else (none)) = some r := by first | (rw [hy321]; with_reducible exact H) | (have H2_ := (Option.bind_some _ _).symm.trans H; rw [hy321]; with_reducible exact H2_) | (have H2_ := (Option.bind_some _ _).symm.trans H; with_reducible exact H2_) | with_reducible exact H | (rw [hy321]; exact H) | exact H
                 have Ny321 := Aside0.mk hy321
                 clear hy321
                 by_cases c104 : 0 < (x295004_3.length : Int)
                 ·rw [if_pos c104] at H
                  have c104b0 : decide (0 < (x295004_3.length : Int)) = true := decide_eq_true c104
                  have c104b1 : decide (0 < x295004_3.length) = true := decide_eq_true (by omega)
                  clear c104
                  obtain ⟨y325, hy325⟩ : ∃ y_ : List (S41), y_ = (x295004_3.set (0 : Int).toNat (⟨t283, t284, t285, t286, t287, t288, t289⟩ : S41)) := ⟨_, rfl⟩
                  replace H : ((impl_MsgOk.f t275 t276 t277 t278 y321).bind fun t326 => (if t326 = true then (some false) else ((impl_MsgOk.f t275 t276 t277 t278 y325).bind fun t327 => ((impl_SealOk.f t283 t284 t285 t286 t287 t288 t289).bind fun t328 => (some (t327 == t328)))))) = some r := by first | (rw [hy325]; with_reducible exact H) | (have H2_ := (Option.bind_some _ _).symm.trans H; rw [hy325]; with_reducible exact H2_) | (have H2_ := (Option.bind_some _ _).symm.trans H; with_reducible exact H2_) | with_reducible exact H | (rw [hy325]; exact H) | exact H
                  have Ny325 := Aside0.mk hy325
                  clear hy325
                  replace H := Option.bind_eq_some_iff.mp H
                  obtain ⟨t326, A1060, H⟩ := H
                  replace H : (if t326 = true then (some false) else ((impl_MsgOk.f t275 t276 t277 t278 y325).bind fun t327 => ((impl_SealOk.f t283 t284 t285 t286 t287 t288 t289).bind fun t328 => (some (t327 == t328))))) = some r := H
                  have A106 := Aside0.mk A1060
                  clear A1060
                  by_cases c107 : t326 = true
                  ·subst c107
                   rw [if_pos rfl] at H
                   obtain rfl := Option.some.inj H
                   have hnb108 := NB282_290.out
                   have hnc108 := NB290_282.out
                   have hnb109 := NB282_294.out
                   have hnc109 := NB294_282.out
                   have hnb110 := NB282_305.out
                   have hnc110 := NB305_282.out
                   have hcz111_0 : wc.cell? ⟨gb282, 0, none⟩ = some (.int .i64 t275) := (blk_cell BK282.out 0).trans rfl
                   have hcz111_1 : wc.cell? ⟨gb282, 1, none⟩ = some (.int .i64 t276) := (blk_cell BK282.out 1).trans rfl
                   have hcz111_2 : wc.cell? ⟨gb282, 2, none⟩ = some (.int .i64 t277) := (blk_cell BK282.out 2).trans rfl
                   have hcz111_3 : wc.cell? ⟨gb282, 3, none⟩ = some (.int .i64 t278) := (blk_cell BK282.out 3).trans rfl
                   have hcz111_4 : wc.cell? ⟨gb282, 4, none⟩ = some (.slice Ao13 t279.length co13) := (blk_cell BK282.out 4).trans rfl
                   have hfz111_0 := blk_frozen BK282.out 0
                   have hfz111_1 := blk_frozen BK282.out 1
                   have hfz111_2 := blk_frozen BK282.out 2
                   have hfz111_3 := blk_frozen BK282.out 3
                   have hfz111_4 := blk_frozen BK282.out 4
                   try go_wp2_with (first | ((with_reducible refine gate_dst (N := 11) rfl ?_); refine box_event ?hg (N := 11) ?hd (cs := #[.int .i64 0, .int .i64 0, .int .i64 0, .int .i64 0, .slice none 0 0]) (t := 34) ?hr ?_; (case hd => rfl); (case hg => rfl); (case hr => first | (go_simp; done) | (go_simp; rfl)); intro gb320 hg w112 hbox hb; have n0_ := Aside0.mk (Kd.R_below z17x54 hb); have n1_ := Aside0.mk (Kd.R_below z17x55 hb); have n2_ := Aside0.mk (Kd.R_below z17x56 hb); have n3_ := Aside0.mk (blk_below (g := gb282) (o := .cells #[.int .i64 t275, .int .i64 t276, .int .i64 t277, .int .i64 t278, .slice Ao13 t279.length co13] 34 (0, 0)) z17x49 hb); have n4_ := Aside0.mk (blk_below (g := gb290) (o := .cells #[.int .i64 t283, .int .i64 t284, .int .i64 t285, .int .i64 t286, .int .i64 t287, .int .i64 t288, .int .i64 t289] 41 (0, 0)) z17x50 hb); have n5_ := Aside0.mk (blk_below (g := gb294) (o := .cells #[.int .i64 t275, .int .i64 t276, .int .i64 t277, .int .i64 t278, u295004] 34 (0, 0)) z17x51 hb); have n6_ := Aside0.mk (blk_below (g := gb305) (o := .cells #[.int .i64 t275, .int .i64 t276, .int .i64 t277, .int .i64 t278, .slice Ao76 y315.length co76] 34 (0, 0)) z17x52 hb); have n7_ := Aside0.mk (below_step z17x28 hb); have n8_ := Aside0.mk (hbox); have n9_ := Aside0.mk ((z17x17 : w.heap.size ≤ gb320)); have n10_ := Aside0.mk ((z17x17 : w.heap.size ≤ gb320)); have n11_ := Aside0.mk ((z17x20 : gb282 ≠ gb320)); have n12_ := Aside0.mk ((z17x18 : gb320 ≠ gb282)); have n13_ := Aside0.mk ((z17x15 : gb290 ≠ gb320)); have n14_ := Aside0.mk ((z17x14 : gb320 ≠ gb290)); have n15_ := Aside0.mk ((z17x27 : gb294 ≠ gb320)); have n16_ := Aside0.mk ((z17x26 : gb320 ≠ gb294)); have n17_ := Aside0.mk ((z17x21 : gb305 ≠ gb320)); have n18_ := Aside0.mk ((z17x19 : gb320 ≠ gb305)); clear HO_283004; clear HO_295004; clear HO_306004; clear BK282; clear BK290; clear BK294; clear BK305; clear HB; have HO_283004 := n0_; have HO_295004 := n1_; have HO_306004 := n2_; have BK282 := n3_; have BK290 := n4_; have BK294 := n5_; have BK305 := n6_; have HB := n7_; have BK320 := n8_; have GW320 := n9_; have GE320 := n10_; have NB282_320 := n11_; have NB320_282 := n12_; have NB290_320 := n13_; have NB320_290 := n14_; have NB294_320 := n15_; have NB320_294 := n16_; have NB305_320 := n17_; have NB320_305 := n18_; clear n0_ n1_ n2_ n3_ n4_ n5_ n6_ n7_ n8_ n9_ n10_ n11_ n12_ n13_ n14_ n15_ n16_ n17_ n18_; clear hb hbox hg; have hnb113 := NB320_282.out; have hnc113 := NB282_320.out; have hnb114 := NB320_290.out; have hnc114 := NB290_320.out; have hnb115 := NB320_294.out; have hnc115 := NB294_320.out; have hnb116 := NB320_305.out; have hnc116 := NB305_320.out; have hcz117_0 : w112.cell? ⟨gb320, 0, none⟩ = some (.int .i64 0) := (blk_cell BK320.out 0).trans rfl; have hcz117_1 : w112.cell? ⟨gb320, 1, none⟩ = some (.int .i64 0) := (blk_cell BK320.out 1).trans rfl; have hcz117_2 : w112.cell? ⟨gb320, 2, none⟩ = some (.int .i64 0) := (blk_cell BK320.out 2).trans rfl; have hcz117_3 : w112.cell? ⟨gb320, 3, none⟩ = some (.int .i64 0) := (blk_cell BK320.out 3).trans rfl; have hcz117_4 : w112.cell? ⟨gb320, 4, none⟩ = some (.slice none 0 0) := (blk_cell BK320.out 4).trans rfl; have hfz117_0 := blk_frozen BK320.out 0; have hfz117_1 := blk_frozen BK320.out 1; have hfz117_2 := blk_frozen BK320.out 2; have hfz117_3 := blk_frozen BK320.out 3; have hfz117_4 := blk_frozen BK320.out 4) | ((with_reducible refine gate_store (t := 34) (p := 11) rfl ?_); refine store_event (t := 34) (p := 11) (v := ?vo_w118) (w1 := (((((w112.setCell ⟨gb320, 0, none⟩ (.int .i64 t275)).setCell ⟨gb320, 1, none⟩ (.int .i64 t276)).setCell ⟨gb320, 2, none⟩ (.int .i64 t277)).setCell ⟨gb320, 3, none⟩ (.int .i64 t278)).setCell ⟨gb320, 4, none⟩ (.slice Ao13 t279.length co13))) ?hg ?ho ?hn ?hr ?_; (case ho => rfl); (case hg => rfl); (case hn => rfl); (case hr => first | (go_simp; done) | (go_simp; rfl)); intro w118 hw; have n0_ : Aside0 (Kd.R k41 41 w118 w.heap.size (fun k_ => some k_ ≠ (u295004 : Value).ownBlock ∧ some k_ ≠ (.slice Ao76 y315.length co76 : Value).ownBlock ∧ k_ ≠ gb290) (.slice Ao13 t279.length co13) t279) := ⟨z17x7⟩; have n1_ : Aside0 (Kd.R k41 41 w118 w.heap.size (fun k_ => some k_ ≠ (.slice Ao13 t279.length co13 : Value).ownBlock ∧ some k_ ≠ (.slice Ao76 y315.length co76 : Value).ownBlock ∧ k_ ≠ gb290) u295004 x295004_3) := ⟨z17x8⟩; have n2_ : Aside0 (Kd.R k41 41 w118 w.heap.size (fun k_ => some k_ ≠ (.slice Ao13 t279.length co13 : Value).ownBlock ∧ some k_ ≠ (u295004 : Value).ownBlock ∧ k_ ≠ gb290) (.slice Ao76 y315.length co76) y315) := ⟨z17x9⟩; have n3_ : Aside0 (w118.heap[gb282]? = some (.cells #[.int .i64 t275, .int .i64 t276, .int .i64 t277, .int .i64 t278, .slice Ao13 t279.length co13] 34 (0, 0))) := ⟨z17x1⟩; have n4_ : Aside0 (w118.heap[gb290]? = some (.cells #[.int .i64 t283, .int .i64 t284, .int .i64 t285, .int .i64 t286, .int .i64 t287, .int .i64 t288, .int .i64 t289] 41 (0, 0))) := ⟨z17x2⟩; have n5_ : Aside0 (w118.heap[gb294]? = some (.cells #[.int .i64 t275, .int .i64 t276, .int .i64 t277, .int .i64 t278, u295004] 34 (0, 0))) := ⟨z17x3⟩; have n6_ : Aside0 (w118.heap[gb305]? = some (.cells #[.int .i64 t275, .int .i64 t276, .int .i64 t277, .int .i64 t278, .slice Ao76 y315.length co76] 34 (0, 0))) := ⟨z17x4⟩; have n7_ : Aside0 (w118.heap[gb320]? = some (.cells #[.int .i64 t275, .int .i64 t276, .int .i64 t277, .int .i64 t278, .slice Ao13 t279.length co13] 34 (0, 0))) := ⟨z17x0⟩; have n8_ : Aside0 (Below w.heap.size w w118) := ⟨z17x13⟩; clear hw; clear HO_283004; clear HO_295004; clear HO_306004; clear BK282; clear BK290; clear BK294; clear BK305; clear BK320; clear HB; have HO_283004 := n0_; have HO_295004 := n1_; have HO_306004 := n2_; have BK282 := n3_; have BK290 := n4_; have BK294 := n5_; have BK305 := n6_; have BK320 := n7_; have HB := n8_; clear n0_ n1_ n2_ n3_ n4_ n5_ n6_ n7_ n8_; have hcz119_0 : w118.cell? ⟨gb282, 0, none⟩ = some (.int .i64 t275) := (blk_cell BK282.out 0).trans rfl; have hcz119_1 : w118.cell? ⟨gb282, 1, none⟩ = some (.int .i64 t276) := (blk_cell BK282.out 1).trans rfl; have hcz119_2 : w118.cell? ⟨gb282, 2, none⟩ = some (.int .i64 t277) := (blk_cell BK282.out 2).trans rfl; have hcz119_3 : w118.cell? ⟨gb282, 3, none⟩ = some (.int .i64 t278) := (blk_cell BK282.out 3).trans rfl; have hcz119_4 : w118.cell? ⟨gb282, 4, none⟩ = some (.slice Ao13 t279.length co13) := (blk_cell BK282.out 4).trans rfl; have hfz119_0 := blk_frozen BK282.out 0; have hfz119_1 := blk_frozen BK282.out 1; have hfz119_2 := blk_frozen BK282.out 2; have hfz119_3 := blk_frozen BK282.out 3; have hfz119_4 := blk_frozen BK282.out 4; have q120 : (1 : Int) ≤ ((t279.length : Int) : Int) := of_decide_eq_true (by first | (with_reducible assumption) | assumption); obtain ⟨i0120, hi0120, _, hsz120, _⟩ := info_parts info41; have hroom120 : t279.length ≤ co13 := (Kd.R_reads' HO_283004.out).2.1; have hC120 : Kd.C k41 _ Ao13 t279.length t279 := (Kd.R_reads' HO_283004.out).2.2; have hcut120 := cut_from (P := Try.prog) 32 41 .i64 Try.underlying32 hi0120 7 hsz120 Ao13 t279.length co13 1 (by omega) q120; have hr120 := Kd.C_drop (m := (1 : Int).toNat) (c := co13) hC120 (by omega) hroom120; obtain ⟨A120, hA120⟩ : ∃ A1, A1 = (if co13 = (1 : Int).toNat then Ao13 else (Ao13 : Option Addr).map (·.add ((1 : Int).toNat * 7))) := ⟨_, rfl⟩; obtain ⟨c120, hc120⟩ : ∃ c1, c1 = co13 - (1 : Int).toNat := ⟨_, rfl⟩; have hy120 : y321.length = t279.length - (1 : Int).toNat := (by rw [Ny321.out, List.length_drop] <;> omega); rw [show (t279).drop (1 : Int).toNat = y321 from Ny321.out.symm] at hr120; replace hr120 : Kd.C k41 _ A120 y321.length y321 := (by rw [hA120]; exact hr120); rw [← hy120, ← hA120, ← hc120] at hcut120; have HR324 := Aside0.mk hr120; have HC324 := Aside0.mk (show y321.length ≤ c120 from by rw [hy120, hc120]; exact Nat.sub_le_sub_right hroom120 _); clear hr120 hC120 hroom120 hi0120 hsz120 hc120; have KY120 := Aside0.mk hy120; have KA120 := Aside0.mk hA120; clear hy120 hA120; have KL120 := Aside0.mk (show 1 ≤ t279.length from by omega); replace q120 := eq_true q120; have hcz121_0 : w118.cell? ⟨gb320, 0, none⟩ = some (.int .i64 t275) := (blk_cell BK320.out 0).trans rfl; have hcz121_1 : w118.cell? ⟨gb320, 1, none⟩ = some (.int .i64 t276) := (blk_cell BK320.out 1).trans rfl; have hcz121_2 : w118.cell? ⟨gb320, 2, none⟩ = some (.int .i64 t277) := (blk_cell BK320.out 2).trans rfl; have hcz121_3 : w118.cell? ⟨gb320, 3, none⟩ = some (.int .i64 t278) := (blk_cell BK320.out 3).trans rfl; have hcz121_4 : w118.cell? ⟨gb320, 4, none⟩ = some (.slice Ao13 t279.length co13) := (blk_cell BK320.out 4).trans rfl; have hfz121_0 := blk_frozen BK320.out 0; have hfz121_1 := blk_frozen BK320.out 1; have hfz121_2 := blk_frozen BK320.out 2; have hfz121_3 := blk_frozen BK320.out 3; have hfz121_4 := blk_frozen BK320.out 4) | ((with_reducible refine gate_store (t := 32) (p := 83) rfl ?_); refine store_event (t := 32) (p := 83) (v := ?vo_w122) (w1 := (w118.setCell ⟨gb320, 4, none⟩ (.slice A120 y321.length c120))) ?hg ?ho ?hn ?hr ?_; (case ho => rfl); (case hg => rfl); (case hn => rfl); (case hr => first | (go_simp; done) | (go_simp; rfl)); intro w122 hw; have n0_ : Aside0 (Kd.R k41 41 w122 w.heap.size (fun k_ => some k_ ≠ (u295004 : Value).ownBlock ∧ some k_ ≠ (.slice Ao76 y315.length co76 : Value).ownBlock ∧ k_ ≠ gb290) (.slice Ao13 t279.length co13) t279) := ⟨(by rw [hw]; exact (by (with_reducible repeat (first | apply Kd.R_alloc | apply Kd.R_drewN | apply Kd.R_drew)); exact Kd.R_mono (Kd.R_far (p := ⟨gb320, 4, none⟩) (Kd.R_types HO_283004.out BK320.out (by decide)) (fun _ hk => hk.2) (.slice A120 y321.length c120)) (fun _ hk => ⟨hk.1.1, ⟨hk.1.2.1, hk.1.2.2⟩⟩)))⟩; have n1_ : Aside0 (Kd.R k41 41 w122 w.heap.size (fun k_ => some k_ ≠ (.slice Ao13 t279.length co13 : Value).ownBlock ∧ some k_ ≠ (.slice Ao76 y315.length co76 : Value).ownBlock ∧ k_ ≠ gb290) u295004 x295004_3) := ⟨(by rw [hw]; exact (by (with_reducible repeat (first | apply Kd.R_alloc | apply Kd.R_drewN | apply Kd.R_drew)); exact Kd.R_mono (Kd.R_far (p := ⟨gb320, 4, none⟩) (Kd.R_types HO_295004.out BK320.out (by decide)) (fun _ hk => hk.2) (.slice A120 y321.length c120)) (fun _ hk => ⟨hk.1.1, ⟨hk.1.2.1, hk.1.2.2⟩⟩)))⟩; have n2_ : Aside0 (Kd.R k41 41 w122 w.heap.size (fun k_ => some k_ ≠ (.slice Ao13 t279.length co13 : Value).ownBlock ∧ some k_ ≠ (u295004 : Value).ownBlock ∧ k_ ≠ gb290) (.slice Ao76 y315.length co76) y315) := ⟨(by rw [hw]; exact (by (with_reducible repeat (first | apply Kd.R_alloc | apply Kd.R_drewN | apply Kd.R_drew)); exact Kd.R_mono (Kd.R_far (p := ⟨gb320, 4, none⟩) (Kd.R_types HO_306004.out BK320.out (by decide)) (fun _ hk => hk.2) (.slice A120 y321.length c120)) (fun _ hk => ⟨hk.1.1, ⟨hk.1.2.1, hk.1.2.2⟩⟩)))⟩; have n3_ : Aside0 (w122.heap[gb282]? = some (.cells #[.int .i64 t275, .int .i64 t276, .int .i64 t277, .int .i64 t278, .slice Ao13 t279.length co13] 34 (0, 0))) := ⟨z17x22⟩; have n4_ : Aside0 (w122.heap[gb290]? = some (.cells #[.int .i64 t283, .int .i64 t284, .int .i64 t285, .int .i64 t286, .int .i64 t287, .int .i64 t288, .int .i64 t289] 41 (0, 0))) := ⟨z17x23⟩; have n5_ : Aside0 (w122.heap[gb294]? = some (.cells #[.int .i64 t275, .int .i64 t276, .int .i64 t277, .int .i64 t278, u295004] 34 (0, 0))) := ⟨z17x24⟩; have n6_ : Aside0 (w122.heap[gb305]? = some (.cells #[.int .i64 t275, .int .i64 t276, .int .i64 t277, .int .i64 t278, .slice Ao76 y315.length co76] 34 (0, 0))) := ⟨z17x25⟩; have n7_ : Aside0 (w122.heap[gb320]? = some (.cells #[.int .i64 t275, .int .i64 t276, .int .i64 t277, .int .i64 t278, .slice A120 y321.length c120] 34 (0, 0))) := ⟨z17x11⟩; have n8_ : Aside0 (Below w.heap.size w w122) := ⟨z17x13⟩; clear hw; have nc120_ := Aside0.mk (show Kd.C k41 w122 A120 y321.length y321 from by rw [Ny321.out, KA120.out]; exact Kd.C_drop (m := 1) (c := co13) ((Kd.R_reads' n0_.out).2.2) KL120.out ((Kd.R_reads' n0_.out).2.1)); clear HR324; have HR324 := nc120_; clear nc120_; clear HO_283004; clear HO_295004; clear HO_306004; clear BK282; clear BK290; clear BK294; clear BK305; clear BK320; clear HB; have HO_283004 := n0_; have HO_295004 := n1_; have HO_306004 := n2_; have BK282 := n3_; have BK290 := n4_; have BK294 := n5_; have BK305 := n6_; have BK320 := n7_; have HB := n8_; clear n0_ n1_ n2_ n3_ n4_ n5_ n6_ n7_ n8_; have hnb123 := NB294_290.out; have hnc123 := NB290_294.out; have hnb124 := NB294_305.out; have hnc124 := NB305_294.out; have hcz125_0 : w122.cell? ⟨gb294, 0, none⟩ = some (.int .i64 t275) := (blk_cell BK294.out 0).trans rfl; have hcz125_1 : w122.cell? ⟨gb294, 1, none⟩ = some (.int .i64 t276) := (blk_cell BK294.out 1).trans rfl; have hcz125_2 : w122.cell? ⟨gb294, 2, none⟩ = some (.int .i64 t277) := (blk_cell BK294.out 2).trans rfl; have hcz125_3 : w122.cell? ⟨gb294, 3, none⟩ = some (.int .i64 t278) := (blk_cell BK294.out 3).trans rfl; have hcz125_4 : w122.cell? ⟨gb294, 4, none⟩ = some (u295004) := (blk_cell BK294.out 4).trans rfl; have hfz125_0 := blk_frozen BK294.out 0; have hfz125_1 := blk_frozen BK294.out 1; have hfz125_2 := blk_frozen BK294.out 2; have hfz125_3 := blk_frozen BK294.out 3; have hfz125_4 := blk_frozen BK294.out 4; have hnb126 := NB290_305.out; have hnc126 := NB305_290.out; have hcz127_0 : w122.cell? ⟨gb290, 0, none⟩ = some (.int .i64 t283) := (blk_cell BK290.out 0).trans rfl; have hcz127_1 : w122.cell? ⟨gb290, 1, none⟩ = some (.int .i64 t284) := (blk_cell BK290.out 1).trans rfl; have hcz127_2 : w122.cell? ⟨gb290, 2, none⟩ = some (.int .i64 t285) := (blk_cell BK290.out 2).trans rfl; have hcz127_3 : w122.cell? ⟨gb290, 3, none⟩ = some (.int .i64 t286) := (blk_cell BK290.out 3).trans rfl; have hcz127_4 : w122.cell? ⟨gb290, 4, none⟩ = some (.int .i64 t287) := (blk_cell BK290.out 4).trans rfl; have hcz127_5 : w122.cell? ⟨gb290, 5, none⟩ = some (.int .i64 t288) := (blk_cell BK290.out 5).trans rfl; have hcz127_6 : w122.cell? ⟨gb290, 6, none⟩ = some (.int .i64 t289) := (blk_cell BK290.out 6).trans rfl; have hfz127_0 := blk_frozen BK290.out 0; have hfz127_1 := blk_frozen BK290.out 1; have hfz127_2 := blk_frozen BK290.out 2; have hfz127_3 := blk_frozen BK290.out 3; have hfz127_4 := blk_frozen BK290.out 4; have hfz127_5 := blk_frozen BK290.out 5; have hfz127_6 := blk_frozen BK290.out 6; have p105 : 0 ≤ (0 : Int) := (by omega); have q105 : (0 : Int) < ((x295004_3.length : Int) : Int) := of_decide_eq_true (by first | (with_reducible assumption) | assumption); have qi105 : (0 < x295004_3.length) = True := eq_true (by omega); obtain ⟨go105, co105, eo105, gb105, gl105, cl105, HG105⟩ := Kd.R_form HO_295004.out (by omega); (first | cases eo105 | (injection eo105 with ea_ en_ ec_; (first | subst ea_ | (injection ea_ with ea_; subst ea_)); subst ec_; clear en_)); have GB105 := Aside0.mk gb105; have GG105 := Aside0.mk HG105; clear gb105 gl105 HG105; obtain ⟨ce105, hcl105, hM105, hcc105, hfr105⟩ := Kd.R_elem HO_295004.out z41 (0 : Int) p105 q105; obtain rfl := k41_openM hM105; have hx105_0 : w122.cell? ⟨go105, (0 : Int).toNat * 7, none⟩ = some (.int .i64 ((rd_T41 x295004_3 0).f0)) := hcc105 0 _ rfl; have hx105_1 : w122.cell? ⟨go105, (0 : Int).toNat * 7 + 1, none⟩ = some (.int .i64 ((rd_T41 x295004_3 0).f1)) := hcc105 1 _ rfl; have hx105_2 : w122.cell? ⟨go105, (0 : Int).toNat * 7 + 2, none⟩ = some (.int .i64 ((rd_T41 x295004_3 0).f2)) := hcc105 2 _ rfl; have hx105_3 : w122.cell? ⟨go105, (0 : Int).toNat * 7 + 3, none⟩ = some (.int .i64 ((rd_T41 x295004_3 0).f3)) := hcc105 3 _ rfl; have hx105_4 : w122.cell? ⟨go105, (0 : Int).toNat * 7 + 4, none⟩ = some (.int .i64 ((rd_T41 x295004_3 0).f4)) := hcc105 4 _ rfl; have hx105_5 : w122.cell? ⟨go105, (0 : Int).toNat * 7 + 5, none⟩ = some (.int .i64 ((rd_T41 x295004_3 0).f5)) := hcc105 5 _ rfl; have hx105_6 : w122.cell? ⟨go105, (0 : Int).toNat * 7 + 6, none⟩ = some (.int .i64 ((rd_T41 x295004_3 0).f6)) := hcc105 6 _ rfl; have hf105_0 : w122.frozen? ⟨go105, (0 : Int).toNat * 7, none⟩ = false := hfr105 0; have hf105_1 : w122.frozen? ⟨go105, (0 : Int).toNat * 7 + 1, none⟩ = false := hfr105 1; have hf105_2 : w122.frozen? ⟨go105, (0 : Int).toNat * 7 + 2, none⟩ = false := hfr105 2; have hf105_3 : w122.frozen? ⟨go105, (0 : Int).toNat * 7 + 3, none⟩ = false := hfr105 3; have hf105_4 : w122.frozen? ⟨go105, (0 : Int).toNat * 7 + 4, none⟩ = false := hfr105 4; have hf105_5 : w122.frozen? ⟨go105, (0 : Int).toNat * 7 + 5, none⟩ = false := hfr105 5; have hf105_6 : w122.frozen? ⟨go105, (0 : Int).toNat * 7 + 6, none⟩ = false := hfr105 6; clear hcl105 hcc105 hfr105 hM105; (try rw [show ((0 : Int)).toNat = 0 from rfl] at hx105_0); (try simp only [Nat.reduceMul, Nat.zero_mul, Nat.zero_add, Nat.reduceAdd] at hx105_0); (try rw [show ((0 : Int)).toNat = 0 from rfl] at hf105_0); (try simp only [Nat.reduceMul, Nat.zero_mul, Nat.zero_add, Nat.reduceAdd] at hf105_0); (try rw [show ((0 : Int)).toNat = 0 from rfl] at hx105_1); (try simp only [Nat.reduceMul, Nat.zero_mul, Nat.zero_add, Nat.reduceAdd] at hx105_1); (try rw [show ((0 : Int)).toNat = 0 from rfl] at hf105_1); (try simp only [Nat.reduceMul, Nat.zero_mul, Nat.zero_add, Nat.reduceAdd] at hf105_1); (try rw [show ((0 : Int)).toNat = 0 from rfl] at hx105_2); (try simp only [Nat.reduceMul, Nat.zero_mul, Nat.zero_add, Nat.reduceAdd] at hx105_2); (try rw [show ((0 : Int)).toNat = 0 from rfl] at hf105_2); (try simp only [Nat.reduceMul, Nat.zero_mul, Nat.zero_add, Nat.reduceAdd] at hf105_2); (try rw [show ((0 : Int)).toNat = 0 from rfl] at hx105_3); (try simp only [Nat.reduceMul, Nat.zero_mul, Nat.zero_add, Nat.reduceAdd] at hx105_3); (try rw [show ((0 : Int)).toNat = 0 from rfl] at hf105_3); (try simp only [Nat.reduceMul, Nat.zero_mul, Nat.zero_add, Nat.reduceAdd] at hf105_3); (try rw [show ((0 : Int)).toNat = 0 from rfl] at hx105_4); (try simp only [Nat.reduceMul, Nat.zero_mul, Nat.zero_add, Nat.reduceAdd] at hx105_4); (try rw [show ((0 : Int)).toNat = 0 from rfl] at hf105_4); (try simp only [Nat.reduceMul, Nat.zero_mul, Nat.zero_add, Nat.reduceAdd] at hf105_4); (try rw [show ((0 : Int)).toNat = 0 from rfl] at hx105_5); (try simp only [Nat.reduceMul, Nat.zero_mul, Nat.zero_add, Nat.reduceAdd] at hx105_5); (try rw [show ((0 : Int)).toNat = 0 from rfl] at hf105_5); (try simp only [Nat.reduceMul, Nat.zero_mul, Nat.zero_add, Nat.reduceAdd] at hf105_5); (try rw [show ((0 : Int)).toNat = 0 from rfl] at hx105_6); (try simp only [Nat.reduceMul, Nat.zero_mul, Nat.zero_add, Nat.reduceAdd] at hx105_6); (try rw [show ((0 : Int)).toNat = 0 from rfl] at hf105_6); (try simp only [Nat.reduceMul, Nat.zero_mul, Nat.zero_add, Nat.reduceAdd] at hf105_6); replace p105 := eq_true p105; replace q105 := eq_true q105; have HX128 := Aside0.mk (show Kd.R k41 41 w122 w.heap.size (fun k_ => some k_ ≠ (.slice Ao13 t279.length co13 : Value).ownBlock ∧ some k_ ≠ (.slice Ao76 y315.length co76 : Value).ownBlock ∧ k_ ≠ gb290) (.slice (some ⟨go105, 0, none⟩) x295004_3.length co105) x295004_3 from z17x55); obtain ⟨ce128, hcl128, hM128, hcc128, hfr128⟩ := Kd.R_elem HX128.out z41 (0 : Int) (by omega) (by have h_ : (0 : Int) < ((x295004_3.length : Int) : Int) := of_decide_eq_true (by first | (with_reducible assumption) | assumption); first | exact h_ | (have e_ := (Kd.R_reads' HO_295004.out).1; omega) | simpa using h_); obtain rfl := k41_openM hM128; have HP128 := Kd.R_seg HX128.out (0 : Int) (by omega) (by have h_ : (0 : Int) < ((x295004_3.length : Int) : Int) := of_decide_eq_true (by first | (with_reducible assumption) | assumption); first | exact h_ | (have e_ := (Kd.R_reads' HO_295004.out).1; omega) | simpa using h_) (seg := [.int .i64 t283, .int .i64 t284, .int .i64 t285, .int .i64 t286, .int .i64 t287, .int .i64 t288, .int .i64 t289]) (j := 0) hcl128 hcc128 (show 7 ≤ 7 from by decide) (x' := (⟨t283, t284, t285, t286, t287, t288, t289⟩ : S41)) (k41_mkM _ _ _ (⟨t283, t284, t285, t286, t287, t288, t289⟩ : S41) ) (fun _ hk => hk); have hx128_0 := hcc128 0 _ rfl; (try simp only [show (k41).sz = 7 from rfl, Nat.mul_one, Nat.add_zero] at hx128_0); (try rw [show ((0 : Int)).toNat = 0 from rfl] at hx128_0); (try simp only [Nat.reduceMul, Nat.zero_mul, Nat.zero_add, Nat.reduceAdd] at hx128_0); have hf128_0 := hfr128 0; (try simp only [show (k41).sz = 7 from rfl, Nat.mul_one, Nat.add_zero] at hf128_0); (try rw [show ((0 : Int)).toNat = 0 from rfl] at hf128_0); (try simp only [Nat.reduceMul, Nat.zero_mul, Nat.zero_add, Nat.reduceAdd] at hf128_0); have hx128_1 := hcc128 1 _ rfl; (try simp only [show (k41).sz = 7 from rfl, Nat.mul_one, Nat.add_zero] at hx128_1); (try rw [show ((0 : Int)).toNat = 0 from rfl] at hx128_1); (try simp only [Nat.reduceMul, Nat.zero_mul, Nat.zero_add, Nat.reduceAdd] at hx128_1); have hf128_1 := hfr128 1; (try simp only [show (k41).sz = 7 from rfl, Nat.mul_one, Nat.add_zero] at hf128_1); (try rw [show ((0 : Int)).toNat = 0 from rfl] at hf128_1); (try simp only [Nat.reduceMul, Nat.zero_mul, Nat.zero_add, Nat.reduceAdd] at hf128_1); have hx128_2 := hcc128 2 _ rfl; (try simp only [show (k41).sz = 7 from rfl, Nat.mul_one, Nat.add_zero] at hx128_2); (try rw [show ((0 : Int)).toNat = 0 from rfl] at hx128_2); (try simp only [Nat.reduceMul, Nat.zero_mul, Nat.zero_add, Nat.reduceAdd] at hx128_2); have hf128_2 := hfr128 2; (try simp only [show (k41).sz = 7 from rfl, Nat.mul_one, Nat.add_zero] at hf128_2); (try rw [show ((0 : Int)).toNat = 0 from rfl] at hf128_2); (try simp only [Nat.reduceMul, Nat.zero_mul, Nat.zero_add, Nat.reduceAdd] at hf128_2); have hx128_3 := hcc128 3 _ rfl; (try simp only [show (k41).sz = 7 from rfl, Nat.mul_one, Nat.add_zero] at hx128_3); (try rw [show ((0 : Int)).toNat = 0 from rfl] at hx128_3); (try simp only [Nat.reduceMul, Nat.zero_mul, Nat.zero_add, Nat.reduceAdd] at hx128_3); have hf128_3 := hfr128 3; (try simp only [show (k41).sz = 7 from rfl, Nat.mul_one, Nat.add_zero] at hf128_3); (try rw [show ((0 : Int)).toNat = 0 from rfl] at hf128_3); (try simp only [Nat.reduceMul, Nat.zero_mul, Nat.zero_add, Nat.reduceAdd] at hf128_3); have hx128_4 := hcc128 4 _ rfl; (try simp only [show (k41).sz = 7 from rfl, Nat.mul_one, Nat.add_zero] at hx128_4); (try rw [show ((0 : Int)).toNat = 0 from rfl] at hx128_4); (try simp only [Nat.reduceMul, Nat.zero_mul, Nat.zero_add, Nat.reduceAdd] at hx128_4); have hf128_4 := hfr128 4; (try simp only [show (k41).sz = 7 from rfl, Nat.mul_one, Nat.add_zero] at hf128_4); (try rw [show ((0 : Int)).toNat = 0 from rfl] at hf128_4); (try simp only [Nat.reduceMul, Nat.zero_mul, Nat.zero_add, Nat.reduceAdd] at hf128_4); have hx128_5 := hcc128 5 _ rfl; (try simp only [show (k41).sz = 7 from rfl, Nat.mul_one, Nat.add_zero] at hx128_5); (try rw [show ((0 : Int)).toNat = 0 from rfl] at hx128_5); (try simp only [Nat.reduceMul, Nat.zero_mul, Nat.zero_add, Nat.reduceAdd] at hx128_5); have hf128_5 := hfr128 5; (try simp only [show (k41).sz = 7 from rfl, Nat.mul_one, Nat.add_zero] at hf128_5); (try rw [show ((0 : Int)).toNat = 0 from rfl] at hf128_5); (try simp only [Nat.reduceMul, Nat.zero_mul, Nat.zero_add, Nat.reduceAdd] at hf128_5); have hx128_6 := hcc128 6 _ rfl; (try simp only [show (k41).sz = 7 from rfl, Nat.mul_one, Nat.add_zero] at hx128_6); (try rw [show ((0 : Int)).toNat = 0 from rfl] at hx128_6); (try simp only [Nat.reduceMul, Nat.zero_mul, Nat.zero_add, Nat.reduceAdd] at hx128_6); have hf128_6 := hfr128 6; (try simp only [show (k41).sz = 7 from rfl, Nat.mul_one, Nat.add_zero] at hf128_6); (try rw [show ((0 : Int)).toNat = 0 from rfl] at hf128_6); (try simp only [Nat.reduceMul, Nat.zero_mul, Nat.zero_add, Nat.reduceAdd] at hf128_6); clear hcl128 hcc128 hfr128 hM128) | ((with_reducible refine gate_store (t := 41) (p := 87) rfl ?_); refine store_event (t := 41) (p := 87) (v := ?vo_w129) (w1 := (((((((w122.setCell ⟨go105, 0, none⟩ (.int .i64 t283)).setCell ⟨go105, 1, none⟩ (.int .i64 t284)).setCell ⟨go105, 2, none⟩ (.int .i64 t285)).setCell ⟨go105, 3, none⟩ (.int .i64 t286)).setCell ⟨go105, 4, none⟩ (.int .i64 t287)).setCell ⟨go105, 5, none⟩ (.int .i64 t288)).setCell ⟨go105, 6, none⟩ (.int .i64 t289))) ?hg ?ho ?hn ?hr ?_; (case ho => rfl); (case hg => rfl); (case hn => rfl); (case hr => first | (go_simp; done) | (go_simp; rfl)); intro w129 hw; have hg : w122.grownBy w129 (some go105) := (by rw [hw]; exact HP128.2); have hp_ : Kd.R k41 41 w129 w.heap.size (fun k_ => some k_ ≠ (.slice Ao13 t279.length co13 : Value).ownBlock ∧ some k_ ≠ (.slice Ao76 y315.length co76 : Value).ownBlock ∧ k_ ≠ gb290) (.slice (some ⟨go105, 0, none⟩) x295004_3.length co105) y325 := (by rw [hw, Ny325.out]; exact HP128.1); clear HP128; have n0_ := Aside0.mk (Kd.R_after (v := (.slice (some ⟨go105, 0, none⟩) x295004_3.length co105)) (v1 := (.slice (some ⟨go105, 0, none⟩) x295004_3.length co105)) (ok := (fun k_ => some k_ ≠ (.slice Ao76 y315.length co76 : Value).ownBlock ∧ k_ ≠ gb290)) z17x46 hg (.inl rfl)); have n1_ := Aside0.mk (hp_); have n2_ := Aside0.mk (Kd.R_after (v := (.slice (some ⟨go105, 0, none⟩) x295004_3.length co105)) (v1 := (.slice (some ⟨go105, 0, none⟩) x295004_3.length co105)) (ok := (fun k_ => some k_ ≠ (.slice Ao13 t279.length co13 : Value).ownBlock ∧ k_ ≠ gb290)) (by (with_reducible repeat (first | apply Kd.R_alloc | apply Kd.R_drewN | apply Kd.R_drew)); exact Kd.R_mono HO_306004.out (fun _ hk => ⟨⟨hk.1, hk.2.2⟩, hk.2.1⟩)) hg (.inl rfl)); have n3_ := Aside0.mk (blk_grown (g := gb282) (o := .cells #[.int .i64 t275, .int .i64 t276, .int .i64 t277, .int .i64 t278, .slice Ao13 t279.length co13] 34 (0, 0)) z17x49 hg (Kd.R_ne HO_295004.out BK282.out (by decide))); have n4_ := Aside0.mk (blk_grown (g := gb290) (o := .cells #[.int .i64 t283, .int .i64 t284, .int .i64 t285, .int .i64 t286, .int .i64 t287, .int .i64 t288, .int .i64 t289] 41 (0, 0)) z17x50 hg (Kd.R_away HO_295004.out (fun _ hk => hk.2.2))); have n5_ := Aside0.mk (blk_grown (g := gb294) (o := .cells #[.int .i64 t275, .int .i64 t276, .int .i64 t277, .int .i64 t278, .slice (some ⟨go105, 0, none⟩) x295004_3.length co105] 34 (0, 0)) z17x51 hg (Kd.R_ne HO_295004.out BK294.out (by decide))); have n6_ := Aside0.mk (blk_grown (g := gb305) (o := .cells #[.int .i64 t275, .int .i64 t276, .int .i64 t277, .int .i64 t278, .slice Ao76 y315.length co76] 34 (0, 0)) z17x52 hg (Kd.R_ne HO_295004.out BK305.out (by decide))); have n7_ := Aside0.mk (blk_grown (g := gb320) (o := .cells #[.int .i64 t275, .int .i64 t276, .int .i64 t277, .int .i64 t278, .slice A120 y321.length c120] 34 (0, 0)) z17x53 hg (Kd.R_ne HO_295004.out BK320.out (by decide))); have n8_ := Aside0.mk ((z17x42 : Below w.heap.size w w129)); have n9_ := Aside0.mk ((show Kd.C k41 w129 A120 y321.length y321 from by rw [Ny321.out, KA120.out]; exact Kd.C_drop (m := 1) (c := co13) ((Kd.R_reads' (Kd.R_after (v := (.slice (some ⟨go105, 0, none⟩) x295004_3.length co105)) (v1 := (.slice (some ⟨go105, 0, none⟩) x295004_3.length co105)) (ok := (fun k_ => some k_ ≠ (.slice Ao76 y315.length co76 : Value).ownBlock ∧ k_ ≠ gb290)) z17x46 hg (.inl rfl))).2.2) KL120.out ((Kd.R_reads' (Kd.R_after (v := (.slice (some ⟨go105, 0, none⟩) x295004_3.length co105)) (v1 := (.slice (some ⟨go105, 0, none⟩) x295004_3.length co105)) (ok := (fun k_ => some k_ ≠ (.slice Ao76 y315.length co76 : Value).ownBlock ∧ k_ ≠ gb290)) z17x46 hg (.inl rfl))).2.1))); clear HO_283004; clear HO_295004; clear HO_306004; clear BK282; clear BK290; clear BK294; clear BK305; clear BK320; clear HB; clear HR324; have HO_283004 := n0_; have HO_295004 := n1_; have HO_306004 := n2_; have BK282 := n3_; have BK290 := n4_; have BK294 := n5_; have BK305 := n6_; have BK320 := n7_; have HB := n8_; have HR324 := n9_; clear n0_ n1_ n2_ n3_ n4_ n5_ n6_ n7_ n8_ n9_; clear hg hw hp_))
                   have n0_ := Aside0.mk (Kd.R_drew HO_283004.out)
                   have n1_ := Aside0.mk (Kd.R_drew HO_295004.out)
                   have n2_ := Aside0.mk (Kd.R_drew HO_306004.out)
                   have n3_ := Aside0.mk (blk_drew BK282.out)
                   have n4_ := Aside0.mk (blk_drew BK290.out)
                   have n5_ := Aside0.mk (blk_drew BK294.out)
                   have n6_ := Aside0.mk (blk_drew BK305.out)
                   have n7_ := Aside0.mk (blk_drew BK320.out)
                   have n8_ := Aside0.mk (Kd.C_drew HR324.out)
                   have n9_ := Aside0.mk (below_drew1 HB.out)
                   clear HO_283004
                   clear HO_295004
                   clear HO_306004
                   clear BK282
                   clear BK290
                   clear BK294
                   clear BK305
                   clear BK320
                   clear HR324
                   clear HB
                   have HO_283004 := n0_
                   have HO_295004 := n1_
                   have HO_306004 := n2_
                   have BK282 := n3_
                   have BK290 := n4_
                   have BK294 := n5_
                   have BK305 := n6_
                   have BK320 := n7_
                   have HR324 := n8_
                   have HB := n9_
                   clear n0_ n1_ n2_ n3_ n4_ n5_ n6_ n7_ n8_ n9_
                   refine start_ (n := 11) (S := fun w' => w'.cell? ⟨gb320, 0, none⟩ = some (.int .i64 t275) ∧ w'.cell? ⟨gb320, 1, none⟩ = some (.int .i64 t276) ∧ w'.cell? ⟨gb320, 2, none⟩ = some (.int .i64 t277) ∧ w'.cell? ⟨gb320, 3, none⟩ = some (.int .i64 t278) ∧ w'.cell? ⟨gb320, 4, none⟩ = some (.slice A120 y321.length c120)) (ds := []) #[false, false, false, false, false, false, false, false, false, false, false] (by kernel_rfl) rfl rfl ⟨(blk_cell BK320.out 0).trans rfl, (blk_cell BK320.out 1).trans rfl, (blk_cell BK320.out 2).trans rfl, (blk_cell BK320.out 3).trans rfl, (blk_cell BK320.out 4).trans rfl⟩ (fun hHeld => ?_); refine with_tabW laws_FnMsgSeals.tab23 laws_FnMsgSeals.bits23 (fun HT_ HW_ => ?_)
                   generalize w129.drew = w130 at HO_283004 HO_295004 HO_306004 BK282 BK290 BK294 BK305 BK320 HR324 HB hHeld ⊢
                   refine take_ (i := 0) (N := some 88) (v := ?_) (a' := ?_) #[true, false, false, false, false, false, false, false, false, false, false] rfl rfl (take_ofW HT_.out HW_.out (by kernel_rfl)) (fun _ _ _ h => h) (Or.inl ⟨by rfl, ?_⟩) hHeld ?_ ?_
                   rotate_left
                   ·rintro w' ⟨s0, s1, s2, s3, s4⟩
                    go_simp
                    with_reducible rfl
                   rotate_left
                   ·simp only [Act.put, List.setIfInBounds_toArray, List.set_cons_zero, List.set_cons_succ, i64_w, i32_w]
                    rfl
                   refine one_ (i := 1) (N := some 89) #[true, true, false, false, false, false, false, false, false, false, false] rfl rfl (one_of HT_.out (by kernel_rfl)) (by decide) (fun K hK => ?_)
                   refine goes_ Try.func20 (by kernel_rfl) rfl #[.agg #[.int .i64 t275, .int .i64 t276, .int .i64 t277, .int .i64 t278, .slice A120 y321.length c120]] (by rfl) rfl rfl z17x47 ?_
                   with_reducible refine (impl_MsgOk.calls t275 t276 t277 t278 _ _ y321 true _ ?side1 ?side2 A106.out).mono ?_
                   (case side1 => repeat (first | exact z17x41 | (with_reducible refine Kd.C_alloc ?_ _) | (with_reducible refine Kd.C_drewN ?_ _) | (with_reducible refine Kd.C_drew ?_)))
                   (case side2 => exact HC324.out)
                   rintro e w131 ⟨rfl, hb⟩
                   refine ⟨_, rfl, ?_⟩
                   have n0_ := Aside0.mk (Kd.R_below z17x54 hb)
                   have n1_ := Aside0.mk (Kd.R_below z17x55 hb)
                   have n2_ := Aside0.mk (Kd.R_below z17x56 hb)
                   have n3_ := Aside0.mk (blk_below (g := gb282) (o := .cells #[.int .i64 t275, .int .i64 t276, .int .i64 t277, .int .i64 t278, .slice Ao13 t279.length co13] 34 (0, 0)) z17x49 hb)
                   have n4_ := Aside0.mk (blk_below (g := gb290) (o := .cells #[.int .i64 t283, .int .i64 t284, .int .i64 t285, .int .i64 t286, .int .i64 t287, .int .i64 t288, .int .i64 t289] 41 (0, 0)) z17x50 hb)
                   have n5_ := Aside0.mk (blk_below (g := gb294) (o := .cells #[.int .i64 t275, .int .i64 t276, .int .i64 t277, .int .i64 t278, .slice (some ⟨go105, 0, none⟩) x295004_3.length co105] 34 (0, 0)) z17x51 hb)
                   have n6_ := Aside0.mk (blk_below (g := gb305) (o := .cells #[.int .i64 t275, .int .i64 t276, .int .i64 t277, .int .i64 t278, .slice Ao76 y315.length co76] 34 (0, 0)) z17x52 hb)
                   have n7_ := Aside0.mk (blk_below (g := gb320) (o := .cells #[.int .i64 t275, .int .i64 t276, .int .i64 t277, .int .i64 t278, .slice A120 y321.length c120] 34 (0, 0)) z17x53 hb)
                   have n8_ := Aside0.mk (Kd.C_below z17x41 hb)
                   have n9_ := Aside0.mk (below_step z17x16 hb)
                   clear HO_283004
                   clear HO_295004
                   clear HO_306004
                   clear BK282
                   clear BK290
                   clear BK294
                   clear BK305
                   clear BK320
                   clear HR324
                   clear HB
                   have HO_283004 := n0_
                   have HO_295004 := n1_
                   have HO_306004 := n2_
                   have BK282 := n3_
                   have BK290 := n4_
                   have BK294 := n5_
                   have BK305 := n6_
                   have BK320 := n7_
                   have HR324 := n8_
                   have HB := n9_
                   clear n0_ n1_ n2_ n3_ n4_ n5_ n6_ n7_ n8_ n9_
                   (try clear hb)
                   (try clear hb2)
                   (try clear hk)
                   (try clear hi)
                   refine hK.out _ _ ⟨(blk_cell BK320.out 0).trans rfl, (blk_cell BK320.out 1).trans rfl, (blk_cell BK320.out 2).trans rfl, (blk_cell BK320.out 3).trans rfl, (blk_cell BK320.out 4).trans rfl⟩ (fun hHeld => ?_)
                   clear hK K
                   refine norm_ (a' := ?_) ?_ ?_
                   rotate_left
                   ·show Act.put _ (some 89) _ = _
                    simp only [Act.put, List.setIfInBounds_toArray, List.set_cons_zero, List.set_cons_succ, i64_w, i32_w]
                    rfl
                   refine pure_ (i := 2) (N := some 90) (v := ?_) (a' := ?_) #[true, true, true, false, false, false, false, false, false, false, false] rfl rfl (any_of HT_.out (by kernel_rfl)) (fun _ _ _ h => h) (Or.inl ⟨by rfl, ?_⟩) ?_ ?_
                   rotate_left
                   ·intro w'
                    go_simp
                    with_reducible rfl
                   rotate_left
                   ·simp only [Act.put, List.setIfInBounds_toArray, List.set_cons_zero, List.set_cons_succ, i64_w, i32_w]
                    rfl
                   refine pure_ (i := 3) (N := some 91) (v := ?_) (a' := ?_) #[true, true, true, true, false, false, false, false, false, false, false] rfl rfl (any_of HT_.out (by kernel_rfl)) (fun _ _ _ h => h) (Or.inl ⟨by rfl, ?_⟩) ?_ ?_
                   rotate_left
                   ·intro w'
                    go_simp
                    with_reducible rfl
                   rotate_left
                   ·simp only [Act.put, List.setIfInBounds_toArray, List.set_cons_zero, List.set_cons_succ, i64_w, i32_w]
                    rfl
                   refine pure_ (i := 4) (N := some 92) (v := undef) (a' := ?_) #[true, true, true, true, true, false, false, false, false, false, false] rfl rfl (any_of HT_.out (by kernel_rfl)) (fun _ _ _ h => h) (Or.inr ⟨by rfl, rfl⟩) ?_ ?_
                   rotate_left
                   ·simp only [Act.put, List.setIfInBounds_toArray, List.set_cons_zero, List.set_cons_succ, i64_w, i32_w]
                    rfl
                   refine pure_ (i := 5) (N := some 93) (v := undef) (a' := ?_) #[true, true, true, true, true, true, false, false, false, false, false] rfl rfl (any_of HT_.out (by kernel_rfl)) (fun _ _ _ h => h) (Or.inr ⟨by rfl, rfl⟩) ?_ ?_
                   rotate_left
                   ·simp only [Act.put, List.setIfInBounds_toArray, List.set_cons_zero, List.set_cons_succ, i64_w, i32_w]
                    rfl
                   refine pure_ (i := 6) (N := some 94) (v := undef) (a' := ?_) #[true, true, true, true, true, true, true, false, false, false, false] rfl rfl (any_of HT_.out (by kernel_rfl)) (fun _ _ _ h => h) (Or.inr ⟨by rfl, rfl⟩) ?_ ?_
                   rotate_left
                   ·simp only [Act.put, List.setIfInBounds_toArray, List.set_cons_zero, List.set_cons_succ, i64_w, i32_w]
                    rfl
                   refine pure_ (i := 7) (N := some 95) (v := undef) (a' := ?_) #[true, true, true, true, true, true, true, true, false, false, false] rfl rfl (any_of HT_.out (by kernel_rfl)) (fun _ _ _ h => h) (Or.inr ⟨by rfl, rfl⟩) ?_ ?_
                   rotate_left
                   ·simp only [Act.put, List.setIfInBounds_toArray, List.set_cons_zero, List.set_cons_succ, i64_w, i32_w]
                    rfl
                   refine pure_ (i := 8) (N := some 96) (v := undef) (a' := ?_) #[true, true, true, true, true, true, true, true, true, false, false] rfl rfl (any_of HT_.out (by kernel_rfl)) (fun _ _ _ h => h) (Or.inr ⟨by rfl, rfl⟩) ?_ ?_
                   rotate_left
                   ·simp only [Act.put, List.setIfInBounds_toArray, List.set_cons_zero, List.set_cons_succ, i64_w, i32_w]
                    rfl
                   refine pure_ (i := 9) (N := some 97) (v := ?_) (a' := ?_) #[true, true, true, true, true, true, true, true, true, true, false] rfl rfl (any_of HT_.out (by kernel_rfl)) (fun _ _ _ h => h) (Or.inl ⟨by rfl, ?_⟩) ?_ ?_
                   rotate_left
                   ·intro w'
                    go_simp
                    with_reducible rfl
                   rotate_left
                   ·simp only [Act.put, List.setIfInBounds_toArray, List.set_cons_zero, List.set_cons_succ, i64_w, i32_w]
                    rfl
                   refine pure_ (i := 10) (N := some 4) (v := ?_) (a' := ?_) #[true, true, true, true, true, true, true, true, true, true, true] rfl rfl (any_of HT_.out (by kernel_rfl)) (fun _ _ _ h => h) (Or.inl ⟨by rfl, ?_⟩) ?_ ?_
                   rotate_left
                   ·intro w'
                    go_simp
                    with_reducible rfl
                   rotate_left
                   ·simp only [Act.put, List.setIfInBounds_toArray, List.set_cons_zero, List.set_cons_succ, i64_w, i32_w]
                    rfl
                   refine done_ (done_of HT_.out (by kernel_rfl)) ?_
                   try go_wp2
                   go_ret
                   exact ⟨by first | rfl | (simp [errW_none, errW_some] <;> rfl) | (simp [*, errW_none, errW_some] <;> rfl), by repeat (first | (with_reducible first | exact HB.out | apply below_alloc | apply pw_below_drewN | apply below_drew1 | refine below_set ?_ GE282.out | refine below_set ?_ GE290.out | refine below_set ?_ GE294.out | refine below_set ?_ GE305.out | refine below_set ?_ GE320.out) | exact HB.out)⟩
                  ·replace c107 := Bool.eq_false_iff.mpr c107
                   subst c107
                   rw [if_neg (show ¬ (false = true) by decide)] at H
                   replace H := Option.bind_eq_some_iff.mp H
                   obtain ⟨t327, A1320, H⟩ := H
                   replace H : ((impl_SealOk.f t283 t284 t285 t286 t287 t288 t289).bind fun t328 => (some (t327 == t328))) = some r := H
                   have A132 := Aside0.mk A1320
                   clear A1320
                   replace H := Option.bind_eq_some_iff.mp H
                   obtain ⟨t328, A1330, H⟩ := H
                   replace H : (some (t327 == t328)) = some r := H
                   have A133 := Aside0.mk A1330
                   clear A1330
                   obtain rfl := Option.some.inj H
                   have hnb134 := NB282_290.out
                   have hnc134 := NB290_282.out
                   have hnb135 := NB282_294.out
                   have hnc135 := NB294_282.out
                   have hnb136 := NB282_305.out
                   have hnc136 := NB305_282.out
                   have hcz137_0 : wc.cell? ⟨gb282, 0, none⟩ = some (.int .i64 t275) := (blk_cell BK282.out 0).trans rfl
                   have hcz137_1 : wc.cell? ⟨gb282, 1, none⟩ = some (.int .i64 t276) := (blk_cell BK282.out 1).trans rfl
                   have hcz137_2 : wc.cell? ⟨gb282, 2, none⟩ = some (.int .i64 t277) := (blk_cell BK282.out 2).trans rfl
                   have hcz137_3 : wc.cell? ⟨gb282, 3, none⟩ = some (.int .i64 t278) := (blk_cell BK282.out 3).trans rfl
                   have hcz137_4 : wc.cell? ⟨gb282, 4, none⟩ = some (.slice Ao13 t279.length co13) := (blk_cell BK282.out 4).trans rfl
                   have hfz137_0 := blk_frozen BK282.out 0
                   have hfz137_1 := blk_frozen BK282.out 1
                   have hfz137_2 := blk_frozen BK282.out 2
                   have hfz137_3 := blk_frozen BK282.out 3
                   have hfz137_4 := blk_frozen BK282.out 4
                   try go_wp2_with (first | ((with_reducible refine gate_dst (N := 11) rfl ?_); refine box_event ?hg (N := 11) ?hd (cs := #[.int .i64 0, .int .i64 0, .int .i64 0, .int .i64 0, .slice none 0 0]) (t := 34) ?hr ?_; (case hd => rfl); (case hg => rfl); (case hr => first | (go_simp; done) | (go_simp; rfl)); intro gb320 hg w138 hbox hb; have n0_ := Aside0.mk (Kd.R_below z17x54 hb); have n1_ := Aside0.mk (Kd.R_below z17x55 hb); have n2_ := Aside0.mk (Kd.R_below z17x56 hb); have n3_ := Aside0.mk (blk_below (g := gb282) (o := .cells #[.int .i64 t275, .int .i64 t276, .int .i64 t277, .int .i64 t278, .slice Ao13 t279.length co13] 34 (0, 0)) z17x49 hb); have n4_ := Aside0.mk (blk_below (g := gb290) (o := .cells #[.int .i64 t283, .int .i64 t284, .int .i64 t285, .int .i64 t286, .int .i64 t287, .int .i64 t288, .int .i64 t289] 41 (0, 0)) z17x50 hb); have n5_ := Aside0.mk (blk_below (g := gb294) (o := .cells #[.int .i64 t275, .int .i64 t276, .int .i64 t277, .int .i64 t278, u295004] 34 (0, 0)) z17x51 hb); have n6_ := Aside0.mk (blk_below (g := gb305) (o := .cells #[.int .i64 t275, .int .i64 t276, .int .i64 t277, .int .i64 t278, .slice Ao76 y315.length co76] 34 (0, 0)) z17x52 hb); have n7_ := Aside0.mk (below_step z17x28 hb); have n8_ := Aside0.mk (hbox); have n9_ := Aside0.mk ((z17x17 : w.heap.size ≤ gb320)); have n10_ := Aside0.mk ((z17x17 : w.heap.size ≤ gb320)); have n11_ := Aside0.mk ((z17x20 : gb282 ≠ gb320)); have n12_ := Aside0.mk ((z17x18 : gb320 ≠ gb282)); have n13_ := Aside0.mk ((z17x15 : gb290 ≠ gb320)); have n14_ := Aside0.mk ((z17x14 : gb320 ≠ gb290)); have n15_ := Aside0.mk ((z17x27 : gb294 ≠ gb320)); have n16_ := Aside0.mk ((z17x26 : gb320 ≠ gb294)); have n17_ := Aside0.mk ((z17x21 : gb305 ≠ gb320)); have n18_ := Aside0.mk ((z17x19 : gb320 ≠ gb305)); clear HO_283004; clear HO_295004; clear HO_306004; clear BK282; clear BK290; clear BK294; clear BK305; clear HB; have HO_283004 := n0_; have HO_295004 := n1_; have HO_306004 := n2_; have BK282 := n3_; have BK290 := n4_; have BK294 := n5_; have BK305 := n6_; have HB := n7_; have BK320 := n8_; have GW320 := n9_; have GE320 := n10_; have NB282_320 := n11_; have NB320_282 := n12_; have NB290_320 := n13_; have NB320_290 := n14_; have NB294_320 := n15_; have NB320_294 := n16_; have NB305_320 := n17_; have NB320_305 := n18_; clear n0_ n1_ n2_ n3_ n4_ n5_ n6_ n7_ n8_ n9_ n10_ n11_ n12_ n13_ n14_ n15_ n16_ n17_ n18_; clear hb hbox hg; have hnb139 := NB320_282.out; have hnc139 := NB282_320.out; have hnb140 := NB320_290.out; have hnc140 := NB290_320.out; have hnb141 := NB320_294.out; have hnc141 := NB294_320.out; have hnb142 := NB320_305.out; have hnc142 := NB305_320.out; have hcz143_0 : w138.cell? ⟨gb320, 0, none⟩ = some (.int .i64 0) := (blk_cell BK320.out 0).trans rfl; have hcz143_1 : w138.cell? ⟨gb320, 1, none⟩ = some (.int .i64 0) := (blk_cell BK320.out 1).trans rfl; have hcz143_2 : w138.cell? ⟨gb320, 2, none⟩ = some (.int .i64 0) := (blk_cell BK320.out 2).trans rfl; have hcz143_3 : w138.cell? ⟨gb320, 3, none⟩ = some (.int .i64 0) := (blk_cell BK320.out 3).trans rfl; have hcz143_4 : w138.cell? ⟨gb320, 4, none⟩ = some (.slice none 0 0) := (blk_cell BK320.out 4).trans rfl; have hfz143_0 := blk_frozen BK320.out 0; have hfz143_1 := blk_frozen BK320.out 1; have hfz143_2 := blk_frozen BK320.out 2; have hfz143_3 := blk_frozen BK320.out 3; have hfz143_4 := blk_frozen BK320.out 4) | ((with_reducible refine gate_store (t := 34) (p := 11) rfl ?_); refine store_event (t := 34) (p := 11) (v := ?vo_w144) (w1 := (((((w138.setCell ⟨gb320, 0, none⟩ (.int .i64 t275)).setCell ⟨gb320, 1, none⟩ (.int .i64 t276)).setCell ⟨gb320, 2, none⟩ (.int .i64 t277)).setCell ⟨gb320, 3, none⟩ (.int .i64 t278)).setCell ⟨gb320, 4, none⟩ (.slice Ao13 t279.length co13))) ?hg ?ho ?hn ?hr ?_; (case ho => rfl); (case hg => rfl); (case hn => rfl); (case hr => first | (go_simp; done) | (go_simp; rfl)); intro w144 hw; have n0_ : Aside0 (Kd.R k41 41 w144 w.heap.size (fun k_ => some k_ ≠ (u295004 : Value).ownBlock ∧ some k_ ≠ (.slice Ao76 y315.length co76 : Value).ownBlock ∧ k_ ≠ gb290) (.slice Ao13 t279.length co13) t279) := ⟨z17x7⟩; have n1_ : Aside0 (Kd.R k41 41 w144 w.heap.size (fun k_ => some k_ ≠ (.slice Ao13 t279.length co13 : Value).ownBlock ∧ some k_ ≠ (.slice Ao76 y315.length co76 : Value).ownBlock ∧ k_ ≠ gb290) u295004 x295004_3) := ⟨z17x8⟩; have n2_ : Aside0 (Kd.R k41 41 w144 w.heap.size (fun k_ => some k_ ≠ (.slice Ao13 t279.length co13 : Value).ownBlock ∧ some k_ ≠ (u295004 : Value).ownBlock ∧ k_ ≠ gb290) (.slice Ao76 y315.length co76) y315) := ⟨z17x9⟩; have n3_ : Aside0 (w144.heap[gb282]? = some (.cells #[.int .i64 t275, .int .i64 t276, .int .i64 t277, .int .i64 t278, .slice Ao13 t279.length co13] 34 (0, 0))) := ⟨z17x1⟩; have n4_ : Aside0 (w144.heap[gb290]? = some (.cells #[.int .i64 t283, .int .i64 t284, .int .i64 t285, .int .i64 t286, .int .i64 t287, .int .i64 t288, .int .i64 t289] 41 (0, 0))) := ⟨z17x2⟩; have n5_ : Aside0 (w144.heap[gb294]? = some (.cells #[.int .i64 t275, .int .i64 t276, .int .i64 t277, .int .i64 t278, u295004] 34 (0, 0))) := ⟨z17x3⟩; have n6_ : Aside0 (w144.heap[gb305]? = some (.cells #[.int .i64 t275, .int .i64 t276, .int .i64 t277, .int .i64 t278, .slice Ao76 y315.length co76] 34 (0, 0))) := ⟨z17x4⟩; have n7_ : Aside0 (w144.heap[gb320]? = some (.cells #[.int .i64 t275, .int .i64 t276, .int .i64 t277, .int .i64 t278, .slice Ao13 t279.length co13] 34 (0, 0))) := ⟨z17x0⟩; have n8_ : Aside0 (Below w.heap.size w w144) := ⟨z17x13⟩; clear hw; clear HO_283004; clear HO_295004; clear HO_306004; clear BK282; clear BK290; clear BK294; clear BK305; clear BK320; clear HB; have HO_283004 := n0_; have HO_295004 := n1_; have HO_306004 := n2_; have BK282 := n3_; have BK290 := n4_; have BK294 := n5_; have BK305 := n6_; have BK320 := n7_; have HB := n8_; clear n0_ n1_ n2_ n3_ n4_ n5_ n6_ n7_ n8_; have hcz145_0 : w144.cell? ⟨gb282, 0, none⟩ = some (.int .i64 t275) := (blk_cell BK282.out 0).trans rfl; have hcz145_1 : w144.cell? ⟨gb282, 1, none⟩ = some (.int .i64 t276) := (blk_cell BK282.out 1).trans rfl; have hcz145_2 : w144.cell? ⟨gb282, 2, none⟩ = some (.int .i64 t277) := (blk_cell BK282.out 2).trans rfl; have hcz145_3 : w144.cell? ⟨gb282, 3, none⟩ = some (.int .i64 t278) := (blk_cell BK282.out 3).trans rfl; have hcz145_4 : w144.cell? ⟨gb282, 4, none⟩ = some (.slice Ao13 t279.length co13) := (blk_cell BK282.out 4).trans rfl; have hfz145_0 := blk_frozen BK282.out 0; have hfz145_1 := blk_frozen BK282.out 1; have hfz145_2 := blk_frozen BK282.out 2; have hfz145_3 := blk_frozen BK282.out 3; have hfz145_4 := blk_frozen BK282.out 4; have q146 : (1 : Int) ≤ ((t279.length : Int) : Int) := of_decide_eq_true (by first | (with_reducible assumption) | assumption); obtain ⟨i0146, hi0146, _, hsz146, _⟩ := info_parts info41; have hroom146 : t279.length ≤ co13 := (Kd.R_reads' HO_283004.out).2.1; have hC146 : Kd.C k41 _ Ao13 t279.length t279 := (Kd.R_reads' HO_283004.out).2.2; have hcut146 := cut_from (P := Try.prog) 32 41 .i64 Try.underlying32 hi0146 7 hsz146 Ao13 t279.length co13 1 (by omega) q146; have hr146 := Kd.C_drop (m := (1 : Int).toNat) (c := co13) hC146 (by omega) hroom146; obtain ⟨A146, hA146⟩ : ∃ A1, A1 = (if co13 = (1 : Int).toNat then Ao13 else (Ao13 : Option Addr).map (·.add ((1 : Int).toNat * 7))) := ⟨_, rfl⟩; obtain ⟨c146, hc146⟩ : ∃ c1, c1 = co13 - (1 : Int).toNat := ⟨_, rfl⟩; have hy146 : y321.length = t279.length - (1 : Int).toNat := (by rw [Ny321.out, List.length_drop] <;> omega); rw [show (t279).drop (1 : Int).toNat = y321 from Ny321.out.symm] at hr146; replace hr146 : Kd.C k41 _ A146 y321.length y321 := (by rw [hA146]; exact hr146); rw [← hy146, ← hA146, ← hc146] at hcut146; have HR324 := Aside0.mk hr146; have HC324 := Aside0.mk (show y321.length ≤ c146 from by rw [hy146, hc146]; exact Nat.sub_le_sub_right hroom146 _); clear hr146 hC146 hroom146 hi0146 hsz146 hc146; have KY146 := Aside0.mk hy146; have KA146 := Aside0.mk hA146; clear hy146 hA146; have KL146 := Aside0.mk (show 1 ≤ t279.length from by omega); replace q146 := eq_true q146; have hcz147_0 : w144.cell? ⟨gb320, 0, none⟩ = some (.int .i64 t275) := (blk_cell BK320.out 0).trans rfl; have hcz147_1 : w144.cell? ⟨gb320, 1, none⟩ = some (.int .i64 t276) := (blk_cell BK320.out 1).trans rfl; have hcz147_2 : w144.cell? ⟨gb320, 2, none⟩ = some (.int .i64 t277) := (blk_cell BK320.out 2).trans rfl; have hcz147_3 : w144.cell? ⟨gb320, 3, none⟩ = some (.int .i64 t278) := (blk_cell BK320.out 3).trans rfl; have hcz147_4 : w144.cell? ⟨gb320, 4, none⟩ = some (.slice Ao13 t279.length co13) := (blk_cell BK320.out 4).trans rfl; have hfz147_0 := blk_frozen BK320.out 0; have hfz147_1 := blk_frozen BK320.out 1; have hfz147_2 := blk_frozen BK320.out 2; have hfz147_3 := blk_frozen BK320.out 3; have hfz147_4 := blk_frozen BK320.out 4) | ((with_reducible refine gate_store (t := 32) (p := 83) rfl ?_); refine store_event (t := 32) (p := 83) (v := ?vo_w148) (w1 := (w144.setCell ⟨gb320, 4, none⟩ (.slice A146 y321.length c146))) ?hg ?ho ?hn ?hr ?_; (case ho => rfl); (case hg => rfl); (case hn => rfl); (case hr => first | (go_simp; done) | (go_simp; rfl)); intro w148 hw; have n0_ : Aside0 (Kd.R k41 41 w148 w.heap.size (fun k_ => some k_ ≠ (u295004 : Value).ownBlock ∧ some k_ ≠ (.slice Ao76 y315.length co76 : Value).ownBlock ∧ k_ ≠ gb290) (.slice Ao13 t279.length co13) t279) := ⟨(by rw [hw]; exact (by (with_reducible repeat (first | apply Kd.R_alloc | apply Kd.R_drewN | apply Kd.R_drew)); exact Kd.R_mono (Kd.R_far (p := ⟨gb320, 4, none⟩) (Kd.R_types HO_283004.out BK320.out (by decide)) (fun _ hk => hk.2) (.slice A146 y321.length c146)) (fun _ hk => ⟨hk.1.1, ⟨hk.1.2.1, hk.1.2.2⟩⟩)))⟩; have n1_ : Aside0 (Kd.R k41 41 w148 w.heap.size (fun k_ => some k_ ≠ (.slice Ao13 t279.length co13 : Value).ownBlock ∧ some k_ ≠ (.slice Ao76 y315.length co76 : Value).ownBlock ∧ k_ ≠ gb290) u295004 x295004_3) := ⟨(by rw [hw]; exact (by (with_reducible repeat (first | apply Kd.R_alloc | apply Kd.R_drewN | apply Kd.R_drew)); exact Kd.R_mono (Kd.R_far (p := ⟨gb320, 4, none⟩) (Kd.R_types HO_295004.out BK320.out (by decide)) (fun _ hk => hk.2) (.slice A146 y321.length c146)) (fun _ hk => ⟨hk.1.1, ⟨hk.1.2.1, hk.1.2.2⟩⟩)))⟩; have n2_ : Aside0 (Kd.R k41 41 w148 w.heap.size (fun k_ => some k_ ≠ (.slice Ao13 t279.length co13 : Value).ownBlock ∧ some k_ ≠ (u295004 : Value).ownBlock ∧ k_ ≠ gb290) (.slice Ao76 y315.length co76) y315) := ⟨(by rw [hw]; exact (by (with_reducible repeat (first | apply Kd.R_alloc | apply Kd.R_drewN | apply Kd.R_drew)); exact Kd.R_mono (Kd.R_far (p := ⟨gb320, 4, none⟩) (Kd.R_types HO_306004.out BK320.out (by decide)) (fun _ hk => hk.2) (.slice A146 y321.length c146)) (fun _ hk => ⟨hk.1.1, ⟨hk.1.2.1, hk.1.2.2⟩⟩)))⟩; have n3_ : Aside0 (w148.heap[gb282]? = some (.cells #[.int .i64 t275, .int .i64 t276, .int .i64 t277, .int .i64 t278, .slice Ao13 t279.length co13] 34 (0, 0))) := ⟨z17x22⟩; have n4_ : Aside0 (w148.heap[gb290]? = some (.cells #[.int .i64 t283, .int .i64 t284, .int .i64 t285, .int .i64 t286, .int .i64 t287, .int .i64 t288, .int .i64 t289] 41 (0, 0))) := ⟨z17x23⟩; have n5_ : Aside0 (w148.heap[gb294]? = some (.cells #[.int .i64 t275, .int .i64 t276, .int .i64 t277, .int .i64 t278, u295004] 34 (0, 0))) := ⟨z17x24⟩; have n6_ : Aside0 (w148.heap[gb305]? = some (.cells #[.int .i64 t275, .int .i64 t276, .int .i64 t277, .int .i64 t278, .slice Ao76 y315.length co76] 34 (0, 0))) := ⟨z17x25⟩; have n7_ : Aside0 (w148.heap[gb320]? = some (.cells #[.int .i64 t275, .int .i64 t276, .int .i64 t277, .int .i64 t278, .slice A146 y321.length c146] 34 (0, 0))) := ⟨z17x11⟩; have n8_ : Aside0 (Below w.heap.size w w148) := ⟨z17x13⟩; clear hw; have nc146_ := Aside0.mk (show Kd.C k41 w148 A146 y321.length y321 from by rw [Ny321.out, KA146.out]; exact Kd.C_drop (m := 1) (c := co13) ((Kd.R_reads' n0_.out).2.2) KL146.out ((Kd.R_reads' n0_.out).2.1)); clear HR324; have HR324 := nc146_; clear nc146_; clear HO_283004; clear HO_295004; clear HO_306004; clear BK282; clear BK290; clear BK294; clear BK305; clear BK320; clear HB; have HO_283004 := n0_; have HO_295004 := n1_; have HO_306004 := n2_; have BK282 := n3_; have BK290 := n4_; have BK294 := n5_; have BK305 := n6_; have BK320 := n7_; have HB := n8_; clear n0_ n1_ n2_ n3_ n4_ n5_ n6_ n7_ n8_; have hnb149 := NB294_290.out; have hnc149 := NB290_294.out; have hnb150 := NB294_305.out; have hnc150 := NB305_294.out; have hcz151_0 : w148.cell? ⟨gb294, 0, none⟩ = some (.int .i64 t275) := (blk_cell BK294.out 0).trans rfl; have hcz151_1 : w148.cell? ⟨gb294, 1, none⟩ = some (.int .i64 t276) := (blk_cell BK294.out 1).trans rfl; have hcz151_2 : w148.cell? ⟨gb294, 2, none⟩ = some (.int .i64 t277) := (blk_cell BK294.out 2).trans rfl; have hcz151_3 : w148.cell? ⟨gb294, 3, none⟩ = some (.int .i64 t278) := (blk_cell BK294.out 3).trans rfl; have hcz151_4 : w148.cell? ⟨gb294, 4, none⟩ = some (u295004) := (blk_cell BK294.out 4).trans rfl; have hfz151_0 := blk_frozen BK294.out 0; have hfz151_1 := blk_frozen BK294.out 1; have hfz151_2 := blk_frozen BK294.out 2; have hfz151_3 := blk_frozen BK294.out 3; have hfz151_4 := blk_frozen BK294.out 4; have hnb152 := NB290_305.out; have hnc152 := NB305_290.out; have hcz153_0 : w148.cell? ⟨gb290, 0, none⟩ = some (.int .i64 t283) := (blk_cell BK290.out 0).trans rfl; have hcz153_1 : w148.cell? ⟨gb290, 1, none⟩ = some (.int .i64 t284) := (blk_cell BK290.out 1).trans rfl; have hcz153_2 : w148.cell? ⟨gb290, 2, none⟩ = some (.int .i64 t285) := (blk_cell BK290.out 2).trans rfl; have hcz153_3 : w148.cell? ⟨gb290, 3, none⟩ = some (.int .i64 t286) := (blk_cell BK290.out 3).trans rfl; have hcz153_4 : w148.cell? ⟨gb290, 4, none⟩ = some (.int .i64 t287) := (blk_cell BK290.out 4).trans rfl; have hcz153_5 : w148.cell? ⟨gb290, 5, none⟩ = some (.int .i64 t288) := (blk_cell BK290.out 5).trans rfl; have hcz153_6 : w148.cell? ⟨gb290, 6, none⟩ = some (.int .i64 t289) := (blk_cell BK290.out 6).trans rfl; have hfz153_0 := blk_frozen BK290.out 0; have hfz153_1 := blk_frozen BK290.out 1; have hfz153_2 := blk_frozen BK290.out 2; have hfz153_3 := blk_frozen BK290.out 3; have hfz153_4 := blk_frozen BK290.out 4; have hfz153_5 := blk_frozen BK290.out 5; have hfz153_6 := blk_frozen BK290.out 6; have p105 : 0 ≤ (0 : Int) := (by omega); have q105 : (0 : Int) < ((x295004_3.length : Int) : Int) := of_decide_eq_true (by first | (with_reducible assumption) | assumption); have qi105 : (0 < x295004_3.length) = True := eq_true (by omega); obtain ⟨go105, co105, eo105, gb105, gl105, cl105, HG105⟩ := Kd.R_form HO_295004.out (by omega); (first | cases eo105 | (injection eo105 with ea_ en_ ec_; (first | subst ea_ | (injection ea_ with ea_; subst ea_)); subst ec_; clear en_)); have GB105 := Aside0.mk gb105; have GG105 := Aside0.mk HG105; clear gb105 gl105 HG105; obtain ⟨ce105, hcl105, hM105, hcc105, hfr105⟩ := Kd.R_elem HO_295004.out z41 (0 : Int) p105 q105; obtain rfl := k41_openM hM105; have hx105_0 : w148.cell? ⟨go105, (0 : Int).toNat * 7, none⟩ = some (.int .i64 ((rd_T41 x295004_3 0).f0)) := hcc105 0 _ rfl; have hx105_1 : w148.cell? ⟨go105, (0 : Int).toNat * 7 + 1, none⟩ = some (.int .i64 ((rd_T41 x295004_3 0).f1)) := hcc105 1 _ rfl; have hx105_2 : w148.cell? ⟨go105, (0 : Int).toNat * 7 + 2, none⟩ = some (.int .i64 ((rd_T41 x295004_3 0).f2)) := hcc105 2 _ rfl; have hx105_3 : w148.cell? ⟨go105, (0 : Int).toNat * 7 + 3, none⟩ = some (.int .i64 ((rd_T41 x295004_3 0).f3)) := hcc105 3 _ rfl; have hx105_4 : w148.cell? ⟨go105, (0 : Int).toNat * 7 + 4, none⟩ = some (.int .i64 ((rd_T41 x295004_3 0).f4)) := hcc105 4 _ rfl; have hx105_5 : w148.cell? ⟨go105, (0 : Int).toNat * 7 + 5, none⟩ = some (.int .i64 ((rd_T41 x295004_3 0).f5)) := hcc105 5 _ rfl; have hx105_6 : w148.cell? ⟨go105, (0 : Int).toNat * 7 + 6, none⟩ = some (.int .i64 ((rd_T41 x295004_3 0).f6)) := hcc105 6 _ rfl; have hf105_0 : w148.frozen? ⟨go105, (0 : Int).toNat * 7, none⟩ = false := hfr105 0; have hf105_1 : w148.frozen? ⟨go105, (0 : Int).toNat * 7 + 1, none⟩ = false := hfr105 1; have hf105_2 : w148.frozen? ⟨go105, (0 : Int).toNat * 7 + 2, none⟩ = false := hfr105 2; have hf105_3 : w148.frozen? ⟨go105, (0 : Int).toNat * 7 + 3, none⟩ = false := hfr105 3; have hf105_4 : w148.frozen? ⟨go105, (0 : Int).toNat * 7 + 4, none⟩ = false := hfr105 4; have hf105_5 : w148.frozen? ⟨go105, (0 : Int).toNat * 7 + 5, none⟩ = false := hfr105 5; have hf105_6 : w148.frozen? ⟨go105, (0 : Int).toNat * 7 + 6, none⟩ = false := hfr105 6; clear hcl105 hcc105 hfr105 hM105; (try rw [show ((0 : Int)).toNat = 0 from rfl] at hx105_0); (try simp only [Nat.reduceMul, Nat.zero_mul, Nat.zero_add, Nat.reduceAdd] at hx105_0); (try rw [show ((0 : Int)).toNat = 0 from rfl] at hf105_0); (try simp only [Nat.reduceMul, Nat.zero_mul, Nat.zero_add, Nat.reduceAdd] at hf105_0); (try rw [show ((0 : Int)).toNat = 0 from rfl] at hx105_1); (try simp only [Nat.reduceMul, Nat.zero_mul, Nat.zero_add, Nat.reduceAdd] at hx105_1); (try rw [show ((0 : Int)).toNat = 0 from rfl] at hf105_1); (try simp only [Nat.reduceMul, Nat.zero_mul, Nat.zero_add, Nat.reduceAdd] at hf105_1); (try rw [show ((0 : Int)).toNat = 0 from rfl] at hx105_2); (try simp only [Nat.reduceMul, Nat.zero_mul, Nat.zero_add, Nat.reduceAdd] at hx105_2); (try rw [show ((0 : Int)).toNat = 0 from rfl] at hf105_2); (try simp only [Nat.reduceMul, Nat.zero_mul, Nat.zero_add, Nat.reduceAdd] at hf105_2); (try rw [show ((0 : Int)).toNat = 0 from rfl] at hx105_3); (try simp only [Nat.reduceMul, Nat.zero_mul, Nat.zero_add, Nat.reduceAdd] at hx105_3); (try rw [show ((0 : Int)).toNat = 0 from rfl] at hf105_3); (try simp only [Nat.reduceMul, Nat.zero_mul, Nat.zero_add, Nat.reduceAdd] at hf105_3); (try rw [show ((0 : Int)).toNat = 0 from rfl] at hx105_4); (try simp only [Nat.reduceMul, Nat.zero_mul, Nat.zero_add, Nat.reduceAdd] at hx105_4); (try rw [show ((0 : Int)).toNat = 0 from rfl] at hf105_4); (try simp only [Nat.reduceMul, Nat.zero_mul, Nat.zero_add, Nat.reduceAdd] at hf105_4); (try rw [show ((0 : Int)).toNat = 0 from rfl] at hx105_5); (try simp only [Nat.reduceMul, Nat.zero_mul, Nat.zero_add, Nat.reduceAdd] at hx105_5); (try rw [show ((0 : Int)).toNat = 0 from rfl] at hf105_5); (try simp only [Nat.reduceMul, Nat.zero_mul, Nat.zero_add, Nat.reduceAdd] at hf105_5); (try rw [show ((0 : Int)).toNat = 0 from rfl] at hx105_6); (try simp only [Nat.reduceMul, Nat.zero_mul, Nat.zero_add, Nat.reduceAdd] at hx105_6); (try rw [show ((0 : Int)).toNat = 0 from rfl] at hf105_6); (try simp only [Nat.reduceMul, Nat.zero_mul, Nat.zero_add, Nat.reduceAdd] at hf105_6); replace p105 := eq_true p105; replace q105 := eq_true q105; have HX154 := Aside0.mk (show Kd.R k41 41 w148 w.heap.size (fun k_ => some k_ ≠ (.slice Ao13 t279.length co13 : Value).ownBlock ∧ some k_ ≠ (.slice Ao76 y315.length co76 : Value).ownBlock ∧ k_ ≠ gb290) (.slice (some ⟨go105, 0, none⟩) x295004_3.length co105) x295004_3 from z17x55); obtain ⟨ce154, hcl154, hM154, hcc154, hfr154⟩ := Kd.R_elem HX154.out z41 (0 : Int) (by omega) (by have h_ : (0 : Int) < ((x295004_3.length : Int) : Int) := of_decide_eq_true (by first | (with_reducible assumption) | assumption); first | exact h_ | (have e_ := (Kd.R_reads' HO_295004.out).1; omega) | simpa using h_); obtain rfl := k41_openM hM154; have HP154 := Kd.R_seg HX154.out (0 : Int) (by omega) (by have h_ : (0 : Int) < ((x295004_3.length : Int) : Int) := of_decide_eq_true (by first | (with_reducible assumption) | assumption); first | exact h_ | (have e_ := (Kd.R_reads' HO_295004.out).1; omega) | simpa using h_) (seg := [.int .i64 t283, .int .i64 t284, .int .i64 t285, .int .i64 t286, .int .i64 t287, .int .i64 t288, .int .i64 t289]) (j := 0) hcl154 hcc154 (show 7 ≤ 7 from by decide) (x' := (⟨t283, t284, t285, t286, t287, t288, t289⟩ : S41)) (k41_mkM _ _ _ (⟨t283, t284, t285, t286, t287, t288, t289⟩ : S41) ) (fun _ hk => hk); have hx154_0 := hcc154 0 _ rfl; (try simp only [show (k41).sz = 7 from rfl, Nat.mul_one, Nat.add_zero] at hx154_0); (try rw [show ((0 : Int)).toNat = 0 from rfl] at hx154_0); (try simp only [Nat.reduceMul, Nat.zero_mul, Nat.zero_add, Nat.reduceAdd] at hx154_0); have hf154_0 := hfr154 0; (try simp only [show (k41).sz = 7 from rfl, Nat.mul_one, Nat.add_zero] at hf154_0); (try rw [show ((0 : Int)).toNat = 0 from rfl] at hf154_0); (try simp only [Nat.reduceMul, Nat.zero_mul, Nat.zero_add, Nat.reduceAdd] at hf154_0); have hx154_1 := hcc154 1 _ rfl; (try simp only [show (k41).sz = 7 from rfl, Nat.mul_one, Nat.add_zero] at hx154_1); (try rw [show ((0 : Int)).toNat = 0 from rfl] at hx154_1); (try simp only [Nat.reduceMul, Nat.zero_mul, Nat.zero_add, Nat.reduceAdd] at hx154_1); have hf154_1 := hfr154 1; (try simp only [show (k41).sz = 7 from rfl, Nat.mul_one, Nat.add_zero] at hf154_1); (try rw [show ((0 : Int)).toNat = 0 from rfl] at hf154_1); (try simp only [Nat.reduceMul, Nat.zero_mul, Nat.zero_add, Nat.reduceAdd] at hf154_1); have hx154_2 := hcc154 2 _ rfl; (try simp only [show (k41).sz = 7 from rfl, Nat.mul_one, Nat.add_zero] at hx154_2); (try rw [show ((0 : Int)).toNat = 0 from rfl] at hx154_2); (try simp only [Nat.reduceMul, Nat.zero_mul, Nat.zero_add, Nat.reduceAdd] at hx154_2); have hf154_2 := hfr154 2; (try simp only [show (k41).sz = 7 from rfl, Nat.mul_one, Nat.add_zero] at hf154_2); (try rw [show ((0 : Int)).toNat = 0 from rfl] at hf154_2); (try simp only [Nat.reduceMul, Nat.zero_mul, Nat.zero_add, Nat.reduceAdd] at hf154_2); have hx154_3 := hcc154 3 _ rfl; (try simp only [show (k41).sz = 7 from rfl, Nat.mul_one, Nat.add_zero] at hx154_3); (try rw [show ((0 : Int)).toNat = 0 from rfl] at hx154_3); (try simp only [Nat.reduceMul, Nat.zero_mul, Nat.zero_add, Nat.reduceAdd] at hx154_3); have hf154_3 := hfr154 3; (try simp only [show (k41).sz = 7 from rfl, Nat.mul_one, Nat.add_zero] at hf154_3); (try rw [show ((0 : Int)).toNat = 0 from rfl] at hf154_3); (try simp only [Nat.reduceMul, Nat.zero_mul, Nat.zero_add, Nat.reduceAdd] at hf154_3); have hx154_4 := hcc154 4 _ rfl; (try simp only [show (k41).sz = 7 from rfl, Nat.mul_one, Nat.add_zero] at hx154_4); (try rw [show ((0 : Int)).toNat = 0 from rfl] at hx154_4); (try simp only [Nat.reduceMul, Nat.zero_mul, Nat.zero_add, Nat.reduceAdd] at hx154_4); have hf154_4 := hfr154 4; (try simp only [show (k41).sz = 7 from rfl, Nat.mul_one, Nat.add_zero] at hf154_4); (try rw [show ((0 : Int)).toNat = 0 from rfl] at hf154_4); (try simp only [Nat.reduceMul, Nat.zero_mul, Nat.zero_add, Nat.reduceAdd] at hf154_4); have hx154_5 := hcc154 5 _ rfl; (try simp only [show (k41).sz = 7 from rfl, Nat.mul_one, Nat.add_zero] at hx154_5); (try rw [show ((0 : Int)).toNat = 0 from rfl] at hx154_5); (try simp only [Nat.reduceMul, Nat.zero_mul, Nat.zero_add, Nat.reduceAdd] at hx154_5); have hf154_5 := hfr154 5; (try simp only [show (k41).sz = 7 from rfl, Nat.mul_one, Nat.add_zero] at hf154_5); (try rw [show ((0 : Int)).toNat = 0 from rfl] at hf154_5); (try simp only [Nat.reduceMul, Nat.zero_mul, Nat.zero_add, Nat.reduceAdd] at hf154_5); have hx154_6 := hcc154 6 _ rfl; (try simp only [show (k41).sz = 7 from rfl, Nat.mul_one, Nat.add_zero] at hx154_6); (try rw [show ((0 : Int)).toNat = 0 from rfl] at hx154_6); (try simp only [Nat.reduceMul, Nat.zero_mul, Nat.zero_add, Nat.reduceAdd] at hx154_6); have hf154_6 := hfr154 6; (try simp only [show (k41).sz = 7 from rfl, Nat.mul_one, Nat.add_zero] at hf154_6); (try rw [show ((0 : Int)).toNat = 0 from rfl] at hf154_6); (try simp only [Nat.reduceMul, Nat.zero_mul, Nat.zero_add, Nat.reduceAdd] at hf154_6); clear hcl154 hcc154 hfr154 hM154) | ((with_reducible refine gate_store (t := 41) (p := 87) rfl ?_); refine store_event (t := 41) (p := 87) (v := ?vo_w155) (w1 := (((((((w148.setCell ⟨go105, 0, none⟩ (.int .i64 t283)).setCell ⟨go105, 1, none⟩ (.int .i64 t284)).setCell ⟨go105, 2, none⟩ (.int .i64 t285)).setCell ⟨go105, 3, none⟩ (.int .i64 t286)).setCell ⟨go105, 4, none⟩ (.int .i64 t287)).setCell ⟨go105, 5, none⟩ (.int .i64 t288)).setCell ⟨go105, 6, none⟩ (.int .i64 t289))) ?hg ?ho ?hn ?hr ?_; (case ho => rfl); (case hg => rfl); (case hn => rfl); (case hr => first | (go_simp; done) | (go_simp; rfl)); intro w155 hw; have hg : w148.grownBy w155 (some go105) := (by rw [hw]; exact HP154.2); have hp_ : Kd.R k41 41 w155 w.heap.size (fun k_ => some k_ ≠ (.slice Ao13 t279.length co13 : Value).ownBlock ∧ some k_ ≠ (.slice Ao76 y315.length co76 : Value).ownBlock ∧ k_ ≠ gb290) (.slice (some ⟨go105, 0, none⟩) x295004_3.length co105) y325 := (by rw [hw, Ny325.out]; exact HP154.1); clear HP154; have n0_ := Aside0.mk (Kd.R_after (v := (.slice (some ⟨go105, 0, none⟩) x295004_3.length co105)) (v1 := (.slice (some ⟨go105, 0, none⟩) x295004_3.length co105)) (ok := (fun k_ => some k_ ≠ (.slice Ao76 y315.length co76 : Value).ownBlock ∧ k_ ≠ gb290)) z17x46 hg (.inl rfl)); have n1_ := Aside0.mk (hp_); have n2_ := Aside0.mk (Kd.R_after (v := (.slice (some ⟨go105, 0, none⟩) x295004_3.length co105)) (v1 := (.slice (some ⟨go105, 0, none⟩) x295004_3.length co105)) (ok := (fun k_ => some k_ ≠ (.slice Ao13 t279.length co13 : Value).ownBlock ∧ k_ ≠ gb290)) (by (with_reducible repeat (first | apply Kd.R_alloc | apply Kd.R_drewN | apply Kd.R_drew)); exact Kd.R_mono HO_306004.out (fun _ hk => ⟨⟨hk.1, hk.2.2⟩, hk.2.1⟩)) hg (.inl rfl)); have n3_ := Aside0.mk (blk_grown (g := gb282) (o := .cells #[.int .i64 t275, .int .i64 t276, .int .i64 t277, .int .i64 t278, .slice Ao13 t279.length co13] 34 (0, 0)) z17x49 hg (Kd.R_ne HO_295004.out BK282.out (by decide))); have n4_ := Aside0.mk (blk_grown (g := gb290) (o := .cells #[.int .i64 t283, .int .i64 t284, .int .i64 t285, .int .i64 t286, .int .i64 t287, .int .i64 t288, .int .i64 t289] 41 (0, 0)) z17x50 hg (Kd.R_away HO_295004.out (fun _ hk => hk.2.2))); have n5_ := Aside0.mk (blk_grown (g := gb294) (o := .cells #[.int .i64 t275, .int .i64 t276, .int .i64 t277, .int .i64 t278, .slice (some ⟨go105, 0, none⟩) x295004_3.length co105] 34 (0, 0)) z17x51 hg (Kd.R_ne HO_295004.out BK294.out (by decide))); have n6_ := Aside0.mk (blk_grown (g := gb305) (o := .cells #[.int .i64 t275, .int .i64 t276, .int .i64 t277, .int .i64 t278, .slice Ao76 y315.length co76] 34 (0, 0)) z17x52 hg (Kd.R_ne HO_295004.out BK305.out (by decide))); have n7_ := Aside0.mk (blk_grown (g := gb320) (o := .cells #[.int .i64 t275, .int .i64 t276, .int .i64 t277, .int .i64 t278, .slice A146 y321.length c146] 34 (0, 0)) z17x53 hg (Kd.R_ne HO_295004.out BK320.out (by decide))); have n8_ := Aside0.mk ((z17x42 : Below w.heap.size w w155)); have n9_ := Aside0.mk ((show Kd.C k41 w155 A146 y321.length y321 from by rw [Ny321.out, KA146.out]; exact Kd.C_drop (m := 1) (c := co13) ((Kd.R_reads' (Kd.R_after (v := (.slice (some ⟨go105, 0, none⟩) x295004_3.length co105)) (v1 := (.slice (some ⟨go105, 0, none⟩) x295004_3.length co105)) (ok := (fun k_ => some k_ ≠ (.slice Ao76 y315.length co76 : Value).ownBlock ∧ k_ ≠ gb290)) z17x46 hg (.inl rfl))).2.2) KL146.out ((Kd.R_reads' (Kd.R_after (v := (.slice (some ⟨go105, 0, none⟩) x295004_3.length co105)) (v1 := (.slice (some ⟨go105, 0, none⟩) x295004_3.length co105)) (ok := (fun k_ => some k_ ≠ (.slice Ao76 y315.length co76 : Value).ownBlock ∧ k_ ≠ gb290)) z17x46 hg (.inl rfl))).2.1))); clear HO_283004; clear HO_295004; clear HO_306004; clear BK282; clear BK290; clear BK294; clear BK305; clear BK320; clear HB; clear HR324; have HO_283004 := n0_; have HO_295004 := n1_; have HO_306004 := n2_; have BK282 := n3_; have BK290 := n4_; have BK294 := n5_; have BK305 := n6_; have BK320 := n7_; have HB := n8_; have HR324 := n9_; clear n0_ n1_ n2_ n3_ n4_ n5_ n6_ n7_ n8_ n9_; clear hg hw hp_))
                   have n0_ := Aside0.mk (Kd.R_drew HO_283004.out)
                   have n1_ := Aside0.mk (Kd.R_drew HO_295004.out)
                   have n2_ := Aside0.mk (Kd.R_drew HO_306004.out)
                   have n3_ := Aside0.mk (blk_drew BK282.out)
                   have n4_ := Aside0.mk (blk_drew BK290.out)
                   have n5_ := Aside0.mk (blk_drew BK294.out)
                   have n6_ := Aside0.mk (blk_drew BK305.out)
                   have n7_ := Aside0.mk (blk_drew BK320.out)
                   have n8_ := Aside0.mk (Kd.C_drew HR324.out)
                   have n9_ := Aside0.mk (below_drew1 HB.out)
                   clear HO_283004
                   clear HO_295004
                   clear HO_306004
                   clear BK282
                   clear BK290
                   clear BK294
                   clear BK305
                   clear BK320
                   clear HR324
                   clear HB
                   have HO_283004 := n0_
                   have HO_295004 := n1_
                   have HO_306004 := n2_
                   have BK282 := n3_
                   have BK290 := n4_
                   have BK294 := n5_
                   have BK305 := n6_
                   have BK320 := n7_
                   have HR324 := n8_
                   have HB := n9_
                   clear n0_ n1_ n2_ n3_ n4_ n5_ n6_ n7_ n8_ n9_
                   refine start_ (n := 11) (S := fun w' => w'.cell? ⟨gb320, 0, none⟩ = some (.int .i64 t275) ∧ w'.cell? ⟨gb320, 1, none⟩ = some (.int .i64 t276) ∧ w'.cell? ⟨gb320, 2, none⟩ = some (.int .i64 t277) ∧ w'.cell? ⟨gb320, 3, none⟩ = some (.int .i64 t278) ∧ w'.cell? ⟨gb320, 4, none⟩ = some (.slice A146 y321.length c146) ∧ w'.cell? ⟨gb294, 0, none⟩ = some (.int .i64 t275) ∧ w'.cell? ⟨gb294, 1, none⟩ = some (.int .i64 t276) ∧ w'.cell? ⟨gb294, 2, none⟩ = some (.int .i64 t277) ∧ w'.cell? ⟨gb294, 3, none⟩ = some (.int .i64 t278) ∧ w'.cell? ⟨gb294, 4, none⟩ = some (.slice (some ⟨go105, 0, none⟩) x295004_3.length co105) ∧ w'.cell? ⟨gb290, 0, none⟩ = some (.int .i64 t283) ∧ w'.cell? ⟨gb290, 1, none⟩ = some (.int .i64 t284) ∧ w'.cell? ⟨gb290, 2, none⟩ = some (.int .i64 t285) ∧ w'.cell? ⟨gb290, 3, none⟩ = some (.int .i64 t286) ∧ w'.cell? ⟨gb290, 4, none⟩ = some (.int .i64 t287) ∧ w'.cell? ⟨gb290, 5, none⟩ = some (.int .i64 t288) ∧ w'.cell? ⟨gb290, 6, none⟩ = some (.int .i64 t289)) (ds := []) #[false, false, false, false, false, false, false, false, false, false, false] (by kernel_rfl) rfl rfl ⟨(blk_cell BK320.out 0).trans rfl, (blk_cell BK320.out 1).trans rfl, (blk_cell BK320.out 2).trans rfl, (blk_cell BK320.out 3).trans rfl, (blk_cell BK320.out 4).trans rfl, (blk_cell BK294.out 0).trans rfl, (blk_cell BK294.out 1).trans rfl, (blk_cell BK294.out 2).trans rfl, (blk_cell BK294.out 3).trans rfl, (blk_cell BK294.out 4).trans rfl, (blk_cell BK290.out 0).trans rfl, (blk_cell BK290.out 1).trans rfl, (blk_cell BK290.out 2).trans rfl, (blk_cell BK290.out 3).trans rfl, (blk_cell BK290.out 4).trans rfl, (blk_cell BK290.out 5).trans rfl, (blk_cell BK290.out 6).trans rfl⟩ (fun hHeld => ?_); refine with_tabW laws_FnMsgSeals.tab23 laws_FnMsgSeals.bits23 (fun HT_ HW_ => ?_)
                   generalize w155.drew = w156 at HO_283004 HO_295004 HO_306004 BK282 BK290 BK294 BK305 BK320 HR324 HB hHeld ⊢
                   refine take_ (i := 0) (N := some 88) (v := ?_) (a' := ?_) #[true, false, false, false, false, false, false, false, false, false, false] rfl rfl (take_ofW HT_.out HW_.out (by kernel_rfl)) (fun _ _ _ h => h) (Or.inl ⟨by rfl, ?_⟩) hHeld ?_ ?_
                   rotate_left
                   ·rintro w' ⟨s0, s1, s2, s3, s4, s5, s6, s7, s8, s9, s10, s11, s12, s13, s14, s15, s16⟩
                    go_simp
                    with_reducible rfl
                   rotate_left
                   ·simp only [Act.put, List.setIfInBounds_toArray, List.set_cons_zero, List.set_cons_succ, i64_w, i32_w]
                    rfl
                   refine one_ (i := 1) (N := some 89) #[true, true, false, false, false, false, false, false, false, false, false] rfl rfl (one_of HT_.out (by kernel_rfl)) (by decide) (fun K hK => ?_)
                   refine goes_ Try.func20 (by kernel_rfl) rfl #[.agg #[.int .i64 t275, .int .i64 t276, .int .i64 t277, .int .i64 t278, .slice A146 y321.length c146]] (by rfl) rfl rfl z17x47 ?_
                   with_reducible refine (impl_MsgOk.calls t275 t276 t277 t278 _ _ y321 false _ ?side1 ?side2 A106.out).mono ?_
                   (case side1 => repeat (first | exact z17x41 | (with_reducible refine Kd.C_alloc ?_ _) | (with_reducible refine Kd.C_drewN ?_ _) | (with_reducible refine Kd.C_drew ?_)))
                   (case side2 => exact HC324.out)
                   rintro e w157 ⟨rfl, hb⟩
                   refine ⟨_, rfl, ?_⟩
                   have n0_ := Aside0.mk (Kd.R_below z17x54 hb)
                   have n1_ := Aside0.mk (Kd.R_below z17x55 hb)
                   have n2_ := Aside0.mk (Kd.R_below z17x56 hb)
                   have n3_ := Aside0.mk (blk_below (g := gb282) (o := .cells #[.int .i64 t275, .int .i64 t276, .int .i64 t277, .int .i64 t278, .slice Ao13 t279.length co13] 34 (0, 0)) z17x49 hb)
                   have n4_ := Aside0.mk (blk_below (g := gb290) (o := .cells #[.int .i64 t283, .int .i64 t284, .int .i64 t285, .int .i64 t286, .int .i64 t287, .int .i64 t288, .int .i64 t289] 41 (0, 0)) z17x50 hb)
                   have n5_ := Aside0.mk (blk_below (g := gb294) (o := .cells #[.int .i64 t275, .int .i64 t276, .int .i64 t277, .int .i64 t278, .slice (some ⟨go105, 0, none⟩) x295004_3.length co105] 34 (0, 0)) z17x51 hb)
                   have n6_ := Aside0.mk (blk_below (g := gb305) (o := .cells #[.int .i64 t275, .int .i64 t276, .int .i64 t277, .int .i64 t278, .slice Ao76 y315.length co76] 34 (0, 0)) z17x52 hb)
                   have n7_ := Aside0.mk (blk_below (g := gb320) (o := .cells #[.int .i64 t275, .int .i64 t276, .int .i64 t277, .int .i64 t278, .slice A146 y321.length c146] 34 (0, 0)) z17x53 hb)
                   have n8_ := Aside0.mk (Kd.C_below z17x41 hb)
                   have n9_ := Aside0.mk (below_step z17x16 hb)
                   clear HO_283004
                   clear HO_295004
                   clear HO_306004
                   clear BK282
                   clear BK290
                   clear BK294
                   clear BK305
                   clear BK320
                   clear HR324
                   clear HB
                   have HO_283004 := n0_
                   have HO_295004 := n1_
                   have HO_306004 := n2_
                   have BK282 := n3_
                   have BK290 := n4_
                   have BK294 := n5_
                   have BK305 := n6_
                   have BK320 := n7_
                   have HR324 := n8_
                   have HB := n9_
                   clear n0_ n1_ n2_ n3_ n4_ n5_ n6_ n7_ n8_ n9_
                   (try clear hb)
                   (try clear hb2)
                   (try clear hk)
                   (try clear hi)
                   refine hK.out _ _ ⟨(blk_cell BK320.out 0).trans rfl, (blk_cell BK320.out 1).trans rfl, (blk_cell BK320.out 2).trans rfl, (blk_cell BK320.out 3).trans rfl, (blk_cell BK320.out 4).trans rfl, (blk_cell BK294.out 0).trans rfl, (blk_cell BK294.out 1).trans rfl, (blk_cell BK294.out 2).trans rfl, (blk_cell BK294.out 3).trans rfl, (blk_cell BK294.out 4).trans rfl, (blk_cell BK290.out 0).trans rfl, (blk_cell BK290.out 1).trans rfl, (blk_cell BK290.out 2).trans rfl, (blk_cell BK290.out 3).trans rfl, (blk_cell BK290.out 4).trans rfl, (blk_cell BK290.out 5).trans rfl, (blk_cell BK290.out 6).trans rfl⟩ (fun hHeld => ?_)
                   clear hK K
                   refine norm_ (a' := ?_) ?_ ?_
                   rotate_left
                   ·show Act.put _ (some 89) _ = _
                    simp only [Act.put, List.setIfInBounds_toArray, List.set_cons_zero, List.set_cons_succ, i64_w, i32_w]
                    rfl
                   refine pure_ (i := 2) (N := some 90) (v := ?_) (a' := ?_) #[true, true, true, false, false, false, false, false, false, false, false] rfl rfl (any_of HT_.out (by kernel_rfl)) (fun _ _ _ h => h) (Or.inl ⟨by rfl, ?_⟩) ?_ ?_
                   rotate_left
                   ·intro w'
                    go_simp
                    with_reducible rfl
                   rotate_left
                   ·simp only [Act.put, List.setIfInBounds_toArray, List.set_cons_zero, List.set_cons_succ, i64_w, i32_w]
                    rfl
                   refine pure_ (i := 3) (N := some 91) (v := ?_) (a' := ?_) #[true, true, true, true, false, false, false, false, false, false, false] rfl rfl (any_of HT_.out (by kernel_rfl)) (fun _ _ _ h => h) (Or.inl ⟨by rfl, ?_⟩) ?_ ?_
                   rotate_left
                   ·intro w'
                    go_simp
                    with_reducible rfl
                   rotate_left
                   ·simp only [Act.put, List.setIfInBounds_toArray, List.set_cons_zero, List.set_cons_succ, i64_w, i32_w]
                    rfl
                   refine take_ (i := 4) (N := some 92) (v := ?_) (a' := ?_) #[true, true, true, true, true, false, false, false, false, false, false] rfl rfl (take_ofW HT_.out HW_.out (by kernel_rfl)) (fun _ _ _ h => h) (Or.inl ⟨by rfl, ?_⟩) hHeld ?_ ?_
                   rotate_left
                   ·rintro w' ⟨s0, s1, s2, s3, s4, s5, s6, s7, s8, s9, s10, s11, s12, s13, s14, s15, s16⟩
                    go_simp
                    with_reducible rfl
                   rotate_left
                   ·simp only [Act.put, List.setIfInBounds_toArray, List.set_cons_zero, List.set_cons_succ, i64_w, i32_w]
                    rfl
                   refine take_ (i := 6) (N := some 94) (v := ?_) (a' := ?_) #[true, true, true, true, true, false, true, false, false, false, false] rfl rfl (take_ofW HT_.out HW_.out (by kernel_rfl)) (fun _ _ _ h => h) (Or.inl ⟨by rfl, ?_⟩) hHeld ?_ ?_
                   rotate_left
                   ·rintro w' ⟨s0, s1, s2, s3, s4, s5, s6, s7, s8, s9, s10, s11, s12, s13, s14, s15, s16⟩
                    go_simp
                    with_reducible rfl
                   rotate_left
                   ·simp only [Act.put, List.setIfInBounds_toArray, List.set_cons_zero, List.set_cons_succ, i64_w, i32_w]
                    rfl
                   refine one_ (i := 5) (N := some 93) #[true, true, true, true, true, true, true, false, false, false, false] rfl rfl (one_of HT_.out (by kernel_rfl)) (by decide) (fun K hK => ?_)
                   refine goes_ Try.func20 (by kernel_rfl) rfl #[.agg #[.int .i64 t275, .int .i64 t276, .int .i64 t277, .int .i64 t278, .slice (some ⟨go105, 0, none⟩) y325.length co105]] (by rfl) rfl rfl (by (try simp only [List.map_toArray, List.map_cons, List.map_nil]); first | done | (rw [show y325.length = x295004_3.length from (Kd.R_reads' HO_295004.out).1.symm] <;> rfl) | rfl | (simp only [List.length_drop, List.length_take]; rfl)) ?_
                   with_reducible refine (impl_MsgOk.calls t275 t276 t277 t278 _ _ y325 t327 _ ?side1 ?side2 A132.out).mono ?_
                   (case side1 => repeat (first | exact (Kd.R_reads' HO_295004.out).2.2 | (with_reducible refine Kd.C_alloc ?_ _) | (with_reducible refine Kd.C_drewN ?_ _) | (with_reducible refine Kd.C_drew ?_)))
                   (case side2 => rw [show y325.length = x295004_3.length from (Kd.R_reads' HO_295004.out).1.symm]; exact (Kd.R_reads' HO_295004.out).2.1)
                   rintro e w158 ⟨rfl, hb⟩
                   refine ⟨_, rfl, ?_⟩
                   have n0_ := Aside0.mk (Kd.R_below z17x54 hb)
                   have n1_ := Aside0.mk (Kd.R_below z17x55 hb)
                   have n2_ := Aside0.mk (Kd.R_below z17x56 hb)
                   have n3_ := Aside0.mk (blk_below (g := gb282) (o := .cells #[.int .i64 t275, .int .i64 t276, .int .i64 t277, .int .i64 t278, .slice Ao13 t279.length co13] 34 (0, 0)) z17x49 hb)
                   have n4_ := Aside0.mk (blk_below (g := gb290) (o := .cells #[.int .i64 t283, .int .i64 t284, .int .i64 t285, .int .i64 t286, .int .i64 t287, .int .i64 t288, .int .i64 t289] 41 (0, 0)) z17x50 hb)
                   have n5_ := Aside0.mk (blk_below (g := gb294) (o := .cells #[.int .i64 t275, .int .i64 t276, .int .i64 t277, .int .i64 t278, .slice (some ⟨go105, 0, none⟩) x295004_3.length co105] 34 (0, 0)) z17x51 hb)
                   have n6_ := Aside0.mk (blk_below (g := gb305) (o := .cells #[.int .i64 t275, .int .i64 t276, .int .i64 t277, .int .i64 t278, .slice Ao76 y315.length co76] 34 (0, 0)) z17x52 hb)
                   have n7_ := Aside0.mk (blk_below (g := gb320) (o := .cells #[.int .i64 t275, .int .i64 t276, .int .i64 t277, .int .i64 t278, .slice A146 y321.length c146] 34 (0, 0)) z17x53 hb)
                   have n8_ := Aside0.mk (Kd.C_below z17x41 hb)
                   have n9_ := Aside0.mk (below_step z17x16 hb)
                   clear HO_283004
                   clear HO_295004
                   clear HO_306004
                   clear BK282
                   clear BK290
                   clear BK294
                   clear BK305
                   clear BK320
                   clear HR324
                   clear HB
                   have HO_283004 := n0_
                   have HO_295004 := n1_
                   have HO_306004 := n2_
                   have BK282 := n3_
                   have BK290 := n4_
                   have BK294 := n5_
                   have BK305 := n6_
                   have BK320 := n7_
                   have HR324 := n8_
                   have HB := n9_
                   clear n0_ n1_ n2_ n3_ n4_ n5_ n6_ n7_ n8_ n9_
                   (try clear hb)
                   (try clear hb2)
                   (try clear hk)
                   (try clear hi)
                   refine hK.out _ _ ⟨(blk_cell BK320.out 0).trans rfl, (blk_cell BK320.out 1).trans rfl, (blk_cell BK320.out 2).trans rfl, (blk_cell BK320.out 3).trans rfl, (blk_cell BK320.out 4).trans rfl, (blk_cell BK294.out 0).trans rfl, (blk_cell BK294.out 1).trans rfl, (blk_cell BK294.out 2).trans rfl, (blk_cell BK294.out 3).trans rfl, (blk_cell BK294.out 4).trans rfl, (blk_cell BK290.out 0).trans rfl, (blk_cell BK290.out 1).trans rfl, (blk_cell BK290.out 2).trans rfl, (blk_cell BK290.out 3).trans rfl, (blk_cell BK290.out 4).trans rfl, (blk_cell BK290.out 5).trans rfl, (blk_cell BK290.out 6).trans rfl⟩ (fun hHeld => ?_)
                   clear hK K
                   refine norm_ (a' := ?_) ?_ ?_
                   rotate_left
                   ·show Act.put _ (some 93) _ = _
                    simp only [Act.put, List.setIfInBounds_toArray, List.set_cons_zero, List.set_cons_succ, i64_w, i32_w]
                    rfl
                   refine one_ (i := 7) (N := some 95) #[true, true, true, true, true, true, true, true, false, false, false] rfl rfl (one_of HT_.out (by kernel_rfl)) (by decide) (fun K hK => ?_)
                   refine goes_ Try.func22 (by kernel_rfl) rfl #[.agg #[.int .i64 t283, .int .i64 t284, .int .i64 t285, .int .i64 t286, .int .i64 t287, .int .i64 t288, .int .i64 t289]] (by rfl) rfl rfl z17x47 ?_
                   with_reducible refine (impl_SealOk.calls t283 t284 t285 t286 t287 t288 t289 t328 _ A133.out).mono ?_
                   rintro e w159 ⟨rfl, hb⟩
                   refine ⟨_, rfl, ?_⟩
                   have n0_ := Aside0.mk (Kd.R_below z17x54 hb)
                   have n1_ := Aside0.mk (Kd.R_below z17x55 hb)
                   have n2_ := Aside0.mk (Kd.R_below z17x56 hb)
                   have n3_ := Aside0.mk (blk_below (g := gb282) (o := .cells #[.int .i64 t275, .int .i64 t276, .int .i64 t277, .int .i64 t278, .slice Ao13 t279.length co13] 34 (0, 0)) z17x49 hb)
                   have n4_ := Aside0.mk (blk_below (g := gb290) (o := .cells #[.int .i64 t283, .int .i64 t284, .int .i64 t285, .int .i64 t286, .int .i64 t287, .int .i64 t288, .int .i64 t289] 41 (0, 0)) z17x50 hb)
                   have n5_ := Aside0.mk (blk_below (g := gb294) (o := .cells #[.int .i64 t275, .int .i64 t276, .int .i64 t277, .int .i64 t278, .slice (some ⟨go105, 0, none⟩) x295004_3.length co105] 34 (0, 0)) z17x51 hb)
                   have n6_ := Aside0.mk (blk_below (g := gb305) (o := .cells #[.int .i64 t275, .int .i64 t276, .int .i64 t277, .int .i64 t278, .slice Ao76 y315.length co76] 34 (0, 0)) z17x52 hb)
                   have n7_ := Aside0.mk (blk_below (g := gb320) (o := .cells #[.int .i64 t275, .int .i64 t276, .int .i64 t277, .int .i64 t278, .slice A146 y321.length c146] 34 (0, 0)) z17x53 hb)
                   have n8_ := Aside0.mk (Kd.C_below z17x41 hb)
                   have n9_ := Aside0.mk (below_step z17x16 hb)
                   clear HO_283004
                   clear HO_295004
                   clear HO_306004
                   clear BK282
                   clear BK290
                   clear BK294
                   clear BK305
                   clear BK320
                   clear HR324
                   clear HB
                   have HO_283004 := n0_
                   have HO_295004 := n1_
                   have HO_306004 := n2_
                   have BK282 := n3_
                   have BK290 := n4_
                   have BK294 := n5_
                   have BK305 := n6_
                   have BK320 := n7_
                   have HR324 := n8_
                   have HB := n9_
                   clear n0_ n1_ n2_ n3_ n4_ n5_ n6_ n7_ n8_ n9_
                   (try clear hb)
                   (try clear hb2)
                   (try clear hk)
                   (try clear hi)
                   refine hK.out _ _ ⟨(blk_cell BK320.out 0).trans rfl, (blk_cell BK320.out 1).trans rfl, (blk_cell BK320.out 2).trans rfl, (blk_cell BK320.out 3).trans rfl, (blk_cell BK320.out 4).trans rfl, (blk_cell BK294.out 0).trans rfl, (blk_cell BK294.out 1).trans rfl, (blk_cell BK294.out 2).trans rfl, (blk_cell BK294.out 3).trans rfl, (blk_cell BK294.out 4).trans rfl, (blk_cell BK290.out 0).trans rfl, (blk_cell BK290.out 1).trans rfl, (blk_cell BK290.out 2).trans rfl, (blk_cell BK290.out 3).trans rfl, (blk_cell BK290.out 4).trans rfl, (blk_cell BK290.out 5).trans rfl, (blk_cell BK290.out 6).trans rfl⟩ (fun hHeld => ?_)
                   clear hK K
                   refine norm_ (a' := ?_) ?_ ?_
                   rotate_left
                   ·show Act.put _ (some 95) _ = _
                    simp only [Act.put, List.setIfInBounds_toArray, List.set_cons_zero, List.set_cons_succ, i64_w, i32_w]
                    rfl
                   refine pure_ (i := 8) (N := some 96) (v := ?_) (a' := ?_) #[true, true, true, true, true, true, true, true, true, false, false] rfl rfl (any_of HT_.out (by kernel_rfl)) (fun _ _ _ h => h) (Or.inl ⟨by rfl, ?_⟩) ?_ ?_
                   rotate_left
                   ·intro w'
                    go_simp
                    with_reducible rfl
                   rotate_left
                   ·simp only [Act.put, List.setIfInBounds_toArray, List.set_cons_zero, List.set_cons_succ, i64_w, i32_w]
                    rfl
                   refine pure_ (i := 9) (N := some 97) (v := ?_) (a' := ?_) #[true, true, true, true, true, true, true, true, true, true, false] rfl rfl (any_of HT_.out (by kernel_rfl)) (fun _ _ _ h => h) (Or.inl ⟨by rfl, ?_⟩) ?_ ?_
                   rotate_left
                   ·intro w'
                    go_simp
                    with_reducible rfl
                   rotate_left
                   ·simp only [Act.put, List.setIfInBounds_toArray, List.set_cons_zero, List.set_cons_succ, i64_w, i32_w]
                    rfl
                   refine pure_ (i := 10) (N := some 4) (v := ?_) (a' := ?_) #[true, true, true, true, true, true, true, true, true, true, true] rfl rfl (any_of HT_.out (by kernel_rfl)) (fun _ _ _ h => h) (Or.inl ⟨by rfl, ?_⟩) ?_ ?_
                   rotate_left
                   ·intro w'
                    go_simp
                    with_reducible rfl
                   rotate_left
                   ·simp only [Act.put, List.setIfInBounds_toArray, List.set_cons_zero, List.set_cons_succ, i64_w, i32_w]
                    rfl
                   refine done_ (done_of HT_.out (by kernel_rfl)) ?_
                   try go_wp2
                   go_ret
                   exact ⟨by first | rfl | (simp [errW_none, errW_some] <;> rfl) | (simp [*, errW_none, errW_some] <;> rfl), by repeat (first | (with_reducible first | exact HB.out | apply below_alloc | apply pw_below_drewN | apply below_drew1 | refine below_set ?_ GE282.out | refine below_set ?_ GE290.out | refine below_set ?_ GE294.out | refine below_set ?_ GE305.out | refine below_set ?_ GE320.out) | exact HB.out)⟩
                 ·rw [if_neg c104] at H
                  exact absurd H (by simp)
                ·rw [if_neg c103] at H
                 exact absurd H (by simp)
           ·rw [if_neg c56] at H
            exact absurd H (by simp)
          ·rw [if_neg c55] at H
           exact absurd H (by simp)

/-- THE ONE PURE STATEMENT of laws_FnMsgSeals: yours. -/
def laws_FnMsgSeals.Pure : Prop := ∀ (l0 : List Int) (l1 : List Int), l0.length ≤ maxLen → l0.length * 1 ≤ 140737488351232 → (∀ x ∈ l0, (Lit.int .u8 x).wf = true) → l1.length ≤ maxLen → l1.length * 1 ≤ 140737488351232 → (∀ x ∈ l1, (Lit.int .u8 x).wf = true) → ∃ k, laws_FnMsgSeals.f k l0 l1 = some true
theorem laws_FnMsgSeals.walk (P : laws_FnMsgSeals.Pure) (a0 : Option Addr) (len0 cap0 : Nat) (z0 : List Int) (a1 : Option Addr) (len1 cap1 : Nat) (z1 : List Int) (w : World) (w0 : (a0 = none ∧ len0 = 0 ∧ cap0 = 0 ∧ z0 = []) ∨ ∃ x, a0 = some x ∧ len0 ≤ cap0 ∧ cap0 ≤ maxLen ∧ z0.length = cap0 ∧ (∀ i, i < z0.length → w.cell? (x.add i) = some (.int .u8 (z0.getD i 0))) ∧ ∀ n ∈ z0, (Lit.int .u8 n).wf = true) (y0 : len0 * 1 ≤ 140737488351232) (w1 : (a1 = none ∧ len1 = 0 ∧ cap1 = 0 ∧ z1 = []) ∨ ∃ x, a1 = some x ∧ len1 ≤ cap1 ∧ cap1 ≤ maxLen ∧ z1.length = cap1 ∧ (∀ i, i < z1.length → w.cell? (x.add i) = some (.int .u8 (z1.getD i 0))) ∧ ∀ n ∈ z1, (Lit.int .u8 n).wf = true) (y1 : len1 * 1 ≤ 140737488351232) :
  Calls Try.prog 4 #[.slice a0 len0 cap0, .slice a1 len1 cap1] w fun e w' => e = .returned (.bool true) ∧ Below w.heap.size w w' := by
 obtain ⟨l0, rfl, hr0, hm0, hw0, hc0⟩ := ReadsInt.ofRowC w0
 obtain ⟨l1, rfl, hr1, hm1, hw1, hc1⟩ := ReadsInt.ofRowC w1
 obtain ⟨k, h⟩ := P l0 l1 hm0 y0 hw0 hm1 y1 hw1
 refine (laws_FnMsgSeals.calls k _ _ l0 _ _ l1 true w (Kd.C_of_reads (d := (0 : Int)) (h1 := fun _ => rfl) hr0) hc0 (Kd.C_of_reads (d := (0 : Int)) (h1 := fun _ => rfl) hr1) hc1 h).mono ?_
 rintro e w' ⟨rfl, hd⟩
 exact ⟨rfl, hd⟩

end Go.Proofs.Ytbipicjijbnbbaa.Hp
