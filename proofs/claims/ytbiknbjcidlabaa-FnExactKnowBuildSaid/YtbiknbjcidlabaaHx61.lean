-- Printed by wip/tools/hp.py of this session (the kit's print.py, with contracts typed by hand beside).
import Derived.Test.YtbiknbjcidlabaaHx0
import Derived.Test.YtbiknbjcidlabaaHx14
import Derived.Test.YtbiknbjcidlabaaHx18
import Derived.Test.YtbiknbjcidlabaaHx19
import Derived.Test.YtbiknbjcidlabaaHx23
import Derived.Test.YtbiknbjcidlabaaHx24
import Derived.Test.YtbiknbjcidlabaaHx49
import Derived.Test.YtbiknbjcidlabaaHx50
import Derived.Test.YtbiknbjcidlabaaHx59
import Derived.Test.YtbiknbjcidlabaaHx60
namespace Go.Proofs.Ytbiknbjcidlabaa.Hp
open Go.RowKit Go.Proofs.YtbiknbjcidlabaaW.PrintWords Go.Proofs.YtbiknbjcidlabaaW.PrintLast Go.Proofs.YtbiknbjcidlabaaW.PrintMore
attribute [local go_sem] max2_int min2_int max_two min_two max_three min_three max_four min_four   -- for this text's walks alone
set_option linter.unusedVariables false
set_option linter.unusedSimpArgs false
-- squeezed by wip/tools/squeeze.py
theorem z61x34 {P : Prop} (h : P := by (with_reducible repeat (first | apply Kd.R_alloc | apply Kd.R_drewN | apply Kd.R_drew)); exact HO929.out) : P := h
theorem z61x33 {P : Prop} (h : P := by (with_reducible repeat (first | apply Kd.R_alloc | apply Kd.R_drewN | apply Kd.R_drew)); exact HO925.out) : P := h
theorem z61x32 {P : Prop} (h : P := by (with_reducible repeat (first | apply Kd.R_alloc | apply Kd.R_drewN | apply Kd.R_drew)); exact HO920.out) : P := h
theorem z61x31 {P : Prop} (h : P := by (with_reducible repeat (first | apply Kd.R_alloc | apply Kd.R_drewN | apply Kd.R_drew)); exact HO913.out) : P := h
theorem z61x30 {P : Prop} (h : P := by (with_reducible repeat (first | apply Kd.R_alloc | apply Kd.R_drewN | apply Kd.R_drew)); exact HO910.out) : P := h
theorem z61x29 {P : Prop} (h : P := by (with_reducible repeat (first | apply Kd.R_alloc | apply Kd.R_drewN | apply Kd.R_drew)); exact HO906.out) : P := h
theorem z61x28 {P : Prop} (h : P := by (with_reducible repeat (first | apply Kd.R_alloc | apply Kd.R_drewN | apply Kd.R_drew)); exact HO899.out) : P := h
theorem z61x27 {P : Prop} (h : P := by (with_reducible repeat (first | apply Kd.R_alloc | apply Kd.R_drewN | apply Kd.R_drew)); exact HO896.out) : P := h
theorem z61x26 {P : Prop} (h : P := by (with_reducible repeat (first | refine blk_drewN ?_ _ | refine blk_drew ?_ | refine blk_alloc ?_ _)); exact BK921.out) : P := h
theorem z61x25 {P : Prop} (h : P := by (with_reducible repeat (first | refine blk_drewN ?_ _ | refine blk_drew ?_ | refine blk_alloc ?_ _)); exact BK891.out) : P := h
theorem z61x24 {P : Prop} (h : P := by repeat (first | (with_reducible first | exact HB.out | apply below_alloc | apply pw_below_drewN | apply below_drew1) | exact HB.out)) : P := h
theorem z61x23 {P : Prop} (h : P := by (try simp only [List.map_toArray, List.map_cons, List.map_nil]); first | done | rfl | (simp only [List.length_drop, List.length_take]; rfl)) : P := h
theorem z61x22 {P : Prop} (h : P := by rw [hg]; exact (below_size (by repeat (first | (with_reducible first | exact HB.out | apply below_alloc | apply pw_below_drewN | apply below_drew1) | exact HB.out)))) : P := h
theorem z61x21 {P : Prop} (h : P := by repeat (first | (with_reducible first | exact HB.out | apply below_alloc | apply pw_below_drewN | apply below_drew1 | refine below_set ?_ GE891.out) | exact HB.out)) : P := h
theorem z61x20 {P : Prop} (h : P := by rw [hg]; exact (below_size (by repeat (first | (with_reducible first | exact HB.out | apply below_alloc | apply pw_below_drewN | apply below_drew1 | refine below_set ?_ GE891.out) | exact HB.out)))) : P := h
theorem z61x19 {P : Prop} (h : P := by repeat (first | (with_reducible first | exact HB.out | apply below_alloc | apply pw_below_drewN | apply below_drew1 | refine below_set ?_ GE891.out | refine below_set ?_ GE921.out) | exact HB.out)) : P := h
theorem z61x18 {P : Prop} (h : P := by rw [hg]; exact Nat.ne_of_lt (blk_lt (g := gb891) (o := .cells #[.int .i64 a2_0, .int .i64 a2_1, .int .i64 a2_2, .int .i64 a2_3, .slice A2_4 l2_4.length c2_4] 31 (0, 0)) (by (with_reducible repeat (first | refine blk_drewN ?_ _ | refine blk_drew ?_ | refine blk_alloc ?_ _)); exact BK891.out))) : P := h
theorem z61x17 {P : Prop} (h : P := by rw [hg]; exact Nat.ne_of_gt (blk_lt (g := gb891) (o := .cells #[.int .i64 a2_0, .int .i64 a2_1, .int .i64 a2_2, .int .i64 a2_3, .slice A2_4 l2_4.length c2_4] 31 (0, 0)) (by (with_reducible repeat (first | refine blk_drewN ?_ _ | refine blk_drew ?_ | refine blk_alloc ?_ _)); exact BK891.out))) : P := h
theorem z61x16 {P : Prop} (h : P := by (with_reducible repeat (first | apply Kd.R_alloc | apply Kd.R_drewN | apply Kd.R_drew)); exact (Kd.R_mono (Kd.R_far (p := ⟨gb921, 4, none⟩) (Kd.R_far (p := ⟨gb921, 3, none⟩) (Kd.R_far (p := ⟨gb921, 2, none⟩) (Kd.R_far (p := ⟨gb921, 1, none⟩) (Kd.R_far (p := ⟨gb921, 0, none⟩) (Kd.R_types HO920.out BK921.out (by decide)) (fun _ hk => hk.2) (.int .i64 t914)) (fun _ hk => hk.2) (.int .i64 t915)) (fun _ hk => hk.2) (.int .i64 t916)) (fun _ hk => hk.2) (.int .i64 t917)) (fun _ hk => hk.2) (.slice Ao72 t918.length co72)) (fun _ h_ => h_.1))) : P := h
theorem z61x15 {P : Prop} (h : P := by (with_reducible repeat (first | apply Kd.R_alloc | apply Kd.R_drewN | apply Kd.R_drew)); exact (Kd.R_mono (Kd.R_far (p := ⟨gb921, 4, none⟩) (Kd.R_far (p := ⟨gb921, 3, none⟩) (Kd.R_far (p := ⟨gb921, 2, none⟩) (Kd.R_far (p := ⟨gb921, 1, none⟩) (Kd.R_far (p := ⟨gb921, 0, none⟩) (Kd.R_types HO920.out BK921.out (by decide)) (fun _ hk => hk.2) (.int .i64 t914)) (fun _ hk => hk.2) (.int .i64 t915)) (fun _ hk => hk.2) (.int .i64 t916)) (fun _ hk => hk.2) (.int .i64 t917)) (fun _ hk => hk.2) (.slice Ao41 t918.length co41)) (fun _ h_ => h_.1))) : P := h
theorem z61x14 {P : Prop} (h : P := by (with_reducible repeat (first | apply Kd.R_alloc | apply Kd.R_drewN | apply Kd.R_drew)); exact (Kd.R_mono (Kd.R_far (p := ⟨gb921, 4, none⟩) (Kd.R_far (p := ⟨gb921, 3, none⟩) (Kd.R_far (p := ⟨gb921, 2, none⟩) (Kd.R_far (p := ⟨gb921, 1, none⟩) (Kd.R_far (p := ⟨gb921, 0, none⟩) (Kd.R_types HO913.out BK921.out (by decide)) (fun _ hk => hk.2) (.int .i64 t914)) (fun _ hk => hk.2) (.int .i64 t915)) (fun _ hk => hk.2) (.int .i64 t916)) (fun _ hk => hk.2) (.int .i64 t917)) (fun _ hk => hk.2) (.slice Ao72 t918.length co72)) (fun _ h_ => h_.1))) : P := h
theorem z61x13 {P : Prop} (h : P := by (with_reducible repeat (first | apply Kd.R_alloc | apply Kd.R_drewN | apply Kd.R_drew)); exact (Kd.R_mono (Kd.R_far (p := ⟨gb921, 4, none⟩) (Kd.R_far (p := ⟨gb921, 3, none⟩) (Kd.R_far (p := ⟨gb921, 2, none⟩) (Kd.R_far (p := ⟨gb921, 1, none⟩) (Kd.R_far (p := ⟨gb921, 0, none⟩) (Kd.R_types HO913.out BK921.out (by decide)) (fun _ hk => hk.2) (.int .i64 t914)) (fun _ hk => hk.2) (.int .i64 t915)) (fun _ hk => hk.2) (.int .i64 t916)) (fun _ hk => hk.2) (.int .i64 t917)) (fun _ hk => hk.2) (.slice Ao41 t918.length co41)) (fun _ h_ => h_.1))) : P := h
theorem z61x12 {P : Prop} (h : P := by (with_reducible repeat (first | apply Kd.R_alloc | apply Kd.R_drewN | apply Kd.R_drew)); exact (Kd.R_mono (Kd.R_far (p := ⟨gb921, 4, none⟩) (Kd.R_far (p := ⟨gb921, 3, none⟩) (Kd.R_far (p := ⟨gb921, 2, none⟩) (Kd.R_far (p := ⟨gb921, 1, none⟩) (Kd.R_far (p := ⟨gb921, 0, none⟩) (Kd.R_types HO910.out BK921.out (by decide)) (fun _ hk => hk.2) (.int .i64 t914)) (fun _ hk => hk.2) (.int .i64 t915)) (fun _ hk => hk.2) (.int .i64 t916)) (fun _ hk => hk.2) (.int .i64 t917)) (fun _ hk => hk.2) (.slice Ao72 t918.length co72)) (fun _ h_ => h_.1))) : P := h
theorem z61x11 {P : Prop} (h : P := by (with_reducible repeat (first | apply Kd.R_alloc | apply Kd.R_drewN | apply Kd.R_drew)); exact (Kd.R_mono (Kd.R_far (p := ⟨gb921, 4, none⟩) (Kd.R_far (p := ⟨gb921, 3, none⟩) (Kd.R_far (p := ⟨gb921, 2, none⟩) (Kd.R_far (p := ⟨gb921, 1, none⟩) (Kd.R_far (p := ⟨gb921, 0, none⟩) (Kd.R_types HO910.out BK921.out (by decide)) (fun _ hk => hk.2) (.int .i64 t914)) (fun _ hk => hk.2) (.int .i64 t915)) (fun _ hk => hk.2) (.int .i64 t916)) (fun _ hk => hk.2) (.int .i64 t917)) (fun _ hk => hk.2) (.slice Ao41 t918.length co41)) (fun _ h_ => h_.1))) : P := h
theorem z61x10 {P : Prop} (h : P := by (with_reducible repeat (first | apply Kd.R_alloc | apply Kd.R_drewN | apply Kd.R_drew)); exact (Kd.R_mono (Kd.R_far (p := ⟨gb921, 4, none⟩) (Kd.R_far (p := ⟨gb921, 3, none⟩) (Kd.R_far (p := ⟨gb921, 2, none⟩) (Kd.R_far (p := ⟨gb921, 1, none⟩) (Kd.R_far (p := ⟨gb921, 0, none⟩) (Kd.R_types HO920.out BK921.out (by decide)) (fun _ hk => hk.2) (.int .i64 t914)) (fun _ hk => hk.2) (.int .i64 t915)) (fun _ hk => hk.2) (.int .i64 t916)) (fun _ hk => hk.2) (.int .i64 t917)) (fun _ hk => hk.2) (.slice Ao161 t918.length co161)) (fun _ h_ => h_.1))) : P := h
theorem z61x9 {P : Prop} (h : P := by (with_reducible repeat (first | apply Kd.R_alloc | apply Kd.R_drewN | apply Kd.R_drew)); exact (Kd.R_mono (Kd.R_far (p := ⟨gb921, 4, none⟩) (Kd.R_far (p := ⟨gb921, 3, none⟩) (Kd.R_far (p := ⟨gb921, 2, none⟩) (Kd.R_far (p := ⟨gb921, 1, none⟩) (Kd.R_far (p := ⟨gb921, 0, none⟩) (Kd.R_types HO920.out BK921.out (by decide)) (fun _ hk => hk.2) (.int .i64 t914)) (fun _ hk => hk.2) (.int .i64 t915)) (fun _ hk => hk.2) (.int .i64 t916)) (fun _ hk => hk.2) (.int .i64 t917)) (fun _ hk => hk.2) (.slice Ao134 t918.length co134)) (fun _ h_ => h_.1))) : P := h
theorem z61x8 {P : Prop} (h : P := by (with_reducible repeat (first | apply Kd.R_alloc | apply Kd.R_drewN | apply Kd.R_drew)); exact (Kd.R_mono (Kd.R_far (p := ⟨gb921, 4, none⟩) (Kd.R_far (p := ⟨gb921, 3, none⟩) (Kd.R_far (p := ⟨gb921, 2, none⟩) (Kd.R_far (p := ⟨gb921, 1, none⟩) (Kd.R_far (p := ⟨gb921, 0, none⟩) (Kd.R_types HO920.out BK921.out (by decide)) (fun _ hk => hk.2) (.int .i64 t914)) (fun _ hk => hk.2) (.int .i64 t915)) (fun _ hk => hk.2) (.int .i64 t916)) (fun _ hk => hk.2) (.int .i64 t917)) (fun _ hk => hk.2) (.slice Ao103 t918.length co103)) (fun _ h_ => h_.1))) : P := h
theorem z61x7 {P : Prop} (h : P := by (with_reducible repeat (first | apply Kd.R_alloc | apply Kd.R_drewN | apply Kd.R_drew)); exact (Kd.R_mono (Kd.R_far (p := ⟨gb921, 4, none⟩) (Kd.R_far (p := ⟨gb921, 3, none⟩) (Kd.R_far (p := ⟨gb921, 2, none⟩) (Kd.R_far (p := ⟨gb921, 1, none⟩) (Kd.R_far (p := ⟨gb921, 0, none⟩) (Kd.R_types HO913.out BK921.out (by decide)) (fun _ hk => hk.2) (.int .i64 t914)) (fun _ hk => hk.2) (.int .i64 t915)) (fun _ hk => hk.2) (.int .i64 t916)) (fun _ hk => hk.2) (.int .i64 t917)) (fun _ hk => hk.2) (.slice Ao161 t918.length co161)) (fun _ h_ => h_.1))) : P := h
theorem z61x6 {P : Prop} (h : P := by (with_reducible repeat (first | apply Kd.R_alloc | apply Kd.R_drewN | apply Kd.R_drew)); exact (Kd.R_mono (Kd.R_far (p := ⟨gb921, 4, none⟩) (Kd.R_far (p := ⟨gb921, 3, none⟩) (Kd.R_far (p := ⟨gb921, 2, none⟩) (Kd.R_far (p := ⟨gb921, 1, none⟩) (Kd.R_far (p := ⟨gb921, 0, none⟩) (Kd.R_types HO913.out BK921.out (by decide)) (fun _ hk => hk.2) (.int .i64 t914)) (fun _ hk => hk.2) (.int .i64 t915)) (fun _ hk => hk.2) (.int .i64 t916)) (fun _ hk => hk.2) (.int .i64 t917)) (fun _ hk => hk.2) (.slice Ao134 t918.length co134)) (fun _ h_ => h_.1))) : P := h
theorem z61x5 {P : Prop} (h : P := by (with_reducible repeat (first | apply Kd.R_alloc | apply Kd.R_drewN | apply Kd.R_drew)); exact (Kd.R_mono (Kd.R_far (p := ⟨gb921, 4, none⟩) (Kd.R_far (p := ⟨gb921, 3, none⟩) (Kd.R_far (p := ⟨gb921, 2, none⟩) (Kd.R_far (p := ⟨gb921, 1, none⟩) (Kd.R_far (p := ⟨gb921, 0, none⟩) (Kd.R_types HO913.out BK921.out (by decide)) (fun _ hk => hk.2) (.int .i64 t914)) (fun _ hk => hk.2) (.int .i64 t915)) (fun _ hk => hk.2) (.int .i64 t916)) (fun _ hk => hk.2) (.int .i64 t917)) (fun _ hk => hk.2) (.slice Ao103 t918.length co103)) (fun _ h_ => h_.1))) : P := h
theorem z61x4 {P : Prop} (h : P := by (with_reducible repeat (first | apply Kd.R_alloc | apply Kd.R_drewN | apply Kd.R_drew)); exact (Kd.R_mono (Kd.R_far (p := ⟨gb921, 4, none⟩) (Kd.R_far (p := ⟨gb921, 3, none⟩) (Kd.R_far (p := ⟨gb921, 2, none⟩) (Kd.R_far (p := ⟨gb921, 1, none⟩) (Kd.R_far (p := ⟨gb921, 0, none⟩) (Kd.R_types HO910.out BK921.out (by decide)) (fun _ hk => hk.2) (.int .i64 t914)) (fun _ hk => hk.2) (.int .i64 t915)) (fun _ hk => hk.2) (.int .i64 t916)) (fun _ hk => hk.2) (.int .i64 t917)) (fun _ hk => hk.2) (.slice Ao161 t918.length co161)) (fun _ h_ => h_.1))) : P := h
theorem z61x3 {P : Prop} (h : P := by (with_reducible repeat (first | apply Kd.R_alloc | apply Kd.R_drewN | apply Kd.R_drew)); exact (Kd.R_mono (Kd.R_far (p := ⟨gb921, 4, none⟩) (Kd.R_far (p := ⟨gb921, 3, none⟩) (Kd.R_far (p := ⟨gb921, 2, none⟩) (Kd.R_far (p := ⟨gb921, 1, none⟩) (Kd.R_far (p := ⟨gb921, 0, none⟩) (Kd.R_types HO910.out BK921.out (by decide)) (fun _ hk => hk.2) (.int .i64 t914)) (fun _ hk => hk.2) (.int .i64 t915)) (fun _ hk => hk.2) (.int .i64 t916)) (fun _ hk => hk.2) (.int .i64 t917)) (fun _ hk => hk.2) (.slice Ao134 t918.length co134)) (fun _ h_ => h_.1))) : P := h
theorem z61x2 {P : Prop} (h : P := by (with_reducible repeat (first | apply Kd.R_alloc | apply Kd.R_drewN | apply Kd.R_drew)); exact (Kd.R_mono (Kd.R_far (p := ⟨gb921, 4, none⟩) (Kd.R_far (p := ⟨gb921, 3, none⟩) (Kd.R_far (p := ⟨gb921, 2, none⟩) (Kd.R_far (p := ⟨gb921, 1, none⟩) (Kd.R_far (p := ⟨gb921, 0, none⟩) (Kd.R_types HO910.out BK921.out (by decide)) (fun _ hk => hk.2) (.int .i64 t914)) (fun _ hk => hk.2) (.int .i64 t915)) (fun _ hk => hk.2) (.int .i64 t916)) (fun _ hk => hk.2) (.int .i64 t917)) (fun _ hk => hk.2) (.slice Ao103 t918.length co103)) (fun _ h_ => h_.1))) : P := h
theorem z61x1 {P : Prop} (h : P := by (with_reducible repeat (first | refine blk_drewN ?_ _ | refine blk_drew ?_ | refine blk_alloc ?_ _)); refine blk_far ?_ NB891_921.out _; (with_reducible repeat (first | refine blk_drewN ?_ _ | refine blk_drew ?_ | refine blk_alloc ?_ _)); refine blk_far ?_ NB891_921.out _; (with_reducible repeat (first | refine blk_drewN ?_ _ | refine blk_drew ?_ | refine blk_alloc ?_ _)); refine blk_far ?_ NB891_921.out _; (with_reducible repeat (first | refine blk_drewN ?_ _ | refine blk_drew ?_ | refine blk_alloc ?_ _)); refine blk_far ?_ NB891_921.out _; (with_reducible repeat (first | refine blk_drewN ?_ _ | refine blk_drew ?_ | refine blk_alloc ?_ _)); refine blk_far ?_ NB891_921.out _; (with_reducible repeat (first | refine blk_drewN ?_ _ | refine blk_drew ?_ | refine blk_alloc ?_ _)); exact BK891.out) : P := h
theorem z61x0 {P : Prop} (h : P := by (with_reducible repeat (first | refine blk_drewN ?_ _ | refine blk_drew ?_ | refine blk_alloc ?_ _)); refine blk_put (cs := #[.int .i64 t914, .int .i64 t915, .int .i64 t916, .int .i64 t917, .slice none 0 0]) ?_ 4 _ rfl; (with_reducible repeat (first | refine blk_drewN ?_ _ | refine blk_drew ?_ | refine blk_alloc ?_ _)); refine blk_put (cs := #[.int .i64 t914, .int .i64 t915, .int .i64 t916, .int .i64 0, .slice none 0 0]) ?_ 3 _ rfl; (with_reducible repeat (first | refine blk_drewN ?_ _ | refine blk_drew ?_ | refine blk_alloc ?_ _)); refine blk_put (cs := #[.int .i64 t914, .int .i64 t915, .int .i64 0, .int .i64 0, .slice none 0 0]) ?_ 2 _ rfl; (with_reducible repeat (first | refine blk_drewN ?_ _ | refine blk_drew ?_ | refine blk_alloc ?_ _)); refine blk_put (cs := #[.int .i64 t914, .int .i64 0, .int .i64 0, .int .i64 0, .slice none 0 0]) ?_ 1 _ rfl; (with_reducible repeat (first | refine blk_drewN ?_ _ | refine blk_drew ?_ | refine blk_alloc ?_ _)); refine blk_put (cs := #[.int .i64 0, .int .i64 0, .int .i64 0, .int .i64 0, .slice none 0 0]) ?_ 0 _ rfl; (with_reducible repeat (first | refine blk_drewN ?_ _ | refine blk_drew ?_ | refine blk_alloc ?_ _)); exact BK921.out) : P := h

/-! ### laws_FnExactKnowBuild: function 17 -/
def laws_FnExactKnowBuild.f (k : Nat) (l0 : List Int) (l1 : List (S77)) (a2_0 : Int) (a2_1 : Int) (a2_2 : Int) (a2_3 : Int) (l2_4 : List (S77)) : Option (Bool) := if (l0.length : Int) > 1048576 then (some true) else ((laws_szSealS.f l1 1048576).bind fun t892 => (if t892 < 0 then (some true) else ((laws_szMsg.f a2_0 a2_1 a2_2 a2_3 l2_4 t892).bind fun t893 => (if t893 < 0 then (some true) else ((laws_toIntS.f k l0).bind fun t894 => ((laws_toSealS.f k l1).bind fun t897 => ((laws_toMsg.f k a2_0 a2_1 a2_2 a2_3 l2_4).bind fun bt900 => ((spec_KnowBuild.f k t894 t897 bt900.1 bt900.2.1 bt900.2.2.1 bt900.2.2.2.1 bt900.2.2.2.2).bind fun t907 => ((laws_toIntS.f k l0).bind fun t908 => ((laws_toSealS.f k l1).bind fun t911 => ((laws_toMsg.f k a2_0 a2_1 a2_2 a2_3 l2_4).bind fun bt914 => ((impl_KnowBuild.f t908 t911 bt914.1 bt914.2.1 bt914.2.2.1 bt914.2.2.2.1 bt914.2.2.2.2).bind fun t922 => (if (t922 != t907) = true then (some false) else ((laws_toIntS.f k l0).bind fun t923 => ((laws_eqIntS.f k t908 t923).bind fun t926 => (if t926 = true then ((laws_toSealS.f k l1).bind fun t927 => ((laws_eqSealS.f k t911 t927).bind fun t930 => (if t930 = true then ((laws_toMsg.f k a2_0 a2_1 a2_2 a2_3 l2_4).bind fun bt931 => ((laws_eqMsg.f k bt914.1 bt914.2.1 bt914.2.2.1 bt914.2.2.2.1 bt914.2.2.2.2 bt931.1 bt931.2.1 bt931.2.2.1 bt931.2.2.2.1 bt931.2.2.2.2).bind fun t938 => (if t938 = true then (some true) else (some false)))) else (some false)))) else (some false)))))))))))))))))
theorem laws_FnExactKnowBuild.mono : ∀ a0 a1 a2 a3 a4 a5 a6 k, LeO (laws_FnExactKnowBuild.f k a0 a1 a2 a3 a4 a5 a6) (laws_FnExactKnowBuild.f (k + 1) a0 a1 a2 a3 a4 a5 a6) := by
 intro a0 a1 a2 a3 a4 a5 a6 k
 unfold laws_FnExactKnowBuild.f
 repeat' first
   | (with_reducible exact laws_eqIntS.mono _ _ _)
   | (with_reducible exact laws_eqMsg.mono _ _ _ _ _ _ _ _ _ _ _)
   | (with_reducible exact laws_eqSealS.mono _ _ _)
   | (with_reducible exact laws_toIntS.mono _ _)
   | (with_reducible exact laws_toMsg.mono _ _ _ _ _ _)
   | (with_reducible exact laws_toSealS.mono _ _)
   | (with_reducible exact spec_KnowBuild.mono _ _ _ _ _ _ _ _)
   | (with_reducible exact LeO.refl _)
   | (with_reducible exact LeO.none _)
   | (with_reducible refine LeO.ite ?_ ?_)
   | (with_reducible refine LeO.bind ?_ (fun _ => ?_))
   | exact laws_eqIntS.mono _ _ _
   | exact laws_eqMsg.mono _ _ _ _ _ _ _ _ _ _ _
   | exact laws_eqSealS.mono _ _ _
   | exact laws_toIntS.mono _ _
   | exact laws_toMsg.mono _ _ _ _ _ _
   | exact laws_toSealS.mono _ _
   | exact spec_KnowBuild.mono _ _ _ _ _ _ _ _
   | exact LeO.none _
   | refine LeO.ite ?_ ?_
   | refine LeO.bind ?_ (fun _ => ?_)
def laws_FnExactKnowBuild.T10 : Bool × List (List Nat × List Nat) := (true, [([], []), ([0], [0]), ([], []), ([2, 1], [2]), ([], []), ([4, 3], [4]), ([1, 3, 5, 5], [1, 3, 5]), ([6, 6, 0, 1, 2, 3, 4, 5, 6], [6])])
def laws_FnExactKnowBuild.B10 : List Nat := [0, 1, 0, 7, 0, 31, 63, 127]
theorem laws_FnExactKnowBuild.tab10 : rtab .any (opsOf Try.f17 10) = laws_FnExactKnowBuild.T10 := by kernel_rfl
theorem laws_FnExactKnowBuild.bits10 : waitsOk laws_FnExactKnowBuild.T10.2 laws_FnExactKnowBuild.B10 = true := by kernel_rfl
set_option maxHeartbeats 8000000 in
set_option maxRecDepth 100000 in
theorem laws_FnExactKnowBuild.calls (k : Nat) (A0 : Option Addr) (c0 : Nat) (l0 : List Int) (A1 : Option Addr) (c1 : Nat) (l1 : List (S77)) (a2_0 : Int) (a2_1 : Int) (a2_2 : Int) (a2_3 : Int) (A2_4 : Option Addr) (c2_4 : Nat) (l2_4 : List (S77)) (r : Bool) (w : World) (hr0 : Kd.C (Kd.int .i64) w A0 l0.length l0) (hc0 : l0.length ≤ c0) (hr1 : Kd.C k77 w A1 l1.length l1) (hc1 : l1.length ≤ c1) (hr2_4 : Kd.C k77 w A2_4 l2_4.length l2_4) (hc2_4 : l2_4.length ≤ c2_4) (h : laws_FnExactKnowBuild.f k l0 l1 a2_0 a2_1 a2_2 a2_3 l2_4 = some r) :
  Calls Try.prog 17 #[.slice A0 l0.length c0, .slice A1 l1.length c1, .agg #[.int .i64 a2_0, .int .i64 a2_1, .int .i64 a2_2, .int .i64 a2_3, .slice A2_4 l2_4.length c2_4]] w fun e w' => e = .returned (.bool r) ∧ Below w.heap.size w w' := by
 have hu31 := Try.underlying31
 have hu36 := Try.underlying36
 have HR0 := Aside0.mk hr0
 have HC0 := Aside0.mk hc0
 clear hr0 hc0
 have HR1 := Aside0.mk hr1
 have HC1 := Aside0.mk hc1
 clear hr1 hc1
 have HR2_4 := Aside0.mk hr2_4
 have HC2_4 := Aside0.mk hc2_4
 clear hr2_4 hc2_4
 have HB := Aside0.mk (Below.refl w.heap.size w)
 have H : (if (l0.length : Int) > 1048576 then (some true) else ((laws_szSealS.f l1 1048576).bind fun t892 => (if t892 < 0 then (some true) else ((laws_szMsg.f a2_0 a2_1 a2_2 a2_3 l2_4 t892).bind fun t893 => (if t893 < 0 then (some true) else ((laws_toIntS.f k l0).bind fun t894 => ((laws_toSealS.f k l1).bind fun t897 => ((laws_toMsg.f k a2_0 a2_1 a2_2 a2_3 l2_4).bind fun bt900 => ((spec_KnowBuild.f k t894 t897 bt900.1 bt900.2.1 bt900.2.2.1 bt900.2.2.2.1 bt900.2.2.2.2).bind fun t907 => ((laws_toIntS.f k l0).bind fun t908 => ((laws_toSealS.f k l1).bind fun t911 => ((laws_toMsg.f k a2_0 a2_1 a2_2 a2_3 l2_4).bind fun bt914 => ((impl_KnowBuild.f t908 t911 bt914.1 bt914.2.1 bt914.2.2.1 bt914.2.2.2.1 bt914.2.2.2.2).bind fun t922 => (if (t922 != t907) = true then (some false) else ((laws_toIntS.f k l0).bind fun t923 => ((laws_eqIntS.f k t908 t923).bind fun t926 => (if t926 = true then ((laws_toSealS.f k l1).bind fun t927 => ((laws_eqSealS.f k t911 t927).bind fun t930 => (if t930 = true then ((laws_toMsg.f k a2_0 a2_1 a2_2 a2_3 l2_4).bind fun bt931 => ((laws_eqMsg.f k bt914.1 bt914.2.1 bt914.2.2.1 bt914.2.2.2.1 bt914.2.2.2.2 bt931.1 bt931.2.1 bt931.2.2.1 bt931.2.2.2.1 bt931.2.2.2.2).bind fun t938 => (if t938 = true then (some true) else (some false)))) else (some false)))) else (some false)))))))))))))))))) = some r := h
 clear h
 by_cases c4 : (l0.length : Int) > 1048576
 ·rw [if_pos c4] at H
  have c4b0 : decide (1048576 < (l0.length : Int)) = true := decide_eq_true c4
  have c4b1 : decide (1048576 < l0.length) = true := decide_eq_true (by omega)
  clear c4
  obtain rfl := Option.some.inj H
  go_enter Try.func17, Try.ntmps17
  go_wp2_with (first | ((with_reducible refine gate_dst (N := 5) rfl ?_); refine box_event ?hg (N := 5) ?hd (cs := #[.int .i64 a2_0, .int .i64 a2_1, .int .i64 a2_2, .int .i64 a2_3, .slice A2_4 l2_4.length c2_4]) (t := 31) ?hr ?_; (case hd => rfl); (case hg => rfl); (case hr => first | (go_simp; done) | (go_simp; rfl)); intro gb891 hg w5 hbox hb; have n0_ := Aside0.mk (below_step z61x24 hb); have n1_ := Aside0.mk (hbox); have n2_ := Aside0.mk ((z61x22 : w.heap.size ≤ gb891)); have n3_ := Aside0.mk ((z61x22 : w.heap.size ≤ gb891)); clear HB; have HB := n0_; have BK891 := n1_; have GW891 := n2_; have GE891 := n3_; clear n0_ n1_ n2_ n3_; clear hb hbox hg))
  go_ret
  exact ⟨by first | rfl | (simp [errW_none, errW_some] <;> rfl) | (simp [*, errW_none, errW_some] <;> rfl), by repeat (first | (with_reducible first | exact HB.out | apply below_alloc | apply pw_below_drewN | apply below_drew1 | refine below_set ?_ GE891.out) | exact HB.out)⟩
 ·rw [if_neg c4] at H
  have c4b0 : decide (1048576 < (l0.length : Int)) = false := decide_eq_false c4
  have c4b1 : decide (1048576 < l0.length) = false := decide_eq_false (by omega)
  clear c4
  replace H := Option.bind_eq_some_iff.mp H
  obtain ⟨t892, A60, H⟩ := H
  replace H : (if t892 < 0 then (some true) else ((laws_szMsg.f a2_0 a2_1 a2_2 a2_3 l2_4 t892).bind fun t893 => (if t893 < 0 then (some true) else ((laws_toIntS.f k l0).bind fun t894 => ((laws_toSealS.f k l1).bind fun t897 => ((laws_toMsg.f k a2_0 a2_1 a2_2 a2_3 l2_4).bind fun bt900 => ((spec_KnowBuild.f k t894 t897 bt900.1 bt900.2.1 bt900.2.2.1 bt900.2.2.2.1 bt900.2.2.2.2).bind fun t907 => ((laws_toIntS.f k l0).bind fun t908 => ((laws_toSealS.f k l1).bind fun t911 => ((laws_toMsg.f k a2_0 a2_1 a2_2 a2_3 l2_4).bind fun bt914 => ((impl_KnowBuild.f t908 t911 bt914.1 bt914.2.1 bt914.2.2.1 bt914.2.2.2.1 bt914.2.2.2.2).bind fun t922 => (if (t922 != t907) = true then (some false) else ((laws_toIntS.f k l0).bind fun t923 => ((laws_eqIntS.f k t908 t923).bind fun t926 => (if t926 = true then ((laws_toSealS.f k l1).bind fun t927 => ((laws_eqSealS.f k t911 t927).bind fun t930 => (if t930 = true then ((laws_toMsg.f k a2_0 a2_1 a2_2 a2_3 l2_4).bind fun bt931 => ((laws_eqMsg.f k bt914.1 bt914.2.1 bt914.2.2.1 bt914.2.2.2.1 bt914.2.2.2.2 bt931.1 bt931.2.1 bt931.2.2.1 bt931.2.2.2.1 bt931.2.2.2.2).bind fun t938 => (if t938 = true then (some true) else (some false)))) else (some false)))) else (some false)))))))))))))))) = some r := H
  have A6 := Aside0.mk A60
  clear A60
  by_cases c7 : t892 < 0
  ·rw [if_pos c7] at H
   have c7b0 : decide (t892 < 0) = true := decide_eq_true c7
   clear c7
   obtain rfl := Option.some.inj H
   go_enter Try.func17, Try.ntmps17
   go_wp2_with (first | ((with_reducible refine gate_dst (N := 5) rfl ?_); refine box_event ?hg (N := 5) ?hd (cs := #[.int .i64 a2_0, .int .i64 a2_1, .int .i64 a2_2, .int .i64 a2_3, .slice A2_4 l2_4.length c2_4]) (t := 31) ?hr ?_; (case hd => rfl); (case hg => rfl); (case hr => first | (go_simp; done) | (go_simp; rfl)); intro gb891 hg w8 hbox hb; have n0_ := Aside0.mk (below_step z61x24 hb); have n1_ := Aside0.mk (hbox); have n2_ := Aside0.mk ((z61x22 : w.heap.size ≤ gb891)); have n3_ := Aside0.mk ((z61x22 : w.heap.size ≤ gb891)); clear HB; have HB := n0_; have BK891 := n1_; have GW891 := n2_; have GE891 := n3_; clear n0_ n1_ n2_ n3_; clear hb hbox hg) | ((with_reducible refine gate_callee (f := 42) rfl ?_); refine goesL_ (some 18) rfl rfl Try.func42 (by kernel_rfl) rfl #[.slice A1 l1.length c1, .int .i64 1048576] rfl z61x23 ?_; (with_reducible refine (laws_szSealS.calls _ _ l1 1048576 t892 _ ?side1 ?side2 A6.out).mono ?_); (case side1 => repeat (first | exact (Kd.C_below HR1.out HB.out) | (with_reducible refine Kd.C_alloc ?_ _) | (with_reducible refine Kd.C_drewN ?_ _) | (with_reducible refine Kd.C_drew ?_))); (case side2 => exact HC1.out); rintro e w' ⟨rfl, ⟨nd, rfl⟩⟩; refine ⟨_, rfl, ?_⟩))
   go_ret
   exact ⟨by first | rfl | (simp [errW_none, errW_some] <;> rfl) | (simp [*, errW_none, errW_some] <;> rfl), by repeat (first | (with_reducible first | exact HB.out | apply below_alloc | apply pw_below_drewN | apply below_drew1 | refine below_set ?_ GE891.out) | exact HB.out)⟩
  ·rw [if_neg c7] at H
   have c7b0 : decide (t892 < 0) = false := decide_eq_false c7
   clear c7
   replace H := Option.bind_eq_some_iff.mp H
   obtain ⟨t893, A90, H⟩ := H
   replace H : (if t893 < 0 then (some true) else ((laws_toIntS.f k l0).bind fun t894 => ((laws_toSealS.f k l1).bind fun t897 => ((laws_toMsg.f k a2_0 a2_1 a2_2 a2_3 l2_4).bind fun bt900 => ((spec_KnowBuild.f k t894 t897 bt900.1 bt900.2.1 bt900.2.2.1 bt900.2.2.2.1 bt900.2.2.2.2).bind fun t907 => ((laws_toIntS.f k l0).bind fun t908 => ((laws_toSealS.f k l1).bind fun t911 => ((laws_toMsg.f k a2_0 a2_1 a2_2 a2_3 l2_4).bind fun bt914 => ((impl_KnowBuild.f t908 t911 bt914.1 bt914.2.1 bt914.2.2.1 bt914.2.2.2.1 bt914.2.2.2.2).bind fun t922 => (if (t922 != t907) = true then (some false) else ((laws_toIntS.f k l0).bind fun t923 => ((laws_eqIntS.f k t908 t923).bind fun t926 => (if t926 = true then ((laws_toSealS.f k l1).bind fun t927 => ((laws_eqSealS.f k t911 t927).bind fun t930 => (if t930 = true then ((laws_toMsg.f k a2_0 a2_1 a2_2 a2_3 l2_4).bind fun bt931 => ((laws_eqMsg.f k bt914.1 bt914.2.1 bt914.2.2.1 bt914.2.2.2.1 bt914.2.2.2.2 bt931.1 bt931.2.1 bt931.2.2.1 bt931.2.2.2.1 bt931.2.2.2.2).bind fun t938 => (if t938 = true then (some true) else (some false)))) else (some false)))) else (some false)))))))))))))) = some r := H
   have A9 := Aside0.mk A90
   clear A90
   by_cases c10 : t893 < 0
   ·rw [if_pos c10] at H
    have c10b0 : decide (t893 < 0) = true := decide_eq_true c10
    clear c10
    obtain rfl := Option.some.inj H
    go_enter Try.func17, Try.ntmps17
    go_wp2_with (first | ((with_reducible refine gate_dst (N := 5) rfl ?_); refine box_event ?hg (N := 5) ?hd (cs := #[.int .i64 a2_0, .int .i64 a2_1, .int .i64 a2_2, .int .i64 a2_3, .slice A2_4 l2_4.length c2_4]) (t := 31) ?hr ?_; (case hd => rfl); (case hg => rfl); (case hr => first | (go_simp; done) | (go_simp; rfl)); intro gb891 hg w11 hbox hb; have n0_ := Aside0.mk (below_step z61x24 hb); have n1_ := Aside0.mk (hbox); have n2_ := Aside0.mk ((z61x22 : w.heap.size ≤ gb891)); have n3_ := Aside0.mk ((z61x22 : w.heap.size ≤ gb891)); clear HB; have HB := n0_; have BK891 := n1_; have GW891 := n2_; have GE891 := n3_; clear n0_ n1_ n2_ n3_; clear hb hbox hg) | ((with_reducible refine gate_callee (f := 42) rfl ?_); refine goesL_ (some 18) rfl rfl Try.func42 (by kernel_rfl) rfl #[.slice A1 l1.length c1, .int .i64 1048576] rfl z61x23 ?_; (with_reducible refine (laws_szSealS.calls _ _ l1 1048576 t892 _ ?side1 ?side2 A6.out).mono ?_); (case side1 => repeat (first | exact (Kd.C_below HR1.out HB.out) | (with_reducible refine Kd.C_alloc ?_ _) | (with_reducible refine Kd.C_drewN ?_ _) | (with_reducible refine Kd.C_drew ?_))); (case side2 => exact HC1.out); rintro e w' ⟨rfl, ⟨nd, rfl⟩⟩; refine ⟨_, rfl, ?_⟩; have hcz12_0 : w11.cell? ⟨gb891, 0, none⟩ = some (.int .i64 a2_0) := (blk_cell BK891.out 0).trans rfl; have hcz12_1 : w11.cell? ⟨gb891, 1, none⟩ = some (.int .i64 a2_1) := (blk_cell BK891.out 1).trans rfl; have hcz12_2 : w11.cell? ⟨gb891, 2, none⟩ = some (.int .i64 a2_2) := (blk_cell BK891.out 2).trans rfl; have hcz12_3 : w11.cell? ⟨gb891, 3, none⟩ = some (.int .i64 a2_3) := (blk_cell BK891.out 3).trans rfl; have hcz12_4 : w11.cell? ⟨gb891, 4, none⟩ = some (.slice A2_4 l2_4.length c2_4) := (blk_cell BK891.out 4).trans rfl; have hfz12_0 := blk_frozen BK891.out 0; have hfz12_1 := blk_frozen BK891.out 1; have hfz12_2 := blk_frozen BK891.out 2; have hfz12_3 := blk_frozen BK891.out 3; have hfz12_4 := blk_frozen BK891.out 4) | ((with_reducible refine gate_callee (f := 26) rfl ?_); refine goesL_ (some 23) rfl rfl Try.func26 (by kernel_rfl) rfl #[.agg #[.int .i64 a2_0, .int .i64 a2_1, .int .i64 a2_2, .int .i64 a2_3, .slice A2_4 l2_4.length c2_4], .int .i64 t892] rfl z61x23 ?_; (with_reducible refine (laws_szMsg.calls a2_0 a2_1 a2_2 a2_3 _ _ l2_4 t892 t893 _ ?side1 ?side2 A9.out).mono ?_); (case side1 => repeat (first | exact (Kd.C_below HR2_4.out z61x21) | (with_reducible refine Kd.C_alloc ?_ _) | (with_reducible refine Kd.C_drewN ?_ _) | (with_reducible refine Kd.C_drew ?_))); (case side2 => exact HC2_4.out); rintro e w13 ⟨rfl, hb⟩; refine ⟨_, rfl, ?_⟩; have n0_ := Aside0.mk (blk_below (g := gb891) (o := .cells #[.int .i64 a2_0, .int .i64 a2_1, .int .i64 a2_2, .int .i64 a2_3, .slice A2_4 l2_4.length c2_4] 31 (0, 0)) z61x25 hb); have n1_ := Aside0.mk (below_step z61x21 hb); clear BK891; clear HB; have BK891 := n0_; have HB := n1_; clear n0_ n1_; (try clear hb); (try clear hb2); (try clear hk); (try clear hi)))
    go_ret
    exact ⟨by first | rfl | (simp [errW_none, errW_some] <;> rfl) | (simp [*, errW_none, errW_some] <;> rfl), by repeat (first | (with_reducible first | exact HB.out | apply below_alloc | apply pw_below_drewN | apply below_drew1 | refine below_set ?_ GE891.out) | exact HB.out)⟩
   ·rw [if_neg c10] at H
    have c10b0 : decide (t893 < 0) = false := decide_eq_false c10
    clear c10
    replace H := Option.bind_eq_some_iff.mp H
    obtain ⟨t894, A140, H⟩ := H
    replace H : ((laws_toSealS.f k l1).bind fun t897 => ((laws_toMsg.f k a2_0 a2_1 a2_2 a2_3 l2_4).bind fun bt900 => ((spec_KnowBuild.f k t894 t897 bt900.1 bt900.2.1 bt900.2.2.1 bt900.2.2.2.1 bt900.2.2.2.2).bind fun t907 => ((laws_toIntS.f k l0).bind fun t908 => ((laws_toSealS.f k l1).bind fun t911 => ((laws_toMsg.f k a2_0 a2_1 a2_2 a2_3 l2_4).bind fun bt914 => ((impl_KnowBuild.f t908 t911 bt914.1 bt914.2.1 bt914.2.2.1 bt914.2.2.2.1 bt914.2.2.2.2).bind fun t922 => (if (t922 != t907) = true then (some false) else ((laws_toIntS.f k l0).bind fun t923 => ((laws_eqIntS.f k t908 t923).bind fun t926 => (if t926 = true then ((laws_toSealS.f k l1).bind fun t927 => ((laws_eqSealS.f k t911 t927).bind fun t930 => (if t930 = true then ((laws_toMsg.f k a2_0 a2_1 a2_2 a2_3 l2_4).bind fun bt931 => ((laws_eqMsg.f k bt914.1 bt914.2.1 bt914.2.2.1 bt914.2.2.2.1 bt914.2.2.2.2 bt931.1 bt931.2.1 bt931.2.2.1 bt931.2.2.2.1 bt931.2.2.2.2).bind fun t938 => (if t938 = true then (some true) else (some false)))) else (some false)))) else (some false)))))))))))) = some r := H
    have A14 := Aside0.mk A140
    clear A140
    replace H := Option.bind_eq_some_iff.mp H
    obtain ⟨t897, A150, H⟩ := H
    replace H : ((laws_toMsg.f k a2_0 a2_1 a2_2 a2_3 l2_4).bind fun bt900 => ((spec_KnowBuild.f k t894 t897 bt900.1 bt900.2.1 bt900.2.2.1 bt900.2.2.2.1 bt900.2.2.2.2).bind fun t907 => ((laws_toIntS.f k l0).bind fun t908 => ((laws_toSealS.f k l1).bind fun t911 => ((laws_toMsg.f k a2_0 a2_1 a2_2 a2_3 l2_4).bind fun bt914 => ((impl_KnowBuild.f t908 t911 bt914.1 bt914.2.1 bt914.2.2.1 bt914.2.2.2.1 bt914.2.2.2.2).bind fun t922 => (if (t922 != t907) = true then (some false) else ((laws_toIntS.f k l0).bind fun t923 => ((laws_eqIntS.f k t908 t923).bind fun t926 => (if t926 = true then ((laws_toSealS.f k l1).bind fun t927 => ((laws_eqSealS.f k t911 t927).bind fun t930 => (if t930 = true then ((laws_toMsg.f k a2_0 a2_1 a2_2 a2_3 l2_4).bind fun bt931 => ((laws_eqMsg.f k bt914.1 bt914.2.1 bt914.2.2.1 bt914.2.2.2.1 bt914.2.2.2.2 bt931.1 bt931.2.1 bt931.2.2.1 bt931.2.2.2.1 bt931.2.2.2.2).bind fun t938 => (if t938 = true then (some true) else (some false)))) else (some false)))) else (some false))))))))))) = some r := H
    have A15 := Aside0.mk A150
    clear A150
    replace H := Option.bind_eq_some_iff.mp H
    obtain ⟨⟨t900, t901, t902, t903, t904⟩, A160, H⟩ := H
    replace H : ((spec_KnowBuild.f k t894 t897 t900 t901 t902 t903 t904).bind fun t907 => ((laws_toIntS.f k l0).bind fun t908 => ((laws_toSealS.f k l1).bind fun t911 => ((laws_toMsg.f k a2_0 a2_1 a2_2 a2_3 l2_4).bind fun bt914 => ((impl_KnowBuild.f t908 t911 bt914.1 bt914.2.1 bt914.2.2.1 bt914.2.2.2.1 bt914.2.2.2.2).bind fun t922 => (if (t922 != t907) = true then (some false) else ((laws_toIntS.f k l0).bind fun t923 => ((laws_eqIntS.f k t908 t923).bind fun t926 => (if t926 = true then ((laws_toSealS.f k l1).bind fun t927 => ((laws_eqSealS.f k t911 t927).bind fun t930 => (if t930 = true then ((laws_toMsg.f k a2_0 a2_1 a2_2 a2_3 l2_4).bind fun bt931 => ((laws_eqMsg.f k bt914.1 bt914.2.1 bt914.2.2.1 bt914.2.2.2.1 bt914.2.2.2.2 bt931.1 bt931.2.1 bt931.2.2.1 bt931.2.2.2.1 bt931.2.2.2.2).bind fun t938 => (if t938 = true then (some true) else (some false)))) else (some false)))) else (some false)))))))))) = some r := H
    have A16 := Aside0.mk A160
    clear A160
    replace H := Option.bind_eq_some_iff.mp H
    obtain ⟨t907, A170, H⟩ := H
    replace H : ((laws_toIntS.f k l0).bind fun t908 => ((laws_toSealS.f k l1).bind fun t911 => ((laws_toMsg.f k a2_0 a2_1 a2_2 a2_3 l2_4).bind fun bt914 => ((impl_KnowBuild.f t908 t911 bt914.1 bt914.2.1 bt914.2.2.1 bt914.2.2.2.1 bt914.2.2.2.2).bind fun t922 => (if (t922 != t907) = true then (some false) else ((laws_toIntS.f k l0).bind fun t923 => ((laws_eqIntS.f k t908 t923).bind fun t926 => (if t926 = true then ((laws_toSealS.f k l1).bind fun t927 => ((laws_eqSealS.f k t911 t927).bind fun t930 => (if t930 = true then ((laws_toMsg.f k a2_0 a2_1 a2_2 a2_3 l2_4).bind fun bt931 => ((laws_eqMsg.f k bt914.1 bt914.2.1 bt914.2.2.1 bt914.2.2.2.1 bt914.2.2.2.2 bt931.1 bt931.2.1 bt931.2.2.1 bt931.2.2.2.1 bt931.2.2.2.2).bind fun t938 => (if t938 = true then (some true) else (some false)))) else (some false)))) else (some false))))))))) = some r := H
    have A17 := Aside0.mk A170
    clear A170
    replace H := Option.bind_eq_some_iff.mp H
    obtain ⟨t908, A180, H⟩ := H
    replace H : ((laws_toSealS.f k l1).bind fun t911 => ((laws_toMsg.f k a2_0 a2_1 a2_2 a2_3 l2_4).bind fun bt914 => ((impl_KnowBuild.f t908 t911 bt914.1 bt914.2.1 bt914.2.2.1 bt914.2.2.2.1 bt914.2.2.2.2).bind fun t922 => (if (t922 != t907) = true then (some false) else ((laws_toIntS.f k l0).bind fun t923 => ((laws_eqIntS.f k t908 t923).bind fun t926 => (if t926 = true then ((laws_toSealS.f k l1).bind fun t927 => ((laws_eqSealS.f k t911 t927).bind fun t930 => (if t930 = true then ((laws_toMsg.f k a2_0 a2_1 a2_2 a2_3 l2_4).bind fun bt931 => ((laws_eqMsg.f k bt914.1 bt914.2.1 bt914.2.2.1 bt914.2.2.2.1 bt914.2.2.2.2 bt931.1 bt931.2.1 bt931.2.2.1 bt931.2.2.2.1 bt931.2.2.2.2).bind fun t938 => (if t938 = true then (some true) else (some false)))) else (some false)))) else (some false)))))))) = some r := H
    have A18 := Aside0.mk A180
    clear A180
    replace H := Option.bind_eq_some_iff.mp H
    obtain ⟨t911, A190, H⟩ := H
    replace H : ((laws_toMsg.f k a2_0 a2_1 a2_2 a2_3 l2_4).bind fun bt914 => ((impl_KnowBuild.f t908 t911 bt914.1 bt914.2.1 bt914.2.2.1 bt914.2.2.2.1 bt914.2.2.2.2).bind fun t922 => (if (t922 != t907) = true then (some false) else ((laws_toIntS.f k l0).bind fun t923 => ((laws_eqIntS.f k t908 t923).bind fun t926 => (if t926 = true then ((laws_toSealS.f k l1).bind fun t927 => ((laws_eqSealS.f k t911 t927).bind fun t930 => (if t930 = true then ((laws_toMsg.f k a2_0 a2_1 a2_2 a2_3 l2_4).bind fun bt931 => ((laws_eqMsg.f k bt914.1 bt914.2.1 bt914.2.2.1 bt914.2.2.2.1 bt914.2.2.2.2 bt931.1 bt931.2.1 bt931.2.2.1 bt931.2.2.2.1 bt931.2.2.2.2).bind fun t938 => (if t938 = true then (some true) else (some false)))) else (some false)))) else (some false))))))) = some r := H
    have A19 := Aside0.mk A190
    clear A190
    replace H := Option.bind_eq_some_iff.mp H
    obtain ⟨⟨t914, t915, t916, t917, t918⟩, A200, H⟩ := H
    replace H : ((impl_KnowBuild.f t908 t911 t914 t915 t916 t917 t918).bind fun t922 => (if (t922 != t907) = true then (some false) else ((laws_toIntS.f k l0).bind fun t923 => ((laws_eqIntS.f k t908 t923).bind fun t926 => (if t926 = true then ((laws_toSealS.f k l1).bind fun t927 => ((laws_eqSealS.f k t911 t927).bind fun t930 => (if t930 = true then ((laws_toMsg.f k a2_0 a2_1 a2_2 a2_3 l2_4).bind fun bt931 => ((laws_eqMsg.f k t914 t915 t916 t917 t918 bt931.1 bt931.2.1 bt931.2.2.1 bt931.2.2.2.1 bt931.2.2.2.2).bind fun t938 => (if t938 = true then (some true) else (some false)))) else (some false)))) else (some false)))))) = some r := H
    have A20 := Aside0.mk A200
    clear A200
    replace H := Option.bind_eq_some_iff.mp H
    obtain ⟨t922, A210, H⟩ := H
    replace H : (if (t922 != t907) = true then (some false) else ((laws_toIntS.f k l0).bind fun t923 => ((laws_eqIntS.f k t908 t923).bind fun t926 => (if t926 = true then ((laws_toSealS.f k l1).bind fun t927 => ((laws_eqSealS.f k t911 t927).bind fun t930 => (if t930 = true then ((laws_toMsg.f k a2_0 a2_1 a2_2 a2_3 l2_4).bind fun bt931 => ((laws_eqMsg.f k t914 t915 t916 t917 t918 bt931.1 bt931.2.1 bt931.2.2.1 bt931.2.2.2.1 bt931.2.2.2.2).bind fun t938 => (if t938 = true then (some true) else (some false)))) else (some false)))) else (some false))))) = some r := H
    have A21 := Aside0.mk A210
    clear A210
    by_cases c22 : (t922 != t907) = true
    ·rw [if_pos c22] at H
     have c22b0 : (t922 != t907) = true := c22
     (try (have c22b1 : decide (t922 = t907) = false := by simpa using c22))
     (try (have c22b2 : (t922 == t907) = false := by simpa using c22))
     (try (have c22b3 : ¬ (t922 = t907) := by simpa using c22))
     clear c22
     obtain rfl := Option.some.inj H
     go_enter Try.func17, Try.ntmps17
     try go_wp2_with (first | ((with_reducible refine gate_dst (N := 5) rfl ?_); refine box_event ?hg (N := 5) ?hd (cs := #[.int .i64 a2_0, .int .i64 a2_1, .int .i64 a2_2, .int .i64 a2_3, .slice A2_4 l2_4.length c2_4]) (t := 31) ?hr ?_; (case hd => rfl); (case hg => rfl); (case hr => first | (go_simp; done) | (go_simp; rfl)); intro gb891 hg w23 hbox hb; have n0_ := Aside0.mk (below_step z61x24 hb); have n1_ := Aside0.mk (hbox); have n2_ := Aside0.mk ((z61x22 : w.heap.size ≤ gb891)); have n3_ := Aside0.mk ((z61x22 : w.heap.size ≤ gb891)); clear HB; have HB := n0_; have BK891 := n1_; have GW891 := n2_; have GE891 := n3_; clear n0_ n1_ n2_ n3_; clear hb hbox hg) | ((with_reducible refine gate_callee (f := 42) rfl ?_); refine goesL_ (some 18) rfl rfl Try.func42 (by kernel_rfl) rfl #[.slice A1 l1.length c1, .int .i64 1048576] rfl z61x23 ?_; (with_reducible refine (laws_szSealS.calls _ _ l1 1048576 t892 _ ?side1 ?side2 A6.out).mono ?_); (case side1 => repeat (first | exact (Kd.C_below HR1.out HB.out) | (with_reducible refine Kd.C_alloc ?_ _) | (with_reducible refine Kd.C_drewN ?_ _) | (with_reducible refine Kd.C_drew ?_))); (case side2 => exact HC1.out); rintro e w' ⟨rfl, ⟨nd, rfl⟩⟩; refine ⟨_, rfl, ?_⟩; (try (rw [drewN_self w23]; generalize hq_ : World.drewN w23 _ = w23; have n0_ : Aside0 (w23.heap[gb891]? = some (.cells #[.int .i64 a2_0, .int .i64 a2_1, .int .i64 a2_2, .int .i64 a2_3, .slice A2_4 l2_4.length c2_4] 31 (0, 0))) := ⟨by rw [← hq_]; exact z61x25⟩; have n1_ : Aside0 (Below w.heap.size w w23) := ⟨by rw [← hq_]; exact z61x21⟩; clear BK891 HB hq_; have BK891 := n0_; have HB := n1_; clear n0_ n1_)); have hcz24_0 : w23.cell? ⟨gb891, 0, none⟩ = some (.int .i64 a2_0) := (blk_cell BK891.out 0).trans rfl; have hcz24_1 : w23.cell? ⟨gb891, 1, none⟩ = some (.int .i64 a2_1) := (blk_cell BK891.out 1).trans rfl; have hcz24_2 : w23.cell? ⟨gb891, 2, none⟩ = some (.int .i64 a2_2) := (blk_cell BK891.out 2).trans rfl; have hcz24_3 : w23.cell? ⟨gb891, 3, none⟩ = some (.int .i64 a2_3) := (blk_cell BK891.out 3).trans rfl; have hcz24_4 : w23.cell? ⟨gb891, 4, none⟩ = some (.slice A2_4 l2_4.length c2_4) := (blk_cell BK891.out 4).trans rfl; have hfz24_0 := blk_frozen BK891.out 0; have hfz24_1 := blk_frozen BK891.out 1; have hfz24_2 := blk_frozen BK891.out 2; have hfz24_3 := blk_frozen BK891.out 3; have hfz24_4 := blk_frozen BK891.out 4) | ((with_reducible refine gate_callee (f := 26) rfl ?_); refine goesL_ (some 23) rfl rfl Try.func26 (by kernel_rfl) rfl #[.agg #[.int .i64 a2_0, .int .i64 a2_1, .int .i64 a2_2, .int .i64 a2_3, .slice A2_4 l2_4.length c2_4], .int .i64 t892] rfl z61x23 ?_; (with_reducible refine (laws_szMsg.calls a2_0 a2_1 a2_2 a2_3 _ _ l2_4 t892 t893 _ ?side1 ?side2 A9.out).mono ?_); (case side1 => repeat (first | exact (Kd.C_below HR2_4.out HB.out) | (with_reducible refine Kd.C_alloc ?_ _) | (with_reducible refine Kd.C_drewN ?_ _) | (with_reducible refine Kd.C_drew ?_))); (case side2 => exact HC2_4.out); rintro e w25 ⟨rfl, hb⟩; refine ⟨_, rfl, ?_⟩; have n0_ := Aside0.mk (blk_below (g := gb891) (o := .cells #[.int .i64 a2_0, .int .i64 a2_1, .int .i64 a2_2, .int .i64 a2_3, .slice A2_4 l2_4.length c2_4] 31 (0, 0)) z61x25 hb); have n1_ := Aside0.mk (below_step z61x21 hb); clear BK891; clear HB; have BK891 := n0_; have HB := n1_; clear n0_ n1_; (try clear hb); (try clear hb2); (try clear hk); (try clear hi)))
     have n0_ := Aside0.mk (blk_drew BK891.out)
     have n1_ := Aside0.mk (below_drew1 HB.out)
     clear BK891
     clear HB
     have BK891 := n0_
     have HB := n1_
     clear n0_ n1_
     refine start_ (n := 8) (S := fun w' => w'.cell? ⟨gb891, 0, none⟩ = some (.int .i64 a2_0) ∧ w'.cell? ⟨gb891, 1, none⟩ = some (.int .i64 a2_1) ∧ w'.cell? ⟨gb891, 2, none⟩ = some (.int .i64 a2_2) ∧ w'.cell? ⟨gb891, 3, none⟩ = some (.int .i64 a2_3) ∧ w'.cell? ⟨gb891, 4, none⟩ = some (.slice A2_4 l2_4.length c2_4)) (ds := []) #[false, false, false, false, false, false, false, false] (by kernel_rfl) rfl rfl ⟨(blk_cell BK891.out 0).trans rfl, (blk_cell BK891.out 1).trans rfl, (blk_cell BK891.out 2).trans rfl, (blk_cell BK891.out 3).trans rfl, (blk_cell BK891.out 4).trans rfl⟩ (fun hHeld => ?_); refine with_tabW laws_FnExactKnowBuild.tab10 laws_FnExactKnowBuild.bits10 (fun HT_ HW_ => ?_)
     generalize w25.drew = w26 at BK891 HB hHeld ⊢
     refine pure_ (i := 0) (N := some 26) (v := ?_) (a' := ?_) #[true, false, false, false, false, false, false, false] rfl rfl (any_of HT_.out (by kernel_rfl)) (fun _ _ _ h => h) (Or.inl ⟨by rfl, ?_⟩) ?_ ?_
     rotate_left
     ·intro w'
      go_simp
      with_reducible rfl
     rotate_left
     ·simp only [Act.put, List.setIfInBounds_toArray, List.set_cons_zero, List.set_cons_succ, i64_w, i32_w]
      rfl
     refine pure_ (i := 2) (N := some 28) (v := ?_) (a' := ?_) #[true, false, true, false, false, false, false, false] rfl rfl (any_of HT_.out (by kernel_rfl)) (fun _ _ _ h => h) (Or.inl ⟨by rfl, ?_⟩) ?_ ?_
     rotate_left
     ·intro w'
      go_simp
      with_reducible rfl
     rotate_left
     ·simp only [Act.put, List.setIfInBounds_toArray, List.set_cons_zero, List.set_cons_succ, i64_w, i32_w]
      rfl
     refine take_ (i := 4) (N := some 30) (v := ?_) (a' := ?_) #[true, false, true, false, true, false, false, false] rfl rfl (take_ofW HT_.out HW_.out (by kernel_rfl)) (fun _ _ _ h => h) (Or.inl ⟨by rfl, ?_⟩) hHeld ?_ ?_
     rotate_left
     ·rintro w' ⟨s0, s1, s2, s3, s4⟩
      go_simp
      with_reducible rfl
     rotate_left
     ·simp only [Act.put, List.setIfInBounds_toArray, List.set_cons_zero, List.set_cons_succ, i64_w, i32_w]
      rfl
     refine one_ (i := 1) (N := some 27) #[true, true, true, false, true, false, false, false] rfl rfl (one_of HT_.out (by kernel_rfl)) (by decide) (fun K hK => ?_)
     refine goes_ Try.func43 (by kernel_rfl) rfl #[.slice A0 l0.length c0] (by rfl) rfl rfl z61x23 ?_
     with_reducible refine (laws_toIntS.calls k _ _ l0 t894 _ ?side1 ?side2 A14.out).mono ?_
     (case side1 => repeat (first | exact (Kd.C_below HR0.out HB.out) | (with_reducible refine Kd.C_alloc ?_ _) | (with_reducible refine Kd.C_drewN ?_ _) | (with_reducible refine Kd.C_drew ?_)))
     (case side2 => exact HC0.out)
     rintro e w27 ⟨v895, rfl, ho0, hb⟩
     refine ⟨_, rfl, ?_⟩
     have n0_ := Aside0.mk (Kd.R_lower ho0 (below_size z61x21))
     have n1_ := Aside0.mk (blk_below (g := gb891) (o := .cells #[.int .i64 a2_0, .int .i64 a2_1, .int .i64 a2_2, .int .i64 a2_3, .slice A2_4 l2_4.length c2_4] 31 (0, 0)) z61x25 hb)
     have n2_ := Aside0.mk (below_step z61x21 hb)
     clear BK891
     clear HB
     have HO896 := n0_
     have BK891 := n1_
     have HB := n2_
     clear n0_ n1_ n2_
     (try clear hb)
     (try clear hb2)
     (try clear hk)
     (try clear hi)
     (try clear ho0)
     refine hK.out _ _ ⟨(blk_cell BK891.out 0).trans rfl, (blk_cell BK891.out 1).trans rfl, (blk_cell BK891.out 2).trans rfl, (blk_cell BK891.out 3).trans rfl, (blk_cell BK891.out 4).trans rfl⟩ (fun hHeld => ?_)
     clear hK K
     refine norm_ (a' := ?_) ?_ ?_
     rotate_left
     ·show Act.put _ (some 27) _ = _
      simp only [Act.put, List.setIfInBounds_toArray, List.set_cons_zero, List.set_cons_succ, i64_w, i32_w]
      rfl
     refine one_ (i := 3) (N := some 29) #[true, true, true, true, true, false, false, false] rfl rfl (one_of HT_.out (by kernel_rfl)) (by decide) (fun K hK => ?_)
     refine goes_ Try.func44 (by kernel_rfl) rfl #[.slice A1 l1.length c1] (by rfl) rfl rfl z61x23 ?_
     with_reducible refine (laws_toSealS.calls k _ _ l1 t897 _ ?side1 ?side2 A15.out).mono ?_
     (case side1 => repeat (first | exact (Kd.C_below HR1.out HB.out) | (with_reducible refine Kd.C_alloc ?_ _) | (with_reducible refine Kd.C_drewN ?_ _) | (with_reducible refine Kd.C_drew ?_)))
     (case side2 => exact HC1.out)
     rintro e w28 ⟨v898, rfl, ho0, hb⟩
     refine ⟨_, rfl, ?_⟩
     have n0_ := Aside0.mk (Kd.R_below z61x27 hb)
     have n1_ := Aside0.mk (Kd.R_lower ho0 (below_size z61x21))
     have n2_ := Aside0.mk (blk_below (g := gb891) (o := .cells #[.int .i64 a2_0, .int .i64 a2_1, .int .i64 a2_2, .int .i64 a2_3, .slice A2_4 l2_4.length c2_4] 31 (0, 0)) z61x25 hb)
     have n3_ := Aside0.mk (below_step z61x21 hb)
     clear HO896
     clear BK891
     clear HB
     have HO896 := n0_
     have HO899 := n1_
     have BK891 := n2_
     have HB := n3_
     clear n0_ n1_ n2_ n3_
     (try clear hb)
     (try clear hb2)
     (try clear hk)
     (try clear hi)
     (try clear ho0)
     refine hK.out _ _ ⟨(blk_cell BK891.out 0).trans rfl, (blk_cell BK891.out 1).trans rfl, (blk_cell BK891.out 2).trans rfl, (blk_cell BK891.out 3).trans rfl, (blk_cell BK891.out 4).trans rfl⟩ (fun hHeld => ?_)
     clear hK K
     refine norm_ (a' := ?_) ?_ ?_
     rotate_left
     ·show Act.put _ (some 29) _ = _
      simp only [Act.put, List.setIfInBounds_toArray, List.set_cons_zero, List.set_cons_succ, i64_w, i32_w]
      rfl
     refine one_ (i := 5) (N := some 31) #[true, true, true, true, true, true, false, false] rfl rfl (one_of HT_.out (by kernel_rfl)) (by decide) (fun K hK => ?_)
     refine goes_ Try.func28 (by kernel_rfl) rfl #[.agg #[.int .i64 a2_0, .int .i64 a2_1, .int .i64 a2_2, .int .i64 a2_3, .slice A2_4 l2_4.length c2_4]] (by rfl) rfl rfl z61x23 ?_
     with_reducible refine (laws_toMsg.calls k a2_0 a2_1 a2_2 a2_3 _ _ l2_4 t900 t901 t902 t903 t904 _ ?side1 ?side2 A16.out).mono ?_
     (case side1 => repeat (first | exact (Kd.C_below HR2_4.out HB.out) | (with_reducible refine Kd.C_alloc ?_ _) | (with_reducible refine Kd.C_drewN ?_ _) | (with_reducible refine Kd.C_drew ?_)))
     (case side2 => exact HC2_4.out)
     rintro e w29 ⟨v905, rfl, ho0, hb⟩
     refine ⟨_, rfl, ?_⟩
     have n0_ := Aside0.mk (Kd.R_below z61x27 hb)
     have n1_ := Aside0.mk (Kd.R_elder' z61x28 (Kd.R_base ho0) hb)
     have n2_ := Aside0.mk (Kd.R_lower (Kd.R_new' ho0 (Kd.R_lt z61x28)) (below_size z61x21))
     have n3_ := Aside0.mk (blk_below (g := gb891) (o := .cells #[.int .i64 a2_0, .int .i64 a2_1, .int .i64 a2_2, .int .i64 a2_3, .slice A2_4 l2_4.length c2_4] 31 (0, 0)) z61x25 hb)
     have n4_ := Aside0.mk (below_step z61x21 hb)
     clear HO896
     clear HO899
     clear BK891
     clear HB
     have HO896 := n0_
     have HO899 := n1_
     have HO906 := n2_
     have BK891 := n3_
     have HB := n4_
     clear n0_ n1_ n2_ n3_ n4_
     (try clear hb)
     (try clear hb2)
     (try clear hk)
     (try clear hi)
     (try clear ho0)
     obtain ⟨Ao30, co30, eo30⟩ := Kd.R_slice HO896.out
     (first | subst eo30 | (injection eo30 with f1_ f2_ f3_; have f4_ := f1_.symm; have f5_ := f3_.symm; clear f1_ f2_ f3_; subst f4_; subst f5_))
     obtain ⟨Ao31, co31, eo31⟩ := Kd.R_slice HO899.out
     (first | subst eo31 | (injection eo31 with f1_ f2_ f3_; have f4_ := f1_.symm; have f5_ := f3_.symm; clear f1_ f2_ f3_; subst f4_; subst f5_))
     obtain ⟨Ao32, co32, eo32⟩ := Kd.R_slice HO906.out
     (first | subst eo32 | (injection eo32 with f1_ f2_ f3_; have f4_ := f1_.symm; have f5_ := f3_.symm; clear f1_ f2_ f3_; subst f4_; subst f5_))
     refine hK.out _ _ ⟨(blk_cell BK891.out 0).trans rfl, (blk_cell BK891.out 1).trans rfl, (blk_cell BK891.out 2).trans rfl, (blk_cell BK891.out 3).trans rfl, (blk_cell BK891.out 4).trans rfl⟩ (fun hHeld => ?_)
     clear hK K
     refine norm_ (a' := ?_) ?_ ?_
     rotate_left
     ·show Act.put _ (some 31) _ = _
      simp only [Act.put, List.setIfInBounds_toArray, List.set_cons_zero, List.set_cons_succ, i64_w, i32_w]
      rfl
     refine one_ (i := 6) (N := some 32) #[true, true, true, true, true, true, true, false] rfl rfl (one_of HT_.out (by kernel_rfl)) (by decide) (fun K hK => ?_)
     refine goes_ Try.func51 (by kernel_rfl) rfl #[.slice Ao30 t894.length co30, .slice Ao31 t897.length co31, .agg #[.int .i64 t900, .int .i64 t901, .int .i64 t902, .int .i64 t903, .slice Ao32 t904.length co32]] (by rfl) rfl rfl z61x23 ?_
     with_reducible refine (spec_KnowBuild.calls k _ _ t894 _ _ t897 t900 t901 t902 t903 _ _ t904 t907 _ ?side1 ?side2 ?side3 ?side4 ?side5 ?side6 A17.out).mono ?_
     (case side1 => repeat (first | exact (Kd.R_reads' HO896.out).2.2 | (with_reducible refine Kd.C_alloc ?_ _) | (with_reducible refine Kd.C_drewN ?_ _) | (with_reducible refine Kd.C_drew ?_)))
     (case side2 => exact (Kd.R_reads' HO896.out).2.1)
     (case side3 => repeat (first | exact (Kd.R_reads' HO899.out).2.2 | (with_reducible refine Kd.C_alloc ?_ _) | (with_reducible refine Kd.C_drewN ?_ _) | (with_reducible refine Kd.C_drew ?_)))
     (case side4 => exact (Kd.R_reads' HO899.out).2.1)
     (case side5 => repeat (first | exact (Kd.R_reads' HO906.out).2.2 | (with_reducible refine Kd.C_alloc ?_ _) | (with_reducible refine Kd.C_drewN ?_ _) | (with_reducible refine Kd.C_drew ?_)))
     (case side6 => exact (Kd.R_reads' HO906.out).2.1)
     rintro e w33 ⟨rfl, hb⟩
     refine ⟨_, rfl, ?_⟩
     have n0_ := Aside0.mk (Kd.R_below z61x27 hb)
     have n1_ := Aside0.mk (Kd.R_below z61x28 hb)
     have n2_ := Aside0.mk (Kd.R_below z61x29 hb)
     have n3_ := Aside0.mk (blk_below (g := gb891) (o := .cells #[.int .i64 a2_0, .int .i64 a2_1, .int .i64 a2_2, .int .i64 a2_3, .slice A2_4 l2_4.length c2_4] 31 (0, 0)) z61x25 hb)
     have n4_ := Aside0.mk (below_step z61x21 hb)
     clear HO896
     clear HO899
     clear HO906
     clear BK891
     clear HB
     have HO896 := n0_
     have HO899 := n1_
     have HO906 := n2_
     have BK891 := n3_
     have HB := n4_
     clear n0_ n1_ n2_ n3_ n4_
     (try clear hb)
     (try clear hb2)
     (try clear hk)
     (try clear hi)
     refine hK.out _ _ ⟨(blk_cell BK891.out 0).trans rfl, (blk_cell BK891.out 1).trans rfl, (blk_cell BK891.out 2).trans rfl, (blk_cell BK891.out 3).trans rfl, (blk_cell BK891.out 4).trans rfl⟩ (fun hHeld => ?_)
     clear hK K
     refine norm_ (a' := ?_) ?_ ?_
     rotate_left
     ·show Act.put _ (some 32) _ = _
      simp only [Act.put, List.setIfInBounds_toArray, List.set_cons_zero, List.set_cons_succ, i64_w, i32_w]
      rfl
     refine pure_ (i := 7) (N := some 8) (v := ?_) (a' := ?_) #[true, true, true, true, true, true, true, true] rfl rfl (any_of HT_.out (by kernel_rfl)) (fun _ _ _ h => h) (Or.inl ⟨by rfl, ?_⟩) ?_ ?_
     rotate_left
     ·intro w'
      go_simp
      with_reducible rfl
     rotate_left
     ·simp only [Act.put, List.setIfInBounds_toArray, List.set_cons_zero, List.set_cons_succ, i64_w, i32_w]
      rfl
     refine done_ (done_of HT_.out (by kernel_rfl)) ?_
     try go_wp2_with (first | ((with_reducible refine gate_callee (f := 43) rfl ?_); refine goesL_ (some 34) rfl rfl Try.func43 (by kernel_rfl) rfl #[.slice A0 l0.length c0] rfl z61x23 ?_; (with_reducible refine (laws_toIntS.calls k _ _ l0 t908 _ ?side1 ?side2 A18.out).mono ?_); (case side1 => repeat (first | exact (Kd.C_below HR0.out HB.out) | (with_reducible refine Kd.C_alloc ?_ _) | (with_reducible refine Kd.C_drewN ?_ _) | (with_reducible refine Kd.C_drew ?_))); (case side2 => exact HC0.out); rintro e w34 ⟨v909, rfl, ho0, hb⟩; refine ⟨_, rfl, ?_⟩; have n0_ := Aside0.mk (Kd.R_elder' z61x27 (Kd.R_base ho0) hb); have n1_ := Aside0.mk (Kd.R_below z61x28 hb); have n2_ := Aside0.mk (Kd.R_below z61x29 hb); have n3_ := Aside0.mk (Kd.R_lower (Kd.R_new' ho0 (Kd.R_lt z61x27)) (below_size z61x21)); have n4_ := Aside0.mk (blk_below (g := gb891) (o := .cells #[.int .i64 a2_0, .int .i64 a2_1, .int .i64 a2_2, .int .i64 a2_3, .slice A2_4 l2_4.length c2_4] 31 (0, 0)) z61x25 hb); have n5_ := Aside0.mk (below_step z61x21 hb); clear HO896; clear HO899; clear HO906; clear BK891; clear HB; have HO896 := n0_; have HO899 := n1_; have HO906 := n2_; have HO910 := n3_; have BK891 := n4_; have HB := n5_; clear n0_ n1_ n2_ n3_ n4_ n5_; (try clear hb); (try clear hb2); (try clear hk); (try clear hi); (try clear ho0)) | ((with_reducible refine gate_callee (f := 44) rfl ?_); refine goesL_ (some 36) rfl rfl Try.func44 (by kernel_rfl) rfl #[.slice A1 l1.length c1] rfl z61x23 ?_; (with_reducible refine (laws_toSealS.calls k _ _ l1 t911 _ ?side1 ?side2 A19.out).mono ?_); (case side1 => repeat (first | exact (Kd.C_below HR1.out HB.out) | (with_reducible refine Kd.C_alloc ?_ _) | (with_reducible refine Kd.C_drewN ?_ _) | (with_reducible refine Kd.C_drew ?_))); (case side2 => exact HC1.out); rintro e w35 ⟨v912, rfl, ho0, hb⟩; refine ⟨_, rfl, ?_⟩; have n0_ := Aside0.mk (Kd.R_below z61x27 hb); have n1_ := Aside0.mk (Kd.R_elder' z61x28 (Kd.R_base ho0) hb); have n2_ := Aside0.mk (Kd.R_elder' z61x29 (Kd.R_base ho0) hb); have n3_ := Aside0.mk (Kd.R_below z61x30 hb); have n4_ := Aside0.mk (Kd.R_lower (Kd.R_new' (Kd.R_new' ho0 (Kd.R_lt z61x28)) (Kd.R_lt z61x29)) (below_size z61x21)); have n5_ := Aside0.mk (blk_below (g := gb891) (o := .cells #[.int .i64 a2_0, .int .i64 a2_1, .int .i64 a2_2, .int .i64 a2_3, .slice A2_4 l2_4.length c2_4] 31 (0, 0)) z61x25 hb); have n6_ := Aside0.mk (below_step z61x21 hb); clear HO896; clear HO899; clear HO906; clear HO910; clear BK891; clear HB; have HO896 := n0_; have HO899 := n1_; have HO906 := n2_; have HO910 := n3_; have HO913 := n4_; have BK891 := n5_; have HB := n6_; clear n0_ n1_ n2_ n3_ n4_ n5_ n6_; (try clear hb); (try clear hb2); (try clear hk); (try clear hi); (try clear ho0); have hcz36_0 : w35.cell? ⟨gb891, 0, none⟩ = some (.int .i64 a2_0) := (blk_cell BK891.out 0).trans rfl; have hcz36_1 : w35.cell? ⟨gb891, 1, none⟩ = some (.int .i64 a2_1) := (blk_cell BK891.out 1).trans rfl; have hcz36_2 : w35.cell? ⟨gb891, 2, none⟩ = some (.int .i64 a2_2) := (blk_cell BK891.out 2).trans rfl; have hcz36_3 : w35.cell? ⟨gb891, 3, none⟩ = some (.int .i64 a2_3) := (blk_cell BK891.out 3).trans rfl; have hcz36_4 : w35.cell? ⟨gb891, 4, none⟩ = some (.slice A2_4 l2_4.length c2_4) := (blk_cell BK891.out 4).trans rfl; have hfz36_0 := blk_frozen BK891.out 0; have hfz36_1 := blk_frozen BK891.out 1; have hfz36_2 := blk_frozen BK891.out 2; have hfz36_3 := blk_frozen BK891.out 3; have hfz36_4 := blk_frozen BK891.out 4) | ((with_reducible refine gate_callee (f := 28) rfl ?_); refine goesL_ (some 38) rfl rfl Try.func28 (by kernel_rfl) rfl #[.agg #[.int .i64 a2_0, .int .i64 a2_1, .int .i64 a2_2, .int .i64 a2_3, .slice A2_4 l2_4.length c2_4]] rfl z61x23 ?_; (with_reducible refine (laws_toMsg.calls k a2_0 a2_1 a2_2 a2_3 _ _ l2_4 t914 t915 t916 t917 t918 _ ?side1 ?side2 A20.out).mono ?_); (case side1 => repeat (first | exact (Kd.C_below HR2_4.out HB.out) | (with_reducible refine Kd.C_alloc ?_ _) | (with_reducible refine Kd.C_drewN ?_ _) | (with_reducible refine Kd.C_drew ?_))); (case side2 => exact HC2_4.out); rintro e w37 ⟨v919, rfl, ho0, hb⟩; refine ⟨_, rfl, ?_⟩; have n0_ := Aside0.mk (Kd.R_below z61x27 hb); have n1_ := Aside0.mk (Kd.R_elder' z61x28 (Kd.R_base ho0) hb); have n2_ := Aside0.mk (Kd.R_elder' z61x29 (Kd.R_base ho0) hb); have n3_ := Aside0.mk (Kd.R_below z61x30 hb); have n4_ := Aside0.mk (Kd.R_elder' z61x31 (Kd.R_base ho0) hb); have n5_ := Aside0.mk (Kd.R_lower (Kd.R_new' (Kd.R_new' (Kd.R_new' ho0 (Kd.R_lt z61x28)) (Kd.R_lt z61x29)) (Kd.R_lt z61x31)) (below_size z61x21)); have n6_ := Aside0.mk (blk_below (g := gb891) (o := .cells #[.int .i64 a2_0, .int .i64 a2_1, .int .i64 a2_2, .int .i64 a2_3, .slice A2_4 l2_4.length c2_4] 31 (0, 0)) z61x25 hb); have n7_ := Aside0.mk (below_step z61x21 hb); clear HO896; clear HO899; clear HO906; clear HO910; clear HO913; clear BK891; clear HB; have HO896 := n0_; have HO899 := n1_; have HO906 := n2_; have HO910 := n3_; have HO913 := n4_; have HO920 := n5_; have BK891 := n6_; have HB := n7_; clear n0_ n1_ n2_ n3_ n4_ n5_ n6_ n7_; (try clear hb); (try clear hb2); (try clear hk); (try clear hi); (try clear ho0)) | ((with_reducible refine gate_dst (N := 11) rfl ?_); refine box_event ?hg (N := 11) ?hd (cs := #[.int .i64 0, .int .i64 0, .int .i64 0, .int .i64 0, .slice none 0 0]) (t := 36) ?hr ?_; (case hd => rfl); (case hg => rfl); (case hr => first | (go_simp; done) | (go_simp; rfl)); intro gb921 hg w38 hbox hb; have n0_ := Aside0.mk (Kd.R_below z61x27 hb); have n1_ := Aside0.mk (Kd.R_below z61x28 hb); have n2_ := Aside0.mk (Kd.R_below z61x29 hb); have n3_ := Aside0.mk (Kd.R_below z61x30 hb); have n4_ := Aside0.mk (Kd.R_below z61x31 hb); have n5_ := Aside0.mk (Kd.R_below z61x32 hb); have n6_ := Aside0.mk (blk_below (g := gb891) (o := .cells #[.int .i64 a2_0, .int .i64 a2_1, .int .i64 a2_2, .int .i64 a2_3, .slice A2_4 l2_4.length c2_4] 31 (0, 0)) z61x25 hb); have n7_ := Aside0.mk (below_step z61x21 hb); have n8_ := Aside0.mk (hbox); have n9_ := Aside0.mk ((z61x20 : w.heap.size ≤ gb921)); have n10_ := Aside0.mk ((z61x20 : w.heap.size ≤ gb921)); have n11_ := Aside0.mk ((z61x18 : gb891 ≠ gb921)); have n12_ := Aside0.mk ((z61x17 : gb921 ≠ gb891)); clear HO896; clear HO899; clear HO906; clear HO910; clear HO913; clear HO920; clear BK891; clear HB; have HO896 := n0_; have HO899 := n1_; have HO906 := n2_; have HO910 := n3_; have HO913 := n4_; have HO920 := n5_; have BK891 := n6_; have HB := n7_; have BK921 := n8_; have GW921 := n9_; have GE921 := n10_; have NB891_921 := n11_; have NB921_891 := n12_; clear n0_ n1_ n2_ n3_ n4_ n5_ n6_ n7_ n8_ n9_ n10_ n11_ n12_; clear hb hbox hg; have hnb39 := NB921_891.out; have hnc39 := NB891_921.out; have hcz40_0 : w38.cell? ⟨gb921, 0, none⟩ = some (.int .i64 0) := (blk_cell BK921.out 0).trans rfl; have hcz40_1 : w38.cell? ⟨gb921, 1, none⟩ = some (.int .i64 0) := (blk_cell BK921.out 1).trans rfl; have hcz40_2 : w38.cell? ⟨gb921, 2, none⟩ = some (.int .i64 0) := (blk_cell BK921.out 2).trans rfl; have hcz40_3 : w38.cell? ⟨gb921, 3, none⟩ = some (.int .i64 0) := (blk_cell BK921.out 3).trans rfl; have hcz40_4 : w38.cell? ⟨gb921, 4, none⟩ = some (.slice none 0 0) := (blk_cell BK921.out 4).trans rfl; have hfz40_0 := blk_frozen BK921.out 0; have hfz40_1 := blk_frozen BK921.out 1; have hfz40_2 := blk_frozen BK921.out 2; have hfz40_3 := blk_frozen BK921.out 3; have hfz40_4 := blk_frozen BK921.out 4; obtain ⟨Ao41, co41, eo41⟩ := Kd.R_slice HO920.out; subst eo41; obtain ⟨Ao42, co42, eo42⟩ := Kd.R_slice HO910.out; subst eo42; obtain ⟨Ao43, co43, eo43⟩ := Kd.R_slice HO913.out; subst eo43) | ((with_reducible refine gate_callee (f := 52) rfl ?_); refine goesL_ (some 42) rfl rfl Try.func52 (by kernel_rfl) rfl #[.slice Ao42 t908.length co42, .slice Ao43 t911.length co43, .agg #[.int .i64 t914, .int .i64 t915, .int .i64 t916, .int .i64 t917, .slice Ao41 t918.length co41]] rfl z61x23 ?_; (with_reducible refine (impl_KnowBuild.calls _ _ t908 _ _ t911 t914 t915 t916 t917 _ _ t918 t922 _ ?side1 ?side2 ?side3 ?side4 ?side5 ?side6 A21.out).mono ?_); (case side1 => refine (Kd.R_reads' (e := 3) (base := w.heap.size) (ok := fun k_ => (True ∧ some k_ ≠ (.slice Ao30 t894.length co30 : Value).ownBlock)) (n := t908.length) (c := co42) ?_).2.2; exact z61x11); (case side2 => exact (Kd.R_reads' HO910.out).2.1); (case side3 => refine (Kd.R_reads' (e := 24) (base := w.heap.size) (ok := fun k_ => (((True ∧ some k_ ≠ (.slice Ao31 t897.length co31 : Value).ownBlock) ∧ some k_ ≠ (.slice Ao32 t904.length co32 : Value).ownBlock) ∧ some k_ ≠ (.slice Ao41 t918.length co41 : Value).ownBlock)) (n := t911.length) (c := co43) ?_).2.2; exact z61x13); (case side4 => exact (Kd.R_reads' HO913.out).2.1); (case side5 => refine (Kd.R_reads' (e := 24) (base := w.heap.size) (ok := fun k_ => (((True ∧ some k_ ≠ (.slice Ao31 t897.length co31 : Value).ownBlock) ∧ some k_ ≠ (.slice Ao32 t904.length co32 : Value).ownBlock) ∧ some k_ ≠ (.slice Ao43 t911.length co43 : Value).ownBlock)) (n := t918.length) (c := co41) ?_).2.2; exact z61x15); (case side6 => exact (Kd.R_reads' HO920.out).2.1); rintro e w44 ⟨rfl, hb⟩; refine ⟨_, rfl, ?_⟩; have n0_ := Aside0.mk (Kd.R_below (by (with_reducible repeat (first | apply Kd.R_alloc | apply Kd.R_drewN | apply Kd.R_drew)); exact (Kd.R_mono (Kd.R_far (p := ⟨gb921, 4, none⟩) (Kd.R_far (p := ⟨gb921, 3, none⟩) (Kd.R_far (p := ⟨gb921, 2, none⟩) (Kd.R_far (p := ⟨gb921, 1, none⟩) (Kd.R_far (p := ⟨gb921, 0, none⟩) (Kd.R_types HO896.out BK921.out (by decide)) (fun _ hk => hk.2) (.int .i64 t914)) (fun _ hk => hk.2) (.int .i64 t915)) (fun _ hk => hk.2) (.int .i64 t916)) (fun _ hk => hk.2) (.int .i64 t917)) (fun _ hk => hk.2) (.slice Ao41 t918.length co41)) (fun _ h_ => h_.1))) hb); have n1_ := Aside0.mk (Kd.R_below (by (with_reducible repeat (first | apply Kd.R_alloc | apply Kd.R_drewN | apply Kd.R_drew)); exact (Kd.R_mono (Kd.R_far (p := ⟨gb921, 4, none⟩) (Kd.R_far (p := ⟨gb921, 3, none⟩) (Kd.R_far (p := ⟨gb921, 2, none⟩) (Kd.R_far (p := ⟨gb921, 1, none⟩) (Kd.R_far (p := ⟨gb921, 0, none⟩) (Kd.R_types HO899.out BK921.out (by decide)) (fun _ hk => hk.2) (.int .i64 t914)) (fun _ hk => hk.2) (.int .i64 t915)) (fun _ hk => hk.2) (.int .i64 t916)) (fun _ hk => hk.2) (.int .i64 t917)) (fun _ hk => hk.2) (.slice Ao41 t918.length co41)) (fun _ h_ => h_.1))) hb); have n2_ := Aside0.mk (Kd.R_below (by (with_reducible repeat (first | apply Kd.R_alloc | apply Kd.R_drewN | apply Kd.R_drew)); exact (Kd.R_mono (Kd.R_far (p := ⟨gb921, 4, none⟩) (Kd.R_far (p := ⟨gb921, 3, none⟩) (Kd.R_far (p := ⟨gb921, 2, none⟩) (Kd.R_far (p := ⟨gb921, 1, none⟩) (Kd.R_far (p := ⟨gb921, 0, none⟩) (Kd.R_types HO906.out BK921.out (by decide)) (fun _ hk => hk.2) (.int .i64 t914)) (fun _ hk => hk.2) (.int .i64 t915)) (fun _ hk => hk.2) (.int .i64 t916)) (fun _ hk => hk.2) (.int .i64 t917)) (fun _ hk => hk.2) (.slice Ao41 t918.length co41)) (fun _ h_ => h_.1))) hb); have n3_ := Aside0.mk (Kd.R_below z61x11 hb); have n4_ := Aside0.mk (Kd.R_below z61x13 hb); have n5_ := Aside0.mk (Kd.R_below z61x15 hb); have n6_ := Aside0.mk (blk_below (g := gb891) (o := .cells #[.int .i64 a2_0, .int .i64 a2_1, .int .i64 a2_2, .int .i64 a2_3, .slice A2_4 l2_4.length c2_4] 31 (0, 0)) z61x1 hb); have n7_ := Aside0.mk (blk_below (g := gb921) (o := .cells #[.int .i64 t914, .int .i64 t915, .int .i64 t916, .int .i64 t917, .slice Ao41 t918.length co41] 36 (0, 0)) z61x0 hb); have n8_ := Aside0.mk (below_step z61x19 hb); clear HO896; clear HO899; clear HO906; clear HO910; clear HO913; clear HO920; clear BK891; clear BK921; clear HB; have HO896 := n0_; have HO899 := n1_; have HO906 := n2_; have HO910 := n3_; have HO913 := n4_; have HO920 := n5_; have BK891 := n6_; have BK921 := n7_; have HB := n8_; clear n0_ n1_ n2_ n3_ n4_ n5_ n6_ n7_ n8_; (try clear hb); (try clear hb2); (try clear hk); (try clear hi)))
     go_ret
     exact ⟨by first | rfl | (simp [errW_none, errW_some] <;> rfl) | (simp [*, errW_none, errW_some] <;> rfl), by repeat (first | (with_reducible first | exact HB.out | apply below_alloc | apply pw_below_drewN | apply below_drew1 | refine below_set ?_ GE891.out | refine below_set ?_ GE921.out) | exact HB.out)⟩
    ·rw [if_neg c22] at H
     have c22b0 : (t922 != t907) = false := by simpa using c22
     (try (have c22b1 : decide (t922 = t907) = true := by simpa using c22))
     (try (have c22b2 : (t922 == t907) = true := by simpa using c22))
     clear c22
     replace H := Option.bind_eq_some_iff.mp H
     obtain ⟨t923, A450, H⟩ := H
     replace H : ((laws_eqIntS.f k t908 t923).bind fun t926 => (if t926 = true then ((laws_toSealS.f k l1).bind fun t927 => ((laws_eqSealS.f k t911 t927).bind fun t930 => (if t930 = true then ((laws_toMsg.f k a2_0 a2_1 a2_2 a2_3 l2_4).bind fun bt931 => ((laws_eqMsg.f k t914 t915 t916 t917 t918 bt931.1 bt931.2.1 bt931.2.2.1 bt931.2.2.2.1 bt931.2.2.2.2).bind fun t938 => (if t938 = true then (some true) else (some false)))) else (some false)))) else (some false))) = some r := H
     have A45 := Aside0.mk A450
     clear A450
     replace H := Option.bind_eq_some_iff.mp H
     obtain ⟨t926, A460, H⟩ := H
     replace H : (if t926 = true then ((laws_toSealS.f k l1).bind fun t927 => ((laws_eqSealS.f k t911 t927).bind fun t930 => (if t930 = true then ((laws_toMsg.f k a2_0 a2_1 a2_2 a2_3 l2_4).bind fun bt931 => ((laws_eqMsg.f k t914 t915 t916 t917 t918 bt931.1 bt931.2.1 bt931.2.2.1 bt931.2.2.2.1 bt931.2.2.2.2).bind fun t938 => (if t938 = true then (some true) else (some false)))) else (some false)))) else (some false)) = some r := H
     have A46 := Aside0.mk A460
     clear A460
     by_cases c47 : t926 = true
     ·subst c47
      rw [if_pos rfl] at H
      replace H := Option.bind_eq_some_iff.mp H
      obtain ⟨t927, A480, H⟩ := H
      replace H : ((laws_eqSealS.f k t911 t927).bind fun t930 => (if t930 = true then ((laws_toMsg.f k a2_0 a2_1 a2_2 a2_3 l2_4).bind fun bt931 => ((laws_eqMsg.f k t914 t915 t916 t917 t918 bt931.1 bt931.2.1 bt931.2.2.1 bt931.2.2.2.1 bt931.2.2.2.2).bind fun t938 => (if t938 = true then (some true) else (some false)))) else (some false))) = some r := H
      have A48 := Aside0.mk A480
      clear A480
      replace H := Option.bind_eq_some_iff.mp H
      obtain ⟨t930, A490, H⟩ := H
      replace H : (if t930 = true then ((laws_toMsg.f k a2_0 a2_1 a2_2 a2_3 l2_4).bind fun bt931 => ((laws_eqMsg.f k t914 t915 t916 t917 t918 bt931.1 bt931.2.1 bt931.2.2.1 bt931.2.2.2.1 bt931.2.2.2.2).bind fun t938 => (if t938 = true then (some true) else (some false)))) else (some false)) = some r := H
      have A49 := Aside0.mk A490
      clear A490
      by_cases c50 : t930 = true
      ·subst c50
       rw [if_pos rfl] at H
       replace H := Option.bind_eq_some_iff.mp H
       obtain ⟨⟨t931, t932, t933, t934, t935⟩, A510, H⟩ := H
       replace H : ((laws_eqMsg.f k t914 t915 t916 t917 t918 t931 t932 t933 t934 t935).bind fun t938 => (if t938 = true then (some true) else (some false))) = some r := H
       have A51 := Aside0.mk A510
       clear A510
       replace H := Option.bind_eq_some_iff.mp H
       obtain ⟨t938, A520, H⟩ := H
       replace H : (if t938 = true then (some true) else (some false)) = some r := H
       have A52 := Aside0.mk A520
       clear A520
       by_cases c53 : t938 = true
       ·subst c53
        rw [if_pos rfl] at H
        obtain rfl := Option.some.inj H
        go_enter Try.func17, Try.ntmps17
        try go_wp2_with (first | ((with_reducible refine gate_dst (N := 5) rfl ?_); refine box_event ?hg (N := 5) ?hd (cs := #[.int .i64 a2_0, .int .i64 a2_1, .int .i64 a2_2, .int .i64 a2_3, .slice A2_4 l2_4.length c2_4]) (t := 31) ?hr ?_; (case hd => rfl); (case hg => rfl); (case hr => first | (go_simp; done) | (go_simp; rfl)); intro gb891 hg w54 hbox hb; have n0_ := Aside0.mk (below_step z61x24 hb); have n1_ := Aside0.mk (hbox); have n2_ := Aside0.mk ((z61x22 : w.heap.size ≤ gb891)); have n3_ := Aside0.mk ((z61x22 : w.heap.size ≤ gb891)); clear HB; have HB := n0_; have BK891 := n1_; have GW891 := n2_; have GE891 := n3_; clear n0_ n1_ n2_ n3_; clear hb hbox hg) | ((with_reducible refine gate_callee (f := 42) rfl ?_); refine goesL_ (some 18) rfl rfl Try.func42 (by kernel_rfl) rfl #[.slice A1 l1.length c1, .int .i64 1048576] rfl z61x23 ?_; (with_reducible refine (laws_szSealS.calls _ _ l1 1048576 t892 _ ?side1 ?side2 A6.out).mono ?_); (case side1 => repeat (first | exact (Kd.C_below HR1.out HB.out) | (with_reducible refine Kd.C_alloc ?_ _) | (with_reducible refine Kd.C_drewN ?_ _) | (with_reducible refine Kd.C_drew ?_))); (case side2 => exact HC1.out); rintro e w' ⟨rfl, ⟨nd, rfl⟩⟩; refine ⟨_, rfl, ?_⟩; (try (rw [drewN_self w54]; generalize hq_ : World.drewN w54 _ = w54; have n0_ : Aside0 (w54.heap[gb891]? = some (.cells #[.int .i64 a2_0, .int .i64 a2_1, .int .i64 a2_2, .int .i64 a2_3, .slice A2_4 l2_4.length c2_4] 31 (0, 0))) := ⟨by rw [← hq_]; exact z61x25⟩; have n1_ : Aside0 (Below w.heap.size w w54) := ⟨by rw [← hq_]; exact z61x21⟩; clear BK891 HB hq_; have BK891 := n0_; have HB := n1_; clear n0_ n1_)); have hcz55_0 : w54.cell? ⟨gb891, 0, none⟩ = some (.int .i64 a2_0) := (blk_cell BK891.out 0).trans rfl; have hcz55_1 : w54.cell? ⟨gb891, 1, none⟩ = some (.int .i64 a2_1) := (blk_cell BK891.out 1).trans rfl; have hcz55_2 : w54.cell? ⟨gb891, 2, none⟩ = some (.int .i64 a2_2) := (blk_cell BK891.out 2).trans rfl; have hcz55_3 : w54.cell? ⟨gb891, 3, none⟩ = some (.int .i64 a2_3) := (blk_cell BK891.out 3).trans rfl; have hcz55_4 : w54.cell? ⟨gb891, 4, none⟩ = some (.slice A2_4 l2_4.length c2_4) := (blk_cell BK891.out 4).trans rfl; have hfz55_0 := blk_frozen BK891.out 0; have hfz55_1 := blk_frozen BK891.out 1; have hfz55_2 := blk_frozen BK891.out 2; have hfz55_3 := blk_frozen BK891.out 3; have hfz55_4 := blk_frozen BK891.out 4) | ((with_reducible refine gate_callee (f := 26) rfl ?_); refine goesL_ (some 23) rfl rfl Try.func26 (by kernel_rfl) rfl #[.agg #[.int .i64 a2_0, .int .i64 a2_1, .int .i64 a2_2, .int .i64 a2_3, .slice A2_4 l2_4.length c2_4], .int .i64 t892] rfl z61x23 ?_; (with_reducible refine (laws_szMsg.calls a2_0 a2_1 a2_2 a2_3 _ _ l2_4 t892 t893 _ ?side1 ?side2 A9.out).mono ?_); (case side1 => repeat (first | exact (Kd.C_below HR2_4.out HB.out) | (with_reducible refine Kd.C_alloc ?_ _) | (with_reducible refine Kd.C_drewN ?_ _) | (with_reducible refine Kd.C_drew ?_))); (case side2 => exact HC2_4.out); rintro e w56 ⟨rfl, hb⟩; refine ⟨_, rfl, ?_⟩; have n0_ := Aside0.mk (blk_below (g := gb891) (o := .cells #[.int .i64 a2_0, .int .i64 a2_1, .int .i64 a2_2, .int .i64 a2_3, .slice A2_4 l2_4.length c2_4] 31 (0, 0)) z61x25 hb); have n1_ := Aside0.mk (below_step z61x21 hb); clear BK891; clear HB; have BK891 := n0_; have HB := n1_; clear n0_ n1_; (try clear hb); (try clear hb2); (try clear hk); (try clear hi)))
        have n0_ := Aside0.mk (blk_drew BK891.out)
        have n1_ := Aside0.mk (below_drew1 HB.out)
        clear BK891
        clear HB
        have BK891 := n0_
        have HB := n1_
        clear n0_ n1_
        refine start_ (n := 8) (S := fun w' => w'.cell? ⟨gb891, 0, none⟩ = some (.int .i64 a2_0) ∧ w'.cell? ⟨gb891, 1, none⟩ = some (.int .i64 a2_1) ∧ w'.cell? ⟨gb891, 2, none⟩ = some (.int .i64 a2_2) ∧ w'.cell? ⟨gb891, 3, none⟩ = some (.int .i64 a2_3) ∧ w'.cell? ⟨gb891, 4, none⟩ = some (.slice A2_4 l2_4.length c2_4)) (ds := []) #[false, false, false, false, false, false, false, false] (by kernel_rfl) rfl rfl ⟨(blk_cell BK891.out 0).trans rfl, (blk_cell BK891.out 1).trans rfl, (blk_cell BK891.out 2).trans rfl, (blk_cell BK891.out 3).trans rfl, (blk_cell BK891.out 4).trans rfl⟩ (fun hHeld => ?_); refine with_tabW laws_FnExactKnowBuild.tab10 laws_FnExactKnowBuild.bits10 (fun HT_ HW_ => ?_)
        generalize w56.drew = w57 at BK891 HB hHeld ⊢
        refine pure_ (i := 0) (N := some 26) (v := ?_) (a' := ?_) #[true, false, false, false, false, false, false, false] rfl rfl (any_of HT_.out (by kernel_rfl)) (fun _ _ _ h => h) (Or.inl ⟨by rfl, ?_⟩) ?_ ?_
        rotate_left
        ·intro w'
         go_simp
         with_reducible rfl
        rotate_left
        ·simp only [Act.put, List.setIfInBounds_toArray, List.set_cons_zero, List.set_cons_succ, i64_w, i32_w]
         rfl
        refine pure_ (i := 2) (N := some 28) (v := ?_) (a' := ?_) #[true, false, true, false, false, false, false, false] rfl rfl (any_of HT_.out (by kernel_rfl)) (fun _ _ _ h => h) (Or.inl ⟨by rfl, ?_⟩) ?_ ?_
        rotate_left
        ·intro w'
         go_simp
         with_reducible rfl
        rotate_left
        ·simp only [Act.put, List.setIfInBounds_toArray, List.set_cons_zero, List.set_cons_succ, i64_w, i32_w]
         rfl
        refine take_ (i := 4) (N := some 30) (v := ?_) (a' := ?_) #[true, false, true, false, true, false, false, false] rfl rfl (take_ofW HT_.out HW_.out (by kernel_rfl)) (fun _ _ _ h => h) (Or.inl ⟨by rfl, ?_⟩) hHeld ?_ ?_
        rotate_left
        ·rintro w' ⟨s0, s1, s2, s3, s4⟩
         go_simp
         with_reducible rfl
        rotate_left
        ·simp only [Act.put, List.setIfInBounds_toArray, List.set_cons_zero, List.set_cons_succ, i64_w, i32_w]
         rfl
        refine one_ (i := 1) (N := some 27) #[true, true, true, false, true, false, false, false] rfl rfl (one_of HT_.out (by kernel_rfl)) (by decide) (fun K hK => ?_)
        refine goes_ Try.func43 (by kernel_rfl) rfl #[.slice A0 l0.length c0] (by rfl) rfl rfl z61x23 ?_
        with_reducible refine (laws_toIntS.calls k _ _ l0 t894 _ ?side1 ?side2 A14.out).mono ?_
        (case side1 => repeat (first | exact (Kd.C_below HR0.out HB.out) | (with_reducible refine Kd.C_alloc ?_ _) | (with_reducible refine Kd.C_drewN ?_ _) | (with_reducible refine Kd.C_drew ?_)))
        (case side2 => exact HC0.out)
        rintro e w58 ⟨v895, rfl, ho0, hb⟩
        refine ⟨_, rfl, ?_⟩
        have n0_ := Aside0.mk (Kd.R_lower ho0 (below_size z61x21))
        have n1_ := Aside0.mk (blk_below (g := gb891) (o := .cells #[.int .i64 a2_0, .int .i64 a2_1, .int .i64 a2_2, .int .i64 a2_3, .slice A2_4 l2_4.length c2_4] 31 (0, 0)) z61x25 hb)
        have n2_ := Aside0.mk (below_step z61x21 hb)
        clear BK891
        clear HB
        have HO896 := n0_
        have BK891 := n1_
        have HB := n2_
        clear n0_ n1_ n2_
        (try clear hb)
        (try clear hb2)
        (try clear hk)
        (try clear hi)
        (try clear ho0)
        refine hK.out _ _ ⟨(blk_cell BK891.out 0).trans rfl, (blk_cell BK891.out 1).trans rfl, (blk_cell BK891.out 2).trans rfl, (blk_cell BK891.out 3).trans rfl, (blk_cell BK891.out 4).trans rfl⟩ (fun hHeld => ?_)
        clear hK K
        refine norm_ (a' := ?_) ?_ ?_
        rotate_left
        ·show Act.put _ (some 27) _ = _
         simp only [Act.put, List.setIfInBounds_toArray, List.set_cons_zero, List.set_cons_succ, i64_w, i32_w]
         rfl
        refine one_ (i := 3) (N := some 29) #[true, true, true, true, true, false, false, false] rfl rfl (one_of HT_.out (by kernel_rfl)) (by decide) (fun K hK => ?_)
        refine goes_ Try.func44 (by kernel_rfl) rfl #[.slice A1 l1.length c1] (by rfl) rfl rfl z61x23 ?_
        with_reducible refine (laws_toSealS.calls k _ _ l1 t897 _ ?side1 ?side2 A15.out).mono ?_
        (case side1 => repeat (first | exact (Kd.C_below HR1.out HB.out) | (with_reducible refine Kd.C_alloc ?_ _) | (with_reducible refine Kd.C_drewN ?_ _) | (with_reducible refine Kd.C_drew ?_)))
        (case side2 => exact HC1.out)
        rintro e w59 ⟨v898, rfl, ho0, hb⟩
        refine ⟨_, rfl, ?_⟩
        have n0_ := Aside0.mk (Kd.R_below z61x27 hb)
        have n1_ := Aside0.mk (Kd.R_lower ho0 (below_size z61x21))
        have n2_ := Aside0.mk (blk_below (g := gb891) (o := .cells #[.int .i64 a2_0, .int .i64 a2_1, .int .i64 a2_2, .int .i64 a2_3, .slice A2_4 l2_4.length c2_4] 31 (0, 0)) z61x25 hb)
        have n3_ := Aside0.mk (below_step z61x21 hb)
        clear HO896
        clear BK891
        clear HB
        have HO896 := n0_
        have HO899 := n1_
        have BK891 := n2_
        have HB := n3_
        clear n0_ n1_ n2_ n3_
        (try clear hb)
        (try clear hb2)
        (try clear hk)
        (try clear hi)
        (try clear ho0)
        refine hK.out _ _ ⟨(blk_cell BK891.out 0).trans rfl, (blk_cell BK891.out 1).trans rfl, (blk_cell BK891.out 2).trans rfl, (blk_cell BK891.out 3).trans rfl, (blk_cell BK891.out 4).trans rfl⟩ (fun hHeld => ?_)
        clear hK K
        refine norm_ (a' := ?_) ?_ ?_
        rotate_left
        ·show Act.put _ (some 29) _ = _
         simp only [Act.put, List.setIfInBounds_toArray, List.set_cons_zero, List.set_cons_succ, i64_w, i32_w]
         rfl
        refine one_ (i := 5) (N := some 31) #[true, true, true, true, true, true, false, false] rfl rfl (one_of HT_.out (by kernel_rfl)) (by decide) (fun K hK => ?_)
        refine goes_ Try.func28 (by kernel_rfl) rfl #[.agg #[.int .i64 a2_0, .int .i64 a2_1, .int .i64 a2_2, .int .i64 a2_3, .slice A2_4 l2_4.length c2_4]] (by rfl) rfl rfl z61x23 ?_
        with_reducible refine (laws_toMsg.calls k a2_0 a2_1 a2_2 a2_3 _ _ l2_4 t900 t901 t902 t903 t904 _ ?side1 ?side2 A16.out).mono ?_
        (case side1 => repeat (first | exact (Kd.C_below HR2_4.out HB.out) | (with_reducible refine Kd.C_alloc ?_ _) | (with_reducible refine Kd.C_drewN ?_ _) | (with_reducible refine Kd.C_drew ?_)))
        (case side2 => exact HC2_4.out)
        rintro e w60 ⟨v905, rfl, ho0, hb⟩
        refine ⟨_, rfl, ?_⟩
        have n0_ := Aside0.mk (Kd.R_below z61x27 hb)
        have n1_ := Aside0.mk (Kd.R_elder' z61x28 (Kd.R_base ho0) hb)
        have n2_ := Aside0.mk (Kd.R_lower (Kd.R_new' ho0 (Kd.R_lt z61x28)) (below_size z61x21))
        have n3_ := Aside0.mk (blk_below (g := gb891) (o := .cells #[.int .i64 a2_0, .int .i64 a2_1, .int .i64 a2_2, .int .i64 a2_3, .slice A2_4 l2_4.length c2_4] 31 (0, 0)) z61x25 hb)
        have n4_ := Aside0.mk (below_step z61x21 hb)
        clear HO896
        clear HO899
        clear BK891
        clear HB
        have HO896 := n0_
        have HO899 := n1_
        have HO906 := n2_
        have BK891 := n3_
        have HB := n4_
        clear n0_ n1_ n2_ n3_ n4_
        (try clear hb)
        (try clear hb2)
        (try clear hk)
        (try clear hi)
        (try clear ho0)
        obtain ⟨Ao61, co61, eo61⟩ := Kd.R_slice HO896.out
        (first | subst eo61 | (injection eo61 with f1_ f2_ f3_; have f4_ := f1_.symm; have f5_ := f3_.symm; clear f1_ f2_ f3_; subst f4_; subst f5_))
        obtain ⟨Ao62, co62, eo62⟩ := Kd.R_slice HO899.out
        (first | subst eo62 | (injection eo62 with f1_ f2_ f3_; have f4_ := f1_.symm; have f5_ := f3_.symm; clear f1_ f2_ f3_; subst f4_; subst f5_))
        obtain ⟨Ao63, co63, eo63⟩ := Kd.R_slice HO906.out
        (first | subst eo63 | (injection eo63 with f1_ f2_ f3_; have f4_ := f1_.symm; have f5_ := f3_.symm; clear f1_ f2_ f3_; subst f4_; subst f5_))
        refine hK.out _ _ ⟨(blk_cell BK891.out 0).trans rfl, (blk_cell BK891.out 1).trans rfl, (blk_cell BK891.out 2).trans rfl, (blk_cell BK891.out 3).trans rfl, (blk_cell BK891.out 4).trans rfl⟩ (fun hHeld => ?_)
        clear hK K
        refine norm_ (a' := ?_) ?_ ?_
        rotate_left
        ·show Act.put _ (some 31) _ = _
         simp only [Act.put, List.setIfInBounds_toArray, List.set_cons_zero, List.set_cons_succ, i64_w, i32_w]
         rfl
        refine one_ (i := 6) (N := some 32) #[true, true, true, true, true, true, true, false] rfl rfl (one_of HT_.out (by kernel_rfl)) (by decide) (fun K hK => ?_)
        refine goes_ Try.func51 (by kernel_rfl) rfl #[.slice Ao61 t894.length co61, .slice Ao62 t897.length co62, .agg #[.int .i64 t900, .int .i64 t901, .int .i64 t902, .int .i64 t903, .slice Ao63 t904.length co63]] (by rfl) rfl rfl z61x23 ?_
        with_reducible refine (spec_KnowBuild.calls k _ _ t894 _ _ t897 t900 t901 t902 t903 _ _ t904 t907 _ ?side1 ?side2 ?side3 ?side4 ?side5 ?side6 A17.out).mono ?_
        (case side1 => repeat (first | exact (Kd.R_reads' HO896.out).2.2 | (with_reducible refine Kd.C_alloc ?_ _) | (with_reducible refine Kd.C_drewN ?_ _) | (with_reducible refine Kd.C_drew ?_)))
        (case side2 => exact (Kd.R_reads' HO896.out).2.1)
        (case side3 => repeat (first | exact (Kd.R_reads' HO899.out).2.2 | (with_reducible refine Kd.C_alloc ?_ _) | (with_reducible refine Kd.C_drewN ?_ _) | (with_reducible refine Kd.C_drew ?_)))
        (case side4 => exact (Kd.R_reads' HO899.out).2.1)
        (case side5 => repeat (first | exact (Kd.R_reads' HO906.out).2.2 | (with_reducible refine Kd.C_alloc ?_ _) | (with_reducible refine Kd.C_drewN ?_ _) | (with_reducible refine Kd.C_drew ?_)))
        (case side6 => exact (Kd.R_reads' HO906.out).2.1)
        rintro e w64 ⟨rfl, hb⟩
        refine ⟨_, rfl, ?_⟩
        have n0_ := Aside0.mk (Kd.R_below z61x27 hb)
        have n1_ := Aside0.mk (Kd.R_below z61x28 hb)
        have n2_ := Aside0.mk (Kd.R_below z61x29 hb)
        have n3_ := Aside0.mk (blk_below (g := gb891) (o := .cells #[.int .i64 a2_0, .int .i64 a2_1, .int .i64 a2_2, .int .i64 a2_3, .slice A2_4 l2_4.length c2_4] 31 (0, 0)) z61x25 hb)
        have n4_ := Aside0.mk (below_step z61x21 hb)
        clear HO896
        clear HO899
        clear HO906
        clear BK891
        clear HB
        have HO896 := n0_
        have HO899 := n1_
        have HO906 := n2_
        have BK891 := n3_
        have HB := n4_
        clear n0_ n1_ n2_ n3_ n4_
        (try clear hb)
        (try clear hb2)
        (try clear hk)
        (try clear hi)
        refine hK.out _ _ ⟨(blk_cell BK891.out 0).trans rfl, (blk_cell BK891.out 1).trans rfl, (blk_cell BK891.out 2).trans rfl, (blk_cell BK891.out 3).trans rfl, (blk_cell BK891.out 4).trans rfl⟩ (fun hHeld => ?_)
        clear hK K
        refine norm_ (a' := ?_) ?_ ?_
        rotate_left
        ·show Act.put _ (some 32) _ = _
         simp only [Act.put, List.setIfInBounds_toArray, List.set_cons_zero, List.set_cons_succ, i64_w, i32_w]
         rfl
        refine pure_ (i := 7) (N := some 8) (v := ?_) (a' := ?_) #[true, true, true, true, true, true, true, true] rfl rfl (any_of HT_.out (by kernel_rfl)) (fun _ _ _ h => h) (Or.inl ⟨by rfl, ?_⟩) ?_ ?_
        rotate_left
        ·intro w'
         go_simp
         with_reducible rfl
        rotate_left
        ·simp only [Act.put, List.setIfInBounds_toArray, List.set_cons_zero, List.set_cons_succ, i64_w, i32_w]
         rfl
        refine done_ (done_of HT_.out (by kernel_rfl)) ?_
        try go_wp2_with (first | ((with_reducible refine gate_callee (f := 43) rfl ?_); refine goesL_ (some 34) rfl rfl Try.func43 (by kernel_rfl) rfl #[.slice A0 l0.length c0] rfl z61x23 ?_; (with_reducible refine (laws_toIntS.calls k _ _ l0 t908 _ ?side1 ?side2 A18.out).mono ?_); (case side1 => repeat (first | exact (Kd.C_below HR0.out HB.out) | (with_reducible refine Kd.C_alloc ?_ _) | (with_reducible refine Kd.C_drewN ?_ _) | (with_reducible refine Kd.C_drew ?_))); (case side2 => exact HC0.out); rintro e w65 ⟨v909, rfl, ho0, hb⟩; refine ⟨_, rfl, ?_⟩; have n0_ := Aside0.mk (Kd.R_elder' z61x27 (Kd.R_base ho0) hb); have n1_ := Aside0.mk (Kd.R_below z61x28 hb); have n2_ := Aside0.mk (Kd.R_below z61x29 hb); have n3_ := Aside0.mk (Kd.R_lower (Kd.R_new' ho0 (Kd.R_lt z61x27)) (below_size z61x21)); have n4_ := Aside0.mk (blk_below (g := gb891) (o := .cells #[.int .i64 a2_0, .int .i64 a2_1, .int .i64 a2_2, .int .i64 a2_3, .slice A2_4 l2_4.length c2_4] 31 (0, 0)) z61x25 hb); have n5_ := Aside0.mk (below_step z61x21 hb); clear HO896; clear HO899; clear HO906; clear BK891; clear HB; have HO896 := n0_; have HO899 := n1_; have HO906 := n2_; have HO910 := n3_; have BK891 := n4_; have HB := n5_; clear n0_ n1_ n2_ n3_ n4_ n5_; (try clear hb); (try clear hb2); (try clear hk); (try clear hi); (try clear ho0)) | ((with_reducible refine gate_callee (f := 44) rfl ?_); refine goesL_ (some 36) rfl rfl Try.func44 (by kernel_rfl) rfl #[.slice A1 l1.length c1] rfl z61x23 ?_; (with_reducible refine (laws_toSealS.calls k _ _ l1 t911 _ ?side1 ?side2 A19.out).mono ?_); (case side1 => repeat (first | exact (Kd.C_below HR1.out HB.out) | (with_reducible refine Kd.C_alloc ?_ _) | (with_reducible refine Kd.C_drewN ?_ _) | (with_reducible refine Kd.C_drew ?_))); (case side2 => exact HC1.out); rintro e w66 ⟨v912, rfl, ho0, hb⟩; refine ⟨_, rfl, ?_⟩; have n0_ := Aside0.mk (Kd.R_below z61x27 hb); have n1_ := Aside0.mk (Kd.R_elder' z61x28 (Kd.R_base ho0) hb); have n2_ := Aside0.mk (Kd.R_elder' z61x29 (Kd.R_base ho0) hb); have n3_ := Aside0.mk (Kd.R_below z61x30 hb); have n4_ := Aside0.mk (Kd.R_lower (Kd.R_new' (Kd.R_new' ho0 (Kd.R_lt z61x28)) (Kd.R_lt z61x29)) (below_size z61x21)); have n5_ := Aside0.mk (blk_below (g := gb891) (o := .cells #[.int .i64 a2_0, .int .i64 a2_1, .int .i64 a2_2, .int .i64 a2_3, .slice A2_4 l2_4.length c2_4] 31 (0, 0)) z61x25 hb); have n6_ := Aside0.mk (below_step z61x21 hb); clear HO896; clear HO899; clear HO906; clear HO910; clear BK891; clear HB; have HO896 := n0_; have HO899 := n1_; have HO906 := n2_; have HO910 := n3_; have HO913 := n4_; have BK891 := n5_; have HB := n6_; clear n0_ n1_ n2_ n3_ n4_ n5_ n6_; (try clear hb); (try clear hb2); (try clear hk); (try clear hi); (try clear ho0); have hcz67_0 : w66.cell? ⟨gb891, 0, none⟩ = some (.int .i64 a2_0) := (blk_cell BK891.out 0).trans rfl; have hcz67_1 : w66.cell? ⟨gb891, 1, none⟩ = some (.int .i64 a2_1) := (blk_cell BK891.out 1).trans rfl; have hcz67_2 : w66.cell? ⟨gb891, 2, none⟩ = some (.int .i64 a2_2) := (blk_cell BK891.out 2).trans rfl; have hcz67_3 : w66.cell? ⟨gb891, 3, none⟩ = some (.int .i64 a2_3) := (blk_cell BK891.out 3).trans rfl; have hcz67_4 : w66.cell? ⟨gb891, 4, none⟩ = some (.slice A2_4 l2_4.length c2_4) := (blk_cell BK891.out 4).trans rfl; have hfz67_0 := blk_frozen BK891.out 0; have hfz67_1 := blk_frozen BK891.out 1; have hfz67_2 := blk_frozen BK891.out 2; have hfz67_3 := blk_frozen BK891.out 3; have hfz67_4 := blk_frozen BK891.out 4) | ((with_reducible refine gate_callee (f := 28) rfl ?_); refine goesL_ (some 38) rfl rfl Try.func28 (by kernel_rfl) rfl #[.agg #[.int .i64 a2_0, .int .i64 a2_1, .int .i64 a2_2, .int .i64 a2_3, .slice A2_4 l2_4.length c2_4]] rfl z61x23 ?_; (with_reducible refine (laws_toMsg.calls k a2_0 a2_1 a2_2 a2_3 _ _ l2_4 t914 t915 t916 t917 t918 _ ?side1 ?side2 A20.out).mono ?_); (case side1 => repeat (first | exact (Kd.C_below HR2_4.out HB.out) | (with_reducible refine Kd.C_alloc ?_ _) | (with_reducible refine Kd.C_drewN ?_ _) | (with_reducible refine Kd.C_drew ?_))); (case side2 => exact HC2_4.out); rintro e w68 ⟨v919, rfl, ho0, hb⟩; refine ⟨_, rfl, ?_⟩; have n0_ := Aside0.mk (Kd.R_below z61x27 hb); have n1_ := Aside0.mk (Kd.R_elder' z61x28 (Kd.R_base ho0) hb); have n2_ := Aside0.mk (Kd.R_elder' z61x29 (Kd.R_base ho0) hb); have n3_ := Aside0.mk (Kd.R_below z61x30 hb); have n4_ := Aside0.mk (Kd.R_elder' z61x31 (Kd.R_base ho0) hb); have n5_ := Aside0.mk (Kd.R_lower (Kd.R_new' (Kd.R_new' (Kd.R_new' ho0 (Kd.R_lt z61x28)) (Kd.R_lt z61x29)) (Kd.R_lt z61x31)) (below_size z61x21)); have n6_ := Aside0.mk (blk_below (g := gb891) (o := .cells #[.int .i64 a2_0, .int .i64 a2_1, .int .i64 a2_2, .int .i64 a2_3, .slice A2_4 l2_4.length c2_4] 31 (0, 0)) z61x25 hb); have n7_ := Aside0.mk (below_step z61x21 hb); clear HO896; clear HO899; clear HO906; clear HO910; clear HO913; clear BK891; clear HB; have HO896 := n0_; have HO899 := n1_; have HO906 := n2_; have HO910 := n3_; have HO913 := n4_; have HO920 := n5_; have BK891 := n6_; have HB := n7_; clear n0_ n1_ n2_ n3_ n4_ n5_ n6_ n7_; (try clear hb); (try clear hb2); (try clear hk); (try clear hi); (try clear ho0)) | ((with_reducible refine gate_dst (N := 11) rfl ?_); refine box_event ?hg (N := 11) ?hd (cs := #[.int .i64 0, .int .i64 0, .int .i64 0, .int .i64 0, .slice none 0 0]) (t := 36) ?hr ?_; (case hd => rfl); (case hg => rfl); (case hr => first | (go_simp; done) | (go_simp; rfl)); intro gb921 hg w69 hbox hb; have n0_ := Aside0.mk (Kd.R_below z61x27 hb); have n1_ := Aside0.mk (Kd.R_below z61x28 hb); have n2_ := Aside0.mk (Kd.R_below z61x29 hb); have n3_ := Aside0.mk (Kd.R_below z61x30 hb); have n4_ := Aside0.mk (Kd.R_below z61x31 hb); have n5_ := Aside0.mk (Kd.R_below z61x32 hb); have n6_ := Aside0.mk (blk_below (g := gb891) (o := .cells #[.int .i64 a2_0, .int .i64 a2_1, .int .i64 a2_2, .int .i64 a2_3, .slice A2_4 l2_4.length c2_4] 31 (0, 0)) z61x25 hb); have n7_ := Aside0.mk (below_step z61x21 hb); have n8_ := Aside0.mk (hbox); have n9_ := Aside0.mk ((z61x20 : w.heap.size ≤ gb921)); have n10_ := Aside0.mk ((z61x20 : w.heap.size ≤ gb921)); have n11_ := Aside0.mk ((z61x18 : gb891 ≠ gb921)); have n12_ := Aside0.mk ((z61x17 : gb921 ≠ gb891)); clear HO896; clear HO899; clear HO906; clear HO910; clear HO913; clear HO920; clear BK891; clear HB; have HO896 := n0_; have HO899 := n1_; have HO906 := n2_; have HO910 := n3_; have HO913 := n4_; have HO920 := n5_; have BK891 := n6_; have HB := n7_; have BK921 := n8_; have GW921 := n9_; have GE921 := n10_; have NB891_921 := n11_; have NB921_891 := n12_; clear n0_ n1_ n2_ n3_ n4_ n5_ n6_ n7_ n8_ n9_ n10_ n11_ n12_; clear hb hbox hg; have hnb70 := NB921_891.out; have hnc70 := NB891_921.out; have hcz71_0 : w69.cell? ⟨gb921, 0, none⟩ = some (.int .i64 0) := (blk_cell BK921.out 0).trans rfl; have hcz71_1 : w69.cell? ⟨gb921, 1, none⟩ = some (.int .i64 0) := (blk_cell BK921.out 1).trans rfl; have hcz71_2 : w69.cell? ⟨gb921, 2, none⟩ = some (.int .i64 0) := (blk_cell BK921.out 2).trans rfl; have hcz71_3 : w69.cell? ⟨gb921, 3, none⟩ = some (.int .i64 0) := (blk_cell BK921.out 3).trans rfl; have hcz71_4 : w69.cell? ⟨gb921, 4, none⟩ = some (.slice none 0 0) := (blk_cell BK921.out 4).trans rfl; have hfz71_0 := blk_frozen BK921.out 0; have hfz71_1 := blk_frozen BK921.out 1; have hfz71_2 := blk_frozen BK921.out 2; have hfz71_3 := blk_frozen BK921.out 3; have hfz71_4 := blk_frozen BK921.out 4; obtain ⟨Ao72, co72, eo72⟩ := Kd.R_slice HO920.out; subst eo72; obtain ⟨Ao73, co73, eo73⟩ := Kd.R_slice HO910.out; subst eo73; obtain ⟨Ao74, co74, eo74⟩ := Kd.R_slice HO913.out; subst eo74) | ((with_reducible refine gate_callee (f := 52) rfl ?_); refine goesL_ (some 42) rfl rfl Try.func52 (by kernel_rfl) rfl #[.slice Ao73 t908.length co73, .slice Ao74 t911.length co74, .agg #[.int .i64 t914, .int .i64 t915, .int .i64 t916, .int .i64 t917, .slice Ao72 t918.length co72]] rfl z61x23 ?_; (with_reducible refine (impl_KnowBuild.calls _ _ t908 _ _ t911 t914 t915 t916 t917 _ _ t918 t922 _ ?side1 ?side2 ?side3 ?side4 ?side5 ?side6 A21.out).mono ?_); (case side1 => refine (Kd.R_reads' (e := 3) (base := w.heap.size) (ok := fun k_ => (True ∧ some k_ ≠ (.slice Ao61 t894.length co61 : Value).ownBlock)) (n := t908.length) (c := co73) ?_).2.2; exact z61x12); (case side2 => exact (Kd.R_reads' HO910.out).2.1); (case side3 => refine (Kd.R_reads' (e := 24) (base := w.heap.size) (ok := fun k_ => (((True ∧ some k_ ≠ (.slice Ao62 t897.length co62 : Value).ownBlock) ∧ some k_ ≠ (.slice Ao63 t904.length co63 : Value).ownBlock) ∧ some k_ ≠ (.slice Ao72 t918.length co72 : Value).ownBlock)) (n := t911.length) (c := co74) ?_).2.2; exact z61x14); (case side4 => exact (Kd.R_reads' HO913.out).2.1); (case side5 => refine (Kd.R_reads' (e := 24) (base := w.heap.size) (ok := fun k_ => (((True ∧ some k_ ≠ (.slice Ao62 t897.length co62 : Value).ownBlock) ∧ some k_ ≠ (.slice Ao63 t904.length co63 : Value).ownBlock) ∧ some k_ ≠ (.slice Ao74 t911.length co74 : Value).ownBlock)) (n := t918.length) (c := co72) ?_).2.2; exact z61x16); (case side6 => exact (Kd.R_reads' HO920.out).2.1); rintro e w75 ⟨rfl, hb⟩; refine ⟨_, rfl, ?_⟩; have n0_ := Aside0.mk (Kd.R_below (by (with_reducible repeat (first | apply Kd.R_alloc | apply Kd.R_drewN | apply Kd.R_drew)); exact (Kd.R_mono (Kd.R_far (p := ⟨gb921, 4, none⟩) (Kd.R_far (p := ⟨gb921, 3, none⟩) (Kd.R_far (p := ⟨gb921, 2, none⟩) (Kd.R_far (p := ⟨gb921, 1, none⟩) (Kd.R_far (p := ⟨gb921, 0, none⟩) (Kd.R_types HO896.out BK921.out (by decide)) (fun _ hk => hk.2) (.int .i64 t914)) (fun _ hk => hk.2) (.int .i64 t915)) (fun _ hk => hk.2) (.int .i64 t916)) (fun _ hk => hk.2) (.int .i64 t917)) (fun _ hk => hk.2) (.slice Ao72 t918.length co72)) (fun _ h_ => h_.1))) hb); have n1_ := Aside0.mk (Kd.R_below (by (with_reducible repeat (first | apply Kd.R_alloc | apply Kd.R_drewN | apply Kd.R_drew)); exact (Kd.R_mono (Kd.R_far (p := ⟨gb921, 4, none⟩) (Kd.R_far (p := ⟨gb921, 3, none⟩) (Kd.R_far (p := ⟨gb921, 2, none⟩) (Kd.R_far (p := ⟨gb921, 1, none⟩) (Kd.R_far (p := ⟨gb921, 0, none⟩) (Kd.R_types HO899.out BK921.out (by decide)) (fun _ hk => hk.2) (.int .i64 t914)) (fun _ hk => hk.2) (.int .i64 t915)) (fun _ hk => hk.2) (.int .i64 t916)) (fun _ hk => hk.2) (.int .i64 t917)) (fun _ hk => hk.2) (.slice Ao72 t918.length co72)) (fun _ h_ => h_.1))) hb); have n2_ := Aside0.mk (Kd.R_below (by (with_reducible repeat (first | apply Kd.R_alloc | apply Kd.R_drewN | apply Kd.R_drew)); exact (Kd.R_mono (Kd.R_far (p := ⟨gb921, 4, none⟩) (Kd.R_far (p := ⟨gb921, 3, none⟩) (Kd.R_far (p := ⟨gb921, 2, none⟩) (Kd.R_far (p := ⟨gb921, 1, none⟩) (Kd.R_far (p := ⟨gb921, 0, none⟩) (Kd.R_types HO906.out BK921.out (by decide)) (fun _ hk => hk.2) (.int .i64 t914)) (fun _ hk => hk.2) (.int .i64 t915)) (fun _ hk => hk.2) (.int .i64 t916)) (fun _ hk => hk.2) (.int .i64 t917)) (fun _ hk => hk.2) (.slice Ao72 t918.length co72)) (fun _ h_ => h_.1))) hb); have n3_ := Aside0.mk (Kd.R_below z61x12 hb); have n4_ := Aside0.mk (Kd.R_below z61x14 hb); have n5_ := Aside0.mk (Kd.R_below z61x16 hb); have n6_ := Aside0.mk (blk_below (g := gb891) (o := .cells #[.int .i64 a2_0, .int .i64 a2_1, .int .i64 a2_2, .int .i64 a2_3, .slice A2_4 l2_4.length c2_4] 31 (0, 0)) z61x1 hb); have n7_ := Aside0.mk (blk_below (g := gb921) (o := .cells #[.int .i64 t914, .int .i64 t915, .int .i64 t916, .int .i64 t917, .slice Ao72 t918.length co72] 36 (0, 0)) z61x0 hb); have n8_ := Aside0.mk (below_step z61x19 hb); clear HO896; clear HO899; clear HO906; clear HO910; clear HO913; clear HO920; clear BK891; clear BK921; clear HB; have HO896 := n0_; have HO899 := n1_; have HO906 := n2_; have HO910 := n3_; have HO913 := n4_; have HO920 := n5_; have BK891 := n6_; have BK921 := n7_; have HB := n8_; clear n0_ n1_ n2_ n3_ n4_ n5_ n6_ n7_ n8_; (try clear hb); (try clear hb2); (try clear hk); (try clear hi)) | ((with_reducible refine gate_callee (f := 43) rfl ?_); refine goesL_ (some 48) rfl rfl Try.func43 (by kernel_rfl) rfl #[.slice A0 l0.length c0] rfl z61x23 ?_; (with_reducible refine (laws_toIntS.calls k _ _ l0 t923 _ ?side1 ?side2 A45.out).mono ?_); (case side1 => repeat (first | exact (Kd.C_below HR0.out HB.out) | (with_reducible refine Kd.C_alloc ?_ _) | (with_reducible refine Kd.C_drewN ?_ _) | (with_reducible refine Kd.C_drew ?_))); (case side2 => exact HC0.out); rintro e w76 ⟨v924, rfl, ho0, hb⟩; refine ⟨_, rfl, ?_⟩; have n0_ := Aside0.mk (Kd.R_elder' z61x27 (Kd.R_base ho0) hb); have n1_ := Aside0.mk (Kd.R_below z61x28 hb); have n2_ := Aside0.mk (Kd.R_below z61x29 hb); have n3_ := Aside0.mk (Kd.R_elder' z61x30 (Kd.R_base ho0) hb); have n4_ := Aside0.mk (Kd.R_below z61x31 hb); have n5_ := Aside0.mk (Kd.R_below z61x32 hb); have n6_ := Aside0.mk (Kd.R_lower (Kd.R_new' (Kd.R_new' ho0 (Kd.R_lt z61x27)) (Kd.R_lt z61x30)) (below_size z61x19)); have n7_ := Aside0.mk (blk_below (g := gb891) (o := .cells #[.int .i64 a2_0, .int .i64 a2_1, .int .i64 a2_2, .int .i64 a2_3, .slice A2_4 l2_4.length c2_4] 31 (0, 0)) z61x25 hb); have n8_ := Aside0.mk (blk_below (g := gb921) (o := .cells #[.int .i64 t914, .int .i64 t915, .int .i64 t916, .int .i64 t917, .slice Ao72 t918.length co72] 36 (0, 0)) z61x26 hb); have n9_ := Aside0.mk (below_step z61x19 hb); clear HO896; clear HO899; clear HO906; clear HO910; clear HO913; clear HO920; clear BK891; clear BK921; clear HB; have HO896 := n0_; have HO899 := n1_; have HO906 := n2_; have HO910 := n3_; have HO913 := n4_; have HO920 := n5_; have HO925 := n6_; have BK891 := n7_; have BK921 := n8_; have HB := n9_; clear n0_ n1_ n2_ n3_ n4_ n5_ n6_ n7_ n8_ n9_; (try clear hb); (try clear hb2); (try clear hk); (try clear hi); (try clear ho0); obtain ⟨Ao77, co77, eo77⟩ := Kd.R_slice HO925.out; subst eo77) | ((with_reducible refine gate_callee (f := 45) rfl ?_); refine goesL_ (some 49) rfl rfl Try.func45 (by kernel_rfl) rfl #[.slice Ao73 t908.length co73, .slice Ao77 t923.length co77] rfl z61x23 ?_; (with_reducible refine (laws_eqIntS.calls k _ _ t908 _ _ t923 true _ ?side1 ?side2 ?side3 ?side4 A46.out).mono ?_); (case side1 => repeat (first | exact (Kd.R_reads' HO910.out).2.2 | (with_reducible refine Kd.C_alloc ?_ _) | (with_reducible refine Kd.C_drewN ?_ _) | (with_reducible refine Kd.C_drew ?_))); (case side2 => exact (Kd.R_reads' HO910.out).2.1); (case side3 => repeat (first | exact (Kd.R_reads' HO925.out).2.2 | (with_reducible refine Kd.C_alloc ?_ _) | (with_reducible refine Kd.C_drewN ?_ _) | (with_reducible refine Kd.C_drew ?_))); (case side4 => exact (Kd.R_reads' HO925.out).2.1); rintro e w' ⟨rfl, ⟨nd, rfl⟩⟩; refine ⟨_, rfl, ?_⟩) | ((with_reducible refine gate_callee (f := 44) rfl ?_); refine goesL_ (some 53) rfl rfl Try.func44 (by kernel_rfl) rfl #[.slice A1 l1.length c1] rfl z61x23 ?_; (with_reducible refine (laws_toSealS.calls k _ _ l1 t927 _ ?side1 ?side2 A48.out).mono ?_); (case side1 => repeat (first | exact (Kd.C_below HR1.out z61x19) | (with_reducible refine Kd.C_alloc ?_ _) | (with_reducible refine Kd.C_drewN ?_ _) | (with_reducible refine Kd.C_drew ?_))); (case side2 => exact HC1.out); rintro e w78 ⟨v928, rfl, ho0, hb⟩; refine ⟨_, rfl, ?_⟩; have n0_ := Aside0.mk (Kd.R_below z61x27 hb); have n1_ := Aside0.mk (Kd.R_elder' z61x28 (Kd.R_base ho0) hb); have n2_ := Aside0.mk (Kd.R_elder' z61x29 (Kd.R_base ho0) hb); have n3_ := Aside0.mk (Kd.R_below z61x30 hb); have n4_ := Aside0.mk (Kd.R_elder' z61x31 (Kd.R_base ho0) hb); have n5_ := Aside0.mk (Kd.R_elder' z61x32 (Kd.R_base ho0) hb); have n6_ := Aside0.mk (Kd.R_below z61x33 hb); have n7_ := Aside0.mk (Kd.R_lower (Kd.R_new' (Kd.R_new' (Kd.R_new' (Kd.R_new' ho0 (Kd.R_lt z61x28)) (Kd.R_lt z61x29)) (Kd.R_lt z61x31)) (Kd.R_lt z61x32)) (below_size z61x19)); have n8_ := Aside0.mk (blk_below (g := gb891) (o := .cells #[.int .i64 a2_0, .int .i64 a2_1, .int .i64 a2_2, .int .i64 a2_3, .slice A2_4 l2_4.length c2_4] 31 (0, 0)) z61x25 hb); have n9_ := Aside0.mk (blk_below (g := gb921) (o := .cells #[.int .i64 t914, .int .i64 t915, .int .i64 t916, .int .i64 t917, .slice Ao72 t918.length co72] 36 (0, 0)) z61x26 hb); have n10_ := Aside0.mk (below_step z61x19 hb); clear HO896; clear HO899; clear HO906; clear HO910; clear HO913; clear HO920; clear HO925; clear BK891; clear BK921; clear HB; have HO896 := n0_; have HO899 := n1_; have HO906 := n2_; have HO910 := n3_; have HO913 := n4_; have HO920 := n5_; have HO925 := n6_; have HO929 := n7_; have BK891 := n8_; have BK921 := n9_; have HB := n10_; clear n0_ n1_ n2_ n3_ n4_ n5_ n6_ n7_ n8_ n9_ n10_; (try clear hb); (try clear hb2); (try clear hk); (try clear hi); (try clear ho0); obtain ⟨Ao79, co79, eo79⟩ := Kd.R_slice HO929.out; subst eo79) | ((with_reducible refine gate_callee (f := 46) rfl ?_); refine goesL_ (some 54) rfl rfl Try.func46 (by kernel_rfl) rfl #[.slice Ao74 t911.length co74, .slice Ao79 t927.length co79] rfl z61x23 ?_; (with_reducible refine (laws_eqSealS.calls k _ _ t911 _ _ t927 true _ ?side1 ?side2 ?side3 ?side4 A49.out).mono ?_); (case side1 => repeat (first | exact (Kd.R_reads' HO913.out).2.2 | (with_reducible refine Kd.C_alloc ?_ _) | (with_reducible refine Kd.C_drewN ?_ _) | (with_reducible refine Kd.C_drew ?_))); (case side2 => exact (Kd.R_reads' HO913.out).2.1); (case side3 => repeat (first | exact (Kd.R_reads' HO929.out).2.2 | (with_reducible refine Kd.C_alloc ?_ _) | (with_reducible refine Kd.C_drewN ?_ _) | (with_reducible refine Kd.C_drew ?_))); (case side4 => exact (Kd.R_reads' HO929.out).2.1); rintro e w80 ⟨rfl, hb⟩; refine ⟨_, rfl, ?_⟩; have n0_ := Aside0.mk (Kd.R_below z61x27 hb); have n1_ := Aside0.mk (Kd.R_below z61x28 hb); have n2_ := Aside0.mk (Kd.R_below z61x29 hb); have n3_ := Aside0.mk (Kd.R_below z61x30 hb); have n4_ := Aside0.mk (Kd.R_below z61x31 hb); have n5_ := Aside0.mk (Kd.R_below z61x32 hb); have n6_ := Aside0.mk (Kd.R_below z61x33 hb); have n7_ := Aside0.mk (Kd.R_below z61x34 hb); have n8_ := Aside0.mk (blk_below (g := gb891) (o := .cells #[.int .i64 a2_0, .int .i64 a2_1, .int .i64 a2_2, .int .i64 a2_3, .slice A2_4 l2_4.length c2_4] 31 (0, 0)) z61x25 hb); have n9_ := Aside0.mk (blk_below (g := gb921) (o := .cells #[.int .i64 t914, .int .i64 t915, .int .i64 t916, .int .i64 t917, .slice Ao72 t918.length co72] 36 (0, 0)) z61x26 hb); have n10_ := Aside0.mk (below_step z61x19 hb); clear HO896; clear HO899; clear HO906; clear HO910; clear HO913; clear HO920; clear HO925; clear HO929; clear BK891; clear BK921; clear HB; have HO896 := n0_; have HO899 := n1_; have HO906 := n2_; have HO910 := n3_; have HO913 := n4_; have HO920 := n5_; have HO925 := n6_; have HO929 := n7_; have BK891 := n8_; have BK921 := n9_; have HB := n10_; clear n0_ n1_ n2_ n3_ n4_ n5_ n6_ n7_ n8_ n9_ n10_; (try clear hb); (try clear hb2); (try clear hk); (try clear hi)))
        have n0_ := Aside0.mk (Kd.R_drew HO896.out)
        have n1_ := Aside0.mk (Kd.R_drew HO899.out)
        have n2_ := Aside0.mk (Kd.R_drew HO906.out)
        have n3_ := Aside0.mk (Kd.R_drew HO910.out)
        have n4_ := Aside0.mk (Kd.R_drew HO913.out)
        have n5_ := Aside0.mk (Kd.R_drew HO920.out)
        have n6_ := Aside0.mk (Kd.R_drew HO925.out)
        have n7_ := Aside0.mk (Kd.R_drew HO929.out)
        have n8_ := Aside0.mk (blk_drew BK891.out)
        have n9_ := Aside0.mk (blk_drew BK921.out)
        have n10_ := Aside0.mk (below_drew1 HB.out)
        clear HO896
        clear HO899
        clear HO906
        clear HO910
        clear HO913
        clear HO920
        clear HO925
        clear HO929
        clear BK891
        clear BK921
        clear HB
        have HO896 := n0_
        have HO899 := n1_
        have HO906 := n2_
        have HO910 := n3_
        have HO913 := n4_
        have HO920 := n5_
        have HO925 := n6_
        have HO929 := n7_
        have BK891 := n8_
        have BK921 := n9_
        have HB := n10_
        clear n0_ n1_ n2_ n3_ n4_ n5_ n6_ n7_ n8_ n9_ n10_
        refine start_ (n := 5) (S := fun w' => w'.cell? ⟨gb921, 0, none⟩ = some (.int .i64 t914) ∧ w'.cell? ⟨gb921, 1, none⟩ = some (.int .i64 t915) ∧ w'.cell? ⟨gb921, 2, none⟩ = some (.int .i64 t916) ∧ w'.cell? ⟨gb921, 3, none⟩ = some (.int .i64 t917) ∧ w'.cell? ⟨gb921, 4, none⟩ = some (.slice Ao72 t918.length co72) ∧ w'.cell? ⟨gb891, 0, none⟩ = some (.int .i64 a2_0) ∧ w'.cell? ⟨gb891, 1, none⟩ = some (.int .i64 a2_1) ∧ w'.cell? ⟨gb891, 2, none⟩ = some (.int .i64 a2_2) ∧ w'.cell? ⟨gb891, 3, none⟩ = some (.int .i64 a2_3) ∧ w'.cell? ⟨gb891, 4, none⟩ = some (.slice A2_4 l2_4.length c2_4)) (ds := []) #[false, false, false, false, false] (by kernel_rfl) rfl rfl ⟨(blk_cell BK921.out 0).trans rfl, (blk_cell BK921.out 1).trans rfl, (blk_cell BK921.out 2).trans rfl, (blk_cell BK921.out 3).trans rfl, (blk_cell BK921.out 4).trans rfl, (blk_cell BK891.out 0).trans rfl, (blk_cell BK891.out 1).trans rfl, (blk_cell BK891.out 2).trans rfl, (blk_cell BK891.out 3).trans rfl, (blk_cell BK891.out 4).trans rfl⟩ (fun hHeld => ?_)
        generalize w80.drew = w81 at HO896 HO899 HO906 HO910 HO913 HO920 HO925 HO929 BK891 BK921 HB hHeld ⊢
        refine take_ (i := 0) (N := some 56) (v := ?_) (a' := ?_) #[true, false, false, false, false] rfl rfl (by kernel_rfl) (fun _ _ _ h => h) (Or.inl ⟨by rfl, ?_⟩) hHeld ?_ ?_
        rotate_left
        ·rintro w' ⟨s0, s1, s2, s3, s4, s5, s6, s7, s8, s9⟩
         go_simp
         with_reducible rfl
        rotate_left
        ·simp only [Act.put, List.setIfInBounds_toArray, List.set_cons_zero, List.set_cons_succ, i64_w, i32_w]
         rfl
        refine take_ (i := 1) (N := some 57) (v := ?_) (a' := ?_) #[true, true, false, false, false] rfl rfl (by kernel_rfl) (fun _ _ _ h => h) (Or.inl ⟨by rfl, ?_⟩) hHeld ?_ ?_
        rotate_left
        ·rintro w' ⟨s0, s1, s2, s3, s4, s5, s6, s7, s8, s9⟩
         go_simp
         with_reducible rfl
        rotate_left
        ·simp only [Act.put, List.setIfInBounds_toArray, List.set_cons_zero, List.set_cons_succ, i64_w, i32_w]
         rfl
        refine one_ (i := 2) (N := some 58) #[true, true, true, false, false] rfl rfl (by kernel_rfl) (by decide) (fun K hK => ?_)
        refine goes_ Try.func28 (by kernel_rfl) rfl #[.agg #[.int .i64 a2_0, .int .i64 a2_1, .int .i64 a2_2, .int .i64 a2_3, .slice A2_4 l2_4.length c2_4]] (by rfl) rfl rfl z61x23 ?_
        with_reducible refine (laws_toMsg.calls k a2_0 a2_1 a2_2 a2_3 _ _ l2_4 t931 t932 t933 t934 t935 _ ?side1 ?side2 A51.out).mono ?_
        (case side1 => repeat (first | exact (Kd.C_below HR2_4.out HB.out) | (with_reducible refine Kd.C_alloc ?_ _) | (with_reducible refine Kd.C_drewN ?_ _) | (with_reducible refine Kd.C_drew ?_)))
        (case side2 => exact HC2_4.out)
        rintro e w82 ⟨v936, rfl, ho0, hb⟩
        refine ⟨_, rfl, ?_⟩
        have n0_ := Aside0.mk (Kd.R_below z61x27 hb)
        have n1_ := Aside0.mk (Kd.R_elder' z61x28 (Kd.R_base ho0) hb)
        have n2_ := Aside0.mk (Kd.R_elder' z61x29 (Kd.R_base ho0) hb)
        have n3_ := Aside0.mk (Kd.R_below z61x30 hb)
        have n4_ := Aside0.mk (Kd.R_elder' z61x31 (Kd.R_base ho0) hb)
        have n5_ := Aside0.mk (Kd.R_elder' z61x32 (Kd.R_base ho0) hb)
        have n6_ := Aside0.mk (Kd.R_below z61x33 hb)
        have n7_ := Aside0.mk (Kd.R_elder' z61x34 (Kd.R_base ho0) hb)
        have n8_ := Aside0.mk (Kd.R_lower (Kd.R_new' (Kd.R_new' (Kd.R_new' (Kd.R_new' (Kd.R_new' ho0 (Kd.R_lt z61x28)) (Kd.R_lt z61x29)) (Kd.R_lt z61x31)) (Kd.R_lt z61x32)) (Kd.R_lt z61x34)) (below_size z61x19))
        have n9_ := Aside0.mk (blk_below (g := gb891) (o := .cells #[.int .i64 a2_0, .int .i64 a2_1, .int .i64 a2_2, .int .i64 a2_3, .slice A2_4 l2_4.length c2_4] 31 (0, 0)) z61x25 hb)
        have n10_ := Aside0.mk (blk_below (g := gb921) (o := .cells #[.int .i64 t914, .int .i64 t915, .int .i64 t916, .int .i64 t917, .slice Ao72 t918.length co72] 36 (0, 0)) z61x26 hb)
        have n11_ := Aside0.mk (below_step z61x19 hb)
        clear HO896
        clear HO899
        clear HO906
        clear HO910
        clear HO913
        clear HO920
        clear HO925
        clear HO929
        clear BK891
        clear BK921
        clear HB
        have HO896 := n0_
        have HO899 := n1_
        have HO906 := n2_
        have HO910 := n3_
        have HO913 := n4_
        have HO920 := n5_
        have HO925 := n6_
        have HO929 := n7_
        have HO937 := n8_
        have BK891 := n9_
        have BK921 := n10_
        have HB := n11_
        clear n0_ n1_ n2_ n3_ n4_ n5_ n6_ n7_ n8_ n9_ n10_ n11_
        (try clear hb)
        (try clear hb2)
        (try clear hk)
        (try clear hi)
        (try clear ho0)
        obtain ⟨Ao83, co83, eo83⟩ := Kd.R_slice HO937.out
        (first | subst eo83 | (injection eo83 with f1_ f2_ f3_; have f4_ := f1_.symm; have f5_ := f3_.symm; clear f1_ f2_ f3_; subst f4_; subst f5_))
        refine hK.out _ _ ⟨(blk_cell BK921.out 0).trans rfl, (blk_cell BK921.out 1).trans rfl, (blk_cell BK921.out 2).trans rfl, (blk_cell BK921.out 3).trans rfl, (blk_cell BK921.out 4).trans rfl, (blk_cell BK891.out 0).trans rfl, (blk_cell BK891.out 1).trans rfl, (blk_cell BK891.out 2).trans rfl, (blk_cell BK891.out 3).trans rfl, (blk_cell BK891.out 4).trans rfl⟩ (fun hHeld => ?_)
        clear hK K
        refine norm_ (a' := ?_) ?_ ?_
        rotate_left
        ·show Act.put _ (some 58) _ = _
         simp only [Act.put, List.setIfInBounds_toArray, List.set_cons_zero, List.set_cons_succ, i64_w, i32_w]
         rfl
        refine one_ (i := 3) (N := some 59) #[true, true, true, true, false] rfl rfl (by kernel_rfl) (by decide) (fun K hK => ?_)
        refine goes_ Try.func30 (by kernel_rfl) rfl #[.agg #[.int .i64 t914, .int .i64 t915, .int .i64 t916, .int .i64 t917, .slice Ao72 t918.length co72], .agg #[.int .i64 t931, .int .i64 t932, .int .i64 t933, .int .i64 t934, .slice Ao83 t935.length co83]] (by rfl) rfl rfl z61x23 ?_
        with_reducible refine (laws_eqMsg.calls k t914 t915 t916 t917 _ _ t918 t931 t932 t933 t934 _ _ t935 true _ ?side1 ?side2 ?side3 ?side4 A52.out).mono ?_
        (case side1 => repeat (first | exact (Kd.R_reads' HO920.out).2.2 | (with_reducible refine Kd.C_alloc ?_ _) | (with_reducible refine Kd.C_drewN ?_ _) | (with_reducible refine Kd.C_drew ?_)))
        (case side2 => exact (Kd.R_reads' HO920.out).2.1)
        (case side3 => repeat (first | exact (Kd.R_reads' HO937.out).2.2 | (with_reducible refine Kd.C_alloc ?_ _) | (with_reducible refine Kd.C_drewN ?_ _) | (with_reducible refine Kd.C_drew ?_)))
        (case side4 => exact (Kd.R_reads' HO937.out).2.1)
        rintro e w84 ⟨rfl, hb⟩
        refine ⟨_, rfl, ?_⟩
        have n0_ := Aside0.mk (Kd.R_below z61x27 hb)
        have n1_ := Aside0.mk (Kd.R_below z61x28 hb)
        have n2_ := Aside0.mk (Kd.R_below z61x29 hb)
        have n3_ := Aside0.mk (Kd.R_below z61x30 hb)
        have n4_ := Aside0.mk (Kd.R_below z61x31 hb)
        have n5_ := Aside0.mk (Kd.R_below z61x32 hb)
        have n6_ := Aside0.mk (Kd.R_below z61x33 hb)
        have n7_ := Aside0.mk (Kd.R_below z61x34 hb)
        have n8_ := Aside0.mk (Kd.R_below (by (with_reducible repeat (first | apply Kd.R_alloc | apply Kd.R_drewN | apply Kd.R_drew)); exact HO937.out) hb)
        have n9_ := Aside0.mk (blk_below (g := gb891) (o := .cells #[.int .i64 a2_0, .int .i64 a2_1, .int .i64 a2_2, .int .i64 a2_3, .slice A2_4 l2_4.length c2_4] 31 (0, 0)) z61x25 hb)
        have n10_ := Aside0.mk (blk_below (g := gb921) (o := .cells #[.int .i64 t914, .int .i64 t915, .int .i64 t916, .int .i64 t917, .slice Ao72 t918.length co72] 36 (0, 0)) z61x26 hb)
        have n11_ := Aside0.mk (below_step z61x19 hb)
        clear HO896
        clear HO899
        clear HO906
        clear HO910
        clear HO913
        clear HO920
        clear HO925
        clear HO929
        clear HO937
        clear BK891
        clear BK921
        clear HB
        have HO896 := n0_
        have HO899 := n1_
        have HO906 := n2_
        have HO910 := n3_
        have HO913 := n4_
        have HO920 := n5_
        have HO925 := n6_
        have HO929 := n7_
        have HO937 := n8_
        have BK891 := n9_
        have BK921 := n10_
        have HB := n11_
        clear n0_ n1_ n2_ n3_ n4_ n5_ n6_ n7_ n8_ n9_ n10_ n11_
        (try clear hb)
        (try clear hb2)
        (try clear hk)
        (try clear hi)
        refine hK.out _ _ ⟨(blk_cell BK921.out 0).trans rfl, (blk_cell BK921.out 1).trans rfl, (blk_cell BK921.out 2).trans rfl, (blk_cell BK921.out 3).trans rfl, (blk_cell BK921.out 4).trans rfl, (blk_cell BK891.out 0).trans rfl, (blk_cell BK891.out 1).trans rfl, (blk_cell BK891.out 2).trans rfl, (blk_cell BK891.out 3).trans rfl, (blk_cell BK891.out 4).trans rfl⟩ (fun hHeld => ?_)
        clear hK K
        refine norm_ (a' := ?_) ?_ ?_
        rotate_left
        ·show Act.put _ (some 59) _ = _
         simp only [Act.put, List.setIfInBounds_toArray, List.set_cons_zero, List.set_cons_succ, i64_w, i32_w]
         rfl
        refine pure_ (i := 4) (N := some 60) (v := ?_) (a' := ?_) #[true, true, true, true, true] rfl rfl (by kernel_rfl) (fun _ _ _ h => h) (Or.inl ⟨by rfl, ?_⟩) ?_ ?_
        rotate_left
        ·intro w'
         go_simp
         with_reducible rfl
        rotate_left
        ·simp only [Act.put, List.setIfInBounds_toArray, List.set_cons_zero, List.set_cons_succ, i64_w, i32_w]
         rfl
        refine done_ (by kernel_rfl) ?_
        try go_wp2
        go_ret
        exact ⟨by first | rfl | (simp [errW_none, errW_some] <;> rfl) | (simp [*, errW_none, errW_some] <;> rfl), by repeat (first | (with_reducible first | exact HB.out | apply below_alloc | apply pw_below_drewN | apply below_drew1 | refine below_set ?_ GE891.out | refine below_set ?_ GE921.out) | exact HB.out)⟩
       ·replace c53 := Bool.eq_false_iff.mpr c53
        subst c53
        rw [if_neg (show ¬ (false = true) by decide)] at H
        obtain rfl := Option.some.inj H
        go_enter Try.func17, Try.ntmps17
        try go_wp2_with (first | ((with_reducible refine gate_dst (N := 5) rfl ?_); refine box_event ?hg (N := 5) ?hd (cs := #[.int .i64 a2_0, .int .i64 a2_1, .int .i64 a2_2, .int .i64 a2_3, .slice A2_4 l2_4.length c2_4]) (t := 31) ?hr ?_; (case hd => rfl); (case hg => rfl); (case hr => first | (go_simp; done) | (go_simp; rfl)); intro gb891 hg w85 hbox hb; have n0_ := Aside0.mk (below_step z61x24 hb); have n1_ := Aside0.mk (hbox); have n2_ := Aside0.mk ((z61x22 : w.heap.size ≤ gb891)); have n3_ := Aside0.mk ((z61x22 : w.heap.size ≤ gb891)); clear HB; have HB := n0_; have BK891 := n1_; have GW891 := n2_; have GE891 := n3_; clear n0_ n1_ n2_ n3_; clear hb hbox hg) | ((with_reducible refine gate_callee (f := 42) rfl ?_); refine goesL_ (some 18) rfl rfl Try.func42 (by kernel_rfl) rfl #[.slice A1 l1.length c1, .int .i64 1048576] rfl z61x23 ?_; (with_reducible refine (laws_szSealS.calls _ _ l1 1048576 t892 _ ?side1 ?side2 A6.out).mono ?_); (case side1 => repeat (first | exact (Kd.C_below HR1.out HB.out) | (with_reducible refine Kd.C_alloc ?_ _) | (with_reducible refine Kd.C_drewN ?_ _) | (with_reducible refine Kd.C_drew ?_))); (case side2 => exact HC1.out); rintro e w' ⟨rfl, ⟨nd, rfl⟩⟩; refine ⟨_, rfl, ?_⟩; (try (rw [drewN_self w85]; generalize hq_ : World.drewN w85 _ = w85; have n0_ : Aside0 (w85.heap[gb891]? = some (.cells #[.int .i64 a2_0, .int .i64 a2_1, .int .i64 a2_2, .int .i64 a2_3, .slice A2_4 l2_4.length c2_4] 31 (0, 0))) := ⟨by rw [← hq_]; exact z61x25⟩; have n1_ : Aside0 (Below w.heap.size w w85) := ⟨by rw [← hq_]; exact z61x21⟩; clear BK891 HB hq_; have BK891 := n0_; have HB := n1_; clear n0_ n1_)); have hcz86_0 : w85.cell? ⟨gb891, 0, none⟩ = some (.int .i64 a2_0) := (blk_cell BK891.out 0).trans rfl; have hcz86_1 : w85.cell? ⟨gb891, 1, none⟩ = some (.int .i64 a2_1) := (blk_cell BK891.out 1).trans rfl; have hcz86_2 : w85.cell? ⟨gb891, 2, none⟩ = some (.int .i64 a2_2) := (blk_cell BK891.out 2).trans rfl; have hcz86_3 : w85.cell? ⟨gb891, 3, none⟩ = some (.int .i64 a2_3) := (blk_cell BK891.out 3).trans rfl; have hcz86_4 : w85.cell? ⟨gb891, 4, none⟩ = some (.slice A2_4 l2_4.length c2_4) := (blk_cell BK891.out 4).trans rfl; have hfz86_0 := blk_frozen BK891.out 0; have hfz86_1 := blk_frozen BK891.out 1; have hfz86_2 := blk_frozen BK891.out 2; have hfz86_3 := blk_frozen BK891.out 3; have hfz86_4 := blk_frozen BK891.out 4) | ((with_reducible refine gate_callee (f := 26) rfl ?_); refine goesL_ (some 23) rfl rfl Try.func26 (by kernel_rfl) rfl #[.agg #[.int .i64 a2_0, .int .i64 a2_1, .int .i64 a2_2, .int .i64 a2_3, .slice A2_4 l2_4.length c2_4], .int .i64 t892] rfl z61x23 ?_; (with_reducible refine (laws_szMsg.calls a2_0 a2_1 a2_2 a2_3 _ _ l2_4 t892 t893 _ ?side1 ?side2 A9.out).mono ?_); (case side1 => repeat (first | exact (Kd.C_below HR2_4.out HB.out) | (with_reducible refine Kd.C_alloc ?_ _) | (with_reducible refine Kd.C_drewN ?_ _) | (with_reducible refine Kd.C_drew ?_))); (case side2 => exact HC2_4.out); rintro e w87 ⟨rfl, hb⟩; refine ⟨_, rfl, ?_⟩; have n0_ := Aside0.mk (blk_below (g := gb891) (o := .cells #[.int .i64 a2_0, .int .i64 a2_1, .int .i64 a2_2, .int .i64 a2_3, .slice A2_4 l2_4.length c2_4] 31 (0, 0)) z61x25 hb); have n1_ := Aside0.mk (below_step z61x21 hb); clear BK891; clear HB; have BK891 := n0_; have HB := n1_; clear n0_ n1_; (try clear hb); (try clear hb2); (try clear hk); (try clear hi)))
        have n0_ := Aside0.mk (blk_drew BK891.out)
        have n1_ := Aside0.mk (below_drew1 HB.out)
        clear BK891
        clear HB
        have BK891 := n0_
        have HB := n1_
        clear n0_ n1_
        refine start_ (n := 8) (S := fun w' => w'.cell? ⟨gb891, 0, none⟩ = some (.int .i64 a2_0) ∧ w'.cell? ⟨gb891, 1, none⟩ = some (.int .i64 a2_1) ∧ w'.cell? ⟨gb891, 2, none⟩ = some (.int .i64 a2_2) ∧ w'.cell? ⟨gb891, 3, none⟩ = some (.int .i64 a2_3) ∧ w'.cell? ⟨gb891, 4, none⟩ = some (.slice A2_4 l2_4.length c2_4)) (ds := []) #[false, false, false, false, false, false, false, false] (by kernel_rfl) rfl rfl ⟨(blk_cell BK891.out 0).trans rfl, (blk_cell BK891.out 1).trans rfl, (blk_cell BK891.out 2).trans rfl, (blk_cell BK891.out 3).trans rfl, (blk_cell BK891.out 4).trans rfl⟩ (fun hHeld => ?_); refine with_tabW laws_FnExactKnowBuild.tab10 laws_FnExactKnowBuild.bits10 (fun HT_ HW_ => ?_)
        generalize w87.drew = w88 at BK891 HB hHeld ⊢
        refine pure_ (i := 0) (N := some 26) (v := ?_) (a' := ?_) #[true, false, false, false, false, false, false, false] rfl rfl (any_of HT_.out (by kernel_rfl)) (fun _ _ _ h => h) (Or.inl ⟨by rfl, ?_⟩) ?_ ?_
        rotate_left
        ·intro w'
         go_simp
         with_reducible rfl
        rotate_left
        ·simp only [Act.put, List.setIfInBounds_toArray, List.set_cons_zero, List.set_cons_succ, i64_w, i32_w]
         rfl
        refine pure_ (i := 2) (N := some 28) (v := ?_) (a' := ?_) #[true, false, true, false, false, false, false, false] rfl rfl (any_of HT_.out (by kernel_rfl)) (fun _ _ _ h => h) (Or.inl ⟨by rfl, ?_⟩) ?_ ?_
        rotate_left
        ·intro w'
         go_simp
         with_reducible rfl
        rotate_left
        ·simp only [Act.put, List.setIfInBounds_toArray, List.set_cons_zero, List.set_cons_succ, i64_w, i32_w]
         rfl
        refine take_ (i := 4) (N := some 30) (v := ?_) (a' := ?_) #[true, false, true, false, true, false, false, false] rfl rfl (take_ofW HT_.out HW_.out (by kernel_rfl)) (fun _ _ _ h => h) (Or.inl ⟨by rfl, ?_⟩) hHeld ?_ ?_
        rotate_left
        ·rintro w' ⟨s0, s1, s2, s3, s4⟩
         go_simp
         with_reducible rfl
        rotate_left
        ·simp only [Act.put, List.setIfInBounds_toArray, List.set_cons_zero, List.set_cons_succ, i64_w, i32_w]
         rfl
        refine one_ (i := 1) (N := some 27) #[true, true, true, false, true, false, false, false] rfl rfl (one_of HT_.out (by kernel_rfl)) (by decide) (fun K hK => ?_)
        refine goes_ Try.func43 (by kernel_rfl) rfl #[.slice A0 l0.length c0] (by rfl) rfl rfl z61x23 ?_
        with_reducible refine (laws_toIntS.calls k _ _ l0 t894 _ ?side1 ?side2 A14.out).mono ?_
        (case side1 => repeat (first | exact (Kd.C_below HR0.out HB.out) | (with_reducible refine Kd.C_alloc ?_ _) | (with_reducible refine Kd.C_drewN ?_ _) | (with_reducible refine Kd.C_drew ?_)))
        (case side2 => exact HC0.out)
        rintro e w89 ⟨v895, rfl, ho0, hb⟩
        refine ⟨_, rfl, ?_⟩
        have n0_ := Aside0.mk (Kd.R_lower ho0 (below_size z61x21))
        have n1_ := Aside0.mk (blk_below (g := gb891) (o := .cells #[.int .i64 a2_0, .int .i64 a2_1, .int .i64 a2_2, .int .i64 a2_3, .slice A2_4 l2_4.length c2_4] 31 (0, 0)) z61x25 hb)
        have n2_ := Aside0.mk (below_step z61x21 hb)
        clear BK891
        clear HB
        have HO896 := n0_
        have BK891 := n1_
        have HB := n2_
        clear n0_ n1_ n2_
        (try clear hb)
        (try clear hb2)
        (try clear hk)
        (try clear hi)
        (try clear ho0)
        refine hK.out _ _ ⟨(blk_cell BK891.out 0).trans rfl, (blk_cell BK891.out 1).trans rfl, (blk_cell BK891.out 2).trans rfl, (blk_cell BK891.out 3).trans rfl, (blk_cell BK891.out 4).trans rfl⟩ (fun hHeld => ?_)
        clear hK K
        refine norm_ (a' := ?_) ?_ ?_
        rotate_left
        ·show Act.put _ (some 27) _ = _
         simp only [Act.put, List.setIfInBounds_toArray, List.set_cons_zero, List.set_cons_succ, i64_w, i32_w]
         rfl
        refine one_ (i := 3) (N := some 29) #[true, true, true, true, true, false, false, false] rfl rfl (one_of HT_.out (by kernel_rfl)) (by decide) (fun K hK => ?_)
        refine goes_ Try.func44 (by kernel_rfl) rfl #[.slice A1 l1.length c1] (by rfl) rfl rfl z61x23 ?_
        with_reducible refine (laws_toSealS.calls k _ _ l1 t897 _ ?side1 ?side2 A15.out).mono ?_
        (case side1 => repeat (first | exact (Kd.C_below HR1.out HB.out) | (with_reducible refine Kd.C_alloc ?_ _) | (with_reducible refine Kd.C_drewN ?_ _) | (with_reducible refine Kd.C_drew ?_)))
        (case side2 => exact HC1.out)
        rintro e w90 ⟨v898, rfl, ho0, hb⟩
        refine ⟨_, rfl, ?_⟩
        have n0_ := Aside0.mk (Kd.R_below z61x27 hb)
        have n1_ := Aside0.mk (Kd.R_lower ho0 (below_size z61x21))
        have n2_ := Aside0.mk (blk_below (g := gb891) (o := .cells #[.int .i64 a2_0, .int .i64 a2_1, .int .i64 a2_2, .int .i64 a2_3, .slice A2_4 l2_4.length c2_4] 31 (0, 0)) z61x25 hb)
        have n3_ := Aside0.mk (below_step z61x21 hb)
        clear HO896
        clear BK891
        clear HB
        have HO896 := n0_
        have HO899 := n1_
        have BK891 := n2_
        have HB := n3_
        clear n0_ n1_ n2_ n3_
        (try clear hb)
        (try clear hb2)
        (try clear hk)
        (try clear hi)
        (try clear ho0)
        refine hK.out _ _ ⟨(blk_cell BK891.out 0).trans rfl, (blk_cell BK891.out 1).trans rfl, (blk_cell BK891.out 2).trans rfl, (blk_cell BK891.out 3).trans rfl, (blk_cell BK891.out 4).trans rfl⟩ (fun hHeld => ?_)
        clear hK K
        refine norm_ (a' := ?_) ?_ ?_
        rotate_left
        ·show Act.put _ (some 29) _ = _
         simp only [Act.put, List.setIfInBounds_toArray, List.set_cons_zero, List.set_cons_succ, i64_w, i32_w]
         rfl
        refine one_ (i := 5) (N := some 31) #[true, true, true, true, true, true, false, false] rfl rfl (one_of HT_.out (by kernel_rfl)) (by decide) (fun K hK => ?_)
        refine goes_ Try.func28 (by kernel_rfl) rfl #[.agg #[.int .i64 a2_0, .int .i64 a2_1, .int .i64 a2_2, .int .i64 a2_3, .slice A2_4 l2_4.length c2_4]] (by rfl) rfl rfl z61x23 ?_
        with_reducible refine (laws_toMsg.calls k a2_0 a2_1 a2_2 a2_3 _ _ l2_4 t900 t901 t902 t903 t904 _ ?side1 ?side2 A16.out).mono ?_
        (case side1 => repeat (first | exact (Kd.C_below HR2_4.out HB.out) | (with_reducible refine Kd.C_alloc ?_ _) | (with_reducible refine Kd.C_drewN ?_ _) | (with_reducible refine Kd.C_drew ?_)))
        (case side2 => exact HC2_4.out)
        rintro e w91 ⟨v905, rfl, ho0, hb⟩
        refine ⟨_, rfl, ?_⟩
        have n0_ := Aside0.mk (Kd.R_below z61x27 hb)
        have n1_ := Aside0.mk (Kd.R_elder' z61x28 (Kd.R_base ho0) hb)
        have n2_ := Aside0.mk (Kd.R_lower (Kd.R_new' ho0 (Kd.R_lt z61x28)) (below_size z61x21))
        have n3_ := Aside0.mk (blk_below (g := gb891) (o := .cells #[.int .i64 a2_0, .int .i64 a2_1, .int .i64 a2_2, .int .i64 a2_3, .slice A2_4 l2_4.length c2_4] 31 (0, 0)) z61x25 hb)
        have n4_ := Aside0.mk (below_step z61x21 hb)
        clear HO896
        clear HO899
        clear BK891
        clear HB
        have HO896 := n0_
        have HO899 := n1_
        have HO906 := n2_
        have BK891 := n3_
        have HB := n4_
        clear n0_ n1_ n2_ n3_ n4_
        (try clear hb)
        (try clear hb2)
        (try clear hk)
        (try clear hi)
        (try clear ho0)
        obtain ⟨Ao92, co92, eo92⟩ := Kd.R_slice HO896.out
        (first | subst eo92 | (injection eo92 with f1_ f2_ f3_; have f4_ := f1_.symm; have f5_ := f3_.symm; clear f1_ f2_ f3_; subst f4_; subst f5_))
        obtain ⟨Ao93, co93, eo93⟩ := Kd.R_slice HO899.out
        (first | subst eo93 | (injection eo93 with f1_ f2_ f3_; have f4_ := f1_.symm; have f5_ := f3_.symm; clear f1_ f2_ f3_; subst f4_; subst f5_))
        obtain ⟨Ao94, co94, eo94⟩ := Kd.R_slice HO906.out
        (first | subst eo94 | (injection eo94 with f1_ f2_ f3_; have f4_ := f1_.symm; have f5_ := f3_.symm; clear f1_ f2_ f3_; subst f4_; subst f5_))
        refine hK.out _ _ ⟨(blk_cell BK891.out 0).trans rfl, (blk_cell BK891.out 1).trans rfl, (blk_cell BK891.out 2).trans rfl, (blk_cell BK891.out 3).trans rfl, (blk_cell BK891.out 4).trans rfl⟩ (fun hHeld => ?_)
        clear hK K
        refine norm_ (a' := ?_) ?_ ?_
        rotate_left
        ·show Act.put _ (some 31) _ = _
         simp only [Act.put, List.setIfInBounds_toArray, List.set_cons_zero, List.set_cons_succ, i64_w, i32_w]
         rfl
        refine one_ (i := 6) (N := some 32) #[true, true, true, true, true, true, true, false] rfl rfl (one_of HT_.out (by kernel_rfl)) (by decide) (fun K hK => ?_)
        refine goes_ Try.func51 (by kernel_rfl) rfl #[.slice Ao92 t894.length co92, .slice Ao93 t897.length co93, .agg #[.int .i64 t900, .int .i64 t901, .int .i64 t902, .int .i64 t903, .slice Ao94 t904.length co94]] (by rfl) rfl rfl z61x23 ?_
        with_reducible refine (spec_KnowBuild.calls k _ _ t894 _ _ t897 t900 t901 t902 t903 _ _ t904 t907 _ ?side1 ?side2 ?side3 ?side4 ?side5 ?side6 A17.out).mono ?_
        (case side1 => repeat (first | exact (Kd.R_reads' HO896.out).2.2 | (with_reducible refine Kd.C_alloc ?_ _) | (with_reducible refine Kd.C_drewN ?_ _) | (with_reducible refine Kd.C_drew ?_)))
        (case side2 => exact (Kd.R_reads' HO896.out).2.1)
        (case side3 => repeat (first | exact (Kd.R_reads' HO899.out).2.2 | (with_reducible refine Kd.C_alloc ?_ _) | (with_reducible refine Kd.C_drewN ?_ _) | (with_reducible refine Kd.C_drew ?_)))
        (case side4 => exact (Kd.R_reads' HO899.out).2.1)
        (case side5 => repeat (first | exact (Kd.R_reads' HO906.out).2.2 | (with_reducible refine Kd.C_alloc ?_ _) | (with_reducible refine Kd.C_drewN ?_ _) | (with_reducible refine Kd.C_drew ?_)))
        (case side6 => exact (Kd.R_reads' HO906.out).2.1)
        rintro e w95 ⟨rfl, hb⟩
        refine ⟨_, rfl, ?_⟩
        have n0_ := Aside0.mk (Kd.R_below z61x27 hb)
        have n1_ := Aside0.mk (Kd.R_below z61x28 hb)
        have n2_ := Aside0.mk (Kd.R_below z61x29 hb)
        have n3_ := Aside0.mk (blk_below (g := gb891) (o := .cells #[.int .i64 a2_0, .int .i64 a2_1, .int .i64 a2_2, .int .i64 a2_3, .slice A2_4 l2_4.length c2_4] 31 (0, 0)) z61x25 hb)
        have n4_ := Aside0.mk (below_step z61x21 hb)
        clear HO896
        clear HO899
        clear HO906
        clear BK891
        clear HB
        have HO896 := n0_
        have HO899 := n1_
        have HO906 := n2_
        have BK891 := n3_
        have HB := n4_
        clear n0_ n1_ n2_ n3_ n4_
        (try clear hb)
        (try clear hb2)
        (try clear hk)
        (try clear hi)
        refine hK.out _ _ ⟨(blk_cell BK891.out 0).trans rfl, (blk_cell BK891.out 1).trans rfl, (blk_cell BK891.out 2).trans rfl, (blk_cell BK891.out 3).trans rfl, (blk_cell BK891.out 4).trans rfl⟩ (fun hHeld => ?_)
        clear hK K
        refine norm_ (a' := ?_) ?_ ?_
        rotate_left
        ·show Act.put _ (some 32) _ = _
         simp only [Act.put, List.setIfInBounds_toArray, List.set_cons_zero, List.set_cons_succ, i64_w, i32_w]
         rfl
        refine pure_ (i := 7) (N := some 8) (v := ?_) (a' := ?_) #[true, true, true, true, true, true, true, true] rfl rfl (any_of HT_.out (by kernel_rfl)) (fun _ _ _ h => h) (Or.inl ⟨by rfl, ?_⟩) ?_ ?_
        rotate_left
        ·intro w'
         go_simp
         with_reducible rfl
        rotate_left
        ·simp only [Act.put, List.setIfInBounds_toArray, List.set_cons_zero, List.set_cons_succ, i64_w, i32_w]
         rfl
        refine done_ (done_of HT_.out (by kernel_rfl)) ?_
        try go_wp2_with (first | ((with_reducible refine gate_callee (f := 43) rfl ?_); refine goesL_ (some 34) rfl rfl Try.func43 (by kernel_rfl) rfl #[.slice A0 l0.length c0] rfl z61x23 ?_; (with_reducible refine (laws_toIntS.calls k _ _ l0 t908 _ ?side1 ?side2 A18.out).mono ?_); (case side1 => repeat (first | exact (Kd.C_below HR0.out HB.out) | (with_reducible refine Kd.C_alloc ?_ _) | (with_reducible refine Kd.C_drewN ?_ _) | (with_reducible refine Kd.C_drew ?_))); (case side2 => exact HC0.out); rintro e w96 ⟨v909, rfl, ho0, hb⟩; refine ⟨_, rfl, ?_⟩; have n0_ := Aside0.mk (Kd.R_elder' z61x27 (Kd.R_base ho0) hb); have n1_ := Aside0.mk (Kd.R_below z61x28 hb); have n2_ := Aside0.mk (Kd.R_below z61x29 hb); have n3_ := Aside0.mk (Kd.R_lower (Kd.R_new' ho0 (Kd.R_lt z61x27)) (below_size z61x21)); have n4_ := Aside0.mk (blk_below (g := gb891) (o := .cells #[.int .i64 a2_0, .int .i64 a2_1, .int .i64 a2_2, .int .i64 a2_3, .slice A2_4 l2_4.length c2_4] 31 (0, 0)) z61x25 hb); have n5_ := Aside0.mk (below_step z61x21 hb); clear HO896; clear HO899; clear HO906; clear BK891; clear HB; have HO896 := n0_; have HO899 := n1_; have HO906 := n2_; have HO910 := n3_; have BK891 := n4_; have HB := n5_; clear n0_ n1_ n2_ n3_ n4_ n5_; (try clear hb); (try clear hb2); (try clear hk); (try clear hi); (try clear ho0)) | ((with_reducible refine gate_callee (f := 44) rfl ?_); refine goesL_ (some 36) rfl rfl Try.func44 (by kernel_rfl) rfl #[.slice A1 l1.length c1] rfl z61x23 ?_; (with_reducible refine (laws_toSealS.calls k _ _ l1 t911 _ ?side1 ?side2 A19.out).mono ?_); (case side1 => repeat (first | exact (Kd.C_below HR1.out HB.out) | (with_reducible refine Kd.C_alloc ?_ _) | (with_reducible refine Kd.C_drewN ?_ _) | (with_reducible refine Kd.C_drew ?_))); (case side2 => exact HC1.out); rintro e w97 ⟨v912, rfl, ho0, hb⟩; refine ⟨_, rfl, ?_⟩; have n0_ := Aside0.mk (Kd.R_below z61x27 hb); have n1_ := Aside0.mk (Kd.R_elder' z61x28 (Kd.R_base ho0) hb); have n2_ := Aside0.mk (Kd.R_elder' z61x29 (Kd.R_base ho0) hb); have n3_ := Aside0.mk (Kd.R_below z61x30 hb); have n4_ := Aside0.mk (Kd.R_lower (Kd.R_new' (Kd.R_new' ho0 (Kd.R_lt z61x28)) (Kd.R_lt z61x29)) (below_size z61x21)); have n5_ := Aside0.mk (blk_below (g := gb891) (o := .cells #[.int .i64 a2_0, .int .i64 a2_1, .int .i64 a2_2, .int .i64 a2_3, .slice A2_4 l2_4.length c2_4] 31 (0, 0)) z61x25 hb); have n6_ := Aside0.mk (below_step z61x21 hb); clear HO896; clear HO899; clear HO906; clear HO910; clear BK891; clear HB; have HO896 := n0_; have HO899 := n1_; have HO906 := n2_; have HO910 := n3_; have HO913 := n4_; have BK891 := n5_; have HB := n6_; clear n0_ n1_ n2_ n3_ n4_ n5_ n6_; (try clear hb); (try clear hb2); (try clear hk); (try clear hi); (try clear ho0); have hcz98_0 : w97.cell? ⟨gb891, 0, none⟩ = some (.int .i64 a2_0) := (blk_cell BK891.out 0).trans rfl; have hcz98_1 : w97.cell? ⟨gb891, 1, none⟩ = some (.int .i64 a2_1) := (blk_cell BK891.out 1).trans rfl; have hcz98_2 : w97.cell? ⟨gb891, 2, none⟩ = some (.int .i64 a2_2) := (blk_cell BK891.out 2).trans rfl; have hcz98_3 : w97.cell? ⟨gb891, 3, none⟩ = some (.int .i64 a2_3) := (blk_cell BK891.out 3).trans rfl; have hcz98_4 : w97.cell? ⟨gb891, 4, none⟩ = some (.slice A2_4 l2_4.length c2_4) := (blk_cell BK891.out 4).trans rfl; have hfz98_0 := blk_frozen BK891.out 0; have hfz98_1 := blk_frozen BK891.out 1; have hfz98_2 := blk_frozen BK891.out 2; have hfz98_3 := blk_frozen BK891.out 3; have hfz98_4 := blk_frozen BK891.out 4) | ((with_reducible refine gate_callee (f := 28) rfl ?_); refine goesL_ (some 38) rfl rfl Try.func28 (by kernel_rfl) rfl #[.agg #[.int .i64 a2_0, .int .i64 a2_1, .int .i64 a2_2, .int .i64 a2_3, .slice A2_4 l2_4.length c2_4]] rfl z61x23 ?_; (with_reducible refine (laws_toMsg.calls k a2_0 a2_1 a2_2 a2_3 _ _ l2_4 t914 t915 t916 t917 t918 _ ?side1 ?side2 A20.out).mono ?_); (case side1 => repeat (first | exact (Kd.C_below HR2_4.out HB.out) | (with_reducible refine Kd.C_alloc ?_ _) | (with_reducible refine Kd.C_drewN ?_ _) | (with_reducible refine Kd.C_drew ?_))); (case side2 => exact HC2_4.out); rintro e w99 ⟨v919, rfl, ho0, hb⟩; refine ⟨_, rfl, ?_⟩; have n0_ := Aside0.mk (Kd.R_below z61x27 hb); have n1_ := Aside0.mk (Kd.R_elder' z61x28 (Kd.R_base ho0) hb); have n2_ := Aside0.mk (Kd.R_elder' z61x29 (Kd.R_base ho0) hb); have n3_ := Aside0.mk (Kd.R_below z61x30 hb); have n4_ := Aside0.mk (Kd.R_elder' z61x31 (Kd.R_base ho0) hb); have n5_ := Aside0.mk (Kd.R_lower (Kd.R_new' (Kd.R_new' (Kd.R_new' ho0 (Kd.R_lt z61x28)) (Kd.R_lt z61x29)) (Kd.R_lt z61x31)) (below_size z61x21)); have n6_ := Aside0.mk (blk_below (g := gb891) (o := .cells #[.int .i64 a2_0, .int .i64 a2_1, .int .i64 a2_2, .int .i64 a2_3, .slice A2_4 l2_4.length c2_4] 31 (0, 0)) z61x25 hb); have n7_ := Aside0.mk (below_step z61x21 hb); clear HO896; clear HO899; clear HO906; clear HO910; clear HO913; clear BK891; clear HB; have HO896 := n0_; have HO899 := n1_; have HO906 := n2_; have HO910 := n3_; have HO913 := n4_; have HO920 := n5_; have BK891 := n6_; have HB := n7_; clear n0_ n1_ n2_ n3_ n4_ n5_ n6_ n7_; (try clear hb); (try clear hb2); (try clear hk); (try clear hi); (try clear ho0)) | ((with_reducible refine gate_dst (N := 11) rfl ?_); refine box_event ?hg (N := 11) ?hd (cs := #[.int .i64 0, .int .i64 0, .int .i64 0, .int .i64 0, .slice none 0 0]) (t := 36) ?hr ?_; (case hd => rfl); (case hg => rfl); (case hr => first | (go_simp; done) | (go_simp; rfl)); intro gb921 hg w100 hbox hb; have n0_ := Aside0.mk (Kd.R_below z61x27 hb); have n1_ := Aside0.mk (Kd.R_below z61x28 hb); have n2_ := Aside0.mk (Kd.R_below z61x29 hb); have n3_ := Aside0.mk (Kd.R_below z61x30 hb); have n4_ := Aside0.mk (Kd.R_below z61x31 hb); have n5_ := Aside0.mk (Kd.R_below z61x32 hb); have n6_ := Aside0.mk (blk_below (g := gb891) (o := .cells #[.int .i64 a2_0, .int .i64 a2_1, .int .i64 a2_2, .int .i64 a2_3, .slice A2_4 l2_4.length c2_4] 31 (0, 0)) z61x25 hb); have n7_ := Aside0.mk (below_step z61x21 hb); have n8_ := Aside0.mk (hbox); have n9_ := Aside0.mk ((z61x20 : w.heap.size ≤ gb921)); have n10_ := Aside0.mk ((z61x20 : w.heap.size ≤ gb921)); have n11_ := Aside0.mk ((z61x18 : gb891 ≠ gb921)); have n12_ := Aside0.mk ((z61x17 : gb921 ≠ gb891)); clear HO896; clear HO899; clear HO906; clear HO910; clear HO913; clear HO920; clear BK891; clear HB; have HO896 := n0_; have HO899 := n1_; have HO906 := n2_; have HO910 := n3_; have HO913 := n4_; have HO920 := n5_; have BK891 := n6_; have HB := n7_; have BK921 := n8_; have GW921 := n9_; have GE921 := n10_; have NB891_921 := n11_; have NB921_891 := n12_; clear n0_ n1_ n2_ n3_ n4_ n5_ n6_ n7_ n8_ n9_ n10_ n11_ n12_; clear hb hbox hg; have hnb101 := NB921_891.out; have hnc101 := NB891_921.out; have hcz102_0 : w100.cell? ⟨gb921, 0, none⟩ = some (.int .i64 0) := (blk_cell BK921.out 0).trans rfl; have hcz102_1 : w100.cell? ⟨gb921, 1, none⟩ = some (.int .i64 0) := (blk_cell BK921.out 1).trans rfl; have hcz102_2 : w100.cell? ⟨gb921, 2, none⟩ = some (.int .i64 0) := (blk_cell BK921.out 2).trans rfl; have hcz102_3 : w100.cell? ⟨gb921, 3, none⟩ = some (.int .i64 0) := (blk_cell BK921.out 3).trans rfl; have hcz102_4 : w100.cell? ⟨gb921, 4, none⟩ = some (.slice none 0 0) := (blk_cell BK921.out 4).trans rfl; have hfz102_0 := blk_frozen BK921.out 0; have hfz102_1 := blk_frozen BK921.out 1; have hfz102_2 := blk_frozen BK921.out 2; have hfz102_3 := blk_frozen BK921.out 3; have hfz102_4 := blk_frozen BK921.out 4; obtain ⟨Ao103, co103, eo103⟩ := Kd.R_slice HO920.out; subst eo103; obtain ⟨Ao104, co104, eo104⟩ := Kd.R_slice HO910.out; subst eo104; obtain ⟨Ao105, co105, eo105⟩ := Kd.R_slice HO913.out; subst eo105) | ((with_reducible refine gate_callee (f := 52) rfl ?_); refine goesL_ (some 42) rfl rfl Try.func52 (by kernel_rfl) rfl #[.slice Ao104 t908.length co104, .slice Ao105 t911.length co105, .agg #[.int .i64 t914, .int .i64 t915, .int .i64 t916, .int .i64 t917, .slice Ao103 t918.length co103]] rfl z61x23 ?_; (with_reducible refine (impl_KnowBuild.calls _ _ t908 _ _ t911 t914 t915 t916 t917 _ _ t918 t922 _ ?side1 ?side2 ?side3 ?side4 ?side5 ?side6 A21.out).mono ?_); (case side1 => refine (Kd.R_reads' (e := 3) (base := w.heap.size) (ok := fun k_ => (True ∧ some k_ ≠ (.slice Ao92 t894.length co92 : Value).ownBlock)) (n := t908.length) (c := co104) ?_).2.2; exact z61x2); (case side2 => exact (Kd.R_reads' HO910.out).2.1); (case side3 => refine (Kd.R_reads' (e := 24) (base := w.heap.size) (ok := fun k_ => (((True ∧ some k_ ≠ (.slice Ao93 t897.length co93 : Value).ownBlock) ∧ some k_ ≠ (.slice Ao94 t904.length co94 : Value).ownBlock) ∧ some k_ ≠ (.slice Ao103 t918.length co103 : Value).ownBlock)) (n := t911.length) (c := co105) ?_).2.2; exact z61x5); (case side4 => exact (Kd.R_reads' HO913.out).2.1); (case side5 => refine (Kd.R_reads' (e := 24) (base := w.heap.size) (ok := fun k_ => (((True ∧ some k_ ≠ (.slice Ao93 t897.length co93 : Value).ownBlock) ∧ some k_ ≠ (.slice Ao94 t904.length co94 : Value).ownBlock) ∧ some k_ ≠ (.slice Ao105 t911.length co105 : Value).ownBlock)) (n := t918.length) (c := co103) ?_).2.2; exact z61x8); (case side6 => exact (Kd.R_reads' HO920.out).2.1); rintro e w106 ⟨rfl, hb⟩; refine ⟨_, rfl, ?_⟩; have n0_ := Aside0.mk (Kd.R_below (by (with_reducible repeat (first | apply Kd.R_alloc | apply Kd.R_drewN | apply Kd.R_drew)); exact (Kd.R_mono (Kd.R_far (p := ⟨gb921, 4, none⟩) (Kd.R_far (p := ⟨gb921, 3, none⟩) (Kd.R_far (p := ⟨gb921, 2, none⟩) (Kd.R_far (p := ⟨gb921, 1, none⟩) (Kd.R_far (p := ⟨gb921, 0, none⟩) (Kd.R_types HO896.out BK921.out (by decide)) (fun _ hk => hk.2) (.int .i64 t914)) (fun _ hk => hk.2) (.int .i64 t915)) (fun _ hk => hk.2) (.int .i64 t916)) (fun _ hk => hk.2) (.int .i64 t917)) (fun _ hk => hk.2) (.slice Ao103 t918.length co103)) (fun _ h_ => h_.1))) hb); have n1_ := Aside0.mk (Kd.R_below (by (with_reducible repeat (first | apply Kd.R_alloc | apply Kd.R_drewN | apply Kd.R_drew)); exact (Kd.R_mono (Kd.R_far (p := ⟨gb921, 4, none⟩) (Kd.R_far (p := ⟨gb921, 3, none⟩) (Kd.R_far (p := ⟨gb921, 2, none⟩) (Kd.R_far (p := ⟨gb921, 1, none⟩) (Kd.R_far (p := ⟨gb921, 0, none⟩) (Kd.R_types HO899.out BK921.out (by decide)) (fun _ hk => hk.2) (.int .i64 t914)) (fun _ hk => hk.2) (.int .i64 t915)) (fun _ hk => hk.2) (.int .i64 t916)) (fun _ hk => hk.2) (.int .i64 t917)) (fun _ hk => hk.2) (.slice Ao103 t918.length co103)) (fun _ h_ => h_.1))) hb); have n2_ := Aside0.mk (Kd.R_below (by (with_reducible repeat (first | apply Kd.R_alloc | apply Kd.R_drewN | apply Kd.R_drew)); exact (Kd.R_mono (Kd.R_far (p := ⟨gb921, 4, none⟩) (Kd.R_far (p := ⟨gb921, 3, none⟩) (Kd.R_far (p := ⟨gb921, 2, none⟩) (Kd.R_far (p := ⟨gb921, 1, none⟩) (Kd.R_far (p := ⟨gb921, 0, none⟩) (Kd.R_types HO906.out BK921.out (by decide)) (fun _ hk => hk.2) (.int .i64 t914)) (fun _ hk => hk.2) (.int .i64 t915)) (fun _ hk => hk.2) (.int .i64 t916)) (fun _ hk => hk.2) (.int .i64 t917)) (fun _ hk => hk.2) (.slice Ao103 t918.length co103)) (fun _ h_ => h_.1))) hb); have n3_ := Aside0.mk (Kd.R_below z61x2 hb); have n4_ := Aside0.mk (Kd.R_below z61x5 hb); have n5_ := Aside0.mk (Kd.R_below z61x8 hb); have n6_ := Aside0.mk (blk_below (g := gb891) (o := .cells #[.int .i64 a2_0, .int .i64 a2_1, .int .i64 a2_2, .int .i64 a2_3, .slice A2_4 l2_4.length c2_4] 31 (0, 0)) z61x1 hb); have n7_ := Aside0.mk (blk_below (g := gb921) (o := .cells #[.int .i64 t914, .int .i64 t915, .int .i64 t916, .int .i64 t917, .slice Ao103 t918.length co103] 36 (0, 0)) z61x0 hb); have n8_ := Aside0.mk (below_step z61x19 hb); clear HO896; clear HO899; clear HO906; clear HO910; clear HO913; clear HO920; clear BK891; clear BK921; clear HB; have HO896 := n0_; have HO899 := n1_; have HO906 := n2_; have HO910 := n3_; have HO913 := n4_; have HO920 := n5_; have BK891 := n6_; have BK921 := n7_; have HB := n8_; clear n0_ n1_ n2_ n3_ n4_ n5_ n6_ n7_ n8_; (try clear hb); (try clear hb2); (try clear hk); (try clear hi)) | ((with_reducible refine gate_callee (f := 43) rfl ?_); refine goesL_ (some 48) rfl rfl Try.func43 (by kernel_rfl) rfl #[.slice A0 l0.length c0] rfl z61x23 ?_; (with_reducible refine (laws_toIntS.calls k _ _ l0 t923 _ ?side1 ?side2 A45.out).mono ?_); (case side1 => repeat (first | exact (Kd.C_below HR0.out HB.out) | (with_reducible refine Kd.C_alloc ?_ _) | (with_reducible refine Kd.C_drewN ?_ _) | (with_reducible refine Kd.C_drew ?_))); (case side2 => exact HC0.out); rintro e w107 ⟨v924, rfl, ho0, hb⟩; refine ⟨_, rfl, ?_⟩; have n0_ := Aside0.mk (Kd.R_elder' z61x27 (Kd.R_base ho0) hb); have n1_ := Aside0.mk (Kd.R_below z61x28 hb); have n2_ := Aside0.mk (Kd.R_below z61x29 hb); have n3_ := Aside0.mk (Kd.R_elder' z61x30 (Kd.R_base ho0) hb); have n4_ := Aside0.mk (Kd.R_below z61x31 hb); have n5_ := Aside0.mk (Kd.R_below z61x32 hb); have n6_ := Aside0.mk (Kd.R_lower (Kd.R_new' (Kd.R_new' ho0 (Kd.R_lt z61x27)) (Kd.R_lt z61x30)) (below_size z61x19)); have n7_ := Aside0.mk (blk_below (g := gb891) (o := .cells #[.int .i64 a2_0, .int .i64 a2_1, .int .i64 a2_2, .int .i64 a2_3, .slice A2_4 l2_4.length c2_4] 31 (0, 0)) z61x25 hb); have n8_ := Aside0.mk (blk_below (g := gb921) (o := .cells #[.int .i64 t914, .int .i64 t915, .int .i64 t916, .int .i64 t917, .slice Ao103 t918.length co103] 36 (0, 0)) z61x26 hb); have n9_ := Aside0.mk (below_step z61x19 hb); clear HO896; clear HO899; clear HO906; clear HO910; clear HO913; clear HO920; clear BK891; clear BK921; clear HB; have HO896 := n0_; have HO899 := n1_; have HO906 := n2_; have HO910 := n3_; have HO913 := n4_; have HO920 := n5_; have HO925 := n6_; have BK891 := n7_; have BK921 := n8_; have HB := n9_; clear n0_ n1_ n2_ n3_ n4_ n5_ n6_ n7_ n8_ n9_; (try clear hb); (try clear hb2); (try clear hk); (try clear hi); (try clear ho0); obtain ⟨Ao108, co108, eo108⟩ := Kd.R_slice HO925.out; subst eo108) | ((with_reducible refine gate_callee (f := 45) rfl ?_); refine goesL_ (some 49) rfl rfl Try.func45 (by kernel_rfl) rfl #[.slice Ao104 t908.length co104, .slice Ao108 t923.length co108] rfl z61x23 ?_; (with_reducible refine (laws_eqIntS.calls k _ _ t908 _ _ t923 true _ ?side1 ?side2 ?side3 ?side4 A46.out).mono ?_); (case side1 => repeat (first | exact (Kd.R_reads' HO910.out).2.2 | (with_reducible refine Kd.C_alloc ?_ _) | (with_reducible refine Kd.C_drewN ?_ _) | (with_reducible refine Kd.C_drew ?_))); (case side2 => exact (Kd.R_reads' HO910.out).2.1); (case side3 => repeat (first | exact (Kd.R_reads' HO925.out).2.2 | (with_reducible refine Kd.C_alloc ?_ _) | (with_reducible refine Kd.C_drewN ?_ _) | (with_reducible refine Kd.C_drew ?_))); (case side4 => exact (Kd.R_reads' HO925.out).2.1); rintro e w' ⟨rfl, ⟨nd, rfl⟩⟩; refine ⟨_, rfl, ?_⟩) | ((with_reducible refine gate_callee (f := 44) rfl ?_); refine goesL_ (some 53) rfl rfl Try.func44 (by kernel_rfl) rfl #[.slice A1 l1.length c1] rfl z61x23 ?_; (with_reducible refine (laws_toSealS.calls k _ _ l1 t927 _ ?side1 ?side2 A48.out).mono ?_); (case side1 => repeat (first | exact (Kd.C_below HR1.out z61x19) | (with_reducible refine Kd.C_alloc ?_ _) | (with_reducible refine Kd.C_drewN ?_ _) | (with_reducible refine Kd.C_drew ?_))); (case side2 => exact HC1.out); rintro e w109 ⟨v928, rfl, ho0, hb⟩; refine ⟨_, rfl, ?_⟩; have n0_ := Aside0.mk (Kd.R_below z61x27 hb); have n1_ := Aside0.mk (Kd.R_elder' z61x28 (Kd.R_base ho0) hb); have n2_ := Aside0.mk (Kd.R_elder' z61x29 (Kd.R_base ho0) hb); have n3_ := Aside0.mk (Kd.R_below z61x30 hb); have n4_ := Aside0.mk (Kd.R_elder' z61x31 (Kd.R_base ho0) hb); have n5_ := Aside0.mk (Kd.R_elder' z61x32 (Kd.R_base ho0) hb); have n6_ := Aside0.mk (Kd.R_below z61x33 hb); have n7_ := Aside0.mk (Kd.R_lower (Kd.R_new' (Kd.R_new' (Kd.R_new' (Kd.R_new' ho0 (Kd.R_lt z61x28)) (Kd.R_lt z61x29)) (Kd.R_lt z61x31)) (Kd.R_lt z61x32)) (below_size z61x19)); have n8_ := Aside0.mk (blk_below (g := gb891) (o := .cells #[.int .i64 a2_0, .int .i64 a2_1, .int .i64 a2_2, .int .i64 a2_3, .slice A2_4 l2_4.length c2_4] 31 (0, 0)) z61x25 hb); have n9_ := Aside0.mk (blk_below (g := gb921) (o := .cells #[.int .i64 t914, .int .i64 t915, .int .i64 t916, .int .i64 t917, .slice Ao103 t918.length co103] 36 (0, 0)) z61x26 hb); have n10_ := Aside0.mk (below_step z61x19 hb); clear HO896; clear HO899; clear HO906; clear HO910; clear HO913; clear HO920; clear HO925; clear BK891; clear BK921; clear HB; have HO896 := n0_; have HO899 := n1_; have HO906 := n2_; have HO910 := n3_; have HO913 := n4_; have HO920 := n5_; have HO925 := n6_; have HO929 := n7_; have BK891 := n8_; have BK921 := n9_; have HB := n10_; clear n0_ n1_ n2_ n3_ n4_ n5_ n6_ n7_ n8_ n9_ n10_; (try clear hb); (try clear hb2); (try clear hk); (try clear hi); (try clear ho0); obtain ⟨Ao110, co110, eo110⟩ := Kd.R_slice HO929.out; subst eo110) | ((with_reducible refine gate_callee (f := 46) rfl ?_); refine goesL_ (some 54) rfl rfl Try.func46 (by kernel_rfl) rfl #[.slice Ao105 t911.length co105, .slice Ao110 t927.length co110] rfl z61x23 ?_; (with_reducible refine (laws_eqSealS.calls k _ _ t911 _ _ t927 true _ ?side1 ?side2 ?side3 ?side4 A49.out).mono ?_); (case side1 => repeat (first | exact (Kd.R_reads' HO913.out).2.2 | (with_reducible refine Kd.C_alloc ?_ _) | (with_reducible refine Kd.C_drewN ?_ _) | (with_reducible refine Kd.C_drew ?_))); (case side2 => exact (Kd.R_reads' HO913.out).2.1); (case side3 => repeat (first | exact (Kd.R_reads' HO929.out).2.2 | (with_reducible refine Kd.C_alloc ?_ _) | (with_reducible refine Kd.C_drewN ?_ _) | (with_reducible refine Kd.C_drew ?_))); (case side4 => exact (Kd.R_reads' HO929.out).2.1); rintro e w111 ⟨rfl, hb⟩; refine ⟨_, rfl, ?_⟩; have n0_ := Aside0.mk (Kd.R_below z61x27 hb); have n1_ := Aside0.mk (Kd.R_below z61x28 hb); have n2_ := Aside0.mk (Kd.R_below z61x29 hb); have n3_ := Aside0.mk (Kd.R_below z61x30 hb); have n4_ := Aside0.mk (Kd.R_below z61x31 hb); have n5_ := Aside0.mk (Kd.R_below z61x32 hb); have n6_ := Aside0.mk (Kd.R_below z61x33 hb); have n7_ := Aside0.mk (Kd.R_below z61x34 hb); have n8_ := Aside0.mk (blk_below (g := gb891) (o := .cells #[.int .i64 a2_0, .int .i64 a2_1, .int .i64 a2_2, .int .i64 a2_3, .slice A2_4 l2_4.length c2_4] 31 (0, 0)) z61x25 hb); have n9_ := Aside0.mk (blk_below (g := gb921) (o := .cells #[.int .i64 t914, .int .i64 t915, .int .i64 t916, .int .i64 t917, .slice Ao103 t918.length co103] 36 (0, 0)) z61x26 hb); have n10_ := Aside0.mk (below_step z61x19 hb); clear HO896; clear HO899; clear HO906; clear HO910; clear HO913; clear HO920; clear HO925; clear HO929; clear BK891; clear BK921; clear HB; have HO896 := n0_; have HO899 := n1_; have HO906 := n2_; have HO910 := n3_; have HO913 := n4_; have HO920 := n5_; have HO925 := n6_; have HO929 := n7_; have BK891 := n8_; have BK921 := n9_; have HB := n10_; clear n0_ n1_ n2_ n3_ n4_ n5_ n6_ n7_ n8_ n9_ n10_; (try clear hb); (try clear hb2); (try clear hk); (try clear hi)))
        have n0_ := Aside0.mk (Kd.R_drew HO896.out)
        have n1_ := Aside0.mk (Kd.R_drew HO899.out)
        have n2_ := Aside0.mk (Kd.R_drew HO906.out)
        have n3_ := Aside0.mk (Kd.R_drew HO910.out)
        have n4_ := Aside0.mk (Kd.R_drew HO913.out)
        have n5_ := Aside0.mk (Kd.R_drew HO920.out)
        have n6_ := Aside0.mk (Kd.R_drew HO925.out)
        have n7_ := Aside0.mk (Kd.R_drew HO929.out)
        have n8_ := Aside0.mk (blk_drew BK891.out)
        have n9_ := Aside0.mk (blk_drew BK921.out)
        have n10_ := Aside0.mk (below_drew1 HB.out)
        clear HO896
        clear HO899
        clear HO906
        clear HO910
        clear HO913
        clear HO920
        clear HO925
        clear HO929
        clear BK891
        clear BK921
        clear HB
        have HO896 := n0_
        have HO899 := n1_
        have HO906 := n2_
        have HO910 := n3_
        have HO913 := n4_
        have HO920 := n5_
        have HO925 := n6_
        have HO929 := n7_
        have BK891 := n8_
        have BK921 := n9_
        have HB := n10_
        clear n0_ n1_ n2_ n3_ n4_ n5_ n6_ n7_ n8_ n9_ n10_
        refine start_ (n := 5) (S := fun w' => w'.cell? ⟨gb921, 0, none⟩ = some (.int .i64 t914) ∧ w'.cell? ⟨gb921, 1, none⟩ = some (.int .i64 t915) ∧ w'.cell? ⟨gb921, 2, none⟩ = some (.int .i64 t916) ∧ w'.cell? ⟨gb921, 3, none⟩ = some (.int .i64 t917) ∧ w'.cell? ⟨gb921, 4, none⟩ = some (.slice Ao103 t918.length co103) ∧ w'.cell? ⟨gb891, 0, none⟩ = some (.int .i64 a2_0) ∧ w'.cell? ⟨gb891, 1, none⟩ = some (.int .i64 a2_1) ∧ w'.cell? ⟨gb891, 2, none⟩ = some (.int .i64 a2_2) ∧ w'.cell? ⟨gb891, 3, none⟩ = some (.int .i64 a2_3) ∧ w'.cell? ⟨gb891, 4, none⟩ = some (.slice A2_4 l2_4.length c2_4)) (ds := []) #[false, false, false, false, false] (by kernel_rfl) rfl rfl ⟨(blk_cell BK921.out 0).trans rfl, (blk_cell BK921.out 1).trans rfl, (blk_cell BK921.out 2).trans rfl, (blk_cell BK921.out 3).trans rfl, (blk_cell BK921.out 4).trans rfl, (blk_cell BK891.out 0).trans rfl, (blk_cell BK891.out 1).trans rfl, (blk_cell BK891.out 2).trans rfl, (blk_cell BK891.out 3).trans rfl, (blk_cell BK891.out 4).trans rfl⟩ (fun hHeld => ?_)
        generalize w111.drew = w112 at HO896 HO899 HO906 HO910 HO913 HO920 HO925 HO929 BK891 BK921 HB hHeld ⊢
        refine take_ (i := 0) (N := some 56) (v := ?_) (a' := ?_) #[true, false, false, false, false] rfl rfl (by kernel_rfl) (fun _ _ _ h => h) (Or.inl ⟨by rfl, ?_⟩) hHeld ?_ ?_
        rotate_left
        ·rintro w' ⟨s0, s1, s2, s3, s4, s5, s6, s7, s8, s9⟩
         go_simp
         with_reducible rfl
        rotate_left
        ·simp only [Act.put, List.setIfInBounds_toArray, List.set_cons_zero, List.set_cons_succ, i64_w, i32_w]
         rfl
        refine take_ (i := 1) (N := some 57) (v := ?_) (a' := ?_) #[true, true, false, false, false] rfl rfl (by kernel_rfl) (fun _ _ _ h => h) (Or.inl ⟨by rfl, ?_⟩) hHeld ?_ ?_
        rotate_left
        ·rintro w' ⟨s0, s1, s2, s3, s4, s5, s6, s7, s8, s9⟩
         go_simp
         with_reducible rfl
        rotate_left
        ·simp only [Act.put, List.setIfInBounds_toArray, List.set_cons_zero, List.set_cons_succ, i64_w, i32_w]
         rfl
        refine one_ (i := 2) (N := some 58) #[true, true, true, false, false] rfl rfl (by kernel_rfl) (by decide) (fun K hK => ?_)
        refine goes_ Try.func28 (by kernel_rfl) rfl #[.agg #[.int .i64 a2_0, .int .i64 a2_1, .int .i64 a2_2, .int .i64 a2_3, .slice A2_4 l2_4.length c2_4]] (by rfl) rfl rfl z61x23 ?_
        with_reducible refine (laws_toMsg.calls k a2_0 a2_1 a2_2 a2_3 _ _ l2_4 t931 t932 t933 t934 t935 _ ?side1 ?side2 A51.out).mono ?_
        (case side1 => repeat (first | exact (Kd.C_below HR2_4.out HB.out) | (with_reducible refine Kd.C_alloc ?_ _) | (with_reducible refine Kd.C_drewN ?_ _) | (with_reducible refine Kd.C_drew ?_)))
        (case side2 => exact HC2_4.out)
        rintro e w113 ⟨v936, rfl, ho0, hb⟩
        refine ⟨_, rfl, ?_⟩
        have n0_ := Aside0.mk (Kd.R_below z61x27 hb)
        have n1_ := Aside0.mk (Kd.R_elder' z61x28 (Kd.R_base ho0) hb)
        have n2_ := Aside0.mk (Kd.R_elder' z61x29 (Kd.R_base ho0) hb)
        have n3_ := Aside0.mk (Kd.R_below z61x30 hb)
        have n4_ := Aside0.mk (Kd.R_elder' z61x31 (Kd.R_base ho0) hb)
        have n5_ := Aside0.mk (Kd.R_elder' z61x32 (Kd.R_base ho0) hb)
        have n6_ := Aside0.mk (Kd.R_below z61x33 hb)
        have n7_ := Aside0.mk (Kd.R_elder' z61x34 (Kd.R_base ho0) hb)
        have n8_ := Aside0.mk (Kd.R_lower (Kd.R_new' (Kd.R_new' (Kd.R_new' (Kd.R_new' (Kd.R_new' ho0 (Kd.R_lt z61x28)) (Kd.R_lt z61x29)) (Kd.R_lt z61x31)) (Kd.R_lt z61x32)) (Kd.R_lt z61x34)) (below_size z61x19))
        have n9_ := Aside0.mk (blk_below (g := gb891) (o := .cells #[.int .i64 a2_0, .int .i64 a2_1, .int .i64 a2_2, .int .i64 a2_3, .slice A2_4 l2_4.length c2_4] 31 (0, 0)) z61x25 hb)
        have n10_ := Aside0.mk (blk_below (g := gb921) (o := .cells #[.int .i64 t914, .int .i64 t915, .int .i64 t916, .int .i64 t917, .slice Ao103 t918.length co103] 36 (0, 0)) z61x26 hb)
        have n11_ := Aside0.mk (below_step z61x19 hb)
        clear HO896
        clear HO899
        clear HO906
        clear HO910
        clear HO913
        clear HO920
        clear HO925
        clear HO929
        clear BK891
        clear BK921
        clear HB
        have HO896 := n0_
        have HO899 := n1_
        have HO906 := n2_
        have HO910 := n3_
        have HO913 := n4_
        have HO920 := n5_
        have HO925 := n6_
        have HO929 := n7_
        have HO937 := n8_
        have BK891 := n9_
        have BK921 := n10_
        have HB := n11_
        clear n0_ n1_ n2_ n3_ n4_ n5_ n6_ n7_ n8_ n9_ n10_ n11_
        (try clear hb)
        (try clear hb2)
        (try clear hk)
        (try clear hi)
        (try clear ho0)
        obtain ⟨Ao114, co114, eo114⟩ := Kd.R_slice HO937.out
        (first | subst eo114 | (injection eo114 with f1_ f2_ f3_; have f4_ := f1_.symm; have f5_ := f3_.symm; clear f1_ f2_ f3_; subst f4_; subst f5_))
        refine hK.out _ _ ⟨(blk_cell BK921.out 0).trans rfl, (blk_cell BK921.out 1).trans rfl, (blk_cell BK921.out 2).trans rfl, (blk_cell BK921.out 3).trans rfl, (blk_cell BK921.out 4).trans rfl, (blk_cell BK891.out 0).trans rfl, (blk_cell BK891.out 1).trans rfl, (blk_cell BK891.out 2).trans rfl, (blk_cell BK891.out 3).trans rfl, (blk_cell BK891.out 4).trans rfl⟩ (fun hHeld => ?_)
        clear hK K
        refine norm_ (a' := ?_) ?_ ?_
        rotate_left
        ·show Act.put _ (some 58) _ = _
         simp only [Act.put, List.setIfInBounds_toArray, List.set_cons_zero, List.set_cons_succ, i64_w, i32_w]
         rfl
        refine one_ (i := 3) (N := some 59) #[true, true, true, true, false] rfl rfl (by kernel_rfl) (by decide) (fun K hK => ?_)
        refine goes_ Try.func30 (by kernel_rfl) rfl #[.agg #[.int .i64 t914, .int .i64 t915, .int .i64 t916, .int .i64 t917, .slice Ao103 t918.length co103], .agg #[.int .i64 t931, .int .i64 t932, .int .i64 t933, .int .i64 t934, .slice Ao114 t935.length co114]] (by rfl) rfl rfl z61x23 ?_
        with_reducible refine (laws_eqMsg.calls k t914 t915 t916 t917 _ _ t918 t931 t932 t933 t934 _ _ t935 false _ ?side1 ?side2 ?side3 ?side4 A52.out).mono ?_
        (case side1 => repeat (first | exact (Kd.R_reads' HO920.out).2.2 | (with_reducible refine Kd.C_alloc ?_ _) | (with_reducible refine Kd.C_drewN ?_ _) | (with_reducible refine Kd.C_drew ?_)))
        (case side2 => exact (Kd.R_reads' HO920.out).2.1)
        (case side3 => repeat (first | exact (Kd.R_reads' HO937.out).2.2 | (with_reducible refine Kd.C_alloc ?_ _) | (with_reducible refine Kd.C_drewN ?_ _) | (with_reducible refine Kd.C_drew ?_)))
        (case side4 => exact (Kd.R_reads' HO937.out).2.1)
        rintro e w115 ⟨rfl, hb⟩
        refine ⟨_, rfl, ?_⟩
        have n0_ := Aside0.mk (Kd.R_below z61x27 hb)
        have n1_ := Aside0.mk (Kd.R_below z61x28 hb)
        have n2_ := Aside0.mk (Kd.R_below z61x29 hb)
        have n3_ := Aside0.mk (Kd.R_below z61x30 hb)
        have n4_ := Aside0.mk (Kd.R_below z61x31 hb)
        have n5_ := Aside0.mk (Kd.R_below z61x32 hb)
        have n6_ := Aside0.mk (Kd.R_below z61x33 hb)
        have n7_ := Aside0.mk (Kd.R_below z61x34 hb)
        have n8_ := Aside0.mk (Kd.R_below (by (with_reducible repeat (first | apply Kd.R_alloc | apply Kd.R_drewN | apply Kd.R_drew)); exact HO937.out) hb)
        have n9_ := Aside0.mk (blk_below (g := gb891) (o := .cells #[.int .i64 a2_0, .int .i64 a2_1, .int .i64 a2_2, .int .i64 a2_3, .slice A2_4 l2_4.length c2_4] 31 (0, 0)) z61x25 hb)
        have n10_ := Aside0.mk (blk_below (g := gb921) (o := .cells #[.int .i64 t914, .int .i64 t915, .int .i64 t916, .int .i64 t917, .slice Ao103 t918.length co103] 36 (0, 0)) z61x26 hb)
        have n11_ := Aside0.mk (below_step z61x19 hb)
        clear HO896
        clear HO899
        clear HO906
        clear HO910
        clear HO913
        clear HO920
        clear HO925
        clear HO929
        clear HO937
        clear BK891
        clear BK921
        clear HB
        have HO896 := n0_
        have HO899 := n1_
        have HO906 := n2_
        have HO910 := n3_
        have HO913 := n4_
        have HO920 := n5_
        have HO925 := n6_
        have HO929 := n7_
        have HO937 := n8_
        have BK891 := n9_
        have BK921 := n10_
        have HB := n11_
        clear n0_ n1_ n2_ n3_ n4_ n5_ n6_ n7_ n8_ n9_ n10_ n11_
        (try clear hb)
        (try clear hb2)
        (try clear hk)
        (try clear hi)
        refine hK.out _ _ ⟨(blk_cell BK921.out 0).trans rfl, (blk_cell BK921.out 1).trans rfl, (blk_cell BK921.out 2).trans rfl, (blk_cell BK921.out 3).trans rfl, (blk_cell BK921.out 4).trans rfl, (blk_cell BK891.out 0).trans rfl, (blk_cell BK891.out 1).trans rfl, (blk_cell BK891.out 2).trans rfl, (blk_cell BK891.out 3).trans rfl, (blk_cell BK891.out 4).trans rfl⟩ (fun hHeld => ?_)
        clear hK K
        refine norm_ (a' := ?_) ?_ ?_
        rotate_left
        ·show Act.put _ (some 59) _ = _
         simp only [Act.put, List.setIfInBounds_toArray, List.set_cons_zero, List.set_cons_succ, i64_w, i32_w]
         rfl
        refine pure_ (i := 4) (N := some 60) (v := ?_) (a' := ?_) #[true, true, true, true, true] rfl rfl (by kernel_rfl) (fun _ _ _ h => h) (Or.inl ⟨by rfl, ?_⟩) ?_ ?_
        rotate_left
        ·intro w'
         go_simp
         with_reducible rfl
        rotate_left
        ·simp only [Act.put, List.setIfInBounds_toArray, List.set_cons_zero, List.set_cons_succ, i64_w, i32_w]
         rfl
        refine done_ (by kernel_rfl) ?_
        try go_wp2
        go_ret
        exact ⟨by first | rfl | (simp [errW_none, errW_some] <;> rfl) | (simp [*, errW_none, errW_some] <;> rfl), by repeat (first | (with_reducible first | exact HB.out | apply below_alloc | apply pw_below_drewN | apply below_drew1 | refine below_set ?_ GE891.out | refine below_set ?_ GE921.out) | exact HB.out)⟩
      ·replace c50 := Bool.eq_false_iff.mpr c50
       subst c50
       rw [if_neg (show ¬ (false = true) by decide)] at H
       obtain rfl := Option.some.inj H
       go_enter Try.func17, Try.ntmps17
       try go_wp2_with (first | ((with_reducible refine gate_dst (N := 5) rfl ?_); refine box_event ?hg (N := 5) ?hd (cs := #[.int .i64 a2_0, .int .i64 a2_1, .int .i64 a2_2, .int .i64 a2_3, .slice A2_4 l2_4.length c2_4]) (t := 31) ?hr ?_; (case hd => rfl); (case hg => rfl); (case hr => first | (go_simp; done) | (go_simp; rfl)); intro gb891 hg w116 hbox hb; have n0_ := Aside0.mk (below_step z61x24 hb); have n1_ := Aside0.mk (hbox); have n2_ := Aside0.mk ((z61x22 : w.heap.size ≤ gb891)); have n3_ := Aside0.mk ((z61x22 : w.heap.size ≤ gb891)); clear HB; have HB := n0_; have BK891 := n1_; have GW891 := n2_; have GE891 := n3_; clear n0_ n1_ n2_ n3_; clear hb hbox hg) | ((with_reducible refine gate_callee (f := 42) rfl ?_); refine goesL_ (some 18) rfl rfl Try.func42 (by kernel_rfl) rfl #[.slice A1 l1.length c1, .int .i64 1048576] rfl z61x23 ?_; (with_reducible refine (laws_szSealS.calls _ _ l1 1048576 t892 _ ?side1 ?side2 A6.out).mono ?_); (case side1 => repeat (first | exact (Kd.C_below HR1.out HB.out) | (with_reducible refine Kd.C_alloc ?_ _) | (with_reducible refine Kd.C_drewN ?_ _) | (with_reducible refine Kd.C_drew ?_))); (case side2 => exact HC1.out); rintro e w' ⟨rfl, ⟨nd, rfl⟩⟩; refine ⟨_, rfl, ?_⟩; (try (rw [drewN_self w116]; generalize hq_ : World.drewN w116 _ = w116; have n0_ : Aside0 (w116.heap[gb891]? = some (.cells #[.int .i64 a2_0, .int .i64 a2_1, .int .i64 a2_2, .int .i64 a2_3, .slice A2_4 l2_4.length c2_4] 31 (0, 0))) := ⟨by rw [← hq_]; exact z61x25⟩; have n1_ : Aside0 (Below w.heap.size w w116) := ⟨by rw [← hq_]; exact z61x21⟩; clear BK891 HB hq_; have BK891 := n0_; have HB := n1_; clear n0_ n1_)); have hcz117_0 : w116.cell? ⟨gb891, 0, none⟩ = some (.int .i64 a2_0) := (blk_cell BK891.out 0).trans rfl; have hcz117_1 : w116.cell? ⟨gb891, 1, none⟩ = some (.int .i64 a2_1) := (blk_cell BK891.out 1).trans rfl; have hcz117_2 : w116.cell? ⟨gb891, 2, none⟩ = some (.int .i64 a2_2) := (blk_cell BK891.out 2).trans rfl; have hcz117_3 : w116.cell? ⟨gb891, 3, none⟩ = some (.int .i64 a2_3) := (blk_cell BK891.out 3).trans rfl; have hcz117_4 : w116.cell? ⟨gb891, 4, none⟩ = some (.slice A2_4 l2_4.length c2_4) := (blk_cell BK891.out 4).trans rfl; have hfz117_0 := blk_frozen BK891.out 0; have hfz117_1 := blk_frozen BK891.out 1; have hfz117_2 := blk_frozen BK891.out 2; have hfz117_3 := blk_frozen BK891.out 3; have hfz117_4 := blk_frozen BK891.out 4) | ((with_reducible refine gate_callee (f := 26) rfl ?_); refine goesL_ (some 23) rfl rfl Try.func26 (by kernel_rfl) rfl #[.agg #[.int .i64 a2_0, .int .i64 a2_1, .int .i64 a2_2, .int .i64 a2_3, .slice A2_4 l2_4.length c2_4], .int .i64 t892] rfl z61x23 ?_; (with_reducible refine (laws_szMsg.calls a2_0 a2_1 a2_2 a2_3 _ _ l2_4 t892 t893 _ ?side1 ?side2 A9.out).mono ?_); (case side1 => repeat (first | exact (Kd.C_below HR2_4.out HB.out) | (with_reducible refine Kd.C_alloc ?_ _) | (with_reducible refine Kd.C_drewN ?_ _) | (with_reducible refine Kd.C_drew ?_))); (case side2 => exact HC2_4.out); rintro e w118 ⟨rfl, hb⟩; refine ⟨_, rfl, ?_⟩; have n0_ := Aside0.mk (blk_below (g := gb891) (o := .cells #[.int .i64 a2_0, .int .i64 a2_1, .int .i64 a2_2, .int .i64 a2_3, .slice A2_4 l2_4.length c2_4] 31 (0, 0)) z61x25 hb); have n1_ := Aside0.mk (below_step z61x21 hb); clear BK891; clear HB; have BK891 := n0_; have HB := n1_; clear n0_ n1_; (try clear hb); (try clear hb2); (try clear hk); (try clear hi)))
       have n0_ := Aside0.mk (blk_drew BK891.out)
       have n1_ := Aside0.mk (below_drew1 HB.out)
       clear BK891
       clear HB
       have BK891 := n0_
       have HB := n1_
       clear n0_ n1_
       refine start_ (n := 8) (S := fun w' => w'.cell? ⟨gb891, 0, none⟩ = some (.int .i64 a2_0) ∧ w'.cell? ⟨gb891, 1, none⟩ = some (.int .i64 a2_1) ∧ w'.cell? ⟨gb891, 2, none⟩ = some (.int .i64 a2_2) ∧ w'.cell? ⟨gb891, 3, none⟩ = some (.int .i64 a2_3) ∧ w'.cell? ⟨gb891, 4, none⟩ = some (.slice A2_4 l2_4.length c2_4)) (ds := []) #[false, false, false, false, false, false, false, false] (by kernel_rfl) rfl rfl ⟨(blk_cell BK891.out 0).trans rfl, (blk_cell BK891.out 1).trans rfl, (blk_cell BK891.out 2).trans rfl, (blk_cell BK891.out 3).trans rfl, (blk_cell BK891.out 4).trans rfl⟩ (fun hHeld => ?_); refine with_tabW laws_FnExactKnowBuild.tab10 laws_FnExactKnowBuild.bits10 (fun HT_ HW_ => ?_)
       generalize w118.drew = w119 at BK891 HB hHeld ⊢
       refine pure_ (i := 0) (N := some 26) (v := ?_) (a' := ?_) #[true, false, false, false, false, false, false, false] rfl rfl (any_of HT_.out (by kernel_rfl)) (fun _ _ _ h => h) (Or.inl ⟨by rfl, ?_⟩) ?_ ?_
       rotate_left
       ·intro w'
        go_simp
        with_reducible rfl
       rotate_left
       ·simp only [Act.put, List.setIfInBounds_toArray, List.set_cons_zero, List.set_cons_succ, i64_w, i32_w]
        rfl
       refine pure_ (i := 2) (N := some 28) (v := ?_) (a' := ?_) #[true, false, true, false, false, false, false, false] rfl rfl (any_of HT_.out (by kernel_rfl)) (fun _ _ _ h => h) (Or.inl ⟨by rfl, ?_⟩) ?_ ?_
       rotate_left
       ·intro w'
        go_simp
        with_reducible rfl
       rotate_left
       ·simp only [Act.put, List.setIfInBounds_toArray, List.set_cons_zero, List.set_cons_succ, i64_w, i32_w]
        rfl
       refine take_ (i := 4) (N := some 30) (v := ?_) (a' := ?_) #[true, false, true, false, true, false, false, false] rfl rfl (take_ofW HT_.out HW_.out (by kernel_rfl)) (fun _ _ _ h => h) (Or.inl ⟨by rfl, ?_⟩) hHeld ?_ ?_
       rotate_left
       ·rintro w' ⟨s0, s1, s2, s3, s4⟩
        go_simp
        with_reducible rfl
       rotate_left
       ·simp only [Act.put, List.setIfInBounds_toArray, List.set_cons_zero, List.set_cons_succ, i64_w, i32_w]
        rfl
       refine one_ (i := 1) (N := some 27) #[true, true, true, false, true, false, false, false] rfl rfl (one_of HT_.out (by kernel_rfl)) (by decide) (fun K hK => ?_)
       refine goes_ Try.func43 (by kernel_rfl) rfl #[.slice A0 l0.length c0] (by rfl) rfl rfl z61x23 ?_
       with_reducible refine (laws_toIntS.calls k _ _ l0 t894 _ ?side1 ?side2 A14.out).mono ?_
       (case side1 => repeat (first | exact (Kd.C_below HR0.out HB.out) | (with_reducible refine Kd.C_alloc ?_ _) | (with_reducible refine Kd.C_drewN ?_ _) | (with_reducible refine Kd.C_drew ?_)))
       (case side2 => exact HC0.out)
       rintro e w120 ⟨v895, rfl, ho0, hb⟩
       refine ⟨_, rfl, ?_⟩
       have n0_ := Aside0.mk (Kd.R_lower ho0 (below_size z61x21))
       have n1_ := Aside0.mk (blk_below (g := gb891) (o := .cells #[.int .i64 a2_0, .int .i64 a2_1, .int .i64 a2_2, .int .i64 a2_3, .slice A2_4 l2_4.length c2_4] 31 (0, 0)) z61x25 hb)
       have n2_ := Aside0.mk (below_step z61x21 hb)
       clear BK891
       clear HB
       have HO896 := n0_
       have BK891 := n1_
       have HB := n2_
       clear n0_ n1_ n2_
       (try clear hb)
       (try clear hb2)
       (try clear hk)
       (try clear hi)
       (try clear ho0)
       refine hK.out _ _ ⟨(blk_cell BK891.out 0).trans rfl, (blk_cell BK891.out 1).trans rfl, (blk_cell BK891.out 2).trans rfl, (blk_cell BK891.out 3).trans rfl, (blk_cell BK891.out 4).trans rfl⟩ (fun hHeld => ?_)
       clear hK K
       refine norm_ (a' := ?_) ?_ ?_
       rotate_left
       ·show Act.put _ (some 27) _ = _
        simp only [Act.put, List.setIfInBounds_toArray, List.set_cons_zero, List.set_cons_succ, i64_w, i32_w]
        rfl
       refine one_ (i := 3) (N := some 29) #[true, true, true, true, true, false, false, false] rfl rfl (one_of HT_.out (by kernel_rfl)) (by decide) (fun K hK => ?_)
       refine goes_ Try.func44 (by kernel_rfl) rfl #[.slice A1 l1.length c1] (by rfl) rfl rfl z61x23 ?_
       with_reducible refine (laws_toSealS.calls k _ _ l1 t897 _ ?side1 ?side2 A15.out).mono ?_
       (case side1 => repeat (first | exact (Kd.C_below HR1.out HB.out) | (with_reducible refine Kd.C_alloc ?_ _) | (with_reducible refine Kd.C_drewN ?_ _) | (with_reducible refine Kd.C_drew ?_)))
       (case side2 => exact HC1.out)
       rintro e w121 ⟨v898, rfl, ho0, hb⟩
       refine ⟨_, rfl, ?_⟩
       have n0_ := Aside0.mk (Kd.R_below z61x27 hb)
       have n1_ := Aside0.mk (Kd.R_lower ho0 (below_size z61x21))
       have n2_ := Aside0.mk (blk_below (g := gb891) (o := .cells #[.int .i64 a2_0, .int .i64 a2_1, .int .i64 a2_2, .int .i64 a2_3, .slice A2_4 l2_4.length c2_4] 31 (0, 0)) z61x25 hb)
       have n3_ := Aside0.mk (below_step z61x21 hb)
       clear HO896
       clear BK891
       clear HB
       have HO896 := n0_
       have HO899 := n1_
       have BK891 := n2_
       have HB := n3_
       clear n0_ n1_ n2_ n3_
       (try clear hb)
       (try clear hb2)
       (try clear hk)
       (try clear hi)
       (try clear ho0)
       refine hK.out _ _ ⟨(blk_cell BK891.out 0).trans rfl, (blk_cell BK891.out 1).trans rfl, (blk_cell BK891.out 2).trans rfl, (blk_cell BK891.out 3).trans rfl, (blk_cell BK891.out 4).trans rfl⟩ (fun hHeld => ?_)
       clear hK K
       refine norm_ (a' := ?_) ?_ ?_
       rotate_left
       ·show Act.put _ (some 29) _ = _
        simp only [Act.put, List.setIfInBounds_toArray, List.set_cons_zero, List.set_cons_succ, i64_w, i32_w]
        rfl
       refine one_ (i := 5) (N := some 31) #[true, true, true, true, true, true, false, false] rfl rfl (one_of HT_.out (by kernel_rfl)) (by decide) (fun K hK => ?_)
       refine goes_ Try.func28 (by kernel_rfl) rfl #[.agg #[.int .i64 a2_0, .int .i64 a2_1, .int .i64 a2_2, .int .i64 a2_3, .slice A2_4 l2_4.length c2_4]] (by rfl) rfl rfl z61x23 ?_
       with_reducible refine (laws_toMsg.calls k a2_0 a2_1 a2_2 a2_3 _ _ l2_4 t900 t901 t902 t903 t904 _ ?side1 ?side2 A16.out).mono ?_
       (case side1 => repeat (first | exact (Kd.C_below HR2_4.out HB.out) | (with_reducible refine Kd.C_alloc ?_ _) | (with_reducible refine Kd.C_drewN ?_ _) | (with_reducible refine Kd.C_drew ?_)))
       (case side2 => exact HC2_4.out)
       rintro e w122 ⟨v905, rfl, ho0, hb⟩
       refine ⟨_, rfl, ?_⟩
       have n0_ := Aside0.mk (Kd.R_below z61x27 hb)
       have n1_ := Aside0.mk (Kd.R_elder' z61x28 (Kd.R_base ho0) hb)
       have n2_ := Aside0.mk (Kd.R_lower (Kd.R_new' ho0 (Kd.R_lt z61x28)) (below_size z61x21))
       have n3_ := Aside0.mk (blk_below (g := gb891) (o := .cells #[.int .i64 a2_0, .int .i64 a2_1, .int .i64 a2_2, .int .i64 a2_3, .slice A2_4 l2_4.length c2_4] 31 (0, 0)) z61x25 hb)
       have n4_ := Aside0.mk (below_step z61x21 hb)
       clear HO896
       clear HO899
       clear BK891
       clear HB
       have HO896 := n0_
       have HO899 := n1_
       have HO906 := n2_
       have BK891 := n3_
       have HB := n4_
       clear n0_ n1_ n2_ n3_ n4_
       (try clear hb)
       (try clear hb2)
       (try clear hk)
       (try clear hi)
       (try clear ho0)
       obtain ⟨Ao123, co123, eo123⟩ := Kd.R_slice HO896.out
       (first | subst eo123 | (injection eo123 with f1_ f2_ f3_; have f4_ := f1_.symm; have f5_ := f3_.symm; clear f1_ f2_ f3_; subst f4_; subst f5_))
       obtain ⟨Ao124, co124, eo124⟩ := Kd.R_slice HO899.out
       (first | subst eo124 | (injection eo124 with f1_ f2_ f3_; have f4_ := f1_.symm; have f5_ := f3_.symm; clear f1_ f2_ f3_; subst f4_; subst f5_))
       obtain ⟨Ao125, co125, eo125⟩ := Kd.R_slice HO906.out
       (first | subst eo125 | (injection eo125 with f1_ f2_ f3_; have f4_ := f1_.symm; have f5_ := f3_.symm; clear f1_ f2_ f3_; subst f4_; subst f5_))
       refine hK.out _ _ ⟨(blk_cell BK891.out 0).trans rfl, (blk_cell BK891.out 1).trans rfl, (blk_cell BK891.out 2).trans rfl, (blk_cell BK891.out 3).trans rfl, (blk_cell BK891.out 4).trans rfl⟩ (fun hHeld => ?_)
       clear hK K
       refine norm_ (a' := ?_) ?_ ?_
       rotate_left
       ·show Act.put _ (some 31) _ = _
        simp only [Act.put, List.setIfInBounds_toArray, List.set_cons_zero, List.set_cons_succ, i64_w, i32_w]
        rfl
       refine one_ (i := 6) (N := some 32) #[true, true, true, true, true, true, true, false] rfl rfl (one_of HT_.out (by kernel_rfl)) (by decide) (fun K hK => ?_)
       refine goes_ Try.func51 (by kernel_rfl) rfl #[.slice Ao123 t894.length co123, .slice Ao124 t897.length co124, .agg #[.int .i64 t900, .int .i64 t901, .int .i64 t902, .int .i64 t903, .slice Ao125 t904.length co125]] (by rfl) rfl rfl z61x23 ?_
       with_reducible refine (spec_KnowBuild.calls k _ _ t894 _ _ t897 t900 t901 t902 t903 _ _ t904 t907 _ ?side1 ?side2 ?side3 ?side4 ?side5 ?side6 A17.out).mono ?_
       (case side1 => repeat (first | exact (Kd.R_reads' HO896.out).2.2 | (with_reducible refine Kd.C_alloc ?_ _) | (with_reducible refine Kd.C_drewN ?_ _) | (with_reducible refine Kd.C_drew ?_)))
       (case side2 => exact (Kd.R_reads' HO896.out).2.1)
       (case side3 => repeat (first | exact (Kd.R_reads' HO899.out).2.2 | (with_reducible refine Kd.C_alloc ?_ _) | (with_reducible refine Kd.C_drewN ?_ _) | (with_reducible refine Kd.C_drew ?_)))
       (case side4 => exact (Kd.R_reads' HO899.out).2.1)
       (case side5 => repeat (first | exact (Kd.R_reads' HO906.out).2.2 | (with_reducible refine Kd.C_alloc ?_ _) | (with_reducible refine Kd.C_drewN ?_ _) | (with_reducible refine Kd.C_drew ?_)))
       (case side6 => exact (Kd.R_reads' HO906.out).2.1)
       rintro e w126 ⟨rfl, hb⟩
       refine ⟨_, rfl, ?_⟩
       have n0_ := Aside0.mk (Kd.R_below z61x27 hb)
       have n1_ := Aside0.mk (Kd.R_below z61x28 hb)
       have n2_ := Aside0.mk (Kd.R_below z61x29 hb)
       have n3_ := Aside0.mk (blk_below (g := gb891) (o := .cells #[.int .i64 a2_0, .int .i64 a2_1, .int .i64 a2_2, .int .i64 a2_3, .slice A2_4 l2_4.length c2_4] 31 (0, 0)) z61x25 hb)
       have n4_ := Aside0.mk (below_step z61x21 hb)
       clear HO896
       clear HO899
       clear HO906
       clear BK891
       clear HB
       have HO896 := n0_
       have HO899 := n1_
       have HO906 := n2_
       have BK891 := n3_
       have HB := n4_
       clear n0_ n1_ n2_ n3_ n4_
       (try clear hb)
       (try clear hb2)
       (try clear hk)
       (try clear hi)
       refine hK.out _ _ ⟨(blk_cell BK891.out 0).trans rfl, (blk_cell BK891.out 1).trans rfl, (blk_cell BK891.out 2).trans rfl, (blk_cell BK891.out 3).trans rfl, (blk_cell BK891.out 4).trans rfl⟩ (fun hHeld => ?_)
       clear hK K
       refine norm_ (a' := ?_) ?_ ?_
       rotate_left
       ·show Act.put _ (some 32) _ = _
        simp only [Act.put, List.setIfInBounds_toArray, List.set_cons_zero, List.set_cons_succ, i64_w, i32_w]
        rfl
       refine pure_ (i := 7) (N := some 8) (v := ?_) (a' := ?_) #[true, true, true, true, true, true, true, true] rfl rfl (any_of HT_.out (by kernel_rfl)) (fun _ _ _ h => h) (Or.inl ⟨by rfl, ?_⟩) ?_ ?_
       rotate_left
       ·intro w'
        go_simp
        with_reducible rfl
       rotate_left
       ·simp only [Act.put, List.setIfInBounds_toArray, List.set_cons_zero, List.set_cons_succ, i64_w, i32_w]
        rfl
       refine done_ (done_of HT_.out (by kernel_rfl)) ?_
       try go_wp2_with (first | ((with_reducible refine gate_callee (f := 43) rfl ?_); refine goesL_ (some 34) rfl rfl Try.func43 (by kernel_rfl) rfl #[.slice A0 l0.length c0] rfl z61x23 ?_; (with_reducible refine (laws_toIntS.calls k _ _ l0 t908 _ ?side1 ?side2 A18.out).mono ?_); (case side1 => repeat (first | exact (Kd.C_below HR0.out HB.out) | (with_reducible refine Kd.C_alloc ?_ _) | (with_reducible refine Kd.C_drewN ?_ _) | (with_reducible refine Kd.C_drew ?_))); (case side2 => exact HC0.out); rintro e w127 ⟨v909, rfl, ho0, hb⟩; refine ⟨_, rfl, ?_⟩; have n0_ := Aside0.mk (Kd.R_elder' z61x27 (Kd.R_base ho0) hb); have n1_ := Aside0.mk (Kd.R_below z61x28 hb); have n2_ := Aside0.mk (Kd.R_below z61x29 hb); have n3_ := Aside0.mk (Kd.R_lower (Kd.R_new' ho0 (Kd.R_lt z61x27)) (below_size z61x21)); have n4_ := Aside0.mk (blk_below (g := gb891) (o := .cells #[.int .i64 a2_0, .int .i64 a2_1, .int .i64 a2_2, .int .i64 a2_3, .slice A2_4 l2_4.length c2_4] 31 (0, 0)) z61x25 hb); have n5_ := Aside0.mk (below_step z61x21 hb); clear HO896; clear HO899; clear HO906; clear BK891; clear HB; have HO896 := n0_; have HO899 := n1_; have HO906 := n2_; have HO910 := n3_; have BK891 := n4_; have HB := n5_; clear n0_ n1_ n2_ n3_ n4_ n5_; (try clear hb); (try clear hb2); (try clear hk); (try clear hi); (try clear ho0)) | ((with_reducible refine gate_callee (f := 44) rfl ?_); refine goesL_ (some 36) rfl rfl Try.func44 (by kernel_rfl) rfl #[.slice A1 l1.length c1] rfl z61x23 ?_; (with_reducible refine (laws_toSealS.calls k _ _ l1 t911 _ ?side1 ?side2 A19.out).mono ?_); (case side1 => repeat (first | exact (Kd.C_below HR1.out HB.out) | (with_reducible refine Kd.C_alloc ?_ _) | (with_reducible refine Kd.C_drewN ?_ _) | (with_reducible refine Kd.C_drew ?_))); (case side2 => exact HC1.out); rintro e w128 ⟨v912, rfl, ho0, hb⟩; refine ⟨_, rfl, ?_⟩; have n0_ := Aside0.mk (Kd.R_below z61x27 hb); have n1_ := Aside0.mk (Kd.R_elder' z61x28 (Kd.R_base ho0) hb); have n2_ := Aside0.mk (Kd.R_elder' z61x29 (Kd.R_base ho0) hb); have n3_ := Aside0.mk (Kd.R_below z61x30 hb); have n4_ := Aside0.mk (Kd.R_lower (Kd.R_new' (Kd.R_new' ho0 (Kd.R_lt z61x28)) (Kd.R_lt z61x29)) (below_size z61x21)); have n5_ := Aside0.mk (blk_below (g := gb891) (o := .cells #[.int .i64 a2_0, .int .i64 a2_1, .int .i64 a2_2, .int .i64 a2_3, .slice A2_4 l2_4.length c2_4] 31 (0, 0)) z61x25 hb); have n6_ := Aside0.mk (below_step z61x21 hb); clear HO896; clear HO899; clear HO906; clear HO910; clear BK891; clear HB; have HO896 := n0_; have HO899 := n1_; have HO906 := n2_; have HO910 := n3_; have HO913 := n4_; have BK891 := n5_; have HB := n6_; clear n0_ n1_ n2_ n3_ n4_ n5_ n6_; (try clear hb); (try clear hb2); (try clear hk); (try clear hi); (try clear ho0); have hcz129_0 : w128.cell? ⟨gb891, 0, none⟩ = some (.int .i64 a2_0) := (blk_cell BK891.out 0).trans rfl; have hcz129_1 : w128.cell? ⟨gb891, 1, none⟩ = some (.int .i64 a2_1) := (blk_cell BK891.out 1).trans rfl; have hcz129_2 : w128.cell? ⟨gb891, 2, none⟩ = some (.int .i64 a2_2) := (blk_cell BK891.out 2).trans rfl; have hcz129_3 : w128.cell? ⟨gb891, 3, none⟩ = some (.int .i64 a2_3) := (blk_cell BK891.out 3).trans rfl; have hcz129_4 : w128.cell? ⟨gb891, 4, none⟩ = some (.slice A2_4 l2_4.length c2_4) := (blk_cell BK891.out 4).trans rfl; have hfz129_0 := blk_frozen BK891.out 0; have hfz129_1 := blk_frozen BK891.out 1; have hfz129_2 := blk_frozen BK891.out 2; have hfz129_3 := blk_frozen BK891.out 3; have hfz129_4 := blk_frozen BK891.out 4) | ((with_reducible refine gate_callee (f := 28) rfl ?_); refine goesL_ (some 38) rfl rfl Try.func28 (by kernel_rfl) rfl #[.agg #[.int .i64 a2_0, .int .i64 a2_1, .int .i64 a2_2, .int .i64 a2_3, .slice A2_4 l2_4.length c2_4]] rfl z61x23 ?_; (with_reducible refine (laws_toMsg.calls k a2_0 a2_1 a2_2 a2_3 _ _ l2_4 t914 t915 t916 t917 t918 _ ?side1 ?side2 A20.out).mono ?_); (case side1 => repeat (first | exact (Kd.C_below HR2_4.out HB.out) | (with_reducible refine Kd.C_alloc ?_ _) | (with_reducible refine Kd.C_drewN ?_ _) | (with_reducible refine Kd.C_drew ?_))); (case side2 => exact HC2_4.out); rintro e w130 ⟨v919, rfl, ho0, hb⟩; refine ⟨_, rfl, ?_⟩; have n0_ := Aside0.mk (Kd.R_below z61x27 hb); have n1_ := Aside0.mk (Kd.R_elder' z61x28 (Kd.R_base ho0) hb); have n2_ := Aside0.mk (Kd.R_elder' z61x29 (Kd.R_base ho0) hb); have n3_ := Aside0.mk (Kd.R_below z61x30 hb); have n4_ := Aside0.mk (Kd.R_elder' z61x31 (Kd.R_base ho0) hb); have n5_ := Aside0.mk (Kd.R_lower (Kd.R_new' (Kd.R_new' (Kd.R_new' ho0 (Kd.R_lt z61x28)) (Kd.R_lt z61x29)) (Kd.R_lt z61x31)) (below_size z61x21)); have n6_ := Aside0.mk (blk_below (g := gb891) (o := .cells #[.int .i64 a2_0, .int .i64 a2_1, .int .i64 a2_2, .int .i64 a2_3, .slice A2_4 l2_4.length c2_4] 31 (0, 0)) z61x25 hb); have n7_ := Aside0.mk (below_step z61x21 hb); clear HO896; clear HO899; clear HO906; clear HO910; clear HO913; clear BK891; clear HB; have HO896 := n0_; have HO899 := n1_; have HO906 := n2_; have HO910 := n3_; have HO913 := n4_; have HO920 := n5_; have BK891 := n6_; have HB := n7_; clear n0_ n1_ n2_ n3_ n4_ n5_ n6_ n7_; (try clear hb); (try clear hb2); (try clear hk); (try clear hi); (try clear ho0)) | ((with_reducible refine gate_dst (N := 11) rfl ?_); refine box_event ?hg (N := 11) ?hd (cs := #[.int .i64 0, .int .i64 0, .int .i64 0, .int .i64 0, .slice none 0 0]) (t := 36) ?hr ?_; (case hd => rfl); (case hg => rfl); (case hr => first | (go_simp; done) | (go_simp; rfl)); intro gb921 hg w131 hbox hb; have n0_ := Aside0.mk (Kd.R_below z61x27 hb); have n1_ := Aside0.mk (Kd.R_below z61x28 hb); have n2_ := Aside0.mk (Kd.R_below z61x29 hb); have n3_ := Aside0.mk (Kd.R_below z61x30 hb); have n4_ := Aside0.mk (Kd.R_below z61x31 hb); have n5_ := Aside0.mk (Kd.R_below z61x32 hb); have n6_ := Aside0.mk (blk_below (g := gb891) (o := .cells #[.int .i64 a2_0, .int .i64 a2_1, .int .i64 a2_2, .int .i64 a2_3, .slice A2_4 l2_4.length c2_4] 31 (0, 0)) z61x25 hb); have n7_ := Aside0.mk (below_step z61x21 hb); have n8_ := Aside0.mk (hbox); have n9_ := Aside0.mk ((z61x20 : w.heap.size ≤ gb921)); have n10_ := Aside0.mk ((z61x20 : w.heap.size ≤ gb921)); have n11_ := Aside0.mk ((z61x18 : gb891 ≠ gb921)); have n12_ := Aside0.mk ((z61x17 : gb921 ≠ gb891)); clear HO896; clear HO899; clear HO906; clear HO910; clear HO913; clear HO920; clear BK891; clear HB; have HO896 := n0_; have HO899 := n1_; have HO906 := n2_; have HO910 := n3_; have HO913 := n4_; have HO920 := n5_; have BK891 := n6_; have HB := n7_; have BK921 := n8_; have GW921 := n9_; have GE921 := n10_; have NB891_921 := n11_; have NB921_891 := n12_; clear n0_ n1_ n2_ n3_ n4_ n5_ n6_ n7_ n8_ n9_ n10_ n11_ n12_; clear hb hbox hg; have hnb132 := NB921_891.out; have hnc132 := NB891_921.out; have hcz133_0 : w131.cell? ⟨gb921, 0, none⟩ = some (.int .i64 0) := (blk_cell BK921.out 0).trans rfl; have hcz133_1 : w131.cell? ⟨gb921, 1, none⟩ = some (.int .i64 0) := (blk_cell BK921.out 1).trans rfl; have hcz133_2 : w131.cell? ⟨gb921, 2, none⟩ = some (.int .i64 0) := (blk_cell BK921.out 2).trans rfl; have hcz133_3 : w131.cell? ⟨gb921, 3, none⟩ = some (.int .i64 0) := (blk_cell BK921.out 3).trans rfl; have hcz133_4 : w131.cell? ⟨gb921, 4, none⟩ = some (.slice none 0 0) := (blk_cell BK921.out 4).trans rfl; have hfz133_0 := blk_frozen BK921.out 0; have hfz133_1 := blk_frozen BK921.out 1; have hfz133_2 := blk_frozen BK921.out 2; have hfz133_3 := blk_frozen BK921.out 3; have hfz133_4 := blk_frozen BK921.out 4; obtain ⟨Ao134, co134, eo134⟩ := Kd.R_slice HO920.out; subst eo134; obtain ⟨Ao135, co135, eo135⟩ := Kd.R_slice HO910.out; subst eo135; obtain ⟨Ao136, co136, eo136⟩ := Kd.R_slice HO913.out; subst eo136) | ((with_reducible refine gate_callee (f := 52) rfl ?_); refine goesL_ (some 42) rfl rfl Try.func52 (by kernel_rfl) rfl #[.slice Ao135 t908.length co135, .slice Ao136 t911.length co136, .agg #[.int .i64 t914, .int .i64 t915, .int .i64 t916, .int .i64 t917, .slice Ao134 t918.length co134]] rfl z61x23 ?_; (with_reducible refine (impl_KnowBuild.calls _ _ t908 _ _ t911 t914 t915 t916 t917 _ _ t918 t922 _ ?side1 ?side2 ?side3 ?side4 ?side5 ?side6 A21.out).mono ?_); (case side1 => refine (Kd.R_reads' (e := 3) (base := w.heap.size) (ok := fun k_ => (True ∧ some k_ ≠ (.slice Ao123 t894.length co123 : Value).ownBlock)) (n := t908.length) (c := co135) ?_).2.2; exact z61x3); (case side2 => exact (Kd.R_reads' HO910.out).2.1); (case side3 => refine (Kd.R_reads' (e := 24) (base := w.heap.size) (ok := fun k_ => (((True ∧ some k_ ≠ (.slice Ao124 t897.length co124 : Value).ownBlock) ∧ some k_ ≠ (.slice Ao125 t904.length co125 : Value).ownBlock) ∧ some k_ ≠ (.slice Ao134 t918.length co134 : Value).ownBlock)) (n := t911.length) (c := co136) ?_).2.2; exact z61x6); (case side4 => exact (Kd.R_reads' HO913.out).2.1); (case side5 => refine (Kd.R_reads' (e := 24) (base := w.heap.size) (ok := fun k_ => (((True ∧ some k_ ≠ (.slice Ao124 t897.length co124 : Value).ownBlock) ∧ some k_ ≠ (.slice Ao125 t904.length co125 : Value).ownBlock) ∧ some k_ ≠ (.slice Ao136 t911.length co136 : Value).ownBlock)) (n := t918.length) (c := co134) ?_).2.2; exact z61x9); (case side6 => exact (Kd.R_reads' HO920.out).2.1); rintro e w137 ⟨rfl, hb⟩; refine ⟨_, rfl, ?_⟩; have n0_ := Aside0.mk (Kd.R_below (by (with_reducible repeat (first | apply Kd.R_alloc | apply Kd.R_drewN | apply Kd.R_drew)); exact (Kd.R_mono (Kd.R_far (p := ⟨gb921, 4, none⟩) (Kd.R_far (p := ⟨gb921, 3, none⟩) (Kd.R_far (p := ⟨gb921, 2, none⟩) (Kd.R_far (p := ⟨gb921, 1, none⟩) (Kd.R_far (p := ⟨gb921, 0, none⟩) (Kd.R_types HO896.out BK921.out (by decide)) (fun _ hk => hk.2) (.int .i64 t914)) (fun _ hk => hk.2) (.int .i64 t915)) (fun _ hk => hk.2) (.int .i64 t916)) (fun _ hk => hk.2) (.int .i64 t917)) (fun _ hk => hk.2) (.slice Ao134 t918.length co134)) (fun _ h_ => h_.1))) hb); have n1_ := Aside0.mk (Kd.R_below (by (with_reducible repeat (first | apply Kd.R_alloc | apply Kd.R_drewN | apply Kd.R_drew)); exact (Kd.R_mono (Kd.R_far (p := ⟨gb921, 4, none⟩) (Kd.R_far (p := ⟨gb921, 3, none⟩) (Kd.R_far (p := ⟨gb921, 2, none⟩) (Kd.R_far (p := ⟨gb921, 1, none⟩) (Kd.R_far (p := ⟨gb921, 0, none⟩) (Kd.R_types HO899.out BK921.out (by decide)) (fun _ hk => hk.2) (.int .i64 t914)) (fun _ hk => hk.2) (.int .i64 t915)) (fun _ hk => hk.2) (.int .i64 t916)) (fun _ hk => hk.2) (.int .i64 t917)) (fun _ hk => hk.2) (.slice Ao134 t918.length co134)) (fun _ h_ => h_.1))) hb); have n2_ := Aside0.mk (Kd.R_below (by (with_reducible repeat (first | apply Kd.R_alloc | apply Kd.R_drewN | apply Kd.R_drew)); exact (Kd.R_mono (Kd.R_far (p := ⟨gb921, 4, none⟩) (Kd.R_far (p := ⟨gb921, 3, none⟩) (Kd.R_far (p := ⟨gb921, 2, none⟩) (Kd.R_far (p := ⟨gb921, 1, none⟩) (Kd.R_far (p := ⟨gb921, 0, none⟩) (Kd.R_types HO906.out BK921.out (by decide)) (fun _ hk => hk.2) (.int .i64 t914)) (fun _ hk => hk.2) (.int .i64 t915)) (fun _ hk => hk.2) (.int .i64 t916)) (fun _ hk => hk.2) (.int .i64 t917)) (fun _ hk => hk.2) (.slice Ao134 t918.length co134)) (fun _ h_ => h_.1))) hb); have n3_ := Aside0.mk (Kd.R_below z61x3 hb); have n4_ := Aside0.mk (Kd.R_below z61x6 hb); have n5_ := Aside0.mk (Kd.R_below z61x9 hb); have n6_ := Aside0.mk (blk_below (g := gb891) (o := .cells #[.int .i64 a2_0, .int .i64 a2_1, .int .i64 a2_2, .int .i64 a2_3, .slice A2_4 l2_4.length c2_4] 31 (0, 0)) z61x1 hb); have n7_ := Aside0.mk (blk_below (g := gb921) (o := .cells #[.int .i64 t914, .int .i64 t915, .int .i64 t916, .int .i64 t917, .slice Ao134 t918.length co134] 36 (0, 0)) z61x0 hb); have n8_ := Aside0.mk (below_step z61x19 hb); clear HO896; clear HO899; clear HO906; clear HO910; clear HO913; clear HO920; clear BK891; clear BK921; clear HB; have HO896 := n0_; have HO899 := n1_; have HO906 := n2_; have HO910 := n3_; have HO913 := n4_; have HO920 := n5_; have BK891 := n6_; have BK921 := n7_; have HB := n8_; clear n0_ n1_ n2_ n3_ n4_ n5_ n6_ n7_ n8_; (try clear hb); (try clear hb2); (try clear hk); (try clear hi)) | ((with_reducible refine gate_callee (f := 43) rfl ?_); refine goesL_ (some 48) rfl rfl Try.func43 (by kernel_rfl) rfl #[.slice A0 l0.length c0] rfl z61x23 ?_; (with_reducible refine (laws_toIntS.calls k _ _ l0 t923 _ ?side1 ?side2 A45.out).mono ?_); (case side1 => repeat (first | exact (Kd.C_below HR0.out HB.out) | (with_reducible refine Kd.C_alloc ?_ _) | (with_reducible refine Kd.C_drewN ?_ _) | (with_reducible refine Kd.C_drew ?_))); (case side2 => exact HC0.out); rintro e w138 ⟨v924, rfl, ho0, hb⟩; refine ⟨_, rfl, ?_⟩; have n0_ := Aside0.mk (Kd.R_elder' z61x27 (Kd.R_base ho0) hb); have n1_ := Aside0.mk (Kd.R_below z61x28 hb); have n2_ := Aside0.mk (Kd.R_below z61x29 hb); have n3_ := Aside0.mk (Kd.R_elder' z61x30 (Kd.R_base ho0) hb); have n4_ := Aside0.mk (Kd.R_below z61x31 hb); have n5_ := Aside0.mk (Kd.R_below z61x32 hb); have n6_ := Aside0.mk (Kd.R_lower (Kd.R_new' (Kd.R_new' ho0 (Kd.R_lt z61x27)) (Kd.R_lt z61x30)) (below_size z61x19)); have n7_ := Aside0.mk (blk_below (g := gb891) (o := .cells #[.int .i64 a2_0, .int .i64 a2_1, .int .i64 a2_2, .int .i64 a2_3, .slice A2_4 l2_4.length c2_4] 31 (0, 0)) z61x25 hb); have n8_ := Aside0.mk (blk_below (g := gb921) (o := .cells #[.int .i64 t914, .int .i64 t915, .int .i64 t916, .int .i64 t917, .slice Ao134 t918.length co134] 36 (0, 0)) z61x26 hb); have n9_ := Aside0.mk (below_step z61x19 hb); clear HO896; clear HO899; clear HO906; clear HO910; clear HO913; clear HO920; clear BK891; clear BK921; clear HB; have HO896 := n0_; have HO899 := n1_; have HO906 := n2_; have HO910 := n3_; have HO913 := n4_; have HO920 := n5_; have HO925 := n6_; have BK891 := n7_; have BK921 := n8_; have HB := n9_; clear n0_ n1_ n2_ n3_ n4_ n5_ n6_ n7_ n8_ n9_; (try clear hb); (try clear hb2); (try clear hk); (try clear hi); (try clear ho0); obtain ⟨Ao139, co139, eo139⟩ := Kd.R_slice HO925.out; subst eo139) | ((with_reducible refine gate_callee (f := 45) rfl ?_); refine goesL_ (some 49) rfl rfl Try.func45 (by kernel_rfl) rfl #[.slice Ao135 t908.length co135, .slice Ao139 t923.length co139] rfl z61x23 ?_; (with_reducible refine (laws_eqIntS.calls k _ _ t908 _ _ t923 true _ ?side1 ?side2 ?side3 ?side4 A46.out).mono ?_); (case side1 => repeat (first | exact (Kd.R_reads' HO910.out).2.2 | (with_reducible refine Kd.C_alloc ?_ _) | (with_reducible refine Kd.C_drewN ?_ _) | (with_reducible refine Kd.C_drew ?_))); (case side2 => exact (Kd.R_reads' HO910.out).2.1); (case side3 => repeat (first | exact (Kd.R_reads' HO925.out).2.2 | (with_reducible refine Kd.C_alloc ?_ _) | (with_reducible refine Kd.C_drewN ?_ _) | (with_reducible refine Kd.C_drew ?_))); (case side4 => exact (Kd.R_reads' HO925.out).2.1); rintro e w' ⟨rfl, ⟨nd, rfl⟩⟩; refine ⟨_, rfl, ?_⟩) | ((with_reducible refine gate_callee (f := 44) rfl ?_); refine goesL_ (some 53) rfl rfl Try.func44 (by kernel_rfl) rfl #[.slice A1 l1.length c1] rfl z61x23 ?_; (with_reducible refine (laws_toSealS.calls k _ _ l1 t927 _ ?side1 ?side2 A48.out).mono ?_); (case side1 => repeat (first | exact (Kd.C_below HR1.out z61x19) | (with_reducible refine Kd.C_alloc ?_ _) | (with_reducible refine Kd.C_drewN ?_ _) | (with_reducible refine Kd.C_drew ?_))); (case side2 => exact HC1.out); rintro e w140 ⟨v928, rfl, ho0, hb⟩; refine ⟨_, rfl, ?_⟩; have n0_ := Aside0.mk (Kd.R_below z61x27 hb); have n1_ := Aside0.mk (Kd.R_elder' z61x28 (Kd.R_base ho0) hb); have n2_ := Aside0.mk (Kd.R_elder' z61x29 (Kd.R_base ho0) hb); have n3_ := Aside0.mk (Kd.R_below z61x30 hb); have n4_ := Aside0.mk (Kd.R_elder' z61x31 (Kd.R_base ho0) hb); have n5_ := Aside0.mk (Kd.R_elder' z61x32 (Kd.R_base ho0) hb); have n6_ := Aside0.mk (Kd.R_below z61x33 hb); have n7_ := Aside0.mk (Kd.R_lower (Kd.R_new' (Kd.R_new' (Kd.R_new' (Kd.R_new' ho0 (Kd.R_lt z61x28)) (Kd.R_lt z61x29)) (Kd.R_lt z61x31)) (Kd.R_lt z61x32)) (below_size z61x19)); have n8_ := Aside0.mk (blk_below (g := gb891) (o := .cells #[.int .i64 a2_0, .int .i64 a2_1, .int .i64 a2_2, .int .i64 a2_3, .slice A2_4 l2_4.length c2_4] 31 (0, 0)) z61x25 hb); have n9_ := Aside0.mk (blk_below (g := gb921) (o := .cells #[.int .i64 t914, .int .i64 t915, .int .i64 t916, .int .i64 t917, .slice Ao134 t918.length co134] 36 (0, 0)) z61x26 hb); have n10_ := Aside0.mk (below_step z61x19 hb); clear HO896; clear HO899; clear HO906; clear HO910; clear HO913; clear HO920; clear HO925; clear BK891; clear BK921; clear HB; have HO896 := n0_; have HO899 := n1_; have HO906 := n2_; have HO910 := n3_; have HO913 := n4_; have HO920 := n5_; have HO925 := n6_; have HO929 := n7_; have BK891 := n8_; have BK921 := n9_; have HB := n10_; clear n0_ n1_ n2_ n3_ n4_ n5_ n6_ n7_ n8_ n9_ n10_; (try clear hb); (try clear hb2); (try clear hk); (try clear hi); (try clear ho0); obtain ⟨Ao141, co141, eo141⟩ := Kd.R_slice HO929.out; subst eo141) | ((with_reducible refine gate_callee (f := 46) rfl ?_); refine goesL_ (some 54) rfl rfl Try.func46 (by kernel_rfl) rfl #[.slice Ao136 t911.length co136, .slice Ao141 t927.length co141] rfl z61x23 ?_; (with_reducible refine (laws_eqSealS.calls k _ _ t911 _ _ t927 false _ ?side1 ?side2 ?side3 ?side4 A49.out).mono ?_); (case side1 => repeat (first | exact (Kd.R_reads' HO913.out).2.2 | (with_reducible refine Kd.C_alloc ?_ _) | (with_reducible refine Kd.C_drewN ?_ _) | (with_reducible refine Kd.C_drew ?_))); (case side2 => exact (Kd.R_reads' HO913.out).2.1); (case side3 => repeat (first | exact (Kd.R_reads' HO929.out).2.2 | (with_reducible refine Kd.C_alloc ?_ _) | (with_reducible refine Kd.C_drewN ?_ _) | (with_reducible refine Kd.C_drew ?_))); (case side4 => exact (Kd.R_reads' HO929.out).2.1); rintro e w142 ⟨rfl, hb⟩; refine ⟨_, rfl, ?_⟩; have n0_ := Aside0.mk (Kd.R_below z61x27 hb); have n1_ := Aside0.mk (Kd.R_below z61x28 hb); have n2_ := Aside0.mk (Kd.R_below z61x29 hb); have n3_ := Aside0.mk (Kd.R_below z61x30 hb); have n4_ := Aside0.mk (Kd.R_below z61x31 hb); have n5_ := Aside0.mk (Kd.R_below z61x32 hb); have n6_ := Aside0.mk (Kd.R_below z61x33 hb); have n7_ := Aside0.mk (Kd.R_below z61x34 hb); have n8_ := Aside0.mk (blk_below (g := gb891) (o := .cells #[.int .i64 a2_0, .int .i64 a2_1, .int .i64 a2_2, .int .i64 a2_3, .slice A2_4 l2_4.length c2_4] 31 (0, 0)) z61x25 hb); have n9_ := Aside0.mk (blk_below (g := gb921) (o := .cells #[.int .i64 t914, .int .i64 t915, .int .i64 t916, .int .i64 t917, .slice Ao134 t918.length co134] 36 (0, 0)) z61x26 hb); have n10_ := Aside0.mk (below_step z61x19 hb); clear HO896; clear HO899; clear HO906; clear HO910; clear HO913; clear HO920; clear HO925; clear HO929; clear BK891; clear BK921; clear HB; have HO896 := n0_; have HO899 := n1_; have HO906 := n2_; have HO910 := n3_; have HO913 := n4_; have HO920 := n5_; have HO925 := n6_; have HO929 := n7_; have BK891 := n8_; have BK921 := n9_; have HB := n10_; clear n0_ n1_ n2_ n3_ n4_ n5_ n6_ n7_ n8_ n9_ n10_; (try clear hb); (try clear hb2); (try clear hk); (try clear hi)))
       go_ret
       exact ⟨by first | rfl | (simp [errW_none, errW_some] <;> rfl) | (simp [*, errW_none, errW_some] <;> rfl), by repeat (first | (with_reducible first | exact HB.out | apply below_alloc | apply pw_below_drewN | apply below_drew1 | refine below_set ?_ GE891.out | refine below_set ?_ GE921.out) | exact HB.out)⟩
     ·replace c47 := Bool.eq_false_iff.mpr c47
      subst c47
      rw [if_neg (show ¬ (false = true) by decide)] at H
      obtain rfl := Option.some.inj H
      go_enter Try.func17, Try.ntmps17
      try go_wp2_with (first | ((with_reducible refine gate_dst (N := 5) rfl ?_); refine box_event ?hg (N := 5) ?hd (cs := #[.int .i64 a2_0, .int .i64 a2_1, .int .i64 a2_2, .int .i64 a2_3, .slice A2_4 l2_4.length c2_4]) (t := 31) ?hr ?_; (case hd => rfl); (case hg => rfl); (case hr => first | (go_simp; done) | (go_simp; rfl)); intro gb891 hg w143 hbox hb; have n0_ := Aside0.mk (below_step z61x24 hb); have n1_ := Aside0.mk (hbox); have n2_ := Aside0.mk ((z61x22 : w.heap.size ≤ gb891)); have n3_ := Aside0.mk ((z61x22 : w.heap.size ≤ gb891)); clear HB; have HB := n0_; have BK891 := n1_; have GW891 := n2_; have GE891 := n3_; clear n0_ n1_ n2_ n3_; clear hb hbox hg) | ((with_reducible refine gate_callee (f := 42) rfl ?_); refine goesL_ (some 18) rfl rfl Try.func42 (by kernel_rfl) rfl #[.slice A1 l1.length c1, .int .i64 1048576] rfl z61x23 ?_; (with_reducible refine (laws_szSealS.calls _ _ l1 1048576 t892 _ ?side1 ?side2 A6.out).mono ?_); (case side1 => repeat (first | exact (Kd.C_below HR1.out HB.out) | (with_reducible refine Kd.C_alloc ?_ _) | (with_reducible refine Kd.C_drewN ?_ _) | (with_reducible refine Kd.C_drew ?_))); (case side2 => exact HC1.out); rintro e w' ⟨rfl, ⟨nd, rfl⟩⟩; refine ⟨_, rfl, ?_⟩; (try (rw [drewN_self w143]; generalize hq_ : World.drewN w143 _ = w143; have n0_ : Aside0 (w143.heap[gb891]? = some (.cells #[.int .i64 a2_0, .int .i64 a2_1, .int .i64 a2_2, .int .i64 a2_3, .slice A2_4 l2_4.length c2_4] 31 (0, 0))) := ⟨by rw [← hq_]; exact z61x25⟩; have n1_ : Aside0 (Below w.heap.size w w143) := ⟨by rw [← hq_]; exact z61x21⟩; clear BK891 HB hq_; have BK891 := n0_; have HB := n1_; clear n0_ n1_)); have hcz144_0 : w143.cell? ⟨gb891, 0, none⟩ = some (.int .i64 a2_0) := (blk_cell BK891.out 0).trans rfl; have hcz144_1 : w143.cell? ⟨gb891, 1, none⟩ = some (.int .i64 a2_1) := (blk_cell BK891.out 1).trans rfl; have hcz144_2 : w143.cell? ⟨gb891, 2, none⟩ = some (.int .i64 a2_2) := (blk_cell BK891.out 2).trans rfl; have hcz144_3 : w143.cell? ⟨gb891, 3, none⟩ = some (.int .i64 a2_3) := (blk_cell BK891.out 3).trans rfl; have hcz144_4 : w143.cell? ⟨gb891, 4, none⟩ = some (.slice A2_4 l2_4.length c2_4) := (blk_cell BK891.out 4).trans rfl; have hfz144_0 := blk_frozen BK891.out 0; have hfz144_1 := blk_frozen BK891.out 1; have hfz144_2 := blk_frozen BK891.out 2; have hfz144_3 := blk_frozen BK891.out 3; have hfz144_4 := blk_frozen BK891.out 4) | ((with_reducible refine gate_callee (f := 26) rfl ?_); refine goesL_ (some 23) rfl rfl Try.func26 (by kernel_rfl) rfl #[.agg #[.int .i64 a2_0, .int .i64 a2_1, .int .i64 a2_2, .int .i64 a2_3, .slice A2_4 l2_4.length c2_4], .int .i64 t892] rfl z61x23 ?_; (with_reducible refine (laws_szMsg.calls a2_0 a2_1 a2_2 a2_3 _ _ l2_4 t892 t893 _ ?side1 ?side2 A9.out).mono ?_); (case side1 => repeat (first | exact (Kd.C_below HR2_4.out HB.out) | (with_reducible refine Kd.C_alloc ?_ _) | (with_reducible refine Kd.C_drewN ?_ _) | (with_reducible refine Kd.C_drew ?_))); (case side2 => exact HC2_4.out); rintro e w145 ⟨rfl, hb⟩; refine ⟨_, rfl, ?_⟩; have n0_ := Aside0.mk (blk_below (g := gb891) (o := .cells #[.int .i64 a2_0, .int .i64 a2_1, .int .i64 a2_2, .int .i64 a2_3, .slice A2_4 l2_4.length c2_4] 31 (0, 0)) z61x25 hb); have n1_ := Aside0.mk (below_step z61x21 hb); clear BK891; clear HB; have BK891 := n0_; have HB := n1_; clear n0_ n1_; (try clear hb); (try clear hb2); (try clear hk); (try clear hi)))
      have n0_ := Aside0.mk (blk_drew BK891.out)
      have n1_ := Aside0.mk (below_drew1 HB.out)
      clear BK891
      clear HB
      have BK891 := n0_
      have HB := n1_
      clear n0_ n1_
      refine start_ (n := 8) (S := fun w' => w'.cell? ⟨gb891, 0, none⟩ = some (.int .i64 a2_0) ∧ w'.cell? ⟨gb891, 1, none⟩ = some (.int .i64 a2_1) ∧ w'.cell? ⟨gb891, 2, none⟩ = some (.int .i64 a2_2) ∧ w'.cell? ⟨gb891, 3, none⟩ = some (.int .i64 a2_3) ∧ w'.cell? ⟨gb891, 4, none⟩ = some (.slice A2_4 l2_4.length c2_4)) (ds := []) #[false, false, false, false, false, false, false, false] (by kernel_rfl) rfl rfl ⟨(blk_cell BK891.out 0).trans rfl, (blk_cell BK891.out 1).trans rfl, (blk_cell BK891.out 2).trans rfl, (blk_cell BK891.out 3).trans rfl, (blk_cell BK891.out 4).trans rfl⟩ (fun hHeld => ?_); refine with_tabW laws_FnExactKnowBuild.tab10 laws_FnExactKnowBuild.bits10 (fun HT_ HW_ => ?_)
      generalize w145.drew = w146 at BK891 HB hHeld ⊢
      refine pure_ (i := 0) (N := some 26) (v := ?_) (a' := ?_) #[true, false, false, false, false, false, false, false] rfl rfl (any_of HT_.out (by kernel_rfl)) (fun _ _ _ h => h) (Or.inl ⟨by rfl, ?_⟩) ?_ ?_
      rotate_left
      ·intro w'
       go_simp
       with_reducible rfl
      rotate_left
      ·simp only [Act.put, List.setIfInBounds_toArray, List.set_cons_zero, List.set_cons_succ, i64_w, i32_w]
       rfl
      refine pure_ (i := 2) (N := some 28) (v := ?_) (a' := ?_) #[true, false, true, false, false, false, false, false] rfl rfl (any_of HT_.out (by kernel_rfl)) (fun _ _ _ h => h) (Or.inl ⟨by rfl, ?_⟩) ?_ ?_
      rotate_left
      ·intro w'
       go_simp
       with_reducible rfl
      rotate_left
      ·simp only [Act.put, List.setIfInBounds_toArray, List.set_cons_zero, List.set_cons_succ, i64_w, i32_w]
       rfl
      refine take_ (i := 4) (N := some 30) (v := ?_) (a' := ?_) #[true, false, true, false, true, false, false, false] rfl rfl (take_ofW HT_.out HW_.out (by kernel_rfl)) (fun _ _ _ h => h) (Or.inl ⟨by rfl, ?_⟩) hHeld ?_ ?_
      rotate_left
      ·rintro w' ⟨s0, s1, s2, s3, s4⟩
       go_simp
       with_reducible rfl
      rotate_left
      ·simp only [Act.put, List.setIfInBounds_toArray, List.set_cons_zero, List.set_cons_succ, i64_w, i32_w]
       rfl
      refine one_ (i := 1) (N := some 27) #[true, true, true, false, true, false, false, false] rfl rfl (one_of HT_.out (by kernel_rfl)) (by decide) (fun K hK => ?_)
      refine goes_ Try.func43 (by kernel_rfl) rfl #[.slice A0 l0.length c0] (by rfl) rfl rfl z61x23 ?_
      with_reducible refine (laws_toIntS.calls k _ _ l0 t894 _ ?side1 ?side2 A14.out).mono ?_
      (case side1 => repeat (first | exact (Kd.C_below HR0.out HB.out) | (with_reducible refine Kd.C_alloc ?_ _) | (with_reducible refine Kd.C_drewN ?_ _) | (with_reducible refine Kd.C_drew ?_)))
      (case side2 => exact HC0.out)
      rintro e w147 ⟨v895, rfl, ho0, hb⟩
      refine ⟨_, rfl, ?_⟩
      have n0_ := Aside0.mk (Kd.R_lower ho0 (below_size z61x21))
      have n1_ := Aside0.mk (blk_below (g := gb891) (o := .cells #[.int .i64 a2_0, .int .i64 a2_1, .int .i64 a2_2, .int .i64 a2_3, .slice A2_4 l2_4.length c2_4] 31 (0, 0)) z61x25 hb)
      have n2_ := Aside0.mk (below_step z61x21 hb)
      clear BK891
      clear HB
      have HO896 := n0_
      have BK891 := n1_
      have HB := n2_
      clear n0_ n1_ n2_
      (try clear hb)
      (try clear hb2)
      (try clear hk)
      (try clear hi)
      (try clear ho0)
      refine hK.out _ _ ⟨(blk_cell BK891.out 0).trans rfl, (blk_cell BK891.out 1).trans rfl, (blk_cell BK891.out 2).trans rfl, (blk_cell BK891.out 3).trans rfl, (blk_cell BK891.out 4).trans rfl⟩ (fun hHeld => ?_)
      clear hK K
      refine norm_ (a' := ?_) ?_ ?_
      rotate_left
      ·show Act.put _ (some 27) _ = _
       simp only [Act.put, List.setIfInBounds_toArray, List.set_cons_zero, List.set_cons_succ, i64_w, i32_w]
       rfl
      refine one_ (i := 3) (N := some 29) #[true, true, true, true, true, false, false, false] rfl rfl (one_of HT_.out (by kernel_rfl)) (by decide) (fun K hK => ?_)
      refine goes_ Try.func44 (by kernel_rfl) rfl #[.slice A1 l1.length c1] (by rfl) rfl rfl z61x23 ?_
      with_reducible refine (laws_toSealS.calls k _ _ l1 t897 _ ?side1 ?side2 A15.out).mono ?_
      (case side1 => repeat (first | exact (Kd.C_below HR1.out HB.out) | (with_reducible refine Kd.C_alloc ?_ _) | (with_reducible refine Kd.C_drewN ?_ _) | (with_reducible refine Kd.C_drew ?_)))
      (case side2 => exact HC1.out)
      rintro e w148 ⟨v898, rfl, ho0, hb⟩
      refine ⟨_, rfl, ?_⟩
      have n0_ := Aside0.mk (Kd.R_below z61x27 hb)
      have n1_ := Aside0.mk (Kd.R_lower ho0 (below_size z61x21))
      have n2_ := Aside0.mk (blk_below (g := gb891) (o := .cells #[.int .i64 a2_0, .int .i64 a2_1, .int .i64 a2_2, .int .i64 a2_3, .slice A2_4 l2_4.length c2_4] 31 (0, 0)) z61x25 hb)
      have n3_ := Aside0.mk (below_step z61x21 hb)
      clear HO896
      clear BK891
      clear HB
      have HO896 := n0_
      have HO899 := n1_
      have BK891 := n2_
      have HB := n3_
      clear n0_ n1_ n2_ n3_
      (try clear hb)
      (try clear hb2)
      (try clear hk)
      (try clear hi)
      (try clear ho0)
      refine hK.out _ _ ⟨(blk_cell BK891.out 0).trans rfl, (blk_cell BK891.out 1).trans rfl, (blk_cell BK891.out 2).trans rfl, (blk_cell BK891.out 3).trans rfl, (blk_cell BK891.out 4).trans rfl⟩ (fun hHeld => ?_)
      clear hK K
      refine norm_ (a' := ?_) ?_ ?_
      rotate_left
      ·show Act.put _ (some 29) _ = _
       simp only [Act.put, List.setIfInBounds_toArray, List.set_cons_zero, List.set_cons_succ, i64_w, i32_w]
       rfl
      refine one_ (i := 5) (N := some 31) #[true, true, true, true, true, true, false, false] rfl rfl (one_of HT_.out (by kernel_rfl)) (by decide) (fun K hK => ?_)
      refine goes_ Try.func28 (by kernel_rfl) rfl #[.agg #[.int .i64 a2_0, .int .i64 a2_1, .int .i64 a2_2, .int .i64 a2_3, .slice A2_4 l2_4.length c2_4]] (by rfl) rfl rfl z61x23 ?_
      with_reducible refine (laws_toMsg.calls k a2_0 a2_1 a2_2 a2_3 _ _ l2_4 t900 t901 t902 t903 t904 _ ?side1 ?side2 A16.out).mono ?_
      (case side1 => repeat (first | exact (Kd.C_below HR2_4.out HB.out) | (with_reducible refine Kd.C_alloc ?_ _) | (with_reducible refine Kd.C_drewN ?_ _) | (with_reducible refine Kd.C_drew ?_)))
      (case side2 => exact HC2_4.out)
      rintro e w149 ⟨v905, rfl, ho0, hb⟩
      refine ⟨_, rfl, ?_⟩
      have n0_ := Aside0.mk (Kd.R_below z61x27 hb)
      have n1_ := Aside0.mk (Kd.R_elder' z61x28 (Kd.R_base ho0) hb)
      have n2_ := Aside0.mk (Kd.R_lower (Kd.R_new' ho0 (Kd.R_lt z61x28)) (below_size z61x21))
      have n3_ := Aside0.mk (blk_below (g := gb891) (o := .cells #[.int .i64 a2_0, .int .i64 a2_1, .int .i64 a2_2, .int .i64 a2_3, .slice A2_4 l2_4.length c2_4] 31 (0, 0)) z61x25 hb)
      have n4_ := Aside0.mk (below_step z61x21 hb)
      clear HO896
      clear HO899
      clear BK891
      clear HB
      have HO896 := n0_
      have HO899 := n1_
      have HO906 := n2_
      have BK891 := n3_
      have HB := n4_
      clear n0_ n1_ n2_ n3_ n4_
      (try clear hb)
      (try clear hb2)
      (try clear hk)
      (try clear hi)
      (try clear ho0)
      obtain ⟨Ao150, co150, eo150⟩ := Kd.R_slice HO896.out
      (first | subst eo150 | (injection eo150 with f1_ f2_ f3_; have f4_ := f1_.symm; have f5_ := f3_.symm; clear f1_ f2_ f3_; subst f4_; subst f5_))
      obtain ⟨Ao151, co151, eo151⟩ := Kd.R_slice HO899.out
      (first | subst eo151 | (injection eo151 with f1_ f2_ f3_; have f4_ := f1_.symm; have f5_ := f3_.symm; clear f1_ f2_ f3_; subst f4_; subst f5_))
      obtain ⟨Ao152, co152, eo152⟩ := Kd.R_slice HO906.out
      (first | subst eo152 | (injection eo152 with f1_ f2_ f3_; have f4_ := f1_.symm; have f5_ := f3_.symm; clear f1_ f2_ f3_; subst f4_; subst f5_))
      refine hK.out _ _ ⟨(blk_cell BK891.out 0).trans rfl, (blk_cell BK891.out 1).trans rfl, (blk_cell BK891.out 2).trans rfl, (blk_cell BK891.out 3).trans rfl, (blk_cell BK891.out 4).trans rfl⟩ (fun hHeld => ?_)
      clear hK K
      refine norm_ (a' := ?_) ?_ ?_
      rotate_left
      ·show Act.put _ (some 31) _ = _
       simp only [Act.put, List.setIfInBounds_toArray, List.set_cons_zero, List.set_cons_succ, i64_w, i32_w]
       rfl
      refine one_ (i := 6) (N := some 32) #[true, true, true, true, true, true, true, false] rfl rfl (one_of HT_.out (by kernel_rfl)) (by decide) (fun K hK => ?_)
      refine goes_ Try.func51 (by kernel_rfl) rfl #[.slice Ao150 t894.length co150, .slice Ao151 t897.length co151, .agg #[.int .i64 t900, .int .i64 t901, .int .i64 t902, .int .i64 t903, .slice Ao152 t904.length co152]] (by rfl) rfl rfl z61x23 ?_
      with_reducible refine (spec_KnowBuild.calls k _ _ t894 _ _ t897 t900 t901 t902 t903 _ _ t904 t907 _ ?side1 ?side2 ?side3 ?side4 ?side5 ?side6 A17.out).mono ?_
      (case side1 => repeat (first | exact (Kd.R_reads' HO896.out).2.2 | (with_reducible refine Kd.C_alloc ?_ _) | (with_reducible refine Kd.C_drewN ?_ _) | (with_reducible refine Kd.C_drew ?_)))
      (case side2 => exact (Kd.R_reads' HO896.out).2.1)
      (case side3 => repeat (first | exact (Kd.R_reads' HO899.out).2.2 | (with_reducible refine Kd.C_alloc ?_ _) | (with_reducible refine Kd.C_drewN ?_ _) | (with_reducible refine Kd.C_drew ?_)))
      (case side4 => exact (Kd.R_reads' HO899.out).2.1)
      (case side5 => repeat (first | exact (Kd.R_reads' HO906.out).2.2 | (with_reducible refine Kd.C_alloc ?_ _) | (with_reducible refine Kd.C_drewN ?_ _) | (with_reducible refine Kd.C_drew ?_)))
      (case side6 => exact (Kd.R_reads' HO906.out).2.1)
      rintro e w153 ⟨rfl, hb⟩
      refine ⟨_, rfl, ?_⟩
      have n0_ := Aside0.mk (Kd.R_below z61x27 hb)
      have n1_ := Aside0.mk (Kd.R_below z61x28 hb)
      have n2_ := Aside0.mk (Kd.R_below z61x29 hb)
      have n3_ := Aside0.mk (blk_below (g := gb891) (o := .cells #[.int .i64 a2_0, .int .i64 a2_1, .int .i64 a2_2, .int .i64 a2_3, .slice A2_4 l2_4.length c2_4] 31 (0, 0)) z61x25 hb)
      have n4_ := Aside0.mk (below_step z61x21 hb)
      clear HO896
      clear HO899
      clear HO906
      clear BK891
      clear HB
      have HO896 := n0_
      have HO899 := n1_
      have HO906 := n2_
      have BK891 := n3_
      have HB := n4_
      clear n0_ n1_ n2_ n3_ n4_
      (try clear hb)
      (try clear hb2)
      (try clear hk)
      (try clear hi)
      refine hK.out _ _ ⟨(blk_cell BK891.out 0).trans rfl, (blk_cell BK891.out 1).trans rfl, (blk_cell BK891.out 2).trans rfl, (blk_cell BK891.out 3).trans rfl, (blk_cell BK891.out 4).trans rfl⟩ (fun hHeld => ?_)
      clear hK K
      refine norm_ (a' := ?_) ?_ ?_
      rotate_left
      ·show Act.put _ (some 32) _ = _
       simp only [Act.put, List.setIfInBounds_toArray, List.set_cons_zero, List.set_cons_succ, i64_w, i32_w]
       rfl
      refine pure_ (i := 7) (N := some 8) (v := ?_) (a' := ?_) #[true, true, true, true, true, true, true, true] rfl rfl (any_of HT_.out (by kernel_rfl)) (fun _ _ _ h => h) (Or.inl ⟨by rfl, ?_⟩) ?_ ?_
      rotate_left
      ·intro w'
       go_simp
       with_reducible rfl
      rotate_left
      ·simp only [Act.put, List.setIfInBounds_toArray, List.set_cons_zero, List.set_cons_succ, i64_w, i32_w]
       rfl
      refine done_ (done_of HT_.out (by kernel_rfl)) ?_
      try go_wp2_with (first | ((with_reducible refine gate_callee (f := 43) rfl ?_); refine goesL_ (some 34) rfl rfl Try.func43 (by kernel_rfl) rfl #[.slice A0 l0.length c0] rfl z61x23 ?_; (with_reducible refine (laws_toIntS.calls k _ _ l0 t908 _ ?side1 ?side2 A18.out).mono ?_); (case side1 => repeat (first | exact (Kd.C_below HR0.out HB.out) | (with_reducible refine Kd.C_alloc ?_ _) | (with_reducible refine Kd.C_drewN ?_ _) | (with_reducible refine Kd.C_drew ?_))); (case side2 => exact HC0.out); rintro e w154 ⟨v909, rfl, ho0, hb⟩; refine ⟨_, rfl, ?_⟩; have n0_ := Aside0.mk (Kd.R_elder' z61x27 (Kd.R_base ho0) hb); have n1_ := Aside0.mk (Kd.R_below z61x28 hb); have n2_ := Aside0.mk (Kd.R_below z61x29 hb); have n3_ := Aside0.mk (Kd.R_lower (Kd.R_new' ho0 (Kd.R_lt z61x27)) (below_size z61x21)); have n4_ := Aside0.mk (blk_below (g := gb891) (o := .cells #[.int .i64 a2_0, .int .i64 a2_1, .int .i64 a2_2, .int .i64 a2_3, .slice A2_4 l2_4.length c2_4] 31 (0, 0)) z61x25 hb); have n5_ := Aside0.mk (below_step z61x21 hb); clear HO896; clear HO899; clear HO906; clear BK891; clear HB; have HO896 := n0_; have HO899 := n1_; have HO906 := n2_; have HO910 := n3_; have BK891 := n4_; have HB := n5_; clear n0_ n1_ n2_ n3_ n4_ n5_; (try clear hb); (try clear hb2); (try clear hk); (try clear hi); (try clear ho0)) | ((with_reducible refine gate_callee (f := 44) rfl ?_); refine goesL_ (some 36) rfl rfl Try.func44 (by kernel_rfl) rfl #[.slice A1 l1.length c1] rfl z61x23 ?_; (with_reducible refine (laws_toSealS.calls k _ _ l1 t911 _ ?side1 ?side2 A19.out).mono ?_); (case side1 => repeat (first | exact (Kd.C_below HR1.out HB.out) | (with_reducible refine Kd.C_alloc ?_ _) | (with_reducible refine Kd.C_drewN ?_ _) | (with_reducible refine Kd.C_drew ?_))); (case side2 => exact HC1.out); rintro e w155 ⟨v912, rfl, ho0, hb⟩; refine ⟨_, rfl, ?_⟩; have n0_ := Aside0.mk (Kd.R_below z61x27 hb); have n1_ := Aside0.mk (Kd.R_elder' z61x28 (Kd.R_base ho0) hb); have n2_ := Aside0.mk (Kd.R_elder' z61x29 (Kd.R_base ho0) hb); have n3_ := Aside0.mk (Kd.R_below z61x30 hb); have n4_ := Aside0.mk (Kd.R_lower (Kd.R_new' (Kd.R_new' ho0 (Kd.R_lt z61x28)) (Kd.R_lt z61x29)) (below_size z61x21)); have n5_ := Aside0.mk (blk_below (g := gb891) (o := .cells #[.int .i64 a2_0, .int .i64 a2_1, .int .i64 a2_2, .int .i64 a2_3, .slice A2_4 l2_4.length c2_4] 31 (0, 0)) z61x25 hb); have n6_ := Aside0.mk (below_step z61x21 hb); clear HO896; clear HO899; clear HO906; clear HO910; clear BK891; clear HB; have HO896 := n0_; have HO899 := n1_; have HO906 := n2_; have HO910 := n3_; have HO913 := n4_; have BK891 := n5_; have HB := n6_; clear n0_ n1_ n2_ n3_ n4_ n5_ n6_; (try clear hb); (try clear hb2); (try clear hk); (try clear hi); (try clear ho0); have hcz156_0 : w155.cell? ⟨gb891, 0, none⟩ = some (.int .i64 a2_0) := (blk_cell BK891.out 0).trans rfl; have hcz156_1 : w155.cell? ⟨gb891, 1, none⟩ = some (.int .i64 a2_1) := (blk_cell BK891.out 1).trans rfl; have hcz156_2 : w155.cell? ⟨gb891, 2, none⟩ = some (.int .i64 a2_2) := (blk_cell BK891.out 2).trans rfl; have hcz156_3 : w155.cell? ⟨gb891, 3, none⟩ = some (.int .i64 a2_3) := (blk_cell BK891.out 3).trans rfl; have hcz156_4 : w155.cell? ⟨gb891, 4, none⟩ = some (.slice A2_4 l2_4.length c2_4) := (blk_cell BK891.out 4).trans rfl; have hfz156_0 := blk_frozen BK891.out 0; have hfz156_1 := blk_frozen BK891.out 1; have hfz156_2 := blk_frozen BK891.out 2; have hfz156_3 := blk_frozen BK891.out 3; have hfz156_4 := blk_frozen BK891.out 4) | ((with_reducible refine gate_callee (f := 28) rfl ?_); refine goesL_ (some 38) rfl rfl Try.func28 (by kernel_rfl) rfl #[.agg #[.int .i64 a2_0, .int .i64 a2_1, .int .i64 a2_2, .int .i64 a2_3, .slice A2_4 l2_4.length c2_4]] rfl z61x23 ?_; (with_reducible refine (laws_toMsg.calls k a2_0 a2_1 a2_2 a2_3 _ _ l2_4 t914 t915 t916 t917 t918 _ ?side1 ?side2 A20.out).mono ?_); (case side1 => repeat (first | exact (Kd.C_below HR2_4.out HB.out) | (with_reducible refine Kd.C_alloc ?_ _) | (with_reducible refine Kd.C_drewN ?_ _) | (with_reducible refine Kd.C_drew ?_))); (case side2 => exact HC2_4.out); rintro e w157 ⟨v919, rfl, ho0, hb⟩; refine ⟨_, rfl, ?_⟩; have n0_ := Aside0.mk (Kd.R_below z61x27 hb); have n1_ := Aside0.mk (Kd.R_elder' z61x28 (Kd.R_base ho0) hb); have n2_ := Aside0.mk (Kd.R_elder' z61x29 (Kd.R_base ho0) hb); have n3_ := Aside0.mk (Kd.R_below z61x30 hb); have n4_ := Aside0.mk (Kd.R_elder' z61x31 (Kd.R_base ho0) hb); have n5_ := Aside0.mk (Kd.R_lower (Kd.R_new' (Kd.R_new' (Kd.R_new' ho0 (Kd.R_lt z61x28)) (Kd.R_lt z61x29)) (Kd.R_lt z61x31)) (below_size z61x21)); have n6_ := Aside0.mk (blk_below (g := gb891) (o := .cells #[.int .i64 a2_0, .int .i64 a2_1, .int .i64 a2_2, .int .i64 a2_3, .slice A2_4 l2_4.length c2_4] 31 (0, 0)) z61x25 hb); have n7_ := Aside0.mk (below_step z61x21 hb); clear HO896; clear HO899; clear HO906; clear HO910; clear HO913; clear BK891; clear HB; have HO896 := n0_; have HO899 := n1_; have HO906 := n2_; have HO910 := n3_; have HO913 := n4_; have HO920 := n5_; have BK891 := n6_; have HB := n7_; clear n0_ n1_ n2_ n3_ n4_ n5_ n6_ n7_; (try clear hb); (try clear hb2); (try clear hk); (try clear hi); (try clear ho0)) | ((with_reducible refine gate_dst (N := 11) rfl ?_); refine box_event ?hg (N := 11) ?hd (cs := #[.int .i64 0, .int .i64 0, .int .i64 0, .int .i64 0, .slice none 0 0]) (t := 36) ?hr ?_; (case hd => rfl); (case hg => rfl); (case hr => first | (go_simp; done) | (go_simp; rfl)); intro gb921 hg w158 hbox hb; have n0_ := Aside0.mk (Kd.R_below z61x27 hb); have n1_ := Aside0.mk (Kd.R_below z61x28 hb); have n2_ := Aside0.mk (Kd.R_below z61x29 hb); have n3_ := Aside0.mk (Kd.R_below z61x30 hb); have n4_ := Aside0.mk (Kd.R_below z61x31 hb); have n5_ := Aside0.mk (Kd.R_below z61x32 hb); have n6_ := Aside0.mk (blk_below (g := gb891) (o := .cells #[.int .i64 a2_0, .int .i64 a2_1, .int .i64 a2_2, .int .i64 a2_3, .slice A2_4 l2_4.length c2_4] 31 (0, 0)) z61x25 hb); have n7_ := Aside0.mk (below_step z61x21 hb); have n8_ := Aside0.mk (hbox); have n9_ := Aside0.mk ((z61x20 : w.heap.size ≤ gb921)); have n10_ := Aside0.mk ((z61x20 : w.heap.size ≤ gb921)); have n11_ := Aside0.mk ((z61x18 : gb891 ≠ gb921)); have n12_ := Aside0.mk ((z61x17 : gb921 ≠ gb891)); clear HO896; clear HO899; clear HO906; clear HO910; clear HO913; clear HO920; clear BK891; clear HB; have HO896 := n0_; have HO899 := n1_; have HO906 := n2_; have HO910 := n3_; have HO913 := n4_; have HO920 := n5_; have BK891 := n6_; have HB := n7_; have BK921 := n8_; have GW921 := n9_; have GE921 := n10_; have NB891_921 := n11_; have NB921_891 := n12_; clear n0_ n1_ n2_ n3_ n4_ n5_ n6_ n7_ n8_ n9_ n10_ n11_ n12_; clear hb hbox hg; have hnb159 := NB921_891.out; have hnc159 := NB891_921.out; have hcz160_0 : w158.cell? ⟨gb921, 0, none⟩ = some (.int .i64 0) := (blk_cell BK921.out 0).trans rfl; have hcz160_1 : w158.cell? ⟨gb921, 1, none⟩ = some (.int .i64 0) := (blk_cell BK921.out 1).trans rfl; have hcz160_2 : w158.cell? ⟨gb921, 2, none⟩ = some (.int .i64 0) := (blk_cell BK921.out 2).trans rfl; have hcz160_3 : w158.cell? ⟨gb921, 3, none⟩ = some (.int .i64 0) := (blk_cell BK921.out 3).trans rfl; have hcz160_4 : w158.cell? ⟨gb921, 4, none⟩ = some (.slice none 0 0) := (blk_cell BK921.out 4).trans rfl; have hfz160_0 := blk_frozen BK921.out 0; have hfz160_1 := blk_frozen BK921.out 1; have hfz160_2 := blk_frozen BK921.out 2; have hfz160_3 := blk_frozen BK921.out 3; have hfz160_4 := blk_frozen BK921.out 4; obtain ⟨Ao161, co161, eo161⟩ := Kd.R_slice HO920.out; subst eo161; obtain ⟨Ao162, co162, eo162⟩ := Kd.R_slice HO910.out; subst eo162; obtain ⟨Ao163, co163, eo163⟩ := Kd.R_slice HO913.out; subst eo163) | ((with_reducible refine gate_callee (f := 52) rfl ?_); refine goesL_ (some 42) rfl rfl Try.func52 (by kernel_rfl) rfl #[.slice Ao162 t908.length co162, .slice Ao163 t911.length co163, .agg #[.int .i64 t914, .int .i64 t915, .int .i64 t916, .int .i64 t917, .slice Ao161 t918.length co161]] rfl z61x23 ?_; (with_reducible refine (impl_KnowBuild.calls _ _ t908 _ _ t911 t914 t915 t916 t917 _ _ t918 t922 _ ?side1 ?side2 ?side3 ?side4 ?side5 ?side6 A21.out).mono ?_); (case side1 => refine (Kd.R_reads' (e := 3) (base := w.heap.size) (ok := fun k_ => (True ∧ some k_ ≠ (.slice Ao150 t894.length co150 : Value).ownBlock)) (n := t908.length) (c := co162) ?_).2.2; exact z61x4); (case side2 => exact (Kd.R_reads' HO910.out).2.1); (case side3 => refine (Kd.R_reads' (e := 24) (base := w.heap.size) (ok := fun k_ => (((True ∧ some k_ ≠ (.slice Ao151 t897.length co151 : Value).ownBlock) ∧ some k_ ≠ (.slice Ao152 t904.length co152 : Value).ownBlock) ∧ some k_ ≠ (.slice Ao161 t918.length co161 : Value).ownBlock)) (n := t911.length) (c := co163) ?_).2.2; exact z61x7); (case side4 => exact (Kd.R_reads' HO913.out).2.1); (case side5 => refine (Kd.R_reads' (e := 24) (base := w.heap.size) (ok := fun k_ => (((True ∧ some k_ ≠ (.slice Ao151 t897.length co151 : Value).ownBlock) ∧ some k_ ≠ (.slice Ao152 t904.length co152 : Value).ownBlock) ∧ some k_ ≠ (.slice Ao163 t911.length co163 : Value).ownBlock)) (n := t918.length) (c := co161) ?_).2.2; exact z61x10); (case side6 => exact (Kd.R_reads' HO920.out).2.1); rintro e w164 ⟨rfl, hb⟩; refine ⟨_, rfl, ?_⟩; have n0_ := Aside0.mk (Kd.R_below (by (with_reducible repeat (first | apply Kd.R_alloc | apply Kd.R_drewN | apply Kd.R_drew)); exact (Kd.R_mono (Kd.R_far (p := ⟨gb921, 4, none⟩) (Kd.R_far (p := ⟨gb921, 3, none⟩) (Kd.R_far (p := ⟨gb921, 2, none⟩) (Kd.R_far (p := ⟨gb921, 1, none⟩) (Kd.R_far (p := ⟨gb921, 0, none⟩) (Kd.R_types HO896.out BK921.out (by decide)) (fun _ hk => hk.2) (.int .i64 t914)) (fun _ hk => hk.2) (.int .i64 t915)) (fun _ hk => hk.2) (.int .i64 t916)) (fun _ hk => hk.2) (.int .i64 t917)) (fun _ hk => hk.2) (.slice Ao161 t918.length co161)) (fun _ h_ => h_.1))) hb); have n1_ := Aside0.mk (Kd.R_below (by (with_reducible repeat (first | apply Kd.R_alloc | apply Kd.R_drewN | apply Kd.R_drew)); exact (Kd.R_mono (Kd.R_far (p := ⟨gb921, 4, none⟩) (Kd.R_far (p := ⟨gb921, 3, none⟩) (Kd.R_far (p := ⟨gb921, 2, none⟩) (Kd.R_far (p := ⟨gb921, 1, none⟩) (Kd.R_far (p := ⟨gb921, 0, none⟩) (Kd.R_types HO899.out BK921.out (by decide)) (fun _ hk => hk.2) (.int .i64 t914)) (fun _ hk => hk.2) (.int .i64 t915)) (fun _ hk => hk.2) (.int .i64 t916)) (fun _ hk => hk.2) (.int .i64 t917)) (fun _ hk => hk.2) (.slice Ao161 t918.length co161)) (fun _ h_ => h_.1))) hb); have n2_ := Aside0.mk (Kd.R_below (by (with_reducible repeat (first | apply Kd.R_alloc | apply Kd.R_drewN | apply Kd.R_drew)); exact (Kd.R_mono (Kd.R_far (p := ⟨gb921, 4, none⟩) (Kd.R_far (p := ⟨gb921, 3, none⟩) (Kd.R_far (p := ⟨gb921, 2, none⟩) (Kd.R_far (p := ⟨gb921, 1, none⟩) (Kd.R_far (p := ⟨gb921, 0, none⟩) (Kd.R_types HO906.out BK921.out (by decide)) (fun _ hk => hk.2) (.int .i64 t914)) (fun _ hk => hk.2) (.int .i64 t915)) (fun _ hk => hk.2) (.int .i64 t916)) (fun _ hk => hk.2) (.int .i64 t917)) (fun _ hk => hk.2) (.slice Ao161 t918.length co161)) (fun _ h_ => h_.1))) hb); have n3_ := Aside0.mk (Kd.R_below z61x4 hb); have n4_ := Aside0.mk (Kd.R_below z61x7 hb); have n5_ := Aside0.mk (Kd.R_below z61x10 hb); have n6_ := Aside0.mk (blk_below (g := gb891) (o := .cells #[.int .i64 a2_0, .int .i64 a2_1, .int .i64 a2_2, .int .i64 a2_3, .slice A2_4 l2_4.length c2_4] 31 (0, 0)) z61x1 hb); have n7_ := Aside0.mk (blk_below (g := gb921) (o := .cells #[.int .i64 t914, .int .i64 t915, .int .i64 t916, .int .i64 t917, .slice Ao161 t918.length co161] 36 (0, 0)) z61x0 hb); have n8_ := Aside0.mk (below_step z61x19 hb); clear HO896; clear HO899; clear HO906; clear HO910; clear HO913; clear HO920; clear BK891; clear BK921; clear HB; have HO896 := n0_; have HO899 := n1_; have HO906 := n2_; have HO910 := n3_; have HO913 := n4_; have HO920 := n5_; have BK891 := n6_; have BK921 := n7_; have HB := n8_; clear n0_ n1_ n2_ n3_ n4_ n5_ n6_ n7_ n8_; (try clear hb); (try clear hb2); (try clear hk); (try clear hi)) | ((with_reducible refine gate_callee (f := 43) rfl ?_); refine goesL_ (some 48) rfl rfl Try.func43 (by kernel_rfl) rfl #[.slice A0 l0.length c0] rfl z61x23 ?_; (with_reducible refine (laws_toIntS.calls k _ _ l0 t923 _ ?side1 ?side2 A45.out).mono ?_); (case side1 => repeat (first | exact (Kd.C_below HR0.out HB.out) | (with_reducible refine Kd.C_alloc ?_ _) | (with_reducible refine Kd.C_drewN ?_ _) | (with_reducible refine Kd.C_drew ?_))); (case side2 => exact HC0.out); rintro e w165 ⟨v924, rfl, ho0, hb⟩; refine ⟨_, rfl, ?_⟩; have n0_ := Aside0.mk (Kd.R_elder' z61x27 (Kd.R_base ho0) hb); have n1_ := Aside0.mk (Kd.R_below z61x28 hb); have n2_ := Aside0.mk (Kd.R_below z61x29 hb); have n3_ := Aside0.mk (Kd.R_elder' z61x30 (Kd.R_base ho0) hb); have n4_ := Aside0.mk (Kd.R_below z61x31 hb); have n5_ := Aside0.mk (Kd.R_below z61x32 hb); have n6_ := Aside0.mk (Kd.R_lower (Kd.R_new' (Kd.R_new' ho0 (Kd.R_lt z61x27)) (Kd.R_lt z61x30)) (below_size z61x19)); have n7_ := Aside0.mk (blk_below (g := gb891) (o := .cells #[.int .i64 a2_0, .int .i64 a2_1, .int .i64 a2_2, .int .i64 a2_3, .slice A2_4 l2_4.length c2_4] 31 (0, 0)) z61x25 hb); have n8_ := Aside0.mk (blk_below (g := gb921) (o := .cells #[.int .i64 t914, .int .i64 t915, .int .i64 t916, .int .i64 t917, .slice Ao161 t918.length co161] 36 (0, 0)) z61x26 hb); have n9_ := Aside0.mk (below_step z61x19 hb); clear HO896; clear HO899; clear HO906; clear HO910; clear HO913; clear HO920; clear BK891; clear BK921; clear HB; have HO896 := n0_; have HO899 := n1_; have HO906 := n2_; have HO910 := n3_; have HO913 := n4_; have HO920 := n5_; have HO925 := n6_; have BK891 := n7_; have BK921 := n8_; have HB := n9_; clear n0_ n1_ n2_ n3_ n4_ n5_ n6_ n7_ n8_ n9_; (try clear hb); (try clear hb2); (try clear hk); (try clear hi); (try clear ho0); obtain ⟨Ao166, co166, eo166⟩ := Kd.R_slice HO925.out; subst eo166) | ((with_reducible refine gate_callee (f := 45) rfl ?_); refine goesL_ (some 49) rfl rfl Try.func45 (by kernel_rfl) rfl #[.slice Ao162 t908.length co162, .slice Ao166 t923.length co166] rfl z61x23 ?_; (with_reducible refine (laws_eqIntS.calls k _ _ t908 _ _ t923 false _ ?side1 ?side2 ?side3 ?side4 A46.out).mono ?_); (case side1 => repeat (first | exact (Kd.R_reads' HO910.out).2.2 | (with_reducible refine Kd.C_alloc ?_ _) | (with_reducible refine Kd.C_drewN ?_ _) | (with_reducible refine Kd.C_drew ?_))); (case side2 => exact (Kd.R_reads' HO910.out).2.1); (case side3 => repeat (first | exact (Kd.R_reads' HO925.out).2.2 | (with_reducible refine Kd.C_alloc ?_ _) | (with_reducible refine Kd.C_drewN ?_ _) | (with_reducible refine Kd.C_drew ?_))); (case side4 => exact (Kd.R_reads' HO925.out).2.1); rintro e w' ⟨rfl, ⟨nd, rfl⟩⟩; refine ⟨_, rfl, ?_⟩))
      go_ret
      exact ⟨by first | rfl | (simp [errW_none, errW_some] <;> rfl) | (simp [*, errW_none, errW_some] <;> rfl), by repeat (first | (with_reducible first | exact HB.out | apply below_alloc | apply pw_below_drewN | apply below_drew1 | refine below_set ?_ GE891.out | refine below_set ?_ GE921.out) | exact HB.out)⟩

end Go.Proofs.Ytbiknbjcidlabaa.Hp
