-- Printed by wip/tools/hp.py of this session (the kit's print.py, with contracts typed by hand beside).
import Derived.Test.YtbiknbjcidlabaaHx0
import Derived.Test.YtbiknbjcidlabaaHx35
import Derived.Test.YtbiknbjcidlabaaHx36
import Derived.Test.YtbiknbjcidlabaaHx59
import Derived.Test.YtbiknbjcidlabaaHx60
import Derived.Test.YtbiknbjcidlabaaHx62
namespace Go.Proofs.Ytbiknbjcidlabaa.Hp
open Go.RowKit Go.Proofs.YtbiknbjcidlabaaW.PrintWords Go.Proofs.YtbiknbjcidlabaaW.PrintLast Go.Proofs.YtbiknbjcidlabaaW.PrintMore
attribute [local go_sem] max2_int min2_int max_two min_two max_three min_three max_four min_four   -- for this text's walks alone
set_option linter.unusedVariables false
set_option linter.unusedSimpArgs false
-- squeezed by wip/tools/squeeze.py
theorem z64x13 {P : Prop} (h : P := by (with_reducible repeat (first | apply Kd.R_alloc | apply Kd.R_drewN | apply Kd.R_drew)); exact HO_4.out) : P := h
theorem z64x12 {P : Prop} (h : P := by (with_reducible repeat (first | apply Kd.R_alloc | apply Kd.R_drewN | apply Kd.R_drew)); exact HO_3.out) : P := h
theorem z64x11 {P : Prop} (h : P := by (with_reducible repeat (first | apply Kd.R_alloc | apply Kd.R_drewN | apply Kd.R_drew)); exact HO1053.out) : P := h
theorem z64x10 {P : Prop} (h : P := by (with_reducible repeat (first | apply Kd.R_alloc | apply Kd.R_drewN | apply Kd.R_drew)); exact HO1040.out) : P := h
theorem z64x9 {P : Prop} (h : P := by (with_reducible repeat (first | apply Kd.R_alloc | apply Kd.R_drewN | apply Kd.R_drew)); exact HO1033.out) : P := h
theorem z64x8 {P : Prop} (h : P := by (with_reducible repeat (first | apply Kd.R_alloc | apply Kd.R_drewN | apply Kd.R_drew)); exact HO1030.out) : P := h
theorem z64x7 {P : Prop} (h : P := by (with_reducible repeat (first | apply Kd.R_alloc | apply Kd.R_drewN | apply Kd.R_drew)); exact HO_1042004.out) : P := h
theorem z64x6 {P : Prop} (h : P := by (with_reducible repeat (first | refine blk_drewN ?_ _ | refine blk_drew ?_ | refine blk_alloc ?_ _)); exact BK1041.out) : P := h
theorem z64x5 {P : Prop} (h : P := by repeat (first | (with_reducible first | exact HB.out | apply below_alloc | apply pw_below_drewN | apply below_drew1) | exact HB.out)) : P := h
theorem z64x4 {P : Prop} (h : P := by (try simp only [List.map_toArray, List.map_cons, List.map_nil]); first | done | rfl | (simp only [List.length_drop, List.length_take]; rfl)) : P := h
theorem z64x3 {P : Prop} (h : P := by repeat (first | (with_reducible first | exact HB.out | apply below_alloc | apply pw_below_drewN | apply below_drew1 | refine below_set ?_ GE1041.out) | exact HB.out)) : P := h
theorem z64x2 {P : Prop} (h : P := by (with_reducible repeat (first | apply Kd.R_alloc | apply Kd.R_drewN | apply Kd.R_drew)); exact (Kd.R_mono (Kd.R_far (p := ⟨gb1041, 4, none⟩) (Kd.R_far (p := ⟨gb1041, 3, none⟩) (Kd.R_far (p := ⟨gb1041, 2, none⟩) (Kd.R_far (p := ⟨gb1041, 1, none⟩) (Kd.R_far (p := ⟨gb1041, 0, none⟩) (Kd.R_types HO1040.out BK1041.out (by decide)) (fun _ hk => hk.2) (.int .i64 t1034)) (fun _ hk => hk.2) (.int .i64 t1035)) (fun _ hk => hk.2) (.int .i64 t1036)) (fun _ hk => hk.2) (.int .i64 t1037)) (fun _ hk => hk.2) (.slice Ao9 t1038.length co9)) (fun _ h_ => h_.1))) : P := h
theorem z64x1 {P : Prop} (h : P := by (with_reducible repeat (first | apply Kd.R_alloc | apply Kd.R_drewN | apply Kd.R_drew)); exact (Kd.R_mono (Kd.R_far (p := ⟨gb1041, 4, none⟩) (Kd.R_far (p := ⟨gb1041, 3, none⟩) (Kd.R_far (p := ⟨gb1041, 2, none⟩) (Kd.R_far (p := ⟨gb1041, 1, none⟩) (Kd.R_far (p := ⟨gb1041, 0, none⟩) (Kd.R_types HO1033.out BK1041.out (by decide)) (fun _ hk => hk.2) (.int .i64 t1034)) (fun _ hk => hk.2) (.int .i64 t1035)) (fun _ hk => hk.2) (.int .i64 t1036)) (fun _ hk => hk.2) (.int .i64 t1037)) (fun _ hk => hk.2) (.slice Ao9 t1038.length co9)) (fun _ h_ => h_.1))) : P := h
theorem z64x0 {P : Prop} (h : P := by (with_reducible repeat (first | apply Kd.R_alloc | apply Kd.R_drewN | apply Kd.R_drew)); exact (Kd.R_mono (Kd.R_far (p := ⟨gb1041, 4, none⟩) (Kd.R_far (p := ⟨gb1041, 3, none⟩) (Kd.R_far (p := ⟨gb1041, 2, none⟩) (Kd.R_far (p := ⟨gb1041, 1, none⟩) (Kd.R_far (p := ⟨gb1041, 0, none⟩) (Kd.R_types HO1030.out BK1041.out (by decide)) (fun _ hk => hk.2) (.int .i64 t1034)) (fun _ hk => hk.2) (.int .i64 t1035)) (fun _ hk => hk.2) (.int .i64 t1036)) (fun _ hk => hk.2) (.int .i64 t1037)) (fun _ hk => hk.2) (.slice Ao9 t1038.length co9)) (fun _ h_ => h_.1))) : P := h

/-! ### laws_FnKnowNothing: function 19 -/
def laws_FnKnowNothing.j0 : Nat → List Int → List (S24) → Bool → Bool → Int → Int → Int → Int → List (S24) → Option (Bool)
 | 0, _, _, _, _, _, _, _, _, _ => none
 | k + 1, x3, x4, x6, x29, x1042000, x1042001, x1042002, x1042003, x1042004 => if x29 = true then ((spec_KnowBuild.f k x3 x4 x1042000 x1042001 x1042002 x1042003 x1042004).bind fun t1044 => (some (x6 == t1044))) else ((some (([] : List (S24)) : List (S24))).bind fun y1045 => (if y1045.length + x4.length < 2513169434916 then ((some (y1045 ++ x4 : List (S24))).bind fun y1048 => (if y1048.length + x1042004.length < 2513169434916 then ((impl_KnowKeys.f x3 (y1048 ++ x1042004)).bind fun t1054 => ((impl_KnowKeys.f x3 x4).bind fun t1057 => ((laws_lbInts.f k t1054 t1057).bind fun t1060 => (some t1060)))) else (none))) else (none)))
def laws_FnKnowNothing.f (k : Nat) (l0 : List Int) : Option (Bool) := if (l0.length : Int) > 1048576 then (some true) else ((spec_DrawKnowBuild.f k l0).bind fun bt1028 => ((impl_KnowBuild.f bt1028.1 bt1028.2.1 bt1028.2.2.1 bt1028.2.2.2.1 bt1028.2.2.2.2.1 bt1028.2.2.2.2.2.1 bt1028.2.2.2.2.2.2).bind fun t1042 => ((spec_KnowBuild.f k bt1028.1 bt1028.2.1 bt1028.2.2.1 bt1028.2.2.2.1 bt1028.2.2.2.2.1 bt1028.2.2.2.2.2.1 bt1028.2.2.2.2.2.2).bind fun t1043 => (if (t1042 != t1043) = true then (laws_FnKnowNothing.j0 k bt1028.1 bt1028.2.1 t1042 true bt1028.2.2.1 bt1028.2.2.2.1 bt1028.2.2.2.2.1 bt1028.2.2.2.2.2.1 bt1028.2.2.2.2.2.2) else (laws_FnKnowNothing.j0 k bt1028.1 bt1028.2.1 t1042 (!t1042) bt1028.2.2.1 bt1028.2.2.2.1 bt1028.2.2.2.2.1 bt1028.2.2.2.2.2.1 bt1028.2.2.2.2.2.2)))))
theorem laws_FnKnowNothing.mono_l : ∀ k, (∀ y0 y1 y2 y3 y4 y5 y6 y7 y8, LeO (laws_FnKnowNothing.j0 k y0 y1 y2 y3 y4 y5 y6 y7 y8) (laws_FnKnowNothing.j0 (k + 1) y0 y1 y2 y3 y4 y5 y6 y7 y8))
 | 0 => fun _ _ _ _ _ _ _ _ _ r h => by simp [laws_FnKnowNothing.j0] at h
 | k + 1 => by
  have ih0 := laws_FnKnowNothing.mono_l k
  ·intro y0 y1 y2 y3 y4 y5 y6 y7 y8
   unfold laws_FnKnowNothing.j0
   repeat' first
   | (with_reducible exact ih0 _ _ _ _ _ _ _ _ _)
   | (with_reducible exact laws_lbInts.mono _ _ _)
   | (with_reducible exact spec_DrawKnowBuild.mono _ _)
   | (with_reducible exact spec_KnowBuild.mono _ _ _ _ _ _ _ _)
   | (with_reducible exact LeO.refl _)
   | (with_reducible exact LeO.none _)
   | (with_reducible refine LeO.ite ?_ ?_)
   | (with_reducible refine LeO.bind ?_ (fun _ => ?_))
   | exact ih0 _ _ _ _ _ _ _ _ _
   | exact laws_lbInts.mono _ _ _
   | exact spec_DrawKnowBuild.mono _ _
   | exact spec_KnowBuild.mono _ _ _ _ _ _ _ _
   | exact LeO.none _
   | refine LeO.ite ?_ ?_
   | refine LeO.bind ?_ (fun _ => ?_)
theorem laws_FnKnowNothing.mono : ∀ a0 k, LeO (laws_FnKnowNothing.f k a0) (laws_FnKnowNothing.f (k + 1) a0) := by
 intro a0 k
 have ih0 := laws_FnKnowNothing.mono_l k
 unfold laws_FnKnowNothing.f
 repeat' first
   | (with_reducible exact ih0 _ _ _ _ _ _ _ _ _)
   | (with_reducible exact laws_lbInts.mono _ _ _)
   | (with_reducible exact spec_DrawKnowBuild.mono _ _)
   | (with_reducible exact spec_KnowBuild.mono _ _ _ _ _ _ _ _)
   | (with_reducible exact LeO.refl _)
   | (with_reducible exact LeO.none _)
   | (with_reducible refine LeO.ite ?_ ?_)
   | (with_reducible refine LeO.bind ?_ (fun _ => ?_))
   | exact ih0 _ _ _ _ _ _ _ _ _
   | exact laws_lbInts.mono _ _ _
   | exact spec_DrawKnowBuild.mono _ _
   | exact spec_KnowBuild.mono _ _ _ _ _ _ _ _
   | exact LeO.none _
   | refine LeO.ite ?_ ?_
   | refine LeO.bind ?_ (fun _ => ?_)
def laws_FnKnowNothing.T7 : Bool × List (List Nat × List Nat) := (true, [([], []), ([], []), ([], []), ([1, 2], [1, 2]), ([], []), ([4], [4]), ([3, 5, 3], [3, 5]), ([0, 6, 6], [0, 6]), ([], []), ([], []), ([8, 9, 7], [8, 9]), ([7, 10, 10], [7, 10]), ([11, 11, 0, 1, 2, 3, 4, 5, 6, 7, 8, 9, 10, 11], [11])])
def laws_FnKnowNothing.B7 : List Nat := [0, 0, 0, 6, 0, 16, 62, 127, 0, 0, 1023, 2047, 4095]
theorem laws_FnKnowNothing.tab7 : rtab .any (opsOf Try.f19 7) = laws_FnKnowNothing.T7 := by kernel_rfl
theorem laws_FnKnowNothing.bits7 : waitsOk laws_FnKnowNothing.T7.2 laws_FnKnowNothing.B7 = true := by kernel_rfl
set_option maxHeartbeats 8000000 in
set_option maxRecDepth 100000 in
theorem laws_FnKnowNothing.calls (k : Nat) (A0 : Option Addr) (c0 : Nat) (l0 : List Int) (r : Bool) (w : World) (hr0 : Kd.C (Kd.int .u8) w A0 l0.length l0) (hc0 : l0.length ≤ c0) (h : laws_FnKnowNothing.f k l0 = some r) :
  Calls Try.prog 19 #[.slice A0 l0.length c0] w fun e w' => e = .returned (.bool r) ∧ Below w.heap.size w w' := by
 have hu36 := Try.underlying36
 have HR0 := Aside0.mk hr0
 have HC0 := Aside0.mk hc0
 clear hr0 hc0
 have HB := Aside0.mk (Below.refl w.heap.size w)
 have H : (if (l0.length : Int) > 1048576 then (some true) else ((spec_DrawKnowBuild.f k l0).bind fun bt1028 => ((impl_KnowBuild.f bt1028.1 bt1028.2.1 bt1028.2.2.1 bt1028.2.2.2.1 bt1028.2.2.2.2.1 bt1028.2.2.2.2.2.1 bt1028.2.2.2.2.2.2).bind fun t1042 => ((spec_KnowBuild.f k bt1028.1 bt1028.2.1 bt1028.2.2.1 bt1028.2.2.2.1 bt1028.2.2.2.2.1 bt1028.2.2.2.2.2.1 bt1028.2.2.2.2.2.2).bind fun t1043 => (if (t1042 != t1043) = true then (laws_FnKnowNothing.j0 k bt1028.1 bt1028.2.1 t1042 true bt1028.2.2.1 bt1028.2.2.2.1 bt1028.2.2.2.2.1 bt1028.2.2.2.2.2.1 bt1028.2.2.2.2.2.2) else (laws_FnKnowNothing.j0 k bt1028.1 bt1028.2.1 t1042 (!t1042) bt1028.2.2.1 bt1028.2.2.2.1 bt1028.2.2.2.2.1 bt1028.2.2.2.2.2.1 bt1028.2.2.2.2.2.2)))))) = some r := h
 clear h
 by_cases c2 : (l0.length : Int) > 1048576
 ·rw [if_pos c2] at H
  have c2b0 : decide (1048576 < (l0.length : Int)) = true := decide_eq_true c2
  have c2b1 : decide (1048576 < l0.length) = true := decide_eq_true (by omega)
  clear c2
  obtain rfl := Option.some.inj H
  go_enter Try.func19, Try.ntmps19
  go_wp2
  go_ret
  exact ⟨by first | rfl | (simp [errW_none, errW_some] <;> rfl) | (simp [*, errW_none, errW_some] <;> rfl), by repeat (first | (with_reducible first | exact HB.out | apply below_alloc | apply pw_below_drewN | apply below_drew1) | exact HB.out)⟩
 ·rw [if_neg c2] at H
  have c2b0 : decide (1048576 < (l0.length : Int)) = false := decide_eq_false c2
  have c2b1 : decide (1048576 < l0.length) = false := decide_eq_false (by omega)
  clear c2
  replace H := Option.bind_eq_some_iff.mp H
  obtain ⟨⟨t1028, t1031, t1034, t1035, t1036, t1037, t1038⟩, A30, H⟩ := H
  replace H : ((impl_KnowBuild.f t1028 t1031 t1034 t1035 t1036 t1037 t1038).bind fun t1042 => ((spec_KnowBuild.f k t1028 t1031 t1034 t1035 t1036 t1037 t1038).bind fun t1043 => (if (t1042 != t1043) = true then (laws_FnKnowNothing.j0 k t1028 t1031 t1042 true t1034 t1035 t1036 t1037 t1038) else (laws_FnKnowNothing.j0 k t1028 t1031 t1042 (!t1042) t1034 t1035 t1036 t1037 t1038)))) = some r := H
  have A3 := Aside0.mk A30
  clear A30
  replace H := Option.bind_eq_some_iff.mp H
  obtain ⟨t1042, A40, H⟩ := H
  replace H : ((spec_KnowBuild.f k t1028 t1031 t1034 t1035 t1036 t1037 t1038).bind fun t1043 => (if (t1042 != t1043) = true then (laws_FnKnowNothing.j0 k t1028 t1031 t1042 true t1034 t1035 t1036 t1037 t1038) else (laws_FnKnowNothing.j0 k t1028 t1031 t1042 (!t1042) t1034 t1035 t1036 t1037 t1038))) = some r := H
  have A4 := Aside0.mk A40
  clear A40
  have HC5 := Aside0.mk H
  clear H
  go_enter Try.func19, Try.ntmps19
  go_upto_region 5 with (first | ((with_reducible refine gate_callee (f := 53) rfl ?_); refine goesL_ (some 12) rfl rfl Try.func53 (by kernel_rfl) rfl #[.slice A0 l0.length c0] rfl z64x4 ?_; (with_reducible refine (spec_DrawKnowBuild.calls k _ _ l0 t1028 t1031 t1034 t1035 t1036 t1037 t1038 _ ?side1 ?side2 A3.out).mono ?_); (case side1 => repeat (first | exact HR0.out | (with_reducible refine Kd.C_alloc ?_ _) | (with_reducible refine Kd.C_drewN ?_ _) | (with_reducible refine Kd.C_drew ?_))); (case side2 => exact HC0.out); rintro e w6 ⟨v1029, v1032, v1039, rfl, ho0, ho1, ho2, hb⟩; refine ⟨_, rfl, ?_⟩; have n0_ := Aside0.mk (Kd.R_lower ho0 (below_size z64x5)); have n1_ := Aside0.mk (Kd.R_lower ho1 (below_size z64x5)); have n2_ := Aside0.mk (Kd.R_lower ho2 (below_size z64x5)); have n3_ := Aside0.mk (below_step z64x5 hb); clear HB; have HO1030 := n0_; have HO1033 := n1_; have HO1040 := n2_; have HB := n3_; clear n0_ n1_ n2_ n3_; (try clear hb); (try clear hb2); (try clear hk); (try clear hi); (try clear ho0); (try clear ho1); (try clear ho2)) | ((with_reducible refine gate_dst (N := 5) rfl ?_); refine box_event ?hg (N := 5) ?hd (cs := #[.int .i64 0, .int .i64 0, .int .i64 0, .int .i64 0, .slice none 0 0]) (t := 36) ?hr ?_; (case hd => rfl); (case hg => rfl); (case hr => first | (go_simp; done) | (go_simp; rfl)); intro gb1041 hg w7 hbox hb; have n0_ := Aside0.mk (Kd.R_below z64x8 hb); have n1_ := Aside0.mk (Kd.R_below z64x9 hb); have n2_ := Aside0.mk (Kd.R_below z64x10 hb); have n3_ := Aside0.mk (below_step z64x5 hb); have n4_ := Aside0.mk (hbox); have n5_ := Aside0.mk ((by rw [hg]; exact (below_size z64x5) : w.heap.size ≤ gb1041)); have n6_ := Aside0.mk ((by rw [hg]; exact (below_size z64x5) : w.heap.size ≤ gb1041)); clear HO1030; clear HO1033; clear HO1040; clear HB; have HO1030 := n0_; have HO1033 := n1_; have HO1040 := n2_; have HB := n3_; have BK1041 := n4_; have GW1041 := n5_; have GE1041 := n6_; clear n0_ n1_ n2_ n3_ n4_ n5_ n6_; clear hb hbox hg; have hcz8_0 : w7.cell? ⟨gb1041, 0, none⟩ = some (.int .i64 0) := (blk_cell BK1041.out 0).trans rfl; have hcz8_1 : w7.cell? ⟨gb1041, 1, none⟩ = some (.int .i64 0) := (blk_cell BK1041.out 1).trans rfl; have hcz8_2 : w7.cell? ⟨gb1041, 2, none⟩ = some (.int .i64 0) := (blk_cell BK1041.out 2).trans rfl; have hcz8_3 : w7.cell? ⟨gb1041, 3, none⟩ = some (.int .i64 0) := (blk_cell BK1041.out 3).trans rfl; have hcz8_4 : w7.cell? ⟨gb1041, 4, none⟩ = some (.slice none 0 0) := (blk_cell BK1041.out 4).trans rfl; have hfz8_0 := blk_frozen BK1041.out 0; have hfz8_1 := blk_frozen BK1041.out 1; have hfz8_2 := blk_frozen BK1041.out 2; have hfz8_3 := blk_frozen BK1041.out 3; have hfz8_4 := blk_frozen BK1041.out 4; obtain ⟨Ao9, co9, eo9⟩ := Kd.R_slice HO1040.out; subst eo9; obtain ⟨Ao10, co10, eo10⟩ := Kd.R_slice HO1030.out; subst eo10; obtain ⟨Ao11, co11, eo11⟩ := Kd.R_slice HO1033.out; subst eo11) | ((with_reducible refine gate_callee (f := 52) rfl ?_); refine goesL_ (some 19) rfl rfl Try.func52 (by kernel_rfl) rfl #[.slice Ao10 t1028.length co10, .slice Ao11 t1031.length co11, .agg #[.int .i64 t1034, .int .i64 t1035, .int .i64 t1036, .int .i64 t1037, .slice Ao9 t1038.length co9]] rfl z64x4 ?_; (with_reducible refine (impl_KnowBuild.calls _ _ t1028 _ _ t1031 t1034 t1035 t1036 t1037 _ _ t1038 t1042 _ ?side1 ?side2 ?side3 ?side4 ?side5 ?side6 A4.out).mono ?_); (case side1 => refine (Kd.R_reads' (e := 3) (base := w.heap.size) (ok := fun k_ => True) (n := t1028.length) (c := co10) ?_).2.2; exact z64x0); (case side2 => exact (Kd.R_reads' HO1030.out).2.1); (case side3 => refine (Kd.R_reads' (e := 24) (base := w.heap.size) (ok := fun k_ => some k_ ≠ (.slice Ao9 t1038.length co9 : Value).ownBlock) (n := t1031.length) (c := co11) ?_).2.2; exact z64x1); (case side4 => exact (Kd.R_reads' HO1033.out).2.1); (case side5 => refine (Kd.R_reads' (e := 24) (base := w.heap.size) (ok := fun k_ => some k_ ≠ (.slice Ao11 t1031.length co11 : Value).ownBlock) (n := t1038.length) (c := co9) ?_).2.2; exact z64x2); (case side6 => exact (Kd.R_reads' HO1040.out).2.1); rintro e w12 ⟨rfl, hb⟩; refine ⟨_, rfl, ?_⟩; have n0_ := Aside0.mk (Kd.R_below z64x0 hb); have n1_ := Aside0.mk (Kd.R_below z64x1 hb); have n2_ := Aside0.mk (Kd.R_below z64x2 hb); have n3_ := Aside0.mk (blk_below (g := gb1041) (o := .cells #[.int .i64 t1034, .int .i64 t1035, .int .i64 t1036, .int .i64 t1037, .slice Ao9 t1038.length co9] 36 (0, 0)) (by (with_reducible repeat (first | refine blk_drewN ?_ _ | refine blk_drew ?_ | refine blk_alloc ?_ _)); refine blk_put (cs := #[.int .i64 t1034, .int .i64 t1035, .int .i64 t1036, .int .i64 t1037, .slice none 0 0]) ?_ 4 _ rfl; (with_reducible repeat (first | refine blk_drewN ?_ _ | refine blk_drew ?_ | refine blk_alloc ?_ _)); refine blk_put (cs := #[.int .i64 t1034, .int .i64 t1035, .int .i64 t1036, .int .i64 0, .slice none 0 0]) ?_ 3 _ rfl; (with_reducible repeat (first | refine blk_drewN ?_ _ | refine blk_drew ?_ | refine blk_alloc ?_ _)); refine blk_put (cs := #[.int .i64 t1034, .int .i64 t1035, .int .i64 0, .int .i64 0, .slice none 0 0]) ?_ 2 _ rfl; (with_reducible repeat (first | refine blk_drewN ?_ _ | refine blk_drew ?_ | refine blk_alloc ?_ _)); refine blk_put (cs := #[.int .i64 t1034, .int .i64 0, .int .i64 0, .int .i64 0, .slice none 0 0]) ?_ 1 _ rfl; (with_reducible repeat (first | refine blk_drewN ?_ _ | refine blk_drew ?_ | refine blk_alloc ?_ _)); refine blk_put (cs := #[.int .i64 0, .int .i64 0, .int .i64 0, .int .i64 0, .slice none 0 0]) ?_ 0 _ rfl; (with_reducible repeat (first | refine blk_drewN ?_ _ | refine blk_drew ?_ | refine blk_alloc ?_ _)); exact BK1041.out) hb); have n4_ := Aside0.mk (below_step z64x3 hb); clear HO1030; clear HO1033; clear HO1040; clear BK1041; clear HB; have HO1030 := n0_; have HO1033 := n1_; have HO1040 := n2_; have BK1041 := n3_; have HB := n4_; clear n0_ n1_ n2_ n3_ n4_; (try clear hb); (try clear hb2); (try clear hk); (try clear hi)))
  (try simp only [Act.put, List.setIfInBounds_toArray, List.set_cons_zero, List.set_cons_succ])
  go_cut [29] (fun v29 wc => ∃ (kq : Nat) (x29_4 : Bool), v29 = .bool x29_4 ∧ Aside0 (laws_FnKnowNothing.j0 kq t1028 t1031 t1042 x29_4 t1034 t1035 t1036 t1037 t1038 = some r) ∧ Aside0 (kq ≤ k) ∧ Aside0 (Kd.R (Kd.int .i64) 3 wc w.heap.size (fun _ => True) (.slice Ao10 t1028.length co10) t1028) ∧ Aside0 (Kd.R k24 24 wc w.heap.size (fun k_ => some k_ ≠ ((.slice Ao9 t1038.length co9) : Value).ownBlock) (.slice Ao11 t1031.length co11) t1031) ∧ Aside0 (Kd.R k24 24 wc w.heap.size (fun k_ => some k_ ≠ ((.slice Ao11 t1031.length co11) : Value).ownBlock) (.slice Ao9 t1038.length co9) t1038) ∧ Aside0 (wc.heap[gb1041]? = some (.cells #[.int .i64 t1034, .int .i64 t1035, .int .i64 t1036, .int .i64 t1037, (.slice Ao9 t1038.length co9)] 36 (0, 0))) ∧ Aside0 (Below w.heap.size w wc))
  case first =>
   have H := HC5.out
   clear HC5
   replace H := Option.bind_eq_some_iff.mp H
   obtain ⟨t1043, A130, H⟩ := H
   replace H : (if (t1042 != t1043) = true then (laws_FnKnowNothing.j0 k t1028 t1031 t1042 true t1034 t1035 t1036 t1037 t1038) else (laws_FnKnowNothing.j0 k t1028 t1031 t1042 (!t1042) t1034 t1035 t1036 t1037 t1038)) = some r := H
   have A13 := Aside0.mk A130
   clear A130
   by_cases c14 : (t1042 != t1043) = true
   ·rw [if_pos c14] at H
    have c14b0 : (t1042 != t1043) = true := c14
    (try (have c14b1 : decide (t1042 = t1043) = false := by simpa using c14))
    (try (have c14b2 : (t1042 == t1043) = false := by simpa using c14))
    (try (have c14b3 : ¬ (t1042 = t1043) := by simpa using c14))
    clear c14
    (first | rw [c14b0] | (simp only [i64_w, i32_w]; rw [c14b0]) | skip)
    have H' := Aside0.mk H
    clear H
    have hcz15_0 : w12.cell? ⟨gb1041, 0, none⟩ = some (.int .i64 t1034) := (blk_cell BK1041.out 0).trans rfl
    have hcz15_1 : w12.cell? ⟨gb1041, 1, none⟩ = some (.int .i64 t1035) := (blk_cell BK1041.out 1).trans rfl
    have hcz15_2 : w12.cell? ⟨gb1041, 2, none⟩ = some (.int .i64 t1036) := (blk_cell BK1041.out 2).trans rfl
    have hcz15_3 : w12.cell? ⟨gb1041, 3, none⟩ = some (.int .i64 t1037) := (blk_cell BK1041.out 3).trans rfl
    have hcz15_4 : w12.cell? ⟨gb1041, 4, none⟩ = some (.slice Ao9 t1038.length co9) := (blk_cell BK1041.out 4).trans rfl
    have hfz15_0 := blk_frozen BK1041.out 0
    have hfz15_1 := blk_frozen BK1041.out 1
    have hfz15_2 := blk_frozen BK1041.out 2
    have hfz15_3 := blk_frozen BK1041.out 3
    have hfz15_4 := blk_frozen BK1041.out 4
    go_wp2_with (first | ((with_reducible refine gate_callee (f := 51) rfl ?_); refine goesL_ (some 24) rfl rfl Try.func51 (by kernel_rfl) rfl #[.slice Ao10 t1028.length co10, .slice Ao11 t1031.length co11, .agg #[.int .i64 t1034, .int .i64 t1035, .int .i64 t1036, .int .i64 t1037, .slice Ao9 t1038.length co9]] rfl z64x4 ?_; (with_reducible refine (spec_KnowBuild.calls k _ _ t1028 _ _ t1031 t1034 t1035 t1036 t1037 _ _ t1038 t1043 _ ?side1 ?side2 ?side3 ?side4 ?side5 ?side6 A13.out).mono ?_); (case side1 => repeat (first | exact (Kd.R_reads' HO1030.out).2.2 | (with_reducible refine Kd.C_alloc ?_ _) | (with_reducible refine Kd.C_drewN ?_ _) | (with_reducible refine Kd.C_drew ?_))); (case side2 => exact (Kd.R_reads' HO1030.out).2.1); (case side3 => repeat (first | exact (Kd.R_reads' HO1033.out).2.2 | (with_reducible refine Kd.C_alloc ?_ _) | (with_reducible refine Kd.C_drewN ?_ _) | (with_reducible refine Kd.C_drew ?_))); (case side4 => exact (Kd.R_reads' HO1033.out).2.1); (case side5 => repeat (first | exact (Kd.R_reads' HO1040.out).2.2 | (with_reducible refine Kd.C_alloc ?_ _) | (with_reducible refine Kd.C_drewN ?_ _) | (with_reducible refine Kd.C_drew ?_))); (case side6 => exact (Kd.R_reads' HO1040.out).2.1); rintro e w16 ⟨rfl, hb⟩; refine ⟨_, rfl, ?_⟩; have n0_ := Aside0.mk (Kd.R_below z64x8 hb); have n1_ := Aside0.mk (Kd.R_below z64x9 hb); have n2_ := Aside0.mk (Kd.R_below z64x10 hb); have n3_ := Aside0.mk (blk_below (g := gb1041) (o := .cells #[.int .i64 t1034, .int .i64 t1035, .int .i64 t1036, .int .i64 t1037, .slice Ao9 t1038.length co9] 36 (0, 0)) z64x6 hb); have n4_ := Aside0.mk (below_step z64x3 hb); clear HO1030; clear HO1033; clear HO1040; clear BK1041; clear HB; have HO1030 := n0_; have HO1033 := n1_; have HO1040 := n2_; have BK1041 := n3_; have HB := n4_; clear n0_ n1_ n2_ n3_ n4_; (try clear hb); (try clear hb2); (try clear hk); (try clear hi)))
    go_meet
    case rel => exact ⟨_, (true), (by first | rfl | (simp; done) | (simp [*]; done)), H', ⟨by first | omega | exact Nat.le_refl _⟩, ⟨by (with_reducible repeat (first | apply Kd.R_alloc | apply Kd.R_drewN | apply Kd.R_drew)); exact HO1030.out⟩, ⟨by (with_reducible repeat (first | apply Kd.R_alloc | apply Kd.R_drewN | apply Kd.R_drew)); exact HO1033.out⟩, ⟨by (with_reducible repeat (first | apply Kd.R_alloc | apply Kd.R_drewN | apply Kd.R_drew)); exact HO1040.out⟩, ⟨by (with_reducible repeat (first | refine blk_drewN ?_ _ | refine blk_drew ?_ | refine blk_alloc ?_ _)); exact BK1041.out⟩, ⟨by repeat (first | (with_reducible first | exact HB.out | apply below_alloc | apply pw_below_drewN | apply below_drew1 | refine below_set ?_ GE1041.out) | exact HB.out)⟩⟩
   ·rw [if_neg c14] at H
    have c14b0 : (t1042 != t1043) = false := by simpa using c14
    (try (have c14b1 : decide (t1042 = t1043) = true := by simpa using c14))
    (try (have c14b2 : (t1042 == t1043) = true := by simpa using c14))
    clear c14
    (first | rw [c14b0] | (simp only [i64_w, i32_w]; rw [c14b0]) | skip)
    have H' := Aside0.mk H
    clear H
    have hcz17_0 : w12.cell? ⟨gb1041, 0, none⟩ = some (.int .i64 t1034) := (blk_cell BK1041.out 0).trans rfl
    have hcz17_1 : w12.cell? ⟨gb1041, 1, none⟩ = some (.int .i64 t1035) := (blk_cell BK1041.out 1).trans rfl
    have hcz17_2 : w12.cell? ⟨gb1041, 2, none⟩ = some (.int .i64 t1036) := (blk_cell BK1041.out 2).trans rfl
    have hcz17_3 : w12.cell? ⟨gb1041, 3, none⟩ = some (.int .i64 t1037) := (blk_cell BK1041.out 3).trans rfl
    have hcz17_4 : w12.cell? ⟨gb1041, 4, none⟩ = some (.slice Ao9 t1038.length co9) := (blk_cell BK1041.out 4).trans rfl
    have hfz17_0 := blk_frozen BK1041.out 0
    have hfz17_1 := blk_frozen BK1041.out 1
    have hfz17_2 := blk_frozen BK1041.out 2
    have hfz17_3 := blk_frozen BK1041.out 3
    have hfz17_4 := blk_frozen BK1041.out 4
    go_wp2_with (first | ((with_reducible refine gate_callee (f := 51) rfl ?_); refine goesL_ (some 24) rfl rfl Try.func51 (by kernel_rfl) rfl #[.slice Ao10 t1028.length co10, .slice Ao11 t1031.length co11, .agg #[.int .i64 t1034, .int .i64 t1035, .int .i64 t1036, .int .i64 t1037, .slice Ao9 t1038.length co9]] rfl z64x4 ?_; (with_reducible refine (spec_KnowBuild.calls k _ _ t1028 _ _ t1031 t1034 t1035 t1036 t1037 _ _ t1038 t1043 _ ?side1 ?side2 ?side3 ?side4 ?side5 ?side6 A13.out).mono ?_); (case side1 => repeat (first | exact (Kd.R_reads' HO1030.out).2.2 | (with_reducible refine Kd.C_alloc ?_ _) | (with_reducible refine Kd.C_drewN ?_ _) | (with_reducible refine Kd.C_drew ?_))); (case side2 => exact (Kd.R_reads' HO1030.out).2.1); (case side3 => repeat (first | exact (Kd.R_reads' HO1033.out).2.2 | (with_reducible refine Kd.C_alloc ?_ _) | (with_reducible refine Kd.C_drewN ?_ _) | (with_reducible refine Kd.C_drew ?_))); (case side4 => exact (Kd.R_reads' HO1033.out).2.1); (case side5 => repeat (first | exact (Kd.R_reads' HO1040.out).2.2 | (with_reducible refine Kd.C_alloc ?_ _) | (with_reducible refine Kd.C_drewN ?_ _) | (with_reducible refine Kd.C_drew ?_))); (case side6 => exact (Kd.R_reads' HO1040.out).2.1); rintro e w18 ⟨rfl, hb⟩; refine ⟨_, rfl, ?_⟩; have n0_ := Aside0.mk (Kd.R_below z64x8 hb); have n1_ := Aside0.mk (Kd.R_below z64x9 hb); have n2_ := Aside0.mk (Kd.R_below z64x10 hb); have n3_ := Aside0.mk (blk_below (g := gb1041) (o := .cells #[.int .i64 t1034, .int .i64 t1035, .int .i64 t1036, .int .i64 t1037, .slice Ao9 t1038.length co9] 36 (0, 0)) z64x6 hb); have n4_ := Aside0.mk (below_step z64x3 hb); clear HO1030; clear HO1033; clear HO1040; clear BK1041; clear HB; have HO1030 := n0_; have HO1033 := n1_; have HO1040 := n2_; have BK1041 := n3_; have HB := n4_; clear n0_ n1_ n2_ n3_ n4_; (try clear hb); (try clear hb2); (try clear hk); (try clear hi)))
    go_meet
    case rel => exact ⟨_, (!t1042), (by first | rfl | (simp; done) | (simp [*]; done)), H', ⟨by first | omega | exact Nat.le_refl _⟩, ⟨by (with_reducible repeat (first | apply Kd.R_alloc | apply Kd.R_drewN | apply Kd.R_drew)); exact HO1030.out⟩, ⟨by (with_reducible repeat (first | apply Kd.R_alloc | apply Kd.R_drewN | apply Kd.R_drew)); exact HO1033.out⟩, ⟨by (with_reducible repeat (first | apply Kd.R_alloc | apply Kd.R_drewN | apply Kd.R_drew)); exact HO1040.out⟩, ⟨by (with_reducible repeat (first | refine blk_drewN ?_ _ | refine blk_drew ?_ | refine blk_alloc ?_ _)); exact BK1041.out⟩, ⟨by repeat (first | (with_reducible first | exact HB.out | apply below_alloc | apply pw_below_drewN | apply below_drew1 | refine below_set ?_ GE1041.out) | exact HB.out)⟩⟩
  case rest =>
   clear HC5
   try clear c1
   try clear c2
   try clear c2b0
   try clear c2b1
   try clear p2
   try clear c5
   try clear c14
   try clear c14b0
   try clear c14b1
   try clear c14b2
   try clear hcz15_0
   try clear hcz15_1
   try clear hcz15_2
   try clear hcz15_3
   try clear hcz15_4
   try clear hcz17_0
   try clear hcz17_1
   try clear hcz17_2
   try clear hcz17_3
   try clear hcz17_4
   try clear hcz8_0
   try clear hcz8_1
   try clear hcz8_2
   try clear hcz8_3
   try clear hcz8_4
   try clear hfz15_0
   try clear hfz15_1
   try clear hfz15_2
   try clear hfz15_3
   try clear hfz15_4
   try clear hfz17_0
   try clear hfz17_1
   try clear hfz17_2
   try clear hfz17_3
   try clear hfz17_4
   try clear hfz8_0
   try clear hfz8_1
   try clear hfz8_2
   try clear hfz8_3
   try clear hfz8_4
   obtain ⟨kq, x29_4, rfl, HA, HJ4, HO_3, HO_4, HO_1042004, BK1041, HB⟩ := hcut
   cases kq with
   | zero => exact absurd HA.out (by simp [laws_FnKnowNothing.j0])
   | succ kj4 =>
    have H := HA.out
    clear HA
    simp only [laws_FnKnowNothing.j0] at H
    by_cases c19 : x29_4 = true
    ·subst c19
     rw [if_pos rfl] at H
     replace H := Option.bind_eq_some_iff.mp H
     obtain ⟨t1044, A200, H⟩ := H
     replace H : (some (t1042 == t1044)) = some r := H
     have A20 := Aside0.mk A200
     clear A200
     obtain rfl := Option.some.inj H
     have hcz21_0 : wc.cell? ⟨gb1041, 0, none⟩ = some (.int .i64 t1034) := (blk_cell BK1041.out 0).trans rfl
     have hcz21_1 : wc.cell? ⟨gb1041, 1, none⟩ = some (.int .i64 t1035) := (blk_cell BK1041.out 1).trans rfl
     have hcz21_2 : wc.cell? ⟨gb1041, 2, none⟩ = some (.int .i64 t1036) := (blk_cell BK1041.out 2).trans rfl
     have hcz21_3 : wc.cell? ⟨gb1041, 3, none⟩ = some (.int .i64 t1037) := (blk_cell BK1041.out 3).trans rfl
     have hcz21_4 : wc.cell? ⟨gb1041, 4, none⟩ = some (.slice Ao9 t1038.length co9) := (blk_cell BK1041.out 4).trans rfl
     have hfz21_0 := blk_frozen BK1041.out 0
     have hfz21_1 := blk_frozen BK1041.out 1
     have hfz21_2 := blk_frozen BK1041.out 2
     have hfz21_3 := blk_frozen BK1041.out 3
     have hfz21_4 := blk_frozen BK1041.out 4
     go_wp2_with (first | ((with_reducible refine gate_callee (f := 51) rfl ?_); refine goesL_ (some 34) rfl rfl Try.func51 (by kernel_rfl) rfl #[.slice Ao10 t1028.length co10, .slice Ao11 t1031.length co11, .agg #[.int .i64 t1034, .int .i64 t1035, .int .i64 t1036, .int .i64 t1037, .slice Ao9 t1038.length co9]] rfl z64x4 ?_; (with_reducible refine (spec_KnowBuild.calls kj4 _ _ t1028 _ _ t1031 t1034 t1035 t1036 t1037 _ _ t1038 t1044 _ ?side1 ?side2 ?side3 ?side4 ?side5 ?side6 A20.out).mono ?_); (case side1 => repeat (first | exact (Kd.R_reads' HO_3.out).2.2 | (with_reducible refine Kd.C_alloc ?_ _) | (with_reducible refine Kd.C_drewN ?_ _) | (with_reducible refine Kd.C_drew ?_))); (case side2 => exact (Kd.R_reads' HO_3.out).2.1); (case side3 => repeat (first | exact (Kd.R_reads' HO_4.out).2.2 | (with_reducible refine Kd.C_alloc ?_ _) | (with_reducible refine Kd.C_drewN ?_ _) | (with_reducible refine Kd.C_drew ?_))); (case side4 => exact (Kd.R_reads' HO_4.out).2.1); (case side5 => repeat (first | exact (Kd.R_reads' HO_1042004.out).2.2 | (with_reducible refine Kd.C_alloc ?_ _) | (with_reducible refine Kd.C_drewN ?_ _) | (with_reducible refine Kd.C_drew ?_))); (case side6 => exact (Kd.R_reads' HO_1042004.out).2.1); rintro e w22 ⟨rfl, hb⟩; refine ⟨_, rfl, ?_⟩; have n0_ := Aside0.mk (Kd.R_below z64x12 hb); have n1_ := Aside0.mk (Kd.R_below z64x13 hb); have n2_ := Aside0.mk (Kd.R_below z64x7 hb); have n3_ := Aside0.mk (blk_below (g := gb1041) (o := .cells #[.int .i64 t1034, .int .i64 t1035, .int .i64 t1036, .int .i64 t1037, .slice Ao9 t1038.length co9] 36 (0, 0)) z64x6 hb); have n4_ := Aside0.mk (below_step z64x3 hb); clear HO_3; clear HO_4; clear HO_1042004; clear BK1041; clear HB; have HO_3 := n0_; have HO_4 := n1_; have HO_1042004 := n2_; have BK1041 := n3_; have HB := n4_; clear n0_ n1_ n2_ n3_ n4_; (try clear hb); (try clear hb2); (try clear hk); (try clear hi)))
     go_ret
     exact ⟨by first | rfl | (simp [errW_none, errW_some] <;> rfl) | (simp [*, errW_none, errW_some] <;> rfl), by repeat (first | (with_reducible first | exact HB.out | apply below_alloc | apply pw_below_drewN | apply below_drew1 | refine below_set ?_ GE1041.out) | exact HB.out)⟩
    ·replace c19 := Bool.eq_false_iff.mpr c19
     subst c19
     rw [if_neg (show ¬ (false = true) by decide)] at H
     obtain ⟨y1045, hy1045⟩ : ∃ y_ : List (S24), y_ = (([] : List (S24))) := ⟨_, rfl⟩
     replace H : (if y1045.length + t1031.length < 2513169434916 then ((some (y1045 ++ t1031 : List (S24))).bind fun y1048 => (if y1048.length + t1038.length < 2513169434916 then ((impl_KnowKeys.f t1028 (y1048 ++ t1038)).bind fun t1054 => ((impl_KnowKeys.f t1028 t1031).bind fun t1057 => ((laws_lbInts.f kj4 t1054 t1057).bind fun t1060 => (some t1060)))) else (none))) else (none)) = some r := by first | (rw [hy1045]; with_reducible exact H) | (have H2_ := (Option.bind_some _ _).symm.trans H; rw [hy1045]; with_reducible exact H2_) | (have H2_ := (Option.bind_some _ _).symm.trans H; with_reducible exact H2_) | with_reducible exact H | (rw [hy1045]; exact H) | exact H
     have Ny1045 := Aside0.mk hy1045
     clear hy1045
     by_cases c23 : y1045.length + t1031.length < 2513169434916
     ·rw [if_pos c23] at H
      have LMc23 := Aside0.mk c23
      clear c23
      obtain ⟨y1048, hy1048⟩ : ∃ y_ : List (S24), y_ = (y1045 ++ t1031) := ⟨_, rfl⟩
      replace H : (if y1048.length + t1038.length < 2513169434916 then ((impl_KnowKeys.f t1028 (y1048 ++ t1038)).bind fun t1054 => ((impl_KnowKeys.f t1028 t1031).bind fun t1057 => ((laws_lbInts.f kj4 t1054 t1057).bind fun t1060 => (some t1060)))) else (none)) = some r := by first | (rw [hy1048]; with_reducible exact H) | (have H2_ := (Option.bind_some _ _).symm.trans H; rw [hy1048]; with_reducible exact H2_) | (have H2_ := (Option.bind_some _ _).symm.trans H; with_reducible exact H2_) | with_reducible exact H | (rw [hy1048]; exact H) | exact H
      have Ny1048 := Aside0.mk hy1048
      clear hy1048
      by_cases c24 : y1048.length + t1038.length < 2513169434916
      ·rw [if_pos c24] at H
       have LMc24 := Aside0.mk c24
       clear c24
       obtain ⟨y1051, hy1051⟩ : ∃ y_ : List (S24), y_ = (y1048 ++ t1038) := ⟨_, rfl⟩
       replace H : ((impl_KnowKeys.f t1028 y1051).bind fun t1054 => ((impl_KnowKeys.f t1028 t1031).bind fun t1057 => ((laws_lbInts.f kj4 t1054 t1057).bind fun t1060 => (some t1060)))) = some r := by first | (rw [hy1051]; with_reducible exact H) | (have H2_ := (Option.bind_some _ _).symm.trans H; rw [hy1051]; with_reducible exact H2_) | (have H2_ := (Option.bind_some _ _).symm.trans H; with_reducible exact H2_) | with_reducible exact H | (rw [hy1051]; exact H) | exact H
       have Ny1051 := Aside0.mk hy1051
       clear hy1051
       replace H := Option.bind_eq_some_iff.mp H
       obtain ⟨t1054, A250, H⟩ := H
       replace H : ((impl_KnowKeys.f t1028 t1031).bind fun t1057 => ((laws_lbInts.f kj4 t1054 t1057).bind fun t1060 => (some t1060))) = some r := H
       have A25 := Aside0.mk A250
       clear A250
       replace H := Option.bind_eq_some_iff.mp H
       obtain ⟨t1057, A260, H⟩ := H
       replace H : ((laws_lbInts.f kj4 t1054 t1057).bind fun t1060 => (some t1060)) = some r := H
       have A26 := Aside0.mk A260
       clear A260
       replace H := Option.bind_eq_some_iff.mp H
       obtain ⟨t1060, A270, H⟩ := H
       replace H : (some t1060) = some r := H
       have A27 := Aside0.mk A270
       clear A270
       obtain rfl := Option.some.inj H
       try go_wp2
       have n0_ := Aside0.mk (Kd.R_drew HO_3.out)
       have n1_ := Aside0.mk (Kd.R_drew HO_4.out)
       have n2_ := Aside0.mk (Kd.R_drew HO_1042004.out)
       have n3_ := Aside0.mk (blk_drew BK1041.out)
       have n4_ := Aside0.mk (below_drew1 HB.out)
       clear HO_3
       clear HO_4
       clear HO_1042004
       clear BK1041
       clear HB
       have HO_3 := n0_
       have HO_4 := n1_
       have HO_1042004 := n2_
       have BK1041 := n3_
       have HB := n4_
       clear n0_ n1_ n2_ n3_ n4_
       refine start_ (n := 13) (S := fun w' => w'.cell? ⟨gb1041, 0, none⟩ = some (.int .i64 t1034) ∧ w'.cell? ⟨gb1041, 1, none⟩ = some (.int .i64 t1035) ∧ w'.cell? ⟨gb1041, 2, none⟩ = some (.int .i64 t1036) ∧ w'.cell? ⟨gb1041, 3, none⟩ = some (.int .i64 t1037) ∧ w'.cell? ⟨gb1041, 4, none⟩ = some (.slice Ao9 t1038.length co9)) (ds := []) #[false, false, false, false, false, false, false, false, false, false, false, false, false] (by kernel_rfl) rfl rfl ⟨(blk_cell BK1041.out 0).trans rfl, (blk_cell BK1041.out 1).trans rfl, (blk_cell BK1041.out 2).trans rfl, (blk_cell BK1041.out 3).trans rfl, (blk_cell BK1041.out 4).trans rfl⟩ (fun hHeld => ?_); refine with_tabW laws_FnKnowNothing.tab7 laws_FnKnowNothing.bits7 (fun HT_ HW_ => ?_)
       generalize wc.drew = w28 at HO_3 HO_4 HO_1042004 BK1041 HB hHeld ⊢
       refine pure_ (i := 0) (N := some 36) (v := ?_) (a' := ?_) #[true, false, false, false, false, false, false, false, false, false, false, false, false] rfl rfl (any_of HT_.out (by kernel_rfl)) (fun _ _ _ h => h) (Or.inl ⟨by rfl, ?_⟩) ?_ ?_
       rotate_left
       ·intro w'
        go_simp
        with_reducible rfl
       rotate_left
       ·simp only [Act.put, List.setIfInBounds_toArray, List.set_cons_zero, List.set_cons_succ, i64_w, i32_w]
        rfl
       refine pure_ (i := 2) (N := some 38) (v := ?_) (a' := ?_) #[true, false, true, false, false, false, false, false, false, false, false, false, false] rfl rfl (any_of HT_.out (by kernel_rfl)) (fun _ _ _ h => h) (Or.inl ⟨by rfl, ?_⟩) ?_ ?_
       rotate_left
       ·intro w'
        go_simp
        with_reducible rfl
       rotate_left
       ·simp only [Act.put, List.setIfInBounds_toArray, List.set_cons_zero, List.set_cons_succ, i64_w, i32_w]
        rfl
       refine pure_ (i := 4) (N := some 40) (v := ?_) (a' := ?_) #[true, false, true, false, true, false, false, false, false, false, false, false, false] rfl rfl (any_of HT_.out (by kernel_rfl)) (fun _ _ _ h => h) (Or.inl ⟨by rfl, ?_⟩) ?_ ?_
       rotate_left
       ·intro w'
        go_simp
        with_reducible rfl
       rotate_left
       ·simp only [Act.put, List.setIfInBounds_toArray, List.set_cons_zero, List.set_cons_succ, i64_w, i32_w]
        rfl
       refine pure_ (i := 8) (N := some 44) (v := ?_) (a' := ?_) #[true, false, true, false, true, false, false, false, true, false, false, false, false] rfl rfl (any_of HT_.out (by kernel_rfl)) (fun _ _ _ h => h) (Or.inl ⟨by rfl, ?_⟩) ?_ ?_
       rotate_left
       ·intro w'
        go_simp
        with_reducible rfl
       rotate_left
       ·simp only [Act.put, List.setIfInBounds_toArray, List.set_cons_zero, List.set_cons_succ, i64_w, i32_w]
        rfl
       refine pure_ (i := 9) (N := some 45) (v := ?_) (a' := ?_) #[true, false, true, false, true, false, false, false, true, true, false, false, false] rfl rfl (any_of HT_.out (by kernel_rfl)) (fun _ _ _ h => h) (Or.inl ⟨by rfl, ?_⟩) ?_ ?_
       rotate_left
       ·intro w'
        go_simp
        with_reducible rfl
       rotate_left
       ·simp only [Act.put, List.setIfInBounds_toArray, List.set_cons_zero, List.set_cons_succ, i64_w, i32_w]
        rfl
       refine take_ (i := 5) (N := some 41) (v := ?_) (a' := ?_) #[true, false, true, false, true, true, false, false, true, true, false, false, false] rfl rfl (take_ofW HT_.out HW_.out (by kernel_rfl)) (fun _ _ _ h => h) (Or.inl ⟨by rfl, ?_⟩) hHeld ?_ ?_
       rotate_left
       ·rintro w' ⟨s0, s1, s2, s3, s4⟩
        go_simp
        with_reducible rfl
       rotate_left
       ·simp only [Act.put, List.setIfInBounds_toArray, List.set_cons_zero, List.set_cons_succ, i64_w, i32_w]
        rfl
       refine one_ (i := 1) (N := some 37) #[true, true, true, false, true, true, false, false, true, true, false, false, false] rfl rfl (one_of HT_.out (by kernel_rfl)) (by decide) (fun K hK => ?_)
       refine Kd.R_lit_step k24 _ 24 ?hg (N := 37) ?hd (xs := ([] : List (S24))) (inner := []) (ok := fun _ => True) (okp := fun _ => True) ?hr ?hp (fun _ hk => hk) trivial (Below.refl _ _) (Nat.le_refl _) (by simp) ?_; (case hd => rfl); (case hg => rfl); (case hr => first | (go_simp; done) | (go_simp; rfl)); (case hp => exact (Reps.none _ _))
       intro v1046 w29 ho30 hb hg_ hnew_
       clear hg_ hnew_
       (first | rw [← Ny1045.out] at ho30 | (simp only [Int.reduceToNat] at ho30; rw [← Ny1045.out] at ho30))
       have n0_ := Aside0.mk (Kd.R_below z64x12 hb)
       have n1_ := Aside0.mk (Kd.R_elder' z64x13 (Kd.R_base ho30) hb)
       have n2_ := Aside0.mk (Kd.R_elder' z64x7 (Kd.R_base ho30) hb)
       have n3_ := Aside0.mk (Kd.R_lower (Kd.R_new' (Kd.R_new' ho30 (Kd.R_lt z64x13)) (Kd.R_lt z64x7)) (below_size z64x3))
       have n4_ := Aside0.mk (blk_below (g := gb1041) (o := .cells #[.int .i64 t1034, .int .i64 t1035, .int .i64 t1036, .int .i64 t1037, .slice Ao9 t1038.length co9] 36 (0, 0)) z64x6 hb)
       have n5_ := Aside0.mk (below_step z64x3 hb)
       clear HO_3
       clear HO_4
       clear HO_1042004
       clear BK1041
       clear HB
       have HO_3 := n0_
       have HO_4 := n1_
       have HO_1042004 := n2_
       have HO1047 := n3_
       have BK1041 := n4_
       have HB := n5_
       clear n0_ n1_ n2_ n3_ n4_ n5_
       clear hb ho30
       refine hK.out _ _ ⟨(blk_cell BK1041.out 0).trans rfl, (blk_cell BK1041.out 1).trans rfl, (blk_cell BK1041.out 2).trans rfl, (blk_cell BK1041.out 3).trans rfl, (blk_cell BK1041.out 4).trans rfl⟩ (fun hHeld => ?_)
       clear hK K
       refine norm_ (a' := ?_) ?_ ?_
       rotate_left
       ·show Act.put _ (some 37) _ = _
        simp only [Act.put, List.setIfInBounds_toArray, List.set_cons_zero, List.set_cons_succ, i64_w, i32_w]
        rfl
       refine one_ (i := 3) (N := some 39) #[true, true, true, true, true, true, false, false, true, true, false, false, false] rfl rfl (one_of HT_.out (by kernel_rfl)) (by decide) (fun K hK => ?_)
       refine Kd.R_append_rows_step k24 (w0 := w) w.heap.size (by rfl) (.tmp 37) (.tmp 38) 34 24 (.agg #[(.int .i64 0), (.int .i64 0), (.int .i64 0), (.int .i64 0), (.int .i64 0), (.int .i64 0), (.int .i64 0)]) 56 rfl Try.underlying34 info24 rfl (by decide) (by omega) v1046 y1045 t1031 _ _ _ (fun k_ => some k_ ≠ (.slice Ao11 t1031.length co11 : Value).ownBlock ∧ some k_ ≠ (.slice Ao9 t1038.length co9 : Value).ownBlock) (fun _ => False) rfl rfl ?aO ?aR (fun _ _ h => h) (fun _ h => h.elim) ?aF ?aB ?aS ?aL ?_
       (case aR => repeat (first | exact (Kd.R_reads' HO_4.out).2.2 | (with_reducible refine Kd.C_alloc ?_ _) | (with_reducible refine Kd.C_drewN ?_ _) | (with_reducible refine Kd.C_drew ?_)))
       (case aB => exact z64x3)
       (case aF => exact (fun k_ hk => ⟨Kd.fresh' (Kd.R_lt z64x13) k_ hk, Kd.fresh' (Kd.R_lt z64x7) k_ hk⟩))
       (case aO => exact (by (with_reducible repeat (first | apply Kd.R_alloc | apply Kd.R_drewN | apply Kd.R_drew)); exact Kd.R_mono HO1047.out (fun _ hk => ⟨hk.1.2, hk.2⟩)))
       (case aS => exact (below_size z64x3))
       (case aL => have := LMc23.out; omega)
       intro v1049 w31 ho hb hg hat
       rw [← Ny1048.out] at ho
       have n0_ := Aside0.mk (Kd.R_over' z64x12 (Kd.R_typed (by (with_reducible repeat (first | apply Kd.R_alloc | apply Kd.R_drewN | apply Kd.R_drew)); exact HO1047.out)) (by decide) hg)
       have n1_ := Aside0.mk (Kd.R_after (ok := (fun k_ => some k_ ≠ (.slice Ao9 t1038.length co9 : Value).ownBlock)) z64x13 hg hat)
       have n2_ := Aside0.mk (Kd.R_after (ok := (fun k_ => some k_ ≠ (.slice Ao11 t1031.length co11 : Value).ownBlock)) z64x7 hg hat)
       have n3_ := Aside0.mk (blk_grown (g := gb1041) (o := .cells #[.int .i64 t1034, .int .i64 t1035, .int .i64 t1036, .int .i64 t1037, .slice Ao9 t1038.length co9] 36 (0, 0)) z64x6 hg (Kd.R_ne HO1047.out BK1041.out (by decide)))
       have n4_ := Aside0.mk (hb)
       have n5_ := Aside0.mk (ho)
       clear HO_3
       clear HO_4
       clear HO_1042004
       clear BK1041
       clear HB
       clear HO1047
       have HO_3 := n0_
       have HO_4 := n1_
       have HO_1042004 := n2_
       have BK1041 := n3_
       have HB := n4_
       have HO1050 := n5_
       clear n0_ n1_ n2_ n3_ n4_ n5_
       clear ho hb hg hat
       refine hK.out _ _ ⟨(blk_cell BK1041.out 0).trans rfl, (blk_cell BK1041.out 1).trans rfl, (blk_cell BK1041.out 2).trans rfl, (blk_cell BK1041.out 3).trans rfl, (blk_cell BK1041.out 4).trans rfl⟩ (fun hHeld => ?_)
       clear hK K
       refine norm_ (a' := ?_) ?_ ?_
       rotate_left
       ·show Act.put _ (some 39) _ = _
        simp only [Act.put, List.setIfInBounds_toArray, List.set_cons_zero, List.set_cons_succ, i64_w, i32_w]
        rfl
       refine one_ (i := 6) (N := some 42) #[true, true, true, true, true, true, true, false, true, true, false, false, false] rfl rfl (one_of HT_.out (by kernel_rfl)) (by decide) (fun K hK => ?_)
       refine Kd.R_append_rows_step k24 (w0 := w) w.heap.size (by rfl) (.tmp 39) (.tmp 41) 34 24 (.agg #[(.int .i64 0), (.int .i64 0), (.int .i64 0), (.int .i64 0), (.int .i64 0), (.int .i64 0), (.int .i64 0)]) 56 rfl Try.underlying34 info24 rfl (by decide) (by omega) v1049 y1048 t1038 _ _ _ (fun k_ => some k_ ≠ (.slice Ao11 t1031.length co11 : Value).ownBlock ∧ some k_ ≠ (.slice Ao9 t1038.length co9 : Value).ownBlock) (fun _ => False) rfl rfl ?aO ?aR (fun _ _ h => h) (fun _ h => h.elim) ?aF ?aB ?aS ?aL ?_
       (case aR => repeat (first | exact (Kd.R_reads' HO_1042004.out).2.2 | (with_reducible refine Kd.C_alloc ?_ _) | (with_reducible refine Kd.C_drewN ?_ _) | (with_reducible refine Kd.C_drew ?_)))
       (case aB => exact z64x3)
       (case aF => exact (fun k_ hk => ⟨Kd.fresh' (Kd.R_lt z64x13) k_ hk, Kd.fresh' (Kd.R_lt z64x7) k_ hk⟩))
       (case aO => exact (by (with_reducible repeat (first | apply Kd.R_alloc | apply Kd.R_drewN | apply Kd.R_drew)); exact HO1050.out))
       (case aS => exact (below_size z64x3))
       (case aL => have := LMc24.out; omega)
       intro v1052 w32 ho hb hg hat
       rw [← Ny1051.out] at ho
       have n0_ := Aside0.mk (Kd.R_over' z64x12 (Kd.R_typed (by (with_reducible repeat (first | apply Kd.R_alloc | apply Kd.R_drewN | apply Kd.R_drew)); exact HO1050.out)) (by decide) hg)
       have n1_ := Aside0.mk (Kd.R_after (ok := (fun k_ => some k_ ≠ (.slice Ao9 t1038.length co9 : Value).ownBlock)) z64x13 hg hat)
       have n2_ := Aside0.mk (Kd.R_after (ok := (fun k_ => some k_ ≠ (.slice Ao11 t1031.length co11 : Value).ownBlock)) z64x7 hg hat)
       have n3_ := Aside0.mk (blk_grown (g := gb1041) (o := .cells #[.int .i64 t1034, .int .i64 t1035, .int .i64 t1036, .int .i64 t1037, .slice Ao9 t1038.length co9] 36 (0, 0)) z64x6 hg (Kd.R_ne HO1050.out BK1041.out (by decide)))
       have n4_ := Aside0.mk (hb)
       have n5_ := Aside0.mk (ho)
       clear HO_3
       clear HO_4
       clear HO_1042004
       clear BK1041
       clear HB
       clear HO1050
       have HO_3 := n0_
       have HO_4 := n1_
       have HO_1042004 := n2_
       have BK1041 := n3_
       have HB := n4_
       have HO1053 := n5_
       clear n0_ n1_ n2_ n3_ n4_ n5_
       clear ho hb hg hat
       obtain ⟨Ao33, co33, eo33⟩ := Kd.R_slice HO1053.out
       (first | subst eo33 | (injection eo33 with f1_ f2_ f3_; have f4_ := f1_.symm; have f5_ := f3_.symm; clear f1_ f2_ f3_; subst f4_; subst f5_))
       refine hK.out _ _ ⟨(blk_cell BK1041.out 0).trans rfl, (blk_cell BK1041.out 1).trans rfl, (blk_cell BK1041.out 2).trans rfl, (blk_cell BK1041.out 3).trans rfl, (blk_cell BK1041.out 4).trans rfl⟩ (fun hHeld => ?_)
       clear hK K
       refine norm_ (a' := ?_) ?_ ?_
       rotate_left
       ·show Act.put _ (some 42) _ = _
        simp only [Act.put, List.setIfInBounds_toArray, List.set_cons_zero, List.set_cons_succ, i64_w, i32_w]
        rfl
       refine one_ (i := 7) (N := some 43) #[true, true, true, true, true, true, true, true, true, true, false, false, false] rfl rfl (one_of HT_.out (by kernel_rfl)) (by decide) (fun K hK => ?_)
       refine goes_ Try.func34 (by kernel_rfl) rfl #[.slice Ao10 t1028.length co10, .slice Ao33 y1051.length co33] (by rfl) rfl rfl z64x4 ?_
       with_reducible refine (impl_KnowKeys.calls _ _ t1028 _ _ y1051 t1054 _ ?side1 ?side2 ?side3 ?side4 A25.out).mono ?_
       (case side1 => repeat (first | exact (Kd.R_reads' HO_3.out).2.2 | (with_reducible refine Kd.C_alloc ?_ _) | (with_reducible refine Kd.C_drewN ?_ _) | (with_reducible refine Kd.C_drew ?_)))
       (case side2 => exact (Kd.R_reads' HO_3.out).2.1)
       (case side3 => repeat (first | exact (Kd.R_reads' HO1053.out).2.2 | (with_reducible refine Kd.C_alloc ?_ _) | (with_reducible refine Kd.C_drewN ?_ _) | (with_reducible refine Kd.C_drew ?_)))
       (case side4 => exact (Kd.R_reads' HO1053.out).2.1)
       rintro e w34 ⟨v1055, rfl, ho0, hb⟩
       refine ⟨_, rfl, ?_⟩
       have n0_ := Aside0.mk (Kd.R_below z64x12 hb)
       have n1_ := Aside0.mk (Kd.R_below z64x13 hb)
       have n2_ := Aside0.mk (Kd.R_below z64x7 hb)
       have n3_ := Aside0.mk (Kd.R_below z64x11 hb)
       have n4_ := Aside0.mk (Kd.V_lower (Kd.V_mono (ok' := fun k_ => some k_ ≠ (.slice Ao10 t1028.length co10 : Value).ownBlock ∧ some k_ ≠ (.slice Ao11 t1031.length co11 : Value).ownBlock ∧ some k_ ≠ (.slice Ao9 t1038.length co9 : Value).ownBlock ∧ some k_ ≠ (.slice Ao33 y1051.length co33 : Value).ownBlock ∧ k_ ≠ gb1041) ho0 (fun k_ hk_ => ⟨(Kd.fresh' (Kd.R_lt z64x12) k_ hk_), (Kd.fresh' (Kd.R_lt z64x13) k_ hk_), (Kd.fresh' (Kd.R_lt z64x7) k_ hk_), (Kd.fresh' (Kd.R_lt z64x11) k_ hk_), (Kd.freshB (g := gb1041) (o := .cells #[.int .i64 t1034, .int .i64 t1035, .int .i64 t1036, .int .i64 t1037, .slice Ao9 t1038.length co9] 36 (0, 0)) z64x6 k_ hk_)⟩)) (below_size z64x3))
       have n5_ := Aside0.mk (blk_below (g := gb1041) (o := .cells #[.int .i64 t1034, .int .i64 t1035, .int .i64 t1036, .int .i64 t1037, .slice Ao9 t1038.length co9] 36 (0, 0)) z64x6 hb)
       have n6_ := Aside0.mk (below_step z64x3 hb)
       clear HO_3
       clear HO_4
       clear HO_1042004
       clear HO1053
       clear BK1041
       clear HB
       have HO_3 := n0_
       have HO_4 := n1_
       have HO_1042004 := n2_
       have HO1053 := n3_
       have HO1056 := n4_
       have BK1041 := n5_
       have HB := n6_
       clear n0_ n1_ n2_ n3_ n4_ n5_ n6_
       (try clear hb)
       (try clear hb2)
       (try clear hk)
       (try clear hi)
       (try clear ho0)
       refine hK.out _ _ ⟨(blk_cell BK1041.out 0).trans rfl, (blk_cell BK1041.out 1).trans rfl, (blk_cell BK1041.out 2).trans rfl, (blk_cell BK1041.out 3).trans rfl, (blk_cell BK1041.out 4).trans rfl⟩ (fun hHeld => ?_)
       clear hK K
       refine norm_ (a' := ?_) ?_ ?_
       rotate_left
       ·show Act.put _ (some 43) _ = _
        simp only [Act.put, List.setIfInBounds_toArray, List.set_cons_zero, List.set_cons_succ, i64_w, i32_w]
        rfl
       refine one_ (i := 10) (N := some 46) #[true, true, true, true, true, true, true, true, true, true, true, false, false] rfl rfl (one_of HT_.out (by kernel_rfl)) (by decide) (fun K hK => ?_)
       refine goes_ Try.func34 (by kernel_rfl) rfl #[.slice Ao10 t1028.length co10, .slice Ao11 t1031.length co11] (by rfl) rfl rfl z64x4 ?_
       with_reducible refine (impl_KnowKeys.calls _ _ t1028 _ _ t1031 t1057 _ ?side1 ?side2 ?side3 ?side4 A26.out).mono ?_
       (case side1 => repeat (first | exact (Kd.R_reads' HO_3.out).2.2 | (with_reducible refine Kd.C_alloc ?_ _) | (with_reducible refine Kd.C_drewN ?_ _) | (with_reducible refine Kd.C_drew ?_)))
       (case side2 => exact (Kd.R_reads' HO_3.out).2.1)
       (case side3 => repeat (first | exact (Kd.R_reads' HO_4.out).2.2 | (with_reducible refine Kd.C_alloc ?_ _) | (with_reducible refine Kd.C_drewN ?_ _) | (with_reducible refine Kd.C_drew ?_)))
       (case side4 => exact (Kd.R_reads' HO_4.out).2.1)
       rintro e w35 ⟨v1058, rfl, ho0, hb⟩
       refine ⟨_, rfl, ?_⟩
       have n0_ := Aside0.mk (Kd.R_below z64x12 hb)
       have n1_ := Aside0.mk (Kd.R_below z64x13 hb)
       have n2_ := Aside0.mk (Kd.R_below z64x7 hb)
       have n3_ := Aside0.mk (Kd.R_below z64x11 hb)
       have n4_ := Aside0.mk (Kd.V_below (by (with_reducible repeat (first | apply Kd.V_alloc | apply Kd.V_drewN | apply Kd.V_drew)); exact HO1056.out) hb)
       have n5_ := Aside0.mk (Kd.V_lower (Kd.V_mono (ok' := fun k_ => some k_ ≠ (.slice Ao10 t1028.length co10 : Value).ownBlock ∧ some k_ ≠ (.slice Ao11 t1031.length co11 : Value).ownBlock ∧ some k_ ≠ (.slice Ao9 t1038.length co9 : Value).ownBlock ∧ some k_ ≠ (.slice Ao33 y1051.length co33 : Value).ownBlock ∧ k_ ≠ gb1041) ho0 (fun k_ hk_ => ⟨(Kd.fresh' (Kd.R_lt z64x12) k_ hk_), (Kd.fresh' (Kd.R_lt z64x13) k_ hk_), (Kd.fresh' (Kd.R_lt z64x7) k_ hk_), (Kd.fresh' (Kd.R_lt z64x11) k_ hk_), (Kd.freshB (g := gb1041) (o := .cells #[.int .i64 t1034, .int .i64 t1035, .int .i64 t1036, .int .i64 t1037, .slice Ao9 t1038.length co9] 36 (0, 0)) z64x6 k_ hk_)⟩)) (below_size z64x3))
       have n6_ := Aside0.mk (blk_below (g := gb1041) (o := .cells #[.int .i64 t1034, .int .i64 t1035, .int .i64 t1036, .int .i64 t1037, .slice Ao9 t1038.length co9] 36 (0, 0)) z64x6 hb)
       have n7_ := Aside0.mk (below_step z64x3 hb)
       clear HO_3
       clear HO_4
       clear HO_1042004
       clear HO1053
       clear HO1056
       clear BK1041
       clear HB
       have HO_3 := n0_
       have HO_4 := n1_
       have HO_1042004 := n2_
       have HO1053 := n3_
       have HO1056 := n4_
       have HO1059 := n5_
       have BK1041 := n6_
       have HB := n7_
       clear n0_ n1_ n2_ n3_ n4_ n5_ n6_ n7_
       (try clear hb)
       (try clear hb2)
       (try clear hk)
       (try clear hi)
       (try clear ho0)
       obtain ⟨Ao36, co36, eo36⟩ := Kd.V_slice HO1056.out
       (first | subst eo36 | (injection eo36 with f1_ f2_ f3_; have f4_ := f1_.symm; have f5_ := f3_.symm; clear f1_ f2_ f3_; subst f4_; subst f5_))
       obtain ⟨Ao37, co37, eo37⟩ := Kd.V_slice HO1059.out
       (first | subst eo37 | (injection eo37 with f1_ f2_ f3_; have f4_ := f1_.symm; have f5_ := f3_.symm; clear f1_ f2_ f3_; subst f4_; subst f5_))
       refine hK.out _ _ ⟨(blk_cell BK1041.out 0).trans rfl, (blk_cell BK1041.out 1).trans rfl, (blk_cell BK1041.out 2).trans rfl, (blk_cell BK1041.out 3).trans rfl, (blk_cell BK1041.out 4).trans rfl⟩ (fun hHeld => ?_)
       clear hK K
       refine norm_ (a' := ?_) ?_ ?_
       rotate_left
       ·show Act.put _ (some 46) _ = _
        simp only [Act.put, List.setIfInBounds_toArray, List.set_cons_zero, List.set_cons_succ, i64_w, i32_w]
        rfl
       refine one_ (i := 11) (N := some 47) #[true, true, true, true, true, true, true, true, true, true, true, true, false] rfl rfl (one_of HT_.out (by kernel_rfl)) (by decide) (fun K hK => ?_)
       refine goes_ Try.func35 (by kernel_rfl) rfl #[.slice Ao36 t1054.length co36, .slice Ao37 t1057.length co37] (by rfl) rfl rfl z64x4 ?_
       with_reducible refine (laws_lbInts.calls kj4 _ _ t1054 _ _ t1057 t1060 _ ?side1 ?side2 ?side3 ?side4 A27.out).mono ?_
       (case side1 => repeat (first | exact (Kd.V_reads' HO1056.out).2.2 | (with_reducible refine Kd.C_alloc ?_ _) | (with_reducible refine Kd.C_drewN ?_ _) | (with_reducible refine Kd.C_drew ?_)))
       (case side2 => exact (Kd.V_reads' HO1056.out).2.1)
       (case side3 => repeat (first | exact (Kd.V_reads' HO1059.out).2.2 | (with_reducible refine Kd.C_alloc ?_ _) | (with_reducible refine Kd.C_drewN ?_ _) | (with_reducible refine Kd.C_drew ?_)))
       (case side4 => exact (Kd.V_reads' HO1059.out).2.1)
       rintro e w' ⟨rfl, ⟨nd, rfl⟩⟩
       refine ⟨_, rfl, ?_⟩
       refine hK.out _ _ ⟨(blk_cell BK1041.out 0).trans rfl, (blk_cell BK1041.out 1).trans rfl, (blk_cell BK1041.out 2).trans rfl, (blk_cell BK1041.out 3).trans rfl, (blk_cell BK1041.out 4).trans rfl⟩ (fun hHeld => ?_)
       clear hK K
       refine norm_ (a' := ?_) ?_ ?_
       rotate_left
       ·show Act.put _ (some 47) _ = _
        simp only [Act.put, List.setIfInBounds_toArray, List.set_cons_zero, List.set_cons_succ, i64_w, i32_w]
        rfl
       refine pure_ (i := 12) (N := some 2) (v := ?_) (a' := ?_) #[true, true, true, true, true, true, true, true, true, true, true, true, true] rfl rfl (any_of HT_.out (by kernel_rfl)) (fun _ _ _ h => h) (Or.inl ⟨by rfl, ?_⟩) ?_ ?_
       rotate_left
       ·intro w'
        go_simp
        with_reducible rfl
       rotate_left
       ·simp only [Act.put, List.setIfInBounds_toArray, List.set_cons_zero, List.set_cons_succ, i64_w, i32_w]
        rfl
       refine done_ (done_of HT_.out (by kernel_rfl)) ?_
       try go_wp2
       go_ret
       exact ⟨by first | rfl | (simp [errW_none, errW_some] <;> rfl) | (simp [*, errW_none, errW_some] <;> rfl), by repeat (first | (with_reducible first | exact HB.out | apply below_alloc | apply pw_below_drewN | apply below_drew1 | refine below_set ?_ GE1041.out) | exact HB.out)⟩
      ·rw [if_neg c24] at H
       exact absurd H (by simp)
     ·rw [if_neg c23] at H
      exact absurd H (by simp)

/-- THE ONE PURE STATEMENT of laws_FnKnowNothing: yours. -/
def laws_FnKnowNothing.Pure : Prop := ∀ (l0 : List Int), l0.length ≤ maxLen → l0.length * 1 ≤ 140737488351232 → (∀ x ∈ l0, (Lit.int .u8 x).wf = true) → ∃ k, laws_FnKnowNothing.f k l0 = some true
theorem laws_FnKnowNothing.walk (P : laws_FnKnowNothing.Pure) (a0 : Option Addr) (len0 cap0 : Nat) (z0 : List Int) (w : World) (w0 : (a0 = none ∧ len0 = 0 ∧ cap0 = 0 ∧ z0 = []) ∨ ∃ x, a0 = some x ∧ len0 ≤ cap0 ∧ cap0 ≤ maxLen ∧ z0.length = cap0 ∧ (∀ i, i < z0.length → w.cell? (x.add i) = some (.int .u8 (z0.getD i 0))) ∧ ∀ n ∈ z0, (Lit.int .u8 n).wf = true) (y0 : len0 * 1 ≤ 140737488351232) :
  Calls Try.prog 19 #[.slice a0 len0 cap0] w fun e w' => e = .returned (.bool true) ∧ Below w.heap.size w w' := by
 obtain ⟨l0, rfl, hr0, hm0, hw0, hc0⟩ := ReadsInt.ofRowC w0
 obtain ⟨k, h⟩ := P l0 hm0 y0 hw0
 refine (laws_FnKnowNothing.calls k _ _ l0 true w (Kd.C_of_reads (d := (0 : Int)) (h1 := fun _ => rfl) hr0) hc0 h).mono ?_
 rintro e w' ⟨rfl, hd⟩
 exact ⟨rfl, hd⟩

end Go.Proofs.Ytbiknbjcidlabaa.Hp
