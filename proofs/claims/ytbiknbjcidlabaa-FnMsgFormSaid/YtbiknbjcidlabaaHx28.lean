-- Printed by wip/tools/hp.py of this session (the kit's print.py, with contracts typed by hand beside).
import Derived.Test.YtbiknbjcidlabaaHx0
import Derived.Test.YtbiknbjcidlabaaHx3
import Derived.Test.YtbiknbjcidlabaaHx17
import Derived.Test.YtbiknbjcidlabaaHx21
import Derived.Test.YtbiknbjcidlabaaHx27
namespace Go.Proofs.Ytbiknbjcidlabaa.Hp
open Go.RowKit Go.Proofs.YtbiknbjcidlabaaW.PrintWords Go.Proofs.YtbiknbjcidlabaaW.PrintLast Go.Proofs.YtbiknbjcidlabaaW.PrintMore
attribute [local go_sem] max2_int min2_int max_two min_two max_three min_three max_four min_four   -- for this text's walks alone
set_option linter.unusedVariables false
set_option linter.unusedSimpArgs false
-- squeezed by wip/tools/squeeze.py
theorem z28x6 {P : Prop} (h : P := by (with_reducible repeat (first | apply Kd.R_alloc | apply Kd.R_drewN | apply Kd.R_drew)); exact HO366.out) : P := h
theorem z28x5 {P : Prop} (h : P := by (with_reducible repeat (first | apply Kd.R_alloc | apply Kd.R_drewN | apply Kd.R_drew)); exact HO_368004.out) : P := h
theorem z28x4 {P : Prop} (h : P := by (with_reducible repeat (first | refine blk_drewN ?_ _ | refine blk_drew ?_ | refine blk_alloc ?_ _)); exact BK367.out) : P := h
theorem z28x3 {P : Prop} (h : P := by repeat (first | (with_reducible first | exact HB.out | apply below_alloc | apply pw_below_drewN | apply below_drew1) | exact HB.out)) : P := h
theorem z28x2 {P : Prop} (h : P := by (try simp only [List.map_toArray, List.map_cons, List.map_nil]); first | done | rfl | (simp only [List.length_drop, List.length_take]; rfl)) : P := h
theorem z28x1 {P : Prop} (h : P := by repeat (first | (with_reducible first | exact HB.out | apply below_alloc | apply pw_below_drewN | apply below_drew1 | refine below_set ?_ GE367.out) | exact HB.out)) : P := h
theorem z28x0 {P : Prop} (h : P := by (with_reducible repeat (first | apply Kd.R_alloc | apply Kd.R_drewN | apply Kd.R_drew)); exact (Kd.R_mono (Kd.R_far (p := ⟨gb367, 4, none⟩) (Kd.R_far (p := ⟨gb367, 3, none⟩) (Kd.R_far (p := ⟨gb367, 2, none⟩) (Kd.R_far (p := ⟨gb367, 1, none⟩) (Kd.R_far (p := ⟨gb367, 0, none⟩) (Kd.R_types HO366.out BK367.out (by decide)) (fun _ hk => hk.2) (.int .i64 t360)) (fun _ hk => hk.2) (.int .i64 t361)) (fun _ hk => hk.2) (.int .i64 t362)) (fun _ hk => hk.2) (.int .i64 t363)) (fun _ hk => hk.2) (.slice Ao9 t364.length co9)) (fun _ h_ => h_.1))) : P := h

/-! ### laws_FnMsgForm: function 5 -/
mutual
def laws_FnMsgForm.j0 : Nat → Bool → Bool → Int → Int → Int → Int → List (S24) → Option (Bool)
 | 0, _, _, _, _, _, _, _ => none
 | k + 1, x4, x22, x368000, x368001, x368002, x368003, x368004 => if x22 = true then ((spec_MsgOk.f x368000 x368001 x368002 x368003 x368004).bind fun t370 => (some (x4 == t370))) else ((some (([0, 0, 2, 2, 2, 2, 1] : List Int) : List Int)).bind fun y371 => (if 0 ≤ x368000 then (if x368000 < (y371.length : Int) then (laws_FnMsgForm.l0 k (rd y371 x368000) 0 x368000 x368001 x368002 x368003 x368004) else (none)) else (none)))
def laws_FnMsgForm.l0 : Nat → Int → Int → Int → Int → Int → Int → List (S24) → Option (Bool)
 | 0, _, _, _, _, _, _, _ => none
 | k + 1, x5, x6, x368000, x368001, x368002, x368003, x368004 => if x6 < (x368004.length : Int) then (if 0 ≤ x6 then ((impl_SealOk.f ((rd_T24 x368004 x6).f0) ((rd_T24 x368004 x6).f1) ((rd_T24 x368004 x6).f2) ((rd_T24 x368004 x6).f3) ((rd_T24 x368004 x6).f4) ((rd_T24 x368004 x6).f5) ((rd_T24 x368004 x6).f6)).bind fun t376 => (if t376 = true then (laws_FnMsgForm.l0 k x5 (wrap64 (x6 + 1)) x368000 x368001 x368002 x368003 x368004) else (some false))) else (none)) else (if x368000 = 1 then (if ((x368001 == 0) != (x368002 == 0)) = true then (if ((x368003 != 0) == true) = true then (some ((x368004.length : Int) == x5)) else (some false)) else (some false)) else (if ((x368001 == 0) != (x368002 == 0)) = true then (if ((x368003 != 0) == (x368000 == 3)) = true then (some ((x368004.length : Int) == x5)) else (some false)) else (some false)))
end
def laws_FnMsgForm.f (k : Nat) (l0 : List Int) : Option (Bool) := if (l0.length : Int) > 1048576 then (some true) else ((spec_DrawMsgOk.f k l0).bind fun bt360 => ((impl_MsgOk.f bt360.1 bt360.2.1 bt360.2.2.1 bt360.2.2.2.1 bt360.2.2.2.2).bind fun t368 => ((spec_MsgOk.f bt360.1 bt360.2.1 bt360.2.2.1 bt360.2.2.2.1 bt360.2.2.2.2).bind fun t369 => (if (t368 != t369) = true then (laws_FnMsgForm.j0 k t368 true bt360.1 bt360.2.1 bt360.2.2.1 bt360.2.2.2.1 bt360.2.2.2.2) else (laws_FnMsgForm.j0 k t368 (!t368) bt360.1 bt360.2.1 bt360.2.2.1 bt360.2.2.2.1 bt360.2.2.2.2)))))
theorem laws_FnMsgForm.mono_l : ∀ k, (∀ y0 y1 y2 y3 y4 y5 y6, LeO (laws_FnMsgForm.j0 k y0 y1 y2 y3 y4 y5 y6) (laws_FnMsgForm.j0 (k + 1) y0 y1 y2 y3 y4 y5 y6)) ∧ (∀ y0 y1 y2 y3 y4 y5 y6, LeO (laws_FnMsgForm.l0 k y0 y1 y2 y3 y4 y5 y6) (laws_FnMsgForm.l0 (k + 1) y0 y1 y2 y3 y4 y5 y6))
 | 0 => ⟨fun _ _ _ _ _ _ _ r h => by simp [laws_FnMsgForm.j0] at h, fun _ _ _ _ _ _ _ r h => by simp [laws_FnMsgForm.l0] at h⟩
 | k + 1 => by
  obtain ⟨ih0, ih1⟩ := laws_FnMsgForm.mono_l k
  refine ⟨?_, ?_⟩
  ·intro y0 y1 y2 y3 y4 y5 y6
   unfold laws_FnMsgForm.j0
   repeat' first
   | (with_reducible exact ih0 _ _ _ _ _ _ _)
   | (with_reducible exact ih1 _ _ _ _ _ _ _)
   | (with_reducible exact spec_DrawMsgOk.mono _ _)
   | (with_reducible exact LeO.refl _)
   | (with_reducible exact LeO.none _)
   | (with_reducible refine LeO.ite ?_ ?_)
   | (with_reducible refine LeO.bind ?_ (fun _ => ?_))
   | exact ih0 _ _ _ _ _ _ _
   | exact ih1 _ _ _ _ _ _ _
   | exact spec_DrawMsgOk.mono _ _
   | exact LeO.none _
   | refine LeO.ite ?_ ?_
   | refine LeO.bind ?_ (fun _ => ?_)
  ·intro y0 y1 y2 y3 y4 y5 y6
   unfold laws_FnMsgForm.l0
   repeat' first
   | (with_reducible exact ih0 _ _ _ _ _ _ _)
   | (with_reducible exact ih1 _ _ _ _ _ _ _)
   | (with_reducible exact spec_DrawMsgOk.mono _ _)
   | (with_reducible exact LeO.refl _)
   | (with_reducible exact LeO.none _)
   | (with_reducible refine LeO.ite ?_ ?_)
   | (with_reducible refine LeO.bind ?_ (fun _ => ?_))
   | exact ih0 _ _ _ _ _ _ _
   | exact ih1 _ _ _ _ _ _ _
   | exact spec_DrawMsgOk.mono _ _
   | exact LeO.none _
   | refine LeO.ite ?_ ?_
   | refine LeO.bind ?_ (fun _ => ?_)
theorem laws_FnMsgForm.mono : ∀ a0 k, LeO (laws_FnMsgForm.f k a0) (laws_FnMsgForm.f (k + 1) a0) := by
 intro a0 k
 obtain ⟨ih0, ih1⟩ := laws_FnMsgForm.mono_l k
 unfold laws_FnMsgForm.f
 repeat' first
   | (with_reducible exact ih0 _ _ _ _ _ _ _)
   | (with_reducible exact ih1 _ _ _ _ _ _ _)
   | (with_reducible exact spec_DrawMsgOk.mono _ _)
   | (with_reducible exact LeO.refl _)
   | (with_reducible exact LeO.none _)
   | (with_reducible refine LeO.ite ?_ ?_)
   | (with_reducible refine LeO.bind ?_ (fun _ => ?_))
   | exact ih0 _ _ _ _ _ _ _
   | exact ih1 _ _ _ _ _ _ _
   | exact spec_DrawMsgOk.mono _ _
   | exact LeO.none _
   | refine LeO.ite ?_ ?_
   | refine LeO.bind ?_ (fun _ => ?_)
set_option maxHeartbeats 8000000 in
set_option maxRecDepth 100000 in
theorem laws_FnMsgForm.calls (k : Nat) (A0 : Option Addr) (c0 : Nat) (l0 : List Int) (r : Bool) (w : World) (hr0 : Kd.C (Kd.int .u8) w A0 l0.length l0) (hc0 : l0.length ≤ c0) (h : laws_FnMsgForm.f k l0 = some r) :
  Calls Try.prog 5 #[.slice A0 l0.length c0] w fun e w' => e = .returned (.bool r) ∧ Below w.heap.size w w' := by
 have hu36 := Try.underlying36
 have hu24 := Try.underlying24
 have HR0 := Aside0.mk hr0
 have HC0 := Aside0.mk hc0
 clear hr0 hc0
 have HB := Aside0.mk (Below.refl w.heap.size w)
 have H : (if (l0.length : Int) > 1048576 then (some true) else ((spec_DrawMsgOk.f k l0).bind fun bt360 => ((impl_MsgOk.f bt360.1 bt360.2.1 bt360.2.2.1 bt360.2.2.2.1 bt360.2.2.2.2).bind fun t368 => ((spec_MsgOk.f bt360.1 bt360.2.1 bt360.2.2.1 bt360.2.2.2.1 bt360.2.2.2.2).bind fun t369 => (if (t368 != t369) = true then (laws_FnMsgForm.j0 k t368 true bt360.1 bt360.2.1 bt360.2.2.1 bt360.2.2.2.1 bt360.2.2.2.2) else (laws_FnMsgForm.j0 k t368 (!t368) bt360.1 bt360.2.1 bt360.2.2.1 bt360.2.2.2.1 bt360.2.2.2.2)))))) = some r := h
 clear h
 by_cases c2 : (l0.length : Int) > 1048576
 ·rw [if_pos c2] at H
  have c2b0 : decide (1048576 < (l0.length : Int)) = true := decide_eq_true c2
  have c2b1 : decide (1048576 < l0.length) = true := decide_eq_true (by omega)
  clear c2
  obtain rfl := Option.some.inj H
  go_enter Try.func5, Try.ntmps5
  go_wp2
  go_ret
  exact ⟨by first | rfl | (simp [errW_none, errW_some] <;> rfl) | (simp [*, errW_none, errW_some] <;> rfl), by repeat (first | (with_reducible first | exact HB.out | apply below_alloc | apply pw_below_drewN | apply below_drew1) | exact HB.out)⟩
 ·rw [if_neg c2] at H
  have c2b0 : decide (1048576 < (l0.length : Int)) = false := decide_eq_false c2
  have c2b1 : decide (1048576 < l0.length) = false := decide_eq_false (by omega)
  clear c2
  replace H := Option.bind_eq_some_iff.mp H
  obtain ⟨⟨t360, t361, t362, t363, t364⟩, A30, H⟩ := H
  replace H : ((impl_MsgOk.f t360 t361 t362 t363 t364).bind fun t368 => ((spec_MsgOk.f t360 t361 t362 t363 t364).bind fun t369 => (if (t368 != t369) = true then (laws_FnMsgForm.j0 k t368 true t360 t361 t362 t363 t364) else (laws_FnMsgForm.j0 k t368 (!t368) t360 t361 t362 t363 t364)))) = some r := H
  have A3 := Aside0.mk A30
  clear A30
  replace H := Option.bind_eq_some_iff.mp H
  obtain ⟨t368, A40, H⟩ := H
  replace H : ((spec_MsgOk.f t360 t361 t362 t363 t364).bind fun t369 => (if (t368 != t369) = true then (laws_FnMsgForm.j0 k t368 true t360 t361 t362 t363 t364) else (laws_FnMsgForm.j0 k t368 (!t368) t360 t361 t362 t363 t364))) = some r := H
  have A4 := Aside0.mk A40
  clear A40
  have HC5 := Aside0.mk H
  clear H
  go_enter Try.func5, Try.ntmps5
  go_upto_region 5 with (first | ((with_reducible refine gate_callee (f := 31) rfl ?_); refine goesL_ (some 12) rfl rfl Try.func31 (by kernel_rfl) rfl #[.slice A0 l0.length c0] rfl z28x2 ?_; (with_reducible refine (spec_DrawMsgOk.calls k _ _ l0 t360 t361 t362 t363 t364 _ ?side1 ?side2 A3.out).mono ?_); (case side1 => repeat (first | exact HR0.out | (with_reducible refine Kd.C_alloc ?_ _) | (with_reducible refine Kd.C_drewN ?_ _) | (with_reducible refine Kd.C_drew ?_))); (case side2 => exact HC0.out); rintro e w6 ⟨v365, rfl, ho0, hb⟩; refine ⟨_, rfl, ?_⟩; have n0_ := Aside0.mk (Kd.R_lower ho0 (below_size z28x3)); have n1_ := Aside0.mk (below_step z28x3 hb); clear HB; have HO366 := n0_; have HB := n1_; clear n0_ n1_; (try clear hb); (try clear hb2); (try clear hk); (try clear hi); (try clear ho0)) | ((with_reducible refine gate_dst (N := 3) rfl ?_); refine box_event ?hg (N := 3) ?hd (cs := #[.int .i64 0, .int .i64 0, .int .i64 0, .int .i64 0, .slice none 0 0]) (t := 36) ?hr ?_; (case hd => rfl); (case hg => rfl); (case hr => first | (go_simp; done) | (go_simp; rfl)); intro gb367 hg w7 hbox hb; have n0_ := Aside0.mk (Kd.R_below z28x6 hb); have n1_ := Aside0.mk (below_step z28x3 hb); have n2_ := Aside0.mk (hbox); have n3_ := Aside0.mk ((by rw [hg]; exact (below_size z28x3) : w.heap.size ≤ gb367)); have n4_ := Aside0.mk ((by rw [hg]; exact (below_size z28x3) : w.heap.size ≤ gb367)); clear HO366; clear HB; have HO366 := n0_; have HB := n1_; have BK367 := n2_; have GW367 := n3_; have GE367 := n4_; clear n0_ n1_ n2_ n3_ n4_; clear hb hbox hg; have hcz8_0 : w7.cell? ⟨gb367, 0, none⟩ = some (.int .i64 0) := (blk_cell BK367.out 0).trans rfl; have hcz8_1 : w7.cell? ⟨gb367, 1, none⟩ = some (.int .i64 0) := (blk_cell BK367.out 1).trans rfl; have hcz8_2 : w7.cell? ⟨gb367, 2, none⟩ = some (.int .i64 0) := (blk_cell BK367.out 2).trans rfl; have hcz8_3 : w7.cell? ⟨gb367, 3, none⟩ = some (.int .i64 0) := (blk_cell BK367.out 3).trans rfl; have hcz8_4 : w7.cell? ⟨gb367, 4, none⟩ = some (.slice none 0 0) := (blk_cell BK367.out 4).trans rfl; have hfz8_0 := blk_frozen BK367.out 0; have hfz8_1 := blk_frozen BK367.out 1; have hfz8_2 := blk_frozen BK367.out 2; have hfz8_3 := blk_frozen BK367.out 3; have hfz8_4 := blk_frozen BK367.out 4; obtain ⟨Ao9, co9, eo9⟩ := Kd.R_slice HO366.out; subst eo9) | ((with_reducible refine gate_callee (f := 29) rfl ?_); refine goesL_ (some 14) rfl rfl Try.func29 (by kernel_rfl) rfl #[.agg #[.int .i64 t360, .int .i64 t361, .int .i64 t362, .int .i64 t363, .slice Ao9 t364.length co9]] rfl z28x2 ?_; (with_reducible refine (impl_MsgOk.calls t360 t361 t362 t363 _ _ t364 t368 _ ?side1 ?side2 A4.out).mono ?_); (case side1 => refine (Kd.R_reads' (e := 24) (base := w.heap.size) (ok := fun k_ => True) (n := t364.length) (c := co9) ?_).2.2; exact z28x0); (case side2 => exact (Kd.R_reads' HO366.out).2.1); rintro e w10 ⟨rfl, hb⟩; refine ⟨_, rfl, ?_⟩; have n0_ := Aside0.mk (Kd.R_below z28x0 hb); have n1_ := Aside0.mk (blk_below (g := gb367) (o := .cells #[.int .i64 t360, .int .i64 t361, .int .i64 t362, .int .i64 t363, .slice Ao9 t364.length co9] 36 (0, 0)) (by (with_reducible repeat (first | refine blk_drewN ?_ _ | refine blk_drew ?_ | refine blk_alloc ?_ _)); refine blk_put (cs := #[.int .i64 t360, .int .i64 t361, .int .i64 t362, .int .i64 t363, .slice none 0 0]) ?_ 4 _ rfl; (with_reducible repeat (first | refine blk_drewN ?_ _ | refine blk_drew ?_ | refine blk_alloc ?_ _)); refine blk_put (cs := #[.int .i64 t360, .int .i64 t361, .int .i64 t362, .int .i64 0, .slice none 0 0]) ?_ 3 _ rfl; (with_reducible repeat (first | refine blk_drewN ?_ _ | refine blk_drew ?_ | refine blk_alloc ?_ _)); refine blk_put (cs := #[.int .i64 t360, .int .i64 t361, .int .i64 0, .int .i64 0, .slice none 0 0]) ?_ 2 _ rfl; (with_reducible repeat (first | refine blk_drewN ?_ _ | refine blk_drew ?_ | refine blk_alloc ?_ _)); refine blk_put (cs := #[.int .i64 t360, .int .i64 0, .int .i64 0, .int .i64 0, .slice none 0 0]) ?_ 1 _ rfl; (with_reducible repeat (first | refine blk_drewN ?_ _ | refine blk_drew ?_ | refine blk_alloc ?_ _)); refine blk_put (cs := #[.int .i64 0, .int .i64 0, .int .i64 0, .int .i64 0, .slice none 0 0]) ?_ 0 _ rfl; (with_reducible repeat (first | refine blk_drewN ?_ _ | refine blk_drew ?_ | refine blk_alloc ?_ _)); exact BK367.out) hb); have n2_ := Aside0.mk (below_step z28x1 hb); clear HO366; clear BK367; clear HB; have HO366 := n0_; have BK367 := n1_; have HB := n2_; clear n0_ n1_ n2_; (try clear hb); (try clear hb2); (try clear hk); (try clear hi)))
  (try simp only [Act.put, List.setIfInBounds_toArray, List.set_cons_zero, List.set_cons_succ])
  go_cut [22] (fun v22 wc => ∃ (kq : Nat) (x22_4 : Bool), v22 = .bool x22_4 ∧ Aside0 (laws_FnMsgForm.j0 kq t368 x22_4 t360 t361 t362 t363 t364 = some r) ∧ Aside0 (kq ≤ k) ∧ Aside0 (Kd.R k24 24 wc w.heap.size (fun _ => True) (.slice Ao9 t364.length co9) t364) ∧ Aside0 (wc.heap[gb367]? = some (.cells #[.int .i64 t360, .int .i64 t361, .int .i64 t362, .int .i64 t363, (.slice Ao9 t364.length co9)] 36 (0, 0))) ∧ Aside0 (Below w.heap.size w wc))
  case first =>
   have H := HC5.out
   clear HC5
   replace H := Option.bind_eq_some_iff.mp H
   obtain ⟨t369, A110, H⟩ := H
   replace H : (if (t368 != t369) = true then (laws_FnMsgForm.j0 k t368 true t360 t361 t362 t363 t364) else (laws_FnMsgForm.j0 k t368 (!t368) t360 t361 t362 t363 t364)) = some r := H
   have A11 := Aside0.mk A110
   clear A110
   by_cases c12 : (t368 != t369) = true
   ·rw [if_pos c12] at H
    have c12b0 : (t368 != t369) = true := c12
    (try (have c12b1 : decide (t368 = t369) = false := by simpa using c12))
    (try (have c12b2 : (t368 == t369) = false := by simpa using c12))
    (try (have c12b3 : ¬ (t368 = t369) := by simpa using c12))
    clear c12
    (first | rw [c12b0] | (simp only [i64_w, i32_w]; rw [c12b0]) | skip)
    have H' := Aside0.mk H
    clear H
    have hcz13_0 : w10.cell? ⟨gb367, 0, none⟩ = some (.int .i64 t360) := (blk_cell BK367.out 0).trans rfl
    have hcz13_1 : w10.cell? ⟨gb367, 1, none⟩ = some (.int .i64 t361) := (blk_cell BK367.out 1).trans rfl
    have hcz13_2 : w10.cell? ⟨gb367, 2, none⟩ = some (.int .i64 t362) := (blk_cell BK367.out 2).trans rfl
    have hcz13_3 : w10.cell? ⟨gb367, 3, none⟩ = some (.int .i64 t363) := (blk_cell BK367.out 3).trans rfl
    have hcz13_4 : w10.cell? ⟨gb367, 4, none⟩ = some (.slice Ao9 t364.length co9) := (blk_cell BK367.out 4).trans rfl
    have hfz13_0 := blk_frozen BK367.out 0
    have hfz13_1 := blk_frozen BK367.out 1
    have hfz13_2 := blk_frozen BK367.out 2
    have hfz13_3 := blk_frozen BK367.out 3
    have hfz13_4 := blk_frozen BK367.out 4
    go_wp2_with (first | ((with_reducible refine gate_callee (f := 27) rfl ?_); refine goesL_ (some 17) rfl rfl Try.func27 (by kernel_rfl) rfl #[.agg #[.int .i64 t360, .int .i64 t361, .int .i64 t362, .int .i64 t363, .slice Ao9 t364.length co9]] rfl z28x2 ?_; (with_reducible refine (spec_MsgOk.calls t360 t361 t362 t363 _ _ t364 t369 _ ?side1 ?side2 A11.out).mono ?_); (case side1 => repeat (first | exact (Kd.R_reads' HO366.out).2.2 | (with_reducible refine Kd.C_alloc ?_ _) | (with_reducible refine Kd.C_drewN ?_ _) | (with_reducible refine Kd.C_drew ?_))); (case side2 => exact (Kd.R_reads' HO366.out).2.1); rintro e w14 ⟨rfl, hb⟩; refine ⟨_, rfl, ?_⟩; have n0_ := Aside0.mk (Kd.R_below z28x6 hb); have n1_ := Aside0.mk (blk_below (g := gb367) (o := .cells #[.int .i64 t360, .int .i64 t361, .int .i64 t362, .int .i64 t363, .slice Ao9 t364.length co9] 36 (0, 0)) z28x4 hb); have n2_ := Aside0.mk (below_step z28x1 hb); clear HO366; clear BK367; clear HB; have HO366 := n0_; have BK367 := n1_; have HB := n2_; clear n0_ n1_ n2_; (try clear hb); (try clear hb2); (try clear hk); (try clear hi)))
    go_meet
    case rel => exact ⟨_, (true), (by first | rfl | (simp; done) | (simp [*]; done)), H', ⟨by first | omega | exact Nat.le_refl _⟩, ⟨by (with_reducible repeat (first | apply Kd.R_alloc | apply Kd.R_drewN | apply Kd.R_drew)); exact HO366.out⟩, ⟨by (with_reducible repeat (first | refine blk_drewN ?_ _ | refine blk_drew ?_ | refine blk_alloc ?_ _)); exact BK367.out⟩, ⟨by repeat (first | (with_reducible first | exact HB.out | apply below_alloc | apply pw_below_drewN | apply below_drew1 | refine below_set ?_ GE367.out) | exact HB.out)⟩⟩
   ·rw [if_neg c12] at H
    have c12b0 : (t368 != t369) = false := by simpa using c12
    (try (have c12b1 : decide (t368 = t369) = true := by simpa using c12))
    (try (have c12b2 : (t368 == t369) = true := by simpa using c12))
    clear c12
    (first | rw [c12b0] | (simp only [i64_w, i32_w]; rw [c12b0]) | skip)
    have H' := Aside0.mk H
    clear H
    have hcz15_0 : w10.cell? ⟨gb367, 0, none⟩ = some (.int .i64 t360) := (blk_cell BK367.out 0).trans rfl
    have hcz15_1 : w10.cell? ⟨gb367, 1, none⟩ = some (.int .i64 t361) := (blk_cell BK367.out 1).trans rfl
    have hcz15_2 : w10.cell? ⟨gb367, 2, none⟩ = some (.int .i64 t362) := (blk_cell BK367.out 2).trans rfl
    have hcz15_3 : w10.cell? ⟨gb367, 3, none⟩ = some (.int .i64 t363) := (blk_cell BK367.out 3).trans rfl
    have hcz15_4 : w10.cell? ⟨gb367, 4, none⟩ = some (.slice Ao9 t364.length co9) := (blk_cell BK367.out 4).trans rfl
    have hfz15_0 := blk_frozen BK367.out 0
    have hfz15_1 := blk_frozen BK367.out 1
    have hfz15_2 := blk_frozen BK367.out 2
    have hfz15_3 := blk_frozen BK367.out 3
    have hfz15_4 := blk_frozen BK367.out 4
    go_wp2_with (first | ((with_reducible refine gate_callee (f := 27) rfl ?_); refine goesL_ (some 17) rfl rfl Try.func27 (by kernel_rfl) rfl #[.agg #[.int .i64 t360, .int .i64 t361, .int .i64 t362, .int .i64 t363, .slice Ao9 t364.length co9]] rfl z28x2 ?_; (with_reducible refine (spec_MsgOk.calls t360 t361 t362 t363 _ _ t364 t369 _ ?side1 ?side2 A11.out).mono ?_); (case side1 => repeat (first | exact (Kd.R_reads' HO366.out).2.2 | (with_reducible refine Kd.C_alloc ?_ _) | (with_reducible refine Kd.C_drewN ?_ _) | (with_reducible refine Kd.C_drew ?_))); (case side2 => exact (Kd.R_reads' HO366.out).2.1); rintro e w16 ⟨rfl, hb⟩; refine ⟨_, rfl, ?_⟩; have n0_ := Aside0.mk (Kd.R_below z28x6 hb); have n1_ := Aside0.mk (blk_below (g := gb367) (o := .cells #[.int .i64 t360, .int .i64 t361, .int .i64 t362, .int .i64 t363, .slice Ao9 t364.length co9] 36 (0, 0)) z28x4 hb); have n2_ := Aside0.mk (below_step z28x1 hb); clear HO366; clear BK367; clear HB; have HO366 := n0_; have BK367 := n1_; have HB := n2_; clear n0_ n1_ n2_; (try clear hb); (try clear hb2); (try clear hk); (try clear hi)))
    go_meet
    case rel => exact ⟨_, (!t368), (by first | rfl | (simp; done) | (simp [*]; done)), H', ⟨by first | omega | exact Nat.le_refl _⟩, ⟨by (with_reducible repeat (first | apply Kd.R_alloc | apply Kd.R_drewN | apply Kd.R_drew)); exact HO366.out⟩, ⟨by (with_reducible repeat (first | refine blk_drewN ?_ _ | refine blk_drew ?_ | refine blk_alloc ?_ _)); exact BK367.out⟩, ⟨by repeat (first | (with_reducible first | exact HB.out | apply below_alloc | apply pw_below_drewN | apply below_drew1 | refine below_set ?_ GE367.out) | exact HB.out)⟩⟩
  case rest =>
   clear HC5
   try clear c1
   try clear c2
   try clear c2b0
   try clear c2b1
   try clear p2
   try clear c3
   try clear c5
   try clear c12
   try clear c12b0
   try clear c12b1
   try clear c12b2
   try clear hcz13_0
   try clear hcz13_1
   try clear hcz13_2
   try clear hcz13_3
   try clear hcz13_4
   try clear hcz15_0
   try clear hcz15_1
   try clear hcz15_2
   try clear hcz15_3
   try clear hcz15_4
   try clear hcz8_0
   try clear hcz8_1
   try clear hcz8_2
   try clear hcz8_3
   try clear hcz8_4
   try clear hfz13_0
   try clear hfz13_1
   try clear hfz13_2
   try clear hfz13_3
   try clear hfz13_4
   try clear hfz15_0
   try clear hfz15_1
   try clear hfz15_2
   try clear hfz15_3
   try clear hfz15_4
   try clear hfz8_0
   try clear hfz8_1
   try clear hfz8_2
   try clear hfz8_3
   try clear hfz8_4
   obtain ⟨kq, x22_4, rfl, HA, HJ4, HO_368004, BK367, HB⟩ := hcut
   cases kq with
   | zero => exact absurd HA.out (by simp [laws_FnMsgForm.j0])
   | succ kj4 =>
    have H := HA.out
    clear HA
    simp only [laws_FnMsgForm.j0] at H
    by_cases c17 : x22_4 = true
    ·subst c17
     rw [if_pos rfl] at H
     replace H := Option.bind_eq_some_iff.mp H
     obtain ⟨t370, A180, H⟩ := H
     replace H : (some (t368 == t370)) = some r := H
     have A18 := Aside0.mk A180
     clear A180
     obtain rfl := Option.some.inj H
     have hcz19_0 : wc.cell? ⟨gb367, 0, none⟩ = some (.int .i64 t360) := (blk_cell BK367.out 0).trans rfl
     have hcz19_1 : wc.cell? ⟨gb367, 1, none⟩ = some (.int .i64 t361) := (blk_cell BK367.out 1).trans rfl
     have hcz19_2 : wc.cell? ⟨gb367, 2, none⟩ = some (.int .i64 t362) := (blk_cell BK367.out 2).trans rfl
     have hcz19_3 : wc.cell? ⟨gb367, 3, none⟩ = some (.int .i64 t363) := (blk_cell BK367.out 3).trans rfl
     have hcz19_4 : wc.cell? ⟨gb367, 4, none⟩ = some (.slice Ao9 t364.length co9) := (blk_cell BK367.out 4).trans rfl
     have hfz19_0 := blk_frozen BK367.out 0
     have hfz19_1 := blk_frozen BK367.out 1
     have hfz19_2 := blk_frozen BK367.out 2
     have hfz19_3 := blk_frozen BK367.out 3
     have hfz19_4 := blk_frozen BK367.out 4
     go_wp2_with (first | ((with_reducible refine gate_callee (f := 27) rfl ?_); refine goesL_ (some 25) rfl rfl Try.func27 (by kernel_rfl) rfl #[.agg #[.int .i64 t360, .int .i64 t361, .int .i64 t362, .int .i64 t363, .slice Ao9 t364.length co9]] rfl z28x2 ?_; (with_reducible refine (spec_MsgOk.calls t360 t361 t362 t363 _ _ t364 t370 _ ?side1 ?side2 A18.out).mono ?_); (case side1 => repeat (first | exact (Kd.R_reads' HO_368004.out).2.2 | (with_reducible refine Kd.C_alloc ?_ _) | (with_reducible refine Kd.C_drewN ?_ _) | (with_reducible refine Kd.C_drew ?_))); (case side2 => exact (Kd.R_reads' HO_368004.out).2.1); rintro e w20 ⟨rfl, hb⟩; refine ⟨_, rfl, ?_⟩; have n0_ := Aside0.mk (Kd.R_below z28x5 hb); have n1_ := Aside0.mk (blk_below (g := gb367) (o := .cells #[.int .i64 t360, .int .i64 t361, .int .i64 t362, .int .i64 t363, .slice Ao9 t364.length co9] 36 (0, 0)) z28x4 hb); have n2_ := Aside0.mk (below_step z28x1 hb); clear HO_368004; clear BK367; clear HB; have HO_368004 := n0_; have BK367 := n1_; have HB := n2_; clear n0_ n1_ n2_; (try clear hb); (try clear hb2); (try clear hk); (try clear hi)))
     go_ret
     exact ⟨by first | rfl | (simp [errW_none, errW_some] <;> rfl) | (simp [*, errW_none, errW_some] <;> rfl), by repeat (first | (with_reducible first | exact HB.out | apply below_alloc | apply pw_below_drewN | apply below_drew1 | refine below_set ?_ GE367.out) | exact HB.out)⟩
    ·replace c17 := Bool.eq_false_iff.mpr c17
     subst c17
     rw [if_neg (show ¬ (false = true) by decide)] at H
     obtain ⟨y371, hy371⟩ : ∃ y_ : List Int, y_ = (([0, 0, 2, 2, 2, 2, 1] : List Int)) := ⟨_, rfl⟩
     replace H : (if 0 ≤ t360 then (if t360 < (y371.length : Int) then (laws_FnMsgForm.l0 kj4 (rd y371 t360) 0 t360 t361 t362 t363 t364) else (none)) else (none)) = some r := by first | (rw [hy371]; with_reducible exact H) | (have H2_ := (Option.bind_some _ _).symm.trans H; rw [hy371]; with_reducible exact H2_) | (have H2_ := (Option.bind_some _ _).symm.trans H; with_reducible exact H2_) | with_reducible exact H | (rw [hy371]; exact H) | exact H
     have Ny371 := Aside0.mk hy371
     clear hy371
     by_cases c21 : 0 ≤ t360
     ·rw [if_pos c21] at H
      have c21b0 : decide (0 ≤ t360) = true := decide_eq_true c21
      clear c21
      by_cases c22 : t360 < (y371.length : Int)
      ·rw [if_pos c22] at H
       have c22b0 : decide (t360 < (y371.length : Int)) = true := decide_eq_true c22
       clear c22
       have H' := Aside0.mk H
       clear H
       go_wp2_with (first | ((with_reducible refine gate_dst (N := 27) rfl ?_); refine Kd.R_lit (Kd.int .i64) _ 3 ?hg (N := 27) ?hd (xs := ([0, 0, 2, 2, 2, 2, 1] : List Int)) (inner := [.int .i64 0, .int .i64 0, .int .i64 2, .int .i64 2, .int .i64 2, .int .i64 2, .int .i64 1]) (ok := fun _ => True) (okp := fun _ => True) ?hr ?hp (fun _ hk => hk) trivial (Below.refl _ _) (Nat.le_refl _) (by simp) ?_; (case hd => rfl); (case hg => rfl); (case hr => first | (go_simp; done) | (go_simp; rfl)); (case hp => exact (Reps.one (show Kd.M (Kd.int .i64) _ _ _ 0 [.int .i64 0] from rfl) (Reps.one (show Kd.M (Kd.int .i64) _ _ _ 0 [.int .i64 0] from rfl) (Reps.one (show Kd.M (Kd.int .i64) _ _ _ 2 [.int .i64 2] from rfl) (Reps.one (show Kd.M (Kd.int .i64) _ _ _ 2 [.int .i64 2] from rfl) (Reps.one (show Kd.M (Kd.int .i64) _ _ _ 2 [.int .i64 2] from rfl) (Reps.one (show Kd.M (Kd.int .i64) _ _ _ 2 [.int .i64 2] from rfl) (Reps.one (show Kd.M (Kd.int .i64) _ _ _ 1 [.int .i64 1] from rfl) (Reps.none _ _))))))))); intro v372 w23 ho24 hb hg_ hnew_; clear hg_ hnew_; (first | rw [← Ny371.out] at ho24 | (simp only [Int.reduceToNat] at ho24; rw [← Ny371.out] at ho24)); have n0_ := Aside0.mk (Kd.R_below z28x5 hb); have n1_ := Aside0.mk (Kd.R_lower ho24 (below_size z28x1)); have n2_ := Aside0.mk (blk_below (g := gb367) (o := .cells #[.int .i64 t360, .int .i64 t361, .int .i64 t362, .int .i64 t363, .slice Ao9 t364.length co9] 36 (0, 0)) z28x4 hb); have n3_ := Aside0.mk (below_step z28x1 hb); clear HO_368004; clear BK367; clear HB; have HO_368004 := n0_; have HO373 := n1_; have BK367 := n2_; have HB := n3_; clear n0_ n1_ n2_ n3_; clear hb ho24; have hcz25_0 : w23.cell? ⟨gb367, 0, none⟩ = some (.int .i64 t360) := (blk_cell BK367.out 0).trans rfl; have hcz25_1 : w23.cell? ⟨gb367, 1, none⟩ = some (.int .i64 t361) := (blk_cell BK367.out 1).trans rfl; have hcz25_2 : w23.cell? ⟨gb367, 2, none⟩ = some (.int .i64 t362) := (blk_cell BK367.out 2).trans rfl; have hcz25_3 : w23.cell? ⟨gb367, 3, none⟩ = some (.int .i64 t363) := (blk_cell BK367.out 3).trans rfl; have hcz25_4 : w23.cell? ⟨gb367, 4, none⟩ = some (.slice Ao9 t364.length co9) := (blk_cell BK367.out 4).trans rfl; have hfz25_0 := blk_frozen BK367.out 0; have hfz25_1 := blk_frozen BK367.out 1; have hfz25_2 := blk_frozen BK367.out 2; have hfz25_3 := blk_frozen BK367.out 3; have hfz25_4 := blk_frozen BK367.out 4; obtain ⟨Ao26, co26, eo26⟩ := Kd.R_slice HO373.out; subst eo26; have p374 : 0 ≤ (t360 : Int) := of_decide_eq_true (by first | (with_reducible assumption) | assumption); have q374 : t360 < (y371.length : Int) := of_decide_eq_true (by first | (with_reducible assumption) | assumption); obtain ⟨ad374, e374, hx374_0⟩ := Kd.at_int (Kd.R_reads' HO373.out).2.2 t360 p374 q374; cases e374; replace p374 := eq_true p374; replace q374 := eq_true q374))
       go_loopg [6] kj4 (fun kq v6 w' => ∃ (x6_2 : Int), v6 = .int .i64 x6_2 ∧ Aside0 (laws_FnMsgForm.l0 kq (rd y371 t360) x6_2 t360 t361 t362 t363 t364 = some r) ∧ Aside0 (kq ≤ kj4) ∧ Aside0 (Kd.R k24 24 w' w.heap.size (fun _ => True) (.slice Ao9 t364.length co9) t364) ∧ Aside0 (w'.heap[gb367]? = some (.cells #[.int .i64 t360, .int .i64 t361, .int .i64 t362, .int .i64 t363, (.slice Ao9 t364.length co9)] 36 (0, 0))) ∧ Aside0 (Below w.heap.size w w'))
       case atStart => exact ⟨(0), (by first | rfl | (simp; done) | (simp [*]; done)), H', ⟨Nat.le_refl _⟩, ⟨by (with_reducible repeat (first | apply Kd.R_alloc | apply Kd.R_drewN | apply Kd.R_drew)); exact HO_368004.out⟩, ⟨by (with_reducible repeat (first | refine blk_drewN ?_ _ | refine blk_drew ?_ | refine blk_alloc ?_ _)); exact BK367.out⟩, ⟨by repeat (first | (with_reducible first | exact HB.out | apply below_alloc | apply pw_below_drewN | apply below_drew1 | refine below_set ?_ GE367.out) | exact HB.out)⟩⟩
       case round =>
        clear H'
        try clear c1
        try clear c2
        try clear c2b0
        try clear c2b1
        try clear p2
        try clear c3
        try clear p3
        try clear q3
        try clear hx3
        try clear c5
        try clear c12
        try clear c12b0
        try clear c12b1
        try clear c12b2
        try clear c17
        try clear c21
        try clear c21b0
        try clear c22
        try clear c22b0
        try clear hcz13_0
        try clear hcz13_1
        try clear hcz13_2
        try clear hcz13_3
        try clear hcz13_4
        try clear hcz15_0
        try clear hcz15_1
        try clear hcz15_2
        try clear hcz15_3
        try clear hcz15_4
        try clear hcz19_0
        try clear hcz19_1
        try clear hcz19_2
        try clear hcz19_3
        try clear hcz19_4
        try clear hcz25_0
        try clear hcz25_1
        try clear hcz25_2
        try clear hcz25_3
        try clear hcz25_4
        try clear hcz8_0
        try clear hcz8_1
        try clear hcz8_2
        try clear hcz8_3
        try clear hcz8_4
        try clear hfz13_0
        try clear hfz13_1
        try clear hfz13_2
        try clear hfz13_3
        try clear hfz13_4
        try clear hfz15_0
        try clear hfz15_1
        try clear hfz15_2
        try clear hfz15_3
        try clear hfz15_4
        try clear hfz19_0
        try clear hfz19_1
        try clear hfz19_2
        try clear hfz19_3
        try clear hfz19_4
        try clear hfz25_0
        try clear hfz25_1
        try clear hfz25_2
        try clear hfz25_3
        try clear hfz25_4
        try clear hfz8_0
        try clear hfz8_1
        try clear hfz8_2
        try clear hfz8_3
        try clear hfz8_4
        try clear hx374_0
        try clear p2
        try clear p374
        try clear q374
        obtain ⟨x6_2, rfl, HA, HK2, HO_368004, BK367, HB⟩ := hrel
        cases gk with
        | zero => exact absurd HA.out (by simp [laws_FnMsgForm.l0])
        | succ k2 =>
         have H := HA.out
         clear HA
         simp only [laws_FnMsgForm.l0] at H
         by_cases c27 : x6_2 < (t364.length : Int)
         ·rw [if_pos c27] at H
          have c27b0 : decide (x6_2 < (t364.length : Int)) = true := decide_eq_true c27
          clear c27
          by_cases c28 : 0 ≤ x6_2
          ·rw [if_pos c28] at H
           have c28b0 : decide (0 ≤ x6_2) = true := decide_eq_true c28
           clear c28
           replace H := Option.bind_eq_some_iff.mp H
           obtain ⟨t376, A290, H⟩ := H
           replace H : (if t376 = true then (laws_FnMsgForm.l0 k2 (rd y371 t360) (wrap64 (x6_2 + 1)) t360 t361 t362 t363 t364) else (some false)) = some r := H
           have A29 := Aside0.mk A290
           clear A290
           by_cases c30 : t376 = true
           ·subst c30
            rw [if_pos rfl] at H
            have H' := Aside0.mk H
            clear H
            have hcz31_0 : wr.cell? ⟨gb367, 0, none⟩ = some (.int .i64 t360) := (blk_cell BK367.out 0).trans rfl
            have hcz31_1 : wr.cell? ⟨gb367, 1, none⟩ = some (.int .i64 t361) := (blk_cell BK367.out 1).trans rfl
            have hcz31_2 : wr.cell? ⟨gb367, 2, none⟩ = some (.int .i64 t362) := (blk_cell BK367.out 2).trans rfl
            have hcz31_3 : wr.cell? ⟨gb367, 3, none⟩ = some (.int .i64 t363) := (blk_cell BK367.out 3).trans rfl
            have hcz31_4 : wr.cell? ⟨gb367, 4, none⟩ = some (.slice Ao9 t364.length co9) := (blk_cell BK367.out 4).trans rfl
            have hfz31_0 := blk_frozen BK367.out 0
            have hfz31_1 := blk_frozen BK367.out 1
            have hfz31_2 := blk_frozen BK367.out 2
            have hfz31_3 := blk_frozen BK367.out 3
            have hfz31_4 := blk_frozen BK367.out 4
            have p375 : 0 ≤ (x6_2 : Int) := of_decide_eq_true (by first | (with_reducible assumption) | assumption)
            have q375 : x6_2 < (t364.length : Int) := of_decide_eq_true (by first | (with_reducible assumption) | assumption)
            obtain ⟨ad375, e375, hx375_0, hx375_1, hx375_2, hx375_3, hx375_4, hx375_5, hx375_6⟩ := at_T24 (Kd.R_reads' HO_368004.out).2.2 x6_2 p375 q375
            cases e375
            replace p375 := eq_true p375
            replace q375 := eq_true q375
            go_wp2_with (first | ((with_reducible refine gate_callee (f := 25) rfl ?_); refine goesL_ (some 44) rfl rfl Try.func25 (by kernel_rfl) rfl #[.agg #[.int .i64 ((rd_T24 t364 x6_2).f0), .int .i64 ((rd_T24 t364 x6_2).f1), .int .i64 ((rd_T24 t364 x6_2).f2), .int .i64 ((rd_T24 t364 x6_2).f3), .int .i64 ((rd_T24 t364 x6_2).f4), .int .i64 ((rd_T24 t364 x6_2).f5), .int .i64 ((rd_T24 t364 x6_2).f6)]] rfl z28x2 ?_; (with_reducible refine (impl_SealOk.calls ((rd_T24 t364 x6_2).f0) ((rd_T24 t364 x6_2).f1) ((rd_T24 t364 x6_2).f2) ((rd_T24 t364 x6_2).f3) ((rd_T24 t364 x6_2).f4) ((rd_T24 t364 x6_2).f5) ((rd_T24 t364 x6_2).f6) true _ A29.out).mono ?_); rintro e w32 ⟨rfl, hb⟩; refine ⟨_, rfl, ?_⟩; have n0_ := Aside0.mk (Kd.R_below z28x5 hb); have n1_ := Aside0.mk (blk_below (g := gb367) (o := .cells #[.int .i64 t360, .int .i64 t361, .int .i64 t362, .int .i64 t363, .slice (some ad375) t364.length co9] 36 (0, 0)) z28x4 hb); have n2_ := Aside0.mk (below_step z28x1 hb); clear HO_368004; clear BK367; clear HB; have HO_368004 := n0_; have BK367 := n1_; have HB := n2_; clear n0_ n1_ n2_; (try clear hb); (try clear hb2); (try clear hk); (try clear hi)))
            go_roundg k2
            case measure => have := HJ4.out; have := HK2.out; omega
            case rel => exact ⟨(wrap64 (x6_2 + 1)), (by first | rfl | (simp; done) | (simp [*]; done)), H', ⟨by have := HJ4.out; have := HK2.out; omega⟩, ⟨by (with_reducible repeat (first | apply Kd.R_alloc | apply Kd.R_drewN | apply Kd.R_drew)); exact HO_368004.out⟩, ⟨by (with_reducible repeat (first | refine blk_drewN ?_ _ | refine blk_drew ?_ | refine blk_alloc ?_ _)); exact BK367.out⟩, ⟨by repeat (first | (with_reducible first | exact HB.out | apply below_alloc | apply pw_below_drewN | apply below_drew1 | refine below_set ?_ GE367.out) | exact HB.out)⟩⟩
           ·replace c30 := Bool.eq_false_iff.mpr c30
            subst c30
            rw [if_neg (show ¬ (false = true) by decide)] at H
            obtain rfl := Option.some.inj H
            have hcz33_0 : wr.cell? ⟨gb367, 0, none⟩ = some (.int .i64 t360) := (blk_cell BK367.out 0).trans rfl
            have hcz33_1 : wr.cell? ⟨gb367, 1, none⟩ = some (.int .i64 t361) := (blk_cell BK367.out 1).trans rfl
            have hcz33_2 : wr.cell? ⟨gb367, 2, none⟩ = some (.int .i64 t362) := (blk_cell BK367.out 2).trans rfl
            have hcz33_3 : wr.cell? ⟨gb367, 3, none⟩ = some (.int .i64 t363) := (blk_cell BK367.out 3).trans rfl
            have hcz33_4 : wr.cell? ⟨gb367, 4, none⟩ = some (.slice Ao9 t364.length co9) := (blk_cell BK367.out 4).trans rfl
            have hfz33_0 := blk_frozen BK367.out 0
            have hfz33_1 := blk_frozen BK367.out 1
            have hfz33_2 := blk_frozen BK367.out 2
            have hfz33_3 := blk_frozen BK367.out 3
            have hfz33_4 := blk_frozen BK367.out 4
            have p375 : 0 ≤ (x6_2 : Int) := of_decide_eq_true (by first | (with_reducible assumption) | assumption)
            have q375 : x6_2 < (t364.length : Int) := of_decide_eq_true (by first | (with_reducible assumption) | assumption)
            obtain ⟨ad375, e375, hx375_0, hx375_1, hx375_2, hx375_3, hx375_4, hx375_5, hx375_6⟩ := at_T24 (Kd.R_reads' HO_368004.out).2.2 x6_2 p375 q375
            cases e375
            replace p375 := eq_true p375
            replace q375 := eq_true q375
            go_wp2_with (first | ((with_reducible refine gate_callee (f := 25) rfl ?_); refine goesL_ (some 44) rfl rfl Try.func25 (by kernel_rfl) rfl #[.agg #[.int .i64 ((rd_T24 t364 x6_2).f0), .int .i64 ((rd_T24 t364 x6_2).f1), .int .i64 ((rd_T24 t364 x6_2).f2), .int .i64 ((rd_T24 t364 x6_2).f3), .int .i64 ((rd_T24 t364 x6_2).f4), .int .i64 ((rd_T24 t364 x6_2).f5), .int .i64 ((rd_T24 t364 x6_2).f6)]] rfl z28x2 ?_; (with_reducible refine (impl_SealOk.calls ((rd_T24 t364 x6_2).f0) ((rd_T24 t364 x6_2).f1) ((rd_T24 t364 x6_2).f2) ((rd_T24 t364 x6_2).f3) ((rd_T24 t364 x6_2).f4) ((rd_T24 t364 x6_2).f5) ((rd_T24 t364 x6_2).f6) false _ A29.out).mono ?_); rintro e w34 ⟨rfl, hb⟩; refine ⟨_, rfl, ?_⟩; have n0_ := Aside0.mk (Kd.R_below z28x5 hb); have n1_ := Aside0.mk (blk_below (g := gb367) (o := .cells #[.int .i64 t360, .int .i64 t361, .int .i64 t362, .int .i64 t363, .slice (some ad375) t364.length co9] 36 (0, 0)) z28x4 hb); have n2_ := Aside0.mk (below_step z28x1 hb); clear HO_368004; clear BK367; clear HB; have HO_368004 := n0_; have BK367 := n1_; have HB := n2_; clear n0_ n1_ n2_; (try clear hb); (try clear hb2); (try clear hk); (try clear hi)))
            go_ret
            exact ⟨by first | rfl | (simp [errW_none, errW_some] <;> rfl) | (simp [*, errW_none, errW_some] <;> rfl), by repeat (first | (with_reducible first | exact HB.out | apply below_alloc | apply pw_below_drewN | apply below_drew1 | refine below_set ?_ GE367.out) | exact HB.out)⟩
          ·rw [if_neg c28] at H
           exact absurd H (by simp)
         ·rw [if_neg c27] at H
          have c27b0 : decide (x6_2 < (t364.length : Int)) = false := decide_eq_false c27
          clear c27
          by_cases c35 : t360 = 1
          ·rw [if_pos c35] at H
           have c35b0 : (t360 == 1) = true := beq_iff_eq.mpr c35
           have c35b1 : (t360 != 1) = false := bne_eq_false_iff_eq.mpr c35
           clear c35
           by_cases c36 : ((t361 == 0) != (t362 == 0)) = true
           ·rw [if_pos c36] at H
            have c36b0 : ((t361 == 0) != (t362 == 0)) = true := c36
            (try (have c36b1 : decide ((t361 == 0) = (t362 == 0)) = false := by simpa using c36))
            (try (have c36b2 : ((t361 == 0) == (t362 == 0)) = false := by simpa using c36))
            (try (have c36b3 : ¬ ((t361 == 0) = (t362 == 0)) := by simpa using c36))
            clear c36
            by_cases c37 : ((t363 != 0) == true) = true
            ·rw [if_pos c37] at H
             have c37b0 : ((t363 != 0) == true) = true := c37
             (try (have c37b1 : decide ((t363 != 0) = true) = true := by simpa using c37))
             (try (have c37b2 : ((t363 != 0) == true) = true := by simpa using c37))
             clear c37
             obtain rfl := Option.some.inj H
             have hcz38_0 : wr.cell? ⟨gb367, 0, none⟩ = some (.int .i64 t360) := (blk_cell BK367.out 0).trans rfl
             have hcz38_1 : wr.cell? ⟨gb367, 1, none⟩ = some (.int .i64 t361) := (blk_cell BK367.out 1).trans rfl
             have hcz38_2 : wr.cell? ⟨gb367, 2, none⟩ = some (.int .i64 t362) := (blk_cell BK367.out 2).trans rfl
             have hcz38_3 : wr.cell? ⟨gb367, 3, none⟩ = some (.int .i64 t363) := (blk_cell BK367.out 3).trans rfl
             have hcz38_4 : wr.cell? ⟨gb367, 4, none⟩ = some (.slice Ao9 t364.length co9) := (blk_cell BK367.out 4).trans rfl
             have hfz38_0 := blk_frozen BK367.out 0
             have hfz38_1 := blk_frozen BK367.out 1
             have hfz38_2 := blk_frozen BK367.out 2
             have hfz38_3 := blk_frozen BK367.out 3
             have hfz38_4 := blk_frozen BK367.out 4
             go_wp2
             go_ret
             exact ⟨by first | rfl | (simp [errW_none, errW_some] <;> rfl) | (simp [*, errW_none, errW_some] <;> rfl), by repeat (first | (with_reducible first | exact HB.out | apply below_alloc | apply pw_below_drewN | apply below_drew1 | refine below_set ?_ GE367.out) | exact HB.out)⟩
            ·rw [if_neg c37] at H
             have c37b0 : ((t363 != 0) == true) = false := by simpa using c37
             (try (have c37b1 : decide ((t363 != 0) = true) = false := by simpa using c37))
             (try (have c37b2 : ((t363 != 0) == true) = false := by simpa using c37))
             (try (have c37b3 : ¬ ((t363 != 0) = true) := by simpa using c37))
             clear c37
             obtain rfl := Option.some.inj H
             have hcz39_0 : wr.cell? ⟨gb367, 0, none⟩ = some (.int .i64 t360) := (blk_cell BK367.out 0).trans rfl
             have hcz39_1 : wr.cell? ⟨gb367, 1, none⟩ = some (.int .i64 t361) := (blk_cell BK367.out 1).trans rfl
             have hcz39_2 : wr.cell? ⟨gb367, 2, none⟩ = some (.int .i64 t362) := (blk_cell BK367.out 2).trans rfl
             have hcz39_3 : wr.cell? ⟨gb367, 3, none⟩ = some (.int .i64 t363) := (blk_cell BK367.out 3).trans rfl
             have hcz39_4 : wr.cell? ⟨gb367, 4, none⟩ = some (.slice Ao9 t364.length co9) := (blk_cell BK367.out 4).trans rfl
             have hfz39_0 := blk_frozen BK367.out 0
             have hfz39_1 := blk_frozen BK367.out 1
             have hfz39_2 := blk_frozen BK367.out 2
             have hfz39_3 := blk_frozen BK367.out 3
             have hfz39_4 := blk_frozen BK367.out 4
             go_wp2
             go_ret
             exact ⟨by first | rfl | (simp [errW_none, errW_some] <;> rfl) | (simp [*, errW_none, errW_some] <;> rfl), by repeat (first | (with_reducible first | exact HB.out | apply below_alloc | apply pw_below_drewN | apply below_drew1 | refine below_set ?_ GE367.out) | exact HB.out)⟩
           ·rw [if_neg c36] at H
            have c36b0 : ((t361 == 0) != (t362 == 0)) = false := by simpa using c36
            (try (have c36b1 : decide ((t361 == 0) = (t362 == 0)) = true := by simpa using c36))
            (try (have c36b2 : ((t361 == 0) == (t362 == 0)) = true := by simpa using c36))
            clear c36
            obtain rfl := Option.some.inj H
            have hcz40_0 : wr.cell? ⟨gb367, 0, none⟩ = some (.int .i64 t360) := (blk_cell BK367.out 0).trans rfl
            have hcz40_1 : wr.cell? ⟨gb367, 1, none⟩ = some (.int .i64 t361) := (blk_cell BK367.out 1).trans rfl
            have hcz40_2 : wr.cell? ⟨gb367, 2, none⟩ = some (.int .i64 t362) := (blk_cell BK367.out 2).trans rfl
            have hcz40_3 : wr.cell? ⟨gb367, 3, none⟩ = some (.int .i64 t363) := (blk_cell BK367.out 3).trans rfl
            have hcz40_4 : wr.cell? ⟨gb367, 4, none⟩ = some (.slice Ao9 t364.length co9) := (blk_cell BK367.out 4).trans rfl
            have hfz40_0 := blk_frozen BK367.out 0
            have hfz40_1 := blk_frozen BK367.out 1
            have hfz40_2 := blk_frozen BK367.out 2
            have hfz40_3 := blk_frozen BK367.out 3
            have hfz40_4 := blk_frozen BK367.out 4
            go_wp2
            go_ret
            exact ⟨by first | rfl | (simp [errW_none, errW_some] <;> rfl) | (simp [*, errW_none, errW_some] <;> rfl), by repeat (first | (with_reducible first | exact HB.out | apply below_alloc | apply pw_below_drewN | apply below_drew1 | refine below_set ?_ GE367.out) | exact HB.out)⟩
          ·rw [if_neg c35] at H
           have c35b0 : (t360 == 1) = false := beq_eq_false_iff_ne.mpr c35
           have c35b1 : (t360 != 1) = true := bne_iff_ne.mpr c35
           by_cases c41 : ((t361 == 0) != (t362 == 0)) = true
           ·rw [if_pos c41] at H
            have c41b0 : ((t361 == 0) != (t362 == 0)) = true := c41
            (try (have c41b1 : decide ((t361 == 0) = (t362 == 0)) = false := by simpa using c41))
            (try (have c41b2 : ((t361 == 0) == (t362 == 0)) = false := by simpa using c41))
            (try (have c41b3 : ¬ ((t361 == 0) = (t362 == 0)) := by simpa using c41))
            clear c41
            by_cases c42 : ((t363 != 0) == (t360 == 3)) = true
            ·rw [if_pos c42] at H
             have c42b0 : ((t363 != 0) == (t360 == 3)) = true := c42
             (try (have c42b1 : decide ((t363 != 0) = (t360 == 3)) = true := by simpa using c42))
             (try (have c42b2 : ((t363 != 0) == (t360 == 3)) = true := by simpa using c42))
             clear c42
             obtain rfl := Option.some.inj H
             have hcz43_0 : wr.cell? ⟨gb367, 0, none⟩ = some (.int .i64 t360) := (blk_cell BK367.out 0).trans rfl
             have hcz43_1 : wr.cell? ⟨gb367, 1, none⟩ = some (.int .i64 t361) := (blk_cell BK367.out 1).trans rfl
             have hcz43_2 : wr.cell? ⟨gb367, 2, none⟩ = some (.int .i64 t362) := (blk_cell BK367.out 2).trans rfl
             have hcz43_3 : wr.cell? ⟨gb367, 3, none⟩ = some (.int .i64 t363) := (blk_cell BK367.out 3).trans rfl
             have hcz43_4 : wr.cell? ⟨gb367, 4, none⟩ = some (.slice Ao9 t364.length co9) := (blk_cell BK367.out 4).trans rfl
             have hfz43_0 := blk_frozen BK367.out 0
             have hfz43_1 := blk_frozen BK367.out 1
             have hfz43_2 := blk_frozen BK367.out 2
             have hfz43_3 := blk_frozen BK367.out 3
             have hfz43_4 := blk_frozen BK367.out 4
             go_wp2
             go_ret
             exact ⟨by first | rfl | (simp [errW_none, errW_some] <;> rfl) | (simp [*, errW_none, errW_some] <;> rfl), by repeat (first | (with_reducible first | exact HB.out | apply below_alloc | apply pw_below_drewN | apply below_drew1 | refine below_set ?_ GE367.out) | exact HB.out)⟩
            ·rw [if_neg c42] at H
             have c42b0 : ((t363 != 0) == (t360 == 3)) = false := by simpa using c42
             (try (have c42b1 : decide ((t363 != 0) = (t360 == 3)) = false := by simpa using c42))
             (try (have c42b2 : ((t363 != 0) == (t360 == 3)) = false := by simpa using c42))
             (try (have c42b3 : ¬ ((t363 != 0) = (t360 == 3)) := by simpa using c42))
             clear c42
             obtain rfl := Option.some.inj H
             have hcz44_0 : wr.cell? ⟨gb367, 0, none⟩ = some (.int .i64 t360) := (blk_cell BK367.out 0).trans rfl
             have hcz44_1 : wr.cell? ⟨gb367, 1, none⟩ = some (.int .i64 t361) := (blk_cell BK367.out 1).trans rfl
             have hcz44_2 : wr.cell? ⟨gb367, 2, none⟩ = some (.int .i64 t362) := (blk_cell BK367.out 2).trans rfl
             have hcz44_3 : wr.cell? ⟨gb367, 3, none⟩ = some (.int .i64 t363) := (blk_cell BK367.out 3).trans rfl
             have hcz44_4 : wr.cell? ⟨gb367, 4, none⟩ = some (.slice Ao9 t364.length co9) := (blk_cell BK367.out 4).trans rfl
             have hfz44_0 := blk_frozen BK367.out 0
             have hfz44_1 := blk_frozen BK367.out 1
             have hfz44_2 := blk_frozen BK367.out 2
             have hfz44_3 := blk_frozen BK367.out 3
             have hfz44_4 := blk_frozen BK367.out 4
             go_wp2
             go_ret
             exact ⟨by first | rfl | (simp [errW_none, errW_some] <;> rfl) | (simp [*, errW_none, errW_some] <;> rfl), by repeat (first | (with_reducible first | exact HB.out | apply below_alloc | apply pw_below_drewN | apply below_drew1 | refine below_set ?_ GE367.out) | exact HB.out)⟩
           ·rw [if_neg c41] at H
            have c41b0 : ((t361 == 0) != (t362 == 0)) = false := by simpa using c41
            (try (have c41b1 : decide ((t361 == 0) = (t362 == 0)) = true := by simpa using c41))
            (try (have c41b2 : ((t361 == 0) == (t362 == 0)) = true := by simpa using c41))
            clear c41
            obtain rfl := Option.some.inj H
            have hcz45_0 : wr.cell? ⟨gb367, 0, none⟩ = some (.int .i64 t360) := (blk_cell BK367.out 0).trans rfl
            have hcz45_1 : wr.cell? ⟨gb367, 1, none⟩ = some (.int .i64 t361) := (blk_cell BK367.out 1).trans rfl
            have hcz45_2 : wr.cell? ⟨gb367, 2, none⟩ = some (.int .i64 t362) := (blk_cell BK367.out 2).trans rfl
            have hcz45_3 : wr.cell? ⟨gb367, 3, none⟩ = some (.int .i64 t363) := (blk_cell BK367.out 3).trans rfl
            have hcz45_4 : wr.cell? ⟨gb367, 4, none⟩ = some (.slice Ao9 t364.length co9) := (blk_cell BK367.out 4).trans rfl
            have hfz45_0 := blk_frozen BK367.out 0
            have hfz45_1 := blk_frozen BK367.out 1
            have hfz45_2 := blk_frozen BK367.out 2
            have hfz45_3 := blk_frozen BK367.out 3
            have hfz45_4 := blk_frozen BK367.out 4
            go_wp2
            go_ret
            exact ⟨by first | rfl | (simp [errW_none, errW_some] <;> rfl) | (simp [*, errW_none, errW_some] <;> rfl), by repeat (first | (with_reducible first | exact HB.out | apply below_alloc | apply pw_below_drewN | apply below_drew1 | refine below_set ?_ GE367.out) | exact HB.out)⟩
      ·rw [if_neg c22] at H
       exact absurd H (by simp)
     ·rw [if_neg c21] at H
      exact absurd H (by simp)

/-- THE ONE PURE STATEMENT of laws_FnMsgForm: yours. -/
def laws_FnMsgForm.Pure : Prop := ∀ (l0 : List Int), l0.length ≤ maxLen → l0.length * 1 ≤ 140737488351232 → (∀ x ∈ l0, (Lit.int .u8 x).wf = true) → ∃ k, laws_FnMsgForm.f k l0 = some true
theorem laws_FnMsgForm.walk (P : laws_FnMsgForm.Pure) (a0 : Option Addr) (len0 cap0 : Nat) (z0 : List Int) (w : World) (w0 : (a0 = none ∧ len0 = 0 ∧ cap0 = 0 ∧ z0 = []) ∨ ∃ x, a0 = some x ∧ len0 ≤ cap0 ∧ cap0 ≤ maxLen ∧ z0.length = cap0 ∧ (∀ i, i < z0.length → w.cell? (x.add i) = some (.int .u8 (z0.getD i 0))) ∧ ∀ n ∈ z0, (Lit.int .u8 n).wf = true) (y0 : len0 * 1 ≤ 140737488351232) :
  Calls Try.prog 5 #[.slice a0 len0 cap0] w fun e w' => e = .returned (.bool true) ∧ Below w.heap.size w w' := by
 obtain ⟨l0, rfl, hr0, hm0, hw0, hc0⟩ := ReadsInt.ofRowC w0
 obtain ⟨k, h⟩ := P l0 hm0 y0 hw0
 refine (laws_FnMsgForm.calls k _ _ l0 true w (Kd.C_of_reads (d := (0 : Int)) (h1 := fun _ => rfl) hr0) hc0 h).mono ?_
 rintro e w' ⟨rfl, hd⟩
 exact ⟨rfl, hd⟩

end Go.Proofs.Ytbiknbjcidlabaa.Hp
