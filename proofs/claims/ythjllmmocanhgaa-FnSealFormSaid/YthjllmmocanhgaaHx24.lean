-- Printed by wip/tools/hp.py of this session (the kit's print.py, with contracts typed by hand beside).
import Derived.Test.YthjllmmocanhgaaHx0
import Derived.Test.YthjllmmocanhgaaHx4
import Derived.Test.YthjllmmocanhgaaHx6
import Derived.Test.YthjllmmocanhgaaHx7
import Derived.Test.YthjllmmocanhgaaHx16
namespace Go.Proofs.Ythjllmmocanhgaa.Hp
open Go.RowKit Go.Proofs.YthjllmmocanhgaaW.PrintWords Go.Proofs.YthjllmmocanhgaaW.PrintLast Go.Proofs.YthjllmmocanhgaaW.PrintMore
attribute [local go_sem] max2_int min2_int max_two min_two max_three min_three max_four min_four   -- for this text's walks alone
set_option linter.unusedVariables false
set_option linter.unusedSimpArgs false

/-! ### laws_FnSealForm: function 9 -/
mutual
def laws_FnSealForm.j0 : Nat → Bool → Bool → Int → Int → Int → Int → Int → Int → Int → Option (Bool)
  | 0, _, _, _, _, _, _, _, _, _ => none
  | k + 1, x4, x21, x432000, x432001, x432002, x432003, x432004, x432005, x432006 => if x21 = true then ((spec_SealOk.f x432000 x432001 x432002 x432003 x432004 x432005 x432006).bind fun t434 => (some (x4 == t434))) else ((impl_SealHolds.f x432000 x432001 x432002 x432003 x432004 x432005 x432006).bind fun t435 => (if x432000 ≥ 10 then (laws_FnSealForm.j1 k t435 (decide (x432000 ≤ 60)) x432000 x432001 x432002 x432003 x432004 x432005 x432006) else (laws_FnSealForm.j1 k t435 false x432000 x432001 x432002 x432003 x432004 x432005 x432006)))
def laws_FnSealForm.j1 : Nat → Int → Bool → Int → Int → Int → Int → Int → Int → Int → Option (Bool)
  | 0, _, _, _, _, _, _, _, _, _ => none
  | k + 1, x5, x6, x432000, x432001, x432002, x432003, x432004, x432005, x432006 => if x432001 = 1 then (if x432000 = x432003 then (if x432000 ≥ 4 then (if x432000 ≤ 6 then (if x5 = x432004 then (some (decide (x5 ≥ 10))) else (some false)) else (some false)) else (some false)) else (some false)) else (if x432001 = 2 then (if x6 = true then (if x5 = x432003 then (some (decide (x5 ≥ 10))) else (some false)) else (if x432000 ≥ 1 then (if x432000 ≤ 3 then (if x5 = x432003 then (some (decide (x5 ≥ 10))) else (some false)) else (some false)) else (some false))) else (if x6 = true then (if x5 = 0 then (if x432001 = 3 then (some true) else (some (x432001 == 4))) else (some false)) else (some false)))
end
def laws_FnSealForm.f (k : Nat) (l0 : List Int) : Option (Bool) := if (l0.length : Int) > 1048576 then (some true) else ((spec_DrawSealOk.f k l0).bind fun bt424 => ((impl_SealOk.f bt424.1 bt424.2.1 bt424.2.2.1 bt424.2.2.2.1 bt424.2.2.2.2.1 bt424.2.2.2.2.2.1 bt424.2.2.2.2.2.2).bind fun t432 => ((spec_SealOk.f bt424.1 bt424.2.1 bt424.2.2.1 bt424.2.2.2.1 bt424.2.2.2.2.1 bt424.2.2.2.2.2.1 bt424.2.2.2.2.2.2).bind fun t433 => (if (t432 != t433) = true then (laws_FnSealForm.j0 k t432 true bt424.1 bt424.2.1 bt424.2.2.1 bt424.2.2.2.1 bt424.2.2.2.2.1 bt424.2.2.2.2.2.1 bt424.2.2.2.2.2.2) else (laws_FnSealForm.j0 k t432 (!t432) bt424.1 bt424.2.1 bt424.2.2.1 bt424.2.2.2.1 bt424.2.2.2.2.1 bt424.2.2.2.2.2.1 bt424.2.2.2.2.2.2)))))
theorem laws_FnSealForm.mono_l : ∀ k, (∀ y0 y1 y2 y3 y4 y5 y6 y7 y8, LeO (laws_FnSealForm.j0 k y0 y1 y2 y3 y4 y5 y6 y7 y8) (laws_FnSealForm.j0 (k + 1) y0 y1 y2 y3 y4 y5 y6 y7 y8)) ∧ (∀ y0 y1 y2 y3 y4 y5 y6 y7 y8, LeO (laws_FnSealForm.j1 k y0 y1 y2 y3 y4 y5 y6 y7 y8) (laws_FnSealForm.j1 (k + 1) y0 y1 y2 y3 y4 y5 y6 y7 y8))
  | 0 => ⟨fun _ _ _ _ _ _ _ _ _ r h => by simp [laws_FnSealForm.j0] at h, fun _ _ _ _ _ _ _ _ _ r h => by simp [laws_FnSealForm.j1] at h⟩
  | k + 1 => by
    obtain ⟨ih0, ih1⟩ := laws_FnSealForm.mono_l k
    refine ⟨?_, ?_⟩
    · intro y0 y1 y2 y3 y4 y5 y6 y7 y8
      unfold laws_FnSealForm.j0
      repeat' first
      | (with_reducible exact ih0 _ _ _ _ _ _ _ _ _)
      | (with_reducible exact ih1 _ _ _ _ _ _ _ _ _)
      | (with_reducible exact spec_DrawSealOk.mono _ _)
      | (with_reducible exact LeO.refl _)
      | (with_reducible exact LeO.none _)
      | (with_reducible refine LeO.ite ?_ ?_)
      | (with_reducible refine LeO.bind ?_ (fun _ => ?_))
      | exact ih0 _ _ _ _ _ _ _ _ _
      | exact ih1 _ _ _ _ _ _ _ _ _
      | exact spec_DrawSealOk.mono _ _
      | exact LeO.none _
      | refine LeO.ite ?_ ?_
      | refine LeO.bind ?_ (fun _ => ?_)
    · intro y0 y1 y2 y3 y4 y5 y6 y7 y8
      unfold laws_FnSealForm.j1
      repeat' first
      | (with_reducible exact ih0 _ _ _ _ _ _ _ _ _)
      | (with_reducible exact ih1 _ _ _ _ _ _ _ _ _)
      | (with_reducible exact spec_DrawSealOk.mono _ _)
      | (with_reducible exact LeO.refl _)
      | (with_reducible exact LeO.none _)
      | (with_reducible refine LeO.ite ?_ ?_)
      | (with_reducible refine LeO.bind ?_ (fun _ => ?_))
      | exact ih0 _ _ _ _ _ _ _ _ _
      | exact ih1 _ _ _ _ _ _ _ _ _
      | exact spec_DrawSealOk.mono _ _
      | exact LeO.none _
      | refine LeO.ite ?_ ?_
      | refine LeO.bind ?_ (fun _ => ?_)
theorem laws_FnSealForm.mono : ∀ a0 k, LeO (laws_FnSealForm.f k a0) (laws_FnSealForm.f (k + 1) a0) := by
  intro a0 k
  obtain ⟨ih0, ih1⟩ := laws_FnSealForm.mono_l k
  unfold laws_FnSealForm.f
  repeat' first
      | (with_reducible exact ih0 _ _ _ _ _ _ _ _ _)
      | (with_reducible exact ih1 _ _ _ _ _ _ _ _ _)
      | (with_reducible exact spec_DrawSealOk.mono _ _)
      | (with_reducible exact LeO.refl _)
      | (with_reducible exact LeO.none _)
      | (with_reducible refine LeO.ite ?_ ?_)
      | (with_reducible refine LeO.bind ?_ (fun _ => ?_))
      | exact ih0 _ _ _ _ _ _ _ _ _
      | exact ih1 _ _ _ _ _ _ _ _ _
      | exact spec_DrawSealOk.mono _ _
      | exact LeO.none _
      | refine LeO.ite ?_ ?_
      | refine LeO.bind ?_ (fun _ => ?_)
set_option maxHeartbeats 8000000 in
set_option maxRecDepth 100000 in
theorem laws_FnSealForm.calls (k : Nat) (A0 : Option Addr) (c0 : Nat) (l0 : List Int) (r : Bool) (w : World) (hr0 : Kd.C (Kd.int .u8) w A0 l0.length l0) (hc0 : l0.length ≤ c0) (h : laws_FnSealForm.f k l0 = some r) :
    Calls Try.prog 9 #[.slice A0 l0.length c0] w fun e w' => e = .returned (.bool r) ∧ Below w.heap.size w w' := by
  have hu26 := Try.underlying26
  have HR0 := Aside0.mk hr0
  have HC0 := Aside0.mk hc0
  clear hr0 hc0
  have HB := Aside0.mk (Below.refl w.heap.size w)
  have H : (if (l0.length : Int) > 1048576 then (some true) else ((spec_DrawSealOk.f k l0).bind fun bt424 => ((impl_SealOk.f bt424.1 bt424.2.1 bt424.2.2.1 bt424.2.2.2.1 bt424.2.2.2.2.1 bt424.2.2.2.2.2.1 bt424.2.2.2.2.2.2).bind fun t432 => ((spec_SealOk.f bt424.1 bt424.2.1 bt424.2.2.1 bt424.2.2.2.1 bt424.2.2.2.2.1 bt424.2.2.2.2.2.1 bt424.2.2.2.2.2.2).bind fun t433 => (if (t432 != t433) = true then (laws_FnSealForm.j0 k t432 true bt424.1 bt424.2.1 bt424.2.2.1 bt424.2.2.2.1 bt424.2.2.2.2.1 bt424.2.2.2.2.2.1 bt424.2.2.2.2.2.2) else (laws_FnSealForm.j0 k t432 (!t432) bt424.1 bt424.2.1 bt424.2.2.1 bt424.2.2.2.1 bt424.2.2.2.2.1 bt424.2.2.2.2.2.1 bt424.2.2.2.2.2.2)))))) = some r := h
  clear h
  by_cases c2 : (l0.length : Int) > 1048576
  · rw [if_pos c2] at H
    have c2b0 : decide (1048576 < (l0.length : Int)) = true := decide_eq_true c2
    have c2b1 : decide (1048576 < l0.length) = true := decide_eq_true (by omega)
    clear c2
    obtain rfl := Option.some.inj H
    go_enter Try.func9, Try.ntmps9
    go_wp2
    go_ret
    exact ⟨by first | rfl | (simp [errW_none, errW_some] <;> rfl) | (simp [*, errW_none, errW_some] <;> rfl), by repeat (first | (with_reducible first | exact HB.out | apply below_alloc | apply pw_below_drewN | apply below_drew1) | exact HB.out)⟩
  · rw [if_neg c2] at H
    have c2b0 : decide (1048576 < (l0.length : Int)) = false := decide_eq_false c2
    have c2b1 : decide (1048576 < l0.length) = false := decide_eq_false (by omega)
    clear c2
    replace H := Option.bind_eq_some_iff.mp H
    obtain ⟨⟨t424, t425, t426, t427, t428, t429, t430⟩, A30, H⟩ := H
    replace H : ((impl_SealOk.f t424 t425 t426 t427 t428 t429 t430).bind fun t432 => ((spec_SealOk.f t424 t425 t426 t427 t428 t429 t430).bind fun t433 => (if (t432 != t433) = true then (laws_FnSealForm.j0 k t432 true t424 t425 t426 t427 t428 t429 t430) else (laws_FnSealForm.j0 k t432 (!t432) t424 t425 t426 t427 t428 t429 t430)))) = some r := H
    have A3 := Aside0.mk A30
    clear A30
    replace H := Option.bind_eq_some_iff.mp H
    obtain ⟨t432, A40, H⟩ := H
    replace H : ((spec_SealOk.f t424 t425 t426 t427 t428 t429 t430).bind fun t433 => (if (t432 != t433) = true then (laws_FnSealForm.j0 k t432 true t424 t425 t426 t427 t428 t429 t430) else (laws_FnSealForm.j0 k t432 (!t432) t424 t425 t426 t427 t428 t429 t430))) = some r := H
    have A4 := Aside0.mk A40
    clear A40
    have HC5 := Aside0.mk H
    clear H
    go_enter Try.func9, Try.ntmps9
    go_upto_region 5 with (first | ((with_reducible refine gate_callee (f := 20) rfl ?_); refine goesL_ (some 11) rfl rfl Try.func20 (by kernel_rfl) rfl #[.slice A0 l0.length c0] rfl (by (try simp only [List.map_toArray, List.map_cons, List.map_nil]); first | done | rfl | (simp only [List.length_drop, List.length_take]; rfl)) ?_; (with_reducible refine (spec_DrawSealOk.calls k _ _ l0 t424 t425 t426 t427 t428 t429 t430 _ ?side1 ?side2 A3.out).mono ?_); (case side1 => repeat (first | exact HR0.out | (with_reducible refine Kd.C_alloc ?_ _) | (with_reducible refine Kd.C_drewN ?_ _) | (with_reducible refine Kd.C_drew ?_))); (case side2 => exact HC0.out); rintro e w6 ⟨rfl, hb⟩; refine ⟨_, rfl, ?_⟩; have n0_ := Aside0.mk (below_step (by repeat (first | (with_reducible first | exact HB.out | apply below_alloc | apply pw_below_drewN | apply below_drew1) | exact HB.out)) hb); clear HB; have HB := n0_; clear n0_; (try clear hb); (try clear hb2); (try clear hk); (try clear hi)) | ((with_reducible refine gate_dst (N := 3) rfl ?_); refine box_event ?hg (N := 3) ?hd (cs := #[.int .i64 0, .int .i64 0, .int .i64 0, .int .i64 0, .int .i64 0, .int .i64 0, .int .i64 0]) (t := 26) ?hr ?_; (case hd => rfl); (case hg => rfl); (case hr => first | (go_simp; done) | (go_simp; rfl)); intro gb431 hg w7 hbox hb; have n0_ := Aside0.mk (below_step (by repeat (first | (with_reducible first | exact HB.out | apply below_alloc | apply pw_below_drewN | apply below_drew1) | exact HB.out)) hb); have n1_ := Aside0.mk (hbox); have n2_ := Aside0.mk ((by rw [hg]; exact (below_size (by repeat (first | (with_reducible first | exact HB.out | apply below_alloc | apply pw_below_drewN | apply below_drew1) | exact HB.out))) : w.heap.size ≤ gb431)); have n3_ := Aside0.mk ((by rw [hg]; exact (below_size (by repeat (first | (with_reducible first | exact HB.out | apply below_alloc | apply pw_below_drewN | apply below_drew1) | exact HB.out))) : w.heap.size ≤ gb431)); clear HB; have HB := n0_; have BK431 := n1_; have GW431 := n2_; have GE431 := n3_; clear n0_ n1_ n2_ n3_; clear hb hbox hg; have hcz8_0 : w7.cell? ⟨gb431, 0, none⟩ = some (.int .i64 0) := (blk_cell BK431.out 0).trans rfl; have hcz8_1 : w7.cell? ⟨gb431, 1, none⟩ = some (.int .i64 0) := (blk_cell BK431.out 1).trans rfl; have hcz8_2 : w7.cell? ⟨gb431, 2, none⟩ = some (.int .i64 0) := (blk_cell BK431.out 2).trans rfl; have hcz8_3 : w7.cell? ⟨gb431, 3, none⟩ = some (.int .i64 0) := (blk_cell BK431.out 3).trans rfl; have hcz8_4 : w7.cell? ⟨gb431, 4, none⟩ = some (.int .i64 0) := (blk_cell BK431.out 4).trans rfl; have hcz8_5 : w7.cell? ⟨gb431, 5, none⟩ = some (.int .i64 0) := (blk_cell BK431.out 5).trans rfl; have hcz8_6 : w7.cell? ⟨gb431, 6, none⟩ = some (.int .i64 0) := (blk_cell BK431.out 6).trans rfl; have hfz8_0 := blk_frozen BK431.out 0; have hfz8_1 := blk_frozen BK431.out 1; have hfz8_2 := blk_frozen BK431.out 2; have hfz8_3 := blk_frozen BK431.out 3; have hfz8_4 := blk_frozen BK431.out 4; have hfz8_5 := blk_frozen BK431.out 5; have hfz8_6 := blk_frozen BK431.out 6) | ((with_reducible refine gate_callee (f := 12) rfl ?_); refine goesL_ (some 13) rfl rfl Try.func12 (by kernel_rfl) rfl #[.agg #[.int .i64 t424, .int .i64 t425, .int .i64 t426, .int .i64 t427, .int .i64 t428, .int .i64 t429, .int .i64 t430]] rfl (by (try simp only [List.map_toArray, List.map_cons, List.map_nil]); first | done | rfl | (simp only [List.length_drop, List.length_take]; rfl)) ?_; (with_reducible refine (impl_SealOk.calls t424 t425 t426 t427 t428 t429 t430 t432 _ A4.out).mono ?_); rintro e w9 ⟨rfl, hb⟩; refine ⟨_, rfl, ?_⟩; have n0_ := Aside0.mk (blk_below (g := gb431) (o := .cells #[.int .i64 t424, .int .i64 t425, .int .i64 t426, .int .i64 t427, .int .i64 t428, .int .i64 t429, .int .i64 t430] 26 (0, 0)) (by (with_reducible repeat (first | refine blk_drewN ?_ _ | refine blk_drew ?_ | refine blk_alloc ?_ _)); refine blk_put (cs := #[.int .i64 t424, .int .i64 t425, .int .i64 t426, .int .i64 t427, .int .i64 t428, .int .i64 t429, .int .i64 0]) ?_ 6 _ rfl; (with_reducible repeat (first | refine blk_drewN ?_ _ | refine blk_drew ?_ | refine blk_alloc ?_ _)); refine blk_put (cs := #[.int .i64 t424, .int .i64 t425, .int .i64 t426, .int .i64 t427, .int .i64 t428, .int .i64 0, .int .i64 0]) ?_ 5 _ rfl; (with_reducible repeat (first | refine blk_drewN ?_ _ | refine blk_drew ?_ | refine blk_alloc ?_ _)); refine blk_put (cs := #[.int .i64 t424, .int .i64 t425, .int .i64 t426, .int .i64 t427, .int .i64 0, .int .i64 0, .int .i64 0]) ?_ 4 _ rfl; (with_reducible repeat (first | refine blk_drewN ?_ _ | refine blk_drew ?_ | refine blk_alloc ?_ _)); refine blk_put (cs := #[.int .i64 t424, .int .i64 t425, .int .i64 t426, .int .i64 0, .int .i64 0, .int .i64 0, .int .i64 0]) ?_ 3 _ rfl; (with_reducible repeat (first | refine blk_drewN ?_ _ | refine blk_drew ?_ | refine blk_alloc ?_ _)); refine blk_put (cs := #[.int .i64 t424, .int .i64 t425, .int .i64 0, .int .i64 0, .int .i64 0, .int .i64 0, .int .i64 0]) ?_ 2 _ rfl; (with_reducible repeat (first | refine blk_drewN ?_ _ | refine blk_drew ?_ | refine blk_alloc ?_ _)); refine blk_put (cs := #[.int .i64 t424, .int .i64 0, .int .i64 0, .int .i64 0, .int .i64 0, .int .i64 0, .int .i64 0]) ?_ 1 _ rfl; (with_reducible repeat (first | refine blk_drewN ?_ _ | refine blk_drew ?_ | refine blk_alloc ?_ _)); refine blk_put (cs := #[.int .i64 0, .int .i64 0, .int .i64 0, .int .i64 0, .int .i64 0, .int .i64 0, .int .i64 0]) ?_ 0 _ rfl; (with_reducible repeat (first | refine blk_drewN ?_ _ | refine blk_drew ?_ | refine blk_alloc ?_ _)); exact BK431.out) hb); have n1_ := Aside0.mk (below_step (by repeat (first | (with_reducible first | exact HB.out | apply below_alloc | apply pw_below_drewN | apply below_drew1 | refine below_set ?_ GE431.out) | exact HB.out)) hb); clear BK431; clear HB; have BK431 := n0_; have HB := n1_; clear n0_ n1_; (try clear hb); (try clear hb2); (try clear hk); (try clear hi)))
    (try simp only [Act.put, List.setIfInBounds_toArray, List.set_cons_zero, List.set_cons_succ])
    go_cut [21] (fun v21 wc => ∃ (kq : Nat) (x21_4 : Bool), v21 = .bool x21_4 ∧ Aside0 (laws_FnSealForm.j0 kq t432 x21_4 t424 t425 t426 t427 t428 t429 t430 = some r) ∧ Aside0 (kq ≤ k) ∧ Aside0 (wc.heap[gb431]? = some (.cells #[.int .i64 t424, .int .i64 t425, .int .i64 t426, .int .i64 t427, .int .i64 t428, .int .i64 t429, .int .i64 t430] 26 (0, 0))) ∧ Aside0 (Below w.heap.size w wc))
    case first =>
      have H := HC5.out
      clear HC5
      replace H := Option.bind_eq_some_iff.mp H
      obtain ⟨t433, A100, H⟩ := H
      replace H : (if (t432 != t433) = true then (laws_FnSealForm.j0 k t432 true t424 t425 t426 t427 t428 t429 t430) else (laws_FnSealForm.j0 k t432 (!t432) t424 t425 t426 t427 t428 t429 t430)) = some r := H
      have A10 := Aside0.mk A100
      clear A100
      by_cases c11 : (t432 != t433) = true
      · rw [if_pos c11] at H
        have c11b0 : (t432 != t433) = true := c11
        (try (have c11b1 : decide (t432 = t433) = false := by simpa using c11))
        (try (have c11b2 : (t432 == t433) = false := by simpa using c11))
        (try (have c11b3 : ¬ (t432 = t433) := by simpa using c11))
        clear c11
        (first | rw [c11b0] | (simp only [i64_w, i32_w]; rw [c11b0]) | skip)
        have H' := Aside0.mk H
        clear H
        have hcz12_0 : w9.cell? ⟨gb431, 0, none⟩ = some (.int .i64 t424) := (blk_cell BK431.out 0).trans rfl
        have hcz12_1 : w9.cell? ⟨gb431, 1, none⟩ = some (.int .i64 t425) := (blk_cell BK431.out 1).trans rfl
        have hcz12_2 : w9.cell? ⟨gb431, 2, none⟩ = some (.int .i64 t426) := (blk_cell BK431.out 2).trans rfl
        have hcz12_3 : w9.cell? ⟨gb431, 3, none⟩ = some (.int .i64 t427) := (blk_cell BK431.out 3).trans rfl
        have hcz12_4 : w9.cell? ⟨gb431, 4, none⟩ = some (.int .i64 t428) := (blk_cell BK431.out 4).trans rfl
        have hcz12_5 : w9.cell? ⟨gb431, 5, none⟩ = some (.int .i64 t429) := (blk_cell BK431.out 5).trans rfl
        have hcz12_6 : w9.cell? ⟨gb431, 6, none⟩ = some (.int .i64 t430) := (blk_cell BK431.out 6).trans rfl
        have hfz12_0 := blk_frozen BK431.out 0
        have hfz12_1 := blk_frozen BK431.out 1
        have hfz12_2 := blk_frozen BK431.out 2
        have hfz12_3 := blk_frozen BK431.out 3
        have hfz12_4 := blk_frozen BK431.out 4
        have hfz12_5 := blk_frozen BK431.out 5
        have hfz12_6 := blk_frozen BK431.out 6
        go_wp2_with (first | ((with_reducible refine gate_callee (f := 10) rfl ?_); refine goesL_ (some 16) rfl rfl Try.func10 (by kernel_rfl) rfl #[.agg #[.int .i64 t424, .int .i64 t425, .int .i64 t426, .int .i64 t427, .int .i64 t428, .int .i64 t429, .int .i64 t430]] rfl (by (try simp only [List.map_toArray, List.map_cons, List.map_nil]); first | done | rfl | (simp only [List.length_drop, List.length_take]; rfl)) ?_; (with_reducible refine (spec_SealOk.calls t424 t425 t426 t427 t428 t429 t430 t433 _ A10.out).mono ?_); rintro e w13 ⟨rfl, hb⟩; refine ⟨_, rfl, ?_⟩; have n0_ := Aside0.mk (blk_below (g := gb431) (o := .cells #[.int .i64 t424, .int .i64 t425, .int .i64 t426, .int .i64 t427, .int .i64 t428, .int .i64 t429, .int .i64 t430] 26 (0, 0)) (by (with_reducible repeat (first | refine blk_drewN ?_ _ | refine blk_drew ?_ | refine blk_alloc ?_ _)); exact BK431.out) hb); have n1_ := Aside0.mk (below_step (by repeat (first | (with_reducible first | exact HB.out | apply below_alloc | apply pw_below_drewN | apply below_drew1 | refine below_set ?_ GE431.out) | exact HB.out)) hb); clear BK431; clear HB; have BK431 := n0_; have HB := n1_; clear n0_ n1_; (try clear hb); (try clear hb2); (try clear hk); (try clear hi)))
        go_meet
        case rel => exact ⟨_, (true), (by first | rfl | (simp; done) | (simp [*]; done)), H', ⟨by first | omega | exact Nat.le_refl _⟩, ⟨by (with_reducible repeat (first | refine blk_drewN ?_ _ | refine blk_drew ?_ | refine blk_alloc ?_ _)); exact BK431.out⟩, ⟨by repeat (first | (with_reducible first | exact HB.out | apply below_alloc | apply pw_below_drewN | apply below_drew1 | refine below_set ?_ GE431.out) | exact HB.out)⟩⟩
      · rw [if_neg c11] at H
        have c11b0 : (t432 != t433) = false := by simpa using c11
        (try (have c11b1 : decide (t432 = t433) = true := by simpa using c11))
        (try (have c11b2 : (t432 == t433) = true := by simpa using c11))
        clear c11
        (first | rw [c11b0] | (simp only [i64_w, i32_w]; rw [c11b0]) | skip)
        have H' := Aside0.mk H
        clear H
        have hcz14_0 : w9.cell? ⟨gb431, 0, none⟩ = some (.int .i64 t424) := (blk_cell BK431.out 0).trans rfl
        have hcz14_1 : w9.cell? ⟨gb431, 1, none⟩ = some (.int .i64 t425) := (blk_cell BK431.out 1).trans rfl
        have hcz14_2 : w9.cell? ⟨gb431, 2, none⟩ = some (.int .i64 t426) := (blk_cell BK431.out 2).trans rfl
        have hcz14_3 : w9.cell? ⟨gb431, 3, none⟩ = some (.int .i64 t427) := (blk_cell BK431.out 3).trans rfl
        have hcz14_4 : w9.cell? ⟨gb431, 4, none⟩ = some (.int .i64 t428) := (blk_cell BK431.out 4).trans rfl
        have hcz14_5 : w9.cell? ⟨gb431, 5, none⟩ = some (.int .i64 t429) := (blk_cell BK431.out 5).trans rfl
        have hcz14_6 : w9.cell? ⟨gb431, 6, none⟩ = some (.int .i64 t430) := (blk_cell BK431.out 6).trans rfl
        have hfz14_0 := blk_frozen BK431.out 0
        have hfz14_1 := blk_frozen BK431.out 1
        have hfz14_2 := blk_frozen BK431.out 2
        have hfz14_3 := blk_frozen BK431.out 3
        have hfz14_4 := blk_frozen BK431.out 4
        have hfz14_5 := blk_frozen BK431.out 5
        have hfz14_6 := blk_frozen BK431.out 6
        go_wp2_with (first | ((with_reducible refine gate_callee (f := 10) rfl ?_); refine goesL_ (some 16) rfl rfl Try.func10 (by kernel_rfl) rfl #[.agg #[.int .i64 t424, .int .i64 t425, .int .i64 t426, .int .i64 t427, .int .i64 t428, .int .i64 t429, .int .i64 t430]] rfl (by (try simp only [List.map_toArray, List.map_cons, List.map_nil]); first | done | rfl | (simp only [List.length_drop, List.length_take]; rfl)) ?_; (with_reducible refine (spec_SealOk.calls t424 t425 t426 t427 t428 t429 t430 t433 _ A10.out).mono ?_); rintro e w15 ⟨rfl, hb⟩; refine ⟨_, rfl, ?_⟩; have n0_ := Aside0.mk (blk_below (g := gb431) (o := .cells #[.int .i64 t424, .int .i64 t425, .int .i64 t426, .int .i64 t427, .int .i64 t428, .int .i64 t429, .int .i64 t430] 26 (0, 0)) (by (with_reducible repeat (first | refine blk_drewN ?_ _ | refine blk_drew ?_ | refine blk_alloc ?_ _)); exact BK431.out) hb); have n1_ := Aside0.mk (below_step (by repeat (first | (with_reducible first | exact HB.out | apply below_alloc | apply pw_below_drewN | apply below_drew1 | refine below_set ?_ GE431.out) | exact HB.out)) hb); clear BK431; clear HB; have BK431 := n0_; have HB := n1_; clear n0_ n1_; (try clear hb); (try clear hb2); (try clear hk); (try clear hi)))
        go_meet
        case rel => exact ⟨_, (!t432), (by first | rfl | (simp; done) | (simp [*]; done)), H', ⟨by first | omega | exact Nat.le_refl _⟩, ⟨by (with_reducible repeat (first | refine blk_drewN ?_ _ | refine blk_drew ?_ | refine blk_alloc ?_ _)); exact BK431.out⟩, ⟨by repeat (first | (with_reducible first | exact HB.out | apply below_alloc | apply pw_below_drewN | apply below_drew1 | refine below_set ?_ GE431.out) | exact HB.out)⟩⟩
    case rest =>
      clear HC5
      try clear c1
      try clear c2
      try clear c2b0
      try clear c2b1
      try clear p2
      try clear c9
      try clear c10
      try clear c11
      try clear c11b0
      try clear c11b1
      try clear c11b2
      try clear c12
      try clear hcz12_0
      try clear hcz12_1
      try clear hcz12_2
      try clear hcz12_3
      try clear hcz12_4
      try clear hcz12_5
      try clear hcz12_6
      try clear hcz14_0
      try clear hcz14_1
      try clear hcz14_2
      try clear hcz14_3
      try clear hcz14_4
      try clear hcz14_5
      try clear hcz14_6
      try clear hcz8_0
      try clear hcz8_1
      try clear hcz8_2
      try clear hcz8_3
      try clear hcz8_4
      try clear hcz8_5
      try clear hcz8_6
      try clear hfz12_0
      try clear hfz12_1
      try clear hfz12_2
      try clear hfz12_3
      try clear hfz12_4
      try clear hfz12_5
      try clear hfz12_6
      try clear hfz14_0
      try clear hfz14_1
      try clear hfz14_2
      try clear hfz14_3
      try clear hfz14_4
      try clear hfz14_5
      try clear hfz14_6
      try clear hfz8_0
      try clear hfz8_1
      try clear hfz8_2
      try clear hfz8_3
      try clear hfz8_4
      try clear hfz8_5
      try clear hfz8_6
      obtain ⟨kq, x21_4, rfl, HA, HJ4, BK431, HB⟩ := hcut
      cases kq with
      | zero => exact absurd HA.out (by simp [laws_FnSealForm.j0])
      | succ kj4 =>
        have H := HA.out
        clear HA
        simp only [laws_FnSealForm.j0] at H
        by_cases c16 : x21_4 = true
        · subst c16
          have H1 : ((spec_SealOk.f t424 t425 t426 t427 t428 t429 t430).bind fun t434 => (some (t432 == t434))) = some r := by rw [if_pos rfl] at H; exact H
          clear H
          have H := H1
          clear H1
          replace H := Option.bind_eq_some_iff.mp H
          obtain ⟨t434, A170, H⟩ := H
          replace H : (some (t432 == t434)) = some r := H
          have A17 := Aside0.mk A170
          clear A170
          obtain rfl := Option.some.inj H
          have hcz18_0 : wc.cell? ⟨gb431, 0, none⟩ = some (.int .i64 t424) := (blk_cell BK431.out 0).trans rfl
          have hcz18_1 : wc.cell? ⟨gb431, 1, none⟩ = some (.int .i64 t425) := (blk_cell BK431.out 1).trans rfl
          have hcz18_2 : wc.cell? ⟨gb431, 2, none⟩ = some (.int .i64 t426) := (blk_cell BK431.out 2).trans rfl
          have hcz18_3 : wc.cell? ⟨gb431, 3, none⟩ = some (.int .i64 t427) := (blk_cell BK431.out 3).trans rfl
          have hcz18_4 : wc.cell? ⟨gb431, 4, none⟩ = some (.int .i64 t428) := (blk_cell BK431.out 4).trans rfl
          have hcz18_5 : wc.cell? ⟨gb431, 5, none⟩ = some (.int .i64 t429) := (blk_cell BK431.out 5).trans rfl
          have hcz18_6 : wc.cell? ⟨gb431, 6, none⟩ = some (.int .i64 t430) := (blk_cell BK431.out 6).trans rfl
          have hfz18_0 := blk_frozen BK431.out 0
          have hfz18_1 := blk_frozen BK431.out 1
          have hfz18_2 := blk_frozen BK431.out 2
          have hfz18_3 := blk_frozen BK431.out 3
          have hfz18_4 := blk_frozen BK431.out 4
          have hfz18_5 := blk_frozen BK431.out 5
          have hfz18_6 := blk_frozen BK431.out 6
          go_wp2_with (first | ((with_reducible refine gate_callee (f := 10) rfl ?_); refine goesL_ (some 24) rfl rfl Try.func10 (by kernel_rfl) rfl #[.agg #[.int .i64 t424, .int .i64 t425, .int .i64 t426, .int .i64 t427, .int .i64 t428, .int .i64 t429, .int .i64 t430]] rfl (by (try simp only [List.map_toArray, List.map_cons, List.map_nil]); first | done | rfl | (simp only [List.length_drop, List.length_take]; rfl)) ?_; (with_reducible refine (spec_SealOk.calls t424 t425 t426 t427 t428 t429 t430 t434 _ A17.out).mono ?_); rintro e w19 ⟨rfl, hb⟩; refine ⟨_, rfl, ?_⟩; have n0_ := Aside0.mk (blk_below (g := gb431) (o := .cells #[.int .i64 t424, .int .i64 t425, .int .i64 t426, .int .i64 t427, .int .i64 t428, .int .i64 t429, .int .i64 t430] 26 (0, 0)) (by (with_reducible repeat (first | refine blk_drewN ?_ _ | refine blk_drew ?_ | refine blk_alloc ?_ _)); exact BK431.out) hb); have n1_ := Aside0.mk (below_step (by repeat (first | (with_reducible first | exact HB.out | apply below_alloc | apply pw_below_drewN | apply below_drew1 | refine below_set ?_ GE431.out) | exact HB.out)) hb); clear BK431; clear HB; have BK431 := n0_; have HB := n1_; clear n0_ n1_; (try clear hb); (try clear hb2); (try clear hk); (try clear hi)))
          go_ret
          exact ⟨by first | rfl | (simp [errW_none, errW_some] <;> rfl) | (simp [*, errW_none, errW_some] <;> rfl), by repeat (first | (with_reducible first | exact HB.out | apply below_alloc | apply pw_below_drewN | apply below_drew1 | refine below_set ?_ GE431.out) | exact HB.out)⟩
        · replace c16 := Bool.eq_false_iff.mpr c16
          subst c16
          have H1 : ((impl_SealHolds.f t424 t425 t426 t427 t428 t429 t430).bind fun t435 => (if t424 ≥ 10 then (laws_FnSealForm.j1 kj4 t435 (decide (t424 ≤ 60)) t424 t425 t426 t427 t428 t429 t430) else (laws_FnSealForm.j1 kj4 t435 false t424 t425 t426 t427 t428 t429 t430))) = some r := by rw [if_neg (show ¬ (false = true) by decide)] at H; exact H
          clear H
          have H := H1
          clear H1
          replace H := Option.bind_eq_some_iff.mp H
          obtain ⟨t435, A200, H⟩ := H
          replace H : (if t424 ≥ 10 then (laws_FnSealForm.j1 kj4 t435 (decide (t424 ≤ 60)) t424 t425 t426 t427 t428 t429 t430) else (laws_FnSealForm.j1 kj4 t435 false t424 t425 t426 t427 t428 t429 t430)) = some r := H
          have A20 := Aside0.mk A200
          clear A200
          have HC21 := Aside0.mk H
          clear H
          have hcz22_0 : wc.cell? ⟨gb431, 0, none⟩ = some (.int .i64 t424) := (blk_cell BK431.out 0).trans rfl
          have hcz22_1 : wc.cell? ⟨gb431, 1, none⟩ = some (.int .i64 t425) := (blk_cell BK431.out 1).trans rfl
          have hcz22_2 : wc.cell? ⟨gb431, 2, none⟩ = some (.int .i64 t426) := (blk_cell BK431.out 2).trans rfl
          have hcz22_3 : wc.cell? ⟨gb431, 3, none⟩ = some (.int .i64 t427) := (blk_cell BK431.out 3).trans rfl
          have hcz22_4 : wc.cell? ⟨gb431, 4, none⟩ = some (.int .i64 t428) := (blk_cell BK431.out 4).trans rfl
          have hcz22_5 : wc.cell? ⟨gb431, 5, none⟩ = some (.int .i64 t429) := (blk_cell BK431.out 5).trans rfl
          have hcz22_6 : wc.cell? ⟨gb431, 6, none⟩ = some (.int .i64 t430) := (blk_cell BK431.out 6).trans rfl
          have hfz22_0 := blk_frozen BK431.out 0
          have hfz22_1 := blk_frozen BK431.out 1
          have hfz22_2 := blk_frozen BK431.out 2
          have hfz22_3 := blk_frozen BK431.out 3
          have hfz22_4 := blk_frozen BK431.out 4
          have hfz22_5 := blk_frozen BK431.out 5
          have hfz22_6 := blk_frozen BK431.out 6
          go_upto_region 8 with (first | ((with_reducible refine gate_callee (f := 14) rfl ?_); refine goesL_ (some 27) rfl rfl Try.func14 (by kernel_rfl) rfl #[.agg #[.int .i64 t424, .int .i64 t425, .int .i64 t426, .int .i64 t427, .int .i64 t428, .int .i64 t429, .int .i64 t430]] rfl (by (try simp only [List.map_toArray, List.map_cons, List.map_nil]); first | done | rfl | (simp only [List.length_drop, List.length_take]; rfl)) ?_; (with_reducible refine (impl_SealHolds.calls t424 t425 t426 t427 t428 t429 t430 t435 _ A20.out).mono ?_); rintro e w23 ⟨rfl, hb⟩; refine ⟨_, rfl, ?_⟩; have n0_ := Aside0.mk (blk_below (g := gb431) (o := .cells #[.int .i64 t424, .int .i64 t425, .int .i64 t426, .int .i64 t427, .int .i64 t428, .int .i64 t429, .int .i64 t430] 26 (0, 0)) (by (with_reducible repeat (first | refine blk_drewN ?_ _ | refine blk_drew ?_ | refine blk_alloc ?_ _)); exact BK431.out) hb); have n1_ := Aside0.mk (below_step (by repeat (first | (with_reducible first | exact HB.out | apply below_alloc | apply pw_below_drewN | apply below_drew1 | refine below_set ?_ GE431.out) | exact HB.out)) hb); clear BK431; clear HB; have BK431 := n0_; have HB := n1_; clear n0_ n1_; (try clear hb); (try clear hb2); (try clear hk); (try clear hi)))
          (try simp only [Act.put, List.setIfInBounds_toArray, List.set_cons_zero, List.set_cons_succ])
          go_cut [6] (fun v6 wc => ∃ (kq : Nat) (x6_20 : Bool), v6 = .bool x6_20 ∧ Aside0 (laws_FnSealForm.j1 kq t435 x6_20 t424 t425 t426 t427 t428 t429 t430 = some r) ∧ Aside0 (kq ≤ kj4) ∧ Aside0 (wc.heap[gb431]? = some (.cells #[.int .i64 t424, .int .i64 t425, .int .i64 t426, .int .i64 t427, .int .i64 t428, .int .i64 t429, .int .i64 t430] 26 (0, 0))) ∧ Aside0 (Below w.heap.size w wc))
          case first =>
            have H := HC21.out
            clear HC21
            by_cases c24 : t424 ≥ 10
            · rw [if_pos c24] at H
              have c24b0 : decide (10 ≤ t424) = true := decide_eq_true c24
              clear c24
              (first | rw [c24b0] | (simp only [i64_w, i32_w]; rw [c24b0]) | skip)
              have H' := Aside0.mk H
              clear H
              have hcz25_0 : w23.cell? ⟨gb431, 0, none⟩ = some (.int .i64 t424) := (blk_cell BK431.out 0).trans rfl
              have hcz25_1 : w23.cell? ⟨gb431, 1, none⟩ = some (.int .i64 t425) := (blk_cell BK431.out 1).trans rfl
              have hcz25_2 : w23.cell? ⟨gb431, 2, none⟩ = some (.int .i64 t426) := (blk_cell BK431.out 2).trans rfl
              have hcz25_3 : w23.cell? ⟨gb431, 3, none⟩ = some (.int .i64 t427) := (blk_cell BK431.out 3).trans rfl
              have hcz25_4 : w23.cell? ⟨gb431, 4, none⟩ = some (.int .i64 t428) := (blk_cell BK431.out 4).trans rfl
              have hcz25_5 : w23.cell? ⟨gb431, 5, none⟩ = some (.int .i64 t429) := (blk_cell BK431.out 5).trans rfl
              have hcz25_6 : w23.cell? ⟨gb431, 6, none⟩ = some (.int .i64 t430) := (blk_cell BK431.out 6).trans rfl
              have hfz25_0 := blk_frozen BK431.out 0
              have hfz25_1 := blk_frozen BK431.out 1
              have hfz25_2 := blk_frozen BK431.out 2
              have hfz25_3 := blk_frozen BK431.out 3
              have hfz25_4 := blk_frozen BK431.out 4
              have hfz25_5 := blk_frozen BK431.out 5
              have hfz25_6 := blk_frozen BK431.out 6
              go_wp2
              go_meet
              case rel => exact ⟨_, (decide (t424 ≤ 60)), (by first | rfl | (simp; done) | (simp [*]; done)), H', ⟨by have := HJ4.out; first | omega | exact Nat.le_refl _⟩, ⟨by (with_reducible repeat (first | refine blk_drewN ?_ _ | refine blk_drew ?_ | refine blk_alloc ?_ _)); exact BK431.out⟩, ⟨by repeat (first | (with_reducible first | exact HB.out | apply below_alloc | apply pw_below_drewN | apply below_drew1 | refine below_set ?_ GE431.out) | exact HB.out)⟩⟩
            · rw [if_neg c24] at H
              have c24b0 : decide (10 ≤ t424) = false := decide_eq_false c24
              clear c24
              (first | rw [c24b0] | (simp only [i64_w, i32_w]; rw [c24b0]) | skip)
              have H' := Aside0.mk H
              clear H
              have hcz26_0 : w23.cell? ⟨gb431, 0, none⟩ = some (.int .i64 t424) := (blk_cell BK431.out 0).trans rfl
              have hcz26_1 : w23.cell? ⟨gb431, 1, none⟩ = some (.int .i64 t425) := (blk_cell BK431.out 1).trans rfl
              have hcz26_2 : w23.cell? ⟨gb431, 2, none⟩ = some (.int .i64 t426) := (blk_cell BK431.out 2).trans rfl
              have hcz26_3 : w23.cell? ⟨gb431, 3, none⟩ = some (.int .i64 t427) := (blk_cell BK431.out 3).trans rfl
              have hcz26_4 : w23.cell? ⟨gb431, 4, none⟩ = some (.int .i64 t428) := (blk_cell BK431.out 4).trans rfl
              have hcz26_5 : w23.cell? ⟨gb431, 5, none⟩ = some (.int .i64 t429) := (blk_cell BK431.out 5).trans rfl
              have hcz26_6 : w23.cell? ⟨gb431, 6, none⟩ = some (.int .i64 t430) := (blk_cell BK431.out 6).trans rfl
              have hfz26_0 := blk_frozen BK431.out 0
              have hfz26_1 := blk_frozen BK431.out 1
              have hfz26_2 := blk_frozen BK431.out 2
              have hfz26_3 := blk_frozen BK431.out 3
              have hfz26_4 := blk_frozen BK431.out 4
              have hfz26_5 := blk_frozen BK431.out 5
              have hfz26_6 := blk_frozen BK431.out 6
              go_wp2
              go_meet
              case rel => exact ⟨_, (false), (by first | rfl | (simp; done) | (simp [*]; done)), H', ⟨by have := HJ4.out; first | omega | exact Nat.le_refl _⟩, ⟨by (with_reducible repeat (first | refine blk_drewN ?_ _ | refine blk_drew ?_ | refine blk_alloc ?_ _)); exact BK431.out⟩, ⟨by repeat (first | (with_reducible first | exact HB.out | apply below_alloc | apply pw_below_drewN | apply below_drew1 | refine below_set ?_ GE431.out) | exact HB.out)⟩⟩
          case rest =>
            clear HC21
            try clear c1
            try clear c2
            try clear c2b0
            try clear c2b1
            try clear p2
            try clear c9
            try clear c10
            try clear c11
            try clear c11b0
            try clear c11b1
            try clear c11b2
            try clear c12
            try clear c14
            try clear c16
            try clear c20
            try clear c24
            try clear c24b0
            try clear hcz12_0
            try clear hcz12_1
            try clear hcz12_2
            try clear hcz12_3
            try clear hcz12_4
            try clear hcz12_5
            try clear hcz12_6
            try clear hcz14_0
            try clear hcz14_1
            try clear hcz14_2
            try clear hcz14_3
            try clear hcz14_4
            try clear hcz14_5
            try clear hcz14_6
            try clear hcz18_0
            try clear hcz18_1
            try clear hcz18_2
            try clear hcz18_3
            try clear hcz18_4
            try clear hcz18_5
            try clear hcz18_6
            try clear hcz22_0
            try clear hcz22_1
            try clear hcz22_2
            try clear hcz22_3
            try clear hcz22_4
            try clear hcz22_5
            try clear hcz22_6
            try clear hcz25_0
            try clear hcz25_1
            try clear hcz25_2
            try clear hcz25_3
            try clear hcz25_4
            try clear hcz25_5
            try clear hcz25_6
            try clear hcz26_0
            try clear hcz26_1
            try clear hcz26_2
            try clear hcz26_3
            try clear hcz26_4
            try clear hcz26_5
            try clear hcz26_6
            try clear hcz8_0
            try clear hcz8_1
            try clear hcz8_2
            try clear hcz8_3
            try clear hcz8_4
            try clear hcz8_5
            try clear hcz8_6
            try clear hfz12_0
            try clear hfz12_1
            try clear hfz12_2
            try clear hfz12_3
            try clear hfz12_4
            try clear hfz12_5
            try clear hfz12_6
            try clear hfz14_0
            try clear hfz14_1
            try clear hfz14_2
            try clear hfz14_3
            try clear hfz14_4
            try clear hfz14_5
            try clear hfz14_6
            try clear hfz18_0
            try clear hfz18_1
            try clear hfz18_2
            try clear hfz18_3
            try clear hfz18_4
            try clear hfz18_5
            try clear hfz18_6
            try clear hfz22_0
            try clear hfz22_1
            try clear hfz22_2
            try clear hfz22_3
            try clear hfz22_4
            try clear hfz22_5
            try clear hfz22_6
            try clear hfz25_0
            try clear hfz25_1
            try clear hfz25_2
            try clear hfz25_3
            try clear hfz25_4
            try clear hfz25_5
            try clear hfz25_6
            try clear hfz26_0
            try clear hfz26_1
            try clear hfz26_2
            try clear hfz26_3
            try clear hfz26_4
            try clear hfz26_5
            try clear hfz26_6
            try clear hfz8_0
            try clear hfz8_1
            try clear hfz8_2
            try clear hfz8_3
            try clear hfz8_4
            try clear hfz8_5
            try clear hfz8_6
            try clear p2
            obtain ⟨kq, x6_20, rfl, HA, HJ20, BK431, HB⟩ := hcut
            cases kq with
            | zero => exact absurd HA.out (by simp [laws_FnSealForm.j1])
            | succ kj20 =>
              have H := HA.out
              clear HA
              simp only [laws_FnSealForm.j1] at H
              by_cases c27 : t425 = 1
              · rw [if_pos c27] at H
                have c27b0 : (t425 == 1) = true := beq_iff_eq.mpr c27
                have c27b1 : (t425 != 1) = false := bne_eq_false_iff_eq.mpr c27
                clear c27
                by_cases c28 : t424 = t427
                · rw [if_pos c28] at H
                  have c28b0 : (t424 == t427) = true := beq_iff_eq.mpr c28
                  have c28b1 : (t424 != t427) = false := bne_eq_false_iff_eq.mpr c28
                  clear c28
                  by_cases c29 : t424 ≥ 4
                  · rw [if_pos c29] at H
                    have c29b0 : decide (4 ≤ t424) = true := decide_eq_true c29
                    clear c29
                    by_cases c30 : t424 ≤ 6
                    · rw [if_pos c30] at H
                      have c30b0 : decide (t424 ≤ 6) = true := decide_eq_true c30
                      clear c30
                      by_cases c31 : t435 = t428
                      · rw [if_pos c31] at H
                        have c31b0 : (t435 == t428) = true := beq_iff_eq.mpr c31
                        have c31b1 : (t435 != t428) = false := bne_eq_false_iff_eq.mpr c31
                        clear c31
                        obtain rfl := Option.some.inj H
                        have hcz32_0 : wc.cell? ⟨gb431, 0, none⟩ = some (.int .i64 t424) := (blk_cell BK431.out 0).trans rfl
                        have hcz32_1 : wc.cell? ⟨gb431, 1, none⟩ = some (.int .i64 t425) := (blk_cell BK431.out 1).trans rfl
                        have hcz32_2 : wc.cell? ⟨gb431, 2, none⟩ = some (.int .i64 t426) := (blk_cell BK431.out 2).trans rfl
                        have hcz32_3 : wc.cell? ⟨gb431, 3, none⟩ = some (.int .i64 t427) := (blk_cell BK431.out 3).trans rfl
                        have hcz32_4 : wc.cell? ⟨gb431, 4, none⟩ = some (.int .i64 t428) := (blk_cell BK431.out 4).trans rfl
                        have hcz32_5 : wc.cell? ⟨gb431, 5, none⟩ = some (.int .i64 t429) := (blk_cell BK431.out 5).trans rfl
                        have hcz32_6 : wc.cell? ⟨gb431, 6, none⟩ = some (.int .i64 t430) := (blk_cell BK431.out 6).trans rfl
                        have hfz32_0 := blk_frozen BK431.out 0
                        have hfz32_1 := blk_frozen BK431.out 1
                        have hfz32_2 := blk_frozen BK431.out 2
                        have hfz32_3 := blk_frozen BK431.out 3
                        have hfz32_4 := blk_frozen BK431.out 4
                        have hfz32_5 := blk_frozen BK431.out 5
                        have hfz32_6 := blk_frozen BK431.out 6
                        go_wp2
                        go_ret
                        exact ⟨by first | rfl | (simp [errW_none, errW_some] <;> rfl) | (simp [*, errW_none, errW_some] <;> rfl), by repeat (first | (with_reducible first | exact HB.out | apply below_alloc | apply pw_below_drewN | apply below_drew1 | refine below_set ?_ GE431.out) | exact HB.out)⟩
                      · rw [if_neg c31] at H
                        have c31b0 : (t435 == t428) = false := beq_eq_false_iff_ne.mpr c31
                        have c31b1 : (t435 != t428) = true := bne_iff_ne.mpr c31
                        obtain rfl := Option.some.inj H
                        have hcz33_0 : wc.cell? ⟨gb431, 0, none⟩ = some (.int .i64 t424) := (blk_cell BK431.out 0).trans rfl
                        have hcz33_1 : wc.cell? ⟨gb431, 1, none⟩ = some (.int .i64 t425) := (blk_cell BK431.out 1).trans rfl
                        have hcz33_2 : wc.cell? ⟨gb431, 2, none⟩ = some (.int .i64 t426) := (blk_cell BK431.out 2).trans rfl
                        have hcz33_3 : wc.cell? ⟨gb431, 3, none⟩ = some (.int .i64 t427) := (blk_cell BK431.out 3).trans rfl
                        have hcz33_4 : wc.cell? ⟨gb431, 4, none⟩ = some (.int .i64 t428) := (blk_cell BK431.out 4).trans rfl
                        have hcz33_5 : wc.cell? ⟨gb431, 5, none⟩ = some (.int .i64 t429) := (blk_cell BK431.out 5).trans rfl
                        have hcz33_6 : wc.cell? ⟨gb431, 6, none⟩ = some (.int .i64 t430) := (blk_cell BK431.out 6).trans rfl
                        have hfz33_0 := blk_frozen BK431.out 0
                        have hfz33_1 := blk_frozen BK431.out 1
                        have hfz33_2 := blk_frozen BK431.out 2
                        have hfz33_3 := blk_frozen BK431.out 3
                        have hfz33_4 := blk_frozen BK431.out 4
                        have hfz33_5 := blk_frozen BK431.out 5
                        have hfz33_6 := blk_frozen BK431.out 6
                        go_wp2
                        go_ret
                        exact ⟨by first | rfl | (simp [errW_none, errW_some] <;> rfl) | (simp [*, errW_none, errW_some] <;> rfl), by repeat (first | (with_reducible first | exact HB.out | apply below_alloc | apply pw_below_drewN | apply below_drew1 | refine below_set ?_ GE431.out) | exact HB.out)⟩
                    · rw [if_neg c30] at H
                      have c30b0 : decide (t424 ≤ 6) = false := decide_eq_false c30
                      clear c30
                      obtain rfl := Option.some.inj H
                      have hcz34_0 : wc.cell? ⟨gb431, 0, none⟩ = some (.int .i64 t424) := (blk_cell BK431.out 0).trans rfl
                      have hcz34_1 : wc.cell? ⟨gb431, 1, none⟩ = some (.int .i64 t425) := (blk_cell BK431.out 1).trans rfl
                      have hcz34_2 : wc.cell? ⟨gb431, 2, none⟩ = some (.int .i64 t426) := (blk_cell BK431.out 2).trans rfl
                      have hcz34_3 : wc.cell? ⟨gb431, 3, none⟩ = some (.int .i64 t427) := (blk_cell BK431.out 3).trans rfl
                      have hcz34_4 : wc.cell? ⟨gb431, 4, none⟩ = some (.int .i64 t428) := (blk_cell BK431.out 4).trans rfl
                      have hcz34_5 : wc.cell? ⟨gb431, 5, none⟩ = some (.int .i64 t429) := (blk_cell BK431.out 5).trans rfl
                      have hcz34_6 : wc.cell? ⟨gb431, 6, none⟩ = some (.int .i64 t430) := (blk_cell BK431.out 6).trans rfl
                      have hfz34_0 := blk_frozen BK431.out 0
                      have hfz34_1 := blk_frozen BK431.out 1
                      have hfz34_2 := blk_frozen BK431.out 2
                      have hfz34_3 := blk_frozen BK431.out 3
                      have hfz34_4 := blk_frozen BK431.out 4
                      have hfz34_5 := blk_frozen BK431.out 5
                      have hfz34_6 := blk_frozen BK431.out 6
                      go_wp2
                      go_ret
                      exact ⟨by first | rfl | (simp [errW_none, errW_some] <;> rfl) | (simp [*, errW_none, errW_some] <;> rfl), by repeat (first | (with_reducible first | exact HB.out | apply below_alloc | apply pw_below_drewN | apply below_drew1 | refine below_set ?_ GE431.out) | exact HB.out)⟩
                  · rw [if_neg c29] at H
                    have c29b0 : decide (4 ≤ t424) = false := decide_eq_false c29
                    clear c29
                    obtain rfl := Option.some.inj H
                    have hcz35_0 : wc.cell? ⟨gb431, 0, none⟩ = some (.int .i64 t424) := (blk_cell BK431.out 0).trans rfl
                    have hcz35_1 : wc.cell? ⟨gb431, 1, none⟩ = some (.int .i64 t425) := (blk_cell BK431.out 1).trans rfl
                    have hcz35_2 : wc.cell? ⟨gb431, 2, none⟩ = some (.int .i64 t426) := (blk_cell BK431.out 2).trans rfl
                    have hcz35_3 : wc.cell? ⟨gb431, 3, none⟩ = some (.int .i64 t427) := (blk_cell BK431.out 3).trans rfl
                    have hcz35_4 : wc.cell? ⟨gb431, 4, none⟩ = some (.int .i64 t428) := (blk_cell BK431.out 4).trans rfl
                    have hcz35_5 : wc.cell? ⟨gb431, 5, none⟩ = some (.int .i64 t429) := (blk_cell BK431.out 5).trans rfl
                    have hcz35_6 : wc.cell? ⟨gb431, 6, none⟩ = some (.int .i64 t430) := (blk_cell BK431.out 6).trans rfl
                    have hfz35_0 := blk_frozen BK431.out 0
                    have hfz35_1 := blk_frozen BK431.out 1
                    have hfz35_2 := blk_frozen BK431.out 2
                    have hfz35_3 := blk_frozen BK431.out 3
                    have hfz35_4 := blk_frozen BK431.out 4
                    have hfz35_5 := blk_frozen BK431.out 5
                    have hfz35_6 := blk_frozen BK431.out 6
                    go_wp2
                    go_ret
                    exact ⟨by first | rfl | (simp [errW_none, errW_some] <;> rfl) | (simp [*, errW_none, errW_some] <;> rfl), by repeat (first | (with_reducible first | exact HB.out | apply below_alloc | apply pw_below_drewN | apply below_drew1 | refine below_set ?_ GE431.out) | exact HB.out)⟩
                · rw [if_neg c28] at H
                  have c28b0 : (t424 == t427) = false := beq_eq_false_iff_ne.mpr c28
                  have c28b1 : (t424 != t427) = true := bne_iff_ne.mpr c28
                  obtain rfl := Option.some.inj H
                  have hcz36_0 : wc.cell? ⟨gb431, 0, none⟩ = some (.int .i64 t424) := (blk_cell BK431.out 0).trans rfl
                  have hcz36_1 : wc.cell? ⟨gb431, 1, none⟩ = some (.int .i64 t425) := (blk_cell BK431.out 1).trans rfl
                  have hcz36_2 : wc.cell? ⟨gb431, 2, none⟩ = some (.int .i64 t426) := (blk_cell BK431.out 2).trans rfl
                  have hcz36_3 : wc.cell? ⟨gb431, 3, none⟩ = some (.int .i64 t427) := (blk_cell BK431.out 3).trans rfl
                  have hcz36_4 : wc.cell? ⟨gb431, 4, none⟩ = some (.int .i64 t428) := (blk_cell BK431.out 4).trans rfl
                  have hcz36_5 : wc.cell? ⟨gb431, 5, none⟩ = some (.int .i64 t429) := (blk_cell BK431.out 5).trans rfl
                  have hcz36_6 : wc.cell? ⟨gb431, 6, none⟩ = some (.int .i64 t430) := (blk_cell BK431.out 6).trans rfl
                  have hfz36_0 := blk_frozen BK431.out 0
                  have hfz36_1 := blk_frozen BK431.out 1
                  have hfz36_2 := blk_frozen BK431.out 2
                  have hfz36_3 := blk_frozen BK431.out 3
                  have hfz36_4 := blk_frozen BK431.out 4
                  have hfz36_5 := blk_frozen BK431.out 5
                  have hfz36_6 := blk_frozen BK431.out 6
                  go_wp2
                  go_ret
                  exact ⟨by first | rfl | (simp [errW_none, errW_some] <;> rfl) | (simp [*, errW_none, errW_some] <;> rfl), by repeat (first | (with_reducible first | exact HB.out | apply below_alloc | apply pw_below_drewN | apply below_drew1 | refine below_set ?_ GE431.out) | exact HB.out)⟩
              · rw [if_neg c27] at H
                have c27b0 : (t425 == 1) = false := beq_eq_false_iff_ne.mpr c27
                have c27b1 : (t425 != 1) = true := bne_iff_ne.mpr c27
                by_cases c37 : t425 = 2
                · rw [if_pos c37] at H
                  have c37b0 : (t425 == 2) = true := beq_iff_eq.mpr c37
                  have c37b1 : (t425 != 2) = false := bne_eq_false_iff_eq.mpr c37
                  clear c37
                  by_cases c38 : x6_20 = true
                  · subst c38
                    have H1 : (if t435 = t427 then (some (decide (t435 ≥ 10))) else (some false)) = some r := by rw [if_pos rfl] at H; exact H
                    clear H
                    have H := H1
                    clear H1
                    by_cases c39 : t435 = t427
                    · rw [if_pos c39] at H
                      have c39b0 : (t435 == t427) = true := beq_iff_eq.mpr c39
                      have c39b1 : (t435 != t427) = false := bne_eq_false_iff_eq.mpr c39
                      clear c39
                      obtain rfl := Option.some.inj H
                      have hcz40_0 : wc.cell? ⟨gb431, 0, none⟩ = some (.int .i64 t424) := (blk_cell BK431.out 0).trans rfl
                      have hcz40_1 : wc.cell? ⟨gb431, 1, none⟩ = some (.int .i64 t425) := (blk_cell BK431.out 1).trans rfl
                      have hcz40_2 : wc.cell? ⟨gb431, 2, none⟩ = some (.int .i64 t426) := (blk_cell BK431.out 2).trans rfl
                      have hcz40_3 : wc.cell? ⟨gb431, 3, none⟩ = some (.int .i64 t427) := (blk_cell BK431.out 3).trans rfl
                      have hcz40_4 : wc.cell? ⟨gb431, 4, none⟩ = some (.int .i64 t428) := (blk_cell BK431.out 4).trans rfl
                      have hcz40_5 : wc.cell? ⟨gb431, 5, none⟩ = some (.int .i64 t429) := (blk_cell BK431.out 5).trans rfl
                      have hcz40_6 : wc.cell? ⟨gb431, 6, none⟩ = some (.int .i64 t430) := (blk_cell BK431.out 6).trans rfl
                      have hfz40_0 := blk_frozen BK431.out 0
                      have hfz40_1 := blk_frozen BK431.out 1
                      have hfz40_2 := blk_frozen BK431.out 2
                      have hfz40_3 := blk_frozen BK431.out 3
                      have hfz40_4 := blk_frozen BK431.out 4
                      have hfz40_5 := blk_frozen BK431.out 5
                      have hfz40_6 := blk_frozen BK431.out 6
                      go_wp2
                      go_ret
                      exact ⟨by first | rfl | (simp [errW_none, errW_some] <;> rfl) | (simp [*, errW_none, errW_some] <;> rfl), by repeat (first | (with_reducible first | exact HB.out | apply below_alloc | apply pw_below_drewN | apply below_drew1 | refine below_set ?_ GE431.out) | exact HB.out)⟩
                    · rw [if_neg c39] at H
                      have c39b0 : (t435 == t427) = false := beq_eq_false_iff_ne.mpr c39
                      have c39b1 : (t435 != t427) = true := bne_iff_ne.mpr c39
                      obtain rfl := Option.some.inj H
                      have hcz41_0 : wc.cell? ⟨gb431, 0, none⟩ = some (.int .i64 t424) := (blk_cell BK431.out 0).trans rfl
                      have hcz41_1 : wc.cell? ⟨gb431, 1, none⟩ = some (.int .i64 t425) := (blk_cell BK431.out 1).trans rfl
                      have hcz41_2 : wc.cell? ⟨gb431, 2, none⟩ = some (.int .i64 t426) := (blk_cell BK431.out 2).trans rfl
                      have hcz41_3 : wc.cell? ⟨gb431, 3, none⟩ = some (.int .i64 t427) := (blk_cell BK431.out 3).trans rfl
                      have hcz41_4 : wc.cell? ⟨gb431, 4, none⟩ = some (.int .i64 t428) := (blk_cell BK431.out 4).trans rfl
                      have hcz41_5 : wc.cell? ⟨gb431, 5, none⟩ = some (.int .i64 t429) := (blk_cell BK431.out 5).trans rfl
                      have hcz41_6 : wc.cell? ⟨gb431, 6, none⟩ = some (.int .i64 t430) := (blk_cell BK431.out 6).trans rfl
                      have hfz41_0 := blk_frozen BK431.out 0
                      have hfz41_1 := blk_frozen BK431.out 1
                      have hfz41_2 := blk_frozen BK431.out 2
                      have hfz41_3 := blk_frozen BK431.out 3
                      have hfz41_4 := blk_frozen BK431.out 4
                      have hfz41_5 := blk_frozen BK431.out 5
                      have hfz41_6 := blk_frozen BK431.out 6
                      go_wp2
                      go_ret
                      exact ⟨by first | rfl | (simp [errW_none, errW_some] <;> rfl) | (simp [*, errW_none, errW_some] <;> rfl), by repeat (first | (with_reducible first | exact HB.out | apply below_alloc | apply pw_below_drewN | apply below_drew1 | refine below_set ?_ GE431.out) | exact HB.out)⟩
                  · replace c38 := Bool.eq_false_iff.mpr c38
                    subst c38
                    have H1 : (if t424 ≥ 1 then (if t424 ≤ 3 then (if t435 = t427 then (some (decide (t435 ≥ 10))) else (some false)) else (some false)) else (some false)) = some r := by rw [if_neg (show ¬ (false = true) by decide)] at H; exact H
                    clear H
                    have H := H1
                    clear H1
                    by_cases c42 : t424 ≥ 1
                    · rw [if_pos c42] at H
                      have c42b0 : decide (1 ≤ t424) = true := decide_eq_true c42
                      clear c42
                      by_cases c43 : t424 ≤ 3
                      · rw [if_pos c43] at H
                        have c43b0 : decide (t424 ≤ 3) = true := decide_eq_true c43
                        clear c43
                        by_cases c44 : t435 = t427
                        · rw [if_pos c44] at H
                          have c44b0 : (t435 == t427) = true := beq_iff_eq.mpr c44
                          have c44b1 : (t435 != t427) = false := bne_eq_false_iff_eq.mpr c44
                          clear c44
                          obtain rfl := Option.some.inj H
                          have hcz45_0 : wc.cell? ⟨gb431, 0, none⟩ = some (.int .i64 t424) := (blk_cell BK431.out 0).trans rfl
                          have hcz45_1 : wc.cell? ⟨gb431, 1, none⟩ = some (.int .i64 t425) := (blk_cell BK431.out 1).trans rfl
                          have hcz45_2 : wc.cell? ⟨gb431, 2, none⟩ = some (.int .i64 t426) := (blk_cell BK431.out 2).trans rfl
                          have hcz45_3 : wc.cell? ⟨gb431, 3, none⟩ = some (.int .i64 t427) := (blk_cell BK431.out 3).trans rfl
                          have hcz45_4 : wc.cell? ⟨gb431, 4, none⟩ = some (.int .i64 t428) := (blk_cell BK431.out 4).trans rfl
                          have hcz45_5 : wc.cell? ⟨gb431, 5, none⟩ = some (.int .i64 t429) := (blk_cell BK431.out 5).trans rfl
                          have hcz45_6 : wc.cell? ⟨gb431, 6, none⟩ = some (.int .i64 t430) := (blk_cell BK431.out 6).trans rfl
                          have hfz45_0 := blk_frozen BK431.out 0
                          have hfz45_1 := blk_frozen BK431.out 1
                          have hfz45_2 := blk_frozen BK431.out 2
                          have hfz45_3 := blk_frozen BK431.out 3
                          have hfz45_4 := blk_frozen BK431.out 4
                          have hfz45_5 := blk_frozen BK431.out 5
                          have hfz45_6 := blk_frozen BK431.out 6
                          go_wp2
                          go_ret
                          exact ⟨by first | rfl | (simp [errW_none, errW_some] <;> rfl) | (simp [*, errW_none, errW_some] <;> rfl), by repeat (first | (with_reducible first | exact HB.out | apply below_alloc | apply pw_below_drewN | apply below_drew1 | refine below_set ?_ GE431.out) | exact HB.out)⟩
                        · rw [if_neg c44] at H
                          have c44b0 : (t435 == t427) = false := beq_eq_false_iff_ne.mpr c44
                          have c44b1 : (t435 != t427) = true := bne_iff_ne.mpr c44
                          obtain rfl := Option.some.inj H
                          have hcz46_0 : wc.cell? ⟨gb431, 0, none⟩ = some (.int .i64 t424) := (blk_cell BK431.out 0).trans rfl
                          have hcz46_1 : wc.cell? ⟨gb431, 1, none⟩ = some (.int .i64 t425) := (blk_cell BK431.out 1).trans rfl
                          have hcz46_2 : wc.cell? ⟨gb431, 2, none⟩ = some (.int .i64 t426) := (blk_cell BK431.out 2).trans rfl
                          have hcz46_3 : wc.cell? ⟨gb431, 3, none⟩ = some (.int .i64 t427) := (blk_cell BK431.out 3).trans rfl
                          have hcz46_4 : wc.cell? ⟨gb431, 4, none⟩ = some (.int .i64 t428) := (blk_cell BK431.out 4).trans rfl
                          have hcz46_5 : wc.cell? ⟨gb431, 5, none⟩ = some (.int .i64 t429) := (blk_cell BK431.out 5).trans rfl
                          have hcz46_6 : wc.cell? ⟨gb431, 6, none⟩ = some (.int .i64 t430) := (blk_cell BK431.out 6).trans rfl
                          have hfz46_0 := blk_frozen BK431.out 0
                          have hfz46_1 := blk_frozen BK431.out 1
                          have hfz46_2 := blk_frozen BK431.out 2
                          have hfz46_3 := blk_frozen BK431.out 3
                          have hfz46_4 := blk_frozen BK431.out 4
                          have hfz46_5 := blk_frozen BK431.out 5
                          have hfz46_6 := blk_frozen BK431.out 6
                          go_wp2
                          go_ret
                          exact ⟨by first | rfl | (simp [errW_none, errW_some] <;> rfl) | (simp [*, errW_none, errW_some] <;> rfl), by repeat (first | (with_reducible first | exact HB.out | apply below_alloc | apply pw_below_drewN | apply below_drew1 | refine below_set ?_ GE431.out) | exact HB.out)⟩
                      · rw [if_neg c43] at H
                        have c43b0 : decide (t424 ≤ 3) = false := decide_eq_false c43
                        clear c43
                        obtain rfl := Option.some.inj H
                        have hcz47_0 : wc.cell? ⟨gb431, 0, none⟩ = some (.int .i64 t424) := (blk_cell BK431.out 0).trans rfl
                        have hcz47_1 : wc.cell? ⟨gb431, 1, none⟩ = some (.int .i64 t425) := (blk_cell BK431.out 1).trans rfl
                        have hcz47_2 : wc.cell? ⟨gb431, 2, none⟩ = some (.int .i64 t426) := (blk_cell BK431.out 2).trans rfl
                        have hcz47_3 : wc.cell? ⟨gb431, 3, none⟩ = some (.int .i64 t427) := (blk_cell BK431.out 3).trans rfl
                        have hcz47_4 : wc.cell? ⟨gb431, 4, none⟩ = some (.int .i64 t428) := (blk_cell BK431.out 4).trans rfl
                        have hcz47_5 : wc.cell? ⟨gb431, 5, none⟩ = some (.int .i64 t429) := (blk_cell BK431.out 5).trans rfl
                        have hcz47_6 : wc.cell? ⟨gb431, 6, none⟩ = some (.int .i64 t430) := (blk_cell BK431.out 6).trans rfl
                        have hfz47_0 := blk_frozen BK431.out 0
                        have hfz47_1 := blk_frozen BK431.out 1
                        have hfz47_2 := blk_frozen BK431.out 2
                        have hfz47_3 := blk_frozen BK431.out 3
                        have hfz47_4 := blk_frozen BK431.out 4
                        have hfz47_5 := blk_frozen BK431.out 5
                        have hfz47_6 := blk_frozen BK431.out 6
                        go_wp2
                        go_ret
                        exact ⟨by first | rfl | (simp [errW_none, errW_some] <;> rfl) | (simp [*, errW_none, errW_some] <;> rfl), by repeat (first | (with_reducible first | exact HB.out | apply below_alloc | apply pw_below_drewN | apply below_drew1 | refine below_set ?_ GE431.out) | exact HB.out)⟩
                    · rw [if_neg c42] at H
                      have c42b0 : decide (1 ≤ t424) = false := decide_eq_false c42
                      clear c42
                      obtain rfl := Option.some.inj H
                      have hcz48_0 : wc.cell? ⟨gb431, 0, none⟩ = some (.int .i64 t424) := (blk_cell BK431.out 0).trans rfl
                      have hcz48_1 : wc.cell? ⟨gb431, 1, none⟩ = some (.int .i64 t425) := (blk_cell BK431.out 1).trans rfl
                      have hcz48_2 : wc.cell? ⟨gb431, 2, none⟩ = some (.int .i64 t426) := (blk_cell BK431.out 2).trans rfl
                      have hcz48_3 : wc.cell? ⟨gb431, 3, none⟩ = some (.int .i64 t427) := (blk_cell BK431.out 3).trans rfl
                      have hcz48_4 : wc.cell? ⟨gb431, 4, none⟩ = some (.int .i64 t428) := (blk_cell BK431.out 4).trans rfl
                      have hcz48_5 : wc.cell? ⟨gb431, 5, none⟩ = some (.int .i64 t429) := (blk_cell BK431.out 5).trans rfl
                      have hcz48_6 : wc.cell? ⟨gb431, 6, none⟩ = some (.int .i64 t430) := (blk_cell BK431.out 6).trans rfl
                      have hfz48_0 := blk_frozen BK431.out 0
                      have hfz48_1 := blk_frozen BK431.out 1
                      have hfz48_2 := blk_frozen BK431.out 2
                      have hfz48_3 := blk_frozen BK431.out 3
                      have hfz48_4 := blk_frozen BK431.out 4
                      have hfz48_5 := blk_frozen BK431.out 5
                      have hfz48_6 := blk_frozen BK431.out 6
                      go_wp2
                      go_ret
                      exact ⟨by first | rfl | (simp [errW_none, errW_some] <;> rfl) | (simp [*, errW_none, errW_some] <;> rfl), by repeat (first | (with_reducible first | exact HB.out | apply below_alloc | apply pw_below_drewN | apply below_drew1 | refine below_set ?_ GE431.out) | exact HB.out)⟩
                · rw [if_neg c37] at H
                  have c37b0 : (t425 == 2) = false := beq_eq_false_iff_ne.mpr c37
                  have c37b1 : (t425 != 2) = true := bne_iff_ne.mpr c37
                  by_cases c49 : x6_20 = true
                  · subst c49
                    have H1 : (if t435 = 0 then (if t425 = 3 then (some true) else (some (t425 == 4))) else (some false)) = some r := by rw [if_pos rfl] at H; exact H
                    clear H
                    have H := H1
                    clear H1
                    by_cases c50 : t435 = 0
                    · rw [if_pos c50] at H
                      have c50b0 : (t435 == 0) = true := beq_iff_eq.mpr c50
                      have c50b1 : (t435 != 0) = false := bne_eq_false_iff_eq.mpr c50
                      clear c50
                      by_cases c51 : t425 = 3
                      · rw [if_pos c51] at H
                        have c51b0 : (t425 == 3) = true := beq_iff_eq.mpr c51
                        have c51b1 : (t425 != 3) = false := bne_eq_false_iff_eq.mpr c51
                        clear c51
                        obtain rfl := Option.some.inj H
                        have hcz52_0 : wc.cell? ⟨gb431, 0, none⟩ = some (.int .i64 t424) := (blk_cell BK431.out 0).trans rfl
                        have hcz52_1 : wc.cell? ⟨gb431, 1, none⟩ = some (.int .i64 t425) := (blk_cell BK431.out 1).trans rfl
                        have hcz52_2 : wc.cell? ⟨gb431, 2, none⟩ = some (.int .i64 t426) := (blk_cell BK431.out 2).trans rfl
                        have hcz52_3 : wc.cell? ⟨gb431, 3, none⟩ = some (.int .i64 t427) := (blk_cell BK431.out 3).trans rfl
                        have hcz52_4 : wc.cell? ⟨gb431, 4, none⟩ = some (.int .i64 t428) := (blk_cell BK431.out 4).trans rfl
                        have hcz52_5 : wc.cell? ⟨gb431, 5, none⟩ = some (.int .i64 t429) := (blk_cell BK431.out 5).trans rfl
                        have hcz52_6 : wc.cell? ⟨gb431, 6, none⟩ = some (.int .i64 t430) := (blk_cell BK431.out 6).trans rfl
                        have hfz52_0 := blk_frozen BK431.out 0
                        have hfz52_1 := blk_frozen BK431.out 1
                        have hfz52_2 := blk_frozen BK431.out 2
                        have hfz52_3 := blk_frozen BK431.out 3
                        have hfz52_4 := blk_frozen BK431.out 4
                        have hfz52_5 := blk_frozen BK431.out 5
                        have hfz52_6 := blk_frozen BK431.out 6
                        go_wp2
                        go_ret
                        exact ⟨by first | rfl | (simp [errW_none, errW_some] <;> rfl) | (simp [*, errW_none, errW_some] <;> rfl), by repeat (first | (with_reducible first | exact HB.out | apply below_alloc | apply pw_below_drewN | apply below_drew1 | refine below_set ?_ GE431.out) | exact HB.out)⟩
                      · rw [if_neg c51] at H
                        have c51b0 : (t425 == 3) = false := beq_eq_false_iff_ne.mpr c51
                        have c51b1 : (t425 != 3) = true := bne_iff_ne.mpr c51
                        obtain rfl := Option.some.inj H
                        have hcz53_0 : wc.cell? ⟨gb431, 0, none⟩ = some (.int .i64 t424) := (blk_cell BK431.out 0).trans rfl
                        have hcz53_1 : wc.cell? ⟨gb431, 1, none⟩ = some (.int .i64 t425) := (blk_cell BK431.out 1).trans rfl
                        have hcz53_2 : wc.cell? ⟨gb431, 2, none⟩ = some (.int .i64 t426) := (blk_cell BK431.out 2).trans rfl
                        have hcz53_3 : wc.cell? ⟨gb431, 3, none⟩ = some (.int .i64 t427) := (blk_cell BK431.out 3).trans rfl
                        have hcz53_4 : wc.cell? ⟨gb431, 4, none⟩ = some (.int .i64 t428) := (blk_cell BK431.out 4).trans rfl
                        have hcz53_5 : wc.cell? ⟨gb431, 5, none⟩ = some (.int .i64 t429) := (blk_cell BK431.out 5).trans rfl
                        have hcz53_6 : wc.cell? ⟨gb431, 6, none⟩ = some (.int .i64 t430) := (blk_cell BK431.out 6).trans rfl
                        have hfz53_0 := blk_frozen BK431.out 0
                        have hfz53_1 := blk_frozen BK431.out 1
                        have hfz53_2 := blk_frozen BK431.out 2
                        have hfz53_3 := blk_frozen BK431.out 3
                        have hfz53_4 := blk_frozen BK431.out 4
                        have hfz53_5 := blk_frozen BK431.out 5
                        have hfz53_6 := blk_frozen BK431.out 6
                        go_wp2
                        go_ret
                        exact ⟨by first | rfl | (simp [errW_none, errW_some] <;> rfl) | (simp [*, errW_none, errW_some] <;> rfl), by repeat (first | (with_reducible first | exact HB.out | apply below_alloc | apply pw_below_drewN | apply below_drew1 | refine below_set ?_ GE431.out) | exact HB.out)⟩
                    · rw [if_neg c50] at H
                      have c50b0 : (t435 == 0) = false := beq_eq_false_iff_ne.mpr c50
                      have c50b1 : (t435 != 0) = true := bne_iff_ne.mpr c50
                      obtain rfl := Option.some.inj H
                      have hcz54_0 : wc.cell? ⟨gb431, 0, none⟩ = some (.int .i64 t424) := (blk_cell BK431.out 0).trans rfl
                      have hcz54_1 : wc.cell? ⟨gb431, 1, none⟩ = some (.int .i64 t425) := (blk_cell BK431.out 1).trans rfl
                      have hcz54_2 : wc.cell? ⟨gb431, 2, none⟩ = some (.int .i64 t426) := (blk_cell BK431.out 2).trans rfl
                      have hcz54_3 : wc.cell? ⟨gb431, 3, none⟩ = some (.int .i64 t427) := (blk_cell BK431.out 3).trans rfl
                      have hcz54_4 : wc.cell? ⟨gb431, 4, none⟩ = some (.int .i64 t428) := (blk_cell BK431.out 4).trans rfl
                      have hcz54_5 : wc.cell? ⟨gb431, 5, none⟩ = some (.int .i64 t429) := (blk_cell BK431.out 5).trans rfl
                      have hcz54_6 : wc.cell? ⟨gb431, 6, none⟩ = some (.int .i64 t430) := (blk_cell BK431.out 6).trans rfl
                      have hfz54_0 := blk_frozen BK431.out 0
                      have hfz54_1 := blk_frozen BK431.out 1
                      have hfz54_2 := blk_frozen BK431.out 2
                      have hfz54_3 := blk_frozen BK431.out 3
                      have hfz54_4 := blk_frozen BK431.out 4
                      have hfz54_5 := blk_frozen BK431.out 5
                      have hfz54_6 := blk_frozen BK431.out 6
                      go_wp2
                      go_ret
                      exact ⟨by first | rfl | (simp [errW_none, errW_some] <;> rfl) | (simp [*, errW_none, errW_some] <;> rfl), by repeat (first | (with_reducible first | exact HB.out | apply below_alloc | apply pw_below_drewN | apply below_drew1 | refine below_set ?_ GE431.out) | exact HB.out)⟩
                  · replace c49 := Bool.eq_false_iff.mpr c49
                    subst c49
                    have H1 : (some false) = some r := by rw [if_neg (show ¬ (false = true) by decide)] at H; exact H
                    clear H
                    have H := H1
                    clear H1
                    obtain rfl := Option.some.inj H
                    have hcz55_0 : wc.cell? ⟨gb431, 0, none⟩ = some (.int .i64 t424) := (blk_cell BK431.out 0).trans rfl
                    have hcz55_1 : wc.cell? ⟨gb431, 1, none⟩ = some (.int .i64 t425) := (blk_cell BK431.out 1).trans rfl
                    have hcz55_2 : wc.cell? ⟨gb431, 2, none⟩ = some (.int .i64 t426) := (blk_cell BK431.out 2).trans rfl
                    have hcz55_3 : wc.cell? ⟨gb431, 3, none⟩ = some (.int .i64 t427) := (blk_cell BK431.out 3).trans rfl
                    have hcz55_4 : wc.cell? ⟨gb431, 4, none⟩ = some (.int .i64 t428) := (blk_cell BK431.out 4).trans rfl
                    have hcz55_5 : wc.cell? ⟨gb431, 5, none⟩ = some (.int .i64 t429) := (blk_cell BK431.out 5).trans rfl
                    have hcz55_6 : wc.cell? ⟨gb431, 6, none⟩ = some (.int .i64 t430) := (blk_cell BK431.out 6).trans rfl
                    have hfz55_0 := blk_frozen BK431.out 0
                    have hfz55_1 := blk_frozen BK431.out 1
                    have hfz55_2 := blk_frozen BK431.out 2
                    have hfz55_3 := blk_frozen BK431.out 3
                    have hfz55_4 := blk_frozen BK431.out 4
                    have hfz55_5 := blk_frozen BK431.out 5
                    have hfz55_6 := blk_frozen BK431.out 6
                    go_wp2
                    go_ret
                    exact ⟨by first | rfl | (simp [errW_none, errW_some] <;> rfl) | (simp [*, errW_none, errW_some] <;> rfl), by repeat (first | (with_reducible first | exact HB.out | apply below_alloc | apply pw_below_drewN | apply below_drew1 | refine below_set ?_ GE431.out) | exact HB.out)⟩

/-- THE ONE PURE STATEMENT of laws_FnSealForm: yours. -/
def laws_FnSealForm.Pure : Prop := ∀ (l0 : List Int), l0.length ≤ maxLen → l0.length * 1 ≤ 140737488351232 → (∀ x ∈ l0, (Lit.int .u8 x).wf = true) → ∃ k, laws_FnSealForm.f k l0 = some true
theorem laws_FnSealForm.walk (P : laws_FnSealForm.Pure) (a0 : Option Addr) (len0 cap0 : Nat) (z0 : List Int) (w : World) (w0 : (a0 = none ∧ len0 = 0 ∧ cap0 = 0 ∧ z0 = []) ∨ ∃ x, a0 = some x ∧ len0 ≤ cap0 ∧ cap0 ≤ maxLen ∧ z0.length = cap0 ∧ (∀ i, i < z0.length → w.cell? (x.add i) = some (.int .u8 (z0.getD i 0))) ∧ ∀ n ∈ z0, (Lit.int .u8 n).wf = true) (y0 : len0 * 1 ≤ 140737488351232) :
    Calls Try.prog 9 #[.slice a0 len0 cap0] w fun e w' => e = .returned (.bool true) ∧ Below w.heap.size w w' := by
  obtain ⟨l0, rfl, hr0, hm0, hw0, hc0⟩ := ReadsInt.ofRowC w0
  obtain ⟨k, h⟩ := P l0 hm0 y0 hw0
  refine (laws_FnSealForm.calls k _ _ l0 true w (Kd.C_of_reads (d := (0 : Int)) (h1 := fun _ => rfl) hr0) hc0 h).mono ?_
  rintro e w' ⟨rfl, hd⟩
  exact ⟨rfl, hd⟩

end Go.Proofs.Ythjllmmocanhgaa.Hp
