-- hp.py
import Derived.Test.YtbipicjijbnbbaaDoorHx0
import Derived.Test.YtbipicjijbnbbaaDoorHx1
import Derived.Test.YtbipicjijbnbbaaDoorHx6
import Derived.Test.YtbipicjijbnbbaaDoorHx8
import Derived.Test.YtbipicjijbnbbaaDoorHx12
import Derived.Test.YtbipicjijbnbbaaDoorHx15
import Derived.Test.YtbipicjijbnbbaaDoorHx17
namespace Go.Proofs.YtbipicjijbnbbaaDoor.Hp
open Go.RowKit Go.Proofs.YtbipicjijbnbbaaDoorW.PrintWords Go.Proofs.YtbipicjijbnbbaaDoorW.PrintLast Go.Proofs.YtbipicjijbnbbaaDoorW.PrintMore
attribute [local go_sem] max2_int min2_int max_two min_two max_three min_three max_four min_four   -- for this text's walks alone
set_option linter.unusedVariables false
set_option linter.unusedSimpArgs false

attribute [local go_sem high] eqA24
-- squeezed by wip/tools/squeeze.py
theorem z27x6 {P : Prop} (h : P := by (with_reducible repeat (first | refine blk_drewN ?_ _ | refine blk_drew ?_ | refine blk_alloc ?_ _)); exact BK348.out) : P := h
theorem z27x5 {P : Prop} (h : P := by repeat (first | (with_reducible first | exact HB.out | apply below_alloc | apply pw_below_drewN | apply below_drew1) | exact HB.out)) : P := h
theorem z27x4 {P : Prop} (h : P := by (try simp only [List.map_toArray, List.map_cons, List.map_nil]); first | done | rfl | (simp only [List.length_drop, List.length_take]; rfl)) : P := h
theorem z27x3 {P : Prop} (h : P := by repeat (first | (with_reducible first | exact HB.out | apply below_alloc | apply pw_below_drewN | apply below_drew1 | refine below_set ?_ GE348.out) | exact HB.out)) : P := h
theorem z27x2 {P : Prop} (h : P := by rw [hg]; exact (below_size (by repeat (first | (with_reducible first | exact HB.out | apply below_alloc | apply pw_below_drewN | apply below_drew1 | refine below_set ?_ GE348.out) | exact HB.out)))) : P := h
theorem z27x1 {P : Prop} (h : P := by rw [hg]; exact Nat.ne_of_lt (blk_lt (g := gb348) (o := .cells #[.int .i64 t341, .int .i64 t342, .int .i64 t343, .int .i64 t344, .int .i64 t345, .int .i64 t346, .int .i64 t347] 24 (0, 0)) (by (with_reducible repeat (first | refine blk_drewN ?_ _ | refine blk_drew ?_ | refine blk_alloc ?_ _)); exact BK348.out))) : P := h
theorem z27x0 {P : Prop} (h : P := by rw [hg]; exact Nat.ne_of_gt (blk_lt (g := gb348) (o := .cells #[.int .i64 t341, .int .i64 t342, .int .i64 t343, .int .i64 t344, .int .i64 t345, .int .i64 t346, .int .i64 t347] 24 (0, 0)) (by (with_reducible repeat (first | refine blk_drewN ?_ _ | refine blk_drew ?_ | refine blk_alloc ?_ _)); exact BK348.out))) : P := h
/-! ### laws_FnSealBack: function 6 -/
def laws_FnSealBack.j0 : Nat → ByteArray → Bool → Int → Int → Int → Int → Int → Int → Int → Option (Bool)
 | 0, _, _, _, _, _, _, _, _, _ => none
 | k + 1, x4, x21, x349000, x349001, x349002, x349003, x349004, x349005, x349006 => if x21 = true then ((spec_SealText.f k x349000 x349001 x349002 x349003 x349004 x349005 x349006).bind fun t351 => (some (x4.toList == t351.toList))) else ((impl_SealRead.f x4).bind fun bt352 => (if bt352.2.2.2.2.2.2.2 = true then (if (bt352.1 == x349000 && (bt352.2.1 == x349001 && (bt352.2.2.1 == x349002 && (bt352.2.2.2.1 == x349003 && (bt352.2.2.2.2.1 == x349004 && (bt352.2.2.2.2.2.1 == x349005 && (bt352.2.2.2.2.2.2.1 == x349006))))))) = true then ((impl_SealOk.f x349000 x349001 x349002 x349003 x349004 x349005 x349006).bind fun t361 => (some t361)) else (some false)) else (some false)))
def laws_FnSealBack.f (k : Nat) (l0 : List Int) : Option (Bool) := if (l0.length : Int) > 1048576 then (some true) else ((spec_DrawSealText.f k l0).bind fun bt341 => ((impl_SealText.f bt341.1 bt341.2.1 bt341.2.2.1 bt341.2.2.2.1 bt341.2.2.2.2.1 bt341.2.2.2.2.2.1 bt341.2.2.2.2.2.2).bind fun t349 => ((spec_SealText.f k bt341.1 bt341.2.1 bt341.2.2.1 bt341.2.2.2.1 bt341.2.2.2.2.1 bt341.2.2.2.2.2.1 bt341.2.2.2.2.2.2).bind fun t350 => (if t349.toList = t350.toList then (laws_FnSealBack.j0 k t349 (t349.toList == ([] : List UInt8)) bt341.1 bt341.2.1 bt341.2.2.1 bt341.2.2.2.1 bt341.2.2.2.2.1 bt341.2.2.2.2.2.1 bt341.2.2.2.2.2.2) else (laws_FnSealBack.j0 k t349 true bt341.1 bt341.2.1 bt341.2.2.1 bt341.2.2.2.1 bt341.2.2.2.2.1 bt341.2.2.2.2.2.1 bt341.2.2.2.2.2.2)))))
theorem laws_FnSealBack.mono_l : ∀ k, (∀ y0 y1 y2 y3 y4 y5 y6 y7 y8, LeO (laws_FnSealBack.j0 k y0 y1 y2 y3 y4 y5 y6 y7 y8) (laws_FnSealBack.j0 (k + 1) y0 y1 y2 y3 y4 y5 y6 y7 y8))
 | 0 => fun _ _ _ _ _ _ _ _ _ r h => by simp [laws_FnSealBack.j0] at h
 | k + 1 => by
  have ih0 := laws_FnSealBack.mono_l k
  ·intro y0 y1 y2 y3 y4 y5 y6 y7 y8
   unfold laws_FnSealBack.j0
   repeat' first
   | (with_reducible exact ih0 _ _ _ _ _ _ _ _ _)
   | (with_reducible exact spec_DrawSealText.mono _ _)
   | (with_reducible exact spec_SealText.mono _ _ _ _ _ _ _ _)
   | (with_reducible exact LeO.refl _)
   | (with_reducible exact LeO.none _)
   | (with_reducible refine LeO.ite ?_ ?_)
   | (with_reducible refine LeO.bind ?_ (fun _ => ?_))
   | exact ih0 _ _ _ _ _ _ _ _ _
   | exact spec_DrawSealText.mono _ _
   | exact spec_SealText.mono _ _ _ _ _ _ _ _
   | exact LeO.none _
   | refine LeO.ite ?_ ?_
   | refine LeO.bind ?_ (fun _ => ?_)
theorem laws_FnSealBack.mono : ∀ a0 k, LeO (laws_FnSealBack.f k a0) (laws_FnSealBack.f (k + 1) a0) := by
 intro a0 k
 have ih0 := laws_FnSealBack.mono_l k
 unfold laws_FnSealBack.f
 repeat' first
   | (with_reducible exact ih0 _ _ _ _ _ _ _ _ _)
   | (with_reducible exact spec_DrawSealText.mono _ _)
   | (with_reducible exact spec_SealText.mono _ _ _ _ _ _ _ _)
   | (with_reducible exact LeO.refl _)
   | (with_reducible exact LeO.none _)
   | (with_reducible refine LeO.ite ?_ ?_)
   | (with_reducible refine LeO.bind ?_ (fun _ => ?_))
   | exact ih0 _ _ _ _ _ _ _ _ _
   | exact spec_DrawSealText.mono _ _
   | exact spec_SealText.mono _ _ _ _ _ _ _ _
   | exact LeO.none _
   | refine LeO.ite ?_ ?_
   | refine LeO.bind ?_ (fun _ => ?_)
set_option maxHeartbeats 8000000 in
set_option maxRecDepth 100000 in
theorem laws_FnSealBack.calls (k : Nat) (A0 : Option Addr) (c0 : Nat) (l0 : List Int) (r : Bool) (w : World) (hr0 : Kd.C (Kd.int .u8) w A0 l0.length l0) (hc0 : l0.length ≤ c0) (h : laws_FnSealBack.f k l0 = some r) (ht : Door w) :
  Calls Tryd.prog 6 #[.slice A0 l0.length c0] w fun e w' => e = .returned (.bool r) ∧ Below w.heap.size w w' := by
 have HT := Aside0.mk ht
 clear ht
 have hu24 := Tryd.underlying24
 have HR0 := Aside0.mk hr0
 have HC0 := Aside0.mk hc0
 clear hr0 hc0
 have HB := Aside0.mk (Below.refl w.heap.size w)
 have H : (if (l0.length : Int) > 1048576 then (some true) else ((spec_DrawSealText.f k l0).bind fun bt341 => ((impl_SealText.f bt341.1 bt341.2.1 bt341.2.2.1 bt341.2.2.2.1 bt341.2.2.2.2.1 bt341.2.2.2.2.2.1 bt341.2.2.2.2.2.2).bind fun t349 => ((spec_SealText.f k bt341.1 bt341.2.1 bt341.2.2.1 bt341.2.2.2.1 bt341.2.2.2.2.1 bt341.2.2.2.2.2.1 bt341.2.2.2.2.2.2).bind fun t350 => (if t349.toList = t350.toList then (laws_FnSealBack.j0 k t349 (t349.toList == ([] : List UInt8)) bt341.1 bt341.2.1 bt341.2.2.1 bt341.2.2.2.1 bt341.2.2.2.2.1 bt341.2.2.2.2.2.1 bt341.2.2.2.2.2.2) else (laws_FnSealBack.j0 k t349 true bt341.1 bt341.2.1 bt341.2.2.1 bt341.2.2.2.1 bt341.2.2.2.2.1 bt341.2.2.2.2.2.1 bt341.2.2.2.2.2.2)))))) = some r := h
 clear h
 by_cases c2 : (l0.length : Int) > 1048576
 ·rw [if_pos c2] at H
  have c2b0 : decide (1048576 < (l0.length : Int)) = true := decide_eq_true c2
  have c2b1 : decide (1048576 < l0.length) = true := decide_eq_true (by omega)
  clear c2
  obtain rfl := Option.some.inj H
  go_enter Tryd.func6, Tryd.ntmps6
  go_wp2
  go_ret
  exact ⟨by first | rfl | (simp [errW_none, errW_some] <;> rfl) | (simp [*, errW_none, errW_some] <;> rfl), by repeat (first | (with_reducible first | exact HB.out | apply below_alloc | apply pw_below_drewN | apply below_drew1) | exact HB.out)⟩
 ·rw [if_neg c2] at H
  have c2b0 : decide (1048576 < (l0.length : Int)) = false := decide_eq_false c2
  have c2b1 : decide (1048576 < l0.length) = false := decide_eq_false (by omega)
  clear c2
  replace H := Option.bind_eq_some_iff.mp H
  obtain ⟨⟨t341, t342, t343, t344, t345, t346, t347⟩, A30, H⟩ := H
  replace H : ((impl_SealText.f t341 t342 t343 t344 t345 t346 t347).bind fun t349 => ((spec_SealText.f k t341 t342 t343 t344 t345 t346 t347).bind fun t350 => (if t349.toList = t350.toList then (laws_FnSealBack.j0 k t349 (t349.toList == ([] : List UInt8)) t341 t342 t343 t344 t345 t346 t347) else (laws_FnSealBack.j0 k t349 true t341 t342 t343 t344 t345 t346 t347)))) = some r := H
  have A3 := Aside0.mk A30
  clear A30
  replace H := Option.bind_eq_some_iff.mp H
  obtain ⟨t349, A40, H⟩ := H
  replace H : ((spec_SealText.f k t341 t342 t343 t344 t345 t346 t347).bind fun t350 => (if t349.toList = t350.toList then (laws_FnSealBack.j0 k t349 (t349.toList == ([] : List UInt8)) t341 t342 t343 t344 t345 t346 t347) else (laws_FnSealBack.j0 k t349 true t341 t342 t343 t344 t345 t346 t347))) = some r := H
  have A4 := Aside0.mk A40
  clear A40
  have HC5 := Aside0.mk H
  clear H
  go_enter Tryd.func6, Tryd.ntmps6
  go_upto_region 5 with (first | ((with_reducible refine gate_callee (f := 7) rfl ?_); refine goesL_ (some 11) rfl rfl Tryd.func7 (by kernel_rfl) rfl #[.slice A0 l0.length c0] rfl z27x4 ?_; (with_reducible refine (spec_DrawSealText.calls k _ _ l0 t341 t342 t343 t344 t345 t346 t347 _ ?side1 ?side2 A3.out).mono ?_); (case side1 => repeat (first | exact HR0.out | (with_reducible refine Kd.C_alloc ?_ _) | (with_reducible refine Kd.C_drewN ?_ _) | (with_reducible refine Kd.C_drew ?_))); (case side2 => exact HC0.out); rintro e w6 ⟨rfl, hb⟩; refine ⟨_, rfl, ?_⟩; have n0_ := Aside0.mk (below_step z27x5 hb); clear HB; have HB := n0_; clear n0_; (try clear hb); (try clear hb2); (try clear hk); (try clear hi)) | ((with_reducible refine gate_dst (N := 3) rfl ?_); refine box_event ?hg (N := 3) ?hd (cs := #[.int .i64 0, .int .i64 0, .int .i64 0, .int .i64 0, .int .i64 0, .int .i64 0, .int .i64 0]) (t := 24) ?hr ?_; (case hd => rfl); (case hg => rfl); (case hr => first | (go_simp; done) | (go_simp; rfl)); intro gb348 hg w7 hbox hb; have n0_ := Aside0.mk (below_step z27x5 hb); have n1_ := Aside0.mk (hbox); have n2_ := Aside0.mk ((by rw [hg]; exact (below_size z27x5) : w.heap.size ≤ gb348)); have n3_ := Aside0.mk ((by rw [hg]; exact (below_size z27x5) : w.heap.size ≤ gb348)); clear HB; have HB := n0_; have BK348 := n1_; have GW348 := n2_; have GE348 := n3_; clear n0_ n1_ n2_ n3_; clear hb hbox hg; have hcz8_0 : w7.cell? ⟨gb348, 0, none⟩ = some (.int .i64 0) := (blk_cell BK348.out 0).trans rfl; have hcz8_1 : w7.cell? ⟨gb348, 1, none⟩ = some (.int .i64 0) := (blk_cell BK348.out 1).trans rfl; have hcz8_2 : w7.cell? ⟨gb348, 2, none⟩ = some (.int .i64 0) := (blk_cell BK348.out 2).trans rfl; have hcz8_3 : w7.cell? ⟨gb348, 3, none⟩ = some (.int .i64 0) := (blk_cell BK348.out 3).trans rfl; have hcz8_4 : w7.cell? ⟨gb348, 4, none⟩ = some (.int .i64 0) := (blk_cell BK348.out 4).trans rfl; have hcz8_5 : w7.cell? ⟨gb348, 5, none⟩ = some (.int .i64 0) := (blk_cell BK348.out 5).trans rfl; have hcz8_6 : w7.cell? ⟨gb348, 6, none⟩ = some (.int .i64 0) := (blk_cell BK348.out 6).trans rfl; have hfz8_0 := blk_frozen BK348.out 0; have hfz8_1 := blk_frozen BK348.out 1; have hfz8_2 := blk_frozen BK348.out 2; have hfz8_3 := blk_frozen BK348.out 3; have hfz8_4 := blk_frozen BK348.out 4; have hfz8_5 := blk_frozen BK348.out 5; have hfz8_6 := blk_frozen BK348.out 6) | ((with_reducible refine gate_callee (f := 8) rfl ?_); refine goesL_ (some 13) rfl rfl Tryd.func8 (by kernel_rfl) rfl #[.agg #[.int .i64 t341, .int .i64 t342, .int .i64 t343, .int .i64 t344, .int .i64 t345, .int .i64 t346, .int .i64 t347]] rfl z27x4 ?_; (with_reducible refine (impl_SealText.calls t341 t342 t343 t344 t345 t346 t347 t349 _ A4.out ?tens1).mono ?_); (case tens1 => exact (Door.on HT.out z27x3).tens); rintro e w9 ⟨rfl, hb⟩; refine ⟨_, rfl, ?_⟩; have n0_ := Aside0.mk (blk_below (g := gb348) (o := .cells #[.int .i64 t341, .int .i64 t342, .int .i64 t343, .int .i64 t344, .int .i64 t345, .int .i64 t346, .int .i64 t347] 24 (0, 0)) (by (with_reducible repeat (first | refine blk_drewN ?_ _ | refine blk_drew ?_ | refine blk_alloc ?_ _)); refine blk_put (cs := #[.int .i64 t341, .int .i64 t342, .int .i64 t343, .int .i64 t344, .int .i64 t345, .int .i64 t346, .int .i64 0]) ?_ 6 _ rfl; (with_reducible repeat (first | refine blk_drewN ?_ _ | refine blk_drew ?_ | refine blk_alloc ?_ _)); refine blk_put (cs := #[.int .i64 t341, .int .i64 t342, .int .i64 t343, .int .i64 t344, .int .i64 t345, .int .i64 0, .int .i64 0]) ?_ 5 _ rfl; (with_reducible repeat (first | refine blk_drewN ?_ _ | refine blk_drew ?_ | refine blk_alloc ?_ _)); refine blk_put (cs := #[.int .i64 t341, .int .i64 t342, .int .i64 t343, .int .i64 t344, .int .i64 0, .int .i64 0, .int .i64 0]) ?_ 4 _ rfl; (with_reducible repeat (first | refine blk_drewN ?_ _ | refine blk_drew ?_ | refine blk_alloc ?_ _)); refine blk_put (cs := #[.int .i64 t341, .int .i64 t342, .int .i64 t343, .int .i64 0, .int .i64 0, .int .i64 0, .int .i64 0]) ?_ 3 _ rfl; (with_reducible repeat (first | refine blk_drewN ?_ _ | refine blk_drew ?_ | refine blk_alloc ?_ _)); refine blk_put (cs := #[.int .i64 t341, .int .i64 t342, .int .i64 0, .int .i64 0, .int .i64 0, .int .i64 0, .int .i64 0]) ?_ 2 _ rfl; (with_reducible repeat (first | refine blk_drewN ?_ _ | refine blk_drew ?_ | refine blk_alloc ?_ _)); refine blk_put (cs := #[.int .i64 t341, .int .i64 0, .int .i64 0, .int .i64 0, .int .i64 0, .int .i64 0, .int .i64 0]) ?_ 1 _ rfl; (with_reducible repeat (first | refine blk_drewN ?_ _ | refine blk_drew ?_ | refine blk_alloc ?_ _)); refine blk_put (cs := #[.int .i64 0, .int .i64 0, .int .i64 0, .int .i64 0, .int .i64 0, .int .i64 0, .int .i64 0]) ?_ 0 _ rfl; (with_reducible repeat (first | refine blk_drewN ?_ _ | refine blk_drew ?_ | refine blk_alloc ?_ _)); exact BK348.out) hb); have n1_ := Aside0.mk (below_step z27x3 hb); clear BK348; clear HB; have BK348 := n0_; have HB := n1_; clear n0_ n1_; (try clear hb); (try clear hb2); (try clear hk); (try clear hi)))
  (try simp only [Act.put, List.setIfInBounds_toArray, List.set_cons_zero, List.set_cons_succ])
  go_cut [21] (fun v21 wc => ∃ (kq : Nat) (x21_4 : Bool), v21 = .bool x21_4 ∧ Aside0 (laws_FnSealBack.j0 kq t349 x21_4 t341 t342 t343 t344 t345 t346 t347 = some r) ∧ Aside0 (kq ≤ k) ∧ Aside0 (wc.heap[gb348]? = some (.cells #[.int .i64 t341, .int .i64 t342, .int .i64 t343, .int .i64 t344, .int .i64 t345, .int .i64 t346, .int .i64 t347] 24 (0, 0))) ∧ Aside0 (Below w.heap.size w wc))
  case first =>
   have H := HC5.out
   clear HC5
   replace H := Option.bind_eq_some_iff.mp H
   obtain ⟨t350, A100, H⟩ := H
   replace H : (if t349.toList = t350.toList then (laws_FnSealBack.j0 k t349 (t349.toList == ([] : List UInt8)) t341 t342 t343 t344 t345 t346 t347) else (laws_FnSealBack.j0 k t349 true t341 t342 t343 t344 t345 t346 t347)) = some r := H
   have A10 := Aside0.mk A100
   clear A100
   by_cases c11 : t349.toList = t350.toList
   ·rw [if_pos c11] at H
    have c11b0 : (t349.toList == t350.toList) = true := beq_iff_eq.mpr c11
    have c11b1 : (t349.toList != t350.toList) = false := bne_eq_false_iff_eq.mpr c11
    clear c11
    (first | rw [c11b0] | (simp only [i64_w, i32_w]; rw [c11b0]) | skip)
    have H' := Aside0.mk H
    clear H
    have hcz12_0 : w9.cell? ⟨gb348, 0, none⟩ = some (.int .i64 t341) := (blk_cell BK348.out 0).trans rfl
    have hcz12_1 : w9.cell? ⟨gb348, 1, none⟩ = some (.int .i64 t342) := (blk_cell BK348.out 1).trans rfl
    have hcz12_2 : w9.cell? ⟨gb348, 2, none⟩ = some (.int .i64 t343) := (blk_cell BK348.out 2).trans rfl
    have hcz12_3 : w9.cell? ⟨gb348, 3, none⟩ = some (.int .i64 t344) := (blk_cell BK348.out 3).trans rfl
    have hcz12_4 : w9.cell? ⟨gb348, 4, none⟩ = some (.int .i64 t345) := (blk_cell BK348.out 4).trans rfl
    have hcz12_5 : w9.cell? ⟨gb348, 5, none⟩ = some (.int .i64 t346) := (blk_cell BK348.out 5).trans rfl
    have hcz12_6 : w9.cell? ⟨gb348, 6, none⟩ = some (.int .i64 t347) := (blk_cell BK348.out 6).trans rfl
    have hfz12_0 := blk_frozen BK348.out 0
    have hfz12_1 := blk_frozen BK348.out 1
    have hfz12_2 := blk_frozen BK348.out 2
    have hfz12_3 := blk_frozen BK348.out 3
    have hfz12_4 := blk_frozen BK348.out 4
    have hfz12_5 := blk_frozen BK348.out 5
    have hfz12_6 := blk_frozen BK348.out 6
    go_wp2_with (first | ((with_reducible refine gate_callee (f := 9) rfl ?_); refine goesL_ (some 16) rfl rfl Tryd.func9 (by kernel_rfl) rfl #[.agg #[.int .i64 t341, .int .i64 t342, .int .i64 t343, .int .i64 t344, .int .i64 t345, .int .i64 t346, .int .i64 t347]] rfl z27x4 ?_; (with_reducible refine (spec_SealText.calls k t341 t342 t343 t344 t345 t346 t347 t350 _ A10.out).mono ?_); rintro e w13 ⟨rfl, hb⟩; refine ⟨_, rfl, ?_⟩; have n0_ := Aside0.mk (blk_below (g := gb348) (o := .cells #[.int .i64 t341, .int .i64 t342, .int .i64 t343, .int .i64 t344, .int .i64 t345, .int .i64 t346, .int .i64 t347] 24 (0, 0)) z27x6 hb); have n1_ := Aside0.mk (below_step z27x3 hb); clear BK348; clear HB; have BK348 := n0_; have HB := n1_; clear n0_ n1_; (try clear hb); (try clear hb2); (try clear hk); (try clear hi)))
    go_meet
    case rel => exact ⟨_, ((t349.toList == ([] : List UInt8))), (by first | rfl | (simp; done) | (simp [*]; done)), H', ⟨by first | omega | exact Nat.le_refl _⟩, ⟨by (with_reducible repeat (first | refine blk_drewN ?_ _ | refine blk_drew ?_ | refine blk_alloc ?_ _)); exact BK348.out⟩, ⟨by repeat (first | (with_reducible first | exact HB.out | apply below_alloc | apply pw_below_drewN | apply below_drew1 | refine below_set ?_ GE348.out) | exact HB.out)⟩⟩
   ·rw [if_neg c11] at H
    have c11b0 : (t349.toList == t350.toList) = false := beq_eq_false_iff_ne.mpr c11
    have c11b1 : (t349.toList != t350.toList) = true := bne_iff_ne.mpr c11
    (first | rw [c11b0] | (simp only [i64_w, i32_w]; rw [c11b0]) | skip)
    have H' := Aside0.mk H
    clear H
    have hcz14_0 : w9.cell? ⟨gb348, 0, none⟩ = some (.int .i64 t341) := (blk_cell BK348.out 0).trans rfl
    have hcz14_1 : w9.cell? ⟨gb348, 1, none⟩ = some (.int .i64 t342) := (blk_cell BK348.out 1).trans rfl
    have hcz14_2 : w9.cell? ⟨gb348, 2, none⟩ = some (.int .i64 t343) := (blk_cell BK348.out 2).trans rfl
    have hcz14_3 : w9.cell? ⟨gb348, 3, none⟩ = some (.int .i64 t344) := (blk_cell BK348.out 3).trans rfl
    have hcz14_4 : w9.cell? ⟨gb348, 4, none⟩ = some (.int .i64 t345) := (blk_cell BK348.out 4).trans rfl
    have hcz14_5 : w9.cell? ⟨gb348, 5, none⟩ = some (.int .i64 t346) := (blk_cell BK348.out 5).trans rfl
    have hcz14_6 : w9.cell? ⟨gb348, 6, none⟩ = some (.int .i64 t347) := (blk_cell BK348.out 6).trans rfl
    have hfz14_0 := blk_frozen BK348.out 0
    have hfz14_1 := blk_frozen BK348.out 1
    have hfz14_2 := blk_frozen BK348.out 2
    have hfz14_3 := blk_frozen BK348.out 3
    have hfz14_4 := blk_frozen BK348.out 4
    have hfz14_5 := blk_frozen BK348.out 5
    have hfz14_6 := blk_frozen BK348.out 6
    go_wp2_with (first | ((with_reducible refine gate_callee (f := 9) rfl ?_); refine goesL_ (some 16) rfl rfl Tryd.func9 (by kernel_rfl) rfl #[.agg #[.int .i64 t341, .int .i64 t342, .int .i64 t343, .int .i64 t344, .int .i64 t345, .int .i64 t346, .int .i64 t347]] rfl z27x4 ?_; (with_reducible refine (spec_SealText.calls k t341 t342 t343 t344 t345 t346 t347 t350 _ A10.out).mono ?_); rintro e w15 ⟨rfl, hb⟩; refine ⟨_, rfl, ?_⟩; have n0_ := Aside0.mk (blk_below (g := gb348) (o := .cells #[.int .i64 t341, .int .i64 t342, .int .i64 t343, .int .i64 t344, .int .i64 t345, .int .i64 t346, .int .i64 t347] 24 (0, 0)) z27x6 hb); have n1_ := Aside0.mk (below_step z27x3 hb); clear BK348; clear HB; have BK348 := n0_; have HB := n1_; clear n0_ n1_; (try clear hb); (try clear hb2); (try clear hk); (try clear hi)))
    go_meet
    case rel => exact ⟨_, (true), (by first | rfl | (simp; done) | (simp [*]; done)), H', ⟨by first | omega | exact Nat.le_refl _⟩, ⟨by (with_reducible repeat (first | refine blk_drewN ?_ _ | refine blk_drew ?_ | refine blk_alloc ?_ _)); exact BK348.out⟩, ⟨by repeat (first | (with_reducible first | exact HB.out | apply below_alloc | apply pw_below_drewN | apply below_drew1 | refine below_set ?_ GE348.out) | exact HB.out)⟩⟩
  case rest =>
   clear HC5
   try clear c1
   try clear c2
   try clear c2b0
   try clear c2b1
   try clear p2
   try clear c6
   try clear c7
   try clear c8
   try clear c9
   try clear c11
   try clear c11b0
   try clear c11b1
   try clear hcz12_0
   try clear hcz12_1
   try clear hcz12_2
   try clear hcz12_3
   try clear hcz12_4
   try clear hcz12_5
   try clear hcz12_6
   try clear hcz14_0
   try clear hcz14_1
   try clear hcz14_2
   try clear hcz14_3
   try clear hcz14_4
   try clear hcz14_5
   try clear hcz14_6
   try clear hcz8_0
   try clear hcz8_1
   try clear hcz8_2
   try clear hcz8_3
   try clear hcz8_4
   try clear hcz8_5
   try clear hcz8_6
   try clear hfz12_0
   try clear hfz12_1
   try clear hfz12_2
   try clear hfz12_3
   try clear hfz12_4
   try clear hfz12_5
   try clear hfz12_6
   try clear hfz14_0
   try clear hfz14_1
   try clear hfz14_2
   try clear hfz14_3
   try clear hfz14_4
   try clear hfz14_5
   try clear hfz14_6
   try clear hfz8_0
   try clear hfz8_1
   try clear hfz8_2
   try clear hfz8_3
   try clear hfz8_4
   try clear hfz8_5
   try clear hfz8_6
   obtain ⟨kq, x21_4, rfl, HA, HJ4, BK348, HB⟩ := hcut
   cases kq with
   | zero => exact absurd HA.out (by simp [laws_FnSealBack.j0])
   | succ kj4 =>
    have H := HA.out
    clear HA
    simp only [laws_FnSealBack.j0] at H
    by_cases c16 : x21_4 = true
    ·subst c16
     rw [if_pos rfl] at H
     replace H := Option.bind_eq_some_iff.mp H
     obtain ⟨t351, A170, H⟩ := H
     replace H : (some (t349.toList == t351.toList)) = some r := H
     have A17 := Aside0.mk A170
     clear A170
     obtain rfl := Option.some.inj H
     have hcz18_0 : wc.cell? ⟨gb348, 0, none⟩ = some (.int .i64 t341) := (blk_cell BK348.out 0).trans rfl
     have hcz18_1 : wc.cell? ⟨gb348, 1, none⟩ = some (.int .i64 t342) := (blk_cell BK348.out 1).trans rfl
     have hcz18_2 : wc.cell? ⟨gb348, 2, none⟩ = some (.int .i64 t343) := (blk_cell BK348.out 2).trans rfl
     have hcz18_3 : wc.cell? ⟨gb348, 3, none⟩ = some (.int .i64 t344) := (blk_cell BK348.out 3).trans rfl
     have hcz18_4 : wc.cell? ⟨gb348, 4, none⟩ = some (.int .i64 t345) := (blk_cell BK348.out 4).trans rfl
     have hcz18_5 : wc.cell? ⟨gb348, 5, none⟩ = some (.int .i64 t346) := (blk_cell BK348.out 5).trans rfl
     have hcz18_6 : wc.cell? ⟨gb348, 6, none⟩ = some (.int .i64 t347) := (blk_cell BK348.out 6).trans rfl
     have hfz18_0 := blk_frozen BK348.out 0
     have hfz18_1 := blk_frozen BK348.out 1
     have hfz18_2 := blk_frozen BK348.out 2
     have hfz18_3 := blk_frozen BK348.out 3
     have hfz18_4 := blk_frozen BK348.out 4
     have hfz18_5 := blk_frozen BK348.out 5
     have hfz18_6 := blk_frozen BK348.out 6
     go_wp2_with (first | ((with_reducible refine gate_callee (f := 9) rfl ?_); refine goesL_ (some 24) rfl rfl Tryd.func9 (by kernel_rfl) rfl #[.agg #[.int .i64 t341, .int .i64 t342, .int .i64 t343, .int .i64 t344, .int .i64 t345, .int .i64 t346, .int .i64 t347]] rfl z27x4 ?_; (with_reducible refine (spec_SealText.calls kj4 t341 t342 t343 t344 t345 t346 t347 t351 _ A17.out).mono ?_); rintro e w19 ⟨rfl, hb⟩; refine ⟨_, rfl, ?_⟩; have n0_ := Aside0.mk (blk_below (g := gb348) (o := .cells #[.int .i64 t341, .int .i64 t342, .int .i64 t343, .int .i64 t344, .int .i64 t345, .int .i64 t346, .int .i64 t347] 24 (0, 0)) z27x6 hb); have n1_ := Aside0.mk (below_step z27x3 hb); clear BK348; clear HB; have BK348 := n0_; have HB := n1_; clear n0_ n1_; (try clear hb); (try clear hb2); (try clear hk); (try clear hi)))
     go_ret
     exact ⟨by first | rfl | (simp [errW_none, errW_some] <;> rfl) | (simp [*, errW_none, errW_some] <;> rfl), by repeat (first | (with_reducible first | exact HB.out | apply below_alloc | apply pw_below_drewN | apply below_drew1 | refine below_set ?_ GE348.out) | exact HB.out)⟩
    ·replace c16 := Bool.eq_false_iff.mpr c16
     subst c16
     rw [if_neg (show ¬ (false = true) by decide)] at H
     replace H := Option.bind_eq_some_iff.mp H
     obtain ⟨⟨t352, t353, t354, t355, t356, t357, t358, t359⟩, A200, H⟩ := H
     replace H : (if t359 = true then (if (t352 == t341 && (t353 == t342 && (t354 == t343 && (t355 == t344 && (t356 == t345 && (t357 == t346 && (t358 == t347))))))) = true then ((impl_SealOk.f t341 t342 t343 t344 t345 t346 t347).bind fun t361 => (some t361)) else (some false)) else (some false)) = some r := H
     have A20 := Aside0.mk A200
     clear A200
     by_cases c21 : t359 = true
     ·subst c21
      rw [if_pos rfl] at H
      by_cases c22 : (t352 == t341 && (t353 == t342 && (t354 == t343 && (t355 == t344 && (t356 == t345 && (t357 == t346 && (t358 == t347))))))) = true
      ·rw [if_pos c22] at H
       have c22b0 : (t352 == t341 && (t353 == t342 && (t354 == t343 && (t355 == t344 && (t356 == t345 && (t357 == t346 && (t358 == t347))))))) = true := c22
       (try (have c22b1 : decide (t352 = t341 && (t353 == t342 && (t354 == t343 && (t355 == t344 && (t356 == t345 && (t357 == t346 && (t358 == t347))))))) = true := by simpa using c22))
       (try (have c22b2 : (t352 == t341 && (t353 == t342 && (t354 == t343 && (t355 == t344 && (t356 == t345 && (t357 == t346 && (t358 == t347))))))) = true := by simpa using c22))
       clear c22
       replace H := Option.bind_eq_some_iff.mp H
       obtain ⟨t361, A230, H⟩ := H
       replace H : (some t361) = some r := H
       have A23 := Aside0.mk A230
       clear A230
       obtain rfl := Option.some.inj H
       go_wp2_with (first | ((with_reducible refine gate_callee (f := 10) rfl ?_); refine goesL_ (some 28) rfl rfl Tryd.func10 (by kernel_rfl) rfl #[.string t349] rfl z27x4 ?_; (with_reducible refine (impl_SealRead.calls t349 t352 t353 t354 t355 t356 t357 t358 true _ A20.out ?tens2).mono ?_); (case tens2 => exact Door.on HT.out z27x3); rintro e w24 ⟨rfl, hb⟩; refine ⟨_, rfl, ?_⟩; have n0_ := Aside0.mk (blk_below (g := gb348) (o := .cells #[.int .i64 t341, .int .i64 t342, .int .i64 t343, .int .i64 t344, .int .i64 t345, .int .i64 t346, .int .i64 t347] 24 (0, 0)) z27x6 hb); have n1_ := Aside0.mk (below_step z27x3 hb); clear BK348; clear HB; have BK348 := n0_; have HB := n1_; clear n0_ n1_; (try clear hb); (try clear hb2); (try clear hk); (try clear hi)) | ((with_reducible refine gate_dst (N := 5) rfl ?_); refine box_event ?hg (N := 5) ?hd (cs := #[.int .i64 0, .int .i64 0, .int .i64 0, .int .i64 0, .int .i64 0, .int .i64 0, .int .i64 0]) (t := 24) ?hr ?_; (case hd => rfl); (case hg => rfl); (case hr => first | (go_simp; done) | (go_simp; rfl)); intro gb360 hg w25 hbox hb; have n0_ := Aside0.mk (blk_below (g := gb348) (o := .cells #[.int .i64 t341, .int .i64 t342, .int .i64 t343, .int .i64 t344, .int .i64 t345, .int .i64 t346, .int .i64 t347] 24 (0, 0)) z27x6 hb); have n1_ := Aside0.mk (below_step z27x3 hb); have n2_ := Aside0.mk (hbox); have n3_ := Aside0.mk ((z27x2 : w.heap.size ≤ gb360)); have n4_ := Aside0.mk ((z27x2 : w.heap.size ≤ gb360)); have n5_ := Aside0.mk ((z27x1 : gb348 ≠ gb360)); have n6_ := Aside0.mk ((z27x0 : gb360 ≠ gb348)); clear BK348; clear HB; have BK348 := n0_; have HB := n1_; have BK360 := n2_; have GW360 := n3_; have GE360 := n4_; have NB348_360 := n5_; have NB360_348 := n6_; clear n0_ n1_ n2_ n3_ n4_ n5_ n6_; clear hb hbox hg; have hnb26 := NB360_348.out; have hnc26 := NB348_360.out; have hcz27_0 : w25.cell? ⟨gb360, 0, none⟩ = some (.int .i64 0) := (blk_cell BK360.out 0).trans rfl; have hcz27_1 : w25.cell? ⟨gb360, 1, none⟩ = some (.int .i64 0) := (blk_cell BK360.out 1).trans rfl; have hcz27_2 : w25.cell? ⟨gb360, 2, none⟩ = some (.int .i64 0) := (blk_cell BK360.out 2).trans rfl; have hcz27_3 : w25.cell? ⟨gb360, 3, none⟩ = some (.int .i64 0) := (blk_cell BK360.out 3).trans rfl; have hcz27_4 : w25.cell? ⟨gb360, 4, none⟩ = some (.int .i64 0) := (blk_cell BK360.out 4).trans rfl; have hcz27_5 : w25.cell? ⟨gb360, 5, none⟩ = some (.int .i64 0) := (blk_cell BK360.out 5).trans rfl; have hcz27_6 : w25.cell? ⟨gb360, 6, none⟩ = some (.int .i64 0) := (blk_cell BK360.out 6).trans rfl; have hfz27_0 := blk_frozen BK360.out 0; have hfz27_1 := blk_frozen BK360.out 1; have hfz27_2 := blk_frozen BK360.out 2; have hfz27_3 := blk_frozen BK360.out 3; have hfz27_4 := blk_frozen BK360.out 4; have hfz27_5 := blk_frozen BK360.out 5; have hfz27_6 := blk_frozen BK360.out 6; have hcz28_0 : w25.cell? ⟨gb348, 0, none⟩ = some (.int .i64 t341) := (blk_cell BK348.out 0).trans rfl; have hcz28_1 : w25.cell? ⟨gb348, 1, none⟩ = some (.int .i64 t342) := (blk_cell BK348.out 1).trans rfl; have hcz28_2 : w25.cell? ⟨gb348, 2, none⟩ = some (.int .i64 t343) := (blk_cell BK348.out 2).trans rfl; have hcz28_3 : w25.cell? ⟨gb348, 3, none⟩ = some (.int .i64 t344) := (blk_cell BK348.out 3).trans rfl; have hcz28_4 : w25.cell? ⟨gb348, 4, none⟩ = some (.int .i64 t345) := (blk_cell BK348.out 4).trans rfl; have hcz28_5 : w25.cell? ⟨gb348, 5, none⟩ = some (.int .i64 t346) := (blk_cell BK348.out 5).trans rfl; have hcz28_6 : w25.cell? ⟨gb348, 6, none⟩ = some (.int .i64 t347) := (blk_cell BK348.out 6).trans rfl; have hfz28_0 := blk_frozen BK348.out 0; have hfz28_1 := blk_frozen BK348.out 1; have hfz28_2 := blk_frozen BK348.out 2; have hfz28_3 := blk_frozen BK348.out 3; have hfz28_4 := blk_frozen BK348.out 4; have hfz28_5 := blk_frozen BK348.out 5; have hfz28_6 := blk_frozen BK348.out 6) | (go_at_call 14; (with_reducible refine (impl_SealOk.calls t341 t342 t343 t344 t345 t346 t347 t361 _ A23.out).mono ?_); rintro e w29 ⟨rfl, hb⟩; have n0_ := Aside0.mk (blk_below (g := gb348) (o := .cells #[.int .i64 t341, .int .i64 t342, .int .i64 t343, .int .i64 t344, .int .i64 t345, .int .i64 t346, .int .i64 t347] 24 (0, 0)) (by (with_reducible repeat (first | refine blk_drewN ?_ _ | refine blk_drew ?_ | refine blk_alloc ?_ _)); refine blk_far ?_ NB348_360.out _; (with_reducible repeat (first | refine blk_drewN ?_ _ | refine blk_drew ?_ | refine blk_alloc ?_ _)); refine blk_far ?_ NB348_360.out _; (with_reducible repeat (first | refine blk_drewN ?_ _ | refine blk_drew ?_ | refine blk_alloc ?_ _)); refine blk_far ?_ NB348_360.out _; (with_reducible repeat (first | refine blk_drewN ?_ _ | refine blk_drew ?_ | refine blk_alloc ?_ _)); refine blk_far ?_ NB348_360.out _; (with_reducible repeat (first | refine blk_drewN ?_ _ | refine blk_drew ?_ | refine blk_alloc ?_ _)); refine blk_far ?_ NB348_360.out _; (with_reducible repeat (first | refine blk_drewN ?_ _ | refine blk_drew ?_ | refine blk_alloc ?_ _)); refine blk_far ?_ NB348_360.out _; (with_reducible repeat (first | refine blk_drewN ?_ _ | refine blk_drew ?_ | refine blk_alloc ?_ _)); refine blk_far ?_ NB348_360.out _; (with_reducible repeat (first | refine blk_drewN ?_ _ | refine blk_drew ?_ | refine blk_alloc ?_ _)); exact BK348.out) hb); have n1_ := Aside0.mk (blk_below (g := gb360) (o := .cells #[.int .i64 t352, .int .i64 t353, .int .i64 t354, .int .i64 t355, .int .i64 t356, .int .i64 t357, .int .i64 t358] 24 (0, 0)) (by (with_reducible repeat (first | refine blk_drewN ?_ _ | refine blk_drew ?_ | refine blk_alloc ?_ _)); refine blk_put (cs := #[.int .i64 t352, .int .i64 t353, .int .i64 t354, .int .i64 t355, .int .i64 t356, .int .i64 t357, .int .i64 0]) ?_ 6 _ rfl; (with_reducible repeat (first | refine blk_drewN ?_ _ | refine blk_drew ?_ | refine blk_alloc ?_ _)); refine blk_put (cs := #[.int .i64 t352, .int .i64 t353, .int .i64 t354, .int .i64 t355, .int .i64 t356, .int .i64 0, .int .i64 0]) ?_ 5 _ rfl; (with_reducible repeat (first | refine blk_drewN ?_ _ | refine blk_drew ?_ | refine blk_alloc ?_ _)); refine blk_put (cs := #[.int .i64 t352, .int .i64 t353, .int .i64 t354, .int .i64 t355, .int .i64 0, .int .i64 0, .int .i64 0]) ?_ 4 _ rfl; (with_reducible repeat (first | refine blk_drewN ?_ _ | refine blk_drew ?_ | refine blk_alloc ?_ _)); refine blk_put (cs := #[.int .i64 t352, .int .i64 t353, .int .i64 t354, .int .i64 0, .int .i64 0, .int .i64 0, .int .i64 0]) ?_ 3 _ rfl; (with_reducible repeat (first | refine blk_drewN ?_ _ | refine blk_drew ?_ | refine blk_alloc ?_ _)); refine blk_put (cs := #[.int .i64 t352, .int .i64 t353, .int .i64 0, .int .i64 0, .int .i64 0, .int .i64 0, .int .i64 0]) ?_ 2 _ rfl; (with_reducible repeat (first | refine blk_drewN ?_ _ | refine blk_drew ?_ | refine blk_alloc ?_ _)); refine blk_put (cs := #[.int .i64 t352, .int .i64 0, .int .i64 0, .int .i64 0, .int .i64 0, .int .i64 0, .int .i64 0]) ?_ 1 _ rfl; (with_reducible repeat (first | refine blk_drewN ?_ _ | refine blk_drew ?_ | refine blk_alloc ?_ _)); refine blk_put (cs := #[.int .i64 0, .int .i64 0, .int .i64 0, .int .i64 0, .int .i64 0, .int .i64 0, .int .i64 0]) ?_ 0 _ rfl; (with_reducible repeat (first | refine blk_drewN ?_ _ | refine blk_drew ?_ | refine blk_alloc ?_ _)); exact BK360.out) hb); have n2_ := Aside0.mk (below_step (by repeat (first | (with_reducible first | exact HB.out | apply below_alloc | apply pw_below_drewN | apply below_drew1 | refine below_set ?_ GE348.out | refine below_set ?_ GE360.out) | exact HB.out)) hb); clear BK348; clear BK360; clear HB; have BK348 := n0_; have BK360 := n1_; have HB := n2_; clear n0_ n1_ n2_; (try clear hb); (try clear hb2); (try clear hk); (try clear hi)))
       go_ret
       exact ⟨by first | rfl | (simp [errW_none, errW_some] <;> rfl) | (simp [*, errW_none, errW_some] <;> rfl), by repeat (first | (with_reducible first | exact HB.out | apply below_alloc | apply pw_below_drewN | apply below_drew1 | refine below_set ?_ GE348.out | refine below_set ?_ GE360.out) | exact HB.out)⟩
      ·rw [if_neg c22] at H
       have c22b0 : (t352 == t341 && (t353 == t342 && (t354 == t343 && (t355 == t344 && (t356 == t345 && (t357 == t346 && (t358 == t347))))))) = false := by simpa using c22
       (try (have c22b1 : decide (t352 = t341 && (t353 == t342 && (t354 == t343 && (t355 == t344 && (t356 == t345 && (t357 == t346 && (t358 == t347))))))) = false := by simpa using c22))
       (try (have c22b2 : (t352 == t341 && (t353 == t342 && (t354 == t343 && (t355 == t344 && (t356 == t345 && (t357 == t346 && (t358 == t347))))))) = false := by simpa using c22))
       (try (have c22b3 : ¬ (t352 = t341 && (t353 == t342 && (t354 == t343 && (t355 == t344 && (t356 == t345 && (t357 == t346 && (t358 == t347))))))) := by simpa using c22))
       clear c22
       obtain rfl := Option.some.inj H
       go_wp2_with (first | ((with_reducible refine gate_callee (f := 10) rfl ?_); refine goesL_ (some 28) rfl rfl Tryd.func10 (by kernel_rfl) rfl #[.string t349] rfl z27x4 ?_; (with_reducible refine (impl_SealRead.calls t349 t352 t353 t354 t355 t356 t357 t358 true _ A20.out ?tens3).mono ?_); (case tens3 => exact Door.on HT.out z27x3); rintro e w30 ⟨rfl, hb⟩; refine ⟨_, rfl, ?_⟩; have n0_ := Aside0.mk (blk_below (g := gb348) (o := .cells #[.int .i64 t341, .int .i64 t342, .int .i64 t343, .int .i64 t344, .int .i64 t345, .int .i64 t346, .int .i64 t347] 24 (0, 0)) z27x6 hb); have n1_ := Aside0.mk (below_step z27x3 hb); clear BK348; clear HB; have BK348 := n0_; have HB := n1_; clear n0_ n1_; (try clear hb); (try clear hb2); (try clear hk); (try clear hi)) | ((with_reducible refine gate_dst (N := 5) rfl ?_); refine box_event ?hg (N := 5) ?hd (cs := #[.int .i64 0, .int .i64 0, .int .i64 0, .int .i64 0, .int .i64 0, .int .i64 0, .int .i64 0]) (t := 24) ?hr ?_; (case hd => rfl); (case hg => rfl); (case hr => first | (go_simp; done) | (go_simp; rfl)); intro gb360 hg w31 hbox hb; have n0_ := Aside0.mk (blk_below (g := gb348) (o := .cells #[.int .i64 t341, .int .i64 t342, .int .i64 t343, .int .i64 t344, .int .i64 t345, .int .i64 t346, .int .i64 t347] 24 (0, 0)) z27x6 hb); have n1_ := Aside0.mk (below_step z27x3 hb); have n2_ := Aside0.mk (hbox); have n3_ := Aside0.mk ((z27x2 : w.heap.size ≤ gb360)); have n4_ := Aside0.mk ((z27x2 : w.heap.size ≤ gb360)); have n5_ := Aside0.mk ((z27x1 : gb348 ≠ gb360)); have n6_ := Aside0.mk ((z27x0 : gb360 ≠ gb348)); clear BK348; clear HB; have BK348 := n0_; have HB := n1_; have BK360 := n2_; have GW360 := n3_; have GE360 := n4_; have NB348_360 := n5_; have NB360_348 := n6_; clear n0_ n1_ n2_ n3_ n4_ n5_ n6_; clear hb hbox hg; have hnb32 := NB360_348.out; have hnc32 := NB348_360.out; have hcz33_0 : w31.cell? ⟨gb360, 0, none⟩ = some (.int .i64 0) := (blk_cell BK360.out 0).trans rfl; have hcz33_1 : w31.cell? ⟨gb360, 1, none⟩ = some (.int .i64 0) := (blk_cell BK360.out 1).trans rfl; have hcz33_2 : w31.cell? ⟨gb360, 2, none⟩ = some (.int .i64 0) := (blk_cell BK360.out 2).trans rfl; have hcz33_3 : w31.cell? ⟨gb360, 3, none⟩ = some (.int .i64 0) := (blk_cell BK360.out 3).trans rfl; have hcz33_4 : w31.cell? ⟨gb360, 4, none⟩ = some (.int .i64 0) := (blk_cell BK360.out 4).trans rfl; have hcz33_5 : w31.cell? ⟨gb360, 5, none⟩ = some (.int .i64 0) := (blk_cell BK360.out 5).trans rfl; have hcz33_6 : w31.cell? ⟨gb360, 6, none⟩ = some (.int .i64 0) := (blk_cell BK360.out 6).trans rfl; have hfz33_0 := blk_frozen BK360.out 0; have hfz33_1 := blk_frozen BK360.out 1; have hfz33_2 := blk_frozen BK360.out 2; have hfz33_3 := blk_frozen BK360.out 3; have hfz33_4 := blk_frozen BK360.out 4; have hfz33_5 := blk_frozen BK360.out 5; have hfz33_6 := blk_frozen BK360.out 6; have hcz34_0 : w31.cell? ⟨gb348, 0, none⟩ = some (.int .i64 t341) := (blk_cell BK348.out 0).trans rfl; have hcz34_1 : w31.cell? ⟨gb348, 1, none⟩ = some (.int .i64 t342) := (blk_cell BK348.out 1).trans rfl; have hcz34_2 : w31.cell? ⟨gb348, 2, none⟩ = some (.int .i64 t343) := (blk_cell BK348.out 2).trans rfl; have hcz34_3 : w31.cell? ⟨gb348, 3, none⟩ = some (.int .i64 t344) := (blk_cell BK348.out 3).trans rfl; have hcz34_4 : w31.cell? ⟨gb348, 4, none⟩ = some (.int .i64 t345) := (blk_cell BK348.out 4).trans rfl; have hcz34_5 : w31.cell? ⟨gb348, 5, none⟩ = some (.int .i64 t346) := (blk_cell BK348.out 5).trans rfl; have hcz34_6 : w31.cell? ⟨gb348, 6, none⟩ = some (.int .i64 t347) := (blk_cell BK348.out 6).trans rfl; have hfz34_0 := blk_frozen BK348.out 0; have hfz34_1 := blk_frozen BK348.out 1; have hfz34_2 := blk_frozen BK348.out 2; have hfz34_3 := blk_frozen BK348.out 3; have hfz34_4 := blk_frozen BK348.out 4; have hfz34_5 := blk_frozen BK348.out 5; have hfz34_6 := blk_frozen BK348.out 6))
       go_ret
       exact ⟨by first | rfl | (simp [errW_none, errW_some] <;> rfl) | (simp [*, errW_none, errW_some] <;> rfl), by repeat (first | (with_reducible first | exact HB.out | apply below_alloc | apply pw_below_drewN | apply below_drew1 | refine below_set ?_ GE348.out | refine below_set ?_ GE360.out) | exact HB.out)⟩
     ·replace c21 := Bool.eq_false_iff.mpr c21
      subst c21
      rw [if_neg (show ¬ (false = true) by decide)] at H
      obtain rfl := Option.some.inj H
      go_wp2_with (first | ((with_reducible refine gate_callee (f := 10) rfl ?_); refine goesL_ (some 28) rfl rfl Tryd.func10 (by kernel_rfl) rfl #[.string t349] rfl z27x4 ?_; (with_reducible refine (impl_SealRead.calls t349 t352 t353 t354 t355 t356 t357 t358 false _ A20.out ?tens4).mono ?_); (case tens4 => exact Door.on HT.out z27x3); rintro e w35 ⟨rfl, hb⟩; refine ⟨_, rfl, ?_⟩; have n0_ := Aside0.mk (blk_below (g := gb348) (o := .cells #[.int .i64 t341, .int .i64 t342, .int .i64 t343, .int .i64 t344, .int .i64 t345, .int .i64 t346, .int .i64 t347] 24 (0, 0)) z27x6 hb); have n1_ := Aside0.mk (below_step z27x3 hb); clear BK348; clear HB; have BK348 := n0_; have HB := n1_; clear n0_ n1_; (try clear hb); (try clear hb2); (try clear hk); (try clear hi)) | ((with_reducible refine gate_dst (N := 5) rfl ?_); refine box_event ?hg (N := 5) ?hd (cs := #[.int .i64 0, .int .i64 0, .int .i64 0, .int .i64 0, .int .i64 0, .int .i64 0, .int .i64 0]) (t := 24) ?hr ?_; (case hd => rfl); (case hg => rfl); (case hr => first | (go_simp; done) | (go_simp; rfl)); intro gb360 hg w36 hbox hb; have n0_ := Aside0.mk (blk_below (g := gb348) (o := .cells #[.int .i64 t341, .int .i64 t342, .int .i64 t343, .int .i64 t344, .int .i64 t345, .int .i64 t346, .int .i64 t347] 24 (0, 0)) z27x6 hb); have n1_ := Aside0.mk (below_step z27x3 hb); have n2_ := Aside0.mk (hbox); have n3_ := Aside0.mk ((z27x2 : w.heap.size ≤ gb360)); have n4_ := Aside0.mk ((z27x2 : w.heap.size ≤ gb360)); have n5_ := Aside0.mk ((z27x1 : gb348 ≠ gb360)); have n6_ := Aside0.mk ((z27x0 : gb360 ≠ gb348)); clear BK348; clear HB; have BK348 := n0_; have HB := n1_; have BK360 := n2_; have GW360 := n3_; have GE360 := n4_; have NB348_360 := n5_; have NB360_348 := n6_; clear n0_ n1_ n2_ n3_ n4_ n5_ n6_; clear hb hbox hg; have hnb37 := NB360_348.out; have hnc37 := NB348_360.out; have hcz38_0 : w36.cell? ⟨gb360, 0, none⟩ = some (.int .i64 0) := (blk_cell BK360.out 0).trans rfl; have hcz38_1 : w36.cell? ⟨gb360, 1, none⟩ = some (.int .i64 0) := (blk_cell BK360.out 1).trans rfl; have hcz38_2 : w36.cell? ⟨gb360, 2, none⟩ = some (.int .i64 0) := (blk_cell BK360.out 2).trans rfl; have hcz38_3 : w36.cell? ⟨gb360, 3, none⟩ = some (.int .i64 0) := (blk_cell BK360.out 3).trans rfl; have hcz38_4 : w36.cell? ⟨gb360, 4, none⟩ = some (.int .i64 0) := (blk_cell BK360.out 4).trans rfl; have hcz38_5 : w36.cell? ⟨gb360, 5, none⟩ = some (.int .i64 0) := (blk_cell BK360.out 5).trans rfl; have hcz38_6 : w36.cell? ⟨gb360, 6, none⟩ = some (.int .i64 0) := (blk_cell BK360.out 6).trans rfl; have hfz38_0 := blk_frozen BK360.out 0; have hfz38_1 := blk_frozen BK360.out 1; have hfz38_2 := blk_frozen BK360.out 2; have hfz38_3 := blk_frozen BK360.out 3; have hfz38_4 := blk_frozen BK360.out 4; have hfz38_5 := blk_frozen BK360.out 5; have hfz38_6 := blk_frozen BK360.out 6))
      go_ret
      exact ⟨by first | rfl | (simp [errW_none, errW_some] <;> rfl) | (simp [*, errW_none, errW_some] <;> rfl), by repeat (first | (with_reducible first | exact HB.out | apply below_alloc | apply pw_below_drewN | apply below_drew1 | refine below_set ?_ GE348.out | refine below_set ?_ GE360.out) | exact HB.out)⟩

/-- THE ONE PURE STATEMENT of laws_FnSealBack: yours. -/
def laws_FnSealBack.Pure : Prop := ∀ (l0 : List Int), l0.length ≤ maxLen → l0.length * 1 ≤ 140737488351232 → (∀ x ∈ l0, (Lit.int .u8 x).wf = true) → ∃ k, laws_FnSealBack.f k l0 = some true
theorem laws_FnSealBack.walk (P : laws_FnSealBack.Pure) (a0 : Option Addr) (len0 cap0 : Nat) (z0 : List Int) (w : World) (w0 : (a0 = none ∧ len0 = 0 ∧ cap0 = 0 ∧ z0 = []) ∨ ∃ x, a0 = some x ∧ len0 ≤ cap0 ∧ cap0 ≤ maxLen ∧ z0.length = cap0 ∧ (∀ i, i < z0.length → w.cell? (x.add i) = some (.int .u8 (z0.getD i 0))) ∧ ∀ n ∈ z0, (Lit.int .u8 n).wf = true) (y0 : len0 * 1 ≤ 140737488351232) (ht : Door w) :
  Calls Tryd.prog 6 #[.slice a0 len0 cap0] w fun e w' => e = .returned (.bool true) ∧ Below w.heap.size w w' := by
 obtain ⟨l0, rfl, hr0, hm0, hw0, hc0⟩ := ReadsInt.ofRowC w0
 obtain ⟨k, h⟩ := P l0 hm0 y0 hw0
 refine (laws_FnSealBack.calls k _ _ l0 true w (Kd.C_of_reads (d := (0 : Int)) (h1 := fun _ => rfl) hr0) hc0 h ht).mono ?_
 rintro e w' ⟨rfl, hd⟩
 exact ⟨rfl, hd⟩

end Go.Proofs.YtbipicjijbnbbaaDoor.Hp
