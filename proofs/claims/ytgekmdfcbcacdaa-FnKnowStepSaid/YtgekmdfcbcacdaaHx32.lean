-- hp.py
import Derived.Test.YtgekmdfcbcacdaaHx0
import Derived.Test.YtgekmdfcbcacdaaHx21
namespace Go.Proofs.Ytgekmdfcbcacdaa.Hp
open Go.RowKit Go.Proofs.YtgekmdfcbcacdaaW.PrintWords Go.Proofs.YtgekmdfcbcacdaaW.PrintLast Go.Proofs.YtgekmdfcbcacdaaW.PrintMore
attribute [local go_sem] max2_int min2_int max_two min_two max_three min_three max_four min_four   -- for this text's walks alone
set_option linter.unusedVariables false
set_option linter.unusedSimpArgs false
-- squeezed by wip/tools/squeeze.py
theorem z32x4 {P : Prop} (h : P := by (with_reducible repeat (first | refine blk_drewN ?_ _ | refine blk_drew ?_ | refine blk_alloc ?_ _)); exact BK461.out) : P := h
theorem z32x3 {P : Prop} (h : P := by repeat (first | (with_reducible first | exact HB.out | apply below_alloc | apply pw_below_drewN | apply below_drew1) | exact HB.out)) : P := h
theorem z32x2 {P : Prop} (h : P := by (try simp only [List.map_toArray, List.map_cons, List.map_nil]); first | done | rfl | (simp only [List.length_drop, List.length_take]; rfl)) : P := h
theorem z32x1 {P : Prop} (h : P := by rw [hg]; exact (below_size (by repeat (first | (with_reducible first | exact HB.out | apply below_alloc | apply pw_below_drewN | apply below_drew1) | exact HB.out)))) : P := h
theorem z32x0 {P : Prop} (h : P := by repeat (first | (with_reducible first | exact HB.out | apply below_alloc | apply pw_below_drewN | apply below_drew1 | refine below_set ?_ GE461.out) | exact HB.out)) : P := h

/-! ### spec_l1Holds: function 171 -/
def spec_l1Holds.f (a0_0 : Int) (a0_1 : Int) (a0_2 : Int) (a0_3 : Int) (a0_4 : Int) (a0_5 : Int) (a0_6 : Int) : Option (Int) := if a0_1 = 1 then (some a0_4) else (if a0_1 = 2 then (some a0_3) else (some 0))
set_option maxHeartbeats 8000000 in
set_option maxRecDepth 100000 in
theorem spec_l1Holds.calls (a0_0 : Int) (a0_1 : Int) (a0_2 : Int) (a0_3 : Int) (a0_4 : Int) (a0_5 : Int) (a0_6 : Int) (r : Int) (w : World) (h : spec_l1Holds.f a0_0 a0_1 a0_2 a0_3 a0_4 a0_5 a0_6 = some r) :
  Calls Try.prog 171 #[.agg #[.int .i64 a0_0, .int .i64 a0_1, .int .i64 a0_2, .int .i64 a0_3, .int .i64 a0_4, .int .i64 a0_5, .int .i64 a0_6]] w fun e w' => e = .returned (.int .i64 r) ∧ Below w.heap.size w w' := by
 have hu41 := Try.underlying41
 have HB := Aside0.mk (Below.refl w.heap.size w)
 have H : (if a0_1 = 1 then (some a0_4) else (if a0_1 = 2 then (some a0_3) else (some 0))) = some r := h
 clear h
 by_cases c2 : a0_1 = 1
 ·rw [if_pos c2] at H
  have c2b0 : (a0_1 == 1) = true := beq_iff_eq.mpr c2
  have c2b1 : (a0_1 != 1) = false := bne_eq_false_iff_eq.mpr c2
  clear c2
  obtain rfl := Option.some.inj H
  go_enter Try.func171, Try.ntmps171
  go_wp2_with (first | ((with_reducible refine gate_dst (N := 1) rfl ?_); refine box_event ?hg (N := 1) ?hd (cs := #[.int .i64 a0_0, .int .i64 a0_1, .int .i64 a0_2, .int .i64 a0_3, .int .i64 a0_4, .int .i64 a0_5, .int .i64 a0_6]) (t := 41) ?hr ?_; (case hd => rfl); (case hg => rfl); (case hr => first | (go_simp; done) | (go_simp; rfl)); intro gb460 hg w3 hbox hb; have n0_ := Aside0.mk (below_step z32x3 hb); have n1_ := Aside0.mk (hbox); have n2_ := Aside0.mk ((z32x1 : w.heap.size ≤ gb460)); have n3_ := Aside0.mk ((z32x1 : w.heap.size ≤ gb460)); clear HB; have HB := n0_; have BK460 := n1_; have GW460 := n2_; have GE460 := n3_; clear n0_ n1_ n2_ n3_; clear hb hbox hg; have hcz4_0 : w3.cell? ⟨gb460, 0, none⟩ = some (.int .i64 a0_0) := (blk_cell BK460.out 0).trans rfl; have hcz4_1 : w3.cell? ⟨gb460, 1, none⟩ = some (.int .i64 a0_1) := (blk_cell BK460.out 1).trans rfl; have hcz4_2 : w3.cell? ⟨gb460, 2, none⟩ = some (.int .i64 a0_2) := (blk_cell BK460.out 2).trans rfl; have hcz4_3 : w3.cell? ⟨gb460, 3, none⟩ = some (.int .i64 a0_3) := (blk_cell BK460.out 3).trans rfl; have hcz4_4 : w3.cell? ⟨gb460, 4, none⟩ = some (.int .i64 a0_4) := (blk_cell BK460.out 4).trans rfl; have hcz4_5 : w3.cell? ⟨gb460, 5, none⟩ = some (.int .i64 a0_5) := (blk_cell BK460.out 5).trans rfl; have hcz4_6 : w3.cell? ⟨gb460, 6, none⟩ = some (.int .i64 a0_6) := (blk_cell BK460.out 6).trans rfl; have hfz4_0 := blk_frozen BK460.out 0; have hfz4_1 := blk_frozen BK460.out 1; have hfz4_2 := blk_frozen BK460.out 2; have hfz4_3 := blk_frozen BK460.out 3; have hfz4_4 := blk_frozen BK460.out 4; have hfz4_5 := blk_frozen BK460.out 5; have hfz4_6 := blk_frozen BK460.out 6))
  go_ret
  exact ⟨by first | rfl | (simp [errW_none, errW_some] <;> rfl) | (simp [*, errW_none, errW_some] <;> rfl), by repeat (first | (with_reducible first | exact HB.out | apply below_alloc | apply pw_below_drewN | apply below_drew1 | refine below_set ?_ GE460.out) | exact HB.out)⟩
 ·rw [if_neg c2] at H
  have c2b0 : (a0_1 == 1) = false := beq_eq_false_iff_ne.mpr c2
  have c2b1 : (a0_1 != 1) = true := bne_iff_ne.mpr c2
  by_cases c5 : a0_1 = 2
  ·rw [if_pos c5] at H
   have c5b0 : (a0_1 == 2) = true := beq_iff_eq.mpr c5
   have c5b1 : (a0_1 != 2) = false := bne_eq_false_iff_eq.mpr c5
   clear c5
   obtain rfl := Option.some.inj H
   go_enter Try.func171, Try.ntmps171
   go_wp2_with (first | ((with_reducible refine gate_dst (N := 1) rfl ?_); refine box_event ?hg (N := 1) ?hd (cs := #[.int .i64 a0_0, .int .i64 a0_1, .int .i64 a0_2, .int .i64 a0_3, .int .i64 a0_4, .int .i64 a0_5, .int .i64 a0_6]) (t := 41) ?hr ?_; (case hd => rfl); (case hg => rfl); (case hr => first | (go_simp; done) | (go_simp; rfl)); intro gb460 hg w6 hbox hb; have n0_ := Aside0.mk (below_step z32x3 hb); have n1_ := Aside0.mk (hbox); have n2_ := Aside0.mk ((z32x1 : w.heap.size ≤ gb460)); have n3_ := Aside0.mk ((z32x1 : w.heap.size ≤ gb460)); clear HB; have HB := n0_; have BK460 := n1_; have GW460 := n2_; have GE460 := n3_; clear n0_ n1_ n2_ n3_; clear hb hbox hg; have hcz7_0 : w6.cell? ⟨gb460, 0, none⟩ = some (.int .i64 a0_0) := (blk_cell BK460.out 0).trans rfl; have hcz7_1 : w6.cell? ⟨gb460, 1, none⟩ = some (.int .i64 a0_1) := (blk_cell BK460.out 1).trans rfl; have hcz7_2 : w6.cell? ⟨gb460, 2, none⟩ = some (.int .i64 a0_2) := (blk_cell BK460.out 2).trans rfl; have hcz7_3 : w6.cell? ⟨gb460, 3, none⟩ = some (.int .i64 a0_3) := (blk_cell BK460.out 3).trans rfl; have hcz7_4 : w6.cell? ⟨gb460, 4, none⟩ = some (.int .i64 a0_4) := (blk_cell BK460.out 4).trans rfl; have hcz7_5 : w6.cell? ⟨gb460, 5, none⟩ = some (.int .i64 a0_5) := (blk_cell BK460.out 5).trans rfl; have hcz7_6 : w6.cell? ⟨gb460, 6, none⟩ = some (.int .i64 a0_6) := (blk_cell BK460.out 6).trans rfl; have hfz7_0 := blk_frozen BK460.out 0; have hfz7_1 := blk_frozen BK460.out 1; have hfz7_2 := blk_frozen BK460.out 2; have hfz7_3 := blk_frozen BK460.out 3; have hfz7_4 := blk_frozen BK460.out 4; have hfz7_5 := blk_frozen BK460.out 5; have hfz7_6 := blk_frozen BK460.out 6))
   go_ret
   exact ⟨by first | rfl | (simp [errW_none, errW_some] <;> rfl) | (simp [*, errW_none, errW_some] <;> rfl), by repeat (first | (with_reducible first | exact HB.out | apply below_alloc | apply pw_below_drewN | apply below_drew1 | refine below_set ?_ GE460.out) | exact HB.out)⟩
  ·rw [if_neg c5] at H
   have c5b0 : (a0_1 == 2) = false := beq_eq_false_iff_ne.mpr c5
   have c5b1 : (a0_1 != 2) = true := bne_iff_ne.mpr c5
   obtain rfl := Option.some.inj H
   go_enter Try.func171, Try.ntmps171
   go_wp2_with (first | ((with_reducible refine gate_dst (N := 1) rfl ?_); refine box_event ?hg (N := 1) ?hd (cs := #[.int .i64 a0_0, .int .i64 a0_1, .int .i64 a0_2, .int .i64 a0_3, .int .i64 a0_4, .int .i64 a0_5, .int .i64 a0_6]) (t := 41) ?hr ?_; (case hd => rfl); (case hg => rfl); (case hr => first | (go_simp; done) | (go_simp; rfl)); intro gb460 hg w8 hbox hb; have n0_ := Aside0.mk (below_step z32x3 hb); have n1_ := Aside0.mk (hbox); have n2_ := Aside0.mk ((z32x1 : w.heap.size ≤ gb460)); have n3_ := Aside0.mk ((z32x1 : w.heap.size ≤ gb460)); clear HB; have HB := n0_; have BK460 := n1_; have GW460 := n2_; have GE460 := n3_; clear n0_ n1_ n2_ n3_; clear hb hbox hg; have hcz9_0 : w8.cell? ⟨gb460, 0, none⟩ = some (.int .i64 a0_0) := (blk_cell BK460.out 0).trans rfl; have hcz9_1 : w8.cell? ⟨gb460, 1, none⟩ = some (.int .i64 a0_1) := (blk_cell BK460.out 1).trans rfl; have hcz9_2 : w8.cell? ⟨gb460, 2, none⟩ = some (.int .i64 a0_2) := (blk_cell BK460.out 2).trans rfl; have hcz9_3 : w8.cell? ⟨gb460, 3, none⟩ = some (.int .i64 a0_3) := (blk_cell BK460.out 3).trans rfl; have hcz9_4 : w8.cell? ⟨gb460, 4, none⟩ = some (.int .i64 a0_4) := (blk_cell BK460.out 4).trans rfl; have hcz9_5 : w8.cell? ⟨gb460, 5, none⟩ = some (.int .i64 a0_5) := (blk_cell BK460.out 5).trans rfl; have hcz9_6 : w8.cell? ⟨gb460, 6, none⟩ = some (.int .i64 a0_6) := (blk_cell BK460.out 6).trans rfl; have hfz9_0 := blk_frozen BK460.out 0; have hfz9_1 := blk_frozen BK460.out 1; have hfz9_2 := blk_frozen BK460.out 2; have hfz9_3 := blk_frozen BK460.out 3; have hfz9_4 := blk_frozen BK460.out 4; have hfz9_5 := blk_frozen BK460.out 5; have hfz9_6 := blk_frozen BK460.out 6))
   go_ret
   exact ⟨by first | rfl | (simp [errW_none, errW_some] <;> rfl) | (simp [*, errW_none, errW_some] <;> rfl), by repeat (first | (with_reducible first | exact HB.out | apply below_alloc | apply pw_below_drewN | apply below_drew1 | refine below_set ?_ GE460.out) | exact HB.out)⟩

/-! ### spec_SealHolds: function 153 -/
def spec_SealHolds.f (a0_0 : Int) (a0_1 : Int) (a0_2 : Int) (a0_3 : Int) (a0_4 : Int) (a0_5 : Int) (a0_6 : Int) : Option (Int) := (spec_SealOk.f a0_0 a0_1 a0_2 a0_3 a0_4 a0_5 a0_6).bind fun t462 => (if t462 = true then ((spec_l1Holds.f a0_0 a0_1 a0_2 a0_3 a0_4 a0_5 a0_6).bind fun t463 => (some t463)) else (some 0))
set_option maxHeartbeats 8000000 in
set_option maxRecDepth 100000 in
theorem spec_SealHolds.calls (a0_0 : Int) (a0_1 : Int) (a0_2 : Int) (a0_3 : Int) (a0_4 : Int) (a0_5 : Int) (a0_6 : Int) (r : Int) (w : World) (h : spec_SealHolds.f a0_0 a0_1 a0_2 a0_3 a0_4 a0_5 a0_6 = some r) :
  Calls Try.prog 153 #[.agg #[.int .i64 a0_0, .int .i64 a0_1, .int .i64 a0_2, .int .i64 a0_3, .int .i64 a0_4, .int .i64 a0_5, .int .i64 a0_6]] w fun e w' => e = .returned (.int .i64 r) ∧ Below w.heap.size w w' := by
 have hu41 := Try.underlying41
 have HB := Aside0.mk (Below.refl w.heap.size w)
 have H : ((spec_SealOk.f a0_0 a0_1 a0_2 a0_3 a0_4 a0_5 a0_6).bind fun t462 => (if t462 = true then ((spec_l1Holds.f a0_0 a0_1 a0_2 a0_3 a0_4 a0_5 a0_6).bind fun t463 => (some t463)) else (some 0))) = some r := h
 clear h
 replace H := Option.bind_eq_some_iff.mp H
 obtain ⟨t462, A20, H⟩ := H
 replace H : (if t462 = true then ((spec_l1Holds.f a0_0 a0_1 a0_2 a0_3 a0_4 a0_5 a0_6).bind fun t463 => (some t463)) else (some 0)) = some r := H
 have A2 := Aside0.mk A20
 clear A20
 by_cases c3 : t462 = true
 ·subst c3
  rw [if_pos rfl] at H
  replace H := Option.bind_eq_some_iff.mp H
  obtain ⟨t463, A40, H⟩ := H
  replace H : (some t463) = some r := H
  have A4 := Aside0.mk A40
  clear A40
  obtain rfl := Option.some.inj H
  go_enter Try.func153, Try.ntmps153
  go_wp2_with (first | ((with_reducible refine gate_dst (N := 1) rfl ?_); refine box_event ?hg (N := 1) ?hd (cs := #[.int .i64 a0_0, .int .i64 a0_1, .int .i64 a0_2, .int .i64 a0_3, .int .i64 a0_4, .int .i64 a0_5, .int .i64 a0_6]) (t := 41) ?hr ?_; (case hd => rfl); (case hg => rfl); (case hr => first | (go_simp; done) | (go_simp; rfl)); intro gb461 hg w5 hbox hb; have n0_ := Aside0.mk (below_step z32x3 hb); have n1_ := Aside0.mk (hbox); have n2_ := Aside0.mk ((z32x1 : w.heap.size ≤ gb461)); have n3_ := Aside0.mk ((z32x1 : w.heap.size ≤ gb461)); clear HB; have HB := n0_; have BK461 := n1_; have GW461 := n2_; have GE461 := n3_; clear n0_ n1_ n2_ n3_; clear hb hbox hg; have hcz6_0 : w5.cell? ⟨gb461, 0, none⟩ = some (.int .i64 a0_0) := (blk_cell BK461.out 0).trans rfl; have hcz6_1 : w5.cell? ⟨gb461, 1, none⟩ = some (.int .i64 a0_1) := (blk_cell BK461.out 1).trans rfl; have hcz6_2 : w5.cell? ⟨gb461, 2, none⟩ = some (.int .i64 a0_2) := (blk_cell BK461.out 2).trans rfl; have hcz6_3 : w5.cell? ⟨gb461, 3, none⟩ = some (.int .i64 a0_3) := (blk_cell BK461.out 3).trans rfl; have hcz6_4 : w5.cell? ⟨gb461, 4, none⟩ = some (.int .i64 a0_4) := (blk_cell BK461.out 4).trans rfl; have hcz6_5 : w5.cell? ⟨gb461, 5, none⟩ = some (.int .i64 a0_5) := (blk_cell BK461.out 5).trans rfl; have hcz6_6 : w5.cell? ⟨gb461, 6, none⟩ = some (.int .i64 a0_6) := (blk_cell BK461.out 6).trans rfl; have hfz6_0 := blk_frozen BK461.out 0; have hfz6_1 := blk_frozen BK461.out 1; have hfz6_2 := blk_frozen BK461.out 2; have hfz6_3 := blk_frozen BK461.out 3; have hfz6_4 := blk_frozen BK461.out 4; have hfz6_5 := blk_frozen BK461.out 5; have hfz6_6 := blk_frozen BK461.out 6) | ((with_reducible refine gate_callee (f := 102) rfl ?_); refine goesL_ (some 4) rfl rfl Try.func102 (by kernel_rfl) rfl #[.agg #[.int .i64 a0_0, .int .i64 a0_1, .int .i64 a0_2, .int .i64 a0_3, .int .i64 a0_4, .int .i64 a0_5, .int .i64 a0_6]] rfl z32x2 ?_; (with_reducible refine (spec_SealOk.calls a0_0 a0_1 a0_2 a0_3 a0_4 a0_5 a0_6 true _ A2.out).mono ?_); rintro e w7 ⟨rfl, hb⟩; refine ⟨_, rfl, ?_⟩; have n0_ := Aside0.mk (blk_below (g := gb461) (o := .cells #[.int .i64 a0_0, .int .i64 a0_1, .int .i64 a0_2, .int .i64 a0_3, .int .i64 a0_4, .int .i64 a0_5, .int .i64 a0_6] 41 (0, 0)) z32x4 hb); have n1_ := Aside0.mk (below_step z32x0 hb); clear BK461; clear HB; have BK461 := n0_; have HB := n1_; clear n0_ n1_; (try clear hb); (try clear hb2); (try clear hk); (try clear hi); have hcz8_0 : w7.cell? ⟨gb461, 0, none⟩ = some (.int .i64 a0_0) := (blk_cell BK461.out 0).trans rfl; have hcz8_1 : w7.cell? ⟨gb461, 1, none⟩ = some (.int .i64 a0_1) := (blk_cell BK461.out 1).trans rfl; have hcz8_2 : w7.cell? ⟨gb461, 2, none⟩ = some (.int .i64 a0_2) := (blk_cell BK461.out 2).trans rfl; have hcz8_3 : w7.cell? ⟨gb461, 3, none⟩ = some (.int .i64 a0_3) := (blk_cell BK461.out 3).trans rfl; have hcz8_4 : w7.cell? ⟨gb461, 4, none⟩ = some (.int .i64 a0_4) := (blk_cell BK461.out 4).trans rfl; have hcz8_5 : w7.cell? ⟨gb461, 5, none⟩ = some (.int .i64 a0_5) := (blk_cell BK461.out 5).trans rfl; have hcz8_6 : w7.cell? ⟨gb461, 6, none⟩ = some (.int .i64 a0_6) := (blk_cell BK461.out 6).trans rfl; have hfz8_0 := blk_frozen BK461.out 0; have hfz8_1 := blk_frozen BK461.out 1; have hfz8_2 := blk_frozen BK461.out 2; have hfz8_3 := blk_frozen BK461.out 3; have hfz8_4 := blk_frozen BK461.out 4; have hfz8_5 := blk_frozen BK461.out 5; have hfz8_6 := blk_frozen BK461.out 6) | ((with_reducible refine gate_callee (f := 171) rfl ?_); refine goesL_ (some 7) rfl rfl Try.func171 (by kernel_rfl) rfl #[.agg #[.int .i64 a0_0, .int .i64 a0_1, .int .i64 a0_2, .int .i64 a0_3, .int .i64 a0_4, .int .i64 a0_5, .int .i64 a0_6]] rfl z32x2 ?_; (with_reducible refine (spec_l1Holds.calls a0_0 a0_1 a0_2 a0_3 a0_4 a0_5 a0_6 t463 _ A4.out).mono ?_); rintro e w9 ⟨rfl, hb⟩; refine ⟨_, rfl, ?_⟩; have n0_ := Aside0.mk (blk_below (g := gb461) (o := .cells #[.int .i64 a0_0, .int .i64 a0_1, .int .i64 a0_2, .int .i64 a0_3, .int .i64 a0_4, .int .i64 a0_5, .int .i64 a0_6] 41 (0, 0)) z32x4 hb); have n1_ := Aside0.mk (below_step z32x0 hb); clear BK461; clear HB; have BK461 := n0_; have HB := n1_; clear n0_ n1_; (try clear hb); (try clear hb2); (try clear hk); (try clear hi)))
  go_ret
  exact ⟨by first | rfl | (simp [errW_none, errW_some] <;> rfl) | (simp [*, errW_none, errW_some] <;> rfl), by repeat (first | (with_reducible first | exact HB.out | apply below_alloc | apply pw_below_drewN | apply below_drew1 | refine below_set ?_ GE461.out) | exact HB.out)⟩
 ·replace c3 := Bool.eq_false_iff.mpr c3
  subst c3
  rw [if_neg (show ¬ (false = true) by decide)] at H
  obtain rfl := Option.some.inj H
  go_enter Try.func153, Try.ntmps153
  go_wp2_with (first | ((with_reducible refine gate_dst (N := 1) rfl ?_); refine box_event ?hg (N := 1) ?hd (cs := #[.int .i64 a0_0, .int .i64 a0_1, .int .i64 a0_2, .int .i64 a0_3, .int .i64 a0_4, .int .i64 a0_5, .int .i64 a0_6]) (t := 41) ?hr ?_; (case hd => rfl); (case hg => rfl); (case hr => first | (go_simp; done) | (go_simp; rfl)); intro gb461 hg w10 hbox hb; have n0_ := Aside0.mk (below_step z32x3 hb); have n1_ := Aside0.mk (hbox); have n2_ := Aside0.mk ((z32x1 : w.heap.size ≤ gb461)); have n3_ := Aside0.mk ((z32x1 : w.heap.size ≤ gb461)); clear HB; have HB := n0_; have BK461 := n1_; have GW461 := n2_; have GE461 := n3_; clear n0_ n1_ n2_ n3_; clear hb hbox hg; have hcz11_0 : w10.cell? ⟨gb461, 0, none⟩ = some (.int .i64 a0_0) := (blk_cell BK461.out 0).trans rfl; have hcz11_1 : w10.cell? ⟨gb461, 1, none⟩ = some (.int .i64 a0_1) := (blk_cell BK461.out 1).trans rfl; have hcz11_2 : w10.cell? ⟨gb461, 2, none⟩ = some (.int .i64 a0_2) := (blk_cell BK461.out 2).trans rfl; have hcz11_3 : w10.cell? ⟨gb461, 3, none⟩ = some (.int .i64 a0_3) := (blk_cell BK461.out 3).trans rfl; have hcz11_4 : w10.cell? ⟨gb461, 4, none⟩ = some (.int .i64 a0_4) := (blk_cell BK461.out 4).trans rfl; have hcz11_5 : w10.cell? ⟨gb461, 5, none⟩ = some (.int .i64 a0_5) := (blk_cell BK461.out 5).trans rfl; have hcz11_6 : w10.cell? ⟨gb461, 6, none⟩ = some (.int .i64 a0_6) := (blk_cell BK461.out 6).trans rfl; have hfz11_0 := blk_frozen BK461.out 0; have hfz11_1 := blk_frozen BK461.out 1; have hfz11_2 := blk_frozen BK461.out 2; have hfz11_3 := blk_frozen BK461.out 3; have hfz11_4 := blk_frozen BK461.out 4; have hfz11_5 := blk_frozen BK461.out 5; have hfz11_6 := blk_frozen BK461.out 6) | ((with_reducible refine gate_callee (f := 102) rfl ?_); refine goesL_ (some 4) rfl rfl Try.func102 (by kernel_rfl) rfl #[.agg #[.int .i64 a0_0, .int .i64 a0_1, .int .i64 a0_2, .int .i64 a0_3, .int .i64 a0_4, .int .i64 a0_5, .int .i64 a0_6]] rfl z32x2 ?_; (with_reducible refine (spec_SealOk.calls a0_0 a0_1 a0_2 a0_3 a0_4 a0_5 a0_6 false _ A2.out).mono ?_); rintro e w12 ⟨rfl, hb⟩; refine ⟨_, rfl, ?_⟩; have n0_ := Aside0.mk (blk_below (g := gb461) (o := .cells #[.int .i64 a0_0, .int .i64 a0_1, .int .i64 a0_2, .int .i64 a0_3, .int .i64 a0_4, .int .i64 a0_5, .int .i64 a0_6] 41 (0, 0)) z32x4 hb); have n1_ := Aside0.mk (below_step z32x0 hb); clear BK461; clear HB; have BK461 := n0_; have HB := n1_; clear n0_ n1_; (try clear hb); (try clear hb2); (try clear hk); (try clear hi)))
  go_ret
  exact ⟨by first | rfl | (simp [errW_none, errW_some] <;> rfl) | (simp [*, errW_none, errW_some] <;> rfl), by repeat (first | (with_reducible first | exact HB.out | apply below_alloc | apply pw_below_drewN | apply below_drew1 | refine below_set ?_ GE461.out) | exact HB.out)⟩

end Go.Proofs.Ytgekmdfcbcacdaa.Hp
