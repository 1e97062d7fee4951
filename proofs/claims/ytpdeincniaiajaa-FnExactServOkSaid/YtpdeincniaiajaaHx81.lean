-- hp.py
import Derived.Test.YtpdeincniaiajaaHx0
import Derived.Test.YtpdeincniaiajaaHx7
import Derived.Test.YtpdeincniaiajaaHx9
namespace Go.Proofs.Ytpdeincniaiajaa.Hp
open Go.RowKit Go.Proofs.YtpdeincniaiajaaW.PrintWords Go.Proofs.YtpdeincniaiajaaW.PrintLast Go.Proofs.YtpdeincniaiajaaW.PrintMore
attribute [local go_sem] max2_int min2_int max_two min_two max_three min_three max_four min_four   -- for this text's walks alone
set_option linter.unusedVariables false
set_option linter.unusedSimpArgs false
-- squeezed by wip/tools/squeeze.py
theorem z81x4 {P : Prop} (h : P := by (with_reducible repeat (first | refine blk_drewN ?_ _ | refine blk_drew ?_ | refine blk_alloc ?_ _)); exact BK957.out) : P := h
theorem z81x3 {P : Prop} (h : P := by repeat (first | (with_reducible first | exact HB.out | apply below_alloc | apply pw_below_drewN | apply below_drew1) | exact HB.out)) : P := h
theorem z81x2 {P : Prop} (h : P := by (try simp only [List.map_toArray, List.map_cons, List.map_nil]); first | done | rfl | (simp only [List.length_drop, List.length_take]; rfl)) : P := h
theorem z81x1 {P : Prop} (h : P := by rw [hg]; exact (below_size (by repeat (first | (with_reducible first | exact HB.out | apply below_alloc | apply pw_below_drewN | apply below_drew1) | exact HB.out)))) : P := h
theorem z81x0 {P : Prop} (h : P := by repeat (first | (with_reducible first | exact HB.out | apply below_alloc | apply pw_below_drewN | apply below_drew1 | refine below_set ?_ GE957.out) | exact HB.out)) : P := h

-- NOT PRINTED: function 168 (impl_Msg_168)

-- NOT PRINTED: function 127 (impl_Msg_127)

-- NOT PRINTED: function 60 (impl_WorldOk)

/-! ### impl_SealHolds: function 178 -/
def impl_SealHolds.f (a0_0 : Int) (a0_1 : Int) (a0_2 : Int) (a0_3 : Int) (a0_4 : Int) (a0_5 : Int) (a0_6 : Int) : Option (Int) := (impl_SealOk.f a0_0 a0_1 a0_2 a0_3 a0_4 a0_5 a0_6).bind fun t958 => (if t958 = true then (if a0_1 = 1 then (some a0_4) else (if a0_1 = 2 then (some a0_3) else (some 0))) else (some 0))
set_option maxHeartbeats 8000000 in
set_option maxRecDepth 100000 in
theorem impl_SealHolds.calls (a0_0 : Int) (a0_1 : Int) (a0_2 : Int) (a0_3 : Int) (a0_4 : Int) (a0_5 : Int) (a0_6 : Int) (r : Int) (w : World) (h : impl_SealHolds.f a0_0 a0_1 a0_2 a0_3 a0_4 a0_5 a0_6 = some r) :
  Calls Try.prog 178 #[.agg #[.int .i64 a0_0, .int .i64 a0_1, .int .i64 a0_2, .int .i64 a0_3, .int .i64 a0_4, .int .i64 a0_5, .int .i64 a0_6]] w fun e w' => e = .returned (.int .i64 r) ∧ Below w.heap.size w w' := by
 have hu57 := Try.underlying57
 have HB := Aside0.mk (Below.refl w.heap.size w)
 have H : ((impl_SealOk.f a0_0 a0_1 a0_2 a0_3 a0_4 a0_5 a0_6).bind fun t958 => (if t958 = true then (if a0_1 = 1 then (some a0_4) else (if a0_1 = 2 then (some a0_3) else (some 0))) else (some 0))) = some r := h
 clear h
 replace H := Option.bind_eq_some_iff.mp H
 obtain ⟨t958, A20, H⟩ := H
 replace H : (if t958 = true then (if a0_1 = 1 then (some a0_4) else (if a0_1 = 2 then (some a0_3) else (some 0))) else (some 0)) = some r := H
 have A2 := Aside0.mk A20
 clear A20
 by_cases c3 : t958 = true
 ·subst c3
  rw [if_pos rfl] at H
  by_cases c4 : a0_1 = 1
  ·rw [if_pos c4] at H
   have c4b0 : (a0_1 == 1) = true := beq_iff_eq.mpr c4
   have c4b1 : (a0_1 != 1) = false := bne_eq_false_iff_eq.mpr c4
   clear c4
   obtain rfl := Option.some.inj H
   go_enter Try.func178, Try.ntmps178
   go_wp2_with (first | ((with_reducible refine gate_dst (N := 1) rfl ?_); refine box_event ?hg (N := 1) ?hd (cs := #[.int .i64 a0_0, .int .i64 a0_1, .int .i64 a0_2, .int .i64 a0_3, .int .i64 a0_4, .int .i64 a0_5, .int .i64 a0_6]) (t := 57) ?hr ?_; (case hd => rfl); (case hg => rfl); (case hr => first | (go_simp; done) | (go_simp; rfl)); intro gb957 hg w5 hbox hb; have n0_ := Aside0.mk (below_step z81x3 hb); have n1_ := Aside0.mk (hbox); have n2_ := Aside0.mk ((z81x1 : w.heap.size ≤ gb957)); have n3_ := Aside0.mk ((z81x1 : w.heap.size ≤ gb957)); clear HB; have HB := n0_; have BK957 := n1_; have GW957 := n2_; have GE957 := n3_; clear n0_ n1_ n2_ n3_; clear hb hbox hg; have hcz6_0 : w5.cell? ⟨gb957, 0, none⟩ = some (.int .i64 a0_0) := (blk_cell BK957.out 0).trans rfl; have hcz6_1 : w5.cell? ⟨gb957, 1, none⟩ = some (.int .i64 a0_1) := (blk_cell BK957.out 1).trans rfl; have hcz6_2 : w5.cell? ⟨gb957, 2, none⟩ = some (.int .i64 a0_2) := (blk_cell BK957.out 2).trans rfl; have hcz6_3 : w5.cell? ⟨gb957, 3, none⟩ = some (.int .i64 a0_3) := (blk_cell BK957.out 3).trans rfl; have hcz6_4 : w5.cell? ⟨gb957, 4, none⟩ = some (.int .i64 a0_4) := (blk_cell BK957.out 4).trans rfl; have hcz6_5 : w5.cell? ⟨gb957, 5, none⟩ = some (.int .i64 a0_5) := (blk_cell BK957.out 5).trans rfl; have hcz6_6 : w5.cell? ⟨gb957, 6, none⟩ = some (.int .i64 a0_6) := (blk_cell BK957.out 6).trans rfl; have hfz6_0 := blk_frozen BK957.out 0; have hfz6_1 := blk_frozen BK957.out 1; have hfz6_2 := blk_frozen BK957.out 2; have hfz6_3 := blk_frozen BK957.out 3; have hfz6_4 := blk_frozen BK957.out 4; have hfz6_5 := blk_frozen BK957.out 5; have hfz6_6 := blk_frozen BK957.out 6) | ((with_reducible refine gate_callee (f := 97) rfl ?_); refine goesL_ (some 5) rfl rfl Try.func97 (by kernel_rfl) rfl #[.agg #[.int .i64 a0_0, .int .i64 a0_1, .int .i64 a0_2, .int .i64 a0_3, .int .i64 a0_4, .int .i64 a0_5, .int .i64 a0_6]] rfl z81x2 ?_; (with_reducible refine (impl_SealOk.calls a0_0 a0_1 a0_2 a0_3 a0_4 a0_5 a0_6 true _ A2.out).mono ?_); rintro e w7 ⟨rfl, hb⟩; refine ⟨_, rfl, ?_⟩; have n0_ := Aside0.mk (blk_below (g := gb957) (o := .cells #[.int .i64 a0_0, .int .i64 a0_1, .int .i64 a0_2, .int .i64 a0_3, .int .i64 a0_4, .int .i64 a0_5, .int .i64 a0_6] 57 (0, 0)) z81x4 hb); have n1_ := Aside0.mk (below_step z81x0 hb); clear BK957; clear HB; have BK957 := n0_; have HB := n1_; clear n0_ n1_; (try clear hb); (try clear hb2); (try clear hk); (try clear hi); have hcz8_0 : w7.cell? ⟨gb957, 0, none⟩ = some (.int .i64 a0_0) := (blk_cell BK957.out 0).trans rfl; have hcz8_1 : w7.cell? ⟨gb957, 1, none⟩ = some (.int .i64 a0_1) := (blk_cell BK957.out 1).trans rfl; have hcz8_2 : w7.cell? ⟨gb957, 2, none⟩ = some (.int .i64 a0_2) := (blk_cell BK957.out 2).trans rfl; have hcz8_3 : w7.cell? ⟨gb957, 3, none⟩ = some (.int .i64 a0_3) := (blk_cell BK957.out 3).trans rfl; have hcz8_4 : w7.cell? ⟨gb957, 4, none⟩ = some (.int .i64 a0_4) := (blk_cell BK957.out 4).trans rfl; have hcz8_5 : w7.cell? ⟨gb957, 5, none⟩ = some (.int .i64 a0_5) := (blk_cell BK957.out 5).trans rfl; have hcz8_6 : w7.cell? ⟨gb957, 6, none⟩ = some (.int .i64 a0_6) := (blk_cell BK957.out 6).trans rfl; have hfz8_0 := blk_frozen BK957.out 0; have hfz8_1 := blk_frozen BK957.out 1; have hfz8_2 := blk_frozen BK957.out 2; have hfz8_3 := blk_frozen BK957.out 3; have hfz8_4 := blk_frozen BK957.out 4; have hfz8_5 := blk_frozen BK957.out 5; have hfz8_6 := blk_frozen BK957.out 6))
   go_ret
   exact ⟨by first | rfl | (simp [errW_none, errW_some] <;> rfl) | (simp [*, errW_none, errW_some] <;> rfl), by repeat (first | (with_reducible first | exact HB.out | apply below_alloc | apply pw_below_drewN | apply below_drew1 | refine below_set ?_ GE957.out) | exact HB.out)⟩
  ·rw [if_neg c4] at H
   have c4b0 : (a0_1 == 1) = false := beq_eq_false_iff_ne.mpr c4
   have c4b1 : (a0_1 != 1) = true := bne_iff_ne.mpr c4
   by_cases c9 : a0_1 = 2
   ·rw [if_pos c9] at H
    have c9b0 : (a0_1 == 2) = true := beq_iff_eq.mpr c9
    have c9b1 : (a0_1 != 2) = false := bne_eq_false_iff_eq.mpr c9
    clear c9
    obtain rfl := Option.some.inj H
    go_enter Try.func178, Try.ntmps178
    go_wp2_with (first | ((with_reducible refine gate_dst (N := 1) rfl ?_); refine box_event ?hg (N := 1) ?hd (cs := #[.int .i64 a0_0, .int .i64 a0_1, .int .i64 a0_2, .int .i64 a0_3, .int .i64 a0_4, .int .i64 a0_5, .int .i64 a0_6]) (t := 57) ?hr ?_; (case hd => rfl); (case hg => rfl); (case hr => first | (go_simp; done) | (go_simp; rfl)); intro gb957 hg w10 hbox hb; have n0_ := Aside0.mk (below_step z81x3 hb); have n1_ := Aside0.mk (hbox); have n2_ := Aside0.mk ((z81x1 : w.heap.size ≤ gb957)); have n3_ := Aside0.mk ((z81x1 : w.heap.size ≤ gb957)); clear HB; have HB := n0_; have BK957 := n1_; have GW957 := n2_; have GE957 := n3_; clear n0_ n1_ n2_ n3_; clear hb hbox hg; have hcz11_0 : w10.cell? ⟨gb957, 0, none⟩ = some (.int .i64 a0_0) := (blk_cell BK957.out 0).trans rfl; have hcz11_1 : w10.cell? ⟨gb957, 1, none⟩ = some (.int .i64 a0_1) := (blk_cell BK957.out 1).trans rfl; have hcz11_2 : w10.cell? ⟨gb957, 2, none⟩ = some (.int .i64 a0_2) := (blk_cell BK957.out 2).trans rfl; have hcz11_3 : w10.cell? ⟨gb957, 3, none⟩ = some (.int .i64 a0_3) := (blk_cell BK957.out 3).trans rfl; have hcz11_4 : w10.cell? ⟨gb957, 4, none⟩ = some (.int .i64 a0_4) := (blk_cell BK957.out 4).trans rfl; have hcz11_5 : w10.cell? ⟨gb957, 5, none⟩ = some (.int .i64 a0_5) := (blk_cell BK957.out 5).trans rfl; have hcz11_6 : w10.cell? ⟨gb957, 6, none⟩ = some (.int .i64 a0_6) := (blk_cell BK957.out 6).trans rfl; have hfz11_0 := blk_frozen BK957.out 0; have hfz11_1 := blk_frozen BK957.out 1; have hfz11_2 := blk_frozen BK957.out 2; have hfz11_3 := blk_frozen BK957.out 3; have hfz11_4 := blk_frozen BK957.out 4; have hfz11_5 := blk_frozen BK957.out 5; have hfz11_6 := blk_frozen BK957.out 6) | ((with_reducible refine gate_callee (f := 97) rfl ?_); refine goesL_ (some 5) rfl rfl Try.func97 (by kernel_rfl) rfl #[.agg #[.int .i64 a0_0, .int .i64 a0_1, .int .i64 a0_2, .int .i64 a0_3, .int .i64 a0_4, .int .i64 a0_5, .int .i64 a0_6]] rfl z81x2 ?_; (with_reducible refine (impl_SealOk.calls a0_0 a0_1 a0_2 a0_3 a0_4 a0_5 a0_6 true _ A2.out).mono ?_); rintro e w12 ⟨rfl, hb⟩; refine ⟨_, rfl, ?_⟩; have n0_ := Aside0.mk (blk_below (g := gb957) (o := .cells #[.int .i64 a0_0, .int .i64 a0_1, .int .i64 a0_2, .int .i64 a0_3, .int .i64 a0_4, .int .i64 a0_5, .int .i64 a0_6] 57 (0, 0)) z81x4 hb); have n1_ := Aside0.mk (below_step z81x0 hb); clear BK957; clear HB; have BK957 := n0_; have HB := n1_; clear n0_ n1_; (try clear hb); (try clear hb2); (try clear hk); (try clear hi); have hcz13_0 : w12.cell? ⟨gb957, 0, none⟩ = some (.int .i64 a0_0) := (blk_cell BK957.out 0).trans rfl; have hcz13_1 : w12.cell? ⟨gb957, 1, none⟩ = some (.int .i64 a0_1) := (blk_cell BK957.out 1).trans rfl; have hcz13_2 : w12.cell? ⟨gb957, 2, none⟩ = some (.int .i64 a0_2) := (blk_cell BK957.out 2).trans rfl; have hcz13_3 : w12.cell? ⟨gb957, 3, none⟩ = some (.int .i64 a0_3) := (blk_cell BK957.out 3).trans rfl; have hcz13_4 : w12.cell? ⟨gb957, 4, none⟩ = some (.int .i64 a0_4) := (blk_cell BK957.out 4).trans rfl; have hcz13_5 : w12.cell? ⟨gb957, 5, none⟩ = some (.int .i64 a0_5) := (blk_cell BK957.out 5).trans rfl; have hcz13_6 : w12.cell? ⟨gb957, 6, none⟩ = some (.int .i64 a0_6) := (blk_cell BK957.out 6).trans rfl; have hfz13_0 := blk_frozen BK957.out 0; have hfz13_1 := blk_frozen BK957.out 1; have hfz13_2 := blk_frozen BK957.out 2; have hfz13_3 := blk_frozen BK957.out 3; have hfz13_4 := blk_frozen BK957.out 4; have hfz13_5 := blk_frozen BK957.out 5; have hfz13_6 := blk_frozen BK957.out 6))
    go_ret
    exact ⟨by first | rfl | (simp [errW_none, errW_some] <;> rfl) | (simp [*, errW_none, errW_some] <;> rfl), by repeat (first | (with_reducible first | exact HB.out | apply below_alloc | apply pw_below_drewN | apply below_drew1 | refine below_set ?_ GE957.out) | exact HB.out)⟩
   ·rw [if_neg c9] at H
    have c9b0 : (a0_1 == 2) = false := beq_eq_false_iff_ne.mpr c9
    have c9b1 : (a0_1 != 2) = true := bne_iff_ne.mpr c9
    obtain rfl := Option.some.inj H
    go_enter Try.func178, Try.ntmps178
    go_wp2_with (first | ((with_reducible refine gate_dst (N := 1) rfl ?_); refine box_event ?hg (N := 1) ?hd (cs := #[.int .i64 a0_0, .int .i64 a0_1, .int .i64 a0_2, .int .i64 a0_3, .int .i64 a0_4, .int .i64 a0_5, .int .i64 a0_6]) (t := 57) ?hr ?_; (case hd => rfl); (case hg => rfl); (case hr => first | (go_simp; done) | (go_simp; rfl)); intro gb957 hg w14 hbox hb; have n0_ := Aside0.mk (below_step z81x3 hb); have n1_ := Aside0.mk (hbox); have n2_ := Aside0.mk ((z81x1 : w.heap.size ≤ gb957)); have n3_ := Aside0.mk ((z81x1 : w.heap.size ≤ gb957)); clear HB; have HB := n0_; have BK957 := n1_; have GW957 := n2_; have GE957 := n3_; clear n0_ n1_ n2_ n3_; clear hb hbox hg; have hcz15_0 : w14.cell? ⟨gb957, 0, none⟩ = some (.int .i64 a0_0) := (blk_cell BK957.out 0).trans rfl; have hcz15_1 : w14.cell? ⟨gb957, 1, none⟩ = some (.int .i64 a0_1) := (blk_cell BK957.out 1).trans rfl; have hcz15_2 : w14.cell? ⟨gb957, 2, none⟩ = some (.int .i64 a0_2) := (blk_cell BK957.out 2).trans rfl; have hcz15_3 : w14.cell? ⟨gb957, 3, none⟩ = some (.int .i64 a0_3) := (blk_cell BK957.out 3).trans rfl; have hcz15_4 : w14.cell? ⟨gb957, 4, none⟩ = some (.int .i64 a0_4) := (blk_cell BK957.out 4).trans rfl; have hcz15_5 : w14.cell? ⟨gb957, 5, none⟩ = some (.int .i64 a0_5) := (blk_cell BK957.out 5).trans rfl; have hcz15_6 : w14.cell? ⟨gb957, 6, none⟩ = some (.int .i64 a0_6) := (blk_cell BK957.out 6).trans rfl; have hfz15_0 := blk_frozen BK957.out 0; have hfz15_1 := blk_frozen BK957.out 1; have hfz15_2 := blk_frozen BK957.out 2; have hfz15_3 := blk_frozen BK957.out 3; have hfz15_4 := blk_frozen BK957.out 4; have hfz15_5 := blk_frozen BK957.out 5; have hfz15_6 := blk_frozen BK957.out 6) | ((with_reducible refine gate_callee (f := 97) rfl ?_); refine goesL_ (some 5) rfl rfl Try.func97 (by kernel_rfl) rfl #[.agg #[.int .i64 a0_0, .int .i64 a0_1, .int .i64 a0_2, .int .i64 a0_3, .int .i64 a0_4, .int .i64 a0_5, .int .i64 a0_6]] rfl z81x2 ?_; (with_reducible refine (impl_SealOk.calls a0_0 a0_1 a0_2 a0_3 a0_4 a0_5 a0_6 true _ A2.out).mono ?_); rintro e w16 ⟨rfl, hb⟩; refine ⟨_, rfl, ?_⟩; have n0_ := Aside0.mk (blk_below (g := gb957) (o := .cells #[.int .i64 a0_0, .int .i64 a0_1, .int .i64 a0_2, .int .i64 a0_3, .int .i64 a0_4, .int .i64 a0_5, .int .i64 a0_6] 57 (0, 0)) z81x4 hb); have n1_ := Aside0.mk (below_step z81x0 hb); clear BK957; clear HB; have BK957 := n0_; have HB := n1_; clear n0_ n1_; (try clear hb); (try clear hb2); (try clear hk); (try clear hi); have hcz17_0 : w16.cell? ⟨gb957, 0, none⟩ = some (.int .i64 a0_0) := (blk_cell BK957.out 0).trans rfl; have hcz17_1 : w16.cell? ⟨gb957, 1, none⟩ = some (.int .i64 a0_1) := (blk_cell BK957.out 1).trans rfl; have hcz17_2 : w16.cell? ⟨gb957, 2, none⟩ = some (.int .i64 a0_2) := (blk_cell BK957.out 2).trans rfl; have hcz17_3 : w16.cell? ⟨gb957, 3, none⟩ = some (.int .i64 a0_3) := (blk_cell BK957.out 3).trans rfl; have hcz17_4 : w16.cell? ⟨gb957, 4, none⟩ = some (.int .i64 a0_4) := (blk_cell BK957.out 4).trans rfl; have hcz17_5 : w16.cell? ⟨gb957, 5, none⟩ = some (.int .i64 a0_5) := (blk_cell BK957.out 5).trans rfl; have hcz17_6 : w16.cell? ⟨gb957, 6, none⟩ = some (.int .i64 a0_6) := (blk_cell BK957.out 6).trans rfl; have hfz17_0 := blk_frozen BK957.out 0; have hfz17_1 := blk_frozen BK957.out 1; have hfz17_2 := blk_frozen BK957.out 2; have hfz17_3 := blk_frozen BK957.out 3; have hfz17_4 := blk_frozen BK957.out 4; have hfz17_5 := blk_frozen BK957.out 5; have hfz17_6 := blk_frozen BK957.out 6))
    go_ret
    exact ⟨by first | rfl | (simp [errW_none, errW_some] <;> rfl) | (simp [*, errW_none, errW_some] <;> rfl), by repeat (first | (with_reducible first | exact HB.out | apply below_alloc | apply pw_below_drewN | apply below_drew1 | refine below_set ?_ GE957.out) | exact HB.out)⟩
 ·replace c3 := Bool.eq_false_iff.mpr c3
  subst c3
  rw [if_neg (show ¬ (false = true) by decide)] at H
  obtain rfl := Option.some.inj H
  go_enter Try.func178, Try.ntmps178
  go_wp2_with (first | ((with_reducible refine gate_dst (N := 1) rfl ?_); refine box_event ?hg (N := 1) ?hd (cs := #[.int .i64 a0_0, .int .i64 a0_1, .int .i64 a0_2, .int .i64 a0_3, .int .i64 a0_4, .int .i64 a0_5, .int .i64 a0_6]) (t := 57) ?hr ?_; (case hd => rfl); (case hg => rfl); (case hr => first | (go_simp; done) | (go_simp; rfl)); intro gb957 hg w18 hbox hb; have n0_ := Aside0.mk (below_step z81x3 hb); have n1_ := Aside0.mk (hbox); have n2_ := Aside0.mk ((z81x1 : w.heap.size ≤ gb957)); have n3_ := Aside0.mk ((z81x1 : w.heap.size ≤ gb957)); clear HB; have HB := n0_; have BK957 := n1_; have GW957 := n2_; have GE957 := n3_; clear n0_ n1_ n2_ n3_; clear hb hbox hg; have hcz19_0 : w18.cell? ⟨gb957, 0, none⟩ = some (.int .i64 a0_0) := (blk_cell BK957.out 0).trans rfl; have hcz19_1 : w18.cell? ⟨gb957, 1, none⟩ = some (.int .i64 a0_1) := (blk_cell BK957.out 1).trans rfl; have hcz19_2 : w18.cell? ⟨gb957, 2, none⟩ = some (.int .i64 a0_2) := (blk_cell BK957.out 2).trans rfl; have hcz19_3 : w18.cell? ⟨gb957, 3, none⟩ = some (.int .i64 a0_3) := (blk_cell BK957.out 3).trans rfl; have hcz19_4 : w18.cell? ⟨gb957, 4, none⟩ = some (.int .i64 a0_4) := (blk_cell BK957.out 4).trans rfl; have hcz19_5 : w18.cell? ⟨gb957, 5, none⟩ = some (.int .i64 a0_5) := (blk_cell BK957.out 5).trans rfl; have hcz19_6 : w18.cell? ⟨gb957, 6, none⟩ = some (.int .i64 a0_6) := (blk_cell BK957.out 6).trans rfl; have hfz19_0 := blk_frozen BK957.out 0; have hfz19_1 := blk_frozen BK957.out 1; have hfz19_2 := blk_frozen BK957.out 2; have hfz19_3 := blk_frozen BK957.out 3; have hfz19_4 := blk_frozen BK957.out 4; have hfz19_5 := blk_frozen BK957.out 5; have hfz19_6 := blk_frozen BK957.out 6) | ((with_reducible refine gate_callee (f := 97) rfl ?_); refine goesL_ (some 5) rfl rfl Try.func97 (by kernel_rfl) rfl #[.agg #[.int .i64 a0_0, .int .i64 a0_1, .int .i64 a0_2, .int .i64 a0_3, .int .i64 a0_4, .int .i64 a0_5, .int .i64 a0_6]] rfl z81x2 ?_; (with_reducible refine (impl_SealOk.calls a0_0 a0_1 a0_2 a0_3 a0_4 a0_5 a0_6 false _ A2.out).mono ?_); rintro e w20 ⟨rfl, hb⟩; refine ⟨_, rfl, ?_⟩; have n0_ := Aside0.mk (blk_below (g := gb957) (o := .cells #[.int .i64 a0_0, .int .i64 a0_1, .int .i64 a0_2, .int .i64 a0_3, .int .i64 a0_4, .int .i64 a0_5, .int .i64 a0_6] 57 (0, 0)) z81x4 hb); have n1_ := Aside0.mk (below_step z81x0 hb); clear BK957; clear HB; have BK957 := n0_; have HB := n1_; clear n0_ n1_; (try clear hb); (try clear hb2); (try clear hk); (try clear hi)))
  go_ret
  exact ⟨by first | rfl | (simp [errW_none, errW_some] <;> rfl) | (simp [*, errW_none, errW_some] <;> rfl), by repeat (first | (with_reducible first | exact HB.out | apply below_alloc | apply pw_below_drewN | apply below_drew1 | refine below_set ?_ GE957.out) | exact HB.out)⟩

/-! ### impl_ring_has: function 179 -/
/-- Block g is a ring: which keys one has. -/
structure Ring (w : World) (g : Nat) (bs : List Bool) : Prop where
  blk : w.heap[g]? = some (.cells (bs.map Value.bool).toArray 188 (0, 0))
  len : bs.length = 61
theorem Ring.below {w w' : World} {g : Nat} {bs : List Bool} (h : Ring w g bs) (hb : Below w.heap.size w w') : Ring w' g bs :=
  ⟨(hb.block g (Array.getElem?_eq_some_iff.1 h.blk).1).trans h.blk, h.len⟩
theorem Ring.cell {w : World} {g : Nat} {bs : List Bool} (h : Ring w g bs) (i : Nat) (hi : i < 61) : w.cell? ⟨g, i, none⟩ = some (.bool (bs.getD i false)) := by
  rw [blk_cell h.blk i]
  have hl : i < bs.length := by have := h.len; omega
  simp [List.getD_eq_getElem?_getD, List.getElem?_eq_getElem hl]
theorem Ring.frozen {w : World} {g : Nat} {bs : List Bool} (h : Ring w g bs) (i : Nat) : w.frozen? ⟨g, i, none⟩ = false := blk_frozen h.blk i
/-- Is a key there? -/
def ringHas (bs : List Bool) (key : Int) : Bool := decide (1 ≤ key ∧ key ≤ 60) && bs.getD key.toNat false
theorem within_is (n lo hi : Int) : impl_within.f n lo hi = some (decide (lo ≤ n ∧ n ≤ hi)) := by
  unfold impl_within.f
  split
  · simp; omega
  · simp; omega
set_option maxHeartbeats 8000000 in
set_option maxRecDepth 100000 in
theorem impl_ring_has.calls (g : Nat) (bs : List Bool) (key : Int) (w : World) (hR : Ring w g bs) :
    Calls Try.prog 179 #[.pointer (some ⟨g, 0, none⟩), .int .i64 key] w fun e w' => e = .returned (.bool (ringHas bs key)) ∧ Drawn0 w w' := by
  by_cases h : 1 ≤ key ∧ key ≤ 60
  · have HW := Aside0.mk ((within_is key 1 60).trans (by rw [decide_eq_true h]))
    have HH := Aside0.mk (show ringHas bs key = bs.getD key.toNat false by unfold ringHas; rw [decide_eq_true h]; rfl)
    have hc := hR.cell key.toNat (by omega)
    have h1 : 0 ≤ key := by omega
    have h2 : key < 61 := by omega
    clear hR h
    go_enter Try.func179, Try.ntmps179
    go_wp2_with (first | (go_at_call 78; refine (impl_within.calls _ _ _ true _ HW.out).mono ?_; rintro e w1 ⟨rfl, hd⟩; obtain ⟨m, rfl⟩ := hd.out; clear hd))
    go_ret
    exact ⟨by rw [HH.out]; simp, ⟨⟨m, rfl⟩⟩⟩
  · have HW := Aside0.mk ((within_is key 1 60).trans (by rw [decide_eq_false h]))
    have HH := Aside0.mk (show ringHas bs key = false by unfold ringHas; rw [decide_eq_false h]; rfl)
    clear hR h
    go_enter Try.func179, Try.ntmps179
    go_wp2_with (first | (go_at_call 78; refine (impl_within.calls _ _ _ false _ HW.out).mono ?_; rintro e w1 ⟨rfl, hd⟩))
    go_ret
    exact ⟨by rw [HH.out]; rfl, hd⟩

end Go.Proofs.Ytpdeincniaiajaa.Hp
