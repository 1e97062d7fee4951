-- hp.py
import Derived.Test.YtpdeincniaiajaaHx0
import Derived.Test.YtpdeincniaiajaaHx38
import Derived.Test.YtpdeincniaiajaaHx52
namespace Go.Proofs.Ytpdeincniaiajaa.Hp
open Go.RowKit Go.Proofs.YtpdeincniaiajaaW.PrintWords Go.Proofs.YtpdeincniaiajaaW.PrintLast Go.Proofs.YtpdeincniaiajaaW.PrintMore
attribute [local go_sem] max2_int min2_int max_two min_two max_three min_three max_four min_four   -- for this text's walks alone
set_option linter.unusedVariables false
set_option linter.unusedSimpArgs false
-- squeezed by wip/tools/squeeze.py
theorem z77x7 {P : Prop} (h : P := by (with_reducible repeat (first | refine blk_drewN ?_ _ | refine blk_drew ?_ | refine blk_alloc ?_ _)); exact BK929.out) : P := h
theorem z77x6 {P : Prop} (h : P := by repeat (first | (with_reducible first | exact HB.out | apply below_alloc | apply pw_below_drewN | apply below_drew1) | exact HB.out)) : P := h
theorem z77x5 {P : Prop} (h : P := by rw [hg]; exact (below_size (by repeat (first | (with_reducible first | exact HB.out | apply below_alloc | apply pw_below_drewN | apply below_drew1) | exact HB.out)))) : P := h
theorem z77x4 {P : Prop} (h : P := by repeat (first | (with_reducible first | exact HB.out | apply below_alloc | apply pw_below_drewN | apply below_drew1 | refine below_set ?_ GE929.out) | exact HB.out)) : P := h
theorem z77x3 {P : Prop} (h : P := by rw [hg]; exact (below_size (by repeat (first | (with_reducible first | exact HB.out | apply below_alloc | apply pw_below_drewN | apply below_drew1 | refine below_set ?_ GE929.out) | exact HB.out)))) : P := h
theorem z77x2 {P : Prop} (h : P := by repeat (first | (with_reducible first | exact HB.out | apply below_alloc | apply pw_below_drewN | apply below_drew1 | refine below_set ?_ GE929.out | refine below_set ?_ GE930.out) | exact HB.out)) : P := h
theorem z77x1 {P : Prop} (h : P := by rw [hg]; exact Nat.ne_of_lt (blk_lt (g := gb929) (o := .cells #[.int .i64 a0_0, .int .i64 a0_1, .slice A0_2 l0_2.length c0_2, .slice A0_3 l0_3.length c0_3] 35 (0, 0)) (by (with_reducible repeat (first | refine blk_drewN ?_ _ | refine blk_drew ?_ | refine blk_alloc ?_ _)); exact BK929.out))) : P := h
theorem z77x0 {P : Prop} (h : P := by rw [hg]; exact Nat.ne_of_gt (blk_lt (g := gb929) (o := .cells #[.int .i64 a0_0, .int .i64 a0_1, .slice A0_2 l0_2.length c0_2, .slice A0_3 l0_3.length c0_3] 35 (0, 0)) (by (with_reducible repeat (first | refine blk_drewN ?_ _ | refine blk_drew ?_ | refine blk_alloc ?_ _)); exact BK929.out))) : P := h

/-! ### impl_KdcNew: function 121 -/
def impl_KdcNew.f  : Option (Int × (List (S57))) := some (10, ([] : List (S57)))
set_option maxHeartbeats 8000000 in
set_option maxRecDepth 100000 in
theorem impl_KdcNew.calls  (r1 : Int) (r2 : List (S57)) (w : World) (h : impl_KdcNew.f  = some (r1, r2)) :
  Calls Try.prog 121 #[] w fun e w' => ∃ v1_ : Value, e = .returned (.agg #[.int .i64 r1, v1_]) ∧ Kd.R k57 57 w' w.heap.size (fun _ => True) v1_ r2 ∧ Below w.heap.size w w' := by
 have hu29 := Try.underlying29
 have HB := Aside0.mk (Below.refl w.heap.size w)
 have H : (some (10, ([] : List (S57)))) = some (r1, r2) := h
 clear h
 simp only [Option.some.injEq, Prod.mk.injEq] at H
 obtain ⟨rfl, rfl⟩ := H
 go_enter Try.func121, Try.ntmps121
 go_wp2_with (first | ((with_reducible refine gate_dst (N := 0) rfl ?_); refine box_event ?hg (N := 0) ?hd (cs := #[.int .i64 0, .slice none 0 0]) (t := 29) ?hr ?_; (case hd => rfl); (case hg => rfl); (case hr => first | (go_simp; done) | (go_simp; rfl)); intro gb922 hg w1 hbox hb; have n0_ := Aside0.mk (below_step z77x6 hb); have n1_ := Aside0.mk (hbox); have n2_ := Aside0.mk ((z77x5 : w.heap.size ≤ gb922)); have n3_ := Aside0.mk ((z77x5 : w.heap.size ≤ gb922)); clear HB; have HB := n0_; have BK922 := n1_; have GW922 := n2_; have GE922 := n3_; clear n0_ n1_ n2_ n3_; clear hb hbox hg; have hcz2_0 : w1.cell? ⟨gb922, 0, none⟩ = some (.int .i64 0) := (blk_cell BK922.out 0).trans rfl; have hcz2_1 : w1.cell? ⟨gb922, 1, none⟩ = some (.slice none 0 0) := (blk_cell BK922.out 1).trans rfl; have hfz2_0 := blk_frozen BK922.out 0; have hfz2_1 := blk_frozen BK922.out 1))
 refine bodyPost_ret (results_cell_row rfl _ _ gb922 29 #[.int .i64 10, .slice none 0 0] (0, 0) _ rfl (by (with_reducible repeat (first | refine blk_drewN ?_ _ | refine blk_drew ?_ | refine blk_alloc ?_ _)); refine blk_put (cs := #[.int .i64 10, .slice none 0 0]) ?_ 1 _ rfl; (with_reducible repeat (first | refine blk_drewN ?_ _ | refine blk_drew ?_ | refine blk_alloc ?_ _)); refine blk_put (cs := #[.int .i64 0, .slice none 0 0]) ?_ 0 _ rfl; (with_reducible repeat (first | refine blk_drewN ?_ _ | refine blk_drew ?_ | refine blk_alloc ?_ _)); exact BK922.out) Try.underlying29 rfl (by kernel_rfl)) rfl ?_
 exact ⟨_, by first | rfl | (simp [errW_none, errW_some] <;> rfl) | (simp [*, errW_none, errW_some] <;> rfl), by first | exact Kd.R_nil _ _ _ _ _ | exact Kd.N_nil _ _ _ _ _ | exact Kd.V_nil _ _ _ _ _ | exact Kd.Q_nil _ _ _ _ _ | exact Kd.S_nil _ _ _ _ _, by repeat (first | (with_reducible first | exact HB.out | apply below_alloc | apply pw_below_drewN | apply below_drew1 | refine below_set ?_ GE922.out) | exact HB.out)⟩

-- NOT PRINTED: function 56 (impl_WorldNew)

/-! ### laws_lbServ: function 75 -/
def laws_lbServ.f (k : Nat) (a0_0 : Int) (a0_1 : Int) (l0_2 : List (S57)) (l0_3 : List (S125)) (a1_0 : Int) (a1_1 : Int) (l1_2 : List (S57)) (l1_3 : List (S125)) : Option (Bool) := if a0_0 = a1_0 then (if a0_1 = a1_1 then ((laws_lbSeals.f k l0_2 l1_2).bind fun t931 => (if t931 = true then ((laws_lbCalls.f k l0_3 l1_3).bind fun t932 => (some t932)) else (some false))) else (some false)) else (some false)
theorem laws_lbServ.mono : ∀ a0 a1 a2 a3 a4 a5 a6 a7 k, LeO (laws_lbServ.f k a0 a1 a2 a3 a4 a5 a6 a7) (laws_lbServ.f (k + 1) a0 a1 a2 a3 a4 a5 a6 a7) := by
 intro a0 a1 a2 a3 a4 a5 a6 a7 k
 unfold laws_lbServ.f
 repeat' first
   | (with_reducible exact laws_lbCalls.mono _ _ _)
   | (with_reducible exact laws_lbSeals.mono _ _ _)
   | (with_reducible exact LeO.refl _)
   | (with_reducible exact LeO.none _)
   | (with_reducible refine LeO.ite ?_ ?_)
   | (with_reducible refine LeO.bind ?_ (fun _ => ?_))
   | exact laws_lbCalls.mono _ _ _
   | exact laws_lbSeals.mono _ _ _
   | exact LeO.none _
   | refine LeO.ite ?_ ?_
   | refine LeO.bind ?_ (fun _ => ?_)
set_option maxHeartbeats 8000000 in
set_option maxRecDepth 100000 in
theorem laws_lbServ.calls (k : Nat) (a0_0 : Int) (a0_1 : Int) (A0_2 : Option Addr) (c0_2 : Nat) (l0_2 : List (S57)) (A0_3 : Option Addr) (c0_3 : Nat) (l0_3 : List (S125)) (a1_0 : Int) (a1_1 : Int) (A1_2 : Option Addr) (c1_2 : Nat) (l1_2 : List (S57)) (A1_3 : Option Addr) (c1_3 : Nat) (l1_3 : List (S125)) (r : Bool) (w : World) (hr0_2 : Kd.C k57 w A0_2 l0_2.length l0_2) (hc0_2 : l0_2.length ≤ c0_2) (hr0_3 : Kd.C k125 w A0_3 l0_3.length l0_3) (hc0_3 : l0_3.length ≤ c0_3) (hr1_2 : Kd.C k57 w A1_2 l1_2.length l1_2) (hc1_2 : l1_2.length ≤ c1_2) (hr1_3 : Kd.C k125 w A1_3 l1_3.length l1_3) (hc1_3 : l1_3.length ≤ c1_3) (h : laws_lbServ.f k a0_0 a0_1 l0_2 l0_3 a1_0 a1_1 l1_2 l1_3 = some r) :
  Calls Try.prog 75 #[.agg #[.int .i64 a0_0, .int .i64 a0_1, .slice A0_2 l0_2.length c0_2, .slice A0_3 l0_3.length c0_3], .agg #[.int .i64 a1_0, .int .i64 a1_1, .slice A1_2 l1_2.length c1_2, .slice A1_3 l1_3.length c1_3]] w fun e w' => e = .returned (.bool r) ∧ Below w.heap.size w w' := by
 have hu35 := Try.underlying35
 have HR0_2 := Aside0.mk hr0_2
 have HC0_2 := Aside0.mk hc0_2
 clear hr0_2 hc0_2
 have HR0_3 := Aside0.mk hr0_3
 have HC0_3 := Aside0.mk hc0_3
 clear hr0_3 hc0_3
 have HR1_2 := Aside0.mk hr1_2
 have HC1_2 := Aside0.mk hc1_2
 clear hr1_2 hc1_2
 have HR1_3 := Aside0.mk hr1_3
 have HC1_3 := Aside0.mk hc1_3
 clear hr1_3 hc1_3
 have HB := Aside0.mk (Below.refl w.heap.size w)
 have H : (if a0_0 = a1_0 then (if a0_1 = a1_1 then ((laws_lbSeals.f k l0_2 l1_2).bind fun t931 => (if t931 = true then ((laws_lbCalls.f k l0_3 l1_3).bind fun t932 => (some t932)) else (some false))) else (some false)) else (some false)) = some r := h
 clear h
 by_cases c3 : a0_0 = a1_0
 ·rw [if_pos c3] at H
  have c3b0 : (a0_0 == a1_0) = true := beq_iff_eq.mpr c3
  have c3b1 : (a0_0 != a1_0) = false := bne_eq_false_iff_eq.mpr c3
  clear c3
  by_cases c4 : a0_1 = a1_1
  ·rw [if_pos c4] at H
   have c4b0 : (a0_1 == a1_1) = true := beq_iff_eq.mpr c4
   have c4b1 : (a0_1 != a1_1) = false := bne_eq_false_iff_eq.mpr c4
   clear c4
   replace H := Option.bind_eq_some_iff.mp H
   obtain ⟨t931, A50, H⟩ := H
   replace H : (if t931 = true then ((laws_lbCalls.f k l0_3 l1_3).bind fun t932 => (some t932)) else (some false)) = some r := H
   have A5 := Aside0.mk A50
   clear A50
   by_cases c6 : t931 = true
   ·subst c6
    rw [if_pos rfl] at H
    replace H := Option.bind_eq_some_iff.mp H
    obtain ⟨t932, A70, H⟩ := H
    replace H : (some t932) = some r := H
    have A7 := Aside0.mk A70
    clear A70
    obtain rfl := Option.some.inj H
    go_enter Try.func75, Try.ntmps75
    go_wp2_with (first | ((with_reducible refine gate_dst (N := 2) rfl ?_); refine box_event ?hg (N := 2) ?hd (cs := #[.int .i64 a0_0, .int .i64 a0_1, .slice A0_2 l0_2.length c0_2, .slice A0_3 l0_3.length c0_3]) (t := 35) ?hr ?_; (case hd => rfl); (case hg => rfl); (case hr => first | (go_simp; done) | (go_simp; rfl)); intro gb929 hg w8 hbox hb; have n0_ := Aside0.mk (below_step z77x6 hb); have n1_ := Aside0.mk (hbox); have n2_ := Aside0.mk ((z77x5 : w.heap.size ≤ gb929)); have n3_ := Aside0.mk ((z77x5 : w.heap.size ≤ gb929)); clear HB; have HB := n0_; have BK929 := n1_; have GW929 := n2_; have GE929 := n3_; clear n0_ n1_ n2_ n3_; clear hb hbox hg) | ((with_reducible refine gate_dst (N := 3) rfl ?_); refine box_event ?hg (N := 3) ?hd (cs := #[.int .i64 a1_0, .int .i64 a1_1, .slice A1_2 l1_2.length c1_2, .slice A1_3 l1_3.length c1_3]) (t := 35) ?hr ?_; (case hd => rfl); (case hg => rfl); (case hr => first | (go_simp; done) | (go_simp; rfl)); intro gb930 hg w9 hbox hb; have n0_ := Aside0.mk (blk_below (g := gb929) (o := .cells #[.int .i64 a0_0, .int .i64 a0_1, .slice A0_2 l0_2.length c0_2, .slice A0_3 l0_3.length c0_3] 35 (0, 0)) z77x7 hb); have n1_ := Aside0.mk (below_step z77x4 hb); have n2_ := Aside0.mk (hbox); have n3_ := Aside0.mk ((z77x3 : w.heap.size ≤ gb930)); have n4_ := Aside0.mk ((z77x3 : w.heap.size ≤ gb930)); have n5_ := Aside0.mk ((z77x1 : gb929 ≠ gb930)); have n6_ := Aside0.mk ((z77x0 : gb930 ≠ gb929)); clear BK929; clear HB; have BK929 := n0_; have HB := n1_; have BK930 := n2_; have GW930 := n3_; have GE930 := n4_; have NB929_930 := n5_; have NB930_929 := n6_; clear n0_ n1_ n2_ n3_ n4_ n5_ n6_; clear hb hbox hg; have hnb10 := NB929_930.out; have hnc10 := NB930_929.out; have hcz11_0 : w9.cell? ⟨gb929, 0, none⟩ = some (.int .i64 a0_0) := (blk_cell BK929.out 0).trans rfl; have hcz11_1 : w9.cell? ⟨gb929, 1, none⟩ = some (.int .i64 a0_1) := (blk_cell BK929.out 1).trans rfl; have hcz11_2 : w9.cell? ⟨gb929, 2, none⟩ = some (.slice A0_2 l0_2.length c0_2) := (blk_cell BK929.out 2).trans rfl; have hcz11_3 : w9.cell? ⟨gb929, 3, none⟩ = some (.slice A0_3 l0_3.length c0_3) := (blk_cell BK929.out 3).trans rfl; have hfz11_0 := blk_frozen BK929.out 0; have hfz11_1 := blk_frozen BK929.out 1; have hfz11_2 := blk_frozen BK929.out 2; have hfz11_3 := blk_frozen BK929.out 3; have hcz12_0 : w9.cell? ⟨gb930, 0, none⟩ = some (.int .i64 a1_0) := (blk_cell BK930.out 0).trans rfl; have hcz12_1 : w9.cell? ⟨gb930, 1, none⟩ = some (.int .i64 a1_1) := (blk_cell BK930.out 1).trans rfl; have hcz12_2 : w9.cell? ⟨gb930, 2, none⟩ = some (.slice A1_2 l1_2.length c1_2) := (blk_cell BK930.out 2).trans rfl; have hcz12_3 : w9.cell? ⟨gb930, 3, none⟩ = some (.slice A1_3 l1_3.length c1_3) := (blk_cell BK930.out 3).trans rfl; have hfz12_0 := blk_frozen BK930.out 0; have hfz12_1 := blk_frozen BK930.out 1; have hfz12_2 := blk_frozen BK930.out 2; have hfz12_3 := blk_frozen BK930.out 3) | (go_at_call 39; (with_reducible refine (laws_lbSeals.calls k _ _ l0_2 _ _ l1_2 true _ ?side1 ?side2 ?side3 ?side4 A5.out).mono ?_); (case side1 => repeat (first | exact (Kd.C_below HR0_2.out HB.out) | (with_reducible refine Kd.C_alloc ?_ _) | (with_reducible refine Kd.C_drewN ?_ _) | (with_reducible refine Kd.C_drew ?_))); (case side2 => exact HC0_2.out); (case side3 => repeat (first | exact (Kd.C_below HR1_2.out HB.out) | (with_reducible refine Kd.C_alloc ?_ _) | (with_reducible refine Kd.C_drewN ?_ _) | (with_reducible refine Kd.C_drew ?_))); (case side4 => exact HC1_2.out); rintro e w' ⟨rfl, ⟨nd, rfl⟩⟩) | (go_at_call 89; (with_reducible refine (laws_lbCalls.calls k _ _ l0_3 _ _ l1_3 t932 _ ?side1 ?side2 ?side3 ?side4 A7.out).mono ?_); (case side1 => repeat (first | exact (Kd.C_below HR0_3.out z77x2) | (with_reducible refine Kd.C_alloc ?_ _) | (with_reducible refine Kd.C_drewN ?_ _) | (with_reducible refine Kd.C_drew ?_))); (case side2 => exact HC0_3.out); (case side3 => repeat (first | exact (Kd.C_below HR1_3.out z77x2) | (with_reducible refine Kd.C_alloc ?_ _) | (with_reducible refine Kd.C_drewN ?_ _) | (with_reducible refine Kd.C_drew ?_))); (case side4 => exact HC1_3.out); rintro e w' ⟨rfl, ⟨nd, rfl⟩⟩))
    go_ret
    exact ⟨by first | rfl | (simp [errW_none, errW_some] <;> rfl) | (simp [*, errW_none, errW_some] <;> rfl), by repeat (first | (with_reducible first | exact HB.out | apply below_alloc | apply pw_below_drewN | apply below_drew1 | refine below_set ?_ GE929.out | refine below_set ?_ GE930.out) | exact HB.out)⟩
   ·replace c6 := Bool.eq_false_iff.mpr c6
    subst c6
    rw [if_neg (show ¬ (false = true) by decide)] at H
    obtain rfl := Option.some.inj H
    go_enter Try.func75, Try.ntmps75
    go_wp2_with (first | ((with_reducible refine gate_dst (N := 2) rfl ?_); refine box_event ?hg (N := 2) ?hd (cs := #[.int .i64 a0_0, .int .i64 a0_1, .slice A0_2 l0_2.length c0_2, .slice A0_3 l0_3.length c0_3]) (t := 35) ?hr ?_; (case hd => rfl); (case hg => rfl); (case hr => first | (go_simp; done) | (go_simp; rfl)); intro gb929 hg w13 hbox hb; have n0_ := Aside0.mk (below_step z77x6 hb); have n1_ := Aside0.mk (hbox); have n2_ := Aside0.mk ((z77x5 : w.heap.size ≤ gb929)); have n3_ := Aside0.mk ((z77x5 : w.heap.size ≤ gb929)); clear HB; have HB := n0_; have BK929 := n1_; have GW929 := n2_; have GE929 := n3_; clear n0_ n1_ n2_ n3_; clear hb hbox hg) | ((with_reducible refine gate_dst (N := 3) rfl ?_); refine box_event ?hg (N := 3) ?hd (cs := #[.int .i64 a1_0, .int .i64 a1_1, .slice A1_2 l1_2.length c1_2, .slice A1_3 l1_3.length c1_3]) (t := 35) ?hr ?_; (case hd => rfl); (case hg => rfl); (case hr => first | (go_simp; done) | (go_simp; rfl)); intro gb930 hg w14 hbox hb; have n0_ := Aside0.mk (blk_below (g := gb929) (o := .cells #[.int .i64 a0_0, .int .i64 a0_1, .slice A0_2 l0_2.length c0_2, .slice A0_3 l0_3.length c0_3] 35 (0, 0)) z77x7 hb); have n1_ := Aside0.mk (below_step z77x4 hb); have n2_ := Aside0.mk (hbox); have n3_ := Aside0.mk ((z77x3 : w.heap.size ≤ gb930)); have n4_ := Aside0.mk ((z77x3 : w.heap.size ≤ gb930)); have n5_ := Aside0.mk ((z77x1 : gb929 ≠ gb930)); have n6_ := Aside0.mk ((z77x0 : gb930 ≠ gb929)); clear BK929; clear HB; have BK929 := n0_; have HB := n1_; have BK930 := n2_; have GW930 := n3_; have GE930 := n4_; have NB929_930 := n5_; have NB930_929 := n6_; clear n0_ n1_ n2_ n3_ n4_ n5_ n6_; clear hb hbox hg; have hnb15 := NB929_930.out; have hnc15 := NB930_929.out; have hcz16_0 : w14.cell? ⟨gb929, 0, none⟩ = some (.int .i64 a0_0) := (blk_cell BK929.out 0).trans rfl; have hcz16_1 : w14.cell? ⟨gb929, 1, none⟩ = some (.int .i64 a0_1) := (blk_cell BK929.out 1).trans rfl; have hcz16_2 : w14.cell? ⟨gb929, 2, none⟩ = some (.slice A0_2 l0_2.length c0_2) := (blk_cell BK929.out 2).trans rfl; have hcz16_3 : w14.cell? ⟨gb929, 3, none⟩ = some (.slice A0_3 l0_3.length c0_3) := (blk_cell BK929.out 3).trans rfl; have hfz16_0 := blk_frozen BK929.out 0; have hfz16_1 := blk_frozen BK929.out 1; have hfz16_2 := blk_frozen BK929.out 2; have hfz16_3 := blk_frozen BK929.out 3; have hcz17_0 : w14.cell? ⟨gb930, 0, none⟩ = some (.int .i64 a1_0) := (blk_cell BK930.out 0).trans rfl; have hcz17_1 : w14.cell? ⟨gb930, 1, none⟩ = some (.int .i64 a1_1) := (blk_cell BK930.out 1).trans rfl; have hcz17_2 : w14.cell? ⟨gb930, 2, none⟩ = some (.slice A1_2 l1_2.length c1_2) := (blk_cell BK930.out 2).trans rfl; have hcz17_3 : w14.cell? ⟨gb930, 3, none⟩ = some (.slice A1_3 l1_3.length c1_3) := (blk_cell BK930.out 3).trans rfl; have hfz17_0 := blk_frozen BK930.out 0; have hfz17_1 := blk_frozen BK930.out 1; have hfz17_2 := blk_frozen BK930.out 2; have hfz17_3 := blk_frozen BK930.out 3) | (go_at_call 39; (with_reducible refine (laws_lbSeals.calls k _ _ l0_2 _ _ l1_2 false _ ?side1 ?side2 ?side3 ?side4 A5.out).mono ?_); (case side1 => repeat (first | exact (Kd.C_below HR0_2.out HB.out) | (with_reducible refine Kd.C_alloc ?_ _) | (with_reducible refine Kd.C_drewN ?_ _) | (with_reducible refine Kd.C_drew ?_))); (case side2 => exact HC0_2.out); (case side3 => repeat (first | exact (Kd.C_below HR1_2.out HB.out) | (with_reducible refine Kd.C_alloc ?_ _) | (with_reducible refine Kd.C_drewN ?_ _) | (with_reducible refine Kd.C_drew ?_))); (case side4 => exact HC1_2.out); rintro e w' ⟨rfl, ⟨nd, rfl⟩⟩))
    go_ret
    exact ⟨by first | rfl | (simp [errW_none, errW_some] <;> rfl) | (simp [*, errW_none, errW_some] <;> rfl), by repeat (first | (with_reducible first | exact HB.out | apply below_alloc | apply pw_below_drewN | apply below_drew1 | refine below_set ?_ GE929.out | refine below_set ?_ GE930.out) | exact HB.out)⟩
  ·rw [if_neg c4] at H
   have c4b0 : (a0_1 == a1_1) = false := beq_eq_false_iff_ne.mpr c4
   have c4b1 : (a0_1 != a1_1) = true := bne_iff_ne.mpr c4
   obtain rfl := Option.some.inj H
   go_enter Try.func75, Try.ntmps75
   go_wp2_with (first | ((with_reducible refine gate_dst (N := 2) rfl ?_); refine box_event ?hg (N := 2) ?hd (cs := #[.int .i64 a0_0, .int .i64 a0_1, .slice A0_2 l0_2.length c0_2, .slice A0_3 l0_3.length c0_3]) (t := 35) ?hr ?_; (case hd => rfl); (case hg => rfl); (case hr => first | (go_simp; done) | (go_simp; rfl)); intro gb929 hg w18 hbox hb; have n0_ := Aside0.mk (below_step z77x6 hb); have n1_ := Aside0.mk (hbox); have n2_ := Aside0.mk ((z77x5 : w.heap.size ≤ gb929)); have n3_ := Aside0.mk ((z77x5 : w.heap.size ≤ gb929)); clear HB; have HB := n0_; have BK929 := n1_; have GW929 := n2_; have GE929 := n3_; clear n0_ n1_ n2_ n3_; clear hb hbox hg) | ((with_reducible refine gate_dst (N := 3) rfl ?_); refine box_event ?hg (N := 3) ?hd (cs := #[.int .i64 a1_0, .int .i64 a1_1, .slice A1_2 l1_2.length c1_2, .slice A1_3 l1_3.length c1_3]) (t := 35) ?hr ?_; (case hd => rfl); (case hg => rfl); (case hr => first | (go_simp; done) | (go_simp; rfl)); intro gb930 hg w19 hbox hb; have n0_ := Aside0.mk (blk_below (g := gb929) (o := .cells #[.int .i64 a0_0, .int .i64 a0_1, .slice A0_2 l0_2.length c0_2, .slice A0_3 l0_3.length c0_3] 35 (0, 0)) z77x7 hb); have n1_ := Aside0.mk (below_step z77x4 hb); have n2_ := Aside0.mk (hbox); have n3_ := Aside0.mk ((z77x3 : w.heap.size ≤ gb930)); have n4_ := Aside0.mk ((z77x3 : w.heap.size ≤ gb930)); have n5_ := Aside0.mk ((z77x1 : gb929 ≠ gb930)); have n6_ := Aside0.mk ((z77x0 : gb930 ≠ gb929)); clear BK929; clear HB; have BK929 := n0_; have HB := n1_; have BK930 := n2_; have GW930 := n3_; have GE930 := n4_; have NB929_930 := n5_; have NB930_929 := n6_; clear n0_ n1_ n2_ n3_ n4_ n5_ n6_; clear hb hbox hg; have hnb20 := NB929_930.out; have hnc20 := NB930_929.out; have hcz21_0 : w19.cell? ⟨gb929, 0, none⟩ = some (.int .i64 a0_0) := (blk_cell BK929.out 0).trans rfl; have hcz21_1 : w19.cell? ⟨gb929, 1, none⟩ = some (.int .i64 a0_1) := (blk_cell BK929.out 1).trans rfl; have hcz21_2 : w19.cell? ⟨gb929, 2, none⟩ = some (.slice A0_2 l0_2.length c0_2) := (blk_cell BK929.out 2).trans rfl; have hcz21_3 : w19.cell? ⟨gb929, 3, none⟩ = some (.slice A0_3 l0_3.length c0_3) := (blk_cell BK929.out 3).trans rfl; have hfz21_0 := blk_frozen BK929.out 0; have hfz21_1 := blk_frozen BK929.out 1; have hfz21_2 := blk_frozen BK929.out 2; have hfz21_3 := blk_frozen BK929.out 3; have hcz22_0 : w19.cell? ⟨gb930, 0, none⟩ = some (.int .i64 a1_0) := (blk_cell BK930.out 0).trans rfl; have hcz22_1 : w19.cell? ⟨gb930, 1, none⟩ = some (.int .i64 a1_1) := (blk_cell BK930.out 1).trans rfl; have hcz22_2 : w19.cell? ⟨gb930, 2, none⟩ = some (.slice A1_2 l1_2.length c1_2) := (blk_cell BK930.out 2).trans rfl; have hcz22_3 : w19.cell? ⟨gb930, 3, none⟩ = some (.slice A1_3 l1_3.length c1_3) := (blk_cell BK930.out 3).trans rfl; have hfz22_0 := blk_frozen BK930.out 0; have hfz22_1 := blk_frozen BK930.out 1; have hfz22_2 := blk_frozen BK930.out 2; have hfz22_3 := blk_frozen BK930.out 3))
   go_ret
   exact ⟨by first | rfl | (simp [errW_none, errW_some] <;> rfl) | (simp [*, errW_none, errW_some] <;> rfl), by repeat (first | (with_reducible first | exact HB.out | apply below_alloc | apply pw_below_drewN | apply below_drew1 | refine below_set ?_ GE929.out | refine below_set ?_ GE930.out) | exact HB.out)⟩
 ·rw [if_neg c3] at H
  have c3b0 : (a0_0 == a1_0) = false := beq_eq_false_iff_ne.mpr c3
  have c3b1 : (a0_0 != a1_0) = true := bne_iff_ne.mpr c3
  obtain rfl := Option.some.inj H
  go_enter Try.func75, Try.ntmps75
  go_wp2_with (first | ((with_reducible refine gate_dst (N := 2) rfl ?_); refine box_event ?hg (N := 2) ?hd (cs := #[.int .i64 a0_0, .int .i64 a0_1, .slice A0_2 l0_2.length c0_2, .slice A0_3 l0_3.length c0_3]) (t := 35) ?hr ?_; (case hd => rfl); (case hg => rfl); (case hr => first | (go_simp; done) | (go_simp; rfl)); intro gb929 hg w23 hbox hb; have n0_ := Aside0.mk (below_step z77x6 hb); have n1_ := Aside0.mk (hbox); have n2_ := Aside0.mk ((z77x5 : w.heap.size ≤ gb929)); have n3_ := Aside0.mk ((z77x5 : w.heap.size ≤ gb929)); clear HB; have HB := n0_; have BK929 := n1_; have GW929 := n2_; have GE929 := n3_; clear n0_ n1_ n2_ n3_; clear hb hbox hg) | ((with_reducible refine gate_dst (N := 3) rfl ?_); refine box_event ?hg (N := 3) ?hd (cs := #[.int .i64 a1_0, .int .i64 a1_1, .slice A1_2 l1_2.length c1_2, .slice A1_3 l1_3.length c1_3]) (t := 35) ?hr ?_; (case hd => rfl); (case hg => rfl); (case hr => first | (go_simp; done) | (go_simp; rfl)); intro gb930 hg w24 hbox hb; have n0_ := Aside0.mk (blk_below (g := gb929) (o := .cells #[.int .i64 a0_0, .int .i64 a0_1, .slice A0_2 l0_2.length c0_2, .slice A0_3 l0_3.length c0_3] 35 (0, 0)) z77x7 hb); have n1_ := Aside0.mk (below_step z77x4 hb); have n2_ := Aside0.mk (hbox); have n3_ := Aside0.mk ((z77x3 : w.heap.size ≤ gb930)); have n4_ := Aside0.mk ((z77x3 : w.heap.size ≤ gb930)); have n5_ := Aside0.mk ((z77x1 : gb929 ≠ gb930)); have n6_ := Aside0.mk ((z77x0 : gb930 ≠ gb929)); clear BK929; clear HB; have BK929 := n0_; have HB := n1_; have BK930 := n2_; have GW930 := n3_; have GE930 := n4_; have NB929_930 := n5_; have NB930_929 := n6_; clear n0_ n1_ n2_ n3_ n4_ n5_ n6_; clear hb hbox hg; have hnb25 := NB929_930.out; have hnc25 := NB930_929.out; have hcz26_0 : w24.cell? ⟨gb929, 0, none⟩ = some (.int .i64 a0_0) := (blk_cell BK929.out 0).trans rfl; have hcz26_1 : w24.cell? ⟨gb929, 1, none⟩ = some (.int .i64 a0_1) := (blk_cell BK929.out 1).trans rfl; have hcz26_2 : w24.cell? ⟨gb929, 2, none⟩ = some (.slice A0_2 l0_2.length c0_2) := (blk_cell BK929.out 2).trans rfl; have hcz26_3 : w24.cell? ⟨gb929, 3, none⟩ = some (.slice A0_3 l0_3.length c0_3) := (blk_cell BK929.out 3).trans rfl; have hfz26_0 := blk_frozen BK929.out 0; have hfz26_1 := blk_frozen BK929.out 1; have hfz26_2 := blk_frozen BK929.out 2; have hfz26_3 := blk_frozen BK929.out 3; have hcz27_0 : w24.cell? ⟨gb930, 0, none⟩ = some (.int .i64 a1_0) := (blk_cell BK930.out 0).trans rfl; have hcz27_1 : w24.cell? ⟨gb930, 1, none⟩ = some (.int .i64 a1_1) := (blk_cell BK930.out 1).trans rfl; have hcz27_2 : w24.cell? ⟨gb930, 2, none⟩ = some (.slice A1_2 l1_2.length c1_2) := (blk_cell BK930.out 2).trans rfl; have hcz27_3 : w24.cell? ⟨gb930, 3, none⟩ = some (.slice A1_3 l1_3.length c1_3) := (blk_cell BK930.out 3).trans rfl; have hfz27_0 := blk_frozen BK930.out 0; have hfz27_1 := blk_frozen BK930.out 1; have hfz27_2 := blk_frozen BK930.out 2; have hfz27_3 := blk_frozen BK930.out 3))
  go_ret
  exact ⟨by first | rfl | (simp [errW_none, errW_some] <;> rfl) | (simp [*, errW_none, errW_some] <;> rfl), by repeat (first | (with_reducible first | exact HB.out | apply below_alloc | apply pw_below_drewN | apply below_drew1 | refine below_set ?_ GE929.out | refine below_set ?_ GE930.out) | exact HB.out)⟩

end Go.Proofs.Ytpdeincniaiajaa.Hp
