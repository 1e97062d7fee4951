-- hp.py
import Derived.Test.YtpdeincniaiajaaHx0
import Derived.Test.YtpdeincniaiajaaHx31
import Derived.Test.YtpdeincniaiajaaHx71
import Derived.Test.YtpdeincniaiajaaHx72
namespace Go.Proofs.Ytpdeincniaiajaa.Hp
open Go.RowKit Go.Proofs.YtpdeincniaiajaaW.PrintWords Go.Proofs.YtpdeincniaiajaaW.PrintLast Go.Proofs.YtpdeincniaiajaaW.PrintMore
attribute [local go_sem] max2_int min2_int max_two min_two max_three min_three max_four min_four   -- for this text's walks alone
set_option linter.unusedVariables false
set_option linter.unusedSimpArgs false
-- squeezed by wip/tools/squeeze.py
theorem z73x3 {P : Prop} (h : P := by repeat (first | (with_reducible first | exact HB.out | apply below_alloc | apply pw_below_drewN | apply below_drew1) | exact HB.out)) : P := h
theorem z73x2 {P : Prop} (h : P := by (try simp only [List.map_toArray, List.map_cons, List.map_nil]); first | done | rfl | (simp only [List.length_drop, List.length_take]; rfl)) : P := h
theorem z73x1 {P : Prop} (h : P := by rw [hg]; exact (below_size (by repeat (first | (with_reducible first | exact HB.out | apply below_alloc | apply pw_below_drewN | apply below_drew1) | exact HB.out)))) : P := h
theorem z73x0 {P : Prop} (h : P := by repeat (first | (with_reducible first | exact HB.out | apply below_alloc | apply pw_below_drewN | apply below_drew1 | refine below_set ?_ GE810.out) | exact HB.out)) : P := h

/-! ### laws_heldClient: function 53 -/
def laws_heldClient.f (k : Nat) (a0_0 : Int) (a0_1 : Int) (l0_2 : List (S117)) (l0_3 : List (S119)) (l0_4 : List (S125)) (l0_5 : List (S125)) (a1 : Int) : Option (Int) := (laws_heldWantS.f k l0_2 a1).bind fun t811 => (if t811 < 0 then (some (-1)) else ((laws_heldCredS.f k l0_3 t811).bind fun t812 => (if t812 < 0 then (some (-1)) else ((laws_heldCallS.f k l0_4 t812).bind fun t813 => (if t813 < 0 then (some (-1)) else ((laws_heldCallS.f k l0_5 t813).bind fun t814 => (if t814 < 0 then (some (-1)) else (some t814))))))))
theorem laws_heldClient.mono : ∀ a0 a1 a2 a3 a4 a5 a6 k, LeO (laws_heldClient.f k a0 a1 a2 a3 a4 a5 a6) (laws_heldClient.f (k + 1) a0 a1 a2 a3 a4 a5 a6) := by
 intro a0 a1 a2 a3 a4 a5 a6 k
 unfold laws_heldClient.f
 repeat' first
   | (with_reducible exact laws_heldCallS.mono _ _ _)
   | (with_reducible exact laws_heldCredS.mono _ _ _)
   | (with_reducible exact laws_heldWantS.mono _ _ _)
   | (with_reducible exact LeO.refl _)
   | (with_reducible exact LeO.none _)
   | (with_reducible refine LeO.ite ?_ ?_)
   | (with_reducible refine LeO.bind ?_ (fun _ => ?_))
   | exact laws_heldCallS.mono _ _ _
   | exact laws_heldCredS.mono _ _ _
   | exact laws_heldWantS.mono _ _ _
   | exact LeO.none _
   | refine LeO.ite ?_ ?_
   | refine LeO.bind ?_ (fun _ => ?_)
set_option maxHeartbeats 8000000 in
set_option maxRecDepth 100000 in
theorem laws_heldClient.calls (k : Nat) (a0_0 : Int) (a0_1 : Int) (A0_2 : Option Addr) (c0_2 : Nat) (l0_2 : List (S117)) (A0_3 : Option Addr) (c0_3 : Nat) (l0_3 : List (S119)) (A0_4 : Option Addr) (c0_4 : Nat) (l0_4 : List (S125)) (A0_5 : Option Addr) (c0_5 : Nat) (l0_5 : List (S125)) (a1 : Int) (r : Int) (w : World) (hr0_2 : Kd.C k117 w A0_2 l0_2.length l0_2) (hc0_2 : l0_2.length ≤ c0_2) (hr0_3 : Kd.C k119 w A0_3 l0_3.length l0_3) (hc0_3 : l0_3.length ≤ c0_3) (hr0_4 : Kd.C k125 w A0_4 l0_4.length l0_4) (hc0_4 : l0_4.length ≤ c0_4) (hr0_5 : Kd.C k125 w A0_5 l0_5.length l0_5) (hc0_5 : l0_5.length ≤ c0_5) (h : laws_heldClient.f k a0_0 a0_1 l0_2 l0_3 l0_4 l0_5 a1 = some r) :
  Calls Try.prog 53 #[.agg #[.int .i64 a0_0, .int .i64 a0_1, .slice A0_2 l0_2.length c0_2, .slice A0_3 l0_3.length c0_3, .slice A0_4 l0_4.length c0_4, .slice A0_5 l0_5.length c0_5], .int .i64 a1] w fun e w' => e = .returned (.int .i64 r) ∧ Below w.heap.size w w' := by
 have hu46 := Try.underlying46
 have HR0_2 := Aside0.mk hr0_2
 have HC0_2 := Aside0.mk hc0_2
 clear hr0_2 hc0_2
 have HR0_3 := Aside0.mk hr0_3
 have HC0_3 := Aside0.mk hc0_3
 clear hr0_3 hc0_3
 have HR0_4 := Aside0.mk hr0_4
 have HC0_4 := Aside0.mk hc0_4
 clear hr0_4 hc0_4
 have HR0_5 := Aside0.mk hr0_5
 have HC0_5 := Aside0.mk hc0_5
 clear hr0_5 hc0_5
 have HB := Aside0.mk (Below.refl w.heap.size w)
 have H : ((laws_heldWantS.f k l0_2 a1).bind fun t811 => (if t811 < 0 then (some (-1)) else ((laws_heldCredS.f k l0_3 t811).bind fun t812 => (if t812 < 0 then (some (-1)) else ((laws_heldCallS.f k l0_4 t812).bind fun t813 => (if t813 < 0 then (some (-1)) else ((laws_heldCallS.f k l0_5 t813).bind fun t814 => (if t814 < 0 then (some (-1)) else (some t814))))))))) = some r := h
 clear h
 replace H := Option.bind_eq_some_iff.mp H
 obtain ⟨t811, A30, H⟩ := H
 replace H : (if t811 < 0 then (some (-1)) else ((laws_heldCredS.f k l0_3 t811).bind fun t812 => (if t812 < 0 then (some (-1)) else ((laws_heldCallS.f k l0_4 t812).bind fun t813 => (if t813 < 0 then (some (-1)) else ((laws_heldCallS.f k l0_5 t813).bind fun t814 => (if t814 < 0 then (some (-1)) else (some t814)))))))) = some r := H
 have A3 := Aside0.mk A30
 clear A30
 by_cases c4 : t811 < 0
 ·rw [if_pos c4] at H
  have c4b0 : decide (t811 < 0) = true := decide_eq_true c4
  clear c4
  obtain rfl := Option.some.inj H
  go_enter Try.func53, Try.ntmps53
  go_wp2_with (first | ((with_reducible refine gate_dst (N := 2) rfl ?_); refine box_event ?hg (N := 2) ?hd (cs := #[.int .i64 a0_0, .int .i64 a0_1, .slice A0_2 l0_2.length c0_2, .slice A0_3 l0_3.length c0_3, .slice A0_4 l0_4.length c0_4, .slice A0_5 l0_5.length c0_5]) (t := 46) ?hr ?_; (case hd => rfl); (case hg => rfl); (case hr => first | (go_simp; done) | (go_simp; rfl)); intro gb810 hg w5 hbox hb; have n0_ := Aside0.mk (below_step z73x3 hb); have n1_ := Aside0.mk (hbox); have n2_ := Aside0.mk ((z73x1 : w.heap.size ≤ gb810)); have n3_ := Aside0.mk ((z73x1 : w.heap.size ≤ gb810)); clear HB; have HB := n0_; have BK810 := n1_; have GW810 := n2_; have GE810 := n3_; clear n0_ n1_ n2_ n3_; clear hb hbox hg; have hcz6_0 : w5.cell? ⟨gb810, 0, none⟩ = some (.int .i64 a0_0) := (blk_cell BK810.out 0).trans rfl; have hcz6_1 : w5.cell? ⟨gb810, 1, none⟩ = some (.int .i64 a0_1) := (blk_cell BK810.out 1).trans rfl; have hcz6_2 : w5.cell? ⟨gb810, 2, none⟩ = some (.slice A0_2 l0_2.length c0_2) := (blk_cell BK810.out 2).trans rfl; have hcz6_3 : w5.cell? ⟨gb810, 3, none⟩ = some (.slice A0_3 l0_3.length c0_3) := (blk_cell BK810.out 3).trans rfl; have hcz6_4 : w5.cell? ⟨gb810, 4, none⟩ = some (.slice A0_4 l0_4.length c0_4) := (blk_cell BK810.out 4).trans rfl; have hcz6_5 : w5.cell? ⟨gb810, 5, none⟩ = some (.slice A0_5 l0_5.length c0_5) := (blk_cell BK810.out 5).trans rfl; have hfz6_0 := blk_frozen BK810.out 0; have hfz6_1 := blk_frozen BK810.out 1; have hfz6_2 := blk_frozen BK810.out 2; have hfz6_3 := blk_frozen BK810.out 3; have hfz6_4 := blk_frozen BK810.out 4; have hfz6_5 := blk_frozen BK810.out 5) | ((with_reducible refine gate_callee (f := 118) rfl ?_); refine goesL_ (some 8) rfl rfl Try.func118 (by kernel_rfl) rfl #[.slice A0_2 l0_2.length c0_2, .int .i64 a1] rfl z73x2 ?_; (with_reducible refine (laws_heldWantS.calls k _ _ l0_2 a1 t811 _ ?side1 ?side2 A3.out).mono ?_); (case side1 => repeat (first | exact (Kd.C_below HR0_2.out HB.out) | (with_reducible refine Kd.C_alloc ?_ _) | (with_reducible refine Kd.C_drewN ?_ _) | (with_reducible refine Kd.C_drew ?_))); (case side2 => exact HC0_2.out); rintro e w' ⟨rfl, ⟨nd, rfl⟩⟩; refine ⟨_, rfl, ?_⟩))
  go_ret
  exact ⟨by first | rfl | (simp [errW_none, errW_some] <;> rfl) | (simp [*, errW_none, errW_some] <;> rfl), by repeat (first | (with_reducible first | exact HB.out | apply below_alloc | apply pw_below_drewN | apply below_drew1 | refine below_set ?_ GE810.out) | exact HB.out)⟩
 ·rw [if_neg c4] at H
  have c4b0 : decide (t811 < 0) = false := decide_eq_false c4
  clear c4
  replace H := Option.bind_eq_some_iff.mp H
  obtain ⟨t812, A70, H⟩ := H
  replace H : (if t812 < 0 then (some (-1)) else ((laws_heldCallS.f k l0_4 t812).bind fun t813 => (if t813 < 0 then (some (-1)) else ((laws_heldCallS.f k l0_5 t813).bind fun t814 => (if t814 < 0 then (some (-1)) else (some t814)))))) = some r := H
  have A7 := Aside0.mk A70
  clear A70
  by_cases c8 : t812 < 0
  ·rw [if_pos c8] at H
   have c8b0 : decide (t812 < 0) = true := decide_eq_true c8
   clear c8
   obtain rfl := Option.some.inj H
   go_enter Try.func53, Try.ntmps53
   go_wp2_with (first | ((with_reducible refine gate_dst (N := 2) rfl ?_); refine box_event ?hg (N := 2) ?hd (cs := #[.int .i64 a0_0, .int .i64 a0_1, .slice A0_2 l0_2.length c0_2, .slice A0_3 l0_3.length c0_3, .slice A0_4 l0_4.length c0_4, .slice A0_5 l0_5.length c0_5]) (t := 46) ?hr ?_; (case hd => rfl); (case hg => rfl); (case hr => first | (go_simp; done) | (go_simp; rfl)); intro gb810 hg w9 hbox hb; have n0_ := Aside0.mk (below_step z73x3 hb); have n1_ := Aside0.mk (hbox); have n2_ := Aside0.mk ((z73x1 : w.heap.size ≤ gb810)); have n3_ := Aside0.mk ((z73x1 : w.heap.size ≤ gb810)); clear HB; have HB := n0_; have BK810 := n1_; have GW810 := n2_; have GE810 := n3_; clear n0_ n1_ n2_ n3_; clear hb hbox hg; have hcz10_0 : w9.cell? ⟨gb810, 0, none⟩ = some (.int .i64 a0_0) := (blk_cell BK810.out 0).trans rfl; have hcz10_1 : w9.cell? ⟨gb810, 1, none⟩ = some (.int .i64 a0_1) := (blk_cell BK810.out 1).trans rfl; have hcz10_2 : w9.cell? ⟨gb810, 2, none⟩ = some (.slice A0_2 l0_2.length c0_2) := (blk_cell BK810.out 2).trans rfl; have hcz10_3 : w9.cell? ⟨gb810, 3, none⟩ = some (.slice A0_3 l0_3.length c0_3) := (blk_cell BK810.out 3).trans rfl; have hcz10_4 : w9.cell? ⟨gb810, 4, none⟩ = some (.slice A0_4 l0_4.length c0_4) := (blk_cell BK810.out 4).trans rfl; have hcz10_5 : w9.cell? ⟨gb810, 5, none⟩ = some (.slice A0_5 l0_5.length c0_5) := (blk_cell BK810.out 5).trans rfl; have hfz10_0 := blk_frozen BK810.out 0; have hfz10_1 := blk_frozen BK810.out 1; have hfz10_2 := blk_frozen BK810.out 2; have hfz10_3 := blk_frozen BK810.out 3; have hfz10_4 := blk_frozen BK810.out 4; have hfz10_5 := blk_frozen BK810.out 5) | ((with_reducible refine gate_callee (f := 118) rfl ?_); refine goesL_ (some 8) rfl rfl Try.func118 (by kernel_rfl) rfl #[.slice A0_2 l0_2.length c0_2, .int .i64 a1] rfl z73x2 ?_; (with_reducible refine (laws_heldWantS.calls k _ _ l0_2 a1 t811 _ ?side1 ?side2 A3.out).mono ?_); (case side1 => repeat (first | exact (Kd.C_below HR0_2.out HB.out) | (with_reducible refine Kd.C_alloc ?_ _) | (with_reducible refine Kd.C_drewN ?_ _) | (with_reducible refine Kd.C_drew ?_))); (case side2 => exact HC0_2.out); rintro e w' ⟨rfl, ⟨nd, rfl⟩⟩; refine ⟨_, rfl, ?_⟩) | ((with_reducible refine gate_callee (f := 119) rfl ?_); refine goesL_ (some 14) rfl rfl Try.func119 (by kernel_rfl) rfl #[.slice A0_3 l0_3.length c0_3, .int .i64 t811] rfl z73x2 ?_; (with_reducible refine (laws_heldCredS.calls k _ _ l0_3 t811 t812 _ ?side1 ?side2 A7.out).mono ?_); (case side1 => repeat (first | exact (Kd.C_below HR0_3.out z73x0) | (with_reducible refine Kd.C_alloc ?_ _) | (with_reducible refine Kd.C_drewN ?_ _) | (with_reducible refine Kd.C_drew ?_))); (case side2 => exact HC0_3.out); rintro e w' ⟨rfl, ⟨nd, rfl⟩⟩; refine ⟨_, rfl, ?_⟩))
   go_ret
   exact ⟨by first | rfl | (simp [errW_none, errW_some] <;> rfl) | (simp [*, errW_none, errW_some] <;> rfl), by repeat (first | (with_reducible first | exact HB.out | apply below_alloc | apply pw_below_drewN | apply below_drew1 | refine below_set ?_ GE810.out) | exact HB.out)⟩
  ·rw [if_neg c8] at H
   have c8b0 : decide (t812 < 0) = false := decide_eq_false c8
   clear c8
   replace H := Option.bind_eq_some_iff.mp H
   obtain ⟨t813, A110, H⟩ := H
   replace H : (if t813 < 0 then (some (-1)) else ((laws_heldCallS.f k l0_5 t813).bind fun t814 => (if t814 < 0 then (some (-1)) else (some t814)))) = some r := H
   have A11 := Aside0.mk A110
   clear A110
   by_cases c12 : t813 < 0
   ·rw [if_pos c12] at H
    have c12b0 : decide (t813 < 0) = true := decide_eq_true c12
    clear c12
    obtain rfl := Option.some.inj H
    go_enter Try.func53, Try.ntmps53
    go_wp2_with (first | ((with_reducible refine gate_dst (N := 2) rfl ?_); refine box_event ?hg (N := 2) ?hd (cs := #[.int .i64 a0_0, .int .i64 a0_1, .slice A0_2 l0_2.length c0_2, .slice A0_3 l0_3.length c0_3, .slice A0_4 l0_4.length c0_4, .slice A0_5 l0_5.length c0_5]) (t := 46) ?hr ?_; (case hd => rfl); (case hg => rfl); (case hr => first | (go_simp; done) | (go_simp; rfl)); intro gb810 hg w13 hbox hb; have n0_ := Aside0.mk (below_step z73x3 hb); have n1_ := Aside0.mk (hbox); have n2_ := Aside0.mk ((z73x1 : w.heap.size ≤ gb810)); have n3_ := Aside0.mk ((z73x1 : w.heap.size ≤ gb810)); clear HB; have HB := n0_; have BK810 := n1_; have GW810 := n2_; have GE810 := n3_; clear n0_ n1_ n2_ n3_; clear hb hbox hg; have hcz14_0 : w13.cell? ⟨gb810, 0, none⟩ = some (.int .i64 a0_0) := (blk_cell BK810.out 0).trans rfl; have hcz14_1 : w13.cell? ⟨gb810, 1, none⟩ = some (.int .i64 a0_1) := (blk_cell BK810.out 1).trans rfl; have hcz14_2 : w13.cell? ⟨gb810, 2, none⟩ = some (.slice A0_2 l0_2.length c0_2) := (blk_cell BK810.out 2).trans rfl; have hcz14_3 : w13.cell? ⟨gb810, 3, none⟩ = some (.slice A0_3 l0_3.length c0_3) := (blk_cell BK810.out 3).trans rfl; have hcz14_4 : w13.cell? ⟨gb810, 4, none⟩ = some (.slice A0_4 l0_4.length c0_4) := (blk_cell BK810.out 4).trans rfl; have hcz14_5 : w13.cell? ⟨gb810, 5, none⟩ = some (.slice A0_5 l0_5.length c0_5) := (blk_cell BK810.out 5).trans rfl; have hfz14_0 := blk_frozen BK810.out 0; have hfz14_1 := blk_frozen BK810.out 1; have hfz14_2 := blk_frozen BK810.out 2; have hfz14_3 := blk_frozen BK810.out 3; have hfz14_4 := blk_frozen BK810.out 4; have hfz14_5 := blk_frozen BK810.out 5) | ((with_reducible refine gate_callee (f := 118) rfl ?_); refine goesL_ (some 8) rfl rfl Try.func118 (by kernel_rfl) rfl #[.slice A0_2 l0_2.length c0_2, .int .i64 a1] rfl z73x2 ?_; (with_reducible refine (laws_heldWantS.calls k _ _ l0_2 a1 t811 _ ?side1 ?side2 A3.out).mono ?_); (case side1 => repeat (first | exact (Kd.C_below HR0_2.out HB.out) | (with_reducible refine Kd.C_alloc ?_ _) | (with_reducible refine Kd.C_drewN ?_ _) | (with_reducible refine Kd.C_drew ?_))); (case side2 => exact HC0_2.out); rintro e w' ⟨rfl, ⟨nd, rfl⟩⟩; refine ⟨_, rfl, ?_⟩) | ((with_reducible refine gate_callee (f := 119) rfl ?_); refine goesL_ (some 14) rfl rfl Try.func119 (by kernel_rfl) rfl #[.slice A0_3 l0_3.length c0_3, .int .i64 t811] rfl z73x2 ?_; (with_reducible refine (laws_heldCredS.calls k _ _ l0_3 t811 t812 _ ?side1 ?side2 A7.out).mono ?_); (case side1 => repeat (first | exact (Kd.C_below HR0_3.out z73x0) | (with_reducible refine Kd.C_alloc ?_ _) | (with_reducible refine Kd.C_drewN ?_ _) | (with_reducible refine Kd.C_drew ?_))); (case side2 => exact HC0_3.out); rintro e w' ⟨rfl, ⟨nd, rfl⟩⟩; refine ⟨_, rfl, ?_⟩) | ((with_reducible refine gate_callee (f := 84) rfl ?_); refine goesL_ (some 20) rfl rfl Try.func84 (by kernel_rfl) rfl #[.slice A0_4 l0_4.length c0_4, .int .i64 t812] rfl z73x2 ?_; (with_reducible refine (laws_heldCallS.calls k _ _ l0_4 t812 t813 _ ?side1 ?side2 A11.out).mono ?_); (case side1 => repeat (first | exact (Kd.C_below HR0_4.out z73x0) | (with_reducible refine Kd.C_alloc ?_ _) | (with_reducible refine Kd.C_drewN ?_ _) | (with_reducible refine Kd.C_drew ?_))); (case side2 => exact HC0_4.out); rintro e w' ⟨rfl, ⟨nd, rfl⟩⟩; refine ⟨_, rfl, ?_⟩))
    go_ret
    exact ⟨by first | rfl | (simp [errW_none, errW_some] <;> rfl) | (simp [*, errW_none, errW_some] <;> rfl), by repeat (first | (with_reducible first | exact HB.out | apply below_alloc | apply pw_below_drewN | apply below_drew1 | refine below_set ?_ GE810.out) | exact HB.out)⟩
   ·rw [if_neg c12] at H
    have c12b0 : decide (t813 < 0) = false := decide_eq_false c12
    clear c12
    replace H := Option.bind_eq_some_iff.mp H
    obtain ⟨t814, A150, H⟩ := H
    replace H : (if t814 < 0 then (some (-1)) else (some t814)) = some r := H
    have A15 := Aside0.mk A150
    clear A150
    by_cases c16 : t814 < 0
    ·rw [if_pos c16] at H
     have c16b0 : decide (t814 < 0) = true := decide_eq_true c16
     clear c16
     obtain rfl := Option.some.inj H
     go_enter Try.func53, Try.ntmps53
     go_wp2_with (first | ((with_reducible refine gate_dst (N := 2) rfl ?_); refine box_event ?hg (N := 2) ?hd (cs := #[.int .i64 a0_0, .int .i64 a0_1, .slice A0_2 l0_2.length c0_2, .slice A0_3 l0_3.length c0_3, .slice A0_4 l0_4.length c0_4, .slice A0_5 l0_5.length c0_5]) (t := 46) ?hr ?_; (case hd => rfl); (case hg => rfl); (case hr => first | (go_simp; done) | (go_simp; rfl)); intro gb810 hg w17 hbox hb; have n0_ := Aside0.mk (below_step z73x3 hb); have n1_ := Aside0.mk (hbox); have n2_ := Aside0.mk ((z73x1 : w.heap.size ≤ gb810)); have n3_ := Aside0.mk ((z73x1 : w.heap.size ≤ gb810)); clear HB; have HB := n0_; have BK810 := n1_; have GW810 := n2_; have GE810 := n3_; clear n0_ n1_ n2_ n3_; clear hb hbox hg; have hcz18_0 : w17.cell? ⟨gb810, 0, none⟩ = some (.int .i64 a0_0) := (blk_cell BK810.out 0).trans rfl; have hcz18_1 : w17.cell? ⟨gb810, 1, none⟩ = some (.int .i64 a0_1) := (blk_cell BK810.out 1).trans rfl; have hcz18_2 : w17.cell? ⟨gb810, 2, none⟩ = some (.slice A0_2 l0_2.length c0_2) := (blk_cell BK810.out 2).trans rfl; have hcz18_3 : w17.cell? ⟨gb810, 3, none⟩ = some (.slice A0_3 l0_3.length c0_3) := (blk_cell BK810.out 3).trans rfl; have hcz18_4 : w17.cell? ⟨gb810, 4, none⟩ = some (.slice A0_4 l0_4.length c0_4) := (blk_cell BK810.out 4).trans rfl; have hcz18_5 : w17.cell? ⟨gb810, 5, none⟩ = some (.slice A0_5 l0_5.length c0_5) := (blk_cell BK810.out 5).trans rfl; have hfz18_0 := blk_frozen BK810.out 0; have hfz18_1 := blk_frozen BK810.out 1; have hfz18_2 := blk_frozen BK810.out 2; have hfz18_3 := blk_frozen BK810.out 3; have hfz18_4 := blk_frozen BK810.out 4; have hfz18_5 := blk_frozen BK810.out 5) | ((with_reducible refine gate_callee (f := 118) rfl ?_); refine goesL_ (some 8) rfl rfl Try.func118 (by kernel_rfl) rfl #[.slice A0_2 l0_2.length c0_2, .int .i64 a1] rfl z73x2 ?_; (with_reducible refine (laws_heldWantS.calls k _ _ l0_2 a1 t811 _ ?side1 ?side2 A3.out).mono ?_); (case side1 => repeat (first | exact (Kd.C_below HR0_2.out HB.out) | (with_reducible refine Kd.C_alloc ?_ _) | (with_reducible refine Kd.C_drewN ?_ _) | (with_reducible refine Kd.C_drew ?_))); (case side2 => exact HC0_2.out); rintro e w' ⟨rfl, ⟨nd, rfl⟩⟩; refine ⟨_, rfl, ?_⟩) | ((with_reducible refine gate_callee (f := 119) rfl ?_); refine goesL_ (some 14) rfl rfl Try.func119 (by kernel_rfl) rfl #[.slice A0_3 l0_3.length c0_3, .int .i64 t811] rfl z73x2 ?_; (with_reducible refine (laws_heldCredS.calls k _ _ l0_3 t811 t812 _ ?side1 ?side2 A7.out).mono ?_); (case side1 => repeat (first | exact (Kd.C_below HR0_3.out z73x0) | (with_reducible refine Kd.C_alloc ?_ _) | (with_reducible refine Kd.C_drewN ?_ _) | (with_reducible refine Kd.C_drew ?_))); (case side2 => exact HC0_3.out); rintro e w' ⟨rfl, ⟨nd, rfl⟩⟩; refine ⟨_, rfl, ?_⟩) | ((with_reducible refine gate_callee (f := 84) rfl ?_); refine goesL_ (some 20) rfl rfl Try.func84 (by kernel_rfl) rfl #[.slice A0_4 l0_4.length c0_4, .int .i64 t812] rfl z73x2 ?_; (with_reducible refine (laws_heldCallS.calls k _ _ l0_4 t812 t813 _ ?side1 ?side2 A11.out).mono ?_); (case side1 => repeat (first | exact (Kd.C_below HR0_4.out z73x0) | (with_reducible refine Kd.C_alloc ?_ _) | (with_reducible refine Kd.C_drewN ?_ _) | (with_reducible refine Kd.C_drew ?_))); (case side2 => exact HC0_4.out); rintro e w' ⟨rfl, ⟨nd, rfl⟩⟩; refine ⟨_, rfl, ?_⟩) | ((with_reducible refine gate_callee (f := 84) rfl ?_); refine goesL_ (some 26) rfl rfl Try.func84 (by kernel_rfl) rfl #[.slice A0_5 l0_5.length c0_5, .int .i64 t813] rfl z73x2 ?_; (with_reducible refine (laws_heldCallS.calls k _ _ l0_5 t813 t814 _ ?side1 ?side2 A15.out).mono ?_); (case side1 => repeat (first | exact (Kd.C_below HR0_5.out z73x0) | (with_reducible refine Kd.C_alloc ?_ _) | (with_reducible refine Kd.C_drewN ?_ _) | (with_reducible refine Kd.C_drew ?_))); (case side2 => exact HC0_5.out); rintro e w' ⟨rfl, ⟨nd, rfl⟩⟩; refine ⟨_, rfl, ?_⟩))
     go_ret
     exact ⟨by first | rfl | (simp [errW_none, errW_some] <;> rfl) | (simp [*, errW_none, errW_some] <;> rfl), by repeat (first | (with_reducible first | exact HB.out | apply below_alloc | apply pw_below_drewN | apply below_drew1 | refine below_set ?_ GE810.out) | exact HB.out)⟩
    ·rw [if_neg c16] at H
     have c16b0 : decide (t814 < 0) = false := decide_eq_false c16
     clear c16
     obtain rfl := Option.some.inj H
     go_enter Try.func53, Try.ntmps53
     go_wp2_with (first | ((with_reducible refine gate_dst (N := 2) rfl ?_); refine box_event ?hg (N := 2) ?hd (cs := #[.int .i64 a0_0, .int .i64 a0_1, .slice A0_2 l0_2.length c0_2, .slice A0_3 l0_3.length c0_3, .slice A0_4 l0_4.length c0_4, .slice A0_5 l0_5.length c0_5]) (t := 46) ?hr ?_; (case hd => rfl); (case hg => rfl); (case hr => first | (go_simp; done) | (go_simp; rfl)); intro gb810 hg w19 hbox hb; have n0_ := Aside0.mk (below_step z73x3 hb); have n1_ := Aside0.mk (hbox); have n2_ := Aside0.mk ((z73x1 : w.heap.size ≤ gb810)); have n3_ := Aside0.mk ((z73x1 : w.heap.size ≤ gb810)); clear HB; have HB := n0_; have BK810 := n1_; have GW810 := n2_; have GE810 := n3_; clear n0_ n1_ n2_ n3_; clear hb hbox hg; have hcz20_0 : w19.cell? ⟨gb810, 0, none⟩ = some (.int .i64 a0_0) := (blk_cell BK810.out 0).trans rfl; have hcz20_1 : w19.cell? ⟨gb810, 1, none⟩ = some (.int .i64 a0_1) := (blk_cell BK810.out 1).trans rfl; have hcz20_2 : w19.cell? ⟨gb810, 2, none⟩ = some (.slice A0_2 l0_2.length c0_2) := (blk_cell BK810.out 2).trans rfl; have hcz20_3 : w19.cell? ⟨gb810, 3, none⟩ = some (.slice A0_3 l0_3.length c0_3) := (blk_cell BK810.out 3).trans rfl; have hcz20_4 : w19.cell? ⟨gb810, 4, none⟩ = some (.slice A0_4 l0_4.length c0_4) := (blk_cell BK810.out 4).trans rfl; have hcz20_5 : w19.cell? ⟨gb810, 5, none⟩ = some (.slice A0_5 l0_5.length c0_5) := (blk_cell BK810.out 5).trans rfl; have hfz20_0 := blk_frozen BK810.out 0; have hfz20_1 := blk_frozen BK810.out 1; have hfz20_2 := blk_frozen BK810.out 2; have hfz20_3 := blk_frozen BK810.out 3; have hfz20_4 := blk_frozen BK810.out 4; have hfz20_5 := blk_frozen BK810.out 5) | ((with_reducible refine gate_callee (f := 118) rfl ?_); refine goesL_ (some 8) rfl rfl Try.func118 (by kernel_rfl) rfl #[.slice A0_2 l0_2.length c0_2, .int .i64 a1] rfl z73x2 ?_; (with_reducible refine (laws_heldWantS.calls k _ _ l0_2 a1 t811 _ ?side1 ?side2 A3.out).mono ?_); (case side1 => repeat (first | exact (Kd.C_below HR0_2.out HB.out) | (with_reducible refine Kd.C_alloc ?_ _) | (with_reducible refine Kd.C_drewN ?_ _) | (with_reducible refine Kd.C_drew ?_))); (case side2 => exact HC0_2.out); rintro e w' ⟨rfl, ⟨nd, rfl⟩⟩; refine ⟨_, rfl, ?_⟩) | ((with_reducible refine gate_callee (f := 119) rfl ?_); refine goesL_ (some 14) rfl rfl Try.func119 (by kernel_rfl) rfl #[.slice A0_3 l0_3.length c0_3, .int .i64 t811] rfl z73x2 ?_; (with_reducible refine (laws_heldCredS.calls k _ _ l0_3 t811 t812 _ ?side1 ?side2 A7.out).mono ?_); (case side1 => repeat (first | exact (Kd.C_below HR0_3.out z73x0) | (with_reducible refine Kd.C_alloc ?_ _) | (with_reducible refine Kd.C_drewN ?_ _) | (with_reducible refine Kd.C_drew ?_))); (case side2 => exact HC0_3.out); rintro e w' ⟨rfl, ⟨nd, rfl⟩⟩; refine ⟨_, rfl, ?_⟩) | ((with_reducible refine gate_callee (f := 84) rfl ?_); refine goesL_ (some 20) rfl rfl Try.func84 (by kernel_rfl) rfl #[.slice A0_4 l0_4.length c0_4, .int .i64 t812] rfl z73x2 ?_; (with_reducible refine (laws_heldCallS.calls k _ _ l0_4 t812 t813 _ ?side1 ?side2 A11.out).mono ?_); (case side1 => repeat (first | exact (Kd.C_below HR0_4.out z73x0) | (with_reducible refine Kd.C_alloc ?_ _) | (with_reducible refine Kd.C_drewN ?_ _) | (with_reducible refine Kd.C_drew ?_))); (case side2 => exact HC0_4.out); rintro e w' ⟨rfl, ⟨nd, rfl⟩⟩; refine ⟨_, rfl, ?_⟩) | ((with_reducible refine gate_callee (f := 84) rfl ?_); refine goesL_ (some 26) rfl rfl Try.func84 (by kernel_rfl) rfl #[.slice A0_5 l0_5.length c0_5, .int .i64 t813] rfl z73x2 ?_; (with_reducible refine (laws_heldCallS.calls k _ _ l0_5 t813 t814 _ ?side1 ?side2 A15.out).mono ?_); (case side1 => repeat (first | exact (Kd.C_below HR0_5.out z73x0) | (with_reducible refine Kd.C_alloc ?_ _) | (with_reducible refine Kd.C_drewN ?_ _) | (with_reducible refine Kd.C_drew ?_))); (case side2 => exact HC0_5.out); rintro e w' ⟨rfl, ⟨nd, rfl⟩⟩; refine ⟨_, rfl, ?_⟩))
     go_ret
     exact ⟨by first | rfl | (simp [errW_none, errW_some] <;> rfl) | (simp [*, errW_none, errW_some] <;> rfl), by repeat (first | (with_reducible first | exact HB.out | apply below_alloc | apply pw_below_drewN | apply below_drew1 | refine below_set ?_ GE810.out) | exact HB.out)⟩

end Go.Proofs.Ytpdeincniaiajaa.Hp
