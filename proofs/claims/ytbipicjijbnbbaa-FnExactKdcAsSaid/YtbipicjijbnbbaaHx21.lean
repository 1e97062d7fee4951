-- hp.py
import Derived.Test.YtbipicjijbnbbaaHx0
import Derived.Test.YtbipicjijbnbbaaHx1
namespace Go.Proofs.Ytbipicjijbnbbaa.Hp
open Go.RowKit Go.Proofs.YtbipicjijbnbbaaW.PrintWords Go.Proofs.YtbipicjijbnbbaaW.PrintLast Go.Proofs.YtbipicjijbnbbaaW.PrintMore
attribute [local go_sem] max2_int min2_int max_two min_two max_three min_three max_four min_four   -- for this text's walks alone
set_option linter.unusedVariables false
set_option linter.unusedSimpArgs false

attribute [local go_sem high] eqA41
-- squeezed by wip/tools/squeeze.py
theorem z21x1 {P : Prop} (h : P := by repeat (first | (with_reducible first | exact HB.out | apply below_alloc | apply pw_below_drewN | apply below_drew1) | exact HB.out)) : P := h
theorem z21x0 {P : Prop} (h : P := by rw [hg]; exact (below_size (by repeat (first | (with_reducible first | exact HB.out | apply below_alloc | apply pw_below_drewN | apply below_drew1) | exact HB.out)))) : P := h
/-! ### impl_Seal_165: function 165 -/
def impl_Seal_165.l0 : Nat → List (S41) → Int → Int → Int → Int → Int → Int → Int → Int → Int → Option (Int)
 | 0, _, _, _, _, _, _, _, _, _, _ => none
 | k + 1, x0, x7, x8, x210000, x210001, x210002, x210003, x210004, x210005, x210006 => if x8 < x7 then (if 0 ≤ x8 then (if x8 < (x0.length : Int) then (if (x210000 == ((rd_T41 x0 x8).f0) && (x210001 == ((rd_T41 x0 x8).f1) && (x210002 == ((rd_T41 x0 x8).f2) && (x210003 == ((rd_T41 x0 x8).f3) && (x210004 == ((rd_T41 x0 x8).f4) && (x210005 == ((rd_T41 x0 x8).f5) && (x210006 == ((rd_T41 x0 x8).f6)))))))) = true then (some x8) else (impl_Seal_165.l0 k x0 x7 (wrap64 (x8 + 1)) x210000 x210001 x210002 x210003 x210004 x210005 x210006)) else (none)) else (none)) else (some (-1))
def impl_Seal_165.f (k : Nat) (l0 : List (S41)) (a1_0 : Int) (a1_1 : Int) (a1_2 : Int) (a1_3 : Int) (a1_4 : Int) (a1_5 : Int) (a1_6 : Int) : Option (Int) := impl_Seal_165.l0 k l0 (l0.length : Int) 0 a1_0 a1_1 a1_2 a1_3 a1_4 a1_5 a1_6
theorem impl_Seal_165.mono_l : ∀ k, (∀ y0 y1 y2 y3 y4 y5 y6 y7 y8 y9, LeO (impl_Seal_165.l0 k y0 y1 y2 y3 y4 y5 y6 y7 y8 y9) (impl_Seal_165.l0 (k + 1) y0 y1 y2 y3 y4 y5 y6 y7 y8 y9))
 | 0 => fun _ _ _ _ _ _ _ _ _ _ r h => by simp [impl_Seal_165.l0] at h
 | k + 1 => by
  have ih0 := impl_Seal_165.mono_l k
  ·intro y0 y1 y2 y3 y4 y5 y6 y7 y8 y9
   unfold impl_Seal_165.l0
   repeat' first
   | (with_reducible exact ih0 _ _ _ _ _ _ _ _ _ _)
   | (with_reducible exact LeO.refl _)
   | (with_reducible exact LeO.none _)
   | (with_reducible refine LeO.ite ?_ ?_)
   | (with_reducible refine LeO.bind ?_ (fun _ => ?_))
   | exact ih0 _ _ _ _ _ _ _ _ _ _
   | exact LeO.none _
   | refine LeO.ite ?_ ?_
   | refine LeO.bind ?_ (fun _ => ?_)
theorem impl_Seal_165.mono : ∀ a0 a1 a2 a3 a4 a5 a6 a7 k, LeO (impl_Seal_165.f k a0 a1 a2 a3 a4 a5 a6 a7) (impl_Seal_165.f (k + 1) a0 a1 a2 a3 a4 a5 a6 a7) := by
 intro a0 a1 a2 a3 a4 a5 a6 a7 k
 have ih0 := impl_Seal_165.mono_l k
 unfold impl_Seal_165.f
 repeat' first
   | (with_reducible exact ih0 _ _ _ _ _ _ _ _ _ _)
   | (with_reducible exact LeO.refl _)
   | (with_reducible exact LeO.none _)
   | (with_reducible refine LeO.ite ?_ ?_)
   | (with_reducible refine LeO.bind ?_ (fun _ => ?_))
   | exact ih0 _ _ _ _ _ _ _ _ _ _
   | exact LeO.none _
   | refine LeO.ite ?_ ?_
   | refine LeO.bind ?_ (fun _ => ?_)
set_option maxHeartbeats 8000000 in
set_option maxRecDepth 100000 in
theorem impl_Seal_165.calls (k : Nat) (A0 : Option Addr) (c0 : Nat) (l0 : List (S41)) (a1_0 : Int) (a1_1 : Int) (a1_2 : Int) (a1_3 : Int) (a1_4 : Int) (a1_5 : Int) (a1_6 : Int) (r : Int) (w : World) (hr0 : Kd.C k41 w A0 l0.length l0) (hc0 : l0.length ≤ c0) (h : impl_Seal_165.f k l0 a1_0 a1_1 a1_2 a1_3 a1_4 a1_5 a1_6 = some r) :
  Calls Try.prog 165 #[.slice A0 l0.length c0, .agg #[.int .i64 a1_0, .int .i64 a1_1, .int .i64 a1_2, .int .i64 a1_3, .int .i64 a1_4, .int .i64 a1_5, .int .i64 a1_6]] w fun e w' => e = .returned (.int .i64 r) ∧ Below w.heap.size w w' := by
 have hu41 := Try.underlying41
 have HR0 := Aside0.mk hr0
 have HC0 := Aside0.mk hc0
 clear hr0 hc0
 have HB := Aside0.mk (Below.refl w.heap.size w)
 have H : (impl_Seal_165.l0 k l0 (l0.length : Int) 0 a1_0 a1_1 a1_2 a1_3 a1_4 a1_5 a1_6) = some r := h
 clear h
 have H' := Aside0.mk H
 clear H
 go_enter Try.func165, Try.ntmps165
 go_wp2_with (first | ((with_reducible refine gate_dst (N := 3) rfl ?_); refine box_event ?hg (N := 3) ?hd (cs := #[.int .i64 a1_0, .int .i64 a1_1, .int .i64 a1_2, .int .i64 a1_3, .int .i64 a1_4, .int .i64 a1_5, .int .i64 a1_6]) (t := 41) ?hr ?_; (case hd => rfl); (case hg => rfl); (case hr => first | (go_simp; done) | (go_simp; rfl)); intro gb209 hg w3 hbox hb; have n0_ := Aside0.mk (below_step z21x1 hb); have n1_ := Aside0.mk (hbox); have n2_ := Aside0.mk ((z21x0 : w.heap.size ≤ gb209)); have n3_ := Aside0.mk ((z21x0 : w.heap.size ≤ gb209)); clear HB; have HB := n0_; have BK209 := n1_; have GW209 := n2_; have GE209 := n3_; clear n0_ n1_ n2_ n3_; clear hb hbox hg))
 repeat (go_quiet (first | ((with_reducible refine gate_dst (N := 3) rfl ?_); refine box_event ?hg (N := 3) ?hd (cs := #[.int .i64 a1_0, .int .i64 a1_1, .int .i64 a1_2, .int .i64 a1_3, .int .i64 a1_4, .int .i64 a1_5, .int .i64 a1_6]) (t := 41) ?hr ?_; (case hd => rfl); (case hg => rfl); (case hr => first | (go_simp; done) | (go_simp; rfl)); intro gb209 hg w3 hbox hb; have n0_ := Aside0.mk (below_step z21x1 hb); have n1_ := Aside0.mk (hbox); have n2_ := Aside0.mk ((z21x0 : w.heap.size ≤ gb209)); have n3_ := Aside0.mk ((z21x0 : w.heap.size ≤ gb209)); clear HB; have HB := n0_; have BK209 := n1_; have GW209 := n2_; have GE209 := n3_; clear n0_ n1_ n2_ n3_; clear hb hbox hg)); try go_wp2_with (first | ((with_reducible refine gate_dst (N := 3) rfl ?_); refine box_event ?hg (N := 3) ?hd (cs := #[.int .i64 a1_0, .int .i64 a1_1, .int .i64 a1_2, .int .i64 a1_3, .int .i64 a1_4, .int .i64 a1_5, .int .i64 a1_6]) (t := 41) ?hr ?_; (case hd => rfl); (case hg => rfl); (case hr => first | (go_simp; done) | (go_simp; rfl)); intro gb209 hg w3 hbox hb; have n0_ := Aside0.mk (below_step z21x1 hb); have n1_ := Aside0.mk (hbox); have n2_ := Aside0.mk ((z21x0 : w.heap.size ≤ gb209)); have n3_ := Aside0.mk ((z21x0 : w.heap.size ≤ gb209)); clear HB; have HB := n0_; have BK209 := n1_; have GW209 := n2_; have GE209 := n3_; clear n0_ n1_ n2_ n3_; clear hb hbox hg)))
 go_loopg [8] k (fun kq v8 w' => ∃ (x8_1 : Int), v8 = .int .i64 x8_1 ∧ Aside0 (impl_Seal_165.l0 kq l0 (l0.length : Int) x8_1 a1_0 a1_1 a1_2 a1_3 a1_4 a1_5 a1_6 = some r) ∧ Aside0 (kq ≤ k) ∧ Aside0 (w'.heap[gb209]? = some (.cells #[.int .i64 a1_0, .int .i64 a1_1, .int .i64 a1_2, .int .i64 a1_3, .int .i64 a1_4, .int .i64 a1_5, .int .i64 a1_6] 41 (0, 0))) ∧ Aside0 (Below w.heap.size w w'))
 case atStart => exact ⟨(0), (by first | rfl | (simp; done) | (simp [*]; done)), H', ⟨Nat.le_refl _⟩, ⟨by (with_reducible repeat (first | refine blk_drewN ?_ _ | refine blk_drew ?_ | refine blk_alloc ?_ _)); exact BK209.out⟩, ⟨by repeat (first | (with_reducible first | exact HB.out | apply below_alloc | apply pw_below_drewN | apply below_drew1 | refine below_set ?_ GE209.out) | exact HB.out)⟩⟩
 case round =>
  clear H'
  try clear c1
  try clear p2
  obtain ⟨x8_1, rfl, HA, HK1, BK209, HB⟩ := hrel
  cases gk with
  | zero => exact absurd HA.out (by simp [impl_Seal_165.l0])
  | succ k1 =>
   have H := HA.out
   clear HA
   simp only [impl_Seal_165.l0] at H
   by_cases c4 : x8_1 < (l0.length : Int)
   ·rw [if_pos c4] at H
    have c4b0 : decide (x8_1 < (l0.length : Int)) = true := decide_eq_true c4
    clear c4
    by_cases c5 : 0 ≤ x8_1
    ·rw [if_pos c5] at H
     have c5b0 : decide (0 ≤ x8_1) = true := decide_eq_true c5
     clear c5
     by_cases c6 : x8_1 < (l0.length : Int)
     ·rw [if_pos c6] at H
      have c6b0 : decide (x8_1 < (l0.length : Int)) = true := decide_eq_true c6
      clear c6
      by_cases c7 : (a1_0 == ((rd_T41 l0 x8_1).f0) && (a1_1 == ((rd_T41 l0 x8_1).f1) && (a1_2 == ((rd_T41 l0 x8_1).f2) && (a1_3 == ((rd_T41 l0 x8_1).f3) && (a1_4 == ((rd_T41 l0 x8_1).f4) && (a1_5 == ((rd_T41 l0 x8_1).f5) && (a1_6 == ((rd_T41 l0 x8_1).f6)))))))) = true
      ·rw [if_pos c7] at H
       have c7b0 : (a1_0 == ((rd_T41 l0 x8_1).f0) && (a1_1 == ((rd_T41 l0 x8_1).f1) && (a1_2 == ((rd_T41 l0 x8_1).f2) && (a1_3 == ((rd_T41 l0 x8_1).f3) && (a1_4 == ((rd_T41 l0 x8_1).f4) && (a1_5 == ((rd_T41 l0 x8_1).f5) && (a1_6 == ((rd_T41 l0 x8_1).f6)))))))) = true := c7
       (try (have c7b1 : decide (a1_0 = ((rd_T41 l0 x8_1).f0) && (a1_1 == ((rd_T41 l0 x8_1).f1) && (a1_2 == ((rd_T41 l0 x8_1).f2) && (a1_3 == ((rd_T41 l0 x8_1).f3) && (a1_4 == ((rd_T41 l0 x8_1).f4) && (a1_5 == ((rd_T41 l0 x8_1).f5) && (a1_6 == ((rd_T41 l0 x8_1).f6)))))))) = true := by simpa using c7))
       (try (have c7b2 : (a1_0 == ((rd_T41 l0 x8_1).f0) && (a1_1 == ((rd_T41 l0 x8_1).f1) && (a1_2 == ((rd_T41 l0 x8_1).f2) && (a1_3 == ((rd_T41 l0 x8_1).f3) && (a1_4 == ((rd_T41 l0 x8_1).f4) && (a1_5 == ((rd_T41 l0 x8_1).f5) && (a1_6 == ((rd_T41 l0 x8_1).f6)))))))) = true := by simpa using c7))
       clear c7
       obtain rfl := Option.some.inj H
       have hcz8_0 : wr.cell? ⟨gb209, 0, none⟩ = some (.int .i64 a1_0) := (blk_cell BK209.out 0).trans rfl
       have hcz8_1 : wr.cell? ⟨gb209, 1, none⟩ = some (.int .i64 a1_1) := (blk_cell BK209.out 1).trans rfl
       have hcz8_2 : wr.cell? ⟨gb209, 2, none⟩ = some (.int .i64 a1_2) := (blk_cell BK209.out 2).trans rfl
       have hcz8_3 : wr.cell? ⟨gb209, 3, none⟩ = some (.int .i64 a1_3) := (blk_cell BK209.out 3).trans rfl
       have hcz8_4 : wr.cell? ⟨gb209, 4, none⟩ = some (.int .i64 a1_4) := (blk_cell BK209.out 4).trans rfl
       have hcz8_5 : wr.cell? ⟨gb209, 5, none⟩ = some (.int .i64 a1_5) := (blk_cell BK209.out 5).trans rfl
       have hcz8_6 : wr.cell? ⟨gb209, 6, none⟩ = some (.int .i64 a1_6) := (blk_cell BK209.out 6).trans rfl
       have hfz8_0 := blk_frozen BK209.out 0
       have hfz8_1 := blk_frozen BK209.out 1
       have hfz8_2 := blk_frozen BK209.out 2
       have hfz8_3 := blk_frozen BK209.out 3
       have hfz8_4 := blk_frozen BK209.out 4
       have hfz8_5 := blk_frozen BK209.out 5
       have hfz8_6 := blk_frozen BK209.out 6
       have p210 : 0 ≤ (x8_1 : Int) := of_decide_eq_true (by first | (with_reducible assumption) | assumption)
       have q210 : x8_1 < (l0.length : Int) := of_decide_eq_true (by first | (with_reducible assumption) | assumption)
       obtain ⟨ad210, e210, hx210_0, hx210_1, hx210_2, hx210_3, hx210_4, hx210_5, hx210_6⟩ := at_T41 HR0.out x8_1 p210 q210
       cases e210
       replace hx210_0 := (HB.out.cell (World.block_lt_of_cell? w _ hx210_0)).trans hx210_0
       replace hx210_1 := (HB.out.cell (World.block_lt_of_cell? w _ hx210_1)).trans hx210_1
       replace hx210_2 := (HB.out.cell (World.block_lt_of_cell? w _ hx210_2)).trans hx210_2
       replace hx210_3 := (HB.out.cell (World.block_lt_of_cell? w _ hx210_3)).trans hx210_3
       replace hx210_4 := (HB.out.cell (World.block_lt_of_cell? w _ hx210_4)).trans hx210_4
       replace hx210_5 := (HB.out.cell (World.block_lt_of_cell? w _ hx210_5)).trans hx210_5
       replace hx210_6 := (HB.out.cell (World.block_lt_of_cell? w _ hx210_6)).trans hx210_6
       replace p210 := eq_true p210
       replace q210 := eq_true q210
       go_wp2
       repeat (go_quiet (fail); try go_wp2)
       go_ret
       exact ⟨by first | rfl | (simp [errW_none, errW_some] <;> rfl) | (simp [*, errW_none, errW_some] <;> rfl), by repeat (first | (with_reducible first | exact HB.out | apply below_alloc | apply pw_below_drewN | apply below_drew1 | refine below_set ?_ GE209.out) | exact HB.out)⟩
      ·rw [if_neg c7] at H
       have c7b0 : (a1_0 == ((rd_T41 l0 x8_1).f0) && (a1_1 == ((rd_T41 l0 x8_1).f1) && (a1_2 == ((rd_T41 l0 x8_1).f2) && (a1_3 == ((rd_T41 l0 x8_1).f3) && (a1_4 == ((rd_T41 l0 x8_1).f4) && (a1_5 == ((rd_T41 l0 x8_1).f5) && (a1_6 == ((rd_T41 l0 x8_1).f6)))))))) = false := by simpa using c7
       (try (have c7b1 : decide (a1_0 = ((rd_T41 l0 x8_1).f0) && (a1_1 == ((rd_T41 l0 x8_1).f1) && (a1_2 == ((rd_T41 l0 x8_1).f2) && (a1_3 == ((rd_T41 l0 x8_1).f3) && (a1_4 == ((rd_T41 l0 x8_1).f4) && (a1_5 == ((rd_T41 l0 x8_1).f5) && (a1_6 == ((rd_T41 l0 x8_1).f6)))))))) = false := by simpa using c7))
       (try (have c7b2 : (a1_0 == ((rd_T41 l0 x8_1).f0) && (a1_1 == ((rd_T41 l0 x8_1).f1) && (a1_2 == ((rd_T41 l0 x8_1).f2) && (a1_3 == ((rd_T41 l0 x8_1).f3) && (a1_4 == ((rd_T41 l0 x8_1).f4) && (a1_5 == ((rd_T41 l0 x8_1).f5) && (a1_6 == ((rd_T41 l0 x8_1).f6)))))))) = false := by simpa using c7))
       (try (have c7b3 : ¬ (a1_0 = ((rd_T41 l0 x8_1).f0) && (a1_1 == ((rd_T41 l0 x8_1).f1) && (a1_2 == ((rd_T41 l0 x8_1).f2) && (a1_3 == ((rd_T41 l0 x8_1).f3) && (a1_4 == ((rd_T41 l0 x8_1).f4) && (a1_5 == ((rd_T41 l0 x8_1).f5) && (a1_6 == ((rd_T41 l0 x8_1).f6)))))))) := by simpa using c7))
       clear c7
       have H' := Aside0.mk H
       clear H
       have hcz9_0 : wr.cell? ⟨gb209, 0, none⟩ = some (.int .i64 a1_0) := (blk_cell BK209.out 0).trans rfl
       have hcz9_1 : wr.cell? ⟨gb209, 1, none⟩ = some (.int .i64 a1_1) := (blk_cell BK209.out 1).trans rfl
       have hcz9_2 : wr.cell? ⟨gb209, 2, none⟩ = some (.int .i64 a1_2) := (blk_cell BK209.out 2).trans rfl
       have hcz9_3 : wr.cell? ⟨gb209, 3, none⟩ = some (.int .i64 a1_3) := (blk_cell BK209.out 3).trans rfl
       have hcz9_4 : wr.cell? ⟨gb209, 4, none⟩ = some (.int .i64 a1_4) := (blk_cell BK209.out 4).trans rfl
       have hcz9_5 : wr.cell? ⟨gb209, 5, none⟩ = some (.int .i64 a1_5) := (blk_cell BK209.out 5).trans rfl
       have hcz9_6 : wr.cell? ⟨gb209, 6, none⟩ = some (.int .i64 a1_6) := (blk_cell BK209.out 6).trans rfl
       have hfz9_0 := blk_frozen BK209.out 0
       have hfz9_1 := blk_frozen BK209.out 1
       have hfz9_2 := blk_frozen BK209.out 2
       have hfz9_3 := blk_frozen BK209.out 3
       have hfz9_4 := blk_frozen BK209.out 4
       have hfz9_5 := blk_frozen BK209.out 5
       have hfz9_6 := blk_frozen BK209.out 6
       have p210 : 0 ≤ (x8_1 : Int) := of_decide_eq_true (by first | (with_reducible assumption) | assumption)
       have q210 : x8_1 < (l0.length : Int) := of_decide_eq_true (by first | (with_reducible assumption) | assumption)
       obtain ⟨ad210, e210, hx210_0, hx210_1, hx210_2, hx210_3, hx210_4, hx210_5, hx210_6⟩ := at_T41 HR0.out x8_1 p210 q210
       cases e210
       replace hx210_0 := (HB.out.cell (World.block_lt_of_cell? w _ hx210_0)).trans hx210_0
       replace hx210_1 := (HB.out.cell (World.block_lt_of_cell? w _ hx210_1)).trans hx210_1
       replace hx210_2 := (HB.out.cell (World.block_lt_of_cell? w _ hx210_2)).trans hx210_2
       replace hx210_3 := (HB.out.cell (World.block_lt_of_cell? w _ hx210_3)).trans hx210_3
       replace hx210_4 := (HB.out.cell (World.block_lt_of_cell? w _ hx210_4)).trans hx210_4
       replace hx210_5 := (HB.out.cell (World.block_lt_of_cell? w _ hx210_5)).trans hx210_5
       replace hx210_6 := (HB.out.cell (World.block_lt_of_cell? w _ hx210_6)).trans hx210_6
       replace p210 := eq_true p210
       replace q210 := eq_true q210
       go_wp2
       repeat (go_quiet (fail); try go_wp2)
       go_roundg k1
       case measure => have := HK1.out; omega
       case rel => exact ⟨(wrap64 (x8_1 + 1)), (by first | rfl | (simp; done) | (simp [*]; done)), H', ⟨by have := HK1.out; omega⟩, ⟨by (with_reducible repeat (first | refine blk_drewN ?_ _ | refine blk_drew ?_ | refine blk_alloc ?_ _)); exact BK209.out⟩, ⟨by repeat (first | (with_reducible first | exact HB.out | apply below_alloc | apply pw_below_drewN | apply below_drew1 | refine below_set ?_ GE209.out) | exact HB.out)⟩⟩
     ·rw [if_neg c6] at H
      exact absurd H (by simp)
    ·rw [if_neg c5] at H
     exact absurd H (by simp)
   ·rw [if_neg c4] at H
    have c4b0 : decide (x8_1 < (l0.length : Int)) = false := decide_eq_false c4
    clear c4
    obtain rfl := Option.some.inj H
    go_wp2
    repeat (go_quiet (fail); try go_wp2)
    go_ret
    exact ⟨by first | rfl | (simp [errW_none, errW_some] <;> rfl) | (simp [*, errW_none, errW_some] <;> rfl), by repeat (first | (with_reducible first | exact HB.out | apply below_alloc | apply pw_below_drewN | apply below_drew1 | refine below_set ?_ GE209.out) | exact HB.out)⟩

end Go.Proofs.Ytbipicjijbnbbaa.Hp
