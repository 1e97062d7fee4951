-- Printed by wip/tools/hp.py of this session (the kit's print.py, with contracts typed by hand beside).
import Derived.Test.YtbiknbjcidlabaaHx0
import Derived.Test.YtbiknbjcidlabaaHx4
import Derived.Test.YtbiknbjcidlabaaHx5
import Derived.Test.YtbiknbjcidlabaaHx7
namespace Go.Proofs.Ytbiknbjcidlabaa.Hp
open Go.RowKit Go.Proofs.YtbiknbjcidlabaaW.PrintWords Go.Proofs.YtbiknbjcidlabaaW.PrintLast Go.Proofs.YtbiknbjcidlabaaW.PrintMore
attribute [local go_sem] max2_int min2_int max_two min_two max_three min_three max_four min_four   -- for this text's walks alone
set_option linter.unusedVariables false
set_option linter.unusedSimpArgs false

/-! ### spec_DrawSealHolds: function 22 -/
def spec_DrawSealHolds.l0 : Nat → Int → List Int → Int → Int → Int → Int → Int → Int → Int → Int → Option (Int × Int × Int × Int × Int × Int × Int)
 | 0, _, _, _, _, _, _, _, _, _, _ => none
 | k + 1, x5, x203000, x203001, x212000, x212001, x212002, x212003, x212004, x212005, x212006 => if x5 < 3 then ((spec_SealHolds.f x212000 x212001 x212002 x212003 x212004 x212005 x212006).bind fun t212 => (if t212 = 0 then ((spec_l6Rd_pick.f k x203000 x203001 3).bind fun bt213 => (if bt213.1 > 0 then ((spec_l71Seal.f k x203000 bt213.2).bind fun bt215 => (spec_DrawSealHolds.l0 k (wrap64 (x5 + 1)) x203000 bt215.2.2.2.2.2.2.2 bt215.1 bt215.2.1 bt215.2.2.1 bt215.2.2.2.1 bt215.2.2.2.2.1 bt215.2.2.2.2.2.1 bt215.2.2.2.2.2.2.1)) else (some (x212000, x212001, x212002, x212003, x212004, x212005, x212006)))) else (some (x212000, x212001, x212002, x212003, x212004, x212005, x212006)))) else (some (x212000, x212001, x212002, x212003, x212004, x212005, x212006))
def spec_DrawSealHolds.f (k : Nat) (l0 : List Int) : Option (Int × Int × Int × Int × Int × Int × Int) := (spec_l6Open.f l0).bind fun bt200 => ((spec_l71Seal.f k bt200.1 bt200.2).bind fun bt203 => (spec_DrawSealHolds.l0 k 0 bt200.1 bt203.2.2.2.2.2.2.2 bt203.1 bt203.2.1 bt203.2.2.1 bt203.2.2.2.1 bt203.2.2.2.2.1 bt203.2.2.2.2.2.1 bt203.2.2.2.2.2.2.1))
theorem spec_DrawSealHolds.mono_l : ∀ k, (∀ y0 y1 y2 y3 y4 y5 y6 y7 y8 y9, LeO (spec_DrawSealHolds.l0 k y0 y1 y2 y3 y4 y5 y6 y7 y8 y9) (spec_DrawSealHolds.l0 (k + 1) y0 y1 y2 y3 y4 y5 y6 y7 y8 y9))
 | 0 => fun _ _ _ _ _ _ _ _ _ _ r h => by simp [spec_DrawSealHolds.l0] at h
 | k + 1 => by
  have ih0 := spec_DrawSealHolds.mono_l k
  ·intro y0 y1 y2 y3 y4 y5 y6 y7 y8 y9
   unfold spec_DrawSealHolds.l0
   repeat' first
   | (with_reducible exact ih0 _ _ _ _ _ _ _ _ _ _)
   | (with_reducible exact spec_l6Rd_pick.mono _ _ _ _)
   | (with_reducible exact spec_l71Seal.mono _ _ _)
   | (with_reducible exact LeO.refl _)
   | (with_reducible exact LeO.none _)
   | (with_reducible refine LeO.ite ?_ ?_)
   | (with_reducible refine LeO.bind ?_ (fun _ => ?_))
   | exact ih0 _ _ _ _ _ _ _ _ _ _
   | exact spec_l6Rd_pick.mono _ _ _ _
   | exact spec_l71Seal.mono _ _ _
   | exact LeO.none _
   | refine LeO.ite ?_ ?_
   | refine LeO.bind ?_ (fun _ => ?_)
theorem spec_DrawSealHolds.mono : ∀ a0 k, LeO (spec_DrawSealHolds.f k a0) (spec_DrawSealHolds.f (k + 1) a0) := by
 intro a0 k
 have ih0 := spec_DrawSealHolds.mono_l k
 unfold spec_DrawSealHolds.f
 repeat' first
   | (with_reducible exact ih0 _ _ _ _ _ _ _ _ _ _)
   | (with_reducible exact spec_l6Rd_pick.mono _ _ _ _)
   | (with_reducible exact spec_l71Seal.mono _ _ _)
   | (with_reducible exact LeO.refl _)
   | (with_reducible exact LeO.none _)
   | (with_reducible refine LeO.ite ?_ ?_)
   | (with_reducible refine LeO.bind ?_ (fun _ => ?_))
   | exact ih0 _ _ _ _ _ _ _ _ _ _
   | exact spec_l6Rd_pick.mono _ _ _ _
   | exact spec_l71Seal.mono _ _ _
   | exact LeO.none _
   | refine LeO.ite ?_ ?_
   | refine LeO.bind ?_ (fun _ => ?_)
set_option maxHeartbeats 8000000 in
set_option maxRecDepth 100000 in
theorem spec_DrawSealHolds.calls (k : Nat) (A0 : Option Addr) (c0 : Nat) (l0 : List Int) (r1 : Int) (r2 : Int) (r3 : Int) (r4 : Int) (r5 : Int) (r6 : Int) (r7 : Int) (w : World) (hr0 : Kd.C (Kd.int .u8) w A0 l0.length l0) (hc0 : l0.length ≤ c0) (h : spec_DrawSealHolds.f k l0 = some (r1, r2, r3, r4, r5, r6, r7)) :
  Calls Try.prog 22 #[.slice A0 l0.length c0] w fun e w' => e = .returned (.agg #[.int .i64 r1, .int .i64 r2, .int .i64 r3, .int .i64 r4, .int .i64 r5, .int .i64 r6, .int .i64 r7]) ∧ Below w.heap.size w w' := by
 have hu24 := Try.underlying24
 have HR0 := Aside0.mk hr0
 have HC0 := Aside0.mk hc0
 clear hr0 hc0
 have HB := Aside0.mk (Below.refl w.heap.size w)
 have H : ((spec_l6Open.f l0).bind fun bt200 => ((spec_l71Seal.f k bt200.1 bt200.2).bind fun bt203 => (spec_DrawSealHolds.l0 k 0 bt200.1 bt203.2.2.2.2.2.2.2 bt203.1 bt203.2.1 bt203.2.2.1 bt203.2.2.2.1 bt203.2.2.2.2.1 bt203.2.2.2.2.2.1 bt203.2.2.2.2.2.2.1))) = some (r1, r2, r3, r4, r5, r6, r7) := h
 clear h
 replace H := Option.bind_eq_some_iff.mp H
 obtain ⟨⟨t200, t201⟩, A20, H⟩ := H
 replace H : ((spec_l71Seal.f k t200 t201).bind fun bt203 => (spec_DrawSealHolds.l0 k 0 t200 bt203.2.2.2.2.2.2.2 bt203.1 bt203.2.1 bt203.2.2.1 bt203.2.2.2.1 bt203.2.2.2.2.1 bt203.2.2.2.2.2.1 bt203.2.2.2.2.2.2.1)) = some (r1, r2, r3, r4, r5, r6, r7) := H
 have A2 := Aside0.mk A20
 clear A20
 replace H := Option.bind_eq_some_iff.mp H
 obtain ⟨⟨t203, t204, t205, t206, t207, t208, t209, t210⟩, A30, H⟩ := H
 replace H : (spec_DrawSealHolds.l0 k 0 t200 t210 t203 t204 t205 t206 t207 t208 t209) = some (r1, r2, r3, r4, r5, r6, r7) := H
 have A3 := Aside0.mk A30
 clear A30
 have H' := Aside0.mk H
 clear H
 go_enter Try.func22, Try.ntmps22
 go_wp2_with (first | ((with_reducible refine gate_dst (N := 2) rfl ?_); refine box_event ?hg (N := 2) ?hd (cs := #[.int .i64 0, .int .i64 0, .int .i64 0, .int .i64 0, .int .i64 0, .int .i64 0, .int .i64 0]) (t := 24) ?hr ?_; (case hd => rfl); (case hg => rfl); (case hr => first | (go_simp; done) | (go_simp; rfl)); intro gb199 hg w4 hbox hb; have n0_ := Aside0.mk (below_step (by repeat (first | (with_reducible first | exact HB.out | apply below_alloc | apply pw_below_drewN | apply below_drew1) | exact HB.out)) hb); have n1_ := Aside0.mk (hbox); have n2_ := Aside0.mk ((by rw [hg]; exact (below_size (by repeat (first | (with_reducible first | exact HB.out | apply below_alloc | apply pw_below_drewN | apply below_drew1) | exact HB.out))) : w.heap.size ≤ gb199)); have n3_ := Aside0.mk ((by rw [hg]; exact (below_size (by repeat (first | (with_reducible first | exact HB.out | apply below_alloc | apply pw_below_drewN | apply below_drew1) | exact HB.out))) : w.heap.size ≤ gb199)); clear HB; have HB := n0_; have BK199 := n1_; have GW199 := n2_; have GE199 := n3_; clear n0_ n1_ n2_ n3_; clear hb hbox hg) | ((with_reducible refine gate_callee (f := 55) rfl ?_); refine goesL_ (some 7) rfl rfl Try.func55 (by kernel_rfl) rfl #[.slice A0 l0.length c0] rfl (by (try simp only [List.map_toArray, List.map_cons, List.map_nil]); first | done | rfl | (simp only [List.length_drop, List.length_take]; rfl)) ?_; (with_reducible refine (spec_l6Open.calls _ _ l0 t200 t201 w _ ?side1 ?side2 ?side3 A2.out).mono ?_); (case side1 => repeat (first | (with_reducible first | exact HB.out | apply below_alloc | apply pw_below_drewN | apply below_drew1 | refine below_set ?_ GE199.out) | exact HB.out)); (case side2 => exact HR0.out); (case side3 => exact HC0.out); rintro e w5 ⟨g202, rfl, hi, hb, hb2⟩; refine ⟨_, rfl, ?_⟩; have n0_ := Aside0.mk (blk_below (g := gb199) (o := .cells #[.int .i64 0, .int .i64 0, .int .i64 0, .int .i64 0, .int .i64 0, .int .i64 0, .int .i64 0] 24 (0, 0)) (by (with_reducible repeat (first | refine blk_drewN ?_ _ | refine blk_drew ?_ | refine blk_alloc ?_ _)); exact BK199.out) hb2); have n1_ := Aside0.mk (hb); have n2_ := Aside0.mk (hi); have n3_ := Aside0.mk (IsS80.ne_blk hi (blk_below (g := gb199) (o := .cells #[.int .i64 0, .int .i64 0, .int .i64 0, .int .i64 0, .int .i64 0, .int .i64 0, .int .i64 0] 24 (0, 0)) (by (with_reducible repeat (first | refine blk_drewN ?_ _ | refine blk_drew ?_ | refine blk_alloc ?_ _)); exact BK199.out) hb2) (by decide)); have n4_ := Aside0.mk (Ne.symm (IsS80.ne_blk hi (blk_below (g := gb199) (o := .cells #[.int .i64 0, .int .i64 0, .int .i64 0, .int .i64 0, .int .i64 0, .int .i64 0, .int .i64 0] 24 (0, 0)) (by (with_reducible repeat (first | refine blk_drewN ?_ _ | refine blk_drew ?_ | refine blk_alloc ?_ _)); exact BK199.out) hb2) (by decide))); clear BK199; clear HB; have BK199 := n0_; have HB := n1_; have HI202 := n2_; have NB202_199 := n3_; have NB199_202 := n4_; clear n0_ n1_ n2_ n3_ n4_; (try clear hb); (try clear hb2); (try clear hk); (try clear hi)) | ((with_reducible refine gate_callee (f := 56) rfl ?_); refine goesL_ (some 9) rfl rfl Try.func56 (by kernel_rfl) rfl #[.pointer (some ⟨g202, 0, none⟩)] rfl (by (try simp only [List.map_toArray, List.map_cons, List.map_nil]); first | done | rfl | (simp only [List.length_drop, List.length_take]; rfl)) ?_; (with_reducible refine (spec_l71Seal.calls k g202 t200 t201 t203 t204 t205 t206 t207 t208 t209 t210 w _ ?side1 ?side2 A3.out).mono ?_); (case side1 => repeat (first | (with_reducible first | exact HI202.out | apply IsS80.alloc | apply IsS80.drewN | apply IsS80.drew | apply IsS80.set_1 | refine IsS80.far ?_ NB202_199.out _) | exact HI202.out)); (case side2 => repeat (first | (with_reducible first | exact HB.out | apply below_alloc | apply pw_below_drewN | apply below_drew1 | refine below_set ?_ (IsS80.ge HI202.out) | refine below_set ?_ GE199.out) | exact HB.out)); rintro e w6 ⟨rfl, hi, hb, hk⟩; refine ⟨_, rfl, ?_⟩; have n0_ := Aside0.mk (KeepBut.blk hk (g' := gb199) (o := .cells #[.int .i64 0, .int .i64 0, .int .i64 0, .int .i64 0, .int .i64 0, .int .i64 0, .int .i64 0] 24 (0, 0)) (by (with_reducible repeat (first | refine blk_drewN ?_ _ | refine blk_drew ?_ | refine blk_alloc ?_ _)); exact BK199.out) NB199_202.out (by simp)); have n1_ := Aside0.mk (hb); have n2_ := Aside0.mk (hi); clear BK199; clear HB; clear HI202; have BK199 := n0_; have HB := n1_; have HI202 := n2_; clear n0_ n1_ n2_; (try clear hb); (try clear hb2); (try clear hk); (try clear hi)) | ((with_reducible refine gate_dst (N := 4) rfl ?_); refine box_event ?hg (N := 4) ?hd (cs := #[.int .i64 0, .int .i64 0, .int .i64 0, .int .i64 0, .int .i64 0, .int .i64 0, .int .i64 0]) (t := 24) ?hr ?_; (case hd => rfl); (case hg => rfl); (case hr => first | (go_simp; done) | (go_simp; rfl)); intro gb211 hg w7 hbox hb; have n0_ := Aside0.mk (blk_below (g := gb199) (o := .cells #[.int .i64 0, .int .i64 0, .int .i64 0, .int .i64 0, .int .i64 0, .int .i64 0, .int .i64 0] 24 (0, 0)) (by (with_reducible repeat (first | refine blk_drewN ?_ _ | refine blk_drew ?_ | refine blk_alloc ?_ _)); exact BK199.out) hb); have n1_ := Aside0.mk (IsS80.below (by repeat (first | (with_reducible first | exact HI202.out | apply IsS80.alloc | apply IsS80.drewN | apply IsS80.drew | apply IsS80.set_1 | refine IsS80.far ?_ NB202_199.out _) | exact HI202.out)) hb); have n2_ := Aside0.mk (below_step (by repeat (first | (with_reducible first | exact HB.out | apply below_alloc | apply pw_below_drewN | apply below_drew1 | refine below_set ?_ (IsS80.ge HI202.out) | refine below_set ?_ GE199.out) | exact HB.out)) hb); have n3_ := Aside0.mk (hbox); have n4_ := Aside0.mk ((by rw [hg]; exact (below_size (by repeat (first | (with_reducible first | exact HB.out | apply below_alloc | apply pw_below_drewN | apply below_drew1 | refine below_set ?_ (IsS80.ge HI202.out) | refine below_set ?_ GE199.out) | exact HB.out))) : w.heap.size ≤ gb211)); have n5_ := Aside0.mk ((by rw [hg]; exact (below_size (by repeat (first | (with_reducible first | exact HB.out | apply below_alloc | apply pw_below_drewN | apply below_drew1 | refine below_set ?_ (IsS80.ge HI202.out) | refine below_set ?_ GE199.out) | exact HB.out))) : w.heap.size ≤ gb211)); have n6_ := Aside0.mk ((by rw [hg]; exact Nat.ne_of_lt (blk_lt (g := gb199) (o := .cells #[.int .i64 0, .int .i64 0, .int .i64 0, .int .i64 0, .int .i64 0, .int .i64 0, .int .i64 0] 24 (0, 0)) (by (with_reducible repeat (first | refine blk_drewN ?_ _ | refine blk_drew ?_ | refine blk_alloc ?_ _)); exact BK199.out)) : gb199 ≠ gb211)); have n7_ := Aside0.mk ((by rw [hg]; exact Nat.ne_of_gt (blk_lt (g := gb199) (o := .cells #[.int .i64 0, .int .i64 0, .int .i64 0, .int .i64 0, .int .i64 0, .int .i64 0, .int .i64 0] 24 (0, 0)) (by (with_reducible repeat (first | refine blk_drewN ?_ _ | refine blk_drew ?_ | refine blk_alloc ?_ _)); exact BK199.out)) : gb211 ≠ gb199)); have n8_ := Aside0.mk ((by rw [hg]; exact Nat.ne_of_lt (IsS80.lt (show IsS80 w _ g202 t200 t210 from by repeat (first | (with_reducible first | exact HI202.out | apply IsS80.alloc | apply IsS80.drewN | apply IsS80.drew | apply IsS80.set_1 | refine IsS80.far ?_ NB202_199.out _) | exact HI202.out))) : g202 ≠ gb211)); have n9_ := Aside0.mk ((by rw [hg]; exact Nat.ne_of_gt (IsS80.lt (show IsS80 w _ g202 t200 t210 from by repeat (first | (with_reducible first | exact HI202.out | apply IsS80.alloc | apply IsS80.drewN | apply IsS80.drew | apply IsS80.set_1 | refine IsS80.far ?_ NB202_199.out _) | exact HI202.out))) : gb211 ≠ g202)); clear BK199; clear HI202; clear HB; have BK199 := n0_; have HI202 := n1_; have HB := n2_; have BK211 := n3_; have GW211 := n4_; have GE211 := n5_; have NB199_211 := n6_; have NB211_199 := n7_; have NB202_211 := n8_; have NB211_202 := n9_; clear n0_ n1_ n2_ n3_ n4_ n5_ n6_ n7_ n8_ n9_; clear hb hbox hg; have hnb8 := NB211_199.out; have hnc8 := NB199_211.out; have hnb9 := NB211_202.out; have hnc9 := NB202_211.out; have hcz10_0 : w7.cell? ⟨gb211, 0, none⟩ = some (.int .i64 0) := (blk_cell BK211.out 0).trans rfl; have hcz10_1 : w7.cell? ⟨gb211, 1, none⟩ = some (.int .i64 0) := (blk_cell BK211.out 1).trans rfl; have hcz10_2 : w7.cell? ⟨gb211, 2, none⟩ = some (.int .i64 0) := (blk_cell BK211.out 2).trans rfl; have hcz10_3 : w7.cell? ⟨gb211, 3, none⟩ = some (.int .i64 0) := (blk_cell BK211.out 3).trans rfl; have hcz10_4 : w7.cell? ⟨gb211, 4, none⟩ = some (.int .i64 0) := (blk_cell BK211.out 4).trans rfl; have hcz10_5 : w7.cell? ⟨gb211, 5, none⟩ = some (.int .i64 0) := (blk_cell BK211.out 5).trans rfl; have hcz10_6 : w7.cell? ⟨gb211, 6, none⟩ = some (.int .i64 0) := (blk_cell BK211.out 6).trans rfl; have hfz10_0 := blk_frozen BK211.out 0; have hfz10_1 := blk_frozen BK211.out 1; have hfz10_2 := blk_frozen BK211.out 2; have hfz10_3 := blk_frozen BK211.out 3; have hfz10_4 := blk_frozen BK211.out 4; have hfz10_5 := blk_frozen BK211.out 5; have hfz10_6 := blk_frozen BK211.out 6))
 go_loopg [5] k (fun kq v5 w' => ∃ (x5_1 : Int) (x203001_1 : Int) (x212000_1 : Int) (x212001_1 : Int) (x212002_1 : Int) (x212003_1 : Int) (x212004_1 : Int) (x212005_1 : Int) (x212006_1 : Int), v5 = .int .i64 x5_1 ∧ Aside0 (spec_DrawSealHolds.l0 kq x5_1 t200 x203001_1 x212000_1 x212001_1 x212002_1 x212003_1 x212004_1 x212005_1 x212006_1 = some (r1, r2, r3, r4, r5, r6, r7)) ∧ Aside0 (kq ≤ k) ∧ Aside0 (w'.heap[gb199]? = some (.cells #[.int .i64 0, .int .i64 0, .int .i64 0, .int .i64 0, .int .i64 0, .int .i64 0, .int .i64 0] 24 (0, 0))) ∧ Aside0 (w'.heap[gb211]? = some (.cells #[.int .i64 x212000_1, .int .i64 x212001_1, .int .i64 x212002_1, .int .i64 x212003_1, .int .i64 x212004_1, .int .i64 x212005_1, .int .i64 x212006_1] 24 (0, 0))) ∧ Aside0 (IsS80 w w' g202 t200 x203001_1) ∧ Aside0 (Below w.heap.size w w'))
 case atStart => exact ⟨(0), (t210), (t203), (t204), (t205), (t206), (t207), (t208), (t209), (by first | rfl | (simp; done) | (simp [*]; done)), H', ⟨Nat.le_refl _⟩, ⟨by (with_reducible repeat (first | refine blk_drewN ?_ _ | refine blk_drew ?_ | refine blk_alloc ?_ _)); refine blk_far ?_ NB199_211.out _; (with_reducible repeat (first | refine blk_drewN ?_ _ | refine blk_drew ?_ | refine blk_alloc ?_ _)); refine blk_far ?_ NB199_211.out _; (with_reducible repeat (first | refine blk_drewN ?_ _ | refine blk_drew ?_ | refine blk_alloc ?_ _)); refine blk_far ?_ NB199_211.out _; (with_reducible repeat (first | refine blk_drewN ?_ _ | refine blk_drew ?_ | refine blk_alloc ?_ _)); refine blk_far ?_ NB199_211.out _; (with_reducible repeat (first | refine blk_drewN ?_ _ | refine blk_drew ?_ | refine blk_alloc ?_ _)); refine blk_far ?_ NB199_211.out _; (with_reducible repeat (first | refine blk_drewN ?_ _ | refine blk_drew ?_ | refine blk_alloc ?_ _)); refine blk_far ?_ NB199_211.out _; (with_reducible repeat (first | refine blk_drewN ?_ _ | refine blk_drew ?_ | refine blk_alloc ?_ _)); refine blk_far ?_ NB199_211.out _; (with_reducible repeat (first | refine blk_drewN ?_ _ | refine blk_drew ?_ | refine blk_alloc ?_ _)); exact BK199.out⟩, ⟨by (with_reducible repeat (first | refine blk_drewN ?_ _ | refine blk_drew ?_ | refine blk_alloc ?_ _)); refine blk_put (cs := #[.int .i64 t203, .int .i64 t204, .int .i64 t205, .int .i64 t206, .int .i64 t207, .int .i64 t208, .int .i64 0]) ?_ 6 _ rfl; (with_reducible repeat (first | refine blk_drewN ?_ _ | refine blk_drew ?_ | refine blk_alloc ?_ _)); refine blk_put (cs := #[.int .i64 t203, .int .i64 t204, .int .i64 t205, .int .i64 t206, .int .i64 t207, .int .i64 0, .int .i64 0]) ?_ 5 _ rfl; (with_reducible repeat (first | refine blk_drewN ?_ _ | refine blk_drew ?_ | refine blk_alloc ?_ _)); refine blk_put (cs := #[.int .i64 t203, .int .i64 t204, .int .i64 t205, .int .i64 t206, .int .i64 0, .int .i64 0, .int .i64 0]) ?_ 4 _ rfl; (with_reducible repeat (first | refine blk_drewN ?_ _ | refine blk_drew ?_ | refine blk_alloc ?_ _)); refine blk_put (cs := #[.int .i64 t203, .int .i64 t204, .int .i64 t205, .int .i64 0, .int .i64 0, .int .i64 0, .int .i64 0]) ?_ 3 _ rfl; (with_reducible repeat (first | refine blk_drewN ?_ _ | refine blk_drew ?_ | refine blk_alloc ?_ _)); refine blk_put (cs := #[.int .i64 t203, .int .i64 t204, .int .i64 0, .int .i64 0, .int .i64 0, .int .i64 0, .int .i64 0]) ?_ 2 _ rfl; (with_reducible repeat (first | refine blk_drewN ?_ _ | refine blk_drew ?_ | refine blk_alloc ?_ _)); refine blk_put (cs := #[.int .i64 t203, .int .i64 0, .int .i64 0, .int .i64 0, .int .i64 0, .int .i64 0, .int .i64 0]) ?_ 1 _ rfl; (with_reducible repeat (first | refine blk_drewN ?_ _ | refine blk_drew ?_ | refine blk_alloc ?_ _)); refine blk_put (cs := #[.int .i64 0, .int .i64 0, .int .i64 0, .int .i64 0, .int .i64 0, .int .i64 0, .int .i64 0]) ?_ 0 _ rfl; (with_reducible repeat (first | refine blk_drewN ?_ _ | refine blk_drew ?_ | refine blk_alloc ?_ _)); exact BK211.out⟩, ⟨by repeat (first | (with_reducible first | exact HI202.out | apply IsS80.alloc | apply IsS80.drewN | apply IsS80.drew | apply IsS80.set_1 | refine IsS80.far ?_ NB202_199.out _ | refine IsS80.far ?_ NB202_211.out _) | exact HI202.out)⟩, ⟨by repeat (first | (with_reducible first | exact HB.out | apply below_alloc | apply pw_below_drewN | apply below_drew1 | refine below_set ?_ (IsS80.ge HI202.out) | refine below_set ?_ GE199.out | refine below_set ?_ GE211.out) | exact HB.out)⟩⟩
 case round =>
  clear H'
  try clear c2
  try clear p2
  try clear c5
  try clear c8
  try clear c9
  try clear hcz10_0
  try clear hcz10_1
  try clear hcz10_2
  try clear hcz10_3
  try clear hcz10_4
  try clear hcz10_5
  try clear hcz10_6
  try clear hfz10_0
  try clear hfz10_1
  try clear hfz10_2
  try clear hfz10_3
  try clear hfz10_4
  try clear hfz10_5
  try clear hfz10_6
  obtain ⟨x5_1, x203001_1, x212000_1, x212001_1, x212002_1, x212003_1, x212004_1, x212005_1, x212006_1, rfl, HA, HK1, BK199, BK211, HI202, HB⟩ := hrel
  cases gk with
  | zero => exact absurd HA.out (by simp [spec_DrawSealHolds.l0])
  | succ k1 =>
   have H := HA.out
   clear HA
   simp only [spec_DrawSealHolds.l0] at H
   by_cases c11 : x5_1 < 3
   ·rw [if_pos c11] at H
    have c11b0 : decide (x5_1 < 3) = true := decide_eq_true c11
    clear c11
    replace H := Option.bind_eq_some_iff.mp H
    obtain ⟨t212, A120, H⟩ := H
    replace H : (if t212 = 0 then ((spec_l6Rd_pick.f k1 t200 x203001_1 3).bind fun bt213 => (if bt213.1 > 0 then ((spec_l71Seal.f k1 t200 bt213.2).bind fun bt215 => (spec_DrawSealHolds.l0 k1 (wrap64 (x5_1 + 1)) t200 bt215.2.2.2.2.2.2.2 bt215.1 bt215.2.1 bt215.2.2.1 bt215.2.2.2.1 bt215.2.2.2.2.1 bt215.2.2.2.2.2.1 bt215.2.2.2.2.2.2.1)) else (some (x212000_1, x212001_1, x212002_1, x212003_1, x212004_1, x212005_1, x212006_1)))) else (some (x212000_1, x212001_1, x212002_1, x212003_1, x212004_1, x212005_1, x212006_1))) = some (r1, r2, r3, r4, r5, r6, r7) := H
    have A12 := Aside0.mk A120
    clear A120
    by_cases c13 : t212 = 0
    ·rw [if_pos c13] at H
     have c13b0 : (t212 == 0) = true := beq_iff_eq.mpr c13
     have c13b1 : (t212 != 0) = false := bne_eq_false_iff_eq.mpr c13
     clear c13
     replace H := Option.bind_eq_some_iff.mp H
     obtain ⟨⟨t213, t214⟩, A140, H⟩ := H
     replace H : (if t213 > 0 then ((spec_l71Seal.f k1 t200 t214).bind fun bt215 => (spec_DrawSealHolds.l0 k1 (wrap64 (x5_1 + 1)) t200 bt215.2.2.2.2.2.2.2 bt215.1 bt215.2.1 bt215.2.2.1 bt215.2.2.2.1 bt215.2.2.2.2.1 bt215.2.2.2.2.2.1 bt215.2.2.2.2.2.2.1)) else (some (x212000_1, x212001_1, x212002_1, x212003_1, x212004_1, x212005_1, x212006_1))) = some (r1, r2, r3, r4, r5, r6, r7) := H
     have A14 := Aside0.mk A140
     clear A140
     by_cases c15 : t213 > 0
     ·rw [if_pos c15] at H
      have c15b0 : decide (0 < t213) = true := decide_eq_true c15
      clear c15
      replace H := Option.bind_eq_some_iff.mp H
      obtain ⟨⟨t215, t216, t217, t218, t219, t220, t221, t222⟩, A160, H⟩ := H
      replace H : (spec_DrawSealHolds.l0 k1 (wrap64 (x5_1 + 1)) t200 t222 t215 t216 t217 t218 t219 t220 t221) = some (r1, r2, r3, r4, r5, r6, r7) := H
      have A16 := Aside0.mk A160
      clear A160
      have H' := Aside0.mk H
      clear H
      have hnb17 := NB211_199.out
      have hnc17 := NB199_211.out
      have hnb18 := NB211_202.out
      have hnc18 := NB202_211.out
      have hcz19_0 : wr.cell? ⟨gb211, 0, none⟩ = some (.int .i64 x212000_1) := (blk_cell BK211.out 0).trans rfl
      have hcz19_1 : wr.cell? ⟨gb211, 1, none⟩ = some (.int .i64 x212001_1) := (blk_cell BK211.out 1).trans rfl
      have hcz19_2 : wr.cell? ⟨gb211, 2, none⟩ = some (.int .i64 x212002_1) := (blk_cell BK211.out 2).trans rfl
      have hcz19_3 : wr.cell? ⟨gb211, 3, none⟩ = some (.int .i64 x212003_1) := (blk_cell BK211.out 3).trans rfl
      have hcz19_4 : wr.cell? ⟨gb211, 4, none⟩ = some (.int .i64 x212004_1) := (blk_cell BK211.out 4).trans rfl
      have hcz19_5 : wr.cell? ⟨gb211, 5, none⟩ = some (.int .i64 x212005_1) := (blk_cell BK211.out 5).trans rfl
      have hcz19_6 : wr.cell? ⟨gb211, 6, none⟩ = some (.int .i64 x212006_1) := (blk_cell BK211.out 6).trans rfl
      have hfz19_0 := blk_frozen BK211.out 0
      have hfz19_1 := blk_frozen BK211.out 1
      have hfz19_2 := blk_frozen BK211.out 2
      have hfz19_3 := blk_frozen BK211.out 3
      have hfz19_4 := blk_frozen BK211.out 4
      have hfz19_5 := blk_frozen BK211.out 5
      have hfz19_6 := blk_frozen BK211.out 6
      go_wp2_with (first | (go_at_call 24; (with_reducible refine (spec_SealHolds.calls x212000_1 x212001_1 x212002_1 x212003_1 x212004_1 x212005_1 x212006_1 t212 _ A12.out).mono ?_); rintro e w20 ⟨rfl, hb⟩; have n0_ := Aside0.mk (blk_below (g := gb199) (o := .cells #[.int .i64 0, .int .i64 0, .int .i64 0, .int .i64 0, .int .i64 0, .int .i64 0, .int .i64 0] 24 (0, 0)) (by (with_reducible repeat (first | refine blk_drewN ?_ _ | refine blk_drew ?_ | refine blk_alloc ?_ _)); exact BK199.out) hb); have n1_ := Aside0.mk (blk_below (g := gb211) (o := .cells #[.int .i64 x212000_1, .int .i64 x212001_1, .int .i64 x212002_1, .int .i64 x212003_1, .int .i64 x212004_1, .int .i64 x212005_1, .int .i64 x212006_1] 24 (0, 0)) (by (with_reducible repeat (first | refine blk_drewN ?_ _ | refine blk_drew ?_ | refine blk_alloc ?_ _)); exact BK211.out) hb); have n2_ := Aside0.mk (IsS80.below (by repeat (first | (with_reducible first | exact HI202.out | apply IsS80.alloc | apply IsS80.drewN | apply IsS80.drew | apply IsS80.set_1 | refine IsS80.far ?_ NB202_199.out _ | refine IsS80.far ?_ NB202_211.out _) | exact HI202.out)) hb); have n3_ := Aside0.mk (below_step (by repeat (first | (with_reducible first | exact HB.out | apply below_alloc | apply pw_below_drewN | apply below_drew1 | refine below_set ?_ (IsS80.ge HI202.out) | refine below_set ?_ GE199.out | refine below_set ?_ GE211.out) | exact HB.out)) hb); clear BK199; clear BK211; clear HI202; clear HB; have BK199 := n0_; have BK211 := n1_; have HI202 := n2_; have HB := n3_; clear n0_ n1_ n2_ n3_; (try clear hb); (try clear hb2); (try clear hk); (try clear hi)) | (go_at_call 57; (with_reducible refine (spec_l6Rd_pick.calls k1 g202 t200 x203001_1 3 t213 t214 w _ ?side1 ?side2 A14.out).mono ?_); (case side1 => repeat (first | (with_reducible first | exact HI202.out | apply IsS80.alloc | apply IsS80.drewN | apply IsS80.drew | apply IsS80.set_1 | refine IsS80.far ?_ NB202_199.out _ | refine IsS80.far ?_ NB202_211.out _) | exact HI202.out)); (case side2 => repeat (first | (with_reducible first | exact HB.out | apply below_alloc | apply pw_below_drewN | apply below_drew1 | refine below_set ?_ (IsS80.ge HI202.out) | refine below_set ?_ GE199.out | refine below_set ?_ GE211.out) | exact HB.out)); rintro e w21 ⟨rfl, hi, hb, hk⟩; have n0_ := Aside0.mk (KeepBut.blk hk (g' := gb199) (o := .cells #[.int .i64 0, .int .i64 0, .int .i64 0, .int .i64 0, .int .i64 0, .int .i64 0, .int .i64 0] 24 (0, 0)) (by (with_reducible repeat (first | refine blk_drewN ?_ _ | refine blk_drew ?_ | refine blk_alloc ?_ _)); exact BK199.out) NB199_202.out (by simp)); have n1_ := Aside0.mk (KeepBut.blk hk (g' := gb211) (o := .cells #[.int .i64 x212000_1, .int .i64 x212001_1, .int .i64 x212002_1, .int .i64 x212003_1, .int .i64 x212004_1, .int .i64 x212005_1, .int .i64 x212006_1] 24 (0, 0)) (by (with_reducible repeat (first | refine blk_drewN ?_ _ | refine blk_drew ?_ | refine blk_alloc ?_ _)); exact BK211.out) NB211_202.out (by simp)); have n2_ := Aside0.mk (hb); have n3_ := Aside0.mk (hi); clear BK199; clear BK211; clear HB; clear HI202; have BK199 := n0_; have BK211 := n1_; have HB := n2_; have HI202 := n3_; clear n0_ n1_ n2_ n3_; (try clear hb); (try clear hb2); (try clear hk); (try clear hi)) | ((with_reducible refine gate_callee (f := 56) rfl ?_); refine goesL_ (some 25) rfl rfl Try.func56 (by kernel_rfl) rfl #[.pointer (some ⟨g202, 0, none⟩)] rfl (by (try simp only [List.map_toArray, List.map_cons, List.map_nil]); first | done | rfl | (simp only [List.length_drop, List.length_take]; rfl)) ?_; (with_reducible refine (spec_l71Seal.calls k1 g202 t200 t214 t215 t216 t217 t218 t219 t220 t221 t222 w _ ?side1 ?side2 A16.out).mono ?_); (case side1 => repeat (first | (with_reducible first | exact HI202.out | apply IsS80.alloc | apply IsS80.drewN | apply IsS80.drew | apply IsS80.set_1 | refine IsS80.far ?_ NB202_199.out _ | refine IsS80.far ?_ NB202_211.out _) | exact HI202.out)); (case side2 => repeat (first | (with_reducible first | exact HB.out | apply below_alloc | apply pw_below_drewN | apply below_drew1 | refine below_set ?_ (IsS80.ge HI202.out) | refine below_set ?_ GE199.out | refine below_set ?_ GE211.out) | exact HB.out)); rintro e w22 ⟨rfl, hi, hb, hk⟩; refine ⟨_, rfl, ?_⟩; have n0_ := Aside0.mk (KeepBut.blk hk (g' := gb199) (o := .cells #[.int .i64 0, .int .i64 0, .int .i64 0, .int .i64 0, .int .i64 0, .int .i64 0, .int .i64 0] 24 (0, 0)) (by (with_reducible repeat (first | refine blk_drewN ?_ _ | refine blk_drew ?_ | refine blk_alloc ?_ _)); exact BK199.out) NB199_202.out (by simp)); have n1_ := Aside0.mk (KeepBut.blk hk (g' := gb211) (o := .cells #[.int .i64 x212000_1, .int .i64 x212001_1, .int .i64 x212002_1, .int .i64 x212003_1, .int .i64 x212004_1, .int .i64 x212005_1, .int .i64 x212006_1] 24 (0, 0)) (by (with_reducible repeat (first | refine blk_drewN ?_ _ | refine blk_drew ?_ | refine blk_alloc ?_ _)); exact BK211.out) NB211_202.out (by simp)); have n2_ := Aside0.mk (hb); have n3_ := Aside0.mk (hi); clear BK199; clear BK211; clear HB; clear HI202; have BK199 := n0_; have BK211 := n1_; have HB := n2_; have HI202 := n3_; clear n0_ n1_ n2_ n3_; (try clear hb); (try clear hb2); (try clear hk); (try clear hi); have hcz23_0 : w22.cell? ⟨gb211, 0, none⟩ = some (.int .i64 x212000_1) := (blk_cell BK211.out 0).trans rfl; have hcz23_1 : w22.cell? ⟨gb211, 1, none⟩ = some (.int .i64 x212001_1) := (blk_cell BK211.out 1).trans rfl; have hcz23_2 : w22.cell? ⟨gb211, 2, none⟩ = some (.int .i64 x212002_1) := (blk_cell BK211.out 2).trans rfl; have hcz23_3 : w22.cell? ⟨gb211, 3, none⟩ = some (.int .i64 x212003_1) := (blk_cell BK211.out 3).trans rfl; have hcz23_4 : w22.cell? ⟨gb211, 4, none⟩ = some (.int .i64 x212004_1) := (blk_cell BK211.out 4).trans rfl; have hcz23_5 : w22.cell? ⟨gb211, 5, none⟩ = some (.int .i64 x212005_1) := (blk_cell BK211.out 5).trans rfl; have hcz23_6 : w22.cell? ⟨gb211, 6, none⟩ = some (.int .i64 x212006_1) := (blk_cell BK211.out 6).trans rfl; have hfz23_0 := blk_frozen BK211.out 0; have hfz23_1 := blk_frozen BK211.out 1; have hfz23_2 := blk_frozen BK211.out 2; have hfz23_3 := blk_frozen BK211.out 3; have hfz23_4 := blk_frozen BK211.out 4; have hfz23_5 := blk_frozen BK211.out 5; have hfz23_6 := blk_frozen BK211.out 6))
      go_roundg k1
      case measure => have := HK1.out; omega
      case rel => exact ⟨(wrap64 (x5_1 + 1)), (t222), (t215), (t216), (t217), (t218), (t219), (t220), (t221), (by first | rfl | (simp; done) | (simp [*]; done)), H', ⟨by have := HK1.out; omega⟩, ⟨by (with_reducible repeat (first | refine blk_drewN ?_ _ | refine blk_drew ?_ | refine blk_alloc ?_ _)); refine blk_far ?_ NB199_211.out _; (with_reducible repeat (first | refine blk_drewN ?_ _ | refine blk_drew ?_ | refine blk_alloc ?_ _)); refine blk_far ?_ NB199_211.out _; (with_reducible repeat (first | refine blk_drewN ?_ _ | refine blk_drew ?_ | refine blk_alloc ?_ _)); refine blk_far ?_ NB199_211.out _; (with_reducible repeat (first | refine blk_drewN ?_ _ | refine blk_drew ?_ | refine blk_alloc ?_ _)); refine blk_far ?_ NB199_211.out _; (with_reducible repeat (first | refine blk_drewN ?_ _ | refine blk_drew ?_ | refine blk_alloc ?_ _)); refine blk_far ?_ NB199_211.out _; (with_reducible repeat (first | refine blk_drewN ?_ _ | refine blk_drew ?_ | refine blk_alloc ?_ _)); refine blk_far ?_ NB199_211.out _; (with_reducible repeat (first | refine blk_drewN ?_ _ | refine blk_drew ?_ | refine blk_alloc ?_ _)); refine blk_far ?_ NB199_211.out _; (with_reducible repeat (first | refine blk_drewN ?_ _ | refine blk_drew ?_ | refine blk_alloc ?_ _)); exact BK199.out⟩, ⟨by (with_reducible repeat (first | refine blk_drewN ?_ _ | refine blk_drew ?_ | refine blk_alloc ?_ _)); refine blk_put (cs := #[.int .i64 t215, .int .i64 t216, .int .i64 t217, .int .i64 t218, .int .i64 t219, .int .i64 t220, .int .i64 x212006_1]) ?_ 6 _ rfl; (with_reducible repeat (first | refine blk_drewN ?_ _ | refine blk_drew ?_ | refine blk_alloc ?_ _)); refine blk_put (cs := #[.int .i64 t215, .int .i64 t216, .int .i64 t217, .int .i64 t218, .int .i64 t219, .int .i64 x212005_1, .int .i64 x212006_1]) ?_ 5 _ rfl; (with_reducible repeat (first | refine blk_drewN ?_ _ | refine blk_drew ?_ | refine blk_alloc ?_ _)); refine blk_put (cs := #[.int .i64 t215, .int .i64 t216, .int .i64 t217, .int .i64 t218, .int .i64 x212004_1, .int .i64 x212005_1, .int .i64 x212006_1]) ?_ 4 _ rfl; (with_reducible repeat (first | refine blk_drewN ?_ _ | refine blk_drew ?_ | refine blk_alloc ?_ _)); refine blk_put (cs := #[.int .i64 t215, .int .i64 t216, .int .i64 t217, .int .i64 x212003_1, .int .i64 x212004_1, .int .i64 x212005_1, .int .i64 x212006_1]) ?_ 3 _ rfl; (with_reducible repeat (first | refine blk_drewN ?_ _ | refine blk_drew ?_ | refine blk_alloc ?_ _)); refine blk_put (cs := #[.int .i64 t215, .int .i64 t216, .int .i64 x212002_1, .int .i64 x212003_1, .int .i64 x212004_1, .int .i64 x212005_1, .int .i64 x212006_1]) ?_ 2 _ rfl; (with_reducible repeat (first | refine blk_drewN ?_ _ | refine blk_drew ?_ | refine blk_alloc ?_ _)); refine blk_put (cs := #[.int .i64 t215, .int .i64 x212001_1, .int .i64 x212002_1, .int .i64 x212003_1, .int .i64 x212004_1, .int .i64 x212005_1, .int .i64 x212006_1]) ?_ 1 _ rfl; (with_reducible repeat (first | refine blk_drewN ?_ _ | refine blk_drew ?_ | refine blk_alloc ?_ _)); refine blk_put (cs := #[.int .i64 x212000_1, .int .i64 x212001_1, .int .i64 x212002_1, .int .i64 x212003_1, .int .i64 x212004_1, .int .i64 x212005_1, .int .i64 x212006_1]) ?_ 0 _ rfl; (with_reducible repeat (first | refine blk_drewN ?_ _ | refine blk_drew ?_ | refine blk_alloc ?_ _)); exact BK211.out⟩, ⟨by repeat (first | (with_reducible first | exact HI202.out | apply IsS80.alloc | apply IsS80.drewN | apply IsS80.drew | apply IsS80.set_1 | refine IsS80.far ?_ NB202_199.out _ | refine IsS80.far ?_ NB202_211.out _) | exact HI202.out)⟩, ⟨by repeat (first | (with_reducible first | exact HB.out | apply below_alloc | apply pw_below_drewN | apply below_drew1 | refine below_set ?_ (IsS80.ge HI202.out) | refine below_set ?_ GE199.out | refine below_set ?_ GE211.out) | exact HB.out)⟩⟩
     ·rw [if_neg c15] at H
      have c15b0 : decide (0 < t213) = false := decide_eq_false c15
      clear c15
      simp only [Option.some.injEq, Prod.mk.injEq] at H
      obtain ⟨rfl, rfl, rfl, rfl, rfl, rfl, rfl⟩ := H
      have hnb24 := NB211_199.out
      have hnc24 := NB199_211.out
      have hnb25 := NB211_202.out
      have hnc25 := NB202_211.out
      have hcz26_0 : wr.cell? ⟨gb211, 0, none⟩ = some (.int .i64 x212000_1) := (blk_cell BK211.out 0).trans rfl
      have hcz26_1 : wr.cell? ⟨gb211, 1, none⟩ = some (.int .i64 x212001_1) := (blk_cell BK211.out 1).trans rfl
      have hcz26_2 : wr.cell? ⟨gb211, 2, none⟩ = some (.int .i64 x212002_1) := (blk_cell BK211.out 2).trans rfl
      have hcz26_3 : wr.cell? ⟨gb211, 3, none⟩ = some (.int .i64 x212003_1) := (blk_cell BK211.out 3).trans rfl
      have hcz26_4 : wr.cell? ⟨gb211, 4, none⟩ = some (.int .i64 x212004_1) := (blk_cell BK211.out 4).trans rfl
      have hcz26_5 : wr.cell? ⟨gb211, 5, none⟩ = some (.int .i64 x212005_1) := (blk_cell BK211.out 5).trans rfl
      have hcz26_6 : wr.cell? ⟨gb211, 6, none⟩ = some (.int .i64 x212006_1) := (blk_cell BK211.out 6).trans rfl
      have hfz26_0 := blk_frozen BK211.out 0
      have hfz26_1 := blk_frozen BK211.out 1
      have hfz26_2 := blk_frozen BK211.out 2
      have hfz26_3 := blk_frozen BK211.out 3
      have hfz26_4 := blk_frozen BK211.out 4
      have hfz26_5 := blk_frozen BK211.out 5
      have hfz26_6 := blk_frozen BK211.out 6
      go_wp2_with (first | (go_at_call 24; (with_reducible refine (spec_SealHolds.calls x212000_1 x212001_1 x212002_1 x212003_1 x212004_1 x212005_1 x212006_1 t212 _ A12.out).mono ?_); rintro e w27 ⟨rfl, hb⟩; have n0_ := Aside0.mk (blk_below (g := gb199) (o := .cells #[.int .i64 0, .int .i64 0, .int .i64 0, .int .i64 0, .int .i64 0, .int .i64 0, .int .i64 0] 24 (0, 0)) (by (with_reducible repeat (first | refine blk_drewN ?_ _ | refine blk_drew ?_ | refine blk_alloc ?_ _)); exact BK199.out) hb); have n1_ := Aside0.mk (blk_below (g := gb211) (o := .cells #[.int .i64 x212000_1, .int .i64 x212001_1, .int .i64 x212002_1, .int .i64 x212003_1, .int .i64 x212004_1, .int .i64 x212005_1, .int .i64 x212006_1] 24 (0, 0)) (by (with_reducible repeat (first | refine blk_drewN ?_ _ | refine blk_drew ?_ | refine blk_alloc ?_ _)); exact BK211.out) hb); have n2_ := Aside0.mk (IsS80.below (by repeat (first | (with_reducible first | exact HI202.out | apply IsS80.alloc | apply IsS80.drewN | apply IsS80.drew | apply IsS80.set_1 | refine IsS80.far ?_ NB202_199.out _ | refine IsS80.far ?_ NB202_211.out _) | exact HI202.out)) hb); have n3_ := Aside0.mk (below_step (by repeat (first | (with_reducible first | exact HB.out | apply below_alloc | apply pw_below_drewN | apply below_drew1 | refine below_set ?_ (IsS80.ge HI202.out) | refine below_set ?_ GE199.out | refine below_set ?_ GE211.out) | exact HB.out)) hb); clear BK199; clear BK211; clear HI202; clear HB; have BK199 := n0_; have BK211 := n1_; have HI202 := n2_; have HB := n3_; clear n0_ n1_ n2_ n3_; (try clear hb); (try clear hb2); (try clear hk); (try clear hi)) | (go_at_call 57; (with_reducible refine (spec_l6Rd_pick.calls k1 g202 t200 x203001_1 3 t213 t214 w _ ?side1 ?side2 A14.out).mono ?_); (case side1 => repeat (first | (with_reducible first | exact HI202.out | apply IsS80.alloc | apply IsS80.drewN | apply IsS80.drew | apply IsS80.set_1 | refine IsS80.far ?_ NB202_199.out _ | refine IsS80.far ?_ NB202_211.out _) | exact HI202.out)); (case side2 => repeat (first | (with_reducible first | exact HB.out | apply below_alloc | apply pw_below_drewN | apply below_drew1 | refine below_set ?_ (IsS80.ge HI202.out) | refine below_set ?_ GE199.out | refine below_set ?_ GE211.out) | exact HB.out)); rintro e w28 ⟨rfl, hi, hb, hk⟩; have n0_ := Aside0.mk (KeepBut.blk hk (g' := gb199) (o := .cells #[.int .i64 0, .int .i64 0, .int .i64 0, .int .i64 0, .int .i64 0, .int .i64 0, .int .i64 0] 24 (0, 0)) (by (with_reducible repeat (first | refine blk_drewN ?_ _ | refine blk_drew ?_ | refine blk_alloc ?_ _)); exact BK199.out) NB199_202.out (by simp)); have n1_ := Aside0.mk (KeepBut.blk hk (g' := gb211) (o := .cells #[.int .i64 x212000_1, .int .i64 x212001_1, .int .i64 x212002_1, .int .i64 x212003_1, .int .i64 x212004_1, .int .i64 x212005_1, .int .i64 x212006_1] 24 (0, 0)) (by (with_reducible repeat (first | refine blk_drewN ?_ _ | refine blk_drew ?_ | refine blk_alloc ?_ _)); exact BK211.out) NB211_202.out (by simp)); have n2_ := Aside0.mk (hb); have n3_ := Aside0.mk (hi); clear BK199; clear BK211; clear HB; clear HI202; have BK199 := n0_; have BK211 := n1_; have HB := n2_; have HI202 := n3_; clear n0_ n1_ n2_ n3_; (try clear hb); (try clear hb2); (try clear hk); (try clear hi); have hcz29_0 : w28.cell? ⟨gb211, 0, none⟩ = some (.int .i64 x212000_1) := (blk_cell BK211.out 0).trans rfl; have hcz29_1 : w28.cell? ⟨gb211, 1, none⟩ = some (.int .i64 x212001_1) := (blk_cell BK211.out 1).trans rfl; have hcz29_2 : w28.cell? ⟨gb211, 2, none⟩ = some (.int .i64 x212002_1) := (blk_cell BK211.out 2).trans rfl; have hcz29_3 : w28.cell? ⟨gb211, 3, none⟩ = some (.int .i64 x212003_1) := (blk_cell BK211.out 3).trans rfl; have hcz29_4 : w28.cell? ⟨gb211, 4, none⟩ = some (.int .i64 x212004_1) := (blk_cell BK211.out 4).trans rfl; have hcz29_5 : w28.cell? ⟨gb211, 5, none⟩ = some (.int .i64 x212005_1) := (blk_cell BK211.out 5).trans rfl; have hcz29_6 : w28.cell? ⟨gb211, 6, none⟩ = some (.int .i64 x212006_1) := (blk_cell BK211.out 6).trans rfl; have hfz29_0 := blk_frozen BK211.out 0; have hfz29_1 := blk_frozen BK211.out 1; have hfz29_2 := blk_frozen BK211.out 2; have hfz29_3 := blk_frozen BK211.out 3; have hfz29_4 := blk_frozen BK211.out 4; have hfz29_5 := blk_frozen BK211.out 5; have hfz29_6 := blk_frozen BK211.out 6; have hnb30 := NB199_202.out; have hnc30 := NB202_199.out; have hcz31_0 : w28.cell? ⟨gb199, 0, none⟩ = some (.int .i64 0) := (blk_cell BK199.out 0).trans rfl; have hcz31_1 : w28.cell? ⟨gb199, 1, none⟩ = some (.int .i64 0) := (blk_cell BK199.out 1).trans rfl; have hcz31_2 : w28.cell? ⟨gb199, 2, none⟩ = some (.int .i64 0) := (blk_cell BK199.out 2).trans rfl; have hcz31_3 : w28.cell? ⟨gb199, 3, none⟩ = some (.int .i64 0) := (blk_cell BK199.out 3).trans rfl; have hcz31_4 : w28.cell? ⟨gb199, 4, none⟩ = some (.int .i64 0) := (blk_cell BK199.out 4).trans rfl; have hcz31_5 : w28.cell? ⟨gb199, 5, none⟩ = some (.int .i64 0) := (blk_cell BK199.out 5).trans rfl; have hcz31_6 : w28.cell? ⟨gb199, 6, none⟩ = some (.int .i64 0) := (blk_cell BK199.out 6).trans rfl; have hfz31_0 := blk_frozen BK199.out 0; have hfz31_1 := blk_frozen BK199.out 1; have hfz31_2 := blk_frozen BK199.out 2; have hfz31_3 := blk_frozen BK199.out 3; have hfz31_4 := blk_frozen BK199.out 4; have hfz31_5 := blk_frozen BK199.out 5; have hfz31_6 := blk_frozen BK199.out 6))
      refine bodyPost_ret (results_cell_row rfl _ _ gb199 24 #[.int .i64 x212000_1, .int .i64 x212001_1, .int .i64 x212002_1, .int .i64 x212003_1, .int .i64 x212004_1, .int .i64 x212005_1, .int .i64 x212006_1] (0, 0) _ rfl (by (with_reducible repeat (first | refine blk_drewN ?_ _ | refine blk_drew ?_ | refine blk_alloc ?_ _)); refine blk_put (cs := #[.int .i64 x212000_1, .int .i64 x212001_1, .int .i64 x212002_1, .int .i64 x212003_1, .int .i64 x212004_1, .int .i64 x212005_1, .int .i64 0]) ?_ 6 _ rfl; (with_reducible repeat (first | refine blk_drewN ?_ _ | refine blk_drew ?_ | refine blk_alloc ?_ _)); refine blk_put (cs := #[.int .i64 x212000_1, .int .i64 x212001_1, .int .i64 x212002_1, .int .i64 x212003_1, .int .i64 x212004_1, .int .i64 0, .int .i64 0]) ?_ 5 _ rfl; (with_reducible repeat (first | refine blk_drewN ?_ _ | refine blk_drew ?_ | refine blk_alloc ?_ _)); refine blk_put (cs := #[.int .i64 x212000_1, .int .i64 x212001_1, .int .i64 x212002_1, .int .i64 x212003_1, .int .i64 0, .int .i64 0, .int .i64 0]) ?_ 4 _ rfl; (with_reducible repeat (first | refine blk_drewN ?_ _ | refine blk_drew ?_ | refine blk_alloc ?_ _)); refine blk_put (cs := #[.int .i64 x212000_1, .int .i64 x212001_1, .int .i64 x212002_1, .int .i64 0, .int .i64 0, .int .i64 0, .int .i64 0]) ?_ 3 _ rfl; (with_reducible repeat (first | refine blk_drewN ?_ _ | refine blk_drew ?_ | refine blk_alloc ?_ _)); refine blk_put (cs := #[.int .i64 x212000_1, .int .i64 x212001_1, .int .i64 0, .int .i64 0, .int .i64 0, .int .i64 0, .int .i64 0]) ?_ 2 _ rfl; (with_reducible repeat (first | refine blk_drewN ?_ _ | refine blk_drew ?_ | refine blk_alloc ?_ _)); refine blk_put (cs := #[.int .i64 x212000_1, .int .i64 0, .int .i64 0, .int .i64 0, .int .i64 0, .int .i64 0, .int .i64 0]) ?_ 1 _ rfl; (with_reducible repeat (first | refine blk_drewN ?_ _ | refine blk_drew ?_ | refine blk_alloc ?_ _)); refine blk_put (cs := #[.int .i64 0, .int .i64 0, .int .i64 0, .int .i64 0, .int .i64 0, .int .i64 0, .int .i64 0]) ?_ 0 _ rfl; (with_reducible repeat (first | refine blk_drewN ?_ _ | refine blk_drew ?_ | refine blk_alloc ?_ _)); exact BK199.out) Try.underlying24 rfl (by kernel_rfl)) rfl ?_
      exact ⟨by first | rfl | (simp [errW_none, errW_some] <;> rfl) | (simp [*, errW_none, errW_some] <;> rfl), by repeat (first | (with_reducible first | exact HB.out | apply below_alloc | apply pw_below_drewN | apply below_drew1 | refine below_set ?_ (IsS80.ge HI202.out) | refine below_set ?_ GE199.out | refine below_set ?_ GE211.out) | exact HB.out)⟩
    ·rw [if_neg c13] at H
     have c13b0 : (t212 == 0) = false := beq_eq_false_iff_ne.mpr c13
     have c13b1 : (t212 != 0) = true := bne_iff_ne.mpr c13
     simp only [Option.some.injEq, Prod.mk.injEq] at H
     obtain ⟨rfl, rfl, rfl, rfl, rfl, rfl, rfl⟩ := H
     have hnb32 := NB211_199.out
     have hnc32 := NB199_211.out
     have hnb33 := NB211_202.out
     have hnc33 := NB202_211.out
     have hcz34_0 : wr.cell? ⟨gb211, 0, none⟩ = some (.int .i64 x212000_1) := (blk_cell BK211.out 0).trans rfl
     have hcz34_1 : wr.cell? ⟨gb211, 1, none⟩ = some (.int .i64 x212001_1) := (blk_cell BK211.out 1).trans rfl
     have hcz34_2 : wr.cell? ⟨gb211, 2, none⟩ = some (.int .i64 x212002_1) := (blk_cell BK211.out 2).trans rfl
     have hcz34_3 : wr.cell? ⟨gb211, 3, none⟩ = some (.int .i64 x212003_1) := (blk_cell BK211.out 3).trans rfl
     have hcz34_4 : wr.cell? ⟨gb211, 4, none⟩ = some (.int .i64 x212004_1) := (blk_cell BK211.out 4).trans rfl
     have hcz34_5 : wr.cell? ⟨gb211, 5, none⟩ = some (.int .i64 x212005_1) := (blk_cell BK211.out 5).trans rfl
     have hcz34_6 : wr.cell? ⟨gb211, 6, none⟩ = some (.int .i64 x212006_1) := (blk_cell BK211.out 6).trans rfl
     have hfz34_0 := blk_frozen BK211.out 0
     have hfz34_1 := blk_frozen BK211.out 1
     have hfz34_2 := blk_frozen BK211.out 2
     have hfz34_3 := blk_frozen BK211.out 3
     have hfz34_4 := blk_frozen BK211.out 4
     have hfz34_5 := blk_frozen BK211.out 5
     have hfz34_6 := blk_frozen BK211.out 6
     go_wp2_with (first | (go_at_call 24; (with_reducible refine (spec_SealHolds.calls x212000_1 x212001_1 x212002_1 x212003_1 x212004_1 x212005_1 x212006_1 t212 _ A12.out).mono ?_); rintro e w35 ⟨rfl, hb⟩; have n0_ := Aside0.mk (blk_below (g := gb199) (o := .cells #[.int .i64 0, .int .i64 0, .int .i64 0, .int .i64 0, .int .i64 0, .int .i64 0, .int .i64 0] 24 (0, 0)) (by (with_reducible repeat (first | refine blk_drewN ?_ _ | refine blk_drew ?_ | refine blk_alloc ?_ _)); exact BK199.out) hb); have n1_ := Aside0.mk (blk_below (g := gb211) (o := .cells #[.int .i64 x212000_1, .int .i64 x212001_1, .int .i64 x212002_1, .int .i64 x212003_1, .int .i64 x212004_1, .int .i64 x212005_1, .int .i64 x212006_1] 24 (0, 0)) (by (with_reducible repeat (first | refine blk_drewN ?_ _ | refine blk_drew ?_ | refine blk_alloc ?_ _)); exact BK211.out) hb); have n2_ := Aside0.mk (IsS80.below (by repeat (first | (with_reducible first | exact HI202.out | apply IsS80.alloc | apply IsS80.drewN | apply IsS80.drew | apply IsS80.set_1 | refine IsS80.far ?_ NB202_199.out _ | refine IsS80.far ?_ NB202_211.out _) | exact HI202.out)) hb); have n3_ := Aside0.mk (below_step (by repeat (first | (with_reducible first | exact HB.out | apply below_alloc | apply pw_below_drewN | apply below_drew1 | refine below_set ?_ (IsS80.ge HI202.out) | refine below_set ?_ GE199.out | refine below_set ?_ GE211.out) | exact HB.out)) hb); clear BK199; clear BK211; clear HI202; clear HB; have BK199 := n0_; have BK211 := n1_; have HI202 := n2_; have HB := n3_; clear n0_ n1_ n2_ n3_; (try clear hb); (try clear hb2); (try clear hk); (try clear hi); have hcz36_0 : w35.cell? ⟨gb211, 0, none⟩ = some (.int .i64 x212000_1) := (blk_cell BK211.out 0).trans rfl; have hcz36_1 : w35.cell? ⟨gb211, 1, none⟩ = some (.int .i64 x212001_1) := (blk_cell BK211.out 1).trans rfl; have hcz36_2 : w35.cell? ⟨gb211, 2, none⟩ = some (.int .i64 x212002_1) := (blk_cell BK211.out 2).trans rfl; have hcz36_3 : w35.cell? ⟨gb211, 3, none⟩ = some (.int .i64 x212003_1) := (blk_cell BK211.out 3).trans rfl; have hcz36_4 : w35.cell? ⟨gb211, 4, none⟩ = some (.int .i64 x212004_1) := (blk_cell BK211.out 4).trans rfl; have hcz36_5 : w35.cell? ⟨gb211, 5, none⟩ = some (.int .i64 x212005_1) := (blk_cell BK211.out 5).trans rfl; have hcz36_6 : w35.cell? ⟨gb211, 6, none⟩ = some (.int .i64 x212006_1) := (blk_cell BK211.out 6).trans rfl; have hfz36_0 := blk_frozen BK211.out 0; have hfz36_1 := blk_frozen BK211.out 1; have hfz36_2 := blk_frozen BK211.out 2; have hfz36_3 := blk_frozen BK211.out 3; have hfz36_4 := blk_frozen BK211.out 4; have hfz36_5 := blk_frozen BK211.out 5; have hfz36_6 := blk_frozen BK211.out 6; have hnb37 := NB199_202.out; have hnc37 := NB202_199.out; have hcz38_0 : w35.cell? ⟨gb199, 0, none⟩ = some (.int .i64 0) := (blk_cell BK199.out 0).trans rfl; have hcz38_1 : w35.cell? ⟨gb199, 1, none⟩ = some (.int .i64 0) := (blk_cell BK199.out 1).trans rfl; have hcz38_2 : w35.cell? ⟨gb199, 2, none⟩ = some (.int .i64 0) := (blk_cell BK199.out 2).trans rfl; have hcz38_3 : w35.cell? ⟨gb199, 3, none⟩ = some (.int .i64 0) := (blk_cell BK199.out 3).trans rfl; have hcz38_4 : w35.cell? ⟨gb199, 4, none⟩ = some (.int .i64 0) := (blk_cell BK199.out 4).trans rfl; have hcz38_5 : w35.cell? ⟨gb199, 5, none⟩ = some (.int .i64 0) := (blk_cell BK199.out 5).trans rfl; have hcz38_6 : w35.cell? ⟨gb199, 6, none⟩ = some (.int .i64 0) := (blk_cell BK199.out 6).trans rfl; have hfz38_0 := blk_frozen BK199.out 0; have hfz38_1 := blk_frozen BK199.out 1; have hfz38_2 := blk_frozen BK199.out 2; have hfz38_3 := blk_frozen BK199.out 3; have hfz38_4 := blk_frozen BK199.out 4; have hfz38_5 := blk_frozen BK199.out 5; have hfz38_6 := blk_frozen BK199.out 6))
     refine bodyPost_ret (results_cell_row rfl _ _ gb199 24 #[.int .i64 x212000_1, .int .i64 x212001_1, .int .i64 x212002_1, .int .i64 x212003_1, .int .i64 x212004_1, .int .i64 x212005_1, .int .i64 x212006_1] (0, 0) _ rfl (by (with_reducible repeat (first | refine blk_drewN ?_ _ | refine blk_drew ?_ | refine blk_alloc ?_ _)); refine blk_put (cs := #[.int .i64 x212000_1, .int .i64 x212001_1, .int .i64 x212002_1, .int .i64 x212003_1, .int .i64 x212004_1, .int .i64 x212005_1, .int .i64 0]) ?_ 6 _ rfl; (with_reducible repeat (first | refine blk_drewN ?_ _ | refine blk_drew ?_ | refine blk_alloc ?_ _)); refine blk_put (cs := #[.int .i64 x212000_1, .int .i64 x212001_1, .int .i64 x212002_1, .int .i64 x212003_1, .int .i64 x212004_1, .int .i64 0, .int .i64 0]) ?_ 5 _ rfl; (with_reducible repeat (first | refine blk_drewN ?_ _ | refine blk_drew ?_ | refine blk_alloc ?_ _)); refine blk_put (cs := #[.int .i64 x212000_1, .int .i64 x212001_1, .int .i64 x212002_1, .int .i64 x212003_1, .int .i64 0, .int .i64 0, .int .i64 0]) ?_ 4 _ rfl; (with_reducible repeat (first | refine blk_drewN ?_ _ | refine blk_drew ?_ | refine blk_alloc ?_ _)); refine blk_put (cs := #[.int .i64 x212000_1, .int .i64 x212001_1, .int .i64 x212002_1, .int .i64 0, .int .i64 0, .int .i64 0, .int .i64 0]) ?_ 3 _ rfl; (with_reducible repeat (first | refine blk_drewN ?_ _ | refine blk_drew ?_ | refine blk_alloc ?_ _)); refine blk_put (cs := #[.int .i64 x212000_1, .int .i64 x212001_1, .int .i64 0, .int .i64 0, .int .i64 0, .int .i64 0, .int .i64 0]) ?_ 2 _ rfl; (with_reducible repeat (first | refine blk_drewN ?_ _ | refine blk_drew ?_ | refine blk_alloc ?_ _)); refine blk_put (cs := #[.int .i64 x212000_1, .int .i64 0, .int .i64 0, .int .i64 0, .int .i64 0, .int .i64 0, .int .i64 0]) ?_ 1 _ rfl; (with_reducible repeat (first | refine blk_drewN ?_ _ | refine blk_drew ?_ | refine blk_alloc ?_ _)); refine blk_put (cs := #[.int .i64 0, .int .i64 0, .int .i64 0, .int .i64 0, .int .i64 0, .int .i64 0, .int .i64 0]) ?_ 0 _ rfl; (with_reducible repeat (first | refine blk_drewN ?_ _ | refine blk_drew ?_ | refine blk_alloc ?_ _)); exact BK199.out) Try.underlying24 rfl (by kernel_rfl)) rfl ?_
     exact ⟨by first | rfl | (simp [errW_none, errW_some] <;> rfl) | (simp [*, errW_none, errW_some] <;> rfl), by repeat (first | (with_reducible first | exact HB.out | apply below_alloc | apply pw_below_drewN | apply below_drew1 | refine below_set ?_ (IsS80.ge HI202.out) | refine below_set ?_ GE199.out | refine below_set ?_ GE211.out) | exact HB.out)⟩
   ·rw [if_neg c11] at H
    have c11b0 : decide (x5_1 < 3) = false := decide_eq_false c11
    clear c11
    simp only [Option.some.injEq, Prod.mk.injEq] at H
    obtain ⟨rfl, rfl, rfl, rfl, rfl, rfl, rfl⟩ := H
    have hnb39 := NB211_199.out
    have hnc39 := NB199_211.out
    have hnb40 := NB211_202.out
    have hnc40 := NB202_211.out
    have hcz41_0 : wr.cell? ⟨gb211, 0, none⟩ = some (.int .i64 x212000_1) := (blk_cell BK211.out 0).trans rfl
    have hcz41_1 : wr.cell? ⟨gb211, 1, none⟩ = some (.int .i64 x212001_1) := (blk_cell BK211.out 1).trans rfl
    have hcz41_2 : wr.cell? ⟨gb211, 2, none⟩ = some (.int .i64 x212002_1) := (blk_cell BK211.out 2).trans rfl
    have hcz41_3 : wr.cell? ⟨gb211, 3, none⟩ = some (.int .i64 x212003_1) := (blk_cell BK211.out 3).trans rfl
    have hcz41_4 : wr.cell? ⟨gb211, 4, none⟩ = some (.int .i64 x212004_1) := (blk_cell BK211.out 4).trans rfl
    have hcz41_5 : wr.cell? ⟨gb211, 5, none⟩ = some (.int .i64 x212005_1) := (blk_cell BK211.out 5).trans rfl
    have hcz41_6 : wr.cell? ⟨gb211, 6, none⟩ = some (.int .i64 x212006_1) := (blk_cell BK211.out 6).trans rfl
    have hfz41_0 := blk_frozen BK211.out 0
    have hfz41_1 := blk_frozen BK211.out 1
    have hfz41_2 := blk_frozen BK211.out 2
    have hfz41_3 := blk_frozen BK211.out 3
    have hfz41_4 := blk_frozen BK211.out 4
    have hfz41_5 := blk_frozen BK211.out 5
    have hfz41_6 := blk_frozen BK211.out 6
    have hnb42 := NB199_202.out
    have hnc42 := NB202_199.out
    have hcz43_0 : wr.cell? ⟨gb199, 0, none⟩ = some (.int .i64 0) := (blk_cell BK199.out 0).trans rfl
    have hcz43_1 : wr.cell? ⟨gb199, 1, none⟩ = some (.int .i64 0) := (blk_cell BK199.out 1).trans rfl
    have hcz43_2 : wr.cell? ⟨gb199, 2, none⟩ = some (.int .i64 0) := (blk_cell BK199.out 2).trans rfl
    have hcz43_3 : wr.cell? ⟨gb199, 3, none⟩ = some (.int .i64 0) := (blk_cell BK199.out 3).trans rfl
    have hcz43_4 : wr.cell? ⟨gb199, 4, none⟩ = some (.int .i64 0) := (blk_cell BK199.out 4).trans rfl
    have hcz43_5 : wr.cell? ⟨gb199, 5, none⟩ = some (.int .i64 0) := (blk_cell BK199.out 5).trans rfl
    have hcz43_6 : wr.cell? ⟨gb199, 6, none⟩ = some (.int .i64 0) := (blk_cell BK199.out 6).trans rfl
    have hfz43_0 := blk_frozen BK199.out 0
    have hfz43_1 := blk_frozen BK199.out 1
    have hfz43_2 := blk_frozen BK199.out 2
    have hfz43_3 := blk_frozen BK199.out 3
    have hfz43_4 := blk_frozen BK199.out 4
    have hfz43_5 := blk_frozen BK199.out 5
    have hfz43_6 := blk_frozen BK199.out 6
    go_wp2
    refine bodyPost_ret (results_cell_row rfl _ _ gb199 24 #[.int .i64 x212000_1, .int .i64 x212001_1, .int .i64 x212002_1, .int .i64 x212003_1, .int .i64 x212004_1, .int .i64 x212005_1, .int .i64 x212006_1] (0, 0) _ rfl (by (with_reducible repeat (first | refine blk_drewN ?_ _ | refine blk_drew ?_ | refine blk_alloc ?_ _)); refine blk_put (cs := #[.int .i64 x212000_1, .int .i64 x212001_1, .int .i64 x212002_1, .int .i64 x212003_1, .int .i64 x212004_1, .int .i64 x212005_1, .int .i64 0]) ?_ 6 _ rfl; (with_reducible repeat (first | refine blk_drewN ?_ _ | refine blk_drew ?_ | refine blk_alloc ?_ _)); refine blk_put (cs := #[.int .i64 x212000_1, .int .i64 x212001_1, .int .i64 x212002_1, .int .i64 x212003_1, .int .i64 x212004_1, .int .i64 0, .int .i64 0]) ?_ 5 _ rfl; (with_reducible repeat (first | refine blk_drewN ?_ _ | refine blk_drew ?_ | refine blk_alloc ?_ _)); refine blk_put (cs := #[.int .i64 x212000_1, .int .i64 x212001_1, .int .i64 x212002_1, .int .i64 x212003_1, .int .i64 0, .int .i64 0, .int .i64 0]) ?_ 4 _ rfl; (with_reducible repeat (first | refine blk_drewN ?_ _ | refine blk_drew ?_ | refine blk_alloc ?_ _)); refine blk_put (cs := #[.int .i64 x212000_1, .int .i64 x212001_1, .int .i64 x212002_1, .int .i64 0, .int .i64 0, .int .i64 0, .int .i64 0]) ?_ 3 _ rfl; (with_reducible repeat (first | refine blk_drewN ?_ _ | refine blk_drew ?_ | refine blk_alloc ?_ _)); refine blk_put (cs := #[.int .i64 x212000_1, .int .i64 x212001_1, .int .i64 0, .int .i64 0, .int .i64 0, .int .i64 0, .int .i64 0]) ?_ 2 _ rfl; (with_reducible repeat (first | refine blk_drewN ?_ _ | refine blk_drew ?_ | refine blk_alloc ?_ _)); refine blk_put (cs := #[.int .i64 x212000_1, .int .i64 0, .int .i64 0, .int .i64 0, .int .i64 0, .int .i64 0, .int .i64 0]) ?_ 1 _ rfl; (with_reducible repeat (first | refine blk_drewN ?_ _ | refine blk_drew ?_ | refine blk_alloc ?_ _)); refine blk_put (cs := #[.int .i64 0, .int .i64 0, .int .i64 0, .int .i64 0, .int .i64 0, .int .i64 0, .int .i64 0]) ?_ 0 _ rfl; (with_reducible repeat (first | refine blk_drewN ?_ _ | refine blk_drew ?_ | refine blk_alloc ?_ _)); exact BK199.out) Try.underlying24 rfl (by kernel_rfl)) rfl ?_
    exact ⟨by first | rfl | (simp [errW_none, errW_some] <;> rfl) | (simp [*, errW_none, errW_some] <;> rfl), by repeat (first | (with_reducible first | exact HB.out | apply below_alloc | apply pw_below_drewN | apply below_drew1 | refine below_set ?_ (IsS80.ge HI202.out) | refine below_set ?_ GE199.out | refine below_set ?_ GE211.out) | exact HB.out)⟩

/-! ### impl_within: function 87 -/
def impl_within.f (a0 : Int) (a1 : Int) (a2 : Int) : Option (Bool) := if a0 ≥ a1 then (some (decide (a0 ≤ a2))) else (some false)
set_option maxHeartbeats 8000000 in
set_option maxRecDepth 100000 in
theorem impl_within.calls (a0 : Int) (a1 : Int) (a2 : Int) (r : Bool) (w : World) (h : impl_within.f a0 a1 a2 = some r) :
  Calls Try.prog 87 #[.int .i64 a0, .int .i64 a1, .int .i64 a2] w fun e w' => e = .returned (.bool r) ∧ Drawn0 w w' := by
 have H : (if a0 ≥ a1 then (some (decide (a0 ≤ a2))) else (some false)) = some r := h
 clear h
 by_cases c4 : a0 ≥ a1
 ·rw [if_pos c4] at H
  have c4b0 : decide (a1 ≤ a0) = true := decide_eq_true c4
  clear c4
  obtain rfl := Option.some.inj H
  go_enter Try.func87, Try.ntmps87
  go_wp2
  go_ret
  exact ⟨by first | rfl | (simp; done) | (simp [*]; done), by repeat (first | exact Drawn0.refl _ | apply Drawn0.step)⟩
 ·rw [if_neg c4] at H
  have c4b0 : decide (a1 ≤ a0) = false := decide_eq_false c4
  clear c4
  obtain rfl := Option.some.inj H
  go_enter Try.func87, Try.ntmps87
  go_wp2
  go_ret
  exact ⟨by first | rfl | (simp; done) | (simp [*]; done), by repeat (first | exact Drawn0.refl _ | apply Drawn0.step)⟩

/-! ### impl_userOk: function 60 -/
def impl_userOk.f (a0 : Int) : Option (Bool) := (impl_within.f a0 1 3).bind fun t223 => (some t223)
set_option maxHeartbeats 8000000 in
set_option maxRecDepth 100000 in
theorem impl_userOk.calls (a0 : Int) (r : Bool) (w : World) (h : impl_userOk.f a0 = some r) :
  Calls Try.prog 60 #[.int .i64 a0] w fun e w' => e = .returned (.bool r) ∧ Drawn0 w w' := by
 have H : ((impl_within.f a0 1 3).bind fun t223 => (some t223)) = some r := h
 clear h
 replace H := Option.bind_eq_some_iff.mp H
 obtain ⟨t223, A20, H⟩ := H
 replace H : (some t223) = some r := H
 have A2 := Aside0.mk A20
 clear A20
 obtain rfl := Option.some.inj H
 go_enter Try.func60, Try.ntmps60
 go_wp2_with (first | ((with_reducible refine gate_callee (f := 87) rfl ?_); refine goesL_ (some 4) rfl rfl Try.func87 (by kernel_rfl) rfl #[.int .i64 a0, .int .i64 1, .int .i64 3] rfl (by (try simp only [List.map_toArray, List.map_cons, List.map_nil]); first | done | rfl | (simp only [List.length_drop, List.length_take]; rfl)) ?_; (with_reducible refine (impl_within.calls a0 1 3 t223 _ A2.out).mono ?_); rintro e w' ⟨rfl, ⟨nd, rfl⟩⟩; refine ⟨_, rfl, ?_⟩))
 go_ret
 exact ⟨by first | rfl | (simp; done) | (simp [*]; done), by repeat (first | exact Drawn0.refl _ | apply Drawn0.step)⟩

end Go.Proofs.Ytbiknbjcidlabaa.Hp
