-- Printed by wip/tools/hp.py of this session (the kit's print.py, with contracts typed by hand beside).
import Derived.Test.YtbiknbjcidlabaaHx0
import Derived.Test.YtbiknbjcidlabaaHx5
import Derived.Test.YtbiknbjcidlabaaHx6
import Derived.Test.YtbiknbjcidlabaaHx7
import Derived.Test.YtbiknbjcidlabaaHx10
namespace Go.Proofs.Ytbiknbjcidlabaa.Hp
open Go.RowKit Go.Proofs.YtbiknbjcidlabaaW.PrintWords Go.Proofs.YtbiknbjcidlabaaW.PrintLast Go.Proofs.YtbiknbjcidlabaaW.PrintMore
attribute [local go_sem] max2_int min2_int max_two min_two max_three min_three max_four min_four   -- for this text's walks alone
set_option linter.unusedVariables false
set_option linter.unusedSimpArgs false
-- squeezed by wip/tools/squeeze.py
theorem z11x7 {P : Prop} (h : P := by (with_reducible repeat (first | refine blk_drewN ?_ _ | refine blk_drew ?_ | refine blk_alloc ?_ _)); exact BK194.out) : P := h
theorem z11x6 {P : Prop} (h : P := by (with_reducible repeat (first | refine blk_drewN ?_ _ | refine blk_drew ?_ | refine blk_alloc ?_ _)); exact BK182.out) : P := h
theorem z11x5 {P : Prop} (h : P := by repeat (first | (with_reducible first | exact HB.out | apply below_alloc | apply pw_below_drewN | apply below_drew1) | exact HB.out)) : P := h
theorem z11x4 {P : Prop} (h : P := by (try simp only [List.map_toArray, List.map_cons, List.map_nil]); first | done | rfl | (simp only [List.length_drop, List.length_take]; rfl)) : P := h
theorem z11x3 {P : Prop} (h : P := by repeat (first | (with_reducible first | exact HI185.out | apply IsS80.alloc | apply IsS80.drewN | apply IsS80.drew | apply IsS80.set_1 | refine IsS80.far ?_ NB185_182.out _ | refine IsS80.far ?_ NB185_194.out _) | exact HI185.out)) : P := h
theorem z11x2 {P : Prop} (h : P := by rw [hg]; exact (below_size (by repeat (first | (with_reducible first | exact HB.out | apply below_alloc | apply pw_below_drewN | apply below_drew1 | refine below_set ?_ (IsS80.ge HI185.out) | refine below_set ?_ GE182.out) | exact HB.out)))) : P := h
theorem z11x1 {P : Prop} (h : P := by repeat (first | (with_reducible first | exact HB.out | apply below_alloc | apply pw_below_drewN | apply below_drew1 | refine below_set ?_ (IsS80.ge HI185.out) | refine below_set ?_ GE182.out | refine below_set ?_ GE194.out) | exact HB.out)) : P := h
theorem z11x0 {P : Prop} (h : P := by (with_reducible repeat (first | refine blk_drewN ?_ _ | refine blk_drew ?_ | refine blk_alloc ?_ _)); refine blk_put (cs := #[.int .i64 x195000_1, .int .i64 x195001_1, .int .i64 x195002_1, .int .i64 x195003_1, .int .i64 x195004_1, .int .i64 x195005_1, .int .i64 0]) ?_ 6 _ rfl; (with_reducible repeat (first | refine blk_drewN ?_ _ | refine blk_drew ?_ | refine blk_alloc ?_ _)); refine blk_put (cs := #[.int .i64 x195000_1, .int .i64 x195001_1, .int .i64 x195002_1, .int .i64 x195003_1, .int .i64 x195004_1, .int .i64 0, .int .i64 0]) ?_ 5 _ rfl; (with_reducible repeat (first | refine blk_drewN ?_ _ | refine blk_drew ?_ | refine blk_alloc ?_ _)); refine blk_put (cs := #[.int .i64 x195000_1, .int .i64 x195001_1, .int .i64 x195002_1, .int .i64 x195003_1, .int .i64 0, .int .i64 0, .int .i64 0]) ?_ 4 _ rfl; (with_reducible repeat (first | refine blk_drewN ?_ _ | refine blk_drew ?_ | refine blk_alloc ?_ _)); refine blk_put (cs := #[.int .i64 x195000_1, .int .i64 x195001_1, .int .i64 x195002_1, .int .i64 0, .int .i64 0, .int .i64 0, .int .i64 0]) ?_ 3 _ rfl; (with_reducible repeat (first | refine blk_drewN ?_ _ | refine blk_drew ?_ | refine blk_alloc ?_ _)); refine blk_put (cs := #[.int .i64 x195000_1, .int .i64 x195001_1, .int .i64 0, .int .i64 0, .int .i64 0, .int .i64 0, .int .i64 0]) ?_ 2 _ rfl; (with_reducible repeat (first | refine blk_drewN ?_ _ | refine blk_drew ?_ | refine blk_alloc ?_ _)); refine blk_put (cs := #[.int .i64 x195000_1, .int .i64 0, .int .i64 0, .int .i64 0, .int .i64 0, .int .i64 0, .int .i64 0]) ?_ 1 _ rfl; (with_reducible repeat (first | refine blk_drewN ?_ _ | refine blk_drew ?_ | refine blk_alloc ?_ _)); refine blk_put (cs := #[.int .i64 0, .int .i64 0, .int .i64 0, .int .i64 0, .int .i64 0, .int .i64 0, .int .i64 0]) ?_ 0 _ rfl; (with_reducible repeat (first | refine blk_drewN ?_ _ | refine blk_drew ?_ | refine blk_alloc ?_ _)); exact BK182.out) : P := h

/-! ### spec_DrawSealHolds: function 22 -/
def spec_DrawSealHolds.l0 : Nat → Int → List Int → Int → Int → Int → Int → Int → Int → Int → Int → Option (Int × Int × Int × Int × Int × Int × Int)
 | 0, _, _, _, _, _, _, _, _, _, _ => none
 | k + 1, x5, x186000, x186001, x195000, x195001, x195002, x195003, x195004, x195005, x195006 => if x5 < 3 then ((spec_SealHolds.f x195000 x195001 x195002 x195003 x195004 x195005 x195006).bind fun t195 => (if t195 = 0 then ((spec_l6Rd_pick.f k x186000 x186001 3).bind fun bt196 => (if bt196.1 > 0 then ((spec_l71Seal.f k x186000 bt196.2).bind fun bt198 => (spec_DrawSealHolds.l0 k (wrap64 (x5 + 1)) x186000 bt198.2.2.2.2.2.2.2 bt198.1 bt198.2.1 bt198.2.2.1 bt198.2.2.2.1 bt198.2.2.2.2.1 bt198.2.2.2.2.2.1 bt198.2.2.2.2.2.2.1)) else (some (x195000, x195001, x195002, x195003, x195004, x195005, x195006)))) else (some (x195000, x195001, x195002, x195003, x195004, x195005, x195006)))) else (some (x195000, x195001, x195002, x195003, x195004, x195005, x195006))
def spec_DrawSealHolds.f (k : Nat) (l0 : List Int) : Option (Int × Int × Int × Int × Int × Int × Int) := (spec_l6Open.f l0).bind fun bt183 => ((spec_l71Seal.f k bt183.1 bt183.2).bind fun bt186 => (spec_DrawSealHolds.l0 k 0 bt183.1 bt186.2.2.2.2.2.2.2 bt186.1 bt186.2.1 bt186.2.2.1 bt186.2.2.2.1 bt186.2.2.2.2.1 bt186.2.2.2.2.2.1 bt186.2.2.2.2.2.2.1))
theorem spec_DrawSealHolds.mono_l : ∀ k, (∀ y0 y1 y2 y3 y4 y5 y6 y7 y8 y9, LeO (spec_DrawSealHolds.l0 k y0 y1 y2 y3 y4 y5 y6 y7 y8 y9) (spec_DrawSealHolds.l0 (k + 1) y0 y1 y2 y3 y4 y5 y6 y7 y8 y9))
 | 0 => fun _ _ _ _ _ _ _ _ _ _ r h => by simp [spec_DrawSealHolds.l0] at h
 | k + 1 => by
  have ih0 := spec_DrawSealHolds.mono_l k
  ·intro y0 y1 y2 y3 y4 y5 y6 y7 y8 y9
   unfold spec_DrawSealHolds.l0
   repeat' first
   | (with_reducible exact ih0 _ _ _ _ _ _ _ _ _ _)
   | (with_reducible exact spec_l6Rd_pick.mono _ _ _ _)
   | (with_reducible exact spec_l71Seal.mono _ _ _)
   | (with_reducible exact LeO.refl _)
   | (with_reducible exact LeO.none _)
   | (with_reducible refine LeO.ite ?_ ?_)
   | (with_reducible refine LeO.bind ?_ (fun _ => ?_))
   | exact ih0 _ _ _ _ _ _ _ _ _ _
   | exact spec_l6Rd_pick.mono _ _ _ _
   | exact spec_l71Seal.mono _ _ _
   | exact LeO.none _
   | refine LeO.ite ?_ ?_
   | refine LeO.bind ?_ (fun _ => ?_)
theorem spec_DrawSealHolds.mono : ∀ a0 k, LeO (spec_DrawSealHolds.f k a0) (spec_DrawSealHolds.f (k + 1) a0) := by
 intro a0 k
 have ih0 := spec_DrawSealHolds.mono_l k
 unfold spec_DrawSealHolds.f
 repeat' first
   | (with_reducible exact ih0 _ _ _ _ _ _ _ _ _ _)
   | (with_reducible exact spec_l6Rd_pick.mono _ _ _ _)
   | (with_reducible exact spec_l71Seal.mono _ _ _)
   | (with_reducible exact LeO.refl _)
   | (with_reducible exact LeO.none _)
   | (with_reducible refine LeO.ite ?_ ?_)
   | (with_reducible refine LeO.bind ?_ (fun _ => ?_))
   | exact ih0 _ _ _ _ _ _ _ _ _ _
   | exact spec_l6Rd_pick.mono _ _ _ _
   | exact spec_l71Seal.mono _ _ _
   | exact LeO.none _
   | refine LeO.ite ?_ ?_
   | refine LeO.bind ?_ (fun _ => ?_)
set_option maxHeartbeats 8000000 in
set_option maxRecDepth 100000 in
theorem spec_DrawSealHolds.calls (k : Nat) (A0 : Option Addr) (c0 : Nat) (l0 : List Int) (r1 : Int) (r2 : Int) (r3 : Int) (r4 : Int) (r5 : Int) (r6 : Int) (r7 : Int) (w : World) (hr0 : Kd.C (Kd.int .u8) w A0 l0.length l0) (hc0 : l0.length ≤ c0) (h : spec_DrawSealHolds.f k l0 = some (r1, r2, r3, r4, r5, r6, r7)) :
  Calls Try.prog 22 #[.slice A0 l0.length c0] w fun e w' => e = .returned (.agg #[.int .i64 r1, .int .i64 r2, .int .i64 r3, .int .i64 r4, .int .i64 r5, .int .i64 r6, .int .i64 r7]) ∧ Below w.heap.size w w' := by
 have hu24 := Try.underlying24
 have HR0 := Aside0.mk hr0
 have HC0 := Aside0.mk hc0
 clear hr0 hc0
 have HB := Aside0.mk (Below.refl w.heap.size w)
 have H : ((spec_l6Open.f l0).bind fun bt183 => ((spec_l71Seal.f k bt183.1 bt183.2).bind fun bt186 => (spec_DrawSealHolds.l0 k 0 bt183.1 bt186.2.2.2.2.2.2.2 bt186.1 bt186.2.1 bt186.2.2.1 bt186.2.2.2.1 bt186.2.2.2.2.1 bt186.2.2.2.2.2.1 bt186.2.2.2.2.2.2.1))) = some (r1, r2, r3, r4, r5, r6, r7) := h
 clear h
 replace H := Option.bind_eq_some_iff.mp H
 obtain ⟨⟨t183, t184⟩, A20, H⟩ := H
 replace H : ((spec_l71Seal.f k t183 t184).bind fun bt186 => (spec_DrawSealHolds.l0 k 0 t183 bt186.2.2.2.2.2.2.2 bt186.1 bt186.2.1 bt186.2.2.1 bt186.2.2.2.1 bt186.2.2.2.2.1 bt186.2.2.2.2.2.1 bt186.2.2.2.2.2.2.1)) = some (r1, r2, r3, r4, r5, r6, r7) := H
 have A2 := Aside0.mk A20
 clear A20
 replace H := Option.bind_eq_some_iff.mp H
 obtain ⟨⟨t186, t187, t188, t189, t190, t191, t192, t193⟩, A30, H⟩ := H
 replace H : (spec_DrawSealHolds.l0 k 0 t183 t193 t186 t187 t188 t189 t190 t191 t192) = some (r1, r2, r3, r4, r5, r6, r7) := H
 have A3 := Aside0.mk A30
 clear A30
 have H' := Aside0.mk H
 clear H
 go_enter Try.func22, Try.ntmps22
 go_wp2_with (first | ((with_reducible refine gate_dst (N := 2) rfl ?_); refine box_event ?hg (N := 2) ?hd (cs := #[.int .i64 0, .int .i64 0, .int .i64 0, .int .i64 0, .int .i64 0, .int .i64 0, .int .i64 0]) (t := 24) ?hr ?_; (case hd => rfl); (case hg => rfl); (case hr => first | (go_simp; done) | (go_simp; rfl)); intro gb182 hg w4 hbox hb; have n0_ := Aside0.mk (below_step z11x5 hb); have n1_ := Aside0.mk (hbox); have n2_ := Aside0.mk ((by rw [hg]; exact (below_size z11x5) : w.heap.size ≤ gb182)); have n3_ := Aside0.mk ((by rw [hg]; exact (below_size z11x5) : w.heap.size ≤ gb182)); clear HB; have HB := n0_; have BK182 := n1_; have GW182 := n2_; have GE182 := n3_; clear n0_ n1_ n2_ n3_; clear hb hbox hg) | ((with_reducible refine gate_callee (f := 55) rfl ?_); refine goesL_ (some 7) rfl rfl Try.func55 (by kernel_rfl) rfl #[.slice A0 l0.length c0] rfl z11x4 ?_; (with_reducible refine (spec_l6Open.calls _ _ l0 t183 t184 w _ ?side1 ?side2 ?side3 A2.out).mono ?_); (case side1 => repeat (first | (with_reducible first | exact HB.out | apply below_alloc | apply pw_below_drewN | apply below_drew1 | refine below_set ?_ GE182.out) | exact HB.out)); (case side2 => exact HR0.out); (case side3 => exact HC0.out); rintro e w5 ⟨g185, rfl, hi, hb, hb2⟩; refine ⟨_, rfl, ?_⟩; have n0_ := Aside0.mk (blk_below (g := gb182) (o := .cells #[.int .i64 0, .int .i64 0, .int .i64 0, .int .i64 0, .int .i64 0, .int .i64 0, .int .i64 0] 24 (0, 0)) z11x6 hb2); have n1_ := Aside0.mk (hb); have n2_ := Aside0.mk (hi); have n3_ := Aside0.mk (IsS80.ne_blk hi (blk_below (g := gb182) (o := .cells #[.int .i64 0, .int .i64 0, .int .i64 0, .int .i64 0, .int .i64 0, .int .i64 0, .int .i64 0] 24 (0, 0)) z11x6 hb2) (by decide)); have n4_ := Aside0.mk (Ne.symm (IsS80.ne_blk hi (blk_below (g := gb182) (o := .cells #[.int .i64 0, .int .i64 0, .int .i64 0, .int .i64 0, .int .i64 0, .int .i64 0, .int .i64 0] 24 (0, 0)) z11x6 hb2) (by decide))); clear BK182; clear HB; have BK182 := n0_; have HB := n1_; have HI185 := n2_; have NB185_182 := n3_; have NB182_185 := n4_; clear n0_ n1_ n2_ n3_ n4_; (try clear hb); (try clear hb2); (try clear hk); (try clear hi)) | ((with_reducible refine gate_callee (f := 56) rfl ?_); refine goesL_ (some 9) rfl rfl Try.func56 (by kernel_rfl) rfl #[.pointer (some ⟨g185, 0, none⟩)] rfl z11x4 ?_; (with_reducible refine (spec_l71Seal.calls k g185 t183 t184 t186 t187 t188 t189 t190 t191 t192 t193 w _ ?side1 ?side2 A3.out).mono ?_); (case side1 => repeat (first | (with_reducible first | exact HI185.out | apply IsS80.alloc | apply IsS80.drewN | apply IsS80.drew | apply IsS80.set_1 | refine IsS80.far ?_ NB185_182.out _) | exact HI185.out)); (case side2 => repeat (first | (with_reducible first | exact HB.out | apply below_alloc | apply pw_below_drewN | apply below_drew1 | refine below_set ?_ (IsS80.ge HI185.out) | refine below_set ?_ GE182.out) | exact HB.out)); rintro e w6 ⟨rfl, hi, hb, hk⟩; refine ⟨_, rfl, ?_⟩; have n0_ := Aside0.mk (KeepBut.blk hk (g' := gb182) (o := .cells #[.int .i64 0, .int .i64 0, .int .i64 0, .int .i64 0, .int .i64 0, .int .i64 0, .int .i64 0] 24 (0, 0)) z11x6 NB182_185.out (by simp)); have n1_ := Aside0.mk (hb); have n2_ := Aside0.mk (hi); clear BK182; clear HB; clear HI185; have BK182 := n0_; have HB := n1_; have HI185 := n2_; clear n0_ n1_ n2_; (try clear hb); (try clear hb2); (try clear hk); (try clear hi)) | ((with_reducible refine gate_dst (N := 4) rfl ?_); refine box_event ?hg (N := 4) ?hd (cs := #[.int .i64 0, .int .i64 0, .int .i64 0, .int .i64 0, .int .i64 0, .int .i64 0, .int .i64 0]) (t := 24) ?hr ?_; (case hd => rfl); (case hg => rfl); (case hr => first | (go_simp; done) | (go_simp; rfl)); intro gb194 hg w7 hbox hb; have n0_ := Aside0.mk (blk_below (g := gb182) (o := .cells #[.int .i64 0, .int .i64 0, .int .i64 0, .int .i64 0, .int .i64 0, .int .i64 0, .int .i64 0] 24 (0, 0)) z11x6 hb); have n1_ := Aside0.mk (IsS80.below (by repeat (first | (with_reducible first | exact HI185.out | apply IsS80.alloc | apply IsS80.drewN | apply IsS80.drew | apply IsS80.set_1 | refine IsS80.far ?_ NB185_182.out _) | exact HI185.out)) hb); have n2_ := Aside0.mk (below_step (by repeat (first | (with_reducible first | exact HB.out | apply below_alloc | apply pw_below_drewN | apply below_drew1 | refine below_set ?_ (IsS80.ge HI185.out) | refine below_set ?_ GE182.out) | exact HB.out)) hb); have n3_ := Aside0.mk (hbox); have n4_ := Aside0.mk ((z11x2 : w.heap.size ≤ gb194)); have n5_ := Aside0.mk ((z11x2 : w.heap.size ≤ gb194)); have n6_ := Aside0.mk ((by rw [hg]; exact Nat.ne_of_lt (blk_lt (g := gb182) (o := .cells #[.int .i64 0, .int .i64 0, .int .i64 0, .int .i64 0, .int .i64 0, .int .i64 0, .int .i64 0] 24 (0, 0)) z11x6) : gb182 ≠ gb194)); have n7_ := Aside0.mk ((by rw [hg]; exact Nat.ne_of_gt (blk_lt (g := gb182) (o := .cells #[.int .i64 0, .int .i64 0, .int .i64 0, .int .i64 0, .int .i64 0, .int .i64 0, .int .i64 0] 24 (0, 0)) z11x6) : gb194 ≠ gb182)); have n8_ := Aside0.mk ((by rw [hg]; exact Nat.ne_of_lt (IsS80.lt (show IsS80 w _ g185 t183 t193 from by repeat (first | (with_reducible first | exact HI185.out | apply IsS80.alloc | apply IsS80.drewN | apply IsS80.drew | apply IsS80.set_1 | refine IsS80.far ?_ NB185_182.out _) | exact HI185.out))) : g185 ≠ gb194)); have n9_ := Aside0.mk ((by rw [hg]; exact Nat.ne_of_gt (IsS80.lt (show IsS80 w _ g185 t183 t193 from by repeat (first | (with_reducible first | exact HI185.out | apply IsS80.alloc | apply IsS80.drewN | apply IsS80.drew | apply IsS80.set_1 | refine IsS80.far ?_ NB185_182.out _) | exact HI185.out))) : gb194 ≠ g185)); clear BK182; clear HI185; clear HB; have BK182 := n0_; have HI185 := n1_; have HB := n2_; have BK194 := n3_; have GW194 := n4_; have GE194 := n5_; have NB182_194 := n6_; have NB194_182 := n7_; have NB185_194 := n8_; have NB194_185 := n9_; clear n0_ n1_ n2_ n3_ n4_ n5_ n6_ n7_ n8_ n9_; clear hb hbox hg; have hnb8 := NB194_182.out; have hnc8 := NB182_194.out; have hnb9 := NB194_185.out; have hnc9 := NB185_194.out; have hcz10_0 : w7.cell? ⟨gb194, 0, none⟩ = some (.int .i64 0) := (blk_cell BK194.out 0).trans rfl; have hcz10_1 : w7.cell? ⟨gb194, 1, none⟩ = some (.int .i64 0) := (blk_cell BK194.out 1).trans rfl; have hcz10_2 : w7.cell? ⟨gb194, 2, none⟩ = some (.int .i64 0) := (blk_cell BK194.out 2).trans rfl; have hcz10_3 : w7.cell? ⟨gb194, 3, none⟩ = some (.int .i64 0) := (blk_cell BK194.out 3).trans rfl; have hcz10_4 : w7.cell? ⟨gb194, 4, none⟩ = some (.int .i64 0) := (blk_cell BK194.out 4).trans rfl; have hcz10_5 : w7.cell? ⟨gb194, 5, none⟩ = some (.int .i64 0) := (blk_cell BK194.out 5).trans rfl; have hcz10_6 : w7.cell? ⟨gb194, 6, none⟩ = some (.int .i64 0) := (blk_cell BK194.out 6).trans rfl; have hfz10_0 := blk_frozen BK194.out 0; have hfz10_1 := blk_frozen BK194.out 1; have hfz10_2 := blk_frozen BK194.out 2; have hfz10_3 := blk_frozen BK194.out 3; have hfz10_4 := blk_frozen BK194.out 4; have hfz10_5 := blk_frozen BK194.out 5; have hfz10_6 := blk_frozen BK194.out 6))
 go_loopg [5] k (fun kq v5 w' => ∃ (x5_1 : Int) (x186001_1 : Int) (x195000_1 : Int) (x195001_1 : Int) (x195002_1 : Int) (x195003_1 : Int) (x195004_1 : Int) (x195005_1 : Int) (x195006_1 : Int), v5 = .int .i64 x5_1 ∧ Aside0 (spec_DrawSealHolds.l0 kq x5_1 t183 x186001_1 x195000_1 x195001_1 x195002_1 x195003_1 x195004_1 x195005_1 x195006_1 = some (r1, r2, r3, r4, r5, r6, r7)) ∧ Aside0 (kq ≤ k) ∧ Aside0 (w'.heap[gb182]? = some (.cells #[.int .i64 0, .int .i64 0, .int .i64 0, .int .i64 0, .int .i64 0, .int .i64 0, .int .i64 0] 24 (0, 0))) ∧ Aside0 (w'.heap[gb194]? = some (.cells #[.int .i64 x195000_1, .int .i64 x195001_1, .int .i64 x195002_1, .int .i64 x195003_1, .int .i64 x195004_1, .int .i64 x195005_1, .int .i64 x195006_1] 24 (0, 0))) ∧ Aside0 (IsS80 w w' g185 t183 x186001_1) ∧ Aside0 (Below w.heap.size w w'))
 case atStart => exact ⟨(0), (t193), (t186), (t187), (t188), (t189), (t190), (t191), (t192), (by first | rfl | (simp; done) | (simp [*]; done)), H', ⟨Nat.le_refl _⟩, ⟨by (with_reducible repeat (first | refine blk_drewN ?_ _ | refine blk_drew ?_ | refine blk_alloc ?_ _)); refine blk_far ?_ NB182_194.out _; (with_reducible repeat (first | refine blk_drewN ?_ _ | refine blk_drew ?_ | refine blk_alloc ?_ _)); refine blk_far ?_ NB182_194.out _; (with_reducible repeat (first | refine blk_drewN ?_ _ | refine blk_drew ?_ | refine blk_alloc ?_ _)); refine blk_far ?_ NB182_194.out _; (with_reducible repeat (first | refine blk_drewN ?_ _ | refine blk_drew ?_ | refine blk_alloc ?_ _)); refine blk_far ?_ NB182_194.out _; (with_reducible repeat (first | refine blk_drewN ?_ _ | refine blk_drew ?_ | refine blk_alloc ?_ _)); refine blk_far ?_ NB182_194.out _; (with_reducible repeat (first | refine blk_drewN ?_ _ | refine blk_drew ?_ | refine blk_alloc ?_ _)); refine blk_far ?_ NB182_194.out _; (with_reducible repeat (first | refine blk_drewN ?_ _ | refine blk_drew ?_ | refine blk_alloc ?_ _)); refine blk_far ?_ NB182_194.out _; (with_reducible repeat (first | refine blk_drewN ?_ _ | refine blk_drew ?_ | refine blk_alloc ?_ _)); exact BK182.out⟩, ⟨by (with_reducible repeat (first | refine blk_drewN ?_ _ | refine blk_drew ?_ | refine blk_alloc ?_ _)); refine blk_put (cs := #[.int .i64 t186, .int .i64 t187, .int .i64 t188, .int .i64 t189, .int .i64 t190, .int .i64 t191, .int .i64 0]) ?_ 6 _ rfl; (with_reducible repeat (first | refine blk_drewN ?_ _ | refine blk_drew ?_ | refine blk_alloc ?_ _)); refine blk_put (cs := #[.int .i64 t186, .int .i64 t187, .int .i64 t188, .int .i64 t189, .int .i64 t190, .int .i64 0, .int .i64 0]) ?_ 5 _ rfl; (with_reducible repeat (first | refine blk_drewN ?_ _ | refine blk_drew ?_ | refine blk_alloc ?_ _)); refine blk_put (cs := #[.int .i64 t186, .int .i64 t187, .int .i64 t188, .int .i64 t189, .int .i64 0, .int .i64 0, .int .i64 0]) ?_ 4 _ rfl; (with_reducible repeat (first | refine blk_drewN ?_ _ | refine blk_drew ?_ | refine blk_alloc ?_ _)); refine blk_put (cs := #[.int .i64 t186, .int .i64 t187, .int .i64 t188, .int .i64 0, .int .i64 0, .int .i64 0, .int .i64 0]) ?_ 3 _ rfl; (with_reducible repeat (first | refine blk_drewN ?_ _ | refine blk_drew ?_ | refine blk_alloc ?_ _)); refine blk_put (cs := #[.int .i64 t186, .int .i64 t187, .int .i64 0, .int .i64 0, .int .i64 0, .int .i64 0, .int .i64 0]) ?_ 2 _ rfl; (with_reducible repeat (first | refine blk_drewN ?_ _ | refine blk_drew ?_ | refine blk_alloc ?_ _)); refine blk_put (cs := #[.int .i64 t186, .int .i64 0, .int .i64 0, .int .i64 0, .int .i64 0, .int .i64 0, .int .i64 0]) ?_ 1 _ rfl; (with_reducible repeat (first | refine blk_drewN ?_ _ | refine blk_drew ?_ | refine blk_alloc ?_ _)); refine blk_put (cs := #[.int .i64 0, .int .i64 0, .int .i64 0, .int .i64 0, .int .i64 0, .int .i64 0, .int .i64 0]) ?_ 0 _ rfl; (with_reducible repeat (first | refine blk_drewN ?_ _ | refine blk_drew ?_ | refine blk_alloc ?_ _)); exact BK194.out⟩, ⟨by repeat (first | (with_reducible first | exact HI185.out | apply IsS80.alloc | apply IsS80.drewN | apply IsS80.drew | apply IsS80.set_1 | refine IsS80.far ?_ NB185_182.out _ | refine IsS80.far ?_ NB185_194.out _) | exact HI185.out)⟩, ⟨by repeat (first | (with_reducible first | exact HB.out | apply below_alloc | apply pw_below_drewN | apply below_drew1 | refine below_set ?_ (IsS80.ge HI185.out) | refine below_set ?_ GE182.out | refine below_set ?_ GE194.out) | exact HB.out)⟩⟩
 case round =>
  clear H'
  try clear c2
  try clear p2
  try clear c5
  try clear c8
  try clear c9
  try clear hcz10_0
  try clear hcz10_1
  try clear hcz10_2
  try clear hcz10_3
  try clear hcz10_4
  try clear hcz10_5
  try clear hcz10_6
  try clear hfz10_0
  try clear hfz10_1
  try clear hfz10_2
  try clear hfz10_3
  try clear hfz10_4
  try clear hfz10_5
  try clear hfz10_6
  obtain ⟨x5_1, x186001_1, x195000_1, x195001_1, x195002_1, x195003_1, x195004_1, x195005_1, x195006_1, rfl, HA, HK1, BK182, BK194, HI185, HB⟩ := hrel
  cases gk with
  | zero => exact absurd HA.out (by simp [spec_DrawSealHolds.l0])
  | succ k1 =>
   have H := HA.out
   clear HA
   simp only [spec_DrawSealHolds.l0] at H
   by_cases c11 : x5_1 < 3
   ·rw [if_pos c11] at H
    have c11b0 : decide (x5_1 < 3) = true := decide_eq_true c11
    clear c11
    replace H := Option.bind_eq_some_iff.mp H
    obtain ⟨t195, A120, H⟩ := H
    replace H : (if t195 = 0 then ((spec_l6Rd_pick.f k1 t183 x186001_1 3).bind fun bt196 => (if bt196.1 > 0 then ((spec_l71Seal.f k1 t183 bt196.2).bind fun bt198 => (spec_DrawSealHolds.l0 k1 (wrap64 (x5_1 + 1)) t183 bt198.2.2.2.2.2.2.2 bt198.1 bt198.2.1 bt198.2.2.1 bt198.2.2.2.1 bt198.2.2.2.2.1 bt198.2.2.2.2.2.1 bt198.2.2.2.2.2.2.1)) else (some (x195000_1, x195001_1, x195002_1, x195003_1, x195004_1, x195005_1, x195006_1)))) else (some (x195000_1, x195001_1, x195002_1, x195003_1, x195004_1, x195005_1, x195006_1))) = some (r1, r2, r3, r4, r5, r6, r7) := H
    have A12 := Aside0.mk A120
    clear A120
    by_cases c13 : t195 = 0
    ·rw [if_pos c13] at H
     have c13b0 : (t195 == 0) = true := beq_iff_eq.mpr c13
     have c13b1 : (t195 != 0) = false := bne_eq_false_iff_eq.mpr c13
     clear c13
     replace H := Option.bind_eq_some_iff.mp H
     obtain ⟨⟨t196, t197⟩, A140, H⟩ := H
     replace H : (if t196 > 0 then ((spec_l71Seal.f k1 t183 t197).bind fun bt198 => (spec_DrawSealHolds.l0 k1 (wrap64 (x5_1 + 1)) t183 bt198.2.2.2.2.2.2.2 bt198.1 bt198.2.1 bt198.2.2.1 bt198.2.2.2.1 bt198.2.2.2.2.1 bt198.2.2.2.2.2.1 bt198.2.2.2.2.2.2.1)) else (some (x195000_1, x195001_1, x195002_1, x195003_1, x195004_1, x195005_1, x195006_1))) = some (r1, r2, r3, r4, r5, r6, r7) := H
     have A14 := Aside0.mk A140
     clear A140
     by_cases c15 : t196 > 0
     ·rw [if_pos c15] at H
      have c15b0 : decide (0 < t196) = true := decide_eq_true c15
      clear c15
      replace H := Option.bind_eq_some_iff.mp H
      obtain ⟨⟨t198, t199, t200, t201, t202, t203, t204, t205⟩, A160, H⟩ := H
      replace H : (spec_DrawSealHolds.l0 k1 (wrap64 (x5_1 + 1)) t183 t205 t198 t199 t200 t201 t202 t203 t204) = some (r1, r2, r3, r4, r5, r6, r7) := H
      have A16 := Aside0.mk A160
      clear A160
      have H' := Aside0.mk H
      clear H
      have hnb17 := NB194_182.out
      have hnc17 := NB182_194.out
      have hnb18 := NB194_185.out
      have hnc18 := NB185_194.out
      have hcz19_0 : wr.cell? ⟨gb194, 0, none⟩ = some (.int .i64 x195000_1) := (blk_cell BK194.out 0).trans rfl
      have hcz19_1 : wr.cell? ⟨gb194, 1, none⟩ = some (.int .i64 x195001_1) := (blk_cell BK194.out 1).trans rfl
      have hcz19_2 : wr.cell? ⟨gb194, 2, none⟩ = some (.int .i64 x195002_1) := (blk_cell BK194.out 2).trans rfl
      have hcz19_3 : wr.cell? ⟨gb194, 3, none⟩ = some (.int .i64 x195003_1) := (blk_cell BK194.out 3).trans rfl
      have hcz19_4 : wr.cell? ⟨gb194, 4, none⟩ = some (.int .i64 x195004_1) := (blk_cell BK194.out 4).trans rfl
      have hcz19_5 : wr.cell? ⟨gb194, 5, none⟩ = some (.int .i64 x195005_1) := (blk_cell BK194.out 5).trans rfl
      have hcz19_6 : wr.cell? ⟨gb194, 6, none⟩ = some (.int .i64 x195006_1) := (blk_cell BK194.out 6).trans rfl
      have hfz19_0 := blk_frozen BK194.out 0
      have hfz19_1 := blk_frozen BK194.out 1
      have hfz19_2 := blk_frozen BK194.out 2
      have hfz19_3 := blk_frozen BK194.out 3
      have hfz19_4 := blk_frozen BK194.out 4
      have hfz19_5 := blk_frozen BK194.out 5
      have hfz19_6 := blk_frozen BK194.out 6
      go_wp2_with (first | (go_at_call 24; (with_reducible refine (spec_SealHolds.calls x195000_1 x195001_1 x195002_1 x195003_1 x195004_1 x195005_1 x195006_1 t195 _ A12.out).mono ?_); rintro e w20 ⟨rfl, hb⟩; have n0_ := Aside0.mk (blk_below (g := gb182) (o := .cells #[.int .i64 0, .int .i64 0, .int .i64 0, .int .i64 0, .int .i64 0, .int .i64 0, .int .i64 0] 24 (0, 0)) z11x6 hb); have n1_ := Aside0.mk (blk_below (g := gb194) (o := .cells #[.int .i64 x195000_1, .int .i64 x195001_1, .int .i64 x195002_1, .int .i64 x195003_1, .int .i64 x195004_1, .int .i64 x195005_1, .int .i64 x195006_1] 24 (0, 0)) z11x7 hb); have n2_ := Aside0.mk (IsS80.below z11x3 hb); have n3_ := Aside0.mk (below_step z11x1 hb); clear BK182; clear BK194; clear HI185; clear HB; have BK182 := n0_; have BK194 := n1_; have HI185 := n2_; have HB := n3_; clear n0_ n1_ n2_ n3_; (try clear hb); (try clear hb2); (try clear hk); (try clear hi)) | (go_at_call 57; (with_reducible refine (spec_l6Rd_pick.calls k1 g185 t183 x186001_1 3 t196 t197 w _ ?side1 ?side2 A14.out).mono ?_); (case side1 => repeat (first | (with_reducible first | exact HI185.out | apply IsS80.alloc | apply IsS80.drewN | apply IsS80.drew | apply IsS80.set_1 | refine IsS80.far ?_ NB185_182.out _ | refine IsS80.far ?_ NB185_194.out _) | exact HI185.out)); (case side2 => repeat (first | (with_reducible first | exact HB.out | apply below_alloc | apply pw_below_drewN | apply below_drew1 | refine below_set ?_ (IsS80.ge HI185.out) | refine below_set ?_ GE182.out | refine below_set ?_ GE194.out) | exact HB.out)); rintro e w21 ⟨rfl, hi, hb, hk⟩; have n0_ := Aside0.mk (KeepBut.blk hk (g' := gb182) (o := .cells #[.int .i64 0, .int .i64 0, .int .i64 0, .int .i64 0, .int .i64 0, .int .i64 0, .int .i64 0] 24 (0, 0)) z11x6 NB182_185.out (by simp)); have n1_ := Aside0.mk (KeepBut.blk hk (g' := gb194) (o := .cells #[.int .i64 x195000_1, .int .i64 x195001_1, .int .i64 x195002_1, .int .i64 x195003_1, .int .i64 x195004_1, .int .i64 x195005_1, .int .i64 x195006_1] 24 (0, 0)) z11x7 NB194_185.out (by simp)); have n2_ := Aside0.mk (hb); have n3_ := Aside0.mk (hi); clear BK182; clear BK194; clear HB; clear HI185; have BK182 := n0_; have BK194 := n1_; have HB := n2_; have HI185 := n3_; clear n0_ n1_ n2_ n3_; (try clear hb); (try clear hb2); (try clear hk); (try clear hi)) | ((with_reducible refine gate_callee (f := 56) rfl ?_); refine goesL_ (some 25) rfl rfl Try.func56 (by kernel_rfl) rfl #[.pointer (some ⟨g185, 0, none⟩)] rfl z11x4 ?_; (with_reducible refine (spec_l71Seal.calls k1 g185 t183 t197 t198 t199 t200 t201 t202 t203 t204 t205 w _ ?side1 ?side2 A16.out).mono ?_); (case side1 => repeat (first | (with_reducible first | exact HI185.out | apply IsS80.alloc | apply IsS80.drewN | apply IsS80.drew | apply IsS80.set_1 | refine IsS80.far ?_ NB185_182.out _ | refine IsS80.far ?_ NB185_194.out _) | exact HI185.out)); (case side2 => repeat (first | (with_reducible first | exact HB.out | apply below_alloc | apply pw_below_drewN | apply below_drew1 | refine below_set ?_ (IsS80.ge HI185.out) | refine below_set ?_ GE182.out | refine below_set ?_ GE194.out) | exact HB.out)); rintro e w22 ⟨rfl, hi, hb, hk⟩; refine ⟨_, rfl, ?_⟩; have n0_ := Aside0.mk (KeepBut.blk hk (g' := gb182) (o := .cells #[.int .i64 0, .int .i64 0, .int .i64 0, .int .i64 0, .int .i64 0, .int .i64 0, .int .i64 0] 24 (0, 0)) z11x6 NB182_185.out (by simp)); have n1_ := Aside0.mk (KeepBut.blk hk (g' := gb194) (o := .cells #[.int .i64 x195000_1, .int .i64 x195001_1, .int .i64 x195002_1, .int .i64 x195003_1, .int .i64 x195004_1, .int .i64 x195005_1, .int .i64 x195006_1] 24 (0, 0)) z11x7 NB194_185.out (by simp)); have n2_ := Aside0.mk (hb); have n3_ := Aside0.mk (hi); clear BK182; clear BK194; clear HB; clear HI185; have BK182 := n0_; have BK194 := n1_; have HB := n2_; have HI185 := n3_; clear n0_ n1_ n2_ n3_; (try clear hb); (try clear hb2); (try clear hk); (try clear hi); have hcz23_0 : w22.cell? ⟨gb194, 0, none⟩ = some (.int .i64 x195000_1) := (blk_cell BK194.out 0).trans rfl; have hcz23_1 : w22.cell? ⟨gb194, 1, none⟩ = some (.int .i64 x195001_1) := (blk_cell BK194.out 1).trans rfl; have hcz23_2 : w22.cell? ⟨gb194, 2, none⟩ = some (.int .i64 x195002_1) := (blk_cell BK194.out 2).trans rfl; have hcz23_3 : w22.cell? ⟨gb194, 3, none⟩ = some (.int .i64 x195003_1) := (blk_cell BK194.out 3).trans rfl; have hcz23_4 : w22.cell? ⟨gb194, 4, none⟩ = some (.int .i64 x195004_1) := (blk_cell BK194.out 4).trans rfl; have hcz23_5 : w22.cell? ⟨gb194, 5, none⟩ = some (.int .i64 x195005_1) := (blk_cell BK194.out 5).trans rfl; have hcz23_6 : w22.cell? ⟨gb194, 6, none⟩ = some (.int .i64 x195006_1) := (blk_cell BK194.out 6).trans rfl; have hfz23_0 := blk_frozen BK194.out 0; have hfz23_1 := blk_frozen BK194.out 1; have hfz23_2 := blk_frozen BK194.out 2; have hfz23_3 := blk_frozen BK194.out 3; have hfz23_4 := blk_frozen BK194.out 4; have hfz23_5 := blk_frozen BK194.out 5; have hfz23_6 := blk_frozen BK194.out 6))
      go_roundg k1
      case measure => have := HK1.out; omega
      case rel => exact ⟨(wrap64 (x5_1 + 1)), (t205), (t198), (t199), (t200), (t201), (t202), (t203), (t204), (by first | rfl | (simp; done) | (simp [*]; done)), H', ⟨by have := HK1.out; omega⟩, ⟨by (with_reducible repeat (first | refine blk_drewN ?_ _ | refine blk_drew ?_ | refine blk_alloc ?_ _)); refine blk_far ?_ NB182_194.out _; (with_reducible repeat (first | refine blk_drewN ?_ _ | refine blk_drew ?_ | refine blk_alloc ?_ _)); refine blk_far ?_ NB182_194.out _; (with_reducible repeat (first | refine blk_drewN ?_ _ | refine blk_drew ?_ | refine blk_alloc ?_ _)); refine blk_far ?_ NB182_194.out _; (with_reducible repeat (first | refine blk_drewN ?_ _ | refine blk_drew ?_ | refine blk_alloc ?_ _)); refine blk_far ?_ NB182_194.out _; (with_reducible repeat (first | refine blk_drewN ?_ _ | refine blk_drew ?_ | refine blk_alloc ?_ _)); refine blk_far ?_ NB182_194.out _; (with_reducible repeat (first | refine blk_drewN ?_ _ | refine blk_drew ?_ | refine blk_alloc ?_ _)); refine blk_far ?_ NB182_194.out _; (with_reducible repeat (first | refine blk_drewN ?_ _ | refine blk_drew ?_ | refine blk_alloc ?_ _)); refine blk_far ?_ NB182_194.out _; (with_reducible repeat (first | refine blk_drewN ?_ _ | refine blk_drew ?_ | refine blk_alloc ?_ _)); exact BK182.out⟩, ⟨by (with_reducible repeat (first | refine blk_drewN ?_ _ | refine blk_drew ?_ | refine blk_alloc ?_ _)); refine blk_put (cs := #[.int .i64 t198, .int .i64 t199, .int .i64 t200, .int .i64 t201, .int .i64 t202, .int .i64 t203, .int .i64 x195006_1]) ?_ 6 _ rfl; (with_reducible repeat (first | refine blk_drewN ?_ _ | refine blk_drew ?_ | refine blk_alloc ?_ _)); refine blk_put (cs := #[.int .i64 t198, .int .i64 t199, .int .i64 t200, .int .i64 t201, .int .i64 t202, .int .i64 x195005_1, .int .i64 x195006_1]) ?_ 5 _ rfl; (with_reducible repeat (first | refine blk_drewN ?_ _ | refine blk_drew ?_ | refine blk_alloc ?_ _)); refine blk_put (cs := #[.int .i64 t198, .int .i64 t199, .int .i64 t200, .int .i64 t201, .int .i64 x195004_1, .int .i64 x195005_1, .int .i64 x195006_1]) ?_ 4 _ rfl; (with_reducible repeat (first | refine blk_drewN ?_ _ | refine blk_drew ?_ | refine blk_alloc ?_ _)); refine blk_put (cs := #[.int .i64 t198, .int .i64 t199, .int .i64 t200, .int .i64 x195003_1, .int .i64 x195004_1, .int .i64 x195005_1, .int .i64 x195006_1]) ?_ 3 _ rfl; (with_reducible repeat (first | refine blk_drewN ?_ _ | refine blk_drew ?_ | refine blk_alloc ?_ _)); refine blk_put (cs := #[.int .i64 t198, .int .i64 t199, .int .i64 x195002_1, .int .i64 x195003_1, .int .i64 x195004_1, .int .i64 x195005_1, .int .i64 x195006_1]) ?_ 2 _ rfl; (with_reducible repeat (first | refine blk_drewN ?_ _ | refine blk_drew ?_ | refine blk_alloc ?_ _)); refine blk_put (cs := #[.int .i64 t198, .int .i64 x195001_1, .int .i64 x195002_1, .int .i64 x195003_1, .int .i64 x195004_1, .int .i64 x195005_1, .int .i64 x195006_1]) ?_ 1 _ rfl; (with_reducible repeat (first | refine blk_drewN ?_ _ | refine blk_drew ?_ | refine blk_alloc ?_ _)); refine blk_put (cs := #[.int .i64 x195000_1, .int .i64 x195001_1, .int .i64 x195002_1, .int .i64 x195003_1, .int .i64 x195004_1, .int .i64 x195005_1, .int .i64 x195006_1]) ?_ 0 _ rfl; (with_reducible repeat (first | refine blk_drewN ?_ _ | refine blk_drew ?_ | refine blk_alloc ?_ _)); exact BK194.out⟩, ⟨by repeat (first | (with_reducible first | exact HI185.out | apply IsS80.alloc | apply IsS80.drewN | apply IsS80.drew | apply IsS80.set_1 | refine IsS80.far ?_ NB185_182.out _ | refine IsS80.far ?_ NB185_194.out _) | exact HI185.out)⟩, ⟨by repeat (first | (with_reducible first | exact HB.out | apply below_alloc | apply pw_below_drewN | apply below_drew1 | refine below_set ?_ (IsS80.ge HI185.out) | refine below_set ?_ GE182.out | refine below_set ?_ GE194.out) | exact HB.out)⟩⟩
     ·rw [if_neg c15] at H
      have c15b0 : decide (0 < t196) = false := decide_eq_false c15
      clear c15
      simp only [Option.some.injEq, Prod.mk.injEq] at H
      obtain ⟨rfl, rfl, rfl, rfl, rfl, rfl, rfl⟩ := H
      have hnb24 := NB194_182.out
      have hnc24 := NB182_194.out
      have hnb25 := NB194_185.out
      have hnc25 := NB185_194.out
      have hcz26_0 : wr.cell? ⟨gb194, 0, none⟩ = some (.int .i64 x195000_1) := (blk_cell BK194.out 0).trans rfl
      have hcz26_1 : wr.cell? ⟨gb194, 1, none⟩ = some (.int .i64 x195001_1) := (blk_cell BK194.out 1).trans rfl
      have hcz26_2 : wr.cell? ⟨gb194, 2, none⟩ = some (.int .i64 x195002_1) := (blk_cell BK194.out 2).trans rfl
      have hcz26_3 : wr.cell? ⟨gb194, 3, none⟩ = some (.int .i64 x195003_1) := (blk_cell BK194.out 3).trans rfl
      have hcz26_4 : wr.cell? ⟨gb194, 4, none⟩ = some (.int .i64 x195004_1) := (blk_cell BK194.out 4).trans rfl
      have hcz26_5 : wr.cell? ⟨gb194, 5, none⟩ = some (.int .i64 x195005_1) := (blk_cell BK194.out 5).trans rfl
      have hcz26_6 : wr.cell? ⟨gb194, 6, none⟩ = some (.int .i64 x195006_1) := (blk_cell BK194.out 6).trans rfl
      have hfz26_0 := blk_frozen BK194.out 0
      have hfz26_1 := blk_frozen BK194.out 1
      have hfz26_2 := blk_frozen BK194.out 2
      have hfz26_3 := blk_frozen BK194.out 3
      have hfz26_4 := blk_frozen BK194.out 4
      have hfz26_5 := blk_frozen BK194.out 5
      have hfz26_6 := blk_frozen BK194.out 6
      go_wp2_with (first | (go_at_call 24; (with_reducible refine (spec_SealHolds.calls x195000_1 x195001_1 x195002_1 x195003_1 x195004_1 x195005_1 x195006_1 t195 _ A12.out).mono ?_); rintro e w27 ⟨rfl, hb⟩; have n0_ := Aside0.mk (blk_below (g := gb182) (o := .cells #[.int .i64 0, .int .i64 0, .int .i64 0, .int .i64 0, .int .i64 0, .int .i64 0, .int .i64 0] 24 (0, 0)) z11x6 hb); have n1_ := Aside0.mk (blk_below (g := gb194) (o := .cells #[.int .i64 x195000_1, .int .i64 x195001_1, .int .i64 x195002_1, .int .i64 x195003_1, .int .i64 x195004_1, .int .i64 x195005_1, .int .i64 x195006_1] 24 (0, 0)) z11x7 hb); have n2_ := Aside0.mk (IsS80.below z11x3 hb); have n3_ := Aside0.mk (below_step z11x1 hb); clear BK182; clear BK194; clear HI185; clear HB; have BK182 := n0_; have BK194 := n1_; have HI185 := n2_; have HB := n3_; clear n0_ n1_ n2_ n3_; (try clear hb); (try clear hb2); (try clear hk); (try clear hi)) | (go_at_call 57; (with_reducible refine (spec_l6Rd_pick.calls k1 g185 t183 x186001_1 3 t196 t197 w _ ?side1 ?side2 A14.out).mono ?_); (case side1 => repeat (first | (with_reducible first | exact HI185.out | apply IsS80.alloc | apply IsS80.drewN | apply IsS80.drew | apply IsS80.set_1 | refine IsS80.far ?_ NB185_182.out _ | refine IsS80.far ?_ NB185_194.out _) | exact HI185.out)); (case side2 => repeat (first | (with_reducible first | exact HB.out | apply below_alloc | apply pw_below_drewN | apply below_drew1 | refine below_set ?_ (IsS80.ge HI185.out) | refine below_set ?_ GE182.out | refine below_set ?_ GE194.out) | exact HB.out)); rintro e w28 ⟨rfl, hi, hb, hk⟩; have n0_ := Aside0.mk (KeepBut.blk hk (g' := gb182) (o := .cells #[.int .i64 0, .int .i64 0, .int .i64 0, .int .i64 0, .int .i64 0, .int .i64 0, .int .i64 0] 24 (0, 0)) z11x6 NB182_185.out (by simp)); have n1_ := Aside0.mk (KeepBut.blk hk (g' := gb194) (o := .cells #[.int .i64 x195000_1, .int .i64 x195001_1, .int .i64 x195002_1, .int .i64 x195003_1, .int .i64 x195004_1, .int .i64 x195005_1, .int .i64 x195006_1] 24 (0, 0)) z11x7 NB194_185.out (by simp)); have n2_ := Aside0.mk (hb); have n3_ := Aside0.mk (hi); clear BK182; clear BK194; clear HB; clear HI185; have BK182 := n0_; have BK194 := n1_; have HB := n2_; have HI185 := n3_; clear n0_ n1_ n2_ n3_; (try clear hb); (try clear hb2); (try clear hk); (try clear hi); have hcz29_0 : w28.cell? ⟨gb194, 0, none⟩ = some (.int .i64 x195000_1) := (blk_cell BK194.out 0).trans rfl; have hcz29_1 : w28.cell? ⟨gb194, 1, none⟩ = some (.int .i64 x195001_1) := (blk_cell BK194.out 1).trans rfl; have hcz29_2 : w28.cell? ⟨gb194, 2, none⟩ = some (.int .i64 x195002_1) := (blk_cell BK194.out 2).trans rfl; have hcz29_3 : w28.cell? ⟨gb194, 3, none⟩ = some (.int .i64 x195003_1) := (blk_cell BK194.out 3).trans rfl; have hcz29_4 : w28.cell? ⟨gb194, 4, none⟩ = some (.int .i64 x195004_1) := (blk_cell BK194.out 4).trans rfl; have hcz29_5 : w28.cell? ⟨gb194, 5, none⟩ = some (.int .i64 x195005_1) := (blk_cell BK194.out 5).trans rfl; have hcz29_6 : w28.cell? ⟨gb194, 6, none⟩ = some (.int .i64 x195006_1) := (blk_cell BK194.out 6).trans rfl; have hfz29_0 := blk_frozen BK194.out 0; have hfz29_1 := blk_frozen BK194.out 1; have hfz29_2 := blk_frozen BK194.out 2; have hfz29_3 := blk_frozen BK194.out 3; have hfz29_4 := blk_frozen BK194.out 4; have hfz29_5 := blk_frozen BK194.out 5; have hfz29_6 := blk_frozen BK194.out 6; have hnb30 := NB182_185.out; have hnc30 := NB185_182.out; have hcz31_0 : w28.cell? ⟨gb182, 0, none⟩ = some (.int .i64 0) := (blk_cell BK182.out 0).trans rfl; have hcz31_1 : w28.cell? ⟨gb182, 1, none⟩ = some (.int .i64 0) := (blk_cell BK182.out 1).trans rfl; have hcz31_2 : w28.cell? ⟨gb182, 2, none⟩ = some (.int .i64 0) := (blk_cell BK182.out 2).trans rfl; have hcz31_3 : w28.cell? ⟨gb182, 3, none⟩ = some (.int .i64 0) := (blk_cell BK182.out 3).trans rfl; have hcz31_4 : w28.cell? ⟨gb182, 4, none⟩ = some (.int .i64 0) := (blk_cell BK182.out 4).trans rfl; have hcz31_5 : w28.cell? ⟨gb182, 5, none⟩ = some (.int .i64 0) := (blk_cell BK182.out 5).trans rfl; have hcz31_6 : w28.cell? ⟨gb182, 6, none⟩ = some (.int .i64 0) := (blk_cell BK182.out 6).trans rfl; have hfz31_0 := blk_frozen BK182.out 0; have hfz31_1 := blk_frozen BK182.out 1; have hfz31_2 := blk_frozen BK182.out 2; have hfz31_3 := blk_frozen BK182.out 3; have hfz31_4 := blk_frozen BK182.out 4; have hfz31_5 := blk_frozen BK182.out 5; have hfz31_6 := blk_frozen BK182.out 6))
      refine bodyPost_ret (results_cell_row rfl _ _ gb182 24 #[.int .i64 x195000_1, .int .i64 x195001_1, .int .i64 x195002_1, .int .i64 x195003_1, .int .i64 x195004_1, .int .i64 x195005_1, .int .i64 x195006_1] (0, 0) _ rfl z11x0 Try.underlying24 rfl (by kernel_rfl)) rfl ?_
      exact ⟨by first | rfl | (simp [errW_none, errW_some] <;> rfl) | (simp [*, errW_none, errW_some] <;> rfl), by repeat (first | (with_reducible first | exact HB.out | apply below_alloc | apply pw_below_drewN | apply below_drew1 | refine below_set ?_ (IsS80.ge HI185.out) | refine below_set ?_ GE182.out | refine below_set ?_ GE194.out) | exact HB.out)⟩
    ·rw [if_neg c13] at H
     have c13b0 : (t195 == 0) = false := beq_eq_false_iff_ne.mpr c13
     have c13b1 : (t195 != 0) = true := bne_iff_ne.mpr c13
     simp only [Option.some.injEq, Prod.mk.injEq] at H
     obtain ⟨rfl, rfl, rfl, rfl, rfl, rfl, rfl⟩ := H
     have hnb32 := NB194_182.out
     have hnc32 := NB182_194.out
     have hnb33 := NB194_185.out
     have hnc33 := NB185_194.out
     have hcz34_0 : wr.cell? ⟨gb194, 0, none⟩ = some (.int .i64 x195000_1) := (blk_cell BK194.out 0).trans rfl
     have hcz34_1 : wr.cell? ⟨gb194, 1, none⟩ = some (.int .i64 x195001_1) := (blk_cell BK194.out 1).trans rfl
     have hcz34_2 : wr.cell? ⟨gb194, 2, none⟩ = some (.int .i64 x195002_1) := (blk_cell BK194.out 2).trans rfl
     have hcz34_3 : wr.cell? ⟨gb194, 3, none⟩ = some (.int .i64 x195003_1) := (blk_cell BK194.out 3).trans rfl
     have hcz34_4 : wr.cell? ⟨gb194, 4, none⟩ = some (.int .i64 x195004_1) := (blk_cell BK194.out 4).trans rfl
     have hcz34_5 : wr.cell? ⟨gb194, 5, none⟩ = some (.int .i64 x195005_1) := (blk_cell BK194.out 5).trans rfl
     have hcz34_6 : wr.cell? ⟨gb194, 6, none⟩ = some (.int .i64 x195006_1) := (blk_cell BK194.out 6).trans rfl
     have hfz34_0 := blk_frozen BK194.out 0
     have hfz34_1 := blk_frozen BK194.out 1
     have hfz34_2 := blk_frozen BK194.out 2
     have hfz34_3 := blk_frozen BK194.out 3
     have hfz34_4 := blk_frozen BK194.out 4
     have hfz34_5 := blk_frozen BK194.out 5
     have hfz34_6 := blk_frozen BK194.out 6
     go_wp2_with (first | (go_at_call 24; (with_reducible refine (spec_SealHolds.calls x195000_1 x195001_1 x195002_1 x195003_1 x195004_1 x195005_1 x195006_1 t195 _ A12.out).mono ?_); rintro e w35 ⟨rfl, hb⟩; have n0_ := Aside0.mk (blk_below (g := gb182) (o := .cells #[.int .i64 0, .int .i64 0, .int .i64 0, .int .i64 0, .int .i64 0, .int .i64 0, .int .i64 0] 24 (0, 0)) z11x6 hb); have n1_ := Aside0.mk (blk_below (g := gb194) (o := .cells #[.int .i64 x195000_1, .int .i64 x195001_1, .int .i64 x195002_1, .int .i64 x195003_1, .int .i64 x195004_1, .int .i64 x195005_1, .int .i64 x195006_1] 24 (0, 0)) z11x7 hb); have n2_ := Aside0.mk (IsS80.below z11x3 hb); have n3_ := Aside0.mk (below_step z11x1 hb); clear BK182; clear BK194; clear HI185; clear HB; have BK182 := n0_; have BK194 := n1_; have HI185 := n2_; have HB := n3_; clear n0_ n1_ n2_ n3_; (try clear hb); (try clear hb2); (try clear hk); (try clear hi); have hcz36_0 : w35.cell? ⟨gb194, 0, none⟩ = some (.int .i64 x195000_1) := (blk_cell BK194.out 0).trans rfl; have hcz36_1 : w35.cell? ⟨gb194, 1, none⟩ = some (.int .i64 x195001_1) := (blk_cell BK194.out 1).trans rfl; have hcz36_2 : w35.cell? ⟨gb194, 2, none⟩ = some (.int .i64 x195002_1) := (blk_cell BK194.out 2).trans rfl; have hcz36_3 : w35.cell? ⟨gb194, 3, none⟩ = some (.int .i64 x195003_1) := (blk_cell BK194.out 3).trans rfl; have hcz36_4 : w35.cell? ⟨gb194, 4, none⟩ = some (.int .i64 x195004_1) := (blk_cell BK194.out 4).trans rfl; have hcz36_5 : w35.cell? ⟨gb194, 5, none⟩ = some (.int .i64 x195005_1) := (blk_cell BK194.out 5).trans rfl; have hcz36_6 : w35.cell? ⟨gb194, 6, none⟩ = some (.int .i64 x195006_1) := (blk_cell BK194.out 6).trans rfl; have hfz36_0 := blk_frozen BK194.out 0; have hfz36_1 := blk_frozen BK194.out 1; have hfz36_2 := blk_frozen BK194.out 2; have hfz36_3 := blk_frozen BK194.out 3; have hfz36_4 := blk_frozen BK194.out 4; have hfz36_5 := blk_frozen BK194.out 5; have hfz36_6 := blk_frozen BK194.out 6; have hnb37 := NB182_185.out; have hnc37 := NB185_182.out; have hcz38_0 : w35.cell? ⟨gb182, 0, none⟩ = some (.int .i64 0) := (blk_cell BK182.out 0).trans rfl; have hcz38_1 : w35.cell? ⟨gb182, 1, none⟩ = some (.int .i64 0) := (blk_cell BK182.out 1).trans rfl; have hcz38_2 : w35.cell? ⟨gb182, 2, none⟩ = some (.int .i64 0) := (blk_cell BK182.out 2).trans rfl; have hcz38_3 : w35.cell? ⟨gb182, 3, none⟩ = some (.int .i64 0) := (blk_cell BK182.out 3).trans rfl; have hcz38_4 : w35.cell? ⟨gb182, 4, none⟩ = some (.int .i64 0) := (blk_cell BK182.out 4).trans rfl; have hcz38_5 : w35.cell? ⟨gb182, 5, none⟩ = some (.int .i64 0) := (blk_cell BK182.out 5).trans rfl; have hcz38_6 : w35.cell? ⟨gb182, 6, none⟩ = some (.int .i64 0) := (blk_cell BK182.out 6).trans rfl; have hfz38_0 := blk_frozen BK182.out 0; have hfz38_1 := blk_frozen BK182.out 1; have hfz38_2 := blk_frozen BK182.out 2; have hfz38_3 := blk_frozen BK182.out 3; have hfz38_4 := blk_frozen BK182.out 4; have hfz38_5 := blk_frozen BK182.out 5; have hfz38_6 := blk_frozen BK182.out 6))
     refine bodyPost_ret (results_cell_row rfl _ _ gb182 24 #[.int .i64 x195000_1, .int .i64 x195001_1, .int .i64 x195002_1, .int .i64 x195003_1, .int .i64 x195004_1, .int .i64 x195005_1, .int .i64 x195006_1] (0, 0) _ rfl z11x0 Try.underlying24 rfl (by kernel_rfl)) rfl ?_
     exact ⟨by first | rfl | (simp [errW_none, errW_some] <;> rfl) | (simp [*, errW_none, errW_some] <;> rfl), by repeat (first | (with_reducible first | exact HB.out | apply below_alloc | apply pw_below_drewN | apply below_drew1 | refine below_set ?_ (IsS80.ge HI185.out) | refine below_set ?_ GE182.out | refine below_set ?_ GE194.out) | exact HB.out)⟩
   ·rw [if_neg c11] at H
    have c11b0 : decide (x5_1 < 3) = false := decide_eq_false c11
    clear c11
    simp only [Option.some.injEq, Prod.mk.injEq] at H
    obtain ⟨rfl, rfl, rfl, rfl, rfl, rfl, rfl⟩ := H
    have hnb39 := NB194_182.out
    have hnc39 := NB182_194.out
    have hnb40 := NB194_185.out
    have hnc40 := NB185_194.out
    have hcz41_0 : wr.cell? ⟨gb194, 0, none⟩ = some (.int .i64 x195000_1) := (blk_cell BK194.out 0).trans rfl
    have hcz41_1 : wr.cell? ⟨gb194, 1, none⟩ = some (.int .i64 x195001_1) := (blk_cell BK194.out 1).trans rfl
    have hcz41_2 : wr.cell? ⟨gb194, 2, none⟩ = some (.int .i64 x195002_1) := (blk_cell BK194.out 2).trans rfl
    have hcz41_3 : wr.cell? ⟨gb194, 3, none⟩ = some (.int .i64 x195003_1) := (blk_cell BK194.out 3).trans rfl
    have hcz41_4 : wr.cell? ⟨gb194, 4, none⟩ = some (.int .i64 x195004_1) := (blk_cell BK194.out 4).trans rfl
    have hcz41_5 : wr.cell? ⟨gb194, 5, none⟩ = some (.int .i64 x195005_1) := (blk_cell BK194.out 5).trans rfl
    have hcz41_6 : wr.cell? ⟨gb194, 6, none⟩ = some (.int .i64 x195006_1) := (blk_cell BK194.out 6).trans rfl
    have hfz41_0 := blk_frozen BK194.out 0
    have hfz41_1 := blk_frozen BK194.out 1
    have hfz41_2 := blk_frozen BK194.out 2
    have hfz41_3 := blk_frozen BK194.out 3
    have hfz41_4 := blk_frozen BK194.out 4
    have hfz41_5 := blk_frozen BK194.out 5
    have hfz41_6 := blk_frozen BK194.out 6
    have hnb42 := NB182_185.out
    have hnc42 := NB185_182.out
    have hcz43_0 : wr.cell? ⟨gb182, 0, none⟩ = some (.int .i64 0) := (blk_cell BK182.out 0).trans rfl
    have hcz43_1 : wr.cell? ⟨gb182, 1, none⟩ = some (.int .i64 0) := (blk_cell BK182.out 1).trans rfl
    have hcz43_2 : wr.cell? ⟨gb182, 2, none⟩ = some (.int .i64 0) := (blk_cell BK182.out 2).trans rfl
    have hcz43_3 : wr.cell? ⟨gb182, 3, none⟩ = some (.int .i64 0) := (blk_cell BK182.out 3).trans rfl
    have hcz43_4 : wr.cell? ⟨gb182, 4, none⟩ = some (.int .i64 0) := (blk_cell BK182.out 4).trans rfl
    have hcz43_5 : wr.cell? ⟨gb182, 5, none⟩ = some (.int .i64 0) := (blk_cell BK182.out 5).trans rfl
    have hcz43_6 : wr.cell? ⟨gb182, 6, none⟩ = some (.int .i64 0) := (blk_cell BK182.out 6).trans rfl
    have hfz43_0 := blk_frozen BK182.out 0
    have hfz43_1 := blk_frozen BK182.out 1
    have hfz43_2 := blk_frozen BK182.out 2
    have hfz43_3 := blk_frozen BK182.out 3
    have hfz43_4 := blk_frozen BK182.out 4
    have hfz43_5 := blk_frozen BK182.out 5
    have hfz43_6 := blk_frozen BK182.out 6
    go_wp2
    refine bodyPost_ret (results_cell_row rfl _ _ gb182 24 #[.int .i64 x195000_1, .int .i64 x195001_1, .int .i64 x195002_1, .int .i64 x195003_1, .int .i64 x195004_1, .int .i64 x195005_1, .int .i64 x195006_1] (0, 0) _ rfl z11x0 Try.underlying24 rfl (by kernel_rfl)) rfl ?_
    exact ⟨by first | rfl | (simp [errW_none, errW_some] <;> rfl) | (simp [*, errW_none, errW_some] <;> rfl), by repeat (first | (with_reducible first | exact HB.out | apply below_alloc | apply pw_below_drewN | apply below_drew1 | refine below_set ?_ (IsS80.ge HI185.out) | refine below_set ?_ GE182.out | refine below_set ?_ GE194.out) | exact HB.out)⟩

end Go.Proofs.Ytbiknbjcidlabaa.Hp
