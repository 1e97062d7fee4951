-- hp.py
import Derived.Test.YtbipicjijbnbbaaDoorHx0
import Derived.Test.YtbipicjijbnbbaaDoorHx13
import Derived.Test.YtbipicjijbnbbaaDoorHx15
import Derived.Test.YtbipicjijbnbbaaDoorHx19
import Derived.Test.YtbipicjijbnbbaaDoorHx20
namespace Go.Proofs.YtbipicjijbnbbaaDoor.Hp
open Go.RowKit Go.Proofs.YtbipicjijbnbbaaDoorW.PrintWords Go.Proofs.YtbipicjijbnbbaaDoorW.PrintLast Go.Proofs.YtbipicjijbnbbaaDoorW.PrintMore
attribute [local go_sem] max2_int min2_int max_two min_two max_three min_three max_four min_four   -- for this text's walks alone
set_option linter.unusedVariables false
set_option linter.unusedSimpArgs false
-- squeezed by wip/tools/squeeze.py
theorem z21x14 {P : Prop} (h : P := by (with_reducible repeat (first | apply Kd.R_alloc | apply Kd.R_drewN | apply Kd.R_drew)); exact HO255.out) : P := h
theorem z21x13 {P : Prop} (h : P := by (with_reducible repeat (first | refine blk_drewN ?_ _ | refine blk_drew ?_ | refine blk_alloc ?_ _)); exact BK268.out) : P := h
theorem z21x12 {P : Prop} (h : P := by (with_reducible repeat (first | refine blk_drewN ?_ _ | refine blk_drew ?_ | refine blk_alloc ?_ _)); exact BK252.out) : P := h
theorem z21x11 {P : Prop} (h : P := by repeat (first | (with_reducible first | exact HB.out | apply below_alloc | apply pw_below_drewN | apply below_drew1) | exact HB.out)) : P := h
theorem z21x10 {P : Prop} (h : P := by (try simp only [List.map_toArray, List.map_cons, List.map_nil]); first | done | rfl | (simp only [List.length_drop, List.length_take]; rfl)) : P := h
theorem z21x9 {P : Prop} (h : P := by rw [hg]; exact (below_size (by repeat (first | (with_reducible first | exact HB.out | apply below_alloc | apply pw_below_drewN | apply below_drew1) | exact HB.out)))) : P := h
theorem z21x8 {P : Prop} (h : P := by repeat (first | (with_reducible first | exact HB.out | apply below_alloc | apply pw_below_drewN | apply below_drew1 | refine below_set ?_ GE252.out) | exact HB.out)) : P := h
theorem z21x7 {P : Prop} (h : P := by rw [hg]; exact (below_size (by repeat (first | (with_reducible first | exact HB.out | apply below_alloc | apply pw_below_drewN | apply below_drew1 | refine below_set ?_ GE252.out) | exact HB.out)))) : P := h
theorem z21x6 {P : Prop} (h : P := by repeat (first | (with_reducible first | exact HB.out | apply below_alloc | apply pw_below_drewN | apply below_drew1 | refine below_set ?_ GE252.out | refine below_set ?_ GE268.out) | exact HB.out)) : P := h
theorem z21x5 {P : Prop} (h : P := by first | (simp only [putAll, Act.put, List.setIfInBounds_toArray, List.set_cons_zero, List.set_cons_succ]; done) | (simp only [putAll, Act.put, List.setIfInBounds_toArray, List.set_cons_zero, List.set_cons_succ]; rfl)) : P := h
theorem z21x4 {P : Prop} (h : P := by rw [hg]; exact Nat.ne_of_lt (blk_lt (g := gb252) (o := .cells #[.int .i64 0, .int .i64 0, .int .i64 0, .int .i64 0, .int .i64 0, .int .i64 0, .int .i64 0] 24 (0, 0)) (by (with_reducible repeat (first | refine blk_drewN ?_ _ | refine blk_drew ?_ | refine blk_alloc ?_ _)); exact BK252.out))) : P := h
theorem z21x3 {P : Prop} (h : P := by rw [hg]; exact Nat.ne_of_gt (blk_lt (g := gb252) (o := .cells #[.int .i64 0, .int .i64 0, .int .i64 0, .int .i64 0, .int .i64 0, .int .i64 0, .int .i64 0] 24 (0, 0)) (by (with_reducible repeat (first | refine blk_drewN ?_ _ | refine blk_drew ?_ | refine blk_alloc ?_ _)); exact BK252.out))) : P := h
theorem z21x2 {P : Prop} (h : P := by first | exact Kd.own_blk (Kd.R_ne HO255.out BK268.out (by decide)) | (rw [add_block]; exact Kd.own_blk (Kd.R_ne HO255.out BK268.out (by decide))) | (show (Addr.add _ _).block ≠ _; rw [add_block]; exact Kd.own_blk (Kd.R_ne HO255.out BK268.out (by decide))) | (dsimp only; exact Kd.own_blk (Kd.R_ne HO255.out BK268.out (by decide)))) : P := h
theorem z21x1 {P : Prop} (h : P := by (with_reducible repeat (first | apply Kd.R_alloc | apply Kd.R_drewN | apply Kd.R_drew)); exact (Kd.R_mono (Kd.R_far (p := ⟨gb268, 6, none⟩) (Kd.R_far (p := ⟨gb268, 5, none⟩) (Kd.R_far (p := ⟨gb268, 4, none⟩) (Kd.R_far (p := ⟨gb268, 3, none⟩) (Kd.R_far (p := ⟨gb268, 2, none⟩) (Kd.R_far (p := ⟨gb268, 1, none⟩) (Kd.R_far (p := ⟨gb268, 0, none⟩) (Kd.R_types HO255.out BK268.out (by decide)) (fun _ hk => hk.2) (.int .i64 t257)) (fun _ hk => hk.2) (.int .i64 0)) (fun _ hk => hk.2) (.int .i64 t259)) (fun _ hk => hk.2) (.int .i64 t261)) (fun _ hk => hk.2) (.int .i64 t263)) (fun _ hk => hk.2) (.int .i64 t265)) (fun _ hk => hk.2) (.int .i64 t267)) (fun _ h_ => h_.1))) : P := h
theorem z21x0 {P : Prop} (h : P := by (with_reducible repeat (first | refine blk_drewN ?_ _ | refine blk_drew ?_ | refine blk_alloc ?_ _)); refine blk_put (cs := #[.int .i64 0, .int .i64 0, .int .i64 0, .int .i64 0, .int .i64 0, .int .i64 0, .int .i64 0]) ?_ 6 _ rfl; (with_reducible repeat (first | refine blk_drewN ?_ _ | refine blk_drew ?_ | refine blk_alloc ?_ _)); refine blk_put (cs := #[.int .i64 0, .int .i64 0, .int .i64 0, .int .i64 0, .int .i64 0, .int .i64 0, .int .i64 0]) ?_ 5 _ rfl; (with_reducible repeat (first | refine blk_drewN ?_ _ | refine blk_drew ?_ | refine blk_alloc ?_ _)); refine blk_put (cs := #[.int .i64 0, .int .i64 0, .int .i64 0, .int .i64 0, .int .i64 0, .int .i64 0, .int .i64 0]) ?_ 4 _ rfl; (with_reducible repeat (first | refine blk_drewN ?_ _ | refine blk_drew ?_ | refine blk_alloc ?_ _)); refine blk_put (cs := #[.int .i64 0, .int .i64 0, .int .i64 0, .int .i64 0, .int .i64 0, .int .i64 0, .int .i64 0]) ?_ 3 _ rfl; (with_reducible repeat (first | refine blk_drewN ?_ _ | refine blk_drew ?_ | refine blk_alloc ?_ _)); refine blk_put (cs := #[.int .i64 0, .int .i64 0, .int .i64 0, .int .i64 0, .int .i64 0, .int .i64 0, .int .i64 0]) ?_ 2 _ rfl; (with_reducible repeat (first | refine blk_drewN ?_ _ | refine blk_drew ?_ | refine blk_alloc ?_ _)); refine blk_put (cs := #[.int .i64 0, .int .i64 0, .int .i64 0, .int .i64 0, .int .i64 0, .int .i64 0, .int .i64 0]) ?_ 1 _ rfl; (with_reducible repeat (first | refine blk_drewN ?_ _ | refine blk_drew ?_ | refine blk_alloc ?_ _)); refine blk_put (cs := #[.int .i64 0, .int .i64 0, .int .i64 0, .int .i64 0, .int .i64 0, .int .i64 0, .int .i64 0]) ?_ 0 _ rfl; (with_reducible repeat (first | refine blk_drewN ?_ _ | refine blk_drew ?_ | refine blk_alloc ?_ _)); exact BK252.out) : P := h

/-! ### spec_SealRead: function 11 -/
def spec_SealRead.l0 : Nat → ByteArray → List ByteArray → List ByteArray → Int → Int → Int → Int → Int → Int → Int → Int → Option (Int × Int × Int × Int × Int × Int × Int × Bool)
 | 0, _, _, _, _, _, _, _, _, _, _, _ => none
 | k + 1, x0, x4, x6, x7, x269000, x269001, x269002, x269003, x269004, x269005, x269006 => if x7 < (x6.length : Int) then (if 0 ≤ x7 then (if 0 < (x4.length : Int) then (if (rdOf ByteArray.empty x6 x7).toList = (rdOf ByteArray.empty x4 0).toList then (spec_SealRead.l0 k x0 x4 x6 (wrap64 (x7 + 1)) x269000 x7 x269002 x269003 x269004 x269005 x269006) else (spec_SealRead.l0 k x0 x4 x6 (wrap64 (x7 + 1)) x269000 x269001 x269002 x269003 x269004 x269005 x269006)) else (none)) else (none)) else ((spec_SealText.f k x269000 x269001 x269002 x269003 x269004 x269005 x269006).bind fun t274 => (if t274.toList = x0.toList then (some (x269000, x269001, x269002, x269003, x269004, x269005, x269006, true)) else (some (0, 0, 0, 0, 0, 0, 0, false))))
def spec_SealRead.f (k : Nat) (a0 : ByteArray) : Option (Int × Int × Int × Int × Int × Int × Int × Bool) := if (a0.size : Int) > 60 then (some (0, 0, 0, 0, 0, 0, 0, false)) else ((spec_l1Cut.f a0 32).bind fun t253 => (if (t253.length : Int) = 7 then (if 1 < (t253.length : Int) then ((spec_l1Dec.f k (rdOf ByteArray.empty t253 1)).bind fun t257 => (if 2 < (t253.length : Int) then ((spec_l1Dec.f k (rdOf ByteArray.empty t253 2)).bind fun t259 => (if 3 < (t253.length : Int) then ((spec_l1Dec.f k (rdOf ByteArray.empty t253 3)).bind fun t261 => (if 4 < (t253.length : Int) then ((spec_l1Dec.f k (rdOf ByteArray.empty t253 4)).bind fun t263 => (if 5 < (t253.length : Int) then ((spec_l1Dec.f k (rdOf ByteArray.empty t253 5)).bind fun t265 => (if 6 < (t253.length : Int) then ((spec_l1Dec.f k (rdOf ByteArray.empty t253 6)).bind fun t267 => ((spec_l1Names.f).bind fun t269 => (spec_SealRead.l0 k a0 t253 t269 1 t257 0 t259 t261 t263 t265 t267))) else (none))) else (none))) else (none))) else (none))) else (none))) else (none)) else (some (0, 0, 0, 0, 0, 0, 0, false))))
theorem spec_SealRead.mono_l : ∀ k, (∀ y0 y1 y2 y3 y4 y5 y6 y7 y8 y9 y10, LeO (spec_SealRead.l0 k y0 y1 y2 y3 y4 y5 y6 y7 y8 y9 y10) (spec_SealRead.l0 (k + 1) y0 y1 y2 y3 y4 y5 y6 y7 y8 y9 y10))
 | 0 => fun _ _ _ _ _ _ _ _ _ _ _ r h => by simp [spec_SealRead.l0] at h
 | k + 1 => by
  have ih0 := spec_SealRead.mono_l k
  ·intro y0 y1 y2 y3 y4 y5 y6 y7 y8 y9 y10
   unfold spec_SealRead.l0
   repeat' first
   | (with_reducible exact ih0 _ _ _ _ _ _ _ _ _ _ _)
   | (with_reducible exact spec_SealText.mono _ _ _ _ _ _ _ _)
   | (with_reducible exact spec_l1Dec.mono _ _)
   | (with_reducible exact LeO.refl _)
   | (with_reducible exact LeO.none _)
   | (with_reducible refine LeO.ite ?_ ?_)
   | (with_reducible refine LeO.bind ?_ (fun _ => ?_))
   | exact ih0 _ _ _ _ _ _ _ _ _ _ _
   | exact spec_SealText.mono _ _ _ _ _ _ _ _
   | exact spec_l1Dec.mono _ _
   | exact LeO.none _
   | refine LeO.ite ?_ ?_
   | refine LeO.bind ?_ (fun _ => ?_)
theorem spec_SealRead.mono : ∀ a0 k, LeO (spec_SealRead.f k a0) (spec_SealRead.f (k + 1) a0) := by
 intro a0 k
 have ih0 := spec_SealRead.mono_l k
 unfold spec_SealRead.f
 repeat' first
   | (with_reducible exact ih0 _ _ _ _ _ _ _ _ _ _ _)
   | (with_reducible exact spec_SealText.mono _ _ _ _ _ _ _ _)
   | (with_reducible exact spec_l1Dec.mono _ _)
   | (with_reducible exact LeO.refl _)
   | (with_reducible exact LeO.none _)
   | (with_reducible refine LeO.ite ?_ ?_)
   | (with_reducible refine LeO.bind ?_ (fun _ => ?_))
   | exact ih0 _ _ _ _ _ _ _ _ _ _ _
   | exact spec_SealText.mono _ _ _ _ _ _ _ _
   | exact spec_l1Dec.mono _ _
   | exact LeO.none _
   | refine LeO.ite ?_ ?_
   | refine LeO.bind ?_ (fun _ => ?_)
def spec_SealRead.T6 : Bool × List (List Nat × List Nat) := (true, [([], []), ([0], [0]), ([1], [1]), ([2], [2]), ([], []), ([4], [4]), ([5], [5]), ([6, 3], [6]), ([], []), ([8], [8]), ([9], [9]), ([10, 7], [10]), ([], []), ([12], [12]), ([13], [13]), ([14, 11], [14]), ([], []), ([16], [16]), ([17], [17]), ([18, 15], [18]), ([], []), ([20], [20]), ([21], [21]), ([22, 19], [22]), ([3, 7, 11, 15, 19, 23], [3, 7, 11, 15, 19, 23]), ([], []), ([25, 24, 23, 0, 1, 2, 3, 4, 5, 6, 7, 8, 9, 10, 11, 12, 13, 14, 15, 16, 17, 18, 19, 20, 21, 22, 23, 24, 25], [24, 25])])
def spec_SealRead.B6 : List Nat := [0, 1, 3, 7, 0, 16, 48, 127, 0, 256, 768, 2047, 0, 4096, 12288, 32767, 0, 65536, 196608, 524287, 0, 1048576, 3145728, 8388607, 16777215, 0, 67108863]
theorem spec_SealRead.tab6 : rtab .any (opsOf Tryd.f11 6) = spec_SealRead.T6 := by kernel_rfl
theorem spec_SealRead.bits6 : waitsOk spec_SealRead.T6.2 spec_SealRead.B6 = true := by kernel_rfl
def spec_SealRead.T11 : Bool × List (List Nat × List Nat) := (true, [([], []), ([], []), ([0, 1], [0, 1]), ([2], [2]), ([], []), ([4], [4]), ([5], [5]), ([3, 6], [3, 6])])
def spec_SealRead.B11 : List Nat := [0, 0, 3, 7, 0, 16, 48, 127]
theorem spec_SealRead.tab11 : rtab .any (opsOf Tryd.f11 11) = spec_SealRead.T11 := by kernel_rfl
theorem spec_SealRead.bits11 : waitsOk spec_SealRead.T11.2 spec_SealRead.B11 = true := by kernel_rfl
set_option maxHeartbeats 8000000 in
set_option maxRecDepth 100000 in
theorem spec_SealRead.calls (k : Nat) (a0 : ByteArray) (r1 : Int) (r2 : Int) (r3 : Int) (r4 : Int) (r5 : Int) (r6 : Int) (r7 : Int) (r8 : Bool) (w : World) (h : spec_SealRead.f k a0 = some (r1, r2, r3, r4, r5, r6, r7, r8)) :
  Calls Tryd.prog 11 #[.string a0] w fun e w' => e = .returned (.tuple #[.agg #[.int .i64 r1, .int .i64 r2, .int .i64 r3, .int .i64 r4, .int .i64 r5, .int .i64 r6, .int .i64 r7], .bool r8]) ∧ Below w.heap.size w w' := by
 have hu24 := Tryd.underlying24
 have HB := Aside0.mk (Below.refl w.heap.size w)
 have H : (if (a0.size : Int) > 60 then (some (0, 0, 0, 0, 0, 0, 0, false)) else ((spec_l1Cut.f a0 32).bind fun t253 => (if (t253.length : Int) = 7 then (if 1 < (t253.length : Int) then ((spec_l1Dec.f k (rdOf ByteArray.empty t253 1)).bind fun t257 => (if 2 < (t253.length : Int) then ((spec_l1Dec.f k (rdOf ByteArray.empty t253 2)).bind fun t259 => (if 3 < (t253.length : Int) then ((spec_l1Dec.f k (rdOf ByteArray.empty t253 3)).bind fun t261 => (if 4 < (t253.length : Int) then ((spec_l1Dec.f k (rdOf ByteArray.empty t253 4)).bind fun t263 => (if 5 < (t253.length : Int) then ((spec_l1Dec.f k (rdOf ByteArray.empty t253 5)).bind fun t265 => (if 6 < (t253.length : Int) then ((spec_l1Dec.f k (rdOf ByteArray.empty t253 6)).bind fun t267 => ((spec_l1Names.f).bind fun t269 => (spec_SealRead.l0 k a0 t253 t269 1 t257 0 t259 t261 t263 t265 t267))) else (none))) else (none))) else (none))) else (none))) else (none))) else (none)) else (some (0, 0, 0, 0, 0, 0, 0, false))))) = some (r1, r2, r3, r4, r5, r6, r7, r8) := h
 clear h
 by_cases c2 : (a0.size : Int) > 60
 ·rw [if_pos c2] at H
  have c2b0 : decide (60 < (a0.size : Int)) = true := decide_eq_true c2
  have c2b1 : decide (60 < a0.size) = true := decide_eq_true (by omega)
  clear c2
  simp only [Option.some.injEq, Prod.mk.injEq] at H
  obtain ⟨rfl, rfl, rfl, rfl, rfl, rfl, rfl, rfl⟩ := H
  go_enter Tryd.func11, Tryd.ntmps11
  go_wp2_with (first | ((with_reducible refine gate_dst (N := 2) rfl ?_); refine box_event ?hg (N := 2) ?hd (cs := #[.int .i64 0, .int .i64 0, .int .i64 0, .int .i64 0, .int .i64 0, .int .i64 0, .int .i64 0]) (t := 24) ?hr ?_; (case hd => rfl); (case hg => rfl); (case hr => first | (go_simp; done) | (go_simp; rfl)); intro gb252 hg w3 hbox hb; have n0_ := Aside0.mk (below_step z21x11 hb); have n1_ := Aside0.mk (hbox); have n2_ := Aside0.mk ((z21x9 : w.heap.size ≤ gb252)); have n3_ := Aside0.mk ((z21x9 : w.heap.size ≤ gb252)); clear HB; have HB := n0_; have BK252 := n1_; have GW252 := n2_; have GE252 := n3_; clear n0_ n1_ n2_ n3_; clear hb hbox hg; have hcz4_0 : w3.cell? ⟨gb252, 0, none⟩ = some (.int .i64 0) := (blk_cell BK252.out 0).trans rfl; have hcz4_1 : w3.cell? ⟨gb252, 1, none⟩ = some (.int .i64 0) := (blk_cell BK252.out 1).trans rfl; have hcz4_2 : w3.cell? ⟨gb252, 2, none⟩ = some (.int .i64 0) := (blk_cell BK252.out 2).trans rfl; have hcz4_3 : w3.cell? ⟨gb252, 3, none⟩ = some (.int .i64 0) := (blk_cell BK252.out 3).trans rfl; have hcz4_4 : w3.cell? ⟨gb252, 4, none⟩ = some (.int .i64 0) := (blk_cell BK252.out 4).trans rfl; have hcz4_5 : w3.cell? ⟨gb252, 5, none⟩ = some (.int .i64 0) := (blk_cell BK252.out 5).trans rfl; have hcz4_6 : w3.cell? ⟨gb252, 6, none⟩ = some (.int .i64 0) := (blk_cell BK252.out 6).trans rfl; have hfz4_0 := blk_frozen BK252.out 0; have hfz4_1 := blk_frozen BK252.out 1; have hfz4_2 := blk_frozen BK252.out 2; have hfz4_3 := blk_frozen BK252.out 3; have hfz4_4 := blk_frozen BK252.out 4; have hfz4_5 := blk_frozen BK252.out 5; have hfz4_6 := blk_frozen BK252.out 6))
  refine bodyPost_ret (results_ct rfl _ _ gb252 24 #[.int .i64 0, .int .i64 0, .int .i64 0, .int .i64 0, .int .i64 0, .int .i64 0, .int .i64 0] (0, 0) _ rfl z21x0 Tryd.underlying24 rfl (by kernel_rfl)) rfl ?_
  exact ⟨by first | rfl | (simp [errW_none, errW_some] <;> rfl) | (simp [*, errW_none, errW_some] <;> rfl), by repeat (first | (with_reducible first | exact HB.out | apply below_alloc | apply pw_below_drewN | apply below_drew1 | refine below_set ?_ GE252.out) | exact HB.out)⟩
 ·rw [if_neg c2] at H
  have c2b0 : decide (60 < (a0.size : Int)) = false := decide_eq_false c2
  have c2b1 : decide (60 < a0.size) = false := decide_eq_false (by omega)
  clear c2
  replace H := Option.bind_eq_some_iff.mp H
  obtain ⟨t253, A50, H⟩ := H
  replace H : (if (t253.length : Int) = 7 then (if 1 < (t253.length : Int) then ((spec_l1Dec.f k (rdOf ByteArray.empty t253 1)).bind fun t257 => (if 2 < (t253.length : Int) then ((spec_l1Dec.f k (rdOf ByteArray.empty t253 2)).bind fun t259 => (if 3 < (t253.length : Int) then ((spec_l1Dec.f k (rdOf ByteArray.empty t253 3)).bind fun t261 => (if 4 < (t253.length : Int) then ((spec_l1Dec.f k (rdOf ByteArray.empty t253 4)).bind fun t263 => (if 5 < (t253.length : Int) then ((spec_l1Dec.f k (rdOf ByteArray.empty t253 5)).bind fun t265 => (if 6 < (t253.length : Int) then ((spec_l1Dec.f k (rdOf ByteArray.empty t253 6)).bind fun t267 => ((spec_l1Names.f).bind fun t269 => (spec_SealRead.l0 k a0 t253 t269 1 t257 0 t259 t261 t263 t265 t267))) else (none))) else (none))) else (none))) else (none))) else (none))) else (none)) else (some (0, 0, 0, 0, 0, 0, 0, false))) = some (r1, r2, r3, r4, r5, r6, r7, r8) := H
  have A5 := Aside0.mk A50
  clear A50
  by_cases c6 : (t253.length : Int) = 7
  ·rw [if_pos c6] at H
   have c6b0 : ((t253.length : Int) == 7) = true := beq_iff_eq.mpr c6
   have c6b1 : ((t253.length : Int) != 7) = false := bne_eq_false_iff_eq.mpr c6
   clear c6
   by_cases c7 : 1 < (t253.length : Int)
   ·rw [if_pos c7] at H
    have c7b0 : decide (1 < (t253.length : Int)) = true := decide_eq_true c7
    have c7b1 : decide (1 < t253.length) = true := decide_eq_true (by omega)
    clear c7
    replace H := Option.bind_eq_some_iff.mp H
    obtain ⟨t257, A80, H⟩ := H
    replace H : (if 2 < (t253.length : Int) then ((spec_l1Dec.f k (rdOf ByteArray.empty t253 2)).bind fun t259 => (if 3 < (t253.length : Int) then ((spec_l1Dec.f k (rdOf ByteArray.empty t253 3)).bind fun t261 => (if 4 < (t253.length : Int) then ((spec_l1Dec.f k (rdOf ByteArray.empty t253 4)).bind fun t263 => (if 5 < (t253.length : Int) then ((spec_l1Dec.f k (rdOf ByteArray.empty t253 5)).bind fun t265 => (if 6 < (t253.length : Int) then ((spec_l1Dec.f k (rdOf ByteArray.empty t253 6)).bind fun t267 => ((spec_l1Names.f).bind fun t269 => (spec_SealRead.l0 k a0 t253 t269 1 t257 0 t259 t261 t263 t265 t267))) else (none))) else (none))) else (none))) else (none))) else (none)) = some (r1, r2, r3, r4, r5, r6, r7, r8) := H
    have A8 := Aside0.mk A80
    clear A80
    by_cases c9 : 2 < (t253.length : Int)
    ·rw [if_pos c9] at H
     have c9b0 : decide (2 < (t253.length : Int)) = true := decide_eq_true c9
     have c9b1 : decide (2 < t253.length) = true := decide_eq_true (by omega)
     clear c9
     replace H := Option.bind_eq_some_iff.mp H
     obtain ⟨t259, A100, H⟩ := H
     replace H : (if 3 < (t253.length : Int) then ((spec_l1Dec.f k (rdOf ByteArray.empty t253 3)).bind fun t261 => (if 4 < (t253.length : Int) then ((spec_l1Dec.f k (rdOf ByteArray.empty t253 4)).bind fun t263 => (if 5 < (t253.length : Int) then ((spec_l1Dec.f k (rdOf ByteArray.empty t253 5)).bind fun t265 => (if 6 < (t253.length : Int) then ((spec_l1Dec.f k (rdOf ByteArray.empty t253 6)).bind fun t267 => ((spec_l1Names.f).bind fun t269 => (spec_SealRead.l0 k a0 t253 t269 1 t257 0 t259 t261 t263 t265 t267))) else (none))) else (none))) else (none))) else (none)) = some (r1, r2, r3, r4, r5, r6, r7, r8) := H
     have A10 := Aside0.mk A100
     clear A100
     by_cases c11 : 3 < (t253.length : Int)
     ·rw [if_pos c11] at H
      have c11b0 : decide (3 < (t253.length : Int)) = true := decide_eq_true c11
      have c11b1 : decide (3 < t253.length) = true := decide_eq_true (by omega)
      clear c11
      replace H := Option.bind_eq_some_iff.mp H
      obtain ⟨t261, A120, H⟩ := H
      replace H : (if 4 < (t253.length : Int) then ((spec_l1Dec.f k (rdOf ByteArray.empty t253 4)).bind fun t263 => (if 5 < (t253.length : Int) then ((spec_l1Dec.f k (rdOf ByteArray.empty t253 5)).bind fun t265 => (if 6 < (t253.length : Int) then ((spec_l1Dec.f k (rdOf ByteArray.empty t253 6)).bind fun t267 => ((spec_l1Names.f).bind fun t269 => (spec_SealRead.l0 k a0 t253 t269 1 t257 0 t259 t261 t263 t265 t267))) else (none))) else (none))) else (none)) = some (r1, r2, r3, r4, r5, r6, r7, r8) := H
      have A12 := Aside0.mk A120
      clear A120
      by_cases c13 : 4 < (t253.length : Int)
      ·rw [if_pos c13] at H
       have c13b0 : decide (4 < (t253.length : Int)) = true := decide_eq_true c13
       have c13b1 : decide (4 < t253.length) = true := decide_eq_true (by omega)
       clear c13
       replace H := Option.bind_eq_some_iff.mp H
       obtain ⟨t263, A140, H⟩ := H
       replace H : (if 5 < (t253.length : Int) then ((spec_l1Dec.f k (rdOf ByteArray.empty t253 5)).bind fun t265 => (if 6 < (t253.length : Int) then ((spec_l1Dec.f k (rdOf ByteArray.empty t253 6)).bind fun t267 => ((spec_l1Names.f).bind fun t269 => (spec_SealRead.l0 k a0 t253 t269 1 t257 0 t259 t261 t263 t265 t267))) else (none))) else (none)) = some (r1, r2, r3, r4, r5, r6, r7, r8) := H
       have A14 := Aside0.mk A140
       clear A140
       by_cases c15 : 5 < (t253.length : Int)
       ·rw [if_pos c15] at H
        have c15b0 : decide (5 < (t253.length : Int)) = true := decide_eq_true c15
        have c15b1 : decide (5 < t253.length) = true := decide_eq_true (by omega)
        clear c15
        replace H := Option.bind_eq_some_iff.mp H
        obtain ⟨t265, A160, H⟩ := H
        replace H : (if 6 < (t253.length : Int) then ((spec_l1Dec.f k (rdOf ByteArray.empty t253 6)).bind fun t267 => ((spec_l1Names.f).bind fun t269 => (spec_SealRead.l0 k a0 t253 t269 1 t257 0 t259 t261 t263 t265 t267))) else (none)) = some (r1, r2, r3, r4, r5, r6, r7, r8) := H
        have A16 := Aside0.mk A160
        clear A160
        by_cases c17 : 6 < (t253.length : Int)
        ·rw [if_pos c17] at H
         have c17b0 : decide (6 < (t253.length : Int)) = true := decide_eq_true c17
         have c17b1 : decide (6 < t253.length) = true := decide_eq_true (by omega)
         clear c17
         replace H := Option.bind_eq_some_iff.mp H
         obtain ⟨t267, A180, H⟩ := H
         replace H : ((spec_l1Names.f).bind fun t269 => (spec_SealRead.l0 k a0 t253 t269 1 t257 0 t259 t261 t263 t265 t267)) = some (r1, r2, r3, r4, r5, r6, r7, r8) := H
         have A18 := Aside0.mk A180
         clear A180
         replace H := Option.bind_eq_some_iff.mp H
         obtain ⟨t269, A190, H⟩ := H
         replace H : (spec_SealRead.l0 k a0 t253 t269 1 t257 0 t259 t261 t263 t265 t267) = some (r1, r2, r3, r4, r5, r6, r7, r8) := H
         have A19 := Aside0.mk A190
         clear A190
         have H' := Aside0.mk H
         clear H
         go_enter Tryd.func11, Tryd.ntmps11
         try go_wp2_with (first | ((with_reducible refine gate_dst (N := 2) rfl ?_); refine box_event ?hg (N := 2) ?hd (cs := #[.int .i64 0, .int .i64 0, .int .i64 0, .int .i64 0, .int .i64 0, .int .i64 0, .int .i64 0]) (t := 24) ?hr ?_; (case hd => rfl); (case hg => rfl); (case hr => first | (go_simp; done) | (go_simp; rfl)); intro gb252 hg w20 hbox hb; have n0_ := Aside0.mk (below_step z21x11 hb); have n1_ := Aside0.mk (hbox); have n2_ := Aside0.mk ((z21x9 : w.heap.size ≤ gb252)); have n3_ := Aside0.mk ((z21x9 : w.heap.size ≤ gb252)); clear HB; have HB := n0_; have BK252 := n1_; have GW252 := n2_; have GE252 := n3_; clear n0_ n1_ n2_ n3_; clear hb hbox hg) | ((with_reducible refine gate_callee (f := 24) rfl ?_); refine goesL_ (some 13) rfl rfl Tryd.func24 (by kernel_rfl) rfl #[.string a0, .int .u8 32] rfl z21x10 ?_; (with_reducible refine (spec_l1Cut.calls a0 32 t253 _ A5.out).mono ?_); rintro e w21 ⟨v254, rfl, ho0, hb⟩; refine ⟨_, rfl, ?_⟩; have n0_ := Aside0.mk (Kd.R_lower ho0 (below_size z21x8)); have n1_ := Aside0.mk (blk_below (g := gb252) (o := .cells #[.int .i64 0, .int .i64 0, .int .i64 0, .int .i64 0, .int .i64 0, .int .i64 0, .int .i64 0] 24 (0, 0)) z21x12 hb); have n2_ := Aside0.mk (below_step z21x8 hb); clear BK252; clear HB; have HO255 := n0_; have BK252 := n1_; have HB := n2_; clear n0_ n1_ n2_; (try clear hb); (try clear hb2); (try clear hk); (try clear hi); (try clear ho0); obtain ⟨Ao22, co22, eo22⟩ := Kd.R_slice HO255.out; subst eo22))
         have n0_ := Aside0.mk (Kd.R_drew HO255.out)
         have n1_ := Aside0.mk (blk_drew BK252.out)
         have n2_ := Aside0.mk (below_drew1 HB.out)
         clear HO255
         clear BK252
         clear HB
         have HO255 := n0_
         have BK252 := n1_
         have HB := n2_
         clear n0_ n1_ n2_
         have p256 : 0 ≤ (1 : Int) := (by omega)
         have q256 : 1 < (t253.length : Int) := of_decide_eq_true (by first | (with_reducible assumption) | assumption)
         obtain ⟨ad256, e256, hx256_0⟩ := Kd.at_string (Kd.R_reads' HO255.out).2.2 1 p256 q256
         cases e256
         (try simp only [show (1 : Int).toNat = 1 from rfl, Nat.reduceMul, Nat.reduceEqDiff, Go.Addr.add, ↓reduceIte] at hx256_0)
         have qi256 : (1 < t253.length) = True := eq_true (by omega)
         (try rw [show ((1 : Int)).toNat = 1 from rfl] at hx256_0)
         replace p256 := eq_true p256
         replace q256 := eq_true q256
         have p258 : 0 ≤ (2 : Int) := (by omega)
         have q258 : 2 < (t253.length : Int) := of_decide_eq_true (by first | (with_reducible assumption) | assumption)
         obtain ⟨ad258, e258, hx258_0⟩ := Kd.at_string (Kd.R_reads' HO255.out).2.2 2 p258 q258
         obtain rfl : ad256 = ad258 := (by injection e258)
         (try simp only [show (2 : Int).toNat = 2 from rfl, Nat.reduceMul, Nat.reduceEqDiff, Go.Addr.add, ↓reduceIte] at hx258_0)
         have qi258 : (2 < t253.length) = True := eq_true (by omega)
         (try rw [show ((2 : Int)).toNat = 2 from rfl] at hx258_0)
         replace p258 := eq_true p258
         replace q258 := eq_true q258
         have p260 : 0 ≤ (3 : Int) := (by omega)
         have q260 : 3 < (t253.length : Int) := of_decide_eq_true (by first | (with_reducible assumption) | assumption)
         obtain ⟨ad260, e260, hx260_0⟩ := Kd.at_string (Kd.R_reads' HO255.out).2.2 3 p260 q260
         obtain rfl : ad256 = ad260 := (by injection e260)
         (try simp only [show (3 : Int).toNat = 3 from rfl, Nat.reduceMul, Nat.reduceEqDiff, Go.Addr.add, ↓reduceIte] at hx260_0)
         have qi260 : (3 < t253.length) = True := eq_true (by omega)
         (try rw [show ((3 : Int)).toNat = 3 from rfl] at hx260_0)
         replace p260 := eq_true p260
         replace q260 := eq_true q260
         have p262 : 0 ≤ (4 : Int) := (by omega)
         have q262 : 4 < (t253.length : Int) := of_decide_eq_true (by first | (with_reducible assumption) | assumption)
         obtain ⟨ad262, e262, hx262_0⟩ := Kd.at_string (Kd.R_reads' HO255.out).2.2 4 p262 q262
         obtain rfl : ad256 = ad262 := (by injection e262)
         (try simp only [show (4 : Int).toNat = 4 from rfl, Nat.reduceMul, Nat.reduceEqDiff, Go.Addr.add, ↓reduceIte] at hx262_0)
         have qi262 : (4 < t253.length) = True := eq_true (by omega)
         (try rw [show ((4 : Int)).toNat = 4 from rfl] at hx262_0)
         replace p262 := eq_true p262
         replace q262 := eq_true q262
         have p264 : 0 ≤ (5 : Int) := (by omega)
         have q264 : 5 < (t253.length : Int) := of_decide_eq_true (by first | (with_reducible assumption) | assumption)
         obtain ⟨ad264, e264, hx264_0⟩ := Kd.at_string (Kd.R_reads' HO255.out).2.2 5 p264 q264
         obtain rfl : ad256 = ad264 := (by injection e264)
         (try simp only [show (5 : Int).toNat = 5 from rfl, Nat.reduceMul, Nat.reduceEqDiff, Go.Addr.add, ↓reduceIte] at hx264_0)
         have qi264 : (5 < t253.length) = True := eq_true (by omega)
         (try rw [show ((5 : Int)).toNat = 5 from rfl] at hx264_0)
         replace p264 := eq_true p264
         replace q264 := eq_true q264
         have p266 : 0 ≤ (6 : Int) := (by omega)
         have q266 : 6 < (t253.length : Int) := of_decide_eq_true (by first | (with_reducible assumption) | assumption)
         obtain ⟨ad266, e266, hx266_0⟩ := Kd.at_string (Kd.R_reads' HO255.out).2.2 6 p266 q266
         obtain rfl : ad256 = ad266 := (by injection e266)
         (try simp only [show (6 : Int).toNat = 6 from rfl, Nat.reduceMul, Nat.reduceEqDiff, Go.Addr.add, ↓reduceIte] at hx266_0)
         have qi266 : (6 < t253.length) = True := eq_true (by omega)
         (try rw [show ((6 : Int)).toNat = 6 from rfl] at hx266_0)
         replace p266 := eq_true p266
         replace q266 := eq_true q266
         refine start_ (n := 27) (S := fun w' => w'.cell? ⟨ad256.block, ad256.off + 1, none⟩ = some (.string (rdOf ByteArray.empty t253 1)) ∧ w'.cell? ⟨ad256.block, ad256.off + 2, none⟩ = some (.string (rdOf ByteArray.empty t253 2)) ∧ w'.cell? ⟨ad256.block, ad256.off + 3, none⟩ = some (.string (rdOf ByteArray.empty t253 3)) ∧ w'.cell? ⟨ad256.block, ad256.off + 4, none⟩ = some (.string (rdOf ByteArray.empty t253 4)) ∧ w'.cell? ⟨ad256.block, ad256.off + 5, none⟩ = some (.string (rdOf ByteArray.empty t253 5)) ∧ w'.cell? ⟨ad256.block, ad256.off + 6, none⟩ = some (.string (rdOf ByteArray.empty t253 6))) (ds := []) #[false, false, false, false, false, false, false, false, false, false, false, false, false, false, false, false, false, false, false, false, false, false, false, false, false, false, false] (by kernel_rfl) rfl rfl ⟨hx256_0, hx258_0, hx260_0, hx262_0, hx264_0, hx266_0⟩ (fun hHeld => ?_); refine with_tabW spec_SealRead.tab6 spec_SealRead.bits6 (fun HT_ HW_ => ?_)
         generalize w21.drew = w23 at HO255 BK252 HB hx256_0 hx258_0 hx260_0 hx262_0 hx264_0 hx266_0 hHeld ⊢
         refine pure_ (i := 0) (N := some 18) (v := ?_) (a' := ?_) #[true, false, false, false, false, false, false, false, false, false, false, false, false, false, false, false, false, false, false, false, false, false, false, false, false, false, false] rfl rfl (any_of HT_.out (by kernel_rfl)) (fun _ _ _ h => h) (Or.inl ⟨by rfl, ?_⟩) ?_ ?_
         rotate_left
         ·intro w'
          go_simp
          with_reducible rfl
         rotate_left
         ·simp only [Act.put, List.setIfInBounds_toArray, List.set_cons_zero, List.set_cons_succ, i64_w, i32_w]
          rfl
         refine pure_ (i := 1) (N := some 19) (v := ?_) (a' := ?_) #[true, true, false, false, false, false, false, false, false, false, false, false, false, false, false, false, false, false, false, false, false, false, false, false, false, false, false] rfl rfl (any_of HT_.out (by kernel_rfl)) (fun _ _ _ h => h) (Or.inl ⟨by rfl, ?_⟩) ?_ ?_
         rotate_left
         ·intro w'
          go_simp
          with_reducible rfl
         rotate_left
         ·simp only [Act.put, List.setIfInBounds_toArray, List.set_cons_zero, List.set_cons_succ, i64_w, i32_w]
          rfl
         refine pure_ (i := 4) (N := some 22) (v := ?_) (a' := ?_) #[true, true, false, false, true, false, false, false, false, false, false, false, false, false, false, false, false, false, false, false, false, false, false, false, false, false, false] rfl rfl (any_of HT_.out (by kernel_rfl)) (fun _ _ _ h => h) (Or.inl ⟨by rfl, ?_⟩) ?_ ?_
         rotate_left
         ·intro w'
          go_simp
          with_reducible rfl
         rotate_left
         ·simp only [Act.put, List.setIfInBounds_toArray, List.set_cons_zero, List.set_cons_succ, i64_w, i32_w]
          rfl
         refine pure_ (i := 5) (N := some 23) (v := ?_) (a' := ?_) #[true, true, false, false, true, true, false, false, false, false, false, false, false, false, false, false, false, false, false, false, false, false, false, false, false, false, false] rfl rfl (any_of HT_.out (by kernel_rfl)) (fun _ _ _ h => h) (Or.inl ⟨by rfl, ?_⟩) ?_ ?_
         rotate_left
         ·intro w'
          go_simp
          with_reducible rfl
         rotate_left
         ·simp only [Act.put, List.setIfInBounds_toArray, List.set_cons_zero, List.set_cons_succ, i64_w, i32_w]
          rfl
         refine pure_ (i := 8) (N := some 26) (v := ?_) (a' := ?_) #[true, true, false, false, true, true, false, false, true, false, false, false, false, false, false, false, false, false, false, false, false, false, false, false, false, false, false] rfl rfl (any_of HT_.out (by kernel_rfl)) (fun _ _ _ h => h) (Or.inl ⟨by rfl, ?_⟩) ?_ ?_
         rotate_left
         ·intro w'
          go_simp
          with_reducible rfl
         rotate_left
         ·simp only [Act.put, List.setIfInBounds_toArray, List.set_cons_zero, List.set_cons_succ, i64_w, i32_w]
          rfl
         refine pure_ (i := 9) (N := some 27) (v := ?_) (a' := ?_) #[true, true, false, false, true, true, false, false, true, true, false, false, false, false, false, false, false, false, false, false, false, false, false, false, false, false, false] rfl rfl (any_of HT_.out (by kernel_rfl)) (fun _ _ _ h => h) (Or.inl ⟨by rfl, ?_⟩) ?_ ?_
         rotate_left
         ·intro w'
          go_simp
          with_reducible rfl
         rotate_left
         ·simp only [Act.put, List.setIfInBounds_toArray, List.set_cons_zero, List.set_cons_succ, i64_w, i32_w]
          rfl
         refine pure_ (i := 12) (N := some 30) (v := ?_) (a' := ?_) #[true, true, false, false, true, true, false, false, true, true, false, false, true, false, false, false, false, false, false, false, false, false, false, false, false, false, false] rfl rfl (any_of HT_.out (by kernel_rfl)) (fun _ _ _ h => h) (Or.inl ⟨by rfl, ?_⟩) ?_ ?_
         rotate_left
         ·intro w'
          go_simp
          with_reducible rfl
         rotate_left
         ·simp only [Act.put, List.setIfInBounds_toArray, List.set_cons_zero, List.set_cons_succ, i64_w, i32_w]
          rfl
         refine pure_ (i := 13) (N := some 31) (v := ?_) (a' := ?_) #[true, true, false, false, true, true, false, false, true, true, false, false, true, true, false, false, false, false, false, false, false, false, false, false, false, false, false] rfl rfl (any_of HT_.out (by kernel_rfl)) (fun _ _ _ h => h) (Or.inl ⟨by rfl, ?_⟩) ?_ ?_
         rotate_left
         ·intro w'
          go_simp
          with_reducible rfl
         rotate_left
         ·simp only [Act.put, List.setIfInBounds_toArray, List.set_cons_zero, List.set_cons_succ, i64_w, i32_w]
          rfl
         refine pure_ (i := 16) (N := some 34) (v := ?_) (a' := ?_) #[true, true, false, false, true, true, false, false, true, true, false, false, true, true, false, false, true, false, false, false, false, false, false, false, false, false, false] rfl rfl (any_of HT_.out (by kernel_rfl)) (fun _ _ _ h => h) (Or.inl ⟨by rfl, ?_⟩) ?_ ?_
         rotate_left
         ·intro w'
          go_simp
          with_reducible rfl
         rotate_left
         ·simp only [Act.put, List.setIfInBounds_toArray, List.set_cons_zero, List.set_cons_succ, i64_w, i32_w]
          rfl
         refine pure_ (i := 17) (N := some 35) (v := ?_) (a' := ?_) #[true, true, false, false, true, true, false, false, true, true, false, false, true, true, false, false, true, true, false, false, false, false, false, false, false, false, false] rfl rfl (any_of HT_.out (by kernel_rfl)) (fun _ _ _ h => h) (Or.inl ⟨by rfl, ?_⟩) ?_ ?_
         rotate_left
         ·intro w'
          go_simp
          with_reducible rfl
         rotate_left
         ·simp only [Act.put, List.setIfInBounds_toArray, List.set_cons_zero, List.set_cons_succ, i64_w, i32_w]
          rfl
         refine pure_ (i := 20) (N := some 38) (v := ?_) (a' := ?_) #[true, true, false, false, true, true, false, false, true, true, false, false, true, true, false, false, true, true, false, false, true, false, false, false, false, false, false] rfl rfl (any_of HT_.out (by kernel_rfl)) (fun _ _ _ h => h) (Or.inl ⟨by rfl, ?_⟩) ?_ ?_
         rotate_left
         ·intro w'
          go_simp
          with_reducible rfl
         rotate_left
         ·simp only [Act.put, List.setIfInBounds_toArray, List.set_cons_zero, List.set_cons_succ, i64_w, i32_w]
          rfl
         refine pure_ (i := 21) (N := some 39) (v := ?_) (a' := ?_) #[true, true, false, false, true, true, false, false, true, true, false, false, true, true, false, false, true, true, false, false, true, true, false, false, false, false, false] rfl rfl (any_of HT_.out (by kernel_rfl)) (fun _ _ _ h => h) (Or.inl ⟨by rfl, ?_⟩) ?_ ?_
         rotate_left
         ·intro w'
          go_simp
          with_reducible rfl
         rotate_left
         ·simp only [Act.put, List.setIfInBounds_toArray, List.set_cons_zero, List.set_cons_succ, i64_w, i32_w]
          rfl
         refine take_ (i := 2) (N := some 20) (v := ?_) (a' := ?_) #[true, true, true, false, true, true, false, false, true, true, false, false, true, true, false, false, true, true, false, false, true, true, false, false, false, false, false] rfl rfl (take_ofW HT_.out HW_.out (by kernel_rfl)) (fun _ _ _ h => h) (Or.inl ⟨by rfl, ?_⟩) hHeld ?_ ?_
         rotate_left
         ·rintro w' ⟨s0, s1, s2, s3, s4, s5⟩
          go_simp
          with_reducible rfl
         rotate_left
         ·simp only [Act.put, List.setIfInBounds_toArray, List.set_cons_zero, List.set_cons_succ, i64_w, i32_w]
          rfl
         refine take_ (i := 6) (N := some 24) (v := ?_) (a' := ?_) #[true, true, true, false, true, true, true, false, true, true, false, false, true, true, false, false, true, true, false, false, true, true, false, false, false, false, false] rfl rfl (take_ofW HT_.out HW_.out (by kernel_rfl)) (fun _ _ _ h => h) (Or.inl ⟨by rfl, ?_⟩) hHeld ?_ ?_
         rotate_left
         ·rintro w' ⟨s0, s1, s2, s3, s4, s5⟩
          go_simp
          with_reducible rfl
         rotate_left
         ·simp only [Act.put, List.setIfInBounds_toArray, List.set_cons_zero, List.set_cons_succ, i64_w, i32_w]
          rfl
         refine take_ (i := 10) (N := some 28) (v := ?_) (a' := ?_) #[true, true, true, false, true, true, true, false, true, true, true, false, true, true, false, false, true, true, false, false, true, true, false, false, false, false, false] rfl rfl (take_ofW HT_.out HW_.out (by kernel_rfl)) (fun _ _ _ h => h) (Or.inl ⟨by rfl, ?_⟩) hHeld ?_ ?_
         rotate_left
         ·rintro w' ⟨s0, s1, s2, s3, s4, s5⟩
          go_simp
          with_reducible rfl
         rotate_left
         ·simp only [Act.put, List.setIfInBounds_toArray, List.set_cons_zero, List.set_cons_succ, i64_w, i32_w]
          rfl
         refine take_ (i := 14) (N := some 32) (v := ?_) (a' := ?_) #[true, true, true, false, true, true, true, false, true, true, true, false, true, true, true, false, true, true, false, false, true, true, false, false, false, false, false] rfl rfl (take_ofW HT_.out HW_.out (by kernel_rfl)) (fun _ _ _ h => h) (Or.inl ⟨by rfl, ?_⟩) hHeld ?_ ?_
         rotate_left
         ·rintro w' ⟨s0, s1, s2, s3, s4, s5⟩
          go_simp
          with_reducible rfl
         rotate_left
         ·simp only [Act.put, List.setIfInBounds_toArray, List.set_cons_zero, List.set_cons_succ, i64_w, i32_w]
          rfl
         refine take_ (i := 18) (N := some 36) (v := ?_) (a' := ?_) #[true, true, true, false, true, true, true, false, true, true, true, false, true, true, true, false, true, true, true, false, true, true, false, false, false, false, false] rfl rfl (take_ofW HT_.out HW_.out (by kernel_rfl)) (fun _ _ _ h => h) (Or.inl ⟨by rfl, ?_⟩) hHeld ?_ ?_
         rotate_left
         ·rintro w' ⟨s0, s1, s2, s3, s4, s5⟩
          go_simp
          with_reducible rfl
         rotate_left
         ·simp only [Act.put, List.setIfInBounds_toArray, List.set_cons_zero, List.set_cons_succ, i64_w, i32_w]
          rfl
         refine take_ (i := 22) (N := some 40) (v := ?_) (a' := ?_) #[true, true, true, false, true, true, true, false, true, true, true, false, true, true, true, false, true, true, true, false, true, true, true, false, false, false, false] rfl rfl (take_ofW HT_.out HW_.out (by kernel_rfl)) (fun _ _ _ h => h) (Or.inl ⟨by rfl, ?_⟩) hHeld ?_ ?_
         rotate_left
         ·rintro w' ⟨s0, s1, s2, s3, s4, s5⟩
          go_simp
          with_reducible rfl
         rotate_left
         ·simp only [Act.put, List.setIfInBounds_toArray, List.set_cons_zero, List.set_cons_succ, i64_w, i32_w]
          rfl
         refine join_ (σ := Nat) 1 #[true, true, true, true, true, true, true, true, true, true, true, true, true, true, true, true, true, true, true, true, true, true, true, true, true, true, false] (fun s_ => [(21, .int .i64 t257), (25, .int .i64 t259), (29, .int .i64 t261), (33, .int .i64 t263), (37, .int .i64 t265), (41, .int .i64 t267), (5, .pointer (some ⟨s_, 0, none⟩)), (42, .agg #[.int .i64 t257, .int .i64 0, .int .i64 t259, .int .i64 t261, .int .i64 t263, .int .i64 t265, .int .i64 t267])]) (fun s_ w' => (w'.cell? ⟨ad256.block, ad256.off + 1, none⟩ = some (.string (rdOf ByteArray.empty t253 1)) ∧ w'.cell? ⟨ad256.block, ad256.off + 2, none⟩ = some (.string (rdOf ByteArray.empty t253 2)) ∧ w'.cell? ⟨ad256.block, ad256.off + 3, none⟩ = some (.string (rdOf ByteArray.empty t253 3)) ∧ w'.cell? ⟨ad256.block, ad256.off + 4, none⟩ = some (.string (rdOf ByteArray.empty t253 4)) ∧ w'.cell? ⟨ad256.block, ad256.off + 5, none⟩ = some (.string (rdOf ByteArray.empty t253 5)) ∧ w'.cell? ⟨ad256.block, ad256.off + 6, none⟩ = some (.string (rdOf ByteArray.empty t253 6))) ∧ (Kd.R Kd.string 9 w' w.heap.size (fun _ => True) (.slice (some ad256) t253.length co22) t253) ∧ (w'.heap[gb252]? = some (.cells #[.int .i64 0, .int .i64 0, .int .i64 0, .int .i64 0, .int .i64 0, .int .i64 0, .int .i64 0] 24 (0, 0))) ∧ (w'.heap[s_]? = some (.cells #[.int .i64 0, .int .i64 0, .int .i64 0, .int .i64 0, .int .i64 0, .int .i64 0, .int .i64 0] 24 (0, 0))) ∧ (w.heap.size ≤ s_) ∧ (w.heap.size ≤ s_) ∧ (gb252 ≠ s_) ∧ (s_ ≠ gb252) ∧ (Below w.heap.size w w')) ?_ ?_
         rotate_left
         ·intro hJ3_7_11_15_19_23_25
          refine join_ (σ := Unit) 2 #[true, true, true, true, true, true, true, true, true, true, true, true, true, true, true, true, true, true, true, true, true, true, true, true, true, false, false] (fun s_ => [(21, .int .i64 t257), (25, .int .i64 t259), (29, .int .i64 t261), (33, .int .i64 t263), (37, .int .i64 t265), (41, .int .i64 t267), (42, .agg #[.int .i64 t257, .int .i64 0, .int .i64 t259, .int .i64 t261, .int .i64 t263, .int .i64 t265, .int .i64 t267])]) (fun s_ w' => (w'.cell? ⟨ad256.block, ad256.off + 1, none⟩ = some (.string (rdOf ByteArray.empty t253 1)) ∧ w'.cell? ⟨ad256.block, ad256.off + 2, none⟩ = some (.string (rdOf ByteArray.empty t253 2)) ∧ w'.cell? ⟨ad256.block, ad256.off + 3, none⟩ = some (.string (rdOf ByteArray.empty t253 3)) ∧ w'.cell? ⟨ad256.block, ad256.off + 4, none⟩ = some (.string (rdOf ByteArray.empty t253 4)) ∧ w'.cell? ⟨ad256.block, ad256.off + 5, none⟩ = some (.string (rdOf ByteArray.empty t253 5)) ∧ w'.cell? ⟨ad256.block, ad256.off + 6, none⟩ = some (.string (rdOf ByteArray.empty t253 6))) ∧ (Kd.R Kd.string 9 w' w.heap.size (fun _ => True) (.slice (some ad256) t253.length co22) t253) ∧ (w'.heap[gb252]? = some (.cells #[.int .i64 0, .int .i64 0, .int .i64 0, .int .i64 0, .int .i64 0, .int .i64 0, .int .i64 0] 24 (0, 0))) ∧ (Below w.heap.size w w')) ?_ ?_
          rotate_left
          ·intro hJ3_7_11_15_19_23
           refine join_ (σ := Nat) 3 #[true, true, true, true, true, true, true, true, true, true, true, true, true, true, true, true, true, true, true, true, true, true, true, false, false, true, false] (fun s_ => [(21, .int .i64 t257), (25, .int .i64 t259), (29, .int .i64 t261), (33, .int .i64 t263), (37, .int .i64 t265), (5, .pointer (some ⟨s_, 0, none⟩))]) (fun s_ w' => (w'.cell? ⟨ad256.block, ad256.off + 1, none⟩ = some (.string (rdOf ByteArray.empty t253 1)) ∧ w'.cell? ⟨ad256.block, ad256.off + 2, none⟩ = some (.string (rdOf ByteArray.empty t253 2)) ∧ w'.cell? ⟨ad256.block, ad256.off + 3, none⟩ = some (.string (rdOf ByteArray.empty t253 3)) ∧ w'.cell? ⟨ad256.block, ad256.off + 4, none⟩ = some (.string (rdOf ByteArray.empty t253 4)) ∧ w'.cell? ⟨ad256.block, ad256.off + 5, none⟩ = some (.string (rdOf ByteArray.empty t253 5)) ∧ w'.cell? ⟨ad256.block, ad256.off + 6, none⟩ = some (.string (rdOf ByteArray.empty t253 6))) ∧ (Kd.R Kd.string 9 w' w.heap.size (fun _ => True) (.slice (some ad256) t253.length co22) t253) ∧ (w'.heap[gb252]? = some (.cells #[.int .i64 0, .int .i64 0, .int .i64 0, .int .i64 0, .int .i64 0, .int .i64 0, .int .i64 0] 24 (0, 0))) ∧ (w'.heap[s_]? = some (.cells #[.int .i64 0, .int .i64 0, .int .i64 0, .int .i64 0, .int .i64 0, .int .i64 0, .int .i64 0] 24 (0, 0))) ∧ (w.heap.size ≤ s_) ∧ (w.heap.size ≤ s_) ∧ (gb252 ≠ s_) ∧ (s_ ≠ gb252) ∧ (Below w.heap.size w w')) ?_ ?_
           rotate_left
           ·intro hJ3_7_11_15_19_25
            refine join_ (σ := Unit) 4 #[true, true, true, true, true, true, true, true, true, true, true, true, true, true, true, true, true, true, true, true, true, true, true, false, false, false, false] (fun s_ => [(21, .int .i64 t257), (25, .int .i64 t259), (29, .int .i64 t261), (33, .int .i64 t263), (37, .int .i64 t265)]) (fun s_ w' => (w'.cell? ⟨ad256.block, ad256.off + 1, none⟩ = some (.string (rdOf ByteArray.empty t253 1)) ∧ w'.cell? ⟨ad256.block, ad256.off + 2, none⟩ = some (.string (rdOf ByteArray.empty t253 2)) ∧ w'.cell? ⟨ad256.block, ad256.off + 3, none⟩ = some (.string (rdOf ByteArray.empty t253 3)) ∧ w'.cell? ⟨ad256.block, ad256.off + 4, none⟩ = some (.string (rdOf ByteArray.empty t253 4)) ∧ w'.cell? ⟨ad256.block, ad256.off + 5, none⟩ = some (.string (rdOf ByteArray.empty t253 5)) ∧ w'.cell? ⟨ad256.block, ad256.off + 6, none⟩ = some (.string (rdOf ByteArray.empty t253 6))) ∧ (Kd.R Kd.string 9 w' w.heap.size (fun _ => True) (.slice (some ad256) t253.length co22) t253) ∧ (w'.heap[gb252]? = some (.cells #[.int .i64 0, .int .i64 0, .int .i64 0, .int .i64 0, .int .i64 0, .int .i64 0, .int .i64 0] 24 (0, 0))) ∧ (Below w.heap.size w w')) ?_ ?_
            rotate_left
            ·intro hJ3_7_11_15_19
             refine join_ (σ := Nat) 4 #[true, true, true, true, true, true, true, true, true, true, true, true, true, true, true, true, true, true, true, false, true, true, true, false, false, true, false] (fun s_ => [(21, .int .i64 t257), (25, .int .i64 t259), (29, .int .i64 t261), (33, .int .i64 t263), (5, .pointer (some ⟨s_, 0, none⟩))]) (fun s_ w' => (w'.cell? ⟨ad256.block, ad256.off + 1, none⟩ = some (.string (rdOf ByteArray.empty t253 1)) ∧ w'.cell? ⟨ad256.block, ad256.off + 2, none⟩ = some (.string (rdOf ByteArray.empty t253 2)) ∧ w'.cell? ⟨ad256.block, ad256.off + 3, none⟩ = some (.string (rdOf ByteArray.empty t253 3)) ∧ w'.cell? ⟨ad256.block, ad256.off + 4, none⟩ = some (.string (rdOf ByteArray.empty t253 4)) ∧ w'.cell? ⟨ad256.block, ad256.off + 5, none⟩ = some (.string (rdOf ByteArray.empty t253 5)) ∧ w'.cell? ⟨ad256.block, ad256.off + 6, none⟩ = some (.string (rdOf ByteArray.empty t253 6))) ∧ (Kd.R Kd.string 9 w' w.heap.size (fun _ => True) (.slice (some ad256) t253.length co22) t253) ∧ (w'.heap[gb252]? = some (.cells #[.int .i64 0, .int .i64 0, .int .i64 0, .int .i64 0, .int .i64 0, .int .i64 0, .int .i64 0] 24 (0, 0))) ∧ (w'.heap[s_]? = some (.cells #[.int .i64 0, .int .i64 0, .int .i64 0, .int .i64 0, .int .i64 0, .int .i64 0, .int .i64 0] 24 (0, 0))) ∧ (w.heap.size ≤ s_) ∧ (w.heap.size ≤ s_) ∧ (gb252 ≠ s_) ∧ (s_ ≠ gb252) ∧ (Below w.heap.size w w')) ?_ ?_
             rotate_left
             ·intro hJ3_7_11_15_25
              refine join_ (σ := Unit) 5 #[true, true, true, true, true, true, true, true, true, true, true, true, true, true, true, true, true, true, true, false, true, true, true, false, false, false, false] (fun s_ => [(21, .int .i64 t257), (25, .int .i64 t259), (29, .int .i64 t261), (33, .int .i64 t263)]) (fun s_ w' => (w'.cell? ⟨ad256.block, ad256.off + 1, none⟩ = some (.string (rdOf ByteArray.empty t253 1)) ∧ w'.cell? ⟨ad256.block, ad256.off + 2, none⟩ = some (.string (rdOf ByteArray.empty t253 2)) ∧ w'.cell? ⟨ad256.block, ad256.off + 3, none⟩ = some (.string (rdOf ByteArray.empty t253 3)) ∧ w'.cell? ⟨ad256.block, ad256.off + 4, none⟩ = some (.string (rdOf ByteArray.empty t253 4)) ∧ w'.cell? ⟨ad256.block, ad256.off + 5, none⟩ = some (.string (rdOf ByteArray.empty t253 5)) ∧ w'.cell? ⟨ad256.block, ad256.off + 6, none⟩ = some (.string (rdOf ByteArray.empty t253 6))) ∧ (Kd.R Kd.string 9 w' w.heap.size (fun _ => True) (.slice (some ad256) t253.length co22) t253) ∧ (w'.heap[gb252]? = some (.cells #[.int .i64 0, .int .i64 0, .int .i64 0, .int .i64 0, .int .i64 0, .int .i64 0, .int .i64 0] 24 (0, 0))) ∧ (Below w.heap.size w w')) ?_ ?_
              rotate_left
              ·intro hJ3_7_11_15
               refine join_ (σ := Nat) 5 #[true, true, true, true, true, true, true, true, true, true, true, true, true, true, true, false, true, true, true, false, true, true, true, false, false, true, false] (fun s_ => [(21, .int .i64 t257), (25, .int .i64 t259), (29, .int .i64 t261), (5, .pointer (some ⟨s_, 0, none⟩))]) (fun s_ w' => (w'.cell? ⟨ad256.block, ad256.off + 1, none⟩ = some (.string (rdOf ByteArray.empty t253 1)) ∧ w'.cell? ⟨ad256.block, ad256.off + 2, none⟩ = some (.string (rdOf ByteArray.empty t253 2)) ∧ w'.cell? ⟨ad256.block, ad256.off + 3, none⟩ = some (.string (rdOf ByteArray.empty t253 3)) ∧ w'.cell? ⟨ad256.block, ad256.off + 4, none⟩ = some (.string (rdOf ByteArray.empty t253 4)) ∧ w'.cell? ⟨ad256.block, ad256.off + 5, none⟩ = some (.string (rdOf ByteArray.empty t253 5)) ∧ w'.cell? ⟨ad256.block, ad256.off + 6, none⟩ = some (.string (rdOf ByteArray.empty t253 6))) ∧ (Kd.R Kd.string 9 w' w.heap.size (fun _ => True) (.slice (some ad256) t253.length co22) t253) ∧ (w'.heap[gb252]? = some (.cells #[.int .i64 0, .int .i64 0, .int .i64 0, .int .i64 0, .int .i64 0, .int .i64 0, .int .i64 0] 24 (0, 0))) ∧ (w'.heap[s_]? = some (.cells #[.int .i64 0, .int .i64 0, .int .i64 0, .int .i64 0, .int .i64 0, .int .i64 0, .int .i64 0] 24 (0, 0))) ∧ (w.heap.size ≤ s_) ∧ (w.heap.size ≤ s_) ∧ (gb252 ≠ s_) ∧ (s_ ≠ gb252) ∧ (Below w.heap.size w w')) ?_ ?_
               rotate_left
               ·intro hJ3_7_11_25
                refine join_ (σ := Unit) 6 #[true, true, true, true, true, true, true, true, true, true, true, true, true, true, true, false, true, true, true, false, true, true, true, false, false, false, false] (fun s_ => [(21, .int .i64 t257), (25, .int .i64 t259), (29, .int .i64 t261)]) (fun s_ w' => (w'.cell? ⟨ad256.block, ad256.off + 1, none⟩ = some (.string (rdOf ByteArray.empty t253 1)) ∧ w'.cell? ⟨ad256.block, ad256.off + 2, none⟩ = some (.string (rdOf ByteArray.empty t253 2)) ∧ w'.cell? ⟨ad256.block, ad256.off + 3, none⟩ = some (.string (rdOf ByteArray.empty t253 3)) ∧ w'.cell? ⟨ad256.block, ad256.off + 4, none⟩ = some (.string (rdOf ByteArray.empty t253 4)) ∧ w'.cell? ⟨ad256.block, ad256.off + 5, none⟩ = some (.string (rdOf ByteArray.empty t253 5)) ∧ w'.cell? ⟨ad256.block, ad256.off + 6, none⟩ = some (.string (rdOf ByteArray.empty t253 6))) ∧ (Kd.R Kd.string 9 w' w.heap.size (fun _ => True) (.slice (some ad256) t253.length co22) t253) ∧ (w'.heap[gb252]? = some (.cells #[.int .i64 0, .int .i64 0, .int .i64 0, .int .i64 0, .int .i64 0, .int .i64 0, .int .i64 0] 24 (0, 0))) ∧ (Below w.heap.size w w')) ?_ ?_
                rotate_left
                ·intro hJ3_7_11
                 refine join_ (σ := Nat) 6 #[true, true, true, true, true, true, true, true, true, true, true, false, true, true, true, false, true, true, true, false, true, true, true, false, false, true, false] (fun s_ => [(21, .int .i64 t257), (25, .int .i64 t259), (5, .pointer (some ⟨s_, 0, none⟩))]) (fun s_ w' => (w'.cell? ⟨ad256.block, ad256.off + 1, none⟩ = some (.string (rdOf ByteArray.empty t253 1)) ∧ w'.cell? ⟨ad256.block, ad256.off + 2, none⟩ = some (.string (rdOf ByteArray.empty t253 2)) ∧ w'.cell? ⟨ad256.block, ad256.off + 3, none⟩ = some (.string (rdOf ByteArray.empty t253 3)) ∧ w'.cell? ⟨ad256.block, ad256.off + 4, none⟩ = some (.string (rdOf ByteArray.empty t253 4)) ∧ w'.cell? ⟨ad256.block, ad256.off + 5, none⟩ = some (.string (rdOf ByteArray.empty t253 5)) ∧ w'.cell? ⟨ad256.block, ad256.off + 6, none⟩ = some (.string (rdOf ByteArray.empty t253 6))) ∧ (Kd.R Kd.string 9 w' w.heap.size (fun _ => True) (.slice (some ad256) t253.length co22) t253) ∧ (w'.heap[gb252]? = some (.cells #[.int .i64 0, .int .i64 0, .int .i64 0, .int .i64 0, .int .i64 0, .int .i64 0, .int .i64 0] 24 (0, 0))) ∧ (w'.heap[s_]? = some (.cells #[.int .i64 0, .int .i64 0, .int .i64 0, .int .i64 0, .int .i64 0, .int .i64 0, .int .i64 0] 24 (0, 0))) ∧ (w.heap.size ≤ s_) ∧ (w.heap.size ≤ s_) ∧ (gb252 ≠ s_) ∧ (s_ ≠ gb252) ∧ (Below w.heap.size w w')) ?_ ?_
                 rotate_left
                 ·intro hJ3_7_25
                  refine join_ (σ := Unit) 7 #[true, true, true, true, true, true, true, true, true, true, true, false, true, true, true, false, true, true, true, false, true, true, true, false, false, false, false] (fun s_ => [(21, .int .i64 t257), (25, .int .i64 t259)]) (fun s_ w' => (w'.cell? ⟨ad256.block, ad256.off + 1, none⟩ = some (.string (rdOf ByteArray.empty t253 1)) ∧ w'.cell? ⟨ad256.block, ad256.off + 2, none⟩ = some (.string (rdOf ByteArray.empty t253 2)) ∧ w'.cell? ⟨ad256.block, ad256.off + 3, none⟩ = some (.string (rdOf ByteArray.empty t253 3)) ∧ w'.cell? ⟨ad256.block, ad256.off + 4, none⟩ = some (.string (rdOf ByteArray.empty t253 4)) ∧ w'.cell? ⟨ad256.block, ad256.off + 5, none⟩ = some (.string (rdOf ByteArray.empty t253 5)) ∧ w'.cell? ⟨ad256.block, ad256.off + 6, none⟩ = some (.string (rdOf ByteArray.empty t253 6))) ∧ (Kd.R Kd.string 9 w' w.heap.size (fun _ => True) (.slice (some ad256) t253.length co22) t253) ∧ (w'.heap[gb252]? = some (.cells #[.int .i64 0, .int .i64 0, .int .i64 0, .int .i64 0, .int .i64 0, .int .i64 0, .int .i64 0] 24 (0, 0))) ∧ (Below w.heap.size w w')) ?_ ?_
                  rotate_left
                  ·intro hJ3_7
                   refine join_ (σ := Nat) 7 #[true, true, true, true, true, true, true, false, true, true, true, false, true, true, true, false, true, true, true, false, true, true, true, false, false, true, false] (fun s_ => [(21, .int .i64 t257), (5, .pointer (some ⟨s_, 0, none⟩))]) (fun s_ w' => (w'.cell? ⟨ad256.block, ad256.off + 1, none⟩ = some (.string (rdOf ByteArray.empty t253 1)) ∧ w'.cell? ⟨ad256.block, ad256.off + 2, none⟩ = some (.string (rdOf ByteArray.empty t253 2)) ∧ w'.cell? ⟨ad256.block, ad256.off + 3, none⟩ = some (.string (rdOf ByteArray.empty t253 3)) ∧ w'.cell? ⟨ad256.block, ad256.off + 4, none⟩ = some (.string (rdOf ByteArray.empty t253 4)) ∧ w'.cell? ⟨ad256.block, ad256.off + 5, none⟩ = some (.string (rdOf ByteArray.empty t253 5)) ∧ w'.cell? ⟨ad256.block, ad256.off + 6, none⟩ = some (.string (rdOf ByteArray.empty t253 6))) ∧ (Kd.R Kd.string 9 w' w.heap.size (fun _ => True) (.slice (some ad256) t253.length co22) t253) ∧ (w'.heap[gb252]? = some (.cells #[.int .i64 0, .int .i64 0, .int .i64 0, .int .i64 0, .int .i64 0, .int .i64 0, .int .i64 0] 24 (0, 0))) ∧ (w'.heap[s_]? = some (.cells #[.int .i64 0, .int .i64 0, .int .i64 0, .int .i64 0, .int .i64 0, .int .i64 0, .int .i64 0] 24 (0, 0))) ∧ (w.heap.size ≤ s_) ∧ (w.heap.size ≤ s_) ∧ (gb252 ≠ s_) ∧ (s_ ≠ gb252) ∧ (Below w.heap.size w w')) ?_ ?_
                   rotate_left
                   ·intro hJ3_25
                    refine join_ (σ := Unit) 8 #[true, true, true, true, true, true, true, false, true, true, true, false, true, true, true, false, true, true, true, false, true, true, true, false, false, false, false] (fun s_ => [(21, .int .i64 t257)]) (fun s_ w' => (w'.cell? ⟨ad256.block, ad256.off + 1, none⟩ = some (.string (rdOf ByteArray.empty t253 1)) ∧ w'.cell? ⟨ad256.block, ad256.off + 2, none⟩ = some (.string (rdOf ByteArray.empty t253 2)) ∧ w'.cell? ⟨ad256.block, ad256.off + 3, none⟩ = some (.string (rdOf ByteArray.empty t253 3)) ∧ w'.cell? ⟨ad256.block, ad256.off + 4, none⟩ = some (.string (rdOf ByteArray.empty t253 4)) ∧ w'.cell? ⟨ad256.block, ad256.off + 5, none⟩ = some (.string (rdOf ByteArray.empty t253 5)) ∧ w'.cell? ⟨ad256.block, ad256.off + 6, none⟩ = some (.string (rdOf ByteArray.empty t253 6))) ∧ (Kd.R Kd.string 9 w' w.heap.size (fun _ => True) (.slice (some ad256) t253.length co22) t253) ∧ (w'.heap[gb252]? = some (.cells #[.int .i64 0, .int .i64 0, .int .i64 0, .int .i64 0, .int .i64 0, .int .i64 0, .int .i64 0] 24 (0, 0))) ∧ (Below w.heap.size w w')) ?_ ?_
                    rotate_left
                    ·intro hJ3
                     refine join_ (σ := Nat) 8 #[true, true, true, false, true, true, true, false, true, true, true, false, true, true, true, false, true, true, true, false, true, true, true, false, false, true, false] (fun s_ => [(5, .pointer (some ⟨s_, 0, none⟩))]) (fun s_ w' => (w'.cell? ⟨ad256.block, ad256.off + 1, none⟩ = some (.string (rdOf ByteArray.empty t253 1)) ∧ w'.cell? ⟨ad256.block, ad256.off + 2, none⟩ = some (.string (rdOf ByteArray.empty t253 2)) ∧ w'.cell? ⟨ad256.block, ad256.off + 3, none⟩ = some (.string (rdOf ByteArray.empty t253 3)) ∧ w'.cell? ⟨ad256.block, ad256.off + 4, none⟩ = some (.string (rdOf ByteArray.empty t253 4)) ∧ w'.cell? ⟨ad256.block, ad256.off + 5, none⟩ = some (.string (rdOf ByteArray.empty t253 5)) ∧ w'.cell? ⟨ad256.block, ad256.off + 6, none⟩ = some (.string (rdOf ByteArray.empty t253 6))) ∧ (Kd.R Kd.string 9 w' w.heap.size (fun _ => True) (.slice (some ad256) t253.length co22) t253) ∧ (w'.heap[gb252]? = some (.cells #[.int .i64 0, .int .i64 0, .int .i64 0, .int .i64 0, .int .i64 0, .int .i64 0, .int .i64 0] 24 (0, 0))) ∧ (w'.heap[s_]? = some (.cells #[.int .i64 0, .int .i64 0, .int .i64 0, .int .i64 0, .int .i64 0, .int .i64 0, .int .i64 0] 24 (0, 0))) ∧ (w.heap.size ≤ s_) ∧ (w.heap.size ≤ s_) ∧ (gb252 ≠ s_) ∧ (s_ ≠ gb252) ∧ (Below w.heap.size w w')) ?_ ?_
                     rotate_left
                     ·intro hJ25
                      refine two_ (i := 3) (j := 25) (Ni := some 21) (Nj := some 5) #[true, true, true, true, true, true, true, false, true, true, true, false, true, true, true, false, true, true, true, false, true, true, true, false, false, false, false] #[true, true, true, false, true, true, true, false, true, true, true, false, true, true, true, false, true, true, true, false, true, true, true, false, false, true, false] rfl rfl rfl rfl (two_of HT_.out (by kernel_rfl)) (by decide) (by decide) (fun K hK => ?_) (fun K hK => ?_)
                      ·skip
                       refine goes_ Tryd.func25 (by kernel_rfl) rfl #[.string (rdOf ByteArray.empty t253 1)] (by rfl) rfl rfl z21x10 ?_
                       with_reducible refine (spec_l1Dec.calls k (rdOf ByteArray.empty t253 1) t257 _ A8.out).mono ?_
                       rintro e w' ⟨rfl, ⟨nd, rfl⟩⟩
                       refine ⟨_, rfl, ?_⟩
                       refine hK.out _ _ ⟨hHeld.1, hHeld.2.1, hHeld.2.2.1, hHeld.2.2.2.1, hHeld.2.2.2.2.1, hHeld.2.2.2.2.2⟩ (fun hHeld => ?_)
                       clear hK K
                       refine norm_ (a' := ?_) ?_ ?_
                       rotate_left
                       ·show Act.put _ (some 21) _ = _
                        simp only [Act.put, List.setIfInBounds_toArray, List.set_cons_zero, List.set_cons_succ, i64_w, i32_w]
                        rfl
                       exact norm_ z21x5 (hJ3 () _ ⟨hHeld, z21x14, z21x12, z21x8⟩)
                      ·skip
                       refine box_step ?hg (N := 5) ?hd (cs := #[.int .i64 0, .int .i64 0, .int .i64 0, .int .i64 0, .int .i64 0, .int .i64 0, .int .i64 0]) (t := 24) ?hr ?_; (case hd => rfl); (case hg => rfl); (case hr => first | (go_simp; done) | (go_simp; rfl))
                       intro gb268 hg w24 hbox hb
                       have HS0_ := (hb.cell (World.block_lt_of_cell? _ _ (hHeld.1))).trans (hHeld.1)
                       have HS1_ := (hb.cell (World.block_lt_of_cell? _ _ (hHeld.2.1))).trans (hHeld.2.1)
                       have HS2_ := (hb.cell (World.block_lt_of_cell? _ _ (hHeld.2.2.1))).trans (hHeld.2.2.1)
                       have HS3_ := (hb.cell (World.block_lt_of_cell? _ _ (hHeld.2.2.2.1))).trans (hHeld.2.2.2.1)
                       have HS4_ := (hb.cell (World.block_lt_of_cell? _ _ (hHeld.2.2.2.2.1))).trans (hHeld.2.2.2.2.1)
                       have HS5_ := (hb.cell (World.block_lt_of_cell? _ _ (hHeld.2.2.2.2.2))).trans (hHeld.2.2.2.2.2)
                       have n0_ := Aside0.mk (Kd.R_below z21x14 hb)
                       have n1_ := Aside0.mk (blk_below (g := gb252) (o := .cells #[.int .i64 0, .int .i64 0, .int .i64 0, .int .i64 0, .int .i64 0, .int .i64 0, .int .i64 0] 24 (0, 0)) z21x12 hb)
                       have n2_ := Aside0.mk (below_step z21x8 hb)
                       have n3_ := Aside0.mk (hbox)
                       have n4_ := Aside0.mk ((z21x7 : w.heap.size ≤ gb268))
                       have n5_ := Aside0.mk ((z21x7 : w.heap.size ≤ gb268))
                       have n6_ := Aside0.mk ((z21x4 : gb252 ≠ gb268))
                       have n7_ := Aside0.mk ((z21x3 : gb268 ≠ gb252))
                       clear HO255
                       clear BK252
                       clear HB
                       have HO255 := n0_
                       have BK252 := n1_
                       have HB := n2_
                       have BK268 := n3_
                       have GW268 := n4_
                       have GE268 := n5_
                       have NB252_268 := n6_
                       have NB268_252 := n7_
                       clear n0_ n1_ n2_ n3_ n4_ n5_ n6_ n7_
                       clear hb hbox hg
                       refine hK.out _ _ ⟨HS0_, HS1_, HS2_, HS3_, HS4_, HS5_⟩ (fun hHeld => ?_)
                       clear hK K
                       refine norm_ (a' := ?_) ?_ ?_
                       rotate_left
                       ·show Act.put _ (some 5) _ = _
                        simp only [Act.put, List.setIfInBounds_toArray, List.set_cons_zero, List.set_cons_succ, i64_w, i32_w]
                        rfl
                       exact norm_ z21x5 (hJ25 (gb268) _ ⟨hHeld, z21x14, z21x12, z21x13, GW268.out, GE268.out, NB252_268.out, NB268_252.out, z21x6⟩)
                     ·skip
                      rintro gb268 w25 ⟨hS_, h0_, h1_, h2_, h3_, h4_, h5_, h6_, h7_⟩
                      have n0_ : Aside0 (Kd.R Kd.string 9 w25 w.heap.size (fun _ => True) (.slice (some ad256) t253.length co22) t253) := ⟨h0_⟩
                      have n1_ : Aside0 (w25.heap[gb252]? = some (.cells #[.int .i64 0, .int .i64 0, .int .i64 0, .int .i64 0, .int .i64 0, .int .i64 0, .int .i64 0] 24 (0, 0))) := ⟨h1_⟩
                      have n2_ : Aside0 (w25.heap[gb268]? = some (.cells #[.int .i64 0, .int .i64 0, .int .i64 0, .int .i64 0, .int .i64 0, .int .i64 0, .int .i64 0] 24 (0, 0))) := ⟨h2_⟩
                      have n3_ : Aside0 (w.heap.size ≤ gb268) := ⟨h3_⟩
                      have n4_ : Aside0 (w.heap.size ≤ gb268) := ⟨h4_⟩
                      have n5_ : Aside0 (gb252 ≠ gb268) := ⟨h5_⟩
                      have n6_ : Aside0 (gb268 ≠ gb252) := ⟨h6_⟩
                      have n7_ : Aside0 (Below w.heap.size w w25) := ⟨h7_⟩
                      clear HO255
                      clear BK252
                      clear HB
                      clear h0_ h1_ h2_ h3_ h4_ h5_ h6_ h7_
                      have HO255 := n0_
                      have BK252 := n1_
                      have BK268 := n2_
                      have GW268 := n3_
                      have GE268 := n4_
                      have NB252_268 := n5_
                      have NB268_252 := n6_
                      have HB := n7_
                      clear n0_ n1_ n2_ n3_ n4_ n5_ n6_ n7_
                      have hHeld : w25.cell? ⟨ad256.block, ad256.off + 1, none⟩ = some (.string (rdOf ByteArray.empty t253 1)) ∧ w25.cell? ⟨ad256.block, ad256.off + 2, none⟩ = some (.string (rdOf ByteArray.empty t253 2)) ∧ w25.cell? ⟨ad256.block, ad256.off + 3, none⟩ = some (.string (rdOf ByteArray.empty t253 3)) ∧ w25.cell? ⟨ad256.block, ad256.off + 4, none⟩ = some (.string (rdOf ByteArray.empty t253 4)) ∧ w25.cell? ⟨ad256.block, ad256.off + 5, none⟩ = some (.string (rdOf ByteArray.empty t253 5)) ∧ w25.cell? ⟨ad256.block, ad256.off + 6, none⟩ = some (.string (rdOf ByteArray.empty t253 6)) := hS_
                      refine norm_ (a' := ?_) ?_ ?_
                      rotate_left
                      ·simp only [putAll, Act.put, List.setIfInBounds_toArray, List.set_cons_zero, List.set_cons_succ]
                       rfl
                      refine one_ (i := 3) (N := some 21) #[true, true, true, true, true, true, true, false, true, true, true, false, true, true, true, false, true, true, true, false, true, true, true, false, false, true, false] rfl rfl (one_of HT_.out (by kernel_rfl)) (by decide) (fun K hK => ?_)
                      refine goes_ Tryd.func25 (by kernel_rfl) rfl #[.string (rdOf ByteArray.empty t253 1)] (by rfl) rfl rfl z21x10 ?_
                      with_reducible refine (spec_l1Dec.calls k (rdOf ByteArray.empty t253 1) t257 _ A8.out).mono ?_
                      rintro e w' ⟨rfl, ⟨nd, rfl⟩⟩
                      refine ⟨_, rfl, ?_⟩
                      refine hK.out _ _ ⟨hHeld.1, hHeld.2.1, hHeld.2.2.1, hHeld.2.2.2.1, hHeld.2.2.2.2.1, hHeld.2.2.2.2.2⟩ (fun hHeld => ?_)
                      clear hK K
                      refine norm_ (a' := ?_) ?_ ?_
                      rotate_left
                      ·show Act.put _ (some 21) _ = _
                       simp only [Act.put, List.setIfInBounds_toArray, List.set_cons_zero, List.set_cons_succ, i64_w, i32_w]
                       rfl
                      exact norm_ z21x5 (hJ3_25 (gb268) _ ⟨hHeld, z21x14, z21x12, z21x13, GW268.out, GE268.out, NB252_268.out, NB268_252.out, z21x6⟩)
                    ·skip
                     rintro _ w24 ⟨hS_, h0_, h1_, h2_⟩
                     have n0_ : Aside0 (Kd.R Kd.string 9 w24 w.heap.size (fun _ => True) (.slice (some ad256) t253.length co22) t253) := ⟨h0_⟩
                     have n1_ : Aside0 (w24.heap[gb252]? = some (.cells #[.int .i64 0, .int .i64 0, .int .i64 0, .int .i64 0, .int .i64 0, .int .i64 0, .int .i64 0] 24 (0, 0))) := ⟨h1_⟩
                     have n2_ : Aside0 (Below w.heap.size w w24) := ⟨h2_⟩
                     clear HO255
                     clear BK252
                     clear HB
                     clear h0_ h1_ h2_
                     have HO255 := n0_
                     have BK252 := n1_
                     have HB := n2_
                     clear n0_ n1_ n2_
                     have hHeld : w24.cell? ⟨ad256.block, ad256.off + 1, none⟩ = some (.string (rdOf ByteArray.empty t253 1)) ∧ w24.cell? ⟨ad256.block, ad256.off + 2, none⟩ = some (.string (rdOf ByteArray.empty t253 2)) ∧ w24.cell? ⟨ad256.block, ad256.off + 3, none⟩ = some (.string (rdOf ByteArray.empty t253 3)) ∧ w24.cell? ⟨ad256.block, ad256.off + 4, none⟩ = some (.string (rdOf ByteArray.empty t253 4)) ∧ w24.cell? ⟨ad256.block, ad256.off + 5, none⟩ = some (.string (rdOf ByteArray.empty t253 5)) ∧ w24.cell? ⟨ad256.block, ad256.off + 6, none⟩ = some (.string (rdOf ByteArray.empty t253 6)) := hS_
                     refine norm_ (a' := ?_) ?_ ?_
                     rotate_left
                     ·simp only [putAll, Act.put, List.setIfInBounds_toArray, List.set_cons_zero, List.set_cons_succ]
                      rfl
                     refine two_ (i := 7) (j := 25) (Ni := some 25) (Nj := some 5) #[true, true, true, true, true, true, true, true, true, true, true, false, true, true, true, false, true, true, true, false, true, true, true, false, false, false, false] #[true, true, true, true, true, true, true, false, true, true, true, false, true, true, true, false, true, true, true, false, true, true, true, false, false, true, false] rfl rfl rfl rfl (two_of HT_.out (by kernel_rfl)) (by decide) (by decide) (fun K hK => ?_) (fun K hK => ?_)
                     ·skip
                      refine goes_ Tryd.func25 (by kernel_rfl) rfl #[.string (rdOf ByteArray.empty t253 2)] (by rfl) rfl rfl z21x10 ?_
                      with_reducible refine (spec_l1Dec.calls k (rdOf ByteArray.empty t253 2) t259 _ A10.out).mono ?_
                      rintro e w' ⟨rfl, ⟨nd, rfl⟩⟩
                      refine ⟨_, rfl, ?_⟩
                      refine hK.out _ _ ⟨hHeld.1, hHeld.2.1, hHeld.2.2.1, hHeld.2.2.2.1, hHeld.2.2.2.2.1, hHeld.2.2.2.2.2⟩ (fun hHeld => ?_)
                      clear hK K
                      refine norm_ (a' := ?_) ?_ ?_
                      rotate_left
                      ·show Act.put _ (some 25) _ = _
                       simp only [Act.put, List.setIfInBounds_toArray, List.set_cons_zero, List.set_cons_succ, i64_w, i32_w]
                       rfl
                      exact norm_ z21x5 (hJ3_7 () _ ⟨hHeld, z21x14, z21x12, z21x8⟩)
                     ·skip
                      refine box_step ?hg (N := 5) ?hd (cs := #[.int .i64 0, .int .i64 0, .int .i64 0, .int .i64 0, .int .i64 0, .int .i64 0, .int .i64 0]) (t := 24) ?hr ?_; (case hd => rfl); (case hg => rfl); (case hr => first | (go_simp; done) | (go_simp; rfl))
                      intro gb268 hg w25 hbox hb
                      have HS0_ := (hb.cell (World.block_lt_of_cell? _ _ (hHeld.1))).trans (hHeld.1)
                      have HS1_ := (hb.cell (World.block_lt_of_cell? _ _ (hHeld.2.1))).trans (hHeld.2.1)
                      have HS2_ := (hb.cell (World.block_lt_of_cell? _ _ (hHeld.2.2.1))).trans (hHeld.2.2.1)
                      have HS3_ := (hb.cell (World.block_lt_of_cell? _ _ (hHeld.2.2.2.1))).trans (hHeld.2.2.2.1)
                      have HS4_ := (hb.cell (World.block_lt_of_cell? _ _ (hHeld.2.2.2.2.1))).trans (hHeld.2.2.2.2.1)
                      have HS5_ := (hb.cell (World.block_lt_of_cell? _ _ (hHeld.2.2.2.2.2))).trans (hHeld.2.2.2.2.2)
                      have n0_ := Aside0.mk (Kd.R_below z21x14 hb)
                      have n1_ := Aside0.mk (blk_below (g := gb252) (o := .cells #[.int .i64 0, .int .i64 0, .int .i64 0, .int .i64 0, .int .i64 0, .int .i64 0, .int .i64 0] 24 (0, 0)) z21x12 hb)
                      have n2_ := Aside0.mk (below_step z21x8 hb)
                      have n3_ := Aside0.mk (hbox)
                      have n4_ := Aside0.mk ((z21x7 : w.heap.size ≤ gb268))
                      have n5_ := Aside0.mk ((z21x7 : w.heap.size ≤ gb268))
                      have n6_ := Aside0.mk ((z21x4 : gb252 ≠ gb268))
                      have n7_ := Aside0.mk ((z21x3 : gb268 ≠ gb252))
                      clear HO255
                      clear BK252
                      clear HB
                      have HO255 := n0_
                      have BK252 := n1_
                      have HB := n2_
                      have BK268 := n3_
                      have GW268 := n4_
                      have GE268 := n5_
                      have NB252_268 := n6_
                      have NB268_252 := n7_
                      clear n0_ n1_ n2_ n3_ n4_ n5_ n6_ n7_
                      clear hb hbox hg
                      refine hK.out _ _ ⟨HS0_, HS1_, HS2_, HS3_, HS4_, HS5_⟩ (fun hHeld => ?_)
                      clear hK K
                      refine norm_ (a' := ?_) ?_ ?_
                      rotate_left
                      ·show Act.put _ (some 5) _ = _
                       simp only [Act.put, List.setIfInBounds_toArray, List.set_cons_zero, List.set_cons_succ, i64_w, i32_w]
                       rfl
                      exact norm_ z21x5 (hJ3_25 (gb268) _ ⟨hHeld, z21x14, z21x12, z21x13, GW268.out, GE268.out, NB252_268.out, NB268_252.out, z21x6⟩)
                   ·skip
                    rintro gb268 w25 ⟨hS_, h0_, h1_, h2_, h3_, h4_, h5_, h6_, h7_⟩
                    have n0_ : Aside0 (Kd.R Kd.string 9 w25 w.heap.size (fun _ => True) (.slice (some ad256) t253.length co22) t253) := ⟨h0_⟩
                    have n1_ : Aside0 (w25.heap[gb252]? = some (.cells #[.int .i64 0, .int .i64 0, .int .i64 0, .int .i64 0, .int .i64 0, .int .i64 0, .int .i64 0] 24 (0, 0))) := ⟨h1_⟩
                    have n2_ : Aside0 (w25.heap[gb268]? = some (.cells #[.int .i64 0, .int .i64 0, .int .i64 0, .int .i64 0, .int .i64 0, .int .i64 0, .int .i64 0] 24 (0, 0))) := ⟨h2_⟩
                    have n3_ : Aside0 (w.heap.size ≤ gb268) := ⟨h3_⟩
                    have n4_ : Aside0 (w.heap.size ≤ gb268) := ⟨h4_⟩
                    have n5_ : Aside0 (gb252 ≠ gb268) := ⟨h5_⟩
                    have n6_ : Aside0 (gb268 ≠ gb252) := ⟨h6_⟩
                    have n7_ : Aside0 (Below w.heap.size w w25) := ⟨h7_⟩
                    clear HO255
                    clear BK252
                    clear HB
                    clear h0_ h1_ h2_ h3_ h4_ h5_ h6_ h7_
                    have HO255 := n0_
                    have BK252 := n1_
                    have BK268 := n2_
                    have GW268 := n3_
                    have GE268 := n4_
                    have NB252_268 := n5_
                    have NB268_252 := n6_
                    have HB := n7_
                    clear n0_ n1_ n2_ n3_ n4_ n5_ n6_ n7_
                    have hHeld : w25.cell? ⟨ad256.block, ad256.off + 1, none⟩ = some (.string (rdOf ByteArray.empty t253 1)) ∧ w25.cell? ⟨ad256.block, ad256.off + 2, none⟩ = some (.string (rdOf ByteArray.empty t253 2)) ∧ w25.cell? ⟨ad256.block, ad256.off + 3, none⟩ = some (.string (rdOf ByteArray.empty t253 3)) ∧ w25.cell? ⟨ad256.block, ad256.off + 4, none⟩ = some (.string (rdOf ByteArray.empty t253 4)) ∧ w25.cell? ⟨ad256.block, ad256.off + 5, none⟩ = some (.string (rdOf ByteArray.empty t253 5)) ∧ w25.cell? ⟨ad256.block, ad256.off + 6, none⟩ = some (.string (rdOf ByteArray.empty t253 6)) := hS_
                    refine norm_ (a' := ?_) ?_ ?_
                    rotate_left
                    ·simp only [putAll, Act.put, List.setIfInBounds_toArray, List.set_cons_zero, List.set_cons_succ]
                     rfl
                    refine one_ (i := 7) (N := some 25) #[true, true, true, true, true, true, true, true, true, true, true, false, true, true, true, false, true, true, true, false, true, true, true, false, false, true, false] rfl rfl (one_of HT_.out (by kernel_rfl)) (by decide) (fun K hK => ?_)
                    refine goes_ Tryd.func25 (by kernel_rfl) rfl #[.string (rdOf ByteArray.empty t253 2)] (by rfl) rfl rfl z21x10 ?_
                    with_reducible refine (spec_l1Dec.calls k (rdOf ByteArray.empty t253 2) t259 _ A10.out).mono ?_
                    rintro e w' ⟨rfl, ⟨nd, rfl⟩⟩
                    refine ⟨_, rfl, ?_⟩
                    refine hK.out _ _ ⟨hHeld.1, hHeld.2.1, hHeld.2.2.1, hHeld.2.2.2.1, hHeld.2.2.2.2.1, hHeld.2.2.2.2.2⟩ (fun hHeld => ?_)
                    clear hK K
                    refine norm_ (a' := ?_) ?_ ?_
                    rotate_left
                    ·show Act.put _ (some 25) _ = _
                     simp only [Act.put, List.setIfInBounds_toArray, List.set_cons_zero, List.set_cons_succ, i64_w, i32_w]
                     rfl
                    exact norm_ z21x5 (hJ3_7_25 (gb268) _ ⟨hHeld, z21x14, z21x12, z21x13, GW268.out, GE268.out, NB252_268.out, NB268_252.out, z21x6⟩)
                  ·skip
                   rintro _ w24 ⟨hS_, h0_, h1_, h2_⟩
                   have n0_ : Aside0 (Kd.R Kd.string 9 w24 w.heap.size (fun _ => True) (.slice (some ad256) t253.length co22) t253) := ⟨h0_⟩
                   have n1_ : Aside0 (w24.heap[gb252]? = some (.cells #[.int .i64 0, .int .i64 0, .int .i64 0, .int .i64 0, .int .i64 0, .int .i64 0, .int .i64 0] 24 (0, 0))) := ⟨h1_⟩
                   have n2_ : Aside0 (Below w.heap.size w w24) := ⟨h2_⟩
                   clear HO255
                   clear BK252
                   clear HB
                   clear h0_ h1_ h2_
                   have HO255 := n0_
                   have BK252 := n1_
                   have HB := n2_
                   clear n0_ n1_ n2_
                   have hHeld : w24.cell? ⟨ad256.block, ad256.off + 1, none⟩ = some (.string (rdOf ByteArray.empty t253 1)) ∧ w24.cell? ⟨ad256.block, ad256.off + 2, none⟩ = some (.string (rdOf ByteArray.empty t253 2)) ∧ w24.cell? ⟨ad256.block, ad256.off + 3, none⟩ = some (.string (rdOf ByteArray.empty t253 3)) ∧ w24.cell? ⟨ad256.block, ad256.off + 4, none⟩ = some (.string (rdOf ByteArray.empty t253 4)) ∧ w24.cell? ⟨ad256.block, ad256.off + 5, none⟩ = some (.string (rdOf ByteArray.empty t253 5)) ∧ w24.cell? ⟨ad256.block, ad256.off + 6, none⟩ = some (.string (rdOf ByteArray.empty t253 6)) := hS_
                   refine norm_ (a' := ?_) ?_ ?_
                   rotate_left
                   ·simp only [putAll, Act.put, List.setIfInBounds_toArray, List.set_cons_zero, List.set_cons_succ]
                    rfl
                   refine two_ (i := 11) (j := 25) (Ni := some 29) (Nj := some 5) #[true, true, true, true, true, true, true, true, true, true, true, true, true, true, true, false, true, true, true, false, true, true, true, false, false, false, false] #[true, true, true, true, true, true, true, true, true, true, true, false, true, true, true, false, true, true, true, false, true, true, true, false, false, true, false] rfl rfl rfl rfl (two_of HT_.out (by kernel_rfl)) (by decide) (by decide) (fun K hK => ?_) (fun K hK => ?_)
                   ·skip
                    refine goes_ Tryd.func25 (by kernel_rfl) rfl #[.string (rdOf ByteArray.empty t253 3)] (by rfl) rfl rfl z21x10 ?_
                    with_reducible refine (spec_l1Dec.calls k (rdOf ByteArray.empty t253 3) t261 _ A12.out).mono ?_
                    rintro e w' ⟨rfl, ⟨nd, rfl⟩⟩
                    refine ⟨_, rfl, ?_⟩
                    refine hK.out _ _ ⟨hHeld.1, hHeld.2.1, hHeld.2.2.1, hHeld.2.2.2.1, hHeld.2.2.2.2.1, hHeld.2.2.2.2.2⟩ (fun hHeld => ?_)
                    clear hK K
                    refine norm_ (a' := ?_) ?_ ?_
                    rotate_left
                    ·show Act.put _ (some 29) _ = _
                     simp only [Act.put, List.setIfInBounds_toArray, List.set_cons_zero, List.set_cons_succ, i64_w, i32_w]
                     rfl
                    exact norm_ z21x5 (hJ3_7_11 () _ ⟨hHeld, z21x14, z21x12, z21x8⟩)
                   ·skip
                    refine box_step ?hg (N := 5) ?hd (cs := #[.int .i64 0, .int .i64 0, .int .i64 0, .int .i64 0, .int .i64 0, .int .i64 0, .int .i64 0]) (t := 24) ?hr ?_; (case hd => rfl); (case hg => rfl); (case hr => first | (go_simp; done) | (go_simp; rfl))
                    intro gb268 hg w25 hbox hb
                    have HS0_ := (hb.cell (World.block_lt_of_cell? _ _ (hHeld.1))).trans (hHeld.1)
                    have HS1_ := (hb.cell (World.block_lt_of_cell? _ _ (hHeld.2.1))).trans (hHeld.2.1)
                    have HS2_ := (hb.cell (World.block_lt_of_cell? _ _ (hHeld.2.2.1))).trans (hHeld.2.2.1)
                    have HS3_ := (hb.cell (World.block_lt_of_cell? _ _ (hHeld.2.2.2.1))).trans (hHeld.2.2.2.1)
                    have HS4_ := (hb.cell (World.block_lt_of_cell? _ _ (hHeld.2.2.2.2.1))).trans (hHeld.2.2.2.2.1)
                    have HS5_ := (hb.cell (World.block_lt_of_cell? _ _ (hHeld.2.2.2.2.2))).trans (hHeld.2.2.2.2.2)
                    have n0_ := Aside0.mk (Kd.R_below z21x14 hb)
                    have n1_ := Aside0.mk (blk_below (g := gb252) (o := .cells #[.int .i64 0, .int .i64 0, .int .i64 0, .int .i64 0, .int .i64 0, .int .i64 0, .int .i64 0] 24 (0, 0)) z21x12 hb)
                    have n2_ := Aside0.mk (below_step z21x8 hb)
                    have n3_ := Aside0.mk (hbox)
                    have n4_ := Aside0.mk ((z21x7 : w.heap.size ≤ gb268))
                    have n5_ := Aside0.mk ((z21x7 : w.heap.size ≤ gb268))
                    have n6_ := Aside0.mk ((z21x4 : gb252 ≠ gb268))
                    have n7_ := Aside0.mk ((z21x3 : gb268 ≠ gb252))
                    clear HO255
                    clear BK252
                    clear HB
                    have HO255 := n0_
                    have BK252 := n1_
                    have HB := n2_
                    have BK268 := n3_
                    have GW268 := n4_
                    have GE268 := n5_
                    have NB252_268 := n6_
                    have NB268_252 := n7_
                    clear n0_ n1_ n2_ n3_ n4_ n5_ n6_ n7_
                    clear hb hbox hg
                    refine hK.out _ _ ⟨HS0_, HS1_, HS2_, HS3_, HS4_, HS5_⟩ (fun hHeld => ?_)
                    clear hK K
                    refine norm_ (a' := ?_) ?_ ?_
                    rotate_left
                    ·show Act.put _ (some 5) _ = _
                     simp only [Act.put, List.setIfInBounds_toArray, List.set_cons_zero, List.set_cons_succ, i64_w, i32_w]
                     rfl
                    exact norm_ z21x5 (hJ3_7_25 (gb268) _ ⟨hHeld, z21x14, z21x12, z21x13, GW268.out, GE268.out, NB252_268.out, NB268_252.out, z21x6⟩)
                 ·skip
                  rintro gb268 w25 ⟨hS_, h0_, h1_, h2_, h3_, h4_, h5_, h6_, h7_⟩
                  have n0_ : Aside0 (Kd.R Kd.string 9 w25 w.heap.size (fun _ => True) (.slice (some ad256) t253.length co22) t253) := ⟨h0_⟩
                  have n1_ : Aside0 (w25.heap[gb252]? = some (.cells #[.int .i64 0, .int .i64 0, .int .i64 0, .int .i64 0, .int .i64 0, .int .i64 0, .int .i64 0] 24 (0, 0))) := ⟨h1_⟩
                  have n2_ : Aside0 (w25.heap[gb268]? = some (.cells #[.int .i64 0, .int .i64 0, .int .i64 0, .int .i64 0, .int .i64 0, .int .i64 0, .int .i64 0] 24 (0, 0))) := ⟨h2_⟩
                  have n3_ : Aside0 (w.heap.size ≤ gb268) := ⟨h3_⟩
                  have n4_ : Aside0 (w.heap.size ≤ gb268) := ⟨h4_⟩
                  have n5_ : Aside0 (gb252 ≠ gb268) := ⟨h5_⟩
                  have n6_ : Aside0 (gb268 ≠ gb252) := ⟨h6_⟩
                  have n7_ : Aside0 (Below w.heap.size w w25) := ⟨h7_⟩
                  clear HO255
                  clear BK252
                  clear HB
                  clear h0_ h1_ h2_ h3_ h4_ h5_ h6_ h7_
                  have HO255 := n0_
                  have BK252 := n1_
                  have BK268 := n2_
                  have GW268 := n3_
                  have GE268 := n4_
                  have NB252_268 := n5_
                  have NB268_252 := n6_
                  have HB := n7_
                  clear n0_ n1_ n2_ n3_ n4_ n5_ n6_ n7_
                  have hHeld : w25.cell? ⟨ad256.block, ad256.off + 1, none⟩ = some (.string (rdOf ByteArray.empty t253 1)) ∧ w25.cell? ⟨ad256.block, ad256.off + 2, none⟩ = some (.string (rdOf ByteArray.empty t253 2)) ∧ w25.cell? ⟨ad256.block, ad256.off + 3, none⟩ = some (.string (rdOf ByteArray.empty t253 3)) ∧ w25.cell? ⟨ad256.block, ad256.off + 4, none⟩ = some (.string (rdOf ByteArray.empty t253 4)) ∧ w25.cell? ⟨ad256.block, ad256.off + 5, none⟩ = some (.string (rdOf ByteArray.empty t253 5)) ∧ w25.cell? ⟨ad256.block, ad256.off + 6, none⟩ = some (.string (rdOf ByteArray.empty t253 6)) := hS_
                  refine norm_ (a' := ?_) ?_ ?_
                  rotate_left
                  ·simp only [putAll, Act.put, List.setIfInBounds_toArray, List.set_cons_zero, List.set_cons_succ]
                   rfl
                  refine one_ (i := 11) (N := some 29) #[true, true, true, true, true, true, true, true, true, true, true, true, true, true, true, false, true, true, true, false, true, true, true, false, false, true, false] rfl rfl (one_of HT_.out (by kernel_rfl)) (by decide) (fun K hK => ?_)
                  refine goes_ Tryd.func25 (by kernel_rfl) rfl #[.string (rdOf ByteArray.empty t253 3)] (by rfl) rfl rfl z21x10 ?_
                  with_reducible refine (spec_l1Dec.calls k (rdOf ByteArray.empty t253 3) t261 _ A12.out).mono ?_
                  rintro e w' ⟨rfl, ⟨nd, rfl⟩⟩
                  refine ⟨_, rfl, ?_⟩
                  refine hK.out _ _ ⟨hHeld.1, hHeld.2.1, hHeld.2.2.1, hHeld.2.2.2.1, hHeld.2.2.2.2.1, hHeld.2.2.2.2.2⟩ (fun hHeld => ?_)
                  clear hK K
                  refine norm_ (a' := ?_) ?_ ?_
                  rotate_left
                  ·show Act.put _ (some 29) _ = _
                   simp only [Act.put, List.setIfInBounds_toArray, List.set_cons_zero, List.set_cons_succ, i64_w, i32_w]
                   rfl
                  exact norm_ z21x5 (hJ3_7_11_25 (gb268) _ ⟨hHeld, z21x14, z21x12, z21x13, GW268.out, GE268.out, NB252_268.out, NB268_252.out, z21x6⟩)
                ·skip
                 rintro _ w24 ⟨hS_, h0_, h1_, h2_⟩
                 have n0_ : Aside0 (Kd.R Kd.string 9 w24 w.heap.size (fun _ => True) (.slice (some ad256) t253.length co22) t253) := ⟨h0_⟩
                 have n1_ : Aside0 (w24.heap[gb252]? = some (.cells #[.int .i64 0, .int .i64 0, .int .i64 0, .int .i64 0, .int .i64 0, .int .i64 0, .int .i64 0] 24 (0, 0))) := ⟨h1_⟩
                 have n2_ : Aside0 (Below w.heap.size w w24) := ⟨h2_⟩
                 clear HO255
                 clear BK252
                 clear HB
                 clear h0_ h1_ h2_
                 have HO255 := n0_
                 have BK252 := n1_
                 have HB := n2_
                 clear n0_ n1_ n2_
                 have hHeld : w24.cell? ⟨ad256.block, ad256.off + 1, none⟩ = some (.string (rdOf ByteArray.empty t253 1)) ∧ w24.cell? ⟨ad256.block, ad256.off + 2, none⟩ = some (.string (rdOf ByteArray.empty t253 2)) ∧ w24.cell? ⟨ad256.block, ad256.off + 3, none⟩ = some (.string (rdOf ByteArray.empty t253 3)) ∧ w24.cell? ⟨ad256.block, ad256.off + 4, none⟩ = some (.string (rdOf ByteArray.empty t253 4)) ∧ w24.cell? ⟨ad256.block, ad256.off + 5, none⟩ = some (.string (rdOf ByteArray.empty t253 5)) ∧ w24.cell? ⟨ad256.block, ad256.off + 6, none⟩ = some (.string (rdOf ByteArray.empty t253 6)) := hS_
                 refine norm_ (a' := ?_) ?_ ?_
                 rotate_left
                 ·simp only [putAll, Act.put, List.setIfInBounds_toArray, List.set_cons_zero, List.set_cons_succ]
                  rfl
                 refine two_ (i := 15) (j := 25) (Ni := some 33) (Nj := some 5) #[true, true, true, true, true, true, true, true, true, true, true, true, true, true, true, true, true, true, true, false, true, true, true, false, false, false, false] #[true, true, true, true, true, true, true, true, true, true, true, true, true, true, true, false, true, true, true, false, true, true, true, false, false, true, false] rfl rfl rfl rfl (two_of HT_.out (by kernel_rfl)) (by decide) (by decide) (fun K hK => ?_) (fun K hK => ?_)
                 ·skip
                  refine goes_ Tryd.func25 (by kernel_rfl) rfl #[.string (rdOf ByteArray.empty t253 4)] (by rfl) rfl rfl z21x10 ?_
                  with_reducible refine (spec_l1Dec.calls k (rdOf ByteArray.empty t253 4) t263 _ A14.out).mono ?_
                  rintro e w' ⟨rfl, ⟨nd, rfl⟩⟩
                  refine ⟨_, rfl, ?_⟩
                  refine hK.out _ _ ⟨hHeld.1, hHeld.2.1, hHeld.2.2.1, hHeld.2.2.2.1, hHeld.2.2.2.2.1, hHeld.2.2.2.2.2⟩ (fun hHeld => ?_)
                  clear hK K
                  refine norm_ (a' := ?_) ?_ ?_
                  rotate_left
                  ·show Act.put _ (some 33) _ = _
                   simp only [Act.put, List.setIfInBounds_toArray, List.set_cons_zero, List.set_cons_succ, i64_w, i32_w]
                   rfl
                  exact norm_ z21x5 (hJ3_7_11_15 () _ ⟨hHeld, z21x14, z21x12, z21x8⟩)
                 ·skip
                  refine box_step ?hg (N := 5) ?hd (cs := #[.int .i64 0, .int .i64 0, .int .i64 0, .int .i64 0, .int .i64 0, .int .i64 0, .int .i64 0]) (t := 24) ?hr ?_; (case hd => rfl); (case hg => rfl); (case hr => first | (go_simp; done) | (go_simp; rfl))
                  intro gb268 hg w25 hbox hb
                  have HS0_ := (hb.cell (World.block_lt_of_cell? _ _ (hHeld.1))).trans (hHeld.1)
                  have HS1_ := (hb.cell (World.block_lt_of_cell? _ _ (hHeld.2.1))).trans (hHeld.2.1)
                  have HS2_ := (hb.cell (World.block_lt_of_cell? _ _ (hHeld.2.2.1))).trans (hHeld.2.2.1)
                  have HS3_ := (hb.cell (World.block_lt_of_cell? _ _ (hHeld.2.2.2.1))).trans (hHeld.2.2.2.1)
                  have HS4_ := (hb.cell (World.block_lt_of_cell? _ _ (hHeld.2.2.2.2.1))).trans (hHeld.2.2.2.2.1)
                  have HS5_ := (hb.cell (World.block_lt_of_cell? _ _ (hHeld.2.2.2.2.2))).trans (hHeld.2.2.2.2.2)
                  have n0_ := Aside0.mk (Kd.R_below z21x14 hb)
                  have n1_ := Aside0.mk (blk_below (g := gb252) (o := .cells #[.int .i64 0, .int .i64 0, .int .i64 0, .int .i64 0, .int .i64 0, .int .i64 0, .int .i64 0] 24 (0, 0)) z21x12 hb)
                  have n2_ := Aside0.mk (below_step z21x8 hb)
                  have n3_ := Aside0.mk (hbox)
                  have n4_ := Aside0.mk ((z21x7 : w.heap.size ≤ gb268))
                  have n5_ := Aside0.mk ((z21x7 : w.heap.size ≤ gb268))
                  have n6_ := Aside0.mk ((z21x4 : gb252 ≠ gb268))
                  have n7_ := Aside0.mk ((z21x3 : gb268 ≠ gb252))
                  clear HO255
                  clear BK252
                  clear HB
                  have HO255 := n0_
                  have BK252 := n1_
                  have HB := n2_
                  have BK268 := n3_
                  have GW268 := n4_
                  have GE268 := n5_
                  have NB252_268 := n6_
                  have NB268_252 := n7_
                  clear n0_ n1_ n2_ n3_ n4_ n5_ n6_ n7_
                  clear hb hbox hg
                  refine hK.out _ _ ⟨HS0_, HS1_, HS2_, HS3_, HS4_, HS5_⟩ (fun hHeld => ?_)
                  clear hK K
                  refine norm_ (a' := ?_) ?_ ?_
                  rotate_left
                  ·show Act.put _ (some 5) _ = _
                   simp only [Act.put, List.setIfInBounds_toArray, List.set_cons_zero, List.set_cons_succ, i64_w, i32_w]
                   rfl
                  exact norm_ z21x5 (hJ3_7_11_25 (gb268) _ ⟨hHeld, z21x14, z21x12, z21x13, GW268.out, GE268.out, NB252_268.out, NB268_252.out, z21x6⟩)
               ·skip
                rintro gb268 w25 ⟨hS_, h0_, h1_, h2_, h3_, h4_, h5_, h6_, h7_⟩
                have n0_ : Aside0 (Kd.R Kd.string 9 w25 w.heap.size (fun _ => True) (.slice (some ad256) t253.length co22) t253) := ⟨h0_⟩
                have n1_ : Aside0 (w25.heap[gb252]? = some (.cells #[.int .i64 0, .int .i64 0, .int .i64 0, .int .i64 0, .int .i64 0, .int .i64 0, .int .i64 0] 24 (0, 0))) := ⟨h1_⟩
                have n2_ : Aside0 (w25.heap[gb268]? = some (.cells #[.int .i64 0, .int .i64 0, .int .i64 0, .int .i64 0, .int .i64 0, .int .i64 0, .int .i64 0] 24 (0, 0))) := ⟨h2_⟩
                have n3_ : Aside0 (w.heap.size ≤ gb268) := ⟨h3_⟩
                have n4_ : Aside0 (w.heap.size ≤ gb268) := ⟨h4_⟩
                have n5_ : Aside0 (gb252 ≠ gb268) := ⟨h5_⟩
                have n6_ : Aside0 (gb268 ≠ gb252) := ⟨h6_⟩
                have n7_ : Aside0 (Below w.heap.size w w25) := ⟨h7_⟩
                clear HO255
                clear BK252
                clear HB
                clear h0_ h1_ h2_ h3_ h4_ h5_ h6_ h7_
                have HO255 := n0_
                have BK252 := n1_
                have BK268 := n2_
                have GW268 := n3_
                have GE268 := n4_
                have NB252_268 := n5_
                have NB268_252 := n6_
                have HB := n7_
                clear n0_ n1_ n2_ n3_ n4_ n5_ n6_ n7_
                have hHeld : w25.cell? ⟨ad256.block, ad256.off + 1, none⟩ = some (.string (rdOf ByteArray.empty t253 1)) ∧ w25.cell? ⟨ad256.block, ad256.off + 2, none⟩ = some (.string (rdOf ByteArray.empty t253 2)) ∧ w25.cell? ⟨ad256.block, ad256.off + 3, none⟩ = some (.string (rdOf ByteArray.empty t253 3)) ∧ w25.cell? ⟨ad256.block, ad256.off + 4, none⟩ = some (.string (rdOf ByteArray.empty t253 4)) ∧ w25.cell? ⟨ad256.block, ad256.off + 5, none⟩ = some (.string (rdOf ByteArray.empty t253 5)) ∧ w25.cell? ⟨ad256.block, ad256.off + 6, none⟩ = some (.string (rdOf ByteArray.empty t253 6)) := hS_
                refine norm_ (a' := ?_) ?_ ?_
                rotate_left
                ·simp only [putAll, Act.put, List.setIfInBounds_toArray, List.set_cons_zero, List.set_cons_succ]
                 rfl
                refine one_ (i := 15) (N := some 33) #[true, true, true, true, true, true, true, true, true, true, true, true, true, true, true, true, true, true, true, false, true, true, true, false, false, true, false] rfl rfl (one_of HT_.out (by kernel_rfl)) (by decide) (fun K hK => ?_)
                refine goes_ Tryd.func25 (by kernel_rfl) rfl #[.string (rdOf ByteArray.empty t253 4)] (by rfl) rfl rfl z21x10 ?_
                with_reducible refine (spec_l1Dec.calls k (rdOf ByteArray.empty t253 4) t263 _ A14.out).mono ?_
                rintro e w' ⟨rfl, ⟨nd, rfl⟩⟩
                refine ⟨_, rfl, ?_⟩
                refine hK.out _ _ ⟨hHeld.1, hHeld.2.1, hHeld.2.2.1, hHeld.2.2.2.1, hHeld.2.2.2.2.1, hHeld.2.2.2.2.2⟩ (fun hHeld => ?_)
                clear hK K
                refine norm_ (a' := ?_) ?_ ?_
                rotate_left
                ·show Act.put _ (some 33) _ = _
                 simp only [Act.put, List.setIfInBounds_toArray, List.set_cons_zero, List.set_cons_succ, i64_w, i32_w]
                 rfl
                exact norm_ z21x5 (hJ3_7_11_15_25 (gb268) _ ⟨hHeld, z21x14, z21x12, z21x13, GW268.out, GE268.out, NB252_268.out, NB268_252.out, z21x6⟩)
              ·skip
               rintro _ w24 ⟨hS_, h0_, h1_, h2_⟩
               have n0_ : Aside0 (Kd.R Kd.string 9 w24 w.heap.size (fun _ => True) (.slice (some ad256) t253.length co22) t253) := ⟨h0_⟩
               have n1_ : Aside0 (w24.heap[gb252]? = some (.cells #[.int .i64 0, .int .i64 0, .int .i64 0, .int .i64 0, .int .i64 0, .int .i64 0, .int .i64 0] 24 (0, 0))) := ⟨h1_⟩
               have n2_ : Aside0 (Below w.heap.size w w24) := ⟨h2_⟩
               clear HO255
               clear BK252
               clear HB
               clear h0_ h1_ h2_
               have HO255 := n0_
               have BK252 := n1_
               have HB := n2_
               clear n0_ n1_ n2_
               have hHeld : w24.cell? ⟨ad256.block, ad256.off + 1, none⟩ = some (.string (rdOf ByteArray.empty t253 1)) ∧ w24.cell? ⟨ad256.block, ad256.off + 2, none⟩ = some (.string (rdOf ByteArray.empty t253 2)) ∧ w24.cell? ⟨ad256.block, ad256.off + 3, none⟩ = some (.string (rdOf ByteArray.empty t253 3)) ∧ w24.cell? ⟨ad256.block, ad256.off + 4, none⟩ = some (.string (rdOf ByteArray.empty t253 4)) ∧ w24.cell? ⟨ad256.block, ad256.off + 5, none⟩ = some (.string (rdOf ByteArray.empty t253 5)) ∧ w24.cell? ⟨ad256.block, ad256.off + 6, none⟩ = some (.string (rdOf ByteArray.empty t253 6)) := hS_
               refine norm_ (a' := ?_) ?_ ?_
               rotate_left
               ·simp only [putAll, Act.put, List.setIfInBounds_toArray, List.set_cons_zero, List.set_cons_succ]
                rfl
               refine two_ (i := 19) (j := 25) (Ni := some 37) (Nj := some 5) #[true, true, true, true, true, true, true, true, true, true, true, true, true, true, true, true, true, true, true, true, true, true, true, false, false, false, false] #[true, true, true, true, true, true, true, true, true, true, true, true, true, true, true, true, true, true, true, false, true, true, true, false, false, true, false] rfl rfl rfl rfl (two_of HT_.out (by kernel_rfl)) (by decide) (by decide) (fun K hK => ?_) (fun K hK => ?_)
               ·skip
                refine goes_ Tryd.func25 (by kernel_rfl) rfl #[.string (rdOf ByteArray.empty t253 5)] (by rfl) rfl rfl z21x10 ?_
                with_reducible refine (spec_l1Dec.calls k (rdOf ByteArray.empty t253 5) t265 _ A16.out).mono ?_
                rintro e w' ⟨rfl, ⟨nd, rfl⟩⟩
                refine ⟨_, rfl, ?_⟩
                refine hK.out _ _ ⟨hHeld.1, hHeld.2.1, hHeld.2.2.1, hHeld.2.2.2.1, hHeld.2.2.2.2.1, hHeld.2.2.2.2.2⟩ (fun hHeld => ?_)
                clear hK K
                refine norm_ (a' := ?_) ?_ ?_
                rotate_left
                ·show Act.put _ (some 37) _ = _
                 simp only [Act.put, List.setIfInBounds_toArray, List.set_cons_zero, List.set_cons_succ, i64_w, i32_w]
                 rfl
                exact norm_ z21x5 (hJ3_7_11_15_19 () _ ⟨hHeld, z21x14, z21x12, z21x8⟩)
               ·skip
                refine box_step ?hg (N := 5) ?hd (cs := #[.int .i64 0, .int .i64 0, .int .i64 0, .int .i64 0, .int .i64 0, .int .i64 0, .int .i64 0]) (t := 24) ?hr ?_; (case hd => rfl); (case hg => rfl); (case hr => first | (go_simp; done) | (go_simp; rfl))
                intro gb268 hg w25 hbox hb
                have HS0_ := (hb.cell (World.block_lt_of_cell? _ _ (hHeld.1))).trans (hHeld.1)
                have HS1_ := (hb.cell (World.block_lt_of_cell? _ _ (hHeld.2.1))).trans (hHeld.2.1)
                have HS2_ := (hb.cell (World.block_lt_of_cell? _ _ (hHeld.2.2.1))).trans (hHeld.2.2.1)
                have HS3_ := (hb.cell (World.block_lt_of_cell? _ _ (hHeld.2.2.2.1))).trans (hHeld.2.2.2.1)
                have HS4_ := (hb.cell (World.block_lt_of_cell? _ _ (hHeld.2.2.2.2.1))).trans (hHeld.2.2.2.2.1)
                have HS5_ := (hb.cell (World.block_lt_of_cell? _ _ (hHeld.2.2.2.2.2))).trans (hHeld.2.2.2.2.2)
                have n0_ := Aside0.mk (Kd.R_below z21x14 hb)
                have n1_ := Aside0.mk (blk_below (g := gb252) (o := .cells #[.int .i64 0, .int .i64 0, .int .i64 0, .int .i64 0, .int .i64 0, .int .i64 0, .int .i64 0] 24 (0, 0)) z21x12 hb)
                have n2_ := Aside0.mk (below_step z21x8 hb)
                have n3_ := Aside0.mk (hbox)
                have n4_ := Aside0.mk ((z21x7 : w.heap.size ≤ gb268))
                have n5_ := Aside0.mk ((z21x7 : w.heap.size ≤ gb268))
                have n6_ := Aside0.mk ((z21x4 : gb252 ≠ gb268))
                have n7_ := Aside0.mk ((z21x3 : gb268 ≠ gb252))
                clear HO255
                clear BK252
                clear HB
                have HO255 := n0_
                have BK252 := n1_
                have HB := n2_
                have BK268 := n3_
                have GW268 := n4_
                have GE268 := n5_
                have NB252_268 := n6_
                have NB268_252 := n7_
                clear n0_ n1_ n2_ n3_ n4_ n5_ n6_ n7_
                clear hb hbox hg
                refine hK.out _ _ ⟨HS0_, HS1_, HS2_, HS3_, HS4_, HS5_⟩ (fun hHeld => ?_)
                clear hK K
                refine norm_ (a' := ?_) ?_ ?_
                rotate_left
                ·show Act.put _ (some 5) _ = _
                 simp only [Act.put, List.setIfInBounds_toArray, List.set_cons_zero, List.set_cons_succ, i64_w, i32_w]
                 rfl
                exact norm_ z21x5 (hJ3_7_11_15_25 (gb268) _ ⟨hHeld, z21x14, z21x12, z21x13, GW268.out, GE268.out, NB252_268.out, NB268_252.out, z21x6⟩)
             ·skip
              rintro gb268 w25 ⟨hS_, h0_, h1_, h2_, h3_, h4_, h5_, h6_, h7_⟩
              have n0_ : Aside0 (Kd.R Kd.string 9 w25 w.heap.size (fun _ => True) (.slice (some ad256) t253.length co22) t253) := ⟨h0_⟩
              have n1_ : Aside0 (w25.heap[gb252]? = some (.cells #[.int .i64 0, .int .i64 0, .int .i64 0, .int .i64 0, .int .i64 0, .int .i64 0, .int .i64 0] 24 (0, 0))) := ⟨h1_⟩
              have n2_ : Aside0 (w25.heap[gb268]? = some (.cells #[.int .i64 0, .int .i64 0, .int .i64 0, .int .i64 0, .int .i64 0, .int .i64 0, .int .i64 0] 24 (0, 0))) := ⟨h2_⟩
              have n3_ : Aside0 (w.heap.size ≤ gb268) := ⟨h3_⟩
              have n4_ : Aside0 (w.heap.size ≤ gb268) := ⟨h4_⟩
              have n5_ : Aside0 (gb252 ≠ gb268) := ⟨h5_⟩
              have n6_ : Aside0 (gb268 ≠ gb252) := ⟨h6_⟩
              have n7_ : Aside0 (Below w.heap.size w w25) := ⟨h7_⟩
              clear HO255
              clear BK252
              clear HB
              clear h0_ h1_ h2_ h3_ h4_ h5_ h6_ h7_
              have HO255 := n0_
              have BK252 := n1_
              have BK268 := n2_
              have GW268 := n3_
              have GE268 := n4_
              have NB252_268 := n5_
              have NB268_252 := n6_
              have HB := n7_
              clear n0_ n1_ n2_ n3_ n4_ n5_ n6_ n7_
              have hHeld : w25.cell? ⟨ad256.block, ad256.off + 1, none⟩ = some (.string (rdOf ByteArray.empty t253 1)) ∧ w25.cell? ⟨ad256.block, ad256.off + 2, none⟩ = some (.string (rdOf ByteArray.empty t253 2)) ∧ w25.cell? ⟨ad256.block, ad256.off + 3, none⟩ = some (.string (rdOf ByteArray.empty t253 3)) ∧ w25.cell? ⟨ad256.block, ad256.off + 4, none⟩ = some (.string (rdOf ByteArray.empty t253 4)) ∧ w25.cell? ⟨ad256.block, ad256.off + 5, none⟩ = some (.string (rdOf ByteArray.empty t253 5)) ∧ w25.cell? ⟨ad256.block, ad256.off + 6, none⟩ = some (.string (rdOf ByteArray.empty t253 6)) := hS_
              refine norm_ (a' := ?_) ?_ ?_
              rotate_left
              ·simp only [putAll, Act.put, List.setIfInBounds_toArray, List.set_cons_zero, List.set_cons_succ]
               rfl
              refine one_ (i := 19) (N := some 37) #[true, true, true, true, true, true, true, true, true, true, true, true, true, true, true, true, true, true, true, true, true, true, true, false, false, true, false] rfl rfl (one_of HT_.out (by kernel_rfl)) (by decide) (fun K hK => ?_)
              refine goes_ Tryd.func25 (by kernel_rfl) rfl #[.string (rdOf ByteArray.empty t253 5)] (by rfl) rfl rfl z21x10 ?_
              with_reducible refine (spec_l1Dec.calls k (rdOf ByteArray.empty t253 5) t265 _ A16.out).mono ?_
              rintro e w' ⟨rfl, ⟨nd, rfl⟩⟩
              refine ⟨_, rfl, ?_⟩
              refine hK.out _ _ ⟨hHeld.1, hHeld.2.1, hHeld.2.2.1, hHeld.2.2.2.1, hHeld.2.2.2.2.1, hHeld.2.2.2.2.2⟩ (fun hHeld => ?_)
              clear hK K
              refine norm_ (a' := ?_) ?_ ?_
              rotate_left
              ·show Act.put _ (some 37) _ = _
               simp only [Act.put, List.setIfInBounds_toArray, List.set_cons_zero, List.set_cons_succ, i64_w, i32_w]
               rfl
              exact norm_ z21x5 (hJ3_7_11_15_19_25 (gb268) _ ⟨hHeld, z21x14, z21x12, z21x13, GW268.out, GE268.out, NB252_268.out, NB268_252.out, z21x6⟩)
            ·skip
             rintro _ w24 ⟨hS_, h0_, h1_, h2_⟩
             have n0_ : Aside0 (Kd.R Kd.string 9 w24 w.heap.size (fun _ => True) (.slice (some ad256) t253.length co22) t253) := ⟨h0_⟩
             have n1_ : Aside0 (w24.heap[gb252]? = some (.cells #[.int .i64 0, .int .i64 0, .int .i64 0, .int .i64 0, .int .i64 0, .int .i64 0, .int .i64 0] 24 (0, 0))) := ⟨h1_⟩
             have n2_ : Aside0 (Below w.heap.size w w24) := ⟨h2_⟩
             clear HO255
             clear BK252
             clear HB
             clear h0_ h1_ h2_
             have HO255 := n0_
             have BK252 := n1_
             have HB := n2_
             clear n0_ n1_ n2_
             have hHeld : w24.cell? ⟨ad256.block, ad256.off + 1, none⟩ = some (.string (rdOf ByteArray.empty t253 1)) ∧ w24.cell? ⟨ad256.block, ad256.off + 2, none⟩ = some (.string (rdOf ByteArray.empty t253 2)) ∧ w24.cell? ⟨ad256.block, ad256.off + 3, none⟩ = some (.string (rdOf ByteArray.empty t253 3)) ∧ w24.cell? ⟨ad256.block, ad256.off + 4, none⟩ = some (.string (rdOf ByteArray.empty t253 4)) ∧ w24.cell? ⟨ad256.block, ad256.off + 5, none⟩ = some (.string (rdOf ByteArray.empty t253 5)) ∧ w24.cell? ⟨ad256.block, ad256.off + 6, none⟩ = some (.string (rdOf ByteArray.empty t253 6)) := hS_
             refine norm_ (a' := ?_) ?_ ?_
             rotate_left
             ·simp only [putAll, Act.put, List.setIfInBounds_toArray, List.set_cons_zero, List.set_cons_succ]
              rfl
             refine two_ (i := 23) (j := 25) (Ni := some 41) (Nj := some 5) #[true, true, true, true, true, true, true, true, true, true, true, true, true, true, true, true, true, true, true, true, true, true, true, true, false, false, false] #[true, true, true, true, true, true, true, true, true, true, true, true, true, true, true, true, true, true, true, true, true, true, true, false, false, true, false] rfl rfl rfl rfl (two_of HT_.out (by kernel_rfl)) (by decide) (by decide) (fun K hK => ?_) (fun K hK => ?_)
             ·skip
              refine goes_ Tryd.func25 (by kernel_rfl) rfl #[.string (rdOf ByteArray.empty t253 6)] (by rfl) rfl rfl z21x10 ?_
              with_reducible refine (spec_l1Dec.calls k (rdOf ByteArray.empty t253 6) t267 _ A18.out).mono ?_
              rintro e w' ⟨rfl, ⟨nd, rfl⟩⟩
              refine ⟨_, rfl, ?_⟩
              refine hK.out _ _ ⟨hHeld.1, hHeld.2.1, hHeld.2.2.1, hHeld.2.2.2.1, hHeld.2.2.2.2.1, hHeld.2.2.2.2.2⟩ (fun hHeld => ?_)
              clear hK K
              refine norm_ (a' := ?_) ?_ ?_
              rotate_left
              ·show Act.put _ (some 41) _ = _
               simp only [Act.put, List.setIfInBounds_toArray, List.set_cons_zero, List.set_cons_succ, i64_w, i32_w]
               rfl
              refine pure_ (i := 24) (N := some 42) (v := ?_) (a' := ?_) #[true, true, true, true, true, true, true, true, true, true, true, true, true, true, true, true, true, true, true, true, true, true, true, true, true, false, false] rfl rfl (any_of HT_.out (by kernel_rfl)) (fun _ _ _ h => h) (Or.inl ⟨by rfl, ?_⟩) ?_ ?_
              rotate_left
              ·intro w'
               go_simp
               with_reducible rfl
              rotate_left
              ·simp only [Act.put, List.setIfInBounds_toArray, List.set_cons_zero, List.set_cons_succ, i64_w, i32_w]
               rfl
              exact norm_ z21x5 (hJ3_7_11_15_19_23 () _ ⟨hHeld, z21x14, z21x12, z21x8⟩)
             ·skip
              refine box_step ?hg (N := 5) ?hd (cs := #[.int .i64 0, .int .i64 0, .int .i64 0, .int .i64 0, .int .i64 0, .int .i64 0, .int .i64 0]) (t := 24) ?hr ?_; (case hd => rfl); (case hg => rfl); (case hr => first | (go_simp; done) | (go_simp; rfl))
              intro gb268 hg w25 hbox hb
              have HS0_ := (hb.cell (World.block_lt_of_cell? _ _ (hHeld.1))).trans (hHeld.1)
              have HS1_ := (hb.cell (World.block_lt_of_cell? _ _ (hHeld.2.1))).trans (hHeld.2.1)
              have HS2_ := (hb.cell (World.block_lt_of_cell? _ _ (hHeld.2.2.1))).trans (hHeld.2.2.1)
              have HS3_ := (hb.cell (World.block_lt_of_cell? _ _ (hHeld.2.2.2.1))).trans (hHeld.2.2.2.1)
              have HS4_ := (hb.cell (World.block_lt_of_cell? _ _ (hHeld.2.2.2.2.1))).trans (hHeld.2.2.2.2.1)
              have HS5_ := (hb.cell (World.block_lt_of_cell? _ _ (hHeld.2.2.2.2.2))).trans (hHeld.2.2.2.2.2)
              have n0_ := Aside0.mk (Kd.R_below z21x14 hb)
              have n1_ := Aside0.mk (blk_below (g := gb252) (o := .cells #[.int .i64 0, .int .i64 0, .int .i64 0, .int .i64 0, .int .i64 0, .int .i64 0, .int .i64 0] 24 (0, 0)) z21x12 hb)
              have n2_ := Aside0.mk (below_step z21x8 hb)
              have n3_ := Aside0.mk (hbox)
              have n4_ := Aside0.mk ((z21x7 : w.heap.size ≤ gb268))
              have n5_ := Aside0.mk ((z21x7 : w.heap.size ≤ gb268))
              have n6_ := Aside0.mk ((z21x4 : gb252 ≠ gb268))
              have n7_ := Aside0.mk ((z21x3 : gb268 ≠ gb252))
              clear HO255
              clear BK252
              clear HB
              have HO255 := n0_
              have BK252 := n1_
              have HB := n2_
              have BK268 := n3_
              have GW268 := n4_
              have GE268 := n5_
              have NB252_268 := n6_
              have NB268_252 := n7_
              clear n0_ n1_ n2_ n3_ n4_ n5_ n6_ n7_
              clear hb hbox hg
              refine hK.out _ _ ⟨HS0_, HS1_, HS2_, HS3_, HS4_, HS5_⟩ (fun hHeld => ?_)
              clear hK K
              refine norm_ (a' := ?_) ?_ ?_
              rotate_left
              ·show Act.put _ (some 5) _ = _
               simp only [Act.put, List.setIfInBounds_toArray, List.set_cons_zero, List.set_cons_succ, i64_w, i32_w]
               rfl
              exact norm_ z21x5 (hJ3_7_11_15_19_25 (gb268) _ ⟨hHeld, z21x14, z21x12, z21x13, GW268.out, GE268.out, NB252_268.out, NB268_252.out, z21x6⟩)
           ·skip
            rintro gb268 w25 ⟨hS_, h0_, h1_, h2_, h3_, h4_, h5_, h6_, h7_⟩
            have n0_ : Aside0 (Kd.R Kd.string 9 w25 w.heap.size (fun _ => True) (.slice (some ad256) t253.length co22) t253) := ⟨h0_⟩
            have n1_ : Aside0 (w25.heap[gb252]? = some (.cells #[.int .i64 0, .int .i64 0, .int .i64 0, .int .i64 0, .int .i64 0, .int .i64 0, .int .i64 0] 24 (0, 0))) := ⟨h1_⟩
            have n2_ : Aside0 (w25.heap[gb268]? = some (.cells #[.int .i64 0, .int .i64 0, .int .i64 0, .int .i64 0, .int .i64 0, .int .i64 0, .int .i64 0] 24 (0, 0))) := ⟨h2_⟩
            have n3_ : Aside0 (w.heap.size ≤ gb268) := ⟨h3_⟩
            have n4_ : Aside0 (w.heap.size ≤ gb268) := ⟨h4_⟩
            have n5_ : Aside0 (gb252 ≠ gb268) := ⟨h5_⟩
            have n6_ : Aside0 (gb268 ≠ gb252) := ⟨h6_⟩
            have n7_ : Aside0 (Below w.heap.size w w25) := ⟨h7_⟩
            clear HO255
            clear BK252
            clear HB
            clear h0_ h1_ h2_ h3_ h4_ h5_ h6_ h7_
            have HO255 := n0_
            have BK252 := n1_
            have BK268 := n2_
            have GW268 := n3_
            have GE268 := n4_
            have NB252_268 := n5_
            have NB268_252 := n6_
            have HB := n7_
            clear n0_ n1_ n2_ n3_ n4_ n5_ n6_ n7_
            have hHeld : w25.cell? ⟨ad256.block, ad256.off + 1, none⟩ = some (.string (rdOf ByteArray.empty t253 1)) ∧ w25.cell? ⟨ad256.block, ad256.off + 2, none⟩ = some (.string (rdOf ByteArray.empty t253 2)) ∧ w25.cell? ⟨ad256.block, ad256.off + 3, none⟩ = some (.string (rdOf ByteArray.empty t253 3)) ∧ w25.cell? ⟨ad256.block, ad256.off + 4, none⟩ = some (.string (rdOf ByteArray.empty t253 4)) ∧ w25.cell? ⟨ad256.block, ad256.off + 5, none⟩ = some (.string (rdOf ByteArray.empty t253 5)) ∧ w25.cell? ⟨ad256.block, ad256.off + 6, none⟩ = some (.string (rdOf ByteArray.empty t253 6)) := hS_
            refine norm_ (a' := ?_) ?_ ?_
            rotate_left
            ·simp only [putAll, Act.put, List.setIfInBounds_toArray, List.set_cons_zero, List.set_cons_succ]
             rfl
            refine one_ (i := 23) (N := some 41) #[true, true, true, true, true, true, true, true, true, true, true, true, true, true, true, true, true, true, true, true, true, true, true, true, false, true, false] rfl rfl (one_of HT_.out (by kernel_rfl)) (by decide) (fun K hK => ?_)
            refine goes_ Tryd.func25 (by kernel_rfl) rfl #[.string (rdOf ByteArray.empty t253 6)] (by rfl) rfl rfl z21x10 ?_
            with_reducible refine (spec_l1Dec.calls k (rdOf ByteArray.empty t253 6) t267 _ A18.out).mono ?_
            rintro e w' ⟨rfl, ⟨nd, rfl⟩⟩
            refine ⟨_, rfl, ?_⟩
            refine hK.out _ _ ⟨hHeld.1, hHeld.2.1, hHeld.2.2.1, hHeld.2.2.2.1, hHeld.2.2.2.2.1, hHeld.2.2.2.2.2⟩ (fun hHeld => ?_)
            clear hK K
            refine norm_ (a' := ?_) ?_ ?_
            rotate_left
            ·show Act.put _ (some 41) _ = _
             simp only [Act.put, List.setIfInBounds_toArray, List.set_cons_zero, List.set_cons_succ, i64_w, i32_w]
             rfl
            refine pure_ (i := 24) (N := some 42) (v := ?_) (a' := ?_) #[true, true, true, true, true, true, true, true, true, true, true, true, true, true, true, true, true, true, true, true, true, true, true, true, true, true, false] rfl rfl (any_of HT_.out (by kernel_rfl)) (fun _ _ _ h => h) (Or.inl ⟨by rfl, ?_⟩) ?_ ?_
            rotate_left
            ·intro w'
             go_simp
             with_reducible rfl
            rotate_left
            ·simp only [Act.put, List.setIfInBounds_toArray, List.set_cons_zero, List.set_cons_succ, i64_w, i32_w]
             rfl
            exact norm_ z21x5 (hJ3_7_11_15_19_23_25 (gb268) _ ⟨hHeld, z21x14, z21x12, z21x13, GW268.out, GE268.out, NB252_268.out, NB268_252.out, z21x6⟩)
          ·skip
           rintro _ w24 ⟨hS_, h0_, h1_, h2_⟩
           have n0_ : Aside0 (Kd.R Kd.string 9 w24 w.heap.size (fun _ => True) (.slice (some ad256) t253.length co22) t253) := ⟨h0_⟩
           have n1_ : Aside0 (w24.heap[gb252]? = some (.cells #[.int .i64 0, .int .i64 0, .int .i64 0, .int .i64 0, .int .i64 0, .int .i64 0, .int .i64 0] 24 (0, 0))) := ⟨h1_⟩
           have n2_ : Aside0 (Below w.heap.size w w24) := ⟨h2_⟩
           clear HO255
           clear BK252
           clear HB
           clear h0_ h1_ h2_
           have HO255 := n0_
           have BK252 := n1_
           have HB := n2_
           clear n0_ n1_ n2_
           have hHeld : w24.cell? ⟨ad256.block, ad256.off + 1, none⟩ = some (.string (rdOf ByteArray.empty t253 1)) ∧ w24.cell? ⟨ad256.block, ad256.off + 2, none⟩ = some (.string (rdOf ByteArray.empty t253 2)) ∧ w24.cell? ⟨ad256.block, ad256.off + 3, none⟩ = some (.string (rdOf ByteArray.empty t253 3)) ∧ w24.cell? ⟨ad256.block, ad256.off + 4, none⟩ = some (.string (rdOf ByteArray.empty t253 4)) ∧ w24.cell? ⟨ad256.block, ad256.off + 5, none⟩ = some (.string (rdOf ByteArray.empty t253 5)) ∧ w24.cell? ⟨ad256.block, ad256.off + 6, none⟩ = some (.string (rdOf ByteArray.empty t253 6)) := hS_
           refine norm_ (a' := ?_) ?_ ?_
           rotate_left
           ·simp only [putAll, Act.put, List.setIfInBounds_toArray, List.set_cons_zero, List.set_cons_succ]
            rfl
           refine one_ (i := 25) (N := some 5) #[true, true, true, true, true, true, true, true, true, true, true, true, true, true, true, true, true, true, true, true, true, true, true, true, true, true, false] rfl rfl (one_of HT_.out (by kernel_rfl)) (by decide) (fun K hK => ?_)
           refine box_step ?hg (N := 5) ?hd (cs := #[.int .i64 0, .int .i64 0, .int .i64 0, .int .i64 0, .int .i64 0, .int .i64 0, .int .i64 0]) (t := 24) ?hr ?_; (case hd => rfl); (case hg => rfl); (case hr => first | (go_simp; done) | (go_simp; rfl))
           intro gb268 hg w25 hbox hb
           have HS0_ := (hb.cell (World.block_lt_of_cell? _ _ (hHeld.1))).trans (hHeld.1)
           have HS1_ := (hb.cell (World.block_lt_of_cell? _ _ (hHeld.2.1))).trans (hHeld.2.1)
           have HS2_ := (hb.cell (World.block_lt_of_cell? _ _ (hHeld.2.2.1))).trans (hHeld.2.2.1)
           have HS3_ := (hb.cell (World.block_lt_of_cell? _ _ (hHeld.2.2.2.1))).trans (hHeld.2.2.2.1)
           have HS4_ := (hb.cell (World.block_lt_of_cell? _ _ (hHeld.2.2.2.2.1))).trans (hHeld.2.2.2.2.1)
           have HS5_ := (hb.cell (World.block_lt_of_cell? _ _ (hHeld.2.2.2.2.2))).trans (hHeld.2.2.2.2.2)
           have n0_ := Aside0.mk (Kd.R_below z21x14 hb)
           have n1_ := Aside0.mk (blk_below (g := gb252) (o := .cells #[.int .i64 0, .int .i64 0, .int .i64 0, .int .i64 0, .int .i64 0, .int .i64 0, .int .i64 0] 24 (0, 0)) z21x12 hb)
           have n2_ := Aside0.mk (below_step z21x8 hb)
           have n3_ := Aside0.mk (hbox)
           have n4_ := Aside0.mk ((z21x7 : w.heap.size ≤ gb268))
           have n5_ := Aside0.mk ((z21x7 : w.heap.size ≤ gb268))
           have n6_ := Aside0.mk ((z21x4 : gb252 ≠ gb268))
           have n7_ := Aside0.mk ((z21x3 : gb268 ≠ gb252))
           clear HO255
           clear BK252
           clear HB
           have HO255 := n0_
           have BK252 := n1_
           have HB := n2_
           have BK268 := n3_
           have GW268 := n4_
           have GE268 := n5_
           have NB252_268 := n6_
           have NB268_252 := n7_
           clear n0_ n1_ n2_ n3_ n4_ n5_ n6_ n7_
           clear hb hbox hg
           refine hK.out _ _ ⟨HS0_, HS1_, HS2_, HS3_, HS4_, HS5_⟩ (fun hHeld => ?_)
           clear hK K
           refine norm_ (a' := ?_) ?_ ?_
           rotate_left
           ·show Act.put _ (some 5) _ = _
            simp only [Act.put, List.setIfInBounds_toArray, List.set_cons_zero, List.set_cons_succ, i64_w, i32_w]
            rfl
           exact norm_ z21x5 (hJ3_7_11_15_19_23_25 (gb268) _ ⟨hHeld, z21x14, z21x12, z21x13, GW268.out, GE268.out, NB252_268.out, NB268_252.out, z21x6⟩)
         rintro gb268 w25 ⟨hS_, h0_, h1_, h2_, h3_, h4_, h5_, h6_, h7_⟩
         have n0_ : Aside0 (Kd.R Kd.string 9 w25 w.heap.size (fun _ => True) (.slice (some ad256) t253.length co22) t253) := ⟨h0_⟩
         have n1_ : Aside0 (w25.heap[gb252]? = some (.cells #[.int .i64 0, .int .i64 0, .int .i64 0, .int .i64 0, .int .i64 0, .int .i64 0, .int .i64 0] 24 (0, 0))) := ⟨h1_⟩
         have n2_ : Aside0 (w25.heap[gb268]? = some (.cells #[.int .i64 0, .int .i64 0, .int .i64 0, .int .i64 0, .int .i64 0, .int .i64 0, .int .i64 0] 24 (0, 0))) := ⟨h2_⟩
         have n3_ : Aside0 (w.heap.size ≤ gb268) := ⟨h3_⟩
         have n4_ : Aside0 (w.heap.size ≤ gb268) := ⟨h4_⟩
         have n5_ : Aside0 (gb252 ≠ gb268) := ⟨h5_⟩
         have n6_ : Aside0 (gb268 ≠ gb252) := ⟨h6_⟩
         have n7_ : Aside0 (Below w.heap.size w w25) := ⟨h7_⟩
         clear HO255
         clear BK252
         clear HB
         clear h0_ h1_ h2_ h3_ h4_ h5_ h6_ h7_
         have HO255 := n0_
         have BK252 := n1_
         have BK268 := n2_
         have GW268 := n3_
         have GE268 := n4_
         have NB252_268 := n5_
         have NB268_252 := n6_
         have HB := n7_
         clear n0_ n1_ n2_ n3_ n4_ n5_ n6_ n7_
         have hHeld : w25.cell? ⟨ad256.block, ad256.off + 1, none⟩ = some (.string (rdOf ByteArray.empty t253 1)) ∧ w25.cell? ⟨ad256.block, ad256.off + 2, none⟩ = some (.string (rdOf ByteArray.empty t253 2)) ∧ w25.cell? ⟨ad256.block, ad256.off + 3, none⟩ = some (.string (rdOf ByteArray.empty t253 3)) ∧ w25.cell? ⟨ad256.block, ad256.off + 4, none⟩ = some (.string (rdOf ByteArray.empty t253 4)) ∧ w25.cell? ⟨ad256.block, ad256.off + 5, none⟩ = some (.string (rdOf ByteArray.empty t253 5)) ∧ w25.cell? ⟨ad256.block, ad256.off + 6, none⟩ = some (.string (rdOf ByteArray.empty t253 6)) := hS_
         refine norm_ (a' := ?_) ?_ ?_
         rotate_left
         ·simp only [putAll, Act.put, List.setIfInBounds_toArray, List.set_cons_zero, List.set_cons_succ]
          rfl
         refine one_ (i := 26) (N := none) #[true, true, true, true, true, true, true, true, true, true, true, true, true, true, true, true, true, true, true, true, true, true, true, true, true, true, true] rfl rfl (one_of HT_.out (by kernel_rfl)) (by decide) (fun K hK => ?_)
         have hs26 : w25.cell? ⟨gb268, 0, none⟩ = some (.int .i64 0) := (blk_cell BK268.out 0).trans rfl
         have hfs26 := blk_frozen BK268.out 0
         have hns26_0 := NB252_268.out
         have hms26_0 := NB268_252.out
         have hs27 : w25.cell? ⟨gb268, 1, none⟩ = some (.int .i64 0) := (blk_cell BK268.out 1).trans rfl
         have hfs27 := blk_frozen BK268.out 1
         have hns27_0 := NB252_268.out
         have hms27_0 := NB268_252.out
         have hs28 : w25.cell? ⟨gb268, 2, none⟩ = some (.int .i64 0) := (blk_cell BK268.out 2).trans rfl
         have hfs28 := blk_frozen BK268.out 2
         have hns28_0 := NB252_268.out
         have hms28_0 := NB268_252.out
         have hs29 : w25.cell? ⟨gb268, 3, none⟩ = some (.int .i64 0) := (blk_cell BK268.out 3).trans rfl
         have hfs29 := blk_frozen BK268.out 3
         have hns29_0 := NB252_268.out
         have hms29_0 := NB268_252.out
         have hs30 : w25.cell? ⟨gb268, 4, none⟩ = some (.int .i64 0) := (blk_cell BK268.out 4).trans rfl
         have hfs30 := blk_frozen BK268.out 4
         have hns30_0 := NB252_268.out
         have hms30_0 := NB268_252.out
         have hs31 : w25.cell? ⟨gb268, 5, none⟩ = some (.int .i64 0) := (blk_cell BK268.out 5).trans rfl
         have hfs31 := blk_frozen BK268.out 5
         have hns31_0 := NB252_268.out
         have hms31_0 := NB268_252.out
         have hs32 : w25.cell? ⟨gb268, 6, none⟩ = some (.int .i64 0) := (blk_cell BK268.out 6).trans rfl
         have hfs32 := blk_frozen BK268.out 6
         have hns32_0 := NB252_268.out
         have hms32_0 := NB268_252.out
         refine skip_ (w1 := ?_) (by rfl) rfl ?_ ?_
         rotate_left
         ·go_simp
          rfl
         refine hK.out _ _ ⟨((cell_far (p := ⟨gb268, _, none⟩) z21x2 _).trans (((cell_far (p := ⟨gb268, _, none⟩) z21x2 _).trans (((cell_far (p := ⟨gb268, _, none⟩) z21x2 _).trans (((cell_far (p := ⟨gb268, _, none⟩) z21x2 _).trans (((cell_far (p := ⟨gb268, _, none⟩) z21x2 _).trans (((cell_far (p := ⟨gb268, _, none⟩) z21x2 _).trans (((cell_far (p := ⟨gb268, _, none⟩) z21x2 _).trans (hHeld.1)))))))))))))), ((cell_far (p := ⟨gb268, _, none⟩) z21x2 _).trans (((cell_far (p := ⟨gb268, _, none⟩) z21x2 _).trans (((cell_far (p := ⟨gb268, _, none⟩) z21x2 _).trans (((cell_far (p := ⟨gb268, _, none⟩) z21x2 _).trans (((cell_far (p := ⟨gb268, _, none⟩) z21x2 _).trans (((cell_far (p := ⟨gb268, _, none⟩) z21x2 _).trans (((cell_far (p := ⟨gb268, _, none⟩) z21x2 _).trans (hHeld.2.1)))))))))))))), ((cell_far (p := ⟨gb268, _, none⟩) z21x2 _).trans (((cell_far (p := ⟨gb268, _, none⟩) z21x2 _).trans (((cell_far (p := ⟨gb268, _, none⟩) z21x2 _).trans (((cell_far (p := ⟨gb268, _, none⟩) z21x2 _).trans (((cell_far (p := ⟨gb268, _, none⟩) z21x2 _).trans (((cell_far (p := ⟨gb268, _, none⟩) z21x2 _).trans (((cell_far (p := ⟨gb268, _, none⟩) z21x2 _).trans (hHeld.2.2.1)))))))))))))), ((cell_far (p := ⟨gb268, _, none⟩) z21x2 _).trans (((cell_far (p := ⟨gb268, _, none⟩) z21x2 _).trans (((cell_far (p := ⟨gb268, _, none⟩) z21x2 _).trans (((cell_far (p := ⟨gb268, _, none⟩) z21x2 _).trans (((cell_far (p := ⟨gb268, _, none⟩) z21x2 _).trans (((cell_far (p := ⟨gb268, _, none⟩) z21x2 _).trans (((cell_far (p := ⟨gb268, _, none⟩) z21x2 _).trans (hHeld.2.2.2.1)))))))))))))), ((cell_far (p := ⟨gb268, _, none⟩) z21x2 _).trans (((cell_far (p := ⟨gb268, _, none⟩) z21x2 _).trans (((cell_far (p := ⟨gb268, _, none⟩) z21x2 _).trans (((cell_far (p := ⟨gb268, _, none⟩) z21x2 _).trans (((cell_far (p := ⟨gb268, _, none⟩) z21x2 _).trans (((cell_far (p := ⟨gb268, _, none⟩) z21x2 _).trans (((cell_far (p := ⟨gb268, _, none⟩) z21x2 _).trans (hHeld.2.2.2.2.1)))))))))))))), ((cell_far (p := ⟨gb268, _, none⟩) z21x2 _).trans (((cell_far (p := ⟨gb268, _, none⟩) z21x2 _).trans (((cell_far (p := ⟨gb268, _, none⟩) z21x2 _).trans (((cell_far (p := ⟨gb268, _, none⟩) z21x2 _).trans (((cell_far (p := ⟨gb268, _, none⟩) z21x2 _).trans (((cell_far (p := ⟨gb268, _, none⟩) z21x2 _).trans (((cell_far (p := ⟨gb268, _, none⟩) z21x2 _).trans (hHeld.2.2.2.2.2))))))))))))))⟩ (fun hHeld => ?_)
         clear hK K
         refine done_ (done_of HT_.out (by kernel_rfl)) ?_
         try go_wp2_with (first | ((with_reducible refine gate_callee (f := 20) rfl ?_); refine goesL_ (some 43) rfl rfl Tryd.func20 (by kernel_rfl) rfl #[] rfl z21x10 ?_; (with_reducible refine (spec_l1Names.calls  t269 _ A19.out).mono ?_); rintro e w33 ⟨v270, rfl, ho0, hb⟩; refine ⟨_, rfl, ?_⟩; have n0_ := Aside0.mk (Kd.R_elder' z21x1 (Kd.R_base ho0) hb); have n1_ := Aside0.mk (Kd.R_lower (Kd.R_new' ho0 (Kd.R_lt z21x1)) (below_size z21x6)); have n2_ := Aside0.mk (blk_below (g := gb252) (o := .cells #[.int .i64 0, .int .i64 0, .int .i64 0, .int .i64 0, .int .i64 0, .int .i64 0, .int .i64 0] 24 (0, 0)) (by (with_reducible repeat (first | refine blk_drewN ?_ _ | refine blk_drew ?_ | refine blk_alloc ?_ _)); refine blk_far ?_ NB252_268.out _; (with_reducible repeat (first | refine blk_drewN ?_ _ | refine blk_drew ?_ | refine blk_alloc ?_ _)); refine blk_far ?_ NB252_268.out _; (with_reducible repeat (first | refine blk_drewN ?_ _ | refine blk_drew ?_ | refine blk_alloc ?_ _)); refine blk_far ?_ NB252_268.out _; (with_reducible repeat (first | refine blk_drewN ?_ _ | refine blk_drew ?_ | refine blk_alloc ?_ _)); refine blk_far ?_ NB252_268.out _; (with_reducible repeat (first | refine blk_drewN ?_ _ | refine blk_drew ?_ | refine blk_alloc ?_ _)); refine blk_far ?_ NB252_268.out _; (with_reducible repeat (first | refine blk_drewN ?_ _ | refine blk_drew ?_ | refine blk_alloc ?_ _)); refine blk_far ?_ NB252_268.out _; (with_reducible repeat (first | refine blk_drewN ?_ _ | refine blk_drew ?_ | refine blk_alloc ?_ _)); refine blk_far ?_ NB252_268.out _; (with_reducible repeat (first | refine blk_drewN ?_ _ | refine blk_drew ?_ | refine blk_alloc ?_ _)); exact BK252.out) hb); have n3_ := Aside0.mk (blk_below (g := gb268) (o := .cells #[.int .i64 t257, .int .i64 0, .int .i64 t259, .int .i64 t261, .int .i64 t263, .int .i64 t265, .int .i64 t267] 24 (0, 0)) (by (with_reducible repeat (first | refine blk_drewN ?_ _ | refine blk_drew ?_ | refine blk_alloc ?_ _)); refine blk_put (cs := #[.int .i64 t257, .int .i64 0, .int .i64 t259, .int .i64 t261, .int .i64 t263, .int .i64 t265, .int .i64 0]) ?_ 6 _ rfl; (with_reducible repeat (first | refine blk_drewN ?_ _ | refine blk_drew ?_ | refine blk_alloc ?_ _)); refine blk_put (cs := #[.int .i64 t257, .int .i64 0, .int .i64 t259, .int .i64 t261, .int .i64 t263, .int .i64 0, .int .i64 0]) ?_ 5 _ rfl; (with_reducible repeat (first | refine blk_drewN ?_ _ | refine blk_drew ?_ | refine blk_alloc ?_ _)); refine blk_put (cs := #[.int .i64 t257, .int .i64 0, .int .i64 t259, .int .i64 t261, .int .i64 0, .int .i64 0, .int .i64 0]) ?_ 4 _ rfl; (with_reducible repeat (first | refine blk_drewN ?_ _ | refine blk_drew ?_ | refine blk_alloc ?_ _)); refine blk_put (cs := #[.int .i64 t257, .int .i64 0, .int .i64 t259, .int .i64 0, .int .i64 0, .int .i64 0, .int .i64 0]) ?_ 3 _ rfl; (with_reducible repeat (first | refine blk_drewN ?_ _ | refine blk_drew ?_ | refine blk_alloc ?_ _)); refine blk_put (cs := #[.int .i64 t257, .int .i64 0, .int .i64 0, .int .i64 0, .int .i64 0, .int .i64 0, .int .i64 0]) ?_ 2 _ rfl; (with_reducible repeat (first | refine blk_drewN ?_ _ | refine blk_drew ?_ | refine blk_alloc ?_ _)); refine blk_put (cs := #[.int .i64 t257, .int .i64 0, .int .i64 0, .int .i64 0, .int .i64 0, .int .i64 0, .int .i64 0]) ?_ 1 _ rfl; (with_reducible repeat (first | refine blk_drewN ?_ _ | refine blk_drew ?_ | refine blk_alloc ?_ _)); refine blk_put (cs := #[.int .i64 0, .int .i64 0, .int .i64 0, .int .i64 0, .int .i64 0, .int .i64 0, .int .i64 0]) ?_ 0 _ rfl; (with_reducible repeat (first | refine blk_drewN ?_ _ | refine blk_drew ?_ | refine blk_alloc ?_ _)); exact BK268.out) hb); have n4_ := Aside0.mk (below_step z21x6 hb); clear HO255; clear BK252; clear BK268; clear HB; have HO255 := n0_; have HO271 := n1_; have BK252 := n2_; have BK268 := n3_; have HB := n4_; clear n0_ n1_ n2_ n3_ n4_; (try clear hb); (try clear hb2); (try clear hk); (try clear hi); (try clear ho0)))
         go_loopg [7] k (fun kq v7 w' => ∃ (x7_1 : Int) (x269001_1 : Int), v7 = .int .i64 x7_1 ∧ Aside0 (spec_SealRead.l0 kq a0 t253 t269 x7_1 t257 x269001_1 t259 t261 t263 t265 t267 = some (r1, r2, r3, r4, r5, r6, r7, r8)) ∧ Aside0 (kq ≤ k) ∧ Aside0 (Kd.R Kd.string 9 w' w.heap.size (fun k_ => some k_ ≠ (v270 : Value).ownBlock) (.slice (some ad256) t253.length co22) t253) ∧ Aside0 (Kd.R Kd.string 9 w' w.heap.size (fun k_ => some k_ ≠ ((.slice (some ad256) t253.length co22) : Value).ownBlock) v270 t269) ∧ Aside0 (w'.heap[gb252]? = some (.cells #[.int .i64 0, .int .i64 0, .int .i64 0, .int .i64 0, .int .i64 0, .int .i64 0, .int .i64 0] 24 (0, 0))) ∧ Aside0 (w'.heap[gb268]? = some (.cells #[.int .i64 t257, .int .i64 x269001_1, .int .i64 t259, .int .i64 t261, .int .i64 t263, .int .i64 t265, .int .i64 t267] 24 (0, 0))) ∧ Aside0 (Below w.heap.size w w'))
         case atStart => exact ⟨(1), (0), (by first | rfl | (simp; done) | (simp [*]; done)), H', ⟨Nat.le_refl _⟩, ⟨by (with_reducible repeat (first | apply Kd.R_alloc | apply Kd.R_drewN | apply Kd.R_drew)); exact Kd.R_mono HO255.out (fun _ hk => hk.2)⟩, ⟨by (with_reducible repeat (first | apply Kd.R_alloc | apply Kd.R_drewN | apply Kd.R_drew)); exact Kd.R_mono HO271.out (fun _ hk => hk.2)⟩, ⟨by (with_reducible repeat (first | refine blk_drewN ?_ _ | refine blk_drew ?_ | refine blk_alloc ?_ _)); exact BK252.out⟩, ⟨by (with_reducible repeat (first | refine blk_drewN ?_ _ | refine blk_drew ?_ | refine blk_alloc ?_ _)); exact BK268.out⟩, ⟨by repeat (first | (with_reducible first | exact HB.out | apply below_alloc | apply pw_below_drewN | apply below_drew1 | refine below_set ?_ GE252.out | refine below_set ?_ GE268.out) | exact HB.out)⟩⟩
         case round =>
          clear H'
          try clear c2
          try clear p2
          try clear c20
          try clear c25
          obtain ⟨x7_1, x269001_1, rfl, HA, HK1, HO_4, HO_6, BK252, BK268, HB⟩ := hrel
          cases gk with
          | zero => exact absurd HA.out (by simp [spec_SealRead.l0])
          | succ k1 =>
           have H := HA.out
           clear HA
           simp only [spec_SealRead.l0] at H
           by_cases c34 : x7_1 < (t269.length : Int)
           ·rw [if_pos c34] at H
            have c34b0 : decide (x7_1 < (t269.length : Int)) = true := decide_eq_true c34
            clear c34
            by_cases c35 : 0 ≤ x7_1
            ·rw [if_pos c35] at H
             have c35b0 : decide (0 ≤ x7_1) = true := decide_eq_true c35
             clear c35
             by_cases c36 : 0 < (t253.length : Int)
             ·rw [if_pos c36] at H
              have c36b0 : decide (0 < (t253.length : Int)) = true := decide_eq_true c36
              have c36b1 : decide (0 < t253.length) = true := decide_eq_true (by omega)
              clear c36
              by_cases c37 : (rdOf ByteArray.empty t269 x7_1).toList = (rdOf ByteArray.empty t253 0).toList
              ·rw [if_pos c37] at H
               have c37b0 : ((rdOf ByteArray.empty t269 x7_1).toList == (rdOf ByteArray.empty t253 0).toList) = true := beq_iff_eq.mpr c37
               have c37b1 : ((rdOf ByteArray.empty t269 x7_1).toList != (rdOf ByteArray.empty t253 0).toList) = false := bne_eq_false_iff_eq.mpr c37
               clear c37
               have H' := Aside0.mk H
               clear H
               obtain ⟨Ao38, co38, eo38⟩ := Kd.R_slice HO_6.out
               subst eo38
               try go_wp2
               have n0_ := Aside0.mk (Kd.R_drew HO_4.out)
               have n1_ := Aside0.mk (Kd.R_drew HO_6.out)
               have n2_ := Aside0.mk (blk_drew BK252.out)
               have n3_ := Aside0.mk (blk_drew BK268.out)
               have n4_ := Aside0.mk (below_drew1 HB.out)
               clear HO_4
               clear HO_6
               clear BK252
               clear BK268
               clear HB
               have HO_4 := n0_
               have HO_6 := n1_
               have BK252 := n2_
               have BK268 := n3_
               have HB := n4_
               clear n0_ n1_ n2_ n3_ n4_
               have p272 : 0 ≤ (x7_1 : Int) := of_decide_eq_true (by first | (with_reducible assumption) | assumption)
               have q272 : x7_1 < (t269.length : Int) := of_decide_eq_true (by first | (with_reducible assumption) | assumption)
               obtain ⟨ad272, e272, hx272_0⟩ := Kd.at_string (Kd.R_reads' HO_6.out).2.2 x7_1 p272 q272
               cases e272
               replace p272 := eq_true p272
               replace q272 := eq_true q272
               have p273 : 0 ≤ (0 : Int) := (by omega)
               have q273 : 0 < (t253.length : Int) := of_decide_eq_true (by first | (with_reducible assumption) | assumption)
               obtain ⟨ad273, e273, hx273_0⟩ := Kd.at_string (Kd.R_reads' HO_4.out).2.2 0 p273 q273
               obtain rfl : ad256 = ad273 := (by injection e273)
               have qi273 : (0 < t253.length) = True := eq_true (by omega)
               (try rw [show ((0 : Int)).toNat = 0 from rfl] at hx273_0)
               (try rw [Addr.add_zero'] at hx273_0)
               replace p273 := eq_true p273
               replace q273 := eq_true q273
               refine start_ (n := 8) (S := fun w' => w'.cell? (ad272.add (x7_1).toNat) = some (.string (rdOf ByteArray.empty t269 x7_1)) ∧ w'.cell? ad256 = some (.string (rdOf ByteArray.empty t253 0))) (ds := []) #[false, false, false, false, false, false, false, false] (by kernel_rfl) rfl rfl ⟨hx272_0, hx273_0⟩ (fun hHeld => ?_); refine with_tabW spec_SealRead.tab11 spec_SealRead.bits11 (fun HT_ HW_ => ?_)
               generalize wr.drew = w39 at HO_4 HO_6 BK252 BK268 HB hx272_0 hx273_0 hHeld ⊢
               refine pure_ (i := 0) (N := some 50) (v := ?_) (a' := ?_) #[true, false, false, false, false, false, false, false] rfl rfl (any_of HT_.out (by kernel_rfl)) (fun _ _ _ h => h) (Or.inl ⟨by rfl, ?_⟩) ?_ ?_
               rotate_left
               ·intro w'
                go_simp
                with_reducible rfl
               rotate_left
               ·simp only [Act.put, List.setIfInBounds_toArray, List.set_cons_zero, List.set_cons_succ, i64_w, i32_w]
                rfl
               refine pure_ (i := 1) (N := some 51) (v := ?_) (a' := ?_) #[true, true, false, false, false, false, false, false] rfl rfl (any_of HT_.out (by kernel_rfl)) (fun _ _ _ h => h) (Or.inl ⟨by rfl, ?_⟩) ?_ ?_
               rotate_left
               ·intro w'
                go_simp
                with_reducible rfl
               rotate_left
               ·simp only [Act.put, List.setIfInBounds_toArray, List.set_cons_zero, List.set_cons_succ, i64_w, i32_w]
                rfl
               refine pure_ (i := 2) (N := some 52) (v := ?_) (a' := ?_) #[true, true, true, false, false, false, false, false] rfl rfl (any_of HT_.out (by kernel_rfl)) (fun _ _ _ h => h) (Or.inl ⟨by rfl, ?_⟩) ?_ ?_
               rotate_left
               ·intro w'
                go_simp
                with_reducible rfl
               rotate_left
               ·simp only [Act.put, List.setIfInBounds_toArray, List.set_cons_zero, List.set_cons_succ, i64_w, i32_w]
                rfl
               refine pure_ (i := 4) (N := some 54) (v := ?_) (a' := ?_) #[true, true, true, false, true, false, false, false] rfl rfl (any_of HT_.out (by kernel_rfl)) (fun _ _ _ h => h) (Or.inl ⟨by rfl, ?_⟩) ?_ ?_
               rotate_left
               ·intro w'
                go_simp
                with_reducible rfl
               rotate_left
               ·simp only [Act.put, List.setIfInBounds_toArray, List.set_cons_zero, List.set_cons_succ, i64_w, i32_w]
                rfl
               refine pure_ (i := 5) (N := some 55) (v := ?_) (a' := ?_) #[true, true, true, false, true, true, false, false] rfl rfl (any_of HT_.out (by kernel_rfl)) (fun _ _ _ h => h) (Or.inl ⟨by rfl, ?_⟩) ?_ ?_
               rotate_left
               ·intro w'
                go_simp
                with_reducible rfl
               rotate_left
               ·simp only [Act.put, List.setIfInBounds_toArray, List.set_cons_zero, List.set_cons_succ, i64_w, i32_w]
                rfl
               refine take_ (i := 3) (N := some 53) (v := ?_) (a' := ?_) #[true, true, true, true, true, true, false, false] rfl rfl (take_ofW HT_.out HW_.out (by kernel_rfl)) (fun _ _ _ h => h) (Or.inl ⟨by rfl, ?_⟩) hHeld ?_ ?_
               rotate_left
               ·rintro w' ⟨s0, s1⟩
                go_simp
                with_reducible rfl
               rotate_left
               ·simp only [Act.put, List.setIfInBounds_toArray, List.set_cons_zero, List.set_cons_succ, i64_w, i32_w]
                rfl
               refine take_ (i := 6) (N := some 56) (v := ?_) (a' := ?_) #[true, true, true, true, true, true, true, false] rfl rfl (take_ofW HT_.out HW_.out (by kernel_rfl)) (fun _ _ _ h => h) (Or.inl ⟨by rfl, ?_⟩) hHeld ?_ ?_
               rotate_left
               ·rintro w' ⟨s0, s1⟩
                go_simp
                with_reducible rfl
               rotate_left
               ·simp only [Act.put, List.setIfInBounds_toArray, List.set_cons_zero, List.set_cons_succ, i64_w, i32_w]
                rfl
               refine pure_ (i := 7) (N := some 57) (v := ?_) (a' := ?_) #[true, true, true, true, true, true, true, true] rfl rfl (any_of HT_.out (by kernel_rfl)) (fun _ _ _ h => h) (Or.inl ⟨by rfl, ?_⟩) ?_ ?_
               rotate_left
               ·intro w'
                go_simp
                with_reducible rfl
               rotate_left
               ·simp only [Act.put, List.setIfInBounds_toArray, List.set_cons_zero, List.set_cons_succ, i64_w, i32_w]
                rfl
               refine done_ (done_of HT_.out (by kernel_rfl)) ?_
               have hnb40 := NB268_252.out
               have hnc40 := NB252_268.out
               have hcz41_0 : w39.cell? ⟨gb268, 0, none⟩ = some (.int .i64 t257) := (blk_cell BK268.out 0).trans rfl
               have hcz41_1 : w39.cell? ⟨gb268, 1, none⟩ = some (.int .i64 x269001_1) := (blk_cell BK268.out 1).trans rfl
               have hcz41_2 : w39.cell? ⟨gb268, 2, none⟩ = some (.int .i64 t259) := (blk_cell BK268.out 2).trans rfl
               have hcz41_3 : w39.cell? ⟨gb268, 3, none⟩ = some (.int .i64 t261) := (blk_cell BK268.out 3).trans rfl
               have hcz41_4 : w39.cell? ⟨gb268, 4, none⟩ = some (.int .i64 t263) := (blk_cell BK268.out 4).trans rfl
               have hcz41_5 : w39.cell? ⟨gb268, 5, none⟩ = some (.int .i64 t265) := (blk_cell BK268.out 5).trans rfl
               have hcz41_6 : w39.cell? ⟨gb268, 6, none⟩ = some (.int .i64 t267) := (blk_cell BK268.out 6).trans rfl
               have hfz41_0 := blk_frozen BK268.out 0
               have hfz41_1 := blk_frozen BK268.out 1
               have hfz41_2 := blk_frozen BK268.out 2
               have hfz41_3 := blk_frozen BK268.out 3
               have hfz41_4 := blk_frozen BK268.out 4
               have hfz41_5 := blk_frozen BK268.out 5
               have hfz41_6 := blk_frozen BK268.out 6
               try go_wp2
               go_roundg k1
               case measure => have := HK1.out; omega
               case rel => exact ⟨(wrap64 (x7_1 + 1)), (x7_1), (by first | rfl | (simp; done) | (simp [*]; done)), H', ⟨by have := HK1.out; omega⟩, ⟨by (with_reducible repeat (first | apply Kd.R_alloc | apply Kd.R_drewN | apply Kd.R_drew)); exact Kd.R_mono (Kd.R_far (p := ⟨gb268, 1, none⟩) (Kd.R_types HO_4.out BK268.out (by decide)) (fun _ hk => hk.2) (.int .i64 x7_1)) (fun _ hk => hk.1)⟩, ⟨by (with_reducible repeat (first | apply Kd.R_alloc | apply Kd.R_drewN | apply Kd.R_drew)); exact Kd.R_mono (Kd.R_far (p := ⟨gb268, 1, none⟩) (Kd.R_types HO_6.out BK268.out (by decide)) (fun _ hk => hk.2) (.int .i64 x7_1)) (fun _ hk => hk.1)⟩, ⟨by (with_reducible repeat (first | refine blk_drewN ?_ _ | refine blk_drew ?_ | refine blk_alloc ?_ _)); refine blk_far ?_ NB252_268.out _; (with_reducible repeat (first | refine blk_drewN ?_ _ | refine blk_drew ?_ | refine blk_alloc ?_ _)); exact BK252.out⟩, ⟨by (with_reducible repeat (first | refine blk_drewN ?_ _ | refine blk_drew ?_ | refine blk_alloc ?_ _)); refine blk_put (cs := #[.int .i64 t257, .int .i64 x269001_1, .int .i64 t259, .int .i64 t261, .int .i64 t263, .int .i64 t265, .int .i64 t267]) ?_ 1 _ rfl; (with_reducible repeat (first | refine blk_drewN ?_ _ | refine blk_drew ?_ | refine blk_alloc ?_ _)); exact BK268.out⟩, ⟨by repeat (first | (with_reducible first | exact HB.out | apply below_alloc | apply pw_below_drewN | apply below_drew1 | refine below_set ?_ GE252.out | refine below_set ?_ GE268.out) | exact HB.out)⟩⟩
              ·rw [if_neg c37] at H
               have c37b0 : ((rdOf ByteArray.empty t269 x7_1).toList == (rdOf ByteArray.empty t253 0).toList) = false := beq_eq_false_iff_ne.mpr c37
               have c37b1 : ((rdOf ByteArray.empty t269 x7_1).toList != (rdOf ByteArray.empty t253 0).toList) = true := bne_iff_ne.mpr c37
               have H' := Aside0.mk H
               clear H
               obtain ⟨Ao42, co42, eo42⟩ := Kd.R_slice HO_6.out
               subst eo42
               try go_wp2
               have n0_ := Aside0.mk (Kd.R_drew HO_4.out)
               have n1_ := Aside0.mk (Kd.R_drew HO_6.out)
               have n2_ := Aside0.mk (blk_drew BK252.out)
               have n3_ := Aside0.mk (blk_drew BK268.out)
               have n4_ := Aside0.mk (below_drew1 HB.out)
               clear HO_4
               clear HO_6
               clear BK252
               clear BK268
               clear HB
               have HO_4 := n0_
               have HO_6 := n1_
               have BK252 := n2_
               have BK268 := n3_
               have HB := n4_
               clear n0_ n1_ n2_ n3_ n4_
               have p272 : 0 ≤ (x7_1 : Int) := of_decide_eq_true (by first | (with_reducible assumption) | assumption)
               have q272 : x7_1 < (t269.length : Int) := of_decide_eq_true (by first | (with_reducible assumption) | assumption)
               obtain ⟨ad272, e272, hx272_0⟩ := Kd.at_string (Kd.R_reads' HO_6.out).2.2 x7_1 p272 q272
               cases e272
               replace p272 := eq_true p272
               replace q272 := eq_true q272
               have p273 : 0 ≤ (0 : Int) := (by omega)
               have q273 : 0 < (t253.length : Int) := of_decide_eq_true (by first | (with_reducible assumption) | assumption)
               obtain ⟨ad273, e273, hx273_0⟩ := Kd.at_string (Kd.R_reads' HO_4.out).2.2 0 p273 q273
               obtain rfl : ad256 = ad273 := (by injection e273)
               have qi273 : (0 < t253.length) = True := eq_true (by omega)
               (try rw [show ((0 : Int)).toNat = 0 from rfl] at hx273_0)
               (try rw [Addr.add_zero'] at hx273_0)
               replace p273 := eq_true p273
               replace q273 := eq_true q273
               refine start_ (n := 8) (S := fun w' => w'.cell? (ad272.add (x7_1).toNat) = some (.string (rdOf ByteArray.empty t269 x7_1)) ∧ w'.cell? ad256 = some (.string (rdOf ByteArray.empty t253 0))) (ds := []) #[false, false, false, false, false, false, false, false] (by kernel_rfl) rfl rfl ⟨hx272_0, hx273_0⟩ (fun hHeld => ?_); refine with_tabW spec_SealRead.tab11 spec_SealRead.bits11 (fun HT_ HW_ => ?_)
               generalize wr.drew = w43 at HO_4 HO_6 BK252 BK268 HB hx272_0 hx273_0 hHeld ⊢
               refine pure_ (i := 0) (N := some 50) (v := ?_) (a' := ?_) #[true, false, false, false, false, false, false, false] rfl rfl (any_of HT_.out (by kernel_rfl)) (fun _ _ _ h => h) (Or.inl ⟨by rfl, ?_⟩) ?_ ?_
               rotate_left
               ·intro w'
                go_simp
                with_reducible rfl
               rotate_left
               ·simp only [Act.put, List.setIfInBounds_toArray, List.set_cons_zero, List.set_cons_succ, i64_w, i32_w]
                rfl
               refine pure_ (i := 1) (N := some 51) (v := ?_) (a' := ?_) #[true, true, false, false, false, false, false, false] rfl rfl (any_of HT_.out (by kernel_rfl)) (fun _ _ _ h => h) (Or.inl ⟨by rfl, ?_⟩) ?_ ?_
               rotate_left
               ·intro w'
                go_simp
                with_reducible rfl
               rotate_left
               ·simp only [Act.put, List.setIfInBounds_toArray, List.set_cons_zero, List.set_cons_succ, i64_w, i32_w]
                rfl
               refine pure_ (i := 2) (N := some 52) (v := ?_) (a' := ?_) #[true, true, true, false, false, false, false, false] rfl rfl (any_of HT_.out (by kernel_rfl)) (fun _ _ _ h => h) (Or.inl ⟨by rfl, ?_⟩) ?_ ?_
               rotate_left
               ·intro w'
                go_simp
                with_reducible rfl
               rotate_left
               ·simp only [Act.put, List.setIfInBounds_toArray, List.set_cons_zero, List.set_cons_succ, i64_w, i32_w]
                rfl
               refine pure_ (i := 4) (N := some 54) (v := ?_) (a' := ?_) #[true, true, true, false, true, false, false, false] rfl rfl (any_of HT_.out (by kernel_rfl)) (fun _ _ _ h => h) (Or.inl ⟨by rfl, ?_⟩) ?_ ?_
               rotate_left
               ·intro w'
                go_simp
                with_reducible rfl
               rotate_left
               ·simp only [Act.put, List.setIfInBounds_toArray, List.set_cons_zero, List.set_cons_succ, i64_w, i32_w]
                rfl
               refine pure_ (i := 5) (N := some 55) (v := ?_) (a' := ?_) #[true, true, true, false, true, true, false, false] rfl rfl (any_of HT_.out (by kernel_rfl)) (fun _ _ _ h => h) (Or.inl ⟨by rfl, ?_⟩) ?_ ?_
               rotate_left
               ·intro w'
                go_simp
                with_reducible rfl
               rotate_left
               ·simp only [Act.put, List.setIfInBounds_toArray, List.set_cons_zero, List.set_cons_succ, i64_w, i32_w]
                rfl
               refine take_ (i := 3) (N := some 53) (v := ?_) (a' := ?_) #[true, true, true, true, true, true, false, false] rfl rfl (take_ofW HT_.out HW_.out (by kernel_rfl)) (fun _ _ _ h => h) (Or.inl ⟨by rfl, ?_⟩) hHeld ?_ ?_
               rotate_left
               ·rintro w' ⟨s0, s1⟩
                go_simp
                with_reducible rfl
               rotate_left
               ·simp only [Act.put, List.setIfInBounds_toArray, List.set_cons_zero, List.set_cons_succ, i64_w, i32_w]
                rfl
               refine take_ (i := 6) (N := some 56) (v := ?_) (a' := ?_) #[true, true, true, true, true, true, true, false] rfl rfl (take_ofW HT_.out HW_.out (by kernel_rfl)) (fun _ _ _ h => h) (Or.inl ⟨by rfl, ?_⟩) hHeld ?_ ?_
               rotate_left
               ·rintro w' ⟨s0, s1⟩
                go_simp
                with_reducible rfl
               rotate_left
               ·simp only [Act.put, List.setIfInBounds_toArray, List.set_cons_zero, List.set_cons_succ, i64_w, i32_w]
                rfl
               refine pure_ (i := 7) (N := some 57) (v := ?_) (a' := ?_) #[true, true, true, true, true, true, true, true] rfl rfl (any_of HT_.out (by kernel_rfl)) (fun _ _ _ h => h) (Or.inl ⟨by rfl, ?_⟩) ?_ ?_
               rotate_left
               ·intro w'
                go_simp
                with_reducible rfl
               rotate_left
               ·simp only [Act.put, List.setIfInBounds_toArray, List.set_cons_zero, List.set_cons_succ, i64_w, i32_w]
                rfl
               refine done_ (done_of HT_.out (by kernel_rfl)) ?_
               try go_wp2
               go_roundg k1
               case measure => have := HK1.out; omega
               case rel => exact ⟨(wrap64 (x7_1 + 1)), (x269001_1), (by first | rfl | (simp; done) | (simp [*]; done)), H', ⟨by have := HK1.out; omega⟩, ⟨by (with_reducible repeat (first | apply Kd.R_alloc | apply Kd.R_drewN | apply Kd.R_drew)); exact HO_4.out⟩, ⟨by (with_reducible repeat (first | apply Kd.R_alloc | apply Kd.R_drewN | apply Kd.R_drew)); exact HO_6.out⟩, ⟨by (with_reducible repeat (first | refine blk_drewN ?_ _ | refine blk_drew ?_ | refine blk_alloc ?_ _)); exact BK252.out⟩, ⟨by (with_reducible repeat (first | refine blk_drewN ?_ _ | refine blk_drew ?_ | refine blk_alloc ?_ _)); exact BK268.out⟩, ⟨by repeat (first | (with_reducible first | exact HB.out | apply below_alloc | apply pw_below_drewN | apply below_drew1 | refine below_set ?_ GE252.out | refine below_set ?_ GE268.out) | exact HB.out)⟩⟩
             ·rw [if_neg c36] at H
              exact absurd H (by simp)
            ·rw [if_neg c35] at H
             exact absurd H (by simp)
           ·rw [if_neg c34] at H
            have c34b0 : decide (x7_1 < (t269.length : Int)) = false := decide_eq_false c34
            clear c34
            replace H := Option.bind_eq_some_iff.mp H
            obtain ⟨t274, A440, H⟩ := H
            replace H : (if t274.toList = a0.toList then (some (t257, x269001_1, t259, t261, t263, t265, t267, true)) else (some (0, 0, 0, 0, 0, 0, 0, false))) = some (r1, r2, r3, r4, r5, r6, r7, r8) := H
            have A44 := Aside0.mk A440
            clear A440
            by_cases c45 : t274.toList = a0.toList
            ·rw [if_pos c45] at H
             have c45b0 : (t274.toList == a0.toList) = true := beq_iff_eq.mpr c45
             have c45b1 : (t274.toList != a0.toList) = false := bne_eq_false_iff_eq.mpr c45
             clear c45
             simp only [Option.some.injEq, Prod.mk.injEq] at H
             obtain ⟨rfl, rfl, rfl, rfl, rfl, rfl, rfl, rfl⟩ := H
             obtain ⟨Ao46, co46, eo46⟩ := Kd.R_slice HO_6.out
             subst eo46
             have hnb47 := NB268_252.out
             have hnc47 := NB252_268.out
             have hcz48_0 : wr.cell? ⟨gb268, 0, none⟩ = some (.int .i64 t257) := (blk_cell BK268.out 0).trans rfl
             have hcz48_1 : wr.cell? ⟨gb268, 1, none⟩ = some (.int .i64 x269001_1) := (blk_cell BK268.out 1).trans rfl
             have hcz48_2 : wr.cell? ⟨gb268, 2, none⟩ = some (.int .i64 t259) := (blk_cell BK268.out 2).trans rfl
             have hcz48_3 : wr.cell? ⟨gb268, 3, none⟩ = some (.int .i64 t261) := (blk_cell BK268.out 3).trans rfl
             have hcz48_4 : wr.cell? ⟨gb268, 4, none⟩ = some (.int .i64 t263) := (blk_cell BK268.out 4).trans rfl
             have hcz48_5 : wr.cell? ⟨gb268, 5, none⟩ = some (.int .i64 t265) := (blk_cell BK268.out 5).trans rfl
             have hcz48_6 : wr.cell? ⟨gb268, 6, none⟩ = some (.int .i64 t267) := (blk_cell BK268.out 6).trans rfl
             have hfz48_0 := blk_frozen BK268.out 0
             have hfz48_1 := blk_frozen BK268.out 1
             have hfz48_2 := blk_frozen BK268.out 2
             have hfz48_3 := blk_frozen BK268.out 3
             have hfz48_4 := blk_frozen BK268.out 4
             have hfz48_5 := blk_frozen BK268.out 5
             have hfz48_6 := blk_frozen BK268.out 6
             go_wp2_with (first | ((with_reducible refine gate_callee (f := 9) rfl ?_); refine goesL_ (some 61) rfl rfl Tryd.func9 (by kernel_rfl) rfl #[.agg #[.int .i64 t257, .int .i64 x269001_1, .int .i64 t259, .int .i64 t261, .int .i64 t263, .int .i64 t265, .int .i64 t267]] rfl z21x10 ?_; (with_reducible refine (spec_SealText.calls k1 t257 x269001_1 t259 t261 t263 t265 t267 t274 _ A44.out).mono ?_); rintro e w49 ⟨rfl, hb⟩; refine ⟨_, rfl, ?_⟩; have n0_ := Aside0.mk (Kd.R_below (by (with_reducible repeat (first | apply Kd.R_alloc | apply Kd.R_drewN | apply Kd.R_drew)); exact HO_4.out) hb); have n1_ := Aside0.mk (Kd.R_below (by (with_reducible repeat (first | apply Kd.R_alloc | apply Kd.R_drewN | apply Kd.R_drew)); exact HO_6.out) hb); have n2_ := Aside0.mk (blk_below (g := gb252) (o := .cells #[.int .i64 0, .int .i64 0, .int .i64 0, .int .i64 0, .int .i64 0, .int .i64 0, .int .i64 0] 24 (0, 0)) z21x12 hb); have n3_ := Aside0.mk (blk_below (g := gb268) (o := .cells #[.int .i64 t257, .int .i64 x269001_1, .int .i64 t259, .int .i64 t261, .int .i64 t263, .int .i64 t265, .int .i64 t267] 24 (0, 0)) z21x13 hb); have n4_ := Aside0.mk (below_step z21x6 hb); clear HO_4; clear HO_6; clear BK252; clear BK268; clear HB; have HO_4 := n0_; have HO_6 := n1_; have BK252 := n2_; have BK268 := n3_; have HB := n4_; clear n0_ n1_ n2_ n3_ n4_; (try clear hb); (try clear hb2); (try clear hk); (try clear hi); have hcz50_0 : w49.cell? ⟨gb268, 0, none⟩ = some (.int .i64 t257) := (blk_cell BK268.out 0).trans rfl; have hcz50_1 : w49.cell? ⟨gb268, 1, none⟩ = some (.int .i64 x269001_1) := (blk_cell BK268.out 1).trans rfl; have hcz50_2 : w49.cell? ⟨gb268, 2, none⟩ = some (.int .i64 t259) := (blk_cell BK268.out 2).trans rfl; have hcz50_3 : w49.cell? ⟨gb268, 3, none⟩ = some (.int .i64 t261) := (blk_cell BK268.out 3).trans rfl; have hcz50_4 : w49.cell? ⟨gb268, 4, none⟩ = some (.int .i64 t263) := (blk_cell BK268.out 4).trans rfl; have hcz50_5 : w49.cell? ⟨gb268, 5, none⟩ = some (.int .i64 t265) := (blk_cell BK268.out 5).trans rfl; have hcz50_6 : w49.cell? ⟨gb268, 6, none⟩ = some (.int .i64 t267) := (blk_cell BK268.out 6).trans rfl; have hfz50_0 := blk_frozen BK268.out 0; have hfz50_1 := blk_frozen BK268.out 1; have hfz50_2 := blk_frozen BK268.out 2; have hfz50_3 := blk_frozen BK268.out 3; have hfz50_4 := blk_frozen BK268.out 4; have hfz50_5 := blk_frozen BK268.out 5; have hfz50_6 := blk_frozen BK268.out 6; have hcz51_0 : w49.cell? ⟨gb252, 0, none⟩ = some (.int .i64 0) := (blk_cell BK252.out 0).trans rfl; have hcz51_1 : w49.cell? ⟨gb252, 1, none⟩ = some (.int .i64 0) := (blk_cell BK252.out 1).trans rfl; have hcz51_2 : w49.cell? ⟨gb252, 2, none⟩ = some (.int .i64 0) := (blk_cell BK252.out 2).trans rfl; have hcz51_3 : w49.cell? ⟨gb252, 3, none⟩ = some (.int .i64 0) := (blk_cell BK252.out 3).trans rfl; have hcz51_4 : w49.cell? ⟨gb252, 4, none⟩ = some (.int .i64 0) := (blk_cell BK252.out 4).trans rfl; have hcz51_5 : w49.cell? ⟨gb252, 5, none⟩ = some (.int .i64 0) := (blk_cell BK252.out 5).trans rfl; have hcz51_6 : w49.cell? ⟨gb252, 6, none⟩ = some (.int .i64 0) := (blk_cell BK252.out 6).trans rfl; have hfz51_0 := blk_frozen BK252.out 0; have hfz51_1 := blk_frozen BK252.out 1; have hfz51_2 := blk_frozen BK252.out 2; have hfz51_3 := blk_frozen BK252.out 3; have hfz51_4 := blk_frozen BK252.out 4; have hfz51_5 := blk_frozen BK252.out 5; have hfz51_6 := blk_frozen BK252.out 6))
             refine bodyPost_ret (results_ct rfl _ _ gb252 24 #[.int .i64 t257, .int .i64 x269001_1, .int .i64 t259, .int .i64 t261, .int .i64 t263, .int .i64 t265, .int .i64 t267] (0, 0) _ rfl (by (with_reducible repeat (first | refine blk_drewN ?_ _ | refine blk_drew ?_ | refine blk_alloc ?_ _)); refine blk_put (cs := #[.int .i64 t257, .int .i64 x269001_1, .int .i64 t259, .int .i64 t261, .int .i64 t263, .int .i64 t265, .int .i64 0]) ?_ 6 _ rfl; (with_reducible repeat (first | refine blk_drewN ?_ _ | refine blk_drew ?_ | refine blk_alloc ?_ _)); refine blk_put (cs := #[.int .i64 t257, .int .i64 x269001_1, .int .i64 t259, .int .i64 t261, .int .i64 t263, .int .i64 0, .int .i64 0]) ?_ 5 _ rfl; (with_reducible repeat (first | refine blk_drewN ?_ _ | refine blk_drew ?_ | refine blk_alloc ?_ _)); refine blk_put (cs := #[.int .i64 t257, .int .i64 x269001_1, .int .i64 t259, .int .i64 t261, .int .i64 0, .int .i64 0, .int .i64 0]) ?_ 4 _ rfl; (with_reducible repeat (first | refine blk_drewN ?_ _ | refine blk_drew ?_ | refine blk_alloc ?_ _)); refine blk_put (cs := #[.int .i64 t257, .int .i64 x269001_1, .int .i64 t259, .int .i64 0, .int .i64 0, .int .i64 0, .int .i64 0]) ?_ 3 _ rfl; (with_reducible repeat (first | refine blk_drewN ?_ _ | refine blk_drew ?_ | refine blk_alloc ?_ _)); refine blk_put (cs := #[.int .i64 t257, .int .i64 x269001_1, .int .i64 0, .int .i64 0, .int .i64 0, .int .i64 0, .int .i64 0]) ?_ 2 _ rfl; (with_reducible repeat (first | refine blk_drewN ?_ _ | refine blk_drew ?_ | refine blk_alloc ?_ _)); refine blk_put (cs := #[.int .i64 t257, .int .i64 0, .int .i64 0, .int .i64 0, .int .i64 0, .int .i64 0, .int .i64 0]) ?_ 1 _ rfl; (with_reducible repeat (first | refine blk_drewN ?_ _ | refine blk_drew ?_ | refine blk_alloc ?_ _)); refine blk_put (cs := #[.int .i64 0, .int .i64 0, .int .i64 0, .int .i64 0, .int .i64 0, .int .i64 0, .int .i64 0]) ?_ 0 _ rfl; (with_reducible repeat (first | refine blk_drewN ?_ _ | refine blk_drew ?_ | refine blk_alloc ?_ _)); exact BK252.out) Tryd.underlying24 rfl (by kernel_rfl)) rfl ?_
             exact ⟨by first | rfl | (simp [errW_none, errW_some] <;> rfl) | (simp [*, errW_none, errW_some] <;> rfl), by repeat (first | (with_reducible first | exact HB.out | apply below_alloc | apply pw_below_drewN | apply below_drew1 | refine below_set ?_ GE252.out | refine below_set ?_ GE268.out) | exact HB.out)⟩
            ·rw [if_neg c45] at H
             have c45b0 : (t274.toList == a0.toList) = false := beq_eq_false_iff_ne.mpr c45
             have c45b1 : (t274.toList != a0.toList) = true := bne_iff_ne.mpr c45
             simp only [Option.some.injEq, Prod.mk.injEq] at H
             obtain ⟨rfl, rfl, rfl, rfl, rfl, rfl, rfl, rfl⟩ := H
             obtain ⟨Ao52, co52, eo52⟩ := Kd.R_slice HO_6.out
             subst eo52
             have hnb53 := NB268_252.out
             have hnc53 := NB252_268.out
             have hcz54_0 : wr.cell? ⟨gb268, 0, none⟩ = some (.int .i64 t257) := (blk_cell BK268.out 0).trans rfl
             have hcz54_1 : wr.cell? ⟨gb268, 1, none⟩ = some (.int .i64 x269001_1) := (blk_cell BK268.out 1).trans rfl
             have hcz54_2 : wr.cell? ⟨gb268, 2, none⟩ = some (.int .i64 t259) := (blk_cell BK268.out 2).trans rfl
             have hcz54_3 : wr.cell? ⟨gb268, 3, none⟩ = some (.int .i64 t261) := (blk_cell BK268.out 3).trans rfl
             have hcz54_4 : wr.cell? ⟨gb268, 4, none⟩ = some (.int .i64 t263) := (blk_cell BK268.out 4).trans rfl
             have hcz54_5 : wr.cell? ⟨gb268, 5, none⟩ = some (.int .i64 t265) := (blk_cell BK268.out 5).trans rfl
             have hcz54_6 : wr.cell? ⟨gb268, 6, none⟩ = some (.int .i64 t267) := (blk_cell BK268.out 6).trans rfl
             have hfz54_0 := blk_frozen BK268.out 0
             have hfz54_1 := blk_frozen BK268.out 1
             have hfz54_2 := blk_frozen BK268.out 2
             have hfz54_3 := blk_frozen BK268.out 3
             have hfz54_4 := blk_frozen BK268.out 4
             have hfz54_5 := blk_frozen BK268.out 5
             have hfz54_6 := blk_frozen BK268.out 6
             go_wp2_with (first | ((with_reducible refine gate_callee (f := 9) rfl ?_); refine goesL_ (some 61) rfl rfl Tryd.func9 (by kernel_rfl) rfl #[.agg #[.int .i64 t257, .int .i64 x269001_1, .int .i64 t259, .int .i64 t261, .int .i64 t263, .int .i64 t265, .int .i64 t267]] rfl z21x10 ?_; (with_reducible refine (spec_SealText.calls k1 t257 x269001_1 t259 t261 t263 t265 t267 t274 _ A44.out).mono ?_); rintro e w55 ⟨rfl, hb⟩; refine ⟨_, rfl, ?_⟩; have n0_ := Aside0.mk (Kd.R_below (by (with_reducible repeat (first | apply Kd.R_alloc | apply Kd.R_drewN | apply Kd.R_drew)); exact HO_4.out) hb); have n1_ := Aside0.mk (Kd.R_below (by (with_reducible repeat (first | apply Kd.R_alloc | apply Kd.R_drewN | apply Kd.R_drew)); exact HO_6.out) hb); have n2_ := Aside0.mk (blk_below (g := gb252) (o := .cells #[.int .i64 0, .int .i64 0, .int .i64 0, .int .i64 0, .int .i64 0, .int .i64 0, .int .i64 0] 24 (0, 0)) z21x12 hb); have n3_ := Aside0.mk (blk_below (g := gb268) (o := .cells #[.int .i64 t257, .int .i64 x269001_1, .int .i64 t259, .int .i64 t261, .int .i64 t263, .int .i64 t265, .int .i64 t267] 24 (0, 0)) z21x13 hb); have n4_ := Aside0.mk (below_step z21x6 hb); clear HO_4; clear HO_6; clear BK252; clear BK268; clear HB; have HO_4 := n0_; have HO_6 := n1_; have BK252 := n2_; have BK268 := n3_; have HB := n4_; clear n0_ n1_ n2_ n3_ n4_; (try clear hb); (try clear hb2); (try clear hk); (try clear hi); have hcz56_0 : w55.cell? ⟨gb252, 0, none⟩ = some (.int .i64 0) := (blk_cell BK252.out 0).trans rfl; have hcz56_1 : w55.cell? ⟨gb252, 1, none⟩ = some (.int .i64 0) := (blk_cell BK252.out 1).trans rfl; have hcz56_2 : w55.cell? ⟨gb252, 2, none⟩ = some (.int .i64 0) := (blk_cell BK252.out 2).trans rfl; have hcz56_3 : w55.cell? ⟨gb252, 3, none⟩ = some (.int .i64 0) := (blk_cell BK252.out 3).trans rfl; have hcz56_4 : w55.cell? ⟨gb252, 4, none⟩ = some (.int .i64 0) := (blk_cell BK252.out 4).trans rfl; have hcz56_5 : w55.cell? ⟨gb252, 5, none⟩ = some (.int .i64 0) := (blk_cell BK252.out 5).trans rfl; have hcz56_6 : w55.cell? ⟨gb252, 6, none⟩ = some (.int .i64 0) := (blk_cell BK252.out 6).trans rfl; have hfz56_0 := blk_frozen BK252.out 0; have hfz56_1 := blk_frozen BK252.out 1; have hfz56_2 := blk_frozen BK252.out 2; have hfz56_3 := blk_frozen BK252.out 3; have hfz56_4 := blk_frozen BK252.out 4; have hfz56_5 := blk_frozen BK252.out 5; have hfz56_6 := blk_frozen BK252.out 6))
             refine bodyPost_ret (results_ct rfl _ _ gb252 24 #[.int .i64 0, .int .i64 0, .int .i64 0, .int .i64 0, .int .i64 0, .int .i64 0, .int .i64 0] (0, 0) _ rfl z21x0 Tryd.underlying24 rfl (by kernel_rfl)) rfl ?_
             exact ⟨by first | rfl | (simp [errW_none, errW_some] <;> rfl) | (simp [*, errW_none, errW_some] <;> rfl), by repeat (first | (with_reducible first | exact HB.out | apply below_alloc | apply pw_below_drewN | apply below_drew1 | refine below_set ?_ GE252.out | refine below_set ?_ GE268.out) | exact HB.out)⟩
        ·rw [if_neg c17] at H
         exact absurd H (by simp)
       ·rw [if_neg c15] at H
        exact absurd H (by simp)
      ·rw [if_neg c13] at H
       exact absurd H (by simp)
     ·rw [if_neg c11] at H
      exact absurd H (by simp)
    ·rw [if_neg c9] at H
     exact absurd H (by simp)
   ·rw [if_neg c7] at H
    exact absurd H (by simp)
  ·rw [if_neg c6] at H
   have c6b0 : ((t253.length : Int) == 7) = false := beq_eq_false_iff_ne.mpr c6
   have c6b1 : ((t253.length : Int) != 7) = true := bne_iff_ne.mpr c6
   simp only [Option.some.injEq, Prod.mk.injEq] at H
   obtain ⟨rfl, rfl, rfl, rfl, rfl, rfl, rfl, rfl⟩ := H
   go_enter Tryd.func11, Tryd.ntmps11
   go_wp2_with (first | ((with_reducible refine gate_dst (N := 2) rfl ?_); refine box_event ?hg (N := 2) ?hd (cs := #[.int .i64 0, .int .i64 0, .int .i64 0, .int .i64 0, .int .i64 0, .int .i64 0, .int .i64 0]) (t := 24) ?hr ?_; (case hd => rfl); (case hg => rfl); (case hr => first | (go_simp; done) | (go_simp; rfl)); intro gb252 hg w57 hbox hb; have n0_ := Aside0.mk (below_step z21x11 hb); have n1_ := Aside0.mk (hbox); have n2_ := Aside0.mk ((z21x9 : w.heap.size ≤ gb252)); have n3_ := Aside0.mk ((z21x9 : w.heap.size ≤ gb252)); clear HB; have HB := n0_; have BK252 := n1_; have GW252 := n2_; have GE252 := n3_; clear n0_ n1_ n2_ n3_; clear hb hbox hg) | ((with_reducible refine gate_callee (f := 24) rfl ?_); refine goesL_ (some 13) rfl rfl Tryd.func24 (by kernel_rfl) rfl #[.string a0, .int .u8 32] rfl z21x10 ?_; (with_reducible refine (spec_l1Cut.calls a0 32 t253 _ A5.out).mono ?_); rintro e w58 ⟨v254, rfl, ho0, hb⟩; refine ⟨_, rfl, ?_⟩; have n0_ := Aside0.mk (Kd.R_lower ho0 (below_size z21x8)); have n1_ := Aside0.mk (blk_below (g := gb252) (o := .cells #[.int .i64 0, .int .i64 0, .int .i64 0, .int .i64 0, .int .i64 0, .int .i64 0, .int .i64 0] 24 (0, 0)) z21x12 hb); have n2_ := Aside0.mk (below_step z21x8 hb); clear BK252; clear HB; have HO255 := n0_; have BK252 := n1_; have HB := n2_; clear n0_ n1_ n2_; (try clear hb); (try clear hb2); (try clear hk); (try clear hi); (try clear ho0); obtain ⟨Ao59, co59, eo59⟩ := Kd.R_slice HO255.out; subst eo59; have hcz60_0 : w58.cell? ⟨gb252, 0, none⟩ = some (.int .i64 0) := (blk_cell BK252.out 0).trans rfl; have hcz60_1 : w58.cell? ⟨gb252, 1, none⟩ = some (.int .i64 0) := (blk_cell BK252.out 1).trans rfl; have hcz60_2 : w58.cell? ⟨gb252, 2, none⟩ = some (.int .i64 0) := (blk_cell BK252.out 2).trans rfl; have hcz60_3 : w58.cell? ⟨gb252, 3, none⟩ = some (.int .i64 0) := (blk_cell BK252.out 3).trans rfl; have hcz60_4 : w58.cell? ⟨gb252, 4, none⟩ = some (.int .i64 0) := (blk_cell BK252.out 4).trans rfl; have hcz60_5 : w58.cell? ⟨gb252, 5, none⟩ = some (.int .i64 0) := (blk_cell BK252.out 5).trans rfl; have hcz60_6 : w58.cell? ⟨gb252, 6, none⟩ = some (.int .i64 0) := (blk_cell BK252.out 6).trans rfl; have hfz60_0 := blk_frozen BK252.out 0; have hfz60_1 := blk_frozen BK252.out 1; have hfz60_2 := blk_frozen BK252.out 2; have hfz60_3 := blk_frozen BK252.out 3; have hfz60_4 := blk_frozen BK252.out 4; have hfz60_5 := blk_frozen BK252.out 5; have hfz60_6 := blk_frozen BK252.out 6))
   refine bodyPost_ret (results_ct rfl _ _ gb252 24 #[.int .i64 0, .int .i64 0, .int .i64 0, .int .i64 0, .int .i64 0, .int .i64 0, .int .i64 0] (0, 0) _ rfl z21x0 Tryd.underlying24 rfl (by kernel_rfl)) rfl ?_
   exact ⟨by first | rfl | (simp [errW_none, errW_some] <;> rfl) | (simp [*, errW_none, errW_some] <;> rfl), by repeat (first | (with_reducible first | exact HB.out | apply below_alloc | apply pw_below_drewN | apply below_drew1 | refine below_set ?_ GE252.out) | exact HB.out)⟩

end Go.Proofs.YtbipicjijbnbbaaDoor.Hp
