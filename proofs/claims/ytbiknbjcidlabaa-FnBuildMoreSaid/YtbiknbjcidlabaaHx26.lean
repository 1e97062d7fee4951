-- hp.py
import Derived.Test.YtbiknbjcidlabaaHx0
import Derived.Test.YtbiknbjcidlabaaHx6
import Derived.Test.YtbiknbjcidlabaaHx7
import Derived.Test.YtbiknbjcidlabaaHx9
import Derived.Test.YtbiknbjcidlabaaHx10
namespace Go.Proofs.Ytbiknbjcidlabaa.Hp
open Go.RowKit Go.Proofs.YtbiknbjcidlabaaW.PrintWords Go.Proofs.YtbiknbjcidlabaaW.PrintLast Go.Proofs.YtbiknbjcidlabaaW.PrintMore
attribute [local go_sem] max2_int min2_int max_two min_two max_three min_three max_four min_four
set_option linter.all false
-- squeezed by wip/tools/squeeze.py
theorem z26x15 {P : Prop} (h : P := by (with_reducible repeat (first | apply Kd.R_alloc | apply Kd.R_drewN | apply Kd.R_drew)); exact HO_293004.out) : P := h
theorem z26x14 {P : Prop} (h : P := by (with_reducible repeat (first | refine blk_drewN ?_ _ | refine blk_drew ?_ | refine blk_alloc ?_ _)); exact BK292.out) : P := h
theorem z26x13 {P : Prop} (h : P := by (with_reducible repeat (first | refine blk_drewN ?_ _ | refine blk_drew ?_ | refine blk_alloc ?_ _)); exact BK286.out) : P := h
theorem z26x12 {P : Prop} (h : P := by (try simp only [List.map_toArray, List.map_cons, List.map_nil]); first | done | rfl | (simp only [List.length_drop, List.length_take]; rfl)) : P := h
theorem z26x11 {P : Prop} (h : P := by repeat (first | (with_reducible first | exact HK.out | apply KeepBut.set_ | apply keep_drewN | apply keep_drew | apply keep_alloc | refine keep_far ?_ GW286.out _) | exact HK.out)) : P := h
theorem z26x10 {P : Prop} (h : P := by repeat (first | (with_reducible first | exact HI0.out | apply IsS80.alloc | apply IsS80.drewN | apply IsS80.drew | apply IsS80.set_1 | refine IsS80.far ?_ NB0_286.out _) | exact HI0.out)) : P := h
theorem z26x9 {P : Prop} (h : P := by repeat (first | (with_reducible first | exact HB.out | apply below_alloc | apply pw_below_drewN | apply below_drew1 | refine below_set ?_ (IsS80.ge HI0.out) | refine below_set ?_ GE286.out) | exact HB.out)) : P := h
theorem z26x8 {P : Prop} (h : P := by rw [hg]; exact (keep_size (w := w) (g := g) (row := none) (by repeat (first | (with_reducible first | exact HK.out | apply KeepBut.set_ | apply keep_drewN | apply keep_drew | apply keep_alloc) | exact HK.out)))) : P := h
theorem z26x7 {P : Prop} (h : P := by repeat (first | (with_reducible first | exact HK.out | apply KeepBut.set_ | apply keep_drewN | apply keep_drew | apply keep_alloc | refine keep_far ?_ GW286.out _ | refine keep_far ?_ GW292.out _) | exact HK.out)) : P := h
theorem z26x6 {P : Prop} (h : P := by repeat (first | (with_reducible first | exact HI0.out | apply IsS80.alloc | apply IsS80.drewN | apply IsS80.drew | apply IsS80.set_1 | refine IsS80.far ?_ NB0_286.out _ | refine IsS80.far ?_ NB0_292.out _) | exact HI0.out)) : P := h
theorem z26x5 {P : Prop} (h : P := by repeat (first | (with_reducible first | exact HB.out | apply below_alloc | apply pw_below_drewN | apply below_drew1 | refine below_set ?_ (IsS80.ge HI0.out) | refine below_set ?_ GE286.out | refine below_set ?_ GE292.out) | exact HB.out)) : P := h
theorem z26x4 {P : Prop} (h : P := by rw [hg]; exact (keep_size (w := w) (g := g) (row := none) (by repeat (first | (with_reducible first | exact HK.out | apply KeepBut.set_ | apply keep_drewN | apply keep_drew | apply keep_alloc | refine keep_far ?_ GW286.out _) | exact HK.out)))) : P := h
theorem z26x3 {P : Prop} (h : P := by (with_reducible repeat (first | refine blk_drewN ?_ _ | refine blk_drew ?_ | refine blk_alloc ?_ _)); refine blk_far ?_ NB286_292.out _; (with_reducible repeat (first | refine blk_drewN ?_ _ | refine blk_drew ?_ | refine blk_alloc ?_ _)); exact BK286.out) : P := h
theorem z26x2 {P : Prop} (h : P := by (with_reducible repeat (first | apply Kd.R_alloc | apply Kd.R_drewN | apply Kd.R_drew)); exact (Kd.R_mono (Kd.R_far (p := ⟨gb292, 4, none⟩) (Kd.R_far (p := ⟨gb292, 3, none⟩) (Kd.R_far (p := ⟨gb292, 2, none⟩) (Kd.R_far (p := ⟨gb292, 1, none⟩) (Kd.R_far (p := ⟨gb292, 0, none⟩) (Kd.R_types HO291.out BK292.out (by decide)) (fun _ hk => hk.2) (.int .i64 (wrap64 (1 + t287)))) (fun _ hk => hk.2) (.int .i64 0)) (fun _ hk => hk.2) (.int .i64 0)) (fun _ hk => hk.2) (.int .i64 0)) (fun _ hk => hk.2) (.slice Ao8 y289.length co8)) (fun _ h_ => h_.1))) : P := h
theorem z26x1 {P : Prop} (h : P := by (with_reducible repeat (first | refine blk_drewN ?_ _ | refine blk_drew ?_ | refine blk_alloc ?_ _)); refine blk_far ?_ NB286_292.out _; (with_reducible repeat (first | refine blk_drewN ?_ _ | refine blk_drew ?_ | refine blk_alloc ?_ _)); refine blk_far ?_ NB286_292.out _; (with_reducible repeat (first | refine blk_drewN ?_ _ | refine blk_drew ?_ | refine blk_alloc ?_ _)); refine blk_far ?_ NB286_292.out _; (with_reducible repeat (first | refine blk_drewN ?_ _ | refine blk_drew ?_ | refine blk_alloc ?_ _)); refine blk_far ?_ NB286_292.out _; (with_reducible repeat (first | refine blk_drewN ?_ _ | refine blk_drew ?_ | refine blk_alloc ?_ _)); refine blk_far ?_ NB286_292.out _; (with_reducible repeat (first | refine blk_drewN ?_ _ | refine blk_drew ?_ | refine blk_alloc ?_ _)); exact BK286.out) : P := h
theorem z26x0 {P : Prop} (h : P := by (with_reducible repeat (first | refine blk_drewN ?_ _ | refine blk_drew ?_ | refine blk_alloc ?_ _)); refine blk_put (cs := #[.int .i64 (wrap64 (1 + t287)), .int .i64 0, .int .i64 0, .int .i64 0, .slice none 0 0]) ?_ 4 _ rfl; (with_reducible repeat (first | refine blk_drewN ?_ _ | refine blk_drew ?_ | refine blk_alloc ?_ _)); refine blk_put (cs := #[.int .i64 (wrap64 (1 + t287)), .int .i64 0, .int .i64 0, .int .i64 0, .slice none 0 0]) ?_ 3 _ rfl; (with_reducible repeat (first | refine blk_drewN ?_ _ | refine blk_drew ?_ | refine blk_alloc ?_ _)); refine blk_put (cs := #[.int .i64 (wrap64 (1 + t287)), .int .i64 0, .int .i64 0, .int .i64 0, .slice none 0 0]) ?_ 2 _ rfl; (with_reducible repeat (first | refine blk_drewN ?_ _ | refine blk_drew ?_ | refine blk_alloc ?_ _)); refine blk_put (cs := #[.int .i64 (wrap64 (1 + t287)), .int .i64 0, .int .i64 0, .int .i64 0, .slice none 0 0]) ?_ 1 _ rfl; (with_reducible repeat (first | refine blk_drewN ?_ _ | refine blk_drew ?_ | refine blk_alloc ?_ _)); refine blk_put (cs := #[.int .i64 0, .int .i64 0, .int .i64 0, .int .i64 0, .slice none 0 0]) ?_ 0 _ rfl; (with_reducible repeat (first | refine blk_drewN ?_ _ | refine blk_drew ?_ | refine blk_alloc ?_ _)); exact BK292.out) : P := h

/-! ### spec_l71Msg: function 72 -/
mutual
def spec_l71Msg.j0 : Nat → Int → List Int → Int → Int → Int → Int → Int → List (S24) → Option (Int × Int × Int × Int × (List (S24)) × Int)
 | 0, _, _, _, _, _, _, _, _ => none
 | k + 1, x4, x1000, x1001, x293000, x293001, x293002, x293003, x293004 => spec_l71Msg.l0 k x4 0 x1000 x1001 x293000 x293001 x293002 x293003 x293004
def spec_l71Msg.l0 : Nat → Int → Int → List Int → Int → Int → Int → Int → Int → List (S24) → Option (Int × Int × Int × Int × (List (S24)) × Int)
 | 0, _, _, _, _, _, _, _, _, _ => none
 | k + 1, x4, x5, x1000, x1001, x293000, x293001, x293002, x293003, x293004 => if x5 < x4 then ((spec_l71Fine.f k x1000 x1001).bind fun bt307 => (if x293004.length < 2513169434916 then (spec_l71Msg.l0 k x4 (wrap64 (x5 + 1)) x1000 bt307.2.2.2.2.2.2.2 x293000 x293001 x293002 x293003 (x293004 ++ [(⟨bt307.1, bt307.2.1, bt307.2.2.1, bt307.2.2.2.1, bt307.2.2.2.2.1, bt307.2.2.2.2.2.1, bt307.2.2.2.2.2.2.1⟩ : S24)])) else (none))) else ((spec_l6Rd_pick.f k x1000 x1001 20).bind fun bt318 => (if bt318.1 = 0 then ((spec_l6Rd_pick.f k x1000 bt318.2 8).bind fun bt320 => (some (bt320.1, x293001, x293002, x293003, x293004, bt320.2))) else (if bt318.1 = 1 then ((spec_l6Rd_pick.f k x1000 bt318.2 5).bind fun bt322 => (some (x293000, bt322.1, x293002, x293003, x293004, bt322.2))) else (if bt318.1 = 2 then ((spec_l6Rd_pick.f k x1000 bt318.2 7).bind fun bt324 => (some (x293000, x293001, bt324.1, x293003, x293004, bt324.2))) else (if bt318.1 = 3 then ((some (([0, 5, 61] : List Int) : List Int)).bind fun y326 => ((spec_l6Rd_pick.f k x1000 bt318.2 3).bind fun bt329 => (if 0 ≤ bt329.1 then (if bt329.1 < (y326.length : Int) then (some (x293000, x293001, x293002, rd y326 bt329.1, x293004, bt329.2)) else (none)) else (none)))) else (if bt318.1 = 4 then ((spec_l71Seal.f k x1000 bt318.2).bind fun bt332 => (if x293004.length < 2513169434916 then (some (x293000, x293001, x293002, x293003, (x293004 ++ [(⟨bt332.1, bt332.2.1, bt332.2.2.1, bt332.2.2.2.1, bt332.2.2.2.2.1, bt332.2.2.2.2.2.1, bt332.2.2.2.2.2.2.1⟩ : S24)]), bt332.2.2.2.2.2.2.2)) else (none))) else (some (x293000, x293001, x293002, x293003, x293004, bt318.2))))))))
end
def spec_l71Msg.f (k : Nat) (s0_0 : List Int) (s0_1 : Int) : Option (Int × Int × Int × Int × (List (S24)) × Int) := (spec_l6Rd_pick.f k s0_0 s0_1 6).bind fun bt287 => ((some (([] : List (S24)) : List (S24))).bind fun y289 => (if (wrap64 (1 + bt287.1)) = 1 then ((spec_l6Rd_pick.f k s0_0 bt287.2 3).bind fun bt293 => ((spec_l6Rd_pick.f k s0_0 bt293.2 9).bind fun bt295 => (spec_l71Msg.j0 k 0 s0_0 bt295.2 (wrap64 (1 + bt287.1)) (wrap64 (1 + bt293.1)) 0 (wrap64 (1 + bt295.1)) y289))) else (if (wrap64 (1 + bt287.1)) = 3 then ((spec_l6Rd_pick.f k s0_0 bt287.2 2).bind fun bt297 => ((spec_l6Rd_pick.f k s0_0 bt297.2 9).bind fun bt299 => (spec_l71Msg.j0 k 2 s0_0 bt299.2 (wrap64 (1 + bt287.1)) 0 (wrap64 (4 + bt297.1)) (wrap64 (1 + bt299.1)) y289))) else (if (wrap64 (1 + bt287.1)) = 5 then ((spec_l6Rd_pick.f k s0_0 bt287.2 2).bind fun bt301 => (spec_l71Msg.j0 k 2 s0_0 bt301.2 (wrap64 (1 + bt287.1)) 0 (wrap64 (4 + bt301.1)) 0 y289)) else (if (wrap64 (1 + bt287.1)) = 6 then ((spec_l6Rd_pick.f k s0_0 bt287.2 3).bind fun bt303 => (spec_l71Msg.j0 k 1 s0_0 bt303.2 (wrap64 (1 + bt287.1)) (wrap64 (1 + bt303.1)) 0 0 y289)) else ((spec_l6Rd_pick.f k s0_0 bt287.2 3).bind fun bt305 => (spec_l71Msg.j0 k 2 s0_0 bt305.2 (wrap64 (1 + bt287.1)) (wrap64 (1 + bt305.1)) 0 0 y289)))))))
theorem spec_l71Msg.mono_l : ∀ k, (∀ y0 y1 y2 y3 y4 y5 y6 y7, LeO (spec_l71Msg.j0 k y0 y1 y2 y3 y4 y5 y6 y7) (spec_l71Msg.j0 (k + 1) y0 y1 y2 y3 y4 y5 y6 y7)) ∧ (∀ y0 y1 y2 y3 y4 y5 y6 y7 y8, LeO (spec_l71Msg.l0 k y0 y1 y2 y3 y4 y5 y6 y7 y8) (spec_l71Msg.l0 (k + 1) y0 y1 y2 y3 y4 y5 y6 y7 y8))
 | 0 => ⟨fun _ _ _ _ _ _ _ _ r h => by simp [spec_l71Msg.j0] at h, fun _ _ _ _ _ _ _ _ _ r h => by simp [spec_l71Msg.l0] at h⟩
 | k + 1 => by
  obtain ⟨ih0, ih1⟩ := spec_l71Msg.mono_l k
  refine ⟨?_, ?_⟩
  ·intro y0 y1 y2 y3 y4 y5 y6 y7
   unfold spec_l71Msg.j0
   repeat' first
   | (with_reducible exact ih0 _ _ _ _ _ _ _ _)
   | (with_reducible exact ih1 _ _ _ _ _ _ _ _ _)
   | (with_reducible exact spec_l6Rd_pick.mono _ _ _ _)
   | (with_reducible exact spec_l71Fine.mono _ _ _)
   | (with_reducible exact spec_l71Seal.mono _ _ _)
   | (with_reducible exact LeO.refl _)
   | (with_reducible exact LeO.none _)
   | (with_reducible refine LeO.ite ?_ ?_)
   | (with_reducible refine LeO.bind ?_ (fun _ => ?_))
   | exact ih0 _ _ _ _ _ _ _ _
   | exact ih1 _ _ _ _ _ _ _ _ _
   | exact spec_l6Rd_pick.mono _ _ _ _
   | exact spec_l71Fine.mono _ _ _
   | exact spec_l71Seal.mono _ _ _
   | exact LeO.none _
   | refine LeO.ite ?_ ?_
   | refine LeO.bind ?_ (fun _ => ?_)
  ·intro y0 y1 y2 y3 y4 y5 y6 y7 y8
   unfold spec_l71Msg.l0
   repeat' first
   | (with_reducible exact ih0 _ _ _ _ _ _ _ _)
   | (with_reducible exact ih1 _ _ _ _ _ _ _ _ _)
   | (with_reducible exact spec_l6Rd_pick.mono _ _ _ _)
   | (with_reducible exact spec_l71Fine.mono _ _ _)
   | (with_reducible exact spec_l71Seal.mono _ _ _)
   | (with_reducible exact LeO.refl _)
   | (with_reducible exact LeO.none _)
   | (with_reducible refine LeO.ite ?_ ?_)
   | (with_reducible refine LeO.bind ?_ (fun _ => ?_))
   | exact ih0 _ _ _ _ _ _ _ _
   | exact ih1 _ _ _ _ _ _ _ _ _
   | exact spec_l6Rd_pick.mono _ _ _ _
   | exact spec_l71Fine.mono _ _ _
   | exact spec_l71Seal.mono _ _ _
   | exact LeO.none _
   | refine LeO.ite ?_ ?_
   | refine LeO.bind ?_ (fun _ => ?_)
theorem spec_l71Msg.mono : ∀ a0 a1 k, LeO (spec_l71Msg.f k a0 a1) (spec_l71Msg.f (k + 1) a0 a1) := by
 intro a0 a1 k
 obtain ⟨ih0, ih1⟩ := spec_l71Msg.mono_l k
 unfold spec_l71Msg.f
 repeat' first
   | (with_reducible exact ih0 _ _ _ _ _ _ _ _)
   | (with_reducible exact ih1 _ _ _ _ _ _ _ _ _)
   | (with_reducible exact spec_l6Rd_pick.mono _ _ _ _)
   | (with_reducible exact spec_l71Fine.mono _ _ _)
   | (with_reducible exact spec_l71Seal.mono _ _ _)
   | (with_reducible exact LeO.refl _)
   | (with_reducible exact LeO.none _)
   | (with_reducible refine LeO.ite ?_ ?_)
   | (with_reducible refine LeO.bind ?_ (fun _ => ?_))
   | exact ih0 _ _ _ _ _ _ _ _
   | exact ih1 _ _ _ _ _ _ _ _ _
   | exact spec_l6Rd_pick.mono _ _ _ _
   | exact spec_l71Fine.mono _ _ _
   | exact spec_l71Seal.mono _ _ _
   | exact LeO.none _
   | refine LeO.ite ?_ ?_
   | refine LeO.bind ?_ (fun _ => ?_)
def spec_l71Msg.T20 : Bool × List (List Nat × List Nat) := (true, [([], []), ([0], [0]), ([], []), ([2], [2]), ([3], [3]), ([1, 4, 3], [1, 4]), ([0, 1, 2, 3, 4, 5], []), ([6, 5, 5, 0, 1, 2, 3, 4, 5], [5, 6])])
def spec_l71Msg.B20 : List Nat := [0, 1, 0, 4, 12, 31, 63, 127]
theorem spec_l71Msg.tab20 : rtab .any (opsOf Try.f72 20) = spec_l71Msg.T20 := by kernel_rfl
theorem spec_l71Msg.bits20 : waitsOk spec_l71Msg.T20.2 spec_l71Msg.B20 = true := by kernel_rfl
def spec_l71Msg.T31 : Bool × List (List Nat × List Nat) := (true, [([], []), ([0], [0]), ([], []), ([2], [2]), ([3], [3]), ([1, 4, 3], [1, 4]), ([0, 1, 2, 3, 4, 5], []), ([6, 5, 5, 0, 1, 2, 3, 4, 5], [5, 6])])
def spec_l71Msg.B31 : List Nat := [0, 1, 0, 4, 12, 31, 63, 127]
theorem spec_l71Msg.tab31 : rtab .any (opsOf Try.f72 31) = spec_l71Msg.T31 := by kernel_rfl
theorem spec_l71Msg.bits31 : waitsOk spec_l71Msg.T31.2 spec_l71Msg.B31 = true := by kernel_rfl
set_option maxHeartbeats 8000000 in
set_option maxRecDepth 100000 in
theorem spec_l71Msg.calls (k : Nat) (g : Nat) (s0_0 : List Int) (s0_1 : Int) (r1 : Int) (r2 : Int) (r3 : Int) (r4 : Int) (r5 : List (S24)) (r6 : Int) (w0 w : World) (hI : IsS80 w0 w g s0_0 s0_1) (hB : Below w0.heap.size w0 w) (h : spec_l71Msg.f k s0_0 s0_1 = some (r1, r2, r3, r4, r5, r6)) :
  Calls Try.prog 72 #[.pointer (some ⟨g, 0, none⟩)] w fun e w' => ∃ v4_ : Value, e = .returned (.agg #[.int .i64 r1, .int .i64 r2, .int .i64 r3, .int .i64 r4, v4_]) ∧ Kd.R k24 24 w' w.heap.size (fun _ => True) v4_ r5 ∧ IsS80 w0 w' g s0_0 r6 ∧ Below w0.heap.size w0 w' ∧ KeepBut w w' g none := by
 have hu36 := Try.underlying36
 have HI0 := Aside0.mk hI
 have HK := Aside0.mk (KeepBut.refl w g none)
 have HL := Aside0.mk hB.size
 clear hI
 have HW0 := Aside0.mk hB.size
 have HB := Aside0.mk hB
 clear hB
 have H : ((spec_l6Rd_pick.f k s0_0 s0_1 6).bind fun bt287 => ((some (([] : List (S24)) : List (S24))).bind fun y289 => (if (wrap64 (1 + bt287.1)) = 1 then ((spec_l6Rd_pick.f k s0_0 bt287.2 3).bind fun bt293 => ((spec_l6Rd_pick.f k s0_0 bt293.2 9).bind fun bt295 => (spec_l71Msg.j0 k 0 s0_0 bt295.2 (wrap64 (1 + bt287.1)) (wrap64 (1 + bt293.1)) 0 (wrap64 (1 + bt295.1)) y289))) else (if (wrap64 (1 + bt287.1)) = 3 then ((spec_l6Rd_pick.f k s0_0 bt287.2 2).bind fun bt297 => ((spec_l6Rd_pick.f k s0_0 bt297.2 9).bind fun bt299 => (spec_l71Msg.j0 k 2 s0_0 bt299.2 (wrap64 (1 + bt287.1)) 0 (wrap64 (4 + bt297.1)) (wrap64 (1 + bt299.1)) y289))) else (if (wrap64 (1 + bt287.1)) = 5 then ((spec_l6Rd_pick.f k s0_0 bt287.2 2).bind fun bt301 => (spec_l71Msg.j0 k 2 s0_0 bt301.2 (wrap64 (1 + bt287.1)) 0 (wrap64 (4 + bt301.1)) 0 y289)) else (if (wrap64 (1 + bt287.1)) = 6 then ((spec_l6Rd_pick.f k s0_0 bt287.2 3).bind fun bt303 => (spec_l71Msg.j0 k 1 s0_0 bt303.2 (wrap64 (1 + bt287.1)) (wrap64 (1 + bt303.1)) 0 0 y289)) else ((spec_l6Rd_pick.f k s0_0 bt287.2 3).bind fun bt305 => (spec_l71Msg.j0 k 2 s0_0 bt305.2 (wrap64 (1 + bt287.1)) (wrap64 (1 + bt305.1)) 0 0 y289)))))))) = some (r1, r2, r3, r4, r5, r6) := h
 clear h
 replace H := Option.bind_eq_some_iff.mp H
 obtain ⟨⟨t287, t288⟩, A20, H⟩ := H
 replace H : ((some (([] : List (S24)) : List (S24))).bind fun y289 => (if (wrap64 (1 + t287)) = 1 then ((spec_l6Rd_pick.f k s0_0 t288 3).bind fun bt293 => ((spec_l6Rd_pick.f k s0_0 bt293.2 9).bind fun bt295 => (spec_l71Msg.j0 k 0 s0_0 bt295.2 (wrap64 (1 + t287)) (wrap64 (1 + bt293.1)) 0 (wrap64 (1 + bt295.1)) y289))) else (if (wrap64 (1 + t287)) = 3 then ((spec_l6Rd_pick.f k s0_0 t288 2).bind fun bt297 => ((spec_l6Rd_pick.f k s0_0 bt297.2 9).bind fun bt299 => (spec_l71Msg.j0 k 2 s0_0 bt299.2 (wrap64 (1 + t287)) 0 (wrap64 (4 + bt297.1)) (wrap64 (1 + bt299.1)) y289))) else (if (wrap64 (1 + t287)) = 5 then ((spec_l6Rd_pick.f k s0_0 t288 2).bind fun bt301 => (spec_l71Msg.j0 k 2 s0_0 bt301.2 (wrap64 (1 + t287)) 0 (wrap64 (4 + bt301.1)) 0 y289)) else (if (wrap64 (1 + t287)) = 6 then ((spec_l6Rd_pick.f k s0_0 t288 3).bind fun bt303 => (spec_l71Msg.j0 k 1 s0_0 bt303.2 (wrap64 (1 + t287)) (wrap64 (1 + bt303.1)) 0 0 y289)) else ((spec_l6Rd_pick.f k s0_0 t288 3).bind fun bt305 => (spec_l71Msg.j0 k 2 s0_0 bt305.2 (wrap64 (1 + t287)) (wrap64 (1 + bt305.1)) 0 0 y289))))))) = some (r1, r2, r3, r4, r5, r6) := H
 have A2 := Aside0.mk A20
 clear A20
 obtain ⟨y289, hy289⟩ : ∃ y_ : List (S24), y_ = (([] : List (S24))) := ⟨_, rfl⟩
 replace H : (if (wrap64 (1 + t287)) = 1 then ((spec_l6Rd_pick.f k s0_0 t288 3).bind fun bt293 => ((spec_l6Rd_pick.f k s0_0 bt293.2 9).bind fun bt295 => (spec_l71Msg.j0 k 0 s0_0 bt295.2 (wrap64 (1 + t287)) (wrap64 (1 + bt293.1)) 0 (wrap64 (1 + bt295.1)) y289))) else (if (wrap64 (1 + t287)) = 3 then ((spec_l6Rd_pick.f k s0_0 t288 2).bind fun bt297 => ((spec_l6Rd_pick.f k s0_0 bt297.2 9).bind fun bt299 => (spec_l71Msg.j0 k 2 s0_0 bt299.2 (wrap64 (1 + t287)) 0 (wrap64 (4 + bt297.1)) (wrap64 (1 + bt299.1)) y289))) else (if (wrap64 (1 + t287)) = 5 then ((spec_l6Rd_pick.f k s0_0 t288 2).bind fun bt301 => (spec_l71Msg.j0 k 2 s0_0 bt301.2 (wrap64 (1 + t287)) 0 (wrap64 (4 + bt301.1)) 0 y289)) else (if (wrap64 (1 + t287)) = 6 then ((spec_l6Rd_pick.f k s0_0 t288 3).bind fun bt303 => (spec_l71Msg.j0 k 1 s0_0 bt303.2 (wrap64 (1 + t287)) (wrap64 (1 + bt303.1)) 0 0 y289)) else ((spec_l6Rd_pick.f k s0_0 t288 3).bind fun bt305 => (spec_l71Msg.j0 k 2 s0_0 bt305.2 (wrap64 (1 + t287)) (wrap64 (1 + bt305.1)) 0 0 y289)))))) = some (r1, r2, r3, r4, r5, r6) := by first | (rw [hy289]; with_reducible exact H) | (have H2_ := (Option.bind_some _ _).symm.trans H; rw [hy289]; with_reducible exact H2_) | (have H2_ := (Option.bind_some _ _).symm.trans H; with_reducible exact H2_) | with_reducible exact H | (rw [hy289]; exact H) | exact H
 have Ny289 := Aside0.mk hy289
 clear hy289
 have HC3 := Aside0.mk H
 clear H
 go_enter Try.func72, Try.ntmps72
 go_upto_block 0 with (first | ((with_reducible refine gate_dst (N := 2) rfl ?_); refine box_event ?hg (N := 2) ?hd (cs := #[.int .i64 0, .int .i64 0, .int .i64 0, .int .i64 0, .slice none 0 0]) (t := 36) ?hr ?_; (case hd => rfl); (case hg => rfl); (case hr => first | (go_simp; done) | (go_simp; rfl)); intro gb286 hg w4 hbox hb; have n0_ := Aside0.mk (IsS80.below (by repeat (first | (with_reducible first | exact HI0.out | apply IsS80.alloc | apply IsS80.drewN | apply IsS80.drew | apply IsS80.set_1) | exact HI0.out)) hb); have n1_ := Aside0.mk (KeepBut.trans (by repeat (first | (with_reducible first | exact HK.out | apply KeepBut.set_ | apply keep_drewN | apply keep_drew | apply keep_alloc) | exact HK.out)) (KeepBut.of_below hb g none) (.inl rfl)); have n2_ := Aside0.mk (below_step (by repeat (first | (with_reducible first | exact HB.out | apply below_alloc | apply pw_below_drewN | apply below_drew1 | refine below_set ?_ (IsS80.ge HI0.out)) | exact HB.out)) hb); have n3_ := Aside0.mk (hbox); have n4_ := Aside0.mk ((z26x8 : w.heap.size ≤ gb286)); have n5_ := Aside0.mk ((Nat.le_trans HW0.out (z26x8 : w.heap.size ≤ gb286) : w0.heap.size ≤ gb286)); have n6_ := Aside0.mk ((by rw [hg]; exact Nat.ne_of_lt (IsS80.lt (show IsS80 w0 _ g s0_0 s0_1 from by repeat (first | (with_reducible first | exact HI0.out | apply IsS80.alloc | apply IsS80.drewN | apply IsS80.drew | apply IsS80.set_1) | exact HI0.out))) : g ≠ gb286)); have n7_ := Aside0.mk ((by rw [hg]; exact Nat.ne_of_gt (IsS80.lt (show IsS80 w0 _ g s0_0 s0_1 from by repeat (first | (with_reducible first | exact HI0.out | apply IsS80.alloc | apply IsS80.drewN | apply IsS80.drew | apply IsS80.set_1) | exact HI0.out))) : gb286 ≠ g)); clear HI0; clear HK; clear HB; have HI0 := n0_; have HK := n1_; have HB := n2_; have BK286 := n3_; have GW286 := n4_; have GE286 := n5_; have NB0_286 := n6_; have NB286_0 := n7_; clear n0_ n1_ n2_ n3_ n4_ n5_ n6_ n7_; clear hb hbox hg) | ((with_reducible refine gate_callee (f := 57) rfl ?_); refine goesL_ (some 7) rfl rfl Try.func57 (by kernel_rfl) rfl #[.pointer (some ⟨g, 0, none⟩), .int .i64 6] rfl z26x12 ?_; (with_reducible refine (spec_l6Rd_pick.calls k g s0_0 s0_1 6 t287 t288 w0 _ ?side1 ?side2 A2.out).mono ?_); (case side1 => repeat (first | (with_reducible first | exact HI0.out | apply IsS80.alloc | apply IsS80.drewN | apply IsS80.drew | apply IsS80.set_1 | refine IsS80.far ?_ NB0_286.out _) | exact HI0.out)); (case side2 => repeat (first | (with_reducible first | exact HB.out | apply below_alloc | apply pw_below_drewN | apply below_drew1 | refine below_set ?_ (IsS80.ge HI0.out) | refine below_set ?_ GE286.out) | exact HB.out)); rintro e w5 ⟨rfl, hi, hb, hk⟩; refine ⟨_, rfl, ?_⟩; have n0_ := Aside0.mk (KeepBut.blk hk (g' := gb286) (o := .cells #[.int .i64 0, .int .i64 0, .int .i64 0, .int .i64 0, .slice none 0 0] 36 (0, 0)) z26x13 NB286_0.out (by simp)); have n1_ := Aside0.mk (KeepBut.trans z26x11 hk (.inl rfl)); have n2_ := Aside0.mk (hb); have n3_ := Aside0.mk (hi); clear BK286; clear HK; clear HB; clear HI0; have BK286 := n0_; have HK := n1_; have HB := n2_; have HI0 := n3_; clear n0_ n1_ n2_ n3_; (try clear hb); (try clear hb2); (try clear hk); (try clear hi)) | ((with_reducible refine gate_dst (N := 9) rfl ?_); refine Kd.R_lit k24 _ 24 ?hg (N := 9) ?hd (xs := ([] : List (S24))) (inner := []) (ok := fun _ => True) (okp := fun _ => True) ?hr ?hp (fun _ hk => hk) trivial (Below.refl _ _) (Nat.le_refl _) (by simp) ?_; (case hd => rfl); (case hg => rfl); (case hr => first | (go_simp; done) | (go_simp; rfl)); (case hp => exact (Reps.none _ _)); intro v290 w6 ho7 hb hg_ hnew_; clear hg_ hnew_; (first | rw [← Ny289.out] at ho7 | (simp only [Int.reduceToNat] at ho7; rw [← Ny289.out] at ho7)); have n0_ := Aside0.mk (Kd.R_lower ho7 (keep_size (w := w) (g := g) (row := none) z26x11)); have n1_ := Aside0.mk (IsS80.below z26x10 hb); have n2_ := Aside0.mk (blk_below (g := gb286) (o := .cells #[.int .i64 0, .int .i64 0, .int .i64 0, .int .i64 0, .slice none 0 0] 36 (0, 0)) z26x13 hb); have n3_ := Aside0.mk (KeepBut.trans z26x11 (KeepBut.of_below hb g none) (.inl rfl)); have n4_ := Aside0.mk (below_step z26x9 hb); clear HI0; clear BK286; clear HK; clear HB; have HO291 := n0_; have HI0 := n1_; have BK286 := n2_; have HK := n3_; have HB := n4_; clear n0_ n1_ n2_ n3_ n4_; clear hb ho7; obtain ⟨Ao8, co8, eo8⟩ := Kd.R_slice HO291.out; subst eo8) | ((with_reducible refine gate_dst (N := 3) rfl ?_); refine box_event ?hg (N := 3) ?hd (cs := #[.int .i64 0, .int .i64 0, .int .i64 0, .int .i64 0, .slice none 0 0]) (t := 36) ?hr ?_; (case hd => rfl); (case hg => rfl); (case hr => first | (go_simp; done) | (go_simp; rfl)); intro gb292 hg w9 hbox hb; have n0_ := Aside0.mk (Kd.R_below (by (with_reducible repeat (first | apply Kd.R_alloc | apply Kd.R_drewN | apply Kd.R_drew)); exact HO291.out) hb); have n1_ := Aside0.mk (IsS80.below z26x10 hb); have n2_ := Aside0.mk (blk_below (g := gb286) (o := .cells #[.int .i64 0, .int .i64 0, .int .i64 0, .int .i64 0, .slice none 0 0] 36 (0, 0)) z26x13 hb); have n3_ := Aside0.mk (KeepBut.trans z26x11 (KeepBut.of_below hb g none) (.inl rfl)); have n4_ := Aside0.mk (below_step z26x9 hb); have n5_ := Aside0.mk (hbox); have n6_ := Aside0.mk ((z26x4 : w.heap.size ≤ gb292)); have n7_ := Aside0.mk ((Nat.le_trans HW0.out (z26x4 : w.heap.size ≤ gb292) : w0.heap.size ≤ gb292)); have n8_ := Aside0.mk ((by rw [hg]; exact Nat.ne_of_lt (blk_lt (g := gb286) (o := .cells #[.int .i64 0, .int .i64 0, .int .i64 0, .int .i64 0, .slice none 0 0] 36 (0, 0)) z26x13) : gb286 ≠ gb292)); have n9_ := Aside0.mk ((by rw [hg]; exact Nat.ne_of_gt (blk_lt (g := gb286) (o := .cells #[.int .i64 0, .int .i64 0, .int .i64 0, .int .i64 0, .slice none 0 0] 36 (0, 0)) z26x13) : gb292 ≠ gb286)); have n10_ := Aside0.mk ((by rw [hg]; exact Nat.ne_of_lt (IsS80.lt (show IsS80 w0 _ g s0_0 t288 from by repeat (first | (with_reducible first | exact HI0.out | apply IsS80.alloc | apply IsS80.drewN | apply IsS80.drew | apply IsS80.set_1 | refine IsS80.far ?_ NB0_286.out _) | exact HI0.out))) : g ≠ gb292)); have n11_ := Aside0.mk ((by rw [hg]; exact Nat.ne_of_gt (IsS80.lt (show IsS80 w0 _ g s0_0 t288 from by repeat (first | (with_reducible first | exact HI0.out | apply IsS80.alloc | apply IsS80.drewN | apply IsS80.drew | apply IsS80.set_1 | refine IsS80.far ?_ NB0_286.out _) | exact HI0.out))) : gb292 ≠ g)); clear HO291; clear HI0; clear BK286; clear HK; clear HB; have HO291 := n0_; have HI0 := n1_; have BK286 := n2_; have HK := n3_; have HB := n4_; have BK292 := n5_; have GW292 := n6_; have GE292 := n7_; have NB286_292 := n8_; have NB292_286 := n9_; have NB0_292 := n10_; have NB292_0 := n11_; clear n0_ n1_ n2_ n3_ n4_ n5_ n6_ n7_ n8_ n9_ n10_ n11_; clear hb hbox hg; have hnb10 := NB292_286.out; have hnc10 := NB286_292.out; have hnb11 := NB292_0.out; have hnc11 := NB0_292.out; have hcz12_0 : w9.cell? ⟨gb292, 0, none⟩ = some (.int .i64 0) := (blk_cell BK292.out 0).trans rfl; have hcz12_1 : w9.cell? ⟨gb292, 1, none⟩ = some (.int .i64 0) := (blk_cell BK292.out 1).trans rfl; have hcz12_2 : w9.cell? ⟨gb292, 2, none⟩ = some (.int .i64 0) := (blk_cell BK292.out 2).trans rfl; have hcz12_3 : w9.cell? ⟨gb292, 3, none⟩ = some (.int .i64 0) := (blk_cell BK292.out 3).trans rfl; have hcz12_4 : w9.cell? ⟨gb292, 4, none⟩ = some (.slice none 0 0) := (blk_cell BK292.out 4).trans rfl; have hfz12_0 := blk_frozen BK292.out 0; have hfz12_1 := blk_frozen BK292.out 1; have hfz12_2 := blk_frozen BK292.out 2; have hfz12_3 := blk_frozen BK292.out 3; have hfz12_4 := blk_frozen BK292.out 4))
 (try simp only [Act.put, List.setIfInBounds_toArray, List.set_cons_zero, List.set_cons_succ])
 go_cut [4] (fun v4 wc => ∃ (kq : Nat) (x4_2 : Int) (x1001_2 : Int) (x293001_2 : Int) (x293002_2 : Int) (x293003_2 : Int), v4 = .int .i64 x4_2 ∧ Aside0 (spec_l71Msg.j0 kq x4_2 s0_0 x1001_2 (wrap64 (1 + t287)) x293001_2 x293002_2 x293003_2 y289 = some (r1, r2, r3, r4, r5, r6)) ∧ Aside0 (kq ≤ k) ∧ Aside0 (Kd.R k24 24 wc w.heap.size (fun _ => True) (.slice Ao8 y289.length co8) y289) ∧ Aside0 (wc.heap[gb286]? = some (.cells #[.int .i64 0, .int .i64 0, .int .i64 0, .int .i64 0, (.slice none 0 0)] 36 (0, 0))) ∧ Aside0 (wc.heap[gb292]? = some (.cells #[.int .i64 (wrap64 (1 + t287)), .int .i64 x293001_2, .int .i64 x293002_2, .int .i64 x293003_2, (.slice Ao8 y289.length co8)] 36 (0, 0))) ∧ Aside0 (IsS80 w0 wc g s0_0 x1001_2) ∧ Aside0 (KeepBut w wc g none) ∧ Aside0 (Below w0.heap.size w0 wc))
 case first =>
  have H := HC3.out
  clear HC3
  by_cases c13 : (wrap64 (1 + t287)) = 1
  ·rw [if_pos c13] at H
   have c13b0 : ((wrap64 (1 + t287)) == 1) = true := beq_iff_eq.mpr c13
   have c13b1 : ((wrap64 (1 + t287)) != 1) = false := bne_eq_false_iff_eq.mpr c13
   clear c13
   (first | rw [c13b0] | (simp only [i64_w, i32_w]; rw [c13b0]) | skip)
   replace H := Option.bind_eq_some_iff.mp H
   obtain ⟨⟨t293, t294⟩, A140, H⟩ := H
   replace H : ((spec_l6Rd_pick.f k s0_0 t294 9).bind fun bt295 => (spec_l71Msg.j0 k 0 s0_0 bt295.2 (wrap64 (1 + t287)) (wrap64 (1 + t293)) 0 (wrap64 (1 + bt295.1)) y289)) = some (r1, r2, r3, r4, r5, r6) := H
   have A14 := Aside0.mk A140
   clear A140
   replace H := Option.bind_eq_some_iff.mp H
   obtain ⟨⟨t295, t296⟩, A150, H⟩ := H
   replace H : (spec_l71Msg.j0 k 0 s0_0 t296 (wrap64 (1 + t287)) (wrap64 (1 + t293)) 0 (wrap64 (1 + t295)) y289) = some (r1, r2, r3, r4, r5, r6) := H
   have A15 := Aside0.mk A150
   clear A150
   have H' := Aside0.mk H
   clear H
   go_wp2_with (first | ((with_reducible refine gate_callee (f := 57) rfl ?_); refine goesL_ (some 20) rfl rfl Try.func57 (by kernel_rfl) rfl #[.pointer (some ⟨g, 0, none⟩), .int .i64 3] rfl z26x12 ?_; (with_reducible refine (spec_l6Rd_pick.calls k g s0_0 t288 3 t293 t294 w0 _ ?side1 ?side2 A14.out).mono ?_); (case side1 => repeat (first | (with_reducible first | exact HI0.out | apply IsS80.alloc | apply IsS80.drewN | apply IsS80.drew | apply IsS80.set_1 | refine IsS80.far ?_ NB0_286.out _ | refine IsS80.far ?_ NB0_292.out _) | exact HI0.out)); (case side2 => repeat (first | (with_reducible first | exact HB.out | apply below_alloc | apply pw_below_drewN | apply below_drew1 | refine below_set ?_ (IsS80.ge HI0.out) | refine below_set ?_ GE286.out | refine below_set ?_ GE292.out) | exact HB.out)); rintro e w16 ⟨rfl, hi, hb, hk⟩; refine ⟨_, rfl, ?_⟩; have n0_ := Aside0.mk (KeepBut.blk hk (g' := gb286) (o := .cells #[.int .i64 0, .int .i64 0, .int .i64 0, .int .i64 0, .slice none 0 0] 36 (0, 0)) z26x1 NB286_0.out (by simp)); have n1_ := Aside0.mk (Kd.R_mono (Kd.R_keep (IsS80.apart (show IsS80 w0 _ g s0_0 t288 from by repeat (first | (with_reducible first | exact HI0.out | apply IsS80.alloc | apply IsS80.drewN | apply IsS80.drew | apply IsS80.set_1 | refine IsS80.far ?_ NB0_286.out _ | refine IsS80.far ?_ NB0_292.out _) | exact HI0.out)) z26x2 (by decide)) hk (fun _ h => h.2)) (fun _ h => h.1)); have n2_ := Aside0.mk (KeepBut.blk hk (g' := gb292) (o := .cells #[.int .i64 (wrap64 (1 + t287)), .int .i64 0, .int .i64 0, .int .i64 0, .slice Ao8 y289.length co8] 36 (0, 0)) z26x0 NB292_0.out (by simp)); have n3_ := Aside0.mk (KeepBut.trans z26x7 hk (.inl rfl)); have n4_ := Aside0.mk (hb); have n5_ := Aside0.mk (hi); clear BK286; clear HO291; clear BK292; clear HK; clear HB; clear HI0; have BK286 := n0_; have HO291 := n1_; have BK292 := n2_; have HK := n3_; have HB := n4_; have HI0 := n5_; clear n0_ n1_ n2_ n3_ n4_ n5_; (try clear hb); (try clear hb2); (try clear hk); (try clear hi); have hnb17 := NB292_286.out; have hnc17 := NB286_292.out; have hnb18 := NB292_0.out; have hnc18 := NB0_292.out; have hcz19_0 : w16.cell? ⟨gb292, 0, none⟩ = some (.int .i64 (wrap64 (1 + t287))) := (blk_cell BK292.out 0).trans rfl; have hcz19_1 : w16.cell? ⟨gb292, 1, none⟩ = some (.int .i64 0) := (blk_cell BK292.out 1).trans rfl; have hcz19_2 : w16.cell? ⟨gb292, 2, none⟩ = some (.int .i64 0) := (blk_cell BK292.out 2).trans rfl; have hcz19_3 : w16.cell? ⟨gb292, 3, none⟩ = some (.int .i64 0) := (blk_cell BK292.out 3).trans rfl; have hcz19_4 : w16.cell? ⟨gb292, 4, none⟩ = some (.slice Ao8 y289.length co8) := (blk_cell BK292.out 4).trans rfl; have hfz19_0 := blk_frozen BK292.out 0; have hfz19_1 := blk_frozen BK292.out 1; have hfz19_2 := blk_frozen BK292.out 2; have hfz19_3 := blk_frozen BK292.out 3; have hfz19_4 := blk_frozen BK292.out 4) | ((with_reducible refine gate_callee (f := 57) rfl ?_); refine goesL_ (some 24) rfl rfl Try.func57 (by kernel_rfl) rfl #[.pointer (some ⟨g, 0, none⟩), .int .i64 9] rfl z26x12 ?_; (with_reducible refine (spec_l6Rd_pick.calls k g s0_0 t294 9 t295 t296 w0 _ ?side1 ?side2 A15.out).mono ?_); (case side1 => repeat (first | (with_reducible first | exact HI0.out | apply IsS80.alloc | apply IsS80.drewN | apply IsS80.drew | apply IsS80.set_1 | refine IsS80.far ?_ NB0_286.out _ | refine IsS80.far ?_ NB0_292.out _) | exact HI0.out)); (case side2 => repeat (first | (with_reducible first | exact HB.out | apply below_alloc | apply pw_below_drewN | apply below_drew1 | refine below_set ?_ (IsS80.ge HI0.out) | refine below_set ?_ GE286.out | refine below_set ?_ GE292.out) | exact HB.out)); rintro e w20 ⟨rfl, hi, hb, hk⟩; refine ⟨_, rfl, ?_⟩; have n0_ := Aside0.mk (KeepBut.blk hk (g' := gb286) (o := .cells #[.int .i64 0, .int .i64 0, .int .i64 0, .int .i64 0, .slice none 0 0] 36 (0, 0)) z26x3 NB286_0.out (by simp)); have n1_ := Aside0.mk (Kd.R_mono (Kd.R_keep (IsS80.apart (show IsS80 w0 _ g s0_0 t294 from by repeat (first | (with_reducible first | exact HI0.out | apply IsS80.alloc | apply IsS80.drewN | apply IsS80.drew | apply IsS80.set_1 | refine IsS80.far ?_ NB0_286.out _ | refine IsS80.far ?_ NB0_292.out _) | exact HI0.out)) (by (with_reducible repeat (first | apply Kd.R_alloc | apply Kd.R_drewN | apply Kd.R_drew)); exact (Kd.R_mono (Kd.R_far (p := ⟨gb292, 1, none⟩) (Kd.R_types HO291.out BK292.out (by decide)) (fun _ hk => hk.2) (.int .i64 (wrap64 (1 + t293)))) (fun _ h_ => h_.1))) (by decide)) hk (fun _ h => h.2)) (fun _ h => h.1)); have n2_ := Aside0.mk (KeepBut.blk hk (g' := gb292) (o := .cells #[.int .i64 (wrap64 (1 + t287)), .int .i64 (wrap64 (1 + t293)), .int .i64 0, .int .i64 0, .slice Ao8 y289.length co8] 36 (0, 0)) (by (with_reducible repeat (first | refine blk_drewN ?_ _ | refine blk_drew ?_ | refine blk_alloc ?_ _)); refine blk_put (cs := #[.int .i64 (wrap64 (1 + t287)), .int .i64 0, .int .i64 0, .int .i64 0, .slice Ao8 y289.length co8]) ?_ 1 _ rfl; (with_reducible repeat (first | refine blk_drewN ?_ _ | refine blk_drew ?_ | refine blk_alloc ?_ _)); exact BK292.out) NB292_0.out (by simp)); have n3_ := Aside0.mk (KeepBut.trans z26x7 hk (.inl rfl)); have n4_ := Aside0.mk (hb); have n5_ := Aside0.mk (hi); clear BK286; clear HO291; clear BK292; clear HK; clear HB; clear HI0; have BK286 := n0_; have HO291 := n1_; have BK292 := n2_; have HK := n3_; have HB := n4_; have HI0 := n5_; clear n0_ n1_ n2_ n3_ n4_ n5_; (try clear hb); (try clear hb2); (try clear hk); (try clear hi); have hcz21_0 : w20.cell? ⟨gb292, 0, none⟩ = some (.int .i64 (wrap64 (1 + t287))) := (blk_cell BK292.out 0).trans rfl; have hcz21_1 : w20.cell? ⟨gb292, 1, none⟩ = some (.int .i64 (wrap64 (1 + t293))) := (blk_cell BK292.out 1).trans rfl; have hcz21_2 : w20.cell? ⟨gb292, 2, none⟩ = some (.int .i64 0) := (blk_cell BK292.out 2).trans rfl; have hcz21_3 : w20.cell? ⟨gb292, 3, none⟩ = some (.int .i64 0) := (blk_cell BK292.out 3).trans rfl; have hcz21_4 : w20.cell? ⟨gb292, 4, none⟩ = some (.slice Ao8 y289.length co8) := (blk_cell BK292.out 4).trans rfl; have hfz21_0 := blk_frozen BK292.out 0; have hfz21_1 := blk_frozen BK292.out 1; have hfz21_2 := blk_frozen BK292.out 2; have hfz21_3 := blk_frozen BK292.out 3; have hfz21_4 := blk_frozen BK292.out 4))
   go_meet
   case rel => exact ⟨_, (0), (t296), (wrap64 (1 + t293)), (0), (wrap64 (1 + t295)), (by first | rfl | (simp; done) | (simp [*]; done)), H', ⟨by first | omega | exact Nat.le_refl _⟩, ⟨by (with_reducible repeat (first | apply Kd.R_alloc | apply Kd.R_drewN | apply Kd.R_drew)); exact Kd.R_mono (Kd.R_far (p := ⟨gb292, 3, none⟩) (Kd.R_types HO291.out BK292.out (by decide)) (fun _ hk => hk.2) (.int .i64 (wrap64 (1 + t295)))) (fun _ hk => trivial)⟩, ⟨by (with_reducible repeat (first | refine blk_drewN ?_ _ | refine blk_drew ?_ | refine blk_alloc ?_ _)); refine blk_far ?_ NB286_292.out _; (with_reducible repeat (first | refine blk_drewN ?_ _ | refine blk_drew ?_ | refine blk_alloc ?_ _)); exact BK286.out⟩, ⟨by (with_reducible repeat (first | refine blk_drewN ?_ _ | refine blk_drew ?_ | refine blk_alloc ?_ _)); refine blk_put (cs := #[.int .i64 (wrap64 (1 + t287)), .int .i64 (wrap64 (1 + t293)), .int .i64 0, .int .i64 0, .slice Ao8 y289.length co8]) ?_ 3 _ rfl; (with_reducible repeat (first | refine blk_drewN ?_ _ | refine blk_drew ?_ | refine blk_alloc ?_ _)); exact BK292.out⟩, ⟨by repeat (first | (with_reducible first | exact HI0.out | apply IsS80.alloc | apply IsS80.drewN | apply IsS80.drew | apply IsS80.set_1 | refine IsS80.far ?_ NB0_286.out _ | refine IsS80.far ?_ NB0_292.out _) | exact HI0.out)⟩, ⟨by repeat (first | (with_reducible first | exact HK.out | apply KeepBut.set_ | apply keep_drewN | apply keep_drew | apply keep_alloc | refine keep_far ?_ GW286.out _ | refine keep_far ?_ GW292.out _) | exact HK.out)⟩, ⟨by repeat (first | (with_reducible first | exact HB.out | apply below_alloc | apply pw_below_drewN | apply below_drew1 | refine below_set ?_ (IsS80.ge HI0.out) | refine below_set ?_ GE286.out | refine below_set ?_ GE292.out) | exact HB.out)⟩⟩
  ·rw [if_neg c13] at H
   have c13b0 : ((wrap64 (1 + t287)) == 1) = false := beq_eq_false_iff_ne.mpr c13
   have c13b1 : ((wrap64 (1 + t287)) != 1) = true := bne_iff_ne.mpr c13
   (first | rw [c13b0] | (simp only [i64_w, i32_w]; rw [c13b0]) | skip)
   by_cases c22 : (wrap64 (1 + t287)) = 3
   ·rw [if_pos c22] at H
    have c22b0 : ((wrap64 (1 + t287)) == 3) = true := beq_iff_eq.mpr c22
    have c22b1 : ((wrap64 (1 + t287)) != 3) = false := bne_eq_false_iff_eq.mpr c22
    clear c22
    replace H := Option.bind_eq_some_iff.mp H
    obtain ⟨⟨t297, t298⟩, A230, H⟩ := H
    replace H : ((spec_l6Rd_pick.f k s0_0 t298 9).bind fun bt299 => (spec_l71Msg.j0 k 2 s0_0 bt299.2 (wrap64 (1 + t287)) 0 (wrap64 (4 + t297)) (wrap64 (1 + bt299.1)) y289)) = some (r1, r2, r3, r4, r5, r6) := H
    have A23 := Aside0.mk A230
    clear A230
    replace H := Option.bind_eq_some_iff.mp H
    obtain ⟨⟨t299, t300⟩, A240, H⟩ := H
    replace H : (spec_l71Msg.j0 k 2 s0_0 t300 (wrap64 (1 + t287)) 0 (wrap64 (4 + t297)) (wrap64 (1 + t299)) y289) = some (r1, r2, r3, r4, r5, r6) := H
    have A24 := Aside0.mk A240
    clear A240
    have H' := Aside0.mk H
    clear H
    go_wp2_with (first | ((with_reducible refine gate_callee (f := 57) rfl ?_); refine goesL_ (some 30) rfl rfl Try.func57 (by kernel_rfl) rfl #[.pointer (some ⟨g, 0, none⟩), .int .i64 2] rfl z26x12 ?_; (with_reducible refine (spec_l6Rd_pick.calls k g s0_0 t288 2 t297 t298 w0 _ ?side1 ?side2 A23.out).mono ?_); (case side1 => repeat (first | (with_reducible first | exact HI0.out | apply IsS80.alloc | apply IsS80.drewN | apply IsS80.drew | apply IsS80.set_1 | refine IsS80.far ?_ NB0_286.out _ | refine IsS80.far ?_ NB0_292.out _) | exact HI0.out)); (case side2 => repeat (first | (with_reducible first | exact HB.out | apply below_alloc | apply pw_below_drewN | apply below_drew1 | refine below_set ?_ (IsS80.ge HI0.out) | refine below_set ?_ GE286.out | refine below_set ?_ GE292.out) | exact HB.out)); rintro e w25 ⟨rfl, hi, hb, hk⟩; refine ⟨_, rfl, ?_⟩; have n0_ := Aside0.mk (KeepBut.blk hk (g' := gb286) (o := .cells #[.int .i64 0, .int .i64 0, .int .i64 0, .int .i64 0, .slice none 0 0] 36 (0, 0)) z26x1 NB286_0.out (by simp)); have n1_ := Aside0.mk (Kd.R_mono (Kd.R_keep (IsS80.apart (show IsS80 w0 _ g s0_0 t288 from by repeat (first | (with_reducible first | exact HI0.out | apply IsS80.alloc | apply IsS80.drewN | apply IsS80.drew | apply IsS80.set_1 | refine IsS80.far ?_ NB0_286.out _ | refine IsS80.far ?_ NB0_292.out _) | exact HI0.out)) z26x2 (by decide)) hk (fun _ h => h.2)) (fun _ h => h.1)); have n2_ := Aside0.mk (KeepBut.blk hk (g' := gb292) (o := .cells #[.int .i64 (wrap64 (1 + t287)), .int .i64 0, .int .i64 0, .int .i64 0, .slice Ao8 y289.length co8] 36 (0, 0)) z26x0 NB292_0.out (by simp)); have n3_ := Aside0.mk (KeepBut.trans z26x7 hk (.inl rfl)); have n4_ := Aside0.mk (hb); have n5_ := Aside0.mk (hi); clear BK286; clear HO291; clear BK292; clear HK; clear HB; clear HI0; have BK286 := n0_; have HO291 := n1_; have BK292 := n2_; have HK := n3_; have HB := n4_; have HI0 := n5_; clear n0_ n1_ n2_ n3_ n4_ n5_; (try clear hb); (try clear hb2); (try clear hk); (try clear hi); have hnb26 := NB292_286.out; have hnc26 := NB286_292.out; have hnb27 := NB292_0.out; have hnc27 := NB0_292.out; have hcz28_0 : w25.cell? ⟨gb292, 0, none⟩ = some (.int .i64 (wrap64 (1 + t287))) := (blk_cell BK292.out 0).trans rfl; have hcz28_1 : w25.cell? ⟨gb292, 1, none⟩ = some (.int .i64 0) := (blk_cell BK292.out 1).trans rfl; have hcz28_2 : w25.cell? ⟨gb292, 2, none⟩ = some (.int .i64 0) := (blk_cell BK292.out 2).trans rfl; have hcz28_3 : w25.cell? ⟨gb292, 3, none⟩ = some (.int .i64 0) := (blk_cell BK292.out 3).trans rfl; have hcz28_4 : w25.cell? ⟨gb292, 4, none⟩ = some (.slice Ao8 y289.length co8) := (blk_cell BK292.out 4).trans rfl; have hfz28_0 := blk_frozen BK292.out 0; have hfz28_1 := blk_frozen BK292.out 1; have hfz28_2 := blk_frozen BK292.out 2; have hfz28_3 := blk_frozen BK292.out 3; have hfz28_4 := blk_frozen BK292.out 4) | ((with_reducible refine gate_callee (f := 57) rfl ?_); refine goesL_ (some 34) rfl rfl Try.func57 (by kernel_rfl) rfl #[.pointer (some ⟨g, 0, none⟩), .int .i64 9] rfl z26x12 ?_; (with_reducible refine (spec_l6Rd_pick.calls k g s0_0 t298 9 t299 t300 w0 _ ?side1 ?side2 A24.out).mono ?_); (case side1 => repeat (first | (with_reducible first | exact HI0.out | apply IsS80.alloc | apply IsS80.drewN | apply IsS80.drew | apply IsS80.set_1 | refine IsS80.far ?_ NB0_286.out _ | refine IsS80.far ?_ NB0_292.out _) | exact HI0.out)); (case side2 => repeat (first | (with_reducible first | exact HB.out | apply below_alloc | apply pw_below_drewN | apply below_drew1 | refine below_set ?_ (IsS80.ge HI0.out) | refine below_set ?_ GE286.out | refine below_set ?_ GE292.out) | exact HB.out)); rintro e w29 ⟨rfl, hi, hb, hk⟩; refine ⟨_, rfl, ?_⟩; have n0_ := Aside0.mk (KeepBut.blk hk (g' := gb286) (o := .cells #[.int .i64 0, .int .i64 0, .int .i64 0, .int .i64 0, .slice none 0 0] 36 (0, 0)) z26x3 NB286_0.out (by simp)); have n1_ := Aside0.mk (Kd.R_mono (Kd.R_keep (IsS80.apart (show IsS80 w0 _ g s0_0 t298 from by repeat (first | (with_reducible first | exact HI0.out | apply IsS80.alloc | apply IsS80.drewN | apply IsS80.drew | apply IsS80.set_1 | refine IsS80.far ?_ NB0_286.out _ | refine IsS80.far ?_ NB0_292.out _) | exact HI0.out)) (by (with_reducible repeat (first | apply Kd.R_alloc | apply Kd.R_drewN | apply Kd.R_drew)); exact (Kd.R_mono (Kd.R_far (p := ⟨gb292, 2, none⟩) (Kd.R_types HO291.out BK292.out (by decide)) (fun _ hk => hk.2) (.int .i64 (wrap64 (4 + t297)))) (fun _ h_ => h_.1))) (by decide)) hk (fun _ h => h.2)) (fun _ h => h.1)); have n2_ := Aside0.mk (KeepBut.blk hk (g' := gb292) (o := .cells #[.int .i64 (wrap64 (1 + t287)), .int .i64 0, .int .i64 (wrap64 (4 + t297)), .int .i64 0, .slice Ao8 y289.length co8] 36 (0, 0)) (by (with_reducible repeat (first | refine blk_drewN ?_ _ | refine blk_drew ?_ | refine blk_alloc ?_ _)); refine blk_put (cs := #[.int .i64 (wrap64 (1 + t287)), .int .i64 0, .int .i64 0, .int .i64 0, .slice Ao8 y289.length co8]) ?_ 2 _ rfl; (with_reducible repeat (first | refine blk_drewN ?_ _ | refine blk_drew ?_ | refine blk_alloc ?_ _)); exact BK292.out) NB292_0.out (by simp)); have n3_ := Aside0.mk (KeepBut.trans z26x7 hk (.inl rfl)); have n4_ := Aside0.mk (hb); have n5_ := Aside0.mk (hi); clear BK286; clear HO291; clear BK292; clear HK; clear HB; clear HI0; have BK286 := n0_; have HO291 := n1_; have BK292 := n2_; have HK := n3_; have HB := n4_; have HI0 := n5_; clear n0_ n1_ n2_ n3_ n4_ n5_; (try clear hb); (try clear hb2); (try clear hk); (try clear hi); have hcz30_0 : w29.cell? ⟨gb292, 0, none⟩ = some (.int .i64 (wrap64 (1 + t287))) := (blk_cell BK292.out 0).trans rfl; have hcz30_1 : w29.cell? ⟨gb292, 1, none⟩ = some (.int .i64 0) := (blk_cell BK292.out 1).trans rfl; have hcz30_2 : w29.cell? ⟨gb292, 2, none⟩ = some (.int .i64 (wrap64 (4 + t297))) := (blk_cell BK292.out 2).trans rfl; have hcz30_3 : w29.cell? ⟨gb292, 3, none⟩ = some (.int .i64 0) := (blk_cell BK292.out 3).trans rfl; have hcz30_4 : w29.cell? ⟨gb292, 4, none⟩ = some (.slice Ao8 y289.length co8) := (blk_cell BK292.out 4).trans rfl; have hfz30_0 := blk_frozen BK292.out 0; have hfz30_1 := blk_frozen BK292.out 1; have hfz30_2 := blk_frozen BK292.out 2; have hfz30_3 := blk_frozen BK292.out 3; have hfz30_4 := blk_frozen BK292.out 4))
    go_meet
    case rel => exact ⟨_, (2), (t300), (0), (wrap64 (4 + t297)), (wrap64 (1 + t299)), (by first | rfl | (simp; done) | (simp [*]; done)), H', ⟨by first | omega | exact Nat.le_refl _⟩, ⟨by (with_reducible repeat (first | apply Kd.R_alloc | apply Kd.R_drewN | apply Kd.R_drew)); exact Kd.R_mono (Kd.R_far (p := ⟨gb292, 3, none⟩) (Kd.R_types HO291.out BK292.out (by decide)) (fun _ hk => hk.2) (.int .i64 (wrap64 (1 + t299)))) (fun _ hk => trivial)⟩, ⟨by (with_reducible repeat (first | refine blk_drewN ?_ _ | refine blk_drew ?_ | refine blk_alloc ?_ _)); refine blk_far ?_ NB286_292.out _; (with_reducible repeat (first | refine blk_drewN ?_ _ | refine blk_drew ?_ | refine blk_alloc ?_ _)); exact BK286.out⟩, ⟨by (with_reducible repeat (first | refine blk_drewN ?_ _ | refine blk_drew ?_ | refine blk_alloc ?_ _)); refine blk_put (cs := #[.int .i64 (wrap64 (1 + t287)), .int .i64 0, .int .i64 (wrap64 (4 + t297)), .int .i64 0, .slice Ao8 y289.length co8]) ?_ 3 _ rfl; (with_reducible repeat (first | refine blk_drewN ?_ _ | refine blk_drew ?_ | refine blk_alloc ?_ _)); exact BK292.out⟩, ⟨by repeat (first | (with_reducible first | exact HI0.out | apply IsS80.alloc | apply IsS80.drewN | apply IsS80.drew | apply IsS80.set_1 | refine IsS80.far ?_ NB0_286.out _ | refine IsS80.far ?_ NB0_292.out _) | exact HI0.out)⟩, ⟨by repeat (first | (with_reducible first | exact HK.out | apply KeepBut.set_ | apply keep_drewN | apply keep_drew | apply keep_alloc | refine keep_far ?_ GW286.out _ | refine keep_far ?_ GW292.out _) | exact HK.out)⟩, ⟨by repeat (first | (with_reducible first | exact HB.out | apply below_alloc | apply pw_below_drewN | apply below_drew1 | refine below_set ?_ (IsS80.ge HI0.out) | refine below_set ?_ GE286.out | refine below_set ?_ GE292.out) | exact HB.out)⟩⟩
   ·rw [if_neg c22] at H
    have c22b0 : ((wrap64 (1 + t287)) == 3) = false := beq_eq_false_iff_ne.mpr c22
    have c22b1 : ((wrap64 (1 + t287)) != 3) = true := bne_iff_ne.mpr c22
    by_cases c31 : (wrap64 (1 + t287)) = 5
    ·rw [if_pos c31] at H
     have c31b0 : ((wrap64 (1 + t287)) == 5) = true := beq_iff_eq.mpr c31
     have c31b1 : ((wrap64 (1 + t287)) != 5) = false := bne_eq_false_iff_eq.mpr c31
     clear c31
     replace H := Option.bind_eq_some_iff.mp H
     obtain ⟨⟨t301, t302⟩, A320, H⟩ := H
     replace H : (spec_l71Msg.j0 k 2 s0_0 t302 (wrap64 (1 + t287)) 0 (wrap64 (4 + t301)) 0 y289) = some (r1, r2, r3, r4, r5, r6) := H
     have A32 := Aside0.mk A320
     clear A320
     have H' := Aside0.mk H
     clear H
     go_wp2_with (first | ((with_reducible refine gate_callee (f := 57) rfl ?_); refine goesL_ (some 40) rfl rfl Try.func57 (by kernel_rfl) rfl #[.pointer (some ⟨g, 0, none⟩), .int .i64 2] rfl z26x12 ?_; (with_reducible refine (spec_l6Rd_pick.calls k g s0_0 t288 2 t301 t302 w0 _ ?side1 ?side2 A32.out).mono ?_); (case side1 => repeat (first | (with_reducible first | exact HI0.out | apply IsS80.alloc | apply IsS80.drewN | apply IsS80.drew | apply IsS80.set_1 | refine IsS80.far ?_ NB0_286.out _ | refine IsS80.far ?_ NB0_292.out _) | exact HI0.out)); (case side2 => repeat (first | (with_reducible first | exact HB.out | apply below_alloc | apply pw_below_drewN | apply below_drew1 | refine below_set ?_ (IsS80.ge HI0.out) | refine below_set ?_ GE286.out | refine below_set ?_ GE292.out) | exact HB.out)); rintro e w33 ⟨rfl, hi, hb, hk⟩; refine ⟨_, rfl, ?_⟩; have n0_ := Aside0.mk (KeepBut.blk hk (g' := gb286) (o := .cells #[.int .i64 0, .int .i64 0, .int .i64 0, .int .i64 0, .slice none 0 0] 36 (0, 0)) z26x1 NB286_0.out (by simp)); have n1_ := Aside0.mk (Kd.R_mono (Kd.R_keep (IsS80.apart (show IsS80 w0 _ g s0_0 t288 from by repeat (first | (with_reducible first | exact HI0.out | apply IsS80.alloc | apply IsS80.drewN | apply IsS80.drew | apply IsS80.set_1 | refine IsS80.far ?_ NB0_286.out _ | refine IsS80.far ?_ NB0_292.out _) | exact HI0.out)) z26x2 (by decide)) hk (fun _ h => h.2)) (fun _ h => h.1)); have n2_ := Aside0.mk (KeepBut.blk hk (g' := gb292) (o := .cells #[.int .i64 (wrap64 (1 + t287)), .int .i64 0, .int .i64 0, .int .i64 0, .slice Ao8 y289.length co8] 36 (0, 0)) z26x0 NB292_0.out (by simp)); have n3_ := Aside0.mk (KeepBut.trans z26x7 hk (.inl rfl)); have n4_ := Aside0.mk (hb); have n5_ := Aside0.mk (hi); clear BK286; clear HO291; clear BK292; clear HK; clear HB; clear HI0; have BK286 := n0_; have HO291 := n1_; have BK292 := n2_; have HK := n3_; have HB := n4_; have HI0 := n5_; clear n0_ n1_ n2_ n3_ n4_ n5_; (try clear hb); (try clear hb2); (try clear hk); (try clear hi); have hnb34 := NB292_286.out; have hnc34 := NB286_292.out; have hnb35 := NB292_0.out; have hnc35 := NB0_292.out; have hcz36_0 : w33.cell? ⟨gb292, 0, none⟩ = some (.int .i64 (wrap64 (1 + t287))) := (blk_cell BK292.out 0).trans rfl; have hcz36_1 : w33.cell? ⟨gb292, 1, none⟩ = some (.int .i64 0) := (blk_cell BK292.out 1).trans rfl; have hcz36_2 : w33.cell? ⟨gb292, 2, none⟩ = some (.int .i64 0) := (blk_cell BK292.out 2).trans rfl; have hcz36_3 : w33.cell? ⟨gb292, 3, none⟩ = some (.int .i64 0) := (blk_cell BK292.out 3).trans rfl; have hcz36_4 : w33.cell? ⟨gb292, 4, none⟩ = some (.slice Ao8 y289.length co8) := (blk_cell BK292.out 4).trans rfl; have hfz36_0 := blk_frozen BK292.out 0; have hfz36_1 := blk_frozen BK292.out 1; have hfz36_2 := blk_frozen BK292.out 2; have hfz36_3 := blk_frozen BK292.out 3; have hfz36_4 := blk_frozen BK292.out 4))
     go_meet
     case rel => exact ⟨_, (2), (t302), (0), (wrap64 (4 + t301)), (0), (by first | rfl | (simp; done) | (simp [*]; done)), H', ⟨by first | omega | exact Nat.le_refl _⟩, ⟨by (with_reducible repeat (first | apply Kd.R_alloc | apply Kd.R_drewN | apply Kd.R_drew)); exact Kd.R_mono (Kd.R_far (p := ⟨gb292, 2, none⟩) (Kd.R_types HO291.out BK292.out (by decide)) (fun _ hk => hk.2) (.int .i64 (wrap64 (4 + t301)))) (fun _ hk => trivial)⟩, ⟨by (with_reducible repeat (first | refine blk_drewN ?_ _ | refine blk_drew ?_ | refine blk_alloc ?_ _)); refine blk_far ?_ NB286_292.out _; (with_reducible repeat (first | refine blk_drewN ?_ _ | refine blk_drew ?_ | refine blk_alloc ?_ _)); exact BK286.out⟩, ⟨by (with_reducible repeat (first | refine blk_drewN ?_ _ | refine blk_drew ?_ | refine blk_alloc ?_ _)); refine blk_put (cs := #[.int .i64 (wrap64 (1 + t287)), .int .i64 0, .int .i64 0, .int .i64 0, .slice Ao8 y289.length co8]) ?_ 2 _ rfl; (with_reducible repeat (first | refine blk_drewN ?_ _ | refine blk_drew ?_ | refine blk_alloc ?_ _)); exact BK292.out⟩, ⟨by repeat (first | (with_reducible first | exact HI0.out | apply IsS80.alloc | apply IsS80.drewN | apply IsS80.drew | apply IsS80.set_1 | refine IsS80.far ?_ NB0_286.out _ | refine IsS80.far ?_ NB0_292.out _) | exact HI0.out)⟩, ⟨by repeat (first | (with_reducible first | exact HK.out | apply KeepBut.set_ | apply keep_drewN | apply keep_drew | apply keep_alloc | refine keep_far ?_ GW286.out _ | refine keep_far ?_ GW292.out _) | exact HK.out)⟩, ⟨by repeat (first | (with_reducible first | exact HB.out | apply below_alloc | apply pw_below_drewN | apply below_drew1 | refine below_set ?_ (IsS80.ge HI0.out) | refine below_set ?_ GE286.out | refine below_set ?_ GE292.out) | exact HB.out)⟩⟩
    ·rw [if_neg c31] at H
     have c31b0 : ((wrap64 (1 + t287)) == 5) = false := beq_eq_false_iff_ne.mpr c31
     have c31b1 : ((wrap64 (1 + t287)) != 5) = true := bne_iff_ne.mpr c31
     by_cases c37 : (wrap64 (1 + t287)) = 6
     ·rw [if_pos c37] at H
      have c37b0 : ((wrap64 (1 + t287)) == 6) = true := beq_iff_eq.mpr c37
      have c37b1 : ((wrap64 (1 + t287)) != 6) = false := bne_eq_false_iff_eq.mpr c37
      clear c37
      replace H := Option.bind_eq_some_iff.mp H
      obtain ⟨⟨t303, t304⟩, A380, H⟩ := H
      replace H : (spec_l71Msg.j0 k 1 s0_0 t304 (wrap64 (1 + t287)) (wrap64 (1 + t303)) 0 0 y289) = some (r1, r2, r3, r4, r5, r6) := H
      have A38 := Aside0.mk A380
      clear A380
      have H' := Aside0.mk H
      clear H
      go_wp2_with (first | ((with_reducible refine gate_callee (f := 57) rfl ?_); refine goesL_ (some 46) rfl rfl Try.func57 (by kernel_rfl) rfl #[.pointer (some ⟨g, 0, none⟩), .int .i64 3] rfl z26x12 ?_; (with_reducible refine (spec_l6Rd_pick.calls k g s0_0 t288 3 t303 t304 w0 _ ?side1 ?side2 A38.out).mono ?_); (case side1 => repeat (first | (with_reducible first | exact HI0.out | apply IsS80.alloc | apply IsS80.drewN | apply IsS80.drew | apply IsS80.set_1 | refine IsS80.far ?_ NB0_286.out _ | refine IsS80.far ?_ NB0_292.out _) | exact HI0.out)); (case side2 => repeat (first | (with_reducible first | exact HB.out | apply below_alloc | apply pw_below_drewN | apply below_drew1 | refine below_set ?_ (IsS80.ge HI0.out) | refine below_set ?_ GE286.out | refine below_set ?_ GE292.out) | exact HB.out)); rintro e w39 ⟨rfl, hi, hb, hk⟩; refine ⟨_, rfl, ?_⟩; have n0_ := Aside0.mk (KeepBut.blk hk (g' := gb286) (o := .cells #[.int .i64 0, .int .i64 0, .int .i64 0, .int .i64 0, .slice none 0 0] 36 (0, 0)) z26x1 NB286_0.out (by simp)); have n1_ := Aside0.mk (Kd.R_mono (Kd.R_keep (IsS80.apart (show IsS80 w0 _ g s0_0 t288 from by repeat (first | (with_reducible first | exact HI0.out | apply IsS80.alloc | apply IsS80.drewN | apply IsS80.drew | apply IsS80.set_1 | refine IsS80.far ?_ NB0_286.out _ | refine IsS80.far ?_ NB0_292.out _) | exact HI0.out)) z26x2 (by decide)) hk (fun _ h => h.2)) (fun _ h => h.1)); have n2_ := Aside0.mk (KeepBut.blk hk (g' := gb292) (o := .cells #[.int .i64 (wrap64 (1 + t287)), .int .i64 0, .int .i64 0, .int .i64 0, .slice Ao8 y289.length co8] 36 (0, 0)) z26x0 NB292_0.out (by simp)); have n3_ := Aside0.mk (KeepBut.trans z26x7 hk (.inl rfl)); have n4_ := Aside0.mk (hb); have n5_ := Aside0.mk (hi); clear BK286; clear HO291; clear BK292; clear HK; clear HB; clear HI0; have BK286 := n0_; have HO291 := n1_; have BK292 := n2_; have HK := n3_; have HB := n4_; have HI0 := n5_; clear n0_ n1_ n2_ n3_ n4_ n5_; (try clear hb); (try clear hb2); (try clear hk); (try clear hi); have hnb40 := NB292_286.out; have hnc40 := NB286_292.out; have hnb41 := NB292_0.out; have hnc41 := NB0_292.out; have hcz42_0 : w39.cell? ⟨gb292, 0, none⟩ = some (.int .i64 (wrap64 (1 + t287))) := (blk_cell BK292.out 0).trans rfl; have hcz42_1 : w39.cell? ⟨gb292, 1, none⟩ = some (.int .i64 0) := (blk_cell BK292.out 1).trans rfl; have hcz42_2 : w39.cell? ⟨gb292, 2, none⟩ = some (.int .i64 0) := (blk_cell BK292.out 2).trans rfl; have hcz42_3 : w39.cell? ⟨gb292, 3, none⟩ = some (.int .i64 0) := (blk_cell BK292.out 3).trans rfl; have hcz42_4 : w39.cell? ⟨gb292, 4, none⟩ = some (.slice Ao8 y289.length co8) := (blk_cell BK292.out 4).trans rfl; have hfz42_0 := blk_frozen BK292.out 0; have hfz42_1 := blk_frozen BK292.out 1; have hfz42_2 := blk_frozen BK292.out 2; have hfz42_3 := blk_frozen BK292.out 3; have hfz42_4 := blk_frozen BK292.out 4))
      go_meet
      case rel => exact ⟨_, (1), (t304), (wrap64 (1 + t303)), (0), (0), (by first | rfl | (simp; done) | (simp [*]; done)), H', ⟨by first | omega | exact Nat.le_refl _⟩, ⟨by (with_reducible repeat (first | apply Kd.R_alloc | apply Kd.R_drewN | apply Kd.R_drew)); exact Kd.R_mono (Kd.R_far (p := ⟨gb292, 1, none⟩) (Kd.R_types HO291.out BK292.out (by decide)) (fun _ hk => hk.2) (.int .i64 (wrap64 (1 + t303)))) (fun _ hk => trivial)⟩, ⟨by (with_reducible repeat (first | refine blk_drewN ?_ _ | refine blk_drew ?_ | refine blk_alloc ?_ _)); refine blk_far ?_ NB286_292.out _; (with_reducible repeat (first | refine blk_drewN ?_ _ | refine blk_drew ?_ | refine blk_alloc ?_ _)); exact BK286.out⟩, ⟨by (with_reducible repeat (first | refine blk_drewN ?_ _ | refine blk_drew ?_ | refine blk_alloc ?_ _)); refine blk_put (cs := #[.int .i64 (wrap64 (1 + t287)), .int .i64 0, .int .i64 0, .int .i64 0, .slice Ao8 y289.length co8]) ?_ 1 _ rfl; (with_reducible repeat (first | refine blk_drewN ?_ _ | refine blk_drew ?_ | refine blk_alloc ?_ _)); exact BK292.out⟩, ⟨by repeat (first | (with_reducible first | exact HI0.out | apply IsS80.alloc | apply IsS80.drewN | apply IsS80.drew | apply IsS80.set_1 | refine IsS80.far ?_ NB0_286.out _ | refine IsS80.far ?_ NB0_292.out _) | exact HI0.out)⟩, ⟨by repeat (first | (with_reducible first | exact HK.out | apply KeepBut.set_ | apply keep_drewN | apply keep_drew | apply keep_alloc | refine keep_far ?_ GW286.out _ | refine keep_far ?_ GW292.out _) | exact HK.out)⟩, ⟨by repeat (first | (with_reducible first | exact HB.out | apply below_alloc | apply pw_below_drewN | apply below_drew1 | refine below_set ?_ (IsS80.ge HI0.out) | refine below_set ?_ GE286.out | refine below_set ?_ GE292.out) | exact HB.out)⟩⟩
     ·rw [if_neg c37] at H
      have c37b0 : ((wrap64 (1 + t287)) == 6) = false := beq_eq_false_iff_ne.mpr c37
      have c37b1 : ((wrap64 (1 + t287)) != 6) = true := bne_iff_ne.mpr c37
      replace H := Option.bind_eq_some_iff.mp H
      obtain ⟨⟨t305, t306⟩, A430, H⟩ := H
      replace H : (spec_l71Msg.j0 k 2 s0_0 t306 (wrap64 (1 + t287)) (wrap64 (1 + t305)) 0 0 y289) = some (r1, r2, r3, r4, r5, r6) := H
      have A43 := Aside0.mk A430
      clear A430
      have H' := Aside0.mk H
      clear H
      go_wp2_with (first | ((with_reducible refine gate_callee (f := 57) rfl ?_); refine goesL_ (some 14) rfl rfl Try.func57 (by kernel_rfl) rfl #[.pointer (some ⟨g, 0, none⟩), .int .i64 3] rfl z26x12 ?_; (with_reducible refine (spec_l6Rd_pick.calls k g s0_0 t288 3 t305 t306 w0 _ ?side1 ?side2 A43.out).mono ?_); (case side1 => repeat (first | (with_reducible first | exact HI0.out | apply IsS80.alloc | apply IsS80.drewN | apply IsS80.drew | apply IsS80.set_1 | refine IsS80.far ?_ NB0_286.out _ | refine IsS80.far ?_ NB0_292.out _) | exact HI0.out)); (case side2 => repeat (first | (with_reducible first | exact HB.out | apply below_alloc | apply pw_below_drewN | apply below_drew1 | refine below_set ?_ (IsS80.ge HI0.out) | refine below_set ?_ GE286.out | refine below_set ?_ GE292.out) | exact HB.out)); rintro e w44 ⟨rfl, hi, hb, hk⟩; refine ⟨_, rfl, ?_⟩; have n0_ := Aside0.mk (KeepBut.blk hk (g' := gb286) (o := .cells #[.int .i64 0, .int .i64 0, .int .i64 0, .int .i64 0, .slice none 0 0] 36 (0, 0)) z26x1 NB286_0.out (by simp)); have n1_ := Aside0.mk (Kd.R_mono (Kd.R_keep (IsS80.apart (show IsS80 w0 _ g s0_0 t288 from by repeat (first | (with_reducible first | exact HI0.out | apply IsS80.alloc | apply IsS80.drewN | apply IsS80.drew | apply IsS80.set_1 | refine IsS80.far ?_ NB0_286.out _ | refine IsS80.far ?_ NB0_292.out _) | exact HI0.out)) z26x2 (by decide)) hk (fun _ h => h.2)) (fun _ h => h.1)); have n2_ := Aside0.mk (KeepBut.blk hk (g' := gb292) (o := .cells #[.int .i64 (wrap64 (1 + t287)), .int .i64 0, .int .i64 0, .int .i64 0, .slice Ao8 y289.length co8] 36 (0, 0)) z26x0 NB292_0.out (by simp)); have n3_ := Aside0.mk (KeepBut.trans z26x7 hk (.inl rfl)); have n4_ := Aside0.mk (hb); have n5_ := Aside0.mk (hi); clear BK286; clear HO291; clear BK292; clear HK; clear HB; clear HI0; have BK286 := n0_; have HO291 := n1_; have BK292 := n2_; have HK := n3_; have HB := n4_; have HI0 := n5_; clear n0_ n1_ n2_ n3_ n4_ n5_; (try clear hb); (try clear hb2); (try clear hk); (try clear hi); have hnb45 := NB292_286.out; have hnc45 := NB286_292.out; have hnb46 := NB292_0.out; have hnc46 := NB0_292.out; have hcz47_0 : w44.cell? ⟨gb292, 0, none⟩ = some (.int .i64 (wrap64 (1 + t287))) := (blk_cell BK292.out 0).trans rfl; have hcz47_1 : w44.cell? ⟨gb292, 1, none⟩ = some (.int .i64 0) := (blk_cell BK292.out 1).trans rfl; have hcz47_2 : w44.cell? ⟨gb292, 2, none⟩ = some (.int .i64 0) := (blk_cell BK292.out 2).trans rfl; have hcz47_3 : w44.cell? ⟨gb292, 3, none⟩ = some (.int .i64 0) := (blk_cell BK292.out 3).trans rfl; have hcz47_4 : w44.cell? ⟨gb292, 4, none⟩ = some (.slice Ao8 y289.length co8) := (blk_cell BK292.out 4).trans rfl; have hfz47_0 := blk_frozen BK292.out 0; have hfz47_1 := blk_frozen BK292.out 1; have hfz47_2 := blk_frozen BK292.out 2; have hfz47_3 := blk_frozen BK292.out 3; have hfz47_4 := blk_frozen BK292.out 4))
      go_meet
      case rel => exact ⟨_, (2), (t306), (wrap64 (1 + t305)), (0), (0), (by first | rfl | (simp; done) | (simp [*]; done)), H', ⟨by first | omega | exact Nat.le_refl _⟩, ⟨by (with_reducible repeat (first | apply Kd.R_alloc | apply Kd.R_drewN | apply Kd.R_drew)); exact Kd.R_mono (Kd.R_far (p := ⟨gb292, 1, none⟩) (Kd.R_types HO291.out BK292.out (by decide)) (fun _ hk => hk.2) (.int .i64 (wrap64 (1 + t305)))) (fun _ hk => trivial)⟩, ⟨by (with_reducible repeat (first | refine blk_drewN ?_ _ | refine blk_drew ?_ | refine blk_alloc ?_ _)); refine blk_far ?_ NB286_292.out _; (with_reducible repeat (first | refine blk_drewN ?_ _ | refine blk_drew ?_ | refine blk_alloc ?_ _)); exact BK286.out⟩, ⟨by (with_reducible repeat (first | refine blk_drewN ?_ _ | refine blk_drew ?_ | refine blk_alloc ?_ _)); refine blk_put (cs := #[.int .i64 (wrap64 (1 + t287)), .int .i64 0, .int .i64 0, .int .i64 0, .slice Ao8 y289.length co8]) ?_ 1 _ rfl; (with_reducible repeat (first | refine blk_drewN ?_ _ | refine blk_drew ?_ | refine blk_alloc ?_ _)); exact BK292.out⟩, ⟨by repeat (first | (with_reducible first | exact HI0.out | apply IsS80.alloc | apply IsS80.drewN | apply IsS80.drew | apply IsS80.set_1 | refine IsS80.far ?_ NB0_286.out _ | refine IsS80.far ?_ NB0_292.out _) | exact HI0.out)⟩, ⟨by repeat (first | (with_reducible first | exact HK.out | apply KeepBut.set_ | apply keep_drewN | apply keep_drew | apply keep_alloc | refine keep_far ?_ GW286.out _ | refine keep_far ?_ GW292.out _) | exact HK.out)⟩, ⟨by repeat (first | (with_reducible first | exact HB.out | apply below_alloc | apply pw_below_drewN | apply below_drew1 | refine below_set ?_ (IsS80.ge HI0.out) | refine below_set ?_ GE286.out | refine below_set ?_ GE292.out) | exact HB.out)⟩⟩
 case rest =>
  clear HC3
  try clear c1
  try clear c2
  try clear p2
  try clear c3
  try clear c4
  try clear c5
  try clear p6
  try clear c7
  try clear c10
  try clear c11
  try clear c13
  try clear c13b0
  try clear c13b1
  try clear c17
  try clear c18
  try clear c22
  try clear c22b0
  try clear c22b1
  try clear c26
  try clear c27
  try clear c31
  try clear c31b0
  try clear c31b1
  try clear c34
  try clear c35
  try clear c37
  try clear c37b0
  try clear c37b1
  try clear c40
  try clear c41
  try clear c45
  try clear c46
  try clear hcz12_0
  try clear hcz12_1
  try clear hcz12_2
  try clear hcz12_3
  try clear hcz12_4
  try clear hcz19_0
  try clear hcz19_1
  try clear hcz19_2
  try clear hcz19_3
  try clear hcz19_4
  try clear hcz21_0
  try clear hcz21_1
  try clear hcz21_2
  try clear hcz21_3
  try clear hcz21_4
  try clear hcz28_0
  try clear hcz28_1
  try clear hcz28_2
  try clear hcz28_3
  try clear hcz28_4
  try clear hcz30_0
  try clear hcz30_1
  try clear hcz30_2
  try clear hcz30_3
  try clear hcz30_4
  try clear hcz36_0
  try clear hcz36_1
  try clear hcz36_2
  try clear hcz36_3
  try clear hcz36_4
  try clear hcz42_0
  try clear hcz42_1
  try clear hcz42_2
  try clear hcz42_3
  try clear hcz42_4
  try clear hcz47_0
  try clear hcz47_1
  try clear hcz47_2
  try clear hcz47_3
  try clear hcz47_4
  try clear hfz12_0
  try clear hfz12_1
  try clear hfz12_2
  try clear hfz12_3
  try clear hfz12_4
  try clear hfz19_0
  try clear hfz19_1
  try clear hfz19_2
  try clear hfz19_3
  try clear hfz19_4
  try clear hfz21_0
  try clear hfz21_1
  try clear hfz21_2
  try clear hfz21_3
  try clear hfz21_4
  try clear hfz28_0
  try clear hfz28_1
  try clear hfz28_2
  try clear hfz28_3
  try clear hfz28_4
  try clear hfz30_0
  try clear hfz30_1
  try clear hfz30_2
  try clear hfz30_3
  try clear hfz30_4
  try clear hfz36_0
  try clear hfz36_1
  try clear hfz36_2
  try clear hfz36_3
  try clear hfz36_4
  try clear hfz42_0
  try clear hfz42_1
  try clear hfz42_2
  try clear hfz42_3
  try clear hfz42_4
  try clear hfz47_0
  try clear hfz47_1
  try clear hfz47_2
  try clear hfz47_3
  try clear hfz47_4
  obtain ⟨kq, x4_2, x1001_2, x293001_2, x293002_2, x293003_2, rfl, HA, HJ2, HO_293004, BK286, BK292, HI0, HK, HB⟩ := hcut
  cases kq with
  | zero => exact absurd HA.out (by simp [spec_l71Msg.j0])
  | succ kj2 =>
   have H := HA.out
   clear HA
   simp only [spec_l71Msg.j0] at H
   have H' := Aside0.mk H
   clear H
   go_wp2
   go_loopg [5] kj2 (fun kq v5 w' => ∃ (x5_2 : Int) (x1001_2 : Int) (x293004_2 : List (S24)) (u293004 : Value), v5 = .int .i64 x5_2 ∧ Aside0 (spec_l71Msg.l0 kq x4_2 x5_2 s0_0 x1001_2 (wrap64 (1 + t287)) x293001_2 x293002_2 x293003_2 x293004_2 = some (r1, r2, r3, r4, r5, r6)) ∧ Aside0 (kq ≤ kj2) ∧ Aside0 (Kd.R k24 24 w' w.heap.size (fun _ => True) u293004 x293004_2) ∧ Aside0 (w'.heap[gb286]? = some (.cells #[.int .i64 0, .int .i64 0, .int .i64 0, .int .i64 0, (.slice none 0 0)] 36 (0, 0))) ∧ Aside0 (w'.heap[gb292]? = some (.cells #[.int .i64 (wrap64 (1 + t287)), .int .i64 x293001_2, .int .i64 x293002_2, .int .i64 x293003_2, u293004] 36 (0, 0))) ∧ Aside0 (IsS80 w0 w' g s0_0 x1001_2) ∧ Aside0 (KeepBut w w' g none) ∧ Aside0 (Below w0.heap.size w0 w'))
   case atStart => exact ⟨(0), (x1001_2), (y289), (.slice Ao8 y289.length co8), (by first | rfl | (simp; done) | (simp [*]; done)), H', ⟨Nat.le_refl _⟩, ⟨by (with_reducible repeat (first | apply Kd.R_alloc | apply Kd.R_drewN | apply Kd.R_drew)); exact HO_293004.out⟩, ⟨by (with_reducible repeat (first | refine blk_drewN ?_ _ | refine blk_drew ?_ | refine blk_alloc ?_ _)); exact BK286.out⟩, ⟨by (with_reducible repeat (first | refine blk_drewN ?_ _ | refine blk_drew ?_ | refine blk_alloc ?_ _)); exact BK292.out⟩, ⟨by repeat (first | (with_reducible first | exact HI0.out | apply IsS80.alloc | apply IsS80.drewN | apply IsS80.drew | apply IsS80.set_1 | refine IsS80.far ?_ NB0_286.out _ | refine IsS80.far ?_ NB0_292.out _) | exact HI0.out)⟩, ⟨by repeat (first | (with_reducible first | exact HK.out | apply KeepBut.set_ | apply keep_drewN | apply keep_drew | apply keep_alloc | refine keep_far ?_ GW286.out _ | refine keep_far ?_ GW292.out _) | exact HK.out)⟩, ⟨by repeat (first | (with_reducible first | exact HB.out | apply below_alloc | apply pw_below_drewN | apply below_drew1 | refine below_set ?_ (IsS80.ge HI0.out) | refine below_set ?_ GE286.out | refine below_set ?_ GE292.out) | exact HB.out)⟩⟩
   case round =>
    clear H'
    try clear c1
    try clear c2
    try clear p2
    try clear c3
    try clear c4
    try clear c5
    try clear p6
    try clear c7
    try clear c10
    try clear c11
    try clear c13
    try clear c13b0
    try clear c13b1
    try clear c17
    try clear c18
    try clear c22
    try clear c22b0
    try clear c22b1
    try clear c26
    try clear c27
    try clear c31
    try clear c31b0
    try clear c31b1
    try clear c34
    try clear c35
    try clear c37
    try clear c37b0
    try clear c37b1
    try clear c40
    try clear c41
    try clear c45
    try clear c46
    try clear hcz12_0
    try clear hcz12_1
    try clear hcz12_2
    try clear hcz12_3
    try clear hcz12_4
    try clear hcz19_0
    try clear hcz19_1
    try clear hcz19_2
    try clear hcz19_3
    try clear hcz19_4
    try clear hcz21_0
    try clear hcz21_1
    try clear hcz21_2
    try clear hcz21_3
    try clear hcz21_4
    try clear hcz28_0
    try clear hcz28_1
    try clear hcz28_2
    try clear hcz28_3
    try clear hcz28_4
    try clear hcz30_0
    try clear hcz30_1
    try clear hcz30_2
    try clear hcz30_3
    try clear hcz30_4
    try clear hcz36_0
    try clear hcz36_1
    try clear hcz36_2
    try clear hcz36_3
    try clear hcz36_4
    try clear hcz42_0
    try clear hcz42_1
    try clear hcz42_2
    try clear hcz42_3
    try clear hcz42_4
    try clear hcz47_0
    try clear hcz47_1
    try clear hcz47_2
    try clear hcz47_3
    try clear hcz47_4
    try clear hfz12_0
    try clear hfz12_1
    try clear hfz12_2
    try clear hfz12_3
    try clear hfz12_4
    try clear hfz19_0
    try clear hfz19_1
    try clear hfz19_2
    try clear hfz19_3
    try clear hfz19_4
    try clear hfz21_0
    try clear hfz21_1
    try clear hfz21_2
    try clear hfz21_3
    try clear hfz21_4
    try clear hfz28_0
    try clear hfz28_1
    try clear hfz28_2
    try clear hfz28_3
    try clear hfz28_4
    try clear hfz30_0
    try clear hfz30_1
    try clear hfz30_2
    try clear hfz30_3
    try clear hfz30_4
    try clear hfz36_0
    try clear hfz36_1
    try clear hfz36_2
    try clear hfz36_3
    try clear hfz36_4
    try clear hfz42_0
    try clear hfz42_1
    try clear hfz42_2
    try clear hfz42_3
    try clear hfz42_4
    try clear hfz47_0
    try clear hfz47_1
    try clear hfz47_2
    try clear hfz47_3
    try clear hfz47_4
    try clear p2
    try clear p6
    obtain ⟨x5_2, x1001_2, x293004_2, u293004, rfl, HA, HK2, HO_293004, BK286, BK292, HI0, HK, HB⟩ := hrel
    cases gk with
    | zero => exact absurd HA.out (by simp [spec_l71Msg.l0])
    | succ k2 =>
     have H := HA.out
     clear HA
     simp only [spec_l71Msg.l0] at H
     by_cases c48 : x5_2 < x4_2
     ·rw [if_pos c48] at H
      have c48b0 : decide (x5_2 < x4_2) = true := decide_eq_true c48
      clear c48
      replace H := Option.bind_eq_some_iff.mp H
      obtain ⟨⟨t307, t308, t309, t310, t311, t312, t313, t314⟩, A490, H⟩ := H
      replace H : (if x293004_2.length < 2513169434916 then (spec_l71Msg.l0 k2 x4_2 (wrap64 (x5_2 + 1)) s0_0 t314 (wrap64 (1 + t287)) x293001_2 x293002_2 x293003_2 (x293004_2 ++ [(⟨t307, t308, t309, t310, t311, t312, t313⟩ : S24)])) else (none)) = some (r1, r2, r3, r4, r5, r6) := H
      have A49 := Aside0.mk A490
      clear A490
      by_cases c50 : x293004_2.length < 2513169434916
      ·rw [if_pos c50] at H
       have LMc50 := Aside0.mk c50
       clear c50
       obtain ⟨y315, hy315⟩ : ∃ y_ : List (S24), y_ = (x293004_2 ++ [(⟨t307, t308, t309, t310, t311, t312, t313⟩ : S24)]) := ⟨_, rfl⟩
       replace H : (spec_l71Msg.l0 k2 x4_2 (wrap64 (x5_2 + 1)) s0_0 t314 (wrap64 (1 + t287)) x293001_2 x293002_2 x293003_2 y315) = some (r1, r2, r3, r4, r5, r6) := by first | (rw [hy315]; with_reducible exact H) | (have H2_ := (Option.bind_some _ _).symm.trans H; rw [hy315]; with_reducible exact H2_) | (have H2_ := (Option.bind_some _ _).symm.trans H; with_reducible exact H2_) | with_reducible exact H | (rw [hy315]; exact H) | exact H
       have Ny315 := Aside0.mk hy315
       clear hy315
       have H' := Aside0.mk H
       clear H
       try go_wp2
       have n0_ := Aside0.mk (Kd.R_drew HO_293004.out)
       have n1_ := Aside0.mk (blk_drew BK286.out)
       have n2_ := Aside0.mk (blk_drew BK292.out)
       have n3_ := Aside0.mk (IsS80.drew HI0.out)
       have n4_ := Aside0.mk (keep_drew HK.out)
       have n5_ := Aside0.mk (below_drew1 HB.out)
       clear HO_293004
       clear BK286
       clear BK292
       clear HI0
       clear HK
       clear HB
       have HO_293004 := n0_
       have BK286 := n1_
       have BK292 := n2_
       have HI0 := n3_
       have HK := n4_
       have HB := n5_
       clear n0_ n1_ n2_ n3_ n4_ n5_
       refine start_ (n := 8) (S := fun w' => w'.cell? ⟨gb292, 0, none⟩ = some (.int .i64 (wrap64 (1 + t287))) ∧ w'.cell? ⟨gb292, 1, none⟩ = some (.int .i64 x293001_2) ∧ w'.cell? ⟨gb292, 2, none⟩ = some (.int .i64 x293002_2) ∧ w'.cell? ⟨gb292, 3, none⟩ = some (.int .i64 x293003_2) ∧ w'.cell? ⟨gb292, 4, none⟩ = some (u293004)) (ds := [7]) #[false, false, false, false, false, false, false, false] (by kernel_rfl) rfl rfl ⟨(blk_cell BK292.out 0).trans rfl, (blk_cell BK292.out 1).trans rfl, (blk_cell BK292.out 2).trans rfl, (blk_cell BK292.out 3).trans rfl, (blk_cell BK292.out 4).trans rfl⟩ (fun hHeld => ?_); refine with_tabW spec_l71Msg.tab20 spec_l71Msg.bits20 (fun HT_ HW_ => ?_)
       generalize wr.drew = w51 at HO_293004 BK286 BK292 HI0 HK HB hHeld ⊢
       refine pure_ (i := 0) (N := some 54) (v := ?_) (a' := ?_) #[true, false, false, false, false, false, false, false] rfl rfl (any_of HT_.out (by kernel_rfl)) (fun _ _ _ h => h) (Or.inl ⟨by rfl, ?_⟩) ?_ ?_
       rotate_left
       ·intro w'
        go_simp
        with_reducible rfl
       rotate_left
       ·simp only [Act.put, List.setIfInBounds_toArray, List.set_cons_zero, List.set_cons_succ, i64_w, i32_w]
        rfl
       refine pure_ (i := 2) (N := some 56) (v := ?_) (a' := ?_) #[true, false, true, false, false, false, false, false] rfl rfl (any_of HT_.out (by kernel_rfl)) (fun _ _ _ h => h) (Or.inl ⟨by rfl, ?_⟩) ?_ ?_
       rotate_left
       ·intro w'
        go_simp
        with_reducible rfl
       rotate_left
       ·simp only [Act.put, List.setIfInBounds_toArray, List.set_cons_zero, List.set_cons_succ, i64_w, i32_w]
        rfl
       refine take_ (i := 1) (N := some 55) (v := ?_) (a' := ?_) #[true, true, true, false, false, false, false, false] rfl rfl (take_ofW HT_.out HW_.out (by kernel_rfl)) (fun _ _ _ h => h) (Or.inl ⟨by rfl, ?_⟩) hHeld ?_ ?_
       rotate_left
       ·rintro w' ⟨s0, s1, s2, s3, s4⟩
        go_simp
        with_reducible rfl
       rotate_left
       ·simp only [Act.put, List.setIfInBounds_toArray, List.set_cons_zero, List.set_cons_succ, i64_w, i32_w]
        rfl
       refine one_ (i := 3) (N := some 57) #[true, true, true, true, false, false, false, false] rfl rfl (one_of HT_.out (by kernel_rfl)) (by decide) (fun K hK => ?_)
       refine goes_ Try.func83 (by kernel_rfl) rfl #[.pointer (some ⟨g, 0, none⟩)] (by rfl) rfl rfl z26x12 ?_
       with_reducible refine (spec_l71Fine.calls k2 g s0_0 x1001_2 t307 t308 t309 t310 t311 t312 t313 t314 w0 _ ?side1 ?side2 A49.out).mono ?_
       (case side1 => repeat (first | (with_reducible first | exact HI0.out | apply IsS80.alloc | apply IsS80.drewN | apply IsS80.drew | apply IsS80.set_1 | refine IsS80.far ?_ NB0_286.out _ | refine IsS80.far ?_ NB0_292.out _) | exact HI0.out))
       (case side2 => repeat (first | (with_reducible first | exact HB.out | apply below_alloc | apply pw_below_drewN | apply below_drew1 | refine below_set ?_ (IsS80.ge HI0.out) | refine below_set ?_ GE286.out | refine below_set ?_ GE292.out) | exact HB.out))
       rintro e w52 ⟨rfl, hi, hb, hk⟩
       refine ⟨_, rfl, ?_⟩
       have n0_ := Aside0.mk (Kd.R_mono (Kd.R_keep (IsS80.apart (show IsS80 w0 _ g s0_0 x1001_2 from by repeat (first | (with_reducible first | exact HI0.out | apply IsS80.alloc | apply IsS80.drewN | apply IsS80.drew | apply IsS80.set_1 | refine IsS80.far ?_ NB0_286.out _ | refine IsS80.far ?_ NB0_292.out _) | exact HI0.out)) z26x15 (by decide)) hk (fun _ h => h.2)) (fun _ h => h.1))
       have n1_ := Aside0.mk (KeepBut.blk hk (g' := gb286) (o := .cells #[.int .i64 0, .int .i64 0, .int .i64 0, .int .i64 0, .slice none 0 0] 36 (0, 0)) z26x13 NB286_0.out (by simp))
       have n2_ := Aside0.mk (KeepBut.blk hk (g' := gb292) (o := .cells #[.int .i64 (wrap64 (1 + t287)), .int .i64 x293001_2, .int .i64 x293002_2, .int .i64 x293003_2, u293004] 36 (0, 0)) z26x14 NB292_0.out (by simp))
       have n3_ := Aside0.mk (KeepBut.trans z26x7 hk (.inl rfl))
       have n4_ := Aside0.mk (hb)
       have n5_ := Aside0.mk (hi)
       clear HO_293004
       clear BK286
       clear BK292
       clear HK
       clear HB
       clear HI0
       have HO_293004 := n0_
       have BK286 := n1_
       have BK292 := n2_
       have HK := n3_
       have HB := n4_
       have HI0 := n5_
       clear n0_ n1_ n2_ n3_ n4_ n5_
       (try clear hb)
       (try clear hb2)
       (try clear hk)
       (try clear hi)
       refine hK.out _ _ ⟨(blk_cell BK292.out 0).trans rfl, (blk_cell BK292.out 1).trans rfl, (blk_cell BK292.out 2).trans rfl, (blk_cell BK292.out 3).trans rfl, (blk_cell BK292.out 4).trans rfl⟩ (fun hHeld => ?_)
       clear hK K
       refine norm_ (a' := ?_) ?_ ?_
       rotate_left
       ·show Act.put _ (some 57) _ = _
        simp only [Act.put, List.setIfInBounds_toArray, List.set_cons_zero, List.set_cons_succ, i64_w, i32_w]
        rfl
       refine one_ (i := 4) (N := some 58) #[true, true, true, true, true, false, false, false] rfl rfl (one_of HT_.out (by kernel_rfl)) (by decide) (fun K hK => ?_)
       refine value_ (w1 := ?_) (v := ?_) (by rfl) rfl ?_ ?_
       rotate_left 2
       ·go_simp
        constructor
        ·rfl
        ·rfl
       refine hK.out _ _ ⟨(blk_cell (blk_alloc BK292.out _) 0).trans rfl, (blk_cell (blk_alloc BK292.out _) 1).trans rfl, (blk_cell (blk_alloc BK292.out _) 2).trans rfl, (blk_cell (blk_alloc BK292.out _) 3).trans rfl, (blk_cell (blk_alloc BK292.out _) 4).trans rfl⟩ (fun hHeld => ?_)
       clear hK K
       refine norm_ (a' := ?_) ?_ ?_
       rotate_left
       ·show Act.put _ (some 58) _ = _
        simp only [Act.put, List.setIfInBounds_toArray, List.set_cons_zero, List.set_cons_succ, i64_w, i32_w]
        rfl
       refine one_ (i := 5) (N := some 59) #[true, true, true, true, true, true, false, false] rfl rfl (one_of HT_.out (by kernel_rfl)) (by decide) (fun K hK => ?_)
       refine Kd.R_append_step k24 w.heap.size (by rfl) (.tmp 55) (.tmp 58) 34 24 (.agg #[(.int .i64 0), (.int .i64 0), (.int .i64 0), (.int .i64 0), (.int .i64 0), (.int .i64 0), (.int .i64 0)]) 56 rfl Try.underlying34 info24 rfl (by decide) (by omega) u293004 x293004_2 (⟨t307, t308, t309, t310, t311, t312, t313⟩ : S24) [.int .i64 t307, .int .i64 t308, .int .i64 t309, .int .i64 t310, .int .i64 t311, .int .i64 t312, .int .i64 t313] (fun _ => True) (fun _ => False) rfl rfl ?aP (fun _ hk => hk.elim) ?aF ?aO (Below.refl _ _) ?aS ?aL ?_
       (case aP => exact k24_mkM _ _ _ (⟨t307, t308, t309, t310, t311, t312, t313⟩ : S24))
       (case aF => exact (fun _ _ => trivial))
       (case aO => exact z26x15)
       (case aS => exact (keep_size (w := w) (g := g) (row := none) z26x7))
       (case aL => have := LMc50.out; omega)
       intro v316 w53 ho hb hg hat
       rw [← Ny315.out] at ho
       have n0_ := Aside0.mk (blk_grown (g := gb286) (o := .cells #[.int .i64 0, .int .i64 0, .int .i64 0, .int .i64 0, .slice none 0 0] 36 (0, 0)) z26x13 hg (Kd.R_ne HO_293004.out BK286.out (by decide)))
       have n1_ := Aside0.mk (blk_grown (g := gb292) (o := .cells #[.int .i64 (wrap64 (1 + t287)), .int .i64 x293001_2, .int .i64 x293002_2, .int .i64 x293003_2, u293004] 36 (0, 0)) z26x14 hg (Kd.R_ne HO_293004.out BK292.out (by decide)))
       have n2_ := Aside0.mk (IsS80.grown z26x6 hg (IsS80.own_ne HI0.out HO_293004.out (by decide)))
       have n3_ := Aside0.mk (below_weaken z26x5 HL.out hb)
       have n4_ := Aside0.mk (KeepBut.trans z26x7 (KeepBut.of_grown hg g) (Kd.R_base2 HO_293004.out))
       have n5_ := Aside0.mk (ho)
       clear BK286
       clear BK292
       clear HI0
       clear HB
       clear HK
       clear HO_293004
       have BK286 := n0_
       have BK292 := n1_
       have HI0 := n2_
       have HB := n3_
       have HK := n4_
       have HO317 := n5_
       clear n0_ n1_ n2_ n3_ n4_ n5_
       clear ho hb hg hat
       obtain ⟨Ao54, co54, eo54⟩ := Kd.R_slice HO317.out
       (first | subst eo54 | (injection eo54 with f1_ f2_ f3_; have f4_ := f1_.symm; have f5_ := f3_.symm; clear f1_ f2_ f3_; subst f4_; subst f5_))
       refine hK.out _ _ ⟨(blk_cell BK292.out 0).trans rfl, (blk_cell BK292.out 1).trans rfl, (blk_cell BK292.out 2).trans rfl, (blk_cell BK292.out 3).trans rfl, (blk_cell BK292.out 4).trans rfl⟩ (fun hHeld => ?_)
       clear hK K
       refine norm_ (a' := ?_) ?_ ?_
       rotate_left
       ·show Act.put _ (some 59) _ = _
        simp only [Act.put, List.setIfInBounds_toArray, List.set_cons_zero, List.set_cons_succ, i64_w, i32_w]
        rfl
       refine pure_ (i := 6) (N := some 60) (v := ?_) (a' := ?_) #[true, true, true, true, true, true, true, false] rfl rfl (any_of HT_.out (by kernel_rfl)) (fun _ _ _ h => h) (Or.inl ⟨by rfl, ?_⟩) ?_ ?_
       rotate_left
       ·intro w'
        go_simp
        with_reducible rfl
       rotate_left
       ·simp only [Act.put, List.setIfInBounds_toArray, List.set_cons_zero, List.set_cons_succ, i64_w, i32_w]
        rfl
       refine last_ (i := 7) (N := none) #[true, true, true, true, true, true, true, true] rfl rfl (one_of HT_.out (by kernel_rfl)) (by decide) (fun K hK => ?_)
       have hs55 : w53.cell? ⟨gb292, 4, none⟩ = some (u293004) := (blk_cell BK292.out 4).trans rfl
       have hfs55 := blk_frozen BK292.out 4
       have hns55_0 := NB286_292.out
       have hms55_0 := NB292_286.out
       refine skip_ (w1 := ?_) (by rfl) rfl ?_ ?_
       rotate_left
       ·go_simp
        rfl
       refine hK.out _ _ ?_
       clear hK K
       refine done_ (done_of HT_.out (by kernel_rfl)) ?_
       try go_wp2
       go_roundg k2
       case measure => have := HJ2.out; have := HK2.out; omega
       case rel => exact ⟨(wrap64 (x5_2 + 1)), (t314), (y315), (.slice Ao54 y315.length co54), (by first | rfl | (simp; done) | (simp [*]; done)), H', ⟨by have := HJ2.out; have := HK2.out; omega⟩, ⟨by (with_reducible repeat (first | apply Kd.R_alloc | apply Kd.R_drewN | apply Kd.R_drew)); exact Kd.R_mono (Kd.R_far (p := ⟨gb292, 4, none⟩) (Kd.R_types HO317.out BK292.out (by decide)) (fun _ hk => hk.2) (.slice Ao54 y315.length co54)) (fun _ hk => trivial)⟩, ⟨by (with_reducible repeat (first | refine blk_drewN ?_ _ | refine blk_drew ?_ | refine blk_alloc ?_ _)); refine blk_far ?_ NB286_292.out _; (with_reducible repeat (first | refine blk_drewN ?_ _ | refine blk_drew ?_ | refine blk_alloc ?_ _)); exact BK286.out⟩, ⟨by (with_reducible repeat (first | refine blk_drewN ?_ _ | refine blk_drew ?_ | refine blk_alloc ?_ _)); refine blk_put (cs := #[.int .i64 (wrap64 (1 + t287)), .int .i64 x293001_2, .int .i64 x293002_2, .int .i64 x293003_2, u293004]) ?_ 4 _ rfl; (with_reducible repeat (first | refine blk_drewN ?_ _ | refine blk_drew ?_ | refine blk_alloc ?_ _)); exact BK292.out⟩, ⟨by repeat (first | (with_reducible first | exact HI0.out | apply IsS80.alloc | apply IsS80.drewN | apply IsS80.drew | apply IsS80.set_1 | refine IsS80.far ?_ NB0_286.out _ | refine IsS80.far ?_ NB0_292.out _) | exact HI0.out)⟩, ⟨by repeat (first | (with_reducible first | exact HK.out | apply KeepBut.set_ | apply keep_drewN | apply keep_drew | apply keep_alloc | refine keep_far ?_ GW286.out _ | refine keep_far ?_ GW292.out _) | exact HK.out)⟩, ⟨by repeat (first | (with_reducible first | exact HB.out | apply below_alloc | apply pw_below_drewN | apply below_drew1 | refine below_set ?_ (IsS80.ge HI0.out) | refine below_set ?_ GE286.out | refine below_set ?_ GE292.out) | exact HB.out)⟩⟩
      ·rw [if_neg c50] at H
       exact absurd H (by simp)
     ·rw [if_neg c48] at H
      have c48b0 : decide (x5_2 < x4_2) = false := decide_eq_false c48
      clear c48
      replace H := Option.bind_eq_some_iff.mp H
      obtain ⟨⟨t318, t319⟩, A560, H⟩ := H
      replace H : (if t318 = 0 then ((spec_l6Rd_pick.f k2 s0_0 t319 8).bind fun bt320 => (some (bt320.1, x293001_2, x293002_2, x293003_2, x293004_2, bt320.2))) else (if t318 = 1 then ((spec_l6Rd_pick.f k2 s0_0 t319 5).bind fun bt322 => (some ((wrap64 (1 + t287)), bt322.1, x293002_2, x293003_2, x293004_2, bt322.2))) else (if t318 = 2 then ((spec_l6Rd_pick.f k2 s0_0 t319 7).bind fun bt324 => (some ((wrap64 (1 + t287)), x293001_2, bt324.1, x293003_2, x293004_2, bt324.2))) else (if t318 = 3 then ((some (([0, 5, 61] : List Int) : List Int)).bind fun y326 => ((spec_l6Rd_pick.f k2 s0_0 t319 3).bind fun bt329 => (if 0 ≤ bt329.1 then (if bt329.1 < (y326.length : Int) then (some ((wrap64 (1 + t287)), x293001_2, x293002_2, rd y326 bt329.1, x293004_2, bt329.2)) else (none)) else (none)))) else (if t318 = 4 then ((spec_l71Seal.f k2 s0_0 t319).bind fun bt332 => (if x293004_2.length < 2513169434916 then (some ((wrap64 (1 + t287)), x293001_2, x293002_2, x293003_2, (x293004_2 ++ [(⟨bt332.1, bt332.2.1, bt332.2.2.1, bt332.2.2.2.1, bt332.2.2.2.2.1, bt332.2.2.2.2.2.1, bt332.2.2.2.2.2.2.1⟩ : S24)]), bt332.2.2.2.2.2.2.2)) else (none))) else (some ((wrap64 (1 + t287)), x293001_2, x293002_2, x293003_2, x293004_2, t319))))))) = some (r1, r2, r3, r4, r5, r6) := H
      have A56 := Aside0.mk A560
      clear A560
      by_cases c57 : t318 = 0
      ·rw [if_pos c57] at H
       have c57b0 : (t318 == 0) = true := beq_iff_eq.mpr c57
       have c57b1 : (t318 != 0) = false := bne_eq_false_iff_eq.mpr c57
       clear c57
       replace H := Option.bind_eq_some_iff.mp H
       obtain ⟨⟨t320, t321⟩, A580, H⟩ := H
       replace H : (some (t320, x293001_2, x293002_2, x293003_2, x293004_2, t321)) = some (r1, r2, r3, r4, r5, r6) := H
       have A58 := Aside0.mk A580
       clear A580
       simp only [Option.some.injEq, Prod.mk.injEq] at H
       obtain ⟨rfl, rfl, rfl, rfl, rfl, rfl⟩ := H
       go_wp2_with (first | ((with_reducible refine gate_callee (f := 57) rfl ?_); refine goesL_ (some 62) rfl rfl Try.func57 (by kernel_rfl) rfl #[.pointer (some ⟨g, 0, none⟩), .int .i64 20] rfl z26x12 ?_; (with_reducible refine (spec_l6Rd_pick.calls k2 g s0_0 x1001_2 20 t318 t319 w0 _ ?side1 ?side2 A56.out).mono ?_); (case side1 => repeat (first | (with_reducible first | exact HI0.out | apply IsS80.alloc | apply IsS80.drewN | apply IsS80.drew | apply IsS80.set_1 | refine IsS80.far ?_ NB0_286.out _ | refine IsS80.far ?_ NB0_292.out _) | exact HI0.out)); (case side2 => repeat (first | (with_reducible first | exact HB.out | apply below_alloc | apply pw_below_drewN | apply below_drew1 | refine below_set ?_ (IsS80.ge HI0.out) | refine below_set ?_ GE286.out | refine below_set ?_ GE292.out) | exact HB.out)); rintro e w59 ⟨rfl, hi, hb, hk⟩; refine ⟨_, rfl, ?_⟩; have n0_ := Aside0.mk (Kd.R_mono (Kd.R_keep (IsS80.apart (show IsS80 w0 _ g s0_0 x1001_2 from by repeat (first | (with_reducible first | exact HI0.out | apply IsS80.alloc | apply IsS80.drewN | apply IsS80.drew | apply IsS80.set_1 | refine IsS80.far ?_ NB0_286.out _ | refine IsS80.far ?_ NB0_292.out _) | exact HI0.out)) z26x15 (by decide)) hk (fun _ h => h.2)) (fun _ h => h.1)); have n1_ := Aside0.mk (KeepBut.blk hk (g' := gb286) (o := .cells #[.int .i64 0, .int .i64 0, .int .i64 0, .int .i64 0, .slice none 0 0] 36 (0, 0)) z26x13 NB286_0.out (by simp)); have n2_ := Aside0.mk (KeepBut.blk hk (g' := gb292) (o := .cells #[.int .i64 (wrap64 (1 + t287)), .int .i64 x293001_2, .int .i64 x293002_2, .int .i64 x293003_2, u293004] 36 (0, 0)) z26x14 NB292_0.out (by simp)); have n3_ := Aside0.mk (KeepBut.trans z26x7 hk (.inl rfl)); have n4_ := Aside0.mk (hb); have n5_ := Aside0.mk (hi); clear HO_293004; clear BK286; clear BK292; clear HK; clear HB; clear HI0; have HO_293004 := n0_; have BK286 := n1_; have BK292 := n2_; have HK := n3_; have HB := n4_; have HI0 := n5_; clear n0_ n1_ n2_ n3_ n4_ n5_; (try clear hb); (try clear hb2); (try clear hk); (try clear hi)) | ((with_reducible refine gate_callee (f := 57) rfl ?_); refine goesL_ (some 66) rfl rfl Try.func57 (by kernel_rfl) rfl #[.pointer (some ⟨g, 0, none⟩), .int .i64 8] rfl z26x12 ?_; (with_reducible refine (spec_l6Rd_pick.calls k2 g s0_0 t319 8 t320 t321 w0 _ ?side1 ?side2 A58.out).mono ?_); (case side1 => repeat (first | (with_reducible first | exact HI0.out | apply IsS80.alloc | apply IsS80.drewN | apply IsS80.drew | apply IsS80.set_1 | refine IsS80.far ?_ NB0_286.out _ | refine IsS80.far ?_ NB0_292.out _) | exact HI0.out)); (case side2 => repeat (first | (with_reducible first | exact HB.out | apply below_alloc | apply pw_below_drewN | apply below_drew1 | refine below_set ?_ (IsS80.ge HI0.out) | refine below_set ?_ GE286.out | refine below_set ?_ GE292.out) | exact HB.out)); rintro e w60 ⟨rfl, hi, hb, hk⟩; refine ⟨_, rfl, ?_⟩; have n0_ := Aside0.mk (Kd.R_mono (Kd.R_keep (IsS80.apart (show IsS80 w0 _ g s0_0 t319 from by repeat (first | (with_reducible first | exact HI0.out | apply IsS80.alloc | apply IsS80.drewN | apply IsS80.drew | apply IsS80.set_1 | refine IsS80.far ?_ NB0_286.out _ | refine IsS80.far ?_ NB0_292.out _) | exact HI0.out)) z26x15 (by decide)) hk (fun _ h => h.2)) (fun _ h => h.1)); have n1_ := Aside0.mk (KeepBut.blk hk (g' := gb286) (o := .cells #[.int .i64 0, .int .i64 0, .int .i64 0, .int .i64 0, .slice none 0 0] 36 (0, 0)) z26x13 NB286_0.out (by simp)); have n2_ := Aside0.mk (KeepBut.blk hk (g' := gb292) (o := .cells #[.int .i64 (wrap64 (1 + t287)), .int .i64 x293001_2, .int .i64 x293002_2, .int .i64 x293003_2, u293004] 36 (0, 0)) z26x14 NB292_0.out (by simp)); have n3_ := Aside0.mk (KeepBut.trans z26x7 hk (.inl rfl)); have n4_ := Aside0.mk (hb); have n5_ := Aside0.mk (hi); clear HO_293004; clear BK286; clear BK292; clear HK; clear HB; clear HI0; have HO_293004 := n0_; have BK286 := n1_; have BK292 := n2_; have HK := n3_; have HB := n4_; have HI0 := n5_; clear n0_ n1_ n2_ n3_ n4_ n5_; (try clear hb); (try clear hb2); (try clear hk); (try clear hi); have hnb61 := NB292_286.out; have hnc61 := NB286_292.out; have hnb62 := NB292_0.out; have hnc62 := NB0_292.out; have hcz63_0 : w60.cell? ⟨gb292, 0, none⟩ = some (.int .i64 (wrap64 (1 + t287))) := (blk_cell BK292.out 0).trans rfl; have hcz63_1 : w60.cell? ⟨gb292, 1, none⟩ = some (.int .i64 x293001_2) := (blk_cell BK292.out 1).trans rfl; have hcz63_2 : w60.cell? ⟨gb292, 2, none⟩ = some (.int .i64 x293002_2) := (blk_cell BK292.out 2).trans rfl; have hcz63_3 : w60.cell? ⟨gb292, 3, none⟩ = some (.int .i64 x293003_2) := (blk_cell BK292.out 3).trans rfl; have hcz63_4 : w60.cell? ⟨gb292, 4, none⟩ = some (u293004) := (blk_cell BK292.out 4).trans rfl; have hfz63_0 := blk_frozen BK292.out 0; have hfz63_1 := blk_frozen BK292.out 1; have hfz63_2 := blk_frozen BK292.out 2; have hfz63_3 := blk_frozen BK292.out 3; have hfz63_4 := blk_frozen BK292.out 4; have hnb64 := NB286_0.out; have hnc64 := NB0_286.out; have hcz65_0 : w60.cell? ⟨gb286, 0, none⟩ = some (.int .i64 0) := (blk_cell BK286.out 0).trans rfl; have hcz65_1 : w60.cell? ⟨gb286, 1, none⟩ = some (.int .i64 0) := (blk_cell BK286.out 1).trans rfl; have hcz65_2 : w60.cell? ⟨gb286, 2, none⟩ = some (.int .i64 0) := (blk_cell BK286.out 2).trans rfl; have hcz65_3 : w60.cell? ⟨gb286, 3, none⟩ = some (.int .i64 0) := (blk_cell BK286.out 3).trans rfl; have hcz65_4 : w60.cell? ⟨gb286, 4, none⟩ = some (.slice none 0 0) := (blk_cell BK286.out 4).trans rfl; have hfz65_0 := blk_frozen BK286.out 0; have hfz65_1 := blk_frozen BK286.out 1; have hfz65_2 := blk_frozen BK286.out 2; have hfz65_3 := blk_frozen BK286.out 3; have hfz65_4 := blk_frozen BK286.out 4; obtain ⟨Ao66, co66, eo66⟩ := Kd.R_slice HO_293004.out; subst eo66))
       refine bodyPost_ret (results_cell_row rfl _ _ gb286 36 #[.int .i64 t320, .int .i64 x293001_2, .int .i64 x293002_2, .int .i64 x293003_2, .slice Ao66 x293004_2.length co66] (0, 0) _ rfl (by (with_reducible repeat (first | refine blk_drewN ?_ _ | refine blk_drew ?_ | refine blk_alloc ?_ _)); refine blk_put (cs := #[.int .i64 t320, .int .i64 x293001_2, .int .i64 x293002_2, .int .i64 x293003_2, .slice none 0 0]) ?_ 4 _ rfl; (with_reducible repeat (first | refine blk_drewN ?_ _ | refine blk_drew ?_ | refine blk_alloc ?_ _)); refine blk_put (cs := #[.int .i64 t320, .int .i64 x293001_2, .int .i64 x293002_2, .int .i64 0, .slice none 0 0]) ?_ 3 _ rfl; (with_reducible repeat (first | refine blk_drewN ?_ _ | refine blk_drew ?_ | refine blk_alloc ?_ _)); refine blk_put (cs := #[.int .i64 t320, .int .i64 x293001_2, .int .i64 0, .int .i64 0, .slice none 0 0]) ?_ 2 _ rfl; (with_reducible repeat (first | refine blk_drewN ?_ _ | refine blk_drew ?_ | refine blk_alloc ?_ _)); refine blk_put (cs := #[.int .i64 t320, .int .i64 0, .int .i64 0, .int .i64 0, .slice none 0 0]) ?_ 1 _ rfl; (with_reducible repeat (first | refine blk_drewN ?_ _ | refine blk_drew ?_ | refine blk_alloc ?_ _)); refine blk_put (cs := #[.int .i64 0, .int .i64 0, .int .i64 0, .int .i64 0, .slice none 0 0]) ?_ 0 _ rfl; (with_reducible repeat (first | refine blk_drewN ?_ _ | refine blk_drew ?_ | refine blk_alloc ?_ _)); refine blk_far ?_ NB286_292.out _; (with_reducible repeat (first | refine blk_drewN ?_ _ | refine blk_drew ?_ | refine blk_alloc ?_ _)); exact BK286.out) Try.underlying36 rfl (by kernel_rfl)) rfl ?_
       exact ⟨_, by first | rfl | (simp [errW_none, errW_some] <;> rfl) | (simp [*, errW_none, errW_some] <;> rfl), by (with_reducible repeat (first | apply Kd.R_alloc | apply Kd.R_drewN | apply Kd.R_drew)); exact Kd.R_mono (Kd.R_far (p := ⟨gb286, 4, none⟩) (Kd.R_far (p := ⟨gb286, 3, none⟩) (Kd.R_far (p := ⟨gb286, 2, none⟩) (Kd.R_far (p := ⟨gb286, 1, none⟩) (Kd.R_far (p := ⟨gb286, 0, none⟩) (Kd.R_far (p := ⟨gb292, 0, none⟩) (Kd.R_types (Kd.R_types HO_293004.out BK292.out (by decide)) BK286.out (by decide)) (fun _ hk => hk.1.2) (.int .i64 t320)) (fun _ hk => hk.2) (.int .i64 t320)) (fun _ hk => hk.2) (.int .i64 x293001_2)) (fun _ hk => hk.2) (.int .i64 x293002_2)) (fun _ hk => hk.2) (.int .i64 x293003_2)) (fun _ hk => hk.2) (.slice Ao66 x293004_2.length co66)) (fun _ hk => trivial), by repeat (first | (with_reducible first | exact HI0.out | apply IsS80.alloc | apply IsS80.drewN | apply IsS80.drew | apply IsS80.set_1 | refine IsS80.far ?_ NB0_286.out _ | refine IsS80.far ?_ NB0_292.out _) | exact HI0.out), by repeat (first | (with_reducible first | exact HB.out | apply below_alloc | apply pw_below_drewN | apply below_drew1 | refine below_set ?_ (IsS80.ge HI0.out) | refine below_set ?_ GE286.out | refine below_set ?_ GE292.out) | exact HB.out), by repeat (first | (with_reducible first | exact HK.out | apply KeepBut.set_ | apply keep_drewN | apply keep_drew | apply keep_alloc | refine keep_far ?_ GW286.out _ | refine keep_far ?_ GW292.out _) | exact HK.out)⟩
      ·rw [if_neg c57] at H
       have c57b0 : (t318 == 0) = false := beq_eq_false_iff_ne.mpr c57
       have c57b1 : (t318 != 0) = true := bne_iff_ne.mpr c57
       by_cases c67 : t318 = 1
       ·rw [if_pos c67] at H
        have c67b0 : (t318 == 1) = true := beq_iff_eq.mpr c67
        have c67b1 : (t318 != 1) = false := bne_eq_false_iff_eq.mpr c67
        clear c67
        replace H := Option.bind_eq_some_iff.mp H
        obtain ⟨⟨t322, t323⟩, A680, H⟩ := H
        replace H : (some ((wrap64 (1 + t287)), t322, x293002_2, x293003_2, x293004_2, t323)) = some (r1, r2, r3, r4, r5, r6) := H
        have A68 := Aside0.mk A680
        clear A680
        simp only [Option.some.injEq, Prod.mk.injEq] at H
        obtain ⟨rfl, rfl, rfl, rfl, rfl, rfl⟩ := H
        go_wp2_with (first | ((with_reducible refine gate_callee (f := 57) rfl ?_); refine goesL_ (some 62) rfl rfl Try.func57 (by kernel_rfl) rfl #[.pointer (some ⟨g, 0, none⟩), .int .i64 20] rfl z26x12 ?_; (with_reducible refine (spec_l6Rd_pick.calls k2 g s0_0 x1001_2 20 t318 t319 w0 _ ?side1 ?side2 A56.out).mono ?_); (case side1 => repeat (first | (with_reducible first | exact HI0.out | apply IsS80.alloc | apply IsS80.drewN | apply IsS80.drew | apply IsS80.set_1 | refine IsS80.far ?_ NB0_286.out _ | refine IsS80.far ?_ NB0_292.out _) | exact HI0.out)); (case side2 => repeat (first | (with_reducible first | exact HB.out | apply below_alloc | apply pw_below_drewN | apply below_drew1 | refine below_set ?_ (IsS80.ge HI0.out) | refine below_set ?_ GE286.out | refine below_set ?_ GE292.out) | exact HB.out)); rintro e w69 ⟨rfl, hi, hb, hk⟩; refine ⟨_, rfl, ?_⟩; have n0_ := Aside0.mk (Kd.R_mono (Kd.R_keep (IsS80.apart (show IsS80 w0 _ g s0_0 x1001_2 from by repeat (first | (with_reducible first | exact HI0.out | apply IsS80.alloc | apply IsS80.drewN | apply IsS80.drew | apply IsS80.set_1 | refine IsS80.far ?_ NB0_286.out _ | refine IsS80.far ?_ NB0_292.out _) | exact HI0.out)) z26x15 (by decide)) hk (fun _ h => h.2)) (fun _ h => h.1)); have n1_ := Aside0.mk (KeepBut.blk hk (g' := gb286) (o := .cells #[.int .i64 0, .int .i64 0, .int .i64 0, .int .i64 0, .slice none 0 0] 36 (0, 0)) z26x13 NB286_0.out (by simp)); have n2_ := Aside0.mk (KeepBut.blk hk (g' := gb292) (o := .cells #[.int .i64 (wrap64 (1 + t287)), .int .i64 x293001_2, .int .i64 x293002_2, .int .i64 x293003_2, u293004] 36 (0, 0)) z26x14 NB292_0.out (by simp)); have n3_ := Aside0.mk (KeepBut.trans z26x7 hk (.inl rfl)); have n4_ := Aside0.mk (hb); have n5_ := Aside0.mk (hi); clear HO_293004; clear BK286; clear BK292; clear HK; clear HB; clear HI0; have HO_293004 := n0_; have BK286 := n1_; have BK292 := n2_; have HK := n3_; have HB := n4_; have HI0 := n5_; clear n0_ n1_ n2_ n3_ n4_ n5_; (try clear hb); (try clear hb2); (try clear hk); (try clear hi)) | ((with_reducible refine gate_callee (f := 57) rfl ?_); refine goesL_ (some 71) rfl rfl Try.func57 (by kernel_rfl) rfl #[.pointer (some ⟨g, 0, none⟩), .int .i64 5] rfl z26x12 ?_; (with_reducible refine (spec_l6Rd_pick.calls k2 g s0_0 t319 5 t322 t323 w0 _ ?side1 ?side2 A68.out).mono ?_); (case side1 => repeat (first | (with_reducible first | exact HI0.out | apply IsS80.alloc | apply IsS80.drewN | apply IsS80.drew | apply IsS80.set_1 | refine IsS80.far ?_ NB0_286.out _ | refine IsS80.far ?_ NB0_292.out _) | exact HI0.out)); (case side2 => repeat (first | (with_reducible first | exact HB.out | apply below_alloc | apply pw_below_drewN | apply below_drew1 | refine below_set ?_ (IsS80.ge HI0.out) | refine below_set ?_ GE286.out | refine below_set ?_ GE292.out) | exact HB.out)); rintro e w70 ⟨rfl, hi, hb, hk⟩; refine ⟨_, rfl, ?_⟩; have n0_ := Aside0.mk (Kd.R_mono (Kd.R_keep (IsS80.apart (show IsS80 w0 _ g s0_0 t319 from by repeat (first | (with_reducible first | exact HI0.out | apply IsS80.alloc | apply IsS80.drewN | apply IsS80.drew | apply IsS80.set_1 | refine IsS80.far ?_ NB0_286.out _ | refine IsS80.far ?_ NB0_292.out _) | exact HI0.out)) z26x15 (by decide)) hk (fun _ h => h.2)) (fun _ h => h.1)); have n1_ := Aside0.mk (KeepBut.blk hk (g' := gb286) (o := .cells #[.int .i64 0, .int .i64 0, .int .i64 0, .int .i64 0, .slice none 0 0] 36 (0, 0)) z26x13 NB286_0.out (by simp)); have n2_ := Aside0.mk (KeepBut.blk hk (g' := gb292) (o := .cells #[.int .i64 (wrap64 (1 + t287)), .int .i64 x293001_2, .int .i64 x293002_2, .int .i64 x293003_2, u293004] 36 (0, 0)) z26x14 NB292_0.out (by simp)); have n3_ := Aside0.mk (KeepBut.trans z26x7 hk (.inl rfl)); have n4_ := Aside0.mk (hb); have n5_ := Aside0.mk (hi); clear HO_293004; clear BK286; clear BK292; clear HK; clear HB; clear HI0; have HO_293004 := n0_; have BK286 := n1_; have BK292 := n2_; have HK := n3_; have HB := n4_; have HI0 := n5_; clear n0_ n1_ n2_ n3_ n4_ n5_; (try clear hb); (try clear hb2); (try clear hk); (try clear hi); have hnb71 := NB292_286.out; have hnc71 := NB286_292.out; have hnb72 := NB292_0.out; have hnc72 := NB0_292.out; have hcz73_0 : w70.cell? ⟨gb292, 0, none⟩ = some (.int .i64 (wrap64 (1 + t287))) := (blk_cell BK292.out 0).trans rfl; have hcz73_1 : w70.cell? ⟨gb292, 1, none⟩ = some (.int .i64 x293001_2) := (blk_cell BK292.out 1).trans rfl; have hcz73_2 : w70.cell? ⟨gb292, 2, none⟩ = some (.int .i64 x293002_2) := (blk_cell BK292.out 2).trans rfl; have hcz73_3 : w70.cell? ⟨gb292, 3, none⟩ = some (.int .i64 x293003_2) := (blk_cell BK292.out 3).trans rfl; have hcz73_4 : w70.cell? ⟨gb292, 4, none⟩ = some (u293004) := (blk_cell BK292.out 4).trans rfl; have hfz73_0 := blk_frozen BK292.out 0; have hfz73_1 := blk_frozen BK292.out 1; have hfz73_2 := blk_frozen BK292.out 2; have hfz73_3 := blk_frozen BK292.out 3; have hfz73_4 := blk_frozen BK292.out 4; have hnb74 := NB286_0.out; have hnc74 := NB0_286.out; have hcz75_0 : w70.cell? ⟨gb286, 0, none⟩ = some (.int .i64 0) := (blk_cell BK286.out 0).trans rfl; have hcz75_1 : w70.cell? ⟨gb286, 1, none⟩ = some (.int .i64 0) := (blk_cell BK286.out 1).trans rfl; have hcz75_2 : w70.cell? ⟨gb286, 2, none⟩ = some (.int .i64 0) := (blk_cell BK286.out 2).trans rfl; have hcz75_3 : w70.cell? ⟨gb286, 3, none⟩ = some (.int .i64 0) := (blk_cell BK286.out 3).trans rfl; have hcz75_4 : w70.cell? ⟨gb286, 4, none⟩ = some (.slice none 0 0) := (blk_cell BK286.out 4).trans rfl; have hfz75_0 := blk_frozen BK286.out 0; have hfz75_1 := blk_frozen BK286.out 1; have hfz75_2 := blk_frozen BK286.out 2; have hfz75_3 := blk_frozen BK286.out 3; have hfz75_4 := blk_frozen BK286.out 4; obtain ⟨Ao76, co76, eo76⟩ := Kd.R_slice HO_293004.out; subst eo76))
        refine bodyPost_ret (results_cell_row rfl _ _ gb286 36 #[.int .i64 (wrap64 (1 + t287)), .int .i64 t322, .int .i64 x293002_2, .int .i64 x293003_2, .slice Ao76 x293004_2.length co76] (0, 0) _ rfl (by (with_reducible repeat (first | refine blk_drewN ?_ _ | refine blk_drew ?_ | refine blk_alloc ?_ _)); refine blk_put (cs := #[.int .i64 (wrap64 (1 + t287)), .int .i64 t322, .int .i64 x293002_2, .int .i64 x293003_2, .slice none 0 0]) ?_ 4 _ rfl; (with_reducible repeat (first | refine blk_drewN ?_ _ | refine blk_drew ?_ | refine blk_alloc ?_ _)); refine blk_put (cs := #[.int .i64 (wrap64 (1 + t287)), .int .i64 t322, .int .i64 x293002_2, .int .i64 0, .slice none 0 0]) ?_ 3 _ rfl; (with_reducible repeat (first | refine blk_drewN ?_ _ | refine blk_drew ?_ | refine blk_alloc ?_ _)); refine blk_put (cs := #[.int .i64 (wrap64 (1 + t287)), .int .i64 t322, .int .i64 0, .int .i64 0, .slice none 0 0]) ?_ 2 _ rfl; (with_reducible repeat (first | refine blk_drewN ?_ _ | refine blk_drew ?_ | refine blk_alloc ?_ _)); refine blk_put (cs := #[.int .i64 (wrap64 (1 + t287)), .int .i64 0, .int .i64 0, .int .i64 0, .slice none 0 0]) ?_ 1 _ rfl; (with_reducible repeat (first | refine blk_drewN ?_ _ | refine blk_drew ?_ | refine blk_alloc ?_ _)); refine blk_put (cs := #[.int .i64 0, .int .i64 0, .int .i64 0, .int .i64 0, .slice none 0 0]) ?_ 0 _ rfl; (with_reducible repeat (first | refine blk_drewN ?_ _ | refine blk_drew ?_ | refine blk_alloc ?_ _)); refine blk_far ?_ NB286_292.out _; (with_reducible repeat (first | refine blk_drewN ?_ _ | refine blk_drew ?_ | refine blk_alloc ?_ _)); exact BK286.out) Try.underlying36 rfl (by kernel_rfl)) rfl ?_
        exact ⟨_, by first | rfl | (simp [errW_none, errW_some] <;> rfl) | (simp [*, errW_none, errW_some] <;> rfl), by (with_reducible repeat (first | apply Kd.R_alloc | apply Kd.R_drewN | apply Kd.R_drew)); exact Kd.R_mono (Kd.R_far (p := ⟨gb286, 4, none⟩) (Kd.R_far (p := ⟨gb286, 3, none⟩) (Kd.R_far (p := ⟨gb286, 2, none⟩) (Kd.R_far (p := ⟨gb286, 1, none⟩) (Kd.R_far (p := ⟨gb286, 0, none⟩) (Kd.R_far (p := ⟨gb292, 1, none⟩) (Kd.R_types (Kd.R_types HO_293004.out BK292.out (by decide)) BK286.out (by decide)) (fun _ hk => hk.1.2) (.int .i64 t322)) (fun _ hk => hk.2) (.int .i64 (wrap64 (1 + t287)))) (fun _ hk => hk.2) (.int .i64 t322)) (fun _ hk => hk.2) (.int .i64 x293002_2)) (fun _ hk => hk.2) (.int .i64 x293003_2)) (fun _ hk => hk.2) (.slice Ao76 x293004_2.length co76)) (fun _ hk => trivial), by repeat (first | (with_reducible first | exact HI0.out | apply IsS80.alloc | apply IsS80.drewN | apply IsS80.drew | apply IsS80.set_1 | refine IsS80.far ?_ NB0_286.out _ | refine IsS80.far ?_ NB0_292.out _) | exact HI0.out), by repeat (first | (with_reducible first | exact HB.out | apply below_alloc | apply pw_below_drewN | apply below_drew1 | refine below_set ?_ (IsS80.ge HI0.out) | refine below_set ?_ GE286.out | refine below_set ?_ GE292.out) | exact HB.out), by repeat (first | (with_reducible first | exact HK.out | apply KeepBut.set_ | apply keep_drewN | apply keep_drew | apply keep_alloc | refine keep_far ?_ GW286.out _ | refine keep_far ?_ GW292.out _) | exact HK.out)⟩
       ·rw [if_neg c67] at H
        have c67b0 : (t318 == 1) = false := beq_eq_false_iff_ne.mpr c67
        have c67b1 : (t318 != 1) = true := bne_iff_ne.mpr c67
        by_cases c77 : t318 = 2
        ·rw [if_pos c77] at H
         have c77b0 : (t318 == 2) = true := beq_iff_eq.mpr c77
         have c77b1 : (t318 != 2) = false := bne_eq_false_iff_eq.mpr c77
         clear c77
         replace H := Option.bind_eq_some_iff.mp H
         obtain ⟨⟨t324, t325⟩, A780, H⟩ := H
         replace H : (some ((wrap64 (1 + t287)), x293001_2, t324, x293003_2, x293004_2, t325)) = some (r1, r2, r3, r4, r5, r6) := H
         have A78 := Aside0.mk A780
         clear A780
         simp only [Option.some.injEq, Prod.mk.injEq] at H
         obtain ⟨rfl, rfl, rfl, rfl, rfl, rfl⟩ := H
         go_wp2_with (first | ((with_reducible refine gate_callee (f := 57) rfl ?_); refine goesL_ (some 62) rfl rfl Try.func57 (by kernel_rfl) rfl #[.pointer (some ⟨g, 0, none⟩), .int .i64 20] rfl z26x12 ?_; (with_reducible refine (spec_l6Rd_pick.calls k2 g s0_0 x1001_2 20 t318 t319 w0 _ ?side1 ?side2 A56.out).mono ?_); (case side1 => repeat (first | (with_reducible first | exact HI0.out | apply IsS80.alloc | apply IsS80.drewN | apply IsS80.drew | apply IsS80.set_1 | refine IsS80.far ?_ NB0_286.out _ | refine IsS80.far ?_ NB0_292.out _) | exact HI0.out)); (case side2 => repeat (first | (with_reducible first | exact HB.out | apply below_alloc | apply pw_below_drewN | apply below_drew1 | refine below_set ?_ (IsS80.ge HI0.out) | refine below_set ?_ GE286.out | refine below_set ?_ GE292.out) | exact HB.out)); rintro e w79 ⟨rfl, hi, hb, hk⟩; refine ⟨_, rfl, ?_⟩; have n0_ := Aside0.mk (Kd.R_mono (Kd.R_keep (IsS80.apart (show IsS80 w0 _ g s0_0 x1001_2 from by repeat (first | (with_reducible first | exact HI0.out | apply IsS80.alloc | apply IsS80.drewN | apply IsS80.drew | apply IsS80.set_1 | refine IsS80.far ?_ NB0_286.out _ | refine IsS80.far ?_ NB0_292.out _) | exact HI0.out)) z26x15 (by decide)) hk (fun _ h => h.2)) (fun _ h => h.1)); have n1_ := Aside0.mk (KeepBut.blk hk (g' := gb286) (o := .cells #[.int .i64 0, .int .i64 0, .int .i64 0, .int .i64 0, .slice none 0 0] 36 (0, 0)) z26x13 NB286_0.out (by simp)); have n2_ := Aside0.mk (KeepBut.blk hk (g' := gb292) (o := .cells #[.int .i64 (wrap64 (1 + t287)), .int .i64 x293001_2, .int .i64 x293002_2, .int .i64 x293003_2, u293004] 36 (0, 0)) z26x14 NB292_0.out (by simp)); have n3_ := Aside0.mk (KeepBut.trans z26x7 hk (.inl rfl)); have n4_ := Aside0.mk (hb); have n5_ := Aside0.mk (hi); clear HO_293004; clear BK286; clear BK292; clear HK; clear HB; clear HI0; have HO_293004 := n0_; have BK286 := n1_; have BK292 := n2_; have HK := n3_; have HB := n4_; have HI0 := n5_; clear n0_ n1_ n2_ n3_ n4_ n5_; (try clear hb); (try clear hb2); (try clear hk); (try clear hi)) | ((with_reducible refine gate_callee (f := 57) rfl ?_); refine goesL_ (some 76) rfl rfl Try.func57 (by kernel_rfl) rfl #[.pointer (some ⟨g, 0, none⟩), .int .i64 7] rfl z26x12 ?_; (with_reducible refine (spec_l6Rd_pick.calls k2 g s0_0 t319 7 t324 t325 w0 _ ?side1 ?side2 A78.out).mono ?_); (case side1 => repeat (first | (with_reducible first | exact HI0.out | apply IsS80.alloc | apply IsS80.drewN | apply IsS80.drew | apply IsS80.set_1 | refine IsS80.far ?_ NB0_286.out _ | refine IsS80.far ?_ NB0_292.out _) | exact HI0.out)); (case side2 => repeat (first | (with_reducible first | exact HB.out | apply below_alloc | apply pw_below_drewN | apply below_drew1 | refine below_set ?_ (IsS80.ge HI0.out) | refine below_set ?_ GE286.out | refine below_set ?_ GE292.out) | exact HB.out)); rintro e w80 ⟨rfl, hi, hb, hk⟩; refine ⟨_, rfl, ?_⟩; have n0_ := Aside0.mk (Kd.R_mono (Kd.R_keep (IsS80.apart (show IsS80 w0 _ g s0_0 t319 from by repeat (first | (with_reducible first | exact HI0.out | apply IsS80.alloc | apply IsS80.drewN | apply IsS80.drew | apply IsS80.set_1 | refine IsS80.far ?_ NB0_286.out _ | refine IsS80.far ?_ NB0_292.out _) | exact HI0.out)) z26x15 (by decide)) hk (fun _ h => h.2)) (fun _ h => h.1)); have n1_ := Aside0.mk (KeepBut.blk hk (g' := gb286) (o := .cells #[.int .i64 0, .int .i64 0, .int .i64 0, .int .i64 0, .slice none 0 0] 36 (0, 0)) z26x13 NB286_0.out (by simp)); have n2_ := Aside0.mk (KeepBut.blk hk (g' := gb292) (o := .cells #[.int .i64 (wrap64 (1 + t287)), .int .i64 x293001_2, .int .i64 x293002_2, .int .i64 x293003_2, u293004] 36 (0, 0)) z26x14 NB292_0.out (by simp)); have n3_ := Aside0.mk (KeepBut.trans z26x7 hk (.inl rfl)); have n4_ := Aside0.mk (hb); have n5_ := Aside0.mk (hi); clear HO_293004; clear BK286; clear BK292; clear HK; clear HB; clear HI0; have HO_293004 := n0_; have BK286 := n1_; have BK292 := n2_; have HK := n3_; have HB := n4_; have HI0 := n5_; clear n0_ n1_ n2_ n3_ n4_ n5_; (try clear hb); (try clear hb2); (try clear hk); (try clear hi); have hnb81 := NB292_286.out; have hnc81 := NB286_292.out; have hnb82 := NB292_0.out; have hnc82 := NB0_292.out; have hcz83_0 : w80.cell? ⟨gb292, 0, none⟩ = some (.int .i64 (wrap64 (1 + t287))) := (blk_cell BK292.out 0).trans rfl; have hcz83_1 : w80.cell? ⟨gb292, 1, none⟩ = some (.int .i64 x293001_2) := (blk_cell BK292.out 1).trans rfl; have hcz83_2 : w80.cell? ⟨gb292, 2, none⟩ = some (.int .i64 x293002_2) := (blk_cell BK292.out 2).trans rfl; have hcz83_3 : w80.cell? ⟨gb292, 3, none⟩ = some (.int .i64 x293003_2) := (blk_cell BK292.out 3).trans rfl; have hcz83_4 : w80.cell? ⟨gb292, 4, none⟩ = some (u293004) := (blk_cell BK292.out 4).trans rfl; have hfz83_0 := blk_frozen BK292.out 0; have hfz83_1 := blk_frozen BK292.out 1; have hfz83_2 := blk_frozen BK292.out 2; have hfz83_3 := blk_frozen BK292.out 3; have hfz83_4 := blk_frozen BK292.out 4; have hnb84 := NB286_0.out; have hnc84 := NB0_286.out; have hcz85_0 : w80.cell? ⟨gb286, 0, none⟩ = some (.int .i64 0) := (blk_cell BK286.out 0).trans rfl; have hcz85_1 : w80.cell? ⟨gb286, 1, none⟩ = some (.int .i64 0) := (blk_cell BK286.out 1).trans rfl; have hcz85_2 : w80.cell? ⟨gb286, 2, none⟩ = some (.int .i64 0) := (blk_cell BK286.out 2).trans rfl; have hcz85_3 : w80.cell? ⟨gb286, 3, none⟩ = some (.int .i64 0) := (blk_cell BK286.out 3).trans rfl; have hcz85_4 : w80.cell? ⟨gb286, 4, none⟩ = some (.slice none 0 0) := (blk_cell BK286.out 4).trans rfl; have hfz85_0 := blk_frozen BK286.out 0; have hfz85_1 := blk_frozen BK286.out 1; have hfz85_2 := blk_frozen BK286.out 2; have hfz85_3 := blk_frozen BK286.out 3; have hfz85_4 := blk_frozen BK286.out 4; obtain ⟨Ao86, co86, eo86⟩ := Kd.R_slice HO_293004.out; subst eo86))
         refine bodyPost_ret (results_cell_row rfl _ _ gb286 36 #[.int .i64 (wrap64 (1 + t287)), .int .i64 x293001_2, .int .i64 t324, .int .i64 x293003_2, .slice Ao86 x293004_2.length co86] (0, 0) _ rfl (by (with_reducible repeat (first | refine blk_drewN ?_ _ | refine blk_drew ?_ | refine blk_alloc ?_ _)); refine blk_put (cs := #[.int .i64 (wrap64 (1 + t287)), .int .i64 x293001_2, .int .i64 t324, .int .i64 x293003_2, .slice none 0 0]) ?_ 4 _ rfl; (with_reducible repeat (first | refine blk_drewN ?_ _ | refine blk_drew ?_ | refine blk_alloc ?_ _)); refine blk_put (cs := #[.int .i64 (wrap64 (1 + t287)), .int .i64 x293001_2, .int .i64 t324, .int .i64 0, .slice none 0 0]) ?_ 3 _ rfl; (with_reducible repeat (first | refine blk_drewN ?_ _ | refine blk_drew ?_ | refine blk_alloc ?_ _)); refine blk_put (cs := #[.int .i64 (wrap64 (1 + t287)), .int .i64 x293001_2, .int .i64 0, .int .i64 0, .slice none 0 0]) ?_ 2 _ rfl; (with_reducible repeat (first | refine blk_drewN ?_ _ | refine blk_drew ?_ | refine blk_alloc ?_ _)); refine blk_put (cs := #[.int .i64 (wrap64 (1 + t287)), .int .i64 0, .int .i64 0, .int .i64 0, .slice none 0 0]) ?_ 1 _ rfl; (with_reducible repeat (first | refine blk_drewN ?_ _ | refine blk_drew ?_ | refine blk_alloc ?_ _)); refine blk_put (cs := #[.int .i64 0, .int .i64 0, .int .i64 0, .int .i64 0, .slice none 0 0]) ?_ 0 _ rfl; (with_reducible repeat (first | refine blk_drewN ?_ _ | refine blk_drew ?_ | refine blk_alloc ?_ _)); refine blk_far ?_ NB286_292.out _; (with_reducible repeat (first | refine blk_drewN ?_ _ | refine blk_drew ?_ | refine blk_alloc ?_ _)); exact BK286.out) Try.underlying36 rfl (by kernel_rfl)) rfl ?_
         exact ⟨_, by first | rfl | (simp [errW_none, errW_some] <;> rfl) | (simp [*, errW_none, errW_some] <;> rfl), by (with_reducible repeat (first | apply Kd.R_alloc | apply Kd.R_drewN | apply Kd.R_drew)); exact Kd.R_mono (Kd.R_far (p := ⟨gb286, 4, none⟩) (Kd.R_far (p := ⟨gb286, 3, none⟩) (Kd.R_far (p := ⟨gb286, 2, none⟩) (Kd.R_far (p := ⟨gb286, 1, none⟩) (Kd.R_far (p := ⟨gb286, 0, none⟩) (Kd.R_far (p := ⟨gb292, 2, none⟩) (Kd.R_types (Kd.R_types HO_293004.out BK292.out (by decide)) BK286.out (by decide)) (fun _ hk => hk.1.2) (.int .i64 t324)) (fun _ hk => hk.2) (.int .i64 (wrap64 (1 + t287)))) (fun _ hk => hk.2) (.int .i64 x293001_2)) (fun _ hk => hk.2) (.int .i64 t324)) (fun _ hk => hk.2) (.int .i64 x293003_2)) (fun _ hk => hk.2) (.slice Ao86 x293004_2.length co86)) (fun _ hk => trivial), by repeat (first | (with_reducible first | exact HI0.out | apply IsS80.alloc | apply IsS80.drewN | apply IsS80.drew | apply IsS80.set_1 | refine IsS80.far ?_ NB0_286.out _ | refine IsS80.far ?_ NB0_292.out _) | exact HI0.out), by repeat (first | (with_reducible first | exact HB.out | apply below_alloc | apply pw_below_drewN | apply below_drew1 | refine below_set ?_ (IsS80.ge HI0.out) | refine below_set ?_ GE286.out | refine below_set ?_ GE292.out) | exact HB.out), by repeat (first | (with_reducible first | exact HK.out | apply KeepBut.set_ | apply keep_drewN | apply keep_drew | apply keep_alloc | refine keep_far ?_ GW286.out _ | refine keep_far ?_ GW292.out _) | exact HK.out)⟩
        ·rw [if_neg c77] at H
         have c77b0 : (t318 == 2) = false := beq_eq_false_iff_ne.mpr c77
         have c77b1 : (t318 != 2) = true := bne_iff_ne.mpr c77
         by_cases c87 : t318 = 3
         ·rw [if_pos c87] at H
          have c87b0 : (t318 == 3) = true := beq_iff_eq.mpr c87
          have c87b1 : (t318 != 3) = false := bne_eq_false_iff_eq.mpr c87
          clear c87
          obtain ⟨y326, hy326⟩ : ∃ y_ : List Int, y_ = (([0, 5, 61] : List Int)) := ⟨_, rfl⟩
          replace H : ((spec_l6Rd_pick.f k2 s0_0 t319 3).bind fun bt329 => (if 0 ≤ bt329.1 then (if bt329.1 < (y326.length : Int) then (some ((wrap64 (1 + t287)), x293001_2, x293002_2, rd y326 bt329.1, x293004_2, bt329.2)) else (none)) else (none))) = some (r1, r2, r3, r4, r5, r6) := by first | (rw [hy326]; with_reducible exact H) | (have H2_ := (Option.bind_some _ _).symm.trans H; rw [hy326]; with_reducible exact H2_) | (have H2_ := (Option.bind_some _ _).symm.trans H; with_reducible exact H2_) | with_reducible exact H | (rw [hy326]; exact H) | exact H
          have Ny326 := Aside0.mk hy326
          clear hy326
          replace H := Option.bind_eq_some_iff.mp H
          obtain ⟨⟨t329, t330⟩, A880, H⟩ := H
          replace H : (if 0 ≤ t329 then (if t329 < (y326.length : Int) then (some ((wrap64 (1 + t287)), x293001_2, x293002_2, rd y326 t329, x293004_2, t330)) else (none)) else (none)) = some (r1, r2, r3, r4, r5, r6) := H
          have A88 := Aside0.mk A880
          clear A880
          by_cases c89 : 0 ≤ t329
          ·rw [if_pos c89] at H
           have c89b0 : decide (0 ≤ t329) = true := decide_eq_true c89
           clear c89
           by_cases c90 : t329 < (y326.length : Int)
           ·rw [if_pos c90] at H
            have c90b0 : decide (t329 < (y326.length : Int)) = true := decide_eq_true c90
            clear c90
            simp only [Option.some.injEq, Prod.mk.injEq] at H
            obtain ⟨rfl, rfl, rfl, rfl, rfl, rfl⟩ := H
            go_wp2_with (first | ((with_reducible refine gate_callee (f := 57) rfl ?_); refine goesL_ (some 62) rfl rfl Try.func57 (by kernel_rfl) rfl #[.pointer (some ⟨g, 0, none⟩), .int .i64 20] rfl z26x12 ?_; (with_reducible refine (spec_l6Rd_pick.calls k2 g s0_0 x1001_2 20 t318 t319 w0 _ ?side1 ?side2 A56.out).mono ?_); (case side1 => repeat (first | (with_reducible first | exact HI0.out | apply IsS80.alloc | apply IsS80.drewN | apply IsS80.drew | apply IsS80.set_1 | refine IsS80.far ?_ NB0_286.out _ | refine IsS80.far ?_ NB0_292.out _) | exact HI0.out)); (case side2 => repeat (first | (with_reducible first | exact HB.out | apply below_alloc | apply pw_below_drewN | apply below_drew1 | refine below_set ?_ (IsS80.ge HI0.out) | refine below_set ?_ GE286.out | refine below_set ?_ GE292.out) | exact HB.out)); rintro e w91 ⟨rfl, hi, hb, hk⟩; refine ⟨_, rfl, ?_⟩; have n0_ := Aside0.mk (Kd.R_mono (Kd.R_keep (IsS80.apart (show IsS80 w0 _ g s0_0 x1001_2 from by repeat (first | (with_reducible first | exact HI0.out | apply IsS80.alloc | apply IsS80.drewN | apply IsS80.drew | apply IsS80.set_1 | refine IsS80.far ?_ NB0_286.out _ | refine IsS80.far ?_ NB0_292.out _) | exact HI0.out)) z26x15 (by decide)) hk (fun _ h => h.2)) (fun _ h => h.1)); have n1_ := Aside0.mk (KeepBut.blk hk (g' := gb286) (o := .cells #[.int .i64 0, .int .i64 0, .int .i64 0, .int .i64 0, .slice none 0 0] 36 (0, 0)) z26x13 NB286_0.out (by simp)); have n2_ := Aside0.mk (KeepBut.blk hk (g' := gb292) (o := .cells #[.int .i64 (wrap64 (1 + t287)), .int .i64 x293001_2, .int .i64 x293002_2, .int .i64 x293003_2, u293004] 36 (0, 0)) z26x14 NB292_0.out (by simp)); have n3_ := Aside0.mk (KeepBut.trans z26x7 hk (.inl rfl)); have n4_ := Aside0.mk (hb); have n5_ := Aside0.mk (hi); clear HO_293004; clear BK286; clear BK292; clear HK; clear HB; clear HI0; have HO_293004 := n0_; have BK286 := n1_; have BK292 := n2_; have HK := n3_; have HB := n4_; have HI0 := n5_; clear n0_ n1_ n2_ n3_ n4_ n5_; (try clear hb); (try clear hb2); (try clear hk); (try clear hi)) | ((with_reducible refine gate_dst (N := 80) rfl ?_); refine Kd.R_lit (Kd.int .i64) _ 3 ?hg (N := 80) ?hd (xs := ([0, 5, 61] : List Int)) (inner := [.int .i64 0, .int .i64 5, .int .i64 61]) (ok := fun _ => True) (okp := fun _ => True) ?hr ?hp (fun _ hk => hk) trivial (Below.refl _ _) (Nat.le_refl _) (by simp) ?_; (case hd => rfl); (case hg => rfl); (case hr => first | (go_simp; done) | (go_simp; rfl)); (case hp => exact (Reps.one (show Kd.M (Kd.int .i64) _ _ _ 0 [.int .i64 0] from rfl) (Reps.one (show Kd.M (Kd.int .i64) _ _ _ 5 [.int .i64 5] from rfl) (Reps.one (show Kd.M (Kd.int .i64) _ _ _ 61 [.int .i64 61] from rfl) (Reps.none _ _))))); intro v327 w92 ho93 hb hg_ hnew_; clear hg_ hnew_; (first | rw [← Ny326.out] at ho93 | (simp only [Int.reduceToNat] at ho93; rw [← Ny326.out] at ho93)); have n0_ := Aside0.mk (Kd.R_below z26x15 hb); have n1_ := Aside0.mk (Kd.R_lower ho93 (keep_size (w := w) (g := g) (row := none) z26x7)); have n2_ := Aside0.mk (blk_below (g := gb286) (o := .cells #[.int .i64 0, .int .i64 0, .int .i64 0, .int .i64 0, .slice none 0 0] 36 (0, 0)) z26x13 hb); have n3_ := Aside0.mk (blk_below (g := gb292) (o := .cells #[.int .i64 (wrap64 (1 + t287)), .int .i64 x293001_2, .int .i64 x293002_2, .int .i64 x293003_2, u293004] 36 (0, 0)) z26x14 hb); have n4_ := Aside0.mk (IsS80.below z26x6 hb); have n5_ := Aside0.mk (KeepBut.trans z26x7 (KeepBut.of_below hb g none) (.inl rfl)); have n6_ := Aside0.mk (below_step z26x5 hb); clear HO_293004; clear BK286; clear BK292; clear HI0; clear HK; clear HB; have HO_293004 := n0_; have HO328 := n1_; have BK286 := n2_; have BK292 := n3_; have HI0 := n4_; have HK := n5_; have HB := n6_; clear n0_ n1_ n2_ n3_ n4_ n5_ n6_; clear hb ho93) | ((with_reducible refine gate_callee (f := 57) rfl ?_); refine goesL_ (some 82) rfl rfl Try.func57 (by kernel_rfl) rfl #[.pointer (some ⟨g, 0, none⟩), .int .i64 3] rfl z26x12 ?_; (with_reducible refine (spec_l6Rd_pick.calls k2 g s0_0 t319 3 t329 t330 w0 _ ?side1 ?side2 A88.out).mono ?_); (case side1 => repeat (first | (with_reducible first | exact HI0.out | apply IsS80.alloc | apply IsS80.drewN | apply IsS80.drew | apply IsS80.set_1 | refine IsS80.far ?_ NB0_286.out _ | refine IsS80.far ?_ NB0_292.out _) | exact HI0.out)); (case side2 => repeat (first | (with_reducible first | exact HB.out | apply below_alloc | apply pw_below_drewN | apply below_drew1 | refine below_set ?_ (IsS80.ge HI0.out) | refine below_set ?_ GE286.out | refine below_set ?_ GE292.out) | exact HB.out)); rintro e w94 ⟨rfl, hi, hb, hk⟩; refine ⟨_, rfl, ?_⟩; have n0_ := Aside0.mk (Kd.R_mono (Kd.R_keep (IsS80.apart (show IsS80 w0 _ g s0_0 t319 from by repeat (first | (with_reducible first | exact HI0.out | apply IsS80.alloc | apply IsS80.drewN | apply IsS80.drew | apply IsS80.set_1 | refine IsS80.far ?_ NB0_286.out _ | refine IsS80.far ?_ NB0_292.out _) | exact HI0.out)) z26x15 (by decide)) hk (fun _ h => h.2)) (fun _ h => h.1)); have n1_ := Aside0.mk (KeepBut.blk hk (g' := gb286) (o := .cells #[.int .i64 0, .int .i64 0, .int .i64 0, .int .i64 0, .slice none 0 0] 36 (0, 0)) z26x13 NB286_0.out (by simp)); have n2_ := Aside0.mk (KeepBut.blk hk (g' := gb292) (o := .cells #[.int .i64 (wrap64 (1 + t287)), .int .i64 x293001_2, .int .i64 x293002_2, .int .i64 x293003_2, u293004] 36 (0, 0)) z26x14 NB292_0.out (by simp)); have n3_ := Aside0.mk (Kd.R_mono (Kd.R_keep (IsS80.apart (show IsS80 w0 _ g s0_0 t319 from by repeat (first | (with_reducible first | exact HI0.out | apply IsS80.alloc | apply IsS80.drewN | apply IsS80.drew | apply IsS80.set_1 | refine IsS80.far ?_ NB0_286.out _ | refine IsS80.far ?_ NB0_292.out _) | exact HI0.out)) (by (with_reducible repeat (first | apply Kd.R_alloc | apply Kd.R_drewN | apply Kd.R_drew)); exact HO328.out) (by decide)) hk (fun _ h => h.2)) (fun _ h => h.1)); have n4_ := Aside0.mk (KeepBut.trans z26x7 hk (.inl rfl)); have n5_ := Aside0.mk (hb); have n6_ := Aside0.mk (hi); clear HO_293004; clear BK286; clear BK292; clear HO328; clear HK; clear HB; clear HI0; have HO_293004 := n0_; have BK286 := n1_; have BK292 := n2_; have HO328 := n3_; have HK := n4_; have HB := n5_; have HI0 := n6_; clear n0_ n1_ n2_ n3_ n4_ n5_ n6_; (try clear hb); (try clear hb2); (try clear hk); (try clear hi); obtain ⟨Ao95, co95, eo95⟩ := Kd.R_slice HO328.out; subst eo95; have p331 : 0 ≤ (t329 : Int) := of_decide_eq_true (by first | (with_reducible assumption) | assumption); have q331 : t329 < (y326.length : Int) := of_decide_eq_true (by first | (with_reducible assumption) | assumption); obtain ⟨ad331, e331, hx331_0⟩ := Kd.at_int (Kd.R_reads' HO328.out).2.2 t329 p331 q331; cases e331; replace p331 := eq_true p331; replace q331 := eq_true q331; have hnb96 := NB292_286.out; have hnc96 := NB286_292.out; have hnb97 := NB292_0.out; have hnc97 := NB0_292.out; have hcz98_0 : w94.cell? ⟨gb292, 0, none⟩ = some (.int .i64 (wrap64 (1 + t287))) := (blk_cell BK292.out 0).trans rfl; have hcz98_1 : w94.cell? ⟨gb292, 1, none⟩ = some (.int .i64 x293001_2) := (blk_cell BK292.out 1).trans rfl; have hcz98_2 : w94.cell? ⟨gb292, 2, none⟩ = some (.int .i64 x293002_2) := (blk_cell BK292.out 2).trans rfl; have hcz98_3 : w94.cell? ⟨gb292, 3, none⟩ = some (.int .i64 x293003_2) := (blk_cell BK292.out 3).trans rfl; have hcz98_4 : w94.cell? ⟨gb292, 4, none⟩ = some (u293004) := (blk_cell BK292.out 4).trans rfl; have hfz98_0 := blk_frozen BK292.out 0; have hfz98_1 := blk_frozen BK292.out 1; have hfz98_2 := blk_frozen BK292.out 2; have hfz98_3 := blk_frozen BK292.out 3; have hfz98_4 := blk_frozen BK292.out 4; have hnb99 := NB286_0.out; have hnc99 := NB0_286.out; have hcz100_0 : w94.cell? ⟨gb286, 0, none⟩ = some (.int .i64 0) := (blk_cell BK286.out 0).trans rfl; have hcz100_1 : w94.cell? ⟨gb286, 1, none⟩ = some (.int .i64 0) := (blk_cell BK286.out 1).trans rfl; have hcz100_2 : w94.cell? ⟨gb286, 2, none⟩ = some (.int .i64 0) := (blk_cell BK286.out 2).trans rfl; have hcz100_3 : w94.cell? ⟨gb286, 3, none⟩ = some (.int .i64 0) := (blk_cell BK286.out 3).trans rfl; have hcz100_4 : w94.cell? ⟨gb286, 4, none⟩ = some (.slice none 0 0) := (blk_cell BK286.out 4).trans rfl; have hfz100_0 := blk_frozen BK286.out 0; have hfz100_1 := blk_frozen BK286.out 1; have hfz100_2 := blk_frozen BK286.out 2; have hfz100_3 := blk_frozen BK286.out 3; have hfz100_4 := blk_frozen BK286.out 4; obtain ⟨Ao101, co101, eo101⟩ := Kd.R_slice HO_293004.out; subst eo101))
            refine bodyPost_ret (results_cell_row rfl _ _ gb286 36 #[.int .i64 (wrap64 (1 + t287)), .int .i64 x293001_2, .int .i64 x293002_2, .int .i64 (rd y326 t329), .slice Ao101 x293004_2.length co101] (0, 0) _ rfl (by (with_reducible repeat (first | refine blk_drewN ?_ _ | refine blk_drew ?_ | refine blk_alloc ?_ _)); refine blk_put (cs := #[.int .i64 (wrap64 (1 + t287)), .int .i64 x293001_2, .int .i64 x293002_2, .int .i64 (rd y326 t329), .slice none 0 0]) ?_ 4 _ rfl; (with_reducible repeat (first | refine blk_drewN ?_ _ | refine blk_drew ?_ | refine blk_alloc ?_ _)); refine blk_put (cs := #[.int .i64 (wrap64 (1 + t287)), .int .i64 x293001_2, .int .i64 x293002_2, .int .i64 0, .slice none 0 0]) ?_ 3 _ rfl; (with_reducible repeat (first | refine blk_drewN ?_ _ | refine blk_drew ?_ | refine blk_alloc ?_ _)); refine blk_put (cs := #[.int .i64 (wrap64 (1 + t287)), .int .i64 x293001_2, .int .i64 0, .int .i64 0, .slice none 0 0]) ?_ 2 _ rfl; (with_reducible repeat (first | refine blk_drewN ?_ _ | refine blk_drew ?_ | refine blk_alloc ?_ _)); refine blk_put (cs := #[.int .i64 (wrap64 (1 + t287)), .int .i64 0, .int .i64 0, .int .i64 0, .slice none 0 0]) ?_ 1 _ rfl; (with_reducible repeat (first | refine blk_drewN ?_ _ | refine blk_drew ?_ | refine blk_alloc ?_ _)); refine blk_put (cs := #[.int .i64 0, .int .i64 0, .int .i64 0, .int .i64 0, .slice none 0 0]) ?_ 0 _ rfl; (with_reducible repeat (first | refine blk_drewN ?_ _ | refine blk_drew ?_ | refine blk_alloc ?_ _)); refine blk_far ?_ NB286_292.out _; (with_reducible repeat (first | refine blk_drewN ?_ _ | refine blk_drew ?_ | refine blk_alloc ?_ _)); exact BK286.out) Try.underlying36 rfl (by kernel_rfl)) rfl ?_
            exact ⟨_, by first | rfl | (simp [errW_none, errW_some] <;> rfl) | (simp [*, errW_none, errW_some] <;> rfl), by (with_reducible repeat (first | apply Kd.R_alloc | apply Kd.R_drewN | apply Kd.R_drew)); exact Kd.R_mono (Kd.R_far (p := ⟨gb286, 4, none⟩) (Kd.R_far (p := ⟨gb286, 3, none⟩) (Kd.R_far (p := ⟨gb286, 2, none⟩) (Kd.R_far (p := ⟨gb286, 1, none⟩) (Kd.R_far (p := ⟨gb286, 0, none⟩) (Kd.R_far (p := ⟨gb292, 3, none⟩) (Kd.R_types (Kd.R_types HO_293004.out BK292.out (by decide)) BK286.out (by decide)) (fun _ hk => hk.1.2) (.int .i64 (rd y326 t329))) (fun _ hk => hk.2) (.int .i64 (wrap64 (1 + t287)))) (fun _ hk => hk.2) (.int .i64 x293001_2)) (fun _ hk => hk.2) (.int .i64 x293002_2)) (fun _ hk => hk.2) (.int .i64 (rd y326 t329))) (fun _ hk => hk.2) (.slice Ao101 x293004_2.length co101)) (fun _ hk => trivial), by repeat (first | (with_reducible first | exact HI0.out | apply IsS80.alloc | apply IsS80.drewN | apply IsS80.drew | apply IsS80.set_1 | refine IsS80.far ?_ NB0_286.out _ | refine IsS80.far ?_ NB0_292.out _) | exact HI0.out), by repeat (first | (with_reducible first | exact HB.out | apply below_alloc | apply pw_below_drewN | apply below_drew1 | refine below_set ?_ (IsS80.ge HI0.out) | refine below_set ?_ GE286.out | refine below_set ?_ GE292.out) | exact HB.out), by repeat (first | (with_reducible first | exact HK.out | apply KeepBut.set_ | apply keep_drewN | apply keep_drew | apply keep_alloc | refine keep_far ?_ GW286.out _ | refine keep_far ?_ GW292.out _) | exact HK.out)⟩
           ·rw [if_neg c90] at H
            exact absurd H (by simp)
          ·rw [if_neg c89] at H
           exact absurd H (by simp)
         ·rw [if_neg c87] at H
          have c87b0 : (t318 == 3) = false := beq_eq_false_iff_ne.mpr c87
          have c87b1 : (t318 != 3) = true := bne_iff_ne.mpr c87
          by_cases c102 : t318 = 4
          ·rw [if_pos c102] at H
           have c102b0 : (t318 == 4) = true := beq_iff_eq.mpr c102
           have c102b1 : (t318 != 4) = false := bne_eq_false_iff_eq.mpr c102
           clear c102
           replace H := Option.bind_eq_some_iff.mp H
           obtain ⟨⟨t332, t333, t334, t335, t336, t337, t338, t339⟩, A1030, H⟩ := H
           replace H : (if x293004_2.length < 2513169434916 then (some ((wrap64 (1 + t287)), x293001_2, x293002_2, x293003_2, (x293004_2 ++ [(⟨t332, t333, t334, t335, t336, t337, t338⟩ : S24)]), t339)) else (none)) = some (r1, r2, r3, r4, r5, r6) := H
           have A103 := Aside0.mk A1030
           clear A1030
           by_cases c104 : x293004_2.length < 2513169434916
           ·rw [if_pos c104] at H
            have LMc104 := Aside0.mk c104
            clear c104
            obtain ⟨y340, hy340⟩ : ∃ y_ : List (S24), y_ = (x293004_2 ++ [(⟨t332, t333, t334, t335, t336, t337, t338⟩ : S24)]) := ⟨_, rfl⟩
            replace H : (some ((wrap64 (1 + t287)), x293001_2, x293002_2, x293003_2, y340, t339)) = some (r1, r2, r3, r4, r5, r6) := by first | (rw [hy340]; with_reducible exact H) | (have H2_ := (Option.bind_some _ _).symm.trans H; rw [hy340]; with_reducible exact H2_) | (have H2_ := (Option.bind_some _ _).symm.trans H; with_reducible exact H2_) | with_reducible exact H | (rw [hy340]; exact H) | exact H
            have Ny340 := Aside0.mk hy340
            clear hy340
            simp only [Option.some.injEq, Prod.mk.injEq] at H
            obtain ⟨rfl, rfl, rfl, rfl, rfl, rfl⟩ := H
            try go_wp2_with (first | ((with_reducible refine gate_callee (f := 57) rfl ?_); refine goesL_ (some 62) rfl rfl Try.func57 (by kernel_rfl) rfl #[.pointer (some ⟨g, 0, none⟩), .int .i64 20] rfl z26x12 ?_; (with_reducible refine (spec_l6Rd_pick.calls k2 g s0_0 x1001_2 20 t318 t319 w0 _ ?side1 ?side2 A56.out).mono ?_); (case side1 => repeat (first | (with_reducible first | exact HI0.out | apply IsS80.alloc | apply IsS80.drewN | apply IsS80.drew | apply IsS80.set_1 | refine IsS80.far ?_ NB0_286.out _ | refine IsS80.far ?_ NB0_292.out _) | exact HI0.out)); (case side2 => repeat (first | (with_reducible first | exact HB.out | apply below_alloc | apply pw_below_drewN | apply below_drew1 | refine below_set ?_ (IsS80.ge HI0.out) | refine below_set ?_ GE286.out | refine below_set ?_ GE292.out) | exact HB.out)); rintro e w105 ⟨rfl, hi, hb, hk⟩; refine ⟨_, rfl, ?_⟩; have n0_ := Aside0.mk (Kd.R_mono (Kd.R_keep (IsS80.apart (show IsS80 w0 _ g s0_0 x1001_2 from by repeat (first | (with_reducible first | exact HI0.out | apply IsS80.alloc | apply IsS80.drewN | apply IsS80.drew | apply IsS80.set_1 | refine IsS80.far ?_ NB0_286.out _ | refine IsS80.far ?_ NB0_292.out _) | exact HI0.out)) z26x15 (by decide)) hk (fun _ h => h.2)) (fun _ h => h.1)); have n1_ := Aside0.mk (KeepBut.blk hk (g' := gb286) (o := .cells #[.int .i64 0, .int .i64 0, .int .i64 0, .int .i64 0, .slice none 0 0] 36 (0, 0)) z26x13 NB286_0.out (by simp)); have n2_ := Aside0.mk (KeepBut.blk hk (g' := gb292) (o := .cells #[.int .i64 (wrap64 (1 + t287)), .int .i64 x293001_2, .int .i64 x293002_2, .int .i64 x293003_2, u293004] 36 (0, 0)) z26x14 NB292_0.out (by simp)); have n3_ := Aside0.mk (KeepBut.trans z26x7 hk (.inl rfl)); have n4_ := Aside0.mk (hb); have n5_ := Aside0.mk (hi); clear HO_293004; clear BK286; clear BK292; clear HK; clear HB; clear HI0; have HO_293004 := n0_; have BK286 := n1_; have BK292 := n2_; have HK := n3_; have HB := n4_; have HI0 := n5_; clear n0_ n1_ n2_ n3_ n4_ n5_; (try clear hb); (try clear hb2); (try clear hk); (try clear hi)))
            have n0_ := Aside0.mk (Kd.R_drew HO_293004.out)
            have n1_ := Aside0.mk (blk_drew BK286.out)
            have n2_ := Aside0.mk (blk_drew BK292.out)
            have n3_ := Aside0.mk (IsS80.drew HI0.out)
            have n4_ := Aside0.mk (keep_drew HK.out)
            have n5_ := Aside0.mk (below_drew1 HB.out)
            clear HO_293004
            clear BK286
            clear BK292
            clear HI0
            clear HK
            clear HB
            have HO_293004 := n0_
            have BK286 := n1_
            have BK292 := n2_
            have HI0 := n3_
            have HK := n4_
            have HB := n5_
            clear n0_ n1_ n2_ n3_ n4_ n5_
            refine start_ (n := 8) (S := fun w' => w'.cell? ⟨gb292, 0, none⟩ = some (.int .i64 (wrap64 (1 + t287))) ∧ w'.cell? ⟨gb292, 1, none⟩ = some (.int .i64 x293001_2) ∧ w'.cell? ⟨gb292, 2, none⟩ = some (.int .i64 x293002_2) ∧ w'.cell? ⟨gb292, 3, none⟩ = some (.int .i64 x293003_2) ∧ w'.cell? ⟨gb292, 4, none⟩ = some (u293004)) (ds := [7]) #[false, false, false, false, false, false, false, false] (by kernel_rfl) rfl rfl ⟨(blk_cell BK292.out 0).trans rfl, (blk_cell BK292.out 1).trans rfl, (blk_cell BK292.out 2).trans rfl, (blk_cell BK292.out 3).trans rfl, (blk_cell BK292.out 4).trans rfl⟩ (fun hHeld => ?_); refine with_tabW spec_l71Msg.tab31 spec_l71Msg.bits31 (fun HT_ HW_ => ?_)
            generalize w105.drew = w106 at HO_293004 BK286 BK292 HI0 HK HB hHeld ⊢
            refine pure_ (i := 0) (N := some 88) (v := ?_) (a' := ?_) #[true, false, false, false, false, false, false, false] rfl rfl (any_of HT_.out (by kernel_rfl)) (fun _ _ _ h => h) (Or.inl ⟨by rfl, ?_⟩) ?_ ?_
            rotate_left
            ·intro w'
             go_simp
             with_reducible rfl
            rotate_left
            ·simp only [Act.put, List.setIfInBounds_toArray, List.set_cons_zero, List.set_cons_succ, i64_w, i32_w]
             rfl
            refine pure_ (i := 2) (N := some 90) (v := ?_) (a' := ?_) #[true, false, true, false, false, false, false, false] rfl rfl (any_of HT_.out (by kernel_rfl)) (fun _ _ _ h => h) (Or.inl ⟨by rfl, ?_⟩) ?_ ?_
            rotate_left
            ·intro w'
             go_simp
             with_reducible rfl
            rotate_left
            ·simp only [Act.put, List.setIfInBounds_toArray, List.set_cons_zero, List.set_cons_succ, i64_w, i32_w]
             rfl
            refine take_ (i := 1) (N := some 89) (v := ?_) (a' := ?_) #[true, true, true, false, false, false, false, false] rfl rfl (take_ofW HT_.out HW_.out (by kernel_rfl)) (fun _ _ _ h => h) (Or.inl ⟨by rfl, ?_⟩) hHeld ?_ ?_
            rotate_left
            ·rintro w' ⟨s0, s1, s2, s3, s4⟩
             go_simp
             with_reducible rfl
            rotate_left
            ·simp only [Act.put, List.setIfInBounds_toArray, List.set_cons_zero, List.set_cons_succ, i64_w, i32_w]
             rfl
            refine one_ (i := 3) (N := some 91) #[true, true, true, true, false, false, false, false] rfl rfl (one_of HT_.out (by kernel_rfl)) (by decide) (fun K hK => ?_)
            refine goes_ Try.func56 (by kernel_rfl) rfl #[.pointer (some ⟨g, 0, none⟩)] (by rfl) rfl rfl z26x12 ?_
            with_reducible refine (spec_l71Seal.calls k2 g s0_0 t319 t332 t333 t334 t335 t336 t337 t338 t339 w0 _ ?side1 ?side2 A103.out).mono ?_
            (case side1 => repeat (first | (with_reducible first | exact HI0.out | apply IsS80.alloc | apply IsS80.drewN | apply IsS80.drew | apply IsS80.set_1 | refine IsS80.far ?_ NB0_286.out _ | refine IsS80.far ?_ NB0_292.out _) | exact HI0.out))
            (case side2 => repeat (first | (with_reducible first | exact HB.out | apply below_alloc | apply pw_below_drewN | apply below_drew1 | refine below_set ?_ (IsS80.ge HI0.out) | refine below_set ?_ GE286.out | refine below_set ?_ GE292.out) | exact HB.out))
            rintro e w107 ⟨rfl, hi, hb, hk⟩
            refine ⟨_, rfl, ?_⟩
            have n0_ := Aside0.mk (Kd.R_mono (Kd.R_keep (IsS80.apart (show IsS80 w0 _ g s0_0 t319 from by repeat (first | (with_reducible first | exact HI0.out | apply IsS80.alloc | apply IsS80.drewN | apply IsS80.drew | apply IsS80.set_1 | refine IsS80.far ?_ NB0_286.out _ | refine IsS80.far ?_ NB0_292.out _) | exact HI0.out)) z26x15 (by decide)) hk (fun _ h => h.2)) (fun _ h => h.1))
            have n1_ := Aside0.mk (KeepBut.blk hk (g' := gb286) (o := .cells #[.int .i64 0, .int .i64 0, .int .i64 0, .int .i64 0, .slice none 0 0] 36 (0, 0)) z26x13 NB286_0.out (by simp))
            have n2_ := Aside0.mk (KeepBut.blk hk (g' := gb292) (o := .cells #[.int .i64 (wrap64 (1 + t287)), .int .i64 x293001_2, .int .i64 x293002_2, .int .i64 x293003_2, u293004] 36 (0, 0)) z26x14 NB292_0.out (by simp))
            have n3_ := Aside0.mk (KeepBut.trans z26x7 hk (.inl rfl))
            have n4_ := Aside0.mk (hb)
            have n5_ := Aside0.mk (hi)
            clear HO_293004
            clear BK286
            clear BK292
            clear HK
            clear HB
            clear HI0
            have HO_293004 := n0_
            have BK286 := n1_
            have BK292 := n2_
            have HK := n3_
            have HB := n4_
            have HI0 := n5_
            clear n0_ n1_ n2_ n3_ n4_ n5_
            (try clear hb)
            (try clear hb2)
            (try clear hk)
            (try clear hi)
            refine hK.out _ _ ⟨(blk_cell BK292.out 0).trans rfl, (blk_cell BK292.out 1).trans rfl, (blk_cell BK292.out 2).trans rfl, (blk_cell BK292.out 3).trans rfl, (blk_cell BK292.out 4).trans rfl⟩ (fun hHeld => ?_)
            clear hK K
            refine norm_ (a' := ?_) ?_ ?_
            rotate_left
            ·show Act.put _ (some 91) _ = _
             simp only [Act.put, List.setIfInBounds_toArray, List.set_cons_zero, List.set_cons_succ, i64_w, i32_w]
             rfl
            refine one_ (i := 4) (N := some 92) #[true, true, true, true, true, false, false, false] rfl rfl (one_of HT_.out (by kernel_rfl)) (by decide) (fun K hK => ?_)
            refine value_ (w1 := ?_) (v := ?_) (by rfl) rfl ?_ ?_
            rotate_left 2
            ·go_simp
             constructor
             ·rfl
             ·rfl
            refine hK.out _ _ ⟨(blk_cell (blk_alloc BK292.out _) 0).trans rfl, (blk_cell (blk_alloc BK292.out _) 1).trans rfl, (blk_cell (blk_alloc BK292.out _) 2).trans rfl, (blk_cell (blk_alloc BK292.out _) 3).trans rfl, (blk_cell (blk_alloc BK292.out _) 4).trans rfl⟩ (fun hHeld => ?_)
            clear hK K
            refine norm_ (a' := ?_) ?_ ?_
            rotate_left
            ·show Act.put _ (some 92) _ = _
             simp only [Act.put, List.setIfInBounds_toArray, List.set_cons_zero, List.set_cons_succ, i64_w, i32_w]
             rfl
            refine one_ (i := 5) (N := some 93) #[true, true, true, true, true, true, false, false] rfl rfl (one_of HT_.out (by kernel_rfl)) (by decide) (fun K hK => ?_)
            refine Kd.R_append_step k24 w.heap.size (by rfl) (.tmp 89) (.tmp 92) 34 24 (.agg #[(.int .i64 0), (.int .i64 0), (.int .i64 0), (.int .i64 0), (.int .i64 0), (.int .i64 0), (.int .i64 0)]) 56 rfl Try.underlying34 info24 rfl (by decide) (by omega) u293004 x293004_2 (⟨t332, t333, t334, t335, t336, t337, t338⟩ : S24) [.int .i64 t332, .int .i64 t333, .int .i64 t334, .int .i64 t335, .int .i64 t336, .int .i64 t337, .int .i64 t338] (fun _ => True) (fun _ => False) rfl rfl ?aP (fun _ hk => hk.elim) ?aF ?aO (Below.refl _ _) ?aS ?aL ?_
            (case aP => exact k24_mkM _ _ _ (⟨t332, t333, t334, t335, t336, t337, t338⟩ : S24))
            (case aF => exact (fun _ _ => trivial))
            (case aO => exact z26x15)
            (case aS => exact (keep_size (w := w) (g := g) (row := none) z26x7))
            (case aL => have := LMc104.out; omega)
            intro v341 w108 ho hb hg hat
            rw [← Ny340.out] at ho
            have n0_ := Aside0.mk (blk_grown (g := gb286) (o := .cells #[.int .i64 0, .int .i64 0, .int .i64 0, .int .i64 0, .slice none 0 0] 36 (0, 0)) z26x13 hg (Kd.R_ne HO_293004.out BK286.out (by decide)))
            have n1_ := Aside0.mk (blk_grown (g := gb292) (o := .cells #[.int .i64 (wrap64 (1 + t287)), .int .i64 x293001_2, .int .i64 x293002_2, .int .i64 x293003_2, u293004] 36 (0, 0)) z26x14 hg (Kd.R_ne HO_293004.out BK292.out (by decide)))
            have n2_ := Aside0.mk (IsS80.grown z26x6 hg (IsS80.own_ne HI0.out HO_293004.out (by decide)))
            have n3_ := Aside0.mk (below_weaken z26x5 HL.out hb)
            have n4_ := Aside0.mk (KeepBut.trans z26x7 (KeepBut.of_grown hg g) (Kd.R_base2 HO_293004.out))
            have n5_ := Aside0.mk (ho)
            clear BK286
            clear BK292
            clear HI0
            clear HB
            clear HK
            clear HO_293004
            have BK286 := n0_
            have BK292 := n1_
            have HI0 := n2_
            have HB := n3_
            have HK := n4_
            have HO342 := n5_
            clear n0_ n1_ n2_ n3_ n4_ n5_
            clear ho hb hg hat
            obtain ⟨Ao109, co109, eo109⟩ := Kd.R_slice HO342.out
            (first | subst eo109 | (injection eo109 with f1_ f2_ f3_; have f4_ := f1_.symm; have f5_ := f3_.symm; clear f1_ f2_ f3_; subst f4_; subst f5_))
            refine hK.out _ _ ⟨(blk_cell BK292.out 0).trans rfl, (blk_cell BK292.out 1).trans rfl, (blk_cell BK292.out 2).trans rfl, (blk_cell BK292.out 3).trans rfl, (blk_cell BK292.out 4).trans rfl⟩ (fun hHeld => ?_)
            clear hK K
            refine norm_ (a' := ?_) ?_ ?_
            rotate_left
            ·show Act.put _ (some 93) _ = _
             simp only [Act.put, List.setIfInBounds_toArray, List.set_cons_zero, List.set_cons_succ, i64_w, i32_w]
             rfl
            refine pure_ (i := 6) (N := some 94) (v := ?_) (a' := ?_) #[true, true, true, true, true, true, true, false] rfl rfl (any_of HT_.out (by kernel_rfl)) (fun _ _ _ h => h) (Or.inl ⟨by rfl, ?_⟩) ?_ ?_
            rotate_left
            ·intro w'
             go_simp
             with_reducible rfl
            rotate_left
            ·simp only [Act.put, List.setIfInBounds_toArray, List.set_cons_zero, List.set_cons_succ, i64_w, i32_w]
             rfl
            refine last_ (i := 7) (N := none) #[true, true, true, true, true, true, true, true] rfl rfl (one_of HT_.out (by kernel_rfl)) (by decide) (fun K hK => ?_)
            have hs110 : w108.cell? ⟨gb292, 4, none⟩ = some (u293004) := (blk_cell BK292.out 4).trans rfl
            have hfs110 := blk_frozen BK292.out 4
            have hns110_0 := NB286_292.out
            have hms110_0 := NB292_286.out
            refine skip_ (w1 := ?_) (by rfl) rfl ?_ ?_
            rotate_left
            ·go_simp
             rfl
            refine hK.out _ _ ?_
            clear hK K
            refine done_ (done_of HT_.out (by kernel_rfl)) ?_
            have hnb111 := NB292_286.out
            have hnc111 := NB286_292.out
            have hnb112 := NB292_0.out
            have hnc112 := NB0_292.out
            have hcz113_0 : w108.cell? ⟨gb292, 0, none⟩ = some (.int .i64 (wrap64 (1 + t287))) := (blk_cell BK292.out 0).trans rfl
            have hcz113_1 : w108.cell? ⟨gb292, 1, none⟩ = some (.int .i64 x293001_2) := (blk_cell BK292.out 1).trans rfl
            have hcz113_2 : w108.cell? ⟨gb292, 2, none⟩ = some (.int .i64 x293002_2) := (blk_cell BK292.out 2).trans rfl
            have hcz113_3 : w108.cell? ⟨gb292, 3, none⟩ = some (.int .i64 x293003_2) := (blk_cell BK292.out 3).trans rfl
            have hcz113_4 : w108.cell? ⟨gb292, 4, none⟩ = some (u293004) := (blk_cell BK292.out 4).trans rfl
            have hfz113_0 := blk_frozen BK292.out 0
            have hfz113_1 := blk_frozen BK292.out 1
            have hfz113_2 := blk_frozen BK292.out 2
            have hfz113_3 := blk_frozen BK292.out 3
            have hfz113_4 := blk_frozen BK292.out 4
            have hnb114 := NB286_0.out
            have hnc114 := NB0_286.out
            have hcz115_0 : w108.cell? ⟨gb286, 0, none⟩ = some (.int .i64 0) := (blk_cell BK286.out 0).trans rfl
            have hcz115_1 : w108.cell? ⟨gb286, 1, none⟩ = some (.int .i64 0) := (blk_cell BK286.out 1).trans rfl
            have hcz115_2 : w108.cell? ⟨gb286, 2, none⟩ = some (.int .i64 0) := (blk_cell BK286.out 2).trans rfl
            have hcz115_3 : w108.cell? ⟨gb286, 3, none⟩ = some (.int .i64 0) := (blk_cell BK286.out 3).trans rfl
            have hcz115_4 : w108.cell? ⟨gb286, 4, none⟩ = some (.slice none 0 0) := (blk_cell BK286.out 4).trans rfl
            have hfz115_0 := blk_frozen BK286.out 0
            have hfz115_1 := blk_frozen BK286.out 1
            have hfz115_2 := blk_frozen BK286.out 2
            have hfz115_3 := blk_frozen BK286.out 3
            have hfz115_4 := blk_frozen BK286.out 4
            try go_wp2
            refine bodyPost_ret (results_cell_row rfl _ _ gb286 36 #[.int .i64 (wrap64 (1 + t287)), .int .i64 x293001_2, .int .i64 x293002_2, .int .i64 x293003_2, .slice Ao109 y340.length co109] (0, 0) _ rfl (by (with_reducible repeat (first | refine blk_drewN ?_ _ | refine blk_drew ?_ | refine blk_alloc ?_ _)); refine blk_put (cs := #[.int .i64 (wrap64 (1 + t287)), .int .i64 x293001_2, .int .i64 x293002_2, .int .i64 x293003_2, .slice none 0 0]) ?_ 4 _ rfl; (with_reducible repeat (first | refine blk_drewN ?_ _ | refine blk_drew ?_ | refine blk_alloc ?_ _)); refine blk_put (cs := #[.int .i64 (wrap64 (1 + t287)), .int .i64 x293001_2, .int .i64 x293002_2, .int .i64 0, .slice none 0 0]) ?_ 3 _ rfl; (with_reducible repeat (first | refine blk_drewN ?_ _ | refine blk_drew ?_ | refine blk_alloc ?_ _)); refine blk_put (cs := #[.int .i64 (wrap64 (1 + t287)), .int .i64 x293001_2, .int .i64 0, .int .i64 0, .slice none 0 0]) ?_ 2 _ rfl; (with_reducible repeat (first | refine blk_drewN ?_ _ | refine blk_drew ?_ | refine blk_alloc ?_ _)); refine blk_put (cs := #[.int .i64 (wrap64 (1 + t287)), .int .i64 0, .int .i64 0, .int .i64 0, .slice none 0 0]) ?_ 1 _ rfl; (with_reducible repeat (first | refine blk_drewN ?_ _ | refine blk_drew ?_ | refine blk_alloc ?_ _)); refine blk_put (cs := #[.int .i64 0, .int .i64 0, .int .i64 0, .int .i64 0, .slice none 0 0]) ?_ 0 _ rfl; (with_reducible repeat (first | refine blk_drewN ?_ _ | refine blk_drew ?_ | refine blk_alloc ?_ _)); refine blk_far ?_ NB286_292.out _; (with_reducible repeat (first | refine blk_drewN ?_ _ | refine blk_drew ?_ | refine blk_alloc ?_ _)); exact BK286.out) Try.underlying36 rfl (by kernel_rfl)) rfl ?_
            exact ⟨_, by first | rfl | (simp [errW_none, errW_some] <;> rfl) | (simp [*, errW_none, errW_some] <;> rfl), by (with_reducible repeat (first | apply Kd.R_alloc | apply Kd.R_drewN | apply Kd.R_drew)); exact Kd.R_mono (Kd.R_far (p := ⟨gb286, 4, none⟩) (Kd.R_far (p := ⟨gb286, 3, none⟩) (Kd.R_far (p := ⟨gb286, 2, none⟩) (Kd.R_far (p := ⟨gb286, 1, none⟩) (Kd.R_far (p := ⟨gb286, 0, none⟩) (Kd.R_far (p := ⟨gb292, 4, none⟩) (Kd.R_types (Kd.R_types HO342.out BK292.out (by decide)) BK286.out (by decide)) (fun _ hk => hk.1.2) (.slice Ao109 y340.length co109)) (fun _ hk => hk.2) (.int .i64 (wrap64 (1 + t287)))) (fun _ hk => hk.2) (.int .i64 x293001_2)) (fun _ hk => hk.2) (.int .i64 x293002_2)) (fun _ hk => hk.2) (.int .i64 x293003_2)) (fun _ hk => hk.2) (.slice Ao109 y340.length co109)) (fun _ hk => trivial), by repeat (first | (with_reducible first | exact HI0.out | apply IsS80.alloc | apply IsS80.drewN | apply IsS80.drew | apply IsS80.set_1 | refine IsS80.far ?_ NB0_286.out _ | refine IsS80.far ?_ NB0_292.out _) | exact HI0.out), by repeat (first | (with_reducible first | exact HB.out | apply below_alloc | apply pw_below_drewN | apply below_drew1 | refine below_set ?_ (IsS80.ge HI0.out) | refine below_set ?_ GE286.out | refine below_set ?_ GE292.out) | exact HB.out), by repeat (first | (with_reducible first | exact HK.out | apply KeepBut.set_ | apply keep_drewN | apply keep_drew | apply keep_alloc | refine keep_far ?_ GW286.out _ | refine keep_far ?_ GW292.out _) | exact HK.out)⟩
           ·rw [if_neg c104] at H
            exact absurd H (by simp)
          ·rw [if_neg c102] at H
           have c102b0 : (t318 == 4) = false := beq_eq_false_iff_ne.mpr c102
           have c102b1 : (t318 != 4) = true := bne_iff_ne.mpr c102
           simp only [Option.some.injEq, Prod.mk.injEq] at H
           obtain ⟨rfl, rfl, rfl, rfl, rfl, rfl⟩ := H
           go_wp2_with (first | ((with_reducible refine gate_callee (f := 57) rfl ?_); refine goesL_ (some 62) rfl rfl Try.func57 (by kernel_rfl) rfl #[.pointer (some ⟨g, 0, none⟩), .int .i64 20] rfl z26x12 ?_; (with_reducible refine (spec_l6Rd_pick.calls k2 g s0_0 x1001_2 20 t318 t319 w0 _ ?side1 ?side2 A56.out).mono ?_); (case side1 => repeat (first | (with_reducible first | exact HI0.out | apply IsS80.alloc | apply IsS80.drewN | apply IsS80.drew | apply IsS80.set_1 | refine IsS80.far ?_ NB0_286.out _ | refine IsS80.far ?_ NB0_292.out _) | exact HI0.out)); (case side2 => repeat (first | (with_reducible first | exact HB.out | apply below_alloc | apply pw_below_drewN | apply below_drew1 | refine below_set ?_ (IsS80.ge HI0.out) | refine below_set ?_ GE286.out | refine below_set ?_ GE292.out) | exact HB.out)); rintro e w116 ⟨rfl, hi, hb, hk⟩; refine ⟨_, rfl, ?_⟩; have n0_ := Aside0.mk (Kd.R_mono (Kd.R_keep (IsS80.apart (show IsS80 w0 _ g s0_0 x1001_2 from by repeat (first | (with_reducible first | exact HI0.out | apply IsS80.alloc | apply IsS80.drewN | apply IsS80.drew | apply IsS80.set_1 | refine IsS80.far ?_ NB0_286.out _ | refine IsS80.far ?_ NB0_292.out _) | exact HI0.out)) z26x15 (by decide)) hk (fun _ h => h.2)) (fun _ h => h.1)); have n1_ := Aside0.mk (KeepBut.blk hk (g' := gb286) (o := .cells #[.int .i64 0, .int .i64 0, .int .i64 0, .int .i64 0, .slice none 0 0] 36 (0, 0)) z26x13 NB286_0.out (by simp)); have n2_ := Aside0.mk (KeepBut.blk hk (g' := gb292) (o := .cells #[.int .i64 (wrap64 (1 + t287)), .int .i64 x293001_2, .int .i64 x293002_2, .int .i64 x293003_2, u293004] 36 (0, 0)) z26x14 NB292_0.out (by simp)); have n3_ := Aside0.mk (KeepBut.trans z26x7 hk (.inl rfl)); have n4_ := Aside0.mk (hb); have n5_ := Aside0.mk (hi); clear HO_293004; clear BK286; clear BK292; clear HK; clear HB; clear HI0; have HO_293004 := n0_; have BK286 := n1_; have BK292 := n2_; have HK := n3_; have HB := n4_; have HI0 := n5_; clear n0_ n1_ n2_ n3_ n4_ n5_; (try clear hb); (try clear hb2); (try clear hk); (try clear hi); have hnb117 := NB292_286.out; have hnc117 := NB286_292.out; have hnb118 := NB292_0.out; have hnc118 := NB0_292.out; have hcz119_0 : w116.cell? ⟨gb292, 0, none⟩ = some (.int .i64 (wrap64 (1 + t287))) := (blk_cell BK292.out 0).trans rfl; have hcz119_1 : w116.cell? ⟨gb292, 1, none⟩ = some (.int .i64 x293001_2) := (blk_cell BK292.out 1).trans rfl; have hcz119_2 : w116.cell? ⟨gb292, 2, none⟩ = some (.int .i64 x293002_2) := (blk_cell BK292.out 2).trans rfl; have hcz119_3 : w116.cell? ⟨gb292, 3, none⟩ = some (.int .i64 x293003_2) := (blk_cell BK292.out 3).trans rfl; have hcz119_4 : w116.cell? ⟨gb292, 4, none⟩ = some (u293004) := (blk_cell BK292.out 4).trans rfl; have hfz119_0 := blk_frozen BK292.out 0; have hfz119_1 := blk_frozen BK292.out 1; have hfz119_2 := blk_frozen BK292.out 2; have hfz119_3 := blk_frozen BK292.out 3; have hfz119_4 := blk_frozen BK292.out 4; have hnb120 := NB286_0.out; have hnc120 := NB0_286.out; have hcz121_0 : w116.cell? ⟨gb286, 0, none⟩ = some (.int .i64 0) := (blk_cell BK286.out 0).trans rfl; have hcz121_1 : w116.cell? ⟨gb286, 1, none⟩ = some (.int .i64 0) := (blk_cell BK286.out 1).trans rfl; have hcz121_2 : w116.cell? ⟨gb286, 2, none⟩ = some (.int .i64 0) := (blk_cell BK286.out 2).trans rfl; have hcz121_3 : w116.cell? ⟨gb286, 3, none⟩ = some (.int .i64 0) := (blk_cell BK286.out 3).trans rfl; have hcz121_4 : w116.cell? ⟨gb286, 4, none⟩ = some (.slice none 0 0) := (blk_cell BK286.out 4).trans rfl; have hfz121_0 := blk_frozen BK286.out 0; have hfz121_1 := blk_frozen BK286.out 1; have hfz121_2 := blk_frozen BK286.out 2; have hfz121_3 := blk_frozen BK286.out 3; have hfz121_4 := blk_frozen BK286.out 4; obtain ⟨Ao122, co122, eo122⟩ := Kd.R_slice HO_293004.out; subst eo122))
           refine bodyPost_ret (results_cell_row rfl _ _ gb286 36 #[.int .i64 (wrap64 (1 + t287)), .int .i64 x293001_2, .int .i64 x293002_2, .int .i64 x293003_2, .slice Ao122 x293004_2.length co122] (0, 0) _ rfl (by (with_reducible repeat (first | refine blk_drewN ?_ _ | refine blk_drew ?_ | refine blk_alloc ?_ _)); refine blk_put (cs := #[.int .i64 (wrap64 (1 + t287)), .int .i64 x293001_2, .int .i64 x293002_2, .int .i64 x293003_2, .slice none 0 0]) ?_ 4 _ rfl; (with_reducible repeat (first | refine blk_drewN ?_ _ | refine blk_drew ?_ | refine blk_alloc ?_ _)); refine blk_put (cs := #[.int .i64 (wrap64 (1 + t287)), .int .i64 x293001_2, .int .i64 x293002_2, .int .i64 0, .slice none 0 0]) ?_ 3 _ rfl; (with_reducible repeat (first | refine blk_drewN ?_ _ | refine blk_drew ?_ | refine blk_alloc ?_ _)); refine blk_put (cs := #[.int .i64 (wrap64 (1 + t287)), .int .i64 x293001_2, .int .i64 0, .int .i64 0, .slice none 0 0]) ?_ 2 _ rfl; (with_reducible repeat (first | refine blk_drewN ?_ _ | refine blk_drew ?_ | refine blk_alloc ?_ _)); refine blk_put (cs := #[.int .i64 (wrap64 (1 + t287)), .int .i64 0, .int .i64 0, .int .i64 0, .slice none 0 0]) ?_ 1 _ rfl; (with_reducible repeat (first | refine blk_drewN ?_ _ | refine blk_drew ?_ | refine blk_alloc ?_ _)); refine blk_put (cs := #[.int .i64 0, .int .i64 0, .int .i64 0, .int .i64 0, .slice none 0 0]) ?_ 0 _ rfl; (with_reducible repeat (first | refine blk_drewN ?_ _ | refine blk_drew ?_ | refine blk_alloc ?_ _)); exact BK286.out) Try.underlying36 rfl (by kernel_rfl)) rfl ?_
           exact ⟨_, by first | rfl | (simp [errW_none, errW_some] <;> rfl) | (simp [*, errW_none, errW_some] <;> rfl), by (with_reducible repeat (first | apply Kd.R_alloc | apply Kd.R_drewN | apply Kd.R_drew)); exact Kd.R_mono (Kd.R_far (p := ⟨gb286, 4, none⟩) (Kd.R_far (p := ⟨gb286, 3, none⟩) (Kd.R_far (p := ⟨gb286, 2, none⟩) (Kd.R_far (p := ⟨gb286, 1, none⟩) (Kd.R_far (p := ⟨gb286, 0, none⟩) (Kd.R_types HO_293004.out BK286.out (by decide)) (fun _ hk => hk.2) (.int .i64 (wrap64 (1 + t287)))) (fun _ hk => hk.2) (.int .i64 x293001_2)) (fun _ hk => hk.2) (.int .i64 x293002_2)) (fun _ hk => hk.2) (.int .i64 x293003_2)) (fun _ hk => hk.2) (.slice Ao122 x293004_2.length co122)) (fun _ hk => trivial), by repeat (first | (with_reducible first | exact HI0.out | apply IsS80.alloc | apply IsS80.drewN | apply IsS80.drew | apply IsS80.set_1 | refine IsS80.far ?_ NB0_286.out _ | refine IsS80.far ?_ NB0_292.out _) | exact HI0.out), by repeat (first | (with_reducible first | exact HB.out | apply below_alloc | apply pw_below_drewN | apply below_drew1 | refine below_set ?_ (IsS80.ge HI0.out) | refine below_set ?_ GE286.out | refine below_set ?_ GE292.out) | exact HB.out), by repeat (first | (with_reducible first | exact HK.out | apply KeepBut.set_ | apply keep_drewN | apply keep_drew | apply keep_alloc | refine keep_far ?_ GW286.out _ | refine keep_far ?_ GW292.out _) | exact HK.out)⟩

end Go.Proofs.Ytbiknbjcidlabaa.Hp
