-- hp.py
import Derived.Test.YtgekmdfcbcacdaaDoorHx0
import Derived.Test.YtgekmdfcbcacdaaDoorHx12
import Derived.Test.YtgekmdfcbcacdaaDoorHx14
import Derived.Test.YtgekmdfcbcacdaaDoorHx15
namespace Go.Proofs.YtgekmdfcbcacdaaDoor.Hp
open Go.RowKit Go.Proofs.YtgekmdfcbcacdaaDoorW.PrintWords Go.Proofs.YtgekmdfcbcacdaaDoorW.PrintLast Go.Proofs.YtgekmdfcbcacdaaDoorW.PrintMore
attribute [local go_sem] max2_int min2_int max_two min_two max_three min_three max_four min_four   -- for this text's walks alone
set_option linter.unusedVariables false
set_option linter.unusedSimpArgs false
-- squeezed by wip/tools/squeeze.py
theorem z34x15 {P : Prop} (h : P := by (with_reducible repeat (first | apply Kd.R_alloc | apply Kd.R_drewN | apply Kd.R_drew)); exact HO_381004.out) : P := h
theorem z34x14 {P : Prop} (h : P := by (with_reducible repeat (first | refine blk_drewN ?_ _ | refine blk_drew ?_ | refine blk_alloc ?_ _)); exact BK380.out) : P := h
theorem z34x13 {P : Prop} (h : P := by (with_reducible repeat (first | refine blk_drewN ?_ _ | refine blk_drew ?_ | refine blk_alloc ?_ _)); exact BK374.out) : P := h
theorem z34x12 {P : Prop} (h : P := by (try simp only [List.map_toArray, List.map_cons, List.map_nil]); first | done | rfl | (simp only [List.length_drop, List.length_take]; rfl)) : P := h
theorem z34x11 {P : Prop} (h : P := by repeat (first | (with_reducible first | exact HK.out | apply KeepBut.set_ | apply keep_drewN | apply keep_drew | apply keep_alloc | refine keep_far ?_ GW374.out _) | exact HK.out)) : P := h
theorem z34x10 {P : Prop} (h : P := by repeat (first | (with_reducible first | exact HI0.out | apply IsS76.alloc | apply IsS76.drewN | apply IsS76.drew | apply IsS76.set_1 | refine IsS76.far ?_ NB0_374.out _) | exact HI0.out)) : P := h
theorem z34x9 {P : Prop} (h : P := by repeat (first | (with_reducible first | exact HB.out | apply below_alloc | apply pw_below_drewN | apply below_drew1 | refine below_set ?_ (IsS76.ge HI0.out) | refine below_set ?_ GE374.out) | exact HB.out)) : P := h
theorem z34x8 {P : Prop} (h : P := by rw [hg]; exact (keep_size (w := w) (g := g) (row := none) (by repeat (first | (with_reducible first | exact HK.out | apply KeepBut.set_ | apply keep_drewN | apply keep_drew | apply keep_alloc) | exact HK.out)))) : P := h
theorem z34x7 {P : Prop} (h : P := by repeat (first | (with_reducible first | exact HK.out | apply KeepBut.set_ | apply keep_drewN | apply keep_drew | apply keep_alloc | refine keep_far ?_ GW374.out _ | refine keep_far ?_ GW380.out _) | exact HK.out)) : P := h
theorem z34x6 {P : Prop} (h : P := by repeat (first | (with_reducible first | exact HI0.out | apply IsS76.alloc | apply IsS76.drewN | apply IsS76.drew | apply IsS76.set_1 | refine IsS76.far ?_ NB0_374.out _ | refine IsS76.far ?_ NB0_380.out _) | exact HI0.out)) : P := h
theorem z34x5 {P : Prop} (h : P := by repeat (first | (with_reducible first | exact HB.out | apply below_alloc | apply pw_below_drewN | apply below_drew1 | refine below_set ?_ (IsS76.ge HI0.out) | refine below_set ?_ GE374.out | refine below_set ?_ GE380.out) | exact HB.out)) : P := h
theorem z34x4 {P : Prop} (h : P := by rw [hg]; exact (keep_size (w := w) (g := g) (row := none) (by repeat (first | (with_reducible first | exact HK.out | apply KeepBut.set_ | apply keep_drewN | apply keep_drew | apply keep_alloc | refine keep_far ?_ GW374.out _) | exact HK.out)))) : P := h
theorem z34x3 {P : Prop} (h : P := by (with_reducible repeat (first | refine blk_drewN ?_ _ | refine blk_drew ?_ | refine blk_alloc ?_ _)); refine blk_far ?_ NB374_380.out _; (with_reducible repeat (first | refine blk_drewN ?_ _ | refine blk_drew ?_ | refine blk_alloc ?_ _)); exact BK374.out) : P := h
theorem z34x2 {P : Prop} (h : P := by (with_reducible repeat (first | apply Kd.R_alloc | apply Kd.R_drewN | apply Kd.R_drew)); exact (Kd.R_mono (Kd.R_far (p := ⟨gb380, 4, none⟩) (Kd.R_far (p := ⟨gb380, 3, none⟩) (Kd.R_far (p := ⟨gb380, 2, none⟩) (Kd.R_far (p := ⟨gb380, 1, none⟩) (Kd.R_far (p := ⟨gb380, 0, none⟩) (Kd.R_types HO379.out BK380.out (by decide)) (fun _ hk => hk.2) (.int .i64 (wrap64 (1 + t375)))) (fun _ hk => hk.2) (.int .i64 0)) (fun _ hk => hk.2) (.int .i64 0)) (fun _ hk => hk.2) (.int .i64 0)) (fun _ hk => hk.2) (.slice Ao8 y377.length co8)) (fun _ h_ => h_.1))) : P := h
theorem z34x1 {P : Prop} (h : P := by (with_reducible repeat (first | refine blk_drewN ?_ _ | refine blk_drew ?_ | refine blk_alloc ?_ _)); refine blk_far ?_ NB374_380.out _; (with_reducible repeat (first | refine blk_drewN ?_ _ | refine blk_drew ?_ | refine blk_alloc ?_ _)); refine blk_far ?_ NB374_380.out _; (with_reducible repeat (first | refine blk_drewN ?_ _ | refine blk_drew ?_ | refine blk_alloc ?_ _)); refine blk_far ?_ NB374_380.out _; (with_reducible repeat (first | refine blk_drewN ?_ _ | refine blk_drew ?_ | refine blk_alloc ?_ _)); refine blk_far ?_ NB374_380.out _; (with_reducible repeat (first | refine blk_drewN ?_ _ | refine blk_drew ?_ | refine blk_alloc ?_ _)); refine blk_far ?_ NB374_380.out _; (with_reducible repeat (first | refine blk_drewN ?_ _ | refine blk_drew ?_ | refine blk_alloc ?_ _)); exact BK374.out) : P := h
theorem z34x0 {P : Prop} (h : P := by (with_reducible repeat (first | refine blk_drewN ?_ _ | refine blk_drew ?_ | refine blk_alloc ?_ _)); refine blk_put (cs := #[.int .i64 (wrap64 (1 + t375)), .int .i64 0, .int .i64 0, .int .i64 0, .slice none 0 0]) ?_ 4 _ rfl; (with_reducible repeat (first | refine blk_drewN ?_ _ | refine blk_drew ?_ | refine blk_alloc ?_ _)); refine blk_put (cs := #[.int .i64 (wrap64 (1 + t375)), .int .i64 0, .int .i64 0, .int .i64 0, .slice none 0 0]) ?_ 3 _ rfl; (with_reducible repeat (first | refine blk_drewN ?_ _ | refine blk_drew ?_ | refine blk_alloc ?_ _)); refine blk_put (cs := #[.int .i64 (wrap64 (1 + t375)), .int .i64 0, .int .i64 0, .int .i64 0, .slice none 0 0]) ?_ 2 _ rfl; (with_reducible repeat (first | refine blk_drewN ?_ _ | refine blk_drew ?_ | refine blk_alloc ?_ _)); refine blk_put (cs := #[.int .i64 (wrap64 (1 + t375)), .int .i64 0, .int .i64 0, .int .i64 0, .slice none 0 0]) ?_ 1 _ rfl; (with_reducible repeat (first | refine blk_drewN ?_ _ | refine blk_drew ?_ | refine blk_alloc ?_ _)); refine blk_put (cs := #[.int .i64 0, .int .i64 0, .int .i64 0, .int .i64 0, .slice none 0 0]) ?_ 0 _ rfl; (with_reducible repeat (first | refine blk_drewN ?_ _ | refine blk_drew ?_ | refine blk_alloc ?_ _)); exact BK380.out) : P := h

/-! ### spec_l71Msg: function 58 -/
mutual
def spec_l71Msg.j0 : Nat → Int → List Int → Int → Int → Int → Int → Int → List (S24) → Option (Int × Int × Int × Int × (List (S24)) × Int)
 | 0, _, _, _, _, _, _, _, _ => none
 | k + 1, x4, x1000, x1001, x381000, x381001, x381002, x381003, x381004 => spec_l71Msg.l0 k x4 0 x1000 x1001 x381000 x381001 x381002 x381003 x381004
def spec_l71Msg.l0 : Nat → Int → Int → List Int → Int → Int → Int → Int → Int → List (S24) → Option (Int × Int × Int × Int × (List (S24)) × Int)
 | 0, _, _, _, _, _, _, _, _, _ => none
 | k + 1, x4, x5, x1000, x1001, x381000, x381001, x381002, x381003, x381004 => if x5 < x4 then ((spec_l71Fine.f k x1000 x1001).bind fun bt395 => (if x381004.length < 2513169434916 then (spec_l71Msg.l0 k x4 (wrap64 (x5 + 1)) x1000 bt395.2.2.2.2.2.2.2 x381000 x381001 x381002 x381003 (x381004 ++ [(⟨bt395.1, bt395.2.1, bt395.2.2.1, bt395.2.2.2.1, bt395.2.2.2.2.1, bt395.2.2.2.2.2.1, bt395.2.2.2.2.2.2.1⟩ : S24)])) else (none))) else ((spec_l6Rd_pick.f k x1000 x1001 20).bind fun bt406 => (if bt406.1 = 0 then ((spec_l6Rd_pick.f k x1000 bt406.2 8).bind fun bt408 => (some (bt408.1, x381001, x381002, x381003, x381004, bt408.2))) else (if bt406.1 = 1 then ((spec_l6Rd_pick.f k x1000 bt406.2 5).bind fun bt410 => (some (x381000, bt410.1, x381002, x381003, x381004, bt410.2))) else (if bt406.1 = 2 then ((spec_l6Rd_pick.f k x1000 bt406.2 7).bind fun bt412 => (some (x381000, x381001, bt412.1, x381003, x381004, bt412.2))) else (if bt406.1 = 3 then ((some (([0, 5, 61] : List Int) : List Int)).bind fun y414 => ((spec_l6Rd_pick.f k x1000 bt406.2 3).bind fun bt417 => (if 0 ≤ bt417.1 then (if bt417.1 < (y414.length : Int) then (some (x381000, x381001, x381002, rd y414 bt417.1, x381004, bt417.2)) else (none)) else (none)))) else (if bt406.1 = 4 then ((spec_l71Seal.f k x1000 bt406.2).bind fun bt420 => (if x381004.length < 2513169434916 then (some (x381000, x381001, x381002, x381003, (x381004 ++ [(⟨bt420.1, bt420.2.1, bt420.2.2.1, bt420.2.2.2.1, bt420.2.2.2.2.1, bt420.2.2.2.2.2.1, bt420.2.2.2.2.2.2.1⟩ : S24)]), bt420.2.2.2.2.2.2.2)) else (none))) else (some (x381000, x381001, x381002, x381003, x381004, bt406.2))))))))
end
def spec_l71Msg.f (k : Nat) (s0_0 : List Int) (s0_1 : Int) : Option (Int × Int × Int × Int × (List (S24)) × Int) := (spec_l6Rd_pick.f k s0_0 s0_1 6).bind fun bt375 => ((some (([] : List (S24)) : List (S24))).bind fun y377 => (if (wrap64 (1 + bt375.1)) = 1 then ((spec_l6Rd_pick.f k s0_0 bt375.2 3).bind fun bt381 => ((spec_l6Rd_pick.f k s0_0 bt381.2 9).bind fun bt383 => (spec_l71Msg.j0 k 0 s0_0 bt383.2 (wrap64 (1 + bt375.1)) (wrap64 (1 + bt381.1)) 0 (wrap64 (1 + bt383.1)) y377))) else (if (wrap64 (1 + bt375.1)) = 3 then ((spec_l6Rd_pick.f k s0_0 bt375.2 2).bind fun bt385 => ((spec_l6Rd_pick.f k s0_0 bt385.2 9).bind fun bt387 => (spec_l71Msg.j0 k 2 s0_0 bt387.2 (wrap64 (1 + bt375.1)) 0 (wrap64 (4 + bt385.1)) (wrap64 (1 + bt387.1)) y377))) else (if (wrap64 (1 + bt375.1)) = 5 then ((spec_l6Rd_pick.f k s0_0 bt375.2 2).bind fun bt389 => (spec_l71Msg.j0 k 2 s0_0 bt389.2 (wrap64 (1 + bt375.1)) 0 (wrap64 (4 + bt389.1)) 0 y377)) else (if (wrap64 (1 + bt375.1)) = 6 then ((spec_l6Rd_pick.f k s0_0 bt375.2 3).bind fun bt391 => (spec_l71Msg.j0 k 1 s0_0 bt391.2 (wrap64 (1 + bt375.1)) (wrap64 (1 + bt391.1)) 0 0 y377)) else ((spec_l6Rd_pick.f k s0_0 bt375.2 3).bind fun bt393 => (spec_l71Msg.j0 k 2 s0_0 bt393.2 (wrap64 (1 + bt375.1)) (wrap64 (1 + bt393.1)) 0 0 y377)))))))
theorem spec_l71Msg.mono_l : ∀ k, (∀ y0 y1 y2 y3 y4 y5 y6 y7, LeO (spec_l71Msg.j0 k y0 y1 y2 y3 y4 y5 y6 y7) (spec_l71Msg.j0 (k + 1) y0 y1 y2 y3 y4 y5 y6 y7)) ∧ (∀ y0 y1 y2 y3 y4 y5 y6 y7 y8, LeO (spec_l71Msg.l0 k y0 y1 y2 y3 y4 y5 y6 y7 y8) (spec_l71Msg.l0 (k + 1) y0 y1 y2 y3 y4 y5 y6 y7 y8))
 | 0 => ⟨fun _ _ _ _ _ _ _ _ r h => by simp [spec_l71Msg.j0] at h, fun _ _ _ _ _ _ _ _ _ r h => by simp [spec_l71Msg.l0] at h⟩
 | k + 1 => by
  obtain ⟨ih0, ih1⟩ := spec_l71Msg.mono_l k
  refine ⟨?_, ?_⟩
  ·intro y0 y1 y2 y3 y4 y5 y6 y7
   unfold spec_l71Msg.j0
   repeat' first
   | (with_reducible exact ih0 _ _ _ _ _ _ _ _)
   | (with_reducible exact ih1 _ _ _ _ _ _ _ _ _)
   | (with_reducible exact spec_l6Rd_pick.mono _ _ _ _)
   | (with_reducible exact spec_l71Fine.mono _ _ _)
   | (with_reducible exact spec_l71Seal.mono _ _ _)
   | (with_reducible exact LeO.refl _)
   | (with_reducible exact LeO.none _)
   | (with_reducible refine LeO.ite ?_ ?_)
   | (with_reducible refine LeO.bind ?_ (fun _ => ?_))
   | exact ih0 _ _ _ _ _ _ _ _
   | exact ih1 _ _ _ _ _ _ _ _ _
   | exact spec_l6Rd_pick.mono _ _ _ _
   | exact spec_l71Fine.mono _ _ _
   | exact spec_l71Seal.mono _ _ _
   | exact LeO.none _
   | refine LeO.ite ?_ ?_
   | refine LeO.bind ?_ (fun _ => ?_)
  ·intro y0 y1 y2 y3 y4 y5 y6 y7 y8
   unfold spec_l71Msg.l0
   repeat' first
   | (with_reducible exact ih0 _ _ _ _ _ _ _ _)
   | (with_reducible exact ih1 _ _ _ _ _ _ _ _ _)
   | (with_reducible exact spec_l6Rd_pick.mono _ _ _ _)
   | (with_reducible exact spec_l71Fine.mono _ _ _)
   | (with_reducible exact spec_l71Seal.mono _ _ _)
   | (with_reducible exact LeO.refl _)
   | (with_reducible exact LeO.none _)
   | (with_reducible refine LeO.ite ?_ ?_)
   | (with_reducible refine LeO.bind ?_ (fun _ => ?_))
   | exact ih0 _ _ _ _ _ _ _ _
   | exact ih1 _ _ _ _ _ _ _ _ _
   | exact spec_l6Rd_pick.mono _ _ _ _
   | exact spec_l71Fine.mono _ _ _
   | exact spec_l71Seal.mono _ _ _
   | exact LeO.none _
   | refine LeO.ite ?_ ?_
   | refine LeO.bind ?_ (fun _ => ?_)
theorem spec_l71Msg.mono : ∀ a0 a1 k, LeO (spec_l71Msg.f k a0 a1) (spec_l71Msg.f (k + 1) a0 a1) := by
 intro a0 a1 k
 obtain ⟨ih0, ih1⟩ := spec_l71Msg.mono_l k
 unfold spec_l71Msg.f
 repeat' first
   | (with_reducible exact ih0 _ _ _ _ _ _ _ _)
   | (with_reducible exact ih1 _ _ _ _ _ _ _ _ _)
   | (with_reducible exact spec_l6Rd_pick.mono _ _ _ _)
   | (with_reducible exact spec_l71Fine.mono _ _ _)
   | (with_reducible exact spec_l71Seal.mono _ _ _)
   | (with_reducible exact LeO.refl _)
   | (with_reducible exact LeO.none _)
   | (with_reducible refine LeO.ite ?_ ?_)
   | (with_reducible refine LeO.bind ?_ (fun _ => ?_))
   | exact ih0 _ _ _ _ _ _ _ _
   | exact ih1 _ _ _ _ _ _ _ _ _
   | exact spec_l6Rd_pick.mono _ _ _ _
   | exact spec_l71Fine.mono _ _ _
   | exact spec_l71Seal.mono _ _ _
   | exact LeO.none _
   | refine LeO.ite ?_ ?_
   | refine LeO.bind ?_ (fun _ => ?_)
def spec_l71Msg.T20 : Bool × List (List Nat × List Nat) := (true, [([], []), ([0], [0]), ([], []), ([2], [2]), ([3], [3]), ([1, 4, 3], [1, 4]), ([0, 1, 2, 3, 4, 5], []), ([6, 5, 5, 0, 1, 2, 3, 4, 5], [5, 6])])
def spec_l71Msg.B20 : List Nat := [0, 1, 0, 4, 12, 31, 63, 127]
theorem spec_l71Msg.tab20 : rtab .any (opsOf Tryd.f58 20) = spec_l71Msg.T20 := by kernel_rfl
theorem spec_l71Msg.bits20 : waitsOk spec_l71Msg.T20.2 spec_l71Msg.B20 = true := by kernel_rfl
def spec_l71Msg.T31 : Bool × List (List Nat × List Nat) := (true, [([], []), ([0], [0]), ([], []), ([2], [2]), ([3], [3]), ([1, 4, 3], [1, 4]), ([0, 1, 2, 3, 4, 5], []), ([6, 5, 5, 0, 1, 2, 3, 4, 5], [5, 6])])
def spec_l71Msg.B31 : List Nat := [0, 1, 0, 4, 12, 31, 63, 127]
theorem spec_l71Msg.tab31 : rtab .any (opsOf Tryd.f58 31) = spec_l71Msg.T31 := by kernel_rfl
theorem spec_l71Msg.bits31 : waitsOk spec_l71Msg.T31.2 spec_l71Msg.B31 = true := by kernel_rfl
set_option maxHeartbeats 8000000 in
set_option maxRecDepth 100000 in
theorem spec_l71Msg.calls (k : Nat) (g : Nat) (s0_0 : List Int) (s0_1 : Int) (r1 : Int) (r2 : Int) (r3 : Int) (r4 : Int) (r5 : List (S24)) (r6 : Int) (w0 w : World) (hI : IsS76 w0 w g s0_0 s0_1) (hB : Below w0.heap.size w0 w) (h : spec_l71Msg.f k s0_0 s0_1 = some (r1, r2, r3, r4, r5, r6)) :
  Calls Tryd.prog 58 #[.pointer (some ⟨g, 0, none⟩)] w fun e w' => ∃ v4_ : Value, e = .returned (.agg #[.int .i64 r1, .int .i64 r2, .int .i64 r3, .int .i64 r4, v4_]) ∧ Kd.R k24 24 w' w.heap.size (fun _ => True) v4_ r5 ∧ IsS76 w0 w' g s0_0 r6 ∧ Below w0.heap.size w0 w' ∧ KeepBut w w' g none := by
 have hu46 := Tryd.underlying46
 have HI0 := Aside0.mk hI
 have HK := Aside0.mk (KeepBut.refl w g none)
 have HL := Aside0.mk hB.size
 clear hI
 have HW0 := Aside0.mk hB.size
 have HB := Aside0.mk hB
 clear hB
 have H : ((spec_l6Rd_pick.f k s0_0 s0_1 6).bind fun bt375 => ((some (([] : List (S24)) : List (S24))).bind fun y377 => (if (wrap64 (1 + bt375.1)) = 1 then ((spec_l6Rd_pick.f k s0_0 bt375.2 3).bind fun bt381 => ((spec_l6Rd_pick.f k s0_0 bt381.2 9).bind fun bt383 => (spec_l71Msg.j0 k 0 s0_0 bt383.2 (wrap64 (1 + bt375.1)) (wrap64 (1 + bt381.1)) 0 (wrap64 (1 + bt383.1)) y377))) else (if (wrap64 (1 + bt375.1)) = 3 then ((spec_l6Rd_pick.f k s0_0 bt375.2 2).bind fun bt385 => ((spec_l6Rd_pick.f k s0_0 bt385.2 9).bind fun bt387 => (spec_l71Msg.j0 k 2 s0_0 bt387.2 (wrap64 (1 + bt375.1)) 0 (wrap64 (4 + bt385.1)) (wrap64 (1 + bt387.1)) y377))) else (if (wrap64 (1 + bt375.1)) = 5 then ((spec_l6Rd_pick.f k s0_0 bt375.2 2).bind fun bt389 => (spec_l71Msg.j0 k 2 s0_0 bt389.2 (wrap64 (1 + bt375.1)) 0 (wrap64 (4 + bt389.1)) 0 y377)) else (if (wrap64 (1 + bt375.1)) = 6 then ((spec_l6Rd_pick.f k s0_0 bt375.2 3).bind fun bt391 => (spec_l71Msg.j0 k 1 s0_0 bt391.2 (wrap64 (1 + bt375.1)) (wrap64 (1 + bt391.1)) 0 0 y377)) else ((spec_l6Rd_pick.f k s0_0 bt375.2 3).bind fun bt393 => (spec_l71Msg.j0 k 2 s0_0 bt393.2 (wrap64 (1 + bt375.1)) (wrap64 (1 + bt393.1)) 0 0 y377)))))))) = some (r1, r2, r3, r4, r5, r6) := h
 clear h
 replace H := Option.bind_eq_some_iff.mp H
 obtain ⟨⟨t375, t376⟩, A20, H⟩ := H
 replace H : ((some (([] : List (S24)) : List (S24))).bind fun y377 => (if (wrap64 (1 + t375)) = 1 then ((spec_l6Rd_pick.f k s0_0 t376 3).bind fun bt381 => ((spec_l6Rd_pick.f k s0_0 bt381.2 9).bind fun bt383 => (spec_l71Msg.j0 k 0 s0_0 bt383.2 (wrap64 (1 + t375)) (wrap64 (1 + bt381.1)) 0 (wrap64 (1 + bt383.1)) y377))) else (if (wrap64 (1 + t375)) = 3 then ((spec_l6Rd_pick.f k s0_0 t376 2).bind fun bt385 => ((spec_l6Rd_pick.f k s0_0 bt385.2 9).bind fun bt387 => (spec_l71Msg.j0 k 2 s0_0 bt387.2 (wrap64 (1 + t375)) 0 (wrap64 (4 + bt385.1)) (wrap64 (1 + bt387.1)) y377))) else (if (wrap64 (1 + t375)) = 5 then ((spec_l6Rd_pick.f k s0_0 t376 2).bind fun bt389 => (spec_l71Msg.j0 k 2 s0_0 bt389.2 (wrap64 (1 + t375)) 0 (wrap64 (4 + bt389.1)) 0 y377)) else (if (wrap64 (1 + t375)) = 6 then ((spec_l6Rd_pick.f k s0_0 t376 3).bind fun bt391 => (spec_l71Msg.j0 k 1 s0_0 bt391.2 (wrap64 (1 + t375)) (wrap64 (1 + bt391.1)) 0 0 y377)) else ((spec_l6Rd_pick.f k s0_0 t376 3).bind fun bt393 => (spec_l71Msg.j0 k 2 s0_0 bt393.2 (wrap64 (1 + t375)) (wrap64 (1 + bt393.1)) 0 0 y377))))))) = some (r1, r2, r3, r4, r5, r6) := H
 have A2 := Aside0.mk A20
 clear A20
 obtain ⟨y377, hy377⟩ : ∃ y_ : List (S24), y_ = (([] : List (S24))) := ⟨_, rfl⟩
 replace H : (if (wrap64 (1 + t375)) = 1 then ((spec_l6Rd_pick.f k s0_0 t376 3).bind fun bt381 => ((spec_l6Rd_pick.f k s0_0 bt381.2 9).bind fun bt383 => (spec_l71Msg.j0 k 0 s0_0 bt383.2 (wrap64 (1 + t375)) (wrap64 (1 + bt381.1)) 0 (wrap64 (1 + bt383.1)) y377))) else (if (wrap64 (1 + t375)) = 3 then ((spec_l6Rd_pick.f k s0_0 t376 2).bind fun bt385 => ((spec_l6Rd_pick.f k s0_0 bt385.2 9).bind fun bt387 => (spec_l71Msg.j0 k 2 s0_0 bt387.2 (wrap64 (1 + t375)) 0 (wrap64 (4 + bt385.1)) (wrap64 (1 + bt387.1)) y377))) else (if (wrap64 (1 + t375)) = 5 then ((spec_l6Rd_pick.f k s0_0 t376 2).bind fun bt389 => (spec_l71Msg.j0 k 2 s0_0 bt389.2 (wrap64 (1 + t375)) 0 (wrap64 (4 + bt389.1)) 0 y377)) else (if (wrap64 (1 + t375)) = 6 then ((spec_l6Rd_pick.f k s0_0 t376 3).bind fun bt391 => (spec_l71Msg.j0 k 1 s0_0 bt391.2 (wrap64 (1 + t375)) (wrap64 (1 + bt391.1)) 0 0 y377)) else ((spec_l6Rd_pick.f k s0_0 t376 3).bind fun bt393 => (spec_l71Msg.j0 k 2 s0_0 bt393.2 (wrap64 (1 + t375)) (wrap64 (1 + bt393.1)) 0 0 y377)))))) = some (r1, r2, r3, r4, r5, r6) := by first | (rw [hy377]; with_reducible exact H) | (have H2_ := (Option.bind_some _ _).symm.trans H; rw [hy377]; with_reducible exact H2_) | (have H2_ := (Option.bind_some _ _).symm.trans H; with_reducible exact H2_) | with_reducible exact H | (rw [hy377]; exact H) | exact H
 have Ny377 := Aside0.mk hy377
 clear hy377
 have HC3 := Aside0.mk H
 clear H
 go_enter Tryd.func58, Tryd.ntmps58
 go_upto_block 0 with (first | ((with_reducible refine gate_dst (N := 2) rfl ?_); refine box_event ?hg (N := 2) ?hd (cs := #[.int .i64 0, .int .i64 0, .int .i64 0, .int .i64 0, .slice none 0 0]) (t := 46) ?hr ?_; (case hd => rfl); (case hg => rfl); (case hr => first | (go_simp; done) | (go_simp; rfl)); intro gb374 hg w4 hbox hb; have n0_ := Aside0.mk (IsS76.below (by repeat (first | (with_reducible first | exact HI0.out | apply IsS76.alloc | apply IsS76.drewN | apply IsS76.drew | apply IsS76.set_1) | exact HI0.out)) hb); have n1_ := Aside0.mk (KeepBut.trans (by repeat (first | (with_reducible first | exact HK.out | apply KeepBut.set_ | apply keep_drewN | apply keep_drew | apply keep_alloc) | exact HK.out)) (KeepBut.of_below hb g none) (.inl rfl)); have n2_ := Aside0.mk (below_step (by repeat (first | (with_reducible first | exact HB.out | apply below_alloc | apply pw_below_drewN | apply below_drew1 | refine below_set ?_ (IsS76.ge HI0.out)) | exact HB.out)) hb); have n3_ := Aside0.mk (hbox); have n4_ := Aside0.mk ((z34x8 : w.heap.size ≤ gb374)); have n5_ := Aside0.mk ((Nat.le_trans HW0.out (z34x8 : w.heap.size ≤ gb374) : w0.heap.size ≤ gb374)); have n6_ := Aside0.mk ((by rw [hg]; exact Nat.ne_of_lt (IsS76.lt (show IsS76 w0 _ g s0_0 s0_1 from by repeat (first | (with_reducible first | exact HI0.out | apply IsS76.alloc | apply IsS76.drewN | apply IsS76.drew | apply IsS76.set_1) | exact HI0.out))) : g ≠ gb374)); have n7_ := Aside0.mk ((by rw [hg]; exact Nat.ne_of_gt (IsS76.lt (show IsS76 w0 _ g s0_0 s0_1 from by repeat (first | (with_reducible first | exact HI0.out | apply IsS76.alloc | apply IsS76.drewN | apply IsS76.drew | apply IsS76.set_1) | exact HI0.out))) : gb374 ≠ g)); clear HI0; clear HK; clear HB; have HI0 := n0_; have HK := n1_; have HB := n2_; have BK374 := n3_; have GW374 := n4_; have GE374 := n5_; have NB0_374 := n6_; have NB374_0 := n7_; clear n0_ n1_ n2_ n3_ n4_ n5_ n6_ n7_; clear hb hbox hg) | ((with_reducible refine gate_callee (f := 41) rfl ?_); refine goesL_ (some 7) rfl rfl Tryd.func41 (by kernel_rfl) rfl #[.pointer (some ⟨g, 0, none⟩), .int .i64 6] rfl z34x12 ?_; (with_reducible refine (spec_l6Rd_pick.calls k g s0_0 s0_1 6 t375 t376 w0 _ ?side1 ?side2 A2.out).mono ?_); (case side1 => repeat (first | (with_reducible first | exact HI0.out | apply IsS76.alloc | apply IsS76.drewN | apply IsS76.drew | apply IsS76.set_1 | refine IsS76.far ?_ NB0_374.out _) | exact HI0.out)); (case side2 => repeat (first | (with_reducible first | exact HB.out | apply below_alloc | apply pw_below_drewN | apply below_drew1 | refine below_set ?_ (IsS76.ge HI0.out) | refine below_set ?_ GE374.out) | exact HB.out)); rintro e w5 ⟨rfl, hi, hb, hk⟩; refine ⟨_, rfl, ?_⟩; have n0_ := Aside0.mk (KeepBut.blk hk (g' := gb374) (o := .cells #[.int .i64 0, .int .i64 0, .int .i64 0, .int .i64 0, .slice none 0 0] 46 (0, 0)) z34x13 NB374_0.out (by simp)); have n1_ := Aside0.mk (KeepBut.trans z34x11 hk (.inl rfl)); have n2_ := Aside0.mk (hb); have n3_ := Aside0.mk (hi); clear BK374; clear HK; clear HB; clear HI0; have BK374 := n0_; have HK := n1_; have HB := n2_; have HI0 := n3_; clear n0_ n1_ n2_ n3_; (try clear hb); (try clear hb2); (try clear hk); (try clear hi)) | ((with_reducible refine gate_dst (N := 9) rfl ?_); refine Kd.R_lit k24 _ 24 ?hg (N := 9) ?hd (xs := ([] : List (S24))) (inner := []) (ok := fun _ => True) (okp := fun _ => True) ?hr ?hp (fun _ hk => hk) trivial (Below.refl _ _) (Nat.le_refl _) (by simp) ?_; (case hd => rfl); (case hg => rfl); (case hr => first | (go_simp; done) | (go_simp; rfl)); (case hp => exact (Reps.none _ _)); intro v378 w6 ho7 hb hg_ hnew_; clear hg_ hnew_; (first | rw [← Ny377.out] at ho7 | (simp only [Int.reduceToNat] at ho7; rw [← Ny377.out] at ho7)); have n0_ := Aside0.mk (Kd.R_lower ho7 (keep_size (w := w) (g := g) (row := none) z34x11)); have n1_ := Aside0.mk (IsS76.below z34x10 hb); have n2_ := Aside0.mk (blk_below (g := gb374) (o := .cells #[.int .i64 0, .int .i64 0, .int .i64 0, .int .i64 0, .slice none 0 0] 46 (0, 0)) z34x13 hb); have n3_ := Aside0.mk (KeepBut.trans z34x11 (KeepBut.of_below hb g none) (.inl rfl)); have n4_ := Aside0.mk (below_step z34x9 hb); clear HI0; clear BK374; clear HK; clear HB; have HO379 := n0_; have HI0 := n1_; have BK374 := n2_; have HK := n3_; have HB := n4_; clear n0_ n1_ n2_ n3_ n4_; clear hb ho7; obtain ⟨Ao8, co8, eo8⟩ := Kd.R_slice HO379.out; subst eo8) | ((with_reducible refine gate_dst (N := 3) rfl ?_); refine box_event ?hg (N := 3) ?hd (cs := #[.int .i64 0, .int .i64 0, .int .i64 0, .int .i64 0, .slice none 0 0]) (t := 46) ?hr ?_; (case hd => rfl); (case hg => rfl); (case hr => first | (go_simp; done) | (go_simp; rfl)); intro gb380 hg w9 hbox hb; have n0_ := Aside0.mk (Kd.R_below (by (with_reducible repeat (first | apply Kd.R_alloc | apply Kd.R_drewN | apply Kd.R_drew)); exact HO379.out) hb); have n1_ := Aside0.mk (IsS76.below z34x10 hb); have n2_ := Aside0.mk (blk_below (g := gb374) (o := .cells #[.int .i64 0, .int .i64 0, .int .i64 0, .int .i64 0, .slice none 0 0] 46 (0, 0)) z34x13 hb); have n3_ := Aside0.mk (KeepBut.trans z34x11 (KeepBut.of_below hb g none) (.inl rfl)); have n4_ := Aside0.mk (below_step z34x9 hb); have n5_ := Aside0.mk (hbox); have n6_ := Aside0.mk ((z34x4 : w.heap.size ≤ gb380)); have n7_ := Aside0.mk ((Nat.le_trans HW0.out (z34x4 : w.heap.size ≤ gb380) : w0.heap.size ≤ gb380)); have n8_ := Aside0.mk ((by rw [hg]; exact Nat.ne_of_lt (blk_lt (g := gb374) (o := .cells #[.int .i64 0, .int .i64 0, .int .i64 0, .int .i64 0, .slice none 0 0] 46 (0, 0)) z34x13) : gb374 ≠ gb380)); have n9_ := Aside0.mk ((by rw [hg]; exact Nat.ne_of_gt (blk_lt (g := gb374) (o := .cells #[.int .i64 0, .int .i64 0, .int .i64 0, .int .i64 0, .slice none 0 0] 46 (0, 0)) z34x13) : gb380 ≠ gb374)); have n10_ := Aside0.mk ((by rw [hg]; exact Nat.ne_of_lt (IsS76.lt (show IsS76 w0 _ g s0_0 t376 from by repeat (first | (with_reducible first | exact HI0.out | apply IsS76.alloc | apply IsS76.drewN | apply IsS76.drew | apply IsS76.set_1 | refine IsS76.far ?_ NB0_374.out _) | exact HI0.out))) : g ≠ gb380)); have n11_ := Aside0.mk ((by rw [hg]; exact Nat.ne_of_gt (IsS76.lt (show IsS76 w0 _ g s0_0 t376 from by repeat (first | (with_reducible first | exact HI0.out | apply IsS76.alloc | apply IsS76.drewN | apply IsS76.drew | apply IsS76.set_1 | refine IsS76.far ?_ NB0_374.out _) | exact HI0.out))) : gb380 ≠ g)); clear HO379; clear HI0; clear BK374; clear HK; clear HB; have HO379 := n0_; have HI0 := n1_; have BK374 := n2_; have HK := n3_; have HB := n4_; have BK380 := n5_; have GW380 := n6_; have GE380 := n7_; have NB374_380 := n8_; have NB380_374 := n9_; have NB0_380 := n10_; have NB380_0 := n11_; clear n0_ n1_ n2_ n3_ n4_ n5_ n6_ n7_ n8_ n9_ n10_ n11_; clear hb hbox hg; have hnb10 := NB380_374.out; have hnc10 := NB374_380.out; have hnb11 := NB380_0.out; have hnc11 := NB0_380.out; have hcz12_0 : w9.cell? ⟨gb380, 0, none⟩ = some (.int .i64 0) := (blk_cell BK380.out 0).trans rfl; have hcz12_1 : w9.cell? ⟨gb380, 1, none⟩ = some (.int .i64 0) := (blk_cell BK380.out 1).trans rfl; have hcz12_2 : w9.cell? ⟨gb380, 2, none⟩ = some (.int .i64 0) := (blk_cell BK380.out 2).trans rfl; have hcz12_3 : w9.cell? ⟨gb380, 3, none⟩ = some (.int .i64 0) := (blk_cell BK380.out 3).trans rfl; have hcz12_4 : w9.cell? ⟨gb380, 4, none⟩ = some (.slice none 0 0) := (blk_cell BK380.out 4).trans rfl; have hfz12_0 := blk_frozen BK380.out 0; have hfz12_1 := blk_frozen BK380.out 1; have hfz12_2 := blk_frozen BK380.out 2; have hfz12_3 := blk_frozen BK380.out 3; have hfz12_4 := blk_frozen BK380.out 4))
 (try simp only [Act.put, List.setIfInBounds_toArray, List.set_cons_zero, List.set_cons_succ])
 go_cut [4] (fun v4 wc => ∃ (kq : Nat) (x4_2 : Int) (x1001_2 : Int) (x381001_2 : Int) (x381002_2 : Int) (x381003_2 : Int), v4 = .int .i64 x4_2 ∧ Aside0 (spec_l71Msg.j0 kq x4_2 s0_0 x1001_2 (wrap64 (1 + t375)) x381001_2 x381002_2 x381003_2 y377 = some (r1, r2, r3, r4, r5, r6)) ∧ Aside0 (kq ≤ k) ∧ Aside0 (Kd.R k24 24 wc w.heap.size (fun _ => True) (.slice Ao8 y377.length co8) y377) ∧ Aside0 (wc.heap[gb374]? = some (.cells #[.int .i64 0, .int .i64 0, .int .i64 0, .int .i64 0, (.slice none 0 0)] 46 (0, 0))) ∧ Aside0 (wc.heap[gb380]? = some (.cells #[.int .i64 (wrap64 (1 + t375)), .int .i64 x381001_2, .int .i64 x381002_2, .int .i64 x381003_2, (.slice Ao8 y377.length co8)] 46 (0, 0))) ∧ Aside0 (IsS76 w0 wc g s0_0 x1001_2) ∧ Aside0 (KeepBut w wc g none) ∧ Aside0 (Below w0.heap.size w0 wc))
 case first =>
  have H := HC3.out
  clear HC3
  by_cases c13 : (wrap64 (1 + t375)) = 1
  ·rw [if_pos c13] at H
   have c13b0 : ((wrap64 (1 + t375)) == 1) = true := beq_iff_eq.mpr c13
   have c13b1 : ((wrap64 (1 + t375)) != 1) = false := bne_eq_false_iff_eq.mpr c13
   clear c13
   (first | rw [c13b0] | (simp only [i64_w, i32_w]; rw [c13b0]) | skip)
   replace H := Option.bind_eq_some_iff.mp H
   obtain ⟨⟨t381, t382⟩, A140, H⟩ := H
   replace H : ((spec_l6Rd_pick.f k s0_0 t382 9).bind fun bt383 => (spec_l71Msg.j0 k 0 s0_0 bt383.2 (wrap64 (1 + t375)) (wrap64 (1 + t381)) 0 (wrap64 (1 + bt383.1)) y377)) = some (r1, r2, r3, r4, r5, r6) := H
   have A14 := Aside0.mk A140
   clear A140
   replace H := Option.bind_eq_some_iff.mp H
   obtain ⟨⟨t383, t384⟩, A150, H⟩ := H
   replace H : (spec_l71Msg.j0 k 0 s0_0 t384 (wrap64 (1 + t375)) (wrap64 (1 + t381)) 0 (wrap64 (1 + t383)) y377) = some (r1, r2, r3, r4, r5, r6) := H
   have A15 := Aside0.mk A150
   clear A150
   have H' := Aside0.mk H
   clear H
   go_wp2_with (first | ((with_reducible refine gate_callee (f := 41) rfl ?_); refine goesL_ (some 20) rfl rfl Tryd.func41 (by kernel_rfl) rfl #[.pointer (some ⟨g, 0, none⟩), .int .i64 3] rfl z34x12 ?_; (with_reducible refine (spec_l6Rd_pick.calls k g s0_0 t376 3 t381 t382 w0 _ ?side1 ?side2 A14.out).mono ?_); (case side1 => repeat (first | (with_reducible first | exact HI0.out | apply IsS76.alloc | apply IsS76.drewN | apply IsS76.drew | apply IsS76.set_1 | refine IsS76.far ?_ NB0_374.out _ | refine IsS76.far ?_ NB0_380.out _) | exact HI0.out)); (case side2 => repeat (first | (with_reducible first | exact HB.out | apply below_alloc | apply pw_below_drewN | apply below_drew1 | refine below_set ?_ (IsS76.ge HI0.out) | refine below_set ?_ GE374.out | refine below_set ?_ GE380.out) | exact HB.out)); rintro e w16 ⟨rfl, hi, hb, hk⟩; refine ⟨_, rfl, ?_⟩; have n0_ := Aside0.mk (KeepBut.blk hk (g' := gb374) (o := .cells #[.int .i64 0, .int .i64 0, .int .i64 0, .int .i64 0, .slice none 0 0] 46 (0, 0)) z34x1 NB374_0.out (by simp)); have n1_ := Aside0.mk (Kd.R_mono (Kd.R_keep (IsS76.apart (show IsS76 w0 _ g s0_0 t376 from by repeat (first | (with_reducible first | exact HI0.out | apply IsS76.alloc | apply IsS76.drewN | apply IsS76.drew | apply IsS76.set_1 | refine IsS76.far ?_ NB0_374.out _ | refine IsS76.far ?_ NB0_380.out _) | exact HI0.out)) z34x2 (by decide)) hk (fun _ h => h.2)) (fun _ h => h.1)); have n2_ := Aside0.mk (KeepBut.blk hk (g' := gb380) (o := .cells #[.int .i64 (wrap64 (1 + t375)), .int .i64 0, .int .i64 0, .int .i64 0, .slice Ao8 y377.length co8] 46 (0, 0)) z34x0 NB380_0.out (by simp)); have n3_ := Aside0.mk (KeepBut.trans z34x7 hk (.inl rfl)); have n4_ := Aside0.mk (hb); have n5_ := Aside0.mk (hi); clear BK374; clear HO379; clear BK380; clear HK; clear HB; clear HI0; have BK374 := n0_; have HO379 := n1_; have BK380 := n2_; have HK := n3_; have HB := n4_; have HI0 := n5_; clear n0_ n1_ n2_ n3_ n4_ n5_; (try clear hb); (try clear hb2); (try clear hk); (try clear hi); have hnb17 := NB380_374.out; have hnc17 := NB374_380.out; have hnb18 := NB380_0.out; have hnc18 := NB0_380.out; have hcz19_0 : w16.cell? ⟨gb380, 0, none⟩ = some (.int .i64 (wrap64 (1 + t375))) := (blk_cell BK380.out 0).trans rfl; have hcz19_1 : w16.cell? ⟨gb380, 1, none⟩ = some (.int .i64 0) := (blk_cell BK380.out 1).trans rfl; have hcz19_2 : w16.cell? ⟨gb380, 2, none⟩ = some (.int .i64 0) := (blk_cell BK380.out 2).trans rfl; have hcz19_3 : w16.cell? ⟨gb380, 3, none⟩ = some (.int .i64 0) := (blk_cell BK380.out 3).trans rfl; have hcz19_4 : w16.cell? ⟨gb380, 4, none⟩ = some (.slice Ao8 y377.length co8) := (blk_cell BK380.out 4).trans rfl; have hfz19_0 := blk_frozen BK380.out 0; have hfz19_1 := blk_frozen BK380.out 1; have hfz19_2 := blk_frozen BK380.out 2; have hfz19_3 := blk_frozen BK380.out 3; have hfz19_4 := blk_frozen BK380.out 4) | ((with_reducible refine gate_callee (f := 41) rfl ?_); refine goesL_ (some 24) rfl rfl Tryd.func41 (by kernel_rfl) rfl #[.pointer (some ⟨g, 0, none⟩), .int .i64 9] rfl z34x12 ?_; (with_reducible refine (spec_l6Rd_pick.calls k g s0_0 t382 9 t383 t384 w0 _ ?side1 ?side2 A15.out).mono ?_); (case side1 => repeat (first | (with_reducible first | exact HI0.out | apply IsS76.alloc | apply IsS76.drewN | apply IsS76.drew | apply IsS76.set_1 | refine IsS76.far ?_ NB0_374.out _ | refine IsS76.far ?_ NB0_380.out _) | exact HI0.out)); (case side2 => repeat (first | (with_reducible first | exact HB.out | apply below_alloc | apply pw_below_drewN | apply below_drew1 | refine below_set ?_ (IsS76.ge HI0.out) | refine below_set ?_ GE374.out | refine below_set ?_ GE380.out) | exact HB.out)); rintro e w20 ⟨rfl, hi, hb, hk⟩; refine ⟨_, rfl, ?_⟩; have n0_ := Aside0.mk (KeepBut.blk hk (g' := gb374) (o := .cells #[.int .i64 0, .int .i64 0, .int .i64 0, .int .i64 0, .slice none 0 0] 46 (0, 0)) z34x3 NB374_0.out (by simp)); have n1_ := Aside0.mk (Kd.R_mono (Kd.R_keep (IsS76.apart (show IsS76 w0 _ g s0_0 t382 from by repeat (first | (with_reducible first | exact HI0.out | apply IsS76.alloc | apply IsS76.drewN | apply IsS76.drew | apply IsS76.set_1 | refine IsS76.far ?_ NB0_374.out _ | refine IsS76.far ?_ NB0_380.out _) | exact HI0.out)) (by (with_reducible repeat (first | apply Kd.R_alloc | apply Kd.R_drewN | apply Kd.R_drew)); exact (Kd.R_mono (Kd.R_far (p := ⟨gb380, 1, none⟩) (Kd.R_types HO379.out BK380.out (by decide)) (fun _ hk => hk.2) (.int .i64 (wrap64 (1 + t381)))) (fun _ h_ => h_.1))) (by decide)) hk (fun _ h => h.2)) (fun _ h => h.1)); have n2_ := Aside0.mk (KeepBut.blk hk (g' := gb380) (o := .cells #[.int .i64 (wrap64 (1 + t375)), .int .i64 (wrap64 (1 + t381)), .int .i64 0, .int .i64 0, .slice Ao8 y377.length co8] 46 (0, 0)) (by (with_reducible repeat (first | refine blk_drewN ?_ _ | refine blk_drew ?_ | refine blk_alloc ?_ _)); refine blk_put (cs := #[.int .i64 (wrap64 (1 + t375)), .int .i64 0, .int .i64 0, .int .i64 0, .slice Ao8 y377.length co8]) ?_ 1 _ rfl; (with_reducible repeat (first | refine blk_drewN ?_ _ | refine blk_drew ?_ | refine blk_alloc ?_ _)); exact BK380.out) NB380_0.out (by simp)); have n3_ := Aside0.mk (KeepBut.trans z34x7 hk (.inl rfl)); have n4_ := Aside0.mk (hb); have n5_ := Aside0.mk (hi); clear BK374; clear HO379; clear BK380; clear HK; clear HB; clear HI0; have BK374 := n0_; have HO379 := n1_; have BK380 := n2_; have HK := n3_; have HB := n4_; have HI0 := n5_; clear n0_ n1_ n2_ n3_ n4_ n5_; (try clear hb); (try clear hb2); (try clear hk); (try clear hi); have hcz21_0 : w20.cell? ⟨gb380, 0, none⟩ = some (.int .i64 (wrap64 (1 + t375))) := (blk_cell BK380.out 0).trans rfl; have hcz21_1 : w20.cell? ⟨gb380, 1, none⟩ = some (.int .i64 (wrap64 (1 + t381))) := (blk_cell BK380.out 1).trans rfl; have hcz21_2 : w20.cell? ⟨gb380, 2, none⟩ = some (.int .i64 0) := (blk_cell BK380.out 2).trans rfl; have hcz21_3 : w20.cell? ⟨gb380, 3, none⟩ = some (.int .i64 0) := (blk_cell BK380.out 3).trans rfl; have hcz21_4 : w20.cell? ⟨gb380, 4, none⟩ = some (.slice Ao8 y377.length co8) := (blk_cell BK380.out 4).trans rfl; have hfz21_0 := blk_frozen BK380.out 0; have hfz21_1 := blk_frozen BK380.out 1; have hfz21_2 := blk_frozen BK380.out 2; have hfz21_3 := blk_frozen BK380.out 3; have hfz21_4 := blk_frozen BK380.out 4))
   go_meet
   case rel => exact ⟨_, (0), (t384), (wrap64 (1 + t381)), (0), (wrap64 (1 + t383)), (by first | rfl | (simp; done) | (simp [*]; done)), H', ⟨by first | omega | exact Nat.le_refl _⟩, ⟨by (with_reducible repeat (first | apply Kd.R_alloc | apply Kd.R_drewN | apply Kd.R_drew)); exact Kd.R_mono (Kd.R_far (p := ⟨gb380, 3, none⟩) (Kd.R_types HO379.out BK380.out (by decide)) (fun _ hk => hk.2) (.int .i64 (wrap64 (1 + t383)))) (fun _ hk => trivial)⟩, ⟨by (with_reducible repeat (first | refine blk_drewN ?_ _ | refine blk_drew ?_ | refine blk_alloc ?_ _)); refine blk_far ?_ NB374_380.out _; (with_reducible repeat (first | refine blk_drewN ?_ _ | refine blk_drew ?_ | refine blk_alloc ?_ _)); exact BK374.out⟩, ⟨by (with_reducible repeat (first | refine blk_drewN ?_ _ | refine blk_drew ?_ | refine blk_alloc ?_ _)); refine blk_put (cs := #[.int .i64 (wrap64 (1 + t375)), .int .i64 (wrap64 (1 + t381)), .int .i64 0, .int .i64 0, .slice Ao8 y377.length co8]) ?_ 3 _ rfl; (with_reducible repeat (first | refine blk_drewN ?_ _ | refine blk_drew ?_ | refine blk_alloc ?_ _)); exact BK380.out⟩, ⟨by repeat (first | (with_reducible first | exact HI0.out | apply IsS76.alloc | apply IsS76.drewN | apply IsS76.drew | apply IsS76.set_1 | refine IsS76.far ?_ NB0_374.out _ | refine IsS76.far ?_ NB0_380.out _) | exact HI0.out)⟩, ⟨by repeat (first | (with_reducible first | exact HK.out | apply KeepBut.set_ | apply keep_drewN | apply keep_drew | apply keep_alloc | refine keep_far ?_ GW374.out _ | refine keep_far ?_ GW380.out _) | exact HK.out)⟩, ⟨by repeat (first | (with_reducible first | exact HB.out | apply below_alloc | apply pw_below_drewN | apply below_drew1 | refine below_set ?_ (IsS76.ge HI0.out) | refine below_set ?_ GE374.out | refine below_set ?_ GE380.out) | exact HB.out)⟩⟩
  ·rw [if_neg c13] at H
   have c13b0 : ((wrap64 (1 + t375)) == 1) = false := beq_eq_false_iff_ne.mpr c13
   have c13b1 : ((wrap64 (1 + t375)) != 1) = true := bne_iff_ne.mpr c13
   (first | rw [c13b0] | (simp only [i64_w, i32_w]; rw [c13b0]) | skip)
   by_cases c22 : (wrap64 (1 + t375)) = 3
   ·rw [if_pos c22] at H
    have c22b0 : ((wrap64 (1 + t375)) == 3) = true := beq_iff_eq.mpr c22
    have c22b1 : ((wrap64 (1 + t375)) != 3) = false := bne_eq_false_iff_eq.mpr c22
    clear c22
    replace H := Option.bind_eq_some_iff.mp H
    obtain ⟨⟨t385, t386⟩, A230, H⟩ := H
    replace H : ((spec_l6Rd_pick.f k s0_0 t386 9).bind fun bt387 => (spec_l71Msg.j0 k 2 s0_0 bt387.2 (wrap64 (1 + t375)) 0 (wrap64 (4 + t385)) (wrap64 (1 + bt387.1)) y377)) = some (r1, r2, r3, r4, r5, r6) := H
    have A23 := Aside0.mk A230
    clear A230
    replace H := Option.bind_eq_some_iff.mp H
    obtain ⟨⟨t387, t388⟩, A240, H⟩ := H
    replace H : (spec_l71Msg.j0 k 2 s0_0 t388 (wrap64 (1 + t375)) 0 (wrap64 (4 + t385)) (wrap64 (1 + t387)) y377) = some (r1, r2, r3, r4, r5, r6) := H
    have A24 := Aside0.mk A240
    clear A240
    have H' := Aside0.mk H
    clear H
    go_wp2_with (first | ((with_reducible refine gate_callee (f := 41) rfl ?_); refine goesL_ (some 30) rfl rfl Tryd.func41 (by kernel_rfl) rfl #[.pointer (some ⟨g, 0, none⟩), .int .i64 2] rfl z34x12 ?_; (with_reducible refine (spec_l6Rd_pick.calls k g s0_0 t376 2 t385 t386 w0 _ ?side1 ?side2 A23.out).mono ?_); (case side1 => repeat (first | (with_reducible first | exact HI0.out | apply IsS76.alloc | apply IsS76.drewN | apply IsS76.drew | apply IsS76.set_1 | refine IsS76.far ?_ NB0_374.out _ | refine IsS76.far ?_ NB0_380.out _) | exact HI0.out)); (case side2 => repeat (first | (with_reducible first | exact HB.out | apply below_alloc | apply pw_below_drewN | apply below_drew1 | refine below_set ?_ (IsS76.ge HI0.out) | refine below_set ?_ GE374.out | refine below_set ?_ GE380.out) | exact HB.out)); rintro e w25 ⟨rfl, hi, hb, hk⟩; refine ⟨_, rfl, ?_⟩; have n0_ := Aside0.mk (KeepBut.blk hk (g' := gb374) (o := .cells #[.int .i64 0, .int .i64 0, .int .i64 0, .int .i64 0, .slice none 0 0] 46 (0, 0)) z34x1 NB374_0.out (by simp)); have n1_ := Aside0.mk (Kd.R_mono (Kd.R_keep (IsS76.apart (show IsS76 w0 _ g s0_0 t376 from by repeat (first | (with_reducible first | exact HI0.out | apply IsS76.alloc | apply IsS76.drewN | apply IsS76.drew | apply IsS76.set_1 | refine IsS76.far ?_ NB0_374.out _ | refine IsS76.far ?_ NB0_380.out _) | exact HI0.out)) z34x2 (by decide)) hk (fun _ h => h.2)) (fun _ h => h.1)); have n2_ := Aside0.mk (KeepBut.blk hk (g' := gb380) (o := .cells #[.int .i64 (wrap64 (1 + t375)), .int .i64 0, .int .i64 0, .int .i64 0, .slice Ao8 y377.length co8] 46 (0, 0)) z34x0 NB380_0.out (by simp)); have n3_ := Aside0.mk (KeepBut.trans z34x7 hk (.inl rfl)); have n4_ := Aside0.mk (hb); have n5_ := Aside0.mk (hi); clear BK374; clear HO379; clear BK380; clear HK; clear HB; clear HI0; have BK374 := n0_; have HO379 := n1_; have BK380 := n2_; have HK := n3_; have HB := n4_; have HI0 := n5_; clear n0_ n1_ n2_ n3_ n4_ n5_; (try clear hb); (try clear hb2); (try clear hk); (try clear hi); have hnb26 := NB380_374.out; have hnc26 := NB374_380.out; have hnb27 := NB380_0.out; have hnc27 := NB0_380.out; have hcz28_0 : w25.cell? ⟨gb380, 0, none⟩ = some (.int .i64 (wrap64 (1 + t375))) := (blk_cell BK380.out 0).trans rfl; have hcz28_1 : w25.cell? ⟨gb380, 1, none⟩ = some (.int .i64 0) := (blk_cell BK380.out 1).trans rfl; have hcz28_2 : w25.cell? ⟨gb380, 2, none⟩ = some (.int .i64 0) := (blk_cell BK380.out 2).trans rfl; have hcz28_3 : w25.cell? ⟨gb380, 3, none⟩ = some (.int .i64 0) := (blk_cell BK380.out 3).trans rfl; have hcz28_4 : w25.cell? ⟨gb380, 4, none⟩ = some (.slice Ao8 y377.length co8) := (blk_cell BK380.out 4).trans rfl; have hfz28_0 := blk_frozen BK380.out 0; have hfz28_1 := blk_frozen BK380.out 1; have hfz28_2 := blk_frozen BK380.out 2; have hfz28_3 := blk_frozen BK380.out 3; have hfz28_4 := blk_frozen BK380.out 4) | ((with_reducible refine gate_callee (f := 41) rfl ?_); refine goesL_ (some 34) rfl rfl Tryd.func41 (by kernel_rfl) rfl #[.pointer (some ⟨g, 0, none⟩), .int .i64 9] rfl z34x12 ?_; (with_reducible refine (spec_l6Rd_pick.calls k g s0_0 t386 9 t387 t388 w0 _ ?side1 ?side2 A24.out).mono ?_); (case side1 => repeat (first | (with_reducible first | exact HI0.out | apply IsS76.alloc | apply IsS76.drewN | apply IsS76.drew | apply IsS76.set_1 | refine IsS76.far ?_ NB0_374.out _ | refine IsS76.far ?_ NB0_380.out _) | exact HI0.out)); (case side2 => repeat (first | (with_reducible first | exact HB.out | apply below_alloc | apply pw_below_drewN | apply below_drew1 | refine below_set ?_ (IsS76.ge HI0.out) | refine below_set ?_ GE374.out | refine below_set ?_ GE380.out) | exact HB.out)); rintro e w29 ⟨rfl, hi, hb, hk⟩; refine ⟨_, rfl, ?_⟩; have n0_ := Aside0.mk (KeepBut.blk hk (g' := gb374) (o := .cells #[.int .i64 0, .int .i64 0, .int .i64 0, .int .i64 0, .slice none 0 0] 46 (0, 0)) z34x3 NB374_0.out (by simp)); have n1_ := Aside0.mk (Kd.R_mono (Kd.R_keep (IsS76.apart (show IsS76 w0 _ g s0_0 t386 from by repeat (first | (with_reducible first | exact HI0.out | apply IsS76.alloc | apply IsS76.drewN | apply IsS76.drew | apply IsS76.set_1 | refine IsS76.far ?_ NB0_374.out _ | refine IsS76.far ?_ NB0_380.out _) | exact HI0.out)) (by (with_reducible repeat (first | apply Kd.R_alloc | apply Kd.R_drewN | apply Kd.R_drew)); exact (Kd.R_mono (Kd.R_far (p := ⟨gb380, 2, none⟩) (Kd.R_types HO379.out BK380.out (by decide)) (fun _ hk => hk.2) (.int .i64 (wrap64 (4 + t385)))) (fun _ h_ => h_.1))) (by decide)) hk (fun _ h => h.2)) (fun _ h => h.1)); have n2_ := Aside0.mk (KeepBut.blk hk (g' := gb380) (o := .cells #[.int .i64 (wrap64 (1 + t375)), .int .i64 0, .int .i64 (wrap64 (4 + t385)), .int .i64 0, .slice Ao8 y377.length co8] 46 (0, 0)) (by (with_reducible repeat (first | refine blk_drewN ?_ _ | refine blk_drew ?_ | refine blk_alloc ?_ _)); refine blk_put (cs := #[.int .i64 (wrap64 (1 + t375)), .int .i64 0, .int .i64 0, .int .i64 0, .slice Ao8 y377.length co8]) ?_ 2 _ rfl; (with_reducible repeat (first | refine blk_drewN ?_ _ | refine blk_drew ?_ | refine blk_alloc ?_ _)); exact BK380.out) NB380_0.out (by simp)); have n3_ := Aside0.mk (KeepBut.trans z34x7 hk (.inl rfl)); have n4_ := Aside0.mk (hb); have n5_ := Aside0.mk (hi); clear BK374; clear HO379; clear BK380; clear HK; clear HB; clear HI0; have BK374 := n0_; have HO379 := n1_; have BK380 := n2_; have HK := n3_; have HB := n4_; have HI0 := n5_; clear n0_ n1_ n2_ n3_ n4_ n5_; (try clear hb); (try clear hb2); (try clear hk); (try clear hi); have hcz30_0 : w29.cell? ⟨gb380, 0, none⟩ = some (.int .i64 (wrap64 (1 + t375))) := (blk_cell BK380.out 0).trans rfl; have hcz30_1 : w29.cell? ⟨gb380, 1, none⟩ = some (.int .i64 0) := (blk_cell BK380.out 1).trans rfl; have hcz30_2 : w29.cell? ⟨gb380, 2, none⟩ = some (.int .i64 (wrap64 (4 + t385))) := (blk_cell BK380.out 2).trans rfl; have hcz30_3 : w29.cell? ⟨gb380, 3, none⟩ = some (.int .i64 0) := (blk_cell BK380.out 3).trans rfl; have hcz30_4 : w29.cell? ⟨gb380, 4, none⟩ = some (.slice Ao8 y377.length co8) := (blk_cell BK380.out 4).trans rfl; have hfz30_0 := blk_frozen BK380.out 0; have hfz30_1 := blk_frozen BK380.out 1; have hfz30_2 := blk_frozen BK380.out 2; have hfz30_3 := blk_frozen BK380.out 3; have hfz30_4 := blk_frozen BK380.out 4))
    go_meet
    case rel => exact ⟨_, (2), (t388), (0), (wrap64 (4 + t385)), (wrap64 (1 + t387)), (by first | rfl | (simp; done) | (simp [*]; done)), H', ⟨by first | omega | exact Nat.le_refl _⟩, ⟨by (with_reducible repeat (first | apply Kd.R_alloc | apply Kd.R_drewN | apply Kd.R_drew)); exact Kd.R_mono (Kd.R_far (p := ⟨gb380, 3, none⟩) (Kd.R_types HO379.out BK380.out (by decide)) (fun _ hk => hk.2) (.int .i64 (wrap64 (1 + t387)))) (fun _ hk => trivial)⟩, ⟨by (with_reducible repeat (first | refine blk_drewN ?_ _ | refine blk_drew ?_ | refine blk_alloc ?_ _)); refine blk_far ?_ NB374_380.out _; (with_reducible repeat (first | refine blk_drewN ?_ _ | refine blk_drew ?_ | refine blk_alloc ?_ _)); exact BK374.out⟩, ⟨by (with_reducible repeat (first | refine blk_drewN ?_ _ | refine blk_drew ?_ | refine blk_alloc ?_ _)); refine blk_put (cs := #[.int .i64 (wrap64 (1 + t375)), .int .i64 0, .int .i64 (wrap64 (4 + t385)), .int .i64 0, .slice Ao8 y377.length co8]) ?_ 3 _ rfl; (with_reducible repeat (first | refine blk_drewN ?_ _ | refine blk_drew ?_ | refine blk_alloc ?_ _)); exact BK380.out⟩, ⟨by repeat (first | (with_reducible first | exact HI0.out | apply IsS76.alloc | apply IsS76.drewN | apply IsS76.drew | apply IsS76.set_1 | refine IsS76.far ?_ NB0_374.out _ | refine IsS76.far ?_ NB0_380.out _) | exact HI0.out)⟩, ⟨by repeat (first | (with_reducible first | exact HK.out | apply KeepBut.set_ | apply keep_drewN | apply keep_drew | apply keep_alloc | refine keep_far ?_ GW374.out _ | refine keep_far ?_ GW380.out _) | exact HK.out)⟩, ⟨by repeat (first | (with_reducible first | exact HB.out | apply below_alloc | apply pw_below_drewN | apply below_drew1 | refine below_set ?_ (IsS76.ge HI0.out) | refine below_set ?_ GE374.out | refine below_set ?_ GE380.out) | exact HB.out)⟩⟩
   ·rw [if_neg c22] at H
    have c22b0 : ((wrap64 (1 + t375)) == 3) = false := beq_eq_false_iff_ne.mpr c22
    have c22b1 : ((wrap64 (1 + t375)) != 3) = true := bne_iff_ne.mpr c22
    by_cases c31 : (wrap64 (1 + t375)) = 5
    ·rw [if_pos c31] at H
     have c31b0 : ((wrap64 (1 + t375)) == 5) = true := beq_iff_eq.mpr c31
     have c31b1 : ((wrap64 (1 + t375)) != 5) = false := bne_eq_false_iff_eq.mpr c31
     clear c31
     replace H := Option.bind_eq_some_iff.mp H
     obtain ⟨⟨t389, t390⟩, A320, H⟩ := H
     replace H : (spec_l71Msg.j0 k 2 s0_0 t390 (wrap64 (1 + t375)) 0 (wrap64 (4 + t389)) 0 y377) = some (r1, r2, r3, r4, r5, r6) := H
     have A32 := Aside0.mk A320
     clear A320
     have H' := Aside0.mk H
     clear H
     go_wp2_with (first | ((with_reducible refine gate_callee (f := 41) rfl ?_); refine goesL_ (some 40) rfl rfl Tryd.func41 (by kernel_rfl) rfl #[.pointer (some ⟨g, 0, none⟩), .int .i64 2] rfl z34x12 ?_; (with_reducible refine (spec_l6Rd_pick.calls k g s0_0 t376 2 t389 t390 w0 _ ?side1 ?side2 A32.out).mono ?_); (case side1 => repeat (first | (with_reducible first | exact HI0.out | apply IsS76.alloc | apply IsS76.drewN | apply IsS76.drew | apply IsS76.set_1 | refine IsS76.far ?_ NB0_374.out _ | refine IsS76.far ?_ NB0_380.out _) | exact HI0.out)); (case side2 => repeat (first | (with_reducible first | exact HB.out | apply below_alloc | apply pw_below_drewN | apply below_drew1 | refine below_set ?_ (IsS76.ge HI0.out) | refine below_set ?_ GE374.out | refine below_set ?_ GE380.out) | exact HB.out)); rintro e w33 ⟨rfl, hi, hb, hk⟩; refine ⟨_, rfl, ?_⟩; have n0_ := Aside0.mk (KeepBut.blk hk (g' := gb374) (o := .cells #[.int .i64 0, .int .i64 0, .int .i64 0, .int .i64 0, .slice none 0 0] 46 (0, 0)) z34x1 NB374_0.out (by simp)); have n1_ := Aside0.mk (Kd.R_mono (Kd.R_keep (IsS76.apart (show IsS76 w0 _ g s0_0 t376 from by repeat (first | (with_reducible first | exact HI0.out | apply IsS76.alloc | apply IsS76.drewN | apply IsS76.drew | apply IsS76.set_1 | refine IsS76.far ?_ NB0_374.out _ | refine IsS76.far ?_ NB0_380.out _) | exact HI0.out)) z34x2 (by decide)) hk (fun _ h => h.2)) (fun _ h => h.1)); have n2_ := Aside0.mk (KeepBut.blk hk (g' := gb380) (o := .cells #[.int .i64 (wrap64 (1 + t375)), .int .i64 0, .int .i64 0, .int .i64 0, .slice Ao8 y377.length co8] 46 (0, 0)) z34x0 NB380_0.out (by simp)); have n3_ := Aside0.mk (KeepBut.trans z34x7 hk (.inl rfl)); have n4_ := Aside0.mk (hb); have n5_ := Aside0.mk (hi); clear BK374; clear HO379; clear BK380; clear HK; clear HB; clear HI0; have BK374 := n0_; have HO379 := n1_; have BK380 := n2_; have HK := n3_; have HB := n4_; have HI0 := n5_; clear n0_ n1_ n2_ n3_ n4_ n5_; (try clear hb); (try clear hb2); (try clear hk); (try clear hi); have hnb34 := NB380_374.out; have hnc34 := NB374_380.out; have hnb35 := NB380_0.out; have hnc35 := NB0_380.out; have hcz36_0 : w33.cell? ⟨gb380, 0, none⟩ = some (.int .i64 (wrap64 (1 + t375))) := (blk_cell BK380.out 0).trans rfl; have hcz36_1 : w33.cell? ⟨gb380, 1, none⟩ = some (.int .i64 0) := (blk_cell BK380.out 1).trans rfl; have hcz36_2 : w33.cell? ⟨gb380, 2, none⟩ = some (.int .i64 0) := (blk_cell BK380.out 2).trans rfl; have hcz36_3 : w33.cell? ⟨gb380, 3, none⟩ = some (.int .i64 0) := (blk_cell BK380.out 3).trans rfl; have hcz36_4 : w33.cell? ⟨gb380, 4, none⟩ = some (.slice Ao8 y377.length co8) := (blk_cell BK380.out 4).trans rfl; have hfz36_0 := blk_frozen BK380.out 0; have hfz36_1 := blk_frozen BK380.out 1; have hfz36_2 := blk_frozen BK380.out 2; have hfz36_3 := blk_frozen BK380.out 3; have hfz36_4 := blk_frozen BK380.out 4))
     go_meet
     case rel => exact ⟨_, (2), (t390), (0), (wrap64 (4 + t389)), (0), (by first | rfl | (simp; done) | (simp [*]; done)), H', ⟨by first | omega | exact Nat.le_refl _⟩, ⟨by (with_reducible repeat (first | apply Kd.R_alloc | apply Kd.R_drewN | apply Kd.R_drew)); exact Kd.R_mono (Kd.R_far (p := ⟨gb380, 2, none⟩) (Kd.R_types HO379.out BK380.out (by decide)) (fun _ hk => hk.2) (.int .i64 (wrap64 (4 + t389)))) (fun _ hk => trivial)⟩, ⟨by (with_reducible repeat (first | refine blk_drewN ?_ _ | refine blk_drew ?_ | refine blk_alloc ?_ _)); refine blk_far ?_ NB374_380.out _; (with_reducible repeat (first | refine blk_drewN ?_ _ | refine blk_drew ?_ | refine blk_alloc ?_ _)); exact BK374.out⟩, ⟨by (with_reducible repeat (first | refine blk_drewN ?_ _ | refine blk_drew ?_ | refine blk_alloc ?_ _)); refine blk_put (cs := #[.int .i64 (wrap64 (1 + t375)), .int .i64 0, .int .i64 0, .int .i64 0, .slice Ao8 y377.length co8]) ?_ 2 _ rfl; (with_reducible repeat (first | refine blk_drewN ?_ _ | refine blk_drew ?_ | refine blk_alloc ?_ _)); exact BK380.out⟩, ⟨by repeat (first | (with_reducible first | exact HI0.out | apply IsS76.alloc | apply IsS76.drewN | apply IsS76.drew | apply IsS76.set_1 | refine IsS76.far ?_ NB0_374.out _ | refine IsS76.far ?_ NB0_380.out _) | exact HI0.out)⟩, ⟨by repeat (first | (with_reducible first | exact HK.out | apply KeepBut.set_ | apply keep_drewN | apply keep_drew | apply keep_alloc | refine keep_far ?_ GW374.out _ | refine keep_far ?_ GW380.out _) | exact HK.out)⟩, ⟨by repeat (first | (with_reducible first | exact HB.out | apply below_alloc | apply pw_below_drewN | apply below_drew1 | refine below_set ?_ (IsS76.ge HI0.out) | refine below_set ?_ GE374.out | refine below_set ?_ GE380.out) | exact HB.out)⟩⟩
    ·rw [if_neg c31] at H
     have c31b0 : ((wrap64 (1 + t375)) == 5) = false := beq_eq_false_iff_ne.mpr c31
     have c31b1 : ((wrap64 (1 + t375)) != 5) = true := bne_iff_ne.mpr c31
     by_cases c37 : (wrap64 (1 + t375)) = 6
     ·rw [if_pos c37] at H
      have c37b0 : ((wrap64 (1 + t375)) == 6) = true := beq_iff_eq.mpr c37
      have c37b1 : ((wrap64 (1 + t375)) != 6) = false := bne_eq_false_iff_eq.mpr c37
      clear c37
      replace H := Option.bind_eq_some_iff.mp H
      obtain ⟨⟨t391, t392⟩, A380, H⟩ := H
      replace H : (spec_l71Msg.j0 k 1 s0_0 t392 (wrap64 (1 + t375)) (wrap64 (1 + t391)) 0 0 y377) = some (r1, r2, r3, r4, r5, r6) := H
      have A38 := Aside0.mk A380
      clear A380
      have H' := Aside0.mk H
      clear H
      go_wp2_with (first | ((with_reducible refine gate_callee (f := 41) rfl ?_); refine goesL_ (some 46) rfl rfl Tryd.func41 (by kernel_rfl) rfl #[.pointer (some ⟨g, 0, none⟩), .int .i64 3] rfl z34x12 ?_; (with_reducible refine (spec_l6Rd_pick.calls k g s0_0 t376 3 t391 t392 w0 _ ?side1 ?side2 A38.out).mono ?_); (case side1 => repeat (first | (with_reducible first | exact HI0.out | apply IsS76.alloc | apply IsS76.drewN | apply IsS76.drew | apply IsS76.set_1 | refine IsS76.far ?_ NB0_374.out _ | refine IsS76.far ?_ NB0_380.out _) | exact HI0.out)); (case side2 => repeat (first | (with_reducible first | exact HB.out | apply below_alloc | apply pw_below_drewN | apply below_drew1 | refine below_set ?_ (IsS76.ge HI0.out) | refine below_set ?_ GE374.out | refine below_set ?_ GE380.out) | exact HB.out)); rintro e w39 ⟨rfl, hi, hb, hk⟩; refine ⟨_, rfl, ?_⟩; have n0_ := Aside0.mk (KeepBut.blk hk (g' := gb374) (o := .cells #[.int .i64 0, .int .i64 0, .int .i64 0, .int .i64 0, .slice none 0 0] 46 (0, 0)) z34x1 NB374_0.out (by simp)); have n1_ := Aside0.mk (Kd.R_mono (Kd.R_keep (IsS76.apart (show IsS76 w0 _ g s0_0 t376 from by repeat (first | (with_reducible first | exact HI0.out | apply IsS76.alloc | apply IsS76.drewN | apply IsS76.drew | apply IsS76.set_1 | refine IsS76.far ?_ NB0_374.out _ | refine IsS76.far ?_ NB0_380.out _) | exact HI0.out)) z34x2 (by decide)) hk (fun _ h => h.2)) (fun _ h => h.1)); have n2_ := Aside0.mk (KeepBut.blk hk (g' := gb380) (o := .cells #[.int .i64 (wrap64 (1 + t375)), .int .i64 0, .int .i64 0, .int .i64 0, .slice Ao8 y377.length co8] 46 (0, 0)) z34x0 NB380_0.out (by simp)); have n3_ := Aside0.mk (KeepBut.trans z34x7 hk (.inl rfl)); have n4_ := Aside0.mk (hb); have n5_ := Aside0.mk (hi); clear BK374; clear HO379; clear BK380; clear HK; clear HB; clear HI0; have BK374 := n0_; have HO379 := n1_; have BK380 := n2_; have HK := n3_; have HB := n4_; have HI0 := n5_; clear n0_ n1_ n2_ n3_ n4_ n5_; (try clear hb); (try clear hb2); (try clear hk); (try clear hi); have hnb40 := NB380_374.out; have hnc40 := NB374_380.out; have hnb41 := NB380_0.out; have hnc41 := NB0_380.out; have hcz42_0 : w39.cell? ⟨gb380, 0, none⟩ = some (.int .i64 (wrap64 (1 + t375))) := (blk_cell BK380.out 0).trans rfl; have hcz42_1 : w39.cell? ⟨gb380, 1, none⟩ = some (.int .i64 0) := (blk_cell BK380.out 1).trans rfl; have hcz42_2 : w39.cell? ⟨gb380, 2, none⟩ = some (.int .i64 0) := (blk_cell BK380.out 2).trans rfl; have hcz42_3 : w39.cell? ⟨gb380, 3, none⟩ = some (.int .i64 0) := (blk_cell BK380.out 3).trans rfl; have hcz42_4 : w39.cell? ⟨gb380, 4, none⟩ = some (.slice Ao8 y377.length co8) := (blk_cell BK380.out 4).trans rfl; have hfz42_0 := blk_frozen BK380.out 0; have hfz42_1 := blk_frozen BK380.out 1; have hfz42_2 := blk_frozen BK380.out 2; have hfz42_3 := blk_frozen BK380.out 3; have hfz42_4 := blk_frozen BK380.out 4))
      go_meet
      case rel => exact ⟨_, (1), (t392), (wrap64 (1 + t391)), (0), (0), (by first | rfl | (simp; done) | (simp [*]; done)), H', ⟨by first | omega | exact Nat.le_refl _⟩, ⟨by (with_reducible repeat (first | apply Kd.R_alloc | apply Kd.R_drewN | apply Kd.R_drew)); exact Kd.R_mono (Kd.R_far (p := ⟨gb380, 1, none⟩) (Kd.R_types HO379.out BK380.out (by decide)) (fun _ hk => hk.2) (.int .i64 (wrap64 (1 + t391)))) (fun _ hk => trivial)⟩, ⟨by (with_reducible repeat (first | refine blk_drewN ?_ _ | refine blk_drew ?_ | refine blk_alloc ?_ _)); refine blk_far ?_ NB374_380.out _; (with_reducible repeat (first | refine blk_drewN ?_ _ | refine blk_drew ?_ | refine blk_alloc ?_ _)); exact BK374.out⟩, ⟨by (with_reducible repeat (first | refine blk_drewN ?_ _ | refine blk_drew ?_ | refine blk_alloc ?_ _)); refine blk_put (cs := #[.int .i64 (wrap64 (1 + t375)), .int .i64 0, .int .i64 0, .int .i64 0, .slice Ao8 y377.length co8]) ?_ 1 _ rfl; (with_reducible repeat (first | refine blk_drewN ?_ _ | refine blk_drew ?_ | refine blk_alloc ?_ _)); exact BK380.out⟩, ⟨by repeat (first | (with_reducible first | exact HI0.out | apply IsS76.alloc | apply IsS76.drewN | apply IsS76.drew | apply IsS76.set_1 | refine IsS76.far ?_ NB0_374.out _ | refine IsS76.far ?_ NB0_380.out _) | exact HI0.out)⟩, ⟨by repeat (first | (with_reducible first | exact HK.out | apply KeepBut.set_ | apply keep_drewN | apply keep_drew | apply keep_alloc | refine keep_far ?_ GW374.out _ | refine keep_far ?_ GW380.out _) | exact HK.out)⟩, ⟨by repeat (first | (with_reducible first | exact HB.out | apply below_alloc | apply pw_below_drewN | apply below_drew1 | refine below_set ?_ (IsS76.ge HI0.out) | refine below_set ?_ GE374.out | refine below_set ?_ GE380.out) | exact HB.out)⟩⟩
     ·rw [if_neg c37] at H
      have c37b0 : ((wrap64 (1 + t375)) == 6) = false := beq_eq_false_iff_ne.mpr c37
      have c37b1 : ((wrap64 (1 + t375)) != 6) = true := bne_iff_ne.mpr c37
      replace H := Option.bind_eq_some_iff.mp H
      obtain ⟨⟨t393, t394⟩, A430, H⟩ := H
      replace H : (spec_l71Msg.j0 k 2 s0_0 t394 (wrap64 (1 + t375)) (wrap64 (1 + t393)) 0 0 y377) = some (r1, r2, r3, r4, r5, r6) := H
      have A43 := Aside0.mk A430
      clear A430
      have H' := Aside0.mk H
      clear H
      go_wp2_with (first | ((with_reducible refine gate_callee (f := 41) rfl ?_); refine goesL_ (some 14) rfl rfl Tryd.func41 (by kernel_rfl) rfl #[.pointer (some ⟨g, 0, none⟩), .int .i64 3] rfl z34x12 ?_; (with_reducible refine (spec_l6Rd_pick.calls k g s0_0 t376 3 t393 t394 w0 _ ?side1 ?side2 A43.out).mono ?_); (case side1 => repeat (first | (with_reducible first | exact HI0.out | apply IsS76.alloc | apply IsS76.drewN | apply IsS76.drew | apply IsS76.set_1 | refine IsS76.far ?_ NB0_374.out _ | refine IsS76.far ?_ NB0_380.out _) | exact HI0.out)); (case side2 => repeat (first | (with_reducible first | exact HB.out | apply below_alloc | apply pw_below_drewN | apply below_drew1 | refine below_set ?_ (IsS76.ge HI0.out) | refine below_set ?_ GE374.out | refine below_set ?_ GE380.out) | exact HB.out)); rintro e w44 ⟨rfl, hi, hb, hk⟩; refine ⟨_, rfl, ?_⟩; have n0_ := Aside0.mk (KeepBut.blk hk (g' := gb374) (o := .cells #[.int .i64 0, .int .i64 0, .int .i64 0, .int .i64 0, .slice none 0 0] 46 (0, 0)) z34x1 NB374_0.out (by simp)); have n1_ := Aside0.mk (Kd.R_mono (Kd.R_keep (IsS76.apart (show IsS76 w0 _ g s0_0 t376 from by repeat (first | (with_reducible first | exact HI0.out | apply IsS76.alloc | apply IsS76.drewN | apply IsS76.drew | apply IsS76.set_1 | refine IsS76.far ?_ NB0_374.out _ | refine IsS76.far ?_ NB0_380.out _) | exact HI0.out)) z34x2 (by decide)) hk (fun _ h => h.2)) (fun _ h => h.1)); have n2_ := Aside0.mk (KeepBut.blk hk (g' := gb380) (o := .cells #[.int .i64 (wrap64 (1 + t375)), .int .i64 0, .int .i64 0, .int .i64 0, .slice Ao8 y377.length co8] 46 (0, 0)) z34x0 NB380_0.out (by simp)); have n3_ := Aside0.mk (KeepBut.trans z34x7 hk (.inl rfl)); have n4_ := Aside0.mk (hb); have n5_ := Aside0.mk (hi); clear BK374; clear HO379; clear BK380; clear HK; clear HB; clear HI0; have BK374 := n0_; have HO379 := n1_; have BK380 := n2_; have HK := n3_; have HB := n4_; have HI0 := n5_; clear n0_ n1_ n2_ n3_ n4_ n5_; (try clear hb); (try clear hb2); (try clear hk); (try clear hi); have hnb45 := NB380_374.out; have hnc45 := NB374_380.out; have hnb46 := NB380_0.out; have hnc46 := NB0_380.out; have hcz47_0 : w44.cell? ⟨gb380, 0, none⟩ = some (.int .i64 (wrap64 (1 + t375))) := (blk_cell BK380.out 0).trans rfl; have hcz47_1 : w44.cell? ⟨gb380, 1, none⟩ = some (.int .i64 0) := (blk_cell BK380.out 1).trans rfl; have hcz47_2 : w44.cell? ⟨gb380, 2, none⟩ = some (.int .i64 0) := (blk_cell BK380.out 2).trans rfl; have hcz47_3 : w44.cell? ⟨gb380, 3, none⟩ = some (.int .i64 0) := (blk_cell BK380.out 3).trans rfl; have hcz47_4 : w44.cell? ⟨gb380, 4, none⟩ = some (.slice Ao8 y377.length co8) := (blk_cell BK380.out 4).trans rfl; have hfz47_0 := blk_frozen BK380.out 0; have hfz47_1 := blk_frozen BK380.out 1; have hfz47_2 := blk_frozen BK380.out 2; have hfz47_3 := blk_frozen BK380.out 3; have hfz47_4 := blk_frozen BK380.out 4))
      go_meet
      case rel => exact ⟨_, (2), (t394), (wrap64 (1 + t393)), (0), (0), (by first | rfl | (simp; done) | (simp [*]; done)), H', ⟨by first | omega | exact Nat.le_refl _⟩, ⟨by (with_reducible repeat (first | apply Kd.R_alloc | apply Kd.R_drewN | apply Kd.R_drew)); exact Kd.R_mono (Kd.R_far (p := ⟨gb380, 1, none⟩) (Kd.R_types HO379.out BK380.out (by decide)) (fun _ hk => hk.2) (.int .i64 (wrap64 (1 + t393)))) (fun _ hk => trivial)⟩, ⟨by (with_reducible repeat (first | refine blk_drewN ?_ _ | refine blk_drew ?_ | refine blk_alloc ?_ _)); refine blk_far ?_ NB374_380.out _; (with_reducible repeat (first | refine blk_drewN ?_ _ | refine blk_drew ?_ | refine blk_alloc ?_ _)); exact BK374.out⟩, ⟨by (with_reducible repeat (first | refine blk_drewN ?_ _ | refine blk_drew ?_ | refine blk_alloc ?_ _)); refine blk_put (cs := #[.int .i64 (wrap64 (1 + t375)), .int .i64 0, .int .i64 0, .int .i64 0, .slice Ao8 y377.length co8]) ?_ 1 _ rfl; (with_reducible repeat (first | refine blk_drewN ?_ _ | refine blk_drew ?_ | refine blk_alloc ?_ _)); exact BK380.out⟩, ⟨by repeat (first | (with_reducible first | exact HI0.out | apply IsS76.alloc | apply IsS76.drewN | apply IsS76.drew | apply IsS76.set_1 | refine IsS76.far ?_ NB0_374.out _ | refine IsS76.far ?_ NB0_380.out _) | exact HI0.out)⟩, ⟨by repeat (first | (with_reducible first | exact HK.out | apply KeepBut.set_ | apply keep_drewN | apply keep_drew | apply keep_alloc | refine keep_far ?_ GW374.out _ | refine keep_far ?_ GW380.out _) | exact HK.out)⟩, ⟨by repeat (first | (with_reducible first | exact HB.out | apply below_alloc | apply pw_below_drewN | apply below_drew1 | refine below_set ?_ (IsS76.ge HI0.out) | refine below_set ?_ GE374.out | refine below_set ?_ GE380.out) | exact HB.out)⟩⟩
 case rest =>
  clear HC3
  try clear c1
  try clear c2
  try clear p2
  try clear c3
  try clear c4
  try clear c5
  try clear p6
  try clear c10
  try clear c11
  try clear c13
  try clear c13b0
  try clear c13b1
  try clear c17
  try clear c18
  try clear c22
  try clear c22b0
  try clear c22b1
  try clear c26
  try clear c27
  try clear c31
  try clear c31b0
  try clear c31b1
  try clear c34
  try clear c35
  try clear c37
  try clear c37b0
  try clear c37b1
  try clear c40
  try clear c41
  try clear c45
  try clear c46
  try clear hcz12_0
  try clear hcz12_1
  try clear hcz12_2
  try clear hcz12_3
  try clear hcz12_4
  try clear hcz19_0
  try clear hcz19_1
  try clear hcz19_2
  try clear hcz19_3
  try clear hcz19_4
  try clear hcz21_0
  try clear hcz21_1
  try clear hcz21_2
  try clear hcz21_3
  try clear hcz21_4
  try clear hcz28_0
  try clear hcz28_1
  try clear hcz28_2
  try clear hcz28_3
  try clear hcz28_4
  try clear hcz30_0
  try clear hcz30_1
  try clear hcz30_2
  try clear hcz30_3
  try clear hcz30_4
  try clear hcz36_0
  try clear hcz36_1
  try clear hcz36_2
  try clear hcz36_3
  try clear hcz36_4
  try clear hcz42_0
  try clear hcz42_1
  try clear hcz42_2
  try clear hcz42_3
  try clear hcz42_4
  try clear hcz47_0
  try clear hcz47_1
  try clear hcz47_2
  try clear hcz47_3
  try clear hcz47_4
  try clear hfz12_0
  try clear hfz12_1
  try clear hfz12_2
  try clear hfz12_3
  try clear hfz12_4
  try clear hfz19_0
  try clear hfz19_1
  try clear hfz19_2
  try clear hfz19_3
  try clear hfz19_4
  try clear hfz21_0
  try clear hfz21_1
  try clear hfz21_2
  try clear hfz21_3
  try clear hfz21_4
  try clear hfz28_0
  try clear hfz28_1
  try clear hfz28_2
  try clear hfz28_3
  try clear hfz28_4
  try clear hfz30_0
  try clear hfz30_1
  try clear hfz30_2
  try clear hfz30_3
  try clear hfz30_4
  try clear hfz36_0
  try clear hfz36_1
  try clear hfz36_2
  try clear hfz36_3
  try clear hfz36_4
  try clear hfz42_0
  try clear hfz42_1
  try clear hfz42_2
  try clear hfz42_3
  try clear hfz42_4
  try clear hfz47_0
  try clear hfz47_1
  try clear hfz47_2
  try clear hfz47_3
  try clear hfz47_4
  obtain ⟨kq, x4_2, x1001_2, x381001_2, x381002_2, x381003_2, rfl, HA, HJ2, HO_381004, BK374, BK380, HI0, HK, HB⟩ := hcut
  cases kq with
  | zero => exact absurd HA.out (by simp [spec_l71Msg.j0])
  | succ kj2 =>
   have H := HA.out
   clear HA
   simp only [spec_l71Msg.j0] at H
   have H' := Aside0.mk H
   clear H
   go_wp2
   go_loopg [5] kj2 (fun kq v5 w' => ∃ (x5_2 : Int) (x1001_2 : Int) (x381004_2 : List (S24)) (u381004 : Value), v5 = .int .i64 x5_2 ∧ Aside0 (spec_l71Msg.l0 kq x4_2 x5_2 s0_0 x1001_2 (wrap64 (1 + t375)) x381001_2 x381002_2 x381003_2 x381004_2 = some (r1, r2, r3, r4, r5, r6)) ∧ Aside0 (kq ≤ kj2) ∧ Aside0 (Kd.R k24 24 w' w.heap.size (fun _ => True) u381004 x381004_2) ∧ Aside0 (w'.heap[gb374]? = some (.cells #[.int .i64 0, .int .i64 0, .int .i64 0, .int .i64 0, (.slice none 0 0)] 46 (0, 0))) ∧ Aside0 (w'.heap[gb380]? = some (.cells #[.int .i64 (wrap64 (1 + t375)), .int .i64 x381001_2, .int .i64 x381002_2, .int .i64 x381003_2, u381004] 46 (0, 0))) ∧ Aside0 (IsS76 w0 w' g s0_0 x1001_2) ∧ Aside0 (KeepBut w w' g none) ∧ Aside0 (Below w0.heap.size w0 w'))
   case atStart => exact ⟨(0), (x1001_2), (y377), (.slice Ao8 y377.length co8), (by first | rfl | (simp; done) | (simp [*]; done)), H', ⟨Nat.le_refl _⟩, ⟨by (with_reducible repeat (first | apply Kd.R_alloc | apply Kd.R_drewN | apply Kd.R_drew)); exact HO_381004.out⟩, ⟨by (with_reducible repeat (first | refine blk_drewN ?_ _ | refine blk_drew ?_ | refine blk_alloc ?_ _)); exact BK374.out⟩, ⟨by (with_reducible repeat (first | refine blk_drewN ?_ _ | refine blk_drew ?_ | refine blk_alloc ?_ _)); exact BK380.out⟩, ⟨by repeat (first | (with_reducible first | exact HI0.out | apply IsS76.alloc | apply IsS76.drewN | apply IsS76.drew | apply IsS76.set_1 | refine IsS76.far ?_ NB0_374.out _ | refine IsS76.far ?_ NB0_380.out _) | exact HI0.out)⟩, ⟨by repeat (first | (with_reducible first | exact HK.out | apply KeepBut.set_ | apply keep_drewN | apply keep_drew | apply keep_alloc | refine keep_far ?_ GW374.out _ | refine keep_far ?_ GW380.out _) | exact HK.out)⟩, ⟨by repeat (first | (with_reducible first | exact HB.out | apply below_alloc | apply pw_below_drewN | apply below_drew1 | refine below_set ?_ (IsS76.ge HI0.out) | refine below_set ?_ GE374.out | refine below_set ?_ GE380.out) | exact HB.out)⟩⟩
   case round =>
    clear H'
    try clear c1
    try clear c2
    try clear p2
    try clear c3
    try clear c4
    try clear c5
    try clear p6
    try clear c10
    try clear c11
    try clear c13
    try clear c13b0
    try clear c13b1
    try clear c17
    try clear c18
    try clear c22
    try clear c22b0
    try clear c22b1
    try clear c26
    try clear c27
    try clear c31
    try clear c31b0
    try clear c31b1
    try clear c34
    try clear c35
    try clear c37
    try clear c37b0
    try clear c37b1
    try clear c40
    try clear c41
    try clear c45
    try clear c46
    try clear hcz12_0
    try clear hcz12_1
    try clear hcz12_2
    try clear hcz12_3
    try clear hcz12_4
    try clear hcz19_0
    try clear hcz19_1
    try clear hcz19_2
    try clear hcz19_3
    try clear hcz19_4
    try clear hcz21_0
    try clear hcz21_1
    try clear hcz21_2
    try clear hcz21_3
    try clear hcz21_4
    try clear hcz28_0
    try clear hcz28_1
    try clear hcz28_2
    try clear hcz28_3
    try clear hcz28_4
    try clear hcz30_0
    try clear hcz30_1
    try clear hcz30_2
    try clear hcz30_3
    try clear hcz30_4
    try clear hcz36_0
    try clear hcz36_1
    try clear hcz36_2
    try clear hcz36_3
    try clear hcz36_4
    try clear hcz42_0
    try clear hcz42_1
    try clear hcz42_2
    try clear hcz42_3
    try clear hcz42_4
    try clear hcz47_0
    try clear hcz47_1
    try clear hcz47_2
    try clear hcz47_3
    try clear hcz47_4
    try clear hfz12_0
    try clear hfz12_1
    try clear hfz12_2
    try clear hfz12_3
    try clear hfz12_4
    try clear hfz19_0
    try clear hfz19_1
    try clear hfz19_2
    try clear hfz19_3
    try clear hfz19_4
    try clear hfz21_0
    try clear hfz21_1
    try clear hfz21_2
    try clear hfz21_3
    try clear hfz21_4
    try clear hfz28_0
    try clear hfz28_1
    try clear hfz28_2
    try clear hfz28_3
    try clear hfz28_4
    try clear hfz30_0
    try clear hfz30_1
    try clear hfz30_2
    try clear hfz30_3
    try clear hfz30_4
    try clear hfz36_0
    try clear hfz36_1
    try clear hfz36_2
    try clear hfz36_3
    try clear hfz36_4
    try clear hfz42_0
    try clear hfz42_1
    try clear hfz42_2
    try clear hfz42_3
    try clear hfz42_4
    try clear hfz47_0
    try clear hfz47_1
    try clear hfz47_2
    try clear hfz47_3
    try clear hfz47_4
    try clear p2
    try clear p6
    obtain ⟨x5_2, x1001_2, x381004_2, u381004, rfl, HA, HK2, HO_381004, BK374, BK380, HI0, HK, HB⟩ := hrel
    cases gk with
    | zero => exact absurd HA.out (by simp [spec_l71Msg.l0])
    | succ k2 =>
     have H := HA.out
     clear HA
     simp only [spec_l71Msg.l0] at H
     by_cases c48 : x5_2 < x4_2
     ·rw [if_pos c48] at H
      have c48b0 : decide (x5_2 < x4_2) = true := decide_eq_true c48
      clear c48
      replace H := Option.bind_eq_some_iff.mp H
      obtain ⟨⟨t395, t396, t397, t398, t399, t400, t401, t402⟩, A490, H⟩ := H
      replace H : (if x381004_2.length < 2513169434916 then (spec_l71Msg.l0 k2 x4_2 (wrap64 (x5_2 + 1)) s0_0 t402 (wrap64 (1 + t375)) x381001_2 x381002_2 x381003_2 (x381004_2 ++ [(⟨t395, t396, t397, t398, t399, t400, t401⟩ : S24)])) else (none)) = some (r1, r2, r3, r4, r5, r6) := H
      have A49 := Aside0.mk A490
      clear A490
      by_cases c50 : x381004_2.length < 2513169434916
      ·rw [if_pos c50] at H
       have LMc50 := Aside0.mk c50
       clear c50
       obtain ⟨y403, hy403⟩ : ∃ y_ : List (S24), y_ = (x381004_2 ++ [(⟨t395, t396, t397, t398, t399, t400, t401⟩ : S24)]) := ⟨_, rfl⟩
       replace H : (spec_l71Msg.l0 k2 x4_2 (wrap64 (x5_2 + 1)) s0_0 t402 (wrap64 (1 + t375)) x381001_2 x381002_2 x381003_2 y403) = some (r1, r2, r3, r4, r5, r6) := by first | (rw [hy403]; with_reducible exact H) | (have H2_ := (Option.bind_some _ _).symm.trans H; rw [hy403]; with_reducible exact H2_) | (have H2_ := (Option.bind_some _ _).symm.trans H; with_reducible exact H2_) | with_reducible exact H | (rw [hy403]; exact H) | exact H
       have Ny403 := Aside0.mk hy403
       clear hy403
       have H' := Aside0.mk H
       clear H
       try go_wp2
       have n0_ := Aside0.mk (Kd.R_drew HO_381004.out)
       have n1_ := Aside0.mk (blk_drew BK374.out)
       have n2_ := Aside0.mk (blk_drew BK380.out)
       have n3_ := Aside0.mk (IsS76.drew HI0.out)
       have n4_ := Aside0.mk (keep_drew HK.out)
       have n5_ := Aside0.mk (below_drew1 HB.out)
       clear HO_381004
       clear BK374
       clear BK380
       clear HI0
       clear HK
       clear HB
       have HO_381004 := n0_
       have BK374 := n1_
       have BK380 := n2_
       have HI0 := n3_
       have HK := n4_
       have HB := n5_
       clear n0_ n1_ n2_ n3_ n4_ n5_
       refine start_ (n := 8) (S := fun w' => w'.cell? ⟨gb380, 0, none⟩ = some (.int .i64 (wrap64 (1 + t375))) ∧ w'.cell? ⟨gb380, 1, none⟩ = some (.int .i64 x381001_2) ∧ w'.cell? ⟨gb380, 2, none⟩ = some (.int .i64 x381002_2) ∧ w'.cell? ⟨gb380, 3, none⟩ = some (.int .i64 x381003_2) ∧ w'.cell? ⟨gb380, 4, none⟩ = some (u381004)) (ds := [7]) #[false, false, false, false, false, false, false, false] (by kernel_rfl) rfl rfl ⟨(blk_cell BK380.out 0).trans rfl, (blk_cell BK380.out 1).trans rfl, (blk_cell BK380.out 2).trans rfl, (blk_cell BK380.out 3).trans rfl, (blk_cell BK380.out 4).trans rfl⟩ (fun hHeld => ?_); refine with_tabW spec_l71Msg.tab20 spec_l71Msg.bits20 (fun HT_ HW_ => ?_)
       generalize wr.drew = w51 at HO_381004 BK374 BK380 HI0 HK HB hHeld ⊢
       refine pure_ (i := 0) (N := some 54) (v := ?_) (a' := ?_) #[true, false, false, false, false, false, false, false] rfl rfl (any_of HT_.out (by kernel_rfl)) (fun _ _ _ h => h) (Or.inl ⟨by rfl, ?_⟩) ?_ ?_
       rotate_left
       ·intro w'
        go_simp
        with_reducible rfl
       rotate_left
       ·simp only [Act.put, List.setIfInBounds_toArray, List.set_cons_zero, List.set_cons_succ, i64_w, i32_w]
        rfl
       refine pure_ (i := 2) (N := some 56) (v := ?_) (a' := ?_) #[true, false, true, false, false, false, false, false] rfl rfl (any_of HT_.out (by kernel_rfl)) (fun _ _ _ h => h) (Or.inl ⟨by rfl, ?_⟩) ?_ ?_
       rotate_left
       ·intro w'
        go_simp
        with_reducible rfl
       rotate_left
       ·simp only [Act.put, List.setIfInBounds_toArray, List.set_cons_zero, List.set_cons_succ, i64_w, i32_w]
        rfl
       refine take_ (i := 1) (N := some 55) (v := ?_) (a' := ?_) #[true, true, true, false, false, false, false, false] rfl rfl (take_ofW HT_.out HW_.out (by kernel_rfl)) (fun _ _ _ h => h) (Or.inl ⟨by rfl, ?_⟩) hHeld ?_ ?_
       rotate_left
       ·rintro w' ⟨s0, s1, s2, s3, s4⟩
        go_simp
        with_reducible rfl
       rotate_left
       ·simp only [Act.put, List.setIfInBounds_toArray, List.set_cons_zero, List.set_cons_succ, i64_w, i32_w]
        rfl
       refine one_ (i := 3) (N := some 57) #[true, true, true, true, false, false, false, false] rfl rfl (one_of HT_.out (by kernel_rfl)) (by decide) (fun K hK => ?_)
       refine goes_ Tryd.func60 (by kernel_rfl) rfl #[.pointer (some ⟨g, 0, none⟩)] (by rfl) rfl rfl z34x12 ?_
       with_reducible refine (spec_l71Fine.calls k2 g s0_0 x1001_2 t395 t396 t397 t398 t399 t400 t401 t402 w0 _ ?side1 ?side2 A49.out).mono ?_
       (case side1 => repeat (first | (with_reducible first | exact HI0.out | apply IsS76.alloc | apply IsS76.drewN | apply IsS76.drew | apply IsS76.set_1 | refine IsS76.far ?_ NB0_374.out _ | refine IsS76.far ?_ NB0_380.out _) | exact HI0.out))
       (case side2 => repeat (first | (with_reducible first | exact HB.out | apply below_alloc | apply pw_below_drewN | apply below_drew1 | refine below_set ?_ (IsS76.ge HI0.out) | refine below_set ?_ GE374.out | refine below_set ?_ GE380.out) | exact HB.out))
       rintro e w52 ⟨rfl, hi, hb, hk⟩
       refine ⟨_, rfl, ?_⟩
       have n0_ := Aside0.mk (Kd.R_mono (Kd.R_keep (IsS76.apart (show IsS76 w0 _ g s0_0 x1001_2 from by repeat (first | (with_reducible first | exact HI0.out | apply IsS76.alloc | apply IsS76.drewN | apply IsS76.drew | apply IsS76.set_1 | refine IsS76.far ?_ NB0_374.out _ | refine IsS76.far ?_ NB0_380.out _) | exact HI0.out)) z34x15 (by decide)) hk (fun _ h => h.2)) (fun _ h => h.1))
       have n1_ := Aside0.mk (KeepBut.blk hk (g' := gb374) (o := .cells #[.int .i64 0, .int .i64 0, .int .i64 0, .int .i64 0, .slice none 0 0] 46 (0, 0)) z34x13 NB374_0.out (by simp))
       have n2_ := Aside0.mk (KeepBut.blk hk (g' := gb380) (o := .cells #[.int .i64 (wrap64 (1 + t375)), .int .i64 x381001_2, .int .i64 x381002_2, .int .i64 x381003_2, u381004] 46 (0, 0)) z34x14 NB380_0.out (by simp))
       have n3_ := Aside0.mk (KeepBut.trans z34x7 hk (.inl rfl))
       have n4_ := Aside0.mk (hb)
       have n5_ := Aside0.mk (hi)
       clear HO_381004
       clear BK374
       clear BK380
       clear HK
       clear HB
       clear HI0
       have HO_381004 := n0_
       have BK374 := n1_
       have BK380 := n2_
       have HK := n3_
       have HB := n4_
       have HI0 := n5_
       clear n0_ n1_ n2_ n3_ n4_ n5_
       (try clear hb)
       (try clear hb2)
       (try clear hk)
       (try clear hi)
       refine hK.out _ _ ⟨(blk_cell BK380.out 0).trans rfl, (blk_cell BK380.out 1).trans rfl, (blk_cell BK380.out 2).trans rfl, (blk_cell BK380.out 3).trans rfl, (blk_cell BK380.out 4).trans rfl⟩ (fun hHeld => ?_)
       clear hK K
       refine norm_ (a' := ?_) ?_ ?_
       rotate_left
       ·show Act.put _ (some 57) _ = _
        simp only [Act.put, List.setIfInBounds_toArray, List.set_cons_zero, List.set_cons_succ, i64_w, i32_w]
        rfl
       refine one_ (i := 4) (N := some 58) #[true, true, true, true, true, false, false, false] rfl rfl (one_of HT_.out (by kernel_rfl)) (by decide) (fun K hK => ?_)
       refine value_ (w1 := ?_) (v := ?_) (by rfl) rfl ?_ ?_
       rotate_left 2
       ·go_simp
        constructor
        ·rfl
        ·rfl
       refine hK.out _ _ ⟨(blk_cell (blk_alloc BK380.out _) 0).trans rfl, (blk_cell (blk_alloc BK380.out _) 1).trans rfl, (blk_cell (blk_alloc BK380.out _) 2).trans rfl, (blk_cell (blk_alloc BK380.out _) 3).trans rfl, (blk_cell (blk_alloc BK380.out _) 4).trans rfl⟩ (fun hHeld => ?_)
       clear hK K
       refine norm_ (a' := ?_) ?_ ?_
       rotate_left
       ·show Act.put _ (some 58) _ = _
        simp only [Act.put, List.setIfInBounds_toArray, List.set_cons_zero, List.set_cons_succ, i64_w, i32_w]
        rfl
       refine one_ (i := 5) (N := some 59) #[true, true, true, true, true, true, false, false] rfl rfl (one_of HT_.out (by kernel_rfl)) (by decide) (fun K hK => ?_)
       refine Kd.R_append_step k24 w.heap.size (by rfl) (.tmp 55) (.tmp 58) 44 24 (.agg #[(.int .i64 0), (.int .i64 0), (.int .i64 0), (.int .i64 0), (.int .i64 0), (.int .i64 0), (.int .i64 0)]) 56 rfl Tryd.underlying44 info24 rfl (by decide) (by omega) u381004 x381004_2 (⟨t395, t396, t397, t398, t399, t400, t401⟩ : S24) [.int .i64 t395, .int .i64 t396, .int .i64 t397, .int .i64 t398, .int .i64 t399, .int .i64 t400, .int .i64 t401] (fun _ => True) (fun _ => False) rfl rfl ?aP (fun _ hk => hk.elim) ?aF ?aO (Below.refl _ _) ?aS ?aL ?_
       (case aP => exact k24_mkM _ _ _ (⟨t395, t396, t397, t398, t399, t400, t401⟩ : S24))
       (case aF => exact (fun _ _ => trivial))
       (case aO => exact z34x15)
       (case aS => exact (keep_size (w := w) (g := g) (row := none) z34x7))
       (case aL => have := LMc50.out; omega)
       intro v404 w53 ho hb hg hat
       rw [← Ny403.out] at ho
       have n0_ := Aside0.mk (blk_grown (g := gb374) (o := .cells #[.int .i64 0, .int .i64 0, .int .i64 0, .int .i64 0, .slice none 0 0] 46 (0, 0)) z34x13 hg (Kd.R_ne HO_381004.out BK374.out (by decide)))
       have n1_ := Aside0.mk (blk_grown (g := gb380) (o := .cells #[.int .i64 (wrap64 (1 + t375)), .int .i64 x381001_2, .int .i64 x381002_2, .int .i64 x381003_2, u381004] 46 (0, 0)) z34x14 hg (Kd.R_ne HO_381004.out BK380.out (by decide)))
       have n2_ := Aside0.mk (IsS76.grown z34x6 hg (IsS76.own_ne HI0.out HO_381004.out (by decide)))
       have n3_ := Aside0.mk (below_weaken z34x5 HL.out hb)
       have n4_ := Aside0.mk (KeepBut.trans z34x7 (KeepBut.of_grown hg g) (Kd.R_base2 HO_381004.out))
       have n5_ := Aside0.mk (ho)
       clear BK374
       clear BK380
       clear HI0
       clear HB
       clear HK
       clear HO_381004
       have BK374 := n0_
       have BK380 := n1_
       have HI0 := n2_
       have HB := n3_
       have HK := n4_
       have HO405 := n5_
       clear n0_ n1_ n2_ n3_ n4_ n5_
       clear ho hb hg hat
       obtain ⟨Ao54, co54, eo54⟩ := Kd.R_slice HO405.out
       (first | subst eo54 | (injection eo54 with f1_ f2_ f3_; have f4_ := f1_.symm; have f5_ := f3_.symm; clear f1_ f2_ f3_; subst f4_; subst f5_))
       refine hK.out _ _ ⟨(blk_cell BK380.out 0).trans rfl, (blk_cell BK380.out 1).trans rfl, (blk_cell BK380.out 2).trans rfl, (blk_cell BK380.out 3).trans rfl, (blk_cell BK380.out 4).trans rfl⟩ (fun hHeld => ?_)
       clear hK K
       refine norm_ (a' := ?_) ?_ ?_
       rotate_left
       ·show Act.put _ (some 59) _ = _
        simp only [Act.put, List.setIfInBounds_toArray, List.set_cons_zero, List.set_cons_succ, i64_w, i32_w]
        rfl
       refine pure_ (i := 6) (N := some 60) (v := ?_) (a' := ?_) #[true, true, true, true, true, true, true, false] rfl rfl (any_of HT_.out (by kernel_rfl)) (fun _ _ _ h => h) (Or.inl ⟨by rfl, ?_⟩) ?_ ?_
       rotate_left
       ·intro w'
        go_simp
        with_reducible rfl
       rotate_left
       ·simp only [Act.put, List.setIfInBounds_toArray, List.set_cons_zero, List.set_cons_succ, i64_w, i32_w]
        rfl
       refine last_ (i := 7) (N := none) #[true, true, true, true, true, true, true, true] rfl rfl (one_of HT_.out (by kernel_rfl)) (by decide) (fun K hK => ?_)
       have hs55 : w53.cell? ⟨gb380, 4, none⟩ = some (u381004) := (blk_cell BK380.out 4).trans rfl
       have hfs55 := blk_frozen BK380.out 4
       have hns55_0 := NB374_380.out
       have hms55_0 := NB380_374.out
       refine skip_ (w1 := ?_) (by rfl) rfl ?_ ?_
       rotate_left
       ·go_simp
        rfl
       refine hK.out _ _ ?_
       clear hK K
       refine done_ (done_of HT_.out (by kernel_rfl)) ?_
       try go_wp2
       go_roundg k2
       case measure => have := HJ2.out; have := HK2.out; omega
       case rel => exact ⟨(wrap64 (x5_2 + 1)), (t402), (y403), (.slice Ao54 y403.length co54), (by first | rfl | (simp; done) | (simp [*]; done)), H', ⟨by have := HJ2.out; have := HK2.out; omega⟩, ⟨by (with_reducible repeat (first | apply Kd.R_alloc | apply Kd.R_drewN | apply Kd.R_drew)); exact Kd.R_mono (Kd.R_far (p := ⟨gb380, 4, none⟩) (Kd.R_types HO405.out BK380.out (by decide)) (fun _ hk => hk.2) (.slice Ao54 y403.length co54)) (fun _ hk => trivial)⟩, ⟨by (with_reducible repeat (first | refine blk_drewN ?_ _ | refine blk_drew ?_ | refine blk_alloc ?_ _)); refine blk_far ?_ NB374_380.out _; (with_reducible repeat (first | refine blk_drewN ?_ _ | refine blk_drew ?_ | refine blk_alloc ?_ _)); exact BK374.out⟩, ⟨by (with_reducible repeat (first | refine blk_drewN ?_ _ | refine blk_drew ?_ | refine blk_alloc ?_ _)); refine blk_put (cs := #[.int .i64 (wrap64 (1 + t375)), .int .i64 x381001_2, .int .i64 x381002_2, .int .i64 x381003_2, u381004]) ?_ 4 _ rfl; (with_reducible repeat (first | refine blk_drewN ?_ _ | refine blk_drew ?_ | refine blk_alloc ?_ _)); exact BK380.out⟩, ⟨by repeat (first | (with_reducible first | exact HI0.out | apply IsS76.alloc | apply IsS76.drewN | apply IsS76.drew | apply IsS76.set_1 | refine IsS76.far ?_ NB0_374.out _ | refine IsS76.far ?_ NB0_380.out _) | exact HI0.out)⟩, ⟨by repeat (first | (with_reducible first | exact HK.out | apply KeepBut.set_ | apply keep_drewN | apply keep_drew | apply keep_alloc | refine keep_far ?_ GW374.out _ | refine keep_far ?_ GW380.out _) | exact HK.out)⟩, ⟨by repeat (first | (with_reducible first | exact HB.out | apply below_alloc | apply pw_below_drewN | apply below_drew1 | refine below_set ?_ (IsS76.ge HI0.out) | refine below_set ?_ GE374.out | refine below_set ?_ GE380.out) | exact HB.out)⟩⟩
      ·rw [if_neg c50] at H
       exact absurd H (by simp)
     ·rw [if_neg c48] at H
      have c48b0 : decide (x5_2 < x4_2) = false := decide_eq_false c48
      clear c48
      replace H := Option.bind_eq_some_iff.mp H
      obtain ⟨⟨t406, t407⟩, A560, H⟩ := H
      replace H : (if t406 = 0 then ((spec_l6Rd_pick.f k2 s0_0 t407 8).bind fun bt408 => (some (bt408.1, x381001_2, x381002_2, x381003_2, x381004_2, bt408.2))) else (if t406 = 1 then ((spec_l6Rd_pick.f k2 s0_0 t407 5).bind fun bt410 => (some ((wrap64 (1 + t375)), bt410.1, x381002_2, x381003_2, x381004_2, bt410.2))) else (if t406 = 2 then ((spec_l6Rd_pick.f k2 s0_0 t407 7).bind fun bt412 => (some ((wrap64 (1 + t375)), x381001_2, bt412.1, x381003_2, x381004_2, bt412.2))) else (if t406 = 3 then ((some (([0, 5, 61] : List Int) : List Int)).bind fun y414 => ((spec_l6Rd_pick.f k2 s0_0 t407 3).bind fun bt417 => (if 0 ≤ bt417.1 then (if bt417.1 < (y414.length : Int) then (some ((wrap64 (1 + t375)), x381001_2, x381002_2, rd y414 bt417.1, x381004_2, bt417.2)) else (none)) else (none)))) else (if t406 = 4 then ((spec_l71Seal.f k2 s0_0 t407).bind fun bt420 => (if x381004_2.length < 2513169434916 then (some ((wrap64 (1 + t375)), x381001_2, x381002_2, x381003_2, (x381004_2 ++ [(⟨bt420.1, bt420.2.1, bt420.2.2.1, bt420.2.2.2.1, bt420.2.2.2.2.1, bt420.2.2.2.2.2.1, bt420.2.2.2.2.2.2.1⟩ : S24)]), bt420.2.2.2.2.2.2.2)) else (none))) else (some ((wrap64 (1 + t375)), x381001_2, x381002_2, x381003_2, x381004_2, t407))))))) = some (r1, r2, r3, r4, r5, r6) := H
      have A56 := Aside0.mk A560
      clear A560
      by_cases c57 : t406 = 0
      ·rw [if_pos c57] at H
       have c57b0 : (t406 == 0) = true := beq_iff_eq.mpr c57
       have c57b1 : (t406 != 0) = false := bne_eq_false_iff_eq.mpr c57
       clear c57
       replace H := Option.bind_eq_some_iff.mp H
       obtain ⟨⟨t408, t409⟩, A580, H⟩ := H
       replace H : (some (t408, x381001_2, x381002_2, x381003_2, x381004_2, t409)) = some (r1, r2, r3, r4, r5, r6) := H
       have A58 := Aside0.mk A580
       clear A580
       simp only [Option.some.injEq, Prod.mk.injEq] at H
       obtain ⟨rfl, rfl, rfl, rfl, rfl, rfl⟩ := H
       go_wp2_with (first | ((with_reducible refine gate_callee (f := 41) rfl ?_); refine goesL_ (some 62) rfl rfl Tryd.func41 (by kernel_rfl) rfl #[.pointer (some ⟨g, 0, none⟩), .int .i64 20] rfl z34x12 ?_; (with_reducible refine (spec_l6Rd_pick.calls k2 g s0_0 x1001_2 20 t406 t407 w0 _ ?side1 ?side2 A56.out).mono ?_); (case side1 => repeat (first | (with_reducible first | exact HI0.out | apply IsS76.alloc | apply IsS76.drewN | apply IsS76.drew | apply IsS76.set_1 | refine IsS76.far ?_ NB0_374.out _ | refine IsS76.far ?_ NB0_380.out _) | exact HI0.out)); (case side2 => repeat (first | (with_reducible first | exact HB.out | apply below_alloc | apply pw_below_drewN | apply below_drew1 | refine below_set ?_ (IsS76.ge HI0.out) | refine below_set ?_ GE374.out | refine below_set ?_ GE380.out) | exact HB.out)); rintro e w59 ⟨rfl, hi, hb, hk⟩; refine ⟨_, rfl, ?_⟩; have n0_ := Aside0.mk (Kd.R_mono (Kd.R_keep (IsS76.apart (show IsS76 w0 _ g s0_0 x1001_2 from by repeat (first | (with_reducible first | exact HI0.out | apply IsS76.alloc | apply IsS76.drewN | apply IsS76.drew | apply IsS76.set_1 | refine IsS76.far ?_ NB0_374.out _ | refine IsS76.far ?_ NB0_380.out _) | exact HI0.out)) z34x15 (by decide)) hk (fun _ h => h.2)) (fun _ h => h.1)); have n1_ := Aside0.mk (KeepBut.blk hk (g' := gb374) (o := .cells #[.int .i64 0, .int .i64 0, .int .i64 0, .int .i64 0, .slice none 0 0] 46 (0, 0)) z34x13 NB374_0.out (by simp)); have n2_ := Aside0.mk (KeepBut.blk hk (g' := gb380) (o := .cells #[.int .i64 (wrap64 (1 + t375)), .int .i64 x381001_2, .int .i64 x381002_2, .int .i64 x381003_2, u381004] 46 (0, 0)) z34x14 NB380_0.out (by simp)); have n3_ := Aside0.mk (KeepBut.trans z34x7 hk (.inl rfl)); have n4_ := Aside0.mk (hb); have n5_ := Aside0.mk (hi); clear HO_381004; clear BK374; clear BK380; clear HK; clear HB; clear HI0; have HO_381004 := n0_; have BK374 := n1_; have BK380 := n2_; have HK := n3_; have HB := n4_; have HI0 := n5_; clear n0_ n1_ n2_ n3_ n4_ n5_; (try clear hb); (try clear hb2); (try clear hk); (try clear hi)) | ((with_reducible refine gate_callee (f := 41) rfl ?_); refine goesL_ (some 66) rfl rfl Tryd.func41 (by kernel_rfl) rfl #[.pointer (some ⟨g, 0, none⟩), .int .i64 8] rfl z34x12 ?_; (with_reducible refine (spec_l6Rd_pick.calls k2 g s0_0 t407 8 t408 t409 w0 _ ?side1 ?side2 A58.out).mono ?_); (case side1 => repeat (first | (with_reducible first | exact HI0.out | apply IsS76.alloc | apply IsS76.drewN | apply IsS76.drew | apply IsS76.set_1 | refine IsS76.far ?_ NB0_374.out _ | refine IsS76.far ?_ NB0_380.out _) | exact HI0.out)); (case side2 => repeat (first | (with_reducible first | exact HB.out | apply below_alloc | apply pw_below_drewN | apply below_drew1 | refine below_set ?_ (IsS76.ge HI0.out) | refine below_set ?_ GE374.out | refine below_set ?_ GE380.out) | exact HB.out)); rintro e w60 ⟨rfl, hi, hb, hk⟩; refine ⟨_, rfl, ?_⟩; have n0_ := Aside0.mk (Kd.R_mono (Kd.R_keep (IsS76.apart (show IsS76 w0 _ g s0_0 t407 from by repeat (first | (with_reducible first | exact HI0.out | apply IsS76.alloc | apply IsS76.drewN | apply IsS76.drew | apply IsS76.set_1 | refine IsS76.far ?_ NB0_374.out _ | refine IsS76.far ?_ NB0_380.out _) | exact HI0.out)) z34x15 (by decide)) hk (fun _ h => h.2)) (fun _ h => h.1)); have n1_ := Aside0.mk (KeepBut.blk hk (g' := gb374) (o := .cells #[.int .i64 0, .int .i64 0, .int .i64 0, .int .i64 0, .slice none 0 0] 46 (0, 0)) z34x13 NB374_0.out (by simp)); have n2_ := Aside0.mk (KeepBut.blk hk (g' := gb380) (o := .cells #[.int .i64 (wrap64 (1 + t375)), .int .i64 x381001_2, .int .i64 x381002_2, .int .i64 x381003_2, u381004] 46 (0, 0)) z34x14 NB380_0.out (by simp)); have n3_ := Aside0.mk (KeepBut.trans z34x7 hk (.inl rfl)); have n4_ := Aside0.mk (hb); have n5_ := Aside0.mk (hi); clear HO_381004; clear BK374; clear BK380; clear HK; clear HB; clear HI0; have HO_381004 := n0_; have BK374 := n1_; have BK380 := n2_; have HK := n3_; have HB := n4_; have HI0 := n5_; clear n0_ n1_ n2_ n3_ n4_ n5_; (try clear hb); (try clear hb2); (try clear hk); (try clear hi); have hnb61 := NB380_374.out; have hnc61 := NB374_380.out; have hnb62 := NB380_0.out; have hnc62 := NB0_380.out; have hcz63_0 : w60.cell? ⟨gb380, 0, none⟩ = some (.int .i64 (wrap64 (1 + t375))) := (blk_cell BK380.out 0).trans rfl; have hcz63_1 : w60.cell? ⟨gb380, 1, none⟩ = some (.int .i64 x381001_2) := (blk_cell BK380.out 1).trans rfl; have hcz63_2 : w60.cell? ⟨gb380, 2, none⟩ = some (.int .i64 x381002_2) := (blk_cell BK380.out 2).trans rfl; have hcz63_3 : w60.cell? ⟨gb380, 3, none⟩ = some (.int .i64 x381003_2) := (blk_cell BK380.out 3).trans rfl; have hcz63_4 : w60.cell? ⟨gb380, 4, none⟩ = some (u381004) := (blk_cell BK380.out 4).trans rfl; have hfz63_0 := blk_frozen BK380.out 0; have hfz63_1 := blk_frozen BK380.out 1; have hfz63_2 := blk_frozen BK380.out 2; have hfz63_3 := blk_frozen BK380.out 3; have hfz63_4 := blk_frozen BK380.out 4; have hnb64 := NB374_0.out; have hnc64 := NB0_374.out; have hcz65_0 : w60.cell? ⟨gb374, 0, none⟩ = some (.int .i64 0) := (blk_cell BK374.out 0).trans rfl; have hcz65_1 : w60.cell? ⟨gb374, 1, none⟩ = some (.int .i64 0) := (blk_cell BK374.out 1).trans rfl; have hcz65_2 : w60.cell? ⟨gb374, 2, none⟩ = some (.int .i64 0) := (blk_cell BK374.out 2).trans rfl; have hcz65_3 : w60.cell? ⟨gb374, 3, none⟩ = some (.int .i64 0) := (blk_cell BK374.out 3).trans rfl; have hcz65_4 : w60.cell? ⟨gb374, 4, none⟩ = some (.slice none 0 0) := (blk_cell BK374.out 4).trans rfl; have hfz65_0 := blk_frozen BK374.out 0; have hfz65_1 := blk_frozen BK374.out 1; have hfz65_2 := blk_frozen BK374.out 2; have hfz65_3 := blk_frozen BK374.out 3; have hfz65_4 := blk_frozen BK374.out 4; obtain ⟨Ao66, co66, eo66⟩ := Kd.R_slice HO_381004.out; subst eo66))
       refine bodyPost_ret (results_cell_row rfl _ _ gb374 46 #[.int .i64 t408, .int .i64 x381001_2, .int .i64 x381002_2, .int .i64 x381003_2, .slice Ao66 x381004_2.length co66] (0, 0) _ rfl (by (with_reducible repeat (first | refine blk_drewN ?_ _ | refine blk_drew ?_ | refine blk_alloc ?_ _)); refine blk_put (cs := #[.int .i64 t408, .int .i64 x381001_2, .int .i64 x381002_2, .int .i64 x381003_2, .slice none 0 0]) ?_ 4 _ rfl; (with_reducible repeat (first | refine blk_drewN ?_ _ | refine blk_drew ?_ | refine blk_alloc ?_ _)); refine blk_put (cs := #[.int .i64 t408, .int .i64 x381001_2, .int .i64 x381002_2, .int .i64 0, .slice none 0 0]) ?_ 3 _ rfl; (with_reducible repeat (first | refine blk_drewN ?_ _ | refine blk_drew ?_ | refine blk_alloc ?_ _)); refine blk_put (cs := #[.int .i64 t408, .int .i64 x381001_2, .int .i64 0, .int .i64 0, .slice none 0 0]) ?_ 2 _ rfl; (with_reducible repeat (first | refine blk_drewN ?_ _ | refine blk_drew ?_ | refine blk_alloc ?_ _)); refine blk_put (cs := #[.int .i64 t408, .int .i64 0, .int .i64 0, .int .i64 0, .slice none 0 0]) ?_ 1 _ rfl; (with_reducible repeat (first | refine blk_drewN ?_ _ | refine blk_drew ?_ | refine blk_alloc ?_ _)); refine blk_put (cs := #[.int .i64 0, .int .i64 0, .int .i64 0, .int .i64 0, .slice none 0 0]) ?_ 0 _ rfl; (with_reducible repeat (first | refine blk_drewN ?_ _ | refine blk_drew ?_ | refine blk_alloc ?_ _)); refine blk_far ?_ NB374_380.out _; (with_reducible repeat (first | refine blk_drewN ?_ _ | refine blk_drew ?_ | refine blk_alloc ?_ _)); exact BK374.out) Tryd.underlying46 rfl (by kernel_rfl)) rfl ?_
       exact ⟨_, by first | rfl | (simp [errW_none, errW_some] <;> rfl) | (simp [*, errW_none, errW_some] <;> rfl), by (with_reducible repeat (first | apply Kd.R_alloc | apply Kd.R_drewN | apply Kd.R_drew)); exact Kd.R_mono (Kd.R_far (p := ⟨gb374, 4, none⟩) (Kd.R_far (p := ⟨gb374, 3, none⟩) (Kd.R_far (p := ⟨gb374, 2, none⟩) (Kd.R_far (p := ⟨gb374, 1, none⟩) (Kd.R_far (p := ⟨gb374, 0, none⟩) (Kd.R_far (p := ⟨gb380, 0, none⟩) (Kd.R_types (Kd.R_types HO_381004.out BK380.out (by decide)) BK374.out (by decide)) (fun _ hk => hk.1.2) (.int .i64 t408)) (fun _ hk => hk.2) (.int .i64 t408)) (fun _ hk => hk.2) (.int .i64 x381001_2)) (fun _ hk => hk.2) (.int .i64 x381002_2)) (fun _ hk => hk.2) (.int .i64 x381003_2)) (fun _ hk => hk.2) (.slice Ao66 x381004_2.length co66)) (fun _ hk => trivial), by repeat (first | (with_reducible first | exact HI0.out | apply IsS76.alloc | apply IsS76.drewN | apply IsS76.drew | apply IsS76.set_1 | refine IsS76.far ?_ NB0_374.out _ | refine IsS76.far ?_ NB0_380.out _) | exact HI0.out), by repeat (first | (with_reducible first | exact HB.out | apply below_alloc | apply pw_below_drewN | apply below_drew1 | refine below_set ?_ (IsS76.ge HI0.out) | refine below_set ?_ GE374.out | refine below_set ?_ GE380.out) | exact HB.out), by repeat (first | (with_reducible first | exact HK.out | apply KeepBut.set_ | apply keep_drewN | apply keep_drew | apply keep_alloc | refine keep_far ?_ GW374.out _ | refine keep_far ?_ GW380.out _) | exact HK.out)⟩
      ·rw [if_neg c57] at H
       have c57b0 : (t406 == 0) = false := beq_eq_false_iff_ne.mpr c57
       have c57b1 : (t406 != 0) = true := bne_iff_ne.mpr c57
       by_cases c67 : t406 = 1
       ·rw [if_pos c67] at H
        have c67b0 : (t406 == 1) = true := beq_iff_eq.mpr c67
        have c67b1 : (t406 != 1) = false := bne_eq_false_iff_eq.mpr c67
        clear c67
        replace H := Option.bind_eq_some_iff.mp H
        obtain ⟨⟨t410, t411⟩, A680, H⟩ := H
        replace H : (some ((wrap64 (1 + t375)), t410, x381002_2, x381003_2, x381004_2, t411)) = some (r1, r2, r3, r4, r5, r6) := H
        have A68 := Aside0.mk A680
        clear A680
        simp only [Option.some.injEq, Prod.mk.injEq] at H
        obtain ⟨rfl, rfl, rfl, rfl, rfl, rfl⟩ := H
        go_wp2_with (first | ((with_reducible refine gate_callee (f := 41) rfl ?_); refine goesL_ (some 62) rfl rfl Tryd.func41 (by kernel_rfl) rfl #[.pointer (some ⟨g, 0, none⟩), .int .i64 20] rfl z34x12 ?_; (with_reducible refine (spec_l6Rd_pick.calls k2 g s0_0 x1001_2 20 t406 t407 w0 _ ?side1 ?side2 A56.out).mono ?_); (case side1 => repeat (first | (with_reducible first | exact HI0.out | apply IsS76.alloc | apply IsS76.drewN | apply IsS76.drew | apply IsS76.set_1 | refine IsS76.far ?_ NB0_374.out _ | refine IsS76.far ?_ NB0_380.out _) | exact HI0.out)); (case side2 => repeat (first | (with_reducible first | exact HB.out | apply below_alloc | apply pw_below_drewN | apply below_drew1 | refine below_set ?_ (IsS76.ge HI0.out) | refine below_set ?_ GE374.out | refine below_set ?_ GE380.out) | exact HB.out)); rintro e w69 ⟨rfl, hi, hb, hk⟩; refine ⟨_, rfl, ?_⟩; have n0_ := Aside0.mk (Kd.R_mono (Kd.R_keep (IsS76.apart (show IsS76 w0 _ g s0_0 x1001_2 from by repeat (first | (with_reducible first | exact HI0.out | apply IsS76.alloc | apply IsS76.drewN | apply IsS76.drew | apply IsS76.set_1 | refine IsS76.far ?_ NB0_374.out _ | refine IsS76.far ?_ NB0_380.out _) | exact HI0.out)) z34x15 (by decide)) hk (fun _ h => h.2)) (fun _ h => h.1)); have n1_ := Aside0.mk (KeepBut.blk hk (g' := gb374) (o := .cells #[.int .i64 0, .int .i64 0, .int .i64 0, .int .i64 0, .slice none 0 0] 46 (0, 0)) z34x13 NB374_0.out (by simp)); have n2_ := Aside0.mk (KeepBut.blk hk (g' := gb380) (o := .cells #[.int .i64 (wrap64 (1 + t375)), .int .i64 x381001_2, .int .i64 x381002_2, .int .i64 x381003_2, u381004] 46 (0, 0)) z34x14 NB380_0.out (by simp)); have n3_ := Aside0.mk (KeepBut.trans z34x7 hk (.inl rfl)); have n4_ := Aside0.mk (hb); have n5_ := Aside0.mk (hi); clear HO_381004; clear BK374; clear BK380; clear HK; clear HB; clear HI0; have HO_381004 := n0_; have BK374 := n1_; have BK380 := n2_; have HK := n3_; have HB := n4_; have HI0 := n5_; clear n0_ n1_ n2_ n3_ n4_ n5_; (try clear hb); (try clear hb2); (try clear hk); (try clear hi)) | ((with_reducible refine gate_callee (f := 41) rfl ?_); refine goesL_ (some 71) rfl rfl Tryd.func41 (by kernel_rfl) rfl #[.pointer (some ⟨g, 0, none⟩), .int .i64 5] rfl z34x12 ?_; (with_reducible refine (spec_l6Rd_pick.calls k2 g s0_0 t407 5 t410 t411 w0 _ ?side1 ?side2 A68.out).mono ?_); (case side1 => repeat (first | (with_reducible first | exact HI0.out | apply IsS76.alloc | apply IsS76.drewN | apply IsS76.drew | apply IsS76.set_1 | refine IsS76.far ?_ NB0_374.out _ | refine IsS76.far ?_ NB0_380.out _) | exact HI0.out)); (case side2 => repeat (first | (with_reducible first | exact HB.out | apply below_alloc | apply pw_below_drewN | apply below_drew1 | refine below_set ?_ (IsS76.ge HI0.out) | refine below_set ?_ GE374.out | refine below_set ?_ GE380.out) | exact HB.out)); rintro e w70 ⟨rfl, hi, hb, hk⟩; refine ⟨_, rfl, ?_⟩; have n0_ := Aside0.mk (Kd.R_mono (Kd.R_keep (IsS76.apart (show IsS76 w0 _ g s0_0 t407 from by repeat (first | (with_reducible first | exact HI0.out | apply IsS76.alloc | apply IsS76.drewN | apply IsS76.drew | apply IsS76.set_1 | refine IsS76.far ?_ NB0_374.out _ | refine IsS76.far ?_ NB0_380.out _) | exact HI0.out)) z34x15 (by decide)) hk (fun _ h => h.2)) (fun _ h => h.1)); have n1_ := Aside0.mk (KeepBut.blk hk (g' := gb374) (o := .cells #[.int .i64 0, .int .i64 0, .int .i64 0, .int .i64 0, .slice none 0 0] 46 (0, 0)) z34x13 NB374_0.out (by simp)); have n2_ := Aside0.mk (KeepBut.blk hk (g' := gb380) (o := .cells #[.int .i64 (wrap64 (1 + t375)), .int .i64 x381001_2, .int .i64 x381002_2, .int .i64 x381003_2, u381004] 46 (0, 0)) z34x14 NB380_0.out (by simp)); have n3_ := Aside0.mk (KeepBut.trans z34x7 hk (.inl rfl)); have n4_ := Aside0.mk (hb); have n5_ := Aside0.mk (hi); clear HO_381004; clear BK374; clear BK380; clear HK; clear HB; clear HI0; have HO_381004 := n0_; have BK374 := n1_; have BK380 := n2_; have HK := n3_; have HB := n4_; have HI0 := n5_; clear n0_ n1_ n2_ n3_ n4_ n5_; (try clear hb); (try clear hb2); (try clear hk); (try clear hi); have hnb71 := NB380_374.out; have hnc71 := NB374_380.out; have hnb72 := NB380_0.out; have hnc72 := NB0_380.out; have hcz73_0 : w70.cell? ⟨gb380, 0, none⟩ = some (.int .i64 (wrap64 (1 + t375))) := (blk_cell BK380.out 0).trans rfl; have hcz73_1 : w70.cell? ⟨gb380, 1, none⟩ = some (.int .i64 x381001_2) := (blk_cell BK380.out 1).trans rfl; have hcz73_2 : w70.cell? ⟨gb380, 2, none⟩ = some (.int .i64 x381002_2) := (blk_cell BK380.out 2).trans rfl; have hcz73_3 : w70.cell? ⟨gb380, 3, none⟩ = some (.int .i64 x381003_2) := (blk_cell BK380.out 3).trans rfl; have hcz73_4 : w70.cell? ⟨gb380, 4, none⟩ = some (u381004) := (blk_cell BK380.out 4).trans rfl; have hfz73_0 := blk_frozen BK380.out 0; have hfz73_1 := blk_frozen BK380.out 1; have hfz73_2 := blk_frozen BK380.out 2; have hfz73_3 := blk_frozen BK380.out 3; have hfz73_4 := blk_frozen BK380.out 4; have hnb74 := NB374_0.out; have hnc74 := NB0_374.out; have hcz75_0 : w70.cell? ⟨gb374, 0, none⟩ = some (.int .i64 0) := (blk_cell BK374.out 0).trans rfl; have hcz75_1 : w70.cell? ⟨gb374, 1, none⟩ = some (.int .i64 0) := (blk_cell BK374.out 1).trans rfl; have hcz75_2 : w70.cell? ⟨gb374, 2, none⟩ = some (.int .i64 0) := (blk_cell BK374.out 2).trans rfl; have hcz75_3 : w70.cell? ⟨gb374, 3, none⟩ = some (.int .i64 0) := (blk_cell BK374.out 3).trans rfl; have hcz75_4 : w70.cell? ⟨gb374, 4, none⟩ = some (.slice none 0 0) := (blk_cell BK374.out 4).trans rfl; have hfz75_0 := blk_frozen BK374.out 0; have hfz75_1 := blk_frozen BK374.out 1; have hfz75_2 := blk_frozen BK374.out 2; have hfz75_3 := blk_frozen BK374.out 3; have hfz75_4 := blk_frozen BK374.out 4; obtain ⟨Ao76, co76, eo76⟩ := Kd.R_slice HO_381004.out; subst eo76))
        refine bodyPost_ret (results_cell_row rfl _ _ gb374 46 #[.int .i64 (wrap64 (1 + t375)), .int .i64 t410, .int .i64 x381002_2, .int .i64 x381003_2, .slice Ao76 x381004_2.length co76] (0, 0) _ rfl (by (with_reducible repeat (first | refine blk_drewN ?_ _ | refine blk_drew ?_ | refine blk_alloc ?_ _)); refine blk_put (cs := #[.int .i64 (wrap64 (1 + t375)), .int .i64 t410, .int .i64 x381002_2, .int .i64 x381003_2, .slice none 0 0]) ?_ 4 _ rfl; (with_reducible repeat (first | refine blk_drewN ?_ _ | refine blk_drew ?_ | refine blk_alloc ?_ _)); refine blk_put (cs := #[.int .i64 (wrap64 (1 + t375)), .int .i64 t410, .int .i64 x381002_2, .int .i64 0, .slice none 0 0]) ?_ 3 _ rfl; (with_reducible repeat (first | refine blk_drewN ?_ _ | refine blk_drew ?_ | refine blk_alloc ?_ _)); refine blk_put (cs := #[.int .i64 (wrap64 (1 + t375)), .int .i64 t410, .int .i64 0, .int .i64 0, .slice none 0 0]) ?_ 2 _ rfl; (with_reducible repeat (first | refine blk_drewN ?_ _ | refine blk_drew ?_ | refine blk_alloc ?_ _)); refine blk_put (cs := #[.int .i64 (wrap64 (1 + t375)), .int .i64 0, .int .i64 0, .int .i64 0, .slice none 0 0]) ?_ 1 _ rfl; (with_reducible repeat (first | refine blk_drewN ?_ _ | refine blk_drew ?_ | refine blk_alloc ?_ _)); refine blk_put (cs := #[.int .i64 0, .int .i64 0, .int .i64 0, .int .i64 0, .slice none 0 0]) ?_ 0 _ rfl; (with_reducible repeat (first | refine blk_drewN ?_ _ | refine blk_drew ?_ | refine blk_alloc ?_ _)); refine blk_far ?_ NB374_380.out _; (with_reducible repeat (first | refine blk_drewN ?_ _ | refine blk_drew ?_ | refine blk_alloc ?_ _)); exact BK374.out) Tryd.underlying46 rfl (by kernel_rfl)) rfl ?_
        exact ⟨_, by first | rfl | (simp [errW_none, errW_some] <;> rfl) | (simp [*, errW_none, errW_some] <;> rfl), by (with_reducible repeat (first | apply Kd.R_alloc | apply Kd.R_drewN | apply Kd.R_drew)); exact Kd.R_mono (Kd.R_far (p := ⟨gb374, 4, none⟩) (Kd.R_far (p := ⟨gb374, 3, none⟩) (Kd.R_far (p := ⟨gb374, 2, none⟩) (Kd.R_far (p := ⟨gb374, 1, none⟩) (Kd.R_far (p := ⟨gb374, 0, none⟩) (Kd.R_far (p := ⟨gb380, 1, none⟩) (Kd.R_types (Kd.R_types HO_381004.out BK380.out (by decide)) BK374.out (by decide)) (fun _ hk => hk.1.2) (.int .i64 t410)) (fun _ hk => hk.2) (.int .i64 (wrap64 (1 + t375)))) (fun _ hk => hk.2) (.int .i64 t410)) (fun _ hk => hk.2) (.int .i64 x381002_2)) (fun _ hk => hk.2) (.int .i64 x381003_2)) (fun _ hk => hk.2) (.slice Ao76 x381004_2.length co76)) (fun _ hk => trivial), by repeat (first | (with_reducible first | exact HI0.out | apply IsS76.alloc | apply IsS76.drewN | apply IsS76.drew | apply IsS76.set_1 | refine IsS76.far ?_ NB0_374.out _ | refine IsS76.far ?_ NB0_380.out _) | exact HI0.out), by repeat (first | (with_reducible first | exact HB.out | apply below_alloc | apply pw_below_drewN | apply below_drew1 | refine below_set ?_ (IsS76.ge HI0.out) | refine below_set ?_ GE374.out | refine below_set ?_ GE380.out) | exact HB.out), by repeat (first | (with_reducible first | exact HK.out | apply KeepBut.set_ | apply keep_drewN | apply keep_drew | apply keep_alloc | refine keep_far ?_ GW374.out _ | refine keep_far ?_ GW380.out _) | exact HK.out)⟩
       ·rw [if_neg c67] at H
        have c67b0 : (t406 == 1) = false := beq_eq_false_iff_ne.mpr c67
        have c67b1 : (t406 != 1) = true := bne_iff_ne.mpr c67
        by_cases c77 : t406 = 2
        ·rw [if_pos c77] at H
         have c77b0 : (t406 == 2) = true := beq_iff_eq.mpr c77
         have c77b1 : (t406 != 2) = false := bne_eq_false_iff_eq.mpr c77
         clear c77
         replace H := Option.bind_eq_some_iff.mp H
         obtain ⟨⟨t412, t413⟩, A780, H⟩ := H
         replace H : (some ((wrap64 (1 + t375)), x381001_2, t412, x381003_2, x381004_2, t413)) = some (r1, r2, r3, r4, r5, r6) := H
         have A78 := Aside0.mk A780
         clear A780
         simp only [Option.some.injEq, Prod.mk.injEq] at H
         obtain ⟨rfl, rfl, rfl, rfl, rfl, rfl⟩ := H
         go_wp2_with (first | ((with_reducible refine gate_callee (f := 41) rfl ?_); refine goesL_ (some 62) rfl rfl Tryd.func41 (by kernel_rfl) rfl #[.pointer (some ⟨g, 0, none⟩), .int .i64 20] rfl z34x12 ?_; (with_reducible refine (spec_l6Rd_pick.calls k2 g s0_0 x1001_2 20 t406 t407 w0 _ ?side1 ?side2 A56.out).mono ?_); (case side1 => repeat (first | (with_reducible first | exact HI0.out | apply IsS76.alloc | apply IsS76.drewN | apply IsS76.drew | apply IsS76.set_1 | refine IsS76.far ?_ NB0_374.out _ | refine IsS76.far ?_ NB0_380.out _) | exact HI0.out)); (case side2 => repeat (first | (with_reducible first | exact HB.out | apply below_alloc | apply pw_below_drewN | apply below_drew1 | refine below_set ?_ (IsS76.ge HI0.out) | refine below_set ?_ GE374.out | refine below_set ?_ GE380.out) | exact HB.out)); rintro e w79 ⟨rfl, hi, hb, hk⟩; refine ⟨_, rfl, ?_⟩; have n0_ := Aside0.mk (Kd.R_mono (Kd.R_keep (IsS76.apart (show IsS76 w0 _ g s0_0 x1001_2 from by repeat (first | (with_reducible first | exact HI0.out | apply IsS76.alloc | apply IsS76.drewN | apply IsS76.drew | apply IsS76.set_1 | refine IsS76.far ?_ NB0_374.out _ | refine IsS76.far ?_ NB0_380.out _) | exact HI0.out)) z34x15 (by decide)) hk (fun _ h => h.2)) (fun _ h => h.1)); have n1_ := Aside0.mk (KeepBut.blk hk (g' := gb374) (o := .cells #[.int .i64 0, .int .i64 0, .int .i64 0, .int .i64 0, .slice none 0 0] 46 (0, 0)) z34x13 NB374_0.out (by simp)); have n2_ := Aside0.mk (KeepBut.blk hk (g' := gb380) (o := .cells #[.int .i64 (wrap64 (1 + t375)), .int .i64 x381001_2, .int .i64 x381002_2, .int .i64 x381003_2, u381004] 46 (0, 0)) z34x14 NB380_0.out (by simp)); have n3_ := Aside0.mk (KeepBut.trans z34x7 hk (.inl rfl)); have n4_ := Aside0.mk (hb); have n5_ := Aside0.mk (hi); clear HO_381004; clear BK374; clear BK380; clear HK; clear HB; clear HI0; have HO_381004 := n0_; have BK374 := n1_; have BK380 := n2_; have HK := n3_; have HB := n4_; have HI0 := n5_; clear n0_ n1_ n2_ n3_ n4_ n5_; (try clear hb); (try clear hb2); (try clear hk); (try clear hi)) | ((with_reducible refine gate_callee (f := 41) rfl ?_); refine goesL_ (some 76) rfl rfl Tryd.func41 (by kernel_rfl) rfl #[.pointer (some ⟨g, 0, none⟩), .int .i64 7] rfl z34x12 ?_; (with_reducible refine (spec_l6Rd_pick.calls k2 g s0_0 t407 7 t412 t413 w0 _ ?side1 ?side2 A78.out).mono ?_); (case side1 => repeat (first | (with_reducible first | exact HI0.out | apply IsS76.alloc | apply IsS76.drewN | apply IsS76.drew | apply IsS76.set_1 | refine IsS76.far ?_ NB0_374.out _ | refine IsS76.far ?_ NB0_380.out _) | exact HI0.out)); (case side2 => repeat (first | (with_reducible first | exact HB.out | apply below_alloc | apply pw_below_drewN | apply below_drew1 | refine below_set ?_ (IsS76.ge HI0.out) | refine below_set ?_ GE374.out | refine below_set ?_ GE380.out) | exact HB.out)); rintro e w80 ⟨rfl, hi, hb, hk⟩; refine ⟨_, rfl, ?_⟩; have n0_ := Aside0.mk (Kd.R_mono (Kd.R_keep (IsS76.apart (show IsS76 w0 _ g s0_0 t407 from by repeat (first | (with_reducible first | exact HI0.out | apply IsS76.alloc | apply IsS76.drewN | apply IsS76.drew | apply IsS76.set_1 | refine IsS76.far ?_ NB0_374.out _ | refine IsS76.far ?_ NB0_380.out _) | exact HI0.out)) z34x15 (by decide)) hk (fun _ h => h.2)) (fun _ h => h.1)); have n1_ := Aside0.mk (KeepBut.blk hk (g' := gb374) (o := .cells #[.int .i64 0, .int .i64 0, .int .i64 0, .int .i64 0, .slice none 0 0] 46 (0, 0)) z34x13 NB374_0.out (by simp)); have n2_ := Aside0.mk (KeepBut.blk hk (g' := gb380) (o := .cells #[.int .i64 (wrap64 (1 + t375)), .int .i64 x381001_2, .int .i64 x381002_2, .int .i64 x381003_2, u381004] 46 (0, 0)) z34x14 NB380_0.out (by simp)); have n3_ := Aside0.mk (KeepBut.trans z34x7 hk (.inl rfl)); have n4_ := Aside0.mk (hb); have n5_ := Aside0.mk (hi); clear HO_381004; clear BK374; clear BK380; clear HK; clear HB; clear HI0; have HO_381004 := n0_; have BK374 := n1_; have BK380 := n2_; have HK := n3_; have HB := n4_; have HI0 := n5_; clear n0_ n1_ n2_ n3_ n4_ n5_; (try clear hb); (try clear hb2); (try clear hk); (try clear hi); have hnb81 := NB380_374.out; have hnc81 := NB374_380.out; have hnb82 := NB380_0.out; have hnc82 := NB0_380.out; have hcz83_0 : w80.cell? ⟨gb380, 0, none⟩ = some (.int .i64 (wrap64 (1 + t375))) := (blk_cell BK380.out 0).trans rfl; have hcz83_1 : w80.cell? ⟨gb380, 1, none⟩ = some (.int .i64 x381001_2) := (blk_cell BK380.out 1).trans rfl; have hcz83_2 : w80.cell? ⟨gb380, 2, none⟩ = some (.int .i64 x381002_2) := (blk_cell BK380.out 2).trans rfl; have hcz83_3 : w80.cell? ⟨gb380, 3, none⟩ = some (.int .i64 x381003_2) := (blk_cell BK380.out 3).trans rfl; have hcz83_4 : w80.cell? ⟨gb380, 4, none⟩ = some (u381004) := (blk_cell BK380.out 4).trans rfl; have hfz83_0 := blk_frozen BK380.out 0; have hfz83_1 := blk_frozen BK380.out 1; have hfz83_2 := blk_frozen BK380.out 2; have hfz83_3 := blk_frozen BK380.out 3; have hfz83_4 := blk_frozen BK380.out 4; have hnb84 := NB374_0.out; have hnc84 := NB0_374.out; have hcz85_0 : w80.cell? ⟨gb374, 0, none⟩ = some (.int .i64 0) := (blk_cell BK374.out 0).trans rfl; have hcz85_1 : w80.cell? ⟨gb374, 1, none⟩ = some (.int .i64 0) := (blk_cell BK374.out 1).trans rfl; have hcz85_2 : w80.cell? ⟨gb374, 2, none⟩ = some (.int .i64 0) := (blk_cell BK374.out 2).trans rfl; have hcz85_3 : w80.cell? ⟨gb374, 3, none⟩ = some (.int .i64 0) := (blk_cell BK374.out 3).trans rfl; have hcz85_4 : w80.cell? ⟨gb374, 4, none⟩ = some (.slice none 0 0) := (blk_cell BK374.out 4).trans rfl; have hfz85_0 := blk_frozen BK374.out 0; have hfz85_1 := blk_frozen BK374.out 1; have hfz85_2 := blk_frozen BK374.out 2; have hfz85_3 := blk_frozen BK374.out 3; have hfz85_4 := blk_frozen BK374.out 4; obtain ⟨Ao86, co86, eo86⟩ := Kd.R_slice HO_381004.out; subst eo86))
         refine bodyPost_ret (results_cell_row rfl _ _ gb374 46 #[.int .i64 (wrap64 (1 + t375)), .int .i64 x381001_2, .int .i64 t412, .int .i64 x381003_2, .slice Ao86 x381004_2.length co86] (0, 0) _ rfl (by (with_reducible repeat (first | refine blk_drewN ?_ _ | refine blk_drew ?_ | refine blk_alloc ?_ _)); refine blk_put (cs := #[.int .i64 (wrap64 (1 + t375)), .int .i64 x381001_2, .int .i64 t412, .int .i64 x381003_2, .slice none 0 0]) ?_ 4 _ rfl; (with_reducible repeat (first | refine blk_drewN ?_ _ | refine blk_drew ?_ | refine blk_alloc ?_ _)); refine blk_put (cs := #[.int .i64 (wrap64 (1 + t375)), .int .i64 x381001_2, .int .i64 t412, .int .i64 0, .slice none 0 0]) ?_ 3 _ rfl; (with_reducible repeat (first | refine blk_drewN ?_ _ | refine blk_drew ?_ | refine blk_alloc ?_ _)); refine blk_put (cs := #[.int .i64 (wrap64 (1 + t375)), .int .i64 x381001_2, .int .i64 0, .int .i64 0, .slice none 0 0]) ?_ 2 _ rfl; (with_reducible repeat (first | refine blk_drewN ?_ _ | refine blk_drew ?_ | refine blk_alloc ?_ _)); refine blk_put (cs := #[.int .i64 (wrap64 (1 + t375)), .int .i64 0, .int .i64 0, .int .i64 0, .slice none 0 0]) ?_ 1 _ rfl; (with_reducible repeat (first | refine blk_drewN ?_ _ | refine blk_drew ?_ | refine blk_alloc ?_ _)); refine blk_put (cs := #[.int .i64 0, .int .i64 0, .int .i64 0, .int .i64 0, .slice none 0 0]) ?_ 0 _ rfl; (with_reducible repeat (first | refine blk_drewN ?_ _ | refine blk_drew ?_ | refine blk_alloc ?_ _)); refine blk_far ?_ NB374_380.out _; (with_reducible repeat (first | refine blk_drewN ?_ _ | refine blk_drew ?_ | refine blk_alloc ?_ _)); exact BK374.out) Tryd.underlying46 rfl (by kernel_rfl)) rfl ?_
         exact ⟨_, by first | rfl | (simp [errW_none, errW_some] <;> rfl) | (simp [*, errW_none, errW_some] <;> rfl), by (with_reducible repeat (first | apply Kd.R_alloc | apply Kd.R_drewN | apply Kd.R_drew)); exact Kd.R_mono (Kd.R_far (p := ⟨gb374, 4, none⟩) (Kd.R_far (p := ⟨gb374, 3, none⟩) (Kd.R_far (p := ⟨gb374, 2, none⟩) (Kd.R_far (p := ⟨gb374, 1, none⟩) (Kd.R_far (p := ⟨gb374, 0, none⟩) (Kd.R_far (p := ⟨gb380, 2, none⟩) (Kd.R_types (Kd.R_types HO_381004.out BK380.out (by decide)) BK374.out (by decide)) (fun _ hk => hk.1.2) (.int .i64 t412)) (fun _ hk => hk.2) (.int .i64 (wrap64 (1 + t375)))) (fun _ hk => hk.2) (.int .i64 x381001_2)) (fun _ hk => hk.2) (.int .i64 t412)) (fun _ hk => hk.2) (.int .i64 x381003_2)) (fun _ hk => hk.2) (.slice Ao86 x381004_2.length co86)) (fun _ hk => trivial), by repeat (first | (with_reducible first | exact HI0.out | apply IsS76.alloc | apply IsS76.drewN | apply IsS76.drew | apply IsS76.set_1 | refine IsS76.far ?_ NB0_374.out _ | refine IsS76.far ?_ NB0_380.out _) | exact HI0.out), by repeat (first | (with_reducible first | exact HB.out | apply below_alloc | apply pw_below_drewN | apply below_drew1 | refine below_set ?_ (IsS76.ge HI0.out) | refine below_set ?_ GE374.out | refine below_set ?_ GE380.out) | exact HB.out), by repeat (first | (with_reducible first | exact HK.out | apply KeepBut.set_ | apply keep_drewN | apply keep_drew | apply keep_alloc | refine keep_far ?_ GW374.out _ | refine keep_far ?_ GW380.out _) | exact HK.out)⟩
        ·rw [if_neg c77] at H
         have c77b0 : (t406 == 2) = false := beq_eq_false_iff_ne.mpr c77
         have c77b1 : (t406 != 2) = true := bne_iff_ne.mpr c77
         by_cases c87 : t406 = 3
         ·rw [if_pos c87] at H
          have c87b0 : (t406 == 3) = true := beq_iff_eq.mpr c87
          have c87b1 : (t406 != 3) = false := bne_eq_false_iff_eq.mpr c87
          clear c87
          obtain ⟨y414, hy414⟩ : ∃ y_ : List Int, y_ = (([0, 5, 61] : List Int)) := ⟨_, rfl⟩
          replace H : ((spec_l6Rd_pick.f k2 s0_0 t407 3).bind fun bt417 => (if 0 ≤ bt417.1 then (if bt417.1 < (y414.length : Int) then (some ((wrap64 (1 + t375)), x381001_2, x381002_2, rd y414 bt417.1, x381004_2, bt417.2)) else (none)) else (none))) = some (r1, r2, r3, r4, r5, r6) := by first | (rw [hy414]; with_reducible exact H) | (have H2_ := (Option.bind_some _ _).symm.trans H; rw [hy414]; with_reducible exact H2_) | (have H2_ := (Option.bind_some _ _).symm.trans H; with_reducible exact H2_) | with_reducible exact H | (rw [hy414]; exact H) | exact H
          have Ny414 := Aside0.mk hy414
          clear hy414
          replace H := Option.bind_eq_some_iff.mp H
          obtain ⟨⟨t417, t418⟩, A880, H⟩ := H
          replace H : (if 0 ≤ t417 then (if t417 < (y414.length : Int) then (some ((wrap64 (1 + t375)), x381001_2, x381002_2, rd y414 t417, x381004_2, t418)) else (none)) else (none)) = some (r1, r2, r3, r4, r5, r6) := H
          have A88 := Aside0.mk A880
          clear A880
          by_cases c89 : 0 ≤ t417
          ·rw [if_pos c89] at H
           have c89b0 : decide (0 ≤ t417) = true := decide_eq_true c89
           clear c89
           by_cases c90 : t417 < (y414.length : Int)
           ·rw [if_pos c90] at H
            have c90b0 : decide (t417 < (y414.length : Int)) = true := decide_eq_true c90
            clear c90
            simp only [Option.some.injEq, Prod.mk.injEq] at H
            obtain ⟨rfl, rfl, rfl, rfl, rfl, rfl⟩ := H
            go_wp2_with (first | ((with_reducible refine gate_callee (f := 41) rfl ?_); refine goesL_ (some 62) rfl rfl Tryd.func41 (by kernel_rfl) rfl #[.pointer (some ⟨g, 0, none⟩), .int .i64 20] rfl z34x12 ?_; (with_reducible refine (spec_l6Rd_pick.calls k2 g s0_0 x1001_2 20 t406 t407 w0 _ ?side1 ?side2 A56.out).mono ?_); (case side1 => repeat (first | (with_reducible first | exact HI0.out | apply IsS76.alloc | apply IsS76.drewN | apply IsS76.drew | apply IsS76.set_1 | refine IsS76.far ?_ NB0_374.out _ | refine IsS76.far ?_ NB0_380.out _) | exact HI0.out)); (case side2 => repeat (first | (with_reducible first | exact HB.out | apply below_alloc | apply pw_below_drewN | apply below_drew1 | refine below_set ?_ (IsS76.ge HI0.out) | refine below_set ?_ GE374.out | refine below_set ?_ GE380.out) | exact HB.out)); rintro e w91 ⟨rfl, hi, hb, hk⟩; refine ⟨_, rfl, ?_⟩; have n0_ := Aside0.mk (Kd.R_mono (Kd.R_keep (IsS76.apart (show IsS76 w0 _ g s0_0 x1001_2 from by repeat (first | (with_reducible first | exact HI0.out | apply IsS76.alloc | apply IsS76.drewN | apply IsS76.drew | apply IsS76.set_1 | refine IsS76.far ?_ NB0_374.out _ | refine IsS76.far ?_ NB0_380.out _) | exact HI0.out)) z34x15 (by decide)) hk (fun _ h => h.2)) (fun _ h => h.1)); have n1_ := Aside0.mk (KeepBut.blk hk (g' := gb374) (o := .cells #[.int .i64 0, .int .i64 0, .int .i64 0, .int .i64 0, .slice none 0 0] 46 (0, 0)) z34x13 NB374_0.out (by simp)); have n2_ := Aside0.mk (KeepBut.blk hk (g' := gb380) (o := .cells #[.int .i64 (wrap64 (1 + t375)), .int .i64 x381001_2, .int .i64 x381002_2, .int .i64 x381003_2, u381004] 46 (0, 0)) z34x14 NB380_0.out (by simp)); have n3_ := Aside0.mk (KeepBut.trans z34x7 hk (.inl rfl)); have n4_ := Aside0.mk (hb); have n5_ := Aside0.mk (hi); clear HO_381004; clear BK374; clear BK380; clear HK; clear HB; clear HI0; have HO_381004 := n0_; have BK374 := n1_; have BK380 := n2_; have HK := n3_; have HB := n4_; have HI0 := n5_; clear n0_ n1_ n2_ n3_ n4_ n5_; (try clear hb); (try clear hb2); (try clear hk); (try clear hi)) | ((with_reducible refine gate_dst (N := 80) rfl ?_); refine Kd.R_lit (Kd.int .i64) _ 3 ?hg (N := 80) ?hd (xs := ([0, 5, 61] : List Int)) (inner := [.int .i64 0, .int .i64 5, .int .i64 61]) (ok := fun _ => True) (okp := fun _ => True) ?hr ?hp (fun _ hk => hk) trivial (Below.refl _ _) (Nat.le_refl _) (by simp) ?_; (case hd => rfl); (case hg => rfl); (case hr => first | (go_simp; done) | (go_simp; rfl)); (case hp => exact (Reps.one (show Kd.M (Kd.int .i64) _ _ _ 0 [.int .i64 0] from rfl) (Reps.one (show Kd.M (Kd.int .i64) _ _ _ 5 [.int .i64 5] from rfl) (Reps.one (show Kd.M (Kd.int .i64) _ _ _ 61 [.int .i64 61] from rfl) (Reps.none _ _))))); intro v415 w92 ho93 hb hg_ hnew_; clear hg_ hnew_; (first | rw [← Ny414.out] at ho93 | (simp only [Int.reduceToNat] at ho93; rw [← Ny414.out] at ho93)); have n0_ := Aside0.mk (Kd.R_below z34x15 hb); have n1_ := Aside0.mk (Kd.R_lower ho93 (keep_size (w := w) (g := g) (row := none) z34x7)); have n2_ := Aside0.mk (blk_below (g := gb374) (o := .cells #[.int .i64 0, .int .i64 0, .int .i64 0, .int .i64 0, .slice none 0 0] 46 (0, 0)) z34x13 hb); have n3_ := Aside0.mk (blk_below (g := gb380) (o := .cells #[.int .i64 (wrap64 (1 + t375)), .int .i64 x381001_2, .int .i64 x381002_2, .int .i64 x381003_2, u381004] 46 (0, 0)) z34x14 hb); have n4_ := Aside0.mk (IsS76.below z34x6 hb); have n5_ := Aside0.mk (KeepBut.trans z34x7 (KeepBut.of_below hb g none) (.inl rfl)); have n6_ := Aside0.mk (below_step z34x5 hb); clear HO_381004; clear BK374; clear BK380; clear HI0; clear HK; clear HB; have HO_381004 := n0_; have HO416 := n1_; have BK374 := n2_; have BK380 := n3_; have HI0 := n4_; have HK := n5_; have HB := n6_; clear n0_ n1_ n2_ n3_ n4_ n5_ n6_; clear hb ho93) | ((with_reducible refine gate_callee (f := 41) rfl ?_); refine goesL_ (some 82) rfl rfl Tryd.func41 (by kernel_rfl) rfl #[.pointer (some ⟨g, 0, none⟩), .int .i64 3] rfl z34x12 ?_; (with_reducible refine (spec_l6Rd_pick.calls k2 g s0_0 t407 3 t417 t418 w0 _ ?side1 ?side2 A88.out).mono ?_); (case side1 => repeat (first | (with_reducible first | exact HI0.out | apply IsS76.alloc | apply IsS76.drewN | apply IsS76.drew | apply IsS76.set_1 | refine IsS76.far ?_ NB0_374.out _ | refine IsS76.far ?_ NB0_380.out _) | exact HI0.out)); (case side2 => repeat (first | (with_reducible first | exact HB.out | apply below_alloc | apply pw_below_drewN | apply below_drew1 | refine below_set ?_ (IsS76.ge HI0.out) | refine below_set ?_ GE374.out | refine below_set ?_ GE380.out) | exact HB.out)); rintro e w94 ⟨rfl, hi, hb, hk⟩; refine ⟨_, rfl, ?_⟩; have n0_ := Aside0.mk (Kd.R_mono (Kd.R_keep (IsS76.apart (show IsS76 w0 _ g s0_0 t407 from by repeat (first | (with_reducible first | exact HI0.out | apply IsS76.alloc | apply IsS76.drewN | apply IsS76.drew | apply IsS76.set_1 | refine IsS76.far ?_ NB0_374.out _ | refine IsS76.far ?_ NB0_380.out _) | exact HI0.out)) z34x15 (by decide)) hk (fun _ h => h.2)) (fun _ h => h.1)); have n1_ := Aside0.mk (KeepBut.blk hk (g' := gb374) (o := .cells #[.int .i64 0, .int .i64 0, .int .i64 0, .int .i64 0, .slice none 0 0] 46 (0, 0)) z34x13 NB374_0.out (by simp)); have n2_ := Aside0.mk (KeepBut.blk hk (g' := gb380) (o := .cells #[.int .i64 (wrap64 (1 + t375)), .int .i64 x381001_2, .int .i64 x381002_2, .int .i64 x381003_2, u381004] 46 (0, 0)) z34x14 NB380_0.out (by simp)); have n3_ := Aside0.mk (Kd.R_mono (Kd.R_keep (IsS76.apart (show IsS76 w0 _ g s0_0 t407 from by repeat (first | (with_reducible first | exact HI0.out | apply IsS76.alloc | apply IsS76.drewN | apply IsS76.drew | apply IsS76.set_1 | refine IsS76.far ?_ NB0_374.out _ | refine IsS76.far ?_ NB0_380.out _) | exact HI0.out)) (by (with_reducible repeat (first | apply Kd.R_alloc | apply Kd.R_drewN | apply Kd.R_drew)); exact HO416.out) (by decide)) hk (fun _ h => h.2)) (fun _ h => h.1)); have n4_ := Aside0.mk (KeepBut.trans z34x7 hk (.inl rfl)); have n5_ := Aside0.mk (hb); have n6_ := Aside0.mk (hi); clear HO_381004; clear BK374; clear BK380; clear HO416; clear HK; clear HB; clear HI0; have HO_381004 := n0_; have BK374 := n1_; have BK380 := n2_; have HO416 := n3_; have HK := n4_; have HB := n5_; have HI0 := n6_; clear n0_ n1_ n2_ n3_ n4_ n5_ n6_; (try clear hb); (try clear hb2); (try clear hk); (try clear hi); obtain ⟨Ao95, co95, eo95⟩ := Kd.R_slice HO416.out; subst eo95; have p419 : 0 ≤ (t417 : Int) := of_decide_eq_true (by first | (with_reducible assumption) | assumption); have q419 : t417 < (y414.length : Int) := of_decide_eq_true (by first | (with_reducible assumption) | assumption); obtain ⟨ad419, e419, hx419_0⟩ := Kd.at_int (Kd.R_reads' HO416.out).2.2 t417 p419 q419; cases e419; replace p419 := eq_true p419; replace q419 := eq_true q419; have hnb96 := NB380_374.out; have hnc96 := NB374_380.out; have hnb97 := NB380_0.out; have hnc97 := NB0_380.out; have hcz98_0 : w94.cell? ⟨gb380, 0, none⟩ = some (.int .i64 (wrap64 (1 + t375))) := (blk_cell BK380.out 0).trans rfl; have hcz98_1 : w94.cell? ⟨gb380, 1, none⟩ = some (.int .i64 x381001_2) := (blk_cell BK380.out 1).trans rfl; have hcz98_2 : w94.cell? ⟨gb380, 2, none⟩ = some (.int .i64 x381002_2) := (blk_cell BK380.out 2).trans rfl; have hcz98_3 : w94.cell? ⟨gb380, 3, none⟩ = some (.int .i64 x381003_2) := (blk_cell BK380.out 3).trans rfl; have hcz98_4 : w94.cell? ⟨gb380, 4, none⟩ = some (u381004) := (blk_cell BK380.out 4).trans rfl; have hfz98_0 := blk_frozen BK380.out 0; have hfz98_1 := blk_frozen BK380.out 1; have hfz98_2 := blk_frozen BK380.out 2; have hfz98_3 := blk_frozen BK380.out 3; have hfz98_4 := blk_frozen BK380.out 4; have hnb99 := NB374_0.out; have hnc99 := NB0_374.out; have hcz100_0 : w94.cell? ⟨gb374, 0, none⟩ = some (.int .i64 0) := (blk_cell BK374.out 0).trans rfl; have hcz100_1 : w94.cell? ⟨gb374, 1, none⟩ = some (.int .i64 0) := (blk_cell BK374.out 1).trans rfl; have hcz100_2 : w94.cell? ⟨gb374, 2, none⟩ = some (.int .i64 0) := (blk_cell BK374.out 2).trans rfl; have hcz100_3 : w94.cell? ⟨gb374, 3, none⟩ = some (.int .i64 0) := (blk_cell BK374.out 3).trans rfl; have hcz100_4 : w94.cell? ⟨gb374, 4, none⟩ = some (.slice none 0 0) := (blk_cell BK374.out 4).trans rfl; have hfz100_0 := blk_frozen BK374.out 0; have hfz100_1 := blk_frozen BK374.out 1; have hfz100_2 := blk_frozen BK374.out 2; have hfz100_3 := blk_frozen BK374.out 3; have hfz100_4 := blk_frozen BK374.out 4; obtain ⟨Ao101, co101, eo101⟩ := Kd.R_slice HO_381004.out; subst eo101))
            refine bodyPost_ret (results_cell_row rfl _ _ gb374 46 #[.int .i64 (wrap64 (1 + t375)), .int .i64 x381001_2, .int .i64 x381002_2, .int .i64 (rd y414 t417), .slice Ao101 x381004_2.length co101] (0, 0) _ rfl (by (with_reducible repeat (first | refine blk_drewN ?_ _ | refine blk_drew ?_ | refine blk_alloc ?_ _)); refine blk_put (cs := #[.int .i64 (wrap64 (1 + t375)), .int .i64 x381001_2, .int .i64 x381002_2, .int .i64 (rd y414 t417), .slice none 0 0]) ?_ 4 _ rfl; (with_reducible repeat (first | refine blk_drewN ?_ _ | refine blk_drew ?_ | refine blk_alloc ?_ _)); refine blk_put (cs := #[.int .i64 (wrap64 (1 + t375)), .int .i64 x381001_2, .int .i64 x381002_2, .int .i64 0, .slice none 0 0]) ?_ 3 _ rfl; (with_reducible repeat (first | refine blk_drewN ?_ _ | refine blk_drew ?_ | refine blk_alloc ?_ _)); refine blk_put (cs := #[.int .i64 (wrap64 (1 + t375)), .int .i64 x381001_2, .int .i64 0, .int .i64 0, .slice none 0 0]) ?_ 2 _ rfl; (with_reducible repeat (first | refine blk_drewN ?_ _ | refine blk_drew ?_ | refine blk_alloc ?_ _)); refine blk_put (cs := #[.int .i64 (wrap64 (1 + t375)), .int .i64 0, .int .i64 0, .int .i64 0, .slice none 0 0]) ?_ 1 _ rfl; (with_reducible repeat (first | refine blk_drewN ?_ _ | refine blk_drew ?_ | refine blk_alloc ?_ _)); refine blk_put (cs := #[.int .i64 0, .int .i64 0, .int .i64 0, .int .i64 0, .slice none 0 0]) ?_ 0 _ rfl; (with_reducible repeat (first | refine blk_drewN ?_ _ | refine blk_drew ?_ | refine blk_alloc ?_ _)); refine blk_far ?_ NB374_380.out _; (with_reducible repeat (first | refine blk_drewN ?_ _ | refine blk_drew ?_ | refine blk_alloc ?_ _)); exact BK374.out) Tryd.underlying46 rfl (by kernel_rfl)) rfl ?_
            exact ⟨_, by first | rfl | (simp [errW_none, errW_some] <;> rfl) | (simp [*, errW_none, errW_some] <;> rfl), by (with_reducible repeat (first | apply Kd.R_alloc | apply Kd.R_drewN | apply Kd.R_drew)); exact Kd.R_mono (Kd.R_far (p := ⟨gb374, 4, none⟩) (Kd.R_far (p := ⟨gb374, 3, none⟩) (Kd.R_far (p := ⟨gb374, 2, none⟩) (Kd.R_far (p := ⟨gb374, 1, none⟩) (Kd.R_far (p := ⟨gb374, 0, none⟩) (Kd.R_far (p := ⟨gb380, 3, none⟩) (Kd.R_types (Kd.R_types HO_381004.out BK380.out (by decide)) BK374.out (by decide)) (fun _ hk => hk.1.2) (.int .i64 (rd y414 t417))) (fun _ hk => hk.2) (.int .i64 (wrap64 (1 + t375)))) (fun _ hk => hk.2) (.int .i64 x381001_2)) (fun _ hk => hk.2) (.int .i64 x381002_2)) (fun _ hk => hk.2) (.int .i64 (rd y414 t417))) (fun _ hk => hk.2) (.slice Ao101 x381004_2.length co101)) (fun _ hk => trivial), by repeat (first | (with_reducible first | exact HI0.out | apply IsS76.alloc | apply IsS76.drewN | apply IsS76.drew | apply IsS76.set_1 | refine IsS76.far ?_ NB0_374.out _ | refine IsS76.far ?_ NB0_380.out _) | exact HI0.out), by repeat (first | (with_reducible first | exact HB.out | apply below_alloc | apply pw_below_drewN | apply below_drew1 | refine below_set ?_ (IsS76.ge HI0.out) | refine below_set ?_ GE374.out | refine below_set ?_ GE380.out) | exact HB.out), by repeat (first | (with_reducible first | exact HK.out | apply KeepBut.set_ | apply keep_drewN | apply keep_drew | apply keep_alloc | refine keep_far ?_ GW374.out _ | refine keep_far ?_ GW380.out _) | exact HK.out)⟩
           ·rw [if_neg c90] at H
            exact absurd H (by simp)
          ·rw [if_neg c89] at H
           exact absurd H (by simp)
         ·rw [if_neg c87] at H
          have c87b0 : (t406 == 3) = false := beq_eq_false_iff_ne.mpr c87
          have c87b1 : (t406 != 3) = true := bne_iff_ne.mpr c87
          by_cases c102 : t406 = 4
          ·rw [if_pos c102] at H
           have c102b0 : (t406 == 4) = true := beq_iff_eq.mpr c102
           have c102b1 : (t406 != 4) = false := bne_eq_false_iff_eq.mpr c102
           clear c102
           replace H := Option.bind_eq_some_iff.mp H
           obtain ⟨⟨t420, t421, t422, t423, t424, t425, t426, t427⟩, A1030, H⟩ := H
           replace H : (if x381004_2.length < 2513169434916 then (some ((wrap64 (1 + t375)), x381001_2, x381002_2, x381003_2, (x381004_2 ++ [(⟨t420, t421, t422, t423, t424, t425, t426⟩ : S24)]), t427)) else (none)) = some (r1, r2, r3, r4, r5, r6) := H
           have A103 := Aside0.mk A1030
           clear A1030
           by_cases c104 : x381004_2.length < 2513169434916
           ·rw [if_pos c104] at H
            have LMc104 := Aside0.mk c104
            clear c104
            obtain ⟨y428, hy428⟩ : ∃ y_ : List (S24), y_ = (x381004_2 ++ [(⟨t420, t421, t422, t423, t424, t425, t426⟩ : S24)]) := ⟨_, rfl⟩
            replace H : (some ((wrap64 (1 + t375)), x381001_2, x381002_2, x381003_2, y428, t427)) = some (r1, r2, r3, r4, r5, r6) := by first | (rw [hy428]; with_reducible exact H) | (have H2_ := (Option.bind_some _ _).symm.trans H; rw [hy428]; with_reducible exact H2_) | (have H2_ := (Option.bind_some _ _).symm.trans H; with_reducible exact H2_) | with_reducible exact H | (rw [hy428]; exact H) | exact H
            have Ny428 := Aside0.mk hy428
            clear hy428
            simp only [Option.some.injEq, Prod.mk.injEq] at H
            obtain ⟨rfl, rfl, rfl, rfl, rfl, rfl⟩ := H
            try go_wp2_with (first | ((with_reducible refine gate_callee (f := 41) rfl ?_); refine goesL_ (some 62) rfl rfl Tryd.func41 (by kernel_rfl) rfl #[.pointer (some ⟨g, 0, none⟩), .int .i64 20] rfl z34x12 ?_; (with_reducible refine (spec_l6Rd_pick.calls k2 g s0_0 x1001_2 20 t406 t407 w0 _ ?side1 ?side2 A56.out).mono ?_); (case side1 => repeat (first | (with_reducible first | exact HI0.out | apply IsS76.alloc | apply IsS76.drewN | apply IsS76.drew | apply IsS76.set_1 | refine IsS76.far ?_ NB0_374.out _ | refine IsS76.far ?_ NB0_380.out _) | exact HI0.out)); (case side2 => repeat (first | (with_reducible first | exact HB.out | apply below_alloc | apply pw_below_drewN | apply below_drew1 | refine below_set ?_ (IsS76.ge HI0.out) | refine below_set ?_ GE374.out | refine below_set ?_ GE380.out) | exact HB.out)); rintro e w105 ⟨rfl, hi, hb, hk⟩; refine ⟨_, rfl, ?_⟩; have n0_ := Aside0.mk (Kd.R_mono (Kd.R_keep (IsS76.apart (show IsS76 w0 _ g s0_0 x1001_2 from by repeat (first | (with_reducible first | exact HI0.out | apply IsS76.alloc | apply IsS76.drewN | apply IsS76.drew | apply IsS76.set_1 | refine IsS76.far ?_ NB0_374.out _ | refine IsS76.far ?_ NB0_380.out _) | exact HI0.out)) z34x15 (by decide)) hk (fun _ h => h.2)) (fun _ h => h.1)); have n1_ := Aside0.mk (KeepBut.blk hk (g' := gb374) (o := .cells #[.int .i64 0, .int .i64 0, .int .i64 0, .int .i64 0, .slice none 0 0] 46 (0, 0)) z34x13 NB374_0.out (by simp)); have n2_ := Aside0.mk (KeepBut.blk hk (g' := gb380) (o := .cells #[.int .i64 (wrap64 (1 + t375)), .int .i64 x381001_2, .int .i64 x381002_2, .int .i64 x381003_2, u381004] 46 (0, 0)) z34x14 NB380_0.out (by simp)); have n3_ := Aside0.mk (KeepBut.trans z34x7 hk (.inl rfl)); have n4_ := Aside0.mk (hb); have n5_ := Aside0.mk (hi); clear HO_381004; clear BK374; clear BK380; clear HK; clear HB; clear HI0; have HO_381004 := n0_; have BK374 := n1_; have BK380 := n2_; have HK := n3_; have HB := n4_; have HI0 := n5_; clear n0_ n1_ n2_ n3_ n4_ n5_; (try clear hb); (try clear hb2); (try clear hk); (try clear hi)))
            have n0_ := Aside0.mk (Kd.R_drew HO_381004.out)
            have n1_ := Aside0.mk (blk_drew BK374.out)
            have n2_ := Aside0.mk (blk_drew BK380.out)
            have n3_ := Aside0.mk (IsS76.drew HI0.out)
            have n4_ := Aside0.mk (keep_drew HK.out)
            have n5_ := Aside0.mk (below_drew1 HB.out)
            clear HO_381004
            clear BK374
            clear BK380
            clear HI0
            clear HK
            clear HB
            have HO_381004 := n0_
            have BK374 := n1_
            have BK380 := n2_
            have HI0 := n3_
            have HK := n4_
            have HB := n5_
            clear n0_ n1_ n2_ n3_ n4_ n5_
            refine start_ (n := 8) (S := fun w' => w'.cell? ⟨gb380, 0, none⟩ = some (.int .i64 (wrap64 (1 + t375))) ∧ w'.cell? ⟨gb380, 1, none⟩ = some (.int .i64 x381001_2) ∧ w'.cell? ⟨gb380, 2, none⟩ = some (.int .i64 x381002_2) ∧ w'.cell? ⟨gb380, 3, none⟩ = some (.int .i64 x381003_2) ∧ w'.cell? ⟨gb380, 4, none⟩ = some (u381004)) (ds := [7]) #[false, false, false, false, false, false, false, false] (by kernel_rfl) rfl rfl ⟨(blk_cell BK380.out 0).trans rfl, (blk_cell BK380.out 1).trans rfl, (blk_cell BK380.out 2).trans rfl, (blk_cell BK380.out 3).trans rfl, (blk_cell BK380.out 4).trans rfl⟩ (fun hHeld => ?_); refine with_tabW spec_l71Msg.tab31 spec_l71Msg.bits31 (fun HT_ HW_ => ?_)
            generalize w105.drew = w106 at HO_381004 BK374 BK380 HI0 HK HB hHeld ⊢
            refine pure_ (i := 0) (N := some 88) (v := ?_) (a' := ?_) #[true, false, false, false, false, false, false, false] rfl rfl (any_of HT_.out (by kernel_rfl)) (fun _ _ _ h => h) (Or.inl ⟨by rfl, ?_⟩) ?_ ?_
            rotate_left
            ·intro w'
             go_simp
             with_reducible rfl
            rotate_left
            ·simp only [Act.put, List.setIfInBounds_toArray, List.set_cons_zero, List.set_cons_succ, i64_w, i32_w]
             rfl
            refine pure_ (i := 2) (N := some 90) (v := ?_) (a' := ?_) #[true, false, true, false, false, false, false, false] rfl rfl (any_of HT_.out (by kernel_rfl)) (fun _ _ _ h => h) (Or.inl ⟨by rfl, ?_⟩) ?_ ?_
            rotate_left
            ·intro w'
             go_simp
             with_reducible rfl
            rotate_left
            ·simp only [Act.put, List.setIfInBounds_toArray, List.set_cons_zero, List.set_cons_succ, i64_w, i32_w]
             rfl
            refine take_ (i := 1) (N := some 89) (v := ?_) (a' := ?_) #[true, true, true, false, false, false, false, false] rfl rfl (take_ofW HT_.out HW_.out (by kernel_rfl)) (fun _ _ _ h => h) (Or.inl ⟨by rfl, ?_⟩) hHeld ?_ ?_
            rotate_left
            ·rintro w' ⟨s0, s1, s2, s3, s4⟩
             go_simp
             with_reducible rfl
            rotate_left
            ·simp only [Act.put, List.setIfInBounds_toArray, List.set_cons_zero, List.set_cons_succ, i64_w, i32_w]
             rfl
            refine one_ (i := 3) (N := some 91) #[true, true, true, true, false, false, false, false] rfl rfl (one_of HT_.out (by kernel_rfl)) (by decide) (fun K hK => ?_)
            refine goes_ Tryd.func31 (by kernel_rfl) rfl #[.pointer (some ⟨g, 0, none⟩)] (by rfl) rfl rfl z34x12 ?_
            with_reducible refine (spec_l71Seal.calls k2 g s0_0 t407 t420 t421 t422 t423 t424 t425 t426 t427 w0 _ ?side1 ?side2 A103.out).mono ?_
            (case side1 => repeat (first | (with_reducible first | exact HI0.out | apply IsS76.alloc | apply IsS76.drewN | apply IsS76.drew | apply IsS76.set_1 | refine IsS76.far ?_ NB0_374.out _ | refine IsS76.far ?_ NB0_380.out _) | exact HI0.out))
            (case side2 => repeat (first | (with_reducible first | exact HB.out | apply below_alloc | apply pw_below_drewN | apply below_drew1 | refine below_set ?_ (IsS76.ge HI0.out) | refine below_set ?_ GE374.out | refine below_set ?_ GE380.out) | exact HB.out))
            rintro e w107 ⟨rfl, hi, hb, hk⟩
            refine ⟨_, rfl, ?_⟩
            have n0_ := Aside0.mk (Kd.R_mono (Kd.R_keep (IsS76.apart (show IsS76 w0 _ g s0_0 t407 from by repeat (first | (with_reducible first | exact HI0.out | apply IsS76.alloc | apply IsS76.drewN | apply IsS76.drew | apply IsS76.set_1 | refine IsS76.far ?_ NB0_374.out _ | refine IsS76.far ?_ NB0_380.out _) | exact HI0.out)) z34x15 (by decide)) hk (fun _ h => h.2)) (fun _ h => h.1))
            have n1_ := Aside0.mk (KeepBut.blk hk (g' := gb374) (o := .cells #[.int .i64 0, .int .i64 0, .int .i64 0, .int .i64 0, .slice none 0 0] 46 (0, 0)) z34x13 NB374_0.out (by simp))
            have n2_ := Aside0.mk (KeepBut.blk hk (g' := gb380) (o := .cells #[.int .i64 (wrap64 (1 + t375)), .int .i64 x381001_2, .int .i64 x381002_2, .int .i64 x381003_2, u381004] 46 (0, 0)) z34x14 NB380_0.out (by simp))
            have n3_ := Aside0.mk (KeepBut.trans z34x7 hk (.inl rfl))
            have n4_ := Aside0.mk (hb)
            have n5_ := Aside0.mk (hi)
            clear HO_381004
            clear BK374
            clear BK380
            clear HK
            clear HB
            clear HI0
            have HO_381004 := n0_
            have BK374 := n1_
            have BK380 := n2_
            have HK := n3_
            have HB := n4_
            have HI0 := n5_
            clear n0_ n1_ n2_ n3_ n4_ n5_
            (try clear hb)
            (try clear hb2)
            (try clear hk)
            (try clear hi)
            refine hK.out _ _ ⟨(blk_cell BK380.out 0).trans rfl, (blk_cell BK380.out 1).trans rfl, (blk_cell BK380.out 2).trans rfl, (blk_cell BK380.out 3).trans rfl, (blk_cell BK380.out 4).trans rfl⟩ (fun hHeld => ?_)
            clear hK K
            refine norm_ (a' := ?_) ?_ ?_
            rotate_left
            ·show Act.put _ (some 91) _ = _
             simp only [Act.put, List.setIfInBounds_toArray, List.set_cons_zero, List.set_cons_succ, i64_w, i32_w]
             rfl
            refine one_ (i := 4) (N := some 92) #[true, true, true, true, true, false, false, false] rfl rfl (one_of HT_.out (by kernel_rfl)) (by decide) (fun K hK => ?_)
            refine value_ (w1 := ?_) (v := ?_) (by rfl) rfl ?_ ?_
            rotate_left 2
            ·go_simp
             constructor
             ·rfl
             ·rfl
            refine hK.out _ _ ⟨(blk_cell (blk_alloc BK380.out _) 0).trans rfl, (blk_cell (blk_alloc BK380.out _) 1).trans rfl, (blk_cell (blk_alloc BK380.out _) 2).trans rfl, (blk_cell (blk_alloc BK380.out _) 3).trans rfl, (blk_cell (blk_alloc BK380.out _) 4).trans rfl⟩ (fun hHeld => ?_)
            clear hK K
            refine norm_ (a' := ?_) ?_ ?_
            rotate_left
            ·show Act.put _ (some 92) _ = _
             simp only [Act.put, List.setIfInBounds_toArray, List.set_cons_zero, List.set_cons_succ, i64_w, i32_w]
             rfl
            refine one_ (i := 5) (N := some 93) #[true, true, true, true, true, true, false, false] rfl rfl (one_of HT_.out (by kernel_rfl)) (by decide) (fun K hK => ?_)
            refine Kd.R_append_step k24 w.heap.size (by rfl) (.tmp 89) (.tmp 92) 44 24 (.agg #[(.int .i64 0), (.int .i64 0), (.int .i64 0), (.int .i64 0), (.int .i64 0), (.int .i64 0), (.int .i64 0)]) 56 rfl Tryd.underlying44 info24 rfl (by decide) (by omega) u381004 x381004_2 (⟨t420, t421, t422, t423, t424, t425, t426⟩ : S24) [.int .i64 t420, .int .i64 t421, .int .i64 t422, .int .i64 t423, .int .i64 t424, .int .i64 t425, .int .i64 t426] (fun _ => True) (fun _ => False) rfl rfl ?aP (fun _ hk => hk.elim) ?aF ?aO (Below.refl _ _) ?aS ?aL ?_
            (case aP => exact k24_mkM _ _ _ (⟨t420, t421, t422, t423, t424, t425, t426⟩ : S24))
            (case aF => exact (fun _ _ => trivial))
            (case aO => exact z34x15)
            (case aS => exact (keep_size (w := w) (g := g) (row := none) z34x7))
            (case aL => have := LMc104.out; omega)
            intro v429 w108 ho hb hg hat
            rw [← Ny428.out] at ho
            have n0_ := Aside0.mk (blk_grown (g := gb374) (o := .cells #[.int .i64 0, .int .i64 0, .int .i64 0, .int .i64 0, .slice none 0 0] 46 (0, 0)) z34x13 hg (Kd.R_ne HO_381004.out BK374.out (by decide)))
            have n1_ := Aside0.mk (blk_grown (g := gb380) (o := .cells #[.int .i64 (wrap64 (1 + t375)), .int .i64 x381001_2, .int .i64 x381002_2, .int .i64 x381003_2, u381004] 46 (0, 0)) z34x14 hg (Kd.R_ne HO_381004.out BK380.out (by decide)))
            have n2_ := Aside0.mk (IsS76.grown z34x6 hg (IsS76.own_ne HI0.out HO_381004.out (by decide)))
            have n3_ := Aside0.mk (below_weaken z34x5 HL.out hb)
            have n4_ := Aside0.mk (KeepBut.trans z34x7 (KeepBut.of_grown hg g) (Kd.R_base2 HO_381004.out))
            have n5_ := Aside0.mk (ho)
            clear BK374
            clear BK380
            clear HI0
            clear HB
            clear HK
            clear HO_381004
            have BK374 := n0_
            have BK380 := n1_
            have HI0 := n2_
            have HB := n3_
            have HK := n4_
            have HO430 := n5_
            clear n0_ n1_ n2_ n3_ n4_ n5_
            clear ho hb hg hat
            obtain ⟨Ao109, co109, eo109⟩ := Kd.R_slice HO430.out
            (first | subst eo109 | (injection eo109 with f1_ f2_ f3_; have f4_ := f1_.symm; have f5_ := f3_.symm; clear f1_ f2_ f3_; subst f4_; subst f5_))
            refine hK.out _ _ ⟨(blk_cell BK380.out 0).trans rfl, (blk_cell BK380.out 1).trans rfl, (blk_cell BK380.out 2).trans rfl, (blk_cell BK380.out 3).trans rfl, (blk_cell BK380.out 4).trans rfl⟩ (fun hHeld => ?_)
            clear hK K
            refine norm_ (a' := ?_) ?_ ?_
            rotate_left
            ·show Act.put _ (some 93) _ = _
             simp only [Act.put, List.setIfInBounds_toArray, List.set_cons_zero, List.set_cons_succ, i64_w, i32_w]
             rfl
            refine pure_ (i := 6) (N := some 94) (v := ?_) (a' := ?_) #[true, true, true, true, true, true, true, false] rfl rfl (any_of HT_.out (by kernel_rfl)) (fun _ _ _ h => h) (Or.inl ⟨by rfl, ?_⟩) ?_ ?_
            rotate_left
            ·intro w'
             go_simp
             with_reducible rfl
            rotate_left
            ·simp only [Act.put, List.setIfInBounds_toArray, List.set_cons_zero, List.set_cons_succ, i64_w, i32_w]
             rfl
            refine last_ (i := 7) (N := none) #[true, true, true, true, true, true, true, true] rfl rfl (one_of HT_.out (by kernel_rfl)) (by decide) (fun K hK => ?_)
            have hs110 : w108.cell? ⟨gb380, 4, none⟩ = some (u381004) := (blk_cell BK380.out 4).trans rfl
            have hfs110 := blk_frozen BK380.out 4
            have hns110_0 := NB374_380.out
            have hms110_0 := NB380_374.out
            refine skip_ (w1 := ?_) (by rfl) rfl ?_ ?_
            rotate_left
            ·go_simp
             rfl
            refine hK.out _ _ ?_
            clear hK K
            refine done_ (done_of HT_.out (by kernel_rfl)) ?_
            have hnb111 := NB380_374.out
            have hnc111 := NB374_380.out
            have hnb112 := NB380_0.out
            have hnc112 := NB0_380.out
            have hcz113_0 : w108.cell? ⟨gb380, 0, none⟩ = some (.int .i64 (wrap64 (1 + t375))) := (blk_cell BK380.out 0).trans rfl
            have hcz113_1 : w108.cell? ⟨gb380, 1, none⟩ = some (.int .i64 x381001_2) := (blk_cell BK380.out 1).trans rfl
            have hcz113_2 : w108.cell? ⟨gb380, 2, none⟩ = some (.int .i64 x381002_2) := (blk_cell BK380.out 2).trans rfl
            have hcz113_3 : w108.cell? ⟨gb380, 3, none⟩ = some (.int .i64 x381003_2) := (blk_cell BK380.out 3).trans rfl
            have hcz113_4 : w108.cell? ⟨gb380, 4, none⟩ = some (u381004) := (blk_cell BK380.out 4).trans rfl
            have hfz113_0 := blk_frozen BK380.out 0
            have hfz113_1 := blk_frozen BK380.out 1
            have hfz113_2 := blk_frozen BK380.out 2
            have hfz113_3 := blk_frozen BK380.out 3
            have hfz113_4 := blk_frozen BK380.out 4
            have hnb114 := NB374_0.out
            have hnc114 := NB0_374.out
            have hcz115_0 : w108.cell? ⟨gb374, 0, none⟩ = some (.int .i64 0) := (blk_cell BK374.out 0).trans rfl
            have hcz115_1 : w108.cell? ⟨gb374, 1, none⟩ = some (.int .i64 0) := (blk_cell BK374.out 1).trans rfl
            have hcz115_2 : w108.cell? ⟨gb374, 2, none⟩ = some (.int .i64 0) := (blk_cell BK374.out 2).trans rfl
            have hcz115_3 : w108.cell? ⟨gb374, 3, none⟩ = some (.int .i64 0) := (blk_cell BK374.out 3).trans rfl
            have hcz115_4 : w108.cell? ⟨gb374, 4, none⟩ = some (.slice none 0 0) := (blk_cell BK374.out 4).trans rfl
            have hfz115_0 := blk_frozen BK374.out 0
            have hfz115_1 := blk_frozen BK374.out 1
            have hfz115_2 := blk_frozen BK374.out 2
            have hfz115_3 := blk_frozen BK374.out 3
            have hfz115_4 := blk_frozen BK374.out 4
            try go_wp2
            refine bodyPost_ret (results_cell_row rfl _ _ gb374 46 #[.int .i64 (wrap64 (1 + t375)), .int .i64 x381001_2, .int .i64 x381002_2, .int .i64 x381003_2, .slice Ao109 y428.length co109] (0, 0) _ rfl (by (with_reducible repeat (first | refine blk_drewN ?_ _ | refine blk_drew ?_ | refine blk_alloc ?_ _)); refine blk_put (cs := #[.int .i64 (wrap64 (1 + t375)), .int .i64 x381001_2, .int .i64 x381002_2, .int .i64 x381003_2, .slice none 0 0]) ?_ 4 _ rfl; (with_reducible repeat (first | refine blk_drewN ?_ _ | refine blk_drew ?_ | refine blk_alloc ?_ _)); refine blk_put (cs := #[.int .i64 (wrap64 (1 + t375)), .int .i64 x381001_2, .int .i64 x381002_2, .int .i64 0, .slice none 0 0]) ?_ 3 _ rfl; (with_reducible repeat (first | refine blk_drewN ?_ _ | refine blk_drew ?_ | refine blk_alloc ?_ _)); refine blk_put (cs := #[.int .i64 (wrap64 (1 + t375)), .int .i64 x381001_2, .int .i64 0, .int .i64 0, .slice none 0 0]) ?_ 2 _ rfl; (with_reducible repeat (first | refine blk_drewN ?_ _ | refine blk_drew ?_ | refine blk_alloc ?_ _)); refine blk_put (cs := #[.int .i64 (wrap64 (1 + t375)), .int .i64 0, .int .i64 0, .int .i64 0, .slice none 0 0]) ?_ 1 _ rfl; (with_reducible repeat (first | refine blk_drewN ?_ _ | refine blk_drew ?_ | refine blk_alloc ?_ _)); refine blk_put (cs := #[.int .i64 0, .int .i64 0, .int .i64 0, .int .i64 0, .slice none 0 0]) ?_ 0 _ rfl; (with_reducible repeat (first | refine blk_drewN ?_ _ | refine blk_drew ?_ | refine blk_alloc ?_ _)); refine blk_far ?_ NB374_380.out _; (with_reducible repeat (first | refine blk_drewN ?_ _ | refine blk_drew ?_ | refine blk_alloc ?_ _)); exact BK374.out) Tryd.underlying46 rfl (by kernel_rfl)) rfl ?_
            exact ⟨_, by first | rfl | (simp [errW_none, errW_some] <;> rfl) | (simp [*, errW_none, errW_some] <;> rfl), by (with_reducible repeat (first | apply Kd.R_alloc | apply Kd.R_drewN | apply Kd.R_drew)); exact Kd.R_mono (Kd.R_far (p := ⟨gb374, 4, none⟩) (Kd.R_far (p := ⟨gb374, 3, none⟩) (Kd.R_far (p := ⟨gb374, 2, none⟩) (Kd.R_far (p := ⟨gb374, 1, none⟩) (Kd.R_far (p := ⟨gb374, 0, none⟩) (Kd.R_far (p := ⟨gb380, 4, none⟩) (Kd.R_types (Kd.R_types HO430.out BK380.out (by decide)) BK374.out (by decide)) (fun _ hk => hk.1.2) (.slice Ao109 y428.length co109)) (fun _ hk => hk.2) (.int .i64 (wrap64 (1 + t375)))) (fun _ hk => hk.2) (.int .i64 x381001_2)) (fun _ hk => hk.2) (.int .i64 x381002_2)) (fun _ hk => hk.2) (.int .i64 x381003_2)) (fun _ hk => hk.2) (.slice Ao109 y428.length co109)) (fun _ hk => trivial), by repeat (first | (with_reducible first | exact HI0.out | apply IsS76.alloc | apply IsS76.drewN | apply IsS76.drew | apply IsS76.set_1 | refine IsS76.far ?_ NB0_374.out _ | refine IsS76.far ?_ NB0_380.out _) | exact HI0.out), by repeat (first | (with_reducible first | exact HB.out | apply below_alloc | apply pw_below_drewN | apply below_drew1 | refine below_set ?_ (IsS76.ge HI0.out) | refine below_set ?_ GE374.out | refine below_set ?_ GE380.out) | exact HB.out), by repeat (first | (with_reducible first | exact HK.out | apply KeepBut.set_ | apply keep_drewN | apply keep_drew | apply keep_alloc | refine keep_far ?_ GW374.out _ | refine keep_far ?_ GW380.out _) | exact HK.out)⟩
           ·rw [if_neg c104] at H
            exact absurd H (by simp)
          ·rw [if_neg c102] at H
           have c102b0 : (t406 == 4) = false := beq_eq_false_iff_ne.mpr c102
           have c102b1 : (t406 != 4) = true := bne_iff_ne.mpr c102
           simp only [Option.some.injEq, Prod.mk.injEq] at H
           obtain ⟨rfl, rfl, rfl, rfl, rfl, rfl⟩ := H
           go_wp2_with (first | ((with_reducible refine gate_callee (f := 41) rfl ?_); refine goesL_ (some 62) rfl rfl Tryd.func41 (by kernel_rfl) rfl #[.pointer (some ⟨g, 0, none⟩), .int .i64 20] rfl z34x12 ?_; (with_reducible refine (spec_l6Rd_pick.calls k2 g s0_0 x1001_2 20 t406 t407 w0 _ ?side1 ?side2 A56.out).mono ?_); (case side1 => repeat (first | (with_reducible first | exact HI0.out | apply IsS76.alloc | apply IsS76.drewN | apply IsS76.drew | apply IsS76.set_1 | refine IsS76.far ?_ NB0_374.out _ | refine IsS76.far ?_ NB0_380.out _) | exact HI0.out)); (case side2 => repeat (first | (with_reducible first | exact HB.out | apply below_alloc | apply pw_below_drewN | apply below_drew1 | refine below_set ?_ (IsS76.ge HI0.out) | refine below_set ?_ GE374.out | refine below_set ?_ GE380.out) | exact HB.out)); rintro e w116 ⟨rfl, hi, hb, hk⟩; refine ⟨_, rfl, ?_⟩; have n0_ := Aside0.mk (Kd.R_mono (Kd.R_keep (IsS76.apart (show IsS76 w0 _ g s0_0 x1001_2 from by repeat (first | (with_reducible first | exact HI0.out | apply IsS76.alloc | apply IsS76.drewN | apply IsS76.drew | apply IsS76.set_1 | refine IsS76.far ?_ NB0_374.out _ | refine IsS76.far ?_ NB0_380.out _) | exact HI0.out)) z34x15 (by decide)) hk (fun _ h => h.2)) (fun _ h => h.1)); have n1_ := Aside0.mk (KeepBut.blk hk (g' := gb374) (o := .cells #[.int .i64 0, .int .i64 0, .int .i64 0, .int .i64 0, .slice none 0 0] 46 (0, 0)) z34x13 NB374_0.out (by simp)); have n2_ := Aside0.mk (KeepBut.blk hk (g' := gb380) (o := .cells #[.int .i64 (wrap64 (1 + t375)), .int .i64 x381001_2, .int .i64 x381002_2, .int .i64 x381003_2, u381004] 46 (0, 0)) z34x14 NB380_0.out (by simp)); have n3_ := Aside0.mk (KeepBut.trans z34x7 hk (.inl rfl)); have n4_ := Aside0.mk (hb); have n5_ := Aside0.mk (hi); clear HO_381004; clear BK374; clear BK380; clear HK; clear HB; clear HI0; have HO_381004 := n0_; have BK374 := n1_; have BK380 := n2_; have HK := n3_; have HB := n4_; have HI0 := n5_; clear n0_ n1_ n2_ n3_ n4_ n5_; (try clear hb); (try clear hb2); (try clear hk); (try clear hi); have hnb117 := NB380_374.out; have hnc117 := NB374_380.out; have hnb118 := NB380_0.out; have hnc118 := NB0_380.out; have hcz119_0 : w116.cell? ⟨gb380, 0, none⟩ = some (.int .i64 (wrap64 (1 + t375))) := (blk_cell BK380.out 0).trans rfl; have hcz119_1 : w116.cell? ⟨gb380, 1, none⟩ = some (.int .i64 x381001_2) := (blk_cell BK380.out 1).trans rfl; have hcz119_2 : w116.cell? ⟨gb380, 2, none⟩ = some (.int .i64 x381002_2) := (blk_cell BK380.out 2).trans rfl; have hcz119_3 : w116.cell? ⟨gb380, 3, none⟩ = some (.int .i64 x381003_2) := (blk_cell BK380.out 3).trans rfl; have hcz119_4 : w116.cell? ⟨gb380, 4, none⟩ = some (u381004) := (blk_cell BK380.out 4).trans rfl; have hfz119_0 := blk_frozen BK380.out 0; have hfz119_1 := blk_frozen BK380.out 1; have hfz119_2 := blk_frozen BK380.out 2; have hfz119_3 := blk_frozen BK380.out 3; have hfz119_4 := blk_frozen BK380.out 4; have hnb120 := NB374_0.out; have hnc120 := NB0_374.out; have hcz121_0 : w116.cell? ⟨gb374, 0, none⟩ = some (.int .i64 0) := (blk_cell BK374.out 0).trans rfl; have hcz121_1 : w116.cell? ⟨gb374, 1, none⟩ = some (.int .i64 0) := (blk_cell BK374.out 1).trans rfl; have hcz121_2 : w116.cell? ⟨gb374, 2, none⟩ = some (.int .i64 0) := (blk_cell BK374.out 2).trans rfl; have hcz121_3 : w116.cell? ⟨gb374, 3, none⟩ = some (.int .i64 0) := (blk_cell BK374.out 3).trans rfl; have hcz121_4 : w116.cell? ⟨gb374, 4, none⟩ = some (.slice none 0 0) := (blk_cell BK374.out 4).trans rfl; have hfz121_0 := blk_frozen BK374.out 0; have hfz121_1 := blk_frozen BK374.out 1; have hfz121_2 := blk_frozen BK374.out 2; have hfz121_3 := blk_frozen BK374.out 3; have hfz121_4 := blk_frozen BK374.out 4; obtain ⟨Ao122, co122, eo122⟩ := Kd.R_slice HO_381004.out; subst eo122))
           refine bodyPost_ret (results_cell_row rfl _ _ gb374 46 #[.int .i64 (wrap64 (1 + t375)), .int .i64 x381001_2, .int .i64 x381002_2, .int .i64 x381003_2, .slice Ao122 x381004_2.length co122] (0, 0) _ rfl (by (with_reducible repeat (first | refine blk_drewN ?_ _ | refine blk_drew ?_ | refine blk_alloc ?_ _)); refine blk_put (cs := #[.int .i64 (wrap64 (1 + t375)), .int .i64 x381001_2, .int .i64 x381002_2, .int .i64 x381003_2, .slice none 0 0]) ?_ 4 _ rfl; (with_reducible repeat (first | refine blk_drewN ?_ _ | refine blk_drew ?_ | refine blk_alloc ?_ _)); refine blk_put (cs := #[.int .i64 (wrap64 (1 + t375)), .int .i64 x381001_2, .int .i64 x381002_2, .int .i64 0, .slice none 0 0]) ?_ 3 _ rfl; (with_reducible repeat (first | refine blk_drewN ?_ _ | refine blk_drew ?_ | refine blk_alloc ?_ _)); refine blk_put (cs := #[.int .i64 (wrap64 (1 + t375)), .int .i64 x381001_2, .int .i64 0, .int .i64 0, .slice none 0 0]) ?_ 2 _ rfl; (with_reducible repeat (first | refine blk_drewN ?_ _ | refine blk_drew ?_ | refine blk_alloc ?_ _)); refine blk_put (cs := #[.int .i64 (wrap64 (1 + t375)), .int .i64 0, .int .i64 0, .int .i64 0, .slice none 0 0]) ?_ 1 _ rfl; (with_reducible repeat (first | refine blk_drewN ?_ _ | refine blk_drew ?_ | refine blk_alloc ?_ _)); refine blk_put (cs := #[.int .i64 0, .int .i64 0, .int .i64 0, .int .i64 0, .slice none 0 0]) ?_ 0 _ rfl; (with_reducible repeat (first | refine blk_drewN ?_ _ | refine blk_drew ?_ | refine blk_alloc ?_ _)); exact BK374.out) Tryd.underlying46 rfl (by kernel_rfl)) rfl ?_
           exact ⟨_, by first | rfl | (simp [errW_none, errW_some] <;> rfl) | (simp [*, errW_none, errW_some] <;> rfl), by (with_reducible repeat (first | apply Kd.R_alloc | apply Kd.R_drewN | apply Kd.R_drew)); exact Kd.R_mono (Kd.R_far (p := ⟨gb374, 4, none⟩) (Kd.R_far (p := ⟨gb374, 3, none⟩) (Kd.R_far (p := ⟨gb374, 2, none⟩) (Kd.R_far (p := ⟨gb374, 1, none⟩) (Kd.R_far (p := ⟨gb374, 0, none⟩) (Kd.R_types HO_381004.out BK374.out (by decide)) (fun _ hk => hk.2) (.int .i64 (wrap64 (1 + t375)))) (fun _ hk => hk.2) (.int .i64 x381001_2)) (fun _ hk => hk.2) (.int .i64 x381002_2)) (fun _ hk => hk.2) (.int .i64 x381003_2)) (fun _ hk => hk.2) (.slice Ao122 x381004_2.length co122)) (fun _ hk => trivial), by repeat (first | (with_reducible first | exact HI0.out | apply IsS76.alloc | apply IsS76.drewN | apply IsS76.drew | apply IsS76.set_1 | refine IsS76.far ?_ NB0_374.out _ | refine IsS76.far ?_ NB0_380.out _) | exact HI0.out), by repeat (first | (with_reducible first | exact HB.out | apply below_alloc | apply pw_below_drewN | apply below_drew1 | refine below_set ?_ (IsS76.ge HI0.out) | refine below_set ?_ GE374.out | refine below_set ?_ GE380.out) | exact HB.out), by repeat (first | (with_reducible first | exact HK.out | apply KeepBut.set_ | apply keep_drewN | apply keep_drew | apply keep_alloc | refine keep_far ?_ GW374.out _ | refine keep_far ?_ GW380.out _) | exact HK.out)⟩

end Go.Proofs.YtgekmdfcbcacdaaDoor.Hp
