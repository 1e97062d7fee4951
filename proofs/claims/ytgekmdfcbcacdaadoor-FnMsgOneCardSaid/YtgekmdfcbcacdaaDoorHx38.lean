-- hp.py
import Derived.Test.YtgekmdfcbcacdaaDoorHx0
import Derived.Test.YtgekmdfcbcacdaaDoorHx24
import Derived.Test.YtgekmdfcbcacdaaDoorHx29
import Derived.Test.YtgekmdfcbcacdaaDoorHx35
import Derived.Test.YtgekmdfcbcacdaaDoorHx37
namespace Go.Proofs.YtgekmdfcbcacdaaDoor.Hp
open Go.RowKit Go.Proofs.YtgekmdfcbcacdaaDoorW.PrintWords Go.Proofs.YtgekmdfcbcacdaaDoorW.PrintLast Go.Proofs.YtgekmdfcbcacdaaDoorW.PrintMore
attribute [local go_sem] max2_int min2_int max_two min_two max_three min_three max_four min_four   -- for this text's walks alone
set_option linter.unusedVariables false
set_option linter.unusedSimpArgs false
-- squeezed by wip/tools/squeeze.py
theorem z38x12 {P : Prop} (h : P := by (with_reducible repeat (first | apply Kd.R_alloc | apply Kd.R_drewN | apply Kd.R_drew)); exact HO462.out) : P := h
theorem z38x11 {P : Prop} (h : P := by (with_reducible repeat (first | apply Kd.R_alloc | apply Kd.R_drewN | apply Kd.R_drew)); exact HO454.out) : P := h
theorem z38x10 {P : Prop} (h : P := by (with_reducible repeat (first | apply Kd.R_alloc | apply Kd.R_drewN | apply Kd.R_drew)); exact HO_464004.out) : P := h
theorem z38x9 {P : Prop} (h : P := by (with_reducible repeat (first | apply Kd.R_alloc | apply Kd.R_drewN | apply Kd.R_drew)); exact HO_456004.out) : P := h
theorem z38x8 {P : Prop} (h : P := by (with_reducible repeat (first | refine blk_drewN ?_ _ | refine blk_drew ?_ | refine blk_alloc ?_ _)); exact BK463.out) : P := h
theorem z38x7 {P : Prop} (h : P := by (with_reducible repeat (first | refine blk_drewN ?_ _ | refine blk_drew ?_ | refine blk_alloc ?_ _)); exact BK455.out) : P := h
theorem z38x6 {P : Prop} (h : P := by repeat (first | (with_reducible first | exact HB.out | apply below_alloc | apply pw_below_drewN | apply below_drew1) | exact HB.out)) : P := h
theorem z38x5 {P : Prop} (h : P := by (try simp only [List.map_toArray, List.map_cons, List.map_nil]); first | done | rfl | (simp only [List.length_drop, List.length_take]; rfl)) : P := h
theorem z38x4 {P : Prop} (h : P := by repeat (first | (with_reducible first | exact HB.out | apply below_alloc | apply pw_below_drewN | apply below_drew1 | refine below_set ?_ GE455.out) | exact HB.out)) : P := h
theorem z38x3 {P : Prop} (h : P := by rw [hg]; exact (below_size (by repeat (first | (with_reducible first | exact HB.out | apply below_alloc | apply pw_below_drewN | apply below_drew1 | refine below_set ?_ GE455.out) | exact HB.out)))) : P := h
theorem z38x2 {P : Prop} (h : P := by repeat (first | (with_reducible first | exact HB.out | apply below_alloc | apply pw_below_drewN | apply below_drew1 | refine below_set ?_ GE455.out | refine below_set ?_ GE463.out) | exact HB.out)) : P := h
theorem z38x1 {P : Prop} (h : P := by (with_reducible repeat (first | apply Kd.R_alloc | apply Kd.R_drewN | apply Kd.R_drew)); exact (Kd.R_mono (Kd.R_far (p := ⟨gb463, 4, none⟩) (Kd.R_far (p := ⟨gb463, 3, none⟩) (Kd.R_far (p := ⟨gb463, 2, none⟩) (Kd.R_far (p := ⟨gb463, 1, none⟩) (Kd.R_far (p := ⟨gb463, 0, none⟩) (Kd.R_types HO454.out BK463.out (by decide)) (fun _ hk => hk.2) (.int .i64 t456)) (fun _ hk => hk.2) (.int .i64 t457)) (fun _ hk => hk.2) (.int .i64 t458)) (fun _ hk => hk.2) (.int .i64 t459)) (fun _ hk => hk.2) (.slice Ao19 t460.length co19)) (fun _ h_ => h_.1))) : P := h
theorem z38x0 {P : Prop} (h : P := by (with_reducible repeat (first | apply Kd.R_alloc | apply Kd.R_drewN | apply Kd.R_drew)); exact (Kd.R_mono (Kd.R_far (p := ⟨gb455, 4, none⟩) (Kd.R_far (p := ⟨gb455, 3, none⟩) (Kd.R_far (p := ⟨gb455, 2, none⟩) (Kd.R_far (p := ⟨gb455, 1, none⟩) (Kd.R_far (p := ⟨gb455, 0, none⟩) (Kd.R_types HO454.out BK455.out (by decide)) (fun _ hk => hk.2) (.int .i64 t448)) (fun _ hk => hk.2) (.int .i64 t449)) (fun _ hk => hk.2) (.int .i64 t450)) (fun _ hk => hk.2) (.int .i64 t451)) (fun _ hk => hk.2) (.slice Ao14 t452.length co14)) (fun _ h_ => h_.1))) : P := h

/-! ### laws_FnMsgOne: function 10 -/
mutual
def laws_FnMsgOne.j0 : Nat → List Int → List Int → Bool → Option (Bool)
 | 0, _, _, _ => none
 | k + 1, x0, x1, x16 => if x16 = true then (some true) else ((spec_DrawMsgText.f k x0).bind fun bt448 => ((spec_DrawMsgText.f k x1).bind fun bt456 => ((impl_MsgText.f k bt448.1 bt448.2.1 bt448.2.2.1 bt448.2.2.2.1 bt448.2.2.2.2).bind fun t464 => ((impl_MsgText.f k bt456.1 bt456.2.1 bt456.2.2.1 bt456.2.2.2.1 bt456.2.2.2.2).bind fun t465 => ((spec_MsgText.f k bt448.1 bt448.2.1 bt448.2.2.1 bt448.2.2.2.1 bt448.2.2.2.2).bind fun t466 => (if t464.toList = t466.toList then ((spec_MsgText.f k bt456.1 bt456.2.1 bt456.2.2.1 bt456.2.2.2.1 bt456.2.2.2.2).bind fun t467 => (if t465.toList = t467.toList then (if t464.toList = ([] : List UInt8) then (laws_FnMsgOne.j1 k t464 t465 true bt448.1 bt448.2.1 bt448.2.2.1 bt448.2.2.2.1 bt448.2.2.2.2 bt456.1 bt456.2.1 bt456.2.2.1 bt456.2.2.2.1 bt456.2.2.2.2) else (laws_FnMsgOne.j1 k t464 t465 (t465.toList == ([] : List UInt8)) bt448.1 bt448.2.1 bt448.2.2.1 bt448.2.2.2.1 bt448.2.2.2.2 bt456.1 bt456.2.1 bt456.2.2.1 bt456.2.2.2.1 bt456.2.2.2.2)) else (laws_FnMsgOne.j1 k t464 t465 true bt448.1 bt448.2.1 bt448.2.2.1 bt448.2.2.2.1 bt448.2.2.2.2 bt456.1 bt456.2.1 bt456.2.2.1 bt456.2.2.2.1 bt456.2.2.2.2))) else (laws_FnMsgOne.j1 k t464 t465 true bt448.1 bt448.2.1 bt448.2.2.1 bt448.2.2.2.1 bt448.2.2.2.2 bt456.1 bt456.2.1 bt456.2.2.1 bt456.2.2.2.1 bt456.2.2.2.2)))))))
def laws_FnMsgOne.j1 : Nat → ByteArray → ByteArray → Bool → Int → Int → Int → Int → List (S24) → Int → Int → Int → Int → List (S24) → Option (Bool)
 | 0, _, _, _, _, _, _, _, _, _, _, _, _, _ => none
 | k + 1, x7, x8, x42, x456000, x456001, x456002, x456003, x456004, x464000, x464001, x464002, x464003, x464004 => if x42 = true then ((spec_MsgText.f k x456000 x456001 x456002 x456003 x456004).bind fun t468 => (if x7.toList = t468.toList then ((spec_MsgText.f k x464000 x464001 x464002 x464003 x464004).bind fun t469 => (some (x8.toList == t469.toList))) else (some false))) else ((laws_lbMsg.f k x456000 x456001 x456002 x456003 x456004 x464000 x464001 x464002 x464003 x464004).bind fun t470 => (some ((x7.toList == x8.toList) == t470)))
end
def laws_FnMsgOne.f (k : Nat) (l0 : List Int) (l1 : List Int) : Option (Bool) := if (l0.length : Int) > 1048576 then (laws_FnMsgOne.j0 k l0 l1 true) else (laws_FnMsgOne.j0 k l0 l1 (decide ((l1.length : Int) > 1048576)))
theorem laws_FnMsgOne.mono_l : ∀ k, (∀ y0 y1 y2, LeO (laws_FnMsgOne.j0 k y0 y1 y2) (laws_FnMsgOne.j0 (k + 1) y0 y1 y2)) ∧ (∀ y0 y1 y2 y3 y4 y5 y6 y7 y8 y9 y10 y11 y12, LeO (laws_FnMsgOne.j1 k y0 y1 y2 y3 y4 y5 y6 y7 y8 y9 y10 y11 y12) (laws_FnMsgOne.j1 (k + 1) y0 y1 y2 y3 y4 y5 y6 y7 y8 y9 y10 y11 y12))
 | 0 => ⟨fun _ _ _ r h => by simp [laws_FnMsgOne.j0] at h, fun _ _ _ _ _ _ _ _ _ _ _ _ _ r h => by simp [laws_FnMsgOne.j1] at h⟩
 | k + 1 => by
  obtain ⟨ih0, ih1⟩ := laws_FnMsgOne.mono_l k
  refine ⟨?_, ?_⟩
  ·intro y0 y1 y2
   unfold laws_FnMsgOne.j0
   repeat' first
   | (with_reducible exact ih0 _ _ _)
   | (with_reducible exact ih1 _ _ _ _ _ _ _ _ _ _ _ _ _)
   | (with_reducible exact impl_MsgText.mono _ _ _ _ _ _)
   | (with_reducible exact laws_lbMsg.mono _ _ _ _ _ _ _ _ _ _ _)
   | (with_reducible exact spec_DrawMsgText.mono _ _)
   | (with_reducible exact spec_MsgText.mono _ _ _ _ _ _)
   | (with_reducible exact LeO.refl _)
   | (with_reducible exact LeO.none _)
   | (with_reducible refine LeO.ite ?_ ?_)
   | (with_reducible refine LeO.bind ?_ (fun _ => ?_))
   | exact ih0 _ _ _
   | exact ih1 _ _ _ _ _ _ _ _ _ _ _ _ _
   | exact impl_MsgText.mono _ _ _ _ _ _
   | exact laws_lbMsg.mono _ _ _ _ _ _ _ _ _ _ _
   | exact spec_DrawMsgText.mono _ _
   | exact spec_MsgText.mono _ _ _ _ _ _
   | exact LeO.none _
   | refine LeO.ite ?_ ?_
   | refine LeO.bind ?_ (fun _ => ?_)
  ·intro y0 y1 y2 y3 y4 y5 y6 y7 y8 y9 y10 y11 y12
   unfold laws_FnMsgOne.j1
   repeat' first
   | (with_reducible exact ih0 _ _ _)
   | (with_reducible exact ih1 _ _ _ _ _ _ _ _ _ _ _ _ _)
   | (with_reducible exact impl_MsgText.mono _ _ _ _ _ _)
   | (with_reducible exact laws_lbMsg.mono _ _ _ _ _ _ _ _ _ _ _)
   | (with_reducible exact spec_DrawMsgText.mono _ _)
   | (with_reducible exact spec_MsgText.mono _ _ _ _ _ _)
   | (with_reducible exact LeO.refl _)
   | (with_reducible exact LeO.none _)
   | (with_reducible refine LeO.ite ?_ ?_)
   | (with_reducible refine LeO.bind ?_ (fun _ => ?_))
   | exact ih0 _ _ _
   | exact ih1 _ _ _ _ _ _ _ _ _ _ _ _ _
   | exact impl_MsgText.mono _ _ _ _ _ _
   | exact laws_lbMsg.mono _ _ _ _ _ _ _ _ _ _ _
   | exact spec_DrawMsgText.mono _ _
   | exact spec_MsgText.mono _ _ _ _ _ _
   | exact LeO.none _
   | refine LeO.ite ?_ ?_
   | refine LeO.bind ?_ (fun _ => ?_)
theorem laws_FnMsgOne.mono : ∀ a0 a1 k, LeO (laws_FnMsgOne.f k a0 a1) (laws_FnMsgOne.f (k + 1) a0 a1) := by
 intro a0 a1 k
 obtain ⟨ih0, ih1⟩ := laws_FnMsgOne.mono_l k
 unfold laws_FnMsgOne.f
 repeat' first
   | (with_reducible exact ih0 _ _ _)
   | (with_reducible exact ih1 _ _ _ _ _ _ _ _ _ _ _ _ _)
   | (with_reducible exact impl_MsgText.mono _ _ _ _ _ _)
   | (with_reducible exact laws_lbMsg.mono _ _ _ _ _ _ _ _ _ _ _)
   | (with_reducible exact spec_DrawMsgText.mono _ _)
   | (with_reducible exact spec_MsgText.mono _ _ _ _ _ _)
   | (with_reducible exact LeO.refl _)
   | (with_reducible exact LeO.none _)
   | (with_reducible refine LeO.ite ?_ ?_)
   | (with_reducible refine LeO.bind ?_ (fun _ => ?_))
   | exact ih0 _ _ _
   | exact ih1 _ _ _ _ _ _ _ _ _ _ _ _ _
   | exact impl_MsgText.mono _ _ _ _ _ _
   | exact laws_lbMsg.mono _ _ _ _ _ _ _ _ _ _ _
   | exact spec_DrawMsgText.mono _ _
   | exact spec_MsgText.mono _ _ _ _ _ _
   | exact LeO.none _
   | refine LeO.ite ?_ ?_
   | refine LeO.bind ?_ (fun _ => ?_)
set_option maxHeartbeats 8000000 in
set_option maxRecDepth 100000 in
theorem laws_FnMsgOne.calls (k : Nat) (A0 : Option Addr) (c0 : Nat) (l0 : List Int) (A1 : Option Addr) (c1 : Nat) (l1 : List Int) (r : Bool) (w : World) (hr0 : Kd.C (Kd.int .u8) w A0 l0.length l0) (hc0 : l0.length ≤ c0) (hr1 : Kd.C (Kd.int .u8) w A1 l1.length l1) (hc1 : l1.length ≤ c1) (h : laws_FnMsgOne.f k l0 l1 = some r) (ht : Tens w) :
  Calls Tryd.prog 10 #[.slice A0 l0.length c0, .slice A1 l1.length c1] w fun e w' => e = .returned (.bool r) ∧ Below w.heap.size w w' := by
 have HT := Aside0.mk ht
 clear ht
 have hu46 := Tryd.underlying46
 have HR0 := Aside0.mk hr0
 have HC0 := Aside0.mk hc0
 clear hr0 hc0
 have HR1 := Aside0.mk hr1
 have HC1 := Aside0.mk hc1
 clear hr1 hc1
 have HB := Aside0.mk (Below.refl w.heap.size w)
 have H : (if (l0.length : Int) > 1048576 then (laws_FnMsgOne.j0 k l0 l1 true) else (laws_FnMsgOne.j0 k l0 l1 (decide ((l1.length : Int) > 1048576)))) = some r := h
 clear h
 have HC3 := Aside0.mk H
 clear H
 go_enter Tryd.func10, Tryd.ntmps10
 go_upto_region 1 with (fail)
 go_cut [16] (fun v16 wc => ∃ (kq : Nat) (x16_2 : Bool), v16 = .bool x16_2 ∧ Aside0 (laws_FnMsgOne.j0 kq l0 l1 x16_2 = some r) ∧ Aside0 (kq ≤ k) ∧ Aside0 (Below w.heap.size w wc))
 case first =>
  have H := HC3.out
  clear HC3
  by_cases c4 : (l0.length : Int) > 1048576
  ·rw [if_pos c4] at H
   have c4b0 : decide (1048576 < (l0.length : Int)) = true := decide_eq_true c4
   have c4b1 : decide (1048576 < l0.length) = true := decide_eq_true (by omega)
   clear c4
   (first | rw [c4b0] | (simp only [i64_w, i32_w]; rw [c4b0]) | skip)
   have H' := Aside0.mk H
   clear H
   go_wp2
   go_meet
   case rel => exact ⟨_, (true), (by first | rfl | (simp; done) | (simp [*]; done)), H', ⟨by first | omega | exact Nat.le_refl _⟩, ⟨by repeat (first | (with_reducible first | exact HB.out | apply below_alloc | apply pw_below_drewN | apply below_drew1) | exact HB.out)⟩⟩
  ·rw [if_neg c4] at H
   have c4b0 : decide (1048576 < (l0.length : Int)) = false := decide_eq_false c4
   have c4b1 : decide (1048576 < l0.length) = false := decide_eq_false (by omega)
   clear c4
   (first | rw [c4b0] | (simp only [i64_w, i32_w]; rw [c4b0]) | skip)
   have H' := Aside0.mk H
   clear H
   go_wp2
   go_meet
   case rel => exact ⟨_, (decide ((l1.length : Int) > 1048576)), (by first | rfl | (simp; done) | (simp [*]; done)), H', ⟨by first | omega | exact Nat.le_refl _⟩, ⟨by repeat (first | (with_reducible first | exact HB.out | apply below_alloc | apply pw_below_drewN | apply below_drew1) | exact HB.out)⟩⟩
 case rest =>
  clear HC3
  try clear c1
  try clear p2
  try clear c4
  try clear c4b0
  try clear c4b1
  obtain ⟨kq, x16_2, rfl, HA, HJ2, HB⟩ := hcut
  cases kq with
  | zero => exact absurd HA.out (by simp [laws_FnMsgOne.j0])
  | succ kj2 =>
   have H := HA.out
   clear HA
   simp only [laws_FnMsgOne.j0] at H
   by_cases c5 : x16_2 = true
   ·subst c5
    rw [if_pos rfl] at H
    obtain rfl := Option.some.inj H
    go_wp2
    go_ret
    exact ⟨by first | rfl | (simp [errW_none, errW_some] <;> rfl) | (simp [*, errW_none, errW_some] <;> rfl), by repeat (first | (with_reducible first | exact HB.out | apply below_alloc | apply pw_below_drewN | apply below_drew1) | exact HB.out)⟩
   ·replace c5 := Bool.eq_false_iff.mpr c5
    subst c5
    rw [if_neg (show ¬ (false = true) by decide)] at H
    replace H := Option.bind_eq_some_iff.mp H
    obtain ⟨⟨t448, t449, t450, t451, t452⟩, A60, H⟩ := H
    replace H : ((spec_DrawMsgText.f kj2 l1).bind fun bt456 => ((impl_MsgText.f kj2 t448 t449 t450 t451 t452).bind fun t464 => ((impl_MsgText.f kj2 bt456.1 bt456.2.1 bt456.2.2.1 bt456.2.2.2.1 bt456.2.2.2.2).bind fun t465 => ((spec_MsgText.f kj2 t448 t449 t450 t451 t452).bind fun t466 => (if t464.toList = t466.toList then ((spec_MsgText.f kj2 bt456.1 bt456.2.1 bt456.2.2.1 bt456.2.2.2.1 bt456.2.2.2.2).bind fun t467 => (if t465.toList = t467.toList then (if t464.toList = ([] : List UInt8) then (laws_FnMsgOne.j1 kj2 t464 t465 true t448 t449 t450 t451 t452 bt456.1 bt456.2.1 bt456.2.2.1 bt456.2.2.2.1 bt456.2.2.2.2) else (laws_FnMsgOne.j1 kj2 t464 t465 (t465.toList == ([] : List UInt8)) t448 t449 t450 t451 t452 bt456.1 bt456.2.1 bt456.2.2.1 bt456.2.2.2.1 bt456.2.2.2.2)) else (laws_FnMsgOne.j1 kj2 t464 t465 true t448 t449 t450 t451 t452 bt456.1 bt456.2.1 bt456.2.2.1 bt456.2.2.2.1 bt456.2.2.2.2))) else (laws_FnMsgOne.j1 kj2 t464 t465 true t448 t449 t450 t451 t452 bt456.1 bt456.2.1 bt456.2.2.1 bt456.2.2.2.1 bt456.2.2.2.2)))))) = some r := H
    have A6 := Aside0.mk A60
    clear A60
    replace H := Option.bind_eq_some_iff.mp H
    obtain ⟨⟨t456, t457, t458, t459, t460⟩, A70, H⟩ := H
    replace H : ((impl_MsgText.f kj2 t448 t449 t450 t451 t452).bind fun t464 => ((impl_MsgText.f kj2 t456 t457 t458 t459 t460).bind fun t465 => ((spec_MsgText.f kj2 t448 t449 t450 t451 t452).bind fun t466 => (if t464.toList = t466.toList then ((spec_MsgText.f kj2 t456 t457 t458 t459 t460).bind fun t467 => (if t465.toList = t467.toList then (if t464.toList = ([] : List UInt8) then (laws_FnMsgOne.j1 kj2 t464 t465 true t448 t449 t450 t451 t452 t456 t457 t458 t459 t460) else (laws_FnMsgOne.j1 kj2 t464 t465 (t465.toList == ([] : List UInt8)) t448 t449 t450 t451 t452 t456 t457 t458 t459 t460)) else (laws_FnMsgOne.j1 kj2 t464 t465 true t448 t449 t450 t451 t452 t456 t457 t458 t459 t460))) else (laws_FnMsgOne.j1 kj2 t464 t465 true t448 t449 t450 t451 t452 t456 t457 t458 t459 t460))))) = some r := H
    have A7 := Aside0.mk A70
    clear A70
    replace H := Option.bind_eq_some_iff.mp H
    obtain ⟨t464, A80, H⟩ := H
    replace H : ((impl_MsgText.f kj2 t456 t457 t458 t459 t460).bind fun t465 => ((spec_MsgText.f kj2 t448 t449 t450 t451 t452).bind fun t466 => (if t464.toList = t466.toList then ((spec_MsgText.f kj2 t456 t457 t458 t459 t460).bind fun t467 => (if t465.toList = t467.toList then (if t464.toList = ([] : List UInt8) then (laws_FnMsgOne.j1 kj2 t464 t465 true t448 t449 t450 t451 t452 t456 t457 t458 t459 t460) else (laws_FnMsgOne.j1 kj2 t464 t465 (t465.toList == ([] : List UInt8)) t448 t449 t450 t451 t452 t456 t457 t458 t459 t460)) else (laws_FnMsgOne.j1 kj2 t464 t465 true t448 t449 t450 t451 t452 t456 t457 t458 t459 t460))) else (laws_FnMsgOne.j1 kj2 t464 t465 true t448 t449 t450 t451 t452 t456 t457 t458 t459 t460)))) = some r := H
    have A8 := Aside0.mk A80
    clear A80
    replace H := Option.bind_eq_some_iff.mp H
    obtain ⟨t465, A90, H⟩ := H
    replace H : ((spec_MsgText.f kj2 t448 t449 t450 t451 t452).bind fun t466 => (if t464.toList = t466.toList then ((spec_MsgText.f kj2 t456 t457 t458 t459 t460).bind fun t467 => (if t465.toList = t467.toList then (if t464.toList = ([] : List UInt8) then (laws_FnMsgOne.j1 kj2 t464 t465 true t448 t449 t450 t451 t452 t456 t457 t458 t459 t460) else (laws_FnMsgOne.j1 kj2 t464 t465 (t465.toList == ([] : List UInt8)) t448 t449 t450 t451 t452 t456 t457 t458 t459 t460)) else (laws_FnMsgOne.j1 kj2 t464 t465 true t448 t449 t450 t451 t452 t456 t457 t458 t459 t460))) else (laws_FnMsgOne.j1 kj2 t464 t465 true t448 t449 t450 t451 t452 t456 t457 t458 t459 t460))) = some r := H
    have A9 := Aside0.mk A90
    clear A90
    have HC10 := Aside0.mk H
    clear H
    go_upto_region 7 with (first | ((with_reducible refine gate_callee (f := 29) rfl ?_); refine goesL_ (some 18) rfl rfl Tryd.func29 (by kernel_rfl) rfl #[.slice A0 l0.length c0] rfl z38x5 ?_; (with_reducible refine (spec_DrawMsgText.calls kj2 _ _ l0 t448 t449 t450 t451 t452 _ ?side1 ?side2 A6.out).mono ?_); (case side1 => repeat (first | exact (Kd.C_below HR0.out HB.out) | (with_reducible refine Kd.C_alloc ?_ _) | (with_reducible refine Kd.C_drewN ?_ _) | (with_reducible refine Kd.C_drew ?_))); (case side2 => exact HC0.out); rintro e w11 ⟨v453, rfl, ho0, hb⟩; refine ⟨_, rfl, ?_⟩; have n0_ := Aside0.mk (Kd.R_lower ho0 (below_size z38x6)); have n1_ := Aside0.mk (below_step z38x6 hb); clear HB; have HO454 := n0_; have HB := n1_; clear n0_ n1_; (try clear hb); (try clear hb2); (try clear hk); (try clear hi); (try clear ho0)) | ((with_reducible refine gate_dst (N := 5) rfl ?_); refine box_event ?hg (N := 5) ?hd (cs := #[.int .i64 0, .int .i64 0, .int .i64 0, .int .i64 0, .slice none 0 0]) (t := 46) ?hr ?_; (case hd => rfl); (case hg => rfl); (case hr => first | (go_simp; done) | (go_simp; rfl)); intro gb455 hg w12 hbox hb; have n0_ := Aside0.mk (Kd.R_below z38x11 hb); have n1_ := Aside0.mk (below_step z38x6 hb); have n2_ := Aside0.mk (hbox); have n3_ := Aside0.mk ((by rw [hg]; exact (below_size z38x6) : w.heap.size ≤ gb455)); have n4_ := Aside0.mk ((by rw [hg]; exact (below_size z38x6) : w.heap.size ≤ gb455)); clear HO454; clear HB; have HO454 := n0_; have HB := n1_; have BK455 := n2_; have GW455 := n3_; have GE455 := n4_; clear n0_ n1_ n2_ n3_ n4_; clear hb hbox hg; have hcz13_0 : w12.cell? ⟨gb455, 0, none⟩ = some (.int .i64 0) := (blk_cell BK455.out 0).trans rfl; have hcz13_1 : w12.cell? ⟨gb455, 1, none⟩ = some (.int .i64 0) := (blk_cell BK455.out 1).trans rfl; have hcz13_2 : w12.cell? ⟨gb455, 2, none⟩ = some (.int .i64 0) := (blk_cell BK455.out 2).trans rfl; have hcz13_3 : w12.cell? ⟨gb455, 3, none⟩ = some (.int .i64 0) := (blk_cell BK455.out 3).trans rfl; have hcz13_4 : w12.cell? ⟨gb455, 4, none⟩ = some (.slice none 0 0) := (blk_cell BK455.out 4).trans rfl; have hfz13_0 := blk_frozen BK455.out 0; have hfz13_1 := blk_frozen BK455.out 1; have hfz13_2 := blk_frozen BK455.out 2; have hfz13_3 := blk_frozen BK455.out 3; have hfz13_4 := blk_frozen BK455.out 4; obtain ⟨Ao14, co14, eo14⟩ := Kd.R_slice HO454.out; subst eo14) | ((with_reducible refine gate_callee (f := 29) rfl ?_); refine goesL_ (some 20) rfl rfl Tryd.func29 (by kernel_rfl) rfl #[.slice A1 l1.length c1] rfl z38x5 ?_; (with_reducible refine (spec_DrawMsgText.calls kj2 _ _ l1 t456 t457 t458 t459 t460 _ ?side1 ?side2 A7.out).mono ?_); (case side1 => exact Kd.C_below HR1.out z38x4); (case side2 => exact HC1.out); rintro e w15 ⟨v461, rfl, ho0, hb⟩; refine ⟨_, rfl, ?_⟩; have n0_ := Aside0.mk (Kd.R_elder' z38x0 (Kd.R_base ho0) hb); have n1_ := Aside0.mk (Kd.R_lower (Kd.R_new' ho0 (Kd.R_lt z38x0)) (below_size z38x4)); have n2_ := Aside0.mk (blk_below (g := gb455) (o := .cells #[.int .i64 t448, .int .i64 t449, .int .i64 t450, .int .i64 t451, .slice Ao14 t452.length co14] 46 (0, 0)) (by (with_reducible repeat (first | refine blk_drewN ?_ _ | refine blk_drew ?_ | refine blk_alloc ?_ _)); refine blk_put (cs := #[.int .i64 t448, .int .i64 t449, .int .i64 t450, .int .i64 t451, .slice none 0 0]) ?_ 4 _ rfl; (with_reducible repeat (first | refine blk_drewN ?_ _ | refine blk_drew ?_ | refine blk_alloc ?_ _)); refine blk_put (cs := #[.int .i64 t448, .int .i64 t449, .int .i64 t450, .int .i64 0, .slice none 0 0]) ?_ 3 _ rfl; (with_reducible repeat (first | refine blk_drewN ?_ _ | refine blk_drew ?_ | refine blk_alloc ?_ _)); refine blk_put (cs := #[.int .i64 t448, .int .i64 t449, .int .i64 0, .int .i64 0, .slice none 0 0]) ?_ 2 _ rfl; (with_reducible repeat (first | refine blk_drewN ?_ _ | refine blk_drew ?_ | refine blk_alloc ?_ _)); refine blk_put (cs := #[.int .i64 t448, .int .i64 0, .int .i64 0, .int .i64 0, .slice none 0 0]) ?_ 1 _ rfl; (with_reducible repeat (first | refine blk_drewN ?_ _ | refine blk_drew ?_ | refine blk_alloc ?_ _)); refine blk_put (cs := #[.int .i64 0, .int .i64 0, .int .i64 0, .int .i64 0, .slice none 0 0]) ?_ 0 _ rfl; (with_reducible repeat (first | refine blk_drewN ?_ _ | refine blk_drew ?_ | refine blk_alloc ?_ _)); exact BK455.out) hb); have n3_ := Aside0.mk (below_step z38x4 hb); clear HO454; clear BK455; clear HB; have HO454 := n0_; have HO462 := n1_; have BK455 := n2_; have HB := n3_; clear n0_ n1_ n2_ n3_; (try clear hb); (try clear hb2); (try clear hk); (try clear hi); (try clear ho0)) | ((with_reducible refine gate_dst (N := 6) rfl ?_); refine box_event ?hg (N := 6) ?hd (cs := #[.int .i64 0, .int .i64 0, .int .i64 0, .int .i64 0, .slice none 0 0]) (t := 46) ?hr ?_; (case hd => rfl); (case hg => rfl); (case hr => first | (go_simp; done) | (go_simp; rfl)); intro gb463 hg w16 hbox hb; have n0_ := Aside0.mk (Kd.R_below z38x11 hb); have n1_ := Aside0.mk (Kd.R_below z38x12 hb); have n2_ := Aside0.mk (blk_below (g := gb455) (o := .cells #[.int .i64 t448, .int .i64 t449, .int .i64 t450, .int .i64 t451, .slice Ao14 t452.length co14] 46 (0, 0)) z38x7 hb); have n3_ := Aside0.mk (below_step z38x4 hb); have n4_ := Aside0.mk (hbox); have n5_ := Aside0.mk ((z38x3 : w.heap.size ≤ gb463)); have n6_ := Aside0.mk ((z38x3 : w.heap.size ≤ gb463)); have n7_ := Aside0.mk ((by rw [hg]; exact Nat.ne_of_lt (blk_lt (g := gb455) (o := .cells #[.int .i64 t448, .int .i64 t449, .int .i64 t450, .int .i64 t451, .slice Ao14 t452.length co14] 46 (0, 0)) z38x7) : gb455 ≠ gb463)); have n8_ := Aside0.mk ((by rw [hg]; exact Nat.ne_of_gt (blk_lt (g := gb455) (o := .cells #[.int .i64 t448, .int .i64 t449, .int .i64 t450, .int .i64 t451, .slice Ao14 t452.length co14] 46 (0, 0)) z38x7) : gb463 ≠ gb455)); clear HO454; clear HO462; clear BK455; clear HB; have HO454 := n0_; have HO462 := n1_; have BK455 := n2_; have HB := n3_; have BK463 := n4_; have GW463 := n5_; have GE463 := n6_; have NB455_463 := n7_; have NB463_455 := n8_; clear n0_ n1_ n2_ n3_ n4_ n5_ n6_ n7_ n8_; clear hb hbox hg; have hnb17 := NB463_455.out; have hnc17 := NB455_463.out; have hcz18_0 : w16.cell? ⟨gb463, 0, none⟩ = some (.int .i64 0) := (blk_cell BK463.out 0).trans rfl; have hcz18_1 : w16.cell? ⟨gb463, 1, none⟩ = some (.int .i64 0) := (blk_cell BK463.out 1).trans rfl; have hcz18_2 : w16.cell? ⟨gb463, 2, none⟩ = some (.int .i64 0) := (blk_cell BK463.out 2).trans rfl; have hcz18_3 : w16.cell? ⟨gb463, 3, none⟩ = some (.int .i64 0) := (blk_cell BK463.out 3).trans rfl; have hcz18_4 : w16.cell? ⟨gb463, 4, none⟩ = some (.slice none 0 0) := (blk_cell BK463.out 4).trans rfl; have hfz18_0 := blk_frozen BK463.out 0; have hfz18_1 := blk_frozen BK463.out 1; have hfz18_2 := blk_frozen BK463.out 2; have hfz18_3 := blk_frozen BK463.out 3; have hfz18_4 := blk_frozen BK463.out 4; obtain ⟨Ao19, co19, eo19⟩ := Kd.R_slice HO462.out; subst eo19; have hcz20_0 : w16.cell? ⟨gb455, 0, none⟩ = some (.int .i64 t448) := (blk_cell BK455.out 0).trans rfl; have hcz20_1 : w16.cell? ⟨gb455, 1, none⟩ = some (.int .i64 t449) := (blk_cell BK455.out 1).trans rfl; have hcz20_2 : w16.cell? ⟨gb455, 2, none⟩ = some (.int .i64 t450) := (blk_cell BK455.out 2).trans rfl; have hcz20_3 : w16.cell? ⟨gb455, 3, none⟩ = some (.int .i64 t451) := (blk_cell BK455.out 3).trans rfl; have hcz20_4 : w16.cell? ⟨gb455, 4, none⟩ = some (.slice Ao14 t452.length co14) := (blk_cell BK455.out 4).trans rfl; have hfz20_0 := blk_frozen BK455.out 0; have hfz20_1 := blk_frozen BK455.out 1; have hfz20_2 := blk_frozen BK455.out 2; have hfz20_3 := blk_frozen BK455.out 3; have hfz20_4 := blk_frozen BK455.out 4) | ((with_reducible refine gate_callee (f := 27) rfl ?_); refine goesL_ (some 22) rfl rfl Tryd.func27 (by kernel_rfl) rfl #[.agg #[.int .i64 t448, .int .i64 t449, .int .i64 t450, .int .i64 t451, .slice Ao14 t452.length co14]] rfl z38x5 ?_; (with_reducible refine (impl_MsgText.calls kj2 t448 t449 t450 t451 _ _ t452 t464 _ ?side1 ?side2 A8.out ?tens1).mono ?_); (case tens1 => exact Tens.on HT.out z38x2); (case side1 => refine (Kd.R_reads' (e := 24) (base := w.heap.size) (ok := fun k_ => (True ∧ some k_ ≠ (.slice Ao19 t460.length co19 : Value).ownBlock)) (n := t452.length) (c := co14) ?_).2.2; exact z38x1); (case side2 => exact (Kd.R_reads' HO454.out).2.1); rintro e w21 ⟨rfl, hb⟩; refine ⟨_, rfl, ?_⟩; have n0_ := Aside0.mk (Kd.R_below z38x1 hb); have n1_ := Aside0.mk (Kd.R_below (by (with_reducible repeat (first | apply Kd.R_alloc | apply Kd.R_drewN | apply Kd.R_drew)); exact (Kd.R_mono (Kd.R_far (p := ⟨gb463, 4, none⟩) (Kd.R_far (p := ⟨gb463, 3, none⟩) (Kd.R_far (p := ⟨gb463, 2, none⟩) (Kd.R_far (p := ⟨gb463, 1, none⟩) (Kd.R_far (p := ⟨gb463, 0, none⟩) (Kd.R_types HO462.out BK463.out (by decide)) (fun _ hk => hk.2) (.int .i64 t456)) (fun _ hk => hk.2) (.int .i64 t457)) (fun _ hk => hk.2) (.int .i64 t458)) (fun _ hk => hk.2) (.int .i64 t459)) (fun _ hk => hk.2) (.slice Ao19 t460.length co19)) (fun _ h_ => h_.1))) hb); have n2_ := Aside0.mk (blk_below (g := gb455) (o := .cells #[.int .i64 t448, .int .i64 t449, .int .i64 t450, .int .i64 t451, .slice Ao14 t452.length co14] 46 (0, 0)) (by (with_reducible repeat (first | refine blk_drewN ?_ _ | refine blk_drew ?_ | refine blk_alloc ?_ _)); refine blk_far ?_ NB455_463.out _; (with_reducible repeat (first | refine blk_drewN ?_ _ | refine blk_drew ?_ | refine blk_alloc ?_ _)); refine blk_far ?_ NB455_463.out _; (with_reducible repeat (first | refine blk_drewN ?_ _ | refine blk_drew ?_ | refine blk_alloc ?_ _)); refine blk_far ?_ NB455_463.out _; (with_reducible repeat (first | refine blk_drewN ?_ _ | refine blk_drew ?_ | refine blk_alloc ?_ _)); refine blk_far ?_ NB455_463.out _; (with_reducible repeat (first | refine blk_drewN ?_ _ | refine blk_drew ?_ | refine blk_alloc ?_ _)); refine blk_far ?_ NB455_463.out _; (with_reducible repeat (first | refine blk_drewN ?_ _ | refine blk_drew ?_ | refine blk_alloc ?_ _)); exact BK455.out) hb); have n3_ := Aside0.mk (blk_below (g := gb463) (o := .cells #[.int .i64 t456, .int .i64 t457, .int .i64 t458, .int .i64 t459, .slice Ao19 t460.length co19] 46 (0, 0)) (by (with_reducible repeat (first | refine blk_drewN ?_ _ | refine blk_drew ?_ | refine blk_alloc ?_ _)); refine blk_put (cs := #[.int .i64 t456, .int .i64 t457, .int .i64 t458, .int .i64 t459, .slice none 0 0]) ?_ 4 _ rfl; (with_reducible repeat (first | refine blk_drewN ?_ _ | refine blk_drew ?_ | refine blk_alloc ?_ _)); refine blk_put (cs := #[.int .i64 t456, .int .i64 t457, .int .i64 t458, .int .i64 0, .slice none 0 0]) ?_ 3 _ rfl; (with_reducible repeat (first | refine blk_drewN ?_ _ | refine blk_drew ?_ | refine blk_alloc ?_ _)); refine blk_put (cs := #[.int .i64 t456, .int .i64 t457, .int .i64 0, .int .i64 0, .slice none 0 0]) ?_ 2 _ rfl; (with_reducible repeat (first | refine blk_drewN ?_ _ | refine blk_drew ?_ | refine blk_alloc ?_ _)); refine blk_put (cs := #[.int .i64 t456, .int .i64 0, .int .i64 0, .int .i64 0, .slice none 0 0]) ?_ 1 _ rfl; (with_reducible repeat (first | refine blk_drewN ?_ _ | refine blk_drew ?_ | refine blk_alloc ?_ _)); refine blk_put (cs := #[.int .i64 0, .int .i64 0, .int .i64 0, .int .i64 0, .slice none 0 0]) ?_ 0 _ rfl; (with_reducible repeat (first | refine blk_drewN ?_ _ | refine blk_drew ?_ | refine blk_alloc ?_ _)); exact BK463.out) hb); have n4_ := Aside0.mk (below_step z38x2 hb); clear HO454; clear HO462; clear BK455; clear BK463; clear HB; have HO454 := n0_; have HO462 := n1_; have BK455 := n2_; have BK463 := n3_; have HB := n4_; clear n0_ n1_ n2_ n3_ n4_; (try clear hb); (try clear hb2); (try clear hk); (try clear hi); have hcz22_0 : w21.cell? ⟨gb463, 0, none⟩ = some (.int .i64 t456) := (blk_cell BK463.out 0).trans rfl; have hcz22_1 : w21.cell? ⟨gb463, 1, none⟩ = some (.int .i64 t457) := (blk_cell BK463.out 1).trans rfl; have hcz22_2 : w21.cell? ⟨gb463, 2, none⟩ = some (.int .i64 t458) := (blk_cell BK463.out 2).trans rfl; have hcz22_3 : w21.cell? ⟨gb463, 3, none⟩ = some (.int .i64 t459) := (blk_cell BK463.out 3).trans rfl; have hcz22_4 : w21.cell? ⟨gb463, 4, none⟩ = some (.slice Ao19 t460.length co19) := (blk_cell BK463.out 4).trans rfl; have hfz22_0 := blk_frozen BK463.out 0; have hfz22_1 := blk_frozen BK463.out 1; have hfz22_2 := blk_frozen BK463.out 2; have hfz22_3 := blk_frozen BK463.out 3; have hfz22_4 := blk_frozen BK463.out 4) | ((with_reducible refine gate_callee (f := 27) rfl ?_); refine goesL_ (some 24) rfl rfl Tryd.func27 (by kernel_rfl) rfl #[.agg #[.int .i64 t456, .int .i64 t457, .int .i64 t458, .int .i64 t459, .slice Ao19 t460.length co19]] rfl z38x5 ?_; (with_reducible refine (impl_MsgText.calls kj2 t456 t457 t458 t459 _ _ t460 t465 _ ?side1 ?side2 A9.out ?tens2).mono ?_); (case tens2 => exact Tens.on HT.out z38x2); (case side1 => repeat (first | exact (Kd.R_reads' HO462.out).2.2 | (with_reducible refine Kd.C_alloc ?_ _) | (with_reducible refine Kd.C_drewN ?_ _) | (with_reducible refine Kd.C_drew ?_))); (case side2 => exact (Kd.R_reads' HO462.out).2.1); rintro e w23 ⟨rfl, hb⟩; refine ⟨_, rfl, ?_⟩; have n0_ := Aside0.mk (Kd.R_below z38x11 hb); have n1_ := Aside0.mk (Kd.R_below z38x12 hb); have n2_ := Aside0.mk (blk_below (g := gb455) (o := .cells #[.int .i64 t448, .int .i64 t449, .int .i64 t450, .int .i64 t451, .slice Ao14 t452.length co14] 46 (0, 0)) z38x7 hb); have n3_ := Aside0.mk (blk_below (g := gb463) (o := .cells #[.int .i64 t456, .int .i64 t457, .int .i64 t458, .int .i64 t459, .slice Ao19 t460.length co19] 46 (0, 0)) z38x8 hb); have n4_ := Aside0.mk (below_step z38x2 hb); clear HO454; clear HO462; clear BK455; clear BK463; clear HB; have HO454 := n0_; have HO462 := n1_; have BK455 := n2_; have BK463 := n3_; have HB := n4_; clear n0_ n1_ n2_ n3_ n4_; (try clear hb); (try clear hb2); (try clear hk); (try clear hi)))
    (try simp only [Act.put, List.setIfInBounds_toArray, List.set_cons_zero, List.set_cons_succ])
    go_cut [42] (fun v42 wc => ∃ (kq : Nat) (x42_9 : Bool), v42 = .bool x42_9 ∧ Aside0 (laws_FnMsgOne.j1 kq t464 t465 x42_9 t448 t449 t450 t451 t452 t456 t457 t458 t459 t460 = some r) ∧ Aside0 (kq ≤ kj2) ∧ Aside0 (Kd.R k24 24 wc w.heap.size (fun k_ => some k_ ≠ ((.slice Ao19 t460.length co19) : Value).ownBlock) (.slice Ao14 t452.length co14) t452) ∧ Aside0 (Kd.R k24 24 wc w.heap.size (fun k_ => some k_ ≠ ((.slice Ao14 t452.length co14) : Value).ownBlock) (.slice Ao19 t460.length co19) t460) ∧ Aside0 (wc.heap[gb455]? = some (.cells #[.int .i64 t448, .int .i64 t449, .int .i64 t450, .int .i64 t451, (.slice Ao14 t452.length co14)] 46 (0, 0))) ∧ Aside0 (wc.heap[gb463]? = some (.cells #[.int .i64 t456, .int .i64 t457, .int .i64 t458, .int .i64 t459, (.slice Ao19 t460.length co19)] 46 (0, 0))) ∧ Aside0 (Below w.heap.size w wc))
    case first =>
     have H := HC10.out
     clear HC10
     replace H := Option.bind_eq_some_iff.mp H
     obtain ⟨t466, A240, H⟩ := H
     replace H : (if t464.toList = t466.toList then ((spec_MsgText.f kj2 t456 t457 t458 t459 t460).bind fun t467 => (if t465.toList = t467.toList then (if t464.toList = ([] : List UInt8) then (laws_FnMsgOne.j1 kj2 t464 t465 true t448 t449 t450 t451 t452 t456 t457 t458 t459 t460) else (laws_FnMsgOne.j1 kj2 t464 t465 (t465.toList == ([] : List UInt8)) t448 t449 t450 t451 t452 t456 t457 t458 t459 t460)) else (laws_FnMsgOne.j1 kj2 t464 t465 true t448 t449 t450 t451 t452 t456 t457 t458 t459 t460))) else (laws_FnMsgOne.j1 kj2 t464 t465 true t448 t449 t450 t451 t452 t456 t457 t458 t459 t460)) = some r := H
     have A24 := Aside0.mk A240
     clear A240
     by_cases c25 : t464.toList = t466.toList
     ·rw [if_pos c25] at H
      have c25b0 : (t464.toList == t466.toList) = true := beq_iff_eq.mpr c25
      have c25b1 : (t464.toList != t466.toList) = false := bne_eq_false_iff_eq.mpr c25
      clear c25
      (first | rw [c25b0] | (simp only [i64_w, i32_w]; rw [c25b0]) | skip)
      replace H := Option.bind_eq_some_iff.mp H
      obtain ⟨t467, A260, H⟩ := H
      replace H : (if t465.toList = t467.toList then (if t464.toList = ([] : List UInt8) then (laws_FnMsgOne.j1 kj2 t464 t465 true t448 t449 t450 t451 t452 t456 t457 t458 t459 t460) else (laws_FnMsgOne.j1 kj2 t464 t465 (t465.toList == ([] : List UInt8)) t448 t449 t450 t451 t452 t456 t457 t458 t459 t460)) else (laws_FnMsgOne.j1 kj2 t464 t465 true t448 t449 t450 t451 t452 t456 t457 t458 t459 t460)) = some r := H
      have A26 := Aside0.mk A260
      clear A260
      by_cases c27 : t465.toList = t467.toList
      ·rw [if_pos c27] at H
       have c27b0 : (t465.toList == t467.toList) = true := beq_iff_eq.mpr c27
       have c27b1 : (t465.toList != t467.toList) = false := bne_eq_false_iff_eq.mpr c27
       clear c27
       by_cases c28 : t464.toList = ([] : List UInt8)
       ·rw [if_pos c28] at H
        have c28b0 : (t464.toList == ([] : List UInt8)) = true := beq_iff_eq.mpr c28
        have c28b1 : (t464.toList != ([] : List UInt8)) = false := bne_eq_false_iff_eq.mpr c28
        clear c28
        have H' := Aside0.mk H
        clear H
        have hnb29 := NB455_463.out
        have hnc29 := NB463_455.out
        have hcz30_0 : w23.cell? ⟨gb455, 0, none⟩ = some (.int .i64 t448) := (blk_cell BK455.out 0).trans rfl
        have hcz30_1 : w23.cell? ⟨gb455, 1, none⟩ = some (.int .i64 t449) := (blk_cell BK455.out 1).trans rfl
        have hcz30_2 : w23.cell? ⟨gb455, 2, none⟩ = some (.int .i64 t450) := (blk_cell BK455.out 2).trans rfl
        have hcz30_3 : w23.cell? ⟨gb455, 3, none⟩ = some (.int .i64 t451) := (blk_cell BK455.out 3).trans rfl
        have hcz30_4 : w23.cell? ⟨gb455, 4, none⟩ = some (.slice Ao14 t452.length co14) := (blk_cell BK455.out 4).trans rfl
        have hfz30_0 := blk_frozen BK455.out 0
        have hfz30_1 := blk_frozen BK455.out 1
        have hfz30_2 := blk_frozen BK455.out 2
        have hfz30_3 := blk_frozen BK455.out 3
        have hfz30_4 := blk_frozen BK455.out 4
        go_wp2_with (first | ((with_reducible refine gate_callee (f := 25) rfl ?_); refine goesL_ (some 27) rfl rfl Tryd.func25 (by kernel_rfl) rfl #[.agg #[.int .i64 t448, .int .i64 t449, .int .i64 t450, .int .i64 t451, .slice Ao14 t452.length co14]] rfl z38x5 ?_; (with_reducible refine (spec_MsgText.calls kj2 t448 t449 t450 t451 _ _ t452 t466 _ ?side1 ?side2 A24.out).mono ?_); (case side1 => repeat (first | exact (Kd.R_reads' HO454.out).2.2 | (with_reducible refine Kd.C_alloc ?_ _) | (with_reducible refine Kd.C_drewN ?_ _) | (with_reducible refine Kd.C_drew ?_))); (case side2 => exact (Kd.R_reads' HO454.out).2.1); rintro e w31 ⟨rfl, hb⟩; refine ⟨_, rfl, ?_⟩; have n0_ := Aside0.mk (Kd.R_below z38x11 hb); have n1_ := Aside0.mk (Kd.R_below z38x12 hb); have n2_ := Aside0.mk (blk_below (g := gb455) (o := .cells #[.int .i64 t448, .int .i64 t449, .int .i64 t450, .int .i64 t451, .slice Ao14 t452.length co14] 46 (0, 0)) z38x7 hb); have n3_ := Aside0.mk (blk_below (g := gb463) (o := .cells #[.int .i64 t456, .int .i64 t457, .int .i64 t458, .int .i64 t459, .slice Ao19 t460.length co19] 46 (0, 0)) z38x8 hb); have n4_ := Aside0.mk (below_step z38x2 hb); clear HO454; clear HO462; clear BK455; clear BK463; clear HB; have HO454 := n0_; have HO462 := n1_; have BK455 := n2_; have BK463 := n3_; have HB := n4_; clear n0_ n1_ n2_ n3_ n4_; (try clear hb); (try clear hb2); (try clear hk); (try clear hi); have hcz32_0 : w31.cell? ⟨gb463, 0, none⟩ = some (.int .i64 t456) := (blk_cell BK463.out 0).trans rfl; have hcz32_1 : w31.cell? ⟨gb463, 1, none⟩ = some (.int .i64 t457) := (blk_cell BK463.out 1).trans rfl; have hcz32_2 : w31.cell? ⟨gb463, 2, none⟩ = some (.int .i64 t458) := (blk_cell BK463.out 2).trans rfl; have hcz32_3 : w31.cell? ⟨gb463, 3, none⟩ = some (.int .i64 t459) := (blk_cell BK463.out 3).trans rfl; have hcz32_4 : w31.cell? ⟨gb463, 4, none⟩ = some (.slice Ao19 t460.length co19) := (blk_cell BK463.out 4).trans rfl; have hfz32_0 := blk_frozen BK463.out 0; have hfz32_1 := blk_frozen BK463.out 1; have hfz32_2 := blk_frozen BK463.out 2; have hfz32_3 := blk_frozen BK463.out 3; have hfz32_4 := blk_frozen BK463.out 4) | (go_at_call 25; (with_reducible refine (spec_MsgText.calls kj2 t456 t457 t458 t459 _ _ t460 t467 _ ?side1 ?side2 A26.out).mono ?_); (case side1 => repeat (first | exact (Kd.R_reads' HO462.out).2.2 | (with_reducible refine Kd.C_alloc ?_ _) | (with_reducible refine Kd.C_drewN ?_ _) | (with_reducible refine Kd.C_drew ?_))); (case side2 => exact (Kd.R_reads' HO462.out).2.1); rintro e w33 ⟨rfl, hb⟩; have n0_ := Aside0.mk (Kd.R_below z38x11 hb); have n1_ := Aside0.mk (Kd.R_below z38x12 hb); have n2_ := Aside0.mk (blk_below (g := gb455) (o := .cells #[.int .i64 t448, .int .i64 t449, .int .i64 t450, .int .i64 t451, .slice Ao14 t452.length co14] 46 (0, 0)) z38x7 hb); have n3_ := Aside0.mk (blk_below (g := gb463) (o := .cells #[.int .i64 t456, .int .i64 t457, .int .i64 t458, .int .i64 t459, .slice Ao19 t460.length co19] 46 (0, 0)) z38x8 hb); have n4_ := Aside0.mk (below_step z38x2 hb); clear HO454; clear HO462; clear BK455; clear BK463; clear HB; have HO454 := n0_; have HO462 := n1_; have BK455 := n2_; have BK463 := n3_; have HB := n4_; clear n0_ n1_ n2_ n3_ n4_; (try clear hb); (try clear hb2); (try clear hk); (try clear hi)))
        go_meet
        case rel => exact ⟨_, (true), (by first | rfl | (simp; done) | (simp [*]; done)), H', ⟨by have := HJ2.out; first | omega | exact Nat.le_refl _⟩, ⟨by (with_reducible repeat (first | apply Kd.R_alloc | apply Kd.R_drewN | apply Kd.R_drew)); exact Kd.R_mono HO454.out (fun _ hk => hk.2)⟩, ⟨by (with_reducible repeat (first | apply Kd.R_alloc | apply Kd.R_drewN | apply Kd.R_drew)); exact Kd.R_mono HO462.out (fun _ hk => hk.2)⟩, ⟨by (with_reducible repeat (first | refine blk_drewN ?_ _ | refine blk_drew ?_ | refine blk_alloc ?_ _)); exact BK455.out⟩, ⟨by (with_reducible repeat (first | refine blk_drewN ?_ _ | refine blk_drew ?_ | refine blk_alloc ?_ _)); exact BK463.out⟩, ⟨by repeat (first | (with_reducible first | exact HB.out | apply below_alloc | apply pw_below_drewN | apply below_drew1 | refine below_set ?_ GE455.out | refine below_set ?_ GE463.out) | exact HB.out)⟩⟩
       ·rw [if_neg c28] at H
        have c28b0 : (t464.toList == ([] : List UInt8)) = false := beq_eq_false_iff_ne.mpr c28
        have c28b1 : (t464.toList != ([] : List UInt8)) = true := bne_iff_ne.mpr c28
        have H' := Aside0.mk H
        clear H
        have hnb34 := NB455_463.out
        have hnc34 := NB463_455.out
        have hcz35_0 : w23.cell? ⟨gb455, 0, none⟩ = some (.int .i64 t448) := (blk_cell BK455.out 0).trans rfl
        have hcz35_1 : w23.cell? ⟨gb455, 1, none⟩ = some (.int .i64 t449) := (blk_cell BK455.out 1).trans rfl
        have hcz35_2 : w23.cell? ⟨gb455, 2, none⟩ = some (.int .i64 t450) := (blk_cell BK455.out 2).trans rfl
        have hcz35_3 : w23.cell? ⟨gb455, 3, none⟩ = some (.int .i64 t451) := (blk_cell BK455.out 3).trans rfl
        have hcz35_4 : w23.cell? ⟨gb455, 4, none⟩ = some (.slice Ao14 t452.length co14) := (blk_cell BK455.out 4).trans rfl
        have hfz35_0 := blk_frozen BK455.out 0
        have hfz35_1 := blk_frozen BK455.out 1
        have hfz35_2 := blk_frozen BK455.out 2
        have hfz35_3 := blk_frozen BK455.out 3
        have hfz35_4 := blk_frozen BK455.out 4
        go_wp2_with (first | ((with_reducible refine gate_callee (f := 25) rfl ?_); refine goesL_ (some 27) rfl rfl Tryd.func25 (by kernel_rfl) rfl #[.agg #[.int .i64 t448, .int .i64 t449, .int .i64 t450, .int .i64 t451, .slice Ao14 t452.length co14]] rfl z38x5 ?_; (with_reducible refine (spec_MsgText.calls kj2 t448 t449 t450 t451 _ _ t452 t466 _ ?side1 ?side2 A24.out).mono ?_); (case side1 => repeat (first | exact (Kd.R_reads' HO454.out).2.2 | (with_reducible refine Kd.C_alloc ?_ _) | (with_reducible refine Kd.C_drewN ?_ _) | (with_reducible refine Kd.C_drew ?_))); (case side2 => exact (Kd.R_reads' HO454.out).2.1); rintro e w36 ⟨rfl, hb⟩; refine ⟨_, rfl, ?_⟩; have n0_ := Aside0.mk (Kd.R_below z38x11 hb); have n1_ := Aside0.mk (Kd.R_below z38x12 hb); have n2_ := Aside0.mk (blk_below (g := gb455) (o := .cells #[.int .i64 t448, .int .i64 t449, .int .i64 t450, .int .i64 t451, .slice Ao14 t452.length co14] 46 (0, 0)) z38x7 hb); have n3_ := Aside0.mk (blk_below (g := gb463) (o := .cells #[.int .i64 t456, .int .i64 t457, .int .i64 t458, .int .i64 t459, .slice Ao19 t460.length co19] 46 (0, 0)) z38x8 hb); have n4_ := Aside0.mk (below_step z38x2 hb); clear HO454; clear HO462; clear BK455; clear BK463; clear HB; have HO454 := n0_; have HO462 := n1_; have BK455 := n2_; have BK463 := n3_; have HB := n4_; clear n0_ n1_ n2_ n3_ n4_; (try clear hb); (try clear hb2); (try clear hk); (try clear hi); have hcz37_0 : w36.cell? ⟨gb463, 0, none⟩ = some (.int .i64 t456) := (blk_cell BK463.out 0).trans rfl; have hcz37_1 : w36.cell? ⟨gb463, 1, none⟩ = some (.int .i64 t457) := (blk_cell BK463.out 1).trans rfl; have hcz37_2 : w36.cell? ⟨gb463, 2, none⟩ = some (.int .i64 t458) := (blk_cell BK463.out 2).trans rfl; have hcz37_3 : w36.cell? ⟨gb463, 3, none⟩ = some (.int .i64 t459) := (blk_cell BK463.out 3).trans rfl; have hcz37_4 : w36.cell? ⟨gb463, 4, none⟩ = some (.slice Ao19 t460.length co19) := (blk_cell BK463.out 4).trans rfl; have hfz37_0 := blk_frozen BK463.out 0; have hfz37_1 := blk_frozen BK463.out 1; have hfz37_2 := blk_frozen BK463.out 2; have hfz37_3 := blk_frozen BK463.out 3; have hfz37_4 := blk_frozen BK463.out 4) | (go_at_call 25; (with_reducible refine (spec_MsgText.calls kj2 t456 t457 t458 t459 _ _ t460 t467 _ ?side1 ?side2 A26.out).mono ?_); (case side1 => repeat (first | exact (Kd.R_reads' HO462.out).2.2 | (with_reducible refine Kd.C_alloc ?_ _) | (with_reducible refine Kd.C_drewN ?_ _) | (with_reducible refine Kd.C_drew ?_))); (case side2 => exact (Kd.R_reads' HO462.out).2.1); rintro e w38 ⟨rfl, hb⟩; have n0_ := Aside0.mk (Kd.R_below z38x11 hb); have n1_ := Aside0.mk (Kd.R_below z38x12 hb); have n2_ := Aside0.mk (blk_below (g := gb455) (o := .cells #[.int .i64 t448, .int .i64 t449, .int .i64 t450, .int .i64 t451, .slice Ao14 t452.length co14] 46 (0, 0)) z38x7 hb); have n3_ := Aside0.mk (blk_below (g := gb463) (o := .cells #[.int .i64 t456, .int .i64 t457, .int .i64 t458, .int .i64 t459, .slice Ao19 t460.length co19] 46 (0, 0)) z38x8 hb); have n4_ := Aside0.mk (below_step z38x2 hb); clear HO454; clear HO462; clear BK455; clear BK463; clear HB; have HO454 := n0_; have HO462 := n1_; have BK455 := n2_; have BK463 := n3_; have HB := n4_; clear n0_ n1_ n2_ n3_ n4_; (try clear hb); (try clear hb2); (try clear hk); (try clear hi)))
        go_meet
        case rel => exact ⟨_, ((t465.toList == ([] : List UInt8))), (by first | rfl | (simp; done) | (simp [*]; done)), H', ⟨by have := HJ2.out; first | omega | exact Nat.le_refl _⟩, ⟨by (with_reducible repeat (first | apply Kd.R_alloc | apply Kd.R_drewN | apply Kd.R_drew)); exact Kd.R_mono HO454.out (fun _ hk => hk.2)⟩, ⟨by (with_reducible repeat (first | apply Kd.R_alloc | apply Kd.R_drewN | apply Kd.R_drew)); exact Kd.R_mono HO462.out (fun _ hk => hk.2)⟩, ⟨by (with_reducible repeat (first | refine blk_drewN ?_ _ | refine blk_drew ?_ | refine blk_alloc ?_ _)); exact BK455.out⟩, ⟨by (with_reducible repeat (first | refine blk_drewN ?_ _ | refine blk_drew ?_ | refine blk_alloc ?_ _)); exact BK463.out⟩, ⟨by repeat (first | (with_reducible first | exact HB.out | apply below_alloc | apply pw_below_drewN | apply below_drew1 | refine below_set ?_ GE455.out | refine below_set ?_ GE463.out) | exact HB.out)⟩⟩
      ·rw [if_neg c27] at H
       have c27b0 : (t465.toList == t467.toList) = false := beq_eq_false_iff_ne.mpr c27
       have c27b1 : (t465.toList != t467.toList) = true := bne_iff_ne.mpr c27
       have H' := Aside0.mk H
       clear H
       have hnb39 := NB455_463.out
       have hnc39 := NB463_455.out
       have hcz40_0 : w23.cell? ⟨gb455, 0, none⟩ = some (.int .i64 t448) := (blk_cell BK455.out 0).trans rfl
       have hcz40_1 : w23.cell? ⟨gb455, 1, none⟩ = some (.int .i64 t449) := (blk_cell BK455.out 1).trans rfl
       have hcz40_2 : w23.cell? ⟨gb455, 2, none⟩ = some (.int .i64 t450) := (blk_cell BK455.out 2).trans rfl
       have hcz40_3 : w23.cell? ⟨gb455, 3, none⟩ = some (.int .i64 t451) := (blk_cell BK455.out 3).trans rfl
       have hcz40_4 : w23.cell? ⟨gb455, 4, none⟩ = some (.slice Ao14 t452.length co14) := (blk_cell BK455.out 4).trans rfl
       have hfz40_0 := blk_frozen BK455.out 0
       have hfz40_1 := blk_frozen BK455.out 1
       have hfz40_2 := blk_frozen BK455.out 2
       have hfz40_3 := blk_frozen BK455.out 3
       have hfz40_4 := blk_frozen BK455.out 4
       go_wp2_with (first | ((with_reducible refine gate_callee (f := 25) rfl ?_); refine goesL_ (some 27) rfl rfl Tryd.func25 (by kernel_rfl) rfl #[.agg #[.int .i64 t448, .int .i64 t449, .int .i64 t450, .int .i64 t451, .slice Ao14 t452.length co14]] rfl z38x5 ?_; (with_reducible refine (spec_MsgText.calls kj2 t448 t449 t450 t451 _ _ t452 t466 _ ?side1 ?side2 A24.out).mono ?_); (case side1 => repeat (first | exact (Kd.R_reads' HO454.out).2.2 | (with_reducible refine Kd.C_alloc ?_ _) | (with_reducible refine Kd.C_drewN ?_ _) | (with_reducible refine Kd.C_drew ?_))); (case side2 => exact (Kd.R_reads' HO454.out).2.1); rintro e w41 ⟨rfl, hb⟩; refine ⟨_, rfl, ?_⟩; have n0_ := Aside0.mk (Kd.R_below z38x11 hb); have n1_ := Aside0.mk (Kd.R_below z38x12 hb); have n2_ := Aside0.mk (blk_below (g := gb455) (o := .cells #[.int .i64 t448, .int .i64 t449, .int .i64 t450, .int .i64 t451, .slice Ao14 t452.length co14] 46 (0, 0)) z38x7 hb); have n3_ := Aside0.mk (blk_below (g := gb463) (o := .cells #[.int .i64 t456, .int .i64 t457, .int .i64 t458, .int .i64 t459, .slice Ao19 t460.length co19] 46 (0, 0)) z38x8 hb); have n4_ := Aside0.mk (below_step z38x2 hb); clear HO454; clear HO462; clear BK455; clear BK463; clear HB; have HO454 := n0_; have HO462 := n1_; have BK455 := n2_; have BK463 := n3_; have HB := n4_; clear n0_ n1_ n2_ n3_ n4_; (try clear hb); (try clear hb2); (try clear hk); (try clear hi); have hcz42_0 : w41.cell? ⟨gb463, 0, none⟩ = some (.int .i64 t456) := (blk_cell BK463.out 0).trans rfl; have hcz42_1 : w41.cell? ⟨gb463, 1, none⟩ = some (.int .i64 t457) := (blk_cell BK463.out 1).trans rfl; have hcz42_2 : w41.cell? ⟨gb463, 2, none⟩ = some (.int .i64 t458) := (blk_cell BK463.out 2).trans rfl; have hcz42_3 : w41.cell? ⟨gb463, 3, none⟩ = some (.int .i64 t459) := (blk_cell BK463.out 3).trans rfl; have hcz42_4 : w41.cell? ⟨gb463, 4, none⟩ = some (.slice Ao19 t460.length co19) := (blk_cell BK463.out 4).trans rfl; have hfz42_0 := blk_frozen BK463.out 0; have hfz42_1 := blk_frozen BK463.out 1; have hfz42_2 := blk_frozen BK463.out 2; have hfz42_3 := blk_frozen BK463.out 3; have hfz42_4 := blk_frozen BK463.out 4) | (go_at_call 25; (with_reducible refine (spec_MsgText.calls kj2 t456 t457 t458 t459 _ _ t460 t467 _ ?side1 ?side2 A26.out).mono ?_); (case side1 => repeat (first | exact (Kd.R_reads' HO462.out).2.2 | (with_reducible refine Kd.C_alloc ?_ _) | (with_reducible refine Kd.C_drewN ?_ _) | (with_reducible refine Kd.C_drew ?_))); (case side2 => exact (Kd.R_reads' HO462.out).2.1); rintro e w43 ⟨rfl, hb⟩; have n0_ := Aside0.mk (Kd.R_below z38x11 hb); have n1_ := Aside0.mk (Kd.R_below z38x12 hb); have n2_ := Aside0.mk (blk_below (g := gb455) (o := .cells #[.int .i64 t448, .int .i64 t449, .int .i64 t450, .int .i64 t451, .slice Ao14 t452.length co14] 46 (0, 0)) z38x7 hb); have n3_ := Aside0.mk (blk_below (g := gb463) (o := .cells #[.int .i64 t456, .int .i64 t457, .int .i64 t458, .int .i64 t459, .slice Ao19 t460.length co19] 46 (0, 0)) z38x8 hb); have n4_ := Aside0.mk (below_step z38x2 hb); clear HO454; clear HO462; clear BK455; clear BK463; clear HB; have HO454 := n0_; have HO462 := n1_; have BK455 := n2_; have BK463 := n3_; have HB := n4_; clear n0_ n1_ n2_ n3_ n4_; (try clear hb); (try clear hb2); (try clear hk); (try clear hi)))
       go_meet
       case rel => exact ⟨_, (true), (by first | rfl | (simp; done) | (simp [*]; done)), H', ⟨by have := HJ2.out; first | omega | exact Nat.le_refl _⟩, ⟨by (with_reducible repeat (first | apply Kd.R_alloc | apply Kd.R_drewN | apply Kd.R_drew)); exact Kd.R_mono HO454.out (fun _ hk => hk.2)⟩, ⟨by (with_reducible repeat (first | apply Kd.R_alloc | apply Kd.R_drewN | apply Kd.R_drew)); exact Kd.R_mono HO462.out (fun _ hk => hk.2)⟩, ⟨by (with_reducible repeat (first | refine blk_drewN ?_ _ | refine blk_drew ?_ | refine blk_alloc ?_ _)); exact BK455.out⟩, ⟨by (with_reducible repeat (first | refine blk_drewN ?_ _ | refine blk_drew ?_ | refine blk_alloc ?_ _)); exact BK463.out⟩, ⟨by repeat (first | (with_reducible first | exact HB.out | apply below_alloc | apply pw_below_drewN | apply below_drew1 | refine below_set ?_ GE455.out | refine below_set ?_ GE463.out) | exact HB.out)⟩⟩
     ·rw [if_neg c25] at H
      have c25b0 : (t464.toList == t466.toList) = false := beq_eq_false_iff_ne.mpr c25
      have c25b1 : (t464.toList != t466.toList) = true := bne_iff_ne.mpr c25
      (first | rw [c25b0] | (simp only [i64_w, i32_w]; rw [c25b0]) | skip)
      have H' := Aside0.mk H
      clear H
      have hnb44 := NB455_463.out
      have hnc44 := NB463_455.out
      have hcz45_0 : w23.cell? ⟨gb455, 0, none⟩ = some (.int .i64 t448) := (blk_cell BK455.out 0).trans rfl
      have hcz45_1 : w23.cell? ⟨gb455, 1, none⟩ = some (.int .i64 t449) := (blk_cell BK455.out 1).trans rfl
      have hcz45_2 : w23.cell? ⟨gb455, 2, none⟩ = some (.int .i64 t450) := (blk_cell BK455.out 2).trans rfl
      have hcz45_3 : w23.cell? ⟨gb455, 3, none⟩ = some (.int .i64 t451) := (blk_cell BK455.out 3).trans rfl
      have hcz45_4 : w23.cell? ⟨gb455, 4, none⟩ = some (.slice Ao14 t452.length co14) := (blk_cell BK455.out 4).trans rfl
      have hfz45_0 := blk_frozen BK455.out 0
      have hfz45_1 := blk_frozen BK455.out 1
      have hfz45_2 := blk_frozen BK455.out 2
      have hfz45_3 := blk_frozen BK455.out 3
      have hfz45_4 := blk_frozen BK455.out 4
      go_wp2_with (first | ((with_reducible refine gate_callee (f := 25) rfl ?_); refine goesL_ (some 27) rfl rfl Tryd.func25 (by kernel_rfl) rfl #[.agg #[.int .i64 t448, .int .i64 t449, .int .i64 t450, .int .i64 t451, .slice Ao14 t452.length co14]] rfl z38x5 ?_; (with_reducible refine (spec_MsgText.calls kj2 t448 t449 t450 t451 _ _ t452 t466 _ ?side1 ?side2 A24.out).mono ?_); (case side1 => repeat (first | exact (Kd.R_reads' HO454.out).2.2 | (with_reducible refine Kd.C_alloc ?_ _) | (with_reducible refine Kd.C_drewN ?_ _) | (with_reducible refine Kd.C_drew ?_))); (case side2 => exact (Kd.R_reads' HO454.out).2.1); rintro e w46 ⟨rfl, hb⟩; refine ⟨_, rfl, ?_⟩; have n0_ := Aside0.mk (Kd.R_below z38x11 hb); have n1_ := Aside0.mk (Kd.R_below z38x12 hb); have n2_ := Aside0.mk (blk_below (g := gb455) (o := .cells #[.int .i64 t448, .int .i64 t449, .int .i64 t450, .int .i64 t451, .slice Ao14 t452.length co14] 46 (0, 0)) z38x7 hb); have n3_ := Aside0.mk (blk_below (g := gb463) (o := .cells #[.int .i64 t456, .int .i64 t457, .int .i64 t458, .int .i64 t459, .slice Ao19 t460.length co19] 46 (0, 0)) z38x8 hb); have n4_ := Aside0.mk (below_step z38x2 hb); clear HO454; clear HO462; clear BK455; clear BK463; clear HB; have HO454 := n0_; have HO462 := n1_; have BK455 := n2_; have BK463 := n3_; have HB := n4_; clear n0_ n1_ n2_ n3_ n4_; (try clear hb); (try clear hb2); (try clear hk); (try clear hi)))
      go_meet
      case rel => exact ⟨_, (true), (by first | rfl | (simp; done) | (simp [*]; done)), H', ⟨by have := HJ2.out; first | omega | exact Nat.le_refl _⟩, ⟨by (with_reducible repeat (first | apply Kd.R_alloc | apply Kd.R_drewN | apply Kd.R_drew)); exact Kd.R_mono HO454.out (fun _ hk => hk.2)⟩, ⟨by (with_reducible repeat (first | apply Kd.R_alloc | apply Kd.R_drewN | apply Kd.R_drew)); exact Kd.R_mono HO462.out (fun _ hk => hk.2)⟩, ⟨by (with_reducible repeat (first | refine blk_drewN ?_ _ | refine blk_drew ?_ | refine blk_alloc ?_ _)); exact BK455.out⟩, ⟨by (with_reducible repeat (first | refine blk_drewN ?_ _ | refine blk_drew ?_ | refine blk_alloc ?_ _)); exact BK463.out⟩, ⟨by repeat (first | (with_reducible first | exact HB.out | apply below_alloc | apply pw_below_drewN | apply below_drew1 | refine below_set ?_ GE455.out | refine below_set ?_ GE463.out) | exact HB.out)⟩⟩
    case rest =>
     clear HC10
     try clear c1
     try clear c2
     try clear p2
     try clear c3
     try clear c4
     try clear c4b0
     try clear c4b1
     try clear c5
     try clear c10
     try clear c17
     try clear c25
     try clear c25b0
     try clear c25b1
     try clear c27
     try clear c27b0
     try clear c27b1
     try clear c28
     try clear c28b0
     try clear c28b1
     try clear c29
     try clear c34
     try clear c39
     try clear c44
     try clear hcz13_0
     try clear hcz13_1
     try clear hcz13_2
     try clear hcz13_3
     try clear hcz13_4
     try clear hcz18_0
     try clear hcz18_1
     try clear hcz18_2
     try clear hcz18_3
     try clear hcz18_4
     try clear hcz20_0
     try clear hcz20_1
     try clear hcz20_2
     try clear hcz20_3
     try clear hcz20_4
     try clear hcz22_0
     try clear hcz22_1
     try clear hcz22_2
     try clear hcz22_3
     try clear hcz22_4
     try clear hcz30_0
     try clear hcz30_1
     try clear hcz30_2
     try clear hcz30_3
     try clear hcz30_4
     try clear hcz32_0
     try clear hcz32_1
     try clear hcz32_2
     try clear hcz32_3
     try clear hcz32_4
     try clear hcz35_0
     try clear hcz35_1
     try clear hcz35_2
     try clear hcz35_3
     try clear hcz35_4
     try clear hcz37_0
     try clear hcz37_1
     try clear hcz37_2
     try clear hcz37_3
     try clear hcz37_4
     try clear hcz40_0
     try clear hcz40_1
     try clear hcz40_2
     try clear hcz40_3
     try clear hcz40_4
     try clear hcz42_0
     try clear hcz42_1
     try clear hcz42_2
     try clear hcz42_3
     try clear hcz42_4
     try clear hcz45_0
     try clear hcz45_1
     try clear hcz45_2
     try clear hcz45_3
     try clear hcz45_4
     try clear hfz13_0
     try clear hfz13_1
     try clear hfz13_2
     try clear hfz13_3
     try clear hfz13_4
     try clear hfz18_0
     try clear hfz18_1
     try clear hfz18_2
     try clear hfz18_3
     try clear hfz18_4
     try clear hfz20_0
     try clear hfz20_1
     try clear hfz20_2
     try clear hfz20_3
     try clear hfz20_4
     try clear hfz22_0
     try clear hfz22_1
     try clear hfz22_2
     try clear hfz22_3
     try clear hfz22_4
     try clear hfz30_0
     try clear hfz30_1
     try clear hfz30_2
     try clear hfz30_3
     try clear hfz30_4
     try clear hfz32_0
     try clear hfz32_1
     try clear hfz32_2
     try clear hfz32_3
     try clear hfz32_4
     try clear hfz35_0
     try clear hfz35_1
     try clear hfz35_2
     try clear hfz35_3
     try clear hfz35_4
     try clear hfz37_0
     try clear hfz37_1
     try clear hfz37_2
     try clear hfz37_3
     try clear hfz37_4
     try clear hfz40_0
     try clear hfz40_1
     try clear hfz40_2
     try clear hfz40_3
     try clear hfz40_4
     try clear hfz42_0
     try clear hfz42_1
     try clear hfz42_2
     try clear hfz42_3
     try clear hfz42_4
     try clear hfz45_0
     try clear hfz45_1
     try clear hfz45_2
     try clear hfz45_3
     try clear hfz45_4
     try clear p2
     obtain ⟨kq, x42_9, rfl, HA, HJ9, HO_456004, HO_464004, BK455, BK463, HB⟩ := hcut
     cases kq with
     | zero => exact absurd HA.out (by simp [laws_FnMsgOne.j1])
     | succ kj9 =>
      have H := HA.out
      clear HA
      simp only [laws_FnMsgOne.j1] at H
      by_cases c47 : x42_9 = true
      ·subst c47
       rw [if_pos rfl] at H
       replace H := Option.bind_eq_some_iff.mp H
       obtain ⟨t468, A480, H⟩ := H
       replace H : (if t464.toList = t468.toList then ((spec_MsgText.f kj9 t456 t457 t458 t459 t460).bind fun t469 => (some (t465.toList == t469.toList))) else (some false)) = some r := H
       have A48 := Aside0.mk A480
       clear A480
       by_cases c49 : t464.toList = t468.toList
       ·rw [if_pos c49] at H
        have c49b0 : (t464.toList == t468.toList) = true := beq_iff_eq.mpr c49
        have c49b1 : (t464.toList != t468.toList) = false := bne_eq_false_iff_eq.mpr c49
        clear c49
        replace H := Option.bind_eq_some_iff.mp H
        obtain ⟨t469, A500, H⟩ := H
        replace H : (some (t465.toList == t469.toList)) = some r := H
        have A50 := Aside0.mk A500
        clear A500
        obtain rfl := Option.some.inj H
        have hnb51 := NB455_463.out
        have hnc51 := NB463_455.out
        have hcz52_0 : wc.cell? ⟨gb455, 0, none⟩ = some (.int .i64 t448) := (blk_cell BK455.out 0).trans rfl
        have hcz52_1 : wc.cell? ⟨gb455, 1, none⟩ = some (.int .i64 t449) := (blk_cell BK455.out 1).trans rfl
        have hcz52_2 : wc.cell? ⟨gb455, 2, none⟩ = some (.int .i64 t450) := (blk_cell BK455.out 2).trans rfl
        have hcz52_3 : wc.cell? ⟨gb455, 3, none⟩ = some (.int .i64 t451) := (blk_cell BK455.out 3).trans rfl
        have hcz52_4 : wc.cell? ⟨gb455, 4, none⟩ = some (.slice Ao14 t452.length co14) := (blk_cell BK455.out 4).trans rfl
        have hfz52_0 := blk_frozen BK455.out 0
        have hfz52_1 := blk_frozen BK455.out 1
        have hfz52_2 := blk_frozen BK455.out 2
        have hfz52_3 := blk_frozen BK455.out 3
        have hfz52_4 := blk_frozen BK455.out 4
        go_wp2_with (first | ((with_reducible refine gate_callee (f := 25) rfl ?_); refine goesL_ (some 45) rfl rfl Tryd.func25 (by kernel_rfl) rfl #[.agg #[.int .i64 t448, .int .i64 t449, .int .i64 t450, .int .i64 t451, .slice Ao14 t452.length co14]] rfl z38x5 ?_; (with_reducible refine (spec_MsgText.calls kj9 t448 t449 t450 t451 _ _ t452 t468 _ ?side1 ?side2 A48.out).mono ?_); (case side1 => repeat (first | exact (Kd.R_reads' HO_456004.out).2.2 | (with_reducible refine Kd.C_alloc ?_ _) | (with_reducible refine Kd.C_drewN ?_ _) | (with_reducible refine Kd.C_drew ?_))); (case side2 => exact (Kd.R_reads' HO_456004.out).2.1); rintro e w53 ⟨rfl, hb⟩; refine ⟨_, rfl, ?_⟩; have n0_ := Aside0.mk (Kd.R_below z38x9 hb); have n1_ := Aside0.mk (Kd.R_below z38x10 hb); have n2_ := Aside0.mk (blk_below (g := gb455) (o := .cells #[.int .i64 t448, .int .i64 t449, .int .i64 t450, .int .i64 t451, .slice Ao14 t452.length co14] 46 (0, 0)) z38x7 hb); have n3_ := Aside0.mk (blk_below (g := gb463) (o := .cells #[.int .i64 t456, .int .i64 t457, .int .i64 t458, .int .i64 t459, .slice Ao19 t460.length co19] 46 (0, 0)) z38x8 hb); have n4_ := Aside0.mk (below_step z38x2 hb); clear HO_456004; clear HO_464004; clear BK455; clear BK463; clear HB; have HO_456004 := n0_; have HO_464004 := n1_; have BK455 := n2_; have BK463 := n3_; have HB := n4_; clear n0_ n1_ n2_ n3_ n4_; (try clear hb); (try clear hb2); (try clear hk); (try clear hi); have hcz54_0 : w53.cell? ⟨gb463, 0, none⟩ = some (.int .i64 t456) := (blk_cell BK463.out 0).trans rfl; have hcz54_1 : w53.cell? ⟨gb463, 1, none⟩ = some (.int .i64 t457) := (blk_cell BK463.out 1).trans rfl; have hcz54_2 : w53.cell? ⟨gb463, 2, none⟩ = some (.int .i64 t458) := (blk_cell BK463.out 2).trans rfl; have hcz54_3 : w53.cell? ⟨gb463, 3, none⟩ = some (.int .i64 t459) := (blk_cell BK463.out 3).trans rfl; have hcz54_4 : w53.cell? ⟨gb463, 4, none⟩ = some (.slice Ao19 t460.length co19) := (blk_cell BK463.out 4).trans rfl; have hfz54_0 := blk_frozen BK463.out 0; have hfz54_1 := blk_frozen BK463.out 1; have hfz54_2 := blk_frozen BK463.out 2; have hfz54_3 := blk_frozen BK463.out 3; have hfz54_4 := blk_frozen BK463.out 4) | (go_at_call 25; (with_reducible refine (spec_MsgText.calls kj9 t456 t457 t458 t459 _ _ t460 t469 _ ?side1 ?side2 A50.out).mono ?_); (case side1 => repeat (first | exact (Kd.R_reads' HO_464004.out).2.2 | (with_reducible refine Kd.C_alloc ?_ _) | (with_reducible refine Kd.C_drewN ?_ _) | (with_reducible refine Kd.C_drew ?_))); (case side2 => exact (Kd.R_reads' HO_464004.out).2.1); rintro e w55 ⟨rfl, hb⟩; have n0_ := Aside0.mk (Kd.R_below z38x9 hb); have n1_ := Aside0.mk (Kd.R_below z38x10 hb); have n2_ := Aside0.mk (blk_below (g := gb455) (o := .cells #[.int .i64 t448, .int .i64 t449, .int .i64 t450, .int .i64 t451, .slice Ao14 t452.length co14] 46 (0, 0)) z38x7 hb); have n3_ := Aside0.mk (blk_below (g := gb463) (o := .cells #[.int .i64 t456, .int .i64 t457, .int .i64 t458, .int .i64 t459, .slice Ao19 t460.length co19] 46 (0, 0)) z38x8 hb); have n4_ := Aside0.mk (below_step z38x2 hb); clear HO_456004; clear HO_464004; clear BK455; clear BK463; clear HB; have HO_456004 := n0_; have HO_464004 := n1_; have BK455 := n2_; have BK463 := n3_; have HB := n4_; clear n0_ n1_ n2_ n3_ n4_; (try clear hb); (try clear hb2); (try clear hk); (try clear hi)))
        go_ret
        exact ⟨by first | rfl | (simp [errW_none, errW_some] <;> rfl) | (simp [*, errW_none, errW_some] <;> rfl), by repeat (first | (with_reducible first | exact HB.out | apply below_alloc | apply pw_below_drewN | apply below_drew1 | refine below_set ?_ GE455.out | refine below_set ?_ GE463.out) | exact HB.out)⟩
       ·rw [if_neg c49] at H
        have c49b0 : (t464.toList == t468.toList) = false := beq_eq_false_iff_ne.mpr c49
        have c49b1 : (t464.toList != t468.toList) = true := bne_iff_ne.mpr c49
        obtain rfl := Option.some.inj H
        have hnb56 := NB455_463.out
        have hnc56 := NB463_455.out
        have hcz57_0 : wc.cell? ⟨gb455, 0, none⟩ = some (.int .i64 t448) := (blk_cell BK455.out 0).trans rfl
        have hcz57_1 : wc.cell? ⟨gb455, 1, none⟩ = some (.int .i64 t449) := (blk_cell BK455.out 1).trans rfl
        have hcz57_2 : wc.cell? ⟨gb455, 2, none⟩ = some (.int .i64 t450) := (blk_cell BK455.out 2).trans rfl
        have hcz57_3 : wc.cell? ⟨gb455, 3, none⟩ = some (.int .i64 t451) := (blk_cell BK455.out 3).trans rfl
        have hcz57_4 : wc.cell? ⟨gb455, 4, none⟩ = some (.slice Ao14 t452.length co14) := (blk_cell BK455.out 4).trans rfl
        have hfz57_0 := blk_frozen BK455.out 0
        have hfz57_1 := blk_frozen BK455.out 1
        have hfz57_2 := blk_frozen BK455.out 2
        have hfz57_3 := blk_frozen BK455.out 3
        have hfz57_4 := blk_frozen BK455.out 4
        go_wp2_with (first | ((with_reducible refine gate_callee (f := 25) rfl ?_); refine goesL_ (some 45) rfl rfl Tryd.func25 (by kernel_rfl) rfl #[.agg #[.int .i64 t448, .int .i64 t449, .int .i64 t450, .int .i64 t451, .slice Ao14 t452.length co14]] rfl z38x5 ?_; (with_reducible refine (spec_MsgText.calls kj9 t448 t449 t450 t451 _ _ t452 t468 _ ?side1 ?side2 A48.out).mono ?_); (case side1 => repeat (first | exact (Kd.R_reads' HO_456004.out).2.2 | (with_reducible refine Kd.C_alloc ?_ _) | (with_reducible refine Kd.C_drewN ?_ _) | (with_reducible refine Kd.C_drew ?_))); (case side2 => exact (Kd.R_reads' HO_456004.out).2.1); rintro e w58 ⟨rfl, hb⟩; refine ⟨_, rfl, ?_⟩; have n0_ := Aside0.mk (Kd.R_below z38x9 hb); have n1_ := Aside0.mk (Kd.R_below z38x10 hb); have n2_ := Aside0.mk (blk_below (g := gb455) (o := .cells #[.int .i64 t448, .int .i64 t449, .int .i64 t450, .int .i64 t451, .slice Ao14 t452.length co14] 46 (0, 0)) z38x7 hb); have n3_ := Aside0.mk (blk_below (g := gb463) (o := .cells #[.int .i64 t456, .int .i64 t457, .int .i64 t458, .int .i64 t459, .slice Ao19 t460.length co19] 46 (0, 0)) z38x8 hb); have n4_ := Aside0.mk (below_step z38x2 hb); clear HO_456004; clear HO_464004; clear BK455; clear BK463; clear HB; have HO_456004 := n0_; have HO_464004 := n1_; have BK455 := n2_; have BK463 := n3_; have HB := n4_; clear n0_ n1_ n2_ n3_ n4_; (try clear hb); (try clear hb2); (try clear hk); (try clear hi)))
        go_ret
        exact ⟨by first | rfl | (simp [errW_none, errW_some] <;> rfl) | (simp [*, errW_none, errW_some] <;> rfl), by repeat (first | (with_reducible first | exact HB.out | apply below_alloc | apply pw_below_drewN | apply below_drew1 | refine below_set ?_ GE455.out | refine below_set ?_ GE463.out) | exact HB.out)⟩
      ·replace c47 := Bool.eq_false_iff.mpr c47
       subst c47
       rw [if_neg (show ¬ (false = true) by decide)] at H
       replace H := Option.bind_eq_some_iff.mp H
       obtain ⟨t470, A590, H⟩ := H
       replace H : (some ((t464.toList == t465.toList) == t470)) = some r := H
       have A59 := Aside0.mk A590
       clear A590
       obtain rfl := Option.some.inj H
       have hnb60 := NB455_463.out
       have hnc60 := NB463_455.out
       have hcz61_0 : wc.cell? ⟨gb455, 0, none⟩ = some (.int .i64 t448) := (blk_cell BK455.out 0).trans rfl
       have hcz61_1 : wc.cell? ⟨gb455, 1, none⟩ = some (.int .i64 t449) := (blk_cell BK455.out 1).trans rfl
       have hcz61_2 : wc.cell? ⟨gb455, 2, none⟩ = some (.int .i64 t450) := (blk_cell BK455.out 2).trans rfl
       have hcz61_3 : wc.cell? ⟨gb455, 3, none⟩ = some (.int .i64 t451) := (blk_cell BK455.out 3).trans rfl
       have hcz61_4 : wc.cell? ⟨gb455, 4, none⟩ = some (.slice Ao14 t452.length co14) := (blk_cell BK455.out 4).trans rfl
       have hfz61_0 := blk_frozen BK455.out 0
       have hfz61_1 := blk_frozen BK455.out 1
       have hfz61_2 := blk_frozen BK455.out 2
       have hfz61_3 := blk_frozen BK455.out 3
       have hfz61_4 := blk_frozen BK455.out 4
       have hcz62_0 : wc.cell? ⟨gb463, 0, none⟩ = some (.int .i64 t456) := (blk_cell BK463.out 0).trans rfl
       have hcz62_1 : wc.cell? ⟨gb463, 1, none⟩ = some (.int .i64 t457) := (blk_cell BK463.out 1).trans rfl
       have hcz62_2 : wc.cell? ⟨gb463, 2, none⟩ = some (.int .i64 t458) := (blk_cell BK463.out 2).trans rfl
       have hcz62_3 : wc.cell? ⟨gb463, 3, none⟩ = some (.int .i64 t459) := (blk_cell BK463.out 3).trans rfl
       have hcz62_4 : wc.cell? ⟨gb463, 4, none⟩ = some (.slice Ao19 t460.length co19) := (blk_cell BK463.out 4).trans rfl
       have hfz62_0 := blk_frozen BK463.out 0
       have hfz62_1 := blk_frozen BK463.out 1
       have hfz62_2 := blk_frozen BK463.out 2
       have hfz62_3 := blk_frozen BK463.out 3
       have hfz62_4 := blk_frozen BK463.out 4
       go_wp2_with (first | ((with_reducible refine gate_callee (f := 30) rfl ?_); refine goesL_ (some 58) rfl rfl Tryd.func30 (by kernel_rfl) rfl #[.agg #[.int .i64 t448, .int .i64 t449, .int .i64 t450, .int .i64 t451, .slice Ao14 t452.length co14], .agg #[.int .i64 t456, .int .i64 t457, .int .i64 t458, .int .i64 t459, .slice Ao19 t460.length co19]] rfl z38x5 ?_; (with_reducible refine (laws_lbMsg.calls kj9 t448 t449 t450 t451 _ _ t452 t456 t457 t458 t459 _ _ t460 t470 _ ?side1 ?side2 ?side3 ?side4 A59.out).mono ?_); (case side1 => repeat (first | exact (Kd.R_reads' HO_456004.out).2.2 | (with_reducible refine Kd.C_alloc ?_ _) | (with_reducible refine Kd.C_drewN ?_ _) | (with_reducible refine Kd.C_drew ?_))); (case side2 => exact (Kd.R_reads' HO_456004.out).2.1); (case side3 => repeat (first | exact (Kd.R_reads' HO_464004.out).2.2 | (with_reducible refine Kd.C_alloc ?_ _) | (with_reducible refine Kd.C_drewN ?_ _) | (with_reducible refine Kd.C_drew ?_))); (case side4 => exact (Kd.R_reads' HO_464004.out).2.1); rintro e w63 ⟨rfl, hb⟩; refine ⟨_, rfl, ?_⟩; have n0_ := Aside0.mk (Kd.R_below z38x9 hb); have n1_ := Aside0.mk (Kd.R_below z38x10 hb); have n2_ := Aside0.mk (blk_below (g := gb455) (o := .cells #[.int .i64 t448, .int .i64 t449, .int .i64 t450, .int .i64 t451, .slice Ao14 t452.length co14] 46 (0, 0)) z38x7 hb); have n3_ := Aside0.mk (blk_below (g := gb463) (o := .cells #[.int .i64 t456, .int .i64 t457, .int .i64 t458, .int .i64 t459, .slice Ao19 t460.length co19] 46 (0, 0)) z38x8 hb); have n4_ := Aside0.mk (below_step z38x2 hb); clear HO_456004; clear HO_464004; clear BK455; clear BK463; clear HB; have HO_456004 := n0_; have HO_464004 := n1_; have BK455 := n2_; have BK463 := n3_; have HB := n4_; clear n0_ n1_ n2_ n3_ n4_; (try clear hb); (try clear hb2); (try clear hk); (try clear hi)))
       go_ret
       exact ⟨by first | rfl | (simp [errW_none, errW_some] <;> rfl) | (simp [*, errW_none, errW_some] <;> rfl), by repeat (first | (with_reducible first | exact HB.out | apply below_alloc | apply pw_below_drewN | apply below_drew1 | refine below_set ?_ GE455.out | refine below_set ?_ GE463.out) | exact HB.out)⟩

/-- THE ONE PURE STATEMENT of laws_FnMsgOne: yours. -/
def laws_FnMsgOne.Pure : Prop := ∀ (l0 : List Int) (l1 : List Int), l0.length ≤ maxLen → l0.length * 1 ≤ 140737488351232 → (∀ x ∈ l0, (Lit.int .u8 x).wf = true) → l1.length ≤ maxLen → l1.length * 1 ≤ 140737488351232 → (∀ x ∈ l1, (Lit.int .u8 x).wf = true) → ∃ k, laws_FnMsgOne.f k l0 l1 = some true
theorem laws_FnMsgOne.walk (P : laws_FnMsgOne.Pure) (a0 : Option Addr) (len0 cap0 : Nat) (z0 : List Int) (a1 : Option Addr) (len1 cap1 : Nat) (z1 : List Int) (w : World) (w0 : (a0 = none ∧ len0 = 0 ∧ cap0 = 0 ∧ z0 = []) ∨ ∃ x, a0 = some x ∧ len0 ≤ cap0 ∧ cap0 ≤ maxLen ∧ z0.length = cap0 ∧ (∀ i, i < z0.length → w.cell? (x.add i) = some (.int .u8 (z0.getD i 0))) ∧ ∀ n ∈ z0, (Lit.int .u8 n).wf = true) (y0 : len0 * 1 ≤ 140737488351232) (w1 : (a1 = none ∧ len1 = 0 ∧ cap1 = 0 ∧ z1 = []) ∨ ∃ x, a1 = some x ∧ len1 ≤ cap1 ∧ cap1 ≤ maxLen ∧ z1.length = cap1 ∧ (∀ i, i < z1.length → w.cell? (x.add i) = some (.int .u8 (z1.getD i 0))) ∧ ∀ n ∈ z1, (Lit.int .u8 n).wf = true) (y1 : len1 * 1 ≤ 140737488351232) (ht : Tens w) :
  Calls Tryd.prog 10 #[.slice a0 len0 cap0, .slice a1 len1 cap1] w fun e w' => e = .returned (.bool true) ∧ Below w.heap.size w w' := by
 obtain ⟨l0, rfl, hr0, hm0, hw0, hc0⟩ := ReadsInt.ofRowC w0
 obtain ⟨l1, rfl, hr1, hm1, hw1, hc1⟩ := ReadsInt.ofRowC w1
 obtain ⟨k, h⟩ := P l0 l1 hm0 y0 hw0 hm1 y1 hw1
 refine (laws_FnMsgOne.calls k _ _ l0 _ _ l1 true w (Kd.C_of_reads (d := (0 : Int)) (h1 := fun _ => rfl) hr0) hc0 (Kd.C_of_reads (d := (0 : Int)) (h1 := fun _ => rfl) hr1) hc1 h ht).mono ?_
 rintro e w' ⟨rfl, hd⟩
 exact ⟨rfl, hd⟩

end Go.Proofs.YtgekmdfcbcacdaaDoor.Hp
