-- Printed by wip/tools/hp.py of this session (the kit's print.py, with contracts typed by hand beside).
import Derived.Test.YtbiknbjcidlabaaHx0
import Derived.Test.YtbiknbjcidlabaaHx17
import Derived.Test.YtbiknbjcidlabaaHx21
import Derived.Test.YtbiknbjcidlabaaHx27
namespace Go.Proofs.Ytbiknbjcidlabaa.Hp
open Go.RowKit Go.Proofs.YtbiknbjcidlabaaW.PrintWords Go.Proofs.YtbiknbjcidlabaaW.PrintLast Go.Proofs.YtbiknbjcidlabaaW.PrintMore
attribute [local go_sem] max2_int min2_int max_two min_two max_three min_three max_four min_four   -- for this text's walks alone
set_option linter.unusedVariables false
set_option linter.unusedSimpArgs false
-- squeezed by wip/tools/squeeze.py
theorem z29x13 {P : Prop} (h : P := by (with_reducible repeat (first | apply Kd.R_alloc | apply Kd.R_drewN | apply Kd.R_drew)); exact HO383.out) : P := h
theorem z29x12 {P : Prop} (h : P := by (with_reducible repeat (first | apply Kd.R_alloc | apply Kd.R_drewN | apply Kd.R_drew)); exact HO_385004.out) : P := h
theorem z29x11 {P : Prop} (h : P := by (with_reducible repeat (first | refine blk_drewN ?_ _ | refine blk_drew ?_ | refine blk_alloc ?_ _)); exact BK384.out) : P := h
theorem z29x10 {P : Prop} (h : P := by repeat (first | (with_reducible first | exact HB.out | apply below_alloc | apply pw_below_drewN | apply below_drew1) | exact HB.out)) : P := h
theorem z29x9 {P : Prop} (h : P := by (try simp only [List.map_toArray, List.map_cons, List.map_nil]); first | done | rfl | (simp only [List.length_drop, List.length_take]; rfl)) : P := h
theorem z29x8 {P : Prop} (h : P := by repeat (first | (with_reducible first | exact HB.out | apply below_alloc | apply pw_below_drewN | apply below_drew1 | refine below_set ?_ GE384.out) | exact HB.out)) : P := h
theorem z29x7 {P : Prop} (h : P := by rw [hg]; exact (below_size (by repeat (first | (with_reducible first | exact HB.out | apply below_alloc | apply pw_below_drewN | apply below_drew1 | refine below_set ?_ GE384.out) | exact HB.out)))) : P := h
theorem z29x6 {P : Prop} (h : P := by repeat (first | (with_reducible first | exact HB.out | apply below_alloc | apply pw_below_drewN | apply below_drew1 | refine below_set ?_ GE384.out | refine below_set ?_ GE388.out) | exact HB.out)) : P := h
theorem z29x5 {P : Prop} (h : P := by rw [hg]; exact Nat.ne_of_lt (blk_lt (g := gb384) (o := .cells #[.int .i64 t377, .int .i64 t378, .int .i64 t379, .int .i64 t380, .slice Ao12 t381.length co12] 36 (0, 0)) (by (with_reducible repeat (first | refine blk_drewN ?_ _ | refine blk_drew ?_ | refine blk_alloc ?_ _)); exact BK384.out))) : P := h
theorem z29x4 {P : Prop} (h : P := by rw [hg]; exact Nat.ne_of_gt (blk_lt (g := gb384) (o := .cells #[.int .i64 t377, .int .i64 t378, .int .i64 t379, .int .i64 t380, .slice Ao12 t381.length co12] 36 (0, 0)) (by (with_reducible repeat (first | refine blk_drewN ?_ _ | refine blk_drew ?_ | refine blk_alloc ?_ _)); exact BK384.out))) : P := h
theorem z29x3 {P : Prop} (h : P := by (with_reducible repeat (first | apply Kd.R_alloc | apply Kd.R_drewN | apply Kd.R_drew)); exact (Kd.R_mono (Kd.R_far (p := ⟨gb384, 4, none⟩) (Kd.R_far (p := ⟨gb384, 3, none⟩) (Kd.R_far (p := ⟨gb384, 2, none⟩) (Kd.R_far (p := ⟨gb384, 1, none⟩) (Kd.R_far (p := ⟨gb384, 0, none⟩) (Kd.R_types HO383.out BK384.out (by decide)) (fun _ hk => hk.2) (.int .i64 t377)) (fun _ hk => hk.2) (.int .i64 t378)) (fun _ hk => hk.2) (.int .i64 t379)) (fun _ hk => hk.2) (.int .i64 t380)) (fun _ hk => hk.2) (.slice Ao12 t381.length co12)) (fun _ h_ => h_.1))) : P := h
theorem z29x2 {P : Prop} (h : P := by (with_reducible repeat (first | apply Kd.R_alloc | apply Kd.R_drewN | apply Kd.R_drew)); exact (Kd.R_mono (Kd.R_far (p := ⟨gb388, 0, none⟩) (Kd.R_far (p := ⟨gb388, 4, none⟩) (Kd.R_far (p := ⟨gb388, 3, none⟩) (Kd.R_far (p := ⟨gb388, 2, none⟩) (Kd.R_far (p := ⟨gb388, 1, none⟩) (Kd.R_far (p := ⟨gb388, 0, none⟩) (Kd.R_types HO_385004.out BK388.out (by decide)) (fun _ hk => hk.2) (.int .i64 t377)) (fun _ hk => hk.2) (.int .i64 t378)) (fun _ hk => hk.2) (.int .i64 t379)) (fun _ hk => hk.2) (.int .i64 t380)) (fun _ hk => hk.2) (.slice Ao12 t381.length co12)) (fun _ hk => hk.2) (.int .i64 (wrap64 (1 + (Int.tmod (wrap64 (t377 + ((l1.length : Int) % 5))) 6))))) (fun _ h_ => h_.1))) : P := h
theorem z29x1 {P : Prop} (h : P := by (with_reducible repeat (first | refine blk_drewN ?_ _ | refine blk_drew ?_ | refine blk_alloc ?_ _)); refine blk_far ?_ NB384_388.out _; (with_reducible repeat (first | refine blk_drewN ?_ _ | refine blk_drew ?_ | refine blk_alloc ?_ _)); refine blk_far ?_ NB384_388.out _; (with_reducible repeat (first | refine blk_drewN ?_ _ | refine blk_drew ?_ | refine blk_alloc ?_ _)); refine blk_far ?_ NB384_388.out _; (with_reducible repeat (first | refine blk_drewN ?_ _ | refine blk_drew ?_ | refine blk_alloc ?_ _)); refine blk_far ?_ NB384_388.out _; (with_reducible repeat (first | refine blk_drewN ?_ _ | refine blk_drew ?_ | refine blk_alloc ?_ _)); refine blk_far ?_ NB384_388.out _; (with_reducible repeat (first | refine blk_drewN ?_ _ | refine blk_drew ?_ | refine blk_alloc ?_ _)); refine blk_far ?_ NB384_388.out _; (with_reducible repeat (first | refine blk_drewN ?_ _ | refine blk_drew ?_ | refine blk_alloc ?_ _)); exact BK384.out) : P := h
theorem z29x0 {P : Prop} (h : P := by (with_reducible repeat (first | refine blk_drewN ?_ _ | refine blk_drew ?_ | refine blk_alloc ?_ _)); refine blk_put (cs := #[.int .i64 t377, .int .i64 t378, .int .i64 t379, .int .i64 t380, .slice Ao12 t381.length co12]) ?_ 0 _ rfl; (with_reducible repeat (first | refine blk_drewN ?_ _ | refine blk_drew ?_ | refine blk_alloc ?_ _)); refine blk_put (cs := #[.int .i64 t377, .int .i64 t378, .int .i64 t379, .int .i64 t380, .slice none 0 0]) ?_ 4 _ rfl; (with_reducible repeat (first | refine blk_drewN ?_ _ | refine blk_drew ?_ | refine blk_alloc ?_ _)); refine blk_put (cs := #[.int .i64 t377, .int .i64 t378, .int .i64 t379, .int .i64 0, .slice none 0 0]) ?_ 3 _ rfl; (with_reducible repeat (first | refine blk_drewN ?_ _ | refine blk_drew ?_ | refine blk_alloc ?_ _)); refine blk_put (cs := #[.int .i64 t377, .int .i64 t378, .int .i64 0, .int .i64 0, .slice none 0 0]) ?_ 2 _ rfl; (with_reducible repeat (first | refine blk_drewN ?_ _ | refine blk_drew ?_ | refine blk_alloc ?_ _)); refine blk_put (cs := #[.int .i64 t377, .int .i64 0, .int .i64 0, .int .i64 0, .slice none 0 0]) ?_ 1 _ rfl; (with_reducible repeat (first | refine blk_drewN ?_ _ | refine blk_drew ?_ | refine blk_alloc ?_ _)); refine blk_put (cs := #[.int .i64 0, .int .i64 0, .int .i64 0, .int .i64 0, .slice none 0 0]) ?_ 0 _ rfl; (with_reducible repeat (first | refine blk_drewN ?_ _ | refine blk_drew ?_ | refine blk_alloc ?_ _)); exact BK388.out) : P := h

/-! ### laws_FnMsgKinds: function 6 -/
mutual
def laws_FnMsgKinds.j0 : Nat → List Int → List Int → Bool → Option (Bool)
 | 0, _, _, _ => none
 | k + 1, x0, x1, x16 => if x16 = true then (some true) else ((spec_DrawMsgOk.f k x0).bind fun bt377 => ((impl_MsgOk.f bt377.1 bt377.2.1 bt377.2.2.1 bt377.2.2.2.1 bt377.2.2.2.2).bind fun t385 => ((spec_MsgOk.f bt377.1 bt377.2.1 bt377.2.2.1 bt377.2.2.2.1 bt377.2.2.2.2).bind fun t386 => (if (t385 != t386) = true then (laws_FnMsgKinds.j1 k x1 t385 true bt377.1 bt377.2.1 bt377.2.2.1 bt377.2.2.2.1 bt377.2.2.2.2) else (laws_FnMsgKinds.j1 k x1 t385 (!t385) bt377.1 bt377.2.1 bt377.2.2.1 bt377.2.2.2.1 bt377.2.2.2.2)))))
def laws_FnMsgKinds.j1 : Nat → List Int → Bool → Bool → Int → Int → Int → Int → List (S24) → Option (Bool)
 | 0, _, _, _, _, _, _, _, _ => none
 | k + 1, x1, x6, x28, x385000, x385001, x385002, x385003, x385004 => if x28 = true then ((spec_MsgOk.f x385000 x385001 x385002 x385003 x385004).bind fun t387 => (some (x6 == t387))) else (if x385000 = 2 then (if (wrap64 (1 + (Int.tmod (wrap64 (x385000 + ((x1.length : Int) % 5))) 6))) = 2 then ((impl_MsgOk.f (wrap64 (1 + (Int.tmod (wrap64 (x385000 + ((x1.length : Int) % 5))) 6))) x385001 x385002 x385003 x385004).bind fun t389 => (some (t389 == true))) else ((impl_MsgOk.f (wrap64 (1 + (Int.tmod (wrap64 (x385000 + ((x1.length : Int) % 5))) 6))) x385001 x385002 x385003 x385004).bind fun t390 => (if (wrap64 (1 + (Int.tmod (wrap64 (x385000 + ((x1.length : Int) % 5))) 6))) = 4 then (some (t390 == true)) else (some (t390 == ((wrap64 (1 + (Int.tmod (wrap64 (x385000 + ((x1.length : Int) % 5))) 6))) == x385000)))))) else (if x385000 = 4 then (if (wrap64 (1 + (Int.tmod (wrap64 (x385000 + ((x1.length : Int) % 5))) 6))) = 2 then ((impl_MsgOk.f (wrap64 (1 + (Int.tmod (wrap64 (x385000 + ((x1.length : Int) % 5))) 6))) x385001 x385002 x385003 x385004).bind fun t391 => (some (t391 == true))) else ((impl_MsgOk.f (wrap64 (1 + (Int.tmod (wrap64 (x385000 + ((x1.length : Int) % 5))) 6))) x385001 x385002 x385003 x385004).bind fun t392 => (if (wrap64 (1 + (Int.tmod (wrap64 (x385000 + ((x1.length : Int) % 5))) 6))) = 4 then (some (t392 == true)) else (some (t392 == ((wrap64 (1 + (Int.tmod (wrap64 (x385000 + ((x1.length : Int) % 5))) 6))) == x385000)))))) else ((impl_MsgOk.f (wrap64 (1 + (Int.tmod (wrap64 (x385000 + ((x1.length : Int) % 5))) 6))) x385001 x385002 x385003 x385004).bind fun t393 => (some (t393 == ((wrap64 (1 + (Int.tmod (wrap64 (x385000 + ((x1.length : Int) % 5))) 6))) == x385000))))))
end
def laws_FnMsgKinds.f (k : Nat) (l0 : List Int) (l1 : List Int) : Option (Bool) := if (l0.length : Int) > 1048576 then (laws_FnMsgKinds.j0 k l0 l1 true) else (laws_FnMsgKinds.j0 k l0 l1 (decide ((l1.length : Int) > 1048576)))
theorem laws_FnMsgKinds.mono_l : ∀ k, (∀ y0 y1 y2, LeO (laws_FnMsgKinds.j0 k y0 y1 y2) (laws_FnMsgKinds.j0 (k + 1) y0 y1 y2)) ∧ (∀ y0 y1 y2 y3 y4 y5 y6 y7, LeO (laws_FnMsgKinds.j1 k y0 y1 y2 y3 y4 y5 y6 y7) (laws_FnMsgKinds.j1 (k + 1) y0 y1 y2 y3 y4 y5 y6 y7))
 | 0 => ⟨fun _ _ _ r h => by simp [laws_FnMsgKinds.j0] at h, fun _ _ _ _ _ _ _ _ r h => by simp [laws_FnMsgKinds.j1] at h⟩
 | k + 1 => by
  obtain ⟨ih0, ih1⟩ := laws_FnMsgKinds.mono_l k
  refine ⟨?_, ?_⟩
  ·intro y0 y1 y2
   unfold laws_FnMsgKinds.j0
   repeat' first
   | (with_reducible exact ih0 _ _ _)
   | (with_reducible exact ih1 _ _ _ _ _ _ _ _)
   | (with_reducible exact spec_DrawMsgOk.mono _ _)
   | (with_reducible exact LeO.refl _)
   | (with_reducible exact LeO.none _)
   | (with_reducible refine LeO.ite ?_ ?_)
   | (with_reducible refine LeO.bind ?_ (fun _ => ?_))
   | exact ih0 _ _ _
   | exact ih1 _ _ _ _ _ _ _ _
   | exact spec_DrawMsgOk.mono _ _
   | exact LeO.none _
   | refine LeO.ite ?_ ?_
   | refine LeO.bind ?_ (fun _ => ?_)
  ·intro y0 y1 y2 y3 y4 y5 y6 y7
   unfold laws_FnMsgKinds.j1
   repeat' first
   | (with_reducible exact ih0 _ _ _)
   | (with_reducible exact ih1 _ _ _ _ _ _ _ _)
   | (with_reducible exact spec_DrawMsgOk.mono _ _)
   | (with_reducible exact LeO.refl _)
   | (with_reducible exact LeO.none _)
   | (with_reducible refine LeO.ite ?_ ?_)
   | (with_reducible refine LeO.bind ?_ (fun _ => ?_))
   | exact ih0 _ _ _
   | exact ih1 _ _ _ _ _ _ _ _
   | exact spec_DrawMsgOk.mono _ _
   | exact LeO.none _
   | refine LeO.ite ?_ ?_
   | refine LeO.bind ?_ (fun _ => ?_)
theorem laws_FnMsgKinds.mono : ∀ a0 a1 k, LeO (laws_FnMsgKinds.f k a0 a1) (laws_FnMsgKinds.f (k + 1) a0 a1) := by
 intro a0 a1 k
 obtain ⟨ih0, ih1⟩ := laws_FnMsgKinds.mono_l k
 unfold laws_FnMsgKinds.f
 repeat' first
   | (with_reducible exact ih0 _ _ _)
   | (with_reducible exact ih1 _ _ _ _ _ _ _ _)
   | (with_reducible exact spec_DrawMsgOk.mono _ _)
   | (with_reducible exact LeO.refl _)
   | (with_reducible exact LeO.none _)
   | (with_reducible refine LeO.ite ?_ ?_)
   | (with_reducible refine LeO.bind ?_ (fun _ => ?_))
   | exact ih0 _ _ _
   | exact ih1 _ _ _ _ _ _ _ _
   | exact spec_DrawMsgOk.mono _ _
   | exact LeO.none _
   | refine LeO.ite ?_ ?_
   | refine LeO.bind ?_ (fun _ => ?_)
set_option maxHeartbeats 8000000 in
set_option maxRecDepth 100000 in
theorem laws_FnMsgKinds.calls (k : Nat) (A0 : Option Addr) (c0 : Nat) (l0 : List Int) (A1 : Option Addr) (c1 : Nat) (l1 : List Int) (r : Bool) (w : World) (hr0 : Kd.C (Kd.int .u8) w A0 l0.length l0) (hc0 : l0.length ≤ c0) (hr1 : Kd.C (Kd.int .u8) w A1 l1.length l1) (hc1 : l1.length ≤ c1) (h : laws_FnMsgKinds.f k l0 l1 = some r) :
  Calls Try.prog 6 #[.slice A0 l0.length c0, .slice A1 l1.length c1] w fun e w' => e = .returned (.bool r) ∧ Below w.heap.size w w' := by
 have hu36 := Try.underlying36
 have HR0 := Aside0.mk hr0
 have HC0 := Aside0.mk hc0
 clear hr0 hc0
 have HR1 := Aside0.mk hr1
 have HC1 := Aside0.mk hc1
 clear hr1 hc1
 have HB := Aside0.mk (Below.refl w.heap.size w)
 have H : (if (l0.length : Int) > 1048576 then (laws_FnMsgKinds.j0 k l0 l1 true) else (laws_FnMsgKinds.j0 k l0 l1 (decide ((l1.length : Int) > 1048576)))) = some r := h
 clear h
 have HC3 := Aside0.mk H
 clear H
 go_enter Try.func6, Try.ntmps6
 go_upto_region 1 with (fail)
 go_cut [16] (fun v16 wc => ∃ (kq : Nat) (x16_2 : Bool), v16 = .bool x16_2 ∧ Aside0 (laws_FnMsgKinds.j0 kq l0 l1 x16_2 = some r) ∧ Aside0 (kq ≤ k) ∧ Aside0 (Below w.heap.size w wc))
 case first =>
  have H := HC3.out
  clear HC3
  by_cases c4 : (l0.length : Int) > 1048576
  ·rw [if_pos c4] at H
   have c4b0 : decide (1048576 < (l0.length : Int)) = true := decide_eq_true c4
   have c4b1 : decide (1048576 < l0.length) = true := decide_eq_true (by omega)
   clear c4
   (first | rw [c4b0] | (simp only [i64_w, i32_w]; rw [c4b0]) | skip)
   have H' := Aside0.mk H
   clear H
   go_wp2
   go_meet
   case rel => exact ⟨_, (true), (by first | rfl | (simp; done) | (simp [*]; done)), H', ⟨by first | omega | exact Nat.le_refl _⟩, ⟨by repeat (first | (with_reducible first | exact HB.out | apply below_alloc | apply pw_below_drewN | apply below_drew1) | exact HB.out)⟩⟩
  ·rw [if_neg c4] at H
   have c4b0 : decide (1048576 < (l0.length : Int)) = false := decide_eq_false c4
   have c4b1 : decide (1048576 < l0.length) = false := decide_eq_false (by omega)
   clear c4
   (first | rw [c4b0] | (simp only [i64_w, i32_w]; rw [c4b0]) | skip)
   have H' := Aside0.mk H
   clear H
   go_wp2
   go_meet
   case rel => exact ⟨_, (decide ((l1.length : Int) > 1048576)), (by first | rfl | (simp; done) | (simp [*]; done)), H', ⟨by first | omega | exact Nat.le_refl _⟩, ⟨by repeat (first | (with_reducible first | exact HB.out | apply below_alloc | apply pw_below_drewN | apply below_drew1) | exact HB.out)⟩⟩
 case rest =>
  clear HC3
  try clear c1
  try clear p2
  try clear c4
  try clear c4b0
  try clear c4b1
  obtain ⟨kq, x16_2, rfl, HA, HJ2, HB⟩ := hcut
  cases kq with
  | zero => exact absurd HA.out (by simp [laws_FnMsgKinds.j0])
  | succ kj2 =>
   have H := HA.out
   clear HA
   simp only [laws_FnMsgKinds.j0] at H
   by_cases c5 : x16_2 = true
   ·subst c5
    rw [if_pos rfl] at H
    obtain rfl := Option.some.inj H
    go_wp2
    go_ret
    exact ⟨by first | rfl | (simp [errW_none, errW_some] <;> rfl) | (simp [*, errW_none, errW_some] <;> rfl), by repeat (first | (with_reducible first | exact HB.out | apply below_alloc | apply pw_below_drewN | apply below_drew1) | exact HB.out)⟩
   ·replace c5 := Bool.eq_false_iff.mpr c5
    subst c5
    rw [if_neg (show ¬ (false = true) by decide)] at H
    replace H := Option.bind_eq_some_iff.mp H
    obtain ⟨⟨t377, t378, t379, t380, t381⟩, A60, H⟩ := H
    replace H : ((impl_MsgOk.f t377 t378 t379 t380 t381).bind fun t385 => ((spec_MsgOk.f t377 t378 t379 t380 t381).bind fun t386 => (if (t385 != t386) = true then (laws_FnMsgKinds.j1 kj2 l1 t385 true t377 t378 t379 t380 t381) else (laws_FnMsgKinds.j1 kj2 l1 t385 (!t385) t377 t378 t379 t380 t381)))) = some r := H
    have A6 := Aside0.mk A60
    clear A60
    replace H := Option.bind_eq_some_iff.mp H
    obtain ⟨t385, A70, H⟩ := H
    replace H : ((spec_MsgOk.f t377 t378 t379 t380 t381).bind fun t386 => (if (t385 != t386) = true then (laws_FnMsgKinds.j1 kj2 l1 t385 true t377 t378 t379 t380 t381) else (laws_FnMsgKinds.j1 kj2 l1 t385 (!t385) t377 t378 t379 t380 t381))) = some r := H
    have A7 := Aside0.mk A70
    clear A70
    have HC8 := Aside0.mk H
    clear H
    go_upto_region 5 with (first | ((with_reducible refine gate_callee (f := 31) rfl ?_); refine goesL_ (some 18) rfl rfl Try.func31 (by kernel_rfl) rfl #[.slice A0 l0.length c0] rfl z29x9 ?_; (with_reducible refine (spec_DrawMsgOk.calls kj2 _ _ l0 t377 t378 t379 t380 t381 _ ?side1 ?side2 A6.out).mono ?_); (case side1 => repeat (first | exact (Kd.C_below HR0.out HB.out) | (with_reducible refine Kd.C_alloc ?_ _) | (with_reducible refine Kd.C_drewN ?_ _) | (with_reducible refine Kd.C_drew ?_))); (case side2 => exact HC0.out); rintro e w9 ⟨v382, rfl, ho0, hb⟩; refine ⟨_, rfl, ?_⟩; have n0_ := Aside0.mk (Kd.R_lower ho0 (below_size z29x10)); have n1_ := Aside0.mk (below_step z29x10 hb); clear HB; have HO383 := n0_; have HB := n1_; clear n0_ n1_; (try clear hb); (try clear hb2); (try clear hk); (try clear hi); (try clear ho0)) | ((with_reducible refine gate_dst (N := 5) rfl ?_); refine box_event ?hg (N := 5) ?hd (cs := #[.int .i64 0, .int .i64 0, .int .i64 0, .int .i64 0, .slice none 0 0]) (t := 36) ?hr ?_; (case hd => rfl); (case hg => rfl); (case hr => first | (go_simp; done) | (go_simp; rfl)); intro gb384 hg w10 hbox hb; have n0_ := Aside0.mk (Kd.R_below z29x13 hb); have n1_ := Aside0.mk (below_step z29x10 hb); have n2_ := Aside0.mk (hbox); have n3_ := Aside0.mk ((by rw [hg]; exact (below_size z29x10) : w.heap.size ≤ gb384)); have n4_ := Aside0.mk ((by rw [hg]; exact (below_size z29x10) : w.heap.size ≤ gb384)); clear HO383; clear HB; have HO383 := n0_; have HB := n1_; have BK384 := n2_; have GW384 := n3_; have GE384 := n4_; clear n0_ n1_ n2_ n3_ n4_; clear hb hbox hg; have hcz11_0 : w10.cell? ⟨gb384, 0, none⟩ = some (.int .i64 0) := (blk_cell BK384.out 0).trans rfl; have hcz11_1 : w10.cell? ⟨gb384, 1, none⟩ = some (.int .i64 0) := (blk_cell BK384.out 1).trans rfl; have hcz11_2 : w10.cell? ⟨gb384, 2, none⟩ = some (.int .i64 0) := (blk_cell BK384.out 2).trans rfl; have hcz11_3 : w10.cell? ⟨gb384, 3, none⟩ = some (.int .i64 0) := (blk_cell BK384.out 3).trans rfl; have hcz11_4 : w10.cell? ⟨gb384, 4, none⟩ = some (.slice none 0 0) := (blk_cell BK384.out 4).trans rfl; have hfz11_0 := blk_frozen BK384.out 0; have hfz11_1 := blk_frozen BK384.out 1; have hfz11_2 := blk_frozen BK384.out 2; have hfz11_3 := blk_frozen BK384.out 3; have hfz11_4 := blk_frozen BK384.out 4; obtain ⟨Ao12, co12, eo12⟩ := Kd.R_slice HO383.out; subst eo12) | ((with_reducible refine gate_callee (f := 29) rfl ?_); refine goesL_ (some 20) rfl rfl Try.func29 (by kernel_rfl) rfl #[.agg #[.int .i64 t377, .int .i64 t378, .int .i64 t379, .int .i64 t380, .slice Ao12 t381.length co12]] rfl z29x9 ?_; (with_reducible refine (impl_MsgOk.calls t377 t378 t379 t380 _ _ t381 t385 _ ?side1 ?side2 A7.out).mono ?_); (case side1 => refine (Kd.R_reads' (e := 24) (base := w.heap.size) (ok := fun k_ => True) (n := t381.length) (c := co12) ?_).2.2; exact z29x3); (case side2 => exact (Kd.R_reads' HO383.out).2.1); rintro e w13 ⟨rfl, hb⟩; refine ⟨_, rfl, ?_⟩; have n0_ := Aside0.mk (Kd.R_below z29x3 hb); have n1_ := Aside0.mk (blk_below (g := gb384) (o := .cells #[.int .i64 t377, .int .i64 t378, .int .i64 t379, .int .i64 t380, .slice Ao12 t381.length co12] 36 (0, 0)) (by (with_reducible repeat (first | refine blk_drewN ?_ _ | refine blk_drew ?_ | refine blk_alloc ?_ _)); refine blk_put (cs := #[.int .i64 t377, .int .i64 t378, .int .i64 t379, .int .i64 t380, .slice none 0 0]) ?_ 4 _ rfl; (with_reducible repeat (first | refine blk_drewN ?_ _ | refine blk_drew ?_ | refine blk_alloc ?_ _)); refine blk_put (cs := #[.int .i64 t377, .int .i64 t378, .int .i64 t379, .int .i64 0, .slice none 0 0]) ?_ 3 _ rfl; (with_reducible repeat (first | refine blk_drewN ?_ _ | refine blk_drew ?_ | refine blk_alloc ?_ _)); refine blk_put (cs := #[.int .i64 t377, .int .i64 t378, .int .i64 0, .int .i64 0, .slice none 0 0]) ?_ 2 _ rfl; (with_reducible repeat (first | refine blk_drewN ?_ _ | refine blk_drew ?_ | refine blk_alloc ?_ _)); refine blk_put (cs := #[.int .i64 t377, .int .i64 0, .int .i64 0, .int .i64 0, .slice none 0 0]) ?_ 1 _ rfl; (with_reducible repeat (first | refine blk_drewN ?_ _ | refine blk_drew ?_ | refine blk_alloc ?_ _)); refine blk_put (cs := #[.int .i64 0, .int .i64 0, .int .i64 0, .int .i64 0, .slice none 0 0]) ?_ 0 _ rfl; (with_reducible repeat (first | refine blk_drewN ?_ _ | refine blk_drew ?_ | refine blk_alloc ?_ _)); exact BK384.out) hb); have n2_ := Aside0.mk (below_step z29x8 hb); clear HO383; clear BK384; clear HB; have HO383 := n0_; have BK384 := n1_; have HB := n2_; clear n0_ n1_ n2_; (try clear hb); (try clear hb2); (try clear hk); (try clear hi)))
    (try simp only [Act.put, List.setIfInBounds_toArray, List.set_cons_zero, List.set_cons_succ])
    go_cut [28] (fun v28 wc => ∃ (kq : Nat) (x28_7 : Bool), v28 = .bool x28_7 ∧ Aside0 (laws_FnMsgKinds.j1 kq l1 t385 x28_7 t377 t378 t379 t380 t381 = some r) ∧ Aside0 (kq ≤ kj2) ∧ Aside0 (Kd.R k24 24 wc w.heap.size (fun _ => True) (.slice Ao12 t381.length co12) t381) ∧ Aside0 (wc.heap[gb384]? = some (.cells #[.int .i64 t377, .int .i64 t378, .int .i64 t379, .int .i64 t380, (.slice Ao12 t381.length co12)] 36 (0, 0))) ∧ Aside0 (Below w.heap.size w wc))
    case first =>
     have H := HC8.out
     clear HC8
     replace H := Option.bind_eq_some_iff.mp H
     obtain ⟨t386, A140, H⟩ := H
     replace H : (if (t385 != t386) = true then (laws_FnMsgKinds.j1 kj2 l1 t385 true t377 t378 t379 t380 t381) else (laws_FnMsgKinds.j1 kj2 l1 t385 (!t385) t377 t378 t379 t380 t381)) = some r := H
     have A14 := Aside0.mk A140
     clear A140
     by_cases c15 : (t385 != t386) = true
     ·rw [if_pos c15] at H
      have c15b0 : (t385 != t386) = true := c15
      (try (have c15b1 : decide (t385 = t386) = false := by simpa using c15))
      (try (have c15b2 : (t385 == t386) = false := by simpa using c15))
      (try (have c15b3 : ¬ (t385 = t386) := by simpa using c15))
      clear c15
      (first | rw [c15b0] | (simp only [i64_w, i32_w]; rw [c15b0]) | skip)
      have H' := Aside0.mk H
      clear H
      have hcz16_0 : w13.cell? ⟨gb384, 0, none⟩ = some (.int .i64 t377) := (blk_cell BK384.out 0).trans rfl
      have hcz16_1 : w13.cell? ⟨gb384, 1, none⟩ = some (.int .i64 t378) := (blk_cell BK384.out 1).trans rfl
      have hcz16_2 : w13.cell? ⟨gb384, 2, none⟩ = some (.int .i64 t379) := (blk_cell BK384.out 2).trans rfl
      have hcz16_3 : w13.cell? ⟨gb384, 3, none⟩ = some (.int .i64 t380) := (blk_cell BK384.out 3).trans rfl
      have hcz16_4 : w13.cell? ⟨gb384, 4, none⟩ = some (.slice Ao12 t381.length co12) := (blk_cell BK384.out 4).trans rfl
      have hfz16_0 := blk_frozen BK384.out 0
      have hfz16_1 := blk_frozen BK384.out 1
      have hfz16_2 := blk_frozen BK384.out 2
      have hfz16_3 := blk_frozen BK384.out 3
      have hfz16_4 := blk_frozen BK384.out 4
      go_wp2_with (first | ((with_reducible refine gate_callee (f := 27) rfl ?_); refine goesL_ (some 23) rfl rfl Try.func27 (by kernel_rfl) rfl #[.agg #[.int .i64 t377, .int .i64 t378, .int .i64 t379, .int .i64 t380, .slice Ao12 t381.length co12]] rfl z29x9 ?_; (with_reducible refine (spec_MsgOk.calls t377 t378 t379 t380 _ _ t381 t386 _ ?side1 ?side2 A14.out).mono ?_); (case side1 => repeat (first | exact (Kd.R_reads' HO383.out).2.2 | (with_reducible refine Kd.C_alloc ?_ _) | (with_reducible refine Kd.C_drewN ?_ _) | (with_reducible refine Kd.C_drew ?_))); (case side2 => exact (Kd.R_reads' HO383.out).2.1); rintro e w17 ⟨rfl, hb⟩; refine ⟨_, rfl, ?_⟩; have n0_ := Aside0.mk (Kd.R_below z29x13 hb); have n1_ := Aside0.mk (blk_below (g := gb384) (o := .cells #[.int .i64 t377, .int .i64 t378, .int .i64 t379, .int .i64 t380, .slice Ao12 t381.length co12] 36 (0, 0)) z29x11 hb); have n2_ := Aside0.mk (below_step z29x8 hb); clear HO383; clear BK384; clear HB; have HO383 := n0_; have BK384 := n1_; have HB := n2_; clear n0_ n1_ n2_; (try clear hb); (try clear hb2); (try clear hk); (try clear hi)))
      go_meet
      case rel => exact ⟨_, (true), (by first | rfl | (simp; done) | (simp [*]; done)), H', ⟨by have := HJ2.out; first | omega | exact Nat.le_refl _⟩, ⟨by (with_reducible repeat (first | apply Kd.R_alloc | apply Kd.R_drewN | apply Kd.R_drew)); exact HO383.out⟩, ⟨by (with_reducible repeat (first | refine blk_drewN ?_ _ | refine blk_drew ?_ | refine blk_alloc ?_ _)); exact BK384.out⟩, ⟨by repeat (first | (with_reducible first | exact HB.out | apply below_alloc | apply pw_below_drewN | apply below_drew1 | refine below_set ?_ GE384.out) | exact HB.out)⟩⟩
     ·rw [if_neg c15] at H
      have c15b0 : (t385 != t386) = false := by simpa using c15
      (try (have c15b1 : decide (t385 = t386) = true := by simpa using c15))
      (try (have c15b2 : (t385 == t386) = true := by simpa using c15))
      clear c15
      (first | rw [c15b0] | (simp only [i64_w, i32_w]; rw [c15b0]) | skip)
      have H' := Aside0.mk H
      clear H
      have hcz18_0 : w13.cell? ⟨gb384, 0, none⟩ = some (.int .i64 t377) := (blk_cell BK384.out 0).trans rfl
      have hcz18_1 : w13.cell? ⟨gb384, 1, none⟩ = some (.int .i64 t378) := (blk_cell BK384.out 1).trans rfl
      have hcz18_2 : w13.cell? ⟨gb384, 2, none⟩ = some (.int .i64 t379) := (blk_cell BK384.out 2).trans rfl
      have hcz18_3 : w13.cell? ⟨gb384, 3, none⟩ = some (.int .i64 t380) := (blk_cell BK384.out 3).trans rfl
      have hcz18_4 : w13.cell? ⟨gb384, 4, none⟩ = some (.slice Ao12 t381.length co12) := (blk_cell BK384.out 4).trans rfl
      have hfz18_0 := blk_frozen BK384.out 0
      have hfz18_1 := blk_frozen BK384.out 1
      have hfz18_2 := blk_frozen BK384.out 2
      have hfz18_3 := blk_frozen BK384.out 3
      have hfz18_4 := blk_frozen BK384.out 4
      go_wp2_with (first | ((with_reducible refine gate_callee (f := 27) rfl ?_); refine goesL_ (some 23) rfl rfl Try.func27 (by kernel_rfl) rfl #[.agg #[.int .i64 t377, .int .i64 t378, .int .i64 t379, .int .i64 t380, .slice Ao12 t381.length co12]] rfl z29x9 ?_; (with_reducible refine (spec_MsgOk.calls t377 t378 t379 t380 _ _ t381 t386 _ ?side1 ?side2 A14.out).mono ?_); (case side1 => repeat (first | exact (Kd.R_reads' HO383.out).2.2 | (with_reducible refine Kd.C_alloc ?_ _) | (with_reducible refine Kd.C_drewN ?_ _) | (with_reducible refine Kd.C_drew ?_))); (case side2 => exact (Kd.R_reads' HO383.out).2.1); rintro e w19 ⟨rfl, hb⟩; refine ⟨_, rfl, ?_⟩; have n0_ := Aside0.mk (Kd.R_below z29x13 hb); have n1_ := Aside0.mk (blk_below (g := gb384) (o := .cells #[.int .i64 t377, .int .i64 t378, .int .i64 t379, .int .i64 t380, .slice Ao12 t381.length co12] 36 (0, 0)) z29x11 hb); have n2_ := Aside0.mk (below_step z29x8 hb); clear HO383; clear BK384; clear HB; have HO383 := n0_; have BK384 := n1_; have HB := n2_; clear n0_ n1_ n2_; (try clear hb); (try clear hb2); (try clear hk); (try clear hi)))
      go_meet
      case rel => exact ⟨_, (!t385), (by first | rfl | (simp; done) | (simp [*]; done)), H', ⟨by have := HJ2.out; first | omega | exact Nat.le_refl _⟩, ⟨by (with_reducible repeat (first | apply Kd.R_alloc | apply Kd.R_drewN | apply Kd.R_drew)); exact HO383.out⟩, ⟨by (with_reducible repeat (first | refine blk_drewN ?_ _ | refine blk_drew ?_ | refine blk_alloc ?_ _)); exact BK384.out⟩, ⟨by repeat (first | (with_reducible first | exact HB.out | apply below_alloc | apply pw_below_drewN | apply below_drew1 | refine below_set ?_ GE384.out) | exact HB.out)⟩⟩
    case rest =>
     clear HC8
     try clear c1
     try clear c2
     try clear p2
     try clear c3
     try clear c4
     try clear c4b0
     try clear c4b1
     try clear c5
     try clear c6
     try clear c15
     try clear c15b0
     try clear c15b1
     try clear c15b2
     try clear hcz11_0
     try clear hcz11_1
     try clear hcz11_2
     try clear hcz11_3
     try clear hcz11_4
     try clear hcz16_0
     try clear hcz16_1
     try clear hcz16_2
     try clear hcz16_3
     try clear hcz16_4
     try clear hcz18_0
     try clear hcz18_1
     try clear hcz18_2
     try clear hcz18_3
     try clear hcz18_4
     try clear hfz11_0
     try clear hfz11_1
     try clear hfz11_2
     try clear hfz11_3
     try clear hfz11_4
     try clear hfz16_0
     try clear hfz16_1
     try clear hfz16_2
     try clear hfz16_3
     try clear hfz16_4
     try clear hfz18_0
     try clear hfz18_1
     try clear hfz18_2
     try clear hfz18_3
     try clear hfz18_4
     try clear p2
     obtain ⟨kq, x28_7, rfl, HA, HJ7, HO_385004, BK384, HB⟩ := hcut
     cases kq with
     | zero => exact absurd HA.out (by simp [laws_FnMsgKinds.j1])
     | succ kj7 =>
      have H := HA.out
      clear HA
      simp only [laws_FnMsgKinds.j1] at H
      by_cases c20 : x28_7 = true
      ·subst c20
       rw [if_pos rfl] at H
       replace H := Option.bind_eq_some_iff.mp H
       obtain ⟨t387, A210, H⟩ := H
       replace H : (some (t385 == t387)) = some r := H
       have A21 := Aside0.mk A210
       clear A210
       obtain rfl := Option.some.inj H
       have hcz22_0 : wc.cell? ⟨gb384, 0, none⟩ = some (.int .i64 t377) := (blk_cell BK384.out 0).trans rfl
       have hcz22_1 : wc.cell? ⟨gb384, 1, none⟩ = some (.int .i64 t378) := (blk_cell BK384.out 1).trans rfl
       have hcz22_2 : wc.cell? ⟨gb384, 2, none⟩ = some (.int .i64 t379) := (blk_cell BK384.out 2).trans rfl
       have hcz22_3 : wc.cell? ⟨gb384, 3, none⟩ = some (.int .i64 t380) := (blk_cell BK384.out 3).trans rfl
       have hcz22_4 : wc.cell? ⟨gb384, 4, none⟩ = some (.slice Ao12 t381.length co12) := (blk_cell BK384.out 4).trans rfl
       have hfz22_0 := blk_frozen BK384.out 0
       have hfz22_1 := blk_frozen BK384.out 1
       have hfz22_2 := blk_frozen BK384.out 2
       have hfz22_3 := blk_frozen BK384.out 3
       have hfz22_4 := blk_frozen BK384.out 4
       go_wp2_with (first | ((with_reducible refine gate_callee (f := 27) rfl ?_); refine goesL_ (some 31) rfl rfl Try.func27 (by kernel_rfl) rfl #[.agg #[.int .i64 t377, .int .i64 t378, .int .i64 t379, .int .i64 t380, .slice Ao12 t381.length co12]] rfl z29x9 ?_; (with_reducible refine (spec_MsgOk.calls t377 t378 t379 t380 _ _ t381 t387 _ ?side1 ?side2 A21.out).mono ?_); (case side1 => repeat (first | exact (Kd.R_reads' HO_385004.out).2.2 | (with_reducible refine Kd.C_alloc ?_ _) | (with_reducible refine Kd.C_drewN ?_ _) | (with_reducible refine Kd.C_drew ?_))); (case side2 => exact (Kd.R_reads' HO_385004.out).2.1); rintro e w23 ⟨rfl, hb⟩; refine ⟨_, rfl, ?_⟩; have n0_ := Aside0.mk (Kd.R_below z29x12 hb); have n1_ := Aside0.mk (blk_below (g := gb384) (o := .cells #[.int .i64 t377, .int .i64 t378, .int .i64 t379, .int .i64 t380, .slice Ao12 t381.length co12] 36 (0, 0)) z29x11 hb); have n2_ := Aside0.mk (below_step z29x8 hb); clear HO_385004; clear BK384; clear HB; have HO_385004 := n0_; have BK384 := n1_; have HB := n2_; clear n0_ n1_ n2_; (try clear hb); (try clear hb2); (try clear hk); (try clear hi)))
       go_ret
       exact ⟨by first | rfl | (simp [errW_none, errW_some] <;> rfl) | (simp [*, errW_none, errW_some] <;> rfl), by repeat (first | (with_reducible first | exact HB.out | apply below_alloc | apply pw_below_drewN | apply below_drew1 | refine below_set ?_ GE384.out) | exact HB.out)⟩
      ·replace c20 := Bool.eq_false_iff.mpr c20
       subst c20
       rw [if_neg (show ¬ (false = true) by decide)] at H
       by_cases c24 : t377 = 2
       ·rw [if_pos c24] at H
        have c24b0 : (t377 == 2) = true := beq_iff_eq.mpr c24
        have c24b1 : (t377 != 2) = false := bne_eq_false_iff_eq.mpr c24
        clear c24
        by_cases c25 : (wrap64 (1 + (Int.tmod (wrap64 (t377 + ((l1.length : Int) % 5))) 6))) = 2
        ·rw [if_pos c25] at H
         have c25b0 : ((wrap64 (1 + (Int.tmod (wrap64 (t377 + ((l1.length : Int) % 5))) 6))) == 2) = true := beq_iff_eq.mpr c25
         have c25b1 : ((wrap64 (1 + (Int.tmod (wrap64 (t377 + ((l1.length : Int) % 5))) 6))) != 2) = false := bne_eq_false_iff_eq.mpr c25
         clear c25
         replace H := Option.bind_eq_some_iff.mp H
         obtain ⟨t389, A260, H⟩ := H
         replace H : (some (t389 == true)) = some r := H
         have A26 := Aside0.mk A260
         clear A260
         obtain rfl := Option.some.inj H
         have hcz27_0 : wc.cell? ⟨gb384, 0, none⟩ = some (.int .i64 t377) := (blk_cell BK384.out 0).trans rfl
         have hcz27_1 : wc.cell? ⟨gb384, 1, none⟩ = some (.int .i64 t378) := (blk_cell BK384.out 1).trans rfl
         have hcz27_2 : wc.cell? ⟨gb384, 2, none⟩ = some (.int .i64 t379) := (blk_cell BK384.out 2).trans rfl
         have hcz27_3 : wc.cell? ⟨gb384, 3, none⟩ = some (.int .i64 t380) := (blk_cell BK384.out 3).trans rfl
         have hcz27_4 : wc.cell? ⟨gb384, 4, none⟩ = some (.slice Ao12 t381.length co12) := (blk_cell BK384.out 4).trans rfl
         have hfz27_0 := blk_frozen BK384.out 0
         have hfz27_1 := blk_frozen BK384.out 1
         have hfz27_2 := blk_frozen BK384.out 2
         have hfz27_3 := blk_frozen BK384.out 3
         have hfz27_4 := blk_frozen BK384.out 4
         go_wp2_with (first | ((with_reducible refine gate_dst (N := 7) rfl ?_); refine box_event ?hg (N := 7) ?hd (cs := #[.int .i64 0, .int .i64 0, .int .i64 0, .int .i64 0, .slice none 0 0]) (t := 36) ?hr ?_; (case hd => rfl); (case hg => rfl); (case hr => first | (go_simp; done) | (go_simp; rfl)); intro gb388 hg w28 hbox hb; have n0_ := Aside0.mk (Kd.R_below z29x12 hb); have n1_ := Aside0.mk (blk_below (g := gb384) (o := .cells #[.int .i64 t377, .int .i64 t378, .int .i64 t379, .int .i64 t380, .slice Ao12 t381.length co12] 36 (0, 0)) z29x11 hb); have n2_ := Aside0.mk (below_step z29x8 hb); have n3_ := Aside0.mk (hbox); have n4_ := Aside0.mk ((z29x7 : w.heap.size ≤ gb388)); have n5_ := Aside0.mk ((z29x7 : w.heap.size ≤ gb388)); have n6_ := Aside0.mk ((z29x5 : gb384 ≠ gb388)); have n7_ := Aside0.mk ((z29x4 : gb388 ≠ gb384)); clear HO_385004; clear BK384; clear HB; have HO_385004 := n0_; have BK384 := n1_; have HB := n2_; have BK388 := n3_; have GW388 := n4_; have GE388 := n5_; have NB384_388 := n6_; have NB388_384 := n7_; clear n0_ n1_ n2_ n3_ n4_ n5_ n6_ n7_; clear hb hbox hg; have hnb29 := NB388_384.out; have hnc29 := NB384_388.out; have hcz30_0 : w28.cell? ⟨gb388, 0, none⟩ = some (.int .i64 0) := (blk_cell BK388.out 0).trans rfl; have hcz30_1 : w28.cell? ⟨gb388, 1, none⟩ = some (.int .i64 0) := (blk_cell BK388.out 1).trans rfl; have hcz30_2 : w28.cell? ⟨gb388, 2, none⟩ = some (.int .i64 0) := (blk_cell BK388.out 2).trans rfl; have hcz30_3 : w28.cell? ⟨gb388, 3, none⟩ = some (.int .i64 0) := (blk_cell BK388.out 3).trans rfl; have hcz30_4 : w28.cell? ⟨gb388, 4, none⟩ = some (.slice none 0 0) := (blk_cell BK388.out 4).trans rfl; have hfz30_0 := blk_frozen BK388.out 0; have hfz30_1 := blk_frozen BK388.out 1; have hfz30_2 := blk_frozen BK388.out 2; have hfz30_3 := blk_frozen BK388.out 3; have hfz30_4 := blk_frozen BK388.out 4; have hcz31_0 : w28.cell? ⟨gb384, 0, none⟩ = some (.int .i64 t377) := (blk_cell BK384.out 0).trans rfl; have hcz31_1 : w28.cell? ⟨gb384, 1, none⟩ = some (.int .i64 t378) := (blk_cell BK384.out 1).trans rfl; have hcz31_2 : w28.cell? ⟨gb384, 2, none⟩ = some (.int .i64 t379) := (blk_cell BK384.out 2).trans rfl; have hcz31_3 : w28.cell? ⟨gb384, 3, none⟩ = some (.int .i64 t380) := (blk_cell BK384.out 3).trans rfl; have hcz31_4 : w28.cell? ⟨gb384, 4, none⟩ = some (.slice Ao12 t381.length co12) := (blk_cell BK384.out 4).trans rfl; have hfz31_0 := blk_frozen BK384.out 0; have hfz31_1 := blk_frozen BK384.out 1; have hfz31_2 := blk_frozen BK384.out 2; have hfz31_3 := blk_frozen BK384.out 3; have hfz31_4 := blk_frozen BK384.out 4) | ((with_reducible refine gate_callee (f := 29) rfl ?_); refine goesL_ (some 62) rfl rfl Try.func29 (by kernel_rfl) rfl #[.agg #[.int .i64 (wrap64 (1 + (Int.tmod (wrap64 (t377 + ((l1.length : Int) % 5))) 6))), .int .i64 t378, .int .i64 t379, .int .i64 t380, .slice Ao12 t381.length co12]] rfl z29x9 ?_; (with_reducible refine (impl_MsgOk.calls (wrap64 (1 + (Int.tmod (wrap64 (t377 + ((l1.length : Int) % 5))) 6))) t378 t379 t380 _ _ t381 t389 _ ?side1 ?side2 A26.out).mono ?_); (case side1 => refine (Kd.R_reads' (e := 24) (base := w.heap.size) (ok := fun k_ => True) (n := t381.length) (c := co12) ?_).2.2; exact z29x2); (case side2 => exact (Kd.R_reads' HO_385004.out).2.1); rintro e w32 ⟨rfl, hb⟩; refine ⟨_, rfl, ?_⟩; have n0_ := Aside0.mk (Kd.R_below z29x2 hb); have n1_ := Aside0.mk (blk_below (g := gb384) (o := .cells #[.int .i64 t377, .int .i64 t378, .int .i64 t379, .int .i64 t380, .slice Ao12 t381.length co12] 36 (0, 0)) z29x1 hb); have n2_ := Aside0.mk (blk_below (g := gb388) (o := .cells #[.int .i64 (wrap64 (1 + (Int.tmod (wrap64 (t377 + ((l1.length : Int) % 5))) 6))), .int .i64 t378, .int .i64 t379, .int .i64 t380, .slice Ao12 t381.length co12] 36 (0, 0)) z29x0 hb); have n3_ := Aside0.mk (below_step z29x6 hb); clear HO_385004; clear BK384; clear BK388; clear HB; have HO_385004 := n0_; have BK384 := n1_; have BK388 := n2_; have HB := n3_; clear n0_ n1_ n2_ n3_; (try clear hb); (try clear hb2); (try clear hk); (try clear hi)))
         go_ret
         exact ⟨by first | rfl | (simp [errW_none, errW_some] <;> rfl) | (simp [*, errW_none, errW_some] <;> rfl), by repeat (first | (with_reducible first | exact HB.out | apply below_alloc | apply pw_below_drewN | apply below_drew1 | refine below_set ?_ GE384.out | refine below_set ?_ GE388.out) | exact HB.out)⟩
        ·rw [if_neg c25] at H
         have c25b0 : ((wrap64 (1 + (Int.tmod (wrap64 (t377 + ((l1.length : Int) % 5))) 6))) == 2) = false := beq_eq_false_iff_ne.mpr c25
         have c25b1 : ((wrap64 (1 + (Int.tmod (wrap64 (t377 + ((l1.length : Int) % 5))) 6))) != 2) = true := bne_iff_ne.mpr c25
         replace H := Option.bind_eq_some_iff.mp H
         obtain ⟨t390, A330, H⟩ := H
         replace H : (if (wrap64 (1 + (Int.tmod (wrap64 (t377 + ((l1.length : Int) % 5))) 6))) = 4 then (some (t390 == true)) else (some (t390 == ((wrap64 (1 + (Int.tmod (wrap64 (t377 + ((l1.length : Int) % 5))) 6))) == t377)))) = some r := H
         have A33 := Aside0.mk A330
         clear A330
         by_cases c34 : (wrap64 (1 + (Int.tmod (wrap64 (t377 + ((l1.length : Int) % 5))) 6))) = 4
         ·rw [if_pos c34] at H
          have c34b0 : ((wrap64 (1 + (Int.tmod (wrap64 (t377 + ((l1.length : Int) % 5))) 6))) == 4) = true := beq_iff_eq.mpr c34
          have c34b1 : ((wrap64 (1 + (Int.tmod (wrap64 (t377 + ((l1.length : Int) % 5))) 6))) != 4) = false := bne_eq_false_iff_eq.mpr c34
          clear c34
          obtain rfl := Option.some.inj H
          have hcz35_0 : wc.cell? ⟨gb384, 0, none⟩ = some (.int .i64 t377) := (blk_cell BK384.out 0).trans rfl
          have hcz35_1 : wc.cell? ⟨gb384, 1, none⟩ = some (.int .i64 t378) := (blk_cell BK384.out 1).trans rfl
          have hcz35_2 : wc.cell? ⟨gb384, 2, none⟩ = some (.int .i64 t379) := (blk_cell BK384.out 2).trans rfl
          have hcz35_3 : wc.cell? ⟨gb384, 3, none⟩ = some (.int .i64 t380) := (blk_cell BK384.out 3).trans rfl
          have hcz35_4 : wc.cell? ⟨gb384, 4, none⟩ = some (.slice Ao12 t381.length co12) := (blk_cell BK384.out 4).trans rfl
          have hfz35_0 := blk_frozen BK384.out 0
          have hfz35_1 := blk_frozen BK384.out 1
          have hfz35_2 := blk_frozen BK384.out 2
          have hfz35_3 := blk_frozen BK384.out 3
          have hfz35_4 := blk_frozen BK384.out 4
          go_wp2_with (first | ((with_reducible refine gate_dst (N := 7) rfl ?_); refine box_event ?hg (N := 7) ?hd (cs := #[.int .i64 0, .int .i64 0, .int .i64 0, .int .i64 0, .slice none 0 0]) (t := 36) ?hr ?_; (case hd => rfl); (case hg => rfl); (case hr => first | (go_simp; done) | (go_simp; rfl)); intro gb388 hg w36 hbox hb; have n0_ := Aside0.mk (Kd.R_below z29x12 hb); have n1_ := Aside0.mk (blk_below (g := gb384) (o := .cells #[.int .i64 t377, .int .i64 t378, .int .i64 t379, .int .i64 t380, .slice Ao12 t381.length co12] 36 (0, 0)) z29x11 hb); have n2_ := Aside0.mk (below_step z29x8 hb); have n3_ := Aside0.mk (hbox); have n4_ := Aside0.mk ((z29x7 : w.heap.size ≤ gb388)); have n5_ := Aside0.mk ((z29x7 : w.heap.size ≤ gb388)); have n6_ := Aside0.mk ((z29x5 : gb384 ≠ gb388)); have n7_ := Aside0.mk ((z29x4 : gb388 ≠ gb384)); clear HO_385004; clear BK384; clear HB; have HO_385004 := n0_; have BK384 := n1_; have HB := n2_; have BK388 := n3_; have GW388 := n4_; have GE388 := n5_; have NB384_388 := n6_; have NB388_384 := n7_; clear n0_ n1_ n2_ n3_ n4_ n5_ n6_ n7_; clear hb hbox hg; have hnb37 := NB388_384.out; have hnc37 := NB384_388.out; have hcz38_0 : w36.cell? ⟨gb388, 0, none⟩ = some (.int .i64 0) := (blk_cell BK388.out 0).trans rfl; have hcz38_1 : w36.cell? ⟨gb388, 1, none⟩ = some (.int .i64 0) := (blk_cell BK388.out 1).trans rfl; have hcz38_2 : w36.cell? ⟨gb388, 2, none⟩ = some (.int .i64 0) := (blk_cell BK388.out 2).trans rfl; have hcz38_3 : w36.cell? ⟨gb388, 3, none⟩ = some (.int .i64 0) := (blk_cell BK388.out 3).trans rfl; have hcz38_4 : w36.cell? ⟨gb388, 4, none⟩ = some (.slice none 0 0) := (blk_cell BK388.out 4).trans rfl; have hfz38_0 := blk_frozen BK388.out 0; have hfz38_1 := blk_frozen BK388.out 1; have hfz38_2 := blk_frozen BK388.out 2; have hfz38_3 := blk_frozen BK388.out 3; have hfz38_4 := blk_frozen BK388.out 4; have hcz39_0 : w36.cell? ⟨gb384, 0, none⟩ = some (.int .i64 t377) := (blk_cell BK384.out 0).trans rfl; have hcz39_1 : w36.cell? ⟨gb384, 1, none⟩ = some (.int .i64 t378) := (blk_cell BK384.out 1).trans rfl; have hcz39_2 : w36.cell? ⟨gb384, 2, none⟩ = some (.int .i64 t379) := (blk_cell BK384.out 2).trans rfl; have hcz39_3 : w36.cell? ⟨gb384, 3, none⟩ = some (.int .i64 t380) := (blk_cell BK384.out 3).trans rfl; have hcz39_4 : w36.cell? ⟨gb384, 4, none⟩ = some (.slice Ao12 t381.length co12) := (blk_cell BK384.out 4).trans rfl; have hfz39_0 := blk_frozen BK384.out 0; have hfz39_1 := blk_frozen BK384.out 1; have hfz39_2 := blk_frozen BK384.out 2; have hfz39_3 := blk_frozen BK384.out 3; have hfz39_4 := blk_frozen BK384.out 4) | ((with_reducible refine gate_callee (f := 29) rfl ?_); refine goesL_ (some 62) rfl rfl Try.func29 (by kernel_rfl) rfl #[.agg #[.int .i64 (wrap64 (1 + (Int.tmod (wrap64 (t377 + ((l1.length : Int) % 5))) 6))), .int .i64 t378, .int .i64 t379, .int .i64 t380, .slice Ao12 t381.length co12]] rfl z29x9 ?_; (with_reducible refine (impl_MsgOk.calls (wrap64 (1 + (Int.tmod (wrap64 (t377 + ((l1.length : Int) % 5))) 6))) t378 t379 t380 _ _ t381 t390 _ ?side1 ?side2 A33.out).mono ?_); (case side1 => refine (Kd.R_reads' (e := 24) (base := w.heap.size) (ok := fun k_ => True) (n := t381.length) (c := co12) ?_).2.2; exact z29x2); (case side2 => exact (Kd.R_reads' HO_385004.out).2.1); rintro e w40 ⟨rfl, hb⟩; refine ⟨_, rfl, ?_⟩; have n0_ := Aside0.mk (Kd.R_below z29x2 hb); have n1_ := Aside0.mk (blk_below (g := gb384) (o := .cells #[.int .i64 t377, .int .i64 t378, .int .i64 t379, .int .i64 t380, .slice Ao12 t381.length co12] 36 (0, 0)) z29x1 hb); have n2_ := Aside0.mk (blk_below (g := gb388) (o := .cells #[.int .i64 (wrap64 (1 + (Int.tmod (wrap64 (t377 + ((l1.length : Int) % 5))) 6))), .int .i64 t378, .int .i64 t379, .int .i64 t380, .slice Ao12 t381.length co12] 36 (0, 0)) z29x0 hb); have n3_ := Aside0.mk (below_step z29x6 hb); clear HO_385004; clear BK384; clear BK388; clear HB; have HO_385004 := n0_; have BK384 := n1_; have BK388 := n2_; have HB := n3_; clear n0_ n1_ n2_ n3_; (try clear hb); (try clear hb2); (try clear hk); (try clear hi)))
          go_ret
          exact ⟨by first | rfl | (simp [errW_none, errW_some] <;> rfl) | (simp [*, errW_none, errW_some] <;> rfl), by repeat (first | (with_reducible first | exact HB.out | apply below_alloc | apply pw_below_drewN | apply below_drew1 | refine below_set ?_ GE384.out | refine below_set ?_ GE388.out) | exact HB.out)⟩
         ·rw [if_neg c34] at H
          have c34b0 : ((wrap64 (1 + (Int.tmod (wrap64 (t377 + ((l1.length : Int) % 5))) 6))) == 4) = false := beq_eq_false_iff_ne.mpr c34
          have c34b1 : ((wrap64 (1 + (Int.tmod (wrap64 (t377 + ((l1.length : Int) % 5))) 6))) != 4) = true := bne_iff_ne.mpr c34
          obtain rfl := Option.some.inj H
          have hcz41_0 : wc.cell? ⟨gb384, 0, none⟩ = some (.int .i64 t377) := (blk_cell BK384.out 0).trans rfl
          have hcz41_1 : wc.cell? ⟨gb384, 1, none⟩ = some (.int .i64 t378) := (blk_cell BK384.out 1).trans rfl
          have hcz41_2 : wc.cell? ⟨gb384, 2, none⟩ = some (.int .i64 t379) := (blk_cell BK384.out 2).trans rfl
          have hcz41_3 : wc.cell? ⟨gb384, 3, none⟩ = some (.int .i64 t380) := (blk_cell BK384.out 3).trans rfl
          have hcz41_4 : wc.cell? ⟨gb384, 4, none⟩ = some (.slice Ao12 t381.length co12) := (blk_cell BK384.out 4).trans rfl
          have hfz41_0 := blk_frozen BK384.out 0
          have hfz41_1 := blk_frozen BK384.out 1
          have hfz41_2 := blk_frozen BK384.out 2
          have hfz41_3 := blk_frozen BK384.out 3
          have hfz41_4 := blk_frozen BK384.out 4
          go_wp2_with (first | ((with_reducible refine gate_dst (N := 7) rfl ?_); refine box_event ?hg (N := 7) ?hd (cs := #[.int .i64 0, .int .i64 0, .int .i64 0, .int .i64 0, .slice none 0 0]) (t := 36) ?hr ?_; (case hd => rfl); (case hg => rfl); (case hr => first | (go_simp; done) | (go_simp; rfl)); intro gb388 hg w42 hbox hb; have n0_ := Aside0.mk (Kd.R_below z29x12 hb); have n1_ := Aside0.mk (blk_below (g := gb384) (o := .cells #[.int .i64 t377, .int .i64 t378, .int .i64 t379, .int .i64 t380, .slice Ao12 t381.length co12] 36 (0, 0)) z29x11 hb); have n2_ := Aside0.mk (below_step z29x8 hb); have n3_ := Aside0.mk (hbox); have n4_ := Aside0.mk ((z29x7 : w.heap.size ≤ gb388)); have n5_ := Aside0.mk ((z29x7 : w.heap.size ≤ gb388)); have n6_ := Aside0.mk ((z29x5 : gb384 ≠ gb388)); have n7_ := Aside0.mk ((z29x4 : gb388 ≠ gb384)); clear HO_385004; clear BK384; clear HB; have HO_385004 := n0_; have BK384 := n1_; have HB := n2_; have BK388 := n3_; have GW388 := n4_; have GE388 := n5_; have NB384_388 := n6_; have NB388_384 := n7_; clear n0_ n1_ n2_ n3_ n4_ n5_ n6_ n7_; clear hb hbox hg; have hnb43 := NB388_384.out; have hnc43 := NB384_388.out; have hcz44_0 : w42.cell? ⟨gb388, 0, none⟩ = some (.int .i64 0) := (blk_cell BK388.out 0).trans rfl; have hcz44_1 : w42.cell? ⟨gb388, 1, none⟩ = some (.int .i64 0) := (blk_cell BK388.out 1).trans rfl; have hcz44_2 : w42.cell? ⟨gb388, 2, none⟩ = some (.int .i64 0) := (blk_cell BK388.out 2).trans rfl; have hcz44_3 : w42.cell? ⟨gb388, 3, none⟩ = some (.int .i64 0) := (blk_cell BK388.out 3).trans rfl; have hcz44_4 : w42.cell? ⟨gb388, 4, none⟩ = some (.slice none 0 0) := (blk_cell BK388.out 4).trans rfl; have hfz44_0 := blk_frozen BK388.out 0; have hfz44_1 := blk_frozen BK388.out 1; have hfz44_2 := blk_frozen BK388.out 2; have hfz44_3 := blk_frozen BK388.out 3; have hfz44_4 := blk_frozen BK388.out 4; have hcz45_0 : w42.cell? ⟨gb384, 0, none⟩ = some (.int .i64 t377) := (blk_cell BK384.out 0).trans rfl; have hcz45_1 : w42.cell? ⟨gb384, 1, none⟩ = some (.int .i64 t378) := (blk_cell BK384.out 1).trans rfl; have hcz45_2 : w42.cell? ⟨gb384, 2, none⟩ = some (.int .i64 t379) := (blk_cell BK384.out 2).trans rfl; have hcz45_3 : w42.cell? ⟨gb384, 3, none⟩ = some (.int .i64 t380) := (blk_cell BK384.out 3).trans rfl; have hcz45_4 : w42.cell? ⟨gb384, 4, none⟩ = some (.slice Ao12 t381.length co12) := (blk_cell BK384.out 4).trans rfl; have hfz45_0 := blk_frozen BK384.out 0; have hfz45_1 := blk_frozen BK384.out 1; have hfz45_2 := blk_frozen BK384.out 2; have hfz45_3 := blk_frozen BK384.out 3; have hfz45_4 := blk_frozen BK384.out 4) | ((with_reducible refine gate_callee (f := 29) rfl ?_); refine goesL_ (some 62) rfl rfl Try.func29 (by kernel_rfl) rfl #[.agg #[.int .i64 (wrap64 (1 + (Int.tmod (wrap64 (t377 + ((l1.length : Int) % 5))) 6))), .int .i64 t378, .int .i64 t379, .int .i64 t380, .slice Ao12 t381.length co12]] rfl z29x9 ?_; (with_reducible refine (impl_MsgOk.calls (wrap64 (1 + (Int.tmod (wrap64 (t377 + ((l1.length : Int) % 5))) 6))) t378 t379 t380 _ _ t381 t390 _ ?side1 ?side2 A33.out).mono ?_); (case side1 => refine (Kd.R_reads' (e := 24) (base := w.heap.size) (ok := fun k_ => True) (n := t381.length) (c := co12) ?_).2.2; exact z29x2); (case side2 => exact (Kd.R_reads' HO_385004.out).2.1); rintro e w46 ⟨rfl, hb⟩; refine ⟨_, rfl, ?_⟩; have n0_ := Aside0.mk (Kd.R_below z29x2 hb); have n1_ := Aside0.mk (blk_below (g := gb384) (o := .cells #[.int .i64 t377, .int .i64 t378, .int .i64 t379, .int .i64 t380, .slice Ao12 t381.length co12] 36 (0, 0)) z29x1 hb); have n2_ := Aside0.mk (blk_below (g := gb388) (o := .cells #[.int .i64 (wrap64 (1 + (Int.tmod (wrap64 (t377 + ((l1.length : Int) % 5))) 6))), .int .i64 t378, .int .i64 t379, .int .i64 t380, .slice Ao12 t381.length co12] 36 (0, 0)) z29x0 hb); have n3_ := Aside0.mk (below_step z29x6 hb); clear HO_385004; clear BK384; clear BK388; clear HB; have HO_385004 := n0_; have BK384 := n1_; have BK388 := n2_; have HB := n3_; clear n0_ n1_ n2_ n3_; (try clear hb); (try clear hb2); (try clear hk); (try clear hi); have hcz47_0 : w46.cell? ⟨gb388, 0, none⟩ = some (.int .i64 (wrap64 (1 + (Int.tmod (wrap64 (t377 + ((l1.length : Int) % 5))) 6)))) := (blk_cell BK388.out 0).trans rfl; have hcz47_1 : w46.cell? ⟨gb388, 1, none⟩ = some (.int .i64 t378) := (blk_cell BK388.out 1).trans rfl; have hcz47_2 : w46.cell? ⟨gb388, 2, none⟩ = some (.int .i64 t379) := (blk_cell BK388.out 2).trans rfl; have hcz47_3 : w46.cell? ⟨gb388, 3, none⟩ = some (.int .i64 t380) := (blk_cell BK388.out 3).trans rfl; have hcz47_4 : w46.cell? ⟨gb388, 4, none⟩ = some (.slice Ao12 t381.length co12) := (blk_cell BK388.out 4).trans rfl; have hfz47_0 := blk_frozen BK388.out 0; have hfz47_1 := blk_frozen BK388.out 1; have hfz47_2 := blk_frozen BK388.out 2; have hfz47_3 := blk_frozen BK388.out 3; have hfz47_4 := blk_frozen BK388.out 4; have hcz48_0 : w46.cell? ⟨gb384, 0, none⟩ = some (.int .i64 t377) := (blk_cell BK384.out 0).trans rfl; have hcz48_1 : w46.cell? ⟨gb384, 1, none⟩ = some (.int .i64 t378) := (blk_cell BK384.out 1).trans rfl; have hcz48_2 : w46.cell? ⟨gb384, 2, none⟩ = some (.int .i64 t379) := (blk_cell BK384.out 2).trans rfl; have hcz48_3 : w46.cell? ⟨gb384, 3, none⟩ = some (.int .i64 t380) := (blk_cell BK384.out 3).trans rfl; have hcz48_4 : w46.cell? ⟨gb384, 4, none⟩ = some (.slice Ao12 t381.length co12) := (blk_cell BK384.out 4).trans rfl; have hfz48_0 := blk_frozen BK384.out 0; have hfz48_1 := blk_frozen BK384.out 1; have hfz48_2 := blk_frozen BK384.out 2; have hfz48_3 := blk_frozen BK384.out 3; have hfz48_4 := blk_frozen BK384.out 4))
          go_ret
          exact ⟨by first | rfl | (simp [errW_none, errW_some] <;> rfl) | (simp [*, errW_none, errW_some] <;> rfl), by repeat (first | (with_reducible first | exact HB.out | apply below_alloc | apply pw_below_drewN | apply below_drew1 | refine below_set ?_ GE384.out | refine below_set ?_ GE388.out) | exact HB.out)⟩
       ·rw [if_neg c24] at H
        have c24b0 : (t377 == 2) = false := beq_eq_false_iff_ne.mpr c24
        have c24b1 : (t377 != 2) = true := bne_iff_ne.mpr c24
        by_cases c49 : t377 = 4
        ·rw [if_pos c49] at H
         have c49b0 : (t377 == 4) = true := beq_iff_eq.mpr c49
         have c49b1 : (t377 != 4) = false := bne_eq_false_iff_eq.mpr c49
         clear c49
         by_cases c50 : (wrap64 (1 + (Int.tmod (wrap64 (t377 + ((l1.length : Int) % 5))) 6))) = 2
         ·rw [if_pos c50] at H
          have c50b0 : ((wrap64 (1 + (Int.tmod (wrap64 (t377 + ((l1.length : Int) % 5))) 6))) == 2) = true := beq_iff_eq.mpr c50
          have c50b1 : ((wrap64 (1 + (Int.tmod (wrap64 (t377 + ((l1.length : Int) % 5))) 6))) != 2) = false := bne_eq_false_iff_eq.mpr c50
          clear c50
          replace H := Option.bind_eq_some_iff.mp H
          obtain ⟨t391, A510, H⟩ := H
          replace H : (some (t391 == true)) = some r := H
          have A51 := Aside0.mk A510
          clear A510
          obtain rfl := Option.some.inj H
          have hcz52_0 : wc.cell? ⟨gb384, 0, none⟩ = some (.int .i64 t377) := (blk_cell BK384.out 0).trans rfl
          have hcz52_1 : wc.cell? ⟨gb384, 1, none⟩ = some (.int .i64 t378) := (blk_cell BK384.out 1).trans rfl
          have hcz52_2 : wc.cell? ⟨gb384, 2, none⟩ = some (.int .i64 t379) := (blk_cell BK384.out 2).trans rfl
          have hcz52_3 : wc.cell? ⟨gb384, 3, none⟩ = some (.int .i64 t380) := (blk_cell BK384.out 3).trans rfl
          have hcz52_4 : wc.cell? ⟨gb384, 4, none⟩ = some (.slice Ao12 t381.length co12) := (blk_cell BK384.out 4).trans rfl
          have hfz52_0 := blk_frozen BK384.out 0
          have hfz52_1 := blk_frozen BK384.out 1
          have hfz52_2 := blk_frozen BK384.out 2
          have hfz52_3 := blk_frozen BK384.out 3
          have hfz52_4 := blk_frozen BK384.out 4
          go_wp2_with (first | ((with_reducible refine gate_dst (N := 7) rfl ?_); refine box_event ?hg (N := 7) ?hd (cs := #[.int .i64 0, .int .i64 0, .int .i64 0, .int .i64 0, .slice none 0 0]) (t := 36) ?hr ?_; (case hd => rfl); (case hg => rfl); (case hr => first | (go_simp; done) | (go_simp; rfl)); intro gb388 hg w53 hbox hb; have n0_ := Aside0.mk (Kd.R_below z29x12 hb); have n1_ := Aside0.mk (blk_below (g := gb384) (o := .cells #[.int .i64 t377, .int .i64 t378, .int .i64 t379, .int .i64 t380, .slice Ao12 t381.length co12] 36 (0, 0)) z29x11 hb); have n2_ := Aside0.mk (below_step z29x8 hb); have n3_ := Aside0.mk (hbox); have n4_ := Aside0.mk ((z29x7 : w.heap.size ≤ gb388)); have n5_ := Aside0.mk ((z29x7 : w.heap.size ≤ gb388)); have n6_ := Aside0.mk ((z29x5 : gb384 ≠ gb388)); have n7_ := Aside0.mk ((z29x4 : gb388 ≠ gb384)); clear HO_385004; clear BK384; clear HB; have HO_385004 := n0_; have BK384 := n1_; have HB := n2_; have BK388 := n3_; have GW388 := n4_; have GE388 := n5_; have NB384_388 := n6_; have NB388_384 := n7_; clear n0_ n1_ n2_ n3_ n4_ n5_ n6_ n7_; clear hb hbox hg; have hnb54 := NB388_384.out; have hnc54 := NB384_388.out; have hcz55_0 : w53.cell? ⟨gb388, 0, none⟩ = some (.int .i64 0) := (blk_cell BK388.out 0).trans rfl; have hcz55_1 : w53.cell? ⟨gb388, 1, none⟩ = some (.int .i64 0) := (blk_cell BK388.out 1).trans rfl; have hcz55_2 : w53.cell? ⟨gb388, 2, none⟩ = some (.int .i64 0) := (blk_cell BK388.out 2).trans rfl; have hcz55_3 : w53.cell? ⟨gb388, 3, none⟩ = some (.int .i64 0) := (blk_cell BK388.out 3).trans rfl; have hcz55_4 : w53.cell? ⟨gb388, 4, none⟩ = some (.slice none 0 0) := (blk_cell BK388.out 4).trans rfl; have hfz55_0 := blk_frozen BK388.out 0; have hfz55_1 := blk_frozen BK388.out 1; have hfz55_2 := blk_frozen BK388.out 2; have hfz55_3 := blk_frozen BK388.out 3; have hfz55_4 := blk_frozen BK388.out 4; have hcz56_0 : w53.cell? ⟨gb384, 0, none⟩ = some (.int .i64 t377) := (blk_cell BK384.out 0).trans rfl; have hcz56_1 : w53.cell? ⟨gb384, 1, none⟩ = some (.int .i64 t378) := (blk_cell BK384.out 1).trans rfl; have hcz56_2 : w53.cell? ⟨gb384, 2, none⟩ = some (.int .i64 t379) := (blk_cell BK384.out 2).trans rfl; have hcz56_3 : w53.cell? ⟨gb384, 3, none⟩ = some (.int .i64 t380) := (blk_cell BK384.out 3).trans rfl; have hcz56_4 : w53.cell? ⟨gb384, 4, none⟩ = some (.slice Ao12 t381.length co12) := (blk_cell BK384.out 4).trans rfl; have hfz56_0 := blk_frozen BK384.out 0; have hfz56_1 := blk_frozen BK384.out 1; have hfz56_2 := blk_frozen BK384.out 2; have hfz56_3 := blk_frozen BK384.out 3; have hfz56_4 := blk_frozen BK384.out 4) | ((with_reducible refine gate_callee (f := 29) rfl ?_); refine goesL_ (some 62) rfl rfl Try.func29 (by kernel_rfl) rfl #[.agg #[.int .i64 (wrap64 (1 + (Int.tmod (wrap64 (t377 + ((l1.length : Int) % 5))) 6))), .int .i64 t378, .int .i64 t379, .int .i64 t380, .slice Ao12 t381.length co12]] rfl z29x9 ?_; (with_reducible refine (impl_MsgOk.calls (wrap64 (1 + (Int.tmod (wrap64 (t377 + ((l1.length : Int) % 5))) 6))) t378 t379 t380 _ _ t381 t391 _ ?side1 ?side2 A51.out).mono ?_); (case side1 => refine (Kd.R_reads' (e := 24) (base := w.heap.size) (ok := fun k_ => True) (n := t381.length) (c := co12) ?_).2.2; exact z29x2); (case side2 => exact (Kd.R_reads' HO_385004.out).2.1); rintro e w57 ⟨rfl, hb⟩; refine ⟨_, rfl, ?_⟩; have n0_ := Aside0.mk (Kd.R_below z29x2 hb); have n1_ := Aside0.mk (blk_below (g := gb384) (o := .cells #[.int .i64 t377, .int .i64 t378, .int .i64 t379, .int .i64 t380, .slice Ao12 t381.length co12] 36 (0, 0)) z29x1 hb); have n2_ := Aside0.mk (blk_below (g := gb388) (o := .cells #[.int .i64 (wrap64 (1 + (Int.tmod (wrap64 (t377 + ((l1.length : Int) % 5))) 6))), .int .i64 t378, .int .i64 t379, .int .i64 t380, .slice Ao12 t381.length co12] 36 (0, 0)) z29x0 hb); have n3_ := Aside0.mk (below_step z29x6 hb); clear HO_385004; clear BK384; clear BK388; clear HB; have HO_385004 := n0_; have BK384 := n1_; have BK388 := n2_; have HB := n3_; clear n0_ n1_ n2_ n3_; (try clear hb); (try clear hb2); (try clear hk); (try clear hi)))
          go_ret
          exact ⟨by first | rfl | (simp [errW_none, errW_some] <;> rfl) | (simp [*, errW_none, errW_some] <;> rfl), by repeat (first | (with_reducible first | exact HB.out | apply below_alloc | apply pw_below_drewN | apply below_drew1 | refine below_set ?_ GE384.out | refine below_set ?_ GE388.out) | exact HB.out)⟩
         ·rw [if_neg c50] at H
          have c50b0 : ((wrap64 (1 + (Int.tmod (wrap64 (t377 + ((l1.length : Int) % 5))) 6))) == 2) = false := beq_eq_false_iff_ne.mpr c50
          have c50b1 : ((wrap64 (1 + (Int.tmod (wrap64 (t377 + ((l1.length : Int) % 5))) 6))) != 2) = true := bne_iff_ne.mpr c50
          replace H := Option.bind_eq_some_iff.mp H
          obtain ⟨t392, A580, H⟩ := H
          replace H : (if (wrap64 (1 + (Int.tmod (wrap64 (t377 + ((l1.length : Int) % 5))) 6))) = 4 then (some (t392 == true)) else (some (t392 == ((wrap64 (1 + (Int.tmod (wrap64 (t377 + ((l1.length : Int) % 5))) 6))) == t377)))) = some r := H
          have A58 := Aside0.mk A580
          clear A580
          by_cases c59 : (wrap64 (1 + (Int.tmod (wrap64 (t377 + ((l1.length : Int) % 5))) 6))) = 4
          ·rw [if_pos c59] at H
           have c59b0 : ((wrap64 (1 + (Int.tmod (wrap64 (t377 + ((l1.length : Int) % 5))) 6))) == 4) = true := beq_iff_eq.mpr c59
           have c59b1 : ((wrap64 (1 + (Int.tmod (wrap64 (t377 + ((l1.length : Int) % 5))) 6))) != 4) = false := bne_eq_false_iff_eq.mpr c59
           clear c59
           obtain rfl := Option.some.inj H
           have hcz60_0 : wc.cell? ⟨gb384, 0, none⟩ = some (.int .i64 t377) := (blk_cell BK384.out 0).trans rfl
           have hcz60_1 : wc.cell? ⟨gb384, 1, none⟩ = some (.int .i64 t378) := (blk_cell BK384.out 1).trans rfl
           have hcz60_2 : wc.cell? ⟨gb384, 2, none⟩ = some (.int .i64 t379) := (blk_cell BK384.out 2).trans rfl
           have hcz60_3 : wc.cell? ⟨gb384, 3, none⟩ = some (.int .i64 t380) := (blk_cell BK384.out 3).trans rfl
           have hcz60_4 : wc.cell? ⟨gb384, 4, none⟩ = some (.slice Ao12 t381.length co12) := (blk_cell BK384.out 4).trans rfl
           have hfz60_0 := blk_frozen BK384.out 0
           have hfz60_1 := blk_frozen BK384.out 1
           have hfz60_2 := blk_frozen BK384.out 2
           have hfz60_3 := blk_frozen BK384.out 3
           have hfz60_4 := blk_frozen BK384.out 4
           go_wp2_with (first | ((with_reducible refine gate_dst (N := 7) rfl ?_); refine box_event ?hg (N := 7) ?hd (cs := #[.int .i64 0, .int .i64 0, .int .i64 0, .int .i64 0, .slice none 0 0]) (t := 36) ?hr ?_; (case hd => rfl); (case hg => rfl); (case hr => first | (go_simp; done) | (go_simp; rfl)); intro gb388 hg w61 hbox hb; have n0_ := Aside0.mk (Kd.R_below z29x12 hb); have n1_ := Aside0.mk (blk_below (g := gb384) (o := .cells #[.int .i64 t377, .int .i64 t378, .int .i64 t379, .int .i64 t380, .slice Ao12 t381.length co12] 36 (0, 0)) z29x11 hb); have n2_ := Aside0.mk (below_step z29x8 hb); have n3_ := Aside0.mk (hbox); have n4_ := Aside0.mk ((z29x7 : w.heap.size ≤ gb388)); have n5_ := Aside0.mk ((z29x7 : w.heap.size ≤ gb388)); have n6_ := Aside0.mk ((z29x5 : gb384 ≠ gb388)); have n7_ := Aside0.mk ((z29x4 : gb388 ≠ gb384)); clear HO_385004; clear BK384; clear HB; have HO_385004 := n0_; have BK384 := n1_; have HB := n2_; have BK388 := n3_; have GW388 := n4_; have GE388 := n5_; have NB384_388 := n6_; have NB388_384 := n7_; clear n0_ n1_ n2_ n3_ n4_ n5_ n6_ n7_; clear hb hbox hg; have hnb62 := NB388_384.out; have hnc62 := NB384_388.out; have hcz63_0 : w61.cell? ⟨gb388, 0, none⟩ = some (.int .i64 0) := (blk_cell BK388.out 0).trans rfl; have hcz63_1 : w61.cell? ⟨gb388, 1, none⟩ = some (.int .i64 0) := (blk_cell BK388.out 1).trans rfl; have hcz63_2 : w61.cell? ⟨gb388, 2, none⟩ = some (.int .i64 0) := (blk_cell BK388.out 2).trans rfl; have hcz63_3 : w61.cell? ⟨gb388, 3, none⟩ = some (.int .i64 0) := (blk_cell BK388.out 3).trans rfl; have hcz63_4 : w61.cell? ⟨gb388, 4, none⟩ = some (.slice none 0 0) := (blk_cell BK388.out 4).trans rfl; have hfz63_0 := blk_frozen BK388.out 0; have hfz63_1 := blk_frozen BK388.out 1; have hfz63_2 := blk_frozen BK388.out 2; have hfz63_3 := blk_frozen BK388.out 3; have hfz63_4 := blk_frozen BK388.out 4; have hcz64_0 : w61.cell? ⟨gb384, 0, none⟩ = some (.int .i64 t377) := (blk_cell BK384.out 0).trans rfl; have hcz64_1 : w61.cell? ⟨gb384, 1, none⟩ = some (.int .i64 t378) := (blk_cell BK384.out 1).trans rfl; have hcz64_2 : w61.cell? ⟨gb384, 2, none⟩ = some (.int .i64 t379) := (blk_cell BK384.out 2).trans rfl; have hcz64_3 : w61.cell? ⟨gb384, 3, none⟩ = some (.int .i64 t380) := (blk_cell BK384.out 3).trans rfl; have hcz64_4 : w61.cell? ⟨gb384, 4, none⟩ = some (.slice Ao12 t381.length co12) := (blk_cell BK384.out 4).trans rfl; have hfz64_0 := blk_frozen BK384.out 0; have hfz64_1 := blk_frozen BK384.out 1; have hfz64_2 := blk_frozen BK384.out 2; have hfz64_3 := blk_frozen BK384.out 3; have hfz64_4 := blk_frozen BK384.out 4) | ((with_reducible refine gate_callee (f := 29) rfl ?_); refine goesL_ (some 62) rfl rfl Try.func29 (by kernel_rfl) rfl #[.agg #[.int .i64 (wrap64 (1 + (Int.tmod (wrap64 (t377 + ((l1.length : Int) % 5))) 6))), .int .i64 t378, .int .i64 t379, .int .i64 t380, .slice Ao12 t381.length co12]] rfl z29x9 ?_; (with_reducible refine (impl_MsgOk.calls (wrap64 (1 + (Int.tmod (wrap64 (t377 + ((l1.length : Int) % 5))) 6))) t378 t379 t380 _ _ t381 t392 _ ?side1 ?side2 A58.out).mono ?_); (case side1 => refine (Kd.R_reads' (e := 24) (base := w.heap.size) (ok := fun k_ => True) (n := t381.length) (c := co12) ?_).2.2; exact z29x2); (case side2 => exact (Kd.R_reads' HO_385004.out).2.1); rintro e w65 ⟨rfl, hb⟩; refine ⟨_, rfl, ?_⟩; have n0_ := Aside0.mk (Kd.R_below z29x2 hb); have n1_ := Aside0.mk (blk_below (g := gb384) (o := .cells #[.int .i64 t377, .int .i64 t378, .int .i64 t379, .int .i64 t380, .slice Ao12 t381.length co12] 36 (0, 0)) z29x1 hb); have n2_ := Aside0.mk (blk_below (g := gb388) (o := .cells #[.int .i64 (wrap64 (1 + (Int.tmod (wrap64 (t377 + ((l1.length : Int) % 5))) 6))), .int .i64 t378, .int .i64 t379, .int .i64 t380, .slice Ao12 t381.length co12] 36 (0, 0)) z29x0 hb); have n3_ := Aside0.mk (below_step z29x6 hb); clear HO_385004; clear BK384; clear BK388; clear HB; have HO_385004 := n0_; have BK384 := n1_; have BK388 := n2_; have HB := n3_; clear n0_ n1_ n2_ n3_; (try clear hb); (try clear hb2); (try clear hk); (try clear hi)))
           go_ret
           exact ⟨by first | rfl | (simp [errW_none, errW_some] <;> rfl) | (simp [*, errW_none, errW_some] <;> rfl), by repeat (first | (with_reducible first | exact HB.out | apply below_alloc | apply pw_below_drewN | apply below_drew1 | refine below_set ?_ GE384.out | refine below_set ?_ GE388.out) | exact HB.out)⟩
          ·rw [if_neg c59] at H
           have c59b0 : ((wrap64 (1 + (Int.tmod (wrap64 (t377 + ((l1.length : Int) % 5))) 6))) == 4) = false := beq_eq_false_iff_ne.mpr c59
           have c59b1 : ((wrap64 (1 + (Int.tmod (wrap64 (t377 + ((l1.length : Int) % 5))) 6))) != 4) = true := bne_iff_ne.mpr c59
           obtain rfl := Option.some.inj H
           have hcz66_0 : wc.cell? ⟨gb384, 0, none⟩ = some (.int .i64 t377) := (blk_cell BK384.out 0).trans rfl
           have hcz66_1 : wc.cell? ⟨gb384, 1, none⟩ = some (.int .i64 t378) := (blk_cell BK384.out 1).trans rfl
           have hcz66_2 : wc.cell? ⟨gb384, 2, none⟩ = some (.int .i64 t379) := (blk_cell BK384.out 2).trans rfl
           have hcz66_3 : wc.cell? ⟨gb384, 3, none⟩ = some (.int .i64 t380) := (blk_cell BK384.out 3).trans rfl
           have hcz66_4 : wc.cell? ⟨gb384, 4, none⟩ = some (.slice Ao12 t381.length co12) := (blk_cell BK384.out 4).trans rfl
           have hfz66_0 := blk_frozen BK384.out 0
           have hfz66_1 := blk_frozen BK384.out 1
           have hfz66_2 := blk_frozen BK384.out 2
           have hfz66_3 := blk_frozen BK384.out 3
           have hfz66_4 := blk_frozen BK384.out 4
           go_wp2_with (first | ((with_reducible refine gate_dst (N := 7) rfl ?_); refine box_event ?hg (N := 7) ?hd (cs := #[.int .i64 0, .int .i64 0, .int .i64 0, .int .i64 0, .slice none 0 0]) (t := 36) ?hr ?_; (case hd => rfl); (case hg => rfl); (case hr => first | (go_simp; done) | (go_simp; rfl)); intro gb388 hg w67 hbox hb; have n0_ := Aside0.mk (Kd.R_below z29x12 hb); have n1_ := Aside0.mk (blk_below (g := gb384) (o := .cells #[.int .i64 t377, .int .i64 t378, .int .i64 t379, .int .i64 t380, .slice Ao12 t381.length co12] 36 (0, 0)) z29x11 hb); have n2_ := Aside0.mk (below_step z29x8 hb); have n3_ := Aside0.mk (hbox); have n4_ := Aside0.mk ((z29x7 : w.heap.size ≤ gb388)); have n5_ := Aside0.mk ((z29x7 : w.heap.size ≤ gb388)); have n6_ := Aside0.mk ((z29x5 : gb384 ≠ gb388)); have n7_ := Aside0.mk ((z29x4 : gb388 ≠ gb384)); clear HO_385004; clear BK384; clear HB; have HO_385004 := n0_; have BK384 := n1_; have HB := n2_; have BK388 := n3_; have GW388 := n4_; have GE388 := n5_; have NB384_388 := n6_; have NB388_384 := n7_; clear n0_ n1_ n2_ n3_ n4_ n5_ n6_ n7_; clear hb hbox hg; have hnb68 := NB388_384.out; have hnc68 := NB384_388.out; have hcz69_0 : w67.cell? ⟨gb388, 0, none⟩ = some (.int .i64 0) := (blk_cell BK388.out 0).trans rfl; have hcz69_1 : w67.cell? ⟨gb388, 1, none⟩ = some (.int .i64 0) := (blk_cell BK388.out 1).trans rfl; have hcz69_2 : w67.cell? ⟨gb388, 2, none⟩ = some (.int .i64 0) := (blk_cell BK388.out 2).trans rfl; have hcz69_3 : w67.cell? ⟨gb388, 3, none⟩ = some (.int .i64 0) := (blk_cell BK388.out 3).trans rfl; have hcz69_4 : w67.cell? ⟨gb388, 4, none⟩ = some (.slice none 0 0) := (blk_cell BK388.out 4).trans rfl; have hfz69_0 := blk_frozen BK388.out 0; have hfz69_1 := blk_frozen BK388.out 1; have hfz69_2 := blk_frozen BK388.out 2; have hfz69_3 := blk_frozen BK388.out 3; have hfz69_4 := blk_frozen BK388.out 4; have hcz70_0 : w67.cell? ⟨gb384, 0, none⟩ = some (.int .i64 t377) := (blk_cell BK384.out 0).trans rfl; have hcz70_1 : w67.cell? ⟨gb384, 1, none⟩ = some (.int .i64 t378) := (blk_cell BK384.out 1).trans rfl; have hcz70_2 : w67.cell? ⟨gb384, 2, none⟩ = some (.int .i64 t379) := (blk_cell BK384.out 2).trans rfl; have hcz70_3 : w67.cell? ⟨gb384, 3, none⟩ = some (.int .i64 t380) := (blk_cell BK384.out 3).trans rfl; have hcz70_4 : w67.cell? ⟨gb384, 4, none⟩ = some (.slice Ao12 t381.length co12) := (blk_cell BK384.out 4).trans rfl; have hfz70_0 := blk_frozen BK384.out 0; have hfz70_1 := blk_frozen BK384.out 1; have hfz70_2 := blk_frozen BK384.out 2; have hfz70_3 := blk_frozen BK384.out 3; have hfz70_4 := blk_frozen BK384.out 4) | ((with_reducible refine gate_callee (f := 29) rfl ?_); refine goesL_ (some 62) rfl rfl Try.func29 (by kernel_rfl) rfl #[.agg #[.int .i64 (wrap64 (1 + (Int.tmod (wrap64 (t377 + ((l1.length : Int) % 5))) 6))), .int .i64 t378, .int .i64 t379, .int .i64 t380, .slice Ao12 t381.length co12]] rfl z29x9 ?_; (with_reducible refine (impl_MsgOk.calls (wrap64 (1 + (Int.tmod (wrap64 (t377 + ((l1.length : Int) % 5))) 6))) t378 t379 t380 _ _ t381 t392 _ ?side1 ?side2 A58.out).mono ?_); (case side1 => refine (Kd.R_reads' (e := 24) (base := w.heap.size) (ok := fun k_ => True) (n := t381.length) (c := co12) ?_).2.2; exact z29x2); (case side2 => exact (Kd.R_reads' HO_385004.out).2.1); rintro e w71 ⟨rfl, hb⟩; refine ⟨_, rfl, ?_⟩; have n0_ := Aside0.mk (Kd.R_below z29x2 hb); have n1_ := Aside0.mk (blk_below (g := gb384) (o := .cells #[.int .i64 t377, .int .i64 t378, .int .i64 t379, .int .i64 t380, .slice Ao12 t381.length co12] 36 (0, 0)) z29x1 hb); have n2_ := Aside0.mk (blk_below (g := gb388) (o := .cells #[.int .i64 (wrap64 (1 + (Int.tmod (wrap64 (t377 + ((l1.length : Int) % 5))) 6))), .int .i64 t378, .int .i64 t379, .int .i64 t380, .slice Ao12 t381.length co12] 36 (0, 0)) z29x0 hb); have n3_ := Aside0.mk (below_step z29x6 hb); clear HO_385004; clear BK384; clear BK388; clear HB; have HO_385004 := n0_; have BK384 := n1_; have BK388 := n2_; have HB := n3_; clear n0_ n1_ n2_ n3_; (try clear hb); (try clear hb2); (try clear hk); (try clear hi); have hcz72_0 : w71.cell? ⟨gb388, 0, none⟩ = some (.int .i64 (wrap64 (1 + (Int.tmod (wrap64 (t377 + ((l1.length : Int) % 5))) 6)))) := (blk_cell BK388.out 0).trans rfl; have hcz72_1 : w71.cell? ⟨gb388, 1, none⟩ = some (.int .i64 t378) := (blk_cell BK388.out 1).trans rfl; have hcz72_2 : w71.cell? ⟨gb388, 2, none⟩ = some (.int .i64 t379) := (blk_cell BK388.out 2).trans rfl; have hcz72_3 : w71.cell? ⟨gb388, 3, none⟩ = some (.int .i64 t380) := (blk_cell BK388.out 3).trans rfl; have hcz72_4 : w71.cell? ⟨gb388, 4, none⟩ = some (.slice Ao12 t381.length co12) := (blk_cell BK388.out 4).trans rfl; have hfz72_0 := blk_frozen BK388.out 0; have hfz72_1 := blk_frozen BK388.out 1; have hfz72_2 := blk_frozen BK388.out 2; have hfz72_3 := blk_frozen BK388.out 3; have hfz72_4 := blk_frozen BK388.out 4; have hcz73_0 : w71.cell? ⟨gb384, 0, none⟩ = some (.int .i64 t377) := (blk_cell BK384.out 0).trans rfl; have hcz73_1 : w71.cell? ⟨gb384, 1, none⟩ = some (.int .i64 t378) := (blk_cell BK384.out 1).trans rfl; have hcz73_2 : w71.cell? ⟨gb384, 2, none⟩ = some (.int .i64 t379) := (blk_cell BK384.out 2).trans rfl; have hcz73_3 : w71.cell? ⟨gb384, 3, none⟩ = some (.int .i64 t380) := (blk_cell BK384.out 3).trans rfl; have hcz73_4 : w71.cell? ⟨gb384, 4, none⟩ = some (.slice Ao12 t381.length co12) := (blk_cell BK384.out 4).trans rfl; have hfz73_0 := blk_frozen BK384.out 0; have hfz73_1 := blk_frozen BK384.out 1; have hfz73_2 := blk_frozen BK384.out 2; have hfz73_3 := blk_frozen BK384.out 3; have hfz73_4 := blk_frozen BK384.out 4))
           go_ret
           exact ⟨by first | rfl | (simp [errW_none, errW_some] <;> rfl) | (simp [*, errW_none, errW_some] <;> rfl), by repeat (first | (with_reducible first | exact HB.out | apply below_alloc | apply pw_below_drewN | apply below_drew1 | refine below_set ?_ GE384.out | refine below_set ?_ GE388.out) | exact HB.out)⟩
        ·rw [if_neg c49] at H
         have c49b0 : (t377 == 4) = false := beq_eq_false_iff_ne.mpr c49
         have c49b1 : (t377 != 4) = true := bne_iff_ne.mpr c49
         replace H := Option.bind_eq_some_iff.mp H
         obtain ⟨t393, A740, H⟩ := H
         replace H : (some (t393 == ((wrap64 (1 + (Int.tmod (wrap64 (t377 + ((l1.length : Int) % 5))) 6))) == t377))) = some r := H
         have A74 := Aside0.mk A740
         clear A740
         obtain rfl := Option.some.inj H
         have hcz75_0 : wc.cell? ⟨gb384, 0, none⟩ = some (.int .i64 t377) := (blk_cell BK384.out 0).trans rfl
         have hcz75_1 : wc.cell? ⟨gb384, 1, none⟩ = some (.int .i64 t378) := (blk_cell BK384.out 1).trans rfl
         have hcz75_2 : wc.cell? ⟨gb384, 2, none⟩ = some (.int .i64 t379) := (blk_cell BK384.out 2).trans rfl
         have hcz75_3 : wc.cell? ⟨gb384, 3, none⟩ = some (.int .i64 t380) := (blk_cell BK384.out 3).trans rfl
         have hcz75_4 : wc.cell? ⟨gb384, 4, none⟩ = some (.slice Ao12 t381.length co12) := (blk_cell BK384.out 4).trans rfl
         have hfz75_0 := blk_frozen BK384.out 0
         have hfz75_1 := blk_frozen BK384.out 1
         have hfz75_2 := blk_frozen BK384.out 2
         have hfz75_3 := blk_frozen BK384.out 3
         have hfz75_4 := blk_frozen BK384.out 4
         go_wp2_with (first | ((with_reducible refine gate_dst (N := 7) rfl ?_); refine box_event ?hg (N := 7) ?hd (cs := #[.int .i64 0, .int .i64 0, .int .i64 0, .int .i64 0, .slice none 0 0]) (t := 36) ?hr ?_; (case hd => rfl); (case hg => rfl); (case hr => first | (go_simp; done) | (go_simp; rfl)); intro gb388 hg w76 hbox hb; have n0_ := Aside0.mk (Kd.R_below z29x12 hb); have n1_ := Aside0.mk (blk_below (g := gb384) (o := .cells #[.int .i64 t377, .int .i64 t378, .int .i64 t379, .int .i64 t380, .slice Ao12 t381.length co12] 36 (0, 0)) z29x11 hb); have n2_ := Aside0.mk (below_step z29x8 hb); have n3_ := Aside0.mk (hbox); have n4_ := Aside0.mk ((z29x7 : w.heap.size ≤ gb388)); have n5_ := Aside0.mk ((z29x7 : w.heap.size ≤ gb388)); have n6_ := Aside0.mk ((z29x5 : gb384 ≠ gb388)); have n7_ := Aside0.mk ((z29x4 : gb388 ≠ gb384)); clear HO_385004; clear BK384; clear HB; have HO_385004 := n0_; have BK384 := n1_; have HB := n2_; have BK388 := n3_; have GW388 := n4_; have GE388 := n5_; have NB384_388 := n6_; have NB388_384 := n7_; clear n0_ n1_ n2_ n3_ n4_ n5_ n6_ n7_; clear hb hbox hg; have hnb77 := NB388_384.out; have hnc77 := NB384_388.out; have hcz78_0 : w76.cell? ⟨gb388, 0, none⟩ = some (.int .i64 0) := (blk_cell BK388.out 0).trans rfl; have hcz78_1 : w76.cell? ⟨gb388, 1, none⟩ = some (.int .i64 0) := (blk_cell BK388.out 1).trans rfl; have hcz78_2 : w76.cell? ⟨gb388, 2, none⟩ = some (.int .i64 0) := (blk_cell BK388.out 2).trans rfl; have hcz78_3 : w76.cell? ⟨gb388, 3, none⟩ = some (.int .i64 0) := (blk_cell BK388.out 3).trans rfl; have hcz78_4 : w76.cell? ⟨gb388, 4, none⟩ = some (.slice none 0 0) := (blk_cell BK388.out 4).trans rfl; have hfz78_0 := blk_frozen BK388.out 0; have hfz78_1 := blk_frozen BK388.out 1; have hfz78_2 := blk_frozen BK388.out 2; have hfz78_3 := blk_frozen BK388.out 3; have hfz78_4 := blk_frozen BK388.out 4; have hcz79_0 : w76.cell? ⟨gb384, 0, none⟩ = some (.int .i64 t377) := (blk_cell BK384.out 0).trans rfl; have hcz79_1 : w76.cell? ⟨gb384, 1, none⟩ = some (.int .i64 t378) := (blk_cell BK384.out 1).trans rfl; have hcz79_2 : w76.cell? ⟨gb384, 2, none⟩ = some (.int .i64 t379) := (blk_cell BK384.out 2).trans rfl; have hcz79_3 : w76.cell? ⟨gb384, 3, none⟩ = some (.int .i64 t380) := (blk_cell BK384.out 3).trans rfl; have hcz79_4 : w76.cell? ⟨gb384, 4, none⟩ = some (.slice Ao12 t381.length co12) := (blk_cell BK384.out 4).trans rfl; have hfz79_0 := blk_frozen BK384.out 0; have hfz79_1 := blk_frozen BK384.out 1; have hfz79_2 := blk_frozen BK384.out 2; have hfz79_3 := blk_frozen BK384.out 3; have hfz79_4 := blk_frozen BK384.out 4) | ((with_reducible refine gate_callee (f := 29) rfl ?_); refine goesL_ (some 62) rfl rfl Try.func29 (by kernel_rfl) rfl #[.agg #[.int .i64 (wrap64 (1 + (Int.tmod (wrap64 (t377 + ((l1.length : Int) % 5))) 6))), .int .i64 t378, .int .i64 t379, .int .i64 t380, .slice Ao12 t381.length co12]] rfl z29x9 ?_; (with_reducible refine (impl_MsgOk.calls (wrap64 (1 + (Int.tmod (wrap64 (t377 + ((l1.length : Int) % 5))) 6))) t378 t379 t380 _ _ t381 t393 _ ?side1 ?side2 A74.out).mono ?_); (case side1 => refine (Kd.R_reads' (e := 24) (base := w.heap.size) (ok := fun k_ => True) (n := t381.length) (c := co12) ?_).2.2; exact z29x2); (case side2 => exact (Kd.R_reads' HO_385004.out).2.1); rintro e w80 ⟨rfl, hb⟩; refine ⟨_, rfl, ?_⟩; have n0_ := Aside0.mk (Kd.R_below z29x2 hb); have n1_ := Aside0.mk (blk_below (g := gb384) (o := .cells #[.int .i64 t377, .int .i64 t378, .int .i64 t379, .int .i64 t380, .slice Ao12 t381.length co12] 36 (0, 0)) z29x1 hb); have n2_ := Aside0.mk (blk_below (g := gb388) (o := .cells #[.int .i64 (wrap64 (1 + (Int.tmod (wrap64 (t377 + ((l1.length : Int) % 5))) 6))), .int .i64 t378, .int .i64 t379, .int .i64 t380, .slice Ao12 t381.length co12] 36 (0, 0)) z29x0 hb); have n3_ := Aside0.mk (below_step z29x6 hb); clear HO_385004; clear BK384; clear BK388; clear HB; have HO_385004 := n0_; have BK384 := n1_; have BK388 := n2_; have HB := n3_; clear n0_ n1_ n2_ n3_; (try clear hb); (try clear hb2); (try clear hk); (try clear hi); have hcz81_0 : w80.cell? ⟨gb388, 0, none⟩ = some (.int .i64 (wrap64 (1 + (Int.tmod (wrap64 (t377 + ((l1.length : Int) % 5))) 6)))) := (blk_cell BK388.out 0).trans rfl; have hcz81_1 : w80.cell? ⟨gb388, 1, none⟩ = some (.int .i64 t378) := (blk_cell BK388.out 1).trans rfl; have hcz81_2 : w80.cell? ⟨gb388, 2, none⟩ = some (.int .i64 t379) := (blk_cell BK388.out 2).trans rfl; have hcz81_3 : w80.cell? ⟨gb388, 3, none⟩ = some (.int .i64 t380) := (blk_cell BK388.out 3).trans rfl; have hcz81_4 : w80.cell? ⟨gb388, 4, none⟩ = some (.slice Ao12 t381.length co12) := (blk_cell BK388.out 4).trans rfl; have hfz81_0 := blk_frozen BK388.out 0; have hfz81_1 := blk_frozen BK388.out 1; have hfz81_2 := blk_frozen BK388.out 2; have hfz81_3 := blk_frozen BK388.out 3; have hfz81_4 := blk_frozen BK388.out 4; have hcz82_0 : w80.cell? ⟨gb384, 0, none⟩ = some (.int .i64 t377) := (blk_cell BK384.out 0).trans rfl; have hcz82_1 : w80.cell? ⟨gb384, 1, none⟩ = some (.int .i64 t378) := (blk_cell BK384.out 1).trans rfl; have hcz82_2 : w80.cell? ⟨gb384, 2, none⟩ = some (.int .i64 t379) := (blk_cell BK384.out 2).trans rfl; have hcz82_3 : w80.cell? ⟨gb384, 3, none⟩ = some (.int .i64 t380) := (blk_cell BK384.out 3).trans rfl; have hcz82_4 : w80.cell? ⟨gb384, 4, none⟩ = some (.slice Ao12 t381.length co12) := (blk_cell BK384.out 4).trans rfl; have hfz82_0 := blk_frozen BK384.out 0; have hfz82_1 := blk_frozen BK384.out 1; have hfz82_2 := blk_frozen BK384.out 2; have hfz82_3 := blk_frozen BK384.out 3; have hfz82_4 := blk_frozen BK384.out 4))
         go_ret
         exact ⟨by first | rfl | (simp [errW_none, errW_some] <;> rfl) | (simp [*, errW_none, errW_some] <;> rfl), by repeat (first | (with_reducible first | exact HB.out | apply below_alloc | apply pw_below_drewN | apply below_drew1 | refine below_set ?_ GE384.out | refine below_set ?_ GE388.out) | exact HB.out)⟩

/-- THE ONE PURE STATEMENT of laws_FnMsgKinds: yours. -/
def laws_FnMsgKinds.Pure : Prop := ∀ (l0 : List Int) (l1 : List Int), l0.length ≤ maxLen → l0.length * 1 ≤ 140737488351232 → (∀ x ∈ l0, (Lit.int .u8 x).wf = true) → l1.length ≤ maxLen → l1.length * 1 ≤ 140737488351232 → (∀ x ∈ l1, (Lit.int .u8 x).wf = true) → ∃ k, laws_FnMsgKinds.f k l0 l1 = some true
theorem laws_FnMsgKinds.walk (P : laws_FnMsgKinds.Pure) (a0 : Option Addr) (len0 cap0 : Nat) (z0 : List Int) (a1 : Option Addr) (len1 cap1 : Nat) (z1 : List Int) (w : World) (w0 : (a0 = none ∧ len0 = 0 ∧ cap0 = 0 ∧ z0 = []) ∨ ∃ x, a0 = some x ∧ len0 ≤ cap0 ∧ cap0 ≤ maxLen ∧ z0.length = cap0 ∧ (∀ i, i < z0.length → w.cell? (x.add i) = some (.int .u8 (z0.getD i 0))) ∧ ∀ n ∈ z0, (Lit.int .u8 n).wf = true) (y0 : len0 * 1 ≤ 140737488351232) (w1 : (a1 = none ∧ len1 = 0 ∧ cap1 = 0 ∧ z1 = []) ∨ ∃ x, a1 = some x ∧ len1 ≤ cap1 ∧ cap1 ≤ maxLen ∧ z1.length = cap1 ∧ (∀ i, i < z1.length → w.cell? (x.add i) = some (.int .u8 (z1.getD i 0))) ∧ ∀ n ∈ z1, (Lit.int .u8 n).wf = true) (y1 : len1 * 1 ≤ 140737488351232) :
  Calls Try.prog 6 #[.slice a0 len0 cap0, .slice a1 len1 cap1] w fun e w' => e = .returned (.bool true) ∧ Below w.heap.size w w' := by
 obtain ⟨l0, rfl, hr0, hm0, hw0, hc0⟩ := ReadsInt.ofRowC w0
 obtain ⟨l1, rfl, hr1, hm1, hw1, hc1⟩ := ReadsInt.ofRowC w1
 obtain ⟨k, h⟩ := P l0 l1 hm0 y0 hw0 hm1 y1 hw1
 refine (laws_FnMsgKinds.calls k _ _ l0 _ _ l1 true w (Kd.C_of_reads (d := (0 : Int)) (h1 := fun _ => rfl) hr0) hc0 (Kd.C_of_reads (d := (0 : Int)) (h1 := fun _ => rfl) hr1) hc1 h).mono ?_
 rintro e w' ⟨rfl, hd⟩
 exact ⟨rfl, hd⟩

end Go.Proofs.Ytbiknbjcidlabaa.Hp
