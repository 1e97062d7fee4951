-- hp.py
import Derived.Test.YtpdeincniaiajaaHx0
import Derived.Test.YtpdeincniaiajaaHx23
import Derived.Test.YtpdeincniaiajaaHx61
import Derived.Test.YtpdeincniaiajaaHx77
import Derived.Test.YtpdeincniaiajaaHx109
namespace Go.Proofs.Ytpdeincniaiajaa.Hp
open Go.RowKit Go.Proofs.YtpdeincniaiajaaW.PrintWords Go.Proofs.YtpdeincniaiajaaW.PrintLast Go.Proofs.YtpdeincniaiajaaW.PrintMore
attribute [local go_sem] max2_int min2_int max_two min_two max_three min_three max_four min_four   -- for this text's walks alone
set_option linter.unusedVariables false
set_option linter.unusedSimpArgs false
-- squeezed by wip/tools/squeeze.py
theorem z110x18 {P : Prop} (h : P := by (with_reducible repeat (first | apply Kd.R_alloc | apply Kd.R_drewN | apply Kd.R_drew)); exact HO_1271003.out) : P := h
theorem z110x17 {P : Prop} (h : P := by (with_reducible repeat (first | apply Kd.R_alloc | apply Kd.R_drewN | apply Kd.R_drew)); exact HO_1271002.out) : P := h
theorem z110x16 {P : Prop} (h : P := by (with_reducible repeat (first | apply Kd.R_alloc | apply Kd.R_drewN | apply Kd.R_drew)); exact HO_1261003.out) : P := h
theorem z110x15 {P : Prop} (h : P := by (with_reducible repeat (first | apply Kd.R_alloc | apply Kd.R_drewN | apply Kd.R_drew)); exact HO_1261002.out) : P := h
theorem z110x14 {P : Prop} (h : P := by (with_reducible repeat (first | refine blk_drewN ?_ _ | refine blk_drew ?_ | refine blk_alloc ?_ _)); exact BK1270.out) : P := h
theorem z110x13 {P : Prop} (h : P := by (with_reducible repeat (first | refine blk_drewN ?_ _ | refine blk_drew ?_ | refine blk_alloc ?_ _)); exact BK1260.out) : P := h
theorem z110x12 {P : Prop} (h : P := by repeat (first | (with_reducible first | exact HB.out | apply below_alloc | apply pw_below_drewN | apply below_drew1) | exact HB.out)) : P := h
theorem z110x11 {P : Prop} (h : P := by (try simp only [List.map_toArray, List.map_cons, List.map_nil]); first | done | rfl | (simp only [List.length_drop, List.length_take]; rfl)) : P := h
theorem z110x10 {P : Prop} (h : P := by repeat (first | (with_reducible first | exact HB.out | apply below_alloc | apply pw_below_drewN | apply below_drew1 | refine below_set ?_ GE1260.out) | exact HB.out)) : P := h
theorem z110x9 {P : Prop} (h : P := by rw [hg]; exact (below_size (by repeat (first | (with_reducible first | exact HB.out | apply below_alloc | apply pw_below_drewN | apply below_drew1 | refine below_set ?_ GE1260.out) | exact HB.out)))) : P := h
theorem z110x8 {P : Prop} (h : P := by repeat (first | (with_reducible first | exact HB.out | apply below_alloc | apply pw_below_drewN | apply below_drew1 | refine below_set ?_ GE1260.out | refine below_set ?_ GE1270.out) | exact HB.out)) : P := h
theorem z110x7 {P : Prop} (h : P := by (with_reducible repeat (first | apply Kd.R_alloc | apply Kd.R_drewN | apply Kd.R_drew)); exact (Kd.R_mono (Kd.R_far (p := ⟨gb1270, 3, none⟩) (Kd.R_far (p := ⟨gb1270, 2, none⟩) (Kd.R_far (p := ⟨gb1270, 1, none⟩) (Kd.R_far (p := ⟨gb1270, 0, none⟩) (Kd.R_types HO1268.out BK1270.out (by decide)) (fun _ hk => hk.2) (.int .i64 t1261)) (fun _ hk => hk.2) (.int .i64 t1262)) (fun _ hk => hk.2) (.slice Ao17 t1263.length co17)) (fun _ hk => hk.2) (.slice Ao18 t1266.length co18)) (fun _ h_ => h_.1))) : P := h
theorem z110x6 {P : Prop} (h : P := by (with_reducible repeat (first | apply Kd.R_alloc | apply Kd.R_drewN | apply Kd.R_drew)); exact (Kd.R_mono (Kd.R_far (p := ⟨gb1270, 3, none⟩) (Kd.R_far (p := ⟨gb1270, 2, none⟩) (Kd.R_far (p := ⟨gb1270, 1, none⟩) (Kd.R_far (p := ⟨gb1270, 0, none⟩) (Kd.R_types HO1265.out BK1270.out (by decide)) (fun _ hk => hk.2) (.int .i64 t1261)) (fun _ hk => hk.2) (.int .i64 t1262)) (fun _ hk => hk.2) (.slice Ao17 t1263.length co17)) (fun _ hk => hk.2) (.slice Ao18 t1266.length co18)) (fun _ h_ => h_.1))) : P := h
theorem z110x5 {P : Prop} (h : P := by (with_reducible repeat (first | apply Kd.R_alloc | apply Kd.R_drewN | apply Kd.R_drew)); exact (Kd.R_mono (Kd.R_far (p := ⟨gb1270, 3, none⟩) (Kd.R_far (p := ⟨gb1270, 2, none⟩) (Kd.R_far (p := ⟨gb1270, 1, none⟩) (Kd.R_far (p := ⟨gb1270, 0, none⟩) (Kd.R_types HO1258.out BK1270.out (by decide)) (fun _ hk => hk.2) (.int .i64 t1261)) (fun _ hk => hk.2) (.int .i64 t1262)) (fun _ hk => hk.2) (.slice Ao17 t1263.length co17)) (fun _ hk => hk.2) (.slice Ao18 t1266.length co18)) (fun _ h_ => h_.1))) : P := h
theorem z110x4 {P : Prop} (h : P := by (with_reducible repeat (first | apply Kd.R_alloc | apply Kd.R_drewN | apply Kd.R_drew)); exact (Kd.R_mono (Kd.R_far (p := ⟨gb1270, 3, none⟩) (Kd.R_far (p := ⟨gb1270, 2, none⟩) (Kd.R_far (p := ⟨gb1270, 1, none⟩) (Kd.R_far (p := ⟨gb1270, 0, none⟩) (Kd.R_types HO1255.out BK1270.out (by decide)) (fun _ hk => hk.2) (.int .i64 t1261)) (fun _ hk => hk.2) (.int .i64 t1262)) (fun _ hk => hk.2) (.slice Ao17 t1263.length co17)) (fun _ hk => hk.2) (.slice Ao18 t1266.length co18)) (fun _ h_ => h_.1))) : P := h
theorem z110x3 {P : Prop} (h : P := by (with_reducible repeat (first | apply Kd.R_alloc | apply Kd.R_drewN | apply Kd.R_drew)); exact (Kd.R_mono (Kd.R_far (p := ⟨gb1260, 3, none⟩) (Kd.R_far (p := ⟨gb1260, 2, none⟩) (Kd.R_far (p := ⟨gb1260, 1, none⟩) (Kd.R_far (p := ⟨gb1260, 0, none⟩) (Kd.R_types HO1258.out BK1260.out (by decide)) (fun _ hk => hk.2) (.int .i64 t1251)) (fun _ hk => hk.2) (.int .i64 t1252)) (fun _ hk => hk.2) (.slice Ao11 t1253.length co11)) (fun _ hk => hk.2) (.slice Ao12 t1256.length co12)) (fun _ h_ => h_.1))) : P := h
theorem z110x2 {P : Prop} (h : P := by (with_reducible repeat (first | apply Kd.R_alloc | apply Kd.R_drewN | apply Kd.R_drew)); exact (Kd.R_mono (Kd.R_far (p := ⟨gb1260, 3, none⟩) (Kd.R_far (p := ⟨gb1260, 2, none⟩) (Kd.R_far (p := ⟨gb1260, 1, none⟩) (Kd.R_far (p := ⟨gb1260, 0, none⟩) (Kd.R_types HO1255.out BK1260.out (by decide)) (fun _ hk => hk.2) (.int .i64 t1251)) (fun _ hk => hk.2) (.int .i64 t1252)) (fun _ hk => hk.2) (.slice Ao11 t1253.length co11)) (fun _ hk => hk.2) (.slice Ao12 t1256.length co12)) (fun _ h_ => h_.1))) : P := h
theorem z110x1 {P : Prop} (h : P := by (with_reducible repeat (first | refine blk_drewN ?_ _ | refine blk_drew ?_ | refine blk_alloc ?_ _)); refine blk_far ?_ NB1260_1270.out _; (with_reducible repeat (first | refine blk_drewN ?_ _ | refine blk_drew ?_ | refine blk_alloc ?_ _)); refine blk_far ?_ NB1260_1270.out _; (with_reducible repeat (first | refine blk_drewN ?_ _ | refine blk_drew ?_ | refine blk_alloc ?_ _)); refine blk_far ?_ NB1260_1270.out _; (with_reducible repeat (first | refine blk_drewN ?_ _ | refine blk_drew ?_ | refine blk_alloc ?_ _)); refine blk_far ?_ NB1260_1270.out _; (with_reducible repeat (first | refine blk_drewN ?_ _ | refine blk_drew ?_ | refine blk_alloc ?_ _)); exact BK1260.out) : P := h
theorem z110x0 {P : Prop} (h : P := by (with_reducible repeat (first | refine blk_drewN ?_ _ | refine blk_drew ?_ | refine blk_alloc ?_ _)); refine blk_put (cs := #[.int .i64 t1261, .int .i64 t1262, .slice Ao17 t1263.length co17, .slice none 0 0]) ?_ 3 _ rfl; (with_reducible repeat (first | refine blk_drewN ?_ _ | refine blk_drew ?_ | refine blk_alloc ?_ _)); refine blk_put (cs := #[.int .i64 t1261, .int .i64 t1262, .slice none 0 0, .slice none 0 0]) ?_ 2 _ rfl; (with_reducible repeat (first | refine blk_drewN ?_ _ | refine blk_drew ?_ | refine blk_alloc ?_ _)); refine blk_put (cs := #[.int .i64 t1261, .int .i64 0, .slice none 0 0, .slice none 0 0]) ?_ 1 _ rfl; (with_reducible repeat (first | refine blk_drewN ?_ _ | refine blk_drew ?_ | refine blk_alloc ?_ _)); refine blk_put (cs := #[.int .i64 0, .int .i64 0, .slice none 0 0, .slice none 0 0]) ?_ 0 _ rfl; (with_reducible repeat (first | refine blk_drewN ?_ _ | refine blk_drew ?_ | refine blk_alloc ?_ _)); exact BK1270.out) : P := h

/-! ### laws_FnServNew: function 18 -/
def laws_FnServNew.j0 : Nat → Int → Bool → Bool → Bool → Int → Int → List (S57) → List (S125) → Int → Int → List (S57) → List (S125) → Option (Bool)
 | 0, _, _, _, _, _, _, _, _, _, _, _, _ => none
 | k + 1, x3, x5, x7, x35, x1261000, x1261001, x1261002, x1261003, x1271000, x1271001, x1271002, x1271003 => if x35 = true then (if (x7 == x5) = true then ((laws_lbServ.f k x1271000 x1271001 x1271002 x1271003 x1261000 x1261001 x1261002 x1261003).bind fun t1272 => (some t1272)) else (some false)) else ((impl_ServOk.f k x1271000 x1271001 x1271002 x1271003).bind fun t1273 => (if t1273 = true then (if x1271000 = x3 then (if x1271001 = (-1) then (some ((wrap64 ((x1271002.length : Int) + (x1271003.length : Int))) == 0)) else (some false)) else (some false)) else (some false)))
def laws_FnServNew.f (k : Nat) (l0 : List Int) : Option (Bool) := if (l0.length : Int) > 1048576 then (some true) else ((spec_DrawServNew.f k l0).bind fun t1250 => ((spec_ServNew.f t1250).bind fun bt1251 => ((impl_ServNew.f t1250).bind fun bt1261 => (if (bt1261.2.2.2.2 != bt1251.2.2.2.2) = true then (laws_FnServNew.j0 k t1250 bt1251.2.2.2.2 bt1261.2.2.2.2 true bt1251.1 bt1251.2.1 bt1251.2.2.1 bt1251.2.2.2.1 bt1261.1 bt1261.2.1 bt1261.2.2.1 bt1261.2.2.2.1) else ((laws_lbServ.f k bt1261.1 bt1261.2.1 bt1261.2.2.1 bt1261.2.2.2.1 bt1251.1 bt1251.2.1 bt1251.2.2.1 bt1251.2.2.2.1).bind fun t1271 => (if t1271 = true then (laws_FnServNew.j0 k t1250 bt1251.2.2.2.2 bt1261.2.2.2.2 (!bt1261.2.2.2.2) bt1251.1 bt1251.2.1 bt1251.2.2.1 bt1251.2.2.2.1 bt1261.1 bt1261.2.1 bt1261.2.2.1 bt1261.2.2.2.1) else (laws_FnServNew.j0 k t1250 bt1251.2.2.2.2 bt1261.2.2.2.2 true bt1251.1 bt1251.2.1 bt1251.2.2.1 bt1251.2.2.2.1 bt1261.1 bt1261.2.1 bt1261.2.2.1 bt1261.2.2.2.1)))))))
theorem laws_FnServNew.mono_l : ∀ k, (∀ y0 y1 y2 y3 y4 y5 y6 y7 y8 y9 y10 y11, LeO (laws_FnServNew.j0 k y0 y1 y2 y3 y4 y5 y6 y7 y8 y9 y10 y11) (laws_FnServNew.j0 (k + 1) y0 y1 y2 y3 y4 y5 y6 y7 y8 y9 y10 y11))
 | 0 => fun _ _ _ _ _ _ _ _ _ _ _ _ r h => by simp [laws_FnServNew.j0] at h
 | k + 1 => by
  have ih0 := laws_FnServNew.mono_l k
  ·intro y0 y1 y2 y3 y4 y5 y6 y7 y8 y9 y10 y11
   unfold laws_FnServNew.j0
   repeat' first
   | (with_reducible exact ih0 _ _ _ _ _ _ _ _ _ _ _ _)
   | (with_reducible exact impl_ServOk.mono _ _ _ _ _)
   | (with_reducible exact laws_lbServ.mono _ _ _ _ _ _ _ _ _)
   | (with_reducible exact spec_DrawServNew.mono _ _)
   | (with_reducible exact LeO.refl _)
   | (with_reducible exact LeO.none _)
   | (with_reducible refine LeO.ite ?_ ?_)
   | (with_reducible refine LeO.bind ?_ (fun _ => ?_))
   | exact ih0 _ _ _ _ _ _ _ _ _ _ _ _
   | exact impl_ServOk.mono _ _ _ _ _
   | exact laws_lbServ.mono _ _ _ _ _ _ _ _ _
   | exact spec_DrawServNew.mono _ _
   | exact LeO.none _
   | refine LeO.ite ?_ ?_
   | refine LeO.bind ?_ (fun _ => ?_)
theorem laws_FnServNew.mono : ∀ a0 k, LeO (laws_FnServNew.f k a0) (laws_FnServNew.f (k + 1) a0) := by
 intro a0 k
 have ih0 := laws_FnServNew.mono_l k
 unfold laws_FnServNew.f
 repeat' first
   | (with_reducible exact ih0 _ _ _ _ _ _ _ _ _ _ _ _)
   | (with_reducible exact impl_ServOk.mono _ _ _ _ _)
   | (with_reducible exact laws_lbServ.mono _ _ _ _ _ _ _ _ _)
   | (with_reducible exact spec_DrawServNew.mono _ _)
   | (with_reducible exact LeO.refl _)
   | (with_reducible exact LeO.none _)
   | (with_reducible refine LeO.ite ?_ ?_)
   | (with_reducible refine LeO.bind ?_ (fun _ => ?_))
   | exact ih0 _ _ _ _ _ _ _ _ _ _ _ _
   | exact impl_ServOk.mono _ _ _ _ _
   | exact laws_lbServ.mono _ _ _ _ _ _ _ _ _
   | exact spec_DrawServNew.mono _ _
   | exact LeO.none _
   | refine LeO.ite ?_ ?_
   | refine LeO.bind ?_ (fun _ => ?_)
set_option maxHeartbeats 8000000 in
set_option maxRecDepth 100000 in
theorem laws_FnServNew.calls (k : Nat) (A0 : Option Addr) (c0 : Nat) (l0 : List Int) (r : Bool) (w : World) (hr0 : Kd.C (Kd.int .u8) w A0 l0.length l0) (hc0 : l0.length ≤ c0) (h : laws_FnServNew.f k l0 = some r) :
  Calls Try.prog 18 #[.slice A0 l0.length c0] w fun e w' => e = .returned (.bool r) ∧ Below w.heap.size w w' := by
 have hu35 := Try.underlying35
 have HR0 := Aside0.mk hr0
 have HC0 := Aside0.mk hc0
 clear hr0 hc0
 have HB := Aside0.mk (Below.refl w.heap.size w)
 have H : (if (l0.length : Int) > 1048576 then (some true) else ((spec_DrawServNew.f k l0).bind fun t1250 => ((spec_ServNew.f t1250).bind fun bt1251 => ((impl_ServNew.f t1250).bind fun bt1261 => (if (bt1261.2.2.2.2 != bt1251.2.2.2.2) = true then (laws_FnServNew.j0 k t1250 bt1251.2.2.2.2 bt1261.2.2.2.2 true bt1251.1 bt1251.2.1 bt1251.2.2.1 bt1251.2.2.2.1 bt1261.1 bt1261.2.1 bt1261.2.2.1 bt1261.2.2.2.1) else ((laws_lbServ.f k bt1261.1 bt1261.2.1 bt1261.2.2.1 bt1261.2.2.2.1 bt1251.1 bt1251.2.1 bt1251.2.2.1 bt1251.2.2.2.1).bind fun t1271 => (if t1271 = true then (laws_FnServNew.j0 k t1250 bt1251.2.2.2.2 bt1261.2.2.2.2 (!bt1261.2.2.2.2) bt1251.1 bt1251.2.1 bt1251.2.2.1 bt1251.2.2.2.1 bt1261.1 bt1261.2.1 bt1261.2.2.1 bt1261.2.2.2.1) else (laws_FnServNew.j0 k t1250 bt1251.2.2.2.2 bt1261.2.2.2.2 true bt1251.1 bt1251.2.1 bt1251.2.2.1 bt1251.2.2.2.1 bt1261.1 bt1261.2.1 bt1261.2.2.1 bt1261.2.2.2.1)))))))) = some r := h
 clear h
 by_cases c2 : (l0.length : Int) > 1048576
 ·rw [if_pos c2] at H
  have c2b0 : decide (1048576 < (l0.length : Int)) = true := decide_eq_true c2
  have c2b1 : decide (1048576 < l0.length) = true := decide_eq_true (by omega)
  clear c2
  obtain rfl := Option.some.inj H
  go_enter Try.func18, Try.ntmps18
  go_wp2
  go_ret
  exact ⟨by first | rfl | (simp [errW_none, errW_some] <;> rfl) | (simp [*, errW_none, errW_some] <;> rfl), by repeat (first | (with_reducible first | exact HB.out | apply below_alloc | apply pw_below_drewN | apply below_drew1) | exact HB.out)⟩
 ·rw [if_neg c2] at H
  have c2b0 : decide (1048576 < (l0.length : Int)) = false := decide_eq_false c2
  have c2b1 : decide (1048576 < l0.length) = false := decide_eq_false (by omega)
  clear c2
  replace H := Option.bind_eq_some_iff.mp H
  obtain ⟨t1250, A30, H⟩ := H
  replace H : ((spec_ServNew.f t1250).bind fun bt1251 => ((impl_ServNew.f t1250).bind fun bt1261 => (if (bt1261.2.2.2.2 != bt1251.2.2.2.2) = true then (laws_FnServNew.j0 k t1250 bt1251.2.2.2.2 bt1261.2.2.2.2 true bt1251.1 bt1251.2.1 bt1251.2.2.1 bt1251.2.2.2.1 bt1261.1 bt1261.2.1 bt1261.2.2.1 bt1261.2.2.2.1) else ((laws_lbServ.f k bt1261.1 bt1261.2.1 bt1261.2.2.1 bt1261.2.2.2.1 bt1251.1 bt1251.2.1 bt1251.2.2.1 bt1251.2.2.2.1).bind fun t1271 => (if t1271 = true then (laws_FnServNew.j0 k t1250 bt1251.2.2.2.2 bt1261.2.2.2.2 (!bt1261.2.2.2.2) bt1251.1 bt1251.2.1 bt1251.2.2.1 bt1251.2.2.2.1 bt1261.1 bt1261.2.1 bt1261.2.2.1 bt1261.2.2.2.1) else (laws_FnServNew.j0 k t1250 bt1251.2.2.2.2 bt1261.2.2.2.2 true bt1251.1 bt1251.2.1 bt1251.2.2.1 bt1251.2.2.2.1 bt1261.1 bt1261.2.1 bt1261.2.2.1 bt1261.2.2.2.1)))))) = some r := H
  have A3 := Aside0.mk A30
  clear A30
  replace H := Option.bind_eq_some_iff.mp H
  obtain ⟨⟨t1251, t1252, t1253, t1256, t1259⟩, A40, H⟩ := H
  replace H : ((impl_ServNew.f t1250).bind fun bt1261 => (if (bt1261.2.2.2.2 != t1259) = true then (laws_FnServNew.j0 k t1250 t1259 bt1261.2.2.2.2 true t1251 t1252 t1253 t1256 bt1261.1 bt1261.2.1 bt1261.2.2.1 bt1261.2.2.2.1) else ((laws_lbServ.f k bt1261.1 bt1261.2.1 bt1261.2.2.1 bt1261.2.2.2.1 t1251 t1252 t1253 t1256).bind fun t1271 => (if t1271 = true then (laws_FnServNew.j0 k t1250 t1259 bt1261.2.2.2.2 (!bt1261.2.2.2.2) t1251 t1252 t1253 t1256 bt1261.1 bt1261.2.1 bt1261.2.2.1 bt1261.2.2.2.1) else (laws_FnServNew.j0 k t1250 t1259 bt1261.2.2.2.2 true t1251 t1252 t1253 t1256 bt1261.1 bt1261.2.1 bt1261.2.2.1 bt1261.2.2.2.1))))) = some r := H
  have A4 := Aside0.mk A40
  clear A40
  replace H := Option.bind_eq_some_iff.mp H
  obtain ⟨⟨t1261, t1262, t1263, t1266, t1269⟩, A50, H⟩ := H
  replace H : (if (t1269 != t1259) = true then (laws_FnServNew.j0 k t1250 t1259 t1269 true t1251 t1252 t1253 t1256 t1261 t1262 t1263 t1266) else ((laws_lbServ.f k t1261 t1262 t1263 t1266 t1251 t1252 t1253 t1256).bind fun t1271 => (if t1271 = true then (laws_FnServNew.j0 k t1250 t1259 t1269 (!t1269) t1251 t1252 t1253 t1256 t1261 t1262 t1263 t1266) else (laws_FnServNew.j0 k t1250 t1259 t1269 true t1251 t1252 t1253 t1256 t1261 t1262 t1263 t1266)))) = some r := H
  have A5 := Aside0.mk A50
  clear A50
  have HC6 := Aside0.mk H
  clear H
  go_enter Try.func18, Try.ntmps18
  go_upto_region 6 with (first | ((with_reducible refine gate_callee (f := 74) rfl ?_); refine goesL_ (some 12) rfl rfl Try.func74 (by kernel_rfl) rfl #[.slice A0 l0.length c0] rfl z110x11 ?_; (with_reducible refine (spec_DrawServNew.calls k _ _ l0 t1250 _ ?side1 ?side2 A3.out).mono ?_); (case side1 => repeat (first | exact HR0.out | (with_reducible refine Kd.C_alloc ?_ _) | (with_reducible refine Kd.C_drewN ?_ _) | (with_reducible refine Kd.C_drew ?_))); (case side2 => exact HC0.out); rintro e w7 ⟨rfl, hb⟩; refine ⟨_, rfl, ?_⟩; have n0_ := Aside0.mk (below_step z110x12 hb); clear HB; have HB := n0_; clear n0_; (try clear hb); (try clear hb2); (try clear hk); (try clear hi)) | ((with_reducible refine gate_callee (f := 24) rfl ?_); refine goesL_ (some 15) rfl rfl Try.func24 (by kernel_rfl) rfl #[.int .i64 t1250] rfl z110x11 ?_; (with_reducible refine (spec_ServNew.calls t1250 t1251 t1252 t1253 t1256 t1259 _ A4.out).mono ?_); rintro e w8 ⟨v1254, v1257, rfl, ho0, ho1, hb⟩; refine ⟨_, rfl, ?_⟩; have n0_ := Aside0.mk (Kd.R_lower ho0 (below_size z110x12)); have n1_ := Aside0.mk (Kd.R_lower ho1 (below_size z110x12)); have n2_ := Aside0.mk (below_step z110x12 hb); clear HB; have HO1255 := n0_; have HO1258 := n1_; have HB := n2_; clear n0_ n1_ n2_; (try clear hb); (try clear hb2); (try clear hk); (try clear hi); (try clear ho0); (try clear ho1)) | ((with_reducible refine gate_dst (N := 4) rfl ?_); refine box_event ?hg (N := 4) ?hd (cs := #[.int .i64 0, .int .i64 0, .slice none 0 0, .slice none 0 0]) (t := 35) ?hr ?_; (case hd => rfl); (case hg => rfl); (case hr => first | (go_simp; done) | (go_simp; rfl)); intro gb1260 hg w9 hbox hb; have n0_ := Aside0.mk (Kd.R_below (by (with_reducible repeat (first | apply Kd.R_alloc | apply Kd.R_drewN | apply Kd.R_drew)); exact HO1255.out) hb); have n1_ := Aside0.mk (Kd.R_below (by (with_reducible repeat (first | apply Kd.R_alloc | apply Kd.R_drewN | apply Kd.R_drew)); exact HO1258.out) hb); have n2_ := Aside0.mk (below_step z110x12 hb); have n3_ := Aside0.mk (hbox); have n4_ := Aside0.mk ((by rw [hg]; exact (below_size z110x12) : w.heap.size ≤ gb1260)); have n5_ := Aside0.mk ((by rw [hg]; exact (below_size z110x12) : w.heap.size ≤ gb1260)); clear HO1255; clear HO1258; clear HB; have HO1255 := n0_; have HO1258 := n1_; have HB := n2_; have BK1260 := n3_; have GW1260 := n4_; have GE1260 := n5_; clear n0_ n1_ n2_ n3_ n4_ n5_; clear hb hbox hg; have hcz10_0 : w9.cell? ⟨gb1260, 0, none⟩ = some (.int .i64 0) := (blk_cell BK1260.out 0).trans rfl; have hcz10_1 : w9.cell? ⟨gb1260, 1, none⟩ = some (.int .i64 0) := (blk_cell BK1260.out 1).trans rfl; have hcz10_2 : w9.cell? ⟨gb1260, 2, none⟩ = some (.slice none 0 0) := (blk_cell BK1260.out 2).trans rfl; have hcz10_3 : w9.cell? ⟨gb1260, 3, none⟩ = some (.slice none 0 0) := (blk_cell BK1260.out 3).trans rfl; have hfz10_0 := blk_frozen BK1260.out 0; have hfz10_1 := blk_frozen BK1260.out 1; have hfz10_2 := blk_frozen BK1260.out 2; have hfz10_3 := blk_frozen BK1260.out 3; obtain ⟨Ao11, co11, eo11⟩ := Kd.R_slice HO1255.out; subst eo11; obtain ⟨Ao12, co12, eo12⟩ := Kd.R_slice HO1258.out; subst eo12) | ((with_reducible refine gate_callee (f := 25) rfl ?_); refine goesL_ (some 20) rfl rfl Try.func25 (by kernel_rfl) rfl #[.int .i64 t1250] rfl z110x11 ?_; (with_reducible refine (impl_ServNew.calls t1250 t1261 t1262 t1263 t1266 t1269 _ A5.out).mono ?_); rintro e w13 ⟨v1264, v1267, rfl, ho0, ho1, hb⟩; refine ⟨_, rfl, ?_⟩; have n0_ := Aside0.mk (Kd.R_elder' z110x2 (Kd.R_base ho0) hb); have n1_ := Aside0.mk (Kd.R_elder' z110x3 (Kd.R_base ho1) hb); have n2_ := Aside0.mk (Kd.R_lower (Kd.R_new' ho0 (Kd.R_lt z110x2)) (below_size z110x10)); have n3_ := Aside0.mk (Kd.R_lower (Kd.R_new' ho1 (Kd.R_lt z110x3)) (below_size z110x10)); have n4_ := Aside0.mk (blk_below (g := gb1260) (o := .cells #[.int .i64 t1251, .int .i64 t1252, .slice Ao11 t1253.length co11, .slice Ao12 t1256.length co12] 35 (0, 0)) (by (with_reducible repeat (first | refine blk_drewN ?_ _ | refine blk_drew ?_ | refine blk_alloc ?_ _)); refine blk_put (cs := #[.int .i64 t1251, .int .i64 t1252, .slice Ao11 t1253.length co11, .slice none 0 0]) ?_ 3 _ rfl; (with_reducible repeat (first | refine blk_drewN ?_ _ | refine blk_drew ?_ | refine blk_alloc ?_ _)); refine blk_put (cs := #[.int .i64 t1251, .int .i64 t1252, .slice none 0 0, .slice none 0 0]) ?_ 2 _ rfl; (with_reducible repeat (first | refine blk_drewN ?_ _ | refine blk_drew ?_ | refine blk_alloc ?_ _)); refine blk_put (cs := #[.int .i64 t1251, .int .i64 0, .slice none 0 0, .slice none 0 0]) ?_ 1 _ rfl; (with_reducible repeat (first | refine blk_drewN ?_ _ | refine blk_drew ?_ | refine blk_alloc ?_ _)); refine blk_put (cs := #[.int .i64 0, .int .i64 0, .slice none 0 0, .slice none 0 0]) ?_ 0 _ rfl; (with_reducible repeat (first | refine blk_drewN ?_ _ | refine blk_drew ?_ | refine blk_alloc ?_ _)); exact BK1260.out) hb); have n5_ := Aside0.mk (below_step z110x10 hb); clear HO1255; clear HO1258; clear BK1260; clear HB; have HO1255 := n0_; have HO1258 := n1_; have HO1265 := n2_; have HO1268 := n3_; have BK1260 := n4_; have HB := n5_; clear n0_ n1_ n2_ n3_ n4_ n5_; (try clear hb); (try clear hb2); (try clear hk); (try clear hi); (try clear ho0); (try clear ho1)) | ((with_reducible refine gate_dst (N := 6) rfl ?_); refine box_event ?hg (N := 6) ?hd (cs := #[.int .i64 0, .int .i64 0, .slice none 0 0, .slice none 0 0]) (t := 35) ?hr ?_; (case hd => rfl); (case hg => rfl); (case hr => first | (go_simp; done) | (go_simp; rfl)); intro gb1270 hg w14 hbox hb; have n0_ := Aside0.mk (Kd.R_below (by (with_reducible repeat (first | apply Kd.R_alloc | apply Kd.R_drewN | apply Kd.R_drew)); exact HO1255.out) hb); have n1_ := Aside0.mk (Kd.R_below (by (with_reducible repeat (first | apply Kd.R_alloc | apply Kd.R_drewN | apply Kd.R_drew)); exact HO1258.out) hb); have n2_ := Aside0.mk (Kd.R_below (by (with_reducible repeat (first | apply Kd.R_alloc | apply Kd.R_drewN | apply Kd.R_drew)); exact HO1265.out) hb); have n3_ := Aside0.mk (Kd.R_below (by (with_reducible repeat (first | apply Kd.R_alloc | apply Kd.R_drewN | apply Kd.R_drew)); exact HO1268.out) hb); have n4_ := Aside0.mk (blk_below (g := gb1260) (o := .cells #[.int .i64 t1251, .int .i64 t1252, .slice Ao11 t1253.length co11, .slice Ao12 t1256.length co12] 35 (0, 0)) z110x13 hb); have n5_ := Aside0.mk (below_step z110x10 hb); have n6_ := Aside0.mk (hbox); have n7_ := Aside0.mk ((z110x9 : w.heap.size ≤ gb1270)); have n8_ := Aside0.mk ((z110x9 : w.heap.size ≤ gb1270)); have n9_ := Aside0.mk ((by rw [hg]; exact Nat.ne_of_lt (blk_lt (g := gb1260) (o := .cells #[.int .i64 t1251, .int .i64 t1252, .slice Ao11 t1253.length co11, .slice Ao12 t1256.length co12] 35 (0, 0)) z110x13) : gb1260 ≠ gb1270)); have n10_ := Aside0.mk ((by rw [hg]; exact Nat.ne_of_gt (blk_lt (g := gb1260) (o := .cells #[.int .i64 t1251, .int .i64 t1252, .slice Ao11 t1253.length co11, .slice Ao12 t1256.length co12] 35 (0, 0)) z110x13) : gb1270 ≠ gb1260)); clear HO1255; clear HO1258; clear HO1265; clear HO1268; clear BK1260; clear HB; have HO1255 := n0_; have HO1258 := n1_; have HO1265 := n2_; have HO1268 := n3_; have BK1260 := n4_; have HB := n5_; have BK1270 := n6_; have GW1270 := n7_; have GE1270 := n8_; have NB1260_1270 := n9_; have NB1270_1260 := n10_; clear n0_ n1_ n2_ n3_ n4_ n5_ n6_ n7_ n8_ n9_ n10_; clear hb hbox hg; have hnb15 := NB1270_1260.out; have hnc15 := NB1260_1270.out; have hcz16_0 : w14.cell? ⟨gb1270, 0, none⟩ = some (.int .i64 0) := (blk_cell BK1270.out 0).trans rfl; have hcz16_1 : w14.cell? ⟨gb1270, 1, none⟩ = some (.int .i64 0) := (blk_cell BK1270.out 1).trans rfl; have hcz16_2 : w14.cell? ⟨gb1270, 2, none⟩ = some (.slice none 0 0) := (blk_cell BK1270.out 2).trans rfl; have hcz16_3 : w14.cell? ⟨gb1270, 3, none⟩ = some (.slice none 0 0) := (blk_cell BK1270.out 3).trans rfl; have hfz16_0 := blk_frozen BK1270.out 0; have hfz16_1 := blk_frozen BK1270.out 1; have hfz16_2 := blk_frozen BK1270.out 2; have hfz16_3 := blk_frozen BK1270.out 3; obtain ⟨Ao17, co17, eo17⟩ := Kd.R_slice HO1265.out; subst eo17; obtain ⟨Ao18, co18, eo18⟩ := Kd.R_slice HO1268.out; subst eo18))
  (try simp only [Act.put, List.setIfInBounds_toArray, List.set_cons_zero, List.set_cons_succ])
  go_cut [35] (fun v35 wc => ∃ (kq : Nat) (x35_5 : Bool), v35 = .bool x35_5 ∧ Aside0 (laws_FnServNew.j0 kq t1250 t1259 t1269 x35_5 t1251 t1252 t1253 t1256 t1261 t1262 t1263 t1266 = some r) ∧ Aside0 (kq ≤ k) ∧ Aside0 (Kd.R k57 57 wc w.heap.size (fun k_ => some k_ ≠ ((.slice Ao17 t1263.length co17) : Value).ownBlock) (.slice Ao11 t1253.length co11) t1253) ∧ Aside0 (Kd.R k125 125 wc w.heap.size (fun k_ => some k_ ≠ ((.slice Ao18 t1266.length co18) : Value).ownBlock) (.slice Ao12 t1256.length co12) t1256) ∧ Aside0 (Kd.R k57 57 wc w.heap.size (fun k_ => some k_ ≠ ((.slice Ao11 t1253.length co11) : Value).ownBlock) (.slice Ao17 t1263.length co17) t1263) ∧ Aside0 (Kd.R k125 125 wc w.heap.size (fun k_ => some k_ ≠ ((.slice Ao12 t1256.length co12) : Value).ownBlock) (.slice Ao18 t1266.length co18) t1266) ∧ Aside0 (wc.heap[gb1260]? = some (.cells #[.int .i64 t1251, .int .i64 t1252, (.slice Ao11 t1253.length co11), (.slice Ao12 t1256.length co12)] 35 (0, 0))) ∧ Aside0 (wc.heap[gb1270]? = some (.cells #[.int .i64 t1261, .int .i64 t1262, (.slice Ao17 t1263.length co17), (.slice Ao18 t1266.length co18)] 35 (0, 0))) ∧ Aside0 (Below w.heap.size w wc))
  case first =>
   have H := HC6.out
   clear HC6
   by_cases c19 : (t1269 != t1259) = true
   ·rw [if_pos c19] at H
    have c19b0 : (t1269 != t1259) = true := c19
    (try (have c19b1 : decide (t1269 = t1259) = false := by simpa using c19))
    (try (have c19b2 : (t1269 == t1259) = false := by simpa using c19))
    (try (have c19b3 : ¬ (t1269 = t1259) := by simpa using c19))
    clear c19
    (first | rw [c19b0] | (simp only [i64_w, i32_w]; rw [c19b0]) | skip)
    have H' := Aside0.mk H
    clear H
    go_wp2
    go_meet
    case rel => exact ⟨_, (true), (by first | rfl | (simp; done) | (simp [*]; done)), H', ⟨by first | omega | exact Nat.le_refl _⟩, ⟨by (with_reducible repeat (first | apply Kd.R_alloc | apply Kd.R_drewN | apply Kd.R_drew)); exact Kd.R_mono (Kd.R_far (p := ⟨gb1270, 3, none⟩) (Kd.R_far (p := ⟨gb1270, 2, none⟩) (Kd.R_far (p := ⟨gb1270, 1, none⟩) (Kd.R_far (p := ⟨gb1270, 0, none⟩) (Kd.R_types HO1255.out BK1270.out (by decide)) (fun _ hk => hk.2) (.int .i64 t1261)) (fun _ hk => hk.2) (.int .i64 t1262)) (fun _ hk => hk.2) (.slice Ao17 t1263.length co17)) (fun _ hk => hk.2) (.slice Ao18 t1266.length co18)) (fun _ hk => hk.1.2)⟩, ⟨by (with_reducible repeat (first | apply Kd.R_alloc | apply Kd.R_drewN | apply Kd.R_drew)); exact Kd.R_mono (Kd.R_far (p := ⟨gb1270, 3, none⟩) (Kd.R_far (p := ⟨gb1270, 2, none⟩) (Kd.R_far (p := ⟨gb1270, 1, none⟩) (Kd.R_far (p := ⟨gb1270, 0, none⟩) (Kd.R_types HO1258.out BK1270.out (by decide)) (fun _ hk => hk.2) (.int .i64 t1261)) (fun _ hk => hk.2) (.int .i64 t1262)) (fun _ hk => hk.2) (.slice Ao17 t1263.length co17)) (fun _ hk => hk.2) (.slice Ao18 t1266.length co18)) (fun _ hk => hk.1.2)⟩, ⟨by (with_reducible repeat (first | apply Kd.R_alloc | apply Kd.R_drewN | apply Kd.R_drew)); exact Kd.R_mono (Kd.R_far (p := ⟨gb1270, 3, none⟩) (Kd.R_far (p := ⟨gb1270, 2, none⟩) (Kd.R_far (p := ⟨gb1270, 1, none⟩) (Kd.R_far (p := ⟨gb1270, 0, none⟩) (Kd.R_types HO1265.out BK1270.out (by decide)) (fun _ hk => hk.2) (.int .i64 t1261)) (fun _ hk => hk.2) (.int .i64 t1262)) (fun _ hk => hk.2) (.slice Ao17 t1263.length co17)) (fun _ hk => hk.2) (.slice Ao18 t1266.length co18)) (fun _ hk => hk.1.2)⟩, ⟨by (with_reducible repeat (first | apply Kd.R_alloc | apply Kd.R_drewN | apply Kd.R_drew)); exact Kd.R_mono (Kd.R_far (p := ⟨gb1270, 3, none⟩) (Kd.R_far (p := ⟨gb1270, 2, none⟩) (Kd.R_far (p := ⟨gb1270, 1, none⟩) (Kd.R_far (p := ⟨gb1270, 0, none⟩) (Kd.R_types HO1268.out BK1270.out (by decide)) (fun _ hk => hk.2) (.int .i64 t1261)) (fun _ hk => hk.2) (.int .i64 t1262)) (fun _ hk => hk.2) (.slice Ao17 t1263.length co17)) (fun _ hk => hk.2) (.slice Ao18 t1266.length co18)) (fun _ hk => hk.1.2)⟩, ⟨by (with_reducible repeat (first | refine blk_drewN ?_ _ | refine blk_drew ?_ | refine blk_alloc ?_ _)); refine blk_far ?_ NB1260_1270.out _; (with_reducible repeat (first | refine blk_drewN ?_ _ | refine blk_drew ?_ | refine blk_alloc ?_ _)); refine blk_far ?_ NB1260_1270.out _; (with_reducible repeat (first | refine blk_drewN ?_ _ | refine blk_drew ?_ | refine blk_alloc ?_ _)); refine blk_far ?_ NB1260_1270.out _; (with_reducible repeat (first | refine blk_drewN ?_ _ | refine blk_drew ?_ | refine blk_alloc ?_ _)); refine blk_far ?_ NB1260_1270.out _; (with_reducible repeat (first | refine blk_drewN ?_ _ | refine blk_drew ?_ | refine blk_alloc ?_ _)); exact BK1260.out⟩, ⟨by (with_reducible repeat (first | refine blk_drewN ?_ _ | refine blk_drew ?_ | refine blk_alloc ?_ _)); refine blk_put (cs := #[.int .i64 t1261, .int .i64 t1262, .slice Ao17 t1263.length co17, .slice none 0 0]) ?_ 3 _ rfl; (with_reducible repeat (first | refine blk_drewN ?_ _ | refine blk_drew ?_ | refine blk_alloc ?_ _)); refine blk_put (cs := #[.int .i64 t1261, .int .i64 t1262, .slice none 0 0, .slice none 0 0]) ?_ 2 _ rfl; (with_reducible repeat (first | refine blk_drewN ?_ _ | refine blk_drew ?_ | refine blk_alloc ?_ _)); refine blk_put (cs := #[.int .i64 t1261, .int .i64 0, .slice none 0 0, .slice none 0 0]) ?_ 1 _ rfl; (with_reducible repeat (first | refine blk_drewN ?_ _ | refine blk_drew ?_ | refine blk_alloc ?_ _)); refine blk_put (cs := #[.int .i64 0, .int .i64 0, .slice none 0 0, .slice none 0 0]) ?_ 0 _ rfl; (with_reducible repeat (first | refine blk_drewN ?_ _ | refine blk_drew ?_ | refine blk_alloc ?_ _)); exact BK1270.out⟩, ⟨by repeat (first | (with_reducible first | exact HB.out | apply below_alloc | apply pw_below_drewN | apply below_drew1 | refine below_set ?_ GE1260.out | refine below_set ?_ GE1270.out) | exact HB.out)⟩⟩
   ·rw [if_neg c19] at H
    have c19b0 : (t1269 != t1259) = false := by simpa using c19
    (try (have c19b1 : decide (t1269 = t1259) = true := by simpa using c19))
    (try (have c19b2 : (t1269 == t1259) = true := by simpa using c19))
    clear c19
    (first | rw [c19b0] | (simp only [i64_w, i32_w]; rw [c19b0]) | skip)
    replace H := Option.bind_eq_some_iff.mp H
    obtain ⟨t1271, A200, H⟩ := H
    replace H : (if t1271 = true then (laws_FnServNew.j0 k t1250 t1259 t1269 (!t1269) t1251 t1252 t1253 t1256 t1261 t1262 t1263 t1266) else (laws_FnServNew.j0 k t1250 t1259 t1269 true t1251 t1252 t1253 t1256 t1261 t1262 t1263 t1266)) = some r := H
    have A20 := Aside0.mk A200
    clear A200
    by_cases c21 : t1271 = true
    ·subst c21
     rw [if_pos rfl] at H
     have H' := Aside0.mk H
     clear H
     have hnb22 := NB1270_1260.out
     have hnc22 := NB1260_1270.out
     have hcz23_0 : w14.cell? ⟨gb1270, 0, none⟩ = some (.int .i64 0) := (blk_cell BK1270.out 0).trans rfl
     have hcz23_1 : w14.cell? ⟨gb1270, 1, none⟩ = some (.int .i64 0) := (blk_cell BK1270.out 1).trans rfl
     have hcz23_2 : w14.cell? ⟨gb1270, 2, none⟩ = some (.slice none 0 0) := (blk_cell BK1270.out 2).trans rfl
     have hcz23_3 : w14.cell? ⟨gb1270, 3, none⟩ = some (.slice none 0 0) := (blk_cell BK1270.out 3).trans rfl
     have hfz23_0 := blk_frozen BK1270.out 0
     have hfz23_1 := blk_frozen BK1270.out 1
     have hfz23_2 := blk_frozen BK1270.out 2
     have hfz23_3 := blk_frozen BK1270.out 3
     have hcz24_0 : w14.cell? ⟨gb1260, 0, none⟩ = some (.int .i64 t1251) := (blk_cell BK1260.out 0).trans rfl
     have hcz24_1 : w14.cell? ⟨gb1260, 1, none⟩ = some (.int .i64 t1252) := (blk_cell BK1260.out 1).trans rfl
     have hcz24_2 : w14.cell? ⟨gb1260, 2, none⟩ = some (.slice Ao11 t1253.length co11) := (blk_cell BK1260.out 2).trans rfl
     have hcz24_3 : w14.cell? ⟨gb1260, 3, none⟩ = some (.slice Ao12 t1256.length co12) := (blk_cell BK1260.out 3).trans rfl
     have hfz24_0 := blk_frozen BK1260.out 0
     have hfz24_1 := blk_frozen BK1260.out 1
     have hfz24_2 := blk_frozen BK1260.out 2
     have hfz24_3 := blk_frozen BK1260.out 3
     go_wp2_with (first | (go_at_call 75; (with_reducible refine (laws_lbServ.calls k t1261 t1262 _ _ t1263 _ _ t1266 t1251 t1252 _ _ t1253 _ _ t1256 true _ ?side1 ?side2 ?side3 ?side4 ?side5 ?side6 ?side7 ?side8 A20.out).mono ?_); (case side1 => refine (Kd.R_reads' (e := 57) (base := w.heap.size) (ok := fun k_ => (True ∧ some k_ ≠ (.slice Ao11 t1253.length co11 : Value).ownBlock)) (n := t1263.length) (c := co17) ?_).2.2; exact z110x6); (case side2 => exact (Kd.R_reads' HO1265.out).2.1); (case side3 => refine (Kd.R_reads' (e := 125) (base := w.heap.size) (ok := fun k_ => (True ∧ some k_ ≠ (.slice Ao12 t1256.length co12 : Value).ownBlock)) (n := t1266.length) (c := co18) ?_).2.2; exact z110x7); (case side4 => exact (Kd.R_reads' HO1268.out).2.1); (case side5 => refine (Kd.R_reads' (e := 57) (base := w.heap.size) (ok := fun k_ => (True ∧ some k_ ≠ (.slice Ao17 t1263.length co17 : Value).ownBlock)) (n := t1253.length) (c := co11) ?_).2.2; exact z110x4); (case side6 => exact (Kd.R_reads' HO1255.out).2.1); (case side7 => refine (Kd.R_reads' (e := 125) (base := w.heap.size) (ok := fun k_ => (True ∧ some k_ ≠ (.slice Ao18 t1266.length co18 : Value).ownBlock)) (n := t1256.length) (c := co12) ?_).2.2; exact z110x5); (case side8 => exact (Kd.R_reads' HO1258.out).2.1); rintro e w25 ⟨rfl, hb⟩; have n0_ := Aside0.mk (Kd.R_below z110x4 hb); have n1_ := Aside0.mk (Kd.R_below z110x5 hb); have n2_ := Aside0.mk (Kd.R_below z110x6 hb); have n3_ := Aside0.mk (Kd.R_below z110x7 hb); have n4_ := Aside0.mk (blk_below (g := gb1260) (o := .cells #[.int .i64 t1251, .int .i64 t1252, .slice Ao11 t1253.length co11, .slice Ao12 t1256.length co12] 35 (0, 0)) z110x1 hb); have n5_ := Aside0.mk (blk_below (g := gb1270) (o := .cells #[.int .i64 t1261, .int .i64 t1262, .slice Ao17 t1263.length co17, .slice Ao18 t1266.length co18] 35 (0, 0)) z110x0 hb); have n6_ := Aside0.mk (below_step z110x8 hb); clear HO1255; clear HO1258; clear HO1265; clear HO1268; clear BK1260; clear BK1270; clear HB; have HO1255 := n0_; have HO1258 := n1_; have HO1265 := n2_; have HO1268 := n3_; have BK1260 := n4_; have BK1270 := n5_; have HB := n6_; clear n0_ n1_ n2_ n3_ n4_ n5_ n6_; (try clear hb); (try clear hb2); (try clear hk); (try clear hi)))
     go_meet
     case rel => exact ⟨_, (!t1269), (by first | rfl | (simp; done) | (simp [*]; done)), H', ⟨by first | omega | exact Nat.le_refl _⟩, ⟨by (with_reducible repeat (first | apply Kd.R_alloc | apply Kd.R_drewN | apply Kd.R_drew)); exact Kd.R_mono HO1255.out (fun _ hk => hk.2)⟩, ⟨by (with_reducible repeat (first | apply Kd.R_alloc | apply Kd.R_drewN | apply Kd.R_drew)); exact Kd.R_mono HO1258.out (fun _ hk => hk.2)⟩, ⟨by (with_reducible repeat (first | apply Kd.R_alloc | apply Kd.R_drewN | apply Kd.R_drew)); exact Kd.R_mono HO1265.out (fun _ hk => hk.2)⟩, ⟨by (with_reducible repeat (first | apply Kd.R_alloc | apply Kd.R_drewN | apply Kd.R_drew)); exact Kd.R_mono HO1268.out (fun _ hk => hk.2)⟩, ⟨by (with_reducible repeat (first | refine blk_drewN ?_ _ | refine blk_drew ?_ | refine blk_alloc ?_ _)); exact BK1260.out⟩, ⟨by (with_reducible repeat (first | refine blk_drewN ?_ _ | refine blk_drew ?_ | refine blk_alloc ?_ _)); exact BK1270.out⟩, ⟨by repeat (first | (with_reducible first | exact HB.out | apply below_alloc | apply pw_below_drewN | apply below_drew1 | refine below_set ?_ GE1260.out | refine below_set ?_ GE1270.out) | exact HB.out)⟩⟩
    ·replace c21 := Bool.eq_false_iff.mpr c21
     subst c21
     rw [if_neg (show ¬ (false = true) by decide)] at H
     have H' := Aside0.mk H
     clear H
     have hnb26 := NB1270_1260.out
     have hnc26 := NB1260_1270.out
     have hcz27_0 : w14.cell? ⟨gb1270, 0, none⟩ = some (.int .i64 0) := (blk_cell BK1270.out 0).trans rfl
     have hcz27_1 : w14.cell? ⟨gb1270, 1, none⟩ = some (.int .i64 0) := (blk_cell BK1270.out 1).trans rfl
     have hcz27_2 : w14.cell? ⟨gb1270, 2, none⟩ = some (.slice none 0 0) := (blk_cell BK1270.out 2).trans rfl
     have hcz27_3 : w14.cell? ⟨gb1270, 3, none⟩ = some (.slice none 0 0) := (blk_cell BK1270.out 3).trans rfl
     have hfz27_0 := blk_frozen BK1270.out 0
     have hfz27_1 := blk_frozen BK1270.out 1
     have hfz27_2 := blk_frozen BK1270.out 2
     have hfz27_3 := blk_frozen BK1270.out 3
     have hcz28_0 : w14.cell? ⟨gb1260, 0, none⟩ = some (.int .i64 t1251) := (blk_cell BK1260.out 0).trans rfl
     have hcz28_1 : w14.cell? ⟨gb1260, 1, none⟩ = some (.int .i64 t1252) := (blk_cell BK1260.out 1).trans rfl
     have hcz28_2 : w14.cell? ⟨gb1260, 2, none⟩ = some (.slice Ao11 t1253.length co11) := (blk_cell BK1260.out 2).trans rfl
     have hcz28_3 : w14.cell? ⟨gb1260, 3, none⟩ = some (.slice Ao12 t1256.length co12) := (blk_cell BK1260.out 3).trans rfl
     have hfz28_0 := blk_frozen BK1260.out 0
     have hfz28_1 := blk_frozen BK1260.out 1
     have hfz28_2 := blk_frozen BK1260.out 2
     have hfz28_3 := blk_frozen BK1260.out 3
     go_wp2_with (first | (go_at_call 75; (with_reducible refine (laws_lbServ.calls k t1261 t1262 _ _ t1263 _ _ t1266 t1251 t1252 _ _ t1253 _ _ t1256 false _ ?side1 ?side2 ?side3 ?side4 ?side5 ?side6 ?side7 ?side8 A20.out).mono ?_); (case side1 => refine (Kd.R_reads' (e := 57) (base := w.heap.size) (ok := fun k_ => (True ∧ some k_ ≠ (.slice Ao11 t1253.length co11 : Value).ownBlock)) (n := t1263.length) (c := co17) ?_).2.2; exact z110x6); (case side2 => exact (Kd.R_reads' HO1265.out).2.1); (case side3 => refine (Kd.R_reads' (e := 125) (base := w.heap.size) (ok := fun k_ => (True ∧ some k_ ≠ (.slice Ao12 t1256.length co12 : Value).ownBlock)) (n := t1266.length) (c := co18) ?_).2.2; exact z110x7); (case side4 => exact (Kd.R_reads' HO1268.out).2.1); (case side5 => refine (Kd.R_reads' (e := 57) (base := w.heap.size) (ok := fun k_ => (True ∧ some k_ ≠ (.slice Ao17 t1263.length co17 : Value).ownBlock)) (n := t1253.length) (c := co11) ?_).2.2; exact z110x4); (case side6 => exact (Kd.R_reads' HO1255.out).2.1); (case side7 => refine (Kd.R_reads' (e := 125) (base := w.heap.size) (ok := fun k_ => (True ∧ some k_ ≠ (.slice Ao18 t1266.length co18 : Value).ownBlock)) (n := t1256.length) (c := co12) ?_).2.2; exact z110x5); (case side8 => exact (Kd.R_reads' HO1258.out).2.1); rintro e w29 ⟨rfl, hb⟩; have n0_ := Aside0.mk (Kd.R_below z110x4 hb); have n1_ := Aside0.mk (Kd.R_below z110x5 hb); have n2_ := Aside0.mk (Kd.R_below z110x6 hb); have n3_ := Aside0.mk (Kd.R_below z110x7 hb); have n4_ := Aside0.mk (blk_below (g := gb1260) (o := .cells #[.int .i64 t1251, .int .i64 t1252, .slice Ao11 t1253.length co11, .slice Ao12 t1256.length co12] 35 (0, 0)) z110x1 hb); have n5_ := Aside0.mk (blk_below (g := gb1270) (o := .cells #[.int .i64 t1261, .int .i64 t1262, .slice Ao17 t1263.length co17, .slice Ao18 t1266.length co18] 35 (0, 0)) z110x0 hb); have n6_ := Aside0.mk (below_step z110x8 hb); clear HO1255; clear HO1258; clear HO1265; clear HO1268; clear BK1260; clear BK1270; clear HB; have HO1255 := n0_; have HO1258 := n1_; have HO1265 := n2_; have HO1268 := n3_; have BK1260 := n4_; have BK1270 := n5_; have HB := n6_; clear n0_ n1_ n2_ n3_ n4_ n5_ n6_; (try clear hb); (try clear hb2); (try clear hk); (try clear hi)))
     go_meet
     case rel => exact ⟨_, (true), (by first | rfl | (simp; done) | (simp [*]; done)), H', ⟨by first | omega | exact Nat.le_refl _⟩, ⟨by (with_reducible repeat (first | apply Kd.R_alloc | apply Kd.R_drewN | apply Kd.R_drew)); exact Kd.R_mono HO1255.out (fun _ hk => hk.2)⟩, ⟨by (with_reducible repeat (first | apply Kd.R_alloc | apply Kd.R_drewN | apply Kd.R_drew)); exact Kd.R_mono HO1258.out (fun _ hk => hk.2)⟩, ⟨by (with_reducible repeat (first | apply Kd.R_alloc | apply Kd.R_drewN | apply Kd.R_drew)); exact Kd.R_mono HO1265.out (fun _ hk => hk.2)⟩, ⟨by (with_reducible repeat (first | apply Kd.R_alloc | apply Kd.R_drewN | apply Kd.R_drew)); exact Kd.R_mono HO1268.out (fun _ hk => hk.2)⟩, ⟨by (with_reducible repeat (first | refine blk_drewN ?_ _ | refine blk_drew ?_ | refine blk_alloc ?_ _)); exact BK1260.out⟩, ⟨by (with_reducible repeat (first | refine blk_drewN ?_ _ | refine blk_drew ?_ | refine blk_alloc ?_ _)); exact BK1270.out⟩, ⟨by repeat (first | (with_reducible first | exact HB.out | apply below_alloc | apply pw_below_drewN | apply below_drew1 | refine below_set ?_ GE1260.out | refine below_set ?_ GE1270.out) | exact HB.out)⟩⟩
  case rest =>
   clear HC6
   try clear c1
   try clear c2
   try clear c2b0
   try clear c2b1
   try clear p2
   try clear c7
   try clear c15
   try clear c18
   try clear c19
   try clear c19b0
   try clear c19b1
   try clear c19b2
   try clear c21
   try clear c22
   try clear c24
   try clear c25
   try clear c26
   try clear hcz10_0
   try clear hcz10_1
   try clear hcz10_2
   try clear hcz10_3
   try clear hcz16_0
   try clear hcz16_1
   try clear hcz16_2
   try clear hcz16_3
   try clear hcz23_0
   try clear hcz23_1
   try clear hcz23_2
   try clear hcz23_3
   try clear hcz24_0
   try clear hcz24_1
   try clear hcz24_2
   try clear hcz24_3
   try clear hcz27_0
   try clear hcz27_1
   try clear hcz27_2
   try clear hcz27_3
   try clear hcz28_0
   try clear hcz28_1
   try clear hcz28_2
   try clear hcz28_3
   try clear hfz10_0
   try clear hfz10_1
   try clear hfz10_2
   try clear hfz10_3
   try clear hfz16_0
   try clear hfz16_1
   try clear hfz16_2
   try clear hfz16_3
   try clear hfz23_0
   try clear hfz23_1
   try clear hfz23_2
   try clear hfz23_3
   try clear hfz24_0
   try clear hfz24_1
   try clear hfz24_2
   try clear hfz24_3
   try clear hfz27_0
   try clear hfz27_1
   try clear hfz27_2
   try clear hfz27_3
   try clear hfz28_0
   try clear hfz28_1
   try clear hfz28_2
   try clear hfz28_3
   obtain ⟨kq, x35_5, rfl, HA, HJ5, HO_1261002, HO_1261003, HO_1271002, HO_1271003, BK1260, BK1270, HB⟩ := hcut
   cases kq with
   | zero => exact absurd HA.out (by simp [laws_FnServNew.j0])
   | succ kj5 =>
    have H := HA.out
    clear HA
    simp only [laws_FnServNew.j0] at H
    by_cases c30 : x35_5 = true
    ·subst c30
     rw [if_pos rfl] at H
     by_cases c31 : (t1269 == t1259) = true
     ·rw [if_pos c31] at H
      have c31b0 : (t1269 == t1259) = true := c31
      (try (have c31b1 : decide (t1269 = t1259) = true := by simpa using c31))
      (try (have c31b2 : (t1269 == t1259) = true := by simpa using c31))
      clear c31
      replace H := Option.bind_eq_some_iff.mp H
      obtain ⟨t1272, A320, H⟩ := H
      replace H : (some t1272) = some r := H
      have A32 := Aside0.mk A320
      clear A320
      obtain rfl := Option.some.inj H
      have hnb33 := NB1270_1260.out
      have hnc33 := NB1260_1270.out
      have hcz34_0 : wc.cell? ⟨gb1270, 0, none⟩ = some (.int .i64 t1261) := (blk_cell BK1270.out 0).trans rfl
      have hcz34_1 : wc.cell? ⟨gb1270, 1, none⟩ = some (.int .i64 t1262) := (blk_cell BK1270.out 1).trans rfl
      have hcz34_2 : wc.cell? ⟨gb1270, 2, none⟩ = some (.slice Ao17 t1263.length co17) := (blk_cell BK1270.out 2).trans rfl
      have hcz34_3 : wc.cell? ⟨gb1270, 3, none⟩ = some (.slice Ao18 t1266.length co18) := (blk_cell BK1270.out 3).trans rfl
      have hfz34_0 := blk_frozen BK1270.out 0
      have hfz34_1 := blk_frozen BK1270.out 1
      have hfz34_2 := blk_frozen BK1270.out 2
      have hfz34_3 := blk_frozen BK1270.out 3
      have hcz35_0 : wc.cell? ⟨gb1260, 0, none⟩ = some (.int .i64 t1251) := (blk_cell BK1260.out 0).trans rfl
      have hcz35_1 : wc.cell? ⟨gb1260, 1, none⟩ = some (.int .i64 t1252) := (blk_cell BK1260.out 1).trans rfl
      have hcz35_2 : wc.cell? ⟨gb1260, 2, none⟩ = some (.slice Ao11 t1253.length co11) := (blk_cell BK1260.out 2).trans rfl
      have hcz35_3 : wc.cell? ⟨gb1260, 3, none⟩ = some (.slice Ao12 t1256.length co12) := (blk_cell BK1260.out 3).trans rfl
      have hfz35_0 := blk_frozen BK1260.out 0
      have hfz35_1 := blk_frozen BK1260.out 1
      have hfz35_2 := blk_frozen BK1260.out 2
      have hfz35_3 := blk_frozen BK1260.out 3
      go_wp2_with (first | (go_at_call 75; (with_reducible refine (laws_lbServ.calls kj5 t1261 t1262 _ _ t1263 _ _ t1266 t1251 t1252 _ _ t1253 _ _ t1256 t1272 _ ?side1 ?side2 ?side3 ?side4 ?side5 ?side6 ?side7 ?side8 A32.out).mono ?_); (case side1 => repeat (first | exact (Kd.R_reads' HO_1271002.out).2.2 | (with_reducible refine Kd.C_alloc ?_ _) | (with_reducible refine Kd.C_drewN ?_ _) | (with_reducible refine Kd.C_drew ?_))); (case side2 => exact (Kd.R_reads' HO_1271002.out).2.1); (case side3 => repeat (first | exact (Kd.R_reads' HO_1271003.out).2.2 | (with_reducible refine Kd.C_alloc ?_ _) | (with_reducible refine Kd.C_drewN ?_ _) | (with_reducible refine Kd.C_drew ?_))); (case side4 => exact (Kd.R_reads' HO_1271003.out).2.1); (case side5 => repeat (first | exact (Kd.R_reads' HO_1261002.out).2.2 | (with_reducible refine Kd.C_alloc ?_ _) | (with_reducible refine Kd.C_drewN ?_ _) | (with_reducible refine Kd.C_drew ?_))); (case side6 => exact (Kd.R_reads' HO_1261002.out).2.1); (case side7 => repeat (first | exact (Kd.R_reads' HO_1261003.out).2.2 | (with_reducible refine Kd.C_alloc ?_ _) | (with_reducible refine Kd.C_drewN ?_ _) | (with_reducible refine Kd.C_drew ?_))); (case side8 => exact (Kd.R_reads' HO_1261003.out).2.1); rintro e w36 ⟨rfl, hb⟩; have n0_ := Aside0.mk (Kd.R_below z110x15 hb); have n1_ := Aside0.mk (Kd.R_below z110x16 hb); have n2_ := Aside0.mk (Kd.R_below z110x17 hb); have n3_ := Aside0.mk (Kd.R_below z110x18 hb); have n4_ := Aside0.mk (blk_below (g := gb1260) (o := .cells #[.int .i64 t1251, .int .i64 t1252, .slice Ao11 t1253.length co11, .slice Ao12 t1256.length co12] 35 (0, 0)) z110x13 hb); have n5_ := Aside0.mk (blk_below (g := gb1270) (o := .cells #[.int .i64 t1261, .int .i64 t1262, .slice Ao17 t1263.length co17, .slice Ao18 t1266.length co18] 35 (0, 0)) z110x14 hb); have n6_ := Aside0.mk (below_step z110x8 hb); clear HO_1261002; clear HO_1261003; clear HO_1271002; clear HO_1271003; clear BK1260; clear BK1270; clear HB; have HO_1261002 := n0_; have HO_1261003 := n1_; have HO_1271002 := n2_; have HO_1271003 := n3_; have BK1260 := n4_; have BK1270 := n5_; have HB := n6_; clear n0_ n1_ n2_ n3_ n4_ n5_ n6_; (try clear hb); (try clear hb2); (try clear hk); (try clear hi)))
      go_ret
      exact ⟨by first | rfl | (simp [errW_none, errW_some] <;> rfl) | (simp [*, errW_none, errW_some] <;> rfl), by repeat (first | (with_reducible first | exact HB.out | apply below_alloc | apply pw_below_drewN | apply below_drew1 | refine below_set ?_ GE1260.out | refine below_set ?_ GE1270.out) | exact HB.out)⟩
     ·rw [if_neg c31] at H
      have c31b0 : (t1269 == t1259) = false := by simpa using c31
      (try (have c31b1 : decide (t1269 = t1259) = false := by simpa using c31))
      (try (have c31b2 : (t1269 == t1259) = false := by simpa using c31))
      (try (have c31b3 : ¬ (t1269 = t1259) := by simpa using c31))
      clear c31
      obtain rfl := Option.some.inj H
      go_wp2
      go_ret
      exact ⟨by first | rfl | (simp [errW_none, errW_some] <;> rfl) | (simp [*, errW_none, errW_some] <;> rfl), by repeat (first | (with_reducible first | exact HB.out | apply below_alloc | apply pw_below_drewN | apply below_drew1 | refine below_set ?_ GE1260.out | refine below_set ?_ GE1270.out) | exact HB.out)⟩
    ·replace c30 := Bool.eq_false_iff.mpr c30
     subst c30
     rw [if_neg (show ¬ (false = true) by decide)] at H
     replace H := Option.bind_eq_some_iff.mp H
     obtain ⟨t1273, A370, H⟩ := H
     replace H : (if t1273 = true then (if t1261 = t1250 then (if t1262 = (-1) then (some ((wrap64 ((t1263.length : Int) + (t1266.length : Int))) == 0)) else (some false)) else (some false)) else (some false)) = some r := H
     have A37 := Aside0.mk A370
     clear A370
     by_cases c38 : t1273 = true
     ·subst c38
      rw [if_pos rfl] at H
      by_cases c39 : t1261 = t1250
      ·rw [if_pos c39] at H
       have c39b0 : (t1261 == t1250) = true := beq_iff_eq.mpr c39
       have c39b1 : (t1261 != t1250) = false := bne_eq_false_iff_eq.mpr c39
       clear c39
       by_cases c40 : t1262 = (-1)
       ·rw [if_pos c40] at H
        have c40b0 : (t1262 == (-1)) = true := beq_iff_eq.mpr c40
        have c40b1 : (t1262 != (-1)) = false := bne_eq_false_iff_eq.mpr c40
        clear c40
        obtain rfl := Option.some.inj H
        have hnb41 := NB1270_1260.out
        have hnc41 := NB1260_1270.out
        have hcz42_0 : wc.cell? ⟨gb1270, 0, none⟩ = some (.int .i64 t1261) := (blk_cell BK1270.out 0).trans rfl
        have hcz42_1 : wc.cell? ⟨gb1270, 1, none⟩ = some (.int .i64 t1262) := (blk_cell BK1270.out 1).trans rfl
        have hcz42_2 : wc.cell? ⟨gb1270, 2, none⟩ = some (.slice Ao17 t1263.length co17) := (blk_cell BK1270.out 2).trans rfl
        have hcz42_3 : wc.cell? ⟨gb1270, 3, none⟩ = some (.slice Ao18 t1266.length co18) := (blk_cell BK1270.out 3).trans rfl
        have hfz42_0 := blk_frozen BK1270.out 0
        have hfz42_1 := blk_frozen BK1270.out 1
        have hfz42_2 := blk_frozen BK1270.out 2
        have hfz42_3 := blk_frozen BK1270.out 3
        go_wp2_with (first | ((with_reducible refine gate_callee (f := 43) rfl ?_); refine goesL_ (some 45) rfl rfl Try.func43 (by kernel_rfl) rfl #[.agg #[.int .i64 t1261, .int .i64 t1262, .slice Ao17 t1263.length co17, .slice Ao18 t1266.length co18]] rfl z110x11 ?_; (with_reducible refine (impl_ServOk.calls kj5 t1261 t1262 _ _ t1263 _ _ t1266 true _ ?side1 ?side2 ?side3 ?side4 A37.out).mono ?_); (case side1 => repeat (first | exact (Kd.R_reads' HO_1271002.out).2.2 | (with_reducible refine Kd.C_alloc ?_ _) | (with_reducible refine Kd.C_drewN ?_ _) | (with_reducible refine Kd.C_drew ?_))); (case side2 => exact (Kd.R_reads' HO_1271002.out).2.1); (case side3 => repeat (first | exact (Kd.R_reads' HO_1271003.out).2.2 | (with_reducible refine Kd.C_alloc ?_ _) | (with_reducible refine Kd.C_drewN ?_ _) | (with_reducible refine Kd.C_drew ?_))); (case side4 => exact (Kd.R_reads' HO_1271003.out).2.1); rintro e w43 ⟨rfl, hb⟩; refine ⟨_, rfl, ?_⟩; have n0_ := Aside0.mk (Kd.R_below z110x15 hb); have n1_ := Aside0.mk (Kd.R_below z110x16 hb); have n2_ := Aside0.mk (Kd.R_below z110x17 hb); have n3_ := Aside0.mk (Kd.R_below z110x18 hb); have n4_ := Aside0.mk (blk_below (g := gb1260) (o := .cells #[.int .i64 t1251, .int .i64 t1252, .slice Ao11 t1253.length co11, .slice Ao12 t1256.length co12] 35 (0, 0)) z110x13 hb); have n5_ := Aside0.mk (blk_below (g := gb1270) (o := .cells #[.int .i64 t1261, .int .i64 t1262, .slice Ao17 t1263.length co17, .slice Ao18 t1266.length co18] 35 (0, 0)) z110x14 hb); have n6_ := Aside0.mk (below_step z110x8 hb); clear HO_1261002; clear HO_1261003; clear HO_1271002; clear HO_1271003; clear BK1260; clear BK1270; clear HB; have HO_1261002 := n0_; have HO_1261003 := n1_; have HO_1271002 := n2_; have HO_1271003 := n3_; have BK1260 := n4_; have BK1270 := n5_; have HB := n6_; clear n0_ n1_ n2_ n3_ n4_ n5_ n6_; (try clear hb); (try clear hb2); (try clear hk); (try clear hi); have hcz44_0 : w43.cell? ⟨gb1270, 0, none⟩ = some (.int .i64 t1261) := (blk_cell BK1270.out 0).trans rfl; have hcz44_1 : w43.cell? ⟨gb1270, 1, none⟩ = some (.int .i64 t1262) := (blk_cell BK1270.out 1).trans rfl; have hcz44_2 : w43.cell? ⟨gb1270, 2, none⟩ = some (.slice Ao17 t1263.length co17) := (blk_cell BK1270.out 2).trans rfl; have hcz44_3 : w43.cell? ⟨gb1270, 3, none⟩ = some (.slice Ao18 t1266.length co18) := (blk_cell BK1270.out 3).trans rfl; have hfz44_0 := blk_frozen BK1270.out 0; have hfz44_1 := blk_frozen BK1270.out 1; have hfz44_2 := blk_frozen BK1270.out 2; have hfz44_3 := blk_frozen BK1270.out 3))
        go_ret
        exact ⟨by first | rfl | (simp [errW_none, errW_some] <;> rfl) | (simp [*, errW_none, errW_some] <;> rfl), by repeat (first | (with_reducible first | exact HB.out | apply below_alloc | apply pw_below_drewN | apply below_drew1 | refine below_set ?_ GE1260.out | refine below_set ?_ GE1270.out) | exact HB.out)⟩
       ·rw [if_neg c40] at H
        have c40b0 : (t1262 == (-1)) = false := beq_eq_false_iff_ne.mpr c40
        have c40b1 : (t1262 != (-1)) = true := bne_iff_ne.mpr c40
        obtain rfl := Option.some.inj H
        have hnb45 := NB1270_1260.out
        have hnc45 := NB1260_1270.out
        have hcz46_0 : wc.cell? ⟨gb1270, 0, none⟩ = some (.int .i64 t1261) := (blk_cell BK1270.out 0).trans rfl
        have hcz46_1 : wc.cell? ⟨gb1270, 1, none⟩ = some (.int .i64 t1262) := (blk_cell BK1270.out 1).trans rfl
        have hcz46_2 : wc.cell? ⟨gb1270, 2, none⟩ = some (.slice Ao17 t1263.length co17) := (blk_cell BK1270.out 2).trans rfl
        have hcz46_3 : wc.cell? ⟨gb1270, 3, none⟩ = some (.slice Ao18 t1266.length co18) := (blk_cell BK1270.out 3).trans rfl
        have hfz46_0 := blk_frozen BK1270.out 0
        have hfz46_1 := blk_frozen BK1270.out 1
        have hfz46_2 := blk_frozen BK1270.out 2
        have hfz46_3 := blk_frozen BK1270.out 3
        go_wp2_with (first | ((with_reducible refine gate_callee (f := 43) rfl ?_); refine goesL_ (some 45) rfl rfl Try.func43 (by kernel_rfl) rfl #[.agg #[.int .i64 t1261, .int .i64 t1262, .slice Ao17 t1263.length co17, .slice Ao18 t1266.length co18]] rfl z110x11 ?_; (with_reducible refine (impl_ServOk.calls kj5 t1261 t1262 _ _ t1263 _ _ t1266 true _ ?side1 ?side2 ?side3 ?side4 A37.out).mono ?_); (case side1 => repeat (first | exact (Kd.R_reads' HO_1271002.out).2.2 | (with_reducible refine Kd.C_alloc ?_ _) | (with_reducible refine Kd.C_drewN ?_ _) | (with_reducible refine Kd.C_drew ?_))); (case side2 => exact (Kd.R_reads' HO_1271002.out).2.1); (case side3 => repeat (first | exact (Kd.R_reads' HO_1271003.out).2.2 | (with_reducible refine Kd.C_alloc ?_ _) | (with_reducible refine Kd.C_drewN ?_ _) | (with_reducible refine Kd.C_drew ?_))); (case side4 => exact (Kd.R_reads' HO_1271003.out).2.1); rintro e w47 ⟨rfl, hb⟩; refine ⟨_, rfl, ?_⟩; have n0_ := Aside0.mk (Kd.R_below z110x15 hb); have n1_ := Aside0.mk (Kd.R_below z110x16 hb); have n2_ := Aside0.mk (Kd.R_below z110x17 hb); have n3_ := Aside0.mk (Kd.R_below z110x18 hb); have n4_ := Aside0.mk (blk_below (g := gb1260) (o := .cells #[.int .i64 t1251, .int .i64 t1252, .slice Ao11 t1253.length co11, .slice Ao12 t1256.length co12] 35 (0, 0)) z110x13 hb); have n5_ := Aside0.mk (blk_below (g := gb1270) (o := .cells #[.int .i64 t1261, .int .i64 t1262, .slice Ao17 t1263.length co17, .slice Ao18 t1266.length co18] 35 (0, 0)) z110x14 hb); have n6_ := Aside0.mk (below_step z110x8 hb); clear HO_1261002; clear HO_1261003; clear HO_1271002; clear HO_1271003; clear BK1260; clear BK1270; clear HB; have HO_1261002 := n0_; have HO_1261003 := n1_; have HO_1271002 := n2_; have HO_1271003 := n3_; have BK1260 := n4_; have BK1270 := n5_; have HB := n6_; clear n0_ n1_ n2_ n3_ n4_ n5_ n6_; (try clear hb); (try clear hb2); (try clear hk); (try clear hi); have hcz48_0 : w47.cell? ⟨gb1270, 0, none⟩ = some (.int .i64 t1261) := (blk_cell BK1270.out 0).trans rfl; have hcz48_1 : w47.cell? ⟨gb1270, 1, none⟩ = some (.int .i64 t1262) := (blk_cell BK1270.out 1).trans rfl; have hcz48_2 : w47.cell? ⟨gb1270, 2, none⟩ = some (.slice Ao17 t1263.length co17) := (blk_cell BK1270.out 2).trans rfl; have hcz48_3 : w47.cell? ⟨gb1270, 3, none⟩ = some (.slice Ao18 t1266.length co18) := (blk_cell BK1270.out 3).trans rfl; have hfz48_0 := blk_frozen BK1270.out 0; have hfz48_1 := blk_frozen BK1270.out 1; have hfz48_2 := blk_frozen BK1270.out 2; have hfz48_3 := blk_frozen BK1270.out 3))
        go_ret
        exact ⟨by first | rfl | (simp [errW_none, errW_some] <;> rfl) | (simp [*, errW_none, errW_some] <;> rfl), by repeat (first | (with_reducible first | exact HB.out | apply below_alloc | apply pw_below_drewN | apply below_drew1 | refine below_set ?_ GE1260.out | refine below_set ?_ GE1270.out) | exact HB.out)⟩
      ·rw [if_neg c39] at H
       have c39b0 : (t1261 == t1250) = false := beq_eq_false_iff_ne.mpr c39
       have c39b1 : (t1261 != t1250) = true := bne_iff_ne.mpr c39
       obtain rfl := Option.some.inj H
       have hnb49 := NB1270_1260.out
       have hnc49 := NB1260_1270.out
       have hcz50_0 : wc.cell? ⟨gb1270, 0, none⟩ = some (.int .i64 t1261) := (blk_cell BK1270.out 0).trans rfl
       have hcz50_1 : wc.cell? ⟨gb1270, 1, none⟩ = some (.int .i64 t1262) := (blk_cell BK1270.out 1).trans rfl
       have hcz50_2 : wc.cell? ⟨gb1270, 2, none⟩ = some (.slice Ao17 t1263.length co17) := (blk_cell BK1270.out 2).trans rfl
       have hcz50_3 : wc.cell? ⟨gb1270, 3, none⟩ = some (.slice Ao18 t1266.length co18) := (blk_cell BK1270.out 3).trans rfl
       have hfz50_0 := blk_frozen BK1270.out 0
       have hfz50_1 := blk_frozen BK1270.out 1
       have hfz50_2 := blk_frozen BK1270.out 2
       have hfz50_3 := blk_frozen BK1270.out 3
       go_wp2_with (first | ((with_reducible refine gate_callee (f := 43) rfl ?_); refine goesL_ (some 45) rfl rfl Try.func43 (by kernel_rfl) rfl #[.agg #[.int .i64 t1261, .int .i64 t1262, .slice Ao17 t1263.length co17, .slice Ao18 t1266.length co18]] rfl z110x11 ?_; (with_reducible refine (impl_ServOk.calls kj5 t1261 t1262 _ _ t1263 _ _ t1266 true _ ?side1 ?side2 ?side3 ?side4 A37.out).mono ?_); (case side1 => repeat (first | exact (Kd.R_reads' HO_1271002.out).2.2 | (with_reducible refine Kd.C_alloc ?_ _) | (with_reducible refine Kd.C_drewN ?_ _) | (with_reducible refine Kd.C_drew ?_))); (case side2 => exact (Kd.R_reads' HO_1271002.out).2.1); (case side3 => repeat (first | exact (Kd.R_reads' HO_1271003.out).2.2 | (with_reducible refine Kd.C_alloc ?_ _) | (with_reducible refine Kd.C_drewN ?_ _) | (with_reducible refine Kd.C_drew ?_))); (case side4 => exact (Kd.R_reads' HO_1271003.out).2.1); rintro e w51 ⟨rfl, hb⟩; refine ⟨_, rfl, ?_⟩; have n0_ := Aside0.mk (Kd.R_below z110x15 hb); have n1_ := Aside0.mk (Kd.R_below z110x16 hb); have n2_ := Aside0.mk (Kd.R_below z110x17 hb); have n3_ := Aside0.mk (Kd.R_below z110x18 hb); have n4_ := Aside0.mk (blk_below (g := gb1260) (o := .cells #[.int .i64 t1251, .int .i64 t1252, .slice Ao11 t1253.length co11, .slice Ao12 t1256.length co12] 35 (0, 0)) z110x13 hb); have n5_ := Aside0.mk (blk_below (g := gb1270) (o := .cells #[.int .i64 t1261, .int .i64 t1262, .slice Ao17 t1263.length co17, .slice Ao18 t1266.length co18] 35 (0, 0)) z110x14 hb); have n6_ := Aside0.mk (below_step z110x8 hb); clear HO_1261002; clear HO_1261003; clear HO_1271002; clear HO_1271003; clear BK1260; clear BK1270; clear HB; have HO_1261002 := n0_; have HO_1261003 := n1_; have HO_1271002 := n2_; have HO_1271003 := n3_; have BK1260 := n4_; have BK1270 := n5_; have HB := n6_; clear n0_ n1_ n2_ n3_ n4_ n5_ n6_; (try clear hb); (try clear hb2); (try clear hk); (try clear hi); have hcz52_0 : w51.cell? ⟨gb1270, 0, none⟩ = some (.int .i64 t1261) := (blk_cell BK1270.out 0).trans rfl; have hcz52_1 : w51.cell? ⟨gb1270, 1, none⟩ = some (.int .i64 t1262) := (blk_cell BK1270.out 1).trans rfl; have hcz52_2 : w51.cell? ⟨gb1270, 2, none⟩ = some (.slice Ao17 t1263.length co17) := (blk_cell BK1270.out 2).trans rfl; have hcz52_3 : w51.cell? ⟨gb1270, 3, none⟩ = some (.slice Ao18 t1266.length co18) := (blk_cell BK1270.out 3).trans rfl; have hfz52_0 := blk_frozen BK1270.out 0; have hfz52_1 := blk_frozen BK1270.out 1; have hfz52_2 := blk_frozen BK1270.out 2; have hfz52_3 := blk_frozen BK1270.out 3))
       go_ret
       exact ⟨by first | rfl | (simp [errW_none, errW_some] <;> rfl) | (simp [*, errW_none, errW_some] <;> rfl), by repeat (first | (with_reducible first | exact HB.out | apply below_alloc | apply pw_below_drewN | apply below_drew1 | refine below_set ?_ GE1260.out | refine below_set ?_ GE1270.out) | exact HB.out)⟩
     ·replace c38 := Bool.eq_false_iff.mpr c38
      subst c38
      rw [if_neg (show ¬ (false = true) by decide)] at H
      obtain rfl := Option.some.inj H
      have hnb53 := NB1270_1260.out
      have hnc53 := NB1260_1270.out
      have hcz54_0 : wc.cell? ⟨gb1270, 0, none⟩ = some (.int .i64 t1261) := (blk_cell BK1270.out 0).trans rfl
      have hcz54_1 : wc.cell? ⟨gb1270, 1, none⟩ = some (.int .i64 t1262) := (blk_cell BK1270.out 1).trans rfl
      have hcz54_2 : wc.cell? ⟨gb1270, 2, none⟩ = some (.slice Ao17 t1263.length co17) := (blk_cell BK1270.out 2).trans rfl
      have hcz54_3 : wc.cell? ⟨gb1270, 3, none⟩ = some (.slice Ao18 t1266.length co18) := (blk_cell BK1270.out 3).trans rfl
      have hfz54_0 := blk_frozen BK1270.out 0
      have hfz54_1 := blk_frozen BK1270.out 1
      have hfz54_2 := blk_frozen BK1270.out 2
      have hfz54_3 := blk_frozen BK1270.out 3
      go_wp2_with (first | ((with_reducible refine gate_callee (f := 43) rfl ?_); refine goesL_ (some 45) rfl rfl Try.func43 (by kernel_rfl) rfl #[.agg #[.int .i64 t1261, .int .i64 t1262, .slice Ao17 t1263.length co17, .slice Ao18 t1266.length co18]] rfl z110x11 ?_; (with_reducible refine (impl_ServOk.calls kj5 t1261 t1262 _ _ t1263 _ _ t1266 false _ ?side1 ?side2 ?side3 ?side4 A37.out).mono ?_); (case side1 => repeat (first | exact (Kd.R_reads' HO_1271002.out).2.2 | (with_reducible refine Kd.C_alloc ?_ _) | (with_reducible refine Kd.C_drewN ?_ _) | (with_reducible refine Kd.C_drew ?_))); (case side2 => exact (Kd.R_reads' HO_1271002.out).2.1); (case side3 => repeat (first | exact (Kd.R_reads' HO_1271003.out).2.2 | (with_reducible refine Kd.C_alloc ?_ _) | (with_reducible refine Kd.C_drewN ?_ _) | (with_reducible refine Kd.C_drew ?_))); (case side4 => exact (Kd.R_reads' HO_1271003.out).2.1); rintro e w55 ⟨rfl, hb⟩; refine ⟨_, rfl, ?_⟩; have n0_ := Aside0.mk (Kd.R_below z110x15 hb); have n1_ := Aside0.mk (Kd.R_below z110x16 hb); have n2_ := Aside0.mk (Kd.R_below z110x17 hb); have n3_ := Aside0.mk (Kd.R_below z110x18 hb); have n4_ := Aside0.mk (blk_below (g := gb1260) (o := .cells #[.int .i64 t1251, .int .i64 t1252, .slice Ao11 t1253.length co11, .slice Ao12 t1256.length co12] 35 (0, 0)) z110x13 hb); have n5_ := Aside0.mk (blk_below (g := gb1270) (o := .cells #[.int .i64 t1261, .int .i64 t1262, .slice Ao17 t1263.length co17, .slice Ao18 t1266.length co18] 35 (0, 0)) z110x14 hb); have n6_ := Aside0.mk (below_step z110x8 hb); clear HO_1261002; clear HO_1261003; clear HO_1271002; clear HO_1271003; clear BK1260; clear BK1270; clear HB; have HO_1261002 := n0_; have HO_1261003 := n1_; have HO_1271002 := n2_; have HO_1271003 := n3_; have BK1260 := n4_; have BK1270 := n5_; have HB := n6_; clear n0_ n1_ n2_ n3_ n4_ n5_ n6_; (try clear hb); (try clear hb2); (try clear hk); (try clear hi)))
      go_ret
      exact ⟨by first | rfl | (simp [errW_none, errW_some] <;> rfl) | (simp [*, errW_none, errW_some] <;> rfl), by repeat (first | (with_reducible first | exact HB.out | apply below_alloc | apply pw_below_drewN | apply below_drew1 | refine below_set ?_ GE1260.out | refine below_set ?_ GE1270.out) | exact HB.out)⟩

/-- THE ONE PURE STATEMENT of laws_FnServNew: yours. -/
def laws_FnServNew.Pure : Prop := ∀ (l0 : List Int), l0.length ≤ maxLen → l0.length * 1 ≤ 140737488351232 → (∀ x ∈ l0, (Lit.int .u8 x).wf = true) → ∃ k, laws_FnServNew.f k l0 = some true
theorem laws_FnServNew.walk (P : laws_FnServNew.Pure) (a0 : Option Addr) (len0 cap0 : Nat) (z0 : List Int) (w : World) (w0 : (a0 = none ∧ len0 = 0 ∧ cap0 = 0 ∧ z0 = []) ∨ ∃ x, a0 = some x ∧ len0 ≤ cap0 ∧ cap0 ≤ maxLen ∧ z0.length = cap0 ∧ (∀ i, i < z0.length → w.cell? (x.add i) = some (.int .u8 (z0.getD i 0))) ∧ ∀ n ∈ z0, (Lit.int .u8 n).wf = true) (y0 : len0 * 1 ≤ 140737488351232) :
  Calls Try.prog 18 #[.slice a0 len0 cap0] w fun e w' => e = .returned (.bool true) ∧ Below w.heap.size w w' := by
 obtain ⟨l0, rfl, hr0, hm0, hw0, hc0⟩ := ReadsInt.ofRowC w0
 obtain ⟨k, h⟩ := P l0 hm0 y0 hw0
 refine (laws_FnServNew.calls k _ _ l0 true w (Kd.C_of_reads (d := (0 : Int)) (h1 := fun _ => rfl) hr0) hc0 h).mono ?_
 rintro e w' ⟨rfl, hd⟩
 exact ⟨rfl, hd⟩

end Go.Proofs.Ytpdeincniaiajaa.Hp
