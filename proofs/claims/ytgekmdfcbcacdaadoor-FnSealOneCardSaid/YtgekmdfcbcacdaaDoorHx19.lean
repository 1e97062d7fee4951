-- hp.py
import Derived.Test.YtgekmdfcbcacdaaDoorHx0
import Derived.Test.YtgekmdfcbcacdaaDoorHx1
import Derived.Test.YtgekmdfcbcacdaaDoorHx7
import Derived.Test.YtgekmdfcbcacdaaDoorHx10
import Derived.Test.YtgekmdfcbcacdaaDoorHx18
namespace Go.Proofs.YtgekmdfcbcacdaaDoor.Hp
open Go.RowKit Go.Proofs.YtgekmdfcbcacdaaDoorW.PrintWords Go.Proofs.YtgekmdfcbcacdaaDoorW.PrintLast Go.Proofs.YtgekmdfcbcacdaaDoorW.PrintMore
attribute [local go_sem] max2_int min2_int max_two min_two max_three min_three max_four min_four   -- for this text's walks alone
set_option linter.unusedVariables false
set_option linter.unusedSimpArgs false

attribute [local go_sem high] eqA24
-- squeezed by wip/tools/squeeze.py
theorem z19x6 {P : Prop} (h : P := by (with_reducible repeat (first | refine blk_drewN ?_ _ | refine blk_drew ?_ | refine blk_alloc ?_ _)); exact BK286.out) : P := h
theorem z19x5 {P : Prop} (h : P := by (with_reducible repeat (first | refine blk_drewN ?_ _ | refine blk_drew ?_ | refine blk_alloc ?_ _)); exact BK278.out) : P := h
theorem z19x4 {P : Prop} (h : P := by repeat (first | (with_reducible first | exact HB.out | apply below_alloc | apply pw_below_drewN | apply below_drew1) | exact HB.out)) : P := h
theorem z19x3 {P : Prop} (h : P := by (try simp only [List.map_toArray, List.map_cons, List.map_nil]); first | done | rfl | (simp only [List.length_drop, List.length_take]; rfl)) : P := h
theorem z19x2 {P : Prop} (h : P := by repeat (first | (with_reducible first | exact HB.out | apply below_alloc | apply pw_below_drewN | apply below_drew1 | refine below_set ?_ GE278.out) | exact HB.out)) : P := h
theorem z19x1 {P : Prop} (h : P := by rw [hg]; exact (below_size (by repeat (first | (with_reducible first | exact HB.out | apply below_alloc | apply pw_below_drewN | apply below_drew1 | refine below_set ?_ GE278.out) | exact HB.out)))) : P := h
theorem z19x0 {P : Prop} (h : P := by repeat (first | (with_reducible first | exact HB.out | apply below_alloc | apply pw_below_drewN | apply below_drew1 | refine below_set ?_ GE278.out | refine below_set ?_ GE286.out) | exact HB.out)) : P := h
/-! ### laws_FnSealOne: function 8 -/
mutual
def laws_FnSealOne.j0 : Nat → List Int → List Int → Bool → Option (Bool)
 | 0, _, _, _ => none
 | k + 1, x0, x1, x16 => if x16 = true then (some true) else ((spec_DrawSealText.f k x0).bind fun bt271 => ((spec_DrawSealText.f k x1).bind fun bt279 => ((impl_SealText.f bt271.1 bt271.2.1 bt271.2.2.1 bt271.2.2.2.1 bt271.2.2.2.2.1 bt271.2.2.2.2.2.1 bt271.2.2.2.2.2.2).bind fun t287 => ((impl_SealText.f bt279.1 bt279.2.1 bt279.2.2.1 bt279.2.2.2.1 bt279.2.2.2.2.1 bt279.2.2.2.2.2.1 bt279.2.2.2.2.2.2).bind fun t288 => ((spec_SealText.f k bt271.1 bt271.2.1 bt271.2.2.1 bt271.2.2.2.1 bt271.2.2.2.2.1 bt271.2.2.2.2.2.1 bt271.2.2.2.2.2.2).bind fun t289 => (if t287.toList = t289.toList then ((spec_SealText.f k bt279.1 bt279.2.1 bt279.2.2.1 bt279.2.2.2.1 bt279.2.2.2.2.1 bt279.2.2.2.2.2.1 bt279.2.2.2.2.2.2).bind fun t290 => (if t288.toList = t290.toList then (if t287.toList = ([] : List UInt8) then (laws_FnSealOne.j1 k t287 t288 true bt271.1 bt271.2.1 bt271.2.2.1 bt271.2.2.2.1 bt271.2.2.2.2.1 bt271.2.2.2.2.2.1 bt271.2.2.2.2.2.2 bt279.1 bt279.2.1 bt279.2.2.1 bt279.2.2.2.1 bt279.2.2.2.2.1 bt279.2.2.2.2.2.1 bt279.2.2.2.2.2.2) else (laws_FnSealOne.j1 k t287 t288 (t288.toList == ([] : List UInt8)) bt271.1 bt271.2.1 bt271.2.2.1 bt271.2.2.2.1 bt271.2.2.2.2.1 bt271.2.2.2.2.2.1 bt271.2.2.2.2.2.2 bt279.1 bt279.2.1 bt279.2.2.1 bt279.2.2.2.1 bt279.2.2.2.2.1 bt279.2.2.2.2.2.1 bt279.2.2.2.2.2.2)) else (laws_FnSealOne.j1 k t287 t288 true bt271.1 bt271.2.1 bt271.2.2.1 bt271.2.2.2.1 bt271.2.2.2.2.1 bt271.2.2.2.2.2.1 bt271.2.2.2.2.2.2 bt279.1 bt279.2.1 bt279.2.2.1 bt279.2.2.2.1 bt279.2.2.2.2.1 bt279.2.2.2.2.2.1 bt279.2.2.2.2.2.2))) else (laws_FnSealOne.j1 k t287 t288 true bt271.1 bt271.2.1 bt271.2.2.1 bt271.2.2.2.1 bt271.2.2.2.2.1 bt271.2.2.2.2.2.1 bt271.2.2.2.2.2.2 bt279.1 bt279.2.1 bt279.2.2.1 bt279.2.2.2.1 bt279.2.2.2.2.1 bt279.2.2.2.2.2.1 bt279.2.2.2.2.2.2)))))))
def laws_FnSealOne.j1 : Nat → ByteArray → ByteArray → Bool → Int → Int → Int → Int → Int → Int → Int → Int → Int → Int → Int → Int → Int → Int → Option (Bool)
 | 0, _, _, _, _, _, _, _, _, _, _, _, _, _, _, _, _, _ => none
 | k + 1, x7, x8, x42, x279000, x279001, x279002, x279003, x279004, x279005, x279006, x287000, x287001, x287002, x287003, x287004, x287005, x287006 => if x42 = true then ((spec_SealText.f k x279000 x279001 x279002 x279003 x279004 x279005 x279006).bind fun t291 => (if x7.toList = t291.toList then ((spec_SealText.f k x287000 x287001 x287002 x287003 x287004 x287005 x287006).bind fun t292 => (some (x8.toList == t292.toList))) else (some false))) else (some ((x7.toList == x8.toList) == (x279000 == x287000 && (x279001 == x287001 && (x279002 == x287002 && (x279003 == x287003 && (x279004 == x287004 && (x279005 == x287005 && (x279006 == x287006)))))))))
end
def laws_FnSealOne.f (k : Nat) (l0 : List Int) (l1 : List Int) : Option (Bool) := if (l0.length : Int) > 1048576 then (laws_FnSealOne.j0 k l0 l1 true) else (laws_FnSealOne.j0 k l0 l1 (decide ((l1.length : Int) > 1048576)))
theorem laws_FnSealOne.mono_l : ∀ k, (∀ y0 y1 y2, LeO (laws_FnSealOne.j0 k y0 y1 y2) (laws_FnSealOne.j0 (k + 1) y0 y1 y2)) ∧ (∀ y0 y1 y2 y3 y4 y5 y6 y7 y8 y9 y10 y11 y12 y13 y14 y15 y16, LeO (laws_FnSealOne.j1 k y0 y1 y2 y3 y4 y5 y6 y7 y8 y9 y10 y11 y12 y13 y14 y15 y16) (laws_FnSealOne.j1 (k + 1) y0 y1 y2 y3 y4 y5 y6 y7 y8 y9 y10 y11 y12 y13 y14 y15 y16))
 | 0 => ⟨fun _ _ _ r h => by simp [laws_FnSealOne.j0] at h, fun _ _ _ _ _ _ _ _ _ _ _ _ _ _ _ _ _ r h => by simp [laws_FnSealOne.j1] at h⟩
 | k + 1 => by
  obtain ⟨ih0, ih1⟩ := laws_FnSealOne.mono_l k
  refine ⟨?_, ?_⟩
  ·intro y0 y1 y2
   unfold laws_FnSealOne.j0
   repeat' first
   | (with_reducible exact ih0 _ _ _)
   | (with_reducible exact ih1 _ _ _ _ _ _ _ _ _ _ _ _ _ _ _ _ _)
   | (with_reducible exact spec_DrawSealText.mono _ _)
   | (with_reducible exact spec_SealText.mono _ _ _ _ _ _ _ _)
   | (with_reducible exact LeO.refl _)
   | (with_reducible exact LeO.none _)
   | (with_reducible refine LeO.ite ?_ ?_)
   | (with_reducible refine LeO.bind ?_ (fun _ => ?_))
   | exact ih0 _ _ _
   | exact ih1 _ _ _ _ _ _ _ _ _ _ _ _ _ _ _ _ _
   | exact spec_DrawSealText.mono _ _
   | exact spec_SealText.mono _ _ _ _ _ _ _ _
   | exact LeO.none _
   | refine LeO.ite ?_ ?_
   | refine LeO.bind ?_ (fun _ => ?_)
  ·intro y0 y1 y2 y3 y4 y5 y6 y7 y8 y9 y10 y11 y12 y13 y14 y15 y16
   unfold laws_FnSealOne.j1
   repeat' first
   | (with_reducible exact ih0 _ _ _)
   | (with_reducible exact ih1 _ _ _ _ _ _ _ _ _ _ _ _ _ _ _ _ _)
   | (with_reducible exact spec_DrawSealText.mono _ _)
   | (with_reducible exact spec_SealText.mono _ _ _ _ _ _ _ _)
   | (with_reducible exact LeO.refl _)
   | (with_reducible exact LeO.none _)
   | (with_reducible refine LeO.ite ?_ ?_)
   | (with_reducible refine LeO.bind ?_ (fun _ => ?_))
   | exact ih0 _ _ _
   | exact ih1 _ _ _ _ _ _ _ _ _ _ _ _ _ _ _ _ _
   | exact spec_DrawSealText.mono _ _
   | exact spec_SealText.mono _ _ _ _ _ _ _ _
   | exact LeO.none _
   | refine LeO.ite ?_ ?_
   | refine LeO.bind ?_ (fun _ => ?_)
theorem laws_FnSealOne.mono : ∀ a0 a1 k, LeO (laws_FnSealOne.f k a0 a1) (laws_FnSealOne.f (k + 1) a0 a1) := by
 intro a0 a1 k
 obtain ⟨ih0, ih1⟩ := laws_FnSealOne.mono_l k
 unfold laws_FnSealOne.f
 repeat' first
   | (with_reducible exact ih0 _ _ _)
   | (with_reducible exact ih1 _ _ _ _ _ _ _ _ _ _ _ _ _ _ _ _ _)
   | (with_reducible exact spec_DrawSealText.mono _ _)
   | (with_reducible exact spec_SealText.mono _ _ _ _ _ _ _ _)
   | (with_reducible exact LeO.refl _)
   | (with_reducible exact LeO.none _)
   | (with_reducible refine LeO.ite ?_ ?_)
   | (with_reducible refine LeO.bind ?_ (fun _ => ?_))
   | exact ih0 _ _ _
   | exact ih1 _ _ _ _ _ _ _ _ _ _ _ _ _ _ _ _ _
   | exact spec_DrawSealText.mono _ _
   | exact spec_SealText.mono _ _ _ _ _ _ _ _
   | exact LeO.none _
   | refine LeO.ite ?_ ?_
   | refine LeO.bind ?_ (fun _ => ?_)
set_option maxHeartbeats 8000000 in
set_option maxRecDepth 100000 in
theorem laws_FnSealOne.calls (k : Nat) (A0 : Option Addr) (c0 : Nat) (l0 : List Int) (A1 : Option Addr) (c1 : Nat) (l1 : List Int) (r : Bool) (w : World) (hr0 : Kd.C (Kd.int .u8) w A0 l0.length l0) (hc0 : l0.length ≤ c0) (hr1 : Kd.C (Kd.int .u8) w A1 l1.length l1) (hc1 : l1.length ≤ c1) (h : laws_FnSealOne.f k l0 l1 = some r) (ht : Tens w) :
  Calls Tryd.prog 8 #[.slice A0 l0.length c0, .slice A1 l1.length c1] w fun e w' => e = .returned (.bool r) ∧ Below w.heap.size w w' := by
 have HT := Aside0.mk ht
 clear ht
 have hu24 := Tryd.underlying24
 have HR0 := Aside0.mk hr0
 have HC0 := Aside0.mk hc0
 clear hr0 hc0
 have HR1 := Aside0.mk hr1
 have HC1 := Aside0.mk hc1
 clear hr1 hc1
 have HB := Aside0.mk (Below.refl w.heap.size w)
 have H : (if (l0.length : Int) > 1048576 then (laws_FnSealOne.j0 k l0 l1 true) else (laws_FnSealOne.j0 k l0 l1 (decide ((l1.length : Int) > 1048576)))) = some r := h
 clear h
 have HC3 := Aside0.mk H
 clear H
 go_enter Tryd.func8, Tryd.ntmps8
 go_upto_region 1 with (fail)
 go_cut [16] (fun v16 wc => ∃ (kq : Nat) (x16_2 : Bool), v16 = .bool x16_2 ∧ Aside0 (laws_FnSealOne.j0 kq l0 l1 x16_2 = some r) ∧ Aside0 (kq ≤ k) ∧ Aside0 (Below w.heap.size w wc))
 case first =>
  have H := HC3.out
  clear HC3
  by_cases c4 : (l0.length : Int) > 1048576
  ·rw [if_pos c4] at H
   have c4b0 : decide (1048576 < (l0.length : Int)) = true := decide_eq_true c4
   have c4b1 : decide (1048576 < l0.length) = true := decide_eq_true (by omega)
   clear c4
   (first | rw [c4b0] | (simp only [i64_w, i32_w]; rw [c4b0]) | skip)
   have H' := Aside0.mk H
   clear H
   go_wp2
   go_meet
   case rel => exact ⟨_, (true), (by first | rfl | (simp; done) | (simp [*]; done)), H', ⟨by first | omega | exact Nat.le_refl _⟩, ⟨by repeat (first | (with_reducible first | exact HB.out | apply below_alloc | apply pw_below_drewN | apply below_drew1) | exact HB.out)⟩⟩
  ·rw [if_neg c4] at H
   have c4b0 : decide (1048576 < (l0.length : Int)) = false := decide_eq_false c4
   have c4b1 : decide (1048576 < l0.length) = false := decide_eq_false (by omega)
   clear c4
   (first | rw [c4b0] | (simp only [i64_w, i32_w]; rw [c4b0]) | skip)
   have H' := Aside0.mk H
   clear H
   go_wp2
   go_meet
   case rel => exact ⟨_, (decide ((l1.length : Int) > 1048576)), (by first | rfl | (simp; done) | (simp [*]; done)), H', ⟨by first | omega | exact Nat.le_refl _⟩, ⟨by repeat (first | (with_reducible first | exact HB.out | apply below_alloc | apply pw_below_drewN | apply below_drew1) | exact HB.out)⟩⟩
 case rest =>
  clear HC3
  try clear c1
  try clear p2
  try clear c4
  try clear c4b0
  try clear c4b1
  obtain ⟨kq, x16_2, rfl, HA, HJ2, HB⟩ := hcut
  cases kq with
  | zero => exact absurd HA.out (by simp [laws_FnSealOne.j0])
  | succ kj2 =>
   have H := HA.out
   clear HA
   simp only [laws_FnSealOne.j0] at H
   by_cases c5 : x16_2 = true
   ·subst c5
    rw [if_pos rfl] at H
    obtain rfl := Option.some.inj H
    go_wp2
    go_ret
    exact ⟨by first | rfl | (simp [errW_none, errW_some] <;> rfl) | (simp [*, errW_none, errW_some] <;> rfl), by repeat (first | (with_reducible first | exact HB.out | apply below_alloc | apply pw_below_drewN | apply below_drew1) | exact HB.out)⟩
   ·replace c5 := Bool.eq_false_iff.mpr c5
    subst c5
    rw [if_neg (show ¬ (false = true) by decide)] at H
    replace H := Option.bind_eq_some_iff.mp H
    obtain ⟨⟨t271, t272, t273, t274, t275, t276, t277⟩, A60, H⟩ := H
    replace H : ((spec_DrawSealText.f kj2 l1).bind fun bt279 => ((impl_SealText.f t271 t272 t273 t274 t275 t276 t277).bind fun t287 => ((impl_SealText.f bt279.1 bt279.2.1 bt279.2.2.1 bt279.2.2.2.1 bt279.2.2.2.2.1 bt279.2.2.2.2.2.1 bt279.2.2.2.2.2.2).bind fun t288 => ((spec_SealText.f kj2 t271 t272 t273 t274 t275 t276 t277).bind fun t289 => (if t287.toList = t289.toList then ((spec_SealText.f kj2 bt279.1 bt279.2.1 bt279.2.2.1 bt279.2.2.2.1 bt279.2.2.2.2.1 bt279.2.2.2.2.2.1 bt279.2.2.2.2.2.2).bind fun t290 => (if t288.toList = t290.toList then (if t287.toList = ([] : List UInt8) then (laws_FnSealOne.j1 kj2 t287 t288 true t271 t272 t273 t274 t275 t276 t277 bt279.1 bt279.2.1 bt279.2.2.1 bt279.2.2.2.1 bt279.2.2.2.2.1 bt279.2.2.2.2.2.1 bt279.2.2.2.2.2.2) else (laws_FnSealOne.j1 kj2 t287 t288 (t288.toList == ([] : List UInt8)) t271 t272 t273 t274 t275 t276 t277 bt279.1 bt279.2.1 bt279.2.2.1 bt279.2.2.2.1 bt279.2.2.2.2.1 bt279.2.2.2.2.2.1 bt279.2.2.2.2.2.2)) else (laws_FnSealOne.j1 kj2 t287 t288 true t271 t272 t273 t274 t275 t276 t277 bt279.1 bt279.2.1 bt279.2.2.1 bt279.2.2.2.1 bt279.2.2.2.2.1 bt279.2.2.2.2.2.1 bt279.2.2.2.2.2.2))) else (laws_FnSealOne.j1 kj2 t287 t288 true t271 t272 t273 t274 t275 t276 t277 bt279.1 bt279.2.1 bt279.2.2.1 bt279.2.2.2.1 bt279.2.2.2.2.1 bt279.2.2.2.2.2.1 bt279.2.2.2.2.2.2)))))) = some r := H
    have A6 := Aside0.mk A60
    clear A60
    replace H := Option.bind_eq_some_iff.mp H
    obtain ⟨⟨t279, t280, t281, t282, t283, t284, t285⟩, A70, H⟩ := H
    replace H : ((impl_SealText.f t271 t272 t273 t274 t275 t276 t277).bind fun t287 => ((impl_SealText.f t279 t280 t281 t282 t283 t284 t285).bind fun t288 => ((spec_SealText.f kj2 t271 t272 t273 t274 t275 t276 t277).bind fun t289 => (if t287.toList = t289.toList then ((spec_SealText.f kj2 t279 t280 t281 t282 t283 t284 t285).bind fun t290 => (if t288.toList = t290.toList then (if t287.toList = ([] : List UInt8) then (laws_FnSealOne.j1 kj2 t287 t288 true t271 t272 t273 t274 t275 t276 t277 t279 t280 t281 t282 t283 t284 t285) else (laws_FnSealOne.j1 kj2 t287 t288 (t288.toList == ([] : List UInt8)) t271 t272 t273 t274 t275 t276 t277 t279 t280 t281 t282 t283 t284 t285)) else (laws_FnSealOne.j1 kj2 t287 t288 true t271 t272 t273 t274 t275 t276 t277 t279 t280 t281 t282 t283 t284 t285))) else (laws_FnSealOne.j1 kj2 t287 t288 true t271 t272 t273 t274 t275 t276 t277 t279 t280 t281 t282 t283 t284 t285))))) = some r := H
    have A7 := Aside0.mk A70
    clear A70
    replace H := Option.bind_eq_some_iff.mp H
    obtain ⟨t287, A80, H⟩ := H
    replace H : ((impl_SealText.f t279 t280 t281 t282 t283 t284 t285).bind fun t288 => ((spec_SealText.f kj2 t271 t272 t273 t274 t275 t276 t277).bind fun t289 => (if t287.toList = t289.toList then ((spec_SealText.f kj2 t279 t280 t281 t282 t283 t284 t285).bind fun t290 => (if t288.toList = t290.toList then (if t287.toList = ([] : List UInt8) then (laws_FnSealOne.j1 kj2 t287 t288 true t271 t272 t273 t274 t275 t276 t277 t279 t280 t281 t282 t283 t284 t285) else (laws_FnSealOne.j1 kj2 t287 t288 (t288.toList == ([] : List UInt8)) t271 t272 t273 t274 t275 t276 t277 t279 t280 t281 t282 t283 t284 t285)) else (laws_FnSealOne.j1 kj2 t287 t288 true t271 t272 t273 t274 t275 t276 t277 t279 t280 t281 t282 t283 t284 t285))) else (laws_FnSealOne.j1 kj2 t287 t288 true t271 t272 t273 t274 t275 t276 t277 t279 t280 t281 t282 t283 t284 t285)))) = some r := H
    have A8 := Aside0.mk A80
    clear A80
    replace H := Option.bind_eq_some_iff.mp H
    obtain ⟨t288, A90, H⟩ := H
    replace H : ((spec_SealText.f kj2 t271 t272 t273 t274 t275 t276 t277).bind fun t289 => (if t287.toList = t289.toList then ((spec_SealText.f kj2 t279 t280 t281 t282 t283 t284 t285).bind fun t290 => (if t288.toList = t290.toList then (if t287.toList = ([] : List UInt8) then (laws_FnSealOne.j1 kj2 t287 t288 true t271 t272 t273 t274 t275 t276 t277 t279 t280 t281 t282 t283 t284 t285) else (laws_FnSealOne.j1 kj2 t287 t288 (t288.toList == ([] : List UInt8)) t271 t272 t273 t274 t275 t276 t277 t279 t280 t281 t282 t283 t284 t285)) else (laws_FnSealOne.j1 kj2 t287 t288 true t271 t272 t273 t274 t275 t276 t277 t279 t280 t281 t282 t283 t284 t285))) else (laws_FnSealOne.j1 kj2 t287 t288 true t271 t272 t273 t274 t275 t276 t277 t279 t280 t281 t282 t283 t284 t285))) = some r := H
    have A9 := Aside0.mk A90
    clear A90
    have HC10 := Aside0.mk H
    clear H
    go_upto_region 7 with (first | ((with_reducible refine gate_callee (f := 12) rfl ?_); refine goesL_ (some 18) rfl rfl Tryd.func12 (by kernel_rfl) rfl #[.slice A0 l0.length c0] rfl z19x3 ?_; (with_reducible refine (spec_DrawSealText.calls kj2 _ _ l0 t271 t272 t273 t274 t275 t276 t277 _ ?side1 ?side2 A6.out).mono ?_); (case side1 => repeat (first | exact (Kd.C_below HR0.out HB.out) | (with_reducible refine Kd.C_alloc ?_ _) | (with_reducible refine Kd.C_drewN ?_ _) | (with_reducible refine Kd.C_drew ?_))); (case side2 => exact HC0.out); rintro e w11 ⟨rfl, hb⟩; refine ⟨_, rfl, ?_⟩; have n0_ := Aside0.mk (below_step z19x4 hb); clear HB; have HB := n0_; clear n0_; (try clear hb); (try clear hb2); (try clear hk); (try clear hi)) | ((with_reducible refine gate_dst (N := 5) rfl ?_); refine box_event ?hg (N := 5) ?hd (cs := #[.int .i64 0, .int .i64 0, .int .i64 0, .int .i64 0, .int .i64 0, .int .i64 0, .int .i64 0]) (t := 24) ?hr ?_; (case hd => rfl); (case hg => rfl); (case hr => first | (go_simp; done) | (go_simp; rfl)); intro gb278 hg w12 hbox hb; have n0_ := Aside0.mk (below_step z19x4 hb); have n1_ := Aside0.mk (hbox); have n2_ := Aside0.mk ((by rw [hg]; exact (below_size z19x4) : w.heap.size ≤ gb278)); have n3_ := Aside0.mk ((by rw [hg]; exact (below_size z19x4) : w.heap.size ≤ gb278)); clear HB; have HB := n0_; have BK278 := n1_; have GW278 := n2_; have GE278 := n3_; clear n0_ n1_ n2_ n3_; clear hb hbox hg; have hcz13_0 : w12.cell? ⟨gb278, 0, none⟩ = some (.int .i64 0) := (blk_cell BK278.out 0).trans rfl; have hcz13_1 : w12.cell? ⟨gb278, 1, none⟩ = some (.int .i64 0) := (blk_cell BK278.out 1).trans rfl; have hcz13_2 : w12.cell? ⟨gb278, 2, none⟩ = some (.int .i64 0) := (blk_cell BK278.out 2).trans rfl; have hcz13_3 : w12.cell? ⟨gb278, 3, none⟩ = some (.int .i64 0) := (blk_cell BK278.out 3).trans rfl; have hcz13_4 : w12.cell? ⟨gb278, 4, none⟩ = some (.int .i64 0) := (blk_cell BK278.out 4).trans rfl; have hcz13_5 : w12.cell? ⟨gb278, 5, none⟩ = some (.int .i64 0) := (blk_cell BK278.out 5).trans rfl; have hcz13_6 : w12.cell? ⟨gb278, 6, none⟩ = some (.int .i64 0) := (blk_cell BK278.out 6).trans rfl; have hfz13_0 := blk_frozen BK278.out 0; have hfz13_1 := blk_frozen BK278.out 1; have hfz13_2 := blk_frozen BK278.out 2; have hfz13_3 := blk_frozen BK278.out 3; have hfz13_4 := blk_frozen BK278.out 4; have hfz13_5 := blk_frozen BK278.out 5; have hfz13_6 := blk_frozen BK278.out 6) | ((with_reducible refine gate_callee (f := 12) rfl ?_); refine goesL_ (some 20) rfl rfl Tryd.func12 (by kernel_rfl) rfl #[.slice A1 l1.length c1] rfl z19x3 ?_; (with_reducible refine (spec_DrawSealText.calls kj2 _ _ l1 t279 t280 t281 t282 t283 t284 t285 _ ?side1 ?side2 A7.out).mono ?_); (case side1 => exact Kd.C_below HR1.out z19x2); (case side2 => exact HC1.out); rintro e w14 ⟨rfl, hb⟩; refine ⟨_, rfl, ?_⟩; have n0_ := Aside0.mk (blk_below (g := gb278) (o := .cells #[.int .i64 t271, .int .i64 t272, .int .i64 t273, .int .i64 t274, .int .i64 t275, .int .i64 t276, .int .i64 t277] 24 (0, 0)) (by (with_reducible repeat (first | refine blk_drewN ?_ _ | refine blk_drew ?_ | refine blk_alloc ?_ _)); refine blk_put (cs := #[.int .i64 t271, .int .i64 t272, .int .i64 t273, .int .i64 t274, .int .i64 t275, .int .i64 t276, .int .i64 0]) ?_ 6 _ rfl; (with_reducible repeat (first | refine blk_drewN ?_ _ | refine blk_drew ?_ | refine blk_alloc ?_ _)); refine blk_put (cs := #[.int .i64 t271, .int .i64 t272, .int .i64 t273, .int .i64 t274, .int .i64 t275, .int .i64 0, .int .i64 0]) ?_ 5 _ rfl; (with_reducible repeat (first | refine blk_drewN ?_ _ | refine blk_drew ?_ | refine blk_alloc ?_ _)); refine blk_put (cs := #[.int .i64 t271, .int .i64 t272, .int .i64 t273, .int .i64 t274, .int .i64 0, .int .i64 0, .int .i64 0]) ?_ 4 _ rfl; (with_reducible repeat (first | refine blk_drewN ?_ _ | refine blk_drew ?_ | refine blk_alloc ?_ _)); refine blk_put (cs := #[.int .i64 t271, .int .i64 t272, .int .i64 t273, .int .i64 0, .int .i64 0, .int .i64 0, .int .i64 0]) ?_ 3 _ rfl; (with_reducible repeat (first | refine blk_drewN ?_ _ | refine blk_drew ?_ | refine blk_alloc ?_ _)); refine blk_put (cs := #[.int .i64 t271, .int .i64 t272, .int .i64 0, .int .i64 0, .int .i64 0, .int .i64 0, .int .i64 0]) ?_ 2 _ rfl; (with_reducible repeat (first | refine blk_drewN ?_ _ | refine blk_drew ?_ | refine blk_alloc ?_ _)); refine blk_put (cs := #[.int .i64 t271, .int .i64 0, .int .i64 0, .int .i64 0, .int .i64 0, .int .i64 0, .int .i64 0]) ?_ 1 _ rfl; (with_reducible repeat (first | refine blk_drewN ?_ _ | refine blk_drew ?_ | refine blk_alloc ?_ _)); refine blk_put (cs := #[.int .i64 0, .int .i64 0, .int .i64 0, .int .i64 0, .int .i64 0, .int .i64 0, .int .i64 0]) ?_ 0 _ rfl; (with_reducible repeat (first | refine blk_drewN ?_ _ | refine blk_drew ?_ | refine blk_alloc ?_ _)); exact BK278.out) hb); have n1_ := Aside0.mk (below_step z19x2 hb); clear BK278; clear HB; have BK278 := n0_; have HB := n1_; clear n0_ n1_; (try clear hb); (try clear hb2); (try clear hk); (try clear hi)) | ((with_reducible refine gate_dst (N := 6) rfl ?_); refine box_event ?hg (N := 6) ?hd (cs := #[.int .i64 0, .int .i64 0, .int .i64 0, .int .i64 0, .int .i64 0, .int .i64 0, .int .i64 0]) (t := 24) ?hr ?_; (case hd => rfl); (case hg => rfl); (case hr => first | (go_simp; done) | (go_simp; rfl)); intro gb286 hg w15 hbox hb; have n0_ := Aside0.mk (blk_below (g := gb278) (o := .cells #[.int .i64 t271, .int .i64 t272, .int .i64 t273, .int .i64 t274, .int .i64 t275, .int .i64 t276, .int .i64 t277] 24 (0, 0)) z19x5 hb); have n1_ := Aside0.mk (below_step z19x2 hb); have n2_ := Aside0.mk (hbox); have n3_ := Aside0.mk ((z19x1 : w.heap.size ≤ gb286)); have n4_ := Aside0.mk ((z19x1 : w.heap.size ≤ gb286)); have n5_ := Aside0.mk ((by rw [hg]; exact Nat.ne_of_lt (blk_lt (g := gb278) (o := .cells #[.int .i64 t271, .int .i64 t272, .int .i64 t273, .int .i64 t274, .int .i64 t275, .int .i64 t276, .int .i64 t277] 24 (0, 0)) z19x5) : gb278 ≠ gb286)); have n6_ := Aside0.mk ((by rw [hg]; exact Nat.ne_of_gt (blk_lt (g := gb278) (o := .cells #[.int .i64 t271, .int .i64 t272, .int .i64 t273, .int .i64 t274, .int .i64 t275, .int .i64 t276, .int .i64 t277] 24 (0, 0)) z19x5) : gb286 ≠ gb278)); clear BK278; clear HB; have BK278 := n0_; have HB := n1_; have BK286 := n2_; have GW286 := n3_; have GE286 := n4_; have NB278_286 := n5_; have NB286_278 := n6_; clear n0_ n1_ n2_ n3_ n4_ n5_ n6_; clear hb hbox hg; have hnb16 := NB286_278.out; have hnc16 := NB278_286.out; have hcz17_0 : w15.cell? ⟨gb286, 0, none⟩ = some (.int .i64 0) := (blk_cell BK286.out 0).trans rfl; have hcz17_1 : w15.cell? ⟨gb286, 1, none⟩ = some (.int .i64 0) := (blk_cell BK286.out 1).trans rfl; have hcz17_2 : w15.cell? ⟨gb286, 2, none⟩ = some (.int .i64 0) := (blk_cell BK286.out 2).trans rfl; have hcz17_3 : w15.cell? ⟨gb286, 3, none⟩ = some (.int .i64 0) := (blk_cell BK286.out 3).trans rfl; have hcz17_4 : w15.cell? ⟨gb286, 4, none⟩ = some (.int .i64 0) := (blk_cell BK286.out 4).trans rfl; have hcz17_5 : w15.cell? ⟨gb286, 5, none⟩ = some (.int .i64 0) := (blk_cell BK286.out 5).trans rfl; have hcz17_6 : w15.cell? ⟨gb286, 6, none⟩ = some (.int .i64 0) := (blk_cell BK286.out 6).trans rfl; have hfz17_0 := blk_frozen BK286.out 0; have hfz17_1 := blk_frozen BK286.out 1; have hfz17_2 := blk_frozen BK286.out 2; have hfz17_3 := blk_frozen BK286.out 3; have hfz17_4 := blk_frozen BK286.out 4; have hfz17_5 := blk_frozen BK286.out 5; have hfz17_6 := blk_frozen BK286.out 6; have hcz18_0 : w15.cell? ⟨gb278, 0, none⟩ = some (.int .i64 t271) := (blk_cell BK278.out 0).trans rfl; have hcz18_1 : w15.cell? ⟨gb278, 1, none⟩ = some (.int .i64 t272) := (blk_cell BK278.out 1).trans rfl; have hcz18_2 : w15.cell? ⟨gb278, 2, none⟩ = some (.int .i64 t273) := (blk_cell BK278.out 2).trans rfl; have hcz18_3 : w15.cell? ⟨gb278, 3, none⟩ = some (.int .i64 t274) := (blk_cell BK278.out 3).trans rfl; have hcz18_4 : w15.cell? ⟨gb278, 4, none⟩ = some (.int .i64 t275) := (blk_cell BK278.out 4).trans rfl; have hcz18_5 : w15.cell? ⟨gb278, 5, none⟩ = some (.int .i64 t276) := (blk_cell BK278.out 5).trans rfl; have hcz18_6 : w15.cell? ⟨gb278, 6, none⟩ = some (.int .i64 t277) := (blk_cell BK278.out 6).trans rfl; have hfz18_0 := blk_frozen BK278.out 0; have hfz18_1 := blk_frozen BK278.out 1; have hfz18_2 := blk_frozen BK278.out 2; have hfz18_3 := blk_frozen BK278.out 3; have hfz18_4 := blk_frozen BK278.out 4; have hfz18_5 := blk_frozen BK278.out 5; have hfz18_6 := blk_frozen BK278.out 6) | ((with_reducible refine gate_callee (f := 13) rfl ?_); refine goesL_ (some 22) rfl rfl Tryd.func13 (by kernel_rfl) rfl #[.agg #[.int .i64 t271, .int .i64 t272, .int .i64 t273, .int .i64 t274, .int .i64 t275, .int .i64 t276, .int .i64 t277]] rfl z19x3 ?_; (with_reducible refine (impl_SealText.calls t271 t272 t273 t274 t275 t276 t277 t287 _ A8.out ?tens1).mono ?_); (case tens1 => exact Tens.on HT.out z19x0); rintro e w19 ⟨rfl, hb⟩; refine ⟨_, rfl, ?_⟩; have n0_ := Aside0.mk (blk_below (g := gb278) (o := .cells #[.int .i64 t271, .int .i64 t272, .int .i64 t273, .int .i64 t274, .int .i64 t275, .int .i64 t276, .int .i64 t277] 24 (0, 0)) (by (with_reducible repeat (first | refine blk_drewN ?_ _ | refine blk_drew ?_ | refine blk_alloc ?_ _)); refine blk_far ?_ NB278_286.out _; (with_reducible repeat (first | refine blk_drewN ?_ _ | refine blk_drew ?_ | refine blk_alloc ?_ _)); refine blk_far ?_ NB278_286.out _; (with_reducible repeat (first | refine blk_drewN ?_ _ | refine blk_drew ?_ | refine blk_alloc ?_ _)); refine blk_far ?_ NB278_286.out _; (with_reducible repeat (first | refine blk_drewN ?_ _ | refine blk_drew ?_ | refine blk_alloc ?_ _)); refine blk_far ?_ NB278_286.out _; (with_reducible repeat (first | refine blk_drewN ?_ _ | refine blk_drew ?_ | refine blk_alloc ?_ _)); refine blk_far ?_ NB278_286.out _; (with_reducible repeat (first | refine blk_drewN ?_ _ | refine blk_drew ?_ | refine blk_alloc ?_ _)); refine blk_far ?_ NB278_286.out _; (with_reducible repeat (first | refine blk_drewN ?_ _ | refine blk_drew ?_ | refine blk_alloc ?_ _)); refine blk_far ?_ NB278_286.out _; (with_reducible repeat (first | refine blk_drewN ?_ _ | refine blk_drew ?_ | refine blk_alloc ?_ _)); exact BK278.out) hb); have n1_ := Aside0.mk (blk_below (g := gb286) (o := .cells #[.int .i64 t279, .int .i64 t280, .int .i64 t281, .int .i64 t282, .int .i64 t283, .int .i64 t284, .int .i64 t285] 24 (0, 0)) (by (with_reducible repeat (first | refine blk_drewN ?_ _ | refine blk_drew ?_ | refine blk_alloc ?_ _)); refine blk_put (cs := #[.int .i64 t279, .int .i64 t280, .int .i64 t281, .int .i64 t282, .int .i64 t283, .int .i64 t284, .int .i64 0]) ?_ 6 _ rfl; (with_reducible repeat (first | refine blk_drewN ?_ _ | refine blk_drew ?_ | refine blk_alloc ?_ _)); refine blk_put (cs := #[.int .i64 t279, .int .i64 t280, .int .i64 t281, .int .i64 t282, .int .i64 t283, .int .i64 0, .int .i64 0]) ?_ 5 _ rfl; (with_reducible repeat (first | refine blk_drewN ?_ _ | refine blk_drew ?_ | refine blk_alloc ?_ _)); refine blk_put (cs := #[.int .i64 t279, .int .i64 t280, .int .i64 t281, .int .i64 t282, .int .i64 0, .int .i64 0, .int .i64 0]) ?_ 4 _ rfl; (with_reducible repeat (first | refine blk_drewN ?_ _ | refine blk_drew ?_ | refine blk_alloc ?_ _)); refine blk_put (cs := #[.int .i64 t279, .int .i64 t280, .int .i64 t281, .int .i64 0, .int .i64 0, .int .i64 0, .int .i64 0]) ?_ 3 _ rfl; (with_reducible repeat (first | refine blk_drewN ?_ _ | refine blk_drew ?_ | refine blk_alloc ?_ _)); refine blk_put (cs := #[.int .i64 t279, .int .i64 t280, .int .i64 0, .int .i64 0, .int .i64 0, .int .i64 0, .int .i64 0]) ?_ 2 _ rfl; (with_reducible repeat (first | refine blk_drewN ?_ _ | refine blk_drew ?_ | refine blk_alloc ?_ _)); refine blk_put (cs := #[.int .i64 t279, .int .i64 0, .int .i64 0, .int .i64 0, .int .i64 0, .int .i64 0, .int .i64 0]) ?_ 1 _ rfl; (with_reducible repeat (first | refine blk_drewN ?_ _ | refine blk_drew ?_ | refine blk_alloc ?_ _)); refine blk_put (cs := #[.int .i64 0, .int .i64 0, .int .i64 0, .int .i64 0, .int .i64 0, .int .i64 0, .int .i64 0]) ?_ 0 _ rfl; (with_reducible repeat (first | refine blk_drewN ?_ _ | refine blk_drew ?_ | refine blk_alloc ?_ _)); exact BK286.out) hb); have n2_ := Aside0.mk (below_step z19x0 hb); clear BK278; clear BK286; clear HB; have BK278 := n0_; have BK286 := n1_; have HB := n2_; clear n0_ n1_ n2_; (try clear hb); (try clear hb2); (try clear hk); (try clear hi); have hcz20_0 : w19.cell? ⟨gb286, 0, none⟩ = some (.int .i64 t279) := (blk_cell BK286.out 0).trans rfl; have hcz20_1 : w19.cell? ⟨gb286, 1, none⟩ = some (.int .i64 t280) := (blk_cell BK286.out 1).trans rfl; have hcz20_2 : w19.cell? ⟨gb286, 2, none⟩ = some (.int .i64 t281) := (blk_cell BK286.out 2).trans rfl; have hcz20_3 : w19.cell? ⟨gb286, 3, none⟩ = some (.int .i64 t282) := (blk_cell BK286.out 3).trans rfl; have hcz20_4 : w19.cell? ⟨gb286, 4, none⟩ = some (.int .i64 t283) := (blk_cell BK286.out 4).trans rfl; have hcz20_5 : w19.cell? ⟨gb286, 5, none⟩ = some (.int .i64 t284) := (blk_cell BK286.out 5).trans rfl; have hcz20_6 : w19.cell? ⟨gb286, 6, none⟩ = some (.int .i64 t285) := (blk_cell BK286.out 6).trans rfl; have hfz20_0 := blk_frozen BK286.out 0; have hfz20_1 := blk_frozen BK286.out 1; have hfz20_2 := blk_frozen BK286.out 2; have hfz20_3 := blk_frozen BK286.out 3; have hfz20_4 := blk_frozen BK286.out 4; have hfz20_5 := blk_frozen BK286.out 5; have hfz20_6 := blk_frozen BK286.out 6) | ((with_reducible refine gate_callee (f := 13) rfl ?_); refine goesL_ (some 24) rfl rfl Tryd.func13 (by kernel_rfl) rfl #[.agg #[.int .i64 t279, .int .i64 t280, .int .i64 t281, .int .i64 t282, .int .i64 t283, .int .i64 t284, .int .i64 t285]] rfl z19x3 ?_; (with_reducible refine (impl_SealText.calls t279 t280 t281 t282 t283 t284 t285 t288 _ A9.out ?tens2).mono ?_); (case tens2 => exact Tens.on HT.out z19x0); rintro e w21 ⟨rfl, hb⟩; refine ⟨_, rfl, ?_⟩; have n0_ := Aside0.mk (blk_below (g := gb278) (o := .cells #[.int .i64 t271, .int .i64 t272, .int .i64 t273, .int .i64 t274, .int .i64 t275, .int .i64 t276, .int .i64 t277] 24 (0, 0)) z19x5 hb); have n1_ := Aside0.mk (blk_below (g := gb286) (o := .cells #[.int .i64 t279, .int .i64 t280, .int .i64 t281, .int .i64 t282, .int .i64 t283, .int .i64 t284, .int .i64 t285] 24 (0, 0)) z19x6 hb); have n2_ := Aside0.mk (below_step z19x0 hb); clear BK278; clear BK286; clear HB; have BK278 := n0_; have BK286 := n1_; have HB := n2_; clear n0_ n1_ n2_; (try clear hb); (try clear hb2); (try clear hk); (try clear hi)))
    (try simp only [Act.put, List.setIfInBounds_toArray, List.set_cons_zero, List.set_cons_succ])
    go_cut [42] (fun v42 wc => ∃ (kq : Nat) (x42_9 : Bool), v42 = .bool x42_9 ∧ Aside0 (laws_FnSealOne.j1 kq t287 t288 x42_9 t271 t272 t273 t274 t275 t276 t277 t279 t280 t281 t282 t283 t284 t285 = some r) ∧ Aside0 (kq ≤ kj2) ∧ Aside0 (wc.heap[gb278]? = some (.cells #[.int .i64 t271, .int .i64 t272, .int .i64 t273, .int .i64 t274, .int .i64 t275, .int .i64 t276, .int .i64 t277] 24 (0, 0))) ∧ Aside0 (wc.heap[gb286]? = some (.cells #[.int .i64 t279, .int .i64 t280, .int .i64 t281, .int .i64 t282, .int .i64 t283, .int .i64 t284, .int .i64 t285] 24 (0, 0))) ∧ Aside0 (Below w.heap.size w wc))
    case first =>
     have H := HC10.out
     clear HC10
     replace H := Option.bind_eq_some_iff.mp H
     obtain ⟨t289, A220, H⟩ := H
     replace H : (if t287.toList = t289.toList then ((spec_SealText.f kj2 t279 t280 t281 t282 t283 t284 t285).bind fun t290 => (if t288.toList = t290.toList then (if t287.toList = ([] : List UInt8) then (laws_FnSealOne.j1 kj2 t287 t288 true t271 t272 t273 t274 t275 t276 t277 t279 t280 t281 t282 t283 t284 t285) else (laws_FnSealOne.j1 kj2 t287 t288 (t288.toList == ([] : List UInt8)) t271 t272 t273 t274 t275 t276 t277 t279 t280 t281 t282 t283 t284 t285)) else (laws_FnSealOne.j1 kj2 t287 t288 true t271 t272 t273 t274 t275 t276 t277 t279 t280 t281 t282 t283 t284 t285))) else (laws_FnSealOne.j1 kj2 t287 t288 true t271 t272 t273 t274 t275 t276 t277 t279 t280 t281 t282 t283 t284 t285)) = some r := H
     have A22 := Aside0.mk A220
     clear A220
     by_cases c23 : t287.toList = t289.toList
     ·rw [if_pos c23] at H
      have c23b0 : (t287.toList == t289.toList) = true := beq_iff_eq.mpr c23
      have c23b1 : (t287.toList != t289.toList) = false := bne_eq_false_iff_eq.mpr c23
      clear c23
      (first | rw [c23b0] | (simp only [i64_w, i32_w]; rw [c23b0]) | skip)
      replace H := Option.bind_eq_some_iff.mp H
      obtain ⟨t290, A240, H⟩ := H
      replace H : (if t288.toList = t290.toList then (if t287.toList = ([] : List UInt8) then (laws_FnSealOne.j1 kj2 t287 t288 true t271 t272 t273 t274 t275 t276 t277 t279 t280 t281 t282 t283 t284 t285) else (laws_FnSealOne.j1 kj2 t287 t288 (t288.toList == ([] : List UInt8)) t271 t272 t273 t274 t275 t276 t277 t279 t280 t281 t282 t283 t284 t285)) else (laws_FnSealOne.j1 kj2 t287 t288 true t271 t272 t273 t274 t275 t276 t277 t279 t280 t281 t282 t283 t284 t285)) = some r := H
      have A24 := Aside0.mk A240
      clear A240
      by_cases c25 : t288.toList = t290.toList
      ·rw [if_pos c25] at H
       have c25b0 : (t288.toList == t290.toList) = true := beq_iff_eq.mpr c25
       have c25b1 : (t288.toList != t290.toList) = false := bne_eq_false_iff_eq.mpr c25
       clear c25
       by_cases c26 : t287.toList = ([] : List UInt8)
       ·rw [if_pos c26] at H
        have c26b0 : (t287.toList == ([] : List UInt8)) = true := beq_iff_eq.mpr c26
        have c26b1 : (t287.toList != ([] : List UInt8)) = false := bne_eq_false_iff_eq.mpr c26
        clear c26
        have H' := Aside0.mk H
        clear H
        have hnb27 := NB278_286.out
        have hnc27 := NB286_278.out
        have hcz28_0 : w21.cell? ⟨gb278, 0, none⟩ = some (.int .i64 t271) := (blk_cell BK278.out 0).trans rfl
        have hcz28_1 : w21.cell? ⟨gb278, 1, none⟩ = some (.int .i64 t272) := (blk_cell BK278.out 1).trans rfl
        have hcz28_2 : w21.cell? ⟨gb278, 2, none⟩ = some (.int .i64 t273) := (blk_cell BK278.out 2).trans rfl
        have hcz28_3 : w21.cell? ⟨gb278, 3, none⟩ = some (.int .i64 t274) := (blk_cell BK278.out 3).trans rfl
        have hcz28_4 : w21.cell? ⟨gb278, 4, none⟩ = some (.int .i64 t275) := (blk_cell BK278.out 4).trans rfl
        have hcz28_5 : w21.cell? ⟨gb278, 5, none⟩ = some (.int .i64 t276) := (blk_cell BK278.out 5).trans rfl
        have hcz28_6 : w21.cell? ⟨gb278, 6, none⟩ = some (.int .i64 t277) := (blk_cell BK278.out 6).trans rfl
        have hfz28_0 := blk_frozen BK278.out 0
        have hfz28_1 := blk_frozen BK278.out 1
        have hfz28_2 := blk_frozen BK278.out 2
        have hfz28_3 := blk_frozen BK278.out 3
        have hfz28_4 := blk_frozen BK278.out 4
        have hfz28_5 := blk_frozen BK278.out 5
        have hfz28_6 := blk_frozen BK278.out 6
        go_wp2_with (first | ((with_reducible refine gate_callee (f := 14) rfl ?_); refine goesL_ (some 27) rfl rfl Tryd.func14 (by kernel_rfl) rfl #[.agg #[.int .i64 t271, .int .i64 t272, .int .i64 t273, .int .i64 t274, .int .i64 t275, .int .i64 t276, .int .i64 t277]] rfl z19x3 ?_; (with_reducible refine (spec_SealText.calls kj2 t271 t272 t273 t274 t275 t276 t277 t289 _ A22.out).mono ?_); rintro e w29 ⟨rfl, hb⟩; refine ⟨_, rfl, ?_⟩; have n0_ := Aside0.mk (blk_below (g := gb278) (o := .cells #[.int .i64 t271, .int .i64 t272, .int .i64 t273, .int .i64 t274, .int .i64 t275, .int .i64 t276, .int .i64 t277] 24 (0, 0)) z19x5 hb); have n1_ := Aside0.mk (blk_below (g := gb286) (o := .cells #[.int .i64 t279, .int .i64 t280, .int .i64 t281, .int .i64 t282, .int .i64 t283, .int .i64 t284, .int .i64 t285] 24 (0, 0)) z19x6 hb); have n2_ := Aside0.mk (below_step z19x0 hb); clear BK278; clear BK286; clear HB; have BK278 := n0_; have BK286 := n1_; have HB := n2_; clear n0_ n1_ n2_; (try clear hb); (try clear hb2); (try clear hk); (try clear hi); have hcz30_0 : w29.cell? ⟨gb286, 0, none⟩ = some (.int .i64 t279) := (blk_cell BK286.out 0).trans rfl; have hcz30_1 : w29.cell? ⟨gb286, 1, none⟩ = some (.int .i64 t280) := (blk_cell BK286.out 1).trans rfl; have hcz30_2 : w29.cell? ⟨gb286, 2, none⟩ = some (.int .i64 t281) := (blk_cell BK286.out 2).trans rfl; have hcz30_3 : w29.cell? ⟨gb286, 3, none⟩ = some (.int .i64 t282) := (blk_cell BK286.out 3).trans rfl; have hcz30_4 : w29.cell? ⟨gb286, 4, none⟩ = some (.int .i64 t283) := (blk_cell BK286.out 4).trans rfl; have hcz30_5 : w29.cell? ⟨gb286, 5, none⟩ = some (.int .i64 t284) := (blk_cell BK286.out 5).trans rfl; have hcz30_6 : w29.cell? ⟨gb286, 6, none⟩ = some (.int .i64 t285) := (blk_cell BK286.out 6).trans rfl; have hfz30_0 := blk_frozen BK286.out 0; have hfz30_1 := blk_frozen BK286.out 1; have hfz30_2 := blk_frozen BK286.out 2; have hfz30_3 := blk_frozen BK286.out 3; have hfz30_4 := blk_frozen BK286.out 4; have hfz30_5 := blk_frozen BK286.out 5; have hfz30_6 := blk_frozen BK286.out 6) | (go_at_call 14; (with_reducible refine (spec_SealText.calls kj2 t279 t280 t281 t282 t283 t284 t285 t290 _ A24.out).mono ?_); rintro e w31 ⟨rfl, hb⟩; have n0_ := Aside0.mk (blk_below (g := gb278) (o := .cells #[.int .i64 t271, .int .i64 t272, .int .i64 t273, .int .i64 t274, .int .i64 t275, .int .i64 t276, .int .i64 t277] 24 (0, 0)) z19x5 hb); have n1_ := Aside0.mk (blk_below (g := gb286) (o := .cells #[.int .i64 t279, .int .i64 t280, .int .i64 t281, .int .i64 t282, .int .i64 t283, .int .i64 t284, .int .i64 t285] 24 (0, 0)) z19x6 hb); have n2_ := Aside0.mk (below_step z19x0 hb); clear BK278; clear BK286; clear HB; have BK278 := n0_; have BK286 := n1_; have HB := n2_; clear n0_ n1_ n2_; (try clear hb); (try clear hb2); (try clear hk); (try clear hi)))
        go_meet
        case rel => exact ⟨_, (true), (by first | rfl | (simp; done) | (simp [*]; done)), H', ⟨by have := HJ2.out; first | omega | exact Nat.le_refl _⟩, ⟨by (with_reducible repeat (first | refine blk_drewN ?_ _ | refine blk_drew ?_ | refine blk_alloc ?_ _)); exact BK278.out⟩, ⟨by (with_reducible repeat (first | refine blk_drewN ?_ _ | refine blk_drew ?_ | refine blk_alloc ?_ _)); exact BK286.out⟩, ⟨by repeat (first | (with_reducible first | exact HB.out | apply below_alloc | apply pw_below_drewN | apply below_drew1 | refine below_set ?_ GE278.out | refine below_set ?_ GE286.out) | exact HB.out)⟩⟩
       ·rw [if_neg c26] at H
        have c26b0 : (t287.toList == ([] : List UInt8)) = false := beq_eq_false_iff_ne.mpr c26
        have c26b1 : (t287.toList != ([] : List UInt8)) = true := bne_iff_ne.mpr c26
        have H' := Aside0.mk H
        clear H
        have hnb32 := NB278_286.out
        have hnc32 := NB286_278.out
        have hcz33_0 : w21.cell? ⟨gb278, 0, none⟩ = some (.int .i64 t271) := (blk_cell BK278.out 0).trans rfl
        have hcz33_1 : w21.cell? ⟨gb278, 1, none⟩ = some (.int .i64 t272) := (blk_cell BK278.out 1).trans rfl
        have hcz33_2 : w21.cell? ⟨gb278, 2, none⟩ = some (.int .i64 t273) := (blk_cell BK278.out 2).trans rfl
        have hcz33_3 : w21.cell? ⟨gb278, 3, none⟩ = some (.int .i64 t274) := (blk_cell BK278.out 3).trans rfl
        have hcz33_4 : w21.cell? ⟨gb278, 4, none⟩ = some (.int .i64 t275) := (blk_cell BK278.out 4).trans rfl
        have hcz33_5 : w21.cell? ⟨gb278, 5, none⟩ = some (.int .i64 t276) := (blk_cell BK278.out 5).trans rfl
        have hcz33_6 : w21.cell? ⟨gb278, 6, none⟩ = some (.int .i64 t277) := (blk_cell BK278.out 6).trans rfl
        have hfz33_0 := blk_frozen BK278.out 0
        have hfz33_1 := blk_frozen BK278.out 1
        have hfz33_2 := blk_frozen BK278.out 2
        have hfz33_3 := blk_frozen BK278.out 3
        have hfz33_4 := blk_frozen BK278.out 4
        have hfz33_5 := blk_frozen BK278.out 5
        have hfz33_6 := blk_frozen BK278.out 6
        go_wp2_with (first | ((with_reducible refine gate_callee (f := 14) rfl ?_); refine goesL_ (some 27) rfl rfl Tryd.func14 (by kernel_rfl) rfl #[.agg #[.int .i64 t271, .int .i64 t272, .int .i64 t273, .int .i64 t274, .int .i64 t275, .int .i64 t276, .int .i64 t277]] rfl z19x3 ?_; (with_reducible refine (spec_SealText.calls kj2 t271 t272 t273 t274 t275 t276 t277 t289 _ A22.out).mono ?_); rintro e w34 ⟨rfl, hb⟩; refine ⟨_, rfl, ?_⟩; have n0_ := Aside0.mk (blk_below (g := gb278) (o := .cells #[.int .i64 t271, .int .i64 t272, .int .i64 t273, .int .i64 t274, .int .i64 t275, .int .i64 t276, .int .i64 t277] 24 (0, 0)) z19x5 hb); have n1_ := Aside0.mk (blk_below (g := gb286) (o := .cells #[.int .i64 t279, .int .i64 t280, .int .i64 t281, .int .i64 t282, .int .i64 t283, .int .i64 t284, .int .i64 t285] 24 (0, 0)) z19x6 hb); have n2_ := Aside0.mk (below_step z19x0 hb); clear BK278; clear BK286; clear HB; have BK278 := n0_; have BK286 := n1_; have HB := n2_; clear n0_ n1_ n2_; (try clear hb); (try clear hb2); (try clear hk); (try clear hi); have hcz35_0 : w34.cell? ⟨gb286, 0, none⟩ = some (.int .i64 t279) := (blk_cell BK286.out 0).trans rfl; have hcz35_1 : w34.cell? ⟨gb286, 1, none⟩ = some (.int .i64 t280) := (blk_cell BK286.out 1).trans rfl; have hcz35_2 : w34.cell? ⟨gb286, 2, none⟩ = some (.int .i64 t281) := (blk_cell BK286.out 2).trans rfl; have hcz35_3 : w34.cell? ⟨gb286, 3, none⟩ = some (.int .i64 t282) := (blk_cell BK286.out 3).trans rfl; have hcz35_4 : w34.cell? ⟨gb286, 4, none⟩ = some (.int .i64 t283) := (blk_cell BK286.out 4).trans rfl; have hcz35_5 : w34.cell? ⟨gb286, 5, none⟩ = some (.int .i64 t284) := (blk_cell BK286.out 5).trans rfl; have hcz35_6 : w34.cell? ⟨gb286, 6, none⟩ = some (.int .i64 t285) := (blk_cell BK286.out 6).trans rfl; have hfz35_0 := blk_frozen BK286.out 0; have hfz35_1 := blk_frozen BK286.out 1; have hfz35_2 := blk_frozen BK286.out 2; have hfz35_3 := blk_frozen BK286.out 3; have hfz35_4 := blk_frozen BK286.out 4; have hfz35_5 := blk_frozen BK286.out 5; have hfz35_6 := blk_frozen BK286.out 6) | (go_at_call 14; (with_reducible refine (spec_SealText.calls kj2 t279 t280 t281 t282 t283 t284 t285 t290 _ A24.out).mono ?_); rintro e w36 ⟨rfl, hb⟩; have n0_ := Aside0.mk (blk_below (g := gb278) (o := .cells #[.int .i64 t271, .int .i64 t272, .int .i64 t273, .int .i64 t274, .int .i64 t275, .int .i64 t276, .int .i64 t277] 24 (0, 0)) z19x5 hb); have n1_ := Aside0.mk (blk_below (g := gb286) (o := .cells #[.int .i64 t279, .int .i64 t280, .int .i64 t281, .int .i64 t282, .int .i64 t283, .int .i64 t284, .int .i64 t285] 24 (0, 0)) z19x6 hb); have n2_ := Aside0.mk (below_step z19x0 hb); clear BK278; clear BK286; clear HB; have BK278 := n0_; have BK286 := n1_; have HB := n2_; clear n0_ n1_ n2_; (try clear hb); (try clear hb2); (try clear hk); (try clear hi)))
        go_meet
        case rel => exact ⟨_, ((t288.toList == ([] : List UInt8))), (by first | rfl | (simp; done) | (simp [*]; done)), H', ⟨by have := HJ2.out; first | omega | exact Nat.le_refl _⟩, ⟨by (with_reducible repeat (first | refine blk_drewN ?_ _ | refine blk_drew ?_ | refine blk_alloc ?_ _)); exact BK278.out⟩, ⟨by (with_reducible repeat (first | refine blk_drewN ?_ _ | refine blk_drew ?_ | refine blk_alloc ?_ _)); exact BK286.out⟩, ⟨by repeat (first | (with_reducible first | exact HB.out | apply below_alloc | apply pw_below_drewN | apply below_drew1 | refine below_set ?_ GE278.out | refine below_set ?_ GE286.out) | exact HB.out)⟩⟩
      ·rw [if_neg c25] at H
       have c25b0 : (t288.toList == t290.toList) = false := beq_eq_false_iff_ne.mpr c25
       have c25b1 : (t288.toList != t290.toList) = true := bne_iff_ne.mpr c25
       have H' := Aside0.mk H
       clear H
       have hnb37 := NB278_286.out
       have hnc37 := NB286_278.out
       have hcz38_0 : w21.cell? ⟨gb278, 0, none⟩ = some (.int .i64 t271) := (blk_cell BK278.out 0).trans rfl
       have hcz38_1 : w21.cell? ⟨gb278, 1, none⟩ = some (.int .i64 t272) := (blk_cell BK278.out 1).trans rfl
       have hcz38_2 : w21.cell? ⟨gb278, 2, none⟩ = some (.int .i64 t273) := (blk_cell BK278.out 2).trans rfl
       have hcz38_3 : w21.cell? ⟨gb278, 3, none⟩ = some (.int .i64 t274) := (blk_cell BK278.out 3).trans rfl
       have hcz38_4 : w21.cell? ⟨gb278, 4, none⟩ = some (.int .i64 t275) := (blk_cell BK278.out 4).trans rfl
       have hcz38_5 : w21.cell? ⟨gb278, 5, none⟩ = some (.int .i64 t276) := (blk_cell BK278.out 5).trans rfl
       have hcz38_6 : w21.cell? ⟨gb278, 6, none⟩ = some (.int .i64 t277) := (blk_cell BK278.out 6).trans rfl
       have hfz38_0 := blk_frozen BK278.out 0
       have hfz38_1 := blk_frozen BK278.out 1
       have hfz38_2 := blk_frozen BK278.out 2
       have hfz38_3 := blk_frozen BK278.out 3
       have hfz38_4 := blk_frozen BK278.out 4
       have hfz38_5 := blk_frozen BK278.out 5
       have hfz38_6 := blk_frozen BK278.out 6
       go_wp2_with (first | ((with_reducible refine gate_callee (f := 14) rfl ?_); refine goesL_ (some 27) rfl rfl Tryd.func14 (by kernel_rfl) rfl #[.agg #[.int .i64 t271, .int .i64 t272, .int .i64 t273, .int .i64 t274, .int .i64 t275, .int .i64 t276, .int .i64 t277]] rfl z19x3 ?_; (with_reducible refine (spec_SealText.calls kj2 t271 t272 t273 t274 t275 t276 t277 t289 _ A22.out).mono ?_); rintro e w39 ⟨rfl, hb⟩; refine ⟨_, rfl, ?_⟩; have n0_ := Aside0.mk (blk_below (g := gb278) (o := .cells #[.int .i64 t271, .int .i64 t272, .int .i64 t273, .int .i64 t274, .int .i64 t275, .int .i64 t276, .int .i64 t277] 24 (0, 0)) z19x5 hb); have n1_ := Aside0.mk (blk_below (g := gb286) (o := .cells #[.int .i64 t279, .int .i64 t280, .int .i64 t281, .int .i64 t282, .int .i64 t283, .int .i64 t284, .int .i64 t285] 24 (0, 0)) z19x6 hb); have n2_ := Aside0.mk (below_step z19x0 hb); clear BK278; clear BK286; clear HB; have BK278 := n0_; have BK286 := n1_; have HB := n2_; clear n0_ n1_ n2_; (try clear hb); (try clear hb2); (try clear hk); (try clear hi); have hcz40_0 : w39.cell? ⟨gb286, 0, none⟩ = some (.int .i64 t279) := (blk_cell BK286.out 0).trans rfl; have hcz40_1 : w39.cell? ⟨gb286, 1, none⟩ = some (.int .i64 t280) := (blk_cell BK286.out 1).trans rfl; have hcz40_2 : w39.cell? ⟨gb286, 2, none⟩ = some (.int .i64 t281) := (blk_cell BK286.out 2).trans rfl; have hcz40_3 : w39.cell? ⟨gb286, 3, none⟩ = some (.int .i64 t282) := (blk_cell BK286.out 3).trans rfl; have hcz40_4 : w39.cell? ⟨gb286, 4, none⟩ = some (.int .i64 t283) := (blk_cell BK286.out 4).trans rfl; have hcz40_5 : w39.cell? ⟨gb286, 5, none⟩ = some (.int .i64 t284) := (blk_cell BK286.out 5).trans rfl; have hcz40_6 : w39.cell? ⟨gb286, 6, none⟩ = some (.int .i64 t285) := (blk_cell BK286.out 6).trans rfl; have hfz40_0 := blk_frozen BK286.out 0; have hfz40_1 := blk_frozen BK286.out 1; have hfz40_2 := blk_frozen BK286.out 2; have hfz40_3 := blk_frozen BK286.out 3; have hfz40_4 := blk_frozen BK286.out 4; have hfz40_5 := blk_frozen BK286.out 5; have hfz40_6 := blk_frozen BK286.out 6) | (go_at_call 14; (with_reducible refine (spec_SealText.calls kj2 t279 t280 t281 t282 t283 t284 t285 t290 _ A24.out).mono ?_); rintro e w41 ⟨rfl, hb⟩; have n0_ := Aside0.mk (blk_below (g := gb278) (o := .cells #[.int .i64 t271, .int .i64 t272, .int .i64 t273, .int .i64 t274, .int .i64 t275, .int .i64 t276, .int .i64 t277] 24 (0, 0)) z19x5 hb); have n1_ := Aside0.mk (blk_below (g := gb286) (o := .cells #[.int .i64 t279, .int .i64 t280, .int .i64 t281, .int .i64 t282, .int .i64 t283, .int .i64 t284, .int .i64 t285] 24 (0, 0)) z19x6 hb); have n2_ := Aside0.mk (below_step z19x0 hb); clear BK278; clear BK286; clear HB; have BK278 := n0_; have BK286 := n1_; have HB := n2_; clear n0_ n1_ n2_; (try clear hb); (try clear hb2); (try clear hk); (try clear hi)))
       go_meet
       case rel => exact ⟨_, (true), (by first | rfl | (simp; done) | (simp [*]; done)), H', ⟨by have := HJ2.out; first | omega | exact Nat.le_refl _⟩, ⟨by (with_reducible repeat (first | refine blk_drewN ?_ _ | refine blk_drew ?_ | refine blk_alloc ?_ _)); exact BK278.out⟩, ⟨by (with_reducible repeat (first | refine blk_drewN ?_ _ | refine blk_drew ?_ | refine blk_alloc ?_ _)); exact BK286.out⟩, ⟨by repeat (first | (with_reducible first | exact HB.out | apply below_alloc | apply pw_below_drewN | apply below_drew1 | refine below_set ?_ GE278.out | refine below_set ?_ GE286.out) | exact HB.out)⟩⟩
     ·rw [if_neg c23] at H
      have c23b0 : (t287.toList == t289.toList) = false := beq_eq_false_iff_ne.mpr c23
      have c23b1 : (t287.toList != t289.toList) = true := bne_iff_ne.mpr c23
      (first | rw [c23b0] | (simp only [i64_w, i32_w]; rw [c23b0]) | skip)
      have H' := Aside0.mk H
      clear H
      have hnb42 := NB278_286.out
      have hnc42 := NB286_278.out
      have hcz43_0 : w21.cell? ⟨gb278, 0, none⟩ = some (.int .i64 t271) := (blk_cell BK278.out 0).trans rfl
      have hcz43_1 : w21.cell? ⟨gb278, 1, none⟩ = some (.int .i64 t272) := (blk_cell BK278.out 1).trans rfl
      have hcz43_2 : w21.cell? ⟨gb278, 2, none⟩ = some (.int .i64 t273) := (blk_cell BK278.out 2).trans rfl
      have hcz43_3 : w21.cell? ⟨gb278, 3, none⟩ = some (.int .i64 t274) := (blk_cell BK278.out 3).trans rfl
      have hcz43_4 : w21.cell? ⟨gb278, 4, none⟩ = some (.int .i64 t275) := (blk_cell BK278.out 4).trans rfl
      have hcz43_5 : w21.cell? ⟨gb278, 5, none⟩ = some (.int .i64 t276) := (blk_cell BK278.out 5).trans rfl
      have hcz43_6 : w21.cell? ⟨gb278, 6, none⟩ = some (.int .i64 t277) := (blk_cell BK278.out 6).trans rfl
      have hfz43_0 := blk_frozen BK278.out 0
      have hfz43_1 := blk_frozen BK278.out 1
      have hfz43_2 := blk_frozen BK278.out 2
      have hfz43_3 := blk_frozen BK278.out 3
      have hfz43_4 := blk_frozen BK278.out 4
      have hfz43_5 := blk_frozen BK278.out 5
      have hfz43_6 := blk_frozen BK278.out 6
      go_wp2_with (first | ((with_reducible refine gate_callee (f := 14) rfl ?_); refine goesL_ (some 27) rfl rfl Tryd.func14 (by kernel_rfl) rfl #[.agg #[.int .i64 t271, .int .i64 t272, .int .i64 t273, .int .i64 t274, .int .i64 t275, .int .i64 t276, .int .i64 t277]] rfl z19x3 ?_; (with_reducible refine (spec_SealText.calls kj2 t271 t272 t273 t274 t275 t276 t277 t289 _ A22.out).mono ?_); rintro e w44 ⟨rfl, hb⟩; refine ⟨_, rfl, ?_⟩; have n0_ := Aside0.mk (blk_below (g := gb278) (o := .cells #[.int .i64 t271, .int .i64 t272, .int .i64 t273, .int .i64 t274, .int .i64 t275, .int .i64 t276, .int .i64 t277] 24 (0, 0)) z19x5 hb); have n1_ := Aside0.mk (blk_below (g := gb286) (o := .cells #[.int .i64 t279, .int .i64 t280, .int .i64 t281, .int .i64 t282, .int .i64 t283, .int .i64 t284, .int .i64 t285] 24 (0, 0)) z19x6 hb); have n2_ := Aside0.mk (below_step z19x0 hb); clear BK278; clear BK286; clear HB; have BK278 := n0_; have BK286 := n1_; have HB := n2_; clear n0_ n1_ n2_; (try clear hb); (try clear hb2); (try clear hk); (try clear hi)))
      go_meet
      case rel => exact ⟨_, (true), (by first | rfl | (simp; done) | (simp [*]; done)), H', ⟨by have := HJ2.out; first | omega | exact Nat.le_refl _⟩, ⟨by (with_reducible repeat (first | refine blk_drewN ?_ _ | refine blk_drew ?_ | refine blk_alloc ?_ _)); exact BK278.out⟩, ⟨by (with_reducible repeat (first | refine blk_drewN ?_ _ | refine blk_drew ?_ | refine blk_alloc ?_ _)); exact BK286.out⟩, ⟨by repeat (first | (with_reducible first | exact HB.out | apply below_alloc | apply pw_below_drewN | apply below_drew1 | refine below_set ?_ GE278.out | refine below_set ?_ GE286.out) | exact HB.out)⟩⟩
    case rest =>
     clear HC10
     try clear c1
     try clear c2
     try clear p2
     try clear c3
     try clear c4
     try clear c4b0
     try clear c4b1
     try clear c5
     try clear c8
     try clear c12
     try clear c13
     try clear c14
     try clear c16
     try clear c23
     try clear c23b0
     try clear c23b1
     try clear c25
     try clear c25b0
     try clear c25b1
     try clear c26
     try clear c26b0
     try clear c26b1
     try clear c27
     try clear c32
     try clear c37
     try clear c42
     try clear hcz13_0
     try clear hcz13_1
     try clear hcz13_2
     try clear hcz13_3
     try clear hcz13_4
     try clear hcz13_5
     try clear hcz13_6
     try clear hcz17_0
     try clear hcz17_1
     try clear hcz17_2
     try clear hcz17_3
     try clear hcz17_4
     try clear hcz17_5
     try clear hcz17_6
     try clear hcz18_0
     try clear hcz18_1
     try clear hcz18_2
     try clear hcz18_3
     try clear hcz18_4
     try clear hcz18_5
     try clear hcz18_6
     try clear hcz20_0
     try clear hcz20_1
     try clear hcz20_2
     try clear hcz20_3
     try clear hcz20_4
     try clear hcz20_5
     try clear hcz20_6
     try clear hcz28_0
     try clear hcz28_1
     try clear hcz28_2
     try clear hcz28_3
     try clear hcz28_4
     try clear hcz28_5
     try clear hcz28_6
     try clear hcz30_0
     try clear hcz30_1
     try clear hcz30_2
     try clear hcz30_3
     try clear hcz30_4
     try clear hcz30_5
     try clear hcz30_6
     try clear hcz33_0
     try clear hcz33_1
     try clear hcz33_2
     try clear hcz33_3
     try clear hcz33_4
     try clear hcz33_5
     try clear hcz33_6
     try clear hcz35_0
     try clear hcz35_1
     try clear hcz35_2
     try clear hcz35_3
     try clear hcz35_4
     try clear hcz35_5
     try clear hcz35_6
     try clear hcz38_0
     try clear hcz38_1
     try clear hcz38_2
     try clear hcz38_3
     try clear hcz38_4
     try clear hcz38_5
     try clear hcz38_6
     try clear hcz40_0
     try clear hcz40_1
     try clear hcz40_2
     try clear hcz40_3
     try clear hcz40_4
     try clear hcz40_5
     try clear hcz40_6
     try clear hcz43_0
     try clear hcz43_1
     try clear hcz43_2
     try clear hcz43_3
     try clear hcz43_4
     try clear hcz43_5
     try clear hcz43_6
     try clear hfz13_0
     try clear hfz13_1
     try clear hfz13_2
     try clear hfz13_3
     try clear hfz13_4
     try clear hfz13_5
     try clear hfz13_6
     try clear hfz17_0
     try clear hfz17_1
     try clear hfz17_2
     try clear hfz17_3
     try clear hfz17_4
     try clear hfz17_5
     try clear hfz17_6
     try clear hfz18_0
     try clear hfz18_1
     try clear hfz18_2
     try clear hfz18_3
     try clear hfz18_4
     try clear hfz18_5
     try clear hfz18_6
     try clear hfz20_0
     try clear hfz20_1
     try clear hfz20_2
     try clear hfz20_3
     try clear hfz20_4
     try clear hfz20_5
     try clear hfz20_6
     try clear hfz28_0
     try clear hfz28_1
     try clear hfz28_2
     try clear hfz28_3
     try clear hfz28_4
     try clear hfz28_5
     try clear hfz28_6
     try clear hfz30_0
     try clear hfz30_1
     try clear hfz30_2
     try clear hfz30_3
     try clear hfz30_4
     try clear hfz30_5
     try clear hfz30_6
     try clear hfz33_0
     try clear hfz33_1
     try clear hfz33_2
     try clear hfz33_3
     try clear hfz33_4
     try clear hfz33_5
     try clear hfz33_6
     try clear hfz35_0
     try clear hfz35_1
     try clear hfz35_2
     try clear hfz35_3
     try clear hfz35_4
     try clear hfz35_5
     try clear hfz35_6
     try clear hfz38_0
     try clear hfz38_1
     try clear hfz38_2
     try clear hfz38_3
     try clear hfz38_4
     try clear hfz38_5
     try clear hfz38_6
     try clear hfz40_0
     try clear hfz40_1
     try clear hfz40_2
     try clear hfz40_3
     try clear hfz40_4
     try clear hfz40_5
     try clear hfz40_6
     try clear hfz43_0
     try clear hfz43_1
     try clear hfz43_2
     try clear hfz43_3
     try clear hfz43_4
     try clear hfz43_5
     try clear hfz43_6
     try clear p2
     obtain ⟨kq, x42_9, rfl, HA, HJ9, BK278, BK286, HB⟩ := hcut
     cases kq with
     | zero => exact absurd HA.out (by simp [laws_FnSealOne.j1])
     | succ kj9 =>
      have H := HA.out
      clear HA
      simp only [laws_FnSealOne.j1] at H
      by_cases c45 : x42_9 = true
      ·subst c45
       rw [if_pos rfl] at H
       replace H := Option.bind_eq_some_iff.mp H
       obtain ⟨t291, A460, H⟩ := H
       replace H : (if t287.toList = t291.toList then ((spec_SealText.f kj9 t279 t280 t281 t282 t283 t284 t285).bind fun t292 => (some (t288.toList == t292.toList))) else (some false)) = some r := H
       have A46 := Aside0.mk A460
       clear A460
       by_cases c47 : t287.toList = t291.toList
       ·rw [if_pos c47] at H
        have c47b0 : (t287.toList == t291.toList) = true := beq_iff_eq.mpr c47
        have c47b1 : (t287.toList != t291.toList) = false := bne_eq_false_iff_eq.mpr c47
        clear c47
        replace H := Option.bind_eq_some_iff.mp H
        obtain ⟨t292, A480, H⟩ := H
        replace H : (some (t288.toList == t292.toList)) = some r := H
        have A48 := Aside0.mk A480
        clear A480
        obtain rfl := Option.some.inj H
        have hnb49 := NB278_286.out
        have hnc49 := NB286_278.out
        have hcz50_0 : wc.cell? ⟨gb278, 0, none⟩ = some (.int .i64 t271) := (blk_cell BK278.out 0).trans rfl
        have hcz50_1 : wc.cell? ⟨gb278, 1, none⟩ = some (.int .i64 t272) := (blk_cell BK278.out 1).trans rfl
        have hcz50_2 : wc.cell? ⟨gb278, 2, none⟩ = some (.int .i64 t273) := (blk_cell BK278.out 2).trans rfl
        have hcz50_3 : wc.cell? ⟨gb278, 3, none⟩ = some (.int .i64 t274) := (blk_cell BK278.out 3).trans rfl
        have hcz50_4 : wc.cell? ⟨gb278, 4, none⟩ = some (.int .i64 t275) := (blk_cell BK278.out 4).trans rfl
        have hcz50_5 : wc.cell? ⟨gb278, 5, none⟩ = some (.int .i64 t276) := (blk_cell BK278.out 5).trans rfl
        have hcz50_6 : wc.cell? ⟨gb278, 6, none⟩ = some (.int .i64 t277) := (blk_cell BK278.out 6).trans rfl
        have hfz50_0 := blk_frozen BK278.out 0
        have hfz50_1 := blk_frozen BK278.out 1
        have hfz50_2 := blk_frozen BK278.out 2
        have hfz50_3 := blk_frozen BK278.out 3
        have hfz50_4 := blk_frozen BK278.out 4
        have hfz50_5 := blk_frozen BK278.out 5
        have hfz50_6 := blk_frozen BK278.out 6
        go_wp2_with (first | ((with_reducible refine gate_callee (f := 14) rfl ?_); refine goesL_ (some 45) rfl rfl Tryd.func14 (by kernel_rfl) rfl #[.agg #[.int .i64 t271, .int .i64 t272, .int .i64 t273, .int .i64 t274, .int .i64 t275, .int .i64 t276, .int .i64 t277]] rfl z19x3 ?_; (with_reducible refine (spec_SealText.calls kj9 t271 t272 t273 t274 t275 t276 t277 t291 _ A46.out).mono ?_); rintro e w51 ⟨rfl, hb⟩; refine ⟨_, rfl, ?_⟩; have n0_ := Aside0.mk (blk_below (g := gb278) (o := .cells #[.int .i64 t271, .int .i64 t272, .int .i64 t273, .int .i64 t274, .int .i64 t275, .int .i64 t276, .int .i64 t277] 24 (0, 0)) z19x5 hb); have n1_ := Aside0.mk (blk_below (g := gb286) (o := .cells #[.int .i64 t279, .int .i64 t280, .int .i64 t281, .int .i64 t282, .int .i64 t283, .int .i64 t284, .int .i64 t285] 24 (0, 0)) z19x6 hb); have n2_ := Aside0.mk (below_step z19x0 hb); clear BK278; clear BK286; clear HB; have BK278 := n0_; have BK286 := n1_; have HB := n2_; clear n0_ n1_ n2_; (try clear hb); (try clear hb2); (try clear hk); (try clear hi); have hcz52_0 : w51.cell? ⟨gb286, 0, none⟩ = some (.int .i64 t279) := (blk_cell BK286.out 0).trans rfl; have hcz52_1 : w51.cell? ⟨gb286, 1, none⟩ = some (.int .i64 t280) := (blk_cell BK286.out 1).trans rfl; have hcz52_2 : w51.cell? ⟨gb286, 2, none⟩ = some (.int .i64 t281) := (blk_cell BK286.out 2).trans rfl; have hcz52_3 : w51.cell? ⟨gb286, 3, none⟩ = some (.int .i64 t282) := (blk_cell BK286.out 3).trans rfl; have hcz52_4 : w51.cell? ⟨gb286, 4, none⟩ = some (.int .i64 t283) := (blk_cell BK286.out 4).trans rfl; have hcz52_5 : w51.cell? ⟨gb286, 5, none⟩ = some (.int .i64 t284) := (blk_cell BK286.out 5).trans rfl; have hcz52_6 : w51.cell? ⟨gb286, 6, none⟩ = some (.int .i64 t285) := (blk_cell BK286.out 6).trans rfl; have hfz52_0 := blk_frozen BK286.out 0; have hfz52_1 := blk_frozen BK286.out 1; have hfz52_2 := blk_frozen BK286.out 2; have hfz52_3 := blk_frozen BK286.out 3; have hfz52_4 := blk_frozen BK286.out 4; have hfz52_5 := blk_frozen BK286.out 5; have hfz52_6 := blk_frozen BK286.out 6) | (go_at_call 14; (with_reducible refine (spec_SealText.calls kj9 t279 t280 t281 t282 t283 t284 t285 t292 _ A48.out).mono ?_); rintro e w53 ⟨rfl, hb⟩; have n0_ := Aside0.mk (blk_below (g := gb278) (o := .cells #[.int .i64 t271, .int .i64 t272, .int .i64 t273, .int .i64 t274, .int .i64 t275, .int .i64 t276, .int .i64 t277] 24 (0, 0)) z19x5 hb); have n1_ := Aside0.mk (blk_below (g := gb286) (o := .cells #[.int .i64 t279, .int .i64 t280, .int .i64 t281, .int .i64 t282, .int .i64 t283, .int .i64 t284, .int .i64 t285] 24 (0, 0)) z19x6 hb); have n2_ := Aside0.mk (below_step z19x0 hb); clear BK278; clear BK286; clear HB; have BK278 := n0_; have BK286 := n1_; have HB := n2_; clear n0_ n1_ n2_; (try clear hb); (try clear hb2); (try clear hk); (try clear hi)))
        go_ret
        exact ⟨by first | rfl | (simp [errW_none, errW_some] <;> rfl) | (simp [*, errW_none, errW_some] <;> rfl), by repeat (first | (with_reducible first | exact HB.out | apply below_alloc | apply pw_below_drewN | apply below_drew1 | refine below_set ?_ GE278.out | refine below_set ?_ GE286.out) | exact HB.out)⟩
       ·rw [if_neg c47] at H
        have c47b0 : (t287.toList == t291.toList) = false := beq_eq_false_iff_ne.mpr c47
        have c47b1 : (t287.toList != t291.toList) = true := bne_iff_ne.mpr c47
        obtain rfl := Option.some.inj H
        have hnb54 := NB278_286.out
        have hnc54 := NB286_278.out
        have hcz55_0 : wc.cell? ⟨gb278, 0, none⟩ = some (.int .i64 t271) := (blk_cell BK278.out 0).trans rfl
        have hcz55_1 : wc.cell? ⟨gb278, 1, none⟩ = some (.int .i64 t272) := (blk_cell BK278.out 1).trans rfl
        have hcz55_2 : wc.cell? ⟨gb278, 2, none⟩ = some (.int .i64 t273) := (blk_cell BK278.out 2).trans rfl
        have hcz55_3 : wc.cell? ⟨gb278, 3, none⟩ = some (.int .i64 t274) := (blk_cell BK278.out 3).trans rfl
        have hcz55_4 : wc.cell? ⟨gb278, 4, none⟩ = some (.int .i64 t275) := (blk_cell BK278.out 4).trans rfl
        have hcz55_5 : wc.cell? ⟨gb278, 5, none⟩ = some (.int .i64 t276) := (blk_cell BK278.out 5).trans rfl
        have hcz55_6 : wc.cell? ⟨gb278, 6, none⟩ = some (.int .i64 t277) := (blk_cell BK278.out 6).trans rfl
        have hfz55_0 := blk_frozen BK278.out 0
        have hfz55_1 := blk_frozen BK278.out 1
        have hfz55_2 := blk_frozen BK278.out 2
        have hfz55_3 := blk_frozen BK278.out 3
        have hfz55_4 := blk_frozen BK278.out 4
        have hfz55_5 := blk_frozen BK278.out 5
        have hfz55_6 := blk_frozen BK278.out 6
        go_wp2_with (first | ((with_reducible refine gate_callee (f := 14) rfl ?_); refine goesL_ (some 45) rfl rfl Tryd.func14 (by kernel_rfl) rfl #[.agg #[.int .i64 t271, .int .i64 t272, .int .i64 t273, .int .i64 t274, .int .i64 t275, .int .i64 t276, .int .i64 t277]] rfl z19x3 ?_; (with_reducible refine (spec_SealText.calls kj9 t271 t272 t273 t274 t275 t276 t277 t291 _ A46.out).mono ?_); rintro e w56 ⟨rfl, hb⟩; refine ⟨_, rfl, ?_⟩; have n0_ := Aside0.mk (blk_below (g := gb278) (o := .cells #[.int .i64 t271, .int .i64 t272, .int .i64 t273, .int .i64 t274, .int .i64 t275, .int .i64 t276, .int .i64 t277] 24 (0, 0)) z19x5 hb); have n1_ := Aside0.mk (blk_below (g := gb286) (o := .cells #[.int .i64 t279, .int .i64 t280, .int .i64 t281, .int .i64 t282, .int .i64 t283, .int .i64 t284, .int .i64 t285] 24 (0, 0)) z19x6 hb); have n2_ := Aside0.mk (below_step z19x0 hb); clear BK278; clear BK286; clear HB; have BK278 := n0_; have BK286 := n1_; have HB := n2_; clear n0_ n1_ n2_; (try clear hb); (try clear hb2); (try clear hk); (try clear hi)))
        go_ret
        exact ⟨by first | rfl | (simp [errW_none, errW_some] <;> rfl) | (simp [*, errW_none, errW_some] <;> rfl), by repeat (first | (with_reducible first | exact HB.out | apply below_alloc | apply pw_below_drewN | apply below_drew1 | refine below_set ?_ GE278.out | refine below_set ?_ GE286.out) | exact HB.out)⟩
      ·replace c45 := Bool.eq_false_iff.mpr c45
       subst c45
       rw [if_neg (show ¬ (false = true) by decide)] at H
       obtain rfl := Option.some.inj H
       have hnb57 := NB278_286.out
       have hnc57 := NB286_278.out
       have hcz58_0 : wc.cell? ⟨gb278, 0, none⟩ = some (.int .i64 t271) := (blk_cell BK278.out 0).trans rfl
       have hcz58_1 : wc.cell? ⟨gb278, 1, none⟩ = some (.int .i64 t272) := (blk_cell BK278.out 1).trans rfl
       have hcz58_2 : wc.cell? ⟨gb278, 2, none⟩ = some (.int .i64 t273) := (blk_cell BK278.out 2).trans rfl
       have hcz58_3 : wc.cell? ⟨gb278, 3, none⟩ = some (.int .i64 t274) := (blk_cell BK278.out 3).trans rfl
       have hcz58_4 : wc.cell? ⟨gb278, 4, none⟩ = some (.int .i64 t275) := (blk_cell BK278.out 4).trans rfl
       have hcz58_5 : wc.cell? ⟨gb278, 5, none⟩ = some (.int .i64 t276) := (blk_cell BK278.out 5).trans rfl
       have hcz58_6 : wc.cell? ⟨gb278, 6, none⟩ = some (.int .i64 t277) := (blk_cell BK278.out 6).trans rfl
       have hfz58_0 := blk_frozen BK278.out 0
       have hfz58_1 := blk_frozen BK278.out 1
       have hfz58_2 := blk_frozen BK278.out 2
       have hfz58_3 := blk_frozen BK278.out 3
       have hfz58_4 := blk_frozen BK278.out 4
       have hfz58_5 := blk_frozen BK278.out 5
       have hfz58_6 := blk_frozen BK278.out 6
       have hcz59_0 : wc.cell? ⟨gb286, 0, none⟩ = some (.int .i64 t279) := (blk_cell BK286.out 0).trans rfl
       have hcz59_1 : wc.cell? ⟨gb286, 1, none⟩ = some (.int .i64 t280) := (blk_cell BK286.out 1).trans rfl
       have hcz59_2 : wc.cell? ⟨gb286, 2, none⟩ = some (.int .i64 t281) := (blk_cell BK286.out 2).trans rfl
       have hcz59_3 : wc.cell? ⟨gb286, 3, none⟩ = some (.int .i64 t282) := (blk_cell BK286.out 3).trans rfl
       have hcz59_4 : wc.cell? ⟨gb286, 4, none⟩ = some (.int .i64 t283) := (blk_cell BK286.out 4).trans rfl
       have hcz59_5 : wc.cell? ⟨gb286, 5, none⟩ = some (.int .i64 t284) := (blk_cell BK286.out 5).trans rfl
       have hcz59_6 : wc.cell? ⟨gb286, 6, none⟩ = some (.int .i64 t285) := (blk_cell BK286.out 6).trans rfl
       have hfz59_0 := blk_frozen BK286.out 0
       have hfz59_1 := blk_frozen BK286.out 1
       have hfz59_2 := blk_frozen BK286.out 2
       have hfz59_3 := blk_frozen BK286.out 3
       have hfz59_4 := blk_frozen BK286.out 4
       have hfz59_5 := blk_frozen BK286.out 5
       have hfz59_6 := blk_frozen BK286.out 6
       go_wp2
       go_ret
       exact ⟨by first | rfl | (simp [errW_none, errW_some] <;> rfl) | (simp [*, errW_none, errW_some] <;> rfl), by repeat (first | (with_reducible first | exact HB.out | apply below_alloc | apply pw_below_drewN | apply below_drew1 | refine below_set ?_ GE278.out | refine below_set ?_ GE286.out) | exact HB.out)⟩

/-- THE ONE PURE STATEMENT of laws_FnSealOne: yours. -/
def laws_FnSealOne.Pure : Prop := ∀ (l0 : List Int) (l1 : List Int), l0.length ≤ maxLen → l0.length * 1 ≤ 140737488351232 → (∀ x ∈ l0, (Lit.int .u8 x).wf = true) → l1.length ≤ maxLen → l1.length * 1 ≤ 140737488351232 → (∀ x ∈ l1, (Lit.int .u8 x).wf = true) → ∃ k, laws_FnSealOne.f k l0 l1 = some true
theorem laws_FnSealOne.walk (P : laws_FnSealOne.Pure) (a0 : Option Addr) (len0 cap0 : Nat) (z0 : List Int) (a1 : Option Addr) (len1 cap1 : Nat) (z1 : List Int) (w : World) (w0 : (a0 = none ∧ len0 = 0 ∧ cap0 = 0 ∧ z0 = []) ∨ ∃ x, a0 = some x ∧ len0 ≤ cap0 ∧ cap0 ≤ maxLen ∧ z0.length = cap0 ∧ (∀ i, i < z0.length → w.cell? (x.add i) = some (.int .u8 (z0.getD i 0))) ∧ ∀ n ∈ z0, (Lit.int .u8 n).wf = true) (y0 : len0 * 1 ≤ 140737488351232) (w1 : (a1 = none ∧ len1 = 0 ∧ cap1 = 0 ∧ z1 = []) ∨ ∃ x, a1 = some x ∧ len1 ≤ cap1 ∧ cap1 ≤ maxLen ∧ z1.length = cap1 ∧ (∀ i, i < z1.length → w.cell? (x.add i) = some (.int .u8 (z1.getD i 0))) ∧ ∀ n ∈ z1, (Lit.int .u8 n).wf = true) (y1 : len1 * 1 ≤ 140737488351232) (ht : Tens w) :
  Calls Tryd.prog 8 #[.slice a0 len0 cap0, .slice a1 len1 cap1] w fun e w' => e = .returned (.bool true) ∧ Below w.heap.size w w' := by
 obtain ⟨l0, rfl, hr0, hm0, hw0, hc0⟩ := ReadsInt.ofRowC w0
 obtain ⟨l1, rfl, hr1, hm1, hw1, hc1⟩ := ReadsInt.ofRowC w1
 obtain ⟨k, h⟩ := P l0 l1 hm0 y0 hw0 hm1 y1 hw1
 refine (laws_FnSealOne.calls k _ _ l0 _ _ l1 true w (Kd.C_of_reads (d := (0 : Int)) (h1 := fun _ => rfl) hr0) hc0 (Kd.C_of_reads (d := (0 : Int)) (h1 := fun _ => rfl) hr1) hc1 h ht).mono ?_
 rintro e w' ⟨rfl, hd⟩
 exact ⟨rfl, hd⟩

end Go.Proofs.YtgekmdfcbcacdaaDoor.Hp
