-- hp.py
import Derived.Test.YtpdeincniaiajaaHx0
import Derived.Test.YtpdeincniaiajaaHx45
import Derived.Test.YtpdeincniaiajaaHx48
import Derived.Test.YtpdeincniaiajaaHx53
import Derived.Test.YtpdeincniaiajaaHx54
import Derived.Test.YtpdeincniaiajaaHx67
namespace Go.Proofs.Ytpdeincniaiajaa.Hp
open Go.RowKit Go.Proofs.YtpdeincniaiajaaW.PrintWords Go.Proofs.YtpdeincniaiajaaW.PrintLast Go.Proofs.YtpdeincniaiajaaW.PrintMore
attribute [local go_sem] max2_int min2_int max_two min_two max_three min_three max_four min_four   -- for this text's walks alone
set_option linter.unusedVariables false
set_option linter.unusedSimpArgs false
-- squeezed by wip/tools/squeeze.py
theorem z70x10 {P : Prop} (h : P:=by (with_reducible repeat (first | apply Kd.R_alloc | apply Kd.R_drewN | apply Kd.R_drew));exact HO_8.out) : P:=h
theorem z70x9 {P : Prop} (h : P:=by (with_reducible repeat (first | apply Kd.V_alloc | apply Kd.V_drewN | apply Kd.V_drew));exact HO_10.out) : P:=h
theorem z70x8 {P : Prop} (h : P:=by (with_reducible repeat (first | apply Kd.V_alloc | apply Kd.V_drewN | apply Kd.V_drew));exact ql.out) : P:=h
theorem z70x7 {P : Prop} (h : P:=by (with_reducible repeat (first | apply Kd.R_alloc | apply Kd.R_drewN | apply Kd.R_drew));exact qt.out) : P:=h
theorem z70x6 {P : Prop} (h : P:=by (with_reducible repeat (first | refine blk_drewN ?_ _ | refine blk_drew ?_ | refine blk_alloc ?_ _));exact qa.out) : P:=h
theorem z70x5 {P : Prop} (h : P:=by repeat (first | (with_reducible first | exact HB.out | apply below_alloc | apply pw_below_drewN | apply below_drew1) | exact HB.out)) : P:=h
theorem z70x4 {P : Prop} (h : P:=by (try simp only [List.map_toArray,List.map_cons,List.map_nil]);first | done | rfl | (simp only [List.length_drop,List.length_take];rfl)) : P:=h
theorem z70x3 {P : Prop} (h : P:=by repeat (first | (with_reducible first | exact HB.out | apply below_alloc | apply pw_below_drewN | apply below_drew1 | refine below_set ?_ qx.out) | exact HB.out)) : P:=h
theorem z70x2 {P : Prop} (h : P:=by (try simp only [List.map_toArray,List.map_cons,List.map_nil]);first | done | (simp only [qy];rfl) | rfl | (simp only [List.length_drop,List.length_take];rfl)) : P:=h
theorem z70x1 {P : Prop} (h : P:=by (with_reducible repeat (first | apply Kd.R_alloc | apply Kd.R_drewN | apply Kd.R_drew));exact (Kd.R_mono (Kd.R_far (p:=⟨qb,6,none⟩) (Kd.R_far (p:=⟨qb,5,none⟩) (Kd.R_far (p:=⟨qb,4,none⟩) (Kd.R_far (p:=⟨qb,3,none⟩) (Kd.R_far (p:=⟨qb,2,none⟩) (Kd.R_far (p:=⟨qb,1,none⟩) (Kd.R_far (p:=⟨qb,0,none⟩) (Kd.R_mono qt.out (fun k_ hk => (⟨hk,hk.2⟩ : _ ∧ k_ ≠ qb))) (fun _ hk => hk.2) (.int .i64 qc)) (fun _ hk => hk.2) (.int .i64 qd)) (fun _ hk => hk.2) (.int .i64 qe)) (fun _ hk => hk.2) (.int .i64 qf)) (fun _ hk => hk.2) (.int .i64 qg)) (fun _ hk => hk.2) (.int .i64 qh)) (fun _ hk => hk.2) (.int .i64 qi)) (fun _ h_ => h_.1))) : P:=h
theorem z70x0 {P : Prop} (h : P:=by (with_reducible repeat (first | refine blk_drewN ?_ _ | refine blk_drew ?_ | refine blk_alloc ?_ _));refine blk_put (cs:=#[.int .i64 qc,.int .i64 qd,.int .i64 qe,.int .i64 qf,.int .i64 qg,.int .i64 qh,.int .i64 0]) ?_ 6 _ rfl;(with_reducible repeat (first | refine blk_drewN ?_ _ | refine blk_drew ?_ | refine blk_alloc ?_ _));refine blk_put (cs:=#[.int .i64 qc,.int .i64 qd,.int .i64 qe,.int .i64 qf,.int .i64 qg,.int .i64 0,.int .i64 0]) ?_ 5 _ rfl;(with_reducible repeat (first | refine blk_drewN ?_ _ | refine blk_drew ?_ | refine blk_alloc ?_ _));refine blk_put (cs:=#[.int .i64 qc,.int .i64 qd,.int .i64 qe,.int .i64 qf,.int .i64 0,.int .i64 0,.int .i64 0]) ?_ 4 _ rfl;(with_reducible repeat (first | refine blk_drewN ?_ _ | refine blk_drew ?_ | refine blk_alloc ?_ _));refine blk_put (cs:=#[.int .i64 qc,.int .i64 qd,.int .i64 qe,.int .i64 0,.int .i64 0,.int .i64 0,.int .i64 0]) ?_ 3 _ rfl;(with_reducible repeat (first | refine blk_drewN ?_ _ | refine blk_drew ?_ | refine blk_alloc ?_ _));refine blk_put (cs:=#[.int .i64 qc,.int .i64 qd,.int .i64 0,.int .i64 0,.int .i64 0,.int .i64 0,.int .i64 0]) ?_ 2 _ rfl;(with_reducible repeat (first | refine blk_drewN ?_ _ | refine blk_drew ?_ | refine blk_alloc ?_ _));refine blk_put (cs:=#[.int .i64 qc,.int .i64 0,.int .i64 0,.int .i64 0,.int .i64 0,.int .i64 0,.int .i64 0]) ?_ 1 _ rfl;(with_reducible repeat (first | refine blk_drewN ?_ _ | refine blk_drew ?_ | refine blk_alloc ?_ _));refine blk_put (cs:=#[.int .i64 0,.int .i64 0,.int .i64 0,.int .i64 0,.int .i64 0,.int .i64 0,.int .i64 0]) ?_ 0 _ rfl;(with_reducible repeat (first | refine blk_drewN ?_ _ | refine blk_drew ?_ | refine blk_alloc ?_ _));exact qa.out) : P:=h

/-! ### laws_FnCacheOnce: function 11 -/
mutual
def laws_FnCacheOnce.j0 : Nat → List Int → List Int → Bool → Option (Bool)
 | 0,_,_,_ => none
 | k + 1,x0,x1,x24 => if x24 = true then (some true) else ((spec_DrawCacheWith.f k x0).bind fun qj => ((spec_CacheWith.f k qj.1 qj.2.1 qj.2.2.1 qj.2.2.2.1 qj.2.2.2.2.1 qj.2.2.2.2.2.1 qj.2.2.2.2.2.2.1 qj.2.2.2.2.2.2.2.1 qj.2.2.2.2.2.2.2.2).bind fun qo => ((impl_CacheWith.f k qj.1 qj.2.1 qj.2.2.1 qj.2.2.2.1 qj.2.2.2.2.1 qj.2.2.2.2.2.1 qj.2.2.2.2.2.2.1 qj.2.2.2.2.2.2.2.1 qj.2.2.2.2.2.2.2.2).bind fun qk => (if (qk.2 != qo.2) = true then (laws_FnCacheOnce.j1 k x1 qj.2.2.2.2.2.2.2.2 qo.1 qo.2 qk.1 qk.2 true qj.2.1 qj.2.2.1 qj.2.2.2.1 qj.2.2.2.2.1 qj.2.2.2.2.2.1 qj.2.2.2.2.2.2.1 qj.2.2.2.2.2.2.2.1) else ((laws_lbSeals.f k qk.1 qo.1).bind fun wb => (if wb = true then (laws_FnCacheOnce.j1 k x1 qj.2.2.2.2.2.2.2.2 qo.1 qo.2 qk.1 qk.2 (!qk.2) qj.2.1 qj.2.2.1 qj.2.2.2.1 qj.2.2.2.2.1 qj.2.2.2.2.2.1 qj.2.2.2.2.2.2.1 qj.2.2.2.2.2.2.2.1) else (laws_FnCacheOnce.j1 k x1 qj.2.2.2.2.2.2.2.2 qo.1 qo.2 qk.1 qk.2 true qj.2.1 qj.2.2.1 qj.2.2.2.1 qj.2.2.2.2.1 qj.2.2.2.2.2.1 qj.2.2.2.2.2.2.1 qj.2.2.2.2.2.2.2.1)))))))
def laws_FnCacheOnce.j1 : Nat → List Int → Int → List (S57) → Bool → List (S57) → Bool → Bool → Int → Int → Int → Int → Int → Int → Int → Option (Bool)
 | 0,_,_,_,_,_,_,_,_,_,_,_,_,_,_ => none
 | k + 1,x1,x7,x8,x9,x10,x11,x57,wm,wl,wk,wj,wi,wh,wg => if x57 = true then (if (x11 == x9) = true then ((laws_lbSeals.f k x10 x8).bind fun wx => (some wx)) else (some false)) else ((impl_CacheWith.f k x10 wm wl wk wj wi wh wg (mn (wrap64 (x7 + ((x1.length : Int) % 8))) 100)).bind fun wq => ((impl_CacheWith.f k wq.1 wm wl wk wj wi wh wg (mn (wrap64 (x7 + ((x1.length : Int) % 8))) 100)).bind fun wo => (if wq.2 = true then (some false) else (if wo.2 = true then (some false) else ((laws_lbAmong.f k x10 wm wl wk wj wi wh wg).bind fun qz => (some qz))))))
end
def laws_FnCacheOnce.f (k : Nat) (l0 : List Int) (l1 : List Int) : Option (Bool):=if (l0.length : Int) > 1048576 then (laws_FnCacheOnce.j0 k l0 l1 true) else (laws_FnCacheOnce.j0 k l0 l1 (decide ((l1.length : Int) > 1048576)))
theorem laws_FnCacheOnce.mono_l : ∀ k,(∀ y0 y1 y2,LeO (laws_FnCacheOnce.j0 k y0 y1 y2) (laws_FnCacheOnce.j0 (k + 1) y0 y1 y2)) ∧ (∀ y0 y1 y2 y3 y4 y5 y6 y7 y8 y9 y10 y11 y12 y13,LeO (laws_FnCacheOnce.j1 k y0 y1 y2 y3 y4 y5 y6 y7 y8 y9 y10 y11 y12 y13) (laws_FnCacheOnce.j1 (k + 1) y0 y1 y2 y3 y4 y5 y6 y7 y8 y9 y10 y11 y12 y13))
 | 0 => ⟨fun _ _ _ r h => by simp [laws_FnCacheOnce.j0] at h,fun _ _ _ _ _ _ _ _ _ _ _ _ _ _ r h => by simp [laws_FnCacheOnce.j1] at h⟩
 | k + 1 => by
  obtain ⟨ih0,ih1⟩:=laws_FnCacheOnce.mono_l k
  refine ⟨?_,?_⟩
  ·intro y0 y1 y2
   unfold laws_FnCacheOnce.j0
   repeat' first
   | (with_reducible exact ih0 _ _ _)
   | (with_reducible exact ih1 _ _ _ _ _ _ _ _ _ _ _ _ _ _)
   | (with_reducible exact impl_CacheWith.mono _ _ _ _ _ _ _ _ _ _)
   | (with_reducible exact laws_lbAmong.mono _ _ _ _ _ _ _ _ _)
   | (with_reducible exact laws_lbSeals.mono _ _ _)
   | (with_reducible exact spec_CacheWith.mono _ _ _ _ _ _ _ _ _ _)
   | (with_reducible exact spec_DrawCacheWith.mono _ _)
   | (with_reducible exact LeO.refl _)
   | (with_reducible exact LeO.none _)
   | (with_reducible refine LeO.ite ?_ ?_)
   | (with_reducible refine LeO.bind ?_ (fun _ => ?_))
   | exact ih0 _ _ _
   | exact ih1 _ _ _ _ _ _ _ _ _ _ _ _ _ _
   | exact impl_CacheWith.mono _ _ _ _ _ _ _ _ _ _
   | exact laws_lbAmong.mono _ _ _ _ _ _ _ _ _
   | exact laws_lbSeals.mono _ _ _
   | exact spec_CacheWith.mono _ _ _ _ _ _ _ _ _ _
   | exact spec_DrawCacheWith.mono _ _
   | exact LeO.none _
   | refine LeO.ite ?_ ?_
   | refine LeO.bind ?_ (fun _ => ?_)
  ·intro y0 y1 y2 y3 y4 y5 y6 y7 y8 y9 y10 y11 y12 y13
   unfold laws_FnCacheOnce.j1
   repeat' first
   | (with_reducible exact ih0 _ _ _)
   | (with_reducible exact ih1 _ _ _ _ _ _ _ _ _ _ _ _ _ _)
   | (with_reducible exact impl_CacheWith.mono _ _ _ _ _ _ _ _ _ _)
   | (with_reducible exact laws_lbAmong.mono _ _ _ _ _ _ _ _ _)
   | (with_reducible exact laws_lbSeals.mono _ _ _)
   | (with_reducible exact spec_CacheWith.mono _ _ _ _ _ _ _ _ _ _)
   | (with_reducible exact spec_DrawCacheWith.mono _ _)
   | (with_reducible exact LeO.refl _)
   | (with_reducible exact LeO.none _)
   | (with_reducible refine LeO.ite ?_ ?_)
   | (with_reducible refine LeO.bind ?_ (fun _ => ?_))
   | exact ih0 _ _ _
   | exact ih1 _ _ _ _ _ _ _ _ _ _ _ _ _ _
   | exact impl_CacheWith.mono _ _ _ _ _ _ _ _ _ _
   | exact laws_lbAmong.mono _ _ _ _ _ _ _ _ _
   | exact laws_lbSeals.mono _ _ _
   | exact spec_CacheWith.mono _ _ _ _ _ _ _ _ _ _
   | exact spec_DrawCacheWith.mono _ _
   | exact LeO.none _
   | refine LeO.ite ?_ ?_
   | refine LeO.bind ?_ (fun _ => ?_)
theorem laws_FnCacheOnce.mono : ∀ a0 a1 k,LeO (laws_FnCacheOnce.f k a0 a1) (laws_FnCacheOnce.f (k + 1) a0 a1):=by
 intro a0 a1 k
 obtain ⟨ih0,ih1⟩:=laws_FnCacheOnce.mono_l k
 unfold laws_FnCacheOnce.f
 repeat' first
   | (with_reducible exact ih0 _ _ _)
   | (with_reducible exact ih1 _ _ _ _ _ _ _ _ _ _ _ _ _ _)
   | (with_reducible exact impl_CacheWith.mono _ _ _ _ _ _ _ _ _ _)
   | (with_reducible exact laws_lbAmong.mono _ _ _ _ _ _ _ _ _)
   | (with_reducible exact laws_lbSeals.mono _ _ _)
   | (with_reducible exact spec_CacheWith.mono _ _ _ _ _ _ _ _ _ _)
   | (with_reducible exact spec_DrawCacheWith.mono _ _)
   | (with_reducible exact LeO.refl _)
   | (with_reducible exact LeO.none _)
   | (with_reducible refine LeO.ite ?_ ?_)
   | (with_reducible refine LeO.bind ?_ (fun _ => ?_))
   | exact ih0 _ _ _
   | exact ih1 _ _ _ _ _ _ _ _ _ _ _ _ _ _
   | exact impl_CacheWith.mono _ _ _ _ _ _ _ _ _ _
   | exact laws_lbAmong.mono _ _ _ _ _ _ _ _ _
   | exact laws_lbSeals.mono _ _ _
   | exact spec_CacheWith.mono _ _ _ _ _ _ _ _ _ _
   | exact spec_DrawCacheWith.mono _ _
   | exact LeO.none _
   | refine LeO.ite ?_ ?_
   | refine LeO.bind ?_ (fun _ => ?_)
set_option maxHeartbeats 8000000 in
set_option maxRecDepth 100000 in
theorem laws_FnCacheOnce.calls (k : Nat) (A0 : Option Addr) (c0 : Nat) (l0 : List Int) (A1 : Option Addr) (c1 : Nat) (l1 : List Int) (r : Bool) (w : World) (hr0 : Kd.C (Kd.int .u8) w A0 l0.length l0) (hc0 : l0.length ≤ c0) (hr1 : Kd.C (Kd.int .u8) w A1 l1.length l1) (hc1 : l1.length ≤ c1) (h : laws_FnCacheOnce.f k l0 l1 = some r) :
  Calls Try.prog 11 #[.slice A0 l0.length c0,.slice A1 l1.length c1] w fun e w' => e = .returned (.bool r) ∧ Below w.heap.size w w':=by
 have qcj:=Try.underlying57
 have HR0:=Aside0.mk hr0
 have HC0:=Aside0.mk hc0
 clear hr0 hc0
 have HR1:=Aside0.mk hr1
 have HC1:=Aside0.mk hc1
 clear hr1 hc1
 have HB:=Aside0.mk (Below.refl w.heap.size w)
 have H : (if (l0.length : Int) > 1048576 then (laws_FnCacheOnce.j0 k l0 l1 true) else (laws_FnCacheOnce.j0 k l0 l1 (decide ((l1.length : Int) > 1048576)))) = some r:=h
 clear h
 have HC3:=Aside0.mk H
 clear H
 go_enter Try.func11,Try.ntmps11
 go_upto_region 1 with (fail)
 go_cut [24] (fun v24 wc => ∃ (kq : Nat) (wu : Bool),v24 = .bool wu ∧ Aside0 (laws_FnCacheOnce.j0 kq l0 l1 wu = some r) ∧ Aside0 (kq ≤ k) ∧ Aside0 (Below w.heap.size w wc))
 case first =>
  have H:=HC3.out
  clear HC3
  by_cases c4 : (l0.length : Int) > 1048576
  ·rw [if_pos c4] at H
   have ws : decide (1048576 < (l0.length : Int)) = true:=decide_eq_true c4
   have uu : decide (1048576 < l0.length) = true:=decide_eq_true (by omega)
   clear c4
   (first | rw [ws] | (simp only [i64_w,i32_w];rw [ws]) | skip)
   have H':=Aside0.mk H
   clear H
   go_wp2
   go_meet
   case rel => exact ⟨_,(true),(by first | rfl | (simp;done) | (simp [*];done)),H',⟨by first | omega | exact Nat.le_refl _⟩,⟨by repeat (first | (with_reducible first | exact HB.out | apply below_alloc | apply pw_below_drewN | apply below_drew1) | exact HB.out)⟩⟩
  ·rw [if_neg c4] at H
   have ws : decide (1048576 < (l0.length : Int)) = false:=decide_eq_false c4
   have uu : decide (1048576 < l0.length) = false:=decide_eq_false (by omega)
   clear c4
   (first | rw [ws] | (simp only [i64_w,i32_w];rw [ws]) | skip)
   have H':=Aside0.mk H
   clear H
   go_wp2
   go_meet
   case rel => exact ⟨_,(decide ((l1.length : Int) > 1048576)),(by first | rfl | (simp;done) | (simp [*];done)),H',⟨by first | omega | exact Nat.le_refl _⟩,⟨by repeat (first | (with_reducible first | exact HB.out | apply below_alloc | apply pw_below_drewN | apply below_drew1) | exact HB.out)⟩⟩
 case rest =>
  clear HC3
  try clear c1
  try clear p2
  try clear c4
  try clear ws
  try clear uu
  obtain ⟨kq,wu,rfl,HA,HJ2,HB⟩:=hcut
  cases kq with
  | zero => exact absurd HA.out (by simp [laws_FnCacheOnce.j0])
  | succ kj2 =>
   have H:=HA.out
   clear HA
   simp only [laws_FnCacheOnce.j0] at H
   by_cases c5 : wu = true
   ·subst c5
    rw [if_pos rfl] at H
    obtain rfl:=Option.some.inj H
    go_wp2
    go_ret
    exact ⟨by first | rfl | (simp [errW_none,errW_some] <;> rfl) | (simp [*,errW_none,errW_some] <;> rfl),by repeat (first | (with_reducible first | exact HB.out | apply below_alloc | apply pw_below_drewN | apply below_drew1) | exact HB.out)⟩
   ·replace c5:=Bool.eq_false_iff.mpr c5
    subst c5
    rw [if_neg (show ¬ (false = true) by decide)] at H
    replace H:=Option.bind_eq_some_iff.mp H
    obtain ⟨⟨wd,qc,qd,qe,qf,qg,qh,qi,qq⟩,A60,H⟩:=H
    replace H : ((spec_CacheWith.f kj2 wd qc qd qe qf qg qh qi qq).bind fun qo => ((impl_CacheWith.f kj2 wd qc qd qe qf qg qh qi qq).bind fun qk => (if (qk.2 != qo.2) = true then (laws_FnCacheOnce.j1 kj2 l1 qq qo.1 qo.2 qk.1 qk.2 true qc qd qe qf qg qh qi) else ((laws_lbSeals.f kj2 qk.1 qo.1).bind fun wb => (if wb = true then (laws_FnCacheOnce.j1 kj2 l1 qq qo.1 qo.2 qk.1 qk.2 (!qk.2) qc qd qe qf qg qh qi) else (laws_FnCacheOnce.j1 kj2 l1 qq qo.1 qo.2 qk.1 qk.2 true qc qd qe qf qg qh qi)))))) = some r:=H
    have A6:=Aside0.mk A60
    clear A60
    replace H:=Option.bind_eq_some_iff.mp H
    obtain ⟨⟨qu,qm⟩,A70,H⟩:=H
    replace H : ((impl_CacheWith.f kj2 wd qc qd qe qf qg qh qi qq).bind fun qk => (if (qk.2 != qm) = true then (laws_FnCacheOnce.j1 kj2 l1 qq qu qm qk.1 qk.2 true qc qd qe qf qg qh qi) else ((laws_lbSeals.f kj2 qk.1 qu).bind fun wb => (if wb = true then (laws_FnCacheOnce.j1 kj2 l1 qq qu qm qk.1 qk.2 (!qk.2) qc qd qe qf qg qh qi) else (laws_FnCacheOnce.j1 kj2 l1 qq qu qm qk.1 qk.2 true qc qd qe qf qg qh qi))))) = some r:=H
    have A7:=Aside0.mk A70
    clear A70
    replace H:=Option.bind_eq_some_iff.mp H
    obtain ⟨⟨qp,qn⟩,A80,H⟩:=H
    replace H : (if (qn != qm) = true then (laws_FnCacheOnce.j1 kj2 l1 qq qu qm qp qn true qc qd qe qf qg qh qi) else ((laws_lbSeals.f kj2 qp qu).bind fun wb => (if wb = true then (laws_FnCacheOnce.j1 kj2 l1 qq qu qm qp qn (!qn) qc qd qe qf qg qh qi) else (laws_FnCacheOnce.j1 kj2 l1 qq qu qm qp qn true qc qd qe qf qg qh qi)))) = some r:=H
    have A8:=Aside0.mk A80
    clear A80
    have HC9:=Aside0.mk H
    clear H
    go_upto_region 6 with (first | ((with_reducible refine gate_callee (f:=36) rfl ?_);refine goesL_ (some 27) rfl rfl Try.func36 (by kernel_rfl) rfl #[.slice A0 l0.length c0] rfl z70x4 ?_;(with_reducible refine (spec_DrawCacheWith.calls kj2 _ _ l0 wd qc qd qe qf qg qh qi qq _ ?side1 ?side2 A6.out).mono ?_);(case side1 => repeat (first | exact (Kd.C_below HR0.out HB.out) | (with_reducible refine Kd.C_alloc ?_ _) | (with_reducible refine Kd.C_drewN ?_ _) | (with_reducible refine Kd.C_drew ?_)));(case side2 => exact HC0.out);rintro e w10 ⟨qci,rfl,ho0,hb⟩; refine ⟨_,rfl,?_⟩; have n0_:=Aside0.mk (Kd.R_lower ho0 (below_size z70x5));have n1_:=Aside0.mk (below_step z70x5 hb);clear HB;have qt:=n0_;have HB:=n1_;clear n0_ n1_;(try clear hb);(try clear hb2);(try clear hk);(try clear hi);(try clear ho0)) | ((with_reducible refine gate_dst (N:=6) rfl ?_);refine box_event ?hg (N:=6) ?hd (cs:=#[.int .i64 0,.int .i64 0,.int .i64 0,.int .i64 0,.int .i64 0,.int .i64 0,.int .i64 0]) (t:=57) ?hr ?_;(case hd => rfl);(case hg => rfl);(case hr => first | (go_simp;done) | (go_simp;rfl));intro qb hg w11 hbox hb;have n0_:=Aside0.mk (Kd.R_below (Kd.R_elderB z70x7 qb (Nat.le_of_eq hg.symm)) hb);have n1_:=Aside0.mk (below_step z70x5 hb);have n2_:=Aside0.mk (hbox);have n3_:=Aside0.mk ((by rw [hg];exact (below_size z70x5) : w.heap.size ≤ qb));have n4_:=Aside0.mk ((by rw [hg];exact (below_size z70x5) : w.heap.size ≤ qb));clear qt;clear HB;have qt:=n0_;have HB:=n1_;have qa:=n2_;have qch:=n3_;have qx:=n4_;clear n0_ n1_ n2_ n3_ n4_;clear hb hbox hg;have um : w11.cell? ⟨qb,0,none⟩ = some (.int .i64 0):=(blk_cell qa.out 0).trans rfl;have ul : w11.cell? ⟨qb,1,none⟩ = some (.int .i64 0):=(blk_cell qa.out 1).trans rfl;have uk : w11.cell? ⟨qb,2,none⟩ = some (.int .i64 0):=(blk_cell qa.out 2).trans rfl;have uj : w11.cell? ⟨qb,3,none⟩ = some (.int .i64 0):=(blk_cell qa.out 3).trans rfl;have ui : w11.cell? ⟨qb,4,none⟩ = some (.int .i64 0):=(blk_cell qa.out 4).trans rfl;have uh : w11.cell? ⟨qb,5,none⟩ = some (.int .i64 0):=(blk_cell qa.out 5).trans rfl;have ug : w11.cell? ⟨qb,6,none⟩ = some (.int .i64 0):=(blk_cell qa.out 6).trans rfl;have vy:=blk_frozen qa.out 0;have vx:=blk_frozen qa.out 1;have vw:=blk_frozen qa.out 2;have vv:=blk_frozen qa.out 3;have vu:=blk_frozen qa.out 4;have vt:=blk_frozen qa.out 5;have vr:=blk_frozen qa.out 6;obtain ⟨uv,un,qbs⟩:=Kd.R_slice qt.out;subst qbs) | ((with_reducible refine gate_callee (f:=37) rfl ?_);refine goesL_ (some 35) rfl rfl Try.func37 (by kernel_rfl) rfl #[.slice uv wd.length un,.agg #[.int .i64 qc,.int .i64 qd,.int .i64 qe,.int .i64 qf,.int .i64 qg,.int .i64 qh,.int .i64 qi],.int .i64 qq] rfl z70x4 ?_;(with_reducible refine (spec_CacheWith.calls kj2 _ _ wd qc qd qe qf qg qh qi qq qu qm _ ?side1 ?side2 A7.out).mono ?_);(case side1 => refine (Kd.R_reads' (e:=57) (base:=w.heap.size) (ok:=fun k_ => (True ∧ k_ ≠ qb)) (n:=wd.length) (c:=un) ?_).2.2;exact z70x1);(case side2 => exact (Kd.R_reads' qt.out).2.1);rintro e w14 ⟨wn,rfl,ho0,hb⟩; refine ⟨_,rfl,?_⟩; have n0_:=Aside0.mk (Kd.R_elder' z70x1 (Kd.R_base ho0) hb);have n1_:=Aside0.mk (Kd.R_lower (Kd.R_newB (Kd.R_new' ho0 (Kd.R_lt z70x1)) (g:=qb) (o:=.cells #[.int .i64 qc,.int .i64 qd,.int .i64 qe,.int .i64 qf,.int .i64 qg,.int .i64 qh,.int .i64 qi] 57 (0,0)) z70x0) (below_size z70x3));have n2_:=Aside0.mk (blk_below (g:=qb) (o:=.cells #[.int .i64 qc,.int .i64 qd,.int .i64 qe,.int .i64 qf,.int .i64 qg,.int .i64 qh,.int .i64 qi] 57 (0,0)) z70x0 hb);have n3_:=Aside0.mk (below_step z70x3 hb);clear qt;clear qa;clear HB;have qt:=n0_;have qr:=n1_;have qa:=n2_;have HB:=n3_;clear n0_ n1_ n2_ n3_;(try clear hb);(try clear hb2);(try clear hk);(try clear hi);(try clear ho0);have uf : w14.cell? ⟨qb,0,none⟩ = some (.int .i64 qc):=(blk_cell qa.out 0).trans rfl;have ue : w14.cell? ⟨qb,1,none⟩ = some (.int .i64 qd):=(blk_cell qa.out 1).trans rfl;have ud : w14.cell? ⟨qb,2,none⟩ = some (.int .i64 qe):=(blk_cell qa.out 2).trans rfl;have uc : w14.cell? ⟨qb,3,none⟩ = some (.int .i64 qf):=(blk_cell qa.out 3).trans rfl;have ub : w14.cell? ⟨qb,4,none⟩ = some (.int .i64 qg):=(blk_cell qa.out 4).trans rfl;have ua : w14.cell? ⟨qb,5,none⟩ = some (.int .i64 qh):=(blk_cell qa.out 5).trans rfl;have vz : w14.cell? ⟨qb,6,none⟩ = some (.int .i64 qi):=(blk_cell qa.out 6).trans rfl;have vq:=blk_frozen qa.out 0;have vp:=blk_frozen qa.out 1;have vo:=blk_frozen qa.out 2;have vn:=blk_frozen qa.out 3;have vm:=blk_frozen qa.out 4;have vl:=blk_frozen qa.out 5;have vk:=blk_frozen qa.out 6) | ((with_reducible refine gate_callee (f:=38) rfl ?_);refine goesL_ (some 42) rfl rfl Try.func38 (by kernel_rfl) rfl #[.slice uv wd.length un,.agg #[.int .i64 qc,.int .i64 qd,.int .i64 qe,.int .i64 qf,.int .i64 qg,.int .i64 qh,.int .i64 qi],.int .i64 qq] rfl z70x4 ?_;(with_reducible refine (impl_CacheWith.calls kj2 _ _ wd qc qd qe qf qg qh qi qq qp qn _ ?side1 ?side2 A8.out).mono ?_);(case side1 => repeat (first | exact (Kd.R_reads' qt.out).2.2 | (with_reducible refine Kd.C_alloc ?_ _) | (with_reducible refine Kd.C_drewN ?_ _) | (with_reducible refine Kd.C_drew ?_)));(case side2 => exact (Kd.R_reads' qt.out).2.1);rintro e w16 ⟨qbf,rfl,ho0,hb⟩; refine ⟨_,rfl,?_⟩; have n0_:=Aside0.mk (Kd.R_below z70x7 hb);have n1_:=Aside0.mk (Kd.R_below (by (with_reducible repeat (first | apply Kd.R_alloc | apply Kd.R_drewN | apply Kd.R_drew));exact qr.out) hb);have n2_:=Aside0.mk (Kd.V_lower (Kd.V_mono (ok':=fun k_ => some k_ ≠ (.slice uv wd.length un : Value).ownBlock ∧ some k_ ≠ (wn : Value).ownBlock ∧ k_ ≠ qb) ho0 (fun k_ hk_ => ⟨(Kd.fresh' (Kd.R_lt z70x7) k_ hk_),(Kd.fresh' (Kd.R_lt (by (with_reducible repeat (first | apply Kd.R_alloc | apply Kd.R_drewN | apply Kd.R_drew));exact qr.out)) k_ hk_),(Kd.freshB (g:=qb) (o:=.cells #[.int .i64 qc,.int .i64 qd,.int .i64 qe,.int .i64 qf,.int .i64 qg,.int .i64 qh,.int .i64 qi] 57 (0,0)) z70x6 k_ hk_)⟩)) (below_size z70x3));have n3_:=Aside0.mk (blk_below (g:=qb) (o:=.cells #[.int .i64 qc,.int .i64 qd,.int .i64 qe,.int .i64 qf,.int .i64 qg,.int .i64 qh,.int .i64 qi] 57 (0,0)) z70x6 hb);have n4_:=Aside0.mk (below_step z70x3 hb);clear qt;clear qr;clear qa;clear HB;have qt:=n0_;have qr:=n1_;have qw:=n2_;have qa:=n3_;have HB:=n4_;clear n0_ n1_ n2_ n3_ n4_;(try clear hb);(try clear hb2);(try clear hk);(try clear hi);(try clear ho0)))
    (try simp only [Act.put,List.setIfInBounds_toArray,List.set_cons_zero,List.set_cons_succ])
    go_cut [57] (fun v57 wc => ∃ (kq : Nat) (wt : Bool),v57 = .bool wt ∧ Aside0 (laws_FnCacheOnce.j1 kq l1 qq qu qm qp qn wt qc qd qe qf qg qh qi = some r) ∧ Aside0 (kq ≤ kj2) ∧ Aside0 (Kd.R k57 57 wc w.heap.size (fun k_ => k_ ≠ qb) wn qu) ∧ Aside0 (Kd.V k57 57 wc w.heap.size (fun k_ => some k_ ≠ (wn : Value).ownBlock ∧ k_ ≠ qb) qbf qp) ∧ Aside0 (wc.heap[qb]? = some (.cells #[.int .i64 qc,.int .i64 qd,.int .i64 qe,.int .i64 qf,.int .i64 qg,.int .i64 qh,.int .i64 qi] 57 (0,0))) ∧ Aside0 (Below w.heap.size w wc))
    case first =>
     have H:=HC9.out
     clear HC9
     by_cases c17 : (qn != qm) = true
     ·rw [if_pos c17] at H
      have we : (qn != qm) = true:=c17
      (try (have uq : decide (qn = qm) = false:=by simpa using c17))
      (try (have uo : (qn == qm) = false:=by simpa using c17))
      (try (have qcg : ¬ (qn = qm):=by simpa using c17))
      clear c17
      (first | rw [we] | (simp only [i64_w,i32_w];rw [we]) | skip)
      have H':=Aside0.mk H
      clear H
      go_wp2
      go_meet
      case rel => exact ⟨_,(true),(by first | rfl | (simp;done) | (simp [*];done)),H',⟨by have:=HJ2.out;first | omega | exact Nat.le_refl _⟩,⟨by (with_reducible repeat (first | apply Kd.R_alloc | apply Kd.R_drewN | apply Kd.R_drew));exact Kd.R_mono qr.out (fun _ hk => hk.2)⟩,⟨by (with_reducible repeat (first | apply Kd.V_alloc | apply Kd.V_drewN | apply Kd.V_drew));exact Kd.V_mono qw.out (fun _ hk => ⟨hk.2.1,hk.2.2⟩)⟩,⟨by (with_reducible repeat (first | refine blk_drewN ?_ _ | refine blk_drew ?_ | refine blk_alloc ?_ _));exact qa.out⟩,⟨by repeat (first | (with_reducible first | exact HB.out | apply below_alloc | apply pw_below_drewN | apply below_drew1 | refine below_set ?_ qx.out) | exact HB.out)⟩⟩
     ·rw [if_neg c17] at H
      have we : (qn != qm) = false:=by simpa using c17
      (try (have uq : decide (qn = qm) = true:=by simpa using c17))
      (try (have uo : (qn == qm) = true:=by simpa using c17))
      clear c17
      (first | rw [we] | (simp only [i64_w,i32_w];rw [we]) | skip)
      replace H:=Option.bind_eq_some_iff.mp H
      obtain ⟨wb,jf,H⟩:=H
      replace H : (if wb = true then (laws_FnCacheOnce.j1 kj2 l1 qq qu qm qp qn (!qn) qc qd qe qf qg qh qi) else (laws_FnCacheOnce.j1 kj2 l1 qq qu qm qp qn true qc qd qe qf qg qh qi)) = some r:=H
      have A18:=Aside0.mk jf
      clear jf
      by_cases c19 : wb = true
      ·subst c19
       rw [if_pos rfl] at H
       have H':=Aside0.mk H
       clear H
       obtain ⟨qcv,qcp,qbr⟩:=Kd.V_slice qw.out
       subst qbr
       obtain ⟨qcu,qco,qbq⟩:=Kd.R_slice qr.out
       subst qbq
       go_wp2_with (first | (go_at_call 39;(with_reducible refine (laws_lbSeals.calls kj2 _ _ qp _ _ qu true _ ?side1 ?side2 ?side3 ?side4 A18.out).mono ?_);(case side1 => repeat (first | exact (Kd.V_reads' qw.out).2.2 | (with_reducible refine Kd.C_alloc ?_ _) | (with_reducible refine Kd.C_drewN ?_ _) | (with_reducible refine Kd.C_drew ?_)));(case side2 => exact (Kd.V_reads' qw.out).2.1);(case side3 => repeat (first | exact (Kd.R_reads' qr.out).2.2 | (with_reducible refine Kd.C_alloc ?_ _) | (with_reducible refine Kd.C_drewN ?_ _) | (with_reducible refine Kd.C_drew ?_)));(case side4 => exact (Kd.R_reads' qr.out).2.1);rintro e w' ⟨rfl,⟨nd,rfl⟩⟩))
       go_meet
       case rel => exact ⟨_,(!qn),(by first | rfl | (simp;done) | (simp [*];done)),H',⟨by have:=HJ2.out;first | omega | exact Nat.le_refl _⟩,⟨by (with_reducible repeat (first | apply Kd.R_alloc | apply Kd.R_drewN | apply Kd.R_drew));exact Kd.R_mono qr.out (fun _ hk => hk.2)⟩,⟨by (with_reducible repeat (first | apply Kd.V_alloc | apply Kd.V_drewN | apply Kd.V_drew));exact Kd.V_mono qw.out (fun _ hk => ⟨hk.2.1,hk.2.2⟩)⟩,⟨by (with_reducible repeat (first | refine blk_drewN ?_ _ | refine blk_drew ?_ | refine blk_alloc ?_ _));exact qa.out⟩,⟨by repeat (first | (with_reducible first | exact HB.out | apply below_alloc | apply pw_below_drewN | apply below_drew1 | refine below_set ?_ qx.out) | exact HB.out)⟩⟩
      ·replace c19:=Bool.eq_false_iff.mpr c19
       subst c19
       rw [if_neg (show ¬ (false = true) by decide)] at H
       have H':=Aside0.mk H
       clear H
       obtain ⟨qct,qcn,qbp⟩:=Kd.V_slice qw.out
       subst qbp
       obtain ⟨qcs,qcm,qbo⟩:=Kd.R_slice qr.out
       subst qbo
       go_wp2_with (first | (go_at_call 39;(with_reducible refine (laws_lbSeals.calls kj2 _ _ qp _ _ qu false _ ?side1 ?side2 ?side3 ?side4 A18.out).mono ?_);(case side1 => repeat (first | exact (Kd.V_reads' qw.out).2.2 | (with_reducible refine Kd.C_alloc ?_ _) | (with_reducible refine Kd.C_drewN ?_ _) | (with_reducible refine Kd.C_drew ?_)));(case side2 => exact (Kd.V_reads' qw.out).2.1);(case side3 => repeat (first | exact (Kd.R_reads' qr.out).2.2 | (with_reducible refine Kd.C_alloc ?_ _) | (with_reducible refine Kd.C_drewN ?_ _) | (with_reducible refine Kd.C_drew ?_)));(case side4 => exact (Kd.R_reads' qr.out).2.1);rintro e w' ⟨rfl,⟨nd,rfl⟩⟩))
       go_meet
       case rel => exact ⟨_,(true),(by first | rfl | (simp;done) | (simp [*];done)),H',⟨by have:=HJ2.out;first | omega | exact Nat.le_refl _⟩,⟨by (with_reducible repeat (first | apply Kd.R_alloc | apply Kd.R_drewN | apply Kd.R_drew));exact Kd.R_mono qr.out (fun _ hk => hk.2)⟩,⟨by (with_reducible repeat (first | apply Kd.V_alloc | apply Kd.V_drewN | apply Kd.V_drew));exact Kd.V_mono qw.out (fun _ hk => ⟨hk.2.1,hk.2.2⟩)⟩,⟨by (with_reducible repeat (first | refine blk_drewN ?_ _ | refine blk_drew ?_ | refine blk_alloc ?_ _));exact qa.out⟩,⟨by repeat (first | (with_reducible first | exact HB.out | apply below_alloc | apply pw_below_drewN | apply below_drew1 | refine below_set ?_ qx.out) | exact HB.out)⟩⟩
    case rest =>
     clear HC9
     try clear c1
     try clear p2
     try clear c3
     try clear c4
     try clear ws
     try clear uu
     try clear c5
     try clear c11
     try clear c17
     try clear we
     try clear uq
     try clear uo
     try clear c19
     try clear um
     try clear ul
     try clear uk
     try clear uj
     try clear ui
     try clear uh
     try clear ug
     try clear uf
     try clear ue
     try clear ud
     try clear uc
     try clear ub
     try clear ua
     try clear vz
     try clear vy
     try clear vx
     try clear vw
     try clear vv
     try clear vu
     try clear vt
     try clear vr
     try clear vq
     try clear vp
     try clear vo
     try clear vn
     try clear vm
     try clear vl
     try clear vk
     try clear p2
     obtain ⟨kq,wt,rfl,HA,HJ8,HO_8,HO_10,qa,HB⟩:=hcut
     cases kq with
     | zero => exact absurd HA.out (by simp [laws_FnCacheOnce.j1])
     | succ kj8 =>
      have H:=HA.out
      clear HA
      simp only [laws_FnCacheOnce.j1] at H
      by_cases c24 : wt = true
      ·subst c24
       rw [if_pos rfl] at H
       by_cases c25 : (qn == qm) = true
       ·rw [if_pos c25] at H
        have ja : (qn == qm) = true:=c25
        (try (have uz : decide (qn = qm) = true:=by simpa using c25))
        (try (have uy : (qn == qm) = true:=by simpa using c25))
        clear c25
        replace H:=Option.bind_eq_some_iff.mp H
        obtain ⟨wx,je,H⟩:=H
        replace H : (some wx) = some r:=H
        have A26:=Aside0.mk je
        clear je
        obtain rfl:=Option.some.inj H
        obtain ⟨qcr,qcl,qbn⟩:=Kd.V_slice HO_10.out
        subst qbn
        obtain ⟨qcq,qck,qbm⟩:=Kd.R_slice HO_8.out
        subst qbm
        go_wp2_with (first | (go_at_call 39;(with_reducible refine (laws_lbSeals.calls kj8 _ _ qp _ _ qu wx _ ?side1 ?side2 ?side3 ?side4 A26.out).mono ?_);(case side1 => repeat (first | exact (Kd.V_reads' HO_10.out).2.2 | (with_reducible refine Kd.C_alloc ?_ _) | (with_reducible refine Kd.C_drewN ?_ _) | (with_reducible refine Kd.C_drew ?_)));(case side2 => exact (Kd.V_reads' HO_10.out).2.1);(case side3 => repeat (first | exact (Kd.R_reads' HO_8.out).2.2 | (with_reducible refine Kd.C_alloc ?_ _) | (with_reducible refine Kd.C_drewN ?_ _) | (with_reducible refine Kd.C_drew ?_)));(case side4 => exact (Kd.R_reads' HO_8.out).2.1);rintro e w' ⟨rfl,⟨nd,rfl⟩⟩))
        go_ret
        exact ⟨by first | rfl | (simp [errW_none,errW_some] <;> rfl) | (simp [*,errW_none,errW_some] <;> rfl),by repeat (first | (with_reducible first | exact HB.out | apply below_alloc | apply pw_below_drewN | apply below_drew1 | refine below_set ?_ qx.out) | exact HB.out)⟩
       ·rw [if_neg c25] at H
        have ja : (qn == qm) = false:=by simpa using c25
        (try (have uz : decide (qn = qm) = false:=by simpa using c25))
        (try (have uy : (qn == qm) = false:=by simpa using c25))
        (try (have qcf : ¬ (qn = qm):=by simpa using c25))
        clear c25
        obtain rfl:=Option.some.inj H
        go_wp2
        go_ret
        exact ⟨by first | rfl | (simp [errW_none,errW_some] <;> rfl) | (simp [*,errW_none,errW_some] <;> rfl),by repeat (first | (with_reducible first | exact HB.out | apply below_alloc | apply pw_below_drewN | apply below_drew1 | refine below_set ?_ qx.out) | exact HB.out)⟩
      ·replace c24:=Bool.eq_false_iff.mpr c24
       subst c24
       rw [if_neg (show ¬ (false = true) by decide)] at H
       obtain ⟨qv,qy⟩ : ∃ j_ : Int,(mn (wrap64 (qq + ((l1.length : Int) % 8))) 100) = j_:=⟨_,rfl⟩
       replace H : ((impl_CacheWith.f kj8 qp qc qd qe qf qg qh qi (qv)).bind fun wq => ((impl_CacheWith.f kj8 wq.1 qc qd qe qf qg qh qi (qv)).bind fun wo => (if wq.2 = true then (some false) else (if wo.2 = true then (some false) else ((laws_lbAmong.f kj8 qp qc qd qe qf qg qh qi).bind fun qz => (some qz)))))) = some r:=by first | (rw [qy] at H;exact H) | (simp only [qy] at H ⊢; exact H)
       have hji29_ : (if 100 < (wrap64 (qq + ((l1.length : Int) % 8))) then 100 else (wrap64 (qq + ((l1.length : Int) % 8)))) = qv:=qy
       replace H:=Option.bind_eq_some_iff.mp H
       obtain ⟨⟨wa,ut⟩,jd,H⟩:=H
       replace H : ((impl_CacheWith.f kj8 wa qc qd qe qf qg qh qi (qv)).bind fun wo => (if ut = true then (some false) else (if wo.2 = true then (some false) else ((laws_lbAmong.f kj8 qp qc qd qe qf qg qh qi).bind fun qz => (some qz))))) = some r:=H
       have A30:=Aside0.mk jd
       clear jd
       replace H:=Option.bind_eq_some_iff.mp H
       obtain ⟨⟨us,ur⟩,jc,H⟩:=H
       replace H : (if ut = true then (some false) else (if ur = true then (some false) else ((laws_lbAmong.f kj8 qp qc qd qe qf qg qh qi).bind fun qz => (some qz)))) = some r:=H
       have A31:=Aside0.mk jc
       clear jc
       by_cases c32 : ut = true
       ·subst c32
        rw [if_pos rfl] at H
        obtain rfl:=Option.some.inj H
        have qbe : wc.cell? ⟨qb,0,none⟩ = some (.int .i64 qc):=(blk_cell qa.out 0).trans rfl
        have qbd : wc.cell? ⟨qb,1,none⟩ = some (.int .i64 qd):=(blk_cell qa.out 1).trans rfl
        have qbc : wc.cell? ⟨qb,2,none⟩ = some (.int .i64 qe):=(blk_cell qa.out 2).trans rfl
        have qbb : wc.cell? ⟨qb,3,none⟩ = some (.int .i64 qf):=(blk_cell qa.out 3).trans rfl
        have qba : wc.cell? ⟨qb,4,none⟩ = some (.int .i64 qg):=(blk_cell qa.out 4).trans rfl
        have qaz : wc.cell? ⟨qb,5,none⟩ = some (.int .i64 qh):=(blk_cell qa.out 5).trans rfl
        have qay : wc.cell? ⟨qb,6,none⟩ = some (.int .i64 qi):=(blk_cell qa.out 6).trans rfl
        have pf:=blk_frozen qa.out 0
        have pe:=blk_frozen qa.out 1
        have pd:=blk_frozen qa.out 2
        have pc:=blk_frozen qa.out 3
        have pb:=blk_frozen qa.out 4
        have pa:=blk_frozen qa.out 5
        have gz:=blk_frozen qa.out 6
        obtain ⟨qce,qby,qbl⟩:=Kd.V_slice HO_10.out
        subst qbl
        go_wp2_with (first | ((with_reducible refine gate_callee (f:=38) rfl ?_);refine goesL_ (some 76) rfl rfl Try.func38 (by kernel_rfl) rfl #[.slice qce qp.length qby,.agg #[.int .i64 qc,.int .i64 qd,.int .i64 qe,.int .i64 qf,.int .i64 qg,.int .i64 qh,.int .i64 qi],.int .i64 qv] rfl z70x2 ?_;(with_reducible refine (impl_CacheWith.calls kj8 _ _ qp qc qd qe qf qg qh qi qv wa true _ ?side1 ?side2 A30.out).mono ?_);(case side1 => repeat (first | exact (Kd.V_reads' HO_10.out).2.2 | (with_reducible refine Kd.C_alloc ?_ _) | (with_reducible refine Kd.C_drewN ?_ _) | (with_reducible refine Kd.C_drew ?_)));(case side2 => exact (Kd.V_reads' HO_10.out).2.1);rintro e w35 ⟨ux,rfl,ho0,hb⟩; refine ⟨_,rfl,?_⟩; have n0_:=Aside0.mk (Kd.R_below z70x10 hb);have n1_:=Aside0.mk (Kd.V_below z70x9 hb);have n2_:=Aside0.mk (Kd.V_lower (Kd.V_mono (ok':=fun k_ => some k_ ≠ (wn : Value).ownBlock ∧ k_ ≠ qb) ho0 (fun k_ hk_ => ⟨(Kd.fresh' (Kd.R_lt z70x10) k_ hk_),(Kd.freshB (g:=qb) (o:=.cells #[.int .i64 qc,.int .i64 qd,.int .i64 qe,.int .i64 qf,.int .i64 qg,.int .i64 qh,.int .i64 qi] 57 (0,0)) z70x6 k_ hk_)⟩)) (below_size z70x3));have n3_:=Aside0.mk (blk_below (g:=qb) (o:=.cells #[.int .i64 qc,.int .i64 qd,.int .i64 qe,.int .i64 qf,.int .i64 qg,.int .i64 qh,.int .i64 qi] 57 (0,0)) z70x6 hb);have n4_:=Aside0.mk (below_step z70x3 hb);clear HO_8;clear HO_10;clear qa;clear HB;have HO_8:=n0_;have HO_10:=n1_;have ql:=n2_;have qa:=n3_;have HB:=n4_;clear n0_ n1_ n2_ n3_ n4_;(try clear hb);(try clear hb2);(try clear hk);(try clear hi);(try clear ho0);have qax : w35.cell? ⟨qb,0,none⟩ = some (.int .i64 qc):=(blk_cell qa.out 0).trans rfl;have qaw : w35.cell? ⟨qb,1,none⟩ = some (.int .i64 qd):=(blk_cell qa.out 1).trans rfl;have qav : w35.cell? ⟨qb,2,none⟩ = some (.int .i64 qe):=(blk_cell qa.out 2).trans rfl;have qau : w35.cell? ⟨qb,3,none⟩ = some (.int .i64 qf):=(blk_cell qa.out 3).trans rfl;have qat : w35.cell? ⟨qb,4,none⟩ = some (.int .i64 qg):=(blk_cell qa.out 4).trans rfl;have qas : w35.cell? ⟨qb,5,none⟩ = some (.int .i64 qh):=(blk_cell qa.out 5).trans rfl;have qar : w35.cell? ⟨qb,6,none⟩ = some (.int .i64 qi):=(blk_cell qa.out 6).trans rfl;have gy:=blk_frozen qa.out 0;have gx:=blk_frozen qa.out 1;have gw:=blk_frozen qa.out 2;have gv:=blk_frozen qa.out 3;have gu:=blk_frozen qa.out 4;have gt:=blk_frozen qa.out 5;have gs:=blk_frozen qa.out 6;obtain ⟨qcd,qbx,qbk⟩:=Kd.V_slice ql.out;subst qbk) | ((with_reducible refine gate_callee (f:=38) rfl ?_);refine goesL_ (some 83) rfl rfl Try.func38 (by kernel_rfl) rfl #[.slice qcd wa.length qbx,.agg #[.int .i64 qc,.int .i64 qd,.int .i64 qe,.int .i64 qf,.int .i64 qg,.int .i64 qh,.int .i64 qi],.int .i64 qv] rfl z70x2 ?_;(with_reducible refine (impl_CacheWith.calls kj8 _ _ wa qc qd qe qf qg qh qi qv us ur _ ?side1 ?side2 A31.out).mono ?_);(case side1 => repeat (first | exact (Kd.V_reads' ql.out).2.2 | (with_reducible refine Kd.C_alloc ?_ _) | (with_reducible refine Kd.C_drewN ?_ _) | (with_reducible refine Kd.C_drew ?_)));(case side2 => exact (Kd.V_reads' ql.out).2.1);rintro e w38 ⟨uw,rfl,ho0,hb⟩; refine ⟨_,rfl,?_⟩; have n0_:=Aside0.mk (Kd.R_below z70x10 hb);have n1_:=Aside0.mk (Kd.V_below z70x9 hb);have n2_:=Aside0.mk (Kd.V_below z70x8 hb);have n3_:=Aside0.mk (Kd.V_lower (Kd.V_mono (ok':=fun k_ => some k_ ≠ (wn : Value).ownBlock ∧ k_ ≠ qb) ho0 (fun k_ hk_ => ⟨(Kd.fresh' (Kd.R_lt z70x10) k_ hk_),(Kd.freshB (g:=qb) (o:=.cells #[.int .i64 qc,.int .i64 qd,.int .i64 qe,.int .i64 qf,.int .i64 qg,.int .i64 qh,.int .i64 qi] 57 (0,0)) z70x6 k_ hk_)⟩)) (below_size z70x3));have n4_:=Aside0.mk (blk_below (g:=qb) (o:=.cells #[.int .i64 qc,.int .i64 qd,.int .i64 qe,.int .i64 qf,.int .i64 qg,.int .i64 qh,.int .i64 qi] 57 (0,0)) z70x6 hb);have n5_:=Aside0.mk (below_step z70x3 hb);clear HO_8;clear HO_10;clear ql;clear qa;clear HB;have HO_8:=n0_;have HO_10:=n1_;have ql:=n2_;have wr:=n3_;have qa:=n4_;have HB:=n5_;clear n0_ n1_ n2_ n3_ n4_ n5_;(try clear hb);(try clear hb2);(try clear hk);(try clear hi);(try clear ho0)))
        go_ret
        exact ⟨by first | rfl | (simp [errW_none,errW_some] <;> rfl) | (simp only [← qy];first | rfl | (simp [errW_none,errW_some] <;> rfl)) | (simp [*,errW_none,errW_some] <;> rfl),by repeat (first | (with_reducible first | exact HB.out | apply below_alloc | apply pw_below_drewN | apply below_drew1 | refine below_set ?_ qx.out) | exact HB.out)⟩
       ·replace c32:=Bool.eq_false_iff.mpr c32
        subst c32
        rw [if_neg (show ¬ (false = true) by decide)] at H
        by_cases c39 : ur = true
        ·subst c39
         rw [if_pos rfl] at H
         obtain rfl:=Option.some.inj H
         have qaq : wc.cell? ⟨qb,0,none⟩ = some (.int .i64 qc):=(blk_cell qa.out 0).trans rfl
         have qap : wc.cell? ⟨qb,1,none⟩ = some (.int .i64 qd):=(blk_cell qa.out 1).trans rfl
         have qao : wc.cell? ⟨qb,2,none⟩ = some (.int .i64 qe):=(blk_cell qa.out 2).trans rfl
         have qan : wc.cell? ⟨qb,3,none⟩ = some (.int .i64 qf):=(blk_cell qa.out 3).trans rfl
         have qam : wc.cell? ⟨qb,4,none⟩ = some (.int .i64 qg):=(blk_cell qa.out 4).trans rfl
         have qal : wc.cell? ⟨qb,5,none⟩ = some (.int .i64 qh):=(blk_cell qa.out 5).trans rfl
         have qak : wc.cell? ⟨qb,6,none⟩ = some (.int .i64 qi):=(blk_cell qa.out 6).trans rfl
         have gr:=blk_frozen qa.out 0
         have gq:=blk_frozen qa.out 1
         have gp:=blk_frozen qa.out 2
         have gn:=blk_frozen qa.out 3
         have gm:=blk_frozen qa.out 4
         have gl:=blk_frozen qa.out 5
         have gk:=blk_frozen qa.out 6
         obtain ⟨qcc,qbw,qbj⟩:=Kd.V_slice HO_10.out
         subst qbj
         go_wp2_with (first | ((with_reducible refine gate_callee (f:=38) rfl ?_);refine goesL_ (some 76) rfl rfl Try.func38 (by kernel_rfl) rfl #[.slice qcc qp.length qbw,.agg #[.int .i64 qc,.int .i64 qd,.int .i64 qe,.int .i64 qf,.int .i64 qg,.int .i64 qh,.int .i64 qi],.int .i64 qv] rfl z70x2 ?_;(with_reducible refine (impl_CacheWith.calls kj8 _ _ qp qc qd qe qf qg qh qi qv wa false _ ?side1 ?side2 A30.out).mono ?_);(case side1 => repeat (first | exact (Kd.V_reads' HO_10.out).2.2 | (with_reducible refine Kd.C_alloc ?_ _) | (with_reducible refine Kd.C_drewN ?_ _) | (with_reducible refine Kd.C_drew ?_)));(case side2 => exact (Kd.V_reads' HO_10.out).2.1);rintro e w42 ⟨ux,rfl,ho0,hb⟩; refine ⟨_,rfl,?_⟩; have n0_:=Aside0.mk (Kd.R_below z70x10 hb);have n1_:=Aside0.mk (Kd.V_below z70x9 hb);have n2_:=Aside0.mk (Kd.V_lower (Kd.V_mono (ok':=fun k_ => some k_ ≠ (wn : Value).ownBlock ∧ k_ ≠ qb) ho0 (fun k_ hk_ => ⟨(Kd.fresh' (Kd.R_lt z70x10) k_ hk_),(Kd.freshB (g:=qb) (o:=.cells #[.int .i64 qc,.int .i64 qd,.int .i64 qe,.int .i64 qf,.int .i64 qg,.int .i64 qh,.int .i64 qi] 57 (0,0)) z70x6 k_ hk_)⟩)) (below_size z70x3));have n3_:=Aside0.mk (blk_below (g:=qb) (o:=.cells #[.int .i64 qc,.int .i64 qd,.int .i64 qe,.int .i64 qf,.int .i64 qg,.int .i64 qh,.int .i64 qi] 57 (0,0)) z70x6 hb);have n4_:=Aside0.mk (below_step z70x3 hb);clear HO_8;clear HO_10;clear qa;clear HB;have HO_8:=n0_;have HO_10:=n1_;have ql:=n2_;have qa:=n3_;have HB:=n4_;clear n0_ n1_ n2_ n3_ n4_;(try clear hb);(try clear hb2);(try clear hk);(try clear hi);(try clear ho0);have qaj : w42.cell? ⟨qb,0,none⟩ = some (.int .i64 qc):=(blk_cell qa.out 0).trans rfl;have qai : w42.cell? ⟨qb,1,none⟩ = some (.int .i64 qd):=(blk_cell qa.out 1).trans rfl;have qah : w42.cell? ⟨qb,2,none⟩ = some (.int .i64 qe):=(blk_cell qa.out 2).trans rfl;have qag : w42.cell? ⟨qb,3,none⟩ = some (.int .i64 qf):=(blk_cell qa.out 3).trans rfl;have qaf : w42.cell? ⟨qb,4,none⟩ = some (.int .i64 qg):=(blk_cell qa.out 4).trans rfl;have qae : w42.cell? ⟨qb,5,none⟩ = some (.int .i64 qh):=(blk_cell qa.out 5).trans rfl;have qad : w42.cell? ⟨qb,6,none⟩ = some (.int .i64 qi):=(blk_cell qa.out 6).trans rfl;have gj:=blk_frozen qa.out 0;have gi:=blk_frozen qa.out 1;have gh:=blk_frozen qa.out 2;have gg:=blk_frozen qa.out 3;have gf:=blk_frozen qa.out 4;have gc:=blk_frozen qa.out 5;have gb:=blk_frozen qa.out 6;obtain ⟨qcb,qbv,qbi⟩:=Kd.V_slice ql.out;subst qbi) | ((with_reducible refine gate_callee (f:=38) rfl ?_);refine goesL_ (some 83) rfl rfl Try.func38 (by kernel_rfl) rfl #[.slice qcb wa.length qbv,.agg #[.int .i64 qc,.int .i64 qd,.int .i64 qe,.int .i64 qf,.int .i64 qg,.int .i64 qh,.int .i64 qi],.int .i64 qv] rfl z70x2 ?_;(with_reducible refine (impl_CacheWith.calls kj8 _ _ wa qc qd qe qf qg qh qi qv us true _ ?side1 ?side2 A31.out).mono ?_);(case side1 => repeat (first | exact (Kd.V_reads' ql.out).2.2 | (with_reducible refine Kd.C_alloc ?_ _) | (with_reducible refine Kd.C_drewN ?_ _) | (with_reducible refine Kd.C_drew ?_)));(case side2 => exact (Kd.V_reads' ql.out).2.1);rintro e w45 ⟨uw,rfl,ho0,hb⟩; refine ⟨_,rfl,?_⟩; have n0_:=Aside0.mk (Kd.R_below z70x10 hb);have n1_:=Aside0.mk (Kd.V_below z70x9 hb);have n2_:=Aside0.mk (Kd.V_below z70x8 hb);have n3_:=Aside0.mk (Kd.V_lower (Kd.V_mono (ok':=fun k_ => some k_ ≠ (wn : Value).ownBlock ∧ k_ ≠ qb) ho0 (fun k_ hk_ => ⟨(Kd.fresh' (Kd.R_lt z70x10) k_ hk_),(Kd.freshB (g:=qb) (o:=.cells #[.int .i64 qc,.int .i64 qd,.int .i64 qe,.int .i64 qf,.int .i64 qg,.int .i64 qh,.int .i64 qi] 57 (0,0)) z70x6 k_ hk_)⟩)) (below_size z70x3));have n4_:=Aside0.mk (blk_below (g:=qb) (o:=.cells #[.int .i64 qc,.int .i64 qd,.int .i64 qe,.int .i64 qf,.int .i64 qg,.int .i64 qh,.int .i64 qi] 57 (0,0)) z70x6 hb);have n5_:=Aside0.mk (below_step z70x3 hb);clear HO_8;clear HO_10;clear ql;clear qa;clear HB;have HO_8:=n0_;have HO_10:=n1_;have ql:=n2_;have wr:=n3_;have qa:=n4_;have HB:=n5_;clear n0_ n1_ n2_ n3_ n4_ n5_;(try clear hb);(try clear hb2);(try clear hk);(try clear hi);(try clear ho0)))
         go_ret
         exact ⟨by first | rfl | (simp [errW_none,errW_some] <;> rfl) | (simp only [← qy];first | rfl | (simp [errW_none,errW_some] <;> rfl)) | (simp [*,errW_none,errW_some] <;> rfl),by repeat (first | (with_reducible first | exact HB.out | apply below_alloc | apply pw_below_drewN | apply below_drew1 | refine below_set ?_ qx.out) | exact HB.out)⟩
        ·replace c39:=Bool.eq_false_iff.mpr c39
         subst c39
         rw [if_neg (show ¬ (false = true) by decide)] at H
         replace H:=Option.bind_eq_some_iff.mp H
         obtain ⟨qz,jb,H⟩:=H
         replace H : (some qz) = some r:=H
         have A46:=Aside0.mk jb
         clear jb
         obtain rfl:=Option.some.inj H
         have qac : wc.cell? ⟨qb,0,none⟩ = some (.int .i64 qc):=(blk_cell qa.out 0).trans rfl
         have qab : wc.cell? ⟨qb,1,none⟩ = some (.int .i64 qd):=(blk_cell qa.out 1).trans rfl
         have qaa : wc.cell? ⟨qb,2,none⟩ = some (.int .i64 qe):=(blk_cell qa.out 2).trans rfl
         have pz : wc.cell? ⟨qb,3,none⟩ = some (.int .i64 qf):=(blk_cell qa.out 3).trans rfl
         have px : wc.cell? ⟨qb,4,none⟩ = some (.int .i64 qg):=(blk_cell qa.out 4).trans rfl
         have pw : wc.cell? ⟨qb,5,none⟩ = some (.int .i64 qh):=(blk_cell qa.out 5).trans rfl
         have pv : wc.cell? ⟨qb,6,none⟩ = some (.int .i64 qi):=(blk_cell qa.out 6).trans rfl
         have ga:=blk_frozen qa.out 0
         have jz:=blk_frozen qa.out 1
         have jy:=blk_frozen qa.out 2
         have jx:=blk_frozen qa.out 3
         have jw:=blk_frozen qa.out 4
         have jv:=blk_frozen qa.out 5
         have ju:=blk_frozen qa.out 6
         obtain ⟨qca,qbu,qbh⟩:=Kd.V_slice HO_10.out
         subst qbh
         go_wp2_with (first | ((with_reducible refine gate_callee (f:=38) rfl ?_);refine goesL_ (some 76) rfl rfl Try.func38 (by kernel_rfl) rfl #[.slice qca qp.length qbu,.agg #[.int .i64 qc,.int .i64 qd,.int .i64 qe,.int .i64 qf,.int .i64 qg,.int .i64 qh,.int .i64 qi],.int .i64 qv] rfl z70x2 ?_;(with_reducible refine (impl_CacheWith.calls kj8 _ _ qp qc qd qe qf qg qh qi qv wa false _ ?side1 ?side2 A30.out).mono ?_);(case side1 => repeat (first | exact (Kd.V_reads' HO_10.out).2.2 | (with_reducible refine Kd.C_alloc ?_ _) | (with_reducible refine Kd.C_drewN ?_ _) | (with_reducible refine Kd.C_drew ?_)));(case side2 => exact (Kd.V_reads' HO_10.out).2.1);rintro e w49 ⟨ux,rfl,ho0,hb⟩; refine ⟨_,rfl,?_⟩; have n0_:=Aside0.mk (Kd.R_below z70x10 hb);have n1_:=Aside0.mk (Kd.V_below z70x9 hb);have n2_:=Aside0.mk (Kd.V_lower (Kd.V_mono (ok':=fun k_ => some k_ ≠ (wn : Value).ownBlock ∧ k_ ≠ qb) ho0 (fun k_ hk_ => ⟨(Kd.fresh' (Kd.R_lt z70x10) k_ hk_),(Kd.freshB (g:=qb) (o:=.cells #[.int .i64 qc,.int .i64 qd,.int .i64 qe,.int .i64 qf,.int .i64 qg,.int .i64 qh,.int .i64 qi] 57 (0,0)) z70x6 k_ hk_)⟩)) (below_size z70x3));have n3_:=Aside0.mk (blk_below (g:=qb) (o:=.cells #[.int .i64 qc,.int .i64 qd,.int .i64 qe,.int .i64 qf,.int .i64 qg,.int .i64 qh,.int .i64 qi] 57 (0,0)) z70x6 hb);have n4_:=Aside0.mk (below_step z70x3 hb);clear HO_8;clear HO_10;clear qa;clear HB;have HO_8:=n0_;have HO_10:=n1_;have ql:=n2_;have qa:=n3_;have HB:=n4_;clear n0_ n1_ n2_ n3_ n4_;(try clear hb);(try clear hb2);(try clear hk);(try clear hi);(try clear ho0);have pu : w49.cell? ⟨qb,0,none⟩ = some (.int .i64 qc):=(blk_cell qa.out 0).trans rfl;have pt : w49.cell? ⟨qb,1,none⟩ = some (.int .i64 qd):=(blk_cell qa.out 1).trans rfl;have pr : w49.cell? ⟨qb,2,none⟩ = some (.int .i64 qe):=(blk_cell qa.out 2).trans rfl;have pq : w49.cell? ⟨qb,3,none⟩ = some (.int .i64 qf):=(blk_cell qa.out 3).trans rfl;have pp : w49.cell? ⟨qb,4,none⟩ = some (.int .i64 qg):=(blk_cell qa.out 4).trans rfl;have po : w49.cell? ⟨qb,5,none⟩ = some (.int .i64 qh):=(blk_cell qa.out 5).trans rfl;have pn : w49.cell? ⟨qb,6,none⟩ = some (.int .i64 qi):=(blk_cell qa.out 6).trans rfl;have jt:=blk_frozen qa.out 0;have js:=blk_frozen qa.out 1;have jr:=blk_frozen qa.out 2;have jq:=blk_frozen qa.out 3;have jp:=blk_frozen qa.out 4;have jo:=blk_frozen qa.out 5;have jn:=blk_frozen qa.out 6;obtain ⟨qbz,qbt,qbg⟩:=Kd.V_slice ql.out;subst qbg) | ((with_reducible refine gate_callee (f:=38) rfl ?_);refine goesL_ (some 83) rfl rfl Try.func38 (by kernel_rfl) rfl #[.slice qbz wa.length qbt,.agg #[.int .i64 qc,.int .i64 qd,.int .i64 qe,.int .i64 qf,.int .i64 qg,.int .i64 qh,.int .i64 qi],.int .i64 qv] rfl z70x2 ?_;(with_reducible refine (impl_CacheWith.calls kj8 _ _ wa qc qd qe qf qg qh qi qv us false _ ?side1 ?side2 A31.out).mono ?_);(case side1 => repeat (first | exact (Kd.V_reads' ql.out).2.2 | (with_reducible refine Kd.C_alloc ?_ _) | (with_reducible refine Kd.C_drewN ?_ _) | (with_reducible refine Kd.C_drew ?_)));(case side2 => exact (Kd.V_reads' ql.out).2.1);rintro e w52 ⟨uw,rfl,ho0,hb⟩; refine ⟨_,rfl,?_⟩; have n0_:=Aside0.mk (Kd.R_below z70x10 hb);have n1_:=Aside0.mk (Kd.V_below z70x9 hb);have n2_:=Aside0.mk (Kd.V_below z70x8 hb);have n3_:=Aside0.mk (Kd.V_lower (Kd.V_mono (ok':=fun k_ => some k_ ≠ (wn : Value).ownBlock ∧ k_ ≠ qb) ho0 (fun k_ hk_ => ⟨(Kd.fresh' (Kd.R_lt z70x10) k_ hk_),(Kd.freshB (g:=qb) (o:=.cells #[.int .i64 qc,.int .i64 qd,.int .i64 qe,.int .i64 qf,.int .i64 qg,.int .i64 qh,.int .i64 qi] 57 (0,0)) z70x6 k_ hk_)⟩)) (below_size z70x3));have n4_:=Aside0.mk (blk_below (g:=qb) (o:=.cells #[.int .i64 qc,.int .i64 qd,.int .i64 qe,.int .i64 qf,.int .i64 qg,.int .i64 qh,.int .i64 qi] 57 (0,0)) z70x6 hb);have n5_:=Aside0.mk (below_step z70x3 hb);clear HO_8;clear HO_10;clear ql;clear qa;clear HB;have HO_8:=n0_;have HO_10:=n1_;have ql:=n2_;have wr:=n3_;have qa:=n4_;have HB:=n5_;clear n0_ n1_ n2_ n3_ n4_ n5_;(try clear hb);(try clear hb2);(try clear hk);(try clear hi);(try clear ho0);have pm : w52.cell? ⟨qb,0,none⟩ = some (.int .i64 qc):=(blk_cell qa.out 0).trans rfl;have pl : w52.cell? ⟨qb,1,none⟩ = some (.int .i64 qd):=(blk_cell qa.out 1).trans rfl;have pk : w52.cell? ⟨qb,2,none⟩ = some (.int .i64 qe):=(blk_cell qa.out 2).trans rfl;have pj : w52.cell? ⟨qb,3,none⟩ = some (.int .i64 qf):=(blk_cell qa.out 3).trans rfl;have pi : w52.cell? ⟨qb,4,none⟩ = some (.int .i64 qg):=(blk_cell qa.out 4).trans rfl;have ph : w52.cell? ⟨qb,5,none⟩ = some (.int .i64 qh):=(blk_cell qa.out 5).trans rfl;have pg : w52.cell? ⟨qb,6,none⟩ = some (.int .i64 qi):=(blk_cell qa.out 6).trans rfl;have jm:=blk_frozen qa.out 0;have jl:=blk_frozen qa.out 1;have jk:=blk_frozen qa.out 2;have jj:=blk_frozen qa.out 3;have ji:=blk_frozen qa.out 4;have jh:=blk_frozen qa.out 5;have jg:=blk_frozen qa.out 6) | (go_at_call 44;(with_reducible refine (laws_lbAmong.calls kj8 _ _ qp qc qd qe qf qg qh qi qz _ ?side1 ?side2 A46.out).mono ?_);(case side1 => repeat (first | exact (Kd.V_reads' HO_10.out).2.2 | (with_reducible refine Kd.C_alloc ?_ _) | (with_reducible refine Kd.C_drewN ?_ _) | (with_reducible refine Kd.C_drew ?_)));(case side2 => exact (Kd.V_reads' HO_10.out).2.1);rintro e w54 ⟨rfl,hb⟩; have n0_:=Aside0.mk (Kd.R_below z70x10 hb);have n1_:=Aside0.mk (Kd.V_below z70x9 hb);have n2_:=Aside0.mk (Kd.V_below z70x8 hb);have n3_:=Aside0.mk (Kd.V_below (by (with_reducible repeat (first | apply Kd.V_alloc | apply Kd.V_drewN | apply Kd.V_drew));exact wr.out) hb);have n4_:=Aside0.mk (blk_below (g:=qb) (o:=.cells #[.int .i64 qc,.int .i64 qd,.int .i64 qe,.int .i64 qf,.int .i64 qg,.int .i64 qh,.int .i64 qi] 57 (0,0)) z70x6 hb);have n5_:=Aside0.mk (below_step z70x3 hb);clear HO_8;clear HO_10;clear ql;clear wr;clear qa;clear HB;have HO_8:=n0_;have HO_10:=n1_;have ql:=n2_;have wr:=n3_;have qa:=n4_;have HB:=n5_;clear n0_ n1_ n2_ n3_ n4_ n5_;(try clear hb);(try clear hb2);(try clear hk);(try clear hi)))
         go_ret
         exact ⟨by first | rfl | (simp [errW_none,errW_some] <;> rfl) | (simp only [← qy];first | rfl | (simp [errW_none,errW_some] <;> rfl)) | (simp [*,errW_none,errW_some] <;> rfl),by repeat (first | (with_reducible first | exact HB.out | apply below_alloc | apply pw_below_drewN | apply below_drew1 | refine below_set ?_ qx.out) | exact HB.out)⟩

/-- THE ONE PURE STATEMENT of laws_FnCacheOnce: yours. -/
def laws_FnCacheOnce.Pure : Prop:=∀ (l0 : List Int) (l1 : List Int),l0.length ≤ maxLen → l0.length * 1 ≤ 140737488351232 → (∀ x ∈ l0,(Lit.int .u8 x).wf = true) → l1.length ≤ maxLen → l1.length * 1 ≤ 140737488351232 → (∀ x ∈ l1,(Lit.int .u8 x).wf = true) → ∃ k,laws_FnCacheOnce.f k l0 l1 = some true
theorem laws_FnCacheOnce.walk (P : laws_FnCacheOnce.Pure) (a0 : Option Addr) (wz ww : Nat) (z0 : List Int) (a1 : Option Addr) (wy wv : Nat) (z1 : List Int) (w : World) (w0 : (a0 = none ∧ wz = 0 ∧ ww = 0 ∧ z0 = []) ∨ ∃ x,a0 = some x ∧ wz ≤ ww ∧ ww ≤ maxLen ∧ z0.length = ww ∧ (∀ i,i < z0.length → w.cell? (x.add i) = some (.int .u8 (z0.getD i 0))) ∧ ∀ n ∈ z0,(Lit.int .u8 n).wf = true) (y0 : wz * 1 ≤ 140737488351232) (w1 : (a1 = none ∧ wy = 0 ∧ wv = 0 ∧ z1 = []) ∨ ∃ x,a1 = some x ∧ wy ≤ wv ∧ wv ≤ maxLen ∧ z1.length = wv ∧ (∀ i,i < z1.length → w.cell? (x.add i) = some (.int .u8 (z1.getD i 0))) ∧ ∀ n ∈ z1,(Lit.int .u8 n).wf = true) (y1 : wy * 1 ≤ 140737488351232) :
  Calls Try.prog 11 #[.slice a0 wz ww,.slice a1 wy wv] w fun e w' => e = .returned (.bool true) ∧ Below w.heap.size w w':=by
 obtain ⟨l0,rfl,hr0,hm0,hw0,hc0⟩:=ReadsInt.ofRowC w0
 obtain ⟨l1,rfl,hr1,hm1,hw1,hc1⟩:=ReadsInt.ofRowC w1
 obtain ⟨k,h⟩:=P l0 l1 hm0 y0 hw0 hm1 y1 hw1
 refine (laws_FnCacheOnce.calls k _ _ l0 _ _ l1 true w (Kd.C_of_reads (d:=(0 : Int)) (h1:=fun _ => rfl) hr0) hc0 (Kd.C_of_reads (d:=(0 : Int)) (h1:=fun _ => rfl) hr1) hc1 h).mono ?_
 rintro e w' ⟨rfl,hd⟩
 exact ⟨rfl,hd⟩

end Go.Proofs.Ytpdeincniaiajaa.Hp
