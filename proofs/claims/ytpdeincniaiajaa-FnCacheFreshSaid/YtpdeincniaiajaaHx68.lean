-- hp.py
import Derived.Test.YtpdeincniaiajaaHx0
import Derived.Test.YtpdeincniaiajaaHx1
import Derived.Test.YtpdeincniaiajaaHx45
import Derived.Test.YtpdeincniaiajaaHx48
import Derived.Test.YtpdeincniaiajaaHx53
import Derived.Test.YtpdeincniaiajaaHx54
import Derived.Test.YtpdeincniaiajaaHx67
namespace Go.Proofs.Ytpdeincniaiajaa.Hp
open Go.RowKit Go.Proofs.YtpdeincniaiajaaW.PrintWords Go.Proofs.YtpdeincniaiajaaW.PrintLast Go.Proofs.YtpdeincniaiajaaW.PrintMore
attribute [local go_sem] max2_int min2_int max_two min_two max_three min_three max_four min_four   -- for this text's walks alone
set_option linter.unusedVariables false
set_option linter.unusedSimpArgs false

attribute [local go_sem high] eqA57
-- squeezed by wip/tools/squeeze.py
theorem y68x4 {P : Prop} (h : P:=by first|rfl|(simp;done)|(simp [*];done)) : P:=h
theorem y68x3 {P : Prop} (h : P:=by first|(with_reducible assumption)|assumption) : P:=h
theorem y68x2 {P : Prop} (h : P:=by (with_reducible repeat (first|apply Kd.V_alloc|apply Kd.V_drewN|apply Kd.V_drew));exact HO_8.out) : P:=h
theorem y68x1 {P : Prop} (h : P:=by (with_reducible repeat (first|apply Kd.R_alloc|apply Kd.R_drewN|apply Kd.R_drew));exact HO_3.out) : P:=h
theorem y68x0 {P : Prop} (h : P:=by (with_reducible repeat (first|apply Kd.R_alloc|apply Kd.R_drewN|apply Kd.R_drew));exact ue.out) : P:=h
-- squeezed by wip/tools/squeeze.py
theorem z68a {P : Prop} (h : P:=by simp only [Act.put,List.setIfInBounds_toArray,List.set_cons_zero,List.set_cons_succ,i64_w,i32_w];rfl) : P:=h
theorem z68x6 {P : Prop} (h : P:=by (with_reducible repeat (first|apply Kd.R_alloc|apply Kd.R_drewN|apply Kd.R_drew));exact wo.out) : P:=h
theorem z68x5 {P : Prop} (h : P:=by (with_reducible repeat (first|refine blk_drewN ?_ _|refine blk_drew ?_|refine blk_alloc ?_ _));exact qc.out) : P:=h
theorem z68x4 {P : Prop} (h : P:=by repeat (first|(with_reducible first|exact HB.out|apply below_alloc|apply pw_below_drewN|apply below_drew1)|exact HB.out)) : P:=h
theorem z68x3 {P : Prop} (h : P:=by (try simp only [List.map_toArray,List.map_cons,List.map_nil]);first|done|rfl|(simp only [List.length_drop,List.length_take];rfl)) : P:=h
theorem z68x2 {P : Prop} (h : P:=by repeat (first|(with_reducible first|exact HB.out|apply below_alloc|apply pw_below_drewN|apply below_drew1|refine below_set ?_ wq.out)|exact HB.out)) : P:=h
theorem z68x1 {P : Prop} (h : P:=by (with_reducible repeat (first|apply Kd.R_alloc|apply Kd.R_drewN|apply Kd.R_drew));exact (Kd.R_mono (Kd.R_far (p:=⟨qe,6,none⟩) (Kd.R_far (p:=⟨qe,5,none⟩) (Kd.R_far (p:=⟨qe,4,none⟩) (Kd.R_far (p:=⟨qe,3,none⟩) (Kd.R_far (p:=⟨qe,2,none⟩) (Kd.R_far (p:=⟨qe,1,none⟩) (Kd.R_far (p:=⟨qe,0,none⟩) (Kd.R_mono wo.out (fun k_ hk=>(⟨hk,hk.2⟩ : _ ∧ k_ ≠ qe))) (fun _ hk=>hk.2) (.int .i64 qh)) (fun _ hk=>hk.2) (.int .i64 qi)) (fun _ hk=>hk.2) (.int .i64 qj)) (fun _ hk=>hk.2) (.int .i64 qg)) (fun _ hk=>hk.2) (.int .i64 ql)) (fun _ hk=>hk.2) (.int .i64 qm)) (fun _ hk=>hk.2) (.int .i64 qn)) (fun _ h_=>h_.1))) : P:=h
theorem z68x0 {P : Prop} (h : P:=by (with_reducible repeat (first|refine blk_drewN ?_ _|refine blk_drew ?_|refine blk_alloc ?_ _));refine blk_put (cs:=#[.int .i64 qh,.int .i64 qi,.int .i64 qj,.int .i64 qg,.int .i64 ql,.int .i64 qm,.int .i64 0]) ?_ 6 _ rfl;(with_reducible repeat (first|refine blk_drewN ?_ _|refine blk_drew ?_|refine blk_alloc ?_ _));refine blk_put (cs:=#[.int .i64 qh,.int .i64 qi,.int .i64 qj,.int .i64 qg,.int .i64 ql,.int .i64 0,.int .i64 0]) ?_ 5 _ rfl;(with_reducible repeat (first|refine blk_drewN ?_ _|refine blk_drew ?_|refine blk_alloc ?_ _));refine blk_put (cs:=#[.int .i64 qh,.int .i64 qi,.int .i64 qj,.int .i64 qg,.int .i64 0,.int .i64 0,.int .i64 0]) ?_ 4 _ rfl;(with_reducible repeat (first|refine blk_drewN ?_ _|refine blk_drew ?_|refine blk_alloc ?_ _));refine blk_put (cs:=#[.int .i64 qh,.int .i64 qi,.int .i64 qj,.int .i64 0,.int .i64 0,.int .i64 0,.int .i64 0]) ?_ 3 _ rfl;(with_reducible repeat (first|refine blk_drewN ?_ _|refine blk_drew ?_|refine blk_alloc ?_ _));refine blk_put (cs:=#[.int .i64 qh,.int .i64 qi,.int .i64 0,.int .i64 0,.int .i64 0,.int .i64 0,.int .i64 0]) ?_ 2 _ rfl;(with_reducible repeat (first|refine blk_drewN ?_ _|refine blk_drew ?_|refine blk_alloc ?_ _));refine blk_put (cs:=#[.int .i64 qh,.int .i64 0,.int .i64 0,.int .i64 0,.int .i64 0,.int .i64 0,.int .i64 0]) ?_ 1 _ rfl;(with_reducible repeat (first|refine blk_drewN ?_ _|refine blk_drew ?_|refine blk_alloc ?_ _));refine blk_put (cs:=#[.int .i64 0,.int .i64 0,.int .i64 0,.int .i64 0,.int .i64 0,.int .i64 0,.int .i64 0]) ?_ 0 _ rfl;(with_reducible repeat (first|refine blk_drewN ?_ _|refine blk_drew ?_|refine blk_alloc ?_ _));exact qc.out) : P:=h
/-! ### laws_FnCacheFresh: function 9 -/
mutual
def laws_FnCacheFresh.j0 : Nat → List (S57) → Int → List (S57) → Bool → Bool → Int → Int → Int → Int → Int → Int → Int → Option (Bool)
 | 0,_,_,_,_,_,_,_,_,_,_,_,_=>none
 | k + 1,x3,x5,x8,x9,x42,vn,vm,vl,ws,vk,wz,wy=>if x42 = true then (some false) else (laws_FnCacheFresh.l0 k x3 x5 x8 x9 0 vn vm vl ws vk wz wy)
def laws_FnCacheFresh.l0 : Nat → List (S57) → Int → List (S57) → Bool → Int → Int → Int → Int → Int → Int → Int → Int → Option (Bool)
 | 0,_,_,_,_,_,_,_,_,_,_,_,_=>none
 | k + 1,x3,x5,x8,x9,x10,vn,vm,vl,ws,vk,wz,wy=>if x10 < (x8.length : Int) then (if 0 ≤ x10 then (if ((rd_T57 x8 x10).f3) > x5 then (some false) else (if (wrap64 (x5 - ((rd_T57 x8 x10).f3))) > 3 then (some false) else (if (!(((rd_T57 x8 x10).f0) == vn) || (!(((rd_T57 x8 x10).f1) == vm) || (!(((rd_T57 x8 x10).f2) == vl) || (!(((rd_T57 x8 x10).f3) == ws) || (!(((rd_T57 x8 x10).f4) == vk) || (!(((rd_T57 x8 x10).f5) == wz) || (!(((rd_T57 x8 x10).f6) == wy)))))))) = true then ((laws_lbAmong.f k x3 ((rd_T57 x8 x10).f0) ((rd_T57 x8 x10).f1) ((rd_T57 x8 x10).f2) ((rd_T57 x8 x10).f3) ((rd_T57 x8 x10).f4) ((rd_T57 x8 x10).f5) ((rd_T57 x8 x10).f6)).bind fun jv=>(if jv = true then (laws_FnCacheFresh.l0 k x3 x5 x8 x9 (wrap64 (x10 + 1)) vn vm vl ws vk wz wy) else (some false))) else (laws_FnCacheFresh.l0 k x3 x5 x8 x9 (wrap64 (x10 + 1)) vn vm vl ws vk wz wy)))) else (none)) else (if x9 = true then (if ws ≤ x5 then (if (wrap64 (x5 - ws)) ≤ 3 then (some (decide ((x8.length : Int) ≤ 20))) else (some false)) else (some false)) else (some (decide ((x8.length : Int) ≤ 20))))
end
def laws_FnCacheFresh.f (k : Nat) (l0 : List Int) : Option (Bool):=if (l0.length : Int) > 1048576 then (some true) else ((spec_DrawCacheWith.f k l0).bind fun qf=>((spec_CacheWith.f k qf.1 qf.2.1 qf.2.2.1 qf.2.2.2.1 qf.2.2.2.2.1 qf.2.2.2.2.2.1 qf.2.2.2.2.2.2.1 qf.2.2.2.2.2.2.2.1 qf.2.2.2.2.2.2.2.2).bind fun vx=>((impl_CacheWith.f k qf.1 qf.2.1 qf.2.2.1 qf.2.2.2.1 qf.2.2.2.2.1 qf.2.2.2.2.2.1 qf.2.2.2.2.2.2.1 qf.2.2.2.2.2.2.2.1 qf.2.2.2.2.2.2.2.2).bind fun qk=>(if (qk.2 != vx.2) = true then (laws_FnCacheFresh.j0 k qf.1 qf.2.2.2.2.2.2.2.2 qk.1 qk.2 true qf.2.1 qf.2.2.1 qf.2.2.2.1 qf.2.2.2.2.1 qf.2.2.2.2.2.1 qf.2.2.2.2.2.2.1 qf.2.2.2.2.2.2.2.1) else ((laws_lbSeals.f k qk.1 vx.1).bind fun vw=>(laws_FnCacheFresh.j0 k qf.1 qf.2.2.2.2.2.2.2.2 qk.1 qk.2 (!vw) qf.2.1 qf.2.2.1 qf.2.2.2.1 qf.2.2.2.2.1 qf.2.2.2.2.2.1 qf.2.2.2.2.2.2.1 qf.2.2.2.2.2.2.2.1))))))
theorem laws_FnCacheFresh.mono_l : ∀ k,(∀ y0 y1 y2 y3 y4 y5 y6 y7 y8 y9 y10 y11,LeO (laws_FnCacheFresh.j0 k y0 y1 y2 y3 y4 y5 y6 y7 y8 y9 y10 y11) (laws_FnCacheFresh.j0 (k + 1) y0 y1 y2 y3 y4 y5 y6 y7 y8 y9 y10 y11)) ∧ (∀ y0 y1 y2 y3 y4 y5 y6 y7 y8 y9 y10 y11,LeO (laws_FnCacheFresh.l0 k y0 y1 y2 y3 y4 y5 y6 y7 y8 y9 y10 y11) (laws_FnCacheFresh.l0 (k + 1) y0 y1 y2 y3 y4 y5 y6 y7 y8 y9 y10 y11))
 | 0=>⟨fun _ _ _ _ _ _ _ _ _ _ _ _ r h=>by simp [laws_FnCacheFresh.j0] at h,fun _ _ _ _ _ _ _ _ _ _ _ _ r h=>by simp [laws_FnCacheFresh.l0] at h⟩
 | k + 1=>by
  obtain ⟨ih0,ih1⟩:=laws_FnCacheFresh.mono_l k
  refine ⟨?_,?_⟩
  ·intro y0 y1 y2 y3 y4 y5 y6 y7 y8 y9 y10 y11
   unfold laws_FnCacheFresh.j0
   repeat' first
   | (with_reducible exact ih0 _ _ _ _ _ _ _ _ _ _ _ _)
   | (with_reducible exact ih1 _ _ _ _ _ _ _ _ _ _ _ _)
   | (with_reducible exact impl_CacheWith.mono _ _ _ _ _ _ _ _ _ _)
   | (with_reducible exact laws_lbAmong.mono _ _ _ _ _ _ _ _ _)
   | (with_reducible exact laws_lbSeals.mono _ _ _)
   | (with_reducible exact spec_CacheWith.mono _ _ _ _ _ _ _ _ _ _)
   | (with_reducible exact spec_DrawCacheWith.mono _ _)
   | (with_reducible exact LeO.refl _)
   | (with_reducible exact LeO.none _)
   | (with_reducible refine LeO.ite ?_ ?_)
   | (with_reducible refine LeO.bind ?_ (fun _=>?_))
   | exact ih0 _ _ _ _ _ _ _ _ _ _ _ _
   | exact ih1 _ _ _ _ _ _ _ _ _ _ _ _
   | exact impl_CacheWith.mono _ _ _ _ _ _ _ _ _ _
   | exact laws_lbAmong.mono _ _ _ _ _ _ _ _ _
   | exact laws_lbSeals.mono _ _ _
   | exact spec_CacheWith.mono _ _ _ _ _ _ _ _ _ _
   | exact spec_DrawCacheWith.mono _ _
   | exact LeO.none _
   | refine LeO.ite ?_ ?_
   | refine LeO.bind ?_ (fun _=>?_)
  ·intro y0 y1 y2 y3 y4 y5 y6 y7 y8 y9 y10 y11
   unfold laws_FnCacheFresh.l0
   repeat' first
   | (with_reducible exact ih0 _ _ _ _ _ _ _ _ _ _ _ _)
   | (with_reducible exact ih1 _ _ _ _ _ _ _ _ _ _ _ _)
   | (with_reducible exact impl_CacheWith.mono _ _ _ _ _ _ _ _ _ _)
   | (with_reducible exact laws_lbAmong.mono _ _ _ _ _ _ _ _ _)
   | (with_reducible exact laws_lbSeals.mono _ _ _)
   | (with_reducible exact spec_CacheWith.mono _ _ _ _ _ _ _ _ _ _)
   | (with_reducible exact spec_DrawCacheWith.mono _ _)
   | (with_reducible exact LeO.refl _)
   | (with_reducible exact LeO.none _)
   | (with_reducible refine LeO.ite ?_ ?_)
   | (with_reducible refine LeO.bind ?_ (fun _=>?_))
   | exact ih0 _ _ _ _ _ _ _ _ _ _ _ _
   | exact ih1 _ _ _ _ _ _ _ _ _ _ _ _
   | exact impl_CacheWith.mono _ _ _ _ _ _ _ _ _ _
   | exact laws_lbAmong.mono _ _ _ _ _ _ _ _ _
   | exact laws_lbSeals.mono _ _ _
   | exact spec_CacheWith.mono _ _ _ _ _ _ _ _ _ _
   | exact spec_DrawCacheWith.mono _ _
   | exact LeO.none _
   | refine LeO.ite ?_ ?_
   | refine LeO.bind ?_ (fun _=>?_)
theorem laws_FnCacheFresh.mono : ∀ a0 k,LeO (laws_FnCacheFresh.f k a0) (laws_FnCacheFresh.f (k + 1) a0):=by
 intro a0 k
 obtain ⟨ih0,ih1⟩:=laws_FnCacheFresh.mono_l k
 unfold laws_FnCacheFresh.f
 repeat' first
   | (with_reducible exact ih0 _ _ _ _ _ _ _ _ _ _ _ _)
   | (with_reducible exact ih1 _ _ _ _ _ _ _ _ _ _ _ _)
   | (with_reducible exact impl_CacheWith.mono _ _ _ _ _ _ _ _ _ _)
   | (with_reducible exact laws_lbAmong.mono _ _ _ _ _ _ _ _ _)
   | (with_reducible exact laws_lbSeals.mono _ _ _)
   | (with_reducible exact spec_CacheWith.mono _ _ _ _ _ _ _ _ _ _)
   | (with_reducible exact spec_DrawCacheWith.mono _ _)
   | (with_reducible exact LeO.refl _)
   | (with_reducible exact LeO.none _)
   | (with_reducible refine LeO.ite ?_ ?_)
   | (with_reducible refine LeO.bind ?_ (fun _=>?_))
   | exact ih0 _ _ _ _ _ _ _ _ _ _ _ _
   | exact ih1 _ _ _ _ _ _ _ _ _ _ _ _
   | exact impl_CacheWith.mono _ _ _ _ _ _ _ _ _ _
   | exact laws_lbAmong.mono _ _ _ _ _ _ _ _ _
   | exact laws_lbSeals.mono _ _ _
   | exact spec_CacheWith.mono _ _ _ _ _ _ _ _ _ _
   | exact spec_DrawCacheWith.mono _ _
   | exact LeO.none _
   | refine LeO.ite ?_ ?_
   | refine LeO.bind ?_ (fun _=>?_)
def laws_FnCacheFresh.T11 : Bool × List (List Nat × List Nat):=(true,[([],[]),([],[]),([0,1],[0,1]),([2],[2]),([3],[3]),([],[]),([4,5],[4,5]),([6],[6]),([7],[7]),([7],[7]),([7],[7]),([9,10,7],[7,9,10]),([11,7],[7,11]),([12,7],[7,12]),([8,13,7],[7,8,13]),([14,7],[7,14]),([7,15],[7,15]),([16,7],[16]),([17],[17]),([17],[17]),([18,19,17],[17,18,19]),([20,17],[17,20]),([17],[17]),([21,22,17],[17,21,22]),([23,17,17],[17,23]),([24],[24]),([24],[24]),([24],[24]),([26,27,24],[24,26,27]),([28,24],[24,28]),([25,29,24,24],[24,25,29]),([30,24],[24,30]),([24,31,17],[17,24,31]),([17,32],[17,32])])
def laws_FnCacheFresh.B11 : List Nat:=[0,0,3,7,15,0,63,127,255,255,255,1791,3839,7935,16383,32767,65535,131071,262143,262143,1048575,2097151,262143,8388607,16777215,33554431,33554431,33554431,234881023,503316479,1073741823,2147483647,4294967295,8589934591]
theorem laws_FnCacheFresh.tab11 : rtab .any (opsOf Try.f9 11) = laws_FnCacheFresh.T11:=by kernel_rfl
theorem laws_FnCacheFresh.bits11 : waitsOk laws_FnCacheFresh.T11.2 laws_FnCacheFresh.B11 = true:=by kernel_rfl
set_option maxHeartbeats 8000000 in
set_option maxRecDepth 100000 in
theorem laws_FnCacheFresh.calls (k : Nat) (A0 : Option Addr) (c0 : Nat) (l0 : List Int) (r : Bool) (w : World) (hr0 : Kd.C (Kd.int .u8) w A0 l0.length l0) (hc0 : l0.length ≤ c0) (h : laws_FnCacheFresh.f k l0 = some r) :
  Calls Try.prog 9 #[.slice A0 l0.length c0] w fun e w' => e = .returned (.bool r) ∧ Below w.heap.size w w':=by
 have qax:=Try.underlying57
 have HR0:=Aside0.mk hr0
 have HC0:=Aside0.mk hc0
 clear hr0 hc0
 have HB:=Aside0.mk (Below.refl w.heap.size w)
 have H : (if (l0.length : Int) > 1048576 then (some true) else ((spec_DrawCacheWith.f k l0).bind fun qf=>((spec_CacheWith.f k qf.1 qf.2.1 qf.2.2.1 qf.2.2.2.1 qf.2.2.2.2.1 qf.2.2.2.2.2.1 qf.2.2.2.2.2.2.1 qf.2.2.2.2.2.2.2.1 qf.2.2.2.2.2.2.2.2).bind fun vx=>((impl_CacheWith.f k qf.1 qf.2.1 qf.2.2.1 qf.2.2.2.1 qf.2.2.2.2.1 qf.2.2.2.2.2.1 qf.2.2.2.2.2.2.1 qf.2.2.2.2.2.2.2.1 qf.2.2.2.2.2.2.2.2).bind fun qk=>(if (qk.2 != vx.2) = true then (laws_FnCacheFresh.j0 k qf.1 qf.2.2.2.2.2.2.2.2 qk.1 qk.2 true qf.2.1 qf.2.2.1 qf.2.2.2.1 qf.2.2.2.2.1 qf.2.2.2.2.2.1 qf.2.2.2.2.2.2.1 qf.2.2.2.2.2.2.2.1) else ((laws_lbSeals.f k qk.1 vx.1).bind fun vw=>(laws_FnCacheFresh.j0 k qf.1 qf.2.2.2.2.2.2.2.2 qk.1 qk.2 (!vw) qf.2.1 qf.2.2.1 qf.2.2.2.1 qf.2.2.2.2.1 qf.2.2.2.2.2.1 qf.2.2.2.2.2.2.1 qf.2.2.2.2.2.2.2.1))))))) = some r:=h
 clear h
 by_cases c2 : (l0.length : Int) > 1048576
 ·rw [if_pos c2] at H
  have ga : decide (1048576 < (l0.length : Int)) = true:=decide_eq_true c2
  have jz : decide (1048576 < l0.length) = true:=decide_eq_true (by omega)
  clear c2
  obtain rfl:=Option.some.inj H
  go_enter Try.func9,Try.ntmps9
  go_wp2
  go_ret
  exact ⟨by first|rfl|(simp [errW_none,errW_some] <;> rfl)|(simp [*,errW_none,errW_some] <;> rfl),by repeat (first|(with_reducible first|exact HB.out|apply below_alloc|apply pw_below_drewN|apply below_drew1)|exact HB.out)⟩
 ·rw [if_neg c2] at H
  have ga : decide (1048576 < (l0.length : Int)) = false:=decide_eq_false c2
  have jz : decide (1048576 < l0.length) = false:=decide_eq_false (by omega)
  clear c2
  replace H:=Option.bind_eq_some_iff.mp H
  obtain ⟨⟨qx,qh,qi,qj,qg,ql,qm,qn,qw⟩,A30,H⟩:=H
  replace H : ((spec_CacheWith.f k qx qh qi qj qg ql qm qn qw).bind fun vx=>((impl_CacheWith.f k qx qh qi qj qg ql qm qn qw).bind fun qk=>(if (qk.2 != vx.2) = true then (laws_FnCacheFresh.j0 k qx qw qk.1 qk.2 true qh qi qj qg ql qm qn) else ((laws_lbSeals.f k qk.1 vx.1).bind fun vw=>(laws_FnCacheFresh.j0 k qx qw qk.1 qk.2 (!vw) qh qi qj qg ql qm qn))))) = some r:=H
  have A3:=Aside0.mk A30
  clear A30
  replace H:=Option.bind_eq_some_iff.mp H
  obtain ⟨⟨jw,vy⟩,A40,H⟩:=H
  replace H : ((impl_CacheWith.f k qx qh qi qj qg ql qm qn qw).bind fun qk=>(if (qk.2 != vy) = true then (laws_FnCacheFresh.j0 k qx qw qk.1 qk.2 true qh qi qj qg ql qm qn) else ((laws_lbSeals.f k qk.1 jw).bind fun vw=>(laws_FnCacheFresh.j0 k qx qw qk.1 qk.2 (!vw) qh qi qj qg ql qm qn)))) = some r:=H
  have A4:=Aside0.mk A40
  clear A40
  replace H:=Option.bind_eq_some_iff.mp H
  obtain ⟨⟨qd,wv⟩,A50,H⟩:=H
  replace H : (if (wv != vy) = true then (laws_FnCacheFresh.j0 k qx qw qd wv true qh qi qj qg ql qm qn) else ((laws_lbSeals.f k qd jw).bind fun vw=>(laws_FnCacheFresh.j0 k qx qw qd wv (!vw) qh qi qj qg ql qm qn))) = some r:=H
  have A5:=Aside0.mk A50
  clear A50
  have HC6:=Aside0.mk H
  clear H
  go_enter Try.func9,Try.ntmps9
  go_upto_region 6 with (first|((with_reducible refine gate_callee (f:=36) rfl ?_);refine goesL_ (some 16) rfl rfl Try.func36 (by kernel_rfl) rfl #[.slice A0 l0.length c0] rfl z68x3 ?_;(with_reducible refine (spec_DrawCacheWith.calls k _ _ l0 qx qh qi qj qg ql qm qn qw _ ?side1 ?side2 A3.out).mono ?_);(case side1=>repeat (first|exact HR0.out|(with_reducible refine Kd.C_alloc ?_ _)|(with_reducible refine Kd.C_drewN ?_ _)|(with_reducible refine Kd.C_drew ?_)));(case side2=>exact HC0.out);rintro e w7 ⟨qaw,rfl,ho0,hb⟩; refine ⟨_,rfl,?_⟩; have n0_:=Aside0.mk (Kd.R_lower ho0 (below_size z68x4));have n1_:=Aside0.mk (below_step z68x4 hb);clear HB;have wo:=n0_;have HB:=n1_;clear n0_ n1_;(try clear hb);(try clear hb2);(try clear hk);(try clear hi);(try clear ho0))|((with_reducible refine gate_dst (N:=4) rfl ?_);refine box_event ?hg (N:=4) ?hd (cs:=#[.int .i64 0,.int .i64 0,.int .i64 0,.int .i64 0,.int .i64 0,.int .i64 0,.int .i64 0]) (t:=57) ?hr ?_;(case hd=>rfl);(case hg=>rfl);(case hr=>first|(go_simp;done)|(go_simp;rfl));intro qe hg w8 hbox hb;have n0_:=Aside0.mk (Kd.R_below (Kd.R_elderB z68x6 qe (Nat.le_of_eq hg.symm)) hb);have n1_:=Aside0.mk (below_step z68x4 hb);have n2_:=Aside0.mk (hbox);have n3_:=Aside0.mk ((by rw [hg];exact (below_size z68x4) : w.heap.size ≤ qe));have n4_:=Aside0.mk ((by rw [hg];exact (below_size z68x4) : w.heap.size ≤ qe));clear wo;clear HB;have wo:=n0_;have HB:=n1_;have qc:=n2_;have qav:=n3_;have wq:=n4_;clear n0_ n1_ n2_ n3_ n4_;clear hb hbox hg;have jp : w8.cell? ⟨qe,0,none⟩ = some (.int .i64 0):=(blk_cell qc.out 0).trans rfl;have jo : w8.cell? ⟨qe,1,none⟩ = some (.int .i64 0):=(blk_cell qc.out 1).trans rfl;have jn : w8.cell? ⟨qe,2,none⟩ = some (.int .i64 0):=(blk_cell qc.out 2).trans rfl;have jm : w8.cell? ⟨qe,3,none⟩ = some (.int .i64 0):=(blk_cell qc.out 3).trans rfl;have jl : w8.cell? ⟨qe,4,none⟩ = some (.int .i64 0):=(blk_cell qc.out 4).trans rfl;have jk : w8.cell? ⟨qe,5,none⟩ = some (.int .i64 0):=(blk_cell qc.out 5).trans rfl;have jj : w8.cell? ⟨qe,6,none⟩ = some (.int .i64 0):=(blk_cell qc.out 6).trans rfl;have ji:=blk_frozen qc.out 0;have jh:=blk_frozen qc.out 1;have jg:=blk_frozen qc.out 2;have jf:=blk_frozen qc.out 3;have je:=blk_frozen qc.out 4;have jd:=blk_frozen qc.out 5;have jc:=blk_frozen qc.out 6;obtain ⟨ug,ud,qas⟩:=Kd.R_slice wo.out;subst qas)|((with_reducible refine gate_callee (f:=37) rfl ?_);refine goesL_ (some 24) rfl rfl Try.func37 (by kernel_rfl) rfl #[.slice ug qx.length ud,.agg #[.int .i64 qh,.int .i64 qi,.int .i64 qj,.int .i64 qg,.int .i64 ql,.int .i64 qm,.int .i64 qn],.int .i64 qw] rfl z68x3 ?_;(with_reducible refine (spec_CacheWith.calls k _ _ qx qh qi qj qg ql qm qn qw jw vy _ ?side1 ?side2 A4.out).mono ?_);(case side1=>refine (Kd.R_reads' (e:=57) (base:=w.heap.size) (ok:=fun k_=>(True ∧ k_ ≠ qe)) (n:=qx.length) (c:=ud) ?_).2.2;exact z68x1);(case side2=>exact (Kd.R_reads' wo.out).2.1);rintro e w11 ⟨qag,rfl,ho0,hb⟩; refine ⟨_,rfl,?_⟩; have n0_:=Aside0.mk (Kd.R_elder' z68x1 (Kd.R_base ho0) hb);have n1_:=Aside0.mk (Kd.R_lower (Kd.R_newB (Kd.R_new' ho0 (Kd.R_lt z68x1)) (g:=qe) (o:=.cells #[.int .i64 qh,.int .i64 qi,.int .i64 qj,.int .i64 qg,.int .i64 ql,.int .i64 qm,.int .i64 qn] 57 (0,0)) z68x0) (below_size z68x2));have n2_:=Aside0.mk (blk_below (g:=qe) (o:=.cells #[.int .i64 qh,.int .i64 qi,.int .i64 qj,.int .i64 qg,.int .i64 ql,.int .i64 qm,.int .i64 qn] 57 (0,0)) z68x0 hb);have n3_:=Aside0.mk (below_step z68x2 hb);clear wo;clear qc;clear HB;have wo:=n0_;have ue:=n1_;have qc:=n2_;have HB:=n3_;clear n0_ n1_ n2_ n3_;(try clear hb);(try clear hb2);(try clear hk);(try clear hi);(try clear ho0);have jb : w11.cell? ⟨qe,0,none⟩ = some (.int .i64 qh):=(blk_cell qc.out 0).trans rfl;have ja : w11.cell? ⟨qe,1,none⟩ = some (.int .i64 qi):=(blk_cell qc.out 1).trans rfl;have uz : w11.cell? ⟨qe,2,none⟩ = some (.int .i64 qj):=(blk_cell qc.out 2).trans rfl;have uy : w11.cell? ⟨qe,3,none⟩ = some (.int .i64 qg):=(blk_cell qc.out 3).trans rfl;have ux : w11.cell? ⟨qe,4,none⟩ = some (.int .i64 ql):=(blk_cell qc.out 4).trans rfl;have uw : w11.cell? ⟨qe,5,none⟩ = some (.int .i64 qm):=(blk_cell qc.out 5).trans rfl;have uv : w11.cell? ⟨qe,6,none⟩ = some (.int .i64 qn):=(blk_cell qc.out 6).trans rfl;have uu:=blk_frozen qc.out 0;have ut:=blk_frozen qc.out 1;have us:=blk_frozen qc.out 2;have ur:=blk_frozen qc.out 3;have uq:=blk_frozen qc.out 4;have uo:=blk_frozen qc.out 5;have un:=blk_frozen qc.out 6)|((with_reducible refine gate_callee (f:=38) rfl ?_);refine goesL_ (some 31) rfl rfl Try.func38 (by kernel_rfl) rfl #[.slice ug qx.length ud,.agg #[.int .i64 qh,.int .i64 qi,.int .i64 qj,.int .i64 qg,.int .i64 ql,.int .i64 qm,.int .i64 qn],.int .i64 qw] rfl z68x3 ?_;(with_reducible refine (impl_CacheWith.calls k _ _ qx qh qi qj qg ql qm qn qw qd wv _ ?side1 ?side2 A5.out).mono ?_);(case side1=>repeat (first|exact (Kd.R_reads' wo.out).2.2|(with_reducible refine Kd.C_alloc ?_ _)|(with_reducible refine Kd.C_drewN ?_ _)|(with_reducible refine Kd.C_drew ?_)));(case side2=>exact (Kd.R_reads' wo.out).2.1);rintro e w13 ⟨gb,rfl,ho0,hb⟩; refine ⟨_,rfl,?_⟩; have n0_:=Aside0.mk (Kd.R_below z68x6 hb);have n1_:=Aside0.mk (Kd.R_below y68x0 hb);have n2_:=Aside0.mk (Kd.V_lower (Kd.V_mono (ok':=fun k_=>some k_ ≠ (.slice ug qx.length ud : Value).ownBlock ∧ some k_ ≠ (qag : Value).ownBlock ∧ k_ ≠ qe) ho0 (fun k_ hk_=>⟨(Kd.fresh' (Kd.R_lt z68x6) k_ hk_),(Kd.fresh' (Kd.R_lt y68x0) k_ hk_),(Kd.freshB (g:=qe) (o:=.cells #[.int .i64 qh,.int .i64 qi,.int .i64 qj,.int .i64 qg,.int .i64 ql,.int .i64 qm,.int .i64 qn] 57 (0,0)) z68x5 k_ hk_)⟩)) (below_size z68x2));have n3_:=Aside0.mk (blk_below (g:=qe) (o:=.cells #[.int .i64 qh,.int .i64 qi,.int .i64 qj,.int .i64 qg,.int .i64 ql,.int .i64 qm,.int .i64 qn] 57 (0,0)) z68x5 hb);have n4_:=Aside0.mk (below_step z68x2 hb);clear wo;clear ue;clear qc;clear HB;have wo:=n0_;have ue:=n1_;have ui:=n2_;have qc:=n3_;have HB:=n4_;clear n0_ n1_ n2_ n3_ n4_;(try clear hb);(try clear hb2);(try clear hk);(try clear hi);(try clear ho0)))
  (try simp only [Act.put,List.setIfInBounds_toArray,List.set_cons_zero,List.set_cons_succ])
  go_cut [42] (fun v42 wc=>∃ (kq : Nat) (um : Bool),v42 = .bool um ∧ Aside0 (laws_FnCacheFresh.j0 kq qx qw qd wv um qh qi qj qg ql qm qn = some r) ∧ Aside0 (kq ≤ k) ∧ Aside0 (Kd.R k57 57 wc w.heap.size (fun k_=>k_ ≠ qe) (.slice ug qx.length ud) qx) ∧ Aside0 (Kd.V k57 57 wc w.heap.size (fun k_=>some k_ ≠ ((.slice ug qx.length ud) : Value).ownBlock ∧ k_ ≠ qe) gb qd) ∧ Aside0 (wc.heap[qe]? = some (.cells #[.int .i64 qh,.int .i64 qi,.int .i64 qj,.int .i64 qg,.int .i64 ql,.int .i64 qm,.int .i64 qn] 57 (0,0))) ∧ Aside0 (Below w.heap.size w wc))
  case first =>
   have H:=HC6.out
   clear HC6
   by_cases c14 : (wv != vy) = true
   ·rw [if_pos c14] at H
    have ub : (wv != vy) = true:=c14
    (try (have jt : decide (wv = vy) = false:=by simpa using c14))
    (try (have js : (wv == vy) = false:=by simpa using c14))
    (try (have qau : ¬ (wv = vy):=by simpa using c14))
    clear c14
    (first|rw [ub]|(simp only [i64_w,i32_w];rw [ub])|skip)
    have H':=Aside0.mk H
    clear H
    go_wp2
    go_meet
    case rel=>exact ⟨_,(true),y68x4,H',⟨by first|omega|exact Nat.le_refl _⟩,⟨by (with_reducible repeat (first|apply Kd.R_alloc|apply Kd.R_drewN|apply Kd.R_drew));exact Kd.R_mono wo.out (fun _ hk=>hk.1.2)⟩,⟨by (with_reducible repeat (first|apply Kd.V_alloc|apply Kd.V_drewN|apply Kd.V_drew));exact Kd.V_mono ui.out (fun _ hk=>⟨hk.1,hk.2.2⟩)⟩,⟨by (with_reducible repeat (first|refine blk_drewN ?_ _|refine blk_drew ?_|refine blk_alloc ?_ _));exact qc.out⟩,⟨by repeat (first|(with_reducible first|exact HB.out|apply below_alloc|apply pw_below_drewN|apply below_drew1|refine below_set ?_ wq.out)|exact HB.out)⟩⟩
   ·rw [if_neg c14] at H
    have ub : (wv != vy) = false:=by simpa using c14
    (try (have jt : decide (wv = vy) = true:=by simpa using c14))
    (try (have js : (wv == vy) = true:=by simpa using c14))
    clear c14
    (first|rw [ub]|(simp only [i64_w,i32_w];rw [ub])|skip)
    replace H:=Option.bind_eq_some_iff.mp H
    obtain ⟨vw,gm,H⟩:=H
    replace H : (laws_FnCacheFresh.j0 k qx qw qd wv (!vw) qh qi qj qg ql qm qn) = some r:=H
    have A15:=Aside0.mk gm
    clear gm
    have H':=Aside0.mk H
    clear H
    obtain ⟨qbt,qbi,qar⟩:=Kd.V_slice ui.out
    subst qar
    obtain ⟨qbs,qbh,qaq⟩:=Kd.R_slice ue.out
    subst qaq
    go_wp2_with (first|(go_at_call 39;(with_reducible refine (laws_lbSeals.calls k _ _ qd _ _ jw vw _ ?side1 ?side2 ?side3 ?side4 A15.out).mono ?_);(case side1=>repeat (first|exact (Kd.V_reads' ui.out).2.2|(with_reducible refine Kd.C_alloc ?_ _)|(with_reducible refine Kd.C_drewN ?_ _)|(with_reducible refine Kd.C_drew ?_)));(case side2=>exact (Kd.V_reads' ui.out).2.1);(case side3=>repeat (first|exact (Kd.R_reads' ue.out).2.2|(with_reducible refine Kd.C_alloc ?_ _)|(with_reducible refine Kd.C_drewN ?_ _)|(with_reducible refine Kd.C_drew ?_)));(case side4=>exact (Kd.R_reads' ue.out).2.1);rintro e w' ⟨rfl,⟨nd,rfl⟩⟩))
    go_meet
    case rel=>exact ⟨_,(!vw),y68x4,H',⟨by first|omega|exact Nat.le_refl _⟩,⟨by (with_reducible repeat (first|apply Kd.R_alloc|apply Kd.R_drewN|apply Kd.R_drew));exact Kd.R_mono wo.out (fun _ hk=>hk.1.2)⟩,⟨by (with_reducible repeat (first|apply Kd.V_alloc|apply Kd.V_drewN|apply Kd.V_drew));exact Kd.V_mono ui.out (fun _ hk=>⟨hk.1,hk.2.2⟩)⟩,⟨by (with_reducible repeat (first|refine blk_drewN ?_ _|refine blk_drew ?_|refine blk_alloc ?_ _));exact qc.out⟩,⟨by repeat (first|(with_reducible first|exact HB.out|apply below_alloc|apply pw_below_drewN|apply below_drew1|refine below_set ?_ wq.out)|exact HB.out)⟩⟩
  case rest =>
   clear HC6
   try clear c1
   try clear c2
   try clear ga
   try clear jz
   try clear p2
   try clear c3
   try clear c9
   try clear c14
   try clear ub
   try clear jt
   try clear js
   try clear jb
   try clear ja
   try clear uz
   try clear uy
   try clear ux
   try clear uw
   try clear uv
   try clear jp
   try clear jo
   try clear jn
   try clear jm
   try clear jl
   try clear jk
   try clear jj
   try clear uu
   try clear ut
   try clear us
   try clear ur
   try clear uq
   try clear uo
   try clear un
   try clear ji
   try clear jh
   try clear jg
   try clear jf
   try clear je
   try clear jd
   try clear jc
   obtain ⟨kq,um,rfl,HA,HJ5,HO_3,HO_8,qc,HB⟩:=hcut
   cases kq with
   | zero=>exact absurd HA.out (by simp [laws_FnCacheFresh.j0])
   | succ kj5 =>
    have H:=HA.out
    clear HA
    simp only [laws_FnCacheFresh.j0] at H
    by_cases c18 : um = true
    ·subst c18
     rw [if_pos rfl] at H
     obtain rfl:=Option.some.inj H
     go_wp2
     go_ret
     exact ⟨by first|rfl|(simp [errW_none,errW_some] <;> rfl)|(simp [*,errW_none,errW_some] <;> rfl),by repeat (first|(with_reducible first|exact HB.out|apply below_alloc|apply pw_below_drewN|apply below_drew1|refine below_set ?_ wq.out)|exact HB.out)⟩
    ·replace c18:=Bool.eq_false_iff.mpr c18
     subst c18
     rw [if_neg (show ¬ (false = true) by decide)] at H
     have H':=Aside0.mk H
     clear H
     go_wp2
     go_loopg [10] kj5 (fun kq v10 w' => ∃ (qa : Int),v10 = .int .i64 qa ∧ Aside0 (laws_FnCacheFresh.l0 kq qx qw qd wv qa qh qi qj qg ql qm qn = some r) ∧ Aside0 (kq ≤ kj5) ∧ Aside0 (Kd.R k57 57 w' w.heap.size (fun k_=>k_ ≠ qe) (.slice ug qx.length ud) qx) ∧ Aside0 (Kd.V k57 57 w' w.heap.size (fun k_=>some k_ ≠ ((.slice ug qx.length ud) : Value).ownBlock ∧ k_ ≠ qe) gb qd) ∧ Aside0 (w'.heap[qe]? = some (.cells #[.int .i64 qh,.int .i64 qi,.int .i64 qj,.int .i64 qg,.int .i64 ql,.int .i64 qm,.int .i64 qn] 57 (0,0))) ∧ Aside0 (Below w.heap.size w w'))
     case atStart=>exact ⟨(0),y68x4,H',⟨Nat.le_refl _⟩,⟨by (with_reducible repeat (first|apply Kd.R_alloc|apply Kd.R_drewN|apply Kd.R_drew));exact HO_3.out⟩,⟨by (with_reducible repeat (first|apply Kd.V_alloc|apply Kd.V_drewN|apply Kd.V_drew));exact HO_8.out⟩,⟨by (with_reducible repeat (first|refine blk_drewN ?_ _|refine blk_drew ?_|refine blk_alloc ?_ _));exact qc.out⟩,⟨by repeat (first|(with_reducible first|exact HB.out|apply below_alloc|apply pw_below_drewN|apply below_drew1|refine below_set ?_ wq.out)|exact HB.out)⟩⟩
     case round =>
      clear H'
      try clear c1
      try clear c2
      try clear ga
      try clear jz
      try clear p2
      try clear c3
      try clear c9
      try clear c14
      try clear ub
      try clear jt
      try clear js
      try clear c18
      try clear jb
      try clear ja
      try clear uz
      try clear uy
      try clear ux
      try clear uw
      try clear uv
      try clear jp
      try clear jo
      try clear jn
      try clear jm
      try clear jl
      try clear jk
      try clear jj
      try clear uu
      try clear ut
      try clear us
      try clear ur
      try clear uq
      try clear uo
      try clear un
      try clear ji
      try clear jh
      try clear jg
      try clear jf
      try clear je
      try clear jd
      try clear jc
      try clear p2
      obtain ⟨qa,rfl,HA,HK2,HO_3,HO_8,qc,HB⟩:=hrel
      cases gk with
      | zero=>exact absurd HA.out (by simp [laws_FnCacheFresh.l0])
      | succ k2 =>
       have H:=HA.out
       clear HA
       simp only [laws_FnCacheFresh.l0] at H
       by_cases c19 : qa < (qd.length : Int)
       rotate_left
       ·rw [if_neg c19] at H
        have gj : decide (qa < (qd.length : Int)) = false:=decide_eq_false c19
        clear c19
        by_cases c38 : wv = true
        rotate_left
        ·replace c38:=Bool.eq_false_iff.mpr c38
         subst c38
         rw [if_neg (show ¬ (false = true) by decide)] at H
         obtain rfl:=Option.some.inj H
         obtain ⟨qbj,qay,qah⟩:=Kd.V_slice HO_8.out
         subst qah
         go_wp2
         go_ret
         exact ⟨by first|rfl|(simp [errW_none,errW_some] <;> rfl)|(simp [*,errW_none,errW_some] <;> rfl),by repeat (first|(with_reducible first|exact HB.out|apply below_alloc|apply pw_below_drewN|apply below_drew1|refine below_set ?_ wq.out)|exact HB.out)⟩
        subst c38
        rw [if_pos rfl] at H
        by_cases c39 : qg ≤ qw
        rotate_left
        ·rw [if_neg c39] at H
         have gf : decide (qg ≤ qw) = false:=decide_eq_false c39
         clear c39
         obtain rfl:=Option.some.inj H
         obtain ⟨qbk,qaz,qai⟩:=Kd.V_slice HO_8.out
         subst qai
         have pp : wr.cell? ⟨qe,0,none⟩ = some (.int .i64 qh):=(blk_cell qc.out 0).trans rfl
         have po : wr.cell? ⟨qe,1,none⟩ = some (.int .i64 qi):=(blk_cell qc.out 1).trans rfl
         have pn : wr.cell? ⟨qe,2,none⟩ = some (.int .i64 qj):=(blk_cell qc.out 2).trans rfl
         have pm : wr.cell? ⟨qe,3,none⟩ = some (.int .i64 qg):=(blk_cell qc.out 3).trans rfl
         have pl : wr.cell? ⟨qe,4,none⟩ = some (.int .i64 ql):=(blk_cell qc.out 4).trans rfl
         have pk : wr.cell? ⟨qe,5,none⟩ = some (.int .i64 qm):=(blk_cell qc.out 5).trans rfl
         have pj : wr.cell? ⟨qe,6,none⟩ = some (.int .i64 qn):=(blk_cell qc.out 6).trans rfl
         have gu:=blk_frozen qc.out 0
         have gt:=blk_frozen qc.out 1
         have gs:=blk_frozen qc.out 2
         have gr:=blk_frozen qc.out 3
         have gq:=blk_frozen qc.out 4
         have gp:=blk_frozen qc.out 5
         have gn:=blk_frozen qc.out 6
         go_wp2
         go_ret
         exact ⟨by first|rfl|(simp [errW_none,errW_some] <;> rfl)|(simp [*,errW_none,errW_some] <;> rfl),by repeat (first|(with_reducible first|exact HB.out|apply below_alloc|apply pw_below_drewN|apply below_drew1|refine below_set ?_ wq.out)|exact HB.out)⟩
        rw [if_pos c39] at H
        have gf : decide (qg ≤ qw) = true:=decide_eq_true c39
        clear c39
        by_cases c40 : (wrap64 (qw - qg)) ≤ 3
        ·rw [if_pos c40] at H
         have gc : decide ((wrap64 (qw - qg)) ≤ 3) = true:=decide_eq_true c40
         clear c40
         obtain rfl:=Option.some.inj H
         obtain ⟨qbm,qbb,qak⟩:=Kd.V_slice HO_8.out
         subst qak
         have qaf : wr.cell? ⟨qe,0,none⟩ = some (.int .i64 qh):=(blk_cell qc.out 0).trans rfl
         have qae : wr.cell? ⟨qe,1,none⟩ = some (.int .i64 qi):=(blk_cell qc.out 1).trans rfl
         have qad : wr.cell? ⟨qe,2,none⟩ = some (.int .i64 qj):=(blk_cell qc.out 2).trans rfl
         have qac : wr.cell? ⟨qe,3,none⟩ = some (.int .i64 qg):=(blk_cell qc.out 3).trans rfl
         have qab : wr.cell? ⟨qe,4,none⟩ = some (.int .i64 ql):=(blk_cell qc.out 4).trans rfl
         have qaa : wr.cell? ⟨qe,5,none⟩ = some (.int .i64 qm):=(blk_cell qc.out 5).trans rfl
         have pz : wr.cell? ⟨qe,6,none⟩ = some (.int .i64 qn):=(blk_cell qc.out 6).trans rfl
         have pi:=blk_frozen qc.out 0
         have ph:=blk_frozen qc.out 1
         have pg:=blk_frozen qc.out 2
         have pf:=blk_frozen qc.out 3
         have pe:=blk_frozen qc.out 4
         have pd:=blk_frozen qc.out 5
         have pc:=blk_frozen qc.out 6
         go_wp2
         go_ret
         exact ⟨by first|rfl|(simp [errW_none,errW_some] <;> rfl)|(simp [*,errW_none,errW_some] <;> rfl),by repeat (first|(with_reducible first|exact HB.out|apply below_alloc|apply pw_below_drewN|apply below_drew1|refine below_set ?_ wq.out)|exact HB.out)⟩
        ·rw [if_neg c40] at H
         have gc : decide ((wrap64 (qw - qg)) ≤ 3) = false:=decide_eq_false c40
         clear c40
         obtain rfl:=Option.some.inj H
         obtain ⟨qbl,qba,qaj⟩:=Kd.V_slice HO_8.out
         subst qaj
         have px : wr.cell? ⟨qe,0,none⟩ = some (.int .i64 qh):=(blk_cell qc.out 0).trans rfl
         have pw : wr.cell? ⟨qe,1,none⟩ = some (.int .i64 qi):=(blk_cell qc.out 1).trans rfl
         have pv : wr.cell? ⟨qe,2,none⟩ = some (.int .i64 qj):=(blk_cell qc.out 2).trans rfl
         have pu : wr.cell? ⟨qe,3,none⟩ = some (.int .i64 qg):=(blk_cell qc.out 3).trans rfl
         have pt : wr.cell? ⟨qe,4,none⟩ = some (.int .i64 ql):=(blk_cell qc.out 4).trans rfl
         have pr : wr.cell? ⟨qe,5,none⟩ = some (.int .i64 qm):=(blk_cell qc.out 5).trans rfl
         have pq : wr.cell? ⟨qe,6,none⟩ = some (.int .i64 qn):=(blk_cell qc.out 6).trans rfl
         have pb:=blk_frozen qc.out 0
         have pa:=blk_frozen qc.out 1
         have gz:=blk_frozen qc.out 2
         have gy:=blk_frozen qc.out 3
         have gx:=blk_frozen qc.out 4
         have gw:=blk_frozen qc.out 5
         have gv:=blk_frozen qc.out 6
         go_wp2
         go_ret
         exact ⟨by first|rfl|(simp [errW_none,errW_some] <;> rfl)|(simp [*,errW_none,errW_some] <;> rfl),by repeat (first|(with_reducible first|exact HB.out|apply below_alloc|apply pw_below_drewN|apply below_drew1|refine below_set ?_ wq.out)|exact HB.out)⟩
       rw [if_pos c19] at H
       have gj : decide (qa < (qd.length : Int)) = true:=decide_eq_true c19
       clear c19
       by_cases c20 : 0 ≤ qa
       rotate_left
       ·rw [if_neg c20] at H
        exact absurd H (by simp)
       rw [if_pos c20] at H
       have qat : decide (0 ≤ qa) = true:=decide_eq_true c20
       clear c20
       by_cases c21 : ((rd_T57 qd qa).f3) > qw
       ·rw [if_pos c21] at H
        have gi : decide (qw < ((rd_T57 qd qa).f3)) = true:=decide_eq_true c21
        clear c21
        obtain rfl:=Option.some.inj H
        obtain ⟨qbr,qbg,qap⟩:=Kd.V_slice HO_8.out
        subst qap
        try go_wp2
        have n0_:=Aside0.mk (Kd.R_drew HO_3.out)
        have n1_:=Aside0.mk (Kd.V_drew HO_8.out)
        have n2_:=Aside0.mk (blk_drew qc.out)
        have n3_:=Aside0.mk (below_drew1 HB.out)
        clear HO_3
        clear HO_8
        clear qc
        clear HB
        have HO_3:=n0_
        have HO_8:=n1_
        have qc:=n2_
        have HB:=n3_
        clear n0_ n1_ n2_ n3_
        have wu : 0 ≤ (qa : Int):=of_decide_eq_true y68x3
        have wt : qa < (qd.length : Int):=of_decide_eq_true y68x3
        obtain ⟨qb,uf,qv,qu,qt,qr,qq,qp,qo⟩:=at_T57 (Kd.V_reads' HO_8.out).2.2 qa wu wt
        cases uf
        replace wu:=eq_true wu
        replace wt:=eq_true wt
        refine start_ (n:=34) (S:=fun w' => w'.cell? (qb.add ((qa).toNat * 7)) = some (.int .i64 ((rd_T57 qd qa).f0)) ∧ w'.cell? ⟨(qb.add ((qa).toNat * 7)).block,(qb.add ((qa).toNat * 7)).off + 1,none⟩ = some (.int .i64 ((rd_T57 qd qa).f1)) ∧ w'.cell? ⟨(qb.add ((qa).toNat * 7)).block,(qb.add ((qa).toNat * 7)).off + 2,none⟩ = some (.int .i64 ((rd_T57 qd qa).f2)) ∧ w'.cell? ⟨(qb.add ((qa).toNat * 7)).block,(qb.add ((qa).toNat * 7)).off + 3,none⟩ = some (.int .i64 ((rd_T57 qd qa).f3)) ∧ w'.cell? ⟨(qb.add ((qa).toNat * 7)).block,(qb.add ((qa).toNat * 7)).off + 4,none⟩ = some (.int .i64 ((rd_T57 qd qa).f4)) ∧ w'.cell? ⟨(qb.add ((qa).toNat * 7)).block,(qb.add ((qa).toNat * 7)).off + 5,none⟩ = some (.int .i64 ((rd_T57 qd qa).f5)) ∧ w'.cell? ⟨(qb.add ((qa).toNat * 7)).block,(qb.add ((qa).toNat * 7)).off + 6,none⟩ = some (.int .i64 ((rd_T57 qd qa).f6))) (ds:=[]) #[false,false,false,false,false,false,false,false,false,false,false,false,false,false,false,false,false,false,false,false,false,false,false,false,false,false,false,false,false,false,false,false,false,false] (by kernel_rfl) rfl rfl ⟨qv,qu,qt,qr,qq,qp,qo⟩ (fun hHeld=>?_);refine with_tabW laws_FnCacheFresh.tab11 laws_FnCacheFresh.bits11 (fun HT_ HW_=>?_)
        generalize wr.drew = w23 at HO_3 HO_8 qc HB qv qu qt qr qq qp qo hHeld ⊢
        refine pure_ (i:=0) (N:=some 49) (v:=?_) (a':=?_) #[true,false,false,false,false,false,false,false,false,false,false,false,false,false,false,false,false,false,false,false,false,false,false,false,false,false,false,false,false,false,false,false,false,false] rfl rfl (any_of HT_.out (by kernel_rfl)) (fun _ _ _ h=>h) (Or.inl ⟨by rfl,?_⟩) ?_ ?_
        rotate_left
        ·intro w'
         go_simp
         with_reducible rfl
        rotate_left
        ·exact z68a
        refine pure_ (i:=1) (N:=some 50) (v:=?_) (a':=?_) #[true,true,false,false,false,false,false,false,false,false,false,false,false,false,false,false,false,false,false,false,false,false,false,false,false,false,false,false,false,false,false,false,false,false] rfl rfl (any_of HT_.out (by kernel_rfl)) (fun _ _ _ h=>h) (Or.inl ⟨by rfl,?_⟩) ?_ ?_
        rotate_left
        ·intro w'
         go_simp
         with_reducible rfl
        rotate_left
        ·exact z68a
        refine pure_ (i:=2) (N:=some 51) (v:=?_) (a':=?_) #[true,true,true,false,false,false,false,false,false,false,false,false,false,false,false,false,false,false,false,false,false,false,false,false,false,false,false,false,false,false,false,false,false,false] rfl rfl (any_of HT_.out (by kernel_rfl)) (fun _ _ _ h=>h) (Or.inl ⟨by rfl,?_⟩) ?_ ?_
        rotate_left
        ·intro w'
         go_simp
         with_reducible rfl
        rotate_left
        ·exact z68a
        refine pure_ (i:=3) (N:=some 52) (v:=?_) (a':=?_) #[true,true,true,true,false,false,false,false,false,false,false,false,false,false,false,false,false,false,false,false,false,false,false,false,false,false,false,false,false,false,false,false,false,false] rfl rfl (any_of HT_.out (by kernel_rfl)) (fun _ _ _ h=>h) (Or.inl ⟨by rfl,?_⟩) ?_ ?_
        rotate_left
        ·intro w'
         go_simp
         with_reducible rfl
        rotate_left
        ·exact z68a
        refine pure_ (i:=5) (N:=some 54) (v:=?_) (a':=?_) #[true,true,true,true,false,true,false,false,false,false,false,false,false,false,false,false,false,false,false,false,false,false,false,false,false,false,false,false,false,false,false,false,false,false] rfl rfl (any_of HT_.out (by kernel_rfl)) (fun _ _ _ h=>h) (Or.inl ⟨by rfl,?_⟩) ?_ ?_
        rotate_left
        ·intro w'
         go_simp
         with_reducible rfl
        rotate_left
        ·exact z68a
        refine take_ (i:=4) (N:=some 53) (v:=?_) (a':=?_) #[true,true,true,true,true,true,false,false,false,false,false,false,false,false,false,false,false,false,false,false,false,false,false,false,false,false,false,false,false,false,false,false,false,false] rfl rfl (take_ofW HT_.out HW_.out (by kernel_rfl)) (fun _ _ _ h=>h) (Or.inl ⟨by rfl,?_⟩) hHeld ?_ ?_
        rotate_left
        ·rintro w' ⟨s0,s1,s2,s3,s4,s5,s6⟩
         go_simp
         with_reducible rfl
        rotate_left
        ·exact z68a
        refine pure_ (i:=6) (N:=some 55) (v:=?_) (a':=?_) #[true,true,true,true,true,true,true,false,false,false,false,false,false,false,false,false,false,false,false,false,false,false,false,false,false,false,false,false,false,false,false,false,false,false] rfl rfl (any_of HT_.out (by kernel_rfl)) (fun _ _ _ h=>h) (Or.inl ⟨by rfl,?_⟩) ?_ ?_
        rotate_left
        ·intro w'
         go_simp
         with_reducible rfl
        rotate_left
        ·exact z68a
        refine pure_ (i:=7) (N:=some 56) (v:=?_) (a':=?_) #[true,true,true,true,true,true,true,true,false,false,false,false,false,false,false,false,false,false,false,false,false,false,false,false,false,false,false,false,false,false,false,false,false,false] rfl rfl (any_of HT_.out (by kernel_rfl)) (fun _ _ _ h=>h) (Or.inl ⟨by rfl,?_⟩) ?_ ?_
        rotate_left
        ·intro w'
         go_simp
         with_reducible rfl
        rotate_left
        ·exact z68a
        refine pure_ (i:=8) (N:=some 57) (v:=undef) (a':=?_) #[true,true,true,true,true,true,true,true,true,false,false,false,false,false,false,false,false,false,false,false,false,false,false,false,false,false,false,false,false,false,false,false,false,false] rfl rfl (any_of HT_.out (by kernel_rfl)) (fun _ _ _ h=>h) (Or.inr ⟨by rfl,rfl⟩) ?_ ?_
        rotate_left
        ·exact z68a
        refine pure_ (i:=9) (N:=some 58) (v:=undef) (a':=?_) #[true,true,true,true,true,true,true,true,true,true,false,false,false,false,false,false,false,false,false,false,false,false,false,false,false,false,false,false,false,false,false,false,false,false] rfl rfl (any_of HT_.out (by kernel_rfl)) (fun _ _ _ h=>h) (Or.inr ⟨by rfl,rfl⟩) ?_ ?_
        rotate_left
        ·exact z68a
        refine pure_ (i:=10) (N:=some 59) (v:=undef) (a':=?_) #[true,true,true,true,true,true,true,true,true,true,true,false,false,false,false,false,false,false,false,false,false,false,false,false,false,false,false,false,false,false,false,false,false,false] rfl rfl (any_of HT_.out (by kernel_rfl)) (fun _ _ _ h=>h) (Or.inr ⟨by rfl,rfl⟩) ?_ ?_
        rotate_left
        ·exact z68a
        refine pure_ (i:=11) (N:=some 60) (v:=undef) (a':=?_) #[true,true,true,true,true,true,true,true,true,true,true,true,false,false,false,false,false,false,false,false,false,false,false,false,false,false,false,false,false,false,false,false,false,false] rfl rfl (any_of HT_.out (by kernel_rfl)) (fun _ _ _ h=>h) (Or.inr ⟨by rfl,rfl⟩) ?_ ?_
        rotate_left
        ·exact z68a
        refine pure_ (i:=12) (N:=some 61) (v:=undef) (a':=?_) #[true,true,true,true,true,true,true,true,true,true,true,true,true,false,false,false,false,false,false,false,false,false,false,false,false,false,false,false,false,false,false,false,false,false] rfl rfl (any_of HT_.out (by kernel_rfl)) (fun _ _ _ h=>h) (Or.inr ⟨by rfl,rfl⟩) ?_ ?_
        rotate_left
        ·exact z68a
        refine pure_ (i:=13) (N:=some 62) (v:=undef) (a':=?_) #[true,true,true,true,true,true,true,true,true,true,true,true,true,true,false,false,false,false,false,false,false,false,false,false,false,false,false,false,false,false,false,false,false,false] rfl rfl (any_of HT_.out (by kernel_rfl)) (fun _ _ _ h=>h) (Or.inr ⟨by rfl,rfl⟩) ?_ ?_
        rotate_left
        ·exact z68a
        refine pure_ (i:=14) (N:=some 63) (v:=undef) (a':=?_) #[true,true,true,true,true,true,true,true,true,true,true,true,true,true,true,false,false,false,false,false,false,false,false,false,false,false,false,false,false,false,false,false,false,false] rfl rfl (any_of HT_.out (by kernel_rfl)) (fun _ _ _ h=>h) (Or.inr ⟨by rfl,rfl⟩) ?_ ?_
        rotate_left
        ·exact z68a
        refine pure_ (i:=15) (N:=some 64) (v:=undef) (a':=?_) #[true,true,true,true,true,true,true,true,true,true,true,true,true,true,true,true,false,false,false,false,false,false,false,false,false,false,false,false,false,false,false,false,false,false] rfl rfl (any_of HT_.out (by kernel_rfl)) (fun _ _ _ h=>h) (Or.inr ⟨by rfl,rfl⟩) ?_ ?_
        rotate_left
        ·exact z68a
        refine pure_ (i:=16) (N:=some 65) (v:=?_) (a':=?_) #[true,true,true,true,true,true,true,true,true,true,true,true,true,true,true,true,true,false,false,false,false,false,false,false,false,false,false,false,false,false,false,false,false,false] rfl rfl (any_of HT_.out (by kernel_rfl)) (fun _ _ _ h=>h) (Or.inl ⟨by rfl,?_⟩) ?_ ?_
        rotate_left
        ·intro w'
         go_simp
         with_reducible rfl
        rotate_left
        ·exact z68a
        refine pure_ (i:=17) (N:=some 66) (v:=?_) (a':=?_) #[true,true,true,true,true,true,true,true,true,true,true,true,true,true,true,true,true,true,false,false,false,false,false,false,false,false,false,false,false,false,false,false,false,false] rfl rfl (any_of HT_.out (by kernel_rfl)) (fun _ _ _ h=>h) (Or.inl ⟨by rfl,?_⟩) ?_ ?_
        rotate_left
        ·intro w'
         go_simp
         with_reducible rfl
        rotate_left
        ·exact z68a
        refine pure_ (i:=18) (N:=some 67) (v:=undef) (a':=?_) #[true,true,true,true,true,true,true,true,true,true,true,true,true,true,true,true,true,true,true,false,false,false,false,false,false,false,false,false,false,false,false,false,false,false] rfl rfl (any_of HT_.out (by kernel_rfl)) (fun _ _ _ h=>h) (Or.inr ⟨by rfl,rfl⟩) ?_ ?_
        rotate_left
        ·exact z68a
        refine pure_ (i:=19) (N:=some 68) (v:=undef) (a':=?_) #[true,true,true,true,true,true,true,true,true,true,true,true,true,true,true,true,true,true,true,true,false,false,false,false,false,false,false,false,false,false,false,false,false,false] rfl rfl (any_of HT_.out (by kernel_rfl)) (fun _ _ _ h=>h) (Or.inr ⟨by rfl,rfl⟩) ?_ ?_
        rotate_left
        ·exact z68a
        refine pure_ (i:=20) (N:=some 69) (v:=undef) (a':=?_) #[true,true,true,true,true,true,true,true,true,true,true,true,true,true,true,true,true,true,true,true,true,false,false,false,false,false,false,false,false,false,false,false,false,false] rfl rfl (any_of HT_.out (by kernel_rfl)) (fun _ _ _ h=>h) (Or.inr ⟨by rfl,rfl⟩) ?_ ?_
        rotate_left
        ·exact z68a
        refine pure_ (i:=21) (N:=some 70) (v:=undef) (a':=?_) #[true,true,true,true,true,true,true,true,true,true,true,true,true,true,true,true,true,true,true,true,true,true,false,false,false,false,false,false,false,false,false,false,false,false] rfl rfl (any_of HT_.out (by kernel_rfl)) (fun _ _ _ h=>h) (Or.inr ⟨by rfl,rfl⟩) ?_ ?_
        rotate_left
        ·exact z68a
        refine pure_ (i:=22) (N:=some 71) (v:=undef) (a':=?_) #[true,true,true,true,true,true,true,true,true,true,true,true,true,true,true,true,true,true,true,true,true,true,true,false,false,false,false,false,false,false,false,false,false,false] rfl rfl (any_of HT_.out (by kernel_rfl)) (fun _ _ _ h=>h) (Or.inr ⟨by rfl,rfl⟩) ?_ ?_
        rotate_left
        ·exact z68a
        refine pure_ (i:=23) (N:=some 72) (v:=undef) (a':=?_) #[true,true,true,true,true,true,true,true,true,true,true,true,true,true,true,true,true,true,true,true,true,true,true,true,false,false,false,false,false,false,false,false,false,false] rfl rfl (any_of HT_.out (by kernel_rfl)) (fun _ _ _ h=>h) (Or.inr ⟨by rfl,rfl⟩) ?_ ?_
        rotate_left
        ·exact z68a
        refine pure_ (i:=24) (N:=some 73) (v:=undef) (a':=?_) #[true,true,true,true,true,true,true,true,true,true,true,true,true,true,true,true,true,true,true,true,true,true,true,true,true,false,false,false,false,false,false,false,false,false] rfl rfl (any_of HT_.out (by kernel_rfl)) (fun _ _ _ h=>h) (Or.inr ⟨by rfl,rfl⟩) ?_ ?_
        rotate_left
        ·exact z68a
        refine pure_ (i:=25) (N:=some 74) (v:=undef) (a':=?_) #[true,true,true,true,true,true,true,true,true,true,true,true,true,true,true,true,true,true,true,true,true,true,true,true,true,true,false,false,false,false,false,false,false,false] rfl rfl (any_of HT_.out (by kernel_rfl)) (fun _ _ _ h=>h) (Or.inr ⟨by rfl,rfl⟩) ?_ ?_
        rotate_left
        ·exact z68a
        refine pure_ (i:=26) (N:=some 75) (v:=undef) (a':=?_) #[true,true,true,true,true,true,true,true,true,true,true,true,true,true,true,true,true,true,true,true,true,true,true,true,true,true,true,false,false,false,false,false,false,false] rfl rfl (any_of HT_.out (by kernel_rfl)) (fun _ _ _ h=>h) (Or.inr ⟨by rfl,rfl⟩) ?_ ?_
        rotate_left
        ·exact z68a
        refine pure_ (i:=27) (N:=some 76) (v:=undef) (a':=?_) #[true,true,true,true,true,true,true,true,true,true,true,true,true,true,true,true,true,true,true,true,true,true,true,true,true,true,true,true,false,false,false,false,false,false] rfl rfl (any_of HT_.out (by kernel_rfl)) (fun _ _ _ h=>h) (Or.inr ⟨by rfl,rfl⟩) ?_ ?_
        rotate_left
        ·exact z68a
        refine pure_ (i:=28) (N:=some 77) (v:=undef) (a':=?_) #[true,true,true,true,true,true,true,true,true,true,true,true,true,true,true,true,true,true,true,true,true,true,true,true,true,true,true,true,true,false,false,false,false,false] rfl rfl (any_of HT_.out (by kernel_rfl)) (fun _ _ _ h=>h) (Or.inr ⟨by rfl,rfl⟩) ?_ ?_
        rotate_left
        ·exact z68a
        refine pure_ (i:=29) (N:=some 78) (v:=undef) (a':=?_) #[true,true,true,true,true,true,true,true,true,true,true,true,true,true,true,true,true,true,true,true,true,true,true,true,true,true,true,true,true,true,false,false,false,false] rfl rfl (any_of HT_.out (by kernel_rfl)) (fun _ _ _ h=>h) (Or.inr ⟨by rfl,rfl⟩) ?_ ?_
        rotate_left
        ·exact z68a
        refine pure_ (i:=30) (N:=some 79) (v:=undef) (a':=?_) #[true,true,true,true,true,true,true,true,true,true,true,true,true,true,true,true,true,true,true,true,true,true,true,true,true,true,true,true,true,true,true,false,false,false] rfl rfl (any_of HT_.out (by kernel_rfl)) (fun _ _ _ h=>h) (Or.inr ⟨by rfl,rfl⟩) ?_ ?_
        rotate_left
        ·exact z68a
        refine pure_ (i:=31) (N:=some 80) (v:=undef) (a':=?_) #[true,true,true,true,true,true,true,true,true,true,true,true,true,true,true,true,true,true,true,true,true,true,true,true,true,true,true,true,true,true,true,true,false,false] rfl rfl (any_of HT_.out (by kernel_rfl)) (fun _ _ _ h=>h) (Or.inr ⟨by rfl,rfl⟩) ?_ ?_
        rotate_left
        ·exact z68a
        refine pure_ (i:=32) (N:=some 81) (v:=undef) (a':=?_) #[true,true,true,true,true,true,true,true,true,true,true,true,true,true,true,true,true,true,true,true,true,true,true,true,true,true,true,true,true,true,true,true,true,false] rfl rfl (any_of HT_.out (by kernel_rfl)) (fun _ _ _ h=>h) (Or.inr ⟨by rfl,rfl⟩) ?_ ?_
        rotate_left
        ·exact z68a
        refine pure_ (i:=33) (N:=some 82) (v:=?_) (a':=?_) #[true,true,true,true,true,true,true,true,true,true,true,true,true,true,true,true,true,true,true,true,true,true,true,true,true,true,true,true,true,true,true,true,true,true] rfl rfl (any_of HT_.out (by kernel_rfl)) (fun _ _ _ h=>h) (Or.inl ⟨by rfl,?_⟩) ?_ ?_
        rotate_left
        ·intro w'
         go_simp
         with_reducible rfl
        rotate_left
        ·exact z68a
        refine done_ (done_of HT_.out (by kernel_rfl)) ?_
        try go_wp2
        go_ret
        exact ⟨by first|rfl|(simp [errW_none,errW_some] <;> rfl)|(simp [*,errW_none,errW_some] <;> rfl),by repeat (first|(with_reducible first|exact HB.out|apply below_alloc|apply pw_below_drewN|apply below_drew1|refine below_set ?_ wq.out)|exact HB.out)⟩
       ·rw [if_neg c21] at H
        have gi : decide (qw < ((rd_T57 qd qa).f3)) = false:=decide_eq_false c21
        clear c21
        by_cases c24 : (wrap64 (qw - ((rd_T57 qd qa).f3))) > 3
        ·rw [if_pos c24] at H
         have gh : decide (3 < (wrap64 (qw - ((rd_T57 qd qa).f3)))) = true:=decide_eq_true c24
         clear c24
         obtain rfl:=Option.some.inj H
         obtain ⟨qbq,qbf,qao⟩:=Kd.V_slice HO_8.out
         subst qao
         try go_wp2
         have n0_:=Aside0.mk (Kd.R_drew HO_3.out)
         have n1_:=Aside0.mk (Kd.V_drew HO_8.out)
         have n2_:=Aside0.mk (blk_drew qc.out)
         have n3_:=Aside0.mk (below_drew1 HB.out)
         clear HO_3
         clear HO_8
         clear qc
         clear HB
         have HO_3:=n0_
         have HO_8:=n1_
         have qc:=n2_
         have HB:=n3_
         clear n0_ n1_ n2_ n3_
         have wu : 0 ≤ (qa : Int):=of_decide_eq_true y68x3
         have wt : qa < (qd.length : Int):=of_decide_eq_true y68x3
         obtain ⟨qb,uf,qv,qu,qt,qr,qq,qp,qo⟩:=at_T57 (Kd.V_reads' HO_8.out).2.2 qa wu wt
         cases uf
         replace wu:=eq_true wu
         replace wt:=eq_true wt
         have wx : 0 ≤ (qa : Int):=of_decide_eq_true y68x3
         have ww : qa < (qd.length : Int):=of_decide_eq_true y68x3
         obtain ⟨uc,ul,wg,we,wd,wb,wa,qz,qy⟩:=at_T57 (Kd.V_reads' HO_8.out).2.2 qa wx ww
         obtain rfl : qb = uc:=(by injection ul)
         replace wx:=eq_true wx
         replace ww:=eq_true ww
         refine start_ (n:=34) (S:=fun w' => w'.cell? (qb.add ((qa).toNat * 7)) = some (.int .i64 ((rd_T57 qd qa).f0)) ∧ w'.cell? ⟨(qb.add ((qa).toNat * 7)).block,(qb.add ((qa).toNat * 7)).off + 1,none⟩ = some (.int .i64 ((rd_T57 qd qa).f1)) ∧ w'.cell? ⟨(qb.add ((qa).toNat * 7)).block,(qb.add ((qa).toNat * 7)).off + 2,none⟩ = some (.int .i64 ((rd_T57 qd qa).f2)) ∧ w'.cell? ⟨(qb.add ((qa).toNat * 7)).block,(qb.add ((qa).toNat * 7)).off + 3,none⟩ = some (.int .i64 ((rd_T57 qd qa).f3)) ∧ w'.cell? ⟨(qb.add ((qa).toNat * 7)).block,(qb.add ((qa).toNat * 7)).off + 4,none⟩ = some (.int .i64 ((rd_T57 qd qa).f4)) ∧ w'.cell? ⟨(qb.add ((qa).toNat * 7)).block,(qb.add ((qa).toNat * 7)).off + 5,none⟩ = some (.int .i64 ((rd_T57 qd qa).f5)) ∧ w'.cell? ⟨(qb.add ((qa).toNat * 7)).block,(qb.add ((qa).toNat * 7)).off + 6,none⟩ = some (.int .i64 ((rd_T57 qd qa).f6)) ∧ w'.cell? (qb.add ((qa).toNat * 7)) = some (.int .i64 ((rd_T57 qd qa).f0)) ∧ w'.cell? ⟨(qb.add ((qa).toNat * 7)).block,(qb.add ((qa).toNat * 7)).off + 1,none⟩ = some (.int .i64 ((rd_T57 qd qa).f1)) ∧ w'.cell? ⟨(qb.add ((qa).toNat * 7)).block,(qb.add ((qa).toNat * 7)).off + 2,none⟩ = some (.int .i64 ((rd_T57 qd qa).f2)) ∧ w'.cell? ⟨(qb.add ((qa).toNat * 7)).block,(qb.add ((qa).toNat * 7)).off + 3,none⟩ = some (.int .i64 ((rd_T57 qd qa).f3)) ∧ w'.cell? ⟨(qb.add ((qa).toNat * 7)).block,(qb.add ((qa).toNat * 7)).off + 4,none⟩ = some (.int .i64 ((rd_T57 qd qa).f4)) ∧ w'.cell? ⟨(qb.add ((qa).toNat * 7)).block,(qb.add ((qa).toNat * 7)).off + 5,none⟩ = some (.int .i64 ((rd_T57 qd qa).f5)) ∧ w'.cell? ⟨(qb.add ((qa).toNat * 7)).block,(qb.add ((qa).toNat * 7)).off + 6,none⟩ = some (.int .i64 ((rd_T57 qd qa).f6))) (ds:=[]) #[false,false,false,false,false,false,false,false,false,false,false,false,false,false,false,false,false,false,false,false,false,false,false,false,false,false,false,false,false,false,false,false,false,false] (by kernel_rfl) rfl rfl ⟨qv,qu,qt,qr,qq,qp,qo,wg,we,wd,wb,wa,qz,qy⟩ (fun hHeld=>?_);refine with_tabW laws_FnCacheFresh.tab11 laws_FnCacheFresh.bits11 (fun HT_ HW_=>?_)
         generalize wr.drew = w26 at HO_3 HO_8 qc HB qv qu qt qr qq qp qo wg we wd wb wa qz qy hHeld ⊢
         refine pure_ (i:=0) (N:=some 49) (v:=?_) (a':=?_) #[true,false,false,false,false,false,false,false,false,false,false,false,false,false,false,false,false,false,false,false,false,false,false,false,false,false,false,false,false,false,false,false,false,false] rfl rfl (any_of HT_.out (by kernel_rfl)) (fun _ _ _ h=>h) (Or.inl ⟨by rfl,?_⟩) ?_ ?_
         rotate_left
         ·intro w'
          go_simp
          with_reducible rfl
         rotate_left
         ·exact z68a
         refine pure_ (i:=1) (N:=some 50) (v:=?_) (a':=?_) #[true,true,false,false,false,false,false,false,false,false,false,false,false,false,false,false,false,false,false,false,false,false,false,false,false,false,false,false,false,false,false,false,false,false] rfl rfl (any_of HT_.out (by kernel_rfl)) (fun _ _ _ h=>h) (Or.inl ⟨by rfl,?_⟩) ?_ ?_
         rotate_left
         ·intro w'
          go_simp
          with_reducible rfl
         rotate_left
         ·exact z68a
         refine pure_ (i:=2) (N:=some 51) (v:=?_) (a':=?_) #[true,true,true,false,false,false,false,false,false,false,false,false,false,false,false,false,false,false,false,false,false,false,false,false,false,false,false,false,false,false,false,false,false,false] rfl rfl (any_of HT_.out (by kernel_rfl)) (fun _ _ _ h=>h) (Or.inl ⟨by rfl,?_⟩) ?_ ?_
         rotate_left
         ·intro w'
          go_simp
          with_reducible rfl
         rotate_left
         ·exact z68a
         refine pure_ (i:=3) (N:=some 52) (v:=?_) (a':=?_) #[true,true,true,true,false,false,false,false,false,false,false,false,false,false,false,false,false,false,false,false,false,false,false,false,false,false,false,false,false,false,false,false,false,false] rfl rfl (any_of HT_.out (by kernel_rfl)) (fun _ _ _ h=>h) (Or.inl ⟨by rfl,?_⟩) ?_ ?_
         rotate_left
         ·intro w'
          go_simp
          with_reducible rfl
         rotate_left
         ·exact z68a
         refine pure_ (i:=5) (N:=some 54) (v:=?_) (a':=?_) #[true,true,true,true,false,true,false,false,false,false,false,false,false,false,false,false,false,false,false,false,false,false,false,false,false,false,false,false,false,false,false,false,false,false] rfl rfl (any_of HT_.out (by kernel_rfl)) (fun _ _ _ h=>h) (Or.inl ⟨by rfl,?_⟩) ?_ ?_
         rotate_left
         ·intro w'
          go_simp
          with_reducible rfl
         rotate_left
         ·exact z68a
         refine take_ (i:=4) (N:=some 53) (v:=?_) (a':=?_) #[true,true,true,true,true,true,false,false,false,false,false,false,false,false,false,false,false,false,false,false,false,false,false,false,false,false,false,false,false,false,false,false,false,false] rfl rfl (take_ofW HT_.out HW_.out (by kernel_rfl)) (fun _ _ _ h=>h) (Or.inl ⟨by rfl,?_⟩) hHeld ?_ ?_
         rotate_left
         ·rintro w' ⟨s0,s1,s2,s3,s4,s5,s6,s7,s8,s9,s10,s11,s12,s13⟩
          go_simp
          with_reducible rfl
         rotate_left
         ·exact z68a
         refine pure_ (i:=6) (N:=some 55) (v:=?_) (a':=?_) #[true,true,true,true,true,true,true,false,false,false,false,false,false,false,false,false,false,false,false,false,false,false,false,false,false,false,false,false,false,false,false,false,false,false] rfl rfl (any_of HT_.out (by kernel_rfl)) (fun _ _ _ h=>h) (Or.inl ⟨by rfl,?_⟩) ?_ ?_
         rotate_left
         ·intro w'
          go_simp
          with_reducible rfl
         rotate_left
         ·exact z68a
         refine pure_ (i:=7) (N:=some 56) (v:=?_) (a':=?_) #[true,true,true,true,true,true,true,true,false,false,false,false,false,false,false,false,false,false,false,false,false,false,false,false,false,false,false,false,false,false,false,false,false,false] rfl rfl (any_of HT_.out (by kernel_rfl)) (fun _ _ _ h=>h) (Or.inl ⟨by rfl,?_⟩) ?_ ?_
         rotate_left
         ·intro w'
          go_simp
          with_reducible rfl
         rotate_left
         ·exact z68a
         refine pure_ (i:=8) (N:=some 57) (v:=?_) (a':=?_) #[true,true,true,true,true,true,true,true,true,false,false,false,false,false,false,false,false,false,false,false,false,false,false,false,false,false,false,false,false,false,false,false,false,false] rfl rfl (any_of HT_.out (by kernel_rfl)) (fun _ _ _ h=>h) (Or.inl ⟨by rfl,?_⟩) ?_ ?_
         rotate_left
         ·intro w'
          go_simp
          with_reducible rfl
         rotate_left
         ·exact z68a
         refine pure_ (i:=9) (N:=some 58) (v:=?_) (a':=?_) #[true,true,true,true,true,true,true,true,true,true,false,false,false,false,false,false,false,false,false,false,false,false,false,false,false,false,false,false,false,false,false,false,false,false] rfl rfl (any_of HT_.out (by kernel_rfl)) (fun _ _ _ h=>h) (Or.inl ⟨by rfl,?_⟩) ?_ ?_
         rotate_left
         ·intro w'
          go_simp
          with_reducible rfl
         rotate_left
         ·exact z68a
         refine pure_ (i:=10) (N:=some 59) (v:=?_) (a':=?_) #[true,true,true,true,true,true,true,true,true,true,true,false,false,false,false,false,false,false,false,false,false,false,false,false,false,false,false,false,false,false,false,false,false,false] rfl rfl (any_of HT_.out (by kernel_rfl)) (fun _ _ _ h=>h) (Or.inl ⟨by rfl,?_⟩) ?_ ?_
         rotate_left
         ·intro w'
          go_simp
          with_reducible rfl
         rotate_left
         ·exact z68a
         refine pure_ (i:=11) (N:=some 60) (v:=?_) (a':=?_) #[true,true,true,true,true,true,true,true,true,true,true,true,false,false,false,false,false,false,false,false,false,false,false,false,false,false,false,false,false,false,false,false,false,false] rfl rfl (any_of HT_.out (by kernel_rfl)) (fun _ _ _ h=>h) (Or.inl ⟨by rfl,?_⟩) ?_ ?_
         rotate_left
         ·intro w'
          go_simp
          with_reducible rfl
         rotate_left
         ·exact z68a
         refine pure_ (i:=12) (N:=some 61) (v:=?_) (a':=?_) #[true,true,true,true,true,true,true,true,true,true,true,true,true,false,false,false,false,false,false,false,false,false,false,false,false,false,false,false,false,false,false,false,false,false] rfl rfl (any_of HT_.out (by kernel_rfl)) (fun _ _ _ h=>h) (Or.inl ⟨by rfl,?_⟩) ?_ ?_
         rotate_left
         ·intro w'
          go_simp
          with_reducible rfl
         rotate_left
         ·exact z68a
         refine take_ (i:=13) (N:=some 62) (v:=?_) (a':=?_) #[true,true,true,true,true,true,true,true,true,true,true,true,true,true,false,false,false,false,false,false,false,false,false,false,false,false,false,false,false,false,false,false,false,false] rfl rfl (take_ofW HT_.out HW_.out (by kernel_rfl)) (fun _ _ _ h=>h) (Or.inl ⟨by rfl,?_⟩) hHeld ?_ ?_
         rotate_left
         ·rintro w' ⟨s0,s1,s2,s3,s4,s5,s6,s7,s8,s9,s10,s11,s12,s13⟩
          go_simp
          with_reducible rfl
         rotate_left
         ·exact z68a
         refine pure_ (i:=14) (N:=some 63) (v:=?_) (a':=?_) #[true,true,true,true,true,true,true,true,true,true,true,true,true,true,true,false,false,false,false,false,false,false,false,false,false,false,false,false,false,false,false,false,false,false] rfl rfl (any_of HT_.out (by kernel_rfl)) (fun _ _ _ h=>h) (Or.inl ⟨by rfl,?_⟩) ?_ ?_
         rotate_left
         ·intro w'
          go_simp
          with_reducible rfl
         rotate_left
         ·exact z68a
         refine pure_ (i:=15) (N:=some 64) (v:=?_) (a':=?_) #[true,true,true,true,true,true,true,true,true,true,true,true,true,true,true,true,false,false,false,false,false,false,false,false,false,false,false,false,false,false,false,false,false,false] rfl rfl (any_of HT_.out (by kernel_rfl)) (fun _ _ _ h=>h) (Or.inl ⟨by rfl,?_⟩) ?_ ?_
         rotate_left
         ·intro w'
          go_simp
          with_reducible rfl
         rotate_left
         ·exact z68a
         refine pure_ (i:=16) (N:=some 65) (v:=?_) (a':=?_) #[true,true,true,true,true,true,true,true,true,true,true,true,true,true,true,true,true,false,false,false,false,false,false,false,false,false,false,false,false,false,false,false,false,false] rfl rfl (any_of HT_.out (by kernel_rfl)) (fun _ _ _ h=>h) (Or.inl ⟨by rfl,?_⟩) ?_ ?_
         rotate_left
         ·intro w'
          go_simp
          with_reducible rfl
         rotate_left
         ·exact z68a
         refine pure_ (i:=17) (N:=some 66) (v:=?_) (a':=?_) #[true,true,true,true,true,true,true,true,true,true,true,true,true,true,true,true,true,true,false,false,false,false,false,false,false,false,false,false,false,false,false,false,false,false] rfl rfl (any_of HT_.out (by kernel_rfl)) (fun _ _ _ h=>h) (Or.inl ⟨by rfl,?_⟩) ?_ ?_
         rotate_left
         ·intro w'
          go_simp
          with_reducible rfl
         rotate_left
         ·exact z68a
         refine pure_ (i:=18) (N:=some 67) (v:=undef) (a':=?_) #[true,true,true,true,true,true,true,true,true,true,true,true,true,true,true,true,true,true,true,false,false,false,false,false,false,false,false,false,false,false,false,false,false,false] rfl rfl (any_of HT_.out (by kernel_rfl)) (fun _ _ _ h=>h) (Or.inr ⟨by rfl,rfl⟩) ?_ ?_
         rotate_left
         ·exact z68a
         refine pure_ (i:=19) (N:=some 68) (v:=undef) (a':=?_) #[true,true,true,true,true,true,true,true,true,true,true,true,true,true,true,true,true,true,true,true,false,false,false,false,false,false,false,false,false,false,false,false,false,false] rfl rfl (any_of HT_.out (by kernel_rfl)) (fun _ _ _ h=>h) (Or.inr ⟨by rfl,rfl⟩) ?_ ?_
         rotate_left
         ·exact z68a
         refine pure_ (i:=20) (N:=some 69) (v:=undef) (a':=?_) #[true,true,true,true,true,true,true,true,true,true,true,true,true,true,true,true,true,true,true,true,true,false,false,false,false,false,false,false,false,false,false,false,false,false] rfl rfl (any_of HT_.out (by kernel_rfl)) (fun _ _ _ h=>h) (Or.inr ⟨by rfl,rfl⟩) ?_ ?_
         rotate_left
         ·exact z68a
         refine pure_ (i:=21) (N:=some 70) (v:=undef) (a':=?_) #[true,true,true,true,true,true,true,true,true,true,true,true,true,true,true,true,true,true,true,true,true,true,false,false,false,false,false,false,false,false,false,false,false,false] rfl rfl (any_of HT_.out (by kernel_rfl)) (fun _ _ _ h=>h) (Or.inr ⟨by rfl,rfl⟩) ?_ ?_
         rotate_left
         ·exact z68a
         refine pure_ (i:=22) (N:=some 71) (v:=undef) (a':=?_) #[true,true,true,true,true,true,true,true,true,true,true,true,true,true,true,true,true,true,true,true,true,true,true,false,false,false,false,false,false,false,false,false,false,false] rfl rfl (any_of HT_.out (by kernel_rfl)) (fun _ _ _ h=>h) (Or.inr ⟨by rfl,rfl⟩) ?_ ?_
         rotate_left
         ·exact z68a
         refine pure_ (i:=23) (N:=some 72) (v:=undef) (a':=?_) #[true,true,true,true,true,true,true,true,true,true,true,true,true,true,true,true,true,true,true,true,true,true,true,true,false,false,false,false,false,false,false,false,false,false] rfl rfl (any_of HT_.out (by kernel_rfl)) (fun _ _ _ h=>h) (Or.inr ⟨by rfl,rfl⟩) ?_ ?_
         rotate_left
         ·exact z68a
         refine pure_ (i:=24) (N:=some 73) (v:=undef) (a':=?_) #[true,true,true,true,true,true,true,true,true,true,true,true,true,true,true,true,true,true,true,true,true,true,true,true,true,false,false,false,false,false,false,false,false,false] rfl rfl (any_of HT_.out (by kernel_rfl)) (fun _ _ _ h=>h) (Or.inr ⟨by rfl,rfl⟩) ?_ ?_
         rotate_left
         ·exact z68a
         refine pure_ (i:=25) (N:=some 74) (v:=undef) (a':=?_) #[true,true,true,true,true,true,true,true,true,true,true,true,true,true,true,true,true,true,true,true,true,true,true,true,true,true,false,false,false,false,false,false,false,false] rfl rfl (any_of HT_.out (by kernel_rfl)) (fun _ _ _ h=>h) (Or.inr ⟨by rfl,rfl⟩) ?_ ?_
         rotate_left
         ·exact z68a
         refine pure_ (i:=26) (N:=some 75) (v:=undef) (a':=?_) #[true,true,true,true,true,true,true,true,true,true,true,true,true,true,true,true,true,true,true,true,true,true,true,true,true,true,true,false,false,false,false,false,false,false] rfl rfl (any_of HT_.out (by kernel_rfl)) (fun _ _ _ h=>h) (Or.inr ⟨by rfl,rfl⟩) ?_ ?_
         rotate_left
         ·exact z68a
         refine pure_ (i:=27) (N:=some 76) (v:=undef) (a':=?_) #[true,true,true,true,true,true,true,true,true,true,true,true,true,true,true,true,true,true,true,true,true,true,true,true,true,true,true,true,false,false,false,false,false,false] rfl rfl (any_of HT_.out (by kernel_rfl)) (fun _ _ _ h=>h) (Or.inr ⟨by rfl,rfl⟩) ?_ ?_
         rotate_left
         ·exact z68a
         refine pure_ (i:=28) (N:=some 77) (v:=undef) (a':=?_) #[true,true,true,true,true,true,true,true,true,true,true,true,true,true,true,true,true,true,true,true,true,true,true,true,true,true,true,true,true,false,false,false,false,false] rfl rfl (any_of HT_.out (by kernel_rfl)) (fun _ _ _ h=>h) (Or.inr ⟨by rfl,rfl⟩) ?_ ?_
         rotate_left
         ·exact z68a
         refine pure_ (i:=29) (N:=some 78) (v:=undef) (a':=?_) #[true,true,true,true,true,true,true,true,true,true,true,true,true,true,true,true,true,true,true,true,true,true,true,true,true,true,true,true,true,true,false,false,false,false] rfl rfl (any_of HT_.out (by kernel_rfl)) (fun _ _ _ h=>h) (Or.inr ⟨by rfl,rfl⟩) ?_ ?_
         rotate_left
         ·exact z68a
         refine pure_ (i:=30) (N:=some 79) (v:=undef) (a':=?_) #[true,true,true,true,true,true,true,true,true,true,true,true,true,true,true,true,true,true,true,true,true,true,true,true,true,true,true,true,true,true,true,false,false,false] rfl rfl (any_of HT_.out (by kernel_rfl)) (fun _ _ _ h=>h) (Or.inr ⟨by rfl,rfl⟩) ?_ ?_
         rotate_left
         ·exact z68a
         refine pure_ (i:=31) (N:=some 80) (v:=undef) (a':=?_) #[true,true,true,true,true,true,true,true,true,true,true,true,true,true,true,true,true,true,true,true,true,true,true,true,true,true,true,true,true,true,true,true,false,false] rfl rfl (any_of HT_.out (by kernel_rfl)) (fun _ _ _ h=>h) (Or.inr ⟨by rfl,rfl⟩) ?_ ?_
         rotate_left
         ·exact z68a
         refine pure_ (i:=32) (N:=some 81) (v:=undef) (a':=?_) #[true,true,true,true,true,true,true,true,true,true,true,true,true,true,true,true,true,true,true,true,true,true,true,true,true,true,true,true,true,true,true,true,true,false] rfl rfl (any_of HT_.out (by kernel_rfl)) (fun _ _ _ h=>h) (Or.inr ⟨by rfl,rfl⟩) ?_ ?_
         rotate_left
         ·exact z68a
         refine pure_ (i:=33) (N:=some 82) (v:=?_) (a':=?_) #[true,true,true,true,true,true,true,true,true,true,true,true,true,true,true,true,true,true,true,true,true,true,true,true,true,true,true,true,true,true,true,true,true,true] rfl rfl (any_of HT_.out (by kernel_rfl)) (fun _ _ _ h=>h) (Or.inl ⟨by rfl,?_⟩) ?_ ?_
         rotate_left
         ·intro w'
          go_simp
          with_reducible rfl
         rotate_left
         ·exact z68a
         refine done_ (done_of HT_.out (by kernel_rfl)) ?_
         try go_wp2
         go_ret
         exact ⟨by first|rfl|(simp [errW_none,errW_some] <;> rfl)|(simp [*,errW_none,errW_some] <;> rfl),by repeat (first|(with_reducible first|exact HB.out|apply below_alloc|apply pw_below_drewN|apply below_drew1|refine below_set ?_ wq.out)|exact HB.out)⟩
        ·rw [if_neg c24] at H
         have gh : decide (3 < (wrap64 (qw - ((rd_T57 qd qa).f3)))) = false:=decide_eq_false c24
         clear c24
         by_cases c27 : (!(((rd_T57 qd qa).f0) == qh) || (!(((rd_T57 qd qa).f1) == qi) || (!(((rd_T57 qd qa).f2) == qj) || (!(((rd_T57 qd qa).f3) == qg) || (!(((rd_T57 qd qa).f4) == ql) || (!(((rd_T57 qd qa).f5) == qm) || (!(((rd_T57 qd qa).f6) == qn)))))))) = true
         rotate_left
         ·rw [if_neg c27] at H
          have gg : (!(((rd_T57 qd qa).f0) == qh) || (!(((rd_T57 qd qa).f1) == qi) || (!(((rd_T57 qd qa).f2) == qj) || (!(((rd_T57 qd qa).f3) == qg) || (!(((rd_T57 qd qa).f4) == ql) || (!(((rd_T57 qd qa).f5) == qm) || (!(((rd_T57 qd qa).f6) == qn)))))))) = false:=by simpa using c27
          clear c27
          have H':=Aside0.mk H
          clear H
          obtain ⟨qbn,qbc,qal⟩:=Kd.V_slice HO_8.out
          subst qal
          try go_wp2
          have n0_:=Aside0.mk (Kd.R_drew HO_3.out)
          have n1_:=Aside0.mk (Kd.V_drew HO_8.out)
          have n2_:=Aside0.mk (blk_drew qc.out)
          have n3_:=Aside0.mk (below_drew1 HB.out)
          clear HO_3
          clear HO_8
          clear qc
          clear HB
          have HO_3:=n0_
          have HO_8:=n1_
          have qc:=n2_
          have HB:=n3_
          clear n0_ n1_ n2_ n3_
          have wu : 0 ≤ (qa : Int):=of_decide_eq_true y68x3
          have wt : qa < (qd.length : Int):=of_decide_eq_true y68x3
          obtain ⟨qb,uf,qv,qu,qt,qr,qq,qp,qo⟩:=at_T57 (Kd.V_reads' HO_8.out).2.2 qa wu wt
          cases uf
          replace wu:=eq_true wu
          replace wt:=eq_true wt
          have wx : 0 ≤ (qa : Int):=of_decide_eq_true y68x3
          have ww : qa < (qd.length : Int):=of_decide_eq_true y68x3
          obtain ⟨uc,ul,wg,we,wd,wb,wa,qz,qy⟩:=at_T57 (Kd.V_reads' HO_8.out).2.2 qa wx ww
          obtain rfl : qb = uc:=(by injection ul)
          replace wx:=eq_true wx
          replace ww:=eq_true ww
          have ua : 0 ≤ (qa : Int):=of_decide_eq_true y68x3
          have vz : qa < (qd.length : Int):=of_decide_eq_true y68x3
          obtain ⟨uh,jq,wn,wm,wl,wk,wj,wi,wh⟩:=at_T57 (Kd.V_reads' HO_8.out).2.2 qa ua vz
          obtain rfl : qb = uh:=(by injection jq)
          replace ua:=eq_true ua
          replace vz:=eq_true vz
          refine start_ (n:=34) (S:=fun w' => w'.cell? ⟨qe,0,none⟩ = some (.int .i64 qh) ∧ w'.cell? ⟨qe,1,none⟩ = some (.int .i64 qi) ∧ w'.cell? ⟨qe,2,none⟩ = some (.int .i64 qj) ∧ w'.cell? ⟨qe,3,none⟩ = some (.int .i64 qg) ∧ w'.cell? ⟨qe,4,none⟩ = some (.int .i64 ql) ∧ w'.cell? ⟨qe,5,none⟩ = some (.int .i64 qm) ∧ w'.cell? ⟨qe,6,none⟩ = some (.int .i64 qn) ∧ w'.cell? (qb.add ((qa).toNat * 7)) = some (.int .i64 ((rd_T57 qd qa).f0)) ∧ w'.cell? ⟨(qb.add ((qa).toNat * 7)).block,(qb.add ((qa).toNat * 7)).off + 1,none⟩ = some (.int .i64 ((rd_T57 qd qa).f1)) ∧ w'.cell? ⟨(qb.add ((qa).toNat * 7)).block,(qb.add ((qa).toNat * 7)).off + 2,none⟩ = some (.int .i64 ((rd_T57 qd qa).f2)) ∧ w'.cell? ⟨(qb.add ((qa).toNat * 7)).block,(qb.add ((qa).toNat * 7)).off + 3,none⟩ = some (.int .i64 ((rd_T57 qd qa).f3)) ∧ w'.cell? ⟨(qb.add ((qa).toNat * 7)).block,(qb.add ((qa).toNat * 7)).off + 4,none⟩ = some (.int .i64 ((rd_T57 qd qa).f4)) ∧ w'.cell? ⟨(qb.add ((qa).toNat * 7)).block,(qb.add ((qa).toNat * 7)).off + 5,none⟩ = some (.int .i64 ((rd_T57 qd qa).f5)) ∧ w'.cell? ⟨(qb.add ((qa).toNat * 7)).block,(qb.add ((qa).toNat * 7)).off + 6,none⟩ = some (.int .i64 ((rd_T57 qd qa).f6)) ∧ w'.cell? (qb.add ((qa).toNat * 7)) = some (.int .i64 ((rd_T57 qd qa).f0)) ∧ w'.cell? ⟨(qb.add ((qa).toNat * 7)).block,(qb.add ((qa).toNat * 7)).off + 1,none⟩ = some (.int .i64 ((rd_T57 qd qa).f1)) ∧ w'.cell? ⟨(qb.add ((qa).toNat * 7)).block,(qb.add ((qa).toNat * 7)).off + 2,none⟩ = some (.int .i64 ((rd_T57 qd qa).f2)) ∧ w'.cell? ⟨(qb.add ((qa).toNat * 7)).block,(qb.add ((qa).toNat * 7)).off + 3,none⟩ = some (.int .i64 ((rd_T57 qd qa).f3)) ∧ w'.cell? ⟨(qb.add ((qa).toNat * 7)).block,(qb.add ((qa).toNat * 7)).off + 4,none⟩ = some (.int .i64 ((rd_T57 qd qa).f4)) ∧ w'.cell? ⟨(qb.add ((qa).toNat * 7)).block,(qb.add ((qa).toNat * 7)).off + 5,none⟩ = some (.int .i64 ((rd_T57 qd qa).f5)) ∧ w'.cell? ⟨(qb.add ((qa).toNat * 7)).block,(qb.add ((qa).toNat * 7)).off + 6,none⟩ = some (.int .i64 ((rd_T57 qd qa).f6)) ∧ w'.cell? (qb.add ((qa).toNat * 7)) = some (.int .i64 ((rd_T57 qd qa).f0)) ∧ w'.cell? ⟨(qb.add ((qa).toNat * 7)).block,(qb.add ((qa).toNat * 7)).off + 1,none⟩ = some (.int .i64 ((rd_T57 qd qa).f1)) ∧ w'.cell? ⟨(qb.add ((qa).toNat * 7)).block,(qb.add ((qa).toNat * 7)).off + 2,none⟩ = some (.int .i64 ((rd_T57 qd qa).f2)) ∧ w'.cell? ⟨(qb.add ((qa).toNat * 7)).block,(qb.add ((qa).toNat * 7)).off + 3,none⟩ = some (.int .i64 ((rd_T57 qd qa).f3)) ∧ w'.cell? ⟨(qb.add ((qa).toNat * 7)).block,(qb.add ((qa).toNat * 7)).off + 4,none⟩ = some (.int .i64 ((rd_T57 qd qa).f4)) ∧ w'.cell? ⟨(qb.add ((qa).toNat * 7)).block,(qb.add ((qa).toNat * 7)).off + 5,none⟩ = some (.int .i64 ((rd_T57 qd qa).f5)) ∧ w'.cell? ⟨(qb.add ((qa).toNat * 7)).block,(qb.add ((qa).toNat * 7)).off + 6,none⟩ = some (.int .i64 ((rd_T57 qd qa).f6))) (ds:=[]) #[false,false,false,false,false,false,false,false,false,false,false,false,false,false,false,false,false,false,false,false,false,false,false,false,false,false,false,false,false,false,false,false,false,false] (by kernel_rfl) rfl rfl ⟨(blk_cell qc.out 0).trans rfl,(blk_cell qc.out 1).trans rfl,(blk_cell qc.out 2).trans rfl,(blk_cell qc.out 3).trans rfl,(blk_cell qc.out 4).trans rfl,(blk_cell qc.out 5).trans rfl,(blk_cell qc.out 6).trans rfl,qv,qu,qt,qr,qq,qp,qo,wg,we,wd,wb,wa,qz,qy,wn,wm,wl,wk,wj,wi,wh⟩ (fun hHeld=>?_);refine with_tabW laws_FnCacheFresh.tab11 laws_FnCacheFresh.bits11 (fun HT_ HW_=>?_)
          generalize wr.drew = w37 at HO_3 HO_8 qc HB qv qu qt qr qq qp qo wg we wd wb wa qz qy wn wm wl wk wj wi wh hHeld ⊢
          refine pure_ (i:=0) (N:=some 49) (v:=?_) (a':=?_) #[true,false,false,false,false,false,false,false,false,false,false,false,false,false,false,false,false,false,false,false,false,false,false,false,false,false,false,false,false,false,false,false,false,false] rfl rfl (any_of HT_.out (by kernel_rfl)) (fun _ _ _ h=>h) (Or.inl ⟨by rfl,?_⟩) ?_ ?_
          rotate_left
          ·intro w'
           go_simp
           with_reducible rfl
          rotate_left
          ·exact z68a
          refine pure_ (i:=1) (N:=some 50) (v:=?_) (a':=?_) #[true,true,false,false,false,false,false,false,false,false,false,false,false,false,false,false,false,false,false,false,false,false,false,false,false,false,false,false,false,false,false,false,false,false] rfl rfl (any_of HT_.out (by kernel_rfl)) (fun _ _ _ h=>h) (Or.inl ⟨by rfl,?_⟩) ?_ ?_
          rotate_left
          ·intro w'
           go_simp
           with_reducible rfl
          rotate_left
          ·exact z68a
          refine pure_ (i:=2) (N:=some 51) (v:=?_) (a':=?_) #[true,true,true,false,false,false,false,false,false,false,false,false,false,false,false,false,false,false,false,false,false,false,false,false,false,false,false,false,false,false,false,false,false,false] rfl rfl (any_of HT_.out (by kernel_rfl)) (fun _ _ _ h=>h) (Or.inl ⟨by rfl,?_⟩) ?_ ?_
          rotate_left
          ·intro w'
           go_simp
           with_reducible rfl
          rotate_left
          ·exact z68a
          refine pure_ (i:=3) (N:=some 52) (v:=?_) (a':=?_) #[true,true,true,true,false,false,false,false,false,false,false,false,false,false,false,false,false,false,false,false,false,false,false,false,false,false,false,false,false,false,false,false,false,false] rfl rfl (any_of HT_.out (by kernel_rfl)) (fun _ _ _ h=>h) (Or.inl ⟨by rfl,?_⟩) ?_ ?_
          rotate_left
          ·intro w'
           go_simp
           with_reducible rfl
          rotate_left
          ·exact z68a
          refine pure_ (i:=5) (N:=some 54) (v:=?_) (a':=?_) #[true,true,true,true,false,true,false,false,false,false,false,false,false,false,false,false,false,false,false,false,false,false,false,false,false,false,false,false,false,false,false,false,false,false] rfl rfl (any_of HT_.out (by kernel_rfl)) (fun _ _ _ h=>h) (Or.inl ⟨by rfl,?_⟩) ?_ ?_
          rotate_left
          ·intro w'
           go_simp
           with_reducible rfl
          rotate_left
          ·exact z68a
          refine take_ (i:=4) (N:=some 53) (v:=?_) (a':=?_) #[true,true,true,true,true,true,false,false,false,false,false,false,false,false,false,false,false,false,false,false,false,false,false,false,false,false,false,false,false,false,false,false,false,false] rfl rfl (take_ofW HT_.out HW_.out (by kernel_rfl)) (fun _ _ _ h=>h) (Or.inl ⟨by rfl,?_⟩) hHeld ?_ ?_
          rotate_left
          ·rintro w' ⟨s0,s1,s2,s3,s4,s5,s6,s7,s8,s9,s10,s11,s12,s13,s14,s15,s16,s17,s18,s19,s20,s21,s22,s23,s24,s25,s26,s27⟩
           go_simp
           with_reducible rfl
          rotate_left
          ·exact z68a
          refine pure_ (i:=6) (N:=some 55) (v:=?_) (a':=?_) #[true,true,true,true,true,true,true,false,false,false,false,false,false,false,false,false,false,false,false,false,false,false,false,false,false,false,false,false,false,false,false,false,false,false] rfl rfl (any_of HT_.out (by kernel_rfl)) (fun _ _ _ h=>h) (Or.inl ⟨by rfl,?_⟩) ?_ ?_
          rotate_left
          ·intro w'
           go_simp
           with_reducible rfl
          rotate_left
          ·exact z68a
          refine pure_ (i:=7) (N:=some 56) (v:=?_) (a':=?_) #[true,true,true,true,true,true,true,true,false,false,false,false,false,false,false,false,false,false,false,false,false,false,false,false,false,false,false,false,false,false,false,false,false,false] rfl rfl (any_of HT_.out (by kernel_rfl)) (fun _ _ _ h=>h) (Or.inl ⟨by rfl,?_⟩) ?_ ?_
          rotate_left
          ·intro w'
           go_simp
           with_reducible rfl
          rotate_left
          ·exact z68a
          refine pure_ (i:=8) (N:=some 57) (v:=?_) (a':=?_) #[true,true,true,true,true,true,true,true,true,false,false,false,false,false,false,false,false,false,false,false,false,false,false,false,false,false,false,false,false,false,false,false,false,false] rfl rfl (any_of HT_.out (by kernel_rfl)) (fun _ _ _ h=>h) (Or.inl ⟨by rfl,?_⟩) ?_ ?_
          rotate_left
          ·intro w'
           go_simp
           with_reducible rfl
          rotate_left
          ·exact z68a
          refine pure_ (i:=9) (N:=some 58) (v:=?_) (a':=?_) #[true,true,true,true,true,true,true,true,true,true,false,false,false,false,false,false,false,false,false,false,false,false,false,false,false,false,false,false,false,false,false,false,false,false] rfl rfl (any_of HT_.out (by kernel_rfl)) (fun _ _ _ h=>h) (Or.inl ⟨by rfl,?_⟩) ?_ ?_
          rotate_left
          ·intro w'
           go_simp
           with_reducible rfl
          rotate_left
          ·exact z68a
          refine pure_ (i:=10) (N:=some 59) (v:=?_) (a':=?_) #[true,true,true,true,true,true,true,true,true,true,true,false,false,false,false,false,false,false,false,false,false,false,false,false,false,false,false,false,false,false,false,false,false,false] rfl rfl (any_of HT_.out (by kernel_rfl)) (fun _ _ _ h=>h) (Or.inl ⟨by rfl,?_⟩) ?_ ?_
          rotate_left
          ·intro w'
           go_simp
           with_reducible rfl
          rotate_left
          ·exact z68a
          refine pure_ (i:=11) (N:=some 60) (v:=?_) (a':=?_) #[true,true,true,true,true,true,true,true,true,true,true,true,false,false,false,false,false,false,false,false,false,false,false,false,false,false,false,false,false,false,false,false,false,false] rfl rfl (any_of HT_.out (by kernel_rfl)) (fun _ _ _ h=>h) (Or.inl ⟨by rfl,?_⟩) ?_ ?_
          rotate_left
          ·intro w'
           go_simp
           with_reducible rfl
          rotate_left
          ·exact z68a
          refine pure_ (i:=12) (N:=some 61) (v:=?_) (a':=?_) #[true,true,true,true,true,true,true,true,true,true,true,true,true,false,false,false,false,false,false,false,false,false,false,false,false,false,false,false,false,false,false,false,false,false] rfl rfl (any_of HT_.out (by kernel_rfl)) (fun _ _ _ h=>h) (Or.inl ⟨by rfl,?_⟩) ?_ ?_
          rotate_left
          ·intro w'
           go_simp
           with_reducible rfl
          rotate_left
          ·exact z68a
          refine take_ (i:=13) (N:=some 62) (v:=?_) (a':=?_) #[true,true,true,true,true,true,true,true,true,true,true,true,true,true,false,false,false,false,false,false,false,false,false,false,false,false,false,false,false,false,false,false,false,false] rfl rfl (take_ofW HT_.out HW_.out (by kernel_rfl)) (fun _ _ _ h=>h) (Or.inl ⟨by rfl,?_⟩) hHeld ?_ ?_
          rotate_left
          ·rintro w' ⟨s0,s1,s2,s3,s4,s5,s6,s7,s8,s9,s10,s11,s12,s13,s14,s15,s16,s17,s18,s19,s20,s21,s22,s23,s24,s25,s26,s27⟩
           go_simp
           with_reducible rfl
          rotate_left
          ·exact z68a
          refine pure_ (i:=14) (N:=some 63) (v:=?_) (a':=?_) #[true,true,true,true,true,true,true,true,true,true,true,true,true,true,true,false,false,false,false,false,false,false,false,false,false,false,false,false,false,false,false,false,false,false] rfl rfl (any_of HT_.out (by kernel_rfl)) (fun _ _ _ h=>h) (Or.inl ⟨by rfl,?_⟩) ?_ ?_
          rotate_left
          ·intro w'
           go_simp
           with_reducible rfl
          rotate_left
          ·exact z68a
          refine pure_ (i:=15) (N:=some 64) (v:=?_) (a':=?_) #[true,true,true,true,true,true,true,true,true,true,true,true,true,true,true,true,false,false,false,false,false,false,false,false,false,false,false,false,false,false,false,false,false,false] rfl rfl (any_of HT_.out (by kernel_rfl)) (fun _ _ _ h=>h) (Or.inl ⟨by rfl,?_⟩) ?_ ?_
          rotate_left
          ·intro w'
           go_simp
           with_reducible rfl
          rotate_left
          ·exact z68a
          refine pure_ (i:=16) (N:=some 65) (v:=?_) (a':=?_) #[true,true,true,true,true,true,true,true,true,true,true,true,true,true,true,true,true,false,false,false,false,false,false,false,false,false,false,false,false,false,false,false,false,false] rfl rfl (any_of HT_.out (by kernel_rfl)) (fun _ _ _ h=>h) (Or.inl ⟨by rfl,?_⟩) ?_ ?_
          rotate_left
          ·intro w'
           go_simp
           with_reducible rfl
          rotate_left
          ·exact z68a
          refine pure_ (i:=17) (N:=some 66) (v:=?_) (a':=?_) #[true,true,true,true,true,true,true,true,true,true,true,true,true,true,true,true,true,true,false,false,false,false,false,false,false,false,false,false,false,false,false,false,false,false] rfl rfl (any_of HT_.out (by kernel_rfl)) (fun _ _ _ h=>h) (Or.inl ⟨by rfl,?_⟩) ?_ ?_
          rotate_left
          ·intro w'
           go_simp
           with_reducible rfl
          rotate_left
          ·exact z68a
          refine pure_ (i:=18) (N:=some 67) (v:=?_) (a':=?_) #[true,true,true,true,true,true,true,true,true,true,true,true,true,true,true,true,true,true,true,false,false,false,false,false,false,false,false,false,false,false,false,false,false,false] rfl rfl (any_of HT_.out (by kernel_rfl)) (fun _ _ _ h=>h) (Or.inl ⟨by rfl,?_⟩) ?_ ?_
          rotate_left
          ·intro w'
           go_simp
           with_reducible rfl
          rotate_left
          ·exact z68a
          refine pure_ (i:=19) (N:=some 68) (v:=?_) (a':=?_) #[true,true,true,true,true,true,true,true,true,true,true,true,true,true,true,true,true,true,true,true,false,false,false,false,false,false,false,false,false,false,false,false,false,false] rfl rfl (any_of HT_.out (by kernel_rfl)) (fun _ _ _ h=>h) (Or.inl ⟨by rfl,?_⟩) ?_ ?_
          rotate_left
          ·intro w'
           go_simp
           with_reducible rfl
          rotate_left
          ·exact z68a
          refine pure_ (i:=20) (N:=some 69) (v:=?_) (a':=?_) #[true,true,true,true,true,true,true,true,true,true,true,true,true,true,true,true,true,true,true,true,true,false,false,false,false,false,false,false,false,false,false,false,false,false] rfl rfl (any_of HT_.out (by kernel_rfl)) (fun _ _ _ h=>h) (Or.inl ⟨by rfl,?_⟩) ?_ ?_
          rotate_left
          ·intro w'
           go_simp
           with_reducible rfl
          rotate_left
          ·exact z68a
          refine take_ (i:=21) (N:=some 70) (v:=?_) (a':=?_) #[true,true,true,true,true,true,true,true,true,true,true,true,true,true,true,true,true,true,true,true,true,true,false,false,false,false,false,false,false,false,false,false,false,false] rfl rfl (take_ofW HT_.out HW_.out (by kernel_rfl)) (fun _ _ _ h=>h) (Or.inl ⟨by rfl,?_⟩) hHeld ?_ ?_
          rotate_left
          ·rintro w' ⟨s0,s1,s2,s3,s4,s5,s6,s7,s8,s9,s10,s11,s12,s13,s14,s15,s16,s17,s18,s19,s20,s21,s22,s23,s24,s25,s26,s27⟩
           go_simp
           with_reducible rfl
          rotate_left
          ·exact z68a
          refine take_ (i:=22) (N:=some 71) (v:=?_) (a':=?_) #[true,true,true,true,true,true,true,true,true,true,true,true,true,true,true,true,true,true,true,true,true,true,true,false,false,false,false,false,false,false,false,false,false,false] rfl rfl (take_ofW HT_.out HW_.out (by kernel_rfl)) (fun _ _ _ h=>h) (Or.inl ⟨by rfl,?_⟩) hHeld ?_ ?_
          rotate_left
          ·rintro w' ⟨s0,s1,s2,s3,s4,s5,s6,s7,s8,s9,s10,s11,s12,s13,s14,s15,s16,s17,s18,s19,s20,s21,s22,s23,s24,s25,s26,s27⟩
           go_simp
           with_reducible rfl
          rotate_left
          ·exact z68a
          refine pure_ (i:=23) (N:=some 72) (v:=?_) (a':=?_) #[true,true,true,true,true,true,true,true,true,true,true,true,true,true,true,true,true,true,true,true,true,true,true,true,false,false,false,false,false,false,false,false,false,false] rfl rfl (any_of HT_.out (by kernel_rfl)) (fun _ _ _ h=>h) (Or.inl ⟨by rfl,?_⟩) ?_ ?_
          rotate_left
          ·intro w'
           go_simp
           with_reducible rfl
          rotate_left
          ·exact z68a
          refine pure_ (i:=24) (N:=some 73) (v:=?_) (a':=?_) #[true,true,true,true,true,true,true,true,true,true,true,true,true,true,true,true,true,true,true,true,true,true,true,true,true,false,false,false,false,false,false,false,false,false] rfl rfl (any_of HT_.out (by kernel_rfl)) (fun _ _ _ h=>h) (Or.inl ⟨by rfl,?_⟩) ?_ ?_
          rotate_left
          ·intro w'
           go_simp
           with_reducible rfl
          rotate_left
          ·exact z68a
          refine pure_ (i:=25) (N:=some 74) (v:=undef) (a':=?_) #[true,true,true,true,true,true,true,true,true,true,true,true,true,true,true,true,true,true,true,true,true,true,true,true,true,true,false,false,false,false,false,false,false,false] rfl rfl (any_of HT_.out (by kernel_rfl)) (fun _ _ _ h=>h) (Or.inr ⟨by rfl,rfl⟩) ?_ ?_
          rotate_left
          ·exact z68a
          refine pure_ (i:=26) (N:=some 75) (v:=undef) (a':=?_) #[true,true,true,true,true,true,true,true,true,true,true,true,true,true,true,true,true,true,true,true,true,true,true,true,true,true,true,false,false,false,false,false,false,false] rfl rfl (any_of HT_.out (by kernel_rfl)) (fun _ _ _ h=>h) (Or.inr ⟨by rfl,rfl⟩) ?_ ?_
          rotate_left
          ·exact z68a
          refine pure_ (i:=27) (N:=some 76) (v:=undef) (a':=?_) #[true,true,true,true,true,true,true,true,true,true,true,true,true,true,true,true,true,true,true,true,true,true,true,true,true,true,true,true,false,false,false,false,false,false] rfl rfl (any_of HT_.out (by kernel_rfl)) (fun _ _ _ h=>h) (Or.inr ⟨by rfl,rfl⟩) ?_ ?_
          rotate_left
          ·exact z68a
          refine pure_ (i:=28) (N:=some 77) (v:=undef) (a':=?_) #[true,true,true,true,true,true,true,true,true,true,true,true,true,true,true,true,true,true,true,true,true,true,true,true,true,true,true,true,true,false,false,false,false,false] rfl rfl (any_of HT_.out (by kernel_rfl)) (fun _ _ _ h=>h) (Or.inr ⟨by rfl,rfl⟩) ?_ ?_
          rotate_left
          ·exact z68a
          refine pure_ (i:=29) (N:=some 78) (v:=undef) (a':=?_) #[true,true,true,true,true,true,true,true,true,true,true,true,true,true,true,true,true,true,true,true,true,true,true,true,true,true,true,true,true,true,false,false,false,false] rfl rfl (any_of HT_.out (by kernel_rfl)) (fun _ _ _ h=>h) (Or.inr ⟨by rfl,rfl⟩) ?_ ?_
          rotate_left
          ·exact z68a
          refine pure_ (i:=30) (N:=some 79) (v:=undef) (a':=?_) #[true,true,true,true,true,true,true,true,true,true,true,true,true,true,true,true,true,true,true,true,true,true,true,true,true,true,true,true,true,true,true,false,false,false] rfl rfl (any_of HT_.out (by kernel_rfl)) (fun _ _ _ h=>h) (Or.inr ⟨by rfl,rfl⟩) ?_ ?_
          rotate_left
          ·exact z68a
          refine pure_ (i:=31) (N:=some 80) (v:=undef) (a':=?_) #[true,true,true,true,true,true,true,true,true,true,true,true,true,true,true,true,true,true,true,true,true,true,true,true,true,true,true,true,true,true,true,true,false,false] rfl rfl (any_of HT_.out (by kernel_rfl)) (fun _ _ _ h=>h) (Or.inr ⟨by rfl,rfl⟩) ?_ ?_
          rotate_left
          ·exact z68a
          refine pure_ (i:=32) (N:=some 81) (v:=?_) (a':=?_) #[true,true,true,true,true,true,true,true,true,true,true,true,true,true,true,true,true,true,true,true,true,true,true,true,true,true,true,true,true,true,true,true,true,false] rfl rfl (any_of HT_.out (by kernel_rfl)) (fun _ _ _ h=>h) (Or.inl ⟨by rfl,?_⟩) ?_ ?_
          rotate_left
          ·intro w'
           go_simp
           with_reducible rfl
          rotate_left
          ·exact z68a
          refine pure_ (i:=33) (N:=some 82) (v:=?_) (a':=?_) #[true,true,true,true,true,true,true,true,true,true,true,true,true,true,true,true,true,true,true,true,true,true,true,true,true,true,true,true,true,true,true,true,true,true] rfl rfl (any_of HT_.out (by kernel_rfl)) (fun _ _ _ h=>h) (Or.inl ⟨by rfl,?_⟩) ?_ ?_
          rotate_left
          ·intro w'
           go_simp
           with_reducible rfl
          rotate_left
          ·exact z68a
          refine done_ (done_of HT_.out (by kernel_rfl)) ?_
          try go_wp2
          go_roundg k2
          case measure=>have:=HJ5.out;have:=HK2.out;omega
          case rel=>exact ⟨(wrap64 (qa + 1)),y68x4,H',⟨by have:=HJ5.out;have:=HK2.out;omega⟩,⟨by (with_reducible repeat (first|apply Kd.R_alloc|apply Kd.R_drewN|apply Kd.R_drew));exact HO_3.out⟩,⟨by (with_reducible repeat (first|apply Kd.V_alloc|apply Kd.V_drewN|apply Kd.V_drew));exact HO_8.out⟩,⟨by (with_reducible repeat (first|refine blk_drewN ?_ _|refine blk_drew ?_|refine blk_alloc ?_ _));exact qc.out⟩,⟨by repeat (first|(with_reducible first|exact HB.out|apply below_alloc|apply pw_below_drewN|apply below_drew1|refine below_set ?_ wq.out)|exact HB.out)⟩⟩
         rw [if_pos c27] at H
         have gg : (!(((rd_T57 qd qa).f0) == qh) || (!(((rd_T57 qd qa).f1) == qi) || (!(((rd_T57 qd qa).f2) == qj) || (!(((rd_T57 qd qa).f3) == qg) || (!(((rd_T57 qd qa).f4) == ql) || (!(((rd_T57 qd qa).f5) == qm) || (!(((rd_T57 qd qa).f6) == qn)))))))) = true:=c27
         clear c27
         replace H:=Option.bind_eq_some_iff.mp H
         obtain ⟨jv,gl,H⟩:=H
         replace H : (if jv = true then (laws_FnCacheFresh.l0 k2 qx qw qd wv (wrap64 (qa + 1)) qh qi qj qg ql qm qn) else (some false)) = some r:=H
         have A28:=Aside0.mk gl
         clear gl
         by_cases c29 : jv = true
         rotate_left
         ·replace c29:=Bool.eq_false_iff.mpr c29
          subst c29
          rw [if_neg (show ¬ (false = true) by decide)] at H
          obtain rfl:=Option.some.inj H
          obtain ⟨qbo,qbd,qam⟩:=Kd.V_slice HO_8.out
          subst qam
          try go_wp2
          have n0_:=Aside0.mk (Kd.R_drew HO_3.out)
          have n1_:=Aside0.mk (Kd.V_drew HO_8.out)
          have n2_:=Aside0.mk (blk_drew qc.out)
          have n3_:=Aside0.mk (below_drew1 HB.out)
          clear HO_3
          clear HO_8
          clear qc
          clear HB
          have HO_3:=n0_
          have HO_8:=n1_
          have qc:=n2_
          have HB:=n3_
          clear n0_ n1_ n2_ n3_
          have wu : 0 ≤ (qa : Int):=of_decide_eq_true y68x3
          have wt : qa < (qd.length : Int):=of_decide_eq_true y68x3
          obtain ⟨qb,uf,qv,qu,qt,qr,qq,qp,qo⟩:=at_T57 (Kd.V_reads' HO_8.out).2.2 qa wu wt
          cases uf
          replace wu:=eq_true wu
          replace wt:=eq_true wt
          have wx : 0 ≤ (qa : Int):=of_decide_eq_true y68x3
          have ww : qa < (qd.length : Int):=of_decide_eq_true y68x3
          obtain ⟨uc,ul,wg,we,wd,wb,wa,qz,qy⟩:=at_T57 (Kd.V_reads' HO_8.out).2.2 qa wx ww
          obtain rfl : qb = uc:=(by injection ul)
          replace wx:=eq_true wx
          replace ww:=eq_true ww
          have ua : 0 ≤ (qa : Int):=of_decide_eq_true y68x3
          have vz : qa < (qd.length : Int):=of_decide_eq_true y68x3
          obtain ⟨uh,jq,wn,wm,wl,wk,wj,wi,wh⟩:=at_T57 (Kd.V_reads' HO_8.out).2.2 qa ua vz
          obtain rfl : qb = uh:=(by injection jq)
          replace ua:=eq_true ua
          replace vz:=eq_true vz
          have uk : 0 ≤ (qa : Int):=of_decide_eq_true y68x3
          have uj : qa < (qd.length : Int):=of_decide_eq_true y68x3
          obtain ⟨ju,jy,vv,vu,vt,vr,vq,vp,vo⟩:=at_T57 (Kd.V_reads' HO_8.out).2.2 qa uk uj
          obtain rfl : qb = ju:=(by injection jy)
          replace uk:=eq_true uk
          replace uj:=eq_true uj
          refine start_ (n:=34) (S:=fun w' => w'.cell? ⟨qe,0,none⟩ = some (.int .i64 qh) ∧ w'.cell? ⟨qe,1,none⟩ = some (.int .i64 qi) ∧ w'.cell? ⟨qe,2,none⟩ = some (.int .i64 qj) ∧ w'.cell? ⟨qe,3,none⟩ = some (.int .i64 qg) ∧ w'.cell? ⟨qe,4,none⟩ = some (.int .i64 ql) ∧ w'.cell? ⟨qe,5,none⟩ = some (.int .i64 qm) ∧ w'.cell? ⟨qe,6,none⟩ = some (.int .i64 qn) ∧ w'.cell? (qb.add ((qa).toNat * 7)) = some (.int .i64 ((rd_T57 qd qa).f0)) ∧ w'.cell? ⟨(qb.add ((qa).toNat * 7)).block,(qb.add ((qa).toNat * 7)).off + 1,none⟩ = some (.int .i64 ((rd_T57 qd qa).f1)) ∧ w'.cell? ⟨(qb.add ((qa).toNat * 7)).block,(qb.add ((qa).toNat * 7)).off + 2,none⟩ = some (.int .i64 ((rd_T57 qd qa).f2)) ∧ w'.cell? ⟨(qb.add ((qa).toNat * 7)).block,(qb.add ((qa).toNat * 7)).off + 3,none⟩ = some (.int .i64 ((rd_T57 qd qa).f3)) ∧ w'.cell? ⟨(qb.add ((qa).toNat * 7)).block,(qb.add ((qa).toNat * 7)).off + 4,none⟩ = some (.int .i64 ((rd_T57 qd qa).f4)) ∧ w'.cell? ⟨(qb.add ((qa).toNat * 7)).block,(qb.add ((qa).toNat * 7)).off + 5,none⟩ = some (.int .i64 ((rd_T57 qd qa).f5)) ∧ w'.cell? ⟨(qb.add ((qa).toNat * 7)).block,(qb.add ((qa).toNat * 7)).off + 6,none⟩ = some (.int .i64 ((rd_T57 qd qa).f6)) ∧ w'.cell? (qb.add ((qa).toNat * 7)) = some (.int .i64 ((rd_T57 qd qa).f0)) ∧ w'.cell? ⟨(qb.add ((qa).toNat * 7)).block,(qb.add ((qa).toNat * 7)).off + 1,none⟩ = some (.int .i64 ((rd_T57 qd qa).f1)) ∧ w'.cell? ⟨(qb.add ((qa).toNat * 7)).block,(qb.add ((qa).toNat * 7)).off + 2,none⟩ = some (.int .i64 ((rd_T57 qd qa).f2)) ∧ w'.cell? ⟨(qb.add ((qa).toNat * 7)).block,(qb.add ((qa).toNat * 7)).off + 3,none⟩ = some (.int .i64 ((rd_T57 qd qa).f3)) ∧ w'.cell? ⟨(qb.add ((qa).toNat * 7)).block,(qb.add ((qa).toNat * 7)).off + 4,none⟩ = some (.int .i64 ((rd_T57 qd qa).f4)) ∧ w'.cell? ⟨(qb.add ((qa).toNat * 7)).block,(qb.add ((qa).toNat * 7)).off + 5,none⟩ = some (.int .i64 ((rd_T57 qd qa).f5)) ∧ w'.cell? ⟨(qb.add ((qa).toNat * 7)).block,(qb.add ((qa).toNat * 7)).off + 6,none⟩ = some (.int .i64 ((rd_T57 qd qa).f6)) ∧ w'.cell? (qb.add ((qa).toNat * 7)) = some (.int .i64 ((rd_T57 qd qa).f0)) ∧ w'.cell? ⟨(qb.add ((qa).toNat * 7)).block,(qb.add ((qa).toNat * 7)).off + 1,none⟩ = some (.int .i64 ((rd_T57 qd qa).f1)) ∧ w'.cell? ⟨(qb.add ((qa).toNat * 7)).block,(qb.add ((qa).toNat * 7)).off + 2,none⟩ = some (.int .i64 ((rd_T57 qd qa).f2)) ∧ w'.cell? ⟨(qb.add ((qa).toNat * 7)).block,(qb.add ((qa).toNat * 7)).off + 3,none⟩ = some (.int .i64 ((rd_T57 qd qa).f3)) ∧ w'.cell? ⟨(qb.add ((qa).toNat * 7)).block,(qb.add ((qa).toNat * 7)).off + 4,none⟩ = some (.int .i64 ((rd_T57 qd qa).f4)) ∧ w'.cell? ⟨(qb.add ((qa).toNat * 7)).block,(qb.add ((qa).toNat * 7)).off + 5,none⟩ = some (.int .i64 ((rd_T57 qd qa).f5)) ∧ w'.cell? ⟨(qb.add ((qa).toNat * 7)).block,(qb.add ((qa).toNat * 7)).off + 6,none⟩ = some (.int .i64 ((rd_T57 qd qa).f6)) ∧ w'.cell? (qb.add ((qa).toNat * 7)) = some (.int .i64 ((rd_T57 qd qa).f0)) ∧ w'.cell? ⟨(qb.add ((qa).toNat * 7)).block,(qb.add ((qa).toNat * 7)).off + 1,none⟩ = some (.int .i64 ((rd_T57 qd qa).f1)) ∧ w'.cell? ⟨(qb.add ((qa).toNat * 7)).block,(qb.add ((qa).toNat * 7)).off + 2,none⟩ = some (.int .i64 ((rd_T57 qd qa).f2)) ∧ w'.cell? ⟨(qb.add ((qa).toNat * 7)).block,(qb.add ((qa).toNat * 7)).off + 3,none⟩ = some (.int .i64 ((rd_T57 qd qa).f3)) ∧ w'.cell? ⟨(qb.add ((qa).toNat * 7)).block,(qb.add ((qa).toNat * 7)).off + 4,none⟩ = some (.int .i64 ((rd_T57 qd qa).f4)) ∧ w'.cell? ⟨(qb.add ((qa).toNat * 7)).block,(qb.add ((qa).toNat * 7)).off + 5,none⟩ = some (.int .i64 ((rd_T57 qd qa).f5)) ∧ w'.cell? ⟨(qb.add ((qa).toNat * 7)).block,(qb.add ((qa).toNat * 7)).off + 6,none⟩ = some (.int .i64 ((rd_T57 qd qa).f6))) (ds:=[]) #[false,false,false,false,false,false,false,false,false,false,false,false,false,false,false,false,false,false,false,false,false,false,false,false,false,false,false,false,false,false,false,false,false,false] (by kernel_rfl) rfl rfl ⟨(blk_cell qc.out 0).trans rfl,(blk_cell qc.out 1).trans rfl,(blk_cell qc.out 2).trans rfl,(blk_cell qc.out 3).trans rfl,(blk_cell qc.out 4).trans rfl,(blk_cell qc.out 5).trans rfl,(blk_cell qc.out 6).trans rfl,qv,qu,qt,qr,qq,qp,qo,wg,we,wd,wb,wa,qz,qy,wn,wm,wl,wk,wj,wi,wh,vv,vu,vt,vr,vq,vp,vo⟩ (fun hHeld=>?_);refine with_tabW laws_FnCacheFresh.tab11 laws_FnCacheFresh.bits11 (fun HT_ HW_=>?_)
          generalize wr.drew = w34 at HO_3 HO_8 qc HB qv qu qt qr qq qp qo wg we wd wb wa qz qy wn wm wl wk wj wi wh vv vu vt vr vq vp vo hHeld ⊢
          refine pure_ (i:=0) (N:=some 49) (v:=?_) (a':=?_) #[true,false,false,false,false,false,false,false,false,false,false,false,false,false,false,false,false,false,false,false,false,false,false,false,false,false,false,false,false,false,false,false,false,false] rfl rfl (any_of HT_.out (by kernel_rfl)) (fun _ _ _ h=>h) (Or.inl ⟨by rfl,?_⟩) ?_ ?_
          rotate_left
          ·intro w'
           go_simp
           with_reducible rfl
          rotate_left
          ·exact z68a
          refine pure_ (i:=1) (N:=some 50) (v:=?_) (a':=?_) #[true,true,false,false,false,false,false,false,false,false,false,false,false,false,false,false,false,false,false,false,false,false,false,false,false,false,false,false,false,false,false,false,false,false] rfl rfl (any_of HT_.out (by kernel_rfl)) (fun _ _ _ h=>h) (Or.inl ⟨by rfl,?_⟩) ?_ ?_
          rotate_left
          ·intro w'
           go_simp
           with_reducible rfl
          rotate_left
          ·exact z68a
          refine pure_ (i:=2) (N:=some 51) (v:=?_) (a':=?_) #[true,true,true,false,false,false,false,false,false,false,false,false,false,false,false,false,false,false,false,false,false,false,false,false,false,false,false,false,false,false,false,false,false,false] rfl rfl (any_of HT_.out (by kernel_rfl)) (fun _ _ _ h=>h) (Or.inl ⟨by rfl,?_⟩) ?_ ?_
          rotate_left
          ·intro w'
           go_simp
           with_reducible rfl
          rotate_left
          ·exact z68a
          refine pure_ (i:=3) (N:=some 52) (v:=?_) (a':=?_) #[true,true,true,true,false,false,false,false,false,false,false,false,false,false,false,false,false,false,false,false,false,false,false,false,false,false,false,false,false,false,false,false,false,false] rfl rfl (any_of HT_.out (by kernel_rfl)) (fun _ _ _ h=>h) (Or.inl ⟨by rfl,?_⟩) ?_ ?_
          rotate_left
          ·intro w'
           go_simp
           with_reducible rfl
          rotate_left
          ·exact z68a
          refine pure_ (i:=5) (N:=some 54) (v:=?_) (a':=?_) #[true,true,true,true,false,true,false,false,false,false,false,false,false,false,false,false,false,false,false,false,false,false,false,false,false,false,false,false,false,false,false,false,false,false] rfl rfl (any_of HT_.out (by kernel_rfl)) (fun _ _ _ h=>h) (Or.inl ⟨by rfl,?_⟩) ?_ ?_
          rotate_left
          ·intro w'
           go_simp
           with_reducible rfl
          rotate_left
          ·exact z68a
          refine take_ (i:=4) (N:=some 53) (v:=?_) (a':=?_) #[true,true,true,true,true,true,false,false,false,false,false,false,false,false,false,false,false,false,false,false,false,false,false,false,false,false,false,false,false,false,false,false,false,false] rfl rfl (take_ofW HT_.out HW_.out (by kernel_rfl)) (fun _ _ _ h=>h) (Or.inl ⟨by rfl,?_⟩) hHeld ?_ ?_
          rotate_left
          ·rintro w' ⟨s0,s1,s2,s3,s4,s5,s6,s7,s8,s9,s10,s11,s12,s13,s14,s15,s16,s17,s18,s19,s20,s21,s22,s23,s24,s25,s26,s27,s28,s29,s30,s31,s32,s33,s34⟩
           go_simp
           with_reducible rfl
          rotate_left
          ·exact z68a
          refine pure_ (i:=6) (N:=some 55) (v:=?_) (a':=?_) #[true,true,true,true,true,true,true,false,false,false,false,false,false,false,false,false,false,false,false,false,false,false,false,false,false,false,false,false,false,false,false,false,false,false] rfl rfl (any_of HT_.out (by kernel_rfl)) (fun _ _ _ h=>h) (Or.inl ⟨by rfl,?_⟩) ?_ ?_
          rotate_left
          ·intro w'
           go_simp
           with_reducible rfl
          rotate_left
          ·exact z68a
          refine pure_ (i:=7) (N:=some 56) (v:=?_) (a':=?_) #[true,true,true,true,true,true,true,true,false,false,false,false,false,false,false,false,false,false,false,false,false,false,false,false,false,false,false,false,false,false,false,false,false,false] rfl rfl (any_of HT_.out (by kernel_rfl)) (fun _ _ _ h=>h) (Or.inl ⟨by rfl,?_⟩) ?_ ?_
          rotate_left
          ·intro w'
           go_simp
           with_reducible rfl
          rotate_left
          ·exact z68a
          refine pure_ (i:=8) (N:=some 57) (v:=?_) (a':=?_) #[true,true,true,true,true,true,true,true,true,false,false,false,false,false,false,false,false,false,false,false,false,false,false,false,false,false,false,false,false,false,false,false,false,false] rfl rfl (any_of HT_.out (by kernel_rfl)) (fun _ _ _ h=>h) (Or.inl ⟨by rfl,?_⟩) ?_ ?_
          rotate_left
          ·intro w'
           go_simp
           with_reducible rfl
          rotate_left
          ·exact z68a
          refine pure_ (i:=9) (N:=some 58) (v:=?_) (a':=?_) #[true,true,true,true,true,true,true,true,true,true,false,false,false,false,false,false,false,false,false,false,false,false,false,false,false,false,false,false,false,false,false,false,false,false] rfl rfl (any_of HT_.out (by kernel_rfl)) (fun _ _ _ h=>h) (Or.inl ⟨by rfl,?_⟩) ?_ ?_
          rotate_left
          ·intro w'
           go_simp
           with_reducible rfl
          rotate_left
          ·exact z68a
          refine pure_ (i:=10) (N:=some 59) (v:=?_) (a':=?_) #[true,true,true,true,true,true,true,true,true,true,true,false,false,false,false,false,false,false,false,false,false,false,false,false,false,false,false,false,false,false,false,false,false,false] rfl rfl (any_of HT_.out (by kernel_rfl)) (fun _ _ _ h=>h) (Or.inl ⟨by rfl,?_⟩) ?_ ?_
          rotate_left
          ·intro w'
           go_simp
           with_reducible rfl
          rotate_left
          ·exact z68a
          refine pure_ (i:=11) (N:=some 60) (v:=?_) (a':=?_) #[true,true,true,true,true,true,true,true,true,true,true,true,false,false,false,false,false,false,false,false,false,false,false,false,false,false,false,false,false,false,false,false,false,false] rfl rfl (any_of HT_.out (by kernel_rfl)) (fun _ _ _ h=>h) (Or.inl ⟨by rfl,?_⟩) ?_ ?_
          rotate_left
          ·intro w'
           go_simp
           with_reducible rfl
          rotate_left
          ·exact z68a
          refine pure_ (i:=12) (N:=some 61) (v:=?_) (a':=?_) #[true,true,true,true,true,true,true,true,true,true,true,true,true,false,false,false,false,false,false,false,false,false,false,false,false,false,false,false,false,false,false,false,false,false] rfl rfl (any_of HT_.out (by kernel_rfl)) (fun _ _ _ h=>h) (Or.inl ⟨by rfl,?_⟩) ?_ ?_
          rotate_left
          ·intro w'
           go_simp
           with_reducible rfl
          rotate_left
          ·exact z68a
          refine take_ (i:=13) (N:=some 62) (v:=?_) (a':=?_) #[true,true,true,true,true,true,true,true,true,true,true,true,true,true,false,false,false,false,false,false,false,false,false,false,false,false,false,false,false,false,false,false,false,false] rfl rfl (take_ofW HT_.out HW_.out (by kernel_rfl)) (fun _ _ _ h=>h) (Or.inl ⟨by rfl,?_⟩) hHeld ?_ ?_
          rotate_left
          ·rintro w' ⟨s0,s1,s2,s3,s4,s5,s6,s7,s8,s9,s10,s11,s12,s13,s14,s15,s16,s17,s18,s19,s20,s21,s22,s23,s24,s25,s26,s27,s28,s29,s30,s31,s32,s33,s34⟩
           go_simp
           with_reducible rfl
          rotate_left
          ·exact z68a
          refine pure_ (i:=14) (N:=some 63) (v:=?_) (a':=?_) #[true,true,true,true,true,true,true,true,true,true,true,true,true,true,true,false,false,false,false,false,false,false,false,false,false,false,false,false,false,false,false,false,false,false] rfl rfl (any_of HT_.out (by kernel_rfl)) (fun _ _ _ h=>h) (Or.inl ⟨by rfl,?_⟩) ?_ ?_
          rotate_left
          ·intro w'
           go_simp
           with_reducible rfl
          rotate_left
          ·exact z68a
          refine pure_ (i:=15) (N:=some 64) (v:=?_) (a':=?_) #[true,true,true,true,true,true,true,true,true,true,true,true,true,true,true,true,false,false,false,false,false,false,false,false,false,false,false,false,false,false,false,false,false,false] rfl rfl (any_of HT_.out (by kernel_rfl)) (fun _ _ _ h=>h) (Or.inl ⟨by rfl,?_⟩) ?_ ?_
          rotate_left
          ·intro w'
           go_simp
           with_reducible rfl
          rotate_left
          ·exact z68a
          refine pure_ (i:=16) (N:=some 65) (v:=?_) (a':=?_) #[true,true,true,true,true,true,true,true,true,true,true,true,true,true,true,true,true,false,false,false,false,false,false,false,false,false,false,false,false,false,false,false,false,false] rfl rfl (any_of HT_.out (by kernel_rfl)) (fun _ _ _ h=>h) (Or.inl ⟨by rfl,?_⟩) ?_ ?_
          rotate_left
          ·intro w'
           go_simp
           with_reducible rfl
          rotate_left
          ·exact z68a
          refine pure_ (i:=17) (N:=some 66) (v:=?_) (a':=?_) #[true,true,true,true,true,true,true,true,true,true,true,true,true,true,true,true,true,true,false,false,false,false,false,false,false,false,false,false,false,false,false,false,false,false] rfl rfl (any_of HT_.out (by kernel_rfl)) (fun _ _ _ h=>h) (Or.inl ⟨by rfl,?_⟩) ?_ ?_
          rotate_left
          ·intro w'
           go_simp
           with_reducible rfl
          rotate_left
          ·exact z68a
          refine pure_ (i:=18) (N:=some 67) (v:=?_) (a':=?_) #[true,true,true,true,true,true,true,true,true,true,true,true,true,true,true,true,true,true,true,false,false,false,false,false,false,false,false,false,false,false,false,false,false,false] rfl rfl (any_of HT_.out (by kernel_rfl)) (fun _ _ _ h=>h) (Or.inl ⟨by rfl,?_⟩) ?_ ?_
          rotate_left
          ·intro w'
           go_simp
           with_reducible rfl
          rotate_left
          ·exact z68a
          refine pure_ (i:=19) (N:=some 68) (v:=?_) (a':=?_) #[true,true,true,true,true,true,true,true,true,true,true,true,true,true,true,true,true,true,true,true,false,false,false,false,false,false,false,false,false,false,false,false,false,false] rfl rfl (any_of HT_.out (by kernel_rfl)) (fun _ _ _ h=>h) (Or.inl ⟨by rfl,?_⟩) ?_ ?_
          rotate_left
          ·intro w'
           go_simp
           with_reducible rfl
          rotate_left
          ·exact z68a
          refine pure_ (i:=20) (N:=some 69) (v:=?_) (a':=?_) #[true,true,true,true,true,true,true,true,true,true,true,true,true,true,true,true,true,true,true,true,true,false,false,false,false,false,false,false,false,false,false,false,false,false] rfl rfl (any_of HT_.out (by kernel_rfl)) (fun _ _ _ h=>h) (Or.inl ⟨by rfl,?_⟩) ?_ ?_
          rotate_left
          ·intro w'
           go_simp
           with_reducible rfl
          rotate_left
          ·exact z68a
          refine take_ (i:=21) (N:=some 70) (v:=?_) (a':=?_) #[true,true,true,true,true,true,true,true,true,true,true,true,true,true,true,true,true,true,true,true,true,true,false,false,false,false,false,false,false,false,false,false,false,false] rfl rfl (take_ofW HT_.out HW_.out (by kernel_rfl)) (fun _ _ _ h=>h) (Or.inl ⟨by rfl,?_⟩) hHeld ?_ ?_
          rotate_left
          ·rintro w' ⟨s0,s1,s2,s3,s4,s5,s6,s7,s8,s9,s10,s11,s12,s13,s14,s15,s16,s17,s18,s19,s20,s21,s22,s23,s24,s25,s26,s27,s28,s29,s30,s31,s32,s33,s34⟩
           go_simp
           with_reducible rfl
          rotate_left
          ·exact z68a
          refine take_ (i:=22) (N:=some 71) (v:=?_) (a':=?_) #[true,true,true,true,true,true,true,true,true,true,true,true,true,true,true,true,true,true,true,true,true,true,true,false,false,false,false,false,false,false,false,false,false,false] rfl rfl (take_ofW HT_.out HW_.out (by kernel_rfl)) (fun _ _ _ h=>h) (Or.inl ⟨by rfl,?_⟩) hHeld ?_ ?_
          rotate_left
          ·rintro w' ⟨s0,s1,s2,s3,s4,s5,s6,s7,s8,s9,s10,s11,s12,s13,s14,s15,s16,s17,s18,s19,s20,s21,s22,s23,s24,s25,s26,s27,s28,s29,s30,s31,s32,s33,s34⟩
           go_simp
           with_reducible rfl
          rotate_left
          ·exact z68a
          refine pure_ (i:=23) (N:=some 72) (v:=?_) (a':=?_) #[true,true,true,true,true,true,true,true,true,true,true,true,true,true,true,true,true,true,true,true,true,true,true,true,false,false,false,false,false,false,false,false,false,false] rfl rfl (any_of HT_.out (by kernel_rfl)) (fun _ _ _ h=>h) (Or.inl ⟨by rfl,?_⟩) ?_ ?_
          rotate_left
          ·intro w'
           go_simp
           with_reducible rfl
          rotate_left
          ·exact z68a
          refine pure_ (i:=24) (N:=some 73) (v:=?_) (a':=?_) #[true,true,true,true,true,true,true,true,true,true,true,true,true,true,true,true,true,true,true,true,true,true,true,true,true,false,false,false,false,false,false,false,false,false] rfl rfl (any_of HT_.out (by kernel_rfl)) (fun _ _ _ h=>h) (Or.inl ⟨by rfl,?_⟩) ?_ ?_
          rotate_left
          ·intro w'
           go_simp
           with_reducible rfl
          rotate_left
          ·exact z68a
          refine pure_ (i:=25) (N:=some 74) (v:=?_) (a':=?_) #[true,true,true,true,true,true,true,true,true,true,true,true,true,true,true,true,true,true,true,true,true,true,true,true,true,true,false,false,false,false,false,false,false,false] rfl rfl (any_of HT_.out (by kernel_rfl)) (fun _ _ _ h=>h) (Or.inl ⟨by rfl,?_⟩) ?_ ?_
          rotate_left
          ·intro w'
           go_simp
           with_reducible rfl
          rotate_left
          ·exact z68a
          refine pure_ (i:=26) (N:=some 75) (v:=?_) (a':=?_) #[true,true,true,true,true,true,true,true,true,true,true,true,true,true,true,true,true,true,true,true,true,true,true,true,true,true,true,false,false,false,false,false,false,false] rfl rfl (any_of HT_.out (by kernel_rfl)) (fun _ _ _ h=>h) (Or.inl ⟨by rfl,?_⟩) ?_ ?_
          rotate_left
          ·intro w'
           go_simp
           with_reducible rfl
          rotate_left
          ·exact z68a
          refine pure_ (i:=27) (N:=some 76) (v:=?_) (a':=?_) #[true,true,true,true,true,true,true,true,true,true,true,true,true,true,true,true,true,true,true,true,true,true,true,true,true,true,true,true,false,false,false,false,false,false] rfl rfl (any_of HT_.out (by kernel_rfl)) (fun _ _ _ h=>h) (Or.inl ⟨by rfl,?_⟩) ?_ ?_
          rotate_left
          ·intro w'
           go_simp
           with_reducible rfl
          rotate_left
          ·exact z68a
          refine pure_ (i:=28) (N:=some 77) (v:=?_) (a':=?_) #[true,true,true,true,true,true,true,true,true,true,true,true,true,true,true,true,true,true,true,true,true,true,true,true,true,true,true,true,true,false,false,false,false,false] rfl rfl (any_of HT_.out (by kernel_rfl)) (fun _ _ _ h=>h) (Or.inl ⟨by rfl,?_⟩) ?_ ?_
          rotate_left
          ·intro w'
           go_simp
           with_reducible rfl
          rotate_left
          ·exact z68a
          refine take_ (i:=29) (N:=some 78) (v:=?_) (a':=?_) #[true,true,true,true,true,true,true,true,true,true,true,true,true,true,true,true,true,true,true,true,true,true,true,true,true,true,true,true,true,true,false,false,false,false] rfl rfl (take_ofW HT_.out HW_.out (by kernel_rfl)) (fun _ _ _ h=>h) (Or.inl ⟨by rfl,?_⟩) hHeld ?_ ?_
          rotate_left
          ·rintro w' ⟨s0,s1,s2,s3,s4,s5,s6,s7,s8,s9,s10,s11,s12,s13,s14,s15,s16,s17,s18,s19,s20,s21,s22,s23,s24,s25,s26,s27,s28,s29,s30,s31,s32,s33,s34⟩
           go_simp
           with_reducible rfl
          rotate_left
          ·exact z68a
          refine one_ (i:=30) (N:=some 79) #[true,true,true,true,true,true,true,true,true,true,true,true,true,true,true,true,true,true,true,true,true,true,true,true,true,true,true,true,true,true,true,false,false,false] rfl rfl (one_of HT_.out (by kernel_rfl)) (by decide) (fun K hK=>?_)
          refine goes_ Try.func44 (by kernel_rfl) rfl #[.slice ug qx.length ud,.agg #[.int .i64 ((rd_T57 qd qa).f0),.int .i64 ((rd_T57 qd qa).f1),.int .i64 ((rd_T57 qd qa).f2),.int .i64 ((rd_T57 qd qa).f3),.int .i64 ((rd_T57 qd qa).f4),.int .i64 ((rd_T57 qd qa).f5),.int .i64 ((rd_T57 qd qa).f6)]] (by rfl) rfl rfl z68x3 ?_
          with_reducible refine (laws_lbAmong.calls k2 _ _ qx ((rd_T57 qd qa).f0) ((rd_T57 qd qa).f1) ((rd_T57 qd qa).f2) ((rd_T57 qd qa).f3) ((rd_T57 qd qa).f4) ((rd_T57 qd qa).f5) ((rd_T57 qd qa).f6) false _ ?side1 ?side2 A28.out).mono ?_
          (case side1=>repeat (first|exact (Kd.R_reads' HO_3.out).2.2|(with_reducible refine Kd.C_alloc ?_ _)|(with_reducible refine Kd.C_drewN ?_ _)|(with_reducible refine Kd.C_drew ?_)))
          (case side2=>exact (Kd.R_reads' HO_3.out).2.1)
          rintro e w35 ⟨rfl,hb⟩
          have HS7_:=(hb.cell (World.block_lt_of_cell? _ _ (hHeld.2.2.2.2.2.2.2.1))).trans (hHeld.2.2.2.2.2.2.2.1)
          have HS8_:=(hb.cell (World.block_lt_of_cell? _ _ (hHeld.2.2.2.2.2.2.2.2.1))).trans (hHeld.2.2.2.2.2.2.2.2.1)
          have HS9_:=(hb.cell (World.block_lt_of_cell? _ _ (hHeld.2.2.2.2.2.2.2.2.2.1))).trans (hHeld.2.2.2.2.2.2.2.2.2.1)
          have HS10_:=(hb.cell (World.block_lt_of_cell? _ _ (hHeld.2.2.2.2.2.2.2.2.2.2.1))).trans (hHeld.2.2.2.2.2.2.2.2.2.2.1)
          have HS11_:=(hb.cell (World.block_lt_of_cell? _ _ (hHeld.2.2.2.2.2.2.2.2.2.2.2.1))).trans (hHeld.2.2.2.2.2.2.2.2.2.2.2.1)
          have HS12_:=(hb.cell (World.block_lt_of_cell? _ _ (hHeld.2.2.2.2.2.2.2.2.2.2.2.2.1))).trans (hHeld.2.2.2.2.2.2.2.2.2.2.2.2.1)
          have HS13_:=(hb.cell (World.block_lt_of_cell? _ _ (hHeld.2.2.2.2.2.2.2.2.2.2.2.2.2.1))).trans (hHeld.2.2.2.2.2.2.2.2.2.2.2.2.2.1)
          have HS14_:=(hb.cell (World.block_lt_of_cell? _ _ (hHeld.2.2.2.2.2.2.2.2.2.2.2.2.2.2.1))).trans (hHeld.2.2.2.2.2.2.2.2.2.2.2.2.2.2.1)
          have HS15_:=(hb.cell (World.block_lt_of_cell? _ _ (hHeld.2.2.2.2.2.2.2.2.2.2.2.2.2.2.2.1))).trans (hHeld.2.2.2.2.2.2.2.2.2.2.2.2.2.2.2.1)
          have HS16_:=(hb.cell (World.block_lt_of_cell? _ _ (hHeld.2.2.2.2.2.2.2.2.2.2.2.2.2.2.2.2.1))).trans (hHeld.2.2.2.2.2.2.2.2.2.2.2.2.2.2.2.2.1)
          have HS17_:=(hb.cell (World.block_lt_of_cell? _ _ (hHeld.2.2.2.2.2.2.2.2.2.2.2.2.2.2.2.2.2.1))).trans (hHeld.2.2.2.2.2.2.2.2.2.2.2.2.2.2.2.2.2.1)
          have HS18_:=(hb.cell (World.block_lt_of_cell? _ _ (hHeld.2.2.2.2.2.2.2.2.2.2.2.2.2.2.2.2.2.2.1))).trans (hHeld.2.2.2.2.2.2.2.2.2.2.2.2.2.2.2.2.2.2.1)
          have HS19_:=(hb.cell (World.block_lt_of_cell? _ _ (hHeld.2.2.2.2.2.2.2.2.2.2.2.2.2.2.2.2.2.2.2.1))).trans (hHeld.2.2.2.2.2.2.2.2.2.2.2.2.2.2.2.2.2.2.2.1)
          have HS20_:=(hb.cell (World.block_lt_of_cell? _ _ (hHeld.2.2.2.2.2.2.2.2.2.2.2.2.2.2.2.2.2.2.2.2.1))).trans (hHeld.2.2.2.2.2.2.2.2.2.2.2.2.2.2.2.2.2.2.2.2.1)
          have HS21_:=(hb.cell (World.block_lt_of_cell? _ _ (hHeld.2.2.2.2.2.2.2.2.2.2.2.2.2.2.2.2.2.2.2.2.2.1))).trans (hHeld.2.2.2.2.2.2.2.2.2.2.2.2.2.2.2.2.2.2.2.2.2.1)
          have HS22_:=(hb.cell (World.block_lt_of_cell? _ _ (hHeld.2.2.2.2.2.2.2.2.2.2.2.2.2.2.2.2.2.2.2.2.2.2.1))).trans (hHeld.2.2.2.2.2.2.2.2.2.2.2.2.2.2.2.2.2.2.2.2.2.2.1)
          have HS23_:=(hb.cell (World.block_lt_of_cell? _ _ (hHeld.2.2.2.2.2.2.2.2.2.2.2.2.2.2.2.2.2.2.2.2.2.2.2.1))).trans (hHeld.2.2.2.2.2.2.2.2.2.2.2.2.2.2.2.2.2.2.2.2.2.2.2.1)
          have HS24_:=(hb.cell (World.block_lt_of_cell? _ _ (hHeld.2.2.2.2.2.2.2.2.2.2.2.2.2.2.2.2.2.2.2.2.2.2.2.2.1))).trans (hHeld.2.2.2.2.2.2.2.2.2.2.2.2.2.2.2.2.2.2.2.2.2.2.2.2.1)
          have HS25_:=(hb.cell (World.block_lt_of_cell? _ _ (hHeld.2.2.2.2.2.2.2.2.2.2.2.2.2.2.2.2.2.2.2.2.2.2.2.2.2.1))).trans (hHeld.2.2.2.2.2.2.2.2.2.2.2.2.2.2.2.2.2.2.2.2.2.2.2.2.2.1)
          have HS26_:=(hb.cell (World.block_lt_of_cell? _ _ (hHeld.2.2.2.2.2.2.2.2.2.2.2.2.2.2.2.2.2.2.2.2.2.2.2.2.2.2.1))).trans (hHeld.2.2.2.2.2.2.2.2.2.2.2.2.2.2.2.2.2.2.2.2.2.2.2.2.2.2.1)
          have HS27_:=(hb.cell (World.block_lt_of_cell? _ _ (hHeld.2.2.2.2.2.2.2.2.2.2.2.2.2.2.2.2.2.2.2.2.2.2.2.2.2.2.2.1))).trans (hHeld.2.2.2.2.2.2.2.2.2.2.2.2.2.2.2.2.2.2.2.2.2.2.2.2.2.2.2.1)
          have HS28_:=(hb.cell (World.block_lt_of_cell? _ _ (hHeld.2.2.2.2.2.2.2.2.2.2.2.2.2.2.2.2.2.2.2.2.2.2.2.2.2.2.2.2.1))).trans (hHeld.2.2.2.2.2.2.2.2.2.2.2.2.2.2.2.2.2.2.2.2.2.2.2.2.2.2.2.2.1)
          have HS29_:=(hb.cell (World.block_lt_of_cell? _ _ (hHeld.2.2.2.2.2.2.2.2.2.2.2.2.2.2.2.2.2.2.2.2.2.2.2.2.2.2.2.2.2.1))).trans (hHeld.2.2.2.2.2.2.2.2.2.2.2.2.2.2.2.2.2.2.2.2.2.2.2.2.2.2.2.2.2.1)
          have HS30_:=(hb.cell (World.block_lt_of_cell? _ _ (hHeld.2.2.2.2.2.2.2.2.2.2.2.2.2.2.2.2.2.2.2.2.2.2.2.2.2.2.2.2.2.2.1))).trans (hHeld.2.2.2.2.2.2.2.2.2.2.2.2.2.2.2.2.2.2.2.2.2.2.2.2.2.2.2.2.2.2.1)
          have HS31_:=(hb.cell (World.block_lt_of_cell? _ _ (hHeld.2.2.2.2.2.2.2.2.2.2.2.2.2.2.2.2.2.2.2.2.2.2.2.2.2.2.2.2.2.2.2.1))).trans (hHeld.2.2.2.2.2.2.2.2.2.2.2.2.2.2.2.2.2.2.2.2.2.2.2.2.2.2.2.2.2.2.2.1)
          have HS32_:=(hb.cell (World.block_lt_of_cell? _ _ (hHeld.2.2.2.2.2.2.2.2.2.2.2.2.2.2.2.2.2.2.2.2.2.2.2.2.2.2.2.2.2.2.2.2.1))).trans (hHeld.2.2.2.2.2.2.2.2.2.2.2.2.2.2.2.2.2.2.2.2.2.2.2.2.2.2.2.2.2.2.2.2.1)
          have HS33_:=(hb.cell (World.block_lt_of_cell? _ _ (hHeld.2.2.2.2.2.2.2.2.2.2.2.2.2.2.2.2.2.2.2.2.2.2.2.2.2.2.2.2.2.2.2.2.2.1))).trans (hHeld.2.2.2.2.2.2.2.2.2.2.2.2.2.2.2.2.2.2.2.2.2.2.2.2.2.2.2.2.2.2.2.2.2.1)
          have HS34_:=(hb.cell (World.block_lt_of_cell? _ _ (hHeld.2.2.2.2.2.2.2.2.2.2.2.2.2.2.2.2.2.2.2.2.2.2.2.2.2.2.2.2.2.2.2.2.2.2))).trans (hHeld.2.2.2.2.2.2.2.2.2.2.2.2.2.2.2.2.2.2.2.2.2.2.2.2.2.2.2.2.2.2.2.2.2.2)
          refine ⟨_,rfl,?_⟩
          have n0_:=Aside0.mk (Kd.R_below y68x1 hb)
          have n1_:=Aside0.mk (Kd.V_below y68x2 hb)
          have n2_:=Aside0.mk (blk_below (g:=qe) (o:=.cells #[.int .i64 qh,.int .i64 qi,.int .i64 qj,.int .i64 qg,.int .i64 ql,.int .i64 qm,.int .i64 qn] 57 (0,0)) z68x5 hb)
          have n3_:=Aside0.mk (below_step z68x2 hb)
          clear HO_3
          clear HO_8
          clear qc
          clear HB
          have HO_3:=n0_
          have HO_8:=n1_
          have qc:=n2_
          have HB:=n3_
          clear n0_ n1_ n2_ n3_
          (try clear hb)
          (try clear hb2)
          (try clear hk)
          (try clear hi)
          refine hK.out _ _ ⟨(blk_cell qc.out 0).trans rfl,(blk_cell qc.out 1).trans rfl,(blk_cell qc.out 2).trans rfl,(blk_cell qc.out 3).trans rfl,(blk_cell qc.out 4).trans rfl,(blk_cell qc.out 5).trans rfl,(blk_cell qc.out 6).trans rfl,HS7_,HS8_,HS9_,HS10_,HS11_,HS12_,HS13_,HS14_,HS15_,HS16_,HS17_,HS18_,HS19_,HS20_,HS21_,HS22_,HS23_,HS24_,HS25_,HS26_,HS27_,HS28_,HS29_,HS30_,HS31_,HS32_,HS33_,HS34_⟩ (fun hHeld=>?_)
          clear hK K
          refine norm_ (a':=?_) ?_ ?_
          rotate_left
          ·show Act.put _ (some 79) _ = _
           simp only [Act.put,List.setIfInBounds_toArray,List.set_cons_zero,List.set_cons_succ,i64_w,i32_w]
           rfl
          refine pure_ (i:=31) (N:=some 80) (v:=?_) (a':=?_) #[true,true,true,true,true,true,true,true,true,true,true,true,true,true,true,true,true,true,true,true,true,true,true,true,true,true,true,true,true,true,true,true,false,false] rfl rfl (any_of HT_.out (by kernel_rfl)) (fun _ _ _ h=>h) (Or.inl ⟨by rfl,?_⟩) ?_ ?_
          rotate_left
          ·intro w'
           go_simp
           with_reducible rfl
          rotate_left
          ·exact z68a
          refine pure_ (i:=32) (N:=some 81) (v:=?_) (a':=?_) #[true,true,true,true,true,true,true,true,true,true,true,true,true,true,true,true,true,true,true,true,true,true,true,true,true,true,true,true,true,true,true,true,true,false] rfl rfl (any_of HT_.out (by kernel_rfl)) (fun _ _ _ h=>h) (Or.inl ⟨by rfl,?_⟩) ?_ ?_
          rotate_left
          ·intro w'
           go_simp
           with_reducible rfl
          rotate_left
          ·exact z68a
          refine pure_ (i:=33) (N:=some 82) (v:=?_) (a':=?_) #[true,true,true,true,true,true,true,true,true,true,true,true,true,true,true,true,true,true,true,true,true,true,true,true,true,true,true,true,true,true,true,true,true,true] rfl rfl (any_of HT_.out (by kernel_rfl)) (fun _ _ _ h=>h) (Or.inl ⟨by rfl,?_⟩) ?_ ?_
          rotate_left
          ·intro w'
           go_simp
           with_reducible rfl
          rotate_left
          ·exact z68a
          refine done_ (done_of HT_.out (by kernel_rfl)) ?_
          try go_wp2
          go_ret
          exact ⟨by first|rfl|(simp [errW_none,errW_some] <;> rfl)|(simp [*,errW_none,errW_some] <;> rfl),by repeat (first|(with_reducible first|exact HB.out|apply below_alloc|apply pw_below_drewN|apply below_drew1|refine below_set ?_ wq.out)|exact HB.out)⟩
         subst c29
         rw [if_pos rfl] at H
         have H':=Aside0.mk H
         clear H
         obtain ⟨qbp,qbe,qan⟩:=Kd.V_slice HO_8.out
         subst qan
         try go_wp2
         have n0_:=Aside0.mk (Kd.R_drew HO_3.out)
         have n1_:=Aside0.mk (Kd.V_drew HO_8.out)
         have n2_:=Aside0.mk (blk_drew qc.out)
         have n3_:=Aside0.mk (below_drew1 HB.out)
         clear HO_3
         clear HO_8
         clear qc
         clear HB
         have HO_3:=n0_
         have HO_8:=n1_
         have qc:=n2_
         have HB:=n3_
         clear n0_ n1_ n2_ n3_
         have wu : 0 ≤ (qa : Int):=of_decide_eq_true y68x3
         have wt : qa < (qd.length : Int):=of_decide_eq_true y68x3
         obtain ⟨qb,uf,qv,qu,qt,qr,qq,qp,qo⟩:=at_T57 (Kd.V_reads' HO_8.out).2.2 qa wu wt
         cases uf
         replace wu:=eq_true wu
         replace wt:=eq_true wt
         have wx : 0 ≤ (qa : Int):=of_decide_eq_true y68x3
         have ww : qa < (qd.length : Int):=of_decide_eq_true y68x3
         obtain ⟨uc,ul,wg,we,wd,wb,wa,qz,qy⟩:=at_T57 (Kd.V_reads' HO_8.out).2.2 qa wx ww
         obtain rfl : qb = uc:=(by injection ul)
         replace wx:=eq_true wx
         replace ww:=eq_true ww
         have ua : 0 ≤ (qa : Int):=of_decide_eq_true y68x3
         have vz : qa < (qd.length : Int):=of_decide_eq_true y68x3
         obtain ⟨uh,jq,wn,wm,wl,wk,wj,wi,wh⟩:=at_T57 (Kd.V_reads' HO_8.out).2.2 qa ua vz
         obtain rfl : qb = uh:=(by injection jq)
         replace ua:=eq_true ua
         replace vz:=eq_true vz
         have uk : 0 ≤ (qa : Int):=of_decide_eq_true y68x3
         have uj : qa < (qd.length : Int):=of_decide_eq_true y68x3
         obtain ⟨ju,jy,vv,vu,vt,vr,vq,vp,vo⟩:=at_T57 (Kd.V_reads' HO_8.out).2.2 qa uk uj
         obtain rfl : qb = ju:=(by injection jy)
         replace uk:=eq_true uk
         replace uj:=eq_true uj
         refine start_ (n:=34) (S:=fun w' => w'.cell? ⟨qe,0,none⟩ = some (.int .i64 qh) ∧ w'.cell? ⟨qe,1,none⟩ = some (.int .i64 qi) ∧ w'.cell? ⟨qe,2,none⟩ = some (.int .i64 qj) ∧ w'.cell? ⟨qe,3,none⟩ = some (.int .i64 qg) ∧ w'.cell? ⟨qe,4,none⟩ = some (.int .i64 ql) ∧ w'.cell? ⟨qe,5,none⟩ = some (.int .i64 qm) ∧ w'.cell? ⟨qe,6,none⟩ = some (.int .i64 qn) ∧ w'.cell? (qb.add ((qa).toNat * 7)) = some (.int .i64 ((rd_T57 qd qa).f0)) ∧ w'.cell? ⟨(qb.add ((qa).toNat * 7)).block,(qb.add ((qa).toNat * 7)).off + 1,none⟩ = some (.int .i64 ((rd_T57 qd qa).f1)) ∧ w'.cell? ⟨(qb.add ((qa).toNat * 7)).block,(qb.add ((qa).toNat * 7)).off + 2,none⟩ = some (.int .i64 ((rd_T57 qd qa).f2)) ∧ w'.cell? ⟨(qb.add ((qa).toNat * 7)).block,(qb.add ((qa).toNat * 7)).off + 3,none⟩ = some (.int .i64 ((rd_T57 qd qa).f3)) ∧ w'.cell? ⟨(qb.add ((qa).toNat * 7)).block,(qb.add ((qa).toNat * 7)).off + 4,none⟩ = some (.int .i64 ((rd_T57 qd qa).f4)) ∧ w'.cell? ⟨(qb.add ((qa).toNat * 7)).block,(qb.add ((qa).toNat * 7)).off + 5,none⟩ = some (.int .i64 ((rd_T57 qd qa).f5)) ∧ w'.cell? ⟨(qb.add ((qa).toNat * 7)).block,(qb.add ((qa).toNat * 7)).off + 6,none⟩ = some (.int .i64 ((rd_T57 qd qa).f6)) ∧ w'.cell? (qb.add ((qa).toNat * 7)) = some (.int .i64 ((rd_T57 qd qa).f0)) ∧ w'.cell? ⟨(qb.add ((qa).toNat * 7)).block,(qb.add ((qa).toNat * 7)).off + 1,none⟩ = some (.int .i64 ((rd_T57 qd qa).f1)) ∧ w'.cell? ⟨(qb.add ((qa).toNat * 7)).block,(qb.add ((qa).toNat * 7)).off + 2,none⟩ = some (.int .i64 ((rd_T57 qd qa).f2)) ∧ w'.cell? ⟨(qb.add ((qa).toNat * 7)).block,(qb.add ((qa).toNat * 7)).off + 3,none⟩ = some (.int .i64 ((rd_T57 qd qa).f3)) ∧ w'.cell? ⟨(qb.add ((qa).toNat * 7)).block,(qb.add ((qa).toNat * 7)).off + 4,none⟩ = some (.int .i64 ((rd_T57 qd qa).f4)) ∧ w'.cell? ⟨(qb.add ((qa).toNat * 7)).block,(qb.add ((qa).toNat * 7)).off + 5,none⟩ = some (.int .i64 ((rd_T57 qd qa).f5)) ∧ w'.cell? ⟨(qb.add ((qa).toNat * 7)).block,(qb.add ((qa).toNat * 7)).off + 6,none⟩ = some (.int .i64 ((rd_T57 qd qa).f6)) ∧ w'.cell? (qb.add ((qa).toNat * 7)) = some (.int .i64 ((rd_T57 qd qa).f0)) ∧ w'.cell? ⟨(qb.add ((qa).toNat * 7)).block,(qb.add ((qa).toNat * 7)).off + 1,none⟩ = some (.int .i64 ((rd_T57 qd qa).f1)) ∧ w'.cell? ⟨(qb.add ((qa).toNat * 7)).block,(qb.add ((qa).toNat * 7)).off + 2,none⟩ = some (.int .i64 ((rd_T57 qd qa).f2)) ∧ w'.cell? ⟨(qb.add ((qa).toNat * 7)).block,(qb.add ((qa).toNat * 7)).off + 3,none⟩ = some (.int .i64 ((rd_T57 qd qa).f3)) ∧ w'.cell? ⟨(qb.add ((qa).toNat * 7)).block,(qb.add ((qa).toNat * 7)).off + 4,none⟩ = some (.int .i64 ((rd_T57 qd qa).f4)) ∧ w'.cell? ⟨(qb.add ((qa).toNat * 7)).block,(qb.add ((qa).toNat * 7)).off + 5,none⟩ = some (.int .i64 ((rd_T57 qd qa).f5)) ∧ w'.cell? ⟨(qb.add ((qa).toNat * 7)).block,(qb.add ((qa).toNat * 7)).off + 6,none⟩ = some (.int .i64 ((rd_T57 qd qa).f6)) ∧ w'.cell? (qb.add ((qa).toNat * 7)) = some (.int .i64 ((rd_T57 qd qa).f0)) ∧ w'.cell? ⟨(qb.add ((qa).toNat * 7)).block,(qb.add ((qa).toNat * 7)).off + 1,none⟩ = some (.int .i64 ((rd_T57 qd qa).f1)) ∧ w'.cell? ⟨(qb.add ((qa).toNat * 7)).block,(qb.add ((qa).toNat * 7)).off + 2,none⟩ = some (.int .i64 ((rd_T57 qd qa).f2)) ∧ w'.cell? ⟨(qb.add ((qa).toNat * 7)).block,(qb.add ((qa).toNat * 7)).off + 3,none⟩ = some (.int .i64 ((rd_T57 qd qa).f3)) ∧ w'.cell? ⟨(qb.add ((qa).toNat * 7)).block,(qb.add ((qa).toNat * 7)).off + 4,none⟩ = some (.int .i64 ((rd_T57 qd qa).f4)) ∧ w'.cell? ⟨(qb.add ((qa).toNat * 7)).block,(qb.add ((qa).toNat * 7)).off + 5,none⟩ = some (.int .i64 ((rd_T57 qd qa).f5)) ∧ w'.cell? ⟨(qb.add ((qa).toNat * 7)).block,(qb.add ((qa).toNat * 7)).off + 6,none⟩ = some (.int .i64 ((rd_T57 qd qa).f6))) (ds:=[]) #[false,false,false,false,false,false,false,false,false,false,false,false,false,false,false,false,false,false,false,false,false,false,false,false,false,false,false,false,false,false,false,false,false,false] (by kernel_rfl) rfl rfl ⟨(blk_cell qc.out 0).trans rfl,(blk_cell qc.out 1).trans rfl,(blk_cell qc.out 2).trans rfl,(blk_cell qc.out 3).trans rfl,(blk_cell qc.out 4).trans rfl,(blk_cell qc.out 5).trans rfl,(blk_cell qc.out 6).trans rfl,qv,qu,qt,qr,qq,qp,qo,wg,we,wd,wb,wa,qz,qy,wn,wm,wl,wk,wj,wi,wh,vv,vu,vt,vr,vq,vp,vo⟩ (fun hHeld=>?_);refine with_tabW laws_FnCacheFresh.tab11 laws_FnCacheFresh.bits11 (fun HT_ HW_=>?_)
         generalize wr.drew = w31 at HO_3 HO_8 qc HB qv qu qt qr qq qp qo wg we wd wb wa qz qy wn wm wl wk wj wi wh vv vu vt vr vq vp vo hHeld ⊢
         refine pure_ (i:=0) (N:=some 49) (v:=?_) (a':=?_) #[true,false,false,false,false,false,false,false,false,false,false,false,false,false,false,false,false,false,false,false,false,false,false,false,false,false,false,false,false,false,false,false,false,false] rfl rfl (any_of HT_.out (by kernel_rfl)) (fun _ _ _ h=>h) (Or.inl ⟨by rfl,?_⟩) ?_ ?_
         rotate_left
         ·intro w'
          go_simp
          with_reducible rfl
         rotate_left
         ·exact z68a
         refine pure_ (i:=1) (N:=some 50) (v:=?_) (a':=?_) #[true,true,false,false,false,false,false,false,false,false,false,false,false,false,false,false,false,false,false,false,false,false,false,false,false,false,false,false,false,false,false,false,false,false] rfl rfl (any_of HT_.out (by kernel_rfl)) (fun _ _ _ h=>h) (Or.inl ⟨by rfl,?_⟩) ?_ ?_
         rotate_left
         ·intro w'
          go_simp
          with_reducible rfl
         rotate_left
         ·exact z68a
         refine pure_ (i:=2) (N:=some 51) (v:=?_) (a':=?_) #[true,true,true,false,false,false,false,false,false,false,false,false,false,false,false,false,false,false,false,false,false,false,false,false,false,false,false,false,false,false,false,false,false,false] rfl rfl (any_of HT_.out (by kernel_rfl)) (fun _ _ _ h=>h) (Or.inl ⟨by rfl,?_⟩) ?_ ?_
         rotate_left
         ·intro w'
          go_simp
          with_reducible rfl
         rotate_left
         ·exact z68a
         refine pure_ (i:=3) (N:=some 52) (v:=?_) (a':=?_) #[true,true,true,true,false,false,false,false,false,false,false,false,false,false,false,false,false,false,false,false,false,false,false,false,false,false,false,false,false,false,false,false,false,false] rfl rfl (any_of HT_.out (by kernel_rfl)) (fun _ _ _ h=>h) (Or.inl ⟨by rfl,?_⟩) ?_ ?_
         rotate_left
         ·intro w'
          go_simp
          with_reducible rfl
         rotate_left
         ·exact z68a
         refine pure_ (i:=5) (N:=some 54) (v:=?_) (a':=?_) #[true,true,true,true,false,true,false,false,false,false,false,false,false,false,false,false,false,false,false,false,false,false,false,false,false,false,false,false,false,false,false,false,false,false] rfl rfl (any_of HT_.out (by kernel_rfl)) (fun _ _ _ h=>h) (Or.inl ⟨by rfl,?_⟩) ?_ ?_
         rotate_left
         ·intro w'
          go_simp
          with_reducible rfl
         rotate_left
         ·exact z68a
         refine take_ (i:=4) (N:=some 53) (v:=?_) (a':=?_) #[true,true,true,true,true,true,false,false,false,false,false,false,false,false,false,false,false,false,false,false,false,false,false,false,false,false,false,false,false,false,false,false,false,false] rfl rfl (take_ofW HT_.out HW_.out (by kernel_rfl)) (fun _ _ _ h=>h) (Or.inl ⟨by rfl,?_⟩) hHeld ?_ ?_
         rotate_left
         ·rintro w' ⟨s0,s1,s2,s3,s4,s5,s6,s7,s8,s9,s10,s11,s12,s13,s14,s15,s16,s17,s18,s19,s20,s21,s22,s23,s24,s25,s26,s27,s28,s29,s30,s31,s32,s33,s34⟩
          go_simp
          with_reducible rfl
         rotate_left
         ·exact z68a
         refine pure_ (i:=6) (N:=some 55) (v:=?_) (a':=?_) #[true,true,true,true,true,true,true,false,false,false,false,false,false,false,false,false,false,false,false,false,false,false,false,false,false,false,false,false,false,false,false,false,false,false] rfl rfl (any_of HT_.out (by kernel_rfl)) (fun _ _ _ h=>h) (Or.inl ⟨by rfl,?_⟩) ?_ ?_
         rotate_left
         ·intro w'
          go_simp
          with_reducible rfl
         rotate_left
         ·exact z68a
         refine pure_ (i:=7) (N:=some 56) (v:=?_) (a':=?_) #[true,true,true,true,true,true,true,true,false,false,false,false,false,false,false,false,false,false,false,false,false,false,false,false,false,false,false,false,false,false,false,false,false,false] rfl rfl (any_of HT_.out (by kernel_rfl)) (fun _ _ _ h=>h) (Or.inl ⟨by rfl,?_⟩) ?_ ?_
         rotate_left
         ·intro w'
          go_simp
          with_reducible rfl
         rotate_left
         ·exact z68a
         refine pure_ (i:=8) (N:=some 57) (v:=?_) (a':=?_) #[true,true,true,true,true,true,true,true,true,false,false,false,false,false,false,false,false,false,false,false,false,false,false,false,false,false,false,false,false,false,false,false,false,false] rfl rfl (any_of HT_.out (by kernel_rfl)) (fun _ _ _ h=>h) (Or.inl ⟨by rfl,?_⟩) ?_ ?_
         rotate_left
         ·intro w'
          go_simp
          with_reducible rfl
         rotate_left
         ·exact z68a
         refine pure_ (i:=9) (N:=some 58) (v:=?_) (a':=?_) #[true,true,true,true,true,true,true,true,true,true,false,false,false,false,false,false,false,false,false,false,false,false,false,false,false,false,false,false,false,false,false,false,false,false] rfl rfl (any_of HT_.out (by kernel_rfl)) (fun _ _ _ h=>h) (Or.inl ⟨by rfl,?_⟩) ?_ ?_
         rotate_left
         ·intro w'
          go_simp
          with_reducible rfl
         rotate_left
         ·exact z68a
         refine pure_ (i:=10) (N:=some 59) (v:=?_) (a':=?_) #[true,true,true,true,true,true,true,true,true,true,true,false,false,false,false,false,false,false,false,false,false,false,false,false,false,false,false,false,false,false,false,false,false,false] rfl rfl (any_of HT_.out (by kernel_rfl)) (fun _ _ _ h=>h) (Or.inl ⟨by rfl,?_⟩) ?_ ?_
         rotate_left
         ·intro w'
          go_simp
          with_reducible rfl
         rotate_left
         ·exact z68a
         refine pure_ (i:=11) (N:=some 60) (v:=?_) (a':=?_) #[true,true,true,true,true,true,true,true,true,true,true,true,false,false,false,false,false,false,false,false,false,false,false,false,false,false,false,false,false,false,false,false,false,false] rfl rfl (any_of HT_.out (by kernel_rfl)) (fun _ _ _ h=>h) (Or.inl ⟨by rfl,?_⟩) ?_ ?_
         rotate_left
         ·intro w'
          go_simp
          with_reducible rfl
         rotate_left
         ·exact z68a
         refine pure_ (i:=12) (N:=some 61) (v:=?_) (a':=?_) #[true,true,true,true,true,true,true,true,true,true,true,true,true,false,false,false,false,false,false,false,false,false,false,false,false,false,false,false,false,false,false,false,false,false] rfl rfl (any_of HT_.out (by kernel_rfl)) (fun _ _ _ h=>h) (Or.inl ⟨by rfl,?_⟩) ?_ ?_
         rotate_left
         ·intro w'
          go_simp
          with_reducible rfl
         rotate_left
         ·exact z68a
         refine take_ (i:=13) (N:=some 62) (v:=?_) (a':=?_) #[true,true,true,true,true,true,true,true,true,true,true,true,true,true,false,false,false,false,false,false,false,false,false,false,false,false,false,false,false,false,false,false,false,false] rfl rfl (take_ofW HT_.out HW_.out (by kernel_rfl)) (fun _ _ _ h=>h) (Or.inl ⟨by rfl,?_⟩) hHeld ?_ ?_
         rotate_left
         ·rintro w' ⟨s0,s1,s2,s3,s4,s5,s6,s7,s8,s9,s10,s11,s12,s13,s14,s15,s16,s17,s18,s19,s20,s21,s22,s23,s24,s25,s26,s27,s28,s29,s30,s31,s32,s33,s34⟩
          go_simp
          with_reducible rfl
         rotate_left
         ·exact z68a
         refine pure_ (i:=14) (N:=some 63) (v:=?_) (a':=?_) #[true,true,true,true,true,true,true,true,true,true,true,true,true,true,true,false,false,false,false,false,false,false,false,false,false,false,false,false,false,false,false,false,false,false] rfl rfl (any_of HT_.out (by kernel_rfl)) (fun _ _ _ h=>h) (Or.inl ⟨by rfl,?_⟩) ?_ ?_
         rotate_left
         ·intro w'
          go_simp
          with_reducible rfl
         rotate_left
         ·exact z68a
         refine pure_ (i:=15) (N:=some 64) (v:=?_) (a':=?_) #[true,true,true,true,true,true,true,true,true,true,true,true,true,true,true,true,false,false,false,false,false,false,false,false,false,false,false,false,false,false,false,false,false,false] rfl rfl (any_of HT_.out (by kernel_rfl)) (fun _ _ _ h=>h) (Or.inl ⟨by rfl,?_⟩) ?_ ?_
         rotate_left
         ·intro w'
          go_simp
          with_reducible rfl
         rotate_left
         ·exact z68a
         refine pure_ (i:=16) (N:=some 65) (v:=?_) (a':=?_) #[true,true,true,true,true,true,true,true,true,true,true,true,true,true,true,true,true,false,false,false,false,false,false,false,false,false,false,false,false,false,false,false,false,false] rfl rfl (any_of HT_.out (by kernel_rfl)) (fun _ _ _ h=>h) (Or.inl ⟨by rfl,?_⟩) ?_ ?_
         rotate_left
         ·intro w'
          go_simp
          with_reducible rfl
         rotate_left
         ·exact z68a
         refine pure_ (i:=17) (N:=some 66) (v:=?_) (a':=?_) #[true,true,true,true,true,true,true,true,true,true,true,true,true,true,true,true,true,true,false,false,false,false,false,false,false,false,false,false,false,false,false,false,false,false] rfl rfl (any_of HT_.out (by kernel_rfl)) (fun _ _ _ h=>h) (Or.inl ⟨by rfl,?_⟩) ?_ ?_
         rotate_left
         ·intro w'
          go_simp
          with_reducible rfl
         rotate_left
         ·exact z68a
         refine pure_ (i:=18) (N:=some 67) (v:=?_) (a':=?_) #[true,true,true,true,true,true,true,true,true,true,true,true,true,true,true,true,true,true,true,false,false,false,false,false,false,false,false,false,false,false,false,false,false,false] rfl rfl (any_of HT_.out (by kernel_rfl)) (fun _ _ _ h=>h) (Or.inl ⟨by rfl,?_⟩) ?_ ?_
         rotate_left
         ·intro w'
          go_simp
          with_reducible rfl
         rotate_left
         ·exact z68a
         refine pure_ (i:=19) (N:=some 68) (v:=?_) (a':=?_) #[true,true,true,true,true,true,true,true,true,true,true,true,true,true,true,true,true,true,true,true,false,false,false,false,false,false,false,false,false,false,false,false,false,false] rfl rfl (any_of HT_.out (by kernel_rfl)) (fun _ _ _ h=>h) (Or.inl ⟨by rfl,?_⟩) ?_ ?_
         rotate_left
         ·intro w'
          go_simp
          with_reducible rfl
         rotate_left
         ·exact z68a
         refine pure_ (i:=20) (N:=some 69) (v:=?_) (a':=?_) #[true,true,true,true,true,true,true,true,true,true,true,true,true,true,true,true,true,true,true,true,true,false,false,false,false,false,false,false,false,false,false,false,false,false] rfl rfl (any_of HT_.out (by kernel_rfl)) (fun _ _ _ h=>h) (Or.inl ⟨by rfl,?_⟩) ?_ ?_
         rotate_left
         ·intro w'
          go_simp
          with_reducible rfl
         rotate_left
         ·exact z68a
         refine take_ (i:=21) (N:=some 70) (v:=?_) (a':=?_) #[true,true,true,true,true,true,true,true,true,true,true,true,true,true,true,true,true,true,true,true,true,true,false,false,false,false,false,false,false,false,false,false,false,false] rfl rfl (take_ofW HT_.out HW_.out (by kernel_rfl)) (fun _ _ _ h=>h) (Or.inl ⟨by rfl,?_⟩) hHeld ?_ ?_
         rotate_left
         ·rintro w' ⟨s0,s1,s2,s3,s4,s5,s6,s7,s8,s9,s10,s11,s12,s13,s14,s15,s16,s17,s18,s19,s20,s21,s22,s23,s24,s25,s26,s27,s28,s29,s30,s31,s32,s33,s34⟩
          go_simp
          with_reducible rfl
         rotate_left
         ·exact z68a
         refine take_ (i:=22) (N:=some 71) (v:=?_) (a':=?_) #[true,true,true,true,true,true,true,true,true,true,true,true,true,true,true,true,true,true,true,true,true,true,true,false,false,false,false,false,false,false,false,false,false,false] rfl rfl (take_ofW HT_.out HW_.out (by kernel_rfl)) (fun _ _ _ h=>h) (Or.inl ⟨by rfl,?_⟩) hHeld ?_ ?_
         rotate_left
         ·rintro w' ⟨s0,s1,s2,s3,s4,s5,s6,s7,s8,s9,s10,s11,s12,s13,s14,s15,s16,s17,s18,s19,s20,s21,s22,s23,s24,s25,s26,s27,s28,s29,s30,s31,s32,s33,s34⟩
          go_simp
          with_reducible rfl
         rotate_left
         ·exact z68a
         refine pure_ (i:=23) (N:=some 72) (v:=?_) (a':=?_) #[true,true,true,true,true,true,true,true,true,true,true,true,true,true,true,true,true,true,true,true,true,true,true,true,false,false,false,false,false,false,false,false,false,false] rfl rfl (any_of HT_.out (by kernel_rfl)) (fun _ _ _ h=>h) (Or.inl ⟨by rfl,?_⟩) ?_ ?_
         rotate_left
         ·intro w'
          go_simp
          with_reducible rfl
         rotate_left
         ·exact z68a
         refine pure_ (i:=24) (N:=some 73) (v:=?_) (a':=?_) #[true,true,true,true,true,true,true,true,true,true,true,true,true,true,true,true,true,true,true,true,true,true,true,true,true,false,false,false,false,false,false,false,false,false] rfl rfl (any_of HT_.out (by kernel_rfl)) (fun _ _ _ h=>h) (Or.inl ⟨by rfl,?_⟩) ?_ ?_
         rotate_left
         ·intro w'
          go_simp
          with_reducible rfl
         rotate_left
         ·exact z68a
         refine pure_ (i:=25) (N:=some 74) (v:=?_) (a':=?_) #[true,true,true,true,true,true,true,true,true,true,true,true,true,true,true,true,true,true,true,true,true,true,true,true,true,true,false,false,false,false,false,false,false,false] rfl rfl (any_of HT_.out (by kernel_rfl)) (fun _ _ _ h=>h) (Or.inl ⟨by rfl,?_⟩) ?_ ?_
         rotate_left
         ·intro w'
          go_simp
          with_reducible rfl
         rotate_left
         ·exact z68a
         refine pure_ (i:=26) (N:=some 75) (v:=?_) (a':=?_) #[true,true,true,true,true,true,true,true,true,true,true,true,true,true,true,true,true,true,true,true,true,true,true,true,true,true,true,false,false,false,false,false,false,false] rfl rfl (any_of HT_.out (by kernel_rfl)) (fun _ _ _ h=>h) (Or.inl ⟨by rfl,?_⟩) ?_ ?_
         rotate_left
         ·intro w'
          go_simp
          with_reducible rfl
         rotate_left
         ·exact z68a
         refine pure_ (i:=27) (N:=some 76) (v:=?_) (a':=?_) #[true,true,true,true,true,true,true,true,true,true,true,true,true,true,true,true,true,true,true,true,true,true,true,true,true,true,true,true,false,false,false,false,false,false] rfl rfl (any_of HT_.out (by kernel_rfl)) (fun _ _ _ h=>h) (Or.inl ⟨by rfl,?_⟩) ?_ ?_
         rotate_left
         ·intro w'
          go_simp
          with_reducible rfl
         rotate_left
         ·exact z68a
         refine pure_ (i:=28) (N:=some 77) (v:=?_) (a':=?_) #[true,true,true,true,true,true,true,true,true,true,true,true,true,true,true,true,true,true,true,true,true,true,true,true,true,true,true,true,true,false,false,false,false,false] rfl rfl (any_of HT_.out (by kernel_rfl)) (fun _ _ _ h=>h) (Or.inl ⟨by rfl,?_⟩) ?_ ?_
         rotate_left
         ·intro w'
          go_simp
          with_reducible rfl
         rotate_left
         ·exact z68a
         refine take_ (i:=29) (N:=some 78) (v:=?_) (a':=?_) #[true,true,true,true,true,true,true,true,true,true,true,true,true,true,true,true,true,true,true,true,true,true,true,true,true,true,true,true,true,true,false,false,false,false] rfl rfl (take_ofW HT_.out HW_.out (by kernel_rfl)) (fun _ _ _ h=>h) (Or.inl ⟨by rfl,?_⟩) hHeld ?_ ?_
         rotate_left
         ·rintro w' ⟨s0,s1,s2,s3,s4,s5,s6,s7,s8,s9,s10,s11,s12,s13,s14,s15,s16,s17,s18,s19,s20,s21,s22,s23,s24,s25,s26,s27,s28,s29,s30,s31,s32,s33,s34⟩
          go_simp
          with_reducible rfl
         rotate_left
         ·exact z68a
         refine one_ (i:=30) (N:=some 79) #[true,true,true,true,true,true,true,true,true,true,true,true,true,true,true,true,true,true,true,true,true,true,true,true,true,true,true,true,true,true,true,false,false,false] rfl rfl (one_of HT_.out (by kernel_rfl)) (by decide) (fun K hK=>?_)
         refine goes_ Try.func44 (by kernel_rfl) rfl #[.slice ug qx.length ud,.agg #[.int .i64 ((rd_T57 qd qa).f0),.int .i64 ((rd_T57 qd qa).f1),.int .i64 ((rd_T57 qd qa).f2),.int .i64 ((rd_T57 qd qa).f3),.int .i64 ((rd_T57 qd qa).f4),.int .i64 ((rd_T57 qd qa).f5),.int .i64 ((rd_T57 qd qa).f6)]] (by rfl) rfl rfl z68x3 ?_
         with_reducible refine (laws_lbAmong.calls k2 _ _ qx ((rd_T57 qd qa).f0) ((rd_T57 qd qa).f1) ((rd_T57 qd qa).f2) ((rd_T57 qd qa).f3) ((rd_T57 qd qa).f4) ((rd_T57 qd qa).f5) ((rd_T57 qd qa).f6) true _ ?side1 ?side2 A28.out).mono ?_
         (case side1=>repeat (first|exact (Kd.R_reads' HO_3.out).2.2|(with_reducible refine Kd.C_alloc ?_ _)|(with_reducible refine Kd.C_drewN ?_ _)|(with_reducible refine Kd.C_drew ?_)))
         (case side2=>exact (Kd.R_reads' HO_3.out).2.1)
         rintro e w32 ⟨rfl,hb⟩
         have HS7_:=(hb.cell (World.block_lt_of_cell? _ _ (hHeld.2.2.2.2.2.2.2.1))).trans (hHeld.2.2.2.2.2.2.2.1)
         have HS8_:=(hb.cell (World.block_lt_of_cell? _ _ (hHeld.2.2.2.2.2.2.2.2.1))).trans (hHeld.2.2.2.2.2.2.2.2.1)
         have HS9_:=(hb.cell (World.block_lt_of_cell? _ _ (hHeld.2.2.2.2.2.2.2.2.2.1))).trans (hHeld.2.2.2.2.2.2.2.2.2.1)
         have HS10_:=(hb.cell (World.block_lt_of_cell? _ _ (hHeld.2.2.2.2.2.2.2.2.2.2.1))).trans (hHeld.2.2.2.2.2.2.2.2.2.2.1)
         have HS11_:=(hb.cell (World.block_lt_of_cell? _ _ (hHeld.2.2.2.2.2.2.2.2.2.2.2.1))).trans (hHeld.2.2.2.2.2.2.2.2.2.2.2.1)
         have HS12_:=(hb.cell (World.block_lt_of_cell? _ _ (hHeld.2.2.2.2.2.2.2.2.2.2.2.2.1))).trans (hHeld.2.2.2.2.2.2.2.2.2.2.2.2.1)
         have HS13_:=(hb.cell (World.block_lt_of_cell? _ _ (hHeld.2.2.2.2.2.2.2.2.2.2.2.2.2.1))).trans (hHeld.2.2.2.2.2.2.2.2.2.2.2.2.2.1)
         have HS14_:=(hb.cell (World.block_lt_of_cell? _ _ (hHeld.2.2.2.2.2.2.2.2.2.2.2.2.2.2.1))).trans (hHeld.2.2.2.2.2.2.2.2.2.2.2.2.2.2.1)
         have HS15_:=(hb.cell (World.block_lt_of_cell? _ _ (hHeld.2.2.2.2.2.2.2.2.2.2.2.2.2.2.2.1))).trans (hHeld.2.2.2.2.2.2.2.2.2.2.2.2.2.2.2.1)
         have HS16_:=(hb.cell (World.block_lt_of_cell? _ _ (hHeld.2.2.2.2.2.2.2.2.2.2.2.2.2.2.2.2.1))).trans (hHeld.2.2.2.2.2.2.2.2.2.2.2.2.2.2.2.2.1)
         have HS17_:=(hb.cell (World.block_lt_of_cell? _ _ (hHeld.2.2.2.2.2.2.2.2.2.2.2.2.2.2.2.2.2.1))).trans (hHeld.2.2.2.2.2.2.2.2.2.2.2.2.2.2.2.2.2.1)
         have HS18_:=(hb.cell (World.block_lt_of_cell? _ _ (hHeld.2.2.2.2.2.2.2.2.2.2.2.2.2.2.2.2.2.2.1))).trans (hHeld.2.2.2.2.2.2.2.2.2.2.2.2.2.2.2.2.2.2.1)
         have HS19_:=(hb.cell (World.block_lt_of_cell? _ _ (hHeld.2.2.2.2.2.2.2.2.2.2.2.2.2.2.2.2.2.2.2.1))).trans (hHeld.2.2.2.2.2.2.2.2.2.2.2.2.2.2.2.2.2.2.2.1)
         have HS20_:=(hb.cell (World.block_lt_of_cell? _ _ (hHeld.2.2.2.2.2.2.2.2.2.2.2.2.2.2.2.2.2.2.2.2.1))).trans (hHeld.2.2.2.2.2.2.2.2.2.2.2.2.2.2.2.2.2.2.2.2.1)
         have HS21_:=(hb.cell (World.block_lt_of_cell? _ _ (hHeld.2.2.2.2.2.2.2.2.2.2.2.2.2.2.2.2.2.2.2.2.2.1))).trans (hHeld.2.2.2.2.2.2.2.2.2.2.2.2.2.2.2.2.2.2.2.2.2.1)
         have HS22_:=(hb.cell (World.block_lt_of_cell? _ _ (hHeld.2.2.2.2.2.2.2.2.2.2.2.2.2.2.2.2.2.2.2.2.2.2.1))).trans (hHeld.2.2.2.2.2.2.2.2.2.2.2.2.2.2.2.2.2.2.2.2.2.2.1)
         have HS23_:=(hb.cell (World.block_lt_of_cell? _ _ (hHeld.2.2.2.2.2.2.2.2.2.2.2.2.2.2.2.2.2.2.2.2.2.2.2.1))).trans (hHeld.2.2.2.2.2.2.2.2.2.2.2.2.2.2.2.2.2.2.2.2.2.2.2.1)
         have HS24_:=(hb.cell (World.block_lt_of_cell? _ _ (hHeld.2.2.2.2.2.2.2.2.2.2.2.2.2.2.2.2.2.2.2.2.2.2.2.2.1))).trans (hHeld.2.2.2.2.2.2.2.2.2.2.2.2.2.2.2.2.2.2.2.2.2.2.2.2.1)
         have HS25_:=(hb.cell (World.block_lt_of_cell? _ _ (hHeld.2.2.2.2.2.2.2.2.2.2.2.2.2.2.2.2.2.2.2.2.2.2.2.2.2.1))).trans (hHeld.2.2.2.2.2.2.2.2.2.2.2.2.2.2.2.2.2.2.2.2.2.2.2.2.2.1)
         have HS26_:=(hb.cell (World.block_lt_of_cell? _ _ (hHeld.2.2.2.2.2.2.2.2.2.2.2.2.2.2.2.2.2.2.2.2.2.2.2.2.2.2.1))).trans (hHeld.2.2.2.2.2.2.2.2.2.2.2.2.2.2.2.2.2.2.2.2.2.2.2.2.2.2.1)
         have HS27_:=(hb.cell (World.block_lt_of_cell? _ _ (hHeld.2.2.2.2.2.2.2.2.2.2.2.2.2.2.2.2.2.2.2.2.2.2.2.2.2.2.2.1))).trans (hHeld.2.2.2.2.2.2.2.2.2.2.2.2.2.2.2.2.2.2.2.2.2.2.2.2.2.2.2.1)
         have HS28_:=(hb.cell (World.block_lt_of_cell? _ _ (hHeld.2.2.2.2.2.2.2.2.2.2.2.2.2.2.2.2.2.2.2.2.2.2.2.2.2.2.2.2.1))).trans (hHeld.2.2.2.2.2.2.2.2.2.2.2.2.2.2.2.2.2.2.2.2.2.2.2.2.2.2.2.2.1)
         have HS29_:=(hb.cell (World.block_lt_of_cell? _ _ (hHeld.2.2.2.2.2.2.2.2.2.2.2.2.2.2.2.2.2.2.2.2.2.2.2.2.2.2.2.2.2.1))).trans (hHeld.2.2.2.2.2.2.2.2.2.2.2.2.2.2.2.2.2.2.2.2.2.2.2.2.2.2.2.2.2.1)
         have HS30_:=(hb.cell (World.block_lt_of_cell? _ _ (hHeld.2.2.2.2.2.2.2.2.2.2.2.2.2.2.2.2.2.2.2.2.2.2.2.2.2.2.2.2.2.2.1))).trans (hHeld.2.2.2.2.2.2.2.2.2.2.2.2.2.2.2.2.2.2.2.2.2.2.2.2.2.2.2.2.2.2.1)
         have HS31_:=(hb.cell (World.block_lt_of_cell? _ _ (hHeld.2.2.2.2.2.2.2.2.2.2.2.2.2.2.2.2.2.2.2.2.2.2.2.2.2.2.2.2.2.2.2.1))).trans (hHeld.2.2.2.2.2.2.2.2.2.2.2.2.2.2.2.2.2.2.2.2.2.2.2.2.2.2.2.2.2.2.2.1)
         have HS32_:=(hb.cell (World.block_lt_of_cell? _ _ (hHeld.2.2.2.2.2.2.2.2.2.2.2.2.2.2.2.2.2.2.2.2.2.2.2.2.2.2.2.2.2.2.2.2.1))).trans (hHeld.2.2.2.2.2.2.2.2.2.2.2.2.2.2.2.2.2.2.2.2.2.2.2.2.2.2.2.2.2.2.2.2.1)
         have HS33_:=(hb.cell (World.block_lt_of_cell? _ _ (hHeld.2.2.2.2.2.2.2.2.2.2.2.2.2.2.2.2.2.2.2.2.2.2.2.2.2.2.2.2.2.2.2.2.2.1))).trans (hHeld.2.2.2.2.2.2.2.2.2.2.2.2.2.2.2.2.2.2.2.2.2.2.2.2.2.2.2.2.2.2.2.2.2.1)
         have HS34_:=(hb.cell (World.block_lt_of_cell? _ _ (hHeld.2.2.2.2.2.2.2.2.2.2.2.2.2.2.2.2.2.2.2.2.2.2.2.2.2.2.2.2.2.2.2.2.2.2))).trans (hHeld.2.2.2.2.2.2.2.2.2.2.2.2.2.2.2.2.2.2.2.2.2.2.2.2.2.2.2.2.2.2.2.2.2.2)
         refine ⟨_,rfl,?_⟩
         have n0_:=Aside0.mk (Kd.R_below y68x1 hb)
         have n1_:=Aside0.mk (Kd.V_below y68x2 hb)
         have n2_:=Aside0.mk (blk_below (g:=qe) (o:=.cells #[.int .i64 qh,.int .i64 qi,.int .i64 qj,.int .i64 qg,.int .i64 ql,.int .i64 qm,.int .i64 qn] 57 (0,0)) z68x5 hb)
         have n3_:=Aside0.mk (below_step z68x2 hb)
         clear HO_3
         clear HO_8
         clear qc
         clear HB
         have HO_3:=n0_
         have HO_8:=n1_
         have qc:=n2_
         have HB:=n3_
         clear n0_ n1_ n2_ n3_
         (try clear hb)
         (try clear hb2)
         (try clear hk)
         (try clear hi)
         refine hK.out _ _ ⟨(blk_cell qc.out 0).trans rfl,(blk_cell qc.out 1).trans rfl,(blk_cell qc.out 2).trans rfl,(blk_cell qc.out 3).trans rfl,(blk_cell qc.out 4).trans rfl,(blk_cell qc.out 5).trans rfl,(blk_cell qc.out 6).trans rfl,HS7_,HS8_,HS9_,HS10_,HS11_,HS12_,HS13_,HS14_,HS15_,HS16_,HS17_,HS18_,HS19_,HS20_,HS21_,HS22_,HS23_,HS24_,HS25_,HS26_,HS27_,HS28_,HS29_,HS30_,HS31_,HS32_,HS33_,HS34_⟩ (fun hHeld=>?_)
         clear hK K
         refine norm_ (a':=?_) ?_ ?_
         rotate_left
         ·show Act.put _ (some 79) _ = _
          simp only [Act.put,List.setIfInBounds_toArray,List.set_cons_zero,List.set_cons_succ,i64_w,i32_w]
          rfl
         refine pure_ (i:=31) (N:=some 80) (v:=?_) (a':=?_) #[true,true,true,true,true,true,true,true,true,true,true,true,true,true,true,true,true,true,true,true,true,true,true,true,true,true,true,true,true,true,true,true,false,false] rfl rfl (any_of HT_.out (by kernel_rfl)) (fun _ _ _ h=>h) (Or.inl ⟨by rfl,?_⟩) ?_ ?_
         rotate_left
         ·intro w'
          go_simp
          with_reducible rfl
         rotate_left
         ·exact z68a
         refine pure_ (i:=32) (N:=some 81) (v:=?_) (a':=?_) #[true,true,true,true,true,true,true,true,true,true,true,true,true,true,true,true,true,true,true,true,true,true,true,true,true,true,true,true,true,true,true,true,true,false] rfl rfl (any_of HT_.out (by kernel_rfl)) (fun _ _ _ h=>h) (Or.inl ⟨by rfl,?_⟩) ?_ ?_
         rotate_left
         ·intro w'
          go_simp
          with_reducible rfl
         rotate_left
         ·exact z68a
         refine pure_ (i:=33) (N:=some 82) (v:=?_) (a':=?_) #[true,true,true,true,true,true,true,true,true,true,true,true,true,true,true,true,true,true,true,true,true,true,true,true,true,true,true,true,true,true,true,true,true,true] rfl rfl (any_of HT_.out (by kernel_rfl)) (fun _ _ _ h=>h) (Or.inl ⟨by rfl,?_⟩) ?_ ?_
         rotate_left
         ·intro w'
          go_simp
          with_reducible rfl
         rotate_left
         ·exact z68a
         refine done_ (done_of HT_.out (by kernel_rfl)) ?_
         try go_wp2
         go_roundg k2
         case measure=>have:=HJ5.out;have:=HK2.out;omega
         case rel=>exact ⟨(wrap64 (qa + 1)),y68x4,H',⟨by have:=HJ5.out;have:=HK2.out;omega⟩,⟨by (with_reducible repeat (first|apply Kd.R_alloc|apply Kd.R_drewN|apply Kd.R_drew));exact HO_3.out⟩,⟨by (with_reducible repeat (first|apply Kd.V_alloc|apply Kd.V_drewN|apply Kd.V_drew));exact HO_8.out⟩,⟨by (with_reducible repeat (first|refine blk_drewN ?_ _|refine blk_drew ?_|refine blk_alloc ?_ _));exact qc.out⟩,⟨by repeat (first|(with_reducible first|exact HB.out|apply below_alloc|apply pw_below_drewN|apply below_drew1|refine below_set ?_ wq.out)|exact HB.out)⟩⟩

/-- THE ONE PURE STATEMENT of laws_FnCacheFresh: yours. -/
def laws_FnCacheFresh.Pure : Prop:=∀ (l0 : List Int),l0.length ≤ maxLen → l0.length * 1 ≤ 140737488351232 → (∀ x ∈ l0,(Lit.int .u8 x).wf = true) → ∃ k,laws_FnCacheFresh.f k l0 = some true
theorem laws_FnCacheFresh.walk (P : laws_FnCacheFresh.Pure) (a0 : Option Addr) (jx jr : Nat) (z0 : List Int) (w : World) (w0 : (a0 = none ∧ jx = 0 ∧ jr = 0 ∧ z0 = []) ∨ ∃ x,a0 = some x ∧ jx ≤ jr ∧ jr ≤ maxLen ∧ z0.length = jr ∧ (∀ i,i < z0.length → w.cell? (x.add i) = some (.int .u8 (z0.getD i 0))) ∧ ∀ n ∈ z0,(Lit.int .u8 n).wf = true) (y0 : jx * 1 ≤ 140737488351232) :
  Calls Try.prog 9 #[.slice a0 jx jr] w fun e w' => e = .returned (.bool true) ∧ Below w.heap.size w w':=by
 obtain ⟨l0,rfl,hr0,hm0,hw0,hc0⟩:=ReadsInt.ofRowC w0
 obtain ⟨k,h⟩:=P l0 hm0 y0 hw0
 refine (laws_FnCacheFresh.calls k _ _ l0 true w (Kd.C_of_reads (d:=(0 : Int)) (h1:=fun _=>rfl) hr0) hc0 h).mono ?_
 rintro e w' ⟨rfl,hd⟩
 exact ⟨rfl,hd⟩

end Go.Proofs.Ytpdeincniaiajaa.Hp
