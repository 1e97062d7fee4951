-- hp.py
import Derived.Test.YtpdeincniaiajaaHx0
import Derived.Test.YtpdeincniaiajaaHx45
import Derived.Test.YtpdeincniaiajaaHx48
import Derived.Test.YtpdeincniaiajaaHx53
import Derived.Test.YtpdeincniaiajaaHx54
import Derived.Test.YtpdeincniaiajaaHx67
namespace Go.Proofs.Ytpdeincniaiajaa.Hp
open Go.RowKit Go.Proofs.YtpdeincniaiajaaW.PrintWords Go.Proofs.YtpdeincniaiajaaW.PrintLast Go.Proofs.YtpdeincniaiajaaW.PrintMore
attribute [local go_sem] max2_int min2_int max_two min_two max_three min_three max_four min_four   -- for this text's walks alone
set_option linter.unusedVariables false
set_option linter.unusedSimpArgs false
-- squeezed by wip/tools/squeeze.py
theorem z69x10 {P : Prop} (h : P:=by (with_reducible repeat (first | apply Kd.R_alloc | apply Kd.R_drewN | apply Kd.R_drew));exact HO_3.out) : P:=h
theorem z69x9 {P : Prop} (h : P:=by (with_reducible repeat (first | apply Kd.R_alloc | apply Kd.R_drewN | apply Kd.R_drew));exact HO_10.out) : P:=h
theorem z69x8 {P : Prop} (h : P:=by (with_reducible repeat (first | apply Kd.R_alloc | apply Kd.R_drewN | apply Kd.R_drew));exact qr.out) : P:=h
theorem z69x7 {P : Prop} (h : P:=by (with_reducible repeat (first | refine blk_drewN ?_ _ | refine blk_drew ?_ | refine blk_alloc ?_ _));exact qa.out) : P:=h
theorem z69x6 {P : Prop} (h : P:=by repeat (first | (with_reducible first | exact HB.out | apply below_alloc | apply pw_below_drewN | apply below_drew1) | exact HB.out)) : P:=h
theorem z69x5 {P : Prop} (h : P:=by (try simp only [List.map_toArray,List.map_cons,List.map_nil]);first | done | rfl | (simp only [List.length_drop,List.length_take];rfl)) : P:=h
theorem z69x4 {P : Prop} (h : P:=by (with_reducible repeat (first | apply Kd.R_alloc | apply Kd.R_drewN | apply Kd.R_drew));exact Kd.R_mono HO_3.out (fun _ hk => ⟨hk.2,hk.1⟩)) : P:=h
theorem z69x3 {P : Prop} (h : P:=by (with_reducible repeat (first | apply Kd.V_alloc | apply Kd.V_drewN | apply Kd.V_drew));exact Kd.V_mono HO_8.out (fun _ hk => ⟨⟨hk.1,hk.2.2⟩,hk.2.1⟩)) : P:=h
theorem z69x2 {P : Prop} (h : P:=by repeat (first | (with_reducible first | exact HB.out | apply below_alloc | apply pw_below_drewN | apply below_drew1 | refine below_set ?_ we.out) | exact HB.out)) : P:=h
theorem z69x1 {P : Prop} (h : P:=by (with_reducible repeat (first | apply Kd.R_alloc | apply Kd.R_drewN | apply Kd.R_drew));exact (Kd.R_mono (Kd.R_far (p:=⟨qc,6,none⟩) (Kd.R_far (p:=⟨qc,5,none⟩) (Kd.R_far (p:=⟨qc,4,none⟩) (Kd.R_far (p:=⟨qc,3,none⟩) (Kd.R_far (p:=⟨qc,2,none⟩) (Kd.R_far (p:=⟨qc,1,none⟩) (Kd.R_far (p:=⟨qc,0,none⟩) (Kd.R_mono qr.out (fun k_ hk => (⟨hk,hk.2⟩ : _ ∧ k_ ≠ qc))) (fun _ hk => hk.2) (.int .i64 qf)) (fun _ hk => hk.2) (.int .i64 qh)) (fun _ hk => hk.2) (.int .i64 qi)) (fun _ hk => hk.2) (.int .i64 qj)) (fun _ hk => hk.2) (.int .i64 qk)) (fun _ hk => hk.2) (.int .i64 ql)) (fun _ hk => hk.2) (.int .i64 qm)) (fun _ h_ => h_.1))) : P:=h
theorem z69x0 {P : Prop} (h : P:=by (with_reducible repeat (first | refine blk_drewN ?_ _ | refine blk_drew ?_ | refine blk_alloc ?_ _));refine blk_put (cs:=#[.int .i64 qf,.int .i64 qh,.int .i64 qi,.int .i64 qj,.int .i64 qk,.int .i64 ql,.int .i64 0]) ?_ 6 _ rfl;(with_reducible repeat (first | refine blk_drewN ?_ _ | refine blk_drew ?_ | refine blk_alloc ?_ _));refine blk_put (cs:=#[.int .i64 qf,.int .i64 qh,.int .i64 qi,.int .i64 qj,.int .i64 qk,.int .i64 0,.int .i64 0]) ?_ 5 _ rfl;(with_reducible repeat (first | refine blk_drewN ?_ _ | refine blk_drew ?_ | refine blk_alloc ?_ _));refine blk_put (cs:=#[.int .i64 qf,.int .i64 qh,.int .i64 qi,.int .i64 qj,.int .i64 0,.int .i64 0,.int .i64 0]) ?_ 4 _ rfl;(with_reducible repeat (first | refine blk_drewN ?_ _ | refine blk_drew ?_ | refine blk_alloc ?_ _));refine blk_put (cs:=#[.int .i64 qf,.int .i64 qh,.int .i64 qi,.int .i64 0,.int .i64 0,.int .i64 0,.int .i64 0]) ?_ 3 _ rfl;(with_reducible repeat (first | refine blk_drewN ?_ _ | refine blk_drew ?_ | refine blk_alloc ?_ _));refine blk_put (cs:=#[.int .i64 qf,.int .i64 qh,.int .i64 0,.int .i64 0,.int .i64 0,.int .i64 0,.int .i64 0]) ?_ 2 _ rfl;(with_reducible repeat (first | refine blk_drewN ?_ _ | refine blk_drew ?_ | refine blk_alloc ?_ _));refine blk_put (cs:=#[.int .i64 qf,.int .i64 0,.int .i64 0,.int .i64 0,.int .i64 0,.int .i64 0,.int .i64 0]) ?_ 1 _ rfl;(with_reducible repeat (first | refine blk_drewN ?_ _ | refine blk_drew ?_ | refine blk_alloc ?_ _));refine blk_put (cs:=#[.int .i64 0,.int .i64 0,.int .i64 0,.int .i64 0,.int .i64 0,.int .i64 0,.int .i64 0]) ?_ 0 _ rfl;(with_reducible repeat (first | refine blk_drewN ?_ _ | refine blk_drew ?_ | refine blk_alloc ?_ _));exact qa.out) : P:=h

/-! ### laws_FnCacheKeeps: function 10 -/
mutual
def laws_FnCacheKeeps.j0 : Nat → List (S57) → Int → List (S57) → Bool → List (S57) → Bool → Bool → Int → Int → Int → Int → Int → Int → Int → Option (Bool)
 | 0,_,_,_,_,_,_,_,_,_,_,_,_,_,_ => none
 | k + 1,x3,x5,x6,x7,x8,x9,x47,wb,wa,qz,qy,qx,qw,qv => if x47 = true then (if (x9 == x7) = true then ((laws_lbSeals.f k x8 x6).bind fun jd => (some jd)) else (some false)) else (laws_FnCacheKeeps.l0 k x3 x5 x8 (([] : List (S57))) 0 wb wa qz qy qx qw qv)
def laws_FnCacheKeeps.l0 : Nat → List (S57) → Int → List (S57) → List (S57) → Int → Int → Int → Int → Int → Int → Int → Int → Option (Bool)
 | 0,_,_,_,_,_,_,_,_,_,_,_,_ => none
 | k + 1,x3,x5,x8,x10,x11,wb,wa,qz,qy,qx,qw,qv => if x11 < (x3.length : Int) then (if 0 ≤ x11 then (if ((rd_T57 x3 x11).f3) ≤ x5 then (if (wrap64 (x5 - ((rd_T57 x3 x11).f3))) ≤ 3 then (if x10.length < 2513169434916 then (laws_FnCacheKeeps.l0 k x3 x5 x8 (x10 ++ [(⟨(rd_T57 x3 x11).f0,(rd_T57 x3 x11).f1,(rd_T57 x3 x11).f2,(rd_T57 x3 x11).f3,(rd_T57 x3 x11).f4,(rd_T57 x3 x11).f5,(rd_T57 x3 x11).f6⟩ : S57)]) (wrap64 (x11 + 1)) wb wa qz qy qx qw qv) else (none)) else (laws_FnCacheKeeps.l0 k x3 x5 x8 x10 (wrap64 (x11 + 1)) wb wa qz qy qx qw qv)) else (laws_FnCacheKeeps.l0 k x3 x5 x8 x10 (wrap64 (x11 + 1)) wb wa qz qy qx qw qv)) else (none)) else (if x10.length < 2513169434916 then ((laws_lbSeals.f k x8 (x10 ++ [(⟨wb,wa,qz,qy,qx,qw,qv⟩ : S57)])).bind fun ug => (if ug = true then ((laws_lbAmong.f k x3 wb wa qz qy qx qw qv).bind fun ws => (some (!ws))) else (some false))) else (none))
end
def laws_FnCacheKeeps.f (k : Nat) (l0 : List Int) : Option (Bool):=if (l0.length : Int) > 1048576 then (some true) else ((spec_DrawCacheWith.f k l0).bind fun qb => ((spec_CacheWith.f k qb.1 qb.2.1 qb.2.2.1 qb.2.2.2.1 qb.2.2.2.2.1 qb.2.2.2.2.2.1 qb.2.2.2.2.2.2.1 qb.2.2.2.2.2.2.2.1 qb.2.2.2.2.2.2.2.2).bind fun qn => ((impl_CacheWith.f k qb.1 qb.2.1 qb.2.2.1 qb.2.2.2.1 qb.2.2.2.2.1 qb.2.2.2.2.2.1 qb.2.2.2.2.2.2.1 qb.2.2.2.2.2.2.2.1 qb.2.2.2.2.2.2.2.2).bind fun qg => (if (qg.2 != qn.2) = true then (laws_FnCacheKeeps.j0 k qb.1 qb.2.2.2.2.2.2.2.2 qn.1 qn.2 qg.1 qg.2 true qb.2.1 qb.2.2.1 qb.2.2.2.1 qb.2.2.2.2.1 qb.2.2.2.2.2.1 qb.2.2.2.2.2.2.1 qb.2.2.2.2.2.2.2.1) else ((laws_lbSeals.f k qg.1 qn.1).bind fun wl => (if wl = true then (laws_FnCacheKeeps.j0 k qb.1 qb.2.2.2.2.2.2.2.2 qn.1 qn.2 qg.1 qg.2 (!qg.2) qb.2.1 qb.2.2.1 qb.2.2.2.1 qb.2.2.2.2.1 qb.2.2.2.2.2.1 qb.2.2.2.2.2.2.1 qb.2.2.2.2.2.2.2.1) else (laws_FnCacheKeeps.j0 k qb.1 qb.2.2.2.2.2.2.2.2 qn.1 qn.2 qg.1 qg.2 true qb.2.1 qb.2.2.1 qb.2.2.2.1 qb.2.2.2.2.1 qb.2.2.2.2.2.1 qb.2.2.2.2.2.2.1 qb.2.2.2.2.2.2.2.1)))))))
theorem laws_FnCacheKeeps.mono_l : ∀ k,(∀ y0 y1 y2 y3 y4 y5 y6 y7 y8 y9 y10 y11 y12 y13,LeO (laws_FnCacheKeeps.j0 k y0 y1 y2 y3 y4 y5 y6 y7 y8 y9 y10 y11 y12 y13) (laws_FnCacheKeeps.j0 (k + 1) y0 y1 y2 y3 y4 y5 y6 y7 y8 y9 y10 y11 y12 y13)) ∧ (∀ y0 y1 y2 y3 y4 y5 y6 y7 y8 y9 y10 y11,LeO (laws_FnCacheKeeps.l0 k y0 y1 y2 y3 y4 y5 y6 y7 y8 y9 y10 y11) (laws_FnCacheKeeps.l0 (k + 1) y0 y1 y2 y3 y4 y5 y6 y7 y8 y9 y10 y11))
 | 0 => ⟨fun _ _ _ _ _ _ _ _ _ _ _ _ _ _ r h => by simp [laws_FnCacheKeeps.j0] at h,fun _ _ _ _ _ _ _ _ _ _ _ _ r h => by simp [laws_FnCacheKeeps.l0] at h⟩
 | k + 1 => by
  obtain ⟨ih0,ih1⟩:=laws_FnCacheKeeps.mono_l k
  refine ⟨?_,?_⟩
  ·intro y0 y1 y2 y3 y4 y5 y6 y7 y8 y9 y10 y11 y12 y13
   unfold laws_FnCacheKeeps.j0
   repeat' first
   | (with_reducible exact ih0 _ _ _ _ _ _ _ _ _ _ _ _ _ _)
   | (with_reducible exact ih1 _ _ _ _ _ _ _ _ _ _ _ _)
   | (with_reducible exact impl_CacheWith.mono _ _ _ _ _ _ _ _ _ _)
   | (with_reducible exact laws_lbAmong.mono _ _ _ _ _ _ _ _ _)
   | (with_reducible exact laws_lbSeals.mono _ _ _)
   | (with_reducible exact spec_CacheWith.mono _ _ _ _ _ _ _ _ _ _)
   | (with_reducible exact spec_DrawCacheWith.mono _ _)
   | (with_reducible exact LeO.refl _)
   | (with_reducible exact LeO.none _)
   | (with_reducible refine LeO.ite ?_ ?_)
   | (with_reducible refine LeO.bind ?_ (fun _ => ?_))
   | exact ih0 _ _ _ _ _ _ _ _ _ _ _ _ _ _
   | exact ih1 _ _ _ _ _ _ _ _ _ _ _ _
   | exact impl_CacheWith.mono _ _ _ _ _ _ _ _ _ _
   | exact laws_lbAmong.mono _ _ _ _ _ _ _ _ _
   | exact laws_lbSeals.mono _ _ _
   | exact spec_CacheWith.mono _ _ _ _ _ _ _ _ _ _
   | exact spec_DrawCacheWith.mono _ _
   | exact LeO.none _
   | refine LeO.ite ?_ ?_
   | refine LeO.bind ?_ (fun _ => ?_)
  ·intro y0 y1 y2 y3 y4 y5 y6 y7 y8 y9 y10 y11
   unfold laws_FnCacheKeeps.l0
   repeat' first
   | (with_reducible exact ih0 _ _ _ _ _ _ _ _ _ _ _ _ _ _)
   | (with_reducible exact ih1 _ _ _ _ _ _ _ _ _ _ _ _)
   | (with_reducible exact impl_CacheWith.mono _ _ _ _ _ _ _ _ _ _)
   | (with_reducible exact laws_lbAmong.mono _ _ _ _ _ _ _ _ _)
   | (with_reducible exact laws_lbSeals.mono _ _ _)
   | (with_reducible exact spec_CacheWith.mono _ _ _ _ _ _ _ _ _ _)
   | (with_reducible exact spec_DrawCacheWith.mono _ _)
   | (with_reducible exact LeO.refl _)
   | (with_reducible exact LeO.none _)
   | (with_reducible refine LeO.ite ?_ ?_)
   | (with_reducible refine LeO.bind ?_ (fun _ => ?_))
   | exact ih0 _ _ _ _ _ _ _ _ _ _ _ _ _ _
   | exact ih1 _ _ _ _ _ _ _ _ _ _ _ _
   | exact impl_CacheWith.mono _ _ _ _ _ _ _ _ _ _
   | exact laws_lbAmong.mono _ _ _ _ _ _ _ _ _
   | exact laws_lbSeals.mono _ _ _
   | exact spec_CacheWith.mono _ _ _ _ _ _ _ _ _ _
   | exact spec_DrawCacheWith.mono _ _
   | exact LeO.none _
   | refine LeO.ite ?_ ?_
   | refine LeO.bind ?_ (fun _ => ?_)
theorem laws_FnCacheKeeps.mono : ∀ a0 k,LeO (laws_FnCacheKeeps.f k a0) (laws_FnCacheKeeps.f (k + 1) a0):=by
 intro a0 k
 obtain ⟨ih0,ih1⟩:=laws_FnCacheKeeps.mono_l k
 unfold laws_FnCacheKeeps.f
 repeat' first
   | (with_reducible exact ih0 _ _ _ _ _ _ _ _ _ _ _ _ _ _)
   | (with_reducible exact ih1 _ _ _ _ _ _ _ _ _ _ _ _)
   | (with_reducible exact impl_CacheWith.mono _ _ _ _ _ _ _ _ _ _)
   | (with_reducible exact laws_lbAmong.mono _ _ _ _ _ _ _ _ _)
   | (with_reducible exact laws_lbSeals.mono _ _ _)
   | (with_reducible exact spec_CacheWith.mono _ _ _ _ _ _ _ _ _ _)
   | (with_reducible exact spec_DrawCacheWith.mono _ _)
   | (with_reducible exact LeO.refl _)
   | (with_reducible exact LeO.none _)
   | (with_reducible refine LeO.ite ?_ ?_)
   | (with_reducible refine LeO.bind ?_ (fun _ => ?_))
   | exact ih0 _ _ _ _ _ _ _ _ _ _ _ _ _ _
   | exact ih1 _ _ _ _ _ _ _ _ _ _ _ _
   | exact impl_CacheWith.mono _ _ _ _ _ _ _ _ _ _
   | exact laws_lbAmong.mono _ _ _ _ _ _ _ _ _
   | exact laws_lbSeals.mono _ _ _
   | exact spec_CacheWith.mono _ _ _ _ _ _ _ _ _ _
   | exact spec_DrawCacheWith.mono _ _
   | exact LeO.none _
   | refine LeO.ite ?_ ?_
   | refine LeO.bind ?_ (fun _ => ?_)
set_option maxHeartbeats 8000000 in
set_option maxRecDepth 100000 in
theorem laws_FnCacheKeeps.calls (k : Nat) (A0 : Option Addr) (c0 : Nat) (l0 : List Int) (r : Bool) (w : World) (hr0 : Kd.C (Kd.int .u8) w A0 l0.length l0) (hc0 : l0.length ≤ c0) (h : laws_FnCacheKeeps.f k l0 = some r) :
  Calls Try.prog 10 #[.slice A0 l0.length c0] w fun e w' => e = .returned (.bool r) ∧ Below w.heap.size w w':=by
 have qbr:=Try.underlying57
 have HR0:=Aside0.mk hr0
 have HC0:=Aside0.mk hc0
 clear hr0 hc0
 have HB:=Aside0.mk (Below.refl w.heap.size w)
 have H : (if (l0.length : Int) > 1048576 then (some true) else ((spec_DrawCacheWith.f k l0).bind fun qb => ((spec_CacheWith.f k qb.1 qb.2.1 qb.2.2.1 qb.2.2.2.1 qb.2.2.2.2.1 qb.2.2.2.2.2.1 qb.2.2.2.2.2.2.1 qb.2.2.2.2.2.2.2.1 qb.2.2.2.2.2.2.2.2).bind fun qn => ((impl_CacheWith.f k qb.1 qb.2.1 qb.2.2.1 qb.2.2.2.1 qb.2.2.2.2.1 qb.2.2.2.2.2.1 qb.2.2.2.2.2.2.1 qb.2.2.2.2.2.2.2.1 qb.2.2.2.2.2.2.2.2).bind fun qg => (if (qg.2 != qn.2) = true then (laws_FnCacheKeeps.j0 k qb.1 qb.2.2.2.2.2.2.2.2 qn.1 qn.2 qg.1 qg.2 true qb.2.1 qb.2.2.1 qb.2.2.2.1 qb.2.2.2.2.1 qb.2.2.2.2.2.1 qb.2.2.2.2.2.2.1 qb.2.2.2.2.2.2.2.1) else ((laws_lbSeals.f k qg.1 qn.1).bind fun wl => (if wl = true then (laws_FnCacheKeeps.j0 k qb.1 qb.2.2.2.2.2.2.2.2 qn.1 qn.2 qg.1 qg.2 (!qg.2) qb.2.1 qb.2.2.1 qb.2.2.2.1 qb.2.2.2.2.1 qb.2.2.2.2.2.1 qb.2.2.2.2.2.2.1 qb.2.2.2.2.2.2.2.1) else (laws_FnCacheKeeps.j0 k qb.1 qb.2.2.2.2.2.2.2.2 qn.1 qn.2 qg.1 qg.2 true qb.2.1 qb.2.2.1 qb.2.2.2.1 qb.2.2.2.2.1 qb.2.2.2.2.2.1 qb.2.2.2.2.2.2.1 qb.2.2.2.2.2.2.2.1)))))))) = some r:=h
 clear h
 by_cases c2 : (l0.length : Int) > 1048576
 ·rw [if_pos c2] at H
  have jw : decide (1048576 < (l0.length : Int)) = true:=decide_eq_true c2
  have jv : decide (1048576 < l0.length) = true:=decide_eq_true (by omega)
  clear c2
  obtain rfl:=Option.some.inj H
  go_enter Try.func10,Try.ntmps10
  go_wp2
  go_ret
  exact ⟨by first | rfl | (simp [errW_none,errW_some] <;> rfl) | (simp [*,errW_none,errW_some] <;> rfl),by repeat (first | (with_reducible first | exact HB.out | apply below_alloc | apply pw_below_drewN | apply below_drew1) | exact HB.out)⟩
 ·rw [if_neg c2] at H
  have jw : decide (1048576 < (l0.length : Int)) = false:=decide_eq_false c2
  have jv : decide (1048576 < l0.length) = false:=decide_eq_false (by omega)
  clear c2
  replace H:=Option.bind_eq_some_iff.mp H
  obtain ⟨⟨qe,qf,qh,qi,qj,qk,ql,qm,qo⟩,A30,H⟩:=H
  replace H : ((spec_CacheWith.f k qe qf qh qi qj qk ql qm qo).bind fun qn => ((impl_CacheWith.f k qe qf qh qi qj qk ql qm qo).bind fun qg => (if (qg.2 != qn.2) = true then (laws_FnCacheKeeps.j0 k qe qo qn.1 qn.2 qg.1 qg.2 true qf qh qi qj qk ql qm) else ((laws_lbSeals.f k qg.1 qn.1).bind fun wl => (if wl = true then (laws_FnCacheKeeps.j0 k qe qo qn.1 qn.2 qg.1 qg.2 (!qg.2) qf qh qi qj qk ql qm) else (laws_FnCacheKeeps.j0 k qe qo qn.1 qn.2 qg.1 qg.2 true qf qh qi qj qk ql qm)))))) = some r:=H
  have A3:=Aside0.mk A30
  clear A30
  replace H:=Option.bind_eq_some_iff.mp H
  obtain ⟨⟨wg,qp⟩,A40,H⟩:=H
  replace H : ((impl_CacheWith.f k qe qf qh qi qj qk ql qm qo).bind fun qg => (if (qg.2 != qp) = true then (laws_FnCacheKeeps.j0 k qe qo wg qp qg.1 qg.2 true qf qh qi qj qk ql qm) else ((laws_lbSeals.f k qg.1 wg).bind fun wl => (if wl = true then (laws_FnCacheKeeps.j0 k qe qo wg qp qg.1 qg.2 (!qg.2) qf qh qi qj qk ql qm) else (laws_FnCacheKeeps.j0 k qe qo wg qp qg.1 qg.2 true qf qh qi qj qk ql qm))))) = some r:=H
  have A4:=Aside0.mk A40
  clear A40
  replace H:=Option.bind_eq_some_iff.mp H
  obtain ⟨⟨qt,qq⟩,A50,H⟩:=H
  replace H : (if (qq != qp) = true then (laws_FnCacheKeeps.j0 k qe qo wg qp qt qq true qf qh qi qj qk ql qm) else ((laws_lbSeals.f k qt wg).bind fun wl => (if wl = true then (laws_FnCacheKeeps.j0 k qe qo wg qp qt qq (!qq) qf qh qi qj qk ql qm) else (laws_FnCacheKeeps.j0 k qe qo wg qp qt qq true qf qh qi qj qk ql qm)))) = some r:=H
  have A5:=Aside0.mk A50
  clear A50
  have HC6:=Aside0.mk H
  clear H
  go_enter Try.func10,Try.ntmps10
  go_upto_region 6 with (first | ((with_reducible refine gate_callee (f:=36) rfl ?_);refine goesL_ (some 17) rfl rfl Try.func36 (by kernel_rfl) rfl #[.slice A0 l0.length c0] rfl z69x5 ?_;(with_reducible refine (spec_DrawCacheWith.calls k _ _ l0 qe qf qh qi qj qk ql qm qo _ ?side1 ?side2 A3.out).mono ?_);(case side1 => repeat (first | exact HR0.out | (with_reducible refine Kd.C_alloc ?_ _) | (with_reducible refine Kd.C_drewN ?_ _) | (with_reducible refine Kd.C_drew ?_)));(case side2 => exact HC0.out);rintro e w7 ⟨qbq,rfl,ho0,hb⟩; refine ⟨_,rfl,?_⟩; have n0_:=Aside0.mk (Kd.R_lower ho0 (below_size z69x6));have n1_:=Aside0.mk (below_step z69x6 hb);clear HB;have qr:=n0_;have HB:=n1_;clear n0_ n1_;(try clear hb);(try clear hb2);(try clear hk);(try clear hi);(try clear ho0)) | ((with_reducible refine gate_dst (N:=4) rfl ?_);refine box_event ?hg (N:=4) ?hd (cs:=#[.int .i64 0,.int .i64 0,.int .i64 0,.int .i64 0,.int .i64 0,.int .i64 0,.int .i64 0]) (t:=57) ?hr ?_;(case hd => rfl);(case hg => rfl);(case hr => first | (go_simp;done) | (go_simp;rfl));intro qc hg w8 hbox hb;have n0_:=Aside0.mk (Kd.R_below (Kd.R_elderB z69x8 qc (Nat.le_of_eq hg.symm)) hb);have n1_:=Aside0.mk (below_step z69x6 hb);have n2_:=Aside0.mk (hbox);have n3_:=Aside0.mk ((by rw [hg];exact (below_size z69x6) : w.heap.size ≤ qc));have n4_:=Aside0.mk ((by rw [hg];exact (below_size z69x6) : w.heap.size ≤ qc));clear qr;clear HB;have qr:=n0_;have HB:=n1_;have qa:=n2_;have qbn:=n3_;have we:=n4_;clear n0_ n1_ n2_ n3_ n4_;clear hb hbox hg;have uw : w8.cell? ⟨qc,0,none⟩ = some (.int .i64 0):=(blk_cell qa.out 0).trans rfl;have uv : w8.cell? ⟨qc,1,none⟩ = some (.int .i64 0):=(blk_cell qa.out 1).trans rfl;have uu : w8.cell? ⟨qc,2,none⟩ = some (.int .i64 0):=(blk_cell qa.out 2).trans rfl;have ut : w8.cell? ⟨qc,3,none⟩ = some (.int .i64 0):=(blk_cell qa.out 3).trans rfl;have us : w8.cell? ⟨qc,4,none⟩ = some (.int .i64 0):=(blk_cell qa.out 4).trans rfl;have ur : w8.cell? ⟨qc,5,none⟩ = some (.int .i64 0):=(blk_cell qa.out 5).trans rfl;have uq : w8.cell? ⟨qc,6,none⟩ = some (.int .i64 0):=(blk_cell qa.out 6).trans rfl;have uo:=blk_frozen qa.out 0;have un:=blk_frozen qa.out 1;have um:=blk_frozen qa.out 2;have ul:=blk_frozen qa.out 3;have uk:=blk_frozen qa.out 4;have uj:=blk_frozen qa.out 5;have ui:=blk_frozen qa.out 6;obtain ⟨wk,wh,qba⟩:=Kd.R_slice qr.out;subst qba) | ((with_reducible refine gate_callee (f:=37) rfl ?_);refine goesL_ (some 25) rfl rfl Try.func37 (by kernel_rfl) rfl #[.slice wk qe.length wh,.agg #[.int .i64 qf,.int .i64 qh,.int .i64 qi,.int .i64 qj,.int .i64 qk,.int .i64 ql,.int .i64 qm],.int .i64 qo] rfl z69x5 ?_;(with_reducible refine (spec_CacheWith.calls k _ _ qe qf qh qi qj qk ql qm qo wg qp _ ?side1 ?side2 A4.out).mono ?_);(case side1 => refine (Kd.R_reads' (e:=57) (base:=w.heap.size) (ok:=fun k_ => (True ∧ k_ ≠ qc)) (n:=qe.length) (c:=wh) ?_).2.2;exact z69x1);(case side2 => exact (Kd.R_reads' qr.out).2.1);rintro e w11 ⟨jc,rfl,ho0,hb⟩; refine ⟨_,rfl,?_⟩; have n0_:=Aside0.mk (Kd.R_elder' z69x1 (Kd.R_base ho0) hb);have n1_:=Aside0.mk (Kd.R_lower (Kd.R_newB (Kd.R_new' ho0 (Kd.R_lt z69x1)) (g:=qc) (o:=.cells #[.int .i64 qf,.int .i64 qh,.int .i64 qi,.int .i64 qj,.int .i64 qk,.int .i64 ql,.int .i64 qm] 57 (0,0)) z69x0) (below_size z69x2));have n2_:=Aside0.mk (blk_below (g:=qc) (o:=.cells #[.int .i64 qf,.int .i64 qh,.int .i64 qi,.int .i64 qj,.int .i64 qk,.int .i64 ql,.int .i64 qm] 57 (0,0)) z69x0 hb);have n3_:=Aside0.mk (below_step z69x2 hb);clear qr;clear qa;clear HB;have qr:=n0_;have qu:=n1_;have qa:=n2_;have HB:=n3_;clear n0_ n1_ n2_ n3_;(try clear hb);(try clear hb2);(try clear hk);(try clear hi);(try clear ho0);have uf : w11.cell? ⟨qc,0,none⟩ = some (.int .i64 qf):=(blk_cell qa.out 0).trans rfl;have ue : w11.cell? ⟨qc,1,none⟩ = some (.int .i64 qh):=(blk_cell qa.out 1).trans rfl;have ud : w11.cell? ⟨qc,2,none⟩ = some (.int .i64 qi):=(blk_cell qa.out 2).trans rfl;have uc : w11.cell? ⟨qc,3,none⟩ = some (.int .i64 qj):=(blk_cell qa.out 3).trans rfl;have ub : w11.cell? ⟨qc,4,none⟩ = some (.int .i64 qk):=(blk_cell qa.out 4).trans rfl;have ua : w11.cell? ⟨qc,5,none⟩ = some (.int .i64 ql):=(blk_cell qa.out 5).trans rfl;have vz : w11.cell? ⟨qc,6,none⟩ = some (.int .i64 qm):=(blk_cell qa.out 6).trans rfl;have vy:=blk_frozen qa.out 0;have vx:=blk_frozen qa.out 1;have vw:=blk_frozen qa.out 2;have vv:=blk_frozen qa.out 3;have vu:=blk_frozen qa.out 4;have vt:=blk_frozen qa.out 5;have vr:=blk_frozen qa.out 6) | ((with_reducible refine gate_callee (f:=38) rfl ?_);refine goesL_ (some 32) rfl rfl Try.func38 (by kernel_rfl) rfl #[.slice wk qe.length wh,.agg #[.int .i64 qf,.int .i64 qh,.int .i64 qi,.int .i64 qj,.int .i64 qk,.int .i64 ql,.int .i64 qm],.int .i64 qo] rfl z69x5 ?_;(with_reducible refine (impl_CacheWith.calls k _ _ qe qf qh qi qj qk ql qm qo qt qq _ ?side1 ?side2 A5.out).mono ?_);(case side1 => repeat (first | exact (Kd.R_reads' qr.out).2.2 | (with_reducible refine Kd.C_alloc ?_ _) | (with_reducible refine Kd.C_drewN ?_ _) | (with_reducible refine Kd.C_drew ?_)));(case side2 => exact (Kd.R_reads' qr.out).2.1);rintro e w13 ⟨jz,rfl,ho0,hb⟩; refine ⟨_,rfl,?_⟩; have n0_:=Aside0.mk (Kd.R_below z69x8 hb);have n1_:=Aside0.mk (Kd.R_below (by (with_reducible repeat (first | apply Kd.R_alloc | apply Kd.R_drewN | apply Kd.R_drew));exact qu.out) hb);have n2_:=Aside0.mk (Kd.V_lower (Kd.V_mono (ok':=fun k_ => some k_ ≠ (.slice wk qe.length wh : Value).ownBlock ∧ some k_ ≠ (jc : Value).ownBlock ∧ k_ ≠ qc) ho0 (fun k_ hk_ => ⟨(Kd.fresh' (Kd.R_lt z69x8) k_ hk_),(Kd.fresh' (Kd.R_lt (by (with_reducible repeat (first | apply Kd.R_alloc | apply Kd.R_drewN | apply Kd.R_drew));exact qu.out)) k_ hk_),(Kd.freshB (g:=qc) (o:=.cells #[.int .i64 qf,.int .i64 qh,.int .i64 qi,.int .i64 qj,.int .i64 qk,.int .i64 ql,.int .i64 qm] 57 (0,0)) z69x7 k_ hk_)⟩)) (below_size z69x2));have n3_:=Aside0.mk (blk_below (g:=qc) (o:=.cells #[.int .i64 qf,.int .i64 qh,.int .i64 qi,.int .i64 qj,.int .i64 qk,.int .i64 ql,.int .i64 qm] 57 (0,0)) z69x7 hb);have n4_:=Aside0.mk (below_step z69x2 hb);clear qr;clear qu;clear qa;clear HB;have qr:=n0_;have qu:=n1_;have wj:=n2_;have qa:=n3_;have HB:=n4_;clear n0_ n1_ n2_ n3_ n4_;(try clear hb);(try clear hb2);(try clear hk);(try clear hi);(try clear ho0)))
  (try simp only [Act.put,List.setIfInBounds_toArray,List.set_cons_zero,List.set_cons_succ])
  go_cut [47] (fun v47 wc => ∃ (kq : Nat) (wz : Bool),v47 = .bool wz ∧ Aside0 (laws_FnCacheKeeps.j0 kq qe qo wg qp qt qq wz qf qh qi qj qk ql qm = some r) ∧ Aside0 (kq ≤ k) ∧ Aside0 (Kd.R k57 57 wc w.heap.size (fun k_ => some k_ ≠ (jc : Value).ownBlock ∧ k_ ≠ qc) (.slice wk qe.length wh) qe) ∧ Aside0 (Kd.R k57 57 wc w.heap.size (fun k_ => some k_ ≠ ((.slice wk qe.length wh) : Value).ownBlock ∧ k_ ≠ qc) jc wg) ∧ Aside0 (Kd.V k57 57 wc w.heap.size (fun k_ => some k_ ≠ ((.slice wk qe.length wh) : Value).ownBlock ∧ some k_ ≠ (jc : Value).ownBlock ∧ k_ ≠ qc) jz qt) ∧ Aside0 (wc.heap[qc]? = some (.cells #[.int .i64 qf,.int .i64 qh,.int .i64 qi,.int .i64 qj,.int .i64 qk,.int .i64 ql,.int .i64 qm] 57 (0,0))) ∧ Aside0 (Below w.heap.size w wc))
  case first =>
   have H:=HC6.out
   clear HC6
   by_cases c14 : (qq != qp) = true
   ·rw [if_pos c14] at H
    have wo : (qq != qp) = true:=c14
    (try (have ja : decide (qq = qp) = false:=by simpa using c14))
    (try (have uz : (qq == qp) = false:=by simpa using c14))
    (try (have qbm : ¬ (qq = qp):=by simpa using c14))
    clear c14
    (first | rw [wo] | (simp only [i64_w,i32_w];rw [wo]) | skip)
    have H':=Aside0.mk H
    clear H
    go_wp2
    go_meet
    case rel => exact ⟨_,(true),(by first | rfl | (simp;done) | (simp [*];done)),H',⟨by first | omega | exact Nat.le_refl _⟩,⟨by (with_reducible repeat (first | apply Kd.R_alloc | apply Kd.R_drewN | apply Kd.R_drew));exact Kd.R_mono qr.out (fun _ hk => ⟨hk.2,hk.1.2⟩)⟩,⟨by (with_reducible repeat (first | apply Kd.R_alloc | apply Kd.R_drewN | apply Kd.R_drew));exact Kd.R_mono qu.out (fun _ hk => ⟨hk.1.2,hk.2⟩)⟩,⟨by (with_reducible repeat (first | apply Kd.V_alloc | apply Kd.V_drewN | apply Kd.V_drew));exact wj.out⟩,⟨by (with_reducible repeat (first | refine blk_drewN ?_ _ | refine blk_drew ?_ | refine blk_alloc ?_ _));exact qa.out⟩,⟨by repeat (first | (with_reducible first | exact HB.out | apply below_alloc | apply pw_below_drewN | apply below_drew1 | refine below_set ?_ we.out) | exact HB.out)⟩⟩
   ·rw [if_neg c14] at H
    have wo : (qq != qp) = false:=by simpa using c14
    (try (have ja : decide (qq = qp) = true:=by simpa using c14))
    (try (have uz : (qq == qp) = true:=by simpa using c14))
    clear c14
    (first | rw [wo] | (simp only [i64_w,i32_w];rw [wo]) | skip)
    replace H:=Option.bind_eq_some_iff.mp H
    obtain ⟨wl,gp,H⟩:=H
    replace H : (if wl = true then (laws_FnCacheKeeps.j0 k qe qo wg qp qt qq (!qq) qf qh qi qj qk ql qm) else (laws_FnCacheKeeps.j0 k qe qo wg qp qt qq true qf qh qi qj qk ql qm)) = some r:=H
    have A15:=Aside0.mk gp
    clear gp
    by_cases c16 : wl = true
    ·subst c16
     rw [if_pos rfl] at H
     have H':=Aside0.mk H
     clear H
     obtain ⟨qcd,qbx,qaz⟩:=Kd.V_slice wj.out
     subst qaz
     obtain ⟨qcc,qbw,qay⟩:=Kd.R_slice qu.out
     subst qay
     go_wp2_with (first | (go_at_call 39;(with_reducible refine (laws_lbSeals.calls k _ _ qt _ _ wg true _ ?side1 ?side2 ?side3 ?side4 A15.out).mono ?_);(case side1 => repeat (first | exact (Kd.V_reads' wj.out).2.2 | (with_reducible refine Kd.C_alloc ?_ _) | (with_reducible refine Kd.C_drewN ?_ _) | (with_reducible refine Kd.C_drew ?_)));(case side2 => exact (Kd.V_reads' wj.out).2.1);(case side3 => repeat (first | exact (Kd.R_reads' qu.out).2.2 | (with_reducible refine Kd.C_alloc ?_ _) | (with_reducible refine Kd.C_drewN ?_ _) | (with_reducible refine Kd.C_drew ?_)));(case side4 => exact (Kd.R_reads' qu.out).2.1);rintro e w' ⟨rfl,⟨nd,rfl⟩⟩))
     go_meet
     case rel => exact ⟨_,(!qq),(by first | rfl | (simp;done) | (simp [*];done)),H',⟨by first | omega | exact Nat.le_refl _⟩,⟨by (with_reducible repeat (first | apply Kd.R_alloc | apply Kd.R_drewN | apply Kd.R_drew));exact Kd.R_mono qr.out (fun _ hk => ⟨hk.2,hk.1.2⟩)⟩,⟨by (with_reducible repeat (first | apply Kd.R_alloc | apply Kd.R_drewN | apply Kd.R_drew));exact Kd.R_mono qu.out (fun _ hk => ⟨hk.1.2,hk.2⟩)⟩,⟨by (with_reducible repeat (first | apply Kd.V_alloc | apply Kd.V_drewN | apply Kd.V_drew));exact wj.out⟩,⟨by (with_reducible repeat (first | refine blk_drewN ?_ _ | refine blk_drew ?_ | refine blk_alloc ?_ _));exact qa.out⟩,⟨by repeat (first | (with_reducible first | exact HB.out | apply below_alloc | apply pw_below_drewN | apply below_drew1 | refine below_set ?_ we.out) | exact HB.out)⟩⟩
    ·replace c16:=Bool.eq_false_iff.mpr c16
     subst c16
     rw [if_neg (show ¬ (false = true) by decide)] at H
     have H':=Aside0.mk H
     clear H
     obtain ⟨qcb,qbv,qax⟩:=Kd.V_slice wj.out
     subst qax
     obtain ⟨qca,qbu,qaw⟩:=Kd.R_slice qu.out
     subst qaw
     go_wp2_with (first | (go_at_call 39;(with_reducible refine (laws_lbSeals.calls k _ _ qt _ _ wg false _ ?side1 ?side2 ?side3 ?side4 A15.out).mono ?_);(case side1 => repeat (first | exact (Kd.V_reads' wj.out).2.2 | (with_reducible refine Kd.C_alloc ?_ _) | (with_reducible refine Kd.C_drewN ?_ _) | (with_reducible refine Kd.C_drew ?_)));(case side2 => exact (Kd.V_reads' wj.out).2.1);(case side3 => repeat (first | exact (Kd.R_reads' qu.out).2.2 | (with_reducible refine Kd.C_alloc ?_ _) | (with_reducible refine Kd.C_drewN ?_ _) | (with_reducible refine Kd.C_drew ?_)));(case side4 => exact (Kd.R_reads' qu.out).2.1);rintro e w' ⟨rfl,⟨nd,rfl⟩⟩))
     go_meet
     case rel => exact ⟨_,(true),(by first | rfl | (simp;done) | (simp [*];done)),H',⟨by first | omega | exact Nat.le_refl _⟩,⟨by (with_reducible repeat (first | apply Kd.R_alloc | apply Kd.R_drewN | apply Kd.R_drew));exact Kd.R_mono qr.out (fun _ hk => ⟨hk.2,hk.1.2⟩)⟩,⟨by (with_reducible repeat (first | apply Kd.R_alloc | apply Kd.R_drewN | apply Kd.R_drew));exact Kd.R_mono qu.out (fun _ hk => ⟨hk.1.2,hk.2⟩)⟩,⟨by (with_reducible repeat (first | apply Kd.V_alloc | apply Kd.V_drewN | apply Kd.V_drew));exact wj.out⟩,⟨by (with_reducible repeat (first | refine blk_drewN ?_ _ | refine blk_drew ?_ | refine blk_alloc ?_ _));exact qa.out⟩,⟨by repeat (first | (with_reducible first | exact HB.out | apply below_alloc | apply pw_below_drewN | apply below_drew1 | refine below_set ?_ we.out) | exact HB.out)⟩⟩
  case rest =>
   clear HC6
   try clear c1
   try clear c2
   try clear jw
   try clear jv
   try clear p2
   try clear c3
   try clear c10
   try clear c14
   try clear wo
   try clear ja
   try clear uz
   try clear c16
   try clear uf
   try clear ue
   try clear ud
   try clear uc
   try clear ub
   try clear ua
   try clear vz
   try clear uw
   try clear uv
   try clear uu
   try clear ut
   try clear us
   try clear ur
   try clear uq
   try clear vy
   try clear vx
   try clear vw
   try clear vv
   try clear vu
   try clear vt
   try clear vr
   try clear uo
   try clear un
   try clear um
   try clear ul
   try clear uk
   try clear uj
   try clear ui
   obtain ⟨kq,wz,rfl,HA,HJ5,HO_3,HO_6,HO_8,qa,HB⟩:=hcut
   cases kq with
   | zero => exact absurd HA.out (by simp [laws_FnCacheKeeps.j0])
   | succ kj5 =>
    have H:=HA.out
    clear HA
    simp only [laws_FnCacheKeeps.j0] at H
    by_cases c21 : wz = true
    ·subst c21
     rw [if_pos rfl] at H
     by_cases c22 : (qq == qp) = true
     ·rw [if_pos c22] at H
      have jo : (qq == qp) = true:=c22
      (try (have jn : decide (qq = qp) = true:=by simpa using c22))
      (try (have jm : (qq == qp) = true:=by simpa using c22))
      clear c22
      replace H:=Option.bind_eq_some_iff.mp H
      obtain ⟨jd,gn,H⟩:=H
      replace H : (some jd) = some r:=H
      have A23:=Aside0.mk gn
      clear gn
      obtain rfl:=Option.some.inj H
      obtain ⟨qbz,qbt,qav⟩:=Kd.V_slice HO_8.out
      subst qav
      obtain ⟨qby,qbs,qau⟩:=Kd.R_slice HO_6.out
      subst qau
      go_wp2_with (first | (go_at_call 39;(with_reducible refine (laws_lbSeals.calls kj5 _ _ qt _ _ wg jd _ ?side1 ?side2 ?side3 ?side4 A23.out).mono ?_);(case side1 => repeat (first | exact (Kd.V_reads' HO_8.out).2.2 | (with_reducible refine Kd.C_alloc ?_ _) | (with_reducible refine Kd.C_drewN ?_ _) | (with_reducible refine Kd.C_drew ?_)));(case side2 => exact (Kd.V_reads' HO_8.out).2.1);(case side3 => repeat (first | exact (Kd.R_reads' HO_6.out).2.2 | (with_reducible refine Kd.C_alloc ?_ _) | (with_reducible refine Kd.C_drewN ?_ _) | (with_reducible refine Kd.C_drew ?_)));(case side4 => exact (Kd.R_reads' HO_6.out).2.1);rintro e w' ⟨rfl,⟨nd,rfl⟩⟩))
      go_ret
      exact ⟨by first | rfl | (simp [errW_none,errW_some] <;> rfl) | (simp [*,errW_none,errW_some] <;> rfl),by repeat (first | (with_reducible first | exact HB.out | apply below_alloc | apply pw_below_drewN | apply below_drew1 | refine below_set ?_ we.out) | exact HB.out)⟩
     ·rw [if_neg c22] at H
      have jo : (qq == qp) = false:=by simpa using c22
      (try (have jn : decide (qq = qp) = false:=by simpa using c22))
      (try (have jm : (qq == qp) = false:=by simpa using c22))
      (try (have qbl : ¬ (qq = qp):=by simpa using c22))
      clear c22
      obtain rfl:=Option.some.inj H
      go_wp2
      go_ret
      exact ⟨by first | rfl | (simp [errW_none,errW_some] <;> rfl) | (simp [*,errW_none,errW_some] <;> rfl),by repeat (first | (with_reducible first | exact HB.out | apply below_alloc | apply pw_below_drewN | apply below_drew1 | refine below_set ?_ we.out) | exact HB.out)⟩
    ·replace c21:=Bool.eq_false_iff.mpr c21
     subst c21
     rw [if_neg (show ¬ (false = true) by decide)] at H
     obtain ⟨jy,wv⟩ : ∃ y_ : List (S57),y_ = (([] : List (S57))):=⟨_,rfl⟩
     replace H : (laws_FnCacheKeeps.l0 kj5 qe qo qt jy 0 qf qh qi qj qk ql qm) = some r:=by first | (rw [wv];with_reducible exact H) | (have H2_:=(Option.bind_some _ _).symm.trans H;rw [wv];with_reducible exact H2_) | (have H2_:=(Option.bind_some _ _).symm.trans H;with_reducible exact H2_) | with_reducible exact H | (rw [wv];exact H) | exact H
     have jq:=Aside0.mk wv
     clear wv
     have H':=Aside0.mk H
     clear H
     go_wp2_with (first | ((with_reducible refine gate_dst (N:=56) rfl ?_);refine Kd.R_lit k57 _ 57 ?hg (N:=56) ?hd (xs:=([] : List (S57))) (inner:=[]) (ok:=fun _ => True) (okp:=fun _ => True) ?hr ?hp (fun _ hk => hk) trivial (Below.refl _ _) (Nat.le_refl _) (by simp) ?_;(case hd => rfl);(case hg => rfl);(case hr => first | (go_simp;done) | (go_simp;rfl));(case hp => exact (Reps.none _ _));intro qbp w26 ww hb hg_ hnew_;clear hg_ hnew_;(first | rw [← jq.out] at ww | (simp only [Int.reduceToNat] at ww;rw [← jq.out] at ww));have n0_:=Aside0.mk (Kd.R_elder' z69x10 (Kd.R_base ww) hb);have n1_:=Aside0.mk (Kd.R_elder' (by (with_reducible repeat (first | apply Kd.R_alloc | apply Kd.R_drewN | apply Kd.R_drew));exact HO_6.out) (Kd.R_base ww) hb);have n2_:=Aside0.mk (Kd.V_elder' (by (with_reducible repeat (first | apply Kd.V_alloc | apply Kd.V_drewN | apply Kd.V_drew));exact HO_8.out) (Kd.R_base ww) hb);have n3_:=Aside0.mk (Kd.R_lower (Kd.R_newB (Kd.R_new' (Kd.R_new' ww (Kd.R_lt z69x10)) (Kd.R_lt (by (with_reducible repeat (first | apply Kd.R_alloc | apply Kd.R_drewN | apply Kd.R_drew));exact HO_6.out))) (g:=qc) (o:=.cells #[.int .i64 qf,.int .i64 qh,.int .i64 qi,.int .i64 qj,.int .i64 qk,.int .i64 ql,.int .i64 qm] 57 (0,0)) z69x7) (below_size z69x2));have n4_:=Aside0.mk (blk_below (g:=qc) (o:=.cells #[.int .i64 qf,.int .i64 qh,.int .i64 qi,.int .i64 qj,.int .i64 qk,.int .i64 ql,.int .i64 qm] 57 (0,0)) z69x7 hb);have n5_:=Aside0.mk (below_step z69x2 hb);clear HO_3;clear HO_6;clear HO_8;clear qa;clear HB;have HO_3:=n0_;have HO_6:=n1_;have HO_8:=n2_;have gj:=n3_;have qa:=n4_;have HB:=n5_;clear n0_ n1_ n2_ n3_ n4_ n5_;clear hb ww))
     go_loopg [10,11] kj5 (fun kq v10 v11 w' => ∃ (wd : List (S57)) (qd : Int),v11 = .int .i64 qd ∧ Aside0 (laws_FnCacheKeeps.l0 kq qe qo qt wd qd qf qh qi qj qk ql qm = some r) ∧ Aside0 (kq ≤ kj5) ∧ Aside0 (Kd.R k57 57 w' w.heap.size (fun k_ => some k_ ≠ (v10 : Value).ownBlock ∧ k_ ≠ qc) (.slice wk qe.length wh) qe) ∧ Aside0 (Kd.V k57 57 w' w.heap.size (fun k_ => some k_ ≠ ((.slice wk qe.length wh) : Value).ownBlock ∧ some k_ ≠ (v10 : Value).ownBlock ∧ k_ ≠ qc) jz qt) ∧ Aside0 (Kd.R k57 57 w' w.heap.size (fun k_ => some k_ ≠ ((.slice wk qe.length wh) : Value).ownBlock ∧ k_ ≠ qc) v10 wd) ∧ Aside0 (w'.heap[qc]? = some (.cells #[.int .i64 qf,.int .i64 qh,.int .i64 qi,.int .i64 qj,.int .i64 qk,.int .i64 ql,.int .i64 qm] 57 (0,0))) ∧ Aside0 (Below w.heap.size w w'))
     case atStart => exact ⟨(jy),(0),(by first | rfl | (simp;done) | (simp [*];done)),H',⟨Nat.le_refl _⟩,⟨by (with_reducible repeat (first | apply Kd.R_alloc | apply Kd.R_drewN | apply Kd.R_drew));exact Kd.R_mono HO_3.out (fun _ hk => ⟨hk.2,hk.1.2⟩)⟩,⟨by (with_reducible repeat (first | apply Kd.V_alloc | apply Kd.V_drewN | apply Kd.V_drew));exact Kd.V_mono HO_8.out (fun _ hk => ⟨hk.1.1,⟨hk.2,hk.1.2.2⟩⟩)⟩,⟨by (with_reducible repeat (first | apply Kd.R_alloc | apply Kd.R_drewN | apply Kd.R_drew));exact Kd.R_mono gj.out (fun _ hk => ⟨hk.1.1.2,hk.2⟩)⟩,⟨by (with_reducible repeat (first | refine blk_drewN ?_ _ | refine blk_drew ?_ | refine blk_alloc ?_ _));exact qa.out⟩,⟨by repeat (first | (with_reducible first | exact HB.out | apply below_alloc | apply pw_below_drewN | apply below_drew1 | refine below_set ?_ we.out) | exact HB.out)⟩⟩
     case round =>
      clear H'
      try clear c1
      try clear c2
      try clear jw
      try clear jv
      try clear p2
      try clear c3
      try clear c10
      try clear c14
      try clear wo
      try clear ja
      try clear uz
      try clear c16
      try clear c21
      try clear c22
      try clear jo
      try clear jn
      try clear jm
      try clear uf
      try clear ue
      try clear ud
      try clear uc
      try clear ub
      try clear ua
      try clear vz
      try clear uw
      try clear uv
      try clear uu
      try clear ut
      try clear us
      try clear ur
      try clear uq
      try clear vy
      try clear vx
      try clear vw
      try clear vv
      try clear vu
      try clear vt
      try clear vr
      try clear uo
      try clear un
      try clear um
      try clear ul
      try clear uk
      try clear uj
      try clear ui
      try clear p2
      obtain ⟨wd,qd,rfl,HA,HK2,HO_3,HO_8,HO_10,qa,HB⟩:=hrel
      cases gk with
      | zero => exact absurd HA.out (by simp [laws_FnCacheKeeps.l0])
      | succ k2 =>
       have H:=HA.out
       clear HA
       simp only [laws_FnCacheKeeps.l0] at H
       by_cases c28 : qd < (qe.length : Int)
       ·rw [if_pos c28] at H
        have gc : decide (qd < (qe.length : Int)) = true:=decide_eq_true c28
        clear c28
        by_cases c29 : 0 ≤ qd
        rotate_left
        ·rw [if_neg c29] at H
         exact absurd H (by simp)
        rw [if_pos c29] at H
        have qbk : decide (0 ≤ qd) = true:=decide_eq_true c29
        clear c29
        by_cases c30 : ((rd_T57 qe qd).f3) ≤ qo
        ·rw [if_pos c30] at H
         have gb : decide (((rd_T57 qe qd).f3) ≤ qo) = true:=decide_eq_true c30
         clear c30
         by_cases c31 : (wrap64 (qo - ((rd_T57 qe qd).f3))) ≤ 3
         ·rw [if_pos c31] at H
          have ga : decide ((wrap64 (qo - ((rd_T57 qe qd).f3))) ≤ 3) = true:=decide_eq_true c31
          clear c31
          by_cases c32 : wd.length < 2513169434916
          rotate_left
          ·rw [if_neg c32] at H
           exact absurd H (by simp)
          rw [if_pos c32] at H
          have gh:=Aside0.mk c32
          clear c32
          obtain ⟨jx,wu⟩ : ∃ y_ : List (S57),y_ = (wd ++ [(⟨(rd_T57 qe qd).f0,(rd_T57 qe qd).f1,(rd_T57 qe qd).f2,(rd_T57 qe qd).f3,(rd_T57 qe qd).f4,(rd_T57 qe qd).f5,(rd_T57 qe qd).f6⟩ : S57)]):=⟨_,rfl⟩
          replace H : (laws_FnCacheKeeps.l0 k2 qe qo qt jx (wrap64 (qd + 1)) qf qh qi qj qk ql qm) = some r:=by first | (rw [wu];with_reducible exact H) | (have H2_:=(Option.bind_some _ _).symm.trans H;rw [wu];with_reducible exact H2_) | (have H2_:=(Option.bind_some _ _).symm.trans H;with_reducible exact H2_) | with_reducible exact H | (rw [wu];exact H) | exact H
          have gg:=Aside0.mk wu
          clear wu
          have H':=Aside0.mk H
          clear H
          have wn : 0 ≤ (qd : Int):=of_decide_eq_true (by first | (with_reducible assumption) | assumption)
          have wm : qd < (qe.length : Int):=of_decide_eq_true (by first | (with_reducible assumption) | assumption)
          obtain ⟨wq,ux,vq,vp,vo,vn,vm,vl,vk⟩:=at_T57 (Kd.R_reads' HO_3.out).2.2 qd wn wm
          cases ux
          replace wn:=eq_true wn
          replace wm:=eq_true wm
          have wy : 0 ≤ (qd : Int):=of_decide_eq_true (by first | (with_reducible assumption) | assumption)
          have wx : qd < (qe.length : Int):=of_decide_eq_true (by first | (with_reducible assumption) | assumption)
          obtain ⟨jb,ju,jl,jk,jj,ji,jh,jg,jf⟩:=at_T57 (Kd.R_reads' HO_3.out).2.2 qd wy wx
          obtain rfl : wq = jb:=(by injection ju)
          replace wy:=eq_true wy
          replace wx:=eq_true wx
          have jt : 0 ≤ (qd : Int):=of_decide_eq_true (by first | (with_reducible assumption) | assumption)
          have js : qd < (qe.length : Int):=of_decide_eq_true (by first | (with_reducible assumption) | assumption)
          obtain ⟨gf,qbb,gw,gv,gu,gt,gs,gr,gq⟩:=at_T57 (Kd.R_reads' HO_3.out).2.2 qd jt js
          obtain rfl : wq = gf:=(by injection qbb)
          replace jt:=eq_true jt
          replace js:=eq_true js
          go_wp2_with (first | ((with_reducible refine gate_builtin (b:=.append) (xs:=#[.tmp 80,.tmp 85]) rfl ?_);at_builtin;refine Kd.R_append k57 (w0:=w) w.heap.size rfl (.tmp 80) (.tmp 85) 27 57 (.agg #[(.int .i64 0),(.int .i64 0),(.int .i64 0),(.int .i64 0),(.int .i64 0),(.int .i64 0),(.int .i64 0)]) 56 rfl Try.underlying27 info57 rfl (by decide) (by omega) u10 wd (⟨(rd_T57 qe qd).f0,(rd_T57 qe qd).f1,(rd_T57 qe qd).f2,(rd_T57 qe qd).f3,(rd_T57 qe qd).f4,(rd_T57 qe qd).f5,(rd_T57 qe qd).f6⟩ : S57) [.int .i64 ((rd_T57 qe qd).f0),.int .i64 ((rd_T57 qe qd).f1),.int .i64 ((rd_T57 qe qd).f2),.int .i64 ((rd_T57 qe qd).f3),.int .i64 ((rd_T57 qe qd).f4),.int .i64 ((rd_T57 qe qd).f5),.int .i64 ((rd_T57 qe qd).f6)] (fun k_ => some k_ ≠ (.slice (some wq) qe.length wh : Value).ownBlock ∧ k_ ≠ qc) (fun _ => False) rfl rfl ?aP (fun _ hk => hk.elim) ?aF ?aO ?aB ?aS ?aL ?_;(case aP => exact k57_mkM _ _ _ (⟨(rd_T57 qe qd).f0,(rd_T57 qe qd).f1,(rd_T57 qe qd).f2,(rd_T57 qe qd).f3,(rd_T57 qe qd).f4,(rd_T57 qe qd).f5,(rd_T57 qe qd).f6⟩ : S57));(case aB => exact z69x2);(case aF => exact (fun k_ hk => ⟨Kd.fresh' (Kd.R_lt z69x10) k_ hk,Kd.freshB (g:=qc) (o:=.cells #[.int .i64 qf,.int .i64 qh,.int .i64 qi,.int .i64 qj,.int .i64 qk,.int .i64 ql,.int .i64 qm] 57 (0,0)) z69x7 k_ hk⟩));(case aO => exact z69x9);(case aS => exact (below_size z69x2));(case aL => have:=gh.out;omega);intro qbo w33 ho hb hg hat;rw [← gg.out] at ho;have n0_:=Aside0.mk (Kd.R_after (ok:=(fun k_ => k_ ≠ qc)) z69x4 hg hat);have n1_:=Aside0.mk (Kd.V_afterv (ok:=(fun k_ => some k_ ≠ (.slice (some wq) qe.length wh : Value).ownBlock ∧ k_ ≠ qc)) z69x3 hg hat);have n2_:=Aside0.mk (blk_grown (g:=qc) (o:=.cells #[.int .i64 qf,.int .i64 qh,.int .i64 qi,.int .i64 qj,.int .i64 qk,.int .i64 ql,.int .i64 qm] 57 (0,0)) z69x7 hg (Kd.R_away HO_10.out (fun _ hk => hk.2)));have n3_:=Aside0.mk (hb);have n4_:=Aside0.mk (ho);clear HO_3;clear HO_8;clear qa;clear HB;clear HO_10;have HO_3:=n0_;have HO_8:=n1_;have qa:=n2_;have HB:=n3_;have gi:=n4_;clear n0_ n1_ n2_ n3_ n4_;clear ho hb hg hat))
          go_roundg k2
          case measure => have:=HJ5.out;have:=HK2.out;omega
          case rel => exact ⟨(jx),(wrap64 (qd + 1)),(by first | rfl | (simp;done) | (simp [*];done)),H',⟨by have:=HJ5.out;have:=HK2.out;omega⟩,⟨by (with_reducible repeat (first | apply Kd.R_alloc | apply Kd.R_drewN | apply Kd.R_drew));exact Kd.R_mono HO_3.out (fun _ hk => ⟨hk.2,hk.1⟩)⟩,⟨by (with_reducible repeat (first | apply Kd.V_alloc | apply Kd.V_drewN | apply Kd.V_drew));exact Kd.V_mono HO_8.out (fun _ hk => ⟨hk.1.1,⟨hk.2,hk.1.2⟩⟩)⟩,⟨by (with_reducible repeat (first | apply Kd.R_alloc | apply Kd.R_drewN | apply Kd.R_drew));exact gi.out⟩,⟨by (with_reducible repeat (first | refine blk_drewN ?_ _ | refine blk_drew ?_ | refine blk_alloc ?_ _));exact qa.out⟩,⟨by repeat (first | (with_reducible first | exact HB.out | apply below_alloc | apply pw_below_drewN | apply below_drew1 | refine below_set ?_ we.out) | exact HB.out)⟩⟩
         ·rw [if_neg c31] at H
          have ga : decide ((wrap64 (qo - ((rd_T57 qe qd).f3))) ≤ 3) = false:=decide_eq_false c31
          clear c31
          have H':=Aside0.mk H
          clear H
          have wn : 0 ≤ (qd : Int):=of_decide_eq_true (by first | (with_reducible assumption) | assumption)
          have wm : qd < (qe.length : Int):=of_decide_eq_true (by first | (with_reducible assumption) | assumption)
          obtain ⟨wq,ux,vq,vp,vo,vn,vm,vl,vk⟩:=at_T57 (Kd.R_reads' HO_3.out).2.2 qd wn wm
          cases ux
          replace wn:=eq_true wn
          replace wm:=eq_true wm
          have wy : 0 ≤ (qd : Int):=of_decide_eq_true (by first | (with_reducible assumption) | assumption)
          have wx : qd < (qe.length : Int):=of_decide_eq_true (by first | (with_reducible assumption) | assumption)
          obtain ⟨jb,ju,jl,jk,jj,ji,jh,jg,jf⟩:=at_T57 (Kd.R_reads' HO_3.out).2.2 qd wy wx
          obtain rfl : wq = jb:=(by injection ju)
          replace wy:=eq_true wy
          replace wx:=eq_true wx
          go_wp2
          go_roundg k2
          case measure => have:=HJ5.out;have:=HK2.out;omega
          case rel => exact ⟨(wd),(wrap64 (qd + 1)),(by first | rfl | (simp;done) | (simp [*];done)),H',⟨by have:=HJ5.out;have:=HK2.out;omega⟩,⟨by (with_reducible repeat (first | apply Kd.R_alloc | apply Kd.R_drewN | apply Kd.R_drew));exact HO_3.out⟩,⟨by (with_reducible repeat (first | apply Kd.V_alloc | apply Kd.V_drewN | apply Kd.V_drew));exact HO_8.out⟩,⟨by (with_reducible repeat (first | apply Kd.R_alloc | apply Kd.R_drewN | apply Kd.R_drew));exact HO_10.out⟩,⟨by (with_reducible repeat (first | refine blk_drewN ?_ _ | refine blk_drew ?_ | refine blk_alloc ?_ _));exact qa.out⟩,⟨by repeat (first | (with_reducible first | exact HB.out | apply below_alloc | apply pw_below_drewN | apply below_drew1 | refine below_set ?_ we.out) | exact HB.out)⟩⟩
        ·rw [if_neg c30] at H
         have gb : decide (((rd_T57 qe qd).f3) ≤ qo) = false:=decide_eq_false c30
         clear c30
         have H':=Aside0.mk H
         clear H
         have wn : 0 ≤ (qd : Int):=of_decide_eq_true (by first | (with_reducible assumption) | assumption)
         have wm : qd < (qe.length : Int):=of_decide_eq_true (by first | (with_reducible assumption) | assumption)
         obtain ⟨wq,ux,vq,vp,vo,vn,vm,vl,vk⟩:=at_T57 (Kd.R_reads' HO_3.out).2.2 qd wn wm
         cases ux
         replace wn:=eq_true wn
         replace wm:=eq_true wm
         go_wp2
         go_roundg k2
         case measure => have:=HJ5.out;have:=HK2.out;omega
         case rel => exact ⟨(wd),(wrap64 (qd + 1)),(by first | rfl | (simp;done) | (simp [*];done)),H',⟨by have:=HJ5.out;have:=HK2.out;omega⟩,⟨by (with_reducible repeat (first | apply Kd.R_alloc | apply Kd.R_drewN | apply Kd.R_drew));exact HO_3.out⟩,⟨by (with_reducible repeat (first | apply Kd.V_alloc | apply Kd.V_drewN | apply Kd.V_drew));exact HO_8.out⟩,⟨by (with_reducible repeat (first | apply Kd.R_alloc | apply Kd.R_drewN | apply Kd.R_drew));exact HO_10.out⟩,⟨by (with_reducible repeat (first | refine blk_drewN ?_ _ | refine blk_drew ?_ | refine blk_alloc ?_ _));exact qa.out⟩,⟨by repeat (first | (with_reducible first | exact HB.out | apply below_alloc | apply pw_below_drewN | apply below_drew1 | refine below_set ?_ we.out) | exact HB.out)⟩⟩
       ·rw [if_neg c28] at H
        have gc : decide (qd < (qe.length : Int)) = false:=decide_eq_false c28
        clear c28
        by_cases c34 : wd.length < 2513169434916
        rotate_left
        ·rw [if_neg c34] at H
         exact absurd H (by simp)
        rw [if_pos c34] at H
        have jr:=Aside0.mk c34
        clear c34
        obtain ⟨uh,wt⟩ : ∃ y_ : List (S57),y_ = (wd ++ [(⟨qf,qh,qi,qj,qk,ql,qm⟩ : S57)]):=⟨_,rfl⟩
        replace H : ((laws_lbSeals.f k2 qt uh).bind fun ug => (if ug = true then ((laws_lbAmong.f k2 qe qf qh qi qj qk ql qm).bind fun ws => (some (!ws))) else (some false))) = some r:=by first | (rw [wt];with_reducible exact H) | (have H2_:=(Option.bind_some _ _).symm.trans H;rw [wt];with_reducible exact H2_) | (have H2_:=(Option.bind_some _ _).symm.trans H;with_reducible exact H2_) | with_reducible exact H | (rw [wt];exact H) | exact H
        have jp:=Aside0.mk wt
        clear wt
        replace H:=Option.bind_eq_some_iff.mp H
        obtain ⟨ug,gm,H⟩:=H
        replace H : (if ug = true then ((laws_lbAmong.f k2 qe qf qh qi qj qk ql qm).bind fun ws => (some (!ws))) else (some false)) = some r:=H
        have A35:=Aside0.mk gm
        clear gm
        by_cases c36 : ug = true
        ·subst c36
         rw [if_pos rfl] at H
         replace H:=Option.bind_eq_some_iff.mp H
         obtain ⟨ws,gl,H⟩:=H
         replace H : (some (!ws)) = some r:=H
         have A37:=Aside0.mk gl
         clear gl
         obtain rfl:=Option.some.inj H
         have qao : wr.cell? ⟨qc,0,none⟩ = some (.int .i64 qf):=(blk_cell qa.out 0).trans rfl
         have qan : wr.cell? ⟨qc,1,none⟩ = some (.int .i64 qh):=(blk_cell qa.out 1).trans rfl
         have qam : wr.cell? ⟨qc,2,none⟩ = some (.int .i64 qi):=(blk_cell qa.out 2).trans rfl
         have qal : wr.cell? ⟨qc,3,none⟩ = some (.int .i64 qj):=(blk_cell qa.out 3).trans rfl
         have qak : wr.cell? ⟨qc,4,none⟩ = some (.int .i64 qk):=(blk_cell qa.out 4).trans rfl
         have qaj : wr.cell? ⟨qc,5,none⟩ = some (.int .i64 ql):=(blk_cell qa.out 5).trans rfl
         have qai : wr.cell? ⟨qc,6,none⟩ = some (.int .i64 qm):=(blk_cell qa.out 6).trans rfl
         have pr:=blk_frozen qa.out 0
         have pq:=blk_frozen qa.out 1
         have pp:=blk_frozen qa.out 2
         have po:=blk_frozen qa.out 3
         have pn:=blk_frozen qa.out 4
         have pm:=blk_frozen qa.out 5
         have pl:=blk_frozen qa.out 6
         go_wp2_with (first | ((with_reducible refine gate_builtin (b:=.append) (xs:=#[.tmp 88,.tmp 90]) rfl ?_);at_builtin;refine Kd.R_append k57 (w0:=w) w.heap.size rfl (.tmp 88) (.tmp 90) 27 57 (.agg #[(.int .i64 0),(.int .i64 0),(.int .i64 0),(.int .i64 0),(.int .i64 0),(.int .i64 0),(.int .i64 0)]) 56 rfl Try.underlying27 info57 rfl (by decide) (by omega) u10 wd (⟨qf,qh,qi,qj,qk,ql,qm⟩ : S57) [.int .i64 qf,.int .i64 qh,.int .i64 qi,.int .i64 qj,.int .i64 qk,.int .i64 ql,.int .i64 qm] (fun k_ => some k_ ≠ (.slice wk qe.length wh : Value).ownBlock ∧ k_ ≠ qc) (fun _ => False) rfl rfl ?aP (fun _ hk => hk.elim) ?aF ?aO ?aB ?aS ?aL ?_;(case aP => exact k57_mkM _ _ _ (⟨qf,qh,qi,qj,qk,ql,qm⟩ : S57));(case aB => exact z69x2);(case aF => exact (fun k_ hk => ⟨Kd.fresh' (Kd.R_lt z69x10) k_ hk,Kd.freshB (g:=qc) (o:=.cells #[.int .i64 qf,.int .i64 qh,.int .i64 qi,.int .i64 qj,.int .i64 qk,.int .i64 ql,.int .i64 qm] 57 (0,0)) z69x7 k_ hk⟩));(case aO => exact z69x9);(case aS => exact (below_size z69x2));(case aL => have:=jr.out;omega);intro qap w39 ho hb hg hat;rw [← jp.out] at ho;have n0_:=Aside0.mk (Kd.R_after (ok:=(fun k_ => k_ ≠ qc)) z69x4 hg hat);have n1_:=Aside0.mk (Kd.V_afterv (ok:=(fun k_ => some k_ ≠ (.slice wk qe.length wh : Value).ownBlock ∧ k_ ≠ qc)) z69x3 hg hat);have n2_:=Aside0.mk (blk_grown (g:=qc) (o:=.cells #[.int .i64 qf,.int .i64 qh,.int .i64 qi,.int .i64 qj,.int .i64 qk,.int .i64 ql,.int .i64 qm] 57 (0,0)) z69x7 hg (Kd.R_away HO_10.out (fun _ hk => hk.2)));have n3_:=Aside0.mk (hb);have n4_:=Aside0.mk (ho);clear HO_3;clear HO_8;clear qa;clear HB;clear HO_10;have HO_3:=n0_;have HO_8:=n1_;have qa:=n2_;have HB:=n3_;have wi:=n4_;clear n0_ n1_ n2_ n3_ n4_;clear ho hb hg hat;obtain ⟨qbj,qbf,qat⟩:=Kd.V_slice HO_8.out;subst qat;obtain ⟨qbi,qbe,qas⟩:=Kd.R_slice wi.out;subst qas) | ((with_reducible refine gate_callee (f:=39) rfl ?_);refine goesL_ (some 92) rfl rfl Try.func39 (by kernel_rfl) rfl #[.slice qbj qt.length qbf,.slice qbi uh.length qbe] rfl z69x5 ?_;(with_reducible refine (laws_lbSeals.calls k2 _ _ qt _ _ uh true _ ?side1 ?side2 ?side3 ?side4 A35.out).mono ?_);(case side1 => repeat (first | exact (Kd.V_reads' HO_8.out).2.2 | (with_reducible refine Kd.C_alloc ?_ _) | (with_reducible refine Kd.C_drewN ?_ _) | (with_reducible refine Kd.C_drew ?_)));(case side2 => exact (Kd.V_reads' HO_8.out).2.1);(case side3 => repeat (first | exact (Kd.R_reads' wi.out).2.2 | (with_reducible refine Kd.C_alloc ?_ _) | (with_reducible refine Kd.C_drewN ?_ _) | (with_reducible refine Kd.C_drew ?_)));(case side4 => exact (Kd.R_reads' wi.out).2.1);rintro e w' ⟨rfl,⟨nd,rfl⟩⟩; refine ⟨_,rfl,?_⟩; have qah : w39.cell? ⟨qc,0,none⟩ = some (.int .i64 qf):=(blk_cell qa.out 0).trans rfl;have qag : w39.cell? ⟨qc,1,none⟩ = some (.int .i64 qh):=(blk_cell qa.out 1).trans rfl;have qaf : w39.cell? ⟨qc,2,none⟩ = some (.int .i64 qi):=(blk_cell qa.out 2).trans rfl;have qae : w39.cell? ⟨qc,3,none⟩ = some (.int .i64 qj):=(blk_cell qa.out 3).trans rfl;have qad : w39.cell? ⟨qc,4,none⟩ = some (.int .i64 qk):=(blk_cell qa.out 4).trans rfl;have qac : w39.cell? ⟨qc,5,none⟩ = some (.int .i64 ql):=(blk_cell qa.out 5).trans rfl;have qab : w39.cell? ⟨qc,6,none⟩ = some (.int .i64 qm):=(blk_cell qa.out 6).trans rfl;have pk:=blk_frozen qa.out 0;have pj:=blk_frozen qa.out 1;have pi:=blk_frozen qa.out 2;have ph:=blk_frozen qa.out 3;have pg:=blk_frozen qa.out 4;have pf:=blk_frozen qa.out 5;have pe:=blk_frozen qa.out 6) | (go_at_call 44;(with_reducible refine (laws_lbAmong.calls k2 _ _ qe qf qh qi qj qk ql qm ws _ ?side1 ?side2 A37.out).mono ?_);(case side1 => repeat (first | exact (Kd.R_reads' HO_3.out).2.2 | (with_reducible refine Kd.C_alloc ?_ _) | (with_reducible refine Kd.C_drewN ?_ _) | (with_reducible refine Kd.C_drew ?_)));(case side2 => exact (Kd.R_reads' HO_3.out).2.1);rintro e w43 ⟨rfl,hb⟩; have n0_:=Aside0.mk (Kd.R_below z69x10 hb);have n1_:=Aside0.mk (Kd.V_below (by (with_reducible repeat (first | apply Kd.V_alloc | apply Kd.V_drewN | apply Kd.V_drew));exact HO_8.out) hb);have n2_:=Aside0.mk (Kd.R_below (by (with_reducible repeat (first | apply Kd.R_alloc | apply Kd.R_drewN | apply Kd.R_drew));exact wi.out) hb);have n3_:=Aside0.mk (blk_below (g:=qc) (o:=.cells #[.int .i64 qf,.int .i64 qh,.int .i64 qi,.int .i64 qj,.int .i64 qk,.int .i64 ql,.int .i64 qm] 57 (0,0)) z69x7 hb);have n4_:=Aside0.mk (below_step z69x2 hb);clear HO_3;clear HO_8;clear wi;clear qa;clear HB;have HO_3:=n0_;have HO_8:=n1_;have wi:=n2_;have qa:=n3_;have HB:=n4_;clear n0_ n1_ n2_ n3_ n4_;(try clear hb);(try clear hb2);(try clear hk);(try clear hi)))
         go_ret
         exact ⟨by first | rfl | (simp [errW_none,errW_some] <;> rfl) | (simp [*,errW_none,errW_some] <;> rfl),by repeat (first | (with_reducible first | exact HB.out | apply below_alloc | apply pw_below_drewN | apply below_drew1 | refine below_set ?_ we.out) | exact HB.out)⟩
        ·replace c36:=Bool.eq_false_iff.mpr c36
         subst c36
         rw [if_neg (show ¬ (false = true) by decide)] at H
         obtain rfl:=Option.some.inj H
         have qaa : wr.cell? ⟨qc,0,none⟩ = some (.int .i64 qf):=(blk_cell qa.out 0).trans rfl
         have pz : wr.cell? ⟨qc,1,none⟩ = some (.int .i64 qh):=(blk_cell qa.out 1).trans rfl
         have px : wr.cell? ⟨qc,2,none⟩ = some (.int .i64 qi):=(blk_cell qa.out 2).trans rfl
         have pw : wr.cell? ⟨qc,3,none⟩ = some (.int .i64 qj):=(blk_cell qa.out 3).trans rfl
         have pv : wr.cell? ⟨qc,4,none⟩ = some (.int .i64 qk):=(blk_cell qa.out 4).trans rfl
         have pu : wr.cell? ⟨qc,5,none⟩ = some (.int .i64 ql):=(blk_cell qa.out 5).trans rfl
         have pt : wr.cell? ⟨qc,6,none⟩ = some (.int .i64 qm):=(blk_cell qa.out 6).trans rfl
         have pd:=blk_frozen qa.out 0
         have pc:=blk_frozen qa.out 1
         have pb:=blk_frozen qa.out 2
         have pa:=blk_frozen qa.out 3
         have gz:=blk_frozen qa.out 4
         have gy:=blk_frozen qa.out 5
         have gx:=blk_frozen qa.out 6
         go_wp2_with (first | ((with_reducible refine gate_builtin (b:=.append) (xs:=#[.tmp 88,.tmp 90]) rfl ?_);at_builtin;refine Kd.R_append k57 (w0:=w) w.heap.size rfl (.tmp 88) (.tmp 90) 27 57 (.agg #[(.int .i64 0),(.int .i64 0),(.int .i64 0),(.int .i64 0),(.int .i64 0),(.int .i64 0),(.int .i64 0)]) 56 rfl Try.underlying27 info57 rfl (by decide) (by omega) u10 wd (⟨qf,qh,qi,qj,qk,ql,qm⟩ : S57) [.int .i64 qf,.int .i64 qh,.int .i64 qi,.int .i64 qj,.int .i64 qk,.int .i64 ql,.int .i64 qm] (fun k_ => some k_ ≠ (.slice wk qe.length wh : Value).ownBlock ∧ k_ ≠ qc) (fun _ => False) rfl rfl ?aP (fun _ hk => hk.elim) ?aF ?aO ?aB ?aS ?aL ?_;(case aP => exact k57_mkM _ _ _ (⟨qf,qh,qi,qj,qk,ql,qm⟩ : S57));(case aB => exact z69x2);(case aF => exact (fun k_ hk => ⟨Kd.fresh' (Kd.R_lt z69x10) k_ hk,Kd.freshB (g:=qc) (o:=.cells #[.int .i64 qf,.int .i64 qh,.int .i64 qi,.int .i64 qj,.int .i64 qk,.int .i64 ql,.int .i64 qm] 57 (0,0)) z69x7 k_ hk⟩));(case aO => exact z69x9);(case aS => exact (below_size z69x2));(case aL => have:=jr.out;omega);intro qap w45 ho hb hg hat;rw [← jp.out] at ho;have n0_:=Aside0.mk (Kd.R_after (ok:=(fun k_ => k_ ≠ qc)) z69x4 hg hat);have n1_:=Aside0.mk (Kd.V_afterv (ok:=(fun k_ => some k_ ≠ (.slice wk qe.length wh : Value).ownBlock ∧ k_ ≠ qc)) z69x3 hg hat);have n2_:=Aside0.mk (blk_grown (g:=qc) (o:=.cells #[.int .i64 qf,.int .i64 qh,.int .i64 qi,.int .i64 qj,.int .i64 qk,.int .i64 ql,.int .i64 qm] 57 (0,0)) z69x7 hg (Kd.R_away HO_10.out (fun _ hk => hk.2)));have n3_:=Aside0.mk (hb);have n4_:=Aside0.mk (ho);clear HO_3;clear HO_8;clear qa;clear HB;clear HO_10;have HO_3:=n0_;have HO_8:=n1_;have qa:=n2_;have HB:=n3_;have wi:=n4_;clear n0_ n1_ n2_ n3_ n4_;clear ho hb hg hat;obtain ⟨qbh,qbd,qar⟩:=Kd.V_slice HO_8.out;subst qar;obtain ⟨qbg,qbc,qaq⟩:=Kd.R_slice wi.out;subst qaq) | ((with_reducible refine gate_callee (f:=39) rfl ?_);refine goesL_ (some 92) rfl rfl Try.func39 (by kernel_rfl) rfl #[.slice qbh qt.length qbd,.slice qbg uh.length qbc] rfl z69x5 ?_;(with_reducible refine (laws_lbSeals.calls k2 _ _ qt _ _ uh false _ ?side1 ?side2 ?side3 ?side4 A35.out).mono ?_);(case side1 => repeat (first | exact (Kd.V_reads' HO_8.out).2.2 | (with_reducible refine Kd.C_alloc ?_ _) | (with_reducible refine Kd.C_drewN ?_ _) | (with_reducible refine Kd.C_drew ?_)));(case side2 => exact (Kd.V_reads' HO_8.out).2.1);(case side3 => repeat (first | exact (Kd.R_reads' wi.out).2.2 | (with_reducible refine Kd.C_alloc ?_ _) | (with_reducible refine Kd.C_drewN ?_ _) | (with_reducible refine Kd.C_drew ?_)));(case side4 => exact (Kd.R_reads' wi.out).2.1);rintro e w' ⟨rfl,⟨nd,rfl⟩⟩; refine ⟨_,rfl,?_⟩))
         go_ret
         exact ⟨by first | rfl | (simp [errW_none,errW_some] <;> rfl) | (simp [*,errW_none,errW_some] <;> rfl),by repeat (first | (with_reducible first | exact HB.out | apply below_alloc | apply pw_below_drewN | apply below_drew1 | refine below_set ?_ we.out) | exact HB.out)⟩
/-- THE ONE PURE STATEMENT of laws_FnCacheKeeps: yours. -/
def laws_FnCacheKeeps.Pure : Prop:=∀ (l0 : List Int),l0.length ≤ maxLen → l0.length * 1 ≤ 140737488351232 → (∀ x ∈ l0,(Lit.int .u8 x).wf = true) → ∃ k,laws_FnCacheKeeps.f k l0 = some true
theorem laws_FnCacheKeeps.walk (P : laws_FnCacheKeeps.Pure) (a0 : Option Addr) (je uy : Nat) (z0 : List Int) (w : World) (w0 : (a0 = none ∧ je = 0 ∧ uy = 0 ∧ z0 = []) ∨ ∃ x,a0 = some x ∧ je ≤ uy ∧ uy ≤ maxLen ∧ z0.length = uy ∧ (∀ i,i < z0.length → w.cell? (x.add i) = some (.int .u8 (z0.getD i 0))) ∧ ∀ n ∈ z0,(Lit.int .u8 n).wf = true) (y0 : je * 1 ≤ 140737488351232) :
  Calls Try.prog 10 #[.slice a0 je uy] w fun e w' => e = .returned (.bool true) ∧ Below w.heap.size w w':=by
 obtain ⟨l0,rfl,hr0,hm0,hw0,hc0⟩:=ReadsInt.ofRowC w0
 obtain ⟨k,h⟩:=P l0 hm0 y0 hw0
 refine (laws_FnCacheKeeps.calls k _ _ l0 true w (Kd.C_of_reads (d:=(0 : Int)) (h1:=fun _ => rfl) hr0) hc0 h).mono ?_
 rintro e w' ⟨rfl,hd⟩
 exact ⟨rfl,hd⟩

end Go.Proofs.Ytpdeincniaiajaa.Hp
