-- hp.py
import Derived.Test.YtbipicjijbnbbaaHx0
import Derived.Test.YtbipicjijbnbbaaHx14
import Derived.Test.YtbipicjijbnbbaaHx16
import Derived.Test.YtbipicjijbnbbaaHx17
import Derived.Test.YtbipicjijbnbbaaHx18
namespace Go.Proofs.Ytbipicjijbnbbaa.Hp
open Go.RowKit Go.Proofs.YtbipicjijbnbbaaW.PrintWords Go.Proofs.YtbipicjijbnbbaaW.PrintLast Go.Proofs.YtbipicjijbnbbaaW.PrintMore
attribute [local go_sem] max2_int min2_int max_two min_two max_three min_three max_four min_four   -- for this text's walks alone
set_option linter.unusedVariables false
set_option linter.unusedSimpArgs false
theorem z19a {P : Prop} (h : P:=by simp only [Act.put,List.setIfInBounds_toArray,List.set_cons_zero,List.set_cons_succ,i64_w,i32_w];rfl) : P:=h
-- squeezed by wip/tools/squeeze.py
theorem z19x5 {P : Prop} (h : P:=by (with_reducible repeat (first|refine blk_drewN ?_ _|refine blk_drew ?_|refine blk_alloc ?_ _));exact qb.out) : P:=h
theorem z19x4 {P : Prop} (h : P:=by (with_reducible repeat (first|refine blk_drewN ?_ _|refine blk_drew ?_|refine blk_alloc ?_ _));exact qa.out) : P:=h
theorem z19x3 {P : Prop} (h : P:=by repeat (first|(with_reducible first|exact HB.out|apply below_alloc|apply pw_below_drewN|apply below_drew1)|exact HB.out)) : P:=h
theorem z19x2 {P : Prop} (h : P:=by (try simp only [List.map_toArray,List.map_cons,List.map_nil]);first|done|rfl|(simp only [List.length_drop,List.length_take];rfl)) : P:=h
theorem z19x1 {P : Prop} (h : P:=by rw [hg];exact (below_size (by repeat (first|(with_reducible first|exact HB.out|apply below_alloc|apply pw_below_drewN|apply below_drew1|refine below_set ?_ ue.out)|exact HB.out)))) : P:=h
theorem z19x0 {P : Prop} (h : P:=by repeat (first|(with_reducible first|exact HB.out|apply below_alloc|apply pw_below_drewN|apply below_drew1|refine below_set ?_ ue.out|refine below_set ?_ uv.out)|exact HB.out)) : P:=h

/-! ### laws_lbWorld: function 42 -/
mutual
def laws_lbWorld.j0 : Nat → Bool → Int → Int → List (S41) → List (S28) → List (S128) → List (S34) → Int → Int → Int → List (S41) → List (S28) → List (S128) → List (S34) → Int → Option (Bool)
 | 0,_,_,_,_,_,_,_,_,_,_,_,_,_,_,_=>none
 | k + 1,x54,jd,jc,jb,wg,wq,wn,ja,uz,uy,ux,we,wo,wm,uw=>if x54 = true then (some false) else (laws_lbWorld.l0 k 0 jd jc jb wg wq wn ja uz uy ux we wo wm uw)
def laws_lbWorld.l0 : Nat → Int → Int → Int → List (S41) → List (S28) → List (S128) → List (S34) → Int → Int → Int → List (S41) → List (S28) → List (S128) → List (S34) → Int → Option (Bool)
 | 0,_,_,_,_,_,_,_,_,_,_,_,_,_,_,_=>none
 | k + 1,x5,jd,jc,jb,wg,wq,wn,ja,uz,uy,ux,we,wo,wm,uw=>if x5 < (wg.length : Int) then (if 0 ≤ x5 then (if x5 < (we.length : Int) then ((laws_lbClient.f k ((rd_T28 wg x5).f0) ((rd_T28 wg x5).f1) ((rd_T28 wg x5).f2) ((rd_T28 wg x5).f3) ((rd_T28 wg x5).f4) ((rd_T28 wg x5).f5) ((rd_T28 we x5).f0) ((rd_T28 we x5).f1) ((rd_T28 we x5).f2) ((rd_T28 we x5).f3) ((rd_T28 we x5).f4) ((rd_T28 we x5).f5)).bind fun qob=>(if qob = true then (laws_lbWorld.l0 k (wrap64 (x5 + 1)) jd jc jb wg wq wn ja uz uy ux we wo wm uw) else (some false))) else (none)) else (none)) else (laws_lbWorld.l1 k 0 jd jc jb wg wq wn ja uz uy ux we wo wm uw)
def laws_lbWorld.l1 : Nat → Int → Int → Int → List (S41) → List (S28) → List (S128) → List (S34) → Int → Int → Int → List (S41) → List (S28) → List (S128) → List (S34) → Int → Option (Bool)
 | 0,_,_,_,_,_,_,_,_,_,_,_,_,_,_,_=>none
 | k + 1,x6,jd,jc,jb,wg,wq,wn,ja,uz,uy,ux,we,wo,wm,uw=>if x6 < (wq.length : Int) then (if 0 ≤ x6 then (if x6 < (wo.length : Int) then ((laws_lbServ.f k ((rd_T128 wq x6).f0) ((rd_T128 wq x6).f1) ((rd_T128 wq x6).f2) ((rd_T128 wq x6).f3) ((rd_T128 wo x6).f0) ((rd_T128 wo x6).f1) ((rd_T128 wo x6).f2) ((rd_T128 wo x6).f3)).bind fun qoa=>(if qoa = true then (laws_lbWorld.l1 k (wrap64 (x6 + 1)) jd jc jb wg wq wn ja uz uy ux we wo wm uw) else (some false))) else (none)) else (none)) else (laws_lbWorld.l2 k 0 jd jc jb wg wq wn ja uz uy ux we wo wm uw)
def laws_lbWorld.l2 : Nat → Int → Int → Int → List (S41) → List (S28) → List (S128) → List (S34) → Int → Int → Int → List (S41) → List (S28) → List (S128) → List (S34) → Int → Option (Bool)
 | 0,_,_,_,_,_,_,_,_,_,_,_,_,_,_,_=>none
 | k + 1,x7,jd,jc,jb,wg,wq,wn,ja,uz,uy,ux,we,wo,wm,uw=>if x7 < (wn.length : Int) then (if 0 ≤ x7 then (if x7 < (wm.length : Int) then ((laws_lbMsg.f k ((rd_T34 wn x7).f0) ((rd_T34 wn x7).f1) ((rd_T34 wn x7).f2) ((rd_T34 wn x7).f3) ((rd_T34 wn x7).f4) ((rd_T34 wm x7).f0) ((rd_T34 wm x7).f1) ((rd_T34 wm x7).f2) ((rd_T34 wm x7).f3) ((rd_T34 wm x7).f4)).bind fun qnz=>(if qnz = true then (laws_lbWorld.l2 k (wrap64 (x7 + 1)) jd jc jb wg wq wn ja uz uy ux we wo wm uw) else (some false))) else (none)) else (none)) else (some true)
end
def laws_lbWorld.f (k : Nat) (qp : Int) (qq : Int) (qn : List (S41)) (qf : List (S28)) (qi : List (S128)) (qh : List (S34)) (qo : Int) (qu : Int) (qv : Int) (qr : List (S41)) (qj : List (S28)) (qm : List (S128)) (ql : List (S34)) (qt : Int) : Option (Bool):=if qp = qu then (if qo = qt then ((laws_lbKdc.f k qq qn qv qr).bind fun qns=>(if qns = true then (if (qf.length : Int) = (qj.length : Int) then (if (qi.length : Int) = (qm.length : Int) then (laws_lbWorld.j0 k ((qh.length : Int) != (ql.length : Int)) qp qq qn qf qi qh qo qu qv qr qj qm ql qt) else (laws_lbWorld.j0 k true qp qq qn qf qi qh qo qu qv qr qj qm ql qt)) else (laws_lbWorld.j0 k true qp qq qn qf qi qh qo qu qv qr qj qm ql qt)) else (laws_lbWorld.j0 k true qp qq qn qf qi qh qo qu qv qr qj qm ql qt))) else (laws_lbWorld.j0 k true qp qq qn qf qi qh qo qu qv qr qj qm ql qt)) else (laws_lbWorld.j0 k true qp qq qn qf qi qh qo qu qv qr qj qm ql qt)
theorem laws_lbWorld.mono_l : ∀ k,(∀ y0 y1 y2 y3 y4 y5 y6 y7 y8 y9 y10 y11 y12 y13 y14,LeO (laws_lbWorld.j0 k y0 y1 y2 y3 y4 y5 y6 y7 y8 y9 y10 y11 y12 y13 y14) (laws_lbWorld.j0 (k + 1) y0 y1 y2 y3 y4 y5 y6 y7 y8 y9 y10 y11 y12 y13 y14)) ∧ (∀ y0 y1 y2 y3 y4 y5 y6 y7 y8 y9 y10 y11 y12 y13 y14,LeO (laws_lbWorld.l0 k y0 y1 y2 y3 y4 y5 y6 y7 y8 y9 y10 y11 y12 y13 y14) (laws_lbWorld.l0 (k + 1) y0 y1 y2 y3 y4 y5 y6 y7 y8 y9 y10 y11 y12 y13 y14)) ∧ (∀ y0 y1 y2 y3 y4 y5 y6 y7 y8 y9 y10 y11 y12 y13 y14,LeO (laws_lbWorld.l1 k y0 y1 y2 y3 y4 y5 y6 y7 y8 y9 y10 y11 y12 y13 y14) (laws_lbWorld.l1 (k + 1) y0 y1 y2 y3 y4 y5 y6 y7 y8 y9 y10 y11 y12 y13 y14)) ∧ (∀ y0 y1 y2 y3 y4 y5 y6 y7 y8 y9 y10 y11 y12 y13 y14,LeO (laws_lbWorld.l2 k y0 y1 y2 y3 y4 y5 y6 y7 y8 y9 y10 y11 y12 y13 y14) (laws_lbWorld.l2 (k + 1) y0 y1 y2 y3 y4 y5 y6 y7 y8 y9 y10 y11 y12 y13 y14))
 | 0=>⟨fun _ _ _ _ _ _ _ _ _ _ _ _ _ _ _ r h=>by simp [laws_lbWorld.j0] at h,fun _ _ _ _ _ _ _ _ _ _ _ _ _ _ _ r h=>by simp [laws_lbWorld.l0] at h,fun _ _ _ _ _ _ _ _ _ _ _ _ _ _ _ r h=>by simp [laws_lbWorld.l1] at h,fun _ _ _ _ _ _ _ _ _ _ _ _ _ _ _ r h=>by simp [laws_lbWorld.l2] at h⟩
 | k + 1=>by
  obtain ⟨ih0,ih1,ih2,ih3⟩:=laws_lbWorld.mono_l k
  refine ⟨?_,?_,?_,?_⟩
  ·intro y0 y1 y2 y3 y4 y5 y6 y7 y8 y9 y10 y11 y12 y13 y14
   unfold laws_lbWorld.j0
   repeat' first
   | (with_reducible exact ih0 _ _ _ _ _ _ _ _ _ _ _ _ _ _ _)
   | (with_reducible exact ih1 _ _ _ _ _ _ _ _ _ _ _ _ _ _ _)
   | (with_reducible exact ih2 _ _ _ _ _ _ _ _ _ _ _ _ _ _ _)
   | (with_reducible exact ih3 _ _ _ _ _ _ _ _ _ _ _ _ _ _ _)
   | (with_reducible exact laws_lbClient.mono _ _ _ _ _ _ _ _ _ _ _ _ _)
   | (with_reducible exact laws_lbKdc.mono _ _ _ _ _)
   | (with_reducible exact laws_lbMsg.mono _ _ _ _ _ _ _ _ _ _ _)
   | (with_reducible exact laws_lbServ.mono _ _ _ _ _ _ _ _ _)
   | (with_reducible exact LeO.refl _)
   | (with_reducible exact LeO.none _)
   | (with_reducible refine LeO.ite ?_ ?_)
   | (with_reducible refine LeO.bind ?_ (fun _=>?_))
   | exact ih0 _ _ _ _ _ _ _ _ _ _ _ _ _ _ _
   | exact ih1 _ _ _ _ _ _ _ _ _ _ _ _ _ _ _
   | exact ih2 _ _ _ _ _ _ _ _ _ _ _ _ _ _ _
   | exact ih3 _ _ _ _ _ _ _ _ _ _ _ _ _ _ _
   | exact laws_lbClient.mono _ _ _ _ _ _ _ _ _ _ _ _ _
   | exact laws_lbKdc.mono _ _ _ _ _
   | exact laws_lbMsg.mono _ _ _ _ _ _ _ _ _ _ _
   | exact laws_lbServ.mono _ _ _ _ _ _ _ _ _
   | exact LeO.none _
   | refine LeO.ite ?_ ?_
   | refine LeO.bind ?_ (fun _=>?_)
  ·intro y0 y1 y2 y3 y4 y5 y6 y7 y8 y9 y10 y11 y12 y13 y14
   unfold laws_lbWorld.l0
   repeat' first
   | (with_reducible exact ih0 _ _ _ _ _ _ _ _ _ _ _ _ _ _ _)
   | (with_reducible exact ih1 _ _ _ _ _ _ _ _ _ _ _ _ _ _ _)
   | (with_reducible exact ih2 _ _ _ _ _ _ _ _ _ _ _ _ _ _ _)
   | (with_reducible exact ih3 _ _ _ _ _ _ _ _ _ _ _ _ _ _ _)
   | (with_reducible exact laws_lbClient.mono _ _ _ _ _ _ _ _ _ _ _ _ _)
   | (with_reducible exact laws_lbKdc.mono _ _ _ _ _)
   | (with_reducible exact laws_lbMsg.mono _ _ _ _ _ _ _ _ _ _ _)
   | (with_reducible exact laws_lbServ.mono _ _ _ _ _ _ _ _ _)
   | (with_reducible exact LeO.refl _)
   | (with_reducible exact LeO.none _)
   | (with_reducible refine LeO.ite ?_ ?_)
   | (with_reducible refine LeO.bind ?_ (fun _=>?_))
   | exact ih0 _ _ _ _ _ _ _ _ _ _ _ _ _ _ _
   | exact ih1 _ _ _ _ _ _ _ _ _ _ _ _ _ _ _
   | exact ih2 _ _ _ _ _ _ _ _ _ _ _ _ _ _ _
   | exact ih3 _ _ _ _ _ _ _ _ _ _ _ _ _ _ _
   | exact laws_lbClient.mono _ _ _ _ _ _ _ _ _ _ _ _ _
   | exact laws_lbKdc.mono _ _ _ _ _
   | exact laws_lbMsg.mono _ _ _ _ _ _ _ _ _ _ _
   | exact laws_lbServ.mono _ _ _ _ _ _ _ _ _
   | exact LeO.none _
   | refine LeO.ite ?_ ?_
   | refine LeO.bind ?_ (fun _=>?_)
  ·intro y0 y1 y2 y3 y4 y5 y6 y7 y8 y9 y10 y11 y12 y13 y14
   unfold laws_lbWorld.l1
   repeat' first
   | (with_reducible exact ih0 _ _ _ _ _ _ _ _ _ _ _ _ _ _ _)
   | (with_reducible exact ih1 _ _ _ _ _ _ _ _ _ _ _ _ _ _ _)
   | (with_reducible exact ih2 _ _ _ _ _ _ _ _ _ _ _ _ _ _ _)
   | (with_reducible exact ih3 _ _ _ _ _ _ _ _ _ _ _ _ _ _ _)
   | (with_reducible exact laws_lbClient.mono _ _ _ _ _ _ _ _ _ _ _ _ _)
   | (with_reducible exact laws_lbKdc.mono _ _ _ _ _)
   | (with_reducible exact laws_lbMsg.mono _ _ _ _ _ _ _ _ _ _ _)
   | (with_reducible exact laws_lbServ.mono _ _ _ _ _ _ _ _ _)
   | (with_reducible exact LeO.refl _)
   | (with_reducible exact LeO.none _)
   | (with_reducible refine LeO.ite ?_ ?_)
   | (with_reducible refine LeO.bind ?_ (fun _=>?_))
   | exact ih0 _ _ _ _ _ _ _ _ _ _ _ _ _ _ _
   | exact ih1 _ _ _ _ _ _ _ _ _ _ _ _ _ _ _
   | exact ih2 _ _ _ _ _ _ _ _ _ _ _ _ _ _ _
   | exact ih3 _ _ _ _ _ _ _ _ _ _ _ _ _ _ _
   | exact laws_lbClient.mono _ _ _ _ _ _ _ _ _ _ _ _ _
   | exact laws_lbKdc.mono _ _ _ _ _
   | exact laws_lbMsg.mono _ _ _ _ _ _ _ _ _ _ _
   | exact laws_lbServ.mono _ _ _ _ _ _ _ _ _
   | exact LeO.none _
   | refine LeO.ite ?_ ?_
   | refine LeO.bind ?_ (fun _=>?_)
  ·intro y0 y1 y2 y3 y4 y5 y6 y7 y8 y9 y10 y11 y12 y13 y14
   unfold laws_lbWorld.l2
   repeat' first
   | (with_reducible exact ih0 _ _ _ _ _ _ _ _ _ _ _ _ _ _ _)
   | (with_reducible exact ih1 _ _ _ _ _ _ _ _ _ _ _ _ _ _ _)
   | (with_reducible exact ih2 _ _ _ _ _ _ _ _ _ _ _ _ _ _ _)
   | (with_reducible exact ih3 _ _ _ _ _ _ _ _ _ _ _ _ _ _ _)
   | (with_reducible exact laws_lbClient.mono _ _ _ _ _ _ _ _ _ _ _ _ _)
   | (with_reducible exact laws_lbKdc.mono _ _ _ _ _)
   | (with_reducible exact laws_lbMsg.mono _ _ _ _ _ _ _ _ _ _ _)
   | (with_reducible exact laws_lbServ.mono _ _ _ _ _ _ _ _ _)
   | (with_reducible exact LeO.refl _)
   | (with_reducible exact LeO.none _)
   | (with_reducible refine LeO.ite ?_ ?_)
   | (with_reducible refine LeO.bind ?_ (fun _=>?_))
   | exact ih0 _ _ _ _ _ _ _ _ _ _ _ _ _ _ _
   | exact ih1 _ _ _ _ _ _ _ _ _ _ _ _ _ _ _
   | exact ih2 _ _ _ _ _ _ _ _ _ _ _ _ _ _ _
   | exact ih3 _ _ _ _ _ _ _ _ _ _ _ _ _ _ _
   | exact laws_lbClient.mono _ _ _ _ _ _ _ _ _ _ _ _ _
   | exact laws_lbKdc.mono _ _ _ _ _
   | exact laws_lbMsg.mono _ _ _ _ _ _ _ _ _ _ _
   | exact laws_lbServ.mono _ _ _ _ _ _ _ _ _
   | exact LeO.none _
   | refine LeO.ite ?_ ?_
   | refine LeO.bind ?_ (fun _=>?_)
theorem laws_lbWorld.mono : ∀ a0 a1 a2 a3 a4 a5 a6 a7 a8 a9 a10 a11 a12 a13 k,LeO (laws_lbWorld.f k a0 a1 a2 a3 a4 a5 a6 a7 a8 a9 a10 a11 a12 a13) (laws_lbWorld.f (k + 1) a0 a1 a2 a3 a4 a5 a6 a7 a8 a9 a10 a11 a12 a13):=by
 intro a0 a1 a2 a3 a4 a5 a6 a7 a8 a9 a10 a11 a12 a13 k
 obtain ⟨ih0,ih1,ih2,ih3⟩:=laws_lbWorld.mono_l k
 unfold laws_lbWorld.f
 repeat' first
   | (with_reducible exact ih0 _ _ _ _ _ _ _ _ _ _ _ _ _ _ _)
   | (with_reducible exact ih1 _ _ _ _ _ _ _ _ _ _ _ _ _ _ _)
   | (with_reducible exact ih2 _ _ _ _ _ _ _ _ _ _ _ _ _ _ _)
   | (with_reducible exact ih3 _ _ _ _ _ _ _ _ _ _ _ _ _ _ _)
   | (with_reducible exact laws_lbClient.mono _ _ _ _ _ _ _ _ _ _ _ _ _)
   | (with_reducible exact laws_lbKdc.mono _ _ _ _ _)
   | (with_reducible exact laws_lbMsg.mono _ _ _ _ _ _ _ _ _ _ _)
   | (with_reducible exact laws_lbServ.mono _ _ _ _ _ _ _ _ _)
   | (with_reducible exact LeO.refl _)
   | (with_reducible exact LeO.none _)
   | (with_reducible refine LeO.ite ?_ ?_)
   | (with_reducible refine LeO.bind ?_ (fun _=>?_))
   | exact ih0 _ _ _ _ _ _ _ _ _ _ _ _ _ _ _
   | exact ih1 _ _ _ _ _ _ _ _ _ _ _ _ _ _ _
   | exact ih2 _ _ _ _ _ _ _ _ _ _ _ _ _ _ _
   | exact ih3 _ _ _ _ _ _ _ _ _ _ _ _ _ _ _
   | exact laws_lbClient.mono _ _ _ _ _ _ _ _ _ _ _ _ _
   | exact laws_lbKdc.mono _ _ _ _ _
   | exact laws_lbMsg.mono _ _ _ _ _ _ _ _ _ _ _
   | exact laws_lbServ.mono _ _ _ _ _ _ _ _ _
   | exact LeO.none _
   | refine LeO.ite ?_ ?_
   | refine LeO.bind ?_ (fun _=>?_)
def laws_lbWorld.T6 : Bool × List (List Nat × List Nat):=(true,[([],[]),([0],[0]),([],[]),([1,2],[1,2]),([3],[3]),([],[]),([5],[5]),([],[]),([6,7],[6,7]),([8],[8]),([4,9],[4,9]),([10],[10])])
def laws_lbWorld.B6 : List Nat:=[0,1,0,7,15,0,32,0,224,480,1023,2047]
theorem laws_lbWorld.tab6 : rtab .any (opsOf Try.f42 6) = laws_lbWorld.T6:=by kernel_rfl
theorem laws_lbWorld.bits6 : waitsOk laws_lbWorld.T6.2 laws_lbWorld.B6 = true:=by kernel_rfl
def laws_lbWorld.T11 : Bool × List (List Nat × List Nat):=(true,[([],[]),([0],[0]),([],[]),([1,2],[1,2]),([3],[3]),([],[]),([5],[5]),([],[]),([6,7],[6,7]),([8],[8]),([4,9],[4,9]),([10],[10])])
def laws_lbWorld.B11 : List Nat:=[0,1,0,7,15,0,32,0,224,480,1023,2047]
theorem laws_lbWorld.tab11 : rtab .any (opsOf Try.f42 11) = laws_lbWorld.T11:=by kernel_rfl
theorem laws_lbWorld.bits11 : waitsOk laws_lbWorld.T11.2 laws_lbWorld.B11 = true:=by kernel_rfl
def laws_lbWorld.T16 : Bool × List (List Nat × List Nat):=(true,[([],[]),([0],[0]),([],[]),([1,2],[1,2]),([3],[3]),([],[]),([5],[5]),([],[]),([6,7],[6,7]),([8],[8]),([4,9],[4,9]),([10],[10])])
def laws_lbWorld.B16 : List Nat:=[0,1,0,7,15,0,32,0,224,480,1023,2047]
theorem laws_lbWorld.tab16 : rtab .any (opsOf Try.f42 16) = laws_lbWorld.T16:=by kernel_rfl
theorem laws_lbWorld.bits16 : waitsOk laws_lbWorld.T16.2 laws_lbWorld.B16 = true:=by kernel_rfl
set_option maxHeartbeats 8000000 in
set_option maxRecDepth 100000 in
theorem laws_lbWorld.calls (k : Nat) (qp : Int) (qq : Int) (wd : Option Addr) (wb : Nat) (qn : List (S41)) (wl : Option Addr) (wa : Nat) (qf : List (S28)) (wk : Option Addr) (qz : Nat) (qi : List (S128)) (wj : Option Addr) (qy : Nat) (qh : List (S34)) (qo : Int) (qu : Int) (qv : Int) (vv : Option Addr) (vu : Nat) (qr : List (S41)) (uu : Option Addr) (vt : Nat) (qj : List (S28)) (ut : Option Addr) (vr : Nat) (qm : List (S128)) (us : Option Addr) (vq : Nat) (ql : List (S34)) (qt : Int) (r : Bool) (w : World) (qqb : Kd.C k41 w wd qn.length qn) (qqj : qn.length ≤ wb) (qqa : Kd.C k28 w wl qf.length qf) (qqi : qf.length ≤ wa) (qpz : Kd.C k128 w wk qi.length qi) (qqh : qi.length ≤ qz) (qpy : Kd.C k34 w wj qh.length qh) (qqg : qh.length ≤ qy) (qpx : Kd.C k41 w vv qr.length qr) (qqf : qr.length ≤ vu) (qpw : Kd.C k28 w uu qj.length qj) (qqe : qj.length ≤ vt) (qpv : Kd.C k128 w ut qm.length qm) (qqd : qm.length ≤ vr) (qpu : Kd.C k34 w us ql.length ql) (qqc : ql.length ≤ vq) (h : laws_lbWorld.f k qp qq qn qf qi qh qo qu qv qr qj qm ql qt = some r) :
  Calls Try.prog 42 #[.agg #[.int .i64 qp,.int .i64 qq,.slice wd qn.length wb,.slice wl qf.length wa,.slice wk qi.length qz,.slice wj qh.length qy,.int .i64 qo],.agg #[.int .i64 qu,.int .i64 qv,.slice vv qr.length vu,.slice uu qj.length vt,.slice ut qm.length vr,.slice us ql.length vq,.int .i64 qt]] w fun e w' => e = .returned (.bool r) ∧ Below w.heap.size w w':=by
 have quq:=Try.underlying69
 have qur:=Try.underlying64
 have qut:=Try.underlying28
 have qta:=Try.underlying128
 have qus:=Try.underlying34
 have qnp:=Aside0.mk qqb
 have qnr:=Aside0.mk qqj
 clear qqb qqj
 have qqr:=Aside0.mk qqa
 have qum:=Aside0.mk qqi
 clear qqa qqi
 have qqq:=Aside0.mk qpz
 have qul:=Aside0.mk qqh
 clear qpz qqh
 have qqp:=Aside0.mk qpy
 have quk:=Aside0.mk qqg
 clear qpy qqg
 have qno:=Aside0.mk qpx
 have qnq:=Aside0.mk qqf
 clear qpx qqf
 have qqo:=Aside0.mk qpw
 have quj:=Aside0.mk qqe
 clear qpw qqe
 have qqn:=Aside0.mk qpv
 have qui:=Aside0.mk qqd
 clear qpv qqd
 have qqm:=Aside0.mk qpu
 have quh:=Aside0.mk qqc
 clear qpu qqc
 have HB:=Aside0.mk (Below.refl w.heap.size w)
 have H : (if qp = qu then (if qo = qt then ((laws_lbKdc.f k qq qn qv qr).bind fun qns=>(if qns = true then (if (qf.length : Int) = (qj.length : Int) then (if (qi.length : Int) = (qm.length : Int) then (laws_lbWorld.j0 k ((qh.length : Int) != (ql.length : Int)) qp qq qn qf qi qh qo qu qv qr qj qm ql qt) else (laws_lbWorld.j0 k true qp qq qn qf qi qh qo qu qv qr qj qm ql qt)) else (laws_lbWorld.j0 k true qp qq qn qf qi qh qo qu qv qr qj qm ql qt)) else (laws_lbWorld.j0 k true qp qq qn qf qi qh qo qu qv qr qj qm ql qt))) else (laws_lbWorld.j0 k true qp qq qn qf qi qh qo qu qv qr qj qm ql qt)) else (laws_lbWorld.j0 k true qp qq qn qf qi qh qo qu qv qr qj qm ql qt)) = some r:=h
 clear h
 have HC3:=Aside0.mk H
 clear H
 go_enter Try.func42,Try.ntmps42
 go_upto_region 1 with (first|((with_reducible refine gate_dst (N:=2) rfl ?_);refine box_event ?hg (N:=2) ?hd (cs:=#[.int .i64 qp,.int .i64 qq,.slice wd qn.length wb,.slice wl qf.length wa,.slice wk qi.length qz,.slice wj qh.length qy,.int .i64 qo]) (t:=69) ?hr ?_;(case hd=>rfl);(case hg=>rfl);(case hr=>first|(go_simp;done)|(go_simp;rfl));intro qc hg w4 hbox hb;have n0_:=Aside0.mk (below_step z19x3 hb);have n1_:=Aside0.mk (hbox);have n2_:=Aside0.mk ((by rw [hg];exact (below_size z19x3) : w.heap.size ≤ qc));have n3_:=Aside0.mk ((by rw [hg];exact (below_size z19x3) : w.heap.size ≤ qc));clear HB;have HB:=n0_;have qa:=n1_;have quo:=n2_;have ue:=n3_;clear n0_ n1_ n2_ n3_;clear hb hbox hg)|((with_reducible refine gate_dst (N:=3) rfl ?_);refine box_event ?hg (N:=3) ?hd (cs:=#[.int .i64 qu,.int .i64 qv,.slice vv qr.length vu,.slice uu qj.length vt,.slice ut qm.length vr,.slice us ql.length vq,.int .i64 qt]) (t:=69) ?hr ?_;(case hd=>rfl);(case hg=>rfl);(case hr=>first|(go_simp;done)|(go_simp;rfl));intro qd hg w5 hbox hb;have n0_:=Aside0.mk (blk_below (g:=qc) (o:=.cells #[.int .i64 qp,.int .i64 qq,.slice wd qn.length wb,.slice wl qf.length wa,.slice wk qi.length qz,.slice wj qh.length qy,.int .i64 qo] 69 (0,0)) z19x4 hb);have n1_:=Aside0.mk (below_step (by repeat (first|(with_reducible first|exact HB.out|apply below_alloc|apply pw_below_drewN|apply below_drew1|refine below_set ?_ ue.out)|exact HB.out)) hb);have n2_:=Aside0.mk (hbox);have n3_:=Aside0.mk ((z19x1 : w.heap.size ≤ qd));have n4_:=Aside0.mk ((z19x1 : w.heap.size ≤ qd));have n5_:=Aside0.mk ((by rw [hg];exact Nat.ne_of_lt (blk_lt (g:=qc) (o:=.cells #[.int .i64 qp,.int .i64 qq,.slice wd qn.length wb,.slice wl qf.length wa,.slice wk qi.length qz,.slice wj qh.length qy,.int .i64 qo] 69 (0,0)) z19x4) : qc ≠ qd));have n6_:=Aside0.mk ((by rw [hg];exact Nat.ne_of_gt (blk_lt (g:=qc) (o:=.cells #[.int .i64 qp,.int .i64 qq,.slice wd qn.length wb,.slice wl qf.length wa,.slice wk qi.length qz,.slice wj qh.length qy,.int .i64 qo] 69 (0,0)) z19x4) : qd ≠ qc));clear qa;clear HB;have qa:=n0_;have HB:=n1_;have qb:=n2_;have qun:=n3_;have uv:=n4_;have qx:=n5_;have qw:=n6_;clear n0_ n1_ n2_ n3_ n4_ n5_ n6_;clear hb hbox hg))
 (try simp only [Act.put,List.setIfInBounds_toArray,List.set_cons_zero,List.set_cons_succ])
 go_cut [54] (fun v54 wc=>∃ (kq : Nat) (qfm : Bool),v54 = .bool qfm ∧ Aside0 (laws_lbWorld.j0 kq qfm qp qq qn qf qi qh qo qu qv qr qj qm ql qt = some r) ∧ Aside0 (kq ≤ k) ∧ Aside0 (wc.heap[qc]? = some (.cells #[.int .i64 qp,.int .i64 qq,(.slice wd qn.length wb),(.slice wl qf.length wa),(.slice wk qi.length qz),(.slice wj qh.length qy),.int .i64 qo] 69 (0,0))) ∧ Aside0 (wc.heap[qd]? = some (.cells #[.int .i64 qu,.int .i64 qv,(.slice vv qr.length vu),(.slice uu qj.length vt),(.slice ut qm.length vr),(.slice us ql.length vq),.int .i64 qt] 69 (0,0))) ∧ Aside0 (Below w.heap.size w wc))
 case first =>
  have H:=HC3.out
  clear HC3
  by_cases c6 : qp = qu
  rotate_left
  ·rw [if_neg c6] at H
   have qfl : (qp == qu) = false:=beq_eq_false_iff_ne.mpr c6
   have qra : (qp != qu) = true:=bne_iff_ne.mpr c6
   (first|rw [qfl]|(simp only [i64_w,i32_w];rw [qfl])|skip)
   have H':=Aside0.mk H
   clear H
   have qtz:=qx.out
   have qtk:=qw.out
   have qjf : w5.cell? ⟨qc,0,none⟩ = some (.int .i64 qp):=(blk_cell qa.out 0).trans rfl
   have qje : w5.cell? ⟨qc,1,none⟩ = some (.int .i64 qq):=(blk_cell qa.out 1).trans rfl
   have qjd : w5.cell? ⟨qc,2,none⟩ = some (.slice wd qn.length wb):=(blk_cell qa.out 2).trans rfl
   have qjc : w5.cell? ⟨qc,3,none⟩ = some (.slice wl qf.length wa):=(blk_cell qa.out 3).trans rfl
   have qjb : w5.cell? ⟨qc,4,none⟩ = some (.slice wk qi.length qz):=(blk_cell qa.out 4).trans rfl
   have qja : w5.cell? ⟨qc,5,none⟩ = some (.slice wj qh.length qy):=(blk_cell qa.out 5).trans rfl
   have qiz : w5.cell? ⟨qc,6,none⟩ = some (.int .i64 qo):=(blk_cell qa.out 6).trans rfl
   have qar:=blk_frozen qa.out 0
   have qaq:=blk_frozen qa.out 1
   have qap:=blk_frozen qa.out 2
   have qao:=blk_frozen qa.out 3
   have qan:=blk_frozen qa.out 4
   have qam:=blk_frozen qa.out 5
   have qal:=blk_frozen qa.out 6
   have qiy : w5.cell? ⟨qd,0,none⟩ = some (.int .i64 qu):=(blk_cell qb.out 0).trans rfl
   have qix : w5.cell? ⟨qd,1,none⟩ = some (.int .i64 qv):=(blk_cell qb.out 1).trans rfl
   have qiw : w5.cell? ⟨qd,2,none⟩ = some (.slice vv qr.length vu):=(blk_cell qb.out 2).trans rfl
   have qiv : w5.cell? ⟨qd,3,none⟩ = some (.slice uu qj.length vt):=(blk_cell qb.out 3).trans rfl
   have qiu : w5.cell? ⟨qd,4,none⟩ = some (.slice ut qm.length vr):=(blk_cell qb.out 4).trans rfl
   have qit : w5.cell? ⟨qd,5,none⟩ = some (.slice us ql.length vq):=(blk_cell qb.out 5).trans rfl
   have qis : w5.cell? ⟨qd,6,none⟩ = some (.int .i64 qt):=(blk_cell qb.out 6).trans rfl
   have qak:=blk_frozen qb.out 0
   have qaj:=blk_frozen qb.out 1
   have qai:=blk_frozen qb.out 2
   have qah:=blk_frozen qb.out 3
   have qag:=blk_frozen qb.out 4
   have qaf:=blk_frozen qb.out 5
   have qae:=blk_frozen qb.out 6
   go_wp2
   go_meet
   case rel=>exact ⟨_,(true),(by first|rfl|(simp;done)|(simp [*];done)),H',⟨by first|omega|exact Nat.le_refl _⟩,⟨by (with_reducible repeat (first|refine blk_drewN ?_ _|refine blk_drew ?_|refine blk_alloc ?_ _));exact qa.out⟩,⟨by (with_reducible repeat (first|refine blk_drewN ?_ _|refine blk_drew ?_|refine blk_alloc ?_ _));exact qb.out⟩,⟨by repeat (first|(with_reducible first|exact HB.out|apply below_alloc|apply pw_below_drewN|apply below_drew1|refine below_set ?_ ue.out|refine below_set ?_ uv.out)|exact HB.out)⟩⟩
  rw [if_pos c6] at H
  have qfl : (qp == qu) = true:=beq_iff_eq.mpr c6
  have qra : (qp != qu) = false:=bne_eq_false_iff_eq.mpr c6
  clear c6
  (first|rw [qfl]|(simp only [i64_w,i32_w];rw [qfl])|skip)
  by_cases c7 : qo = qt
  rotate_left
  ·rw [if_neg c7] at H
   have qqz : (qo == qt) = false:=beq_eq_false_iff_ne.mpr c7
   have qqy : (qo != qt) = true:=bne_iff_ne.mpr c7
   have H':=Aside0.mk H
   clear H
   have qua:=qx.out
   have qtl:=qw.out
   have qjt : w5.cell? ⟨qc,0,none⟩ = some (.int .i64 qp):=(blk_cell qa.out 0).trans rfl
   have qjs : w5.cell? ⟨qc,1,none⟩ = some (.int .i64 qq):=(blk_cell qa.out 1).trans rfl
   have qjr : w5.cell? ⟨qc,2,none⟩ = some (.slice wd qn.length wb):=(blk_cell qa.out 2).trans rfl
   have qjq : w5.cell? ⟨qc,3,none⟩ = some (.slice wl qf.length wa):=(blk_cell qa.out 3).trans rfl
   have qjp : w5.cell? ⟨qc,4,none⟩ = some (.slice wk qi.length qz):=(blk_cell qa.out 4).trans rfl
   have qjo : w5.cell? ⟨qc,5,none⟩ = some (.slice wj qh.length qy):=(blk_cell qa.out 5).trans rfl
   have qjn : w5.cell? ⟨qc,6,none⟩ = some (.int .i64 qo):=(blk_cell qa.out 6).trans rfl
   have qbf:=blk_frozen qa.out 0
   have qbe:=blk_frozen qa.out 1
   have qbd:=blk_frozen qa.out 2
   have qbc:=blk_frozen qa.out 3
   have qbb:=blk_frozen qa.out 4
   have qba:=blk_frozen qa.out 5
   have qaz:=blk_frozen qa.out 6
   have qjm : w5.cell? ⟨qd,0,none⟩ = some (.int .i64 qu):=(blk_cell qb.out 0).trans rfl
   have qjl : w5.cell? ⟨qd,1,none⟩ = some (.int .i64 qv):=(blk_cell qb.out 1).trans rfl
   have qjk : w5.cell? ⟨qd,2,none⟩ = some (.slice vv qr.length vu):=(blk_cell qb.out 2).trans rfl
   have qjj : w5.cell? ⟨qd,3,none⟩ = some (.slice uu qj.length vt):=(blk_cell qb.out 3).trans rfl
   have qji : w5.cell? ⟨qd,4,none⟩ = some (.slice ut qm.length vr):=(blk_cell qb.out 4).trans rfl
   have qjh : w5.cell? ⟨qd,5,none⟩ = some (.slice us ql.length vq):=(blk_cell qb.out 5).trans rfl
   have qjg : w5.cell? ⟨qd,6,none⟩ = some (.int .i64 qt):=(blk_cell qb.out 6).trans rfl
   have qay:=blk_frozen qb.out 0
   have qax:=blk_frozen qb.out 1
   have qaw:=blk_frozen qb.out 2
   have qav:=blk_frozen qb.out 3
   have qau:=blk_frozen qb.out 4
   have qat:=blk_frozen qb.out 5
   have qas:=blk_frozen qb.out 6
   go_wp2
   go_meet
   case rel=>exact ⟨_,(true),(by first|rfl|(simp;done)|(simp [*];done)),H',⟨by first|omega|exact Nat.le_refl _⟩,⟨by (with_reducible repeat (first|refine blk_drewN ?_ _|refine blk_drew ?_|refine blk_alloc ?_ _));exact qa.out⟩,⟨by (with_reducible repeat (first|refine blk_drewN ?_ _|refine blk_drew ?_|refine blk_alloc ?_ _));exact qb.out⟩,⟨by repeat (first|(with_reducible first|exact HB.out|apply below_alloc|apply pw_below_drewN|apply below_drew1|refine below_set ?_ ue.out|refine below_set ?_ uv.out)|exact HB.out)⟩⟩
  rw [if_pos c7] at H
  have qqz : (qo == qt) = true:=beq_iff_eq.mpr c7
  have qqy : (qo != qt) = false:=bne_eq_false_iff_eq.mpr c7
  clear c7
  replace H:=Option.bind_eq_some_iff.mp H
  obtain ⟨qns,A80,H⟩:=H
  replace H : (if qns = true then (if (qf.length : Int) = (qj.length : Int) then (if (qi.length : Int) = (qm.length : Int) then (laws_lbWorld.j0 k ((qh.length : Int) != (ql.length : Int)) qp qq qn qf qi qh qo qu qv qr qj qm ql qt) else (laws_lbWorld.j0 k true qp qq qn qf qi qh qo qu qv qr qj qm ql qt)) else (laws_lbWorld.j0 k true qp qq qn qf qi qh qo qu qv qr qj qm ql qt)) else (laws_lbWorld.j0 k true qp qq qn qf qi qh qo qu qv qr qj qm ql qt)) = some r:=H
  have A8:=Aside0.mk A80
  clear A80
  by_cases c9 : qns = true
  rotate_left
  ·replace c9:=Bool.eq_false_iff.mpr c9
   subst c9
   rw [if_neg (show ¬ (false = true) by decide)] at H
   have H':=Aside0.mk H
   clear H
   have qub:=qx.out
   have qtm:=qw.out
   have qkh : w5.cell? ⟨qc,0,none⟩ = some (.int .i64 qp):=(blk_cell qa.out 0).trans rfl
   have qkg : w5.cell? ⟨qc,1,none⟩ = some (.int .i64 qq):=(blk_cell qa.out 1).trans rfl
   have qkf : w5.cell? ⟨qc,2,none⟩ = some (.slice wd qn.length wb):=(blk_cell qa.out 2).trans rfl
   have qke : w5.cell? ⟨qc,3,none⟩ = some (.slice wl qf.length wa):=(blk_cell qa.out 3).trans rfl
   have qkd : w5.cell? ⟨qc,4,none⟩ = some (.slice wk qi.length qz):=(blk_cell qa.out 4).trans rfl
   have qkc : w5.cell? ⟨qc,5,none⟩ = some (.slice wj qh.length qy):=(blk_cell qa.out 5).trans rfl
   have qkb : w5.cell? ⟨qc,6,none⟩ = some (.int .i64 qo):=(blk_cell qa.out 6).trans rfl
   have qbt:=blk_frozen qa.out 0
   have qbs:=blk_frozen qa.out 1
   have qbr:=blk_frozen qa.out 2
   have qbq:=blk_frozen qa.out 3
   have qbp:=blk_frozen qa.out 4
   have qbo:=blk_frozen qa.out 5
   have qbn:=blk_frozen qa.out 6
   have qka : w5.cell? ⟨qd,0,none⟩ = some (.int .i64 qu):=(blk_cell qb.out 0).trans rfl
   have qjz : w5.cell? ⟨qd,1,none⟩ = some (.int .i64 qv):=(blk_cell qb.out 1).trans rfl
   have qjy : w5.cell? ⟨qd,2,none⟩ = some (.slice vv qr.length vu):=(blk_cell qb.out 2).trans rfl
   have qjx : w5.cell? ⟨qd,3,none⟩ = some (.slice uu qj.length vt):=(blk_cell qb.out 3).trans rfl
   have qjw : w5.cell? ⟨qd,4,none⟩ = some (.slice ut qm.length vr):=(blk_cell qb.out 4).trans rfl
   have qjv : w5.cell? ⟨qd,5,none⟩ = some (.slice us ql.length vq):=(blk_cell qb.out 5).trans rfl
   have qju : w5.cell? ⟨qd,6,none⟩ = some (.int .i64 qt):=(blk_cell qb.out 6).trans rfl
   have qbm:=blk_frozen qb.out 0
   have qbl:=blk_frozen qb.out 1
   have qbk:=blk_frozen qb.out 2
   have qbj:=blk_frozen qb.out 3
   have qbi:=blk_frozen qb.out 4
   have qbh:=blk_frozen qb.out 5
   have qbg:=blk_frozen qb.out 6
   go_wp2_with (first|(go_at_call 102;(with_reducible refine (laws_lbKdc.calls k qq _ _ qn qv _ _ qr false _ ?side1 ?side2 ?side3 ?side4 A8.out).mono ?_);(case side1=>repeat (first|exact (Kd.C_below qnp.out HB.out)|(with_reducible refine Kd.C_alloc ?_ _)|(with_reducible refine Kd.C_drewN ?_ _)|(with_reducible refine Kd.C_drew ?_)));(case side2=>exact qnr.out);(case side3=>repeat (first|exact (Kd.C_below qno.out HB.out)|(with_reducible refine Kd.C_alloc ?_ _)|(with_reducible refine Kd.C_drewN ?_ _)|(with_reducible refine Kd.C_drew ?_)));(case side4=>exact qnq.out);rintro e w33 ⟨rfl,hb⟩; have n0_:=Aside0.mk (blk_below (g:=qc) (o:=.cells #[.int .i64 qp,.int .i64 qq,.slice wd qn.length wb,.slice wl qf.length wa,.slice wk qi.length qz,.slice wj qh.length qy,.int .i64 qo] 69 (0,0)) z19x4 hb);have n1_:=Aside0.mk (blk_below (g:=qd) (o:=.cells #[.int .i64 qu,.int .i64 qv,.slice vv qr.length vu,.slice uu qj.length vt,.slice ut qm.length vr,.slice us ql.length vq,.int .i64 qt] 69 (0,0)) z19x5 hb);have n2_:=Aside0.mk (below_step z19x0 hb);clear qa;clear qb;clear HB;have qa:=n0_;have qb:=n1_;have HB:=n2_;clear n0_ n1_ n2_;(try clear hb);(try clear hb2);(try clear hk);(try clear hi)))
   go_meet
   case rel=>exact ⟨_,(true),(by first|rfl|(simp;done)|(simp [*];done)),H',⟨by first|omega|exact Nat.le_refl _⟩,⟨by (with_reducible repeat (first|refine blk_drewN ?_ _|refine blk_drew ?_|refine blk_alloc ?_ _));exact qa.out⟩,⟨by (with_reducible repeat (first|refine blk_drewN ?_ _|refine blk_drew ?_|refine blk_alloc ?_ _));exact qb.out⟩,⟨by repeat (first|(with_reducible first|exact HB.out|apply below_alloc|apply pw_below_drewN|apply below_drew1|refine below_set ?_ ue.out|refine below_set ?_ uv.out)|exact HB.out)⟩⟩
  subst c9
  rw [if_pos rfl] at H
  by_cases c10 : (qf.length : Int) = (qj.length : Int)
  rotate_left
  ·rw [if_neg c10] at H
   have qny : ((qf.length : Int) == (qj.length : Int)) = false:=beq_eq_false_iff_ne.mpr c10
   have qnx : ((qf.length : Int) != (qj.length : Int)) = true:=bne_iff_ne.mpr c10
   have qnw : (qf.length == qj.length) = false:=by first|simpa using c10|(simp at c10 ⊢; omega)
   have H':=Aside0.mk H
   clear H
   have quc:=qx.out
   have qtn:=qw.out
   have qlj : w5.cell? ⟨qc,0,none⟩ = some (.int .i64 qp):=(blk_cell qa.out 0).trans rfl
   have qli : w5.cell? ⟨qc,1,none⟩ = some (.int .i64 qq):=(blk_cell qa.out 1).trans rfl
   have qlh : w5.cell? ⟨qc,2,none⟩ = some (.slice wd qn.length wb):=(blk_cell qa.out 2).trans rfl
   have qlg : w5.cell? ⟨qc,3,none⟩ = some (.slice wl qf.length wa):=(blk_cell qa.out 3).trans rfl
   have qlf : w5.cell? ⟨qc,4,none⟩ = some (.slice wk qi.length qz):=(blk_cell qa.out 4).trans rfl
   have qle : w5.cell? ⟨qc,5,none⟩ = some (.slice wj qh.length qy):=(blk_cell qa.out 5).trans rfl
   have qld : w5.cell? ⟨qc,6,none⟩ = some (.int .i64 qo):=(blk_cell qa.out 6).trans rfl
   have qcv:=blk_frozen qa.out 0
   have qcu:=blk_frozen qa.out 1
   have qct:=blk_frozen qa.out 2
   have qcs:=blk_frozen qa.out 3
   have qcr:=blk_frozen qa.out 4
   have qcq:=blk_frozen qa.out 5
   have qcp:=blk_frozen qa.out 6
   have qlc : w5.cell? ⟨qd,0,none⟩ = some (.int .i64 qu):=(blk_cell qb.out 0).trans rfl
   have qlb : w5.cell? ⟨qd,1,none⟩ = some (.int .i64 qv):=(blk_cell qb.out 1).trans rfl
   have qla : w5.cell? ⟨qd,2,none⟩ = some (.slice vv qr.length vu):=(blk_cell qb.out 2).trans rfl
   have qkz : w5.cell? ⟨qd,3,none⟩ = some (.slice uu qj.length vt):=(blk_cell qb.out 3).trans rfl
   have qky : w5.cell? ⟨qd,4,none⟩ = some (.slice ut qm.length vr):=(blk_cell qb.out 4).trans rfl
   have qkx : w5.cell? ⟨qd,5,none⟩ = some (.slice us ql.length vq):=(blk_cell qb.out 5).trans rfl
   have qkw : w5.cell? ⟨qd,6,none⟩ = some (.int .i64 qt):=(blk_cell qb.out 6).trans rfl
   have qco:=blk_frozen qb.out 0
   have qcn:=blk_frozen qb.out 1
   have qcm:=blk_frozen qb.out 2
   have qcl:=blk_frozen qb.out 3
   have qck:=blk_frozen qb.out 4
   have qcj:=blk_frozen qb.out 5
   have qci:=blk_frozen qb.out 6
   go_wp2_with (first|(go_at_call 102;(with_reducible refine (laws_lbKdc.calls k qq _ _ qn qv _ _ qr true _ ?side1 ?side2 ?side3 ?side4 A8.out).mono ?_);(case side1=>repeat (first|exact (Kd.C_below qnp.out HB.out)|(with_reducible refine Kd.C_alloc ?_ _)|(with_reducible refine Kd.C_drewN ?_ _)|(with_reducible refine Kd.C_drew ?_)));(case side2=>exact qnr.out);(case side3=>repeat (first|exact (Kd.C_below qno.out HB.out)|(with_reducible refine Kd.C_alloc ?_ _)|(with_reducible refine Kd.C_drewN ?_ _)|(with_reducible refine Kd.C_drew ?_)));(case side4=>exact qnq.out);rintro e w27 ⟨rfl,hb⟩; have n0_:=Aside0.mk (blk_below (g:=qc) (o:=.cells #[.int .i64 qp,.int .i64 qq,.slice wd qn.length wb,.slice wl qf.length wa,.slice wk qi.length qz,.slice wj qh.length qy,.int .i64 qo] 69 (0,0)) z19x4 hb);have n1_:=Aside0.mk (blk_below (g:=qd) (o:=.cells #[.int .i64 qu,.int .i64 qv,.slice vv qr.length vu,.slice uu qj.length vt,.slice ut qm.length vr,.slice us ql.length vq,.int .i64 qt] 69 (0,0)) z19x5 hb);have n2_:=Aside0.mk (below_step z19x0 hb);clear qa;clear qb;clear HB;have qa:=n0_;have qb:=n1_;have HB:=n2_;clear n0_ n1_ n2_;(try clear hb);(try clear hb2);(try clear hk);(try clear hi);have qkv : w27.cell? ⟨qc,0,none⟩ = some (.int .i64 qp):=(blk_cell qa.out 0).trans rfl;have qku : w27.cell? ⟨qc,1,none⟩ = some (.int .i64 qq):=(blk_cell qa.out 1).trans rfl;have qkt : w27.cell? ⟨qc,2,none⟩ = some (.slice wd qn.length wb):=(blk_cell qa.out 2).trans rfl;have qks : w27.cell? ⟨qc,3,none⟩ = some (.slice wl qf.length wa):=(blk_cell qa.out 3).trans rfl;have qkr : w27.cell? ⟨qc,4,none⟩ = some (.slice wk qi.length qz):=(blk_cell qa.out 4).trans rfl;have qkq : w27.cell? ⟨qc,5,none⟩ = some (.slice wj qh.length qy):=(blk_cell qa.out 5).trans rfl;have qkp : w27.cell? ⟨qc,6,none⟩ = some (.int .i64 qo):=(blk_cell qa.out 6).trans rfl;have qch:=blk_frozen qa.out 0;have qcg:=blk_frozen qa.out 1;have qcf:=blk_frozen qa.out 2;have qce:=blk_frozen qa.out 3;have qcd:=blk_frozen qa.out 4;have qcc:=blk_frozen qa.out 5;have qcb:=blk_frozen qa.out 6;have qko : w27.cell? ⟨qd,0,none⟩ = some (.int .i64 qu):=(blk_cell qb.out 0).trans rfl;have qkn : w27.cell? ⟨qd,1,none⟩ = some (.int .i64 qv):=(blk_cell qb.out 1).trans rfl;have qkm : w27.cell? ⟨qd,2,none⟩ = some (.slice vv qr.length vu):=(blk_cell qb.out 2).trans rfl;have qkl : w27.cell? ⟨qd,3,none⟩ = some (.slice uu qj.length vt):=(blk_cell qb.out 3).trans rfl;have qkk : w27.cell? ⟨qd,4,none⟩ = some (.slice ut qm.length vr):=(blk_cell qb.out 4).trans rfl;have qkj : w27.cell? ⟨qd,5,none⟩ = some (.slice us ql.length vq):=(blk_cell qb.out 5).trans rfl;have qki : w27.cell? ⟨qd,6,none⟩ = some (.int .i64 qt):=(blk_cell qb.out 6).trans rfl;have qca:=blk_frozen qb.out 0;have qbz:=blk_frozen qb.out 1;have qby:=blk_frozen qb.out 2;have qbx:=blk_frozen qb.out 3;have qbw:=blk_frozen qb.out 4;have qbv:=blk_frozen qb.out 5;have qbu:=blk_frozen qb.out 6))
   go_meet
   case rel=>exact ⟨_,(true),(by first|rfl|(simp;done)|(simp [*];done)),H',⟨by first|omega|exact Nat.le_refl _⟩,⟨by (with_reducible repeat (first|refine blk_drewN ?_ _|refine blk_drew ?_|refine blk_alloc ?_ _));exact qa.out⟩,⟨by (with_reducible repeat (first|refine blk_drewN ?_ _|refine blk_drew ?_|refine blk_alloc ?_ _));exact qb.out⟩,⟨by repeat (first|(with_reducible first|exact HB.out|apply below_alloc|apply pw_below_drewN|apply below_drew1|refine below_set ?_ ue.out|refine below_set ?_ uv.out)|exact HB.out)⟩⟩
  rw [if_pos c10] at H
  have qny : ((qf.length : Int) == (qj.length : Int)) = true:=beq_iff_eq.mpr c10
  have qnx : ((qf.length : Int) != (qj.length : Int)) = false:=bne_eq_false_iff_eq.mpr c10
  have qnw : (qf.length == qj.length) = true:=by first|simpa using c10|(simp at c10 ⊢; omega)
  clear c10
  by_cases c11 : (qi.length : Int) = (qm.length : Int)
  rotate_left
  ·rw [if_neg c11] at H
   have qnv : ((qi.length : Int) == (qm.length : Int)) = false:=beq_eq_false_iff_ne.mpr c11
   have qnu : ((qi.length : Int) != (qm.length : Int)) = true:=bne_iff_ne.mpr c11
   have qnt : (qi.length == qm.length) = false:=by first|simpa using c11|(simp at c11 ⊢; omega)
   have H':=Aside0.mk H
   clear H
   have qud:=qx.out
   have qto:=qw.out
   have qml : w5.cell? ⟨qc,0,none⟩ = some (.int .i64 qp):=(blk_cell qa.out 0).trans rfl
   have qmk : w5.cell? ⟨qc,1,none⟩ = some (.int .i64 qq):=(blk_cell qa.out 1).trans rfl
   have qmj : w5.cell? ⟨qc,2,none⟩ = some (.slice wd qn.length wb):=(blk_cell qa.out 2).trans rfl
   have qmi : w5.cell? ⟨qc,3,none⟩ = some (.slice wl qf.length wa):=(blk_cell qa.out 3).trans rfl
   have qmh : w5.cell? ⟨qc,4,none⟩ = some (.slice wk qi.length qz):=(blk_cell qa.out 4).trans rfl
   have qmg : w5.cell? ⟨qc,5,none⟩ = some (.slice wj qh.length qy):=(blk_cell qa.out 5).trans rfl
   have qmf : w5.cell? ⟨qc,6,none⟩ = some (.int .i64 qo):=(blk_cell qa.out 6).trans rfl
   have qgw:=blk_frozen qa.out 0
   have qgv:=blk_frozen qa.out 1
   have qgu:=blk_frozen qa.out 2
   have qgt:=blk_frozen qa.out 3
   have qgs:=blk_frozen qa.out 4
   have qgr:=blk_frozen qa.out 5
   have qgq:=blk_frozen qa.out 6
   have qme : w5.cell? ⟨qd,0,none⟩ = some (.int .i64 qu):=(blk_cell qb.out 0).trans rfl
   have qmd : w5.cell? ⟨qd,1,none⟩ = some (.int .i64 qv):=(blk_cell qb.out 1).trans rfl
   have qmc : w5.cell? ⟨qd,2,none⟩ = some (.slice vv qr.length vu):=(blk_cell qb.out 2).trans rfl
   have qmb : w5.cell? ⟨qd,3,none⟩ = some (.slice uu qj.length vt):=(blk_cell qb.out 3).trans rfl
   have qma : w5.cell? ⟨qd,4,none⟩ = some (.slice ut qm.length vr):=(blk_cell qb.out 4).trans rfl
   have qlz : w5.cell? ⟨qd,5,none⟩ = some (.slice us ql.length vq):=(blk_cell qb.out 5).trans rfl
   have qly : w5.cell? ⟨qd,6,none⟩ = some (.int .i64 qt):=(blk_cell qb.out 6).trans rfl
   have qgp:=blk_frozen qb.out 0
   have qgo:=blk_frozen qb.out 1
   have qgn:=blk_frozen qb.out 2
   have qgm:=blk_frozen qb.out 3
   have qgl:=blk_frozen qb.out 4
   have qgk:=blk_frozen qb.out 5
   have qgj:=blk_frozen qb.out 6
   go_wp2_with (first|(go_at_call 102;(with_reducible refine (laws_lbKdc.calls k qq _ _ qn qv _ _ qr true _ ?side1 ?side2 ?side3 ?side4 A8.out).mono ?_);(case side1=>repeat (first|exact (Kd.C_below qnp.out HB.out)|(with_reducible refine Kd.C_alloc ?_ _)|(with_reducible refine Kd.C_drewN ?_ _)|(with_reducible refine Kd.C_drew ?_)));(case side2=>exact qnr.out);(case side3=>repeat (first|exact (Kd.C_below qno.out HB.out)|(with_reducible refine Kd.C_alloc ?_ _)|(with_reducible refine Kd.C_drewN ?_ _)|(with_reducible refine Kd.C_drew ?_)));(case side4=>exact qnq.out);rintro e w21 ⟨rfl,hb⟩; have n0_:=Aside0.mk (blk_below (g:=qc) (o:=.cells #[.int .i64 qp,.int .i64 qq,.slice wd qn.length wb,.slice wl qf.length wa,.slice wk qi.length qz,.slice wj qh.length qy,.int .i64 qo] 69 (0,0)) z19x4 hb);have n1_:=Aside0.mk (blk_below (g:=qd) (o:=.cells #[.int .i64 qu,.int .i64 qv,.slice vv qr.length vu,.slice uu qj.length vt,.slice ut qm.length vr,.slice us ql.length vq,.int .i64 qt] 69 (0,0)) z19x5 hb);have n2_:=Aside0.mk (below_step z19x0 hb);clear qa;clear qb;clear HB;have qa:=n0_;have qb:=n1_;have HB:=n2_;clear n0_ n1_ n2_;(try clear hb);(try clear hb2);(try clear hk);(try clear hi);have qlx : w21.cell? ⟨qc,0,none⟩ = some (.int .i64 qp):=(blk_cell qa.out 0).trans rfl;have qlw : w21.cell? ⟨qc,1,none⟩ = some (.int .i64 qq):=(blk_cell qa.out 1).trans rfl;have qlv : w21.cell? ⟨qc,2,none⟩ = some (.slice wd qn.length wb):=(blk_cell qa.out 2).trans rfl;have qlu : w21.cell? ⟨qc,3,none⟩ = some (.slice wl qf.length wa):=(blk_cell qa.out 3).trans rfl;have qlt : w21.cell? ⟨qc,4,none⟩ = some (.slice wk qi.length qz):=(blk_cell qa.out 4).trans rfl;have qls : w21.cell? ⟨qc,5,none⟩ = some (.slice wj qh.length qy):=(blk_cell qa.out 5).trans rfl;have qlr : w21.cell? ⟨qc,6,none⟩ = some (.int .i64 qo):=(blk_cell qa.out 6).trans rfl;have qgi:=blk_frozen qa.out 0;have qdi:=blk_frozen qa.out 1;have qdh:=blk_frozen qa.out 2;have qdg:=blk_frozen qa.out 3;have qdf:=blk_frozen qa.out 4;have qde:=blk_frozen qa.out 5;have qdd:=blk_frozen qa.out 6;have qlq : w21.cell? ⟨qd,0,none⟩ = some (.int .i64 qu):=(blk_cell qb.out 0).trans rfl;have qlp : w21.cell? ⟨qd,1,none⟩ = some (.int .i64 qv):=(blk_cell qb.out 1).trans rfl;have qlo : w21.cell? ⟨qd,2,none⟩ = some (.slice vv qr.length vu):=(blk_cell qb.out 2).trans rfl;have qln : w21.cell? ⟨qd,3,none⟩ = some (.slice uu qj.length vt):=(blk_cell qb.out 3).trans rfl;have qlm : w21.cell? ⟨qd,4,none⟩ = some (.slice ut qm.length vr):=(blk_cell qb.out 4).trans rfl;have qll : w21.cell? ⟨qd,5,none⟩ = some (.slice us ql.length vq):=(blk_cell qb.out 5).trans rfl;have qlk : w21.cell? ⟨qd,6,none⟩ = some (.int .i64 qt):=(blk_cell qb.out 6).trans rfl;have qdc:=blk_frozen qb.out 0;have qdb:=blk_frozen qb.out 1;have qda:=blk_frozen qb.out 2;have qcz:=blk_frozen qb.out 3;have qcy:=blk_frozen qb.out 4;have qcx:=blk_frozen qb.out 5;have qcw:=blk_frozen qb.out 6))
   go_meet
   case rel=>exact ⟨_,(true),(by first|rfl|(simp;done)|(simp [*];done)),H',⟨by first|omega|exact Nat.le_refl _⟩,⟨by (with_reducible repeat (first|refine blk_drewN ?_ _|refine blk_drew ?_|refine blk_alloc ?_ _));exact qa.out⟩,⟨by (with_reducible repeat (first|refine blk_drewN ?_ _|refine blk_drew ?_|refine blk_alloc ?_ _));exact qb.out⟩,⟨by repeat (first|(with_reducible first|exact HB.out|apply below_alloc|apply pw_below_drewN|apply below_drew1|refine below_set ?_ ue.out|refine below_set ?_ uv.out)|exact HB.out)⟩⟩
  rw [if_pos c11] at H
  have qnv : ((qi.length : Int) == (qm.length : Int)) = true:=beq_iff_eq.mpr c11
  have qnu : ((qi.length : Int) != (qm.length : Int)) = false:=bne_eq_false_iff_eq.mpr c11
  have qnt : (qi.length == qm.length) = true:=by first|simpa using c11|(simp at c11 ⊢; omega)
  clear c11
  have H':=Aside0.mk H
  clear H
  have que:=qx.out
  have qtp:=qw.out
  have qnn : w5.cell? ⟨qc,0,none⟩ = some (.int .i64 qp):=(blk_cell qa.out 0).trans rfl
  have qnm : w5.cell? ⟨qc,1,none⟩ = some (.int .i64 qq):=(blk_cell qa.out 1).trans rfl
  have qnl : w5.cell? ⟨qc,2,none⟩ = some (.slice wd qn.length wb):=(blk_cell qa.out 2).trans rfl
  have qnk : w5.cell? ⟨qc,3,none⟩ = some (.slice wl qf.length wa):=(blk_cell qa.out 3).trans rfl
  have qnj : w5.cell? ⟨qc,4,none⟩ = some (.slice wk qi.length qz):=(blk_cell qa.out 4).trans rfl
  have qni : w5.cell? ⟨qc,5,none⟩ = some (.slice wj qh.length qy):=(blk_cell qa.out 5).trans rfl
  have qnh : w5.cell? ⟨qc,6,none⟩ = some (.int .i64 qo):=(blk_cell qa.out 6).trans rfl
  have qhy:=blk_frozen qa.out 0
  have qhx:=blk_frozen qa.out 1
  have qhw:=blk_frozen qa.out 2
  have qhv:=blk_frozen qa.out 3
  have qhu:=blk_frozen qa.out 4
  have qht:=blk_frozen qa.out 5
  have qhs:=blk_frozen qa.out 6
  have qng : w5.cell? ⟨qd,0,none⟩ = some (.int .i64 qu):=(blk_cell qb.out 0).trans rfl
  have qnf : w5.cell? ⟨qd,1,none⟩ = some (.int .i64 qv):=(blk_cell qb.out 1).trans rfl
  have qne : w5.cell? ⟨qd,2,none⟩ = some (.slice vv qr.length vu):=(blk_cell qb.out 2).trans rfl
  have qnd : w5.cell? ⟨qd,3,none⟩ = some (.slice uu qj.length vt):=(blk_cell qb.out 3).trans rfl
  have qnc : w5.cell? ⟨qd,4,none⟩ = some (.slice ut qm.length vr):=(blk_cell qb.out 4).trans rfl
  have qnb : w5.cell? ⟨qd,5,none⟩ = some (.slice us ql.length vq):=(blk_cell qb.out 5).trans rfl
  have qna : w5.cell? ⟨qd,6,none⟩ = some (.int .i64 qt):=(blk_cell qb.out 6).trans rfl
  have qhr:=blk_frozen qb.out 0
  have qhq:=blk_frozen qb.out 1
  have qhp:=blk_frozen qb.out 2
  have qho:=blk_frozen qb.out 3
  have qhn:=blk_frozen qb.out 4
  have qhm:=blk_frozen qb.out 5
  have qhl:=blk_frozen qb.out 6
  go_wp2_with (first|(go_at_call 102;(with_reducible refine (laws_lbKdc.calls k qq _ _ qn qv _ _ qr true _ ?side1 ?side2 ?side3 ?side4 A8.out).mono ?_);(case side1=>repeat (first|exact (Kd.C_below qnp.out HB.out)|(with_reducible refine Kd.C_alloc ?_ _)|(with_reducible refine Kd.C_drewN ?_ _)|(with_reducible refine Kd.C_drew ?_)));(case side2=>exact qnr.out);(case side3=>repeat (first|exact (Kd.C_below qno.out HB.out)|(with_reducible refine Kd.C_alloc ?_ _)|(with_reducible refine Kd.C_drewN ?_ _)|(with_reducible refine Kd.C_drew ?_)));(case side4=>exact qnq.out);rintro e w15 ⟨rfl,hb⟩; have n0_:=Aside0.mk (blk_below (g:=qc) (o:=.cells #[.int .i64 qp,.int .i64 qq,.slice wd qn.length wb,.slice wl qf.length wa,.slice wk qi.length qz,.slice wj qh.length qy,.int .i64 qo] 69 (0,0)) z19x4 hb);have n1_:=Aside0.mk (blk_below (g:=qd) (o:=.cells #[.int .i64 qu,.int .i64 qv,.slice vv qr.length vu,.slice uu qj.length vt,.slice ut qm.length vr,.slice us ql.length vq,.int .i64 qt] 69 (0,0)) z19x5 hb);have n2_:=Aside0.mk (below_step z19x0 hb);clear qa;clear qb;clear HB;have qa:=n0_;have qb:=n1_;have HB:=n2_;clear n0_ n1_ n2_;(try clear hb);(try clear hb2);(try clear hk);(try clear hi);have qmz : w15.cell? ⟨qc,0,none⟩ = some (.int .i64 qp):=(blk_cell qa.out 0).trans rfl;have qmy : w15.cell? ⟨qc,1,none⟩ = some (.int .i64 qq):=(blk_cell qa.out 1).trans rfl;have qmx : w15.cell? ⟨qc,2,none⟩ = some (.slice wd qn.length wb):=(blk_cell qa.out 2).trans rfl;have qmw : w15.cell? ⟨qc,3,none⟩ = some (.slice wl qf.length wa):=(blk_cell qa.out 3).trans rfl;have qmv : w15.cell? ⟨qc,4,none⟩ = some (.slice wk qi.length qz):=(blk_cell qa.out 4).trans rfl;have qmu : w15.cell? ⟨qc,5,none⟩ = some (.slice wj qh.length qy):=(blk_cell qa.out 5).trans rfl;have qmt : w15.cell? ⟨qc,6,none⟩ = some (.int .i64 qo):=(blk_cell qa.out 6).trans rfl;have qhk:=blk_frozen qa.out 0;have qhj:=blk_frozen qa.out 1;have qhi:=blk_frozen qa.out 2;have qhh:=blk_frozen qa.out 3;have qhg:=blk_frozen qa.out 4;have qhf:=blk_frozen qa.out 5;have qhe:=blk_frozen qa.out 6;have qms : w15.cell? ⟨qd,0,none⟩ = some (.int .i64 qu):=(blk_cell qb.out 0).trans rfl;have qmr : w15.cell? ⟨qd,1,none⟩ = some (.int .i64 qv):=(blk_cell qb.out 1).trans rfl;have qmq : w15.cell? ⟨qd,2,none⟩ = some (.slice vv qr.length vu):=(blk_cell qb.out 2).trans rfl;have qmp : w15.cell? ⟨qd,3,none⟩ = some (.slice uu qj.length vt):=(blk_cell qb.out 3).trans rfl;have qmo : w15.cell? ⟨qd,4,none⟩ = some (.slice ut qm.length vr):=(blk_cell qb.out 4).trans rfl;have qmn : w15.cell? ⟨qd,5,none⟩ = some (.slice us ql.length vq):=(blk_cell qb.out 5).trans rfl;have qmm : w15.cell? ⟨qd,6,none⟩ = some (.int .i64 qt):=(blk_cell qb.out 6).trans rfl;have qhd:=blk_frozen qb.out 0;have qhc:=blk_frozen qb.out 1;have qhb:=blk_frozen qb.out 2;have qha:=blk_frozen qb.out 3;have qgz:=blk_frozen qb.out 4;have qgy:=blk_frozen qb.out 5;have qgx:=blk_frozen qb.out 6))
  go_meet
  case rel=>exact ⟨_,(((qh.length : Int) != (ql.length : Int))),(by first|rfl|(simp;done)|(simp [*];done)),H',⟨by first|omega|exact Nat.le_refl _⟩,⟨by (with_reducible repeat (first|refine blk_drewN ?_ _|refine blk_drew ?_|refine blk_alloc ?_ _));exact qa.out⟩,⟨by (with_reducible repeat (first|refine blk_drewN ?_ _|refine blk_drew ?_|refine blk_alloc ?_ _));exact qb.out⟩,⟨by repeat (first|(with_reducible first|exact HB.out|apply below_alloc|apply pw_below_drewN|apply below_drew1|refine below_set ?_ ue.out|refine below_set ?_ uv.out)|exact HB.out)⟩⟩
 case rest =>
  clear HC3
  try clear c1
  try clear c2
  try clear p2
  try clear c3
  try clear c4
  try clear c6
  try clear qfl
  try clear qra
  try clear c7
  try clear qqz
  try clear qqy
  try clear c9
  try clear c10
  try clear qny
  try clear qnx
  try clear qnw
  try clear c11
  try clear qnv
  try clear qnu
  try clear qnt
  try clear c12
  try clear c18
  try clear c24
  try clear c30
  try clear c34
  try clear c37
  try clear qnn
  try clear qnm
  try clear qnl
  try clear qnk
  try clear qnj
  try clear qni
  try clear qnh
  try clear qng
  try clear qnf
  try clear qne
  try clear qnd
  try clear qnc
  try clear qnb
  try clear qna
  try clear qmz
  try clear qmy
  try clear qmx
  try clear qmw
  try clear qmv
  try clear qmu
  try clear qmt
  try clear qms
  try clear qmr
  try clear qmq
  try clear qmp
  try clear qmo
  try clear qmn
  try clear qmm
  try clear qml
  try clear qmk
  try clear qmj
  try clear qmi
  try clear qmh
  try clear qmg
  try clear qmf
  try clear qme
  try clear qmd
  try clear qmc
  try clear qmb
  try clear qma
  try clear qlz
  try clear qly
  try clear qlx
  try clear qlw
  try clear qlv
  try clear qlu
  try clear qlt
  try clear qls
  try clear qlr
  try clear qlq
  try clear qlp
  try clear qlo
  try clear qln
  try clear qlm
  try clear qll
  try clear qlk
  try clear qlj
  try clear qli
  try clear qlh
  try clear qlg
  try clear qlf
  try clear qle
  try clear qld
  try clear qlc
  try clear qlb
  try clear qla
  try clear qkz
  try clear qky
  try clear qkx
  try clear qkw
  try clear qkv
  try clear qku
  try clear qkt
  try clear qks
  try clear qkr
  try clear qkq
  try clear qkp
  try clear qko
  try clear qkn
  try clear qkm
  try clear qkl
  try clear qkk
  try clear qkj
  try clear qki
  try clear qkh
  try clear qkg
  try clear qkf
  try clear qke
  try clear qkd
  try clear qkc
  try clear qkb
  try clear qka
  try clear qjz
  try clear qjy
  try clear qjx
  try clear qjw
  try clear qjv
  try clear qju
  try clear qjt
  try clear qjs
  try clear qjr
  try clear qjq
  try clear qjp
  try clear qjo
  try clear qjn
  try clear qjm
  try clear qjl
  try clear qjk
  try clear qjj
  try clear qji
  try clear qjh
  try clear qjg
  try clear qjf
  try clear qje
  try clear qjd
  try clear qjc
  try clear qjb
  try clear qja
  try clear qiz
  try clear qiy
  try clear qix
  try clear qiw
  try clear qiv
  try clear qiu
  try clear qit
  try clear qis
  try clear qhy
  try clear qhx
  try clear qhw
  try clear qhv
  try clear qhu
  try clear qht
  try clear qhs
  try clear qhr
  try clear qhq
  try clear qhp
  try clear qho
  try clear qhn
  try clear qhm
  try clear qhl
  try clear qhk
  try clear qhj
  try clear qhi
  try clear qhh
  try clear qhg
  try clear qhf
  try clear qhe
  try clear qhd
  try clear qhc
  try clear qhb
  try clear qha
  try clear qgz
  try clear qgy
  try clear qgx
  try clear qgw
  try clear qgv
  try clear qgu
  try clear qgt
  try clear qgs
  try clear qgr
  try clear qgq
  try clear qgp
  try clear qgo
  try clear qgn
  try clear qgm
  try clear qgl
  try clear qgk
  try clear qgj
  try clear qgi
  try clear qdi
  try clear qdh
  try clear qdg
  try clear qdf
  try clear qde
  try clear qdd
  try clear qdc
  try clear qdb
  try clear qda
  try clear qcz
  try clear qcy
  try clear qcx
  try clear qcw
  try clear qcv
  try clear qcu
  try clear qct
  try clear qcs
  try clear qcr
  try clear qcq
  try clear qcp
  try clear qco
  try clear qcn
  try clear qcm
  try clear qcl
  try clear qck
  try clear qcj
  try clear qci
  try clear qch
  try clear qcg
  try clear qcf
  try clear qce
  try clear qcd
  try clear qcc
  try clear qcb
  try clear qca
  try clear qbz
  try clear qby
  try clear qbx
  try clear qbw
  try clear qbv
  try clear qbu
  try clear qbt
  try clear qbs
  try clear qbr
  try clear qbq
  try clear qbp
  try clear qbo
  try clear qbn
  try clear qbm
  try clear qbl
  try clear qbk
  try clear qbj
  try clear qbi
  try clear qbh
  try clear qbg
  try clear qbf
  try clear qbe
  try clear qbd
  try clear qbc
  try clear qbb
  try clear qba
  try clear qaz
  try clear qay
  try clear qax
  try clear qaw
  try clear qav
  try clear qau
  try clear qat
  try clear qas
  try clear qar
  try clear qaq
  try clear qap
  try clear qao
  try clear qan
  try clear qam
  try clear qal
  try clear qak
  try clear qaj
  try clear qai
  try clear qah
  try clear qag
  try clear qaf
  try clear qae
  obtain ⟨kq,qfm,rfl,HA,HJ2,qa,qb,HB⟩:=hcut
  cases kq with
  | zero=>exact absurd HA.out (by simp [laws_lbWorld.j0])
  | succ kj2 =>
   have H:=HA.out
   clear HA
   simp only [laws_lbWorld.j0] at H
   by_cases c40 : qfm = true
   ·subst c40
    rw [if_pos rfl] at H
    obtain rfl:=Option.some.inj H
    go_wp2
    go_ret
    exact ⟨by first|rfl|(simp [errW_none,errW_some] <;> rfl)|(simp [*,errW_none,errW_some] <;> rfl),by repeat (first|(with_reducible first|exact HB.out|apply below_alloc|apply pw_below_drewN|apply below_drew1|refine below_set ?_ ue.out|refine below_set ?_ uv.out)|exact HB.out)⟩
   ·replace c40:=Bool.eq_false_iff.mpr c40
    subst c40
    rw [if_neg (show ¬ (false = true) by decide)] at H
    have H':=Aside0.mk H
    clear H
    go_wp2
    go_loopg [5] kj2 (fun kq v5 w' => ∃ (qe : Int),v5 = .int .i64 qe ∧ Aside0 (laws_lbWorld.l0 kq qe qp qq qn qf qi qh qo qu qv qr qj qm ql qt = some r) ∧ Aside0 (kq ≤ kj2) ∧ Aside0 (w'.heap[qc]? = some (.cells #[.int .i64 qp,.int .i64 qq,(.slice wd qn.length wb),(.slice wl qf.length wa),(.slice wk qi.length qz),(.slice wj qh.length qy),.int .i64 qo] 69 (0,0))) ∧ Aside0 (w'.heap[qd]? = some (.cells #[.int .i64 qu,.int .i64 qv,(.slice vv qr.length vu),(.slice uu qj.length vt),(.slice ut qm.length vr),(.slice us ql.length vq),.int .i64 qt] 69 (0,0))) ∧ Aside0 (Below w.heap.size w w'))
    case atStart=>exact ⟨(0),(by first|rfl|(simp;done)|(simp [*];done)),H',⟨Nat.le_refl _⟩,⟨by (with_reducible repeat (first|refine blk_drewN ?_ _|refine blk_drew ?_|refine blk_alloc ?_ _));exact qa.out⟩,⟨by (with_reducible repeat (first|refine blk_drewN ?_ _|refine blk_drew ?_|refine blk_alloc ?_ _));exact qb.out⟩,⟨by repeat (first|(with_reducible first|exact HB.out|apply below_alloc|apply pw_below_drewN|apply below_drew1|refine below_set ?_ ue.out|refine below_set ?_ uv.out)|exact HB.out)⟩⟩
    case round =>
     clear H'
     try clear c1
     try clear c2
     try clear p2
     try clear c3
     try clear c4
     try clear c6
     try clear qfl
     try clear qra
     try clear c7
     try clear qqz
     try clear qqy
     try clear c9
     try clear c10
     try clear qny
     try clear qnx
     try clear qnw
     try clear c11
     try clear qnv
     try clear qnu
     try clear qnt
     try clear c12
     try clear c18
     try clear c24
     try clear c30
     try clear c34
     try clear c37
     try clear c40
     try clear qnn
     try clear qnm
     try clear qnl
     try clear qnk
     try clear qnj
     try clear qni
     try clear qnh
     try clear qng
     try clear qnf
     try clear qne
     try clear qnd
     try clear qnc
     try clear qnb
     try clear qna
     try clear qmz
     try clear qmy
     try clear qmx
     try clear qmw
     try clear qmv
     try clear qmu
     try clear qmt
     try clear qms
     try clear qmr
     try clear qmq
     try clear qmp
     try clear qmo
     try clear qmn
     try clear qmm
     try clear qml
     try clear qmk
     try clear qmj
     try clear qmi
     try clear qmh
     try clear qmg
     try clear qmf
     try clear qme
     try clear qmd
     try clear qmc
     try clear qmb
     try clear qma
     try clear qlz
     try clear qly
     try clear qlx
     try clear qlw
     try clear qlv
     try clear qlu
     try clear qlt
     try clear qls
     try clear qlr
     try clear qlq
     try clear qlp
     try clear qlo
     try clear qln
     try clear qlm
     try clear qll
     try clear qlk
     try clear qlj
     try clear qli
     try clear qlh
     try clear qlg
     try clear qlf
     try clear qle
     try clear qld
     try clear qlc
     try clear qlb
     try clear qla
     try clear qkz
     try clear qky
     try clear qkx
     try clear qkw
     try clear qkv
     try clear qku
     try clear qkt
     try clear qks
     try clear qkr
     try clear qkq
     try clear qkp
     try clear qko
     try clear qkn
     try clear qkm
     try clear qkl
     try clear qkk
     try clear qkj
     try clear qki
     try clear qkh
     try clear qkg
     try clear qkf
     try clear qke
     try clear qkd
     try clear qkc
     try clear qkb
     try clear qka
     try clear qjz
     try clear qjy
     try clear qjx
     try clear qjw
     try clear qjv
     try clear qju
     try clear qjt
     try clear qjs
     try clear qjr
     try clear qjq
     try clear qjp
     try clear qjo
     try clear qjn
     try clear qjm
     try clear qjl
     try clear qjk
     try clear qjj
     try clear qji
     try clear qjh
     try clear qjg
     try clear qjf
     try clear qje
     try clear qjd
     try clear qjc
     try clear qjb
     try clear qja
     try clear qiz
     try clear qiy
     try clear qix
     try clear qiw
     try clear qiv
     try clear qiu
     try clear qit
     try clear qis
     try clear qhy
     try clear qhx
     try clear qhw
     try clear qhv
     try clear qhu
     try clear qht
     try clear qhs
     try clear qhr
     try clear qhq
     try clear qhp
     try clear qho
     try clear qhn
     try clear qhm
     try clear qhl
     try clear qhk
     try clear qhj
     try clear qhi
     try clear qhh
     try clear qhg
     try clear qhf
     try clear qhe
     try clear qhd
     try clear qhc
     try clear qhb
     try clear qha
     try clear qgz
     try clear qgy
     try clear qgx
     try clear qgw
     try clear qgv
     try clear qgu
     try clear qgt
     try clear qgs
     try clear qgr
     try clear qgq
     try clear qgp
     try clear qgo
     try clear qgn
     try clear qgm
     try clear qgl
     try clear qgk
     try clear qgj
     try clear qgi
     try clear qdi
     try clear qdh
     try clear qdg
     try clear qdf
     try clear qde
     try clear qdd
     try clear qdc
     try clear qdb
     try clear qda
     try clear qcz
     try clear qcy
     try clear qcx
     try clear qcw
     try clear qcv
     try clear qcu
     try clear qct
     try clear qcs
     try clear qcr
     try clear qcq
     try clear qcp
     try clear qco
     try clear qcn
     try clear qcm
     try clear qcl
     try clear qck
     try clear qcj
     try clear qci
     try clear qch
     try clear qcg
     try clear qcf
     try clear qce
     try clear qcd
     try clear qcc
     try clear qcb
     try clear qca
     try clear qbz
     try clear qby
     try clear qbx
     try clear qbw
     try clear qbv
     try clear qbu
     try clear qbt
     try clear qbs
     try clear qbr
     try clear qbq
     try clear qbp
     try clear qbo
     try clear qbn
     try clear qbm
     try clear qbl
     try clear qbk
     try clear qbj
     try clear qbi
     try clear qbh
     try clear qbg
     try clear qbf
     try clear qbe
     try clear qbd
     try clear qbc
     try clear qbb
     try clear qba
     try clear qaz
     try clear qay
     try clear qax
     try clear qaw
     try clear qav
     try clear qau
     try clear qat
     try clear qas
     try clear qar
     try clear qaq
     try clear qap
     try clear qao
     try clear qan
     try clear qam
     try clear qal
     try clear qak
     try clear qaj
     try clear qai
     try clear qah
     try clear qag
     try clear qaf
     try clear qae
     try clear p2
     obtain ⟨qe,rfl,HA,HK2,qa,qb,HB⟩:=hrel
     cases gk with
     | zero=>exact absurd HA.out (by simp [laws_lbWorld.l0])
     | succ k2 =>
      have H:=HA.out
      clear HA
      simp only [laws_lbWorld.l0] at H
      by_cases c41 : qe < (qf.length : Int)
      ·rw [if_pos c41] at H
       have qql : decide (qe < (qf.length : Int)) = true:=decide_eq_true c41
       clear c41
       by_cases c42 : 0 ≤ qe
       rotate_left
       ·rw [if_neg c42] at H
        exact absurd H (by simp)
       rw [if_pos c42] at H
       have qrf : decide (0 ≤ qe) = true:=decide_eq_true c42
       clear c42
       by_cases c43 : qe < (qj.length : Int)
       rotate_left
       ·rw [if_neg c43] at H
        exact absurd H (by simp)
       rw [if_pos c43] at H
       have qre : decide (qe < (qj.length : Int)) = true:=decide_eq_true c43
       clear c43
       replace H:=Option.bind_eq_some_iff.mp H
       obtain ⟨qob,qri,H⟩:=H
       replace H : (if qob = true then (laws_lbWorld.l0 k2 (wrap64 (qe + 1)) qp qq qn qf qi qh qo qu qv qr qj qm ql qt) else (some false)) = some r:=H
       have A44:=Aside0.mk qri
       clear qri
       by_cases c45 : qob = true
       rotate_left
       ·replace c45:=Bool.eq_false_iff.mpr c45
        subst c45
        rw [if_neg (show ¬ (false = true) by decide)] at H
        obtain rfl:=Option.some.inj H
        have qtx:=qx.out
        have qti:=qw.out
        have qim : wr.cell? ⟨qc,0,none⟩ = some (.int .i64 qp):=(blk_cell qa.out 0).trans rfl
        have qil : wr.cell? ⟨qc,1,none⟩ = some (.int .i64 qq):=(blk_cell qa.out 1).trans rfl
        have qik : wr.cell? ⟨qc,2,none⟩ = some (.slice wd qn.length wb):=(blk_cell qa.out 2).trans rfl
        have qij : wr.cell? ⟨qc,3,none⟩ = some (.slice wl qf.length wa):=(blk_cell qa.out 3).trans rfl
        have qii : wr.cell? ⟨qc,4,none⟩ = some (.slice wk qi.length qz):=(blk_cell qa.out 4).trans rfl
        have qih : wr.cell? ⟨qc,5,none⟩ = some (.slice wj qh.length qy):=(blk_cell qa.out 5).trans rfl
        have qig : wr.cell? ⟨qc,6,none⟩ = some (.int .i64 qo):=(blk_cell qa.out 6).trans rfl
        have qga:=blk_frozen qa.out 0
        have qfz:=blk_frozen qa.out 1
        have qfy:=blk_frozen qa.out 2
        have qfx:=blk_frozen qa.out 3
        have qfw:=blk_frozen qa.out 4
        have qfv:=blk_frozen qa.out 5
        have qfu:=blk_frozen qa.out 6
        try go_wp2
        have n0_:=Aside0.mk (blk_drew qa.out)
        have n1_:=Aside0.mk (blk_drew qb.out)
        have n2_:=Aside0.mk (below_drew1 HB.out)
        clear qa
        clear qb
        clear HB
        have qa:=n0_
        have qb:=n1_
        have HB:=n2_
        clear n0_ n1_ n2_
        have qeo : 0 ≤ (qe : Int):=of_decide_eq_true (by first|(with_reducible assumption)|assumption)
        have qem : qe < (qf.length : Int):=of_decide_eq_true (by first|(with_reducible assumption)|assumption)
        obtain ⟨wi,qek,qdw,qej,qdv,qei,qdu,qeh,qdt,qqx,vp,vo,vn,vm,vl,vk,gz,pn,gy,pm,gx,pl,gw,pk⟩:=at_T28 qqr.out qe qeo qem
        have gc:=vk
        have gf:=vl
        have gg:=vm
        have gh:=vn
        have gi:=vo
        have gj:=vp
        cases qqx
        replace vp:=(HB.out.cell (World.block_lt_of_cell? w _ vp)).trans vp
        replace vo:=(HB.out.cell (World.block_lt_of_cell? w _ vo)).trans vo
        replace vn:=(HB.out.cell (World.block_lt_of_cell? w _ vn)).trans vn
        replace vm:=(HB.out.cell (World.block_lt_of_cell? w _ vm)).trans vm
        replace vl:=(HB.out.cell (World.block_lt_of_cell? w _ vl)).trans vl
        replace vk:=(HB.out.cell (World.block_lt_of_cell? w _ vk)).trans vk
        have qad:=Aside0.mk pn
        have qfc:=Aside0.mk gz
        clear pn gz
        have qac:=Aside0.mk pm
        have qfb:=Aside0.mk gy
        clear pm gy
        have qab:=Aside0.mk pl
        have qfa:=Aside0.mk gx
        clear pl gx
        have qaa:=Aside0.mk pk
        have qez:=Aside0.mk gw
        clear pk gw
        replace qeo:=eq_true qeo
        replace qem:=eq_true qem
        have qen : 0 ≤ (qe : Int):=of_decide_eq_true (by first|(with_reducible assumption)|assumption)
        have qel : qe < (qj.length : Int):=of_decide_eq_true (by first|(with_reducible assumption)|assumption)
        obtain ⟨wh,qeg,qds,qef,qdr,qee,qdq,qed,qdp,qqw,wz,wy,wx,ww,wv,wu,gv,pj,gu,pi,gt,ph,gs,pg⟩:=at_T28 qqo.out qe qen qel
        have jw:=wu
        have jx:=wv
        have jy:=ww
        have jz:=wx
        have ga:=wy
        have gb:=wz
        cases qqw
        replace wz:=(HB.out.cell (World.block_lt_of_cell? w _ wz)).trans wz
        replace wy:=(HB.out.cell (World.block_lt_of_cell? w _ wy)).trans wy
        replace wx:=(HB.out.cell (World.block_lt_of_cell? w _ wx)).trans wx
        replace ww:=(HB.out.cell (World.block_lt_of_cell? w _ ww)).trans ww
        replace wv:=(HB.out.cell (World.block_lt_of_cell? w _ wv)).trans wv
        replace wu:=(HB.out.cell (World.block_lt_of_cell? w _ wu)).trans wu
        have pz:=Aside0.mk pj
        have qey:=Aside0.mk gv
        clear pj gv
        have px:=Aside0.mk pi
        have qex:=Aside0.mk gu
        clear pi gu
        have pw:=Aside0.mk ph
        have qew:=Aside0.mk gt
        clear ph gt
        have pv:=Aside0.mk pg
        have qev:=Aside0.mk gs
        clear pg gs
        replace qen:=eq_true qen
        replace qel:=eq_true qel
        refine start_ (n:=12) (S:=fun w' => w'.cell? ⟨qc,0,none⟩ = some (.int .i64 qp) ∧ w'.cell? ⟨qc,1,none⟩ = some (.int .i64 qq) ∧ w'.cell? ⟨qc,2,none⟩ = some (.slice wd qn.length wb) ∧ w'.cell? ⟨qc,3,none⟩ = some (.slice (some wi) qf.length wa) ∧ w'.cell? ⟨qc,4,none⟩ = some (.slice wk qi.length qz) ∧ w'.cell? ⟨qc,5,none⟩ = some (.slice wj qh.length qy) ∧ w'.cell? ⟨qc,6,none⟩ = some (.int .i64 qo) ∧ w'.cell? ⟨qd,0,none⟩ = some (.int .i64 qu) ∧ w'.cell? ⟨qd,1,none⟩ = some (.int .i64 qv) ∧ w'.cell? ⟨qd,2,none⟩ = some (.slice vv qr.length vu) ∧ w'.cell? ⟨qd,3,none⟩ = some (.slice (some wh) qj.length vt) ∧ w'.cell? ⟨qd,4,none⟩ = some (.slice ut qm.length vr) ∧ w'.cell? ⟨qd,5,none⟩ = some (.slice us ql.length vq) ∧ w'.cell? ⟨qd,6,none⟩ = some (.int .i64 qt) ∧ w'.cell? (wi.add ((qe).toNat * 6)) = some (.int .i64 ((rd_T28 qf qe).f0)) ∧ w'.cell? ⟨(wi.add ((qe).toNat * 6)).block,(wi.add ((qe).toNat * 6)).off + 1,none⟩ = some (.int .i64 ((rd_T28 qf qe).f1)) ∧ w'.cell? ⟨(wi.add ((qe).toNat * 6)).block,(wi.add ((qe).toNat * 6)).off + 2,none⟩ = some (.slice qek ((rd_T28 qf qe).f2).length qdw) ∧ w'.cell? ⟨(wi.add ((qe).toNat * 6)).block,(wi.add ((qe).toNat * 6)).off + 3,none⟩ = some (.slice qej ((rd_T28 qf qe).f3).length qdv) ∧ w'.cell? ⟨(wi.add ((qe).toNat * 6)).block,(wi.add ((qe).toNat * 6)).off + 4,none⟩ = some (.slice qei ((rd_T28 qf qe).f4).length qdu) ∧ w'.cell? ⟨(wi.add ((qe).toNat * 6)).block,(wi.add ((qe).toNat * 6)).off + 5,none⟩ = some (.slice qeh ((rd_T28 qf qe).f5).length qdt) ∧ w'.cell? (wh.add ((qe).toNat * 6)) = some (.int .i64 ((rd_T28 qj qe).f0)) ∧ w'.cell? ⟨(wh.add ((qe).toNat * 6)).block,(wh.add ((qe).toNat * 6)).off + 1,none⟩ = some (.int .i64 ((rd_T28 qj qe).f1)) ∧ w'.cell? ⟨(wh.add ((qe).toNat * 6)).block,(wh.add ((qe).toNat * 6)).off + 2,none⟩ = some (.slice qeg ((rd_T28 qj qe).f2).length qds) ∧ w'.cell? ⟨(wh.add ((qe).toNat * 6)).block,(wh.add ((qe).toNat * 6)).off + 3,none⟩ = some (.slice qef ((rd_T28 qj qe).f3).length qdr) ∧ w'.cell? ⟨(wh.add ((qe).toNat * 6)).block,(wh.add ((qe).toNat * 6)).off + 4,none⟩ = some (.slice qee ((rd_T28 qj qe).f4).length qdq) ∧ w'.cell? ⟨(wh.add ((qe).toNat * 6)).block,(wh.add ((qe).toNat * 6)).off + 5,none⟩ = some (.slice qed ((rd_T28 qj qe).f5).length qdp)) (ds:=[]) #[false,false,false,false,false,false,false,false,false,false,false,false] (by kernel_rfl) rfl rfl ⟨(blk_cell qa.out 0).trans rfl,(blk_cell qa.out 1).trans rfl,(blk_cell qa.out 2).trans rfl,(blk_cell qa.out 3).trans rfl,(blk_cell qa.out 4).trans rfl,(blk_cell qa.out 5).trans rfl,(blk_cell qa.out 6).trans rfl,(blk_cell qb.out 0).trans rfl,(blk_cell qb.out 1).trans rfl,(blk_cell qb.out 2).trans rfl,(blk_cell qb.out 3).trans rfl,(blk_cell qb.out 4).trans rfl,(blk_cell qb.out 5).trans rfl,(blk_cell qb.out 6).trans rfl,((HB.out.cell (World.block_lt_of_cell? w _ gj)).trans gj),((HB.out.cell (World.block_lt_of_cell? w _ gi)).trans gi),((HB.out.cell (World.block_lt_of_cell? w _ gh)).trans gh),((HB.out.cell (World.block_lt_of_cell? w _ gg)).trans gg),((HB.out.cell (World.block_lt_of_cell? w _ gf)).trans gf),((HB.out.cell (World.block_lt_of_cell? w _ gc)).trans gc),((HB.out.cell (World.block_lt_of_cell? w _ gb)).trans gb),((HB.out.cell (World.block_lt_of_cell? w _ ga)).trans ga),((HB.out.cell (World.block_lt_of_cell? w _ jz)).trans jz),((HB.out.cell (World.block_lt_of_cell? w _ jy)).trans jy),((HB.out.cell (World.block_lt_of_cell? w _ jx)).trans jx),((HB.out.cell (World.block_lt_of_cell? w _ jw)).trans jw)⟩ (fun hHeld=>?_);refine with_tabW laws_lbWorld.tab6 laws_lbWorld.bits6 (fun HT_ HW_=>?_)
        generalize wr.drew = w52 at qa qb HB qad qac qab qaa pz px pw pv vp vo vn vm vl vk wz wy wx ww wv wu hHeld ⊢
        refine pure_ (i:=0) (N:=some 62) (v:=?_) (a':=?_) #[true,false,false,false,false,false,false,false,false,false,false,false] rfl rfl (any_of HT_.out (by kernel_rfl)) (fun _ _ _ h=>h) (Or.inl ⟨by rfl,?_⟩) ?_ ?_
        rotate_left
        ·intro w'
         go_simp
         with_reducible rfl
        rotate_left
        ·exact z19a
        refine pure_ (i:=2) (N:=some 64) (v:=?_) (a':=?_) #[true,false,true,false,false,false,false,false,false,false,false,false] rfl rfl (any_of HT_.out (by kernel_rfl)) (fun _ _ _ h=>h) (Or.inl ⟨by rfl,?_⟩) ?_ ?_
        rotate_left
        ·intro w'
         go_simp
         with_reducible rfl
        rotate_left
        ·exact z19a
        refine pure_ (i:=5) (N:=some 67) (v:=?_) (a':=?_) #[true,false,true,false,false,true,false,false,false,false,false,false] rfl rfl (any_of HT_.out (by kernel_rfl)) (fun _ _ _ h=>h) (Or.inl ⟨by rfl,?_⟩) ?_ ?_
        rotate_left
        ·intro w'
         go_simp
         with_reducible rfl
        rotate_left
        ·exact z19a
        refine pure_ (i:=7) (N:=some 69) (v:=?_) (a':=?_) #[true,false,true,false,false,true,false,true,false,false,false,false] rfl rfl (any_of HT_.out (by kernel_rfl)) (fun _ _ _ h=>h) (Or.inl ⟨by rfl,?_⟩) ?_ ?_
        rotate_left
        ·intro w'
         go_simp
         with_reducible rfl
        rotate_left
        ·exact z19a
        refine take_ (i:=1) (N:=some 63) (v:=?_) (a':=?_) #[true,true,true,false,false,true,false,true,false,false,false,false] rfl rfl (take_ofW HT_.out HW_.out (by kernel_rfl)) (fun _ _ _ h=>h) (Or.inl ⟨by rfl,?_⟩) hHeld ?_ ?_
        rotate_left
        ·rintro w' ⟨s0,s1,s2,s3,s4,s5,s6,s7,s8,s9,s10,s11,s12,s13,s14,s15,s16,s17,s18,s19,s20,s21,s22,s23,s24,s25⟩
         go_simp
         with_reducible rfl
        rotate_left
        ·exact z19a
        refine pure_ (i:=3) (N:=some 65) (v:=?_) (a':=?_) #[true,true,true,true,false,true,false,true,false,false,false,false] rfl rfl (any_of HT_.out (by kernel_rfl)) (fun _ _ _ h=>h) (Or.inl ⟨by rfl,?_⟩) ?_ ?_
        rotate_left
        ·intro w'
         go_simp
         with_reducible rfl
        rotate_left
        ·exact z19a
        refine take_ (i:=4) (N:=some 66) (v:=?_) (a':=?_) #[true,true,true,true,true,true,false,true,false,false,false,false] rfl rfl (take_ofW HT_.out HW_.out (by kernel_rfl)) (fun _ _ _ h=>h) (Or.inl ⟨by rfl,?_⟩) hHeld ?_ ?_
        rotate_left
        ·rintro w' ⟨s0,s1,s2,s3,s4,s5,s6,s7,s8,s9,s10,s11,s12,s13,s14,s15,s16,s17,s18,s19,s20,s21,s22,s23,s24,s25⟩
         go_simp
         with_reducible rfl
        rotate_left
        ·exact z19a
        refine take_ (i:=6) (N:=some 68) (v:=?_) (a':=?_) #[true,true,true,true,true,true,true,true,false,false,false,false] rfl rfl (take_ofW HT_.out HW_.out (by kernel_rfl)) (fun _ _ _ h=>h) (Or.inl ⟨by rfl,?_⟩) hHeld ?_ ?_
        rotate_left
        ·rintro w' ⟨s0,s1,s2,s3,s4,s5,s6,s7,s8,s9,s10,s11,s12,s13,s14,s15,s16,s17,s18,s19,s20,s21,s22,s23,s24,s25⟩
         go_simp
         with_reducible rfl
        rotate_left
        ·exact z19a
        refine pure_ (i:=8) (N:=some 70) (v:=?_) (a':=?_) #[true,true,true,true,true,true,true,true,true,false,false,false] rfl rfl (any_of HT_.out (by kernel_rfl)) (fun _ _ _ h=>h) (Or.inl ⟨by rfl,?_⟩) ?_ ?_
        rotate_left
        ·intro w'
         go_simp
         with_reducible rfl
        rotate_left
        ·exact z19a
        refine take_ (i:=9) (N:=some 71) (v:=?_) (a':=?_) #[true,true,true,true,true,true,true,true,true,true,false,false] rfl rfl (take_ofW HT_.out HW_.out (by kernel_rfl)) (fun _ _ _ h=>h) (Or.inl ⟨by rfl,?_⟩) hHeld ?_ ?_
        rotate_left
        ·rintro w' ⟨s0,s1,s2,s3,s4,s5,s6,s7,s8,s9,s10,s11,s12,s13,s14,s15,s16,s17,s18,s19,s20,s21,s22,s23,s24,s25⟩
         go_simp
         with_reducible rfl
        rotate_left
        ·exact z19a
        refine one_ (i:=10) (N:=some 72) #[true,true,true,true,true,true,true,true,true,true,true,false] rfl rfl (one_of HT_.out (by kernel_rfl)) (by decide) (fun K hK=>?_)
        refine goes_ Try.func14 (by kernel_rfl) rfl #[.agg #[.int .i64 ((rd_T28 qf qe).f0),.int .i64 ((rd_T28 qf qe).f1),.slice qek ((rd_T28 qf qe).f2).length qdw,.slice qej ((rd_T28 qf qe).f3).length qdv,.slice qei ((rd_T28 qf qe).f4).length qdu,.slice qeh ((rd_T28 qf qe).f5).length qdt],.agg #[.int .i64 ((rd_T28 qj qe).f0),.int .i64 ((rd_T28 qj qe).f1),.slice qeg ((rd_T28 qj qe).f2).length qds,.slice qef ((rd_T28 qj qe).f3).length qdr,.slice qee ((rd_T28 qj qe).f4).length qdq,.slice qed ((rd_T28 qj qe).f5).length qdp]] (by rfl) rfl rfl z19x2 ?_
        with_reducible refine (laws_lbClient.calls k2 ((rd_T28 qf qe).f0) ((rd_T28 qf qe).f1) _ _ ((rd_T28 qf qe).f2) _ _ ((rd_T28 qf qe).f3) _ _ ((rd_T28 qf qe).f4) _ _ ((rd_T28 qf qe).f5) ((rd_T28 qj qe).f0) ((rd_T28 qj qe).f1) _ _ ((rd_T28 qj qe).f2) _ _ ((rd_T28 qj qe).f3) _ _ ((rd_T28 qj qe).f4) _ _ ((rd_T28 qj qe).f5) false _ ?side1 ?side2 ?side3 ?side4 ?side5 ?side6 ?side7 ?side8 ?side9 ?side10 ?side11 ?side12 ?side13 ?side14 ?side15 ?side16 A44.out).mono ?_
        (case side1=>repeat (first|exact (Kd.C_below qad.out HB.out)|(with_reducible refine Kd.C_alloc ?_ _)|(with_reducible refine Kd.C_drewN ?_ _)|(with_reducible refine Kd.C_drew ?_)))
        (case side2=>exact qfc.out)
        (case side3=>repeat (first|exact (Kd.C_below qac.out HB.out)|(with_reducible refine Kd.C_alloc ?_ _)|(with_reducible refine Kd.C_drewN ?_ _)|(with_reducible refine Kd.C_drew ?_)))
        (case side4=>exact qfb.out)
        (case side5=>repeat (first|exact (Kd.C_below qab.out HB.out)|(with_reducible refine Kd.C_alloc ?_ _)|(with_reducible refine Kd.C_drewN ?_ _)|(with_reducible refine Kd.C_drew ?_)))
        (case side6=>exact qfa.out)
        (case side7=>repeat (first|exact (Kd.C_below qaa.out HB.out)|(with_reducible refine Kd.C_alloc ?_ _)|(with_reducible refine Kd.C_drewN ?_ _)|(with_reducible refine Kd.C_drew ?_)))
        (case side8=>exact qez.out)
        (case side9=>repeat (first|exact (Kd.C_below pz.out HB.out)|(with_reducible refine Kd.C_alloc ?_ _)|(with_reducible refine Kd.C_drewN ?_ _)|(with_reducible refine Kd.C_drew ?_)))
        (case side10=>exact qey.out)
        (case side11=>repeat (first|exact (Kd.C_below px.out HB.out)|(with_reducible refine Kd.C_alloc ?_ _)|(with_reducible refine Kd.C_drewN ?_ _)|(with_reducible refine Kd.C_drew ?_)))
        (case side12=>exact qex.out)
        (case side13=>repeat (first|exact (Kd.C_below pw.out HB.out)|(with_reducible refine Kd.C_alloc ?_ _)|(with_reducible refine Kd.C_drewN ?_ _)|(with_reducible refine Kd.C_drew ?_)))
        (case side14=>exact qew.out)
        (case side15=>repeat (first|exact (Kd.C_below pv.out HB.out)|(with_reducible refine Kd.C_alloc ?_ _)|(with_reducible refine Kd.C_drewN ?_ _)|(with_reducible refine Kd.C_drew ?_)))
        (case side16=>exact qev.out)
        rintro e w53 ⟨rfl,hb⟩
        refine ⟨_,rfl,?_⟩
        have n0_:=Aside0.mk (blk_below (g:=qc) (o:=.cells #[.int .i64 qp,.int .i64 qq,.slice wd qn.length wb,.slice (some wi) qf.length wa,.slice wk qi.length qz,.slice wj qh.length qy,.int .i64 qo] 69 (0,0)) z19x4 hb)
        have n1_:=Aside0.mk (blk_below (g:=qd) (o:=.cells #[.int .i64 qu,.int .i64 qv,.slice vv qr.length vu,.slice (some wh) qj.length vt,.slice ut qm.length vr,.slice us ql.length vq,.int .i64 qt] 69 (0,0)) z19x5 hb)
        have n2_:=Aside0.mk (below_step z19x0 hb)
        clear qa
        clear qb
        clear HB
        have qa:=n0_
        have qb:=n1_
        have HB:=n2_
        clear n0_ n1_ n2_
        (try clear hb)
        (try clear hb2)
        (try clear hk)
        (try clear hi)
        refine hK.out _ _ ⟨(blk_cell qa.out 0).trans rfl,(blk_cell qa.out 1).trans rfl,(blk_cell qa.out 2).trans rfl,(blk_cell qa.out 3).trans rfl,(blk_cell qa.out 4).trans rfl,(blk_cell qa.out 5).trans rfl,(blk_cell qa.out 6).trans rfl,(blk_cell qb.out 0).trans rfl,(blk_cell qb.out 1).trans rfl,(blk_cell qb.out 2).trans rfl,(blk_cell qb.out 3).trans rfl,(blk_cell qb.out 4).trans rfl,(blk_cell qb.out 5).trans rfl,(blk_cell qb.out 6).trans rfl,((HB.out.cell (World.block_lt_of_cell? w _ gj)).trans gj),((HB.out.cell (World.block_lt_of_cell? w _ gi)).trans gi),((HB.out.cell (World.block_lt_of_cell? w _ gh)).trans gh),((HB.out.cell (World.block_lt_of_cell? w _ gg)).trans gg),((HB.out.cell (World.block_lt_of_cell? w _ gf)).trans gf),((HB.out.cell (World.block_lt_of_cell? w _ gc)).trans gc),((HB.out.cell (World.block_lt_of_cell? w _ gb)).trans gb),((HB.out.cell (World.block_lt_of_cell? w _ ga)).trans ga),((HB.out.cell (World.block_lt_of_cell? w _ jz)).trans jz),((HB.out.cell (World.block_lt_of_cell? w _ jy)).trans jy),((HB.out.cell (World.block_lt_of_cell? w _ jx)).trans jx),((HB.out.cell (World.block_lt_of_cell? w _ jw)).trans jw)⟩ (fun hHeld=>?_)
        clear hK K
        refine norm_ (a':=?_) ?_ ?_
        rotate_left
        ·show Act.put _ (some 72) _ = _
         simp only [Act.put,List.setIfInBounds_toArray,List.set_cons_zero,List.set_cons_succ,i64_w,i32_w]
         rfl
        refine pure_ (i:=11) (N:=some 73) (v:=?_) (a':=?_) #[true,true,true,true,true,true,true,true,true,true,true,true] rfl rfl (any_of HT_.out (by kernel_rfl)) (fun _ _ _ h=>h) (Or.inl ⟨by rfl,?_⟩) ?_ ?_
        rotate_left
        ·intro w'
         go_simp
         with_reducible rfl
        rotate_left
        ·exact z19a
        refine done_ (done_of HT_.out (by kernel_rfl)) ?_
        try go_wp2
        go_ret
        exact ⟨by first|rfl|(simp [errW_none,errW_some] <;> rfl)|(simp [*,errW_none,errW_some] <;> rfl),by repeat (first|(with_reducible first|exact HB.out|apply below_alloc|apply pw_below_drewN|apply below_drew1|refine below_set ?_ ue.out|refine below_set ?_ uv.out)|exact HB.out)⟩
       subst c45
       rw [if_pos rfl] at H
       have H':=Aside0.mk H
       clear H
       have qty:=qx.out
       have qtj:=qw.out
       have qpt : wr.cell? ⟨qc,0,none⟩ = some (.int .i64 qp):=(blk_cell qa.out 0).trans rfl
       have qps : wr.cell? ⟨qc,1,none⟩ = some (.int .i64 qq):=(blk_cell qa.out 1).trans rfl
       have qir : wr.cell? ⟨qc,2,none⟩ = some (.slice wd qn.length wb):=(blk_cell qa.out 2).trans rfl
       have qiq : wr.cell? ⟨qc,3,none⟩ = some (.slice wl qf.length wa):=(blk_cell qa.out 3).trans rfl
       have qip : wr.cell? ⟨qc,4,none⟩ = some (.slice wk qi.length qz):=(blk_cell qa.out 4).trans rfl
       have qio : wr.cell? ⟨qc,5,none⟩ = some (.slice wj qh.length qy):=(blk_cell qa.out 5).trans rfl
       have qin : wr.cell? ⟨qc,6,none⟩ = some (.int .i64 qo):=(blk_cell qa.out 6).trans rfl
       have qgh:=blk_frozen qa.out 0
       have qgg:=blk_frozen qa.out 1
       have qgf:=blk_frozen qa.out 2
       have qge:=blk_frozen qa.out 3
       have qgd:=blk_frozen qa.out 4
       have qgc:=blk_frozen qa.out 5
       have qgb:=blk_frozen qa.out 6
       try go_wp2
       have n0_:=Aside0.mk (blk_drew qa.out)
       have n1_:=Aside0.mk (blk_drew qb.out)
       have n2_:=Aside0.mk (below_drew1 HB.out)
       clear qa
       clear qb
       clear HB
       have qa:=n0_
       have qb:=n1_
       have HB:=n2_
       clear n0_ n1_ n2_
       have qeo : 0 ≤ (qe : Int):=of_decide_eq_true (by first|(with_reducible assumption)|assumption)
       have qem : qe < (qf.length : Int):=of_decide_eq_true (by first|(with_reducible assumption)|assumption)
       obtain ⟨wi,qek,qdw,qej,qdv,qei,qdu,qeh,qdt,qqx,vp,vo,vn,vm,vl,vk,gz,pn,gy,pm,gx,pl,gw,pk⟩:=at_T28 qqr.out qe qeo qem
       have gc:=vk
       have gf:=vl
       have gg:=vm
       have gh:=vn
       have gi:=vo
       have gj:=vp
       cases qqx
       replace vp:=(HB.out.cell (World.block_lt_of_cell? w _ vp)).trans vp
       replace vo:=(HB.out.cell (World.block_lt_of_cell? w _ vo)).trans vo
       replace vn:=(HB.out.cell (World.block_lt_of_cell? w _ vn)).trans vn
       replace vm:=(HB.out.cell (World.block_lt_of_cell? w _ vm)).trans vm
       replace vl:=(HB.out.cell (World.block_lt_of_cell? w _ vl)).trans vl
       replace vk:=(HB.out.cell (World.block_lt_of_cell? w _ vk)).trans vk
       have qad:=Aside0.mk pn
       have qfc:=Aside0.mk gz
       clear pn gz
       have qac:=Aside0.mk pm
       have qfb:=Aside0.mk gy
       clear pm gy
       have qab:=Aside0.mk pl
       have qfa:=Aside0.mk gx
       clear pl gx
       have qaa:=Aside0.mk pk
       have qez:=Aside0.mk gw
       clear pk gw
       replace qeo:=eq_true qeo
       replace qem:=eq_true qem
       have qen : 0 ≤ (qe : Int):=of_decide_eq_true (by first|(with_reducible assumption)|assumption)
       have qel : qe < (qj.length : Int):=of_decide_eq_true (by first|(with_reducible assumption)|assumption)
       obtain ⟨wh,qeg,qds,qef,qdr,qee,qdq,qed,qdp,qqw,wz,wy,wx,ww,wv,wu,gv,pj,gu,pi,gt,ph,gs,pg⟩:=at_T28 qqo.out qe qen qel
       have jw:=wu
       have jx:=wv
       have jy:=ww
       have jz:=wx
       have ga:=wy
       have gb:=wz
       cases qqw
       replace wz:=(HB.out.cell (World.block_lt_of_cell? w _ wz)).trans wz
       replace wy:=(HB.out.cell (World.block_lt_of_cell? w _ wy)).trans wy
       replace wx:=(HB.out.cell (World.block_lt_of_cell? w _ wx)).trans wx
       replace ww:=(HB.out.cell (World.block_lt_of_cell? w _ ww)).trans ww
       replace wv:=(HB.out.cell (World.block_lt_of_cell? w _ wv)).trans wv
       replace wu:=(HB.out.cell (World.block_lt_of_cell? w _ wu)).trans wu
       have pz:=Aside0.mk pj
       have qey:=Aside0.mk gv
       clear pj gv
       have px:=Aside0.mk pi
       have qex:=Aside0.mk gu
       clear pi gu
       have pw:=Aside0.mk ph
       have qew:=Aside0.mk gt
       clear ph gt
       have pv:=Aside0.mk pg
       have qev:=Aside0.mk gs
       clear pg gs
       replace qen:=eq_true qen
       replace qel:=eq_true qel
       refine start_ (n:=12) (S:=fun w' => w'.cell? ⟨qc,0,none⟩ = some (.int .i64 qp) ∧ w'.cell? ⟨qc,1,none⟩ = some (.int .i64 qq) ∧ w'.cell? ⟨qc,2,none⟩ = some (.slice wd qn.length wb) ∧ w'.cell? ⟨qc,3,none⟩ = some (.slice (some wi) qf.length wa) ∧ w'.cell? ⟨qc,4,none⟩ = some (.slice wk qi.length qz) ∧ w'.cell? ⟨qc,5,none⟩ = some (.slice wj qh.length qy) ∧ w'.cell? ⟨qc,6,none⟩ = some (.int .i64 qo) ∧ w'.cell? ⟨qd,0,none⟩ = some (.int .i64 qu) ∧ w'.cell? ⟨qd,1,none⟩ = some (.int .i64 qv) ∧ w'.cell? ⟨qd,2,none⟩ = some (.slice vv qr.length vu) ∧ w'.cell? ⟨qd,3,none⟩ = some (.slice (some wh) qj.length vt) ∧ w'.cell? ⟨qd,4,none⟩ = some (.slice ut qm.length vr) ∧ w'.cell? ⟨qd,5,none⟩ = some (.slice us ql.length vq) ∧ w'.cell? ⟨qd,6,none⟩ = some (.int .i64 qt) ∧ w'.cell? (wi.add ((qe).toNat * 6)) = some (.int .i64 ((rd_T28 qf qe).f0)) ∧ w'.cell? ⟨(wi.add ((qe).toNat * 6)).block,(wi.add ((qe).toNat * 6)).off + 1,none⟩ = some (.int .i64 ((rd_T28 qf qe).f1)) ∧ w'.cell? ⟨(wi.add ((qe).toNat * 6)).block,(wi.add ((qe).toNat * 6)).off + 2,none⟩ = some (.slice qek ((rd_T28 qf qe).f2).length qdw) ∧ w'.cell? ⟨(wi.add ((qe).toNat * 6)).block,(wi.add ((qe).toNat * 6)).off + 3,none⟩ = some (.slice qej ((rd_T28 qf qe).f3).length qdv) ∧ w'.cell? ⟨(wi.add ((qe).toNat * 6)).block,(wi.add ((qe).toNat * 6)).off + 4,none⟩ = some (.slice qei ((rd_T28 qf qe).f4).length qdu) ∧ w'.cell? ⟨(wi.add ((qe).toNat * 6)).block,(wi.add ((qe).toNat * 6)).off + 5,none⟩ = some (.slice qeh ((rd_T28 qf qe).f5).length qdt) ∧ w'.cell? (wh.add ((qe).toNat * 6)) = some (.int .i64 ((rd_T28 qj qe).f0)) ∧ w'.cell? ⟨(wh.add ((qe).toNat * 6)).block,(wh.add ((qe).toNat * 6)).off + 1,none⟩ = some (.int .i64 ((rd_T28 qj qe).f1)) ∧ w'.cell? ⟨(wh.add ((qe).toNat * 6)).block,(wh.add ((qe).toNat * 6)).off + 2,none⟩ = some (.slice qeg ((rd_T28 qj qe).f2).length qds) ∧ w'.cell? ⟨(wh.add ((qe).toNat * 6)).block,(wh.add ((qe).toNat * 6)).off + 3,none⟩ = some (.slice qef ((rd_T28 qj qe).f3).length qdr) ∧ w'.cell? ⟨(wh.add ((qe).toNat * 6)).block,(wh.add ((qe).toNat * 6)).off + 4,none⟩ = some (.slice qee ((rd_T28 qj qe).f4).length qdq) ∧ w'.cell? ⟨(wh.add ((qe).toNat * 6)).block,(wh.add ((qe).toNat * 6)).off + 5,none⟩ = some (.slice qed ((rd_T28 qj qe).f5).length qdp)) (ds:=[]) #[false,false,false,false,false,false,false,false,false,false,false,false] (by kernel_rfl) rfl rfl ⟨(blk_cell qa.out 0).trans rfl,(blk_cell qa.out 1).trans rfl,(blk_cell qa.out 2).trans rfl,(blk_cell qa.out 3).trans rfl,(blk_cell qa.out 4).trans rfl,(blk_cell qa.out 5).trans rfl,(blk_cell qa.out 6).trans rfl,(blk_cell qb.out 0).trans rfl,(blk_cell qb.out 1).trans rfl,(blk_cell qb.out 2).trans rfl,(blk_cell qb.out 3).trans rfl,(blk_cell qb.out 4).trans rfl,(blk_cell qb.out 5).trans rfl,(blk_cell qb.out 6).trans rfl,((HB.out.cell (World.block_lt_of_cell? w _ gj)).trans gj),((HB.out.cell (World.block_lt_of_cell? w _ gi)).trans gi),((HB.out.cell (World.block_lt_of_cell? w _ gh)).trans gh),((HB.out.cell (World.block_lt_of_cell? w _ gg)).trans gg),((HB.out.cell (World.block_lt_of_cell? w _ gf)).trans gf),((HB.out.cell (World.block_lt_of_cell? w _ gc)).trans gc),((HB.out.cell (World.block_lt_of_cell? w _ gb)).trans gb),((HB.out.cell (World.block_lt_of_cell? w _ ga)).trans ga),((HB.out.cell (World.block_lt_of_cell? w _ jz)).trans jz),((HB.out.cell (World.block_lt_of_cell? w _ jy)).trans jy),((HB.out.cell (World.block_lt_of_cell? w _ jx)).trans jx),((HB.out.cell (World.block_lt_of_cell? w _ jw)).trans jw)⟩ (fun hHeld=>?_);refine with_tabW laws_lbWorld.tab6 laws_lbWorld.bits6 (fun HT_ HW_=>?_)
       generalize wr.drew = w48 at qa qb HB qad qac qab qaa pz px pw pv vp vo vn vm vl vk wz wy wx ww wv wu hHeld ⊢
       refine pure_ (i:=0) (N:=some 62) (v:=?_) (a':=?_) #[true,false,false,false,false,false,false,false,false,false,false,false] rfl rfl (any_of HT_.out (by kernel_rfl)) (fun _ _ _ h=>h) (Or.inl ⟨by rfl,?_⟩) ?_ ?_
       rotate_left
       ·intro w'
        go_simp
        with_reducible rfl
       rotate_left
       ·exact z19a
       refine pure_ (i:=2) (N:=some 64) (v:=?_) (a':=?_) #[true,false,true,false,false,false,false,false,false,false,false,false] rfl rfl (any_of HT_.out (by kernel_rfl)) (fun _ _ _ h=>h) (Or.inl ⟨by rfl,?_⟩) ?_ ?_
       rotate_left
       ·intro w'
        go_simp
        with_reducible rfl
       rotate_left
       ·exact z19a
       refine pure_ (i:=5) (N:=some 67) (v:=?_) (a':=?_) #[true,false,true,false,false,true,false,false,false,false,false,false] rfl rfl (any_of HT_.out (by kernel_rfl)) (fun _ _ _ h=>h) (Or.inl ⟨by rfl,?_⟩) ?_ ?_
       rotate_left
       ·intro w'
        go_simp
        with_reducible rfl
       rotate_left
       ·exact z19a
       refine pure_ (i:=7) (N:=some 69) (v:=?_) (a':=?_) #[true,false,true,false,false,true,false,true,false,false,false,false] rfl rfl (any_of HT_.out (by kernel_rfl)) (fun _ _ _ h=>h) (Or.inl ⟨by rfl,?_⟩) ?_ ?_
       rotate_left
       ·intro w'
        go_simp
        with_reducible rfl
       rotate_left
       ·exact z19a
       refine take_ (i:=1) (N:=some 63) (v:=?_) (a':=?_) #[true,true,true,false,false,true,false,true,false,false,false,false] rfl rfl (take_ofW HT_.out HW_.out (by kernel_rfl)) (fun _ _ _ h=>h) (Or.inl ⟨by rfl,?_⟩) hHeld ?_ ?_
       rotate_left
       ·rintro w' ⟨s0,s1,s2,s3,s4,s5,s6,s7,s8,s9,s10,s11,s12,s13,s14,s15,s16,s17,s18,s19,s20,s21,s22,s23,s24,s25⟩
        go_simp
        with_reducible rfl
       rotate_left
       ·exact z19a
       refine pure_ (i:=3) (N:=some 65) (v:=?_) (a':=?_) #[true,true,true,true,false,true,false,true,false,false,false,false] rfl rfl (any_of HT_.out (by kernel_rfl)) (fun _ _ _ h=>h) (Or.inl ⟨by rfl,?_⟩) ?_ ?_
       rotate_left
       ·intro w'
        go_simp
        with_reducible rfl
       rotate_left
       ·exact z19a
       refine take_ (i:=4) (N:=some 66) (v:=?_) (a':=?_) #[true,true,true,true,true,true,false,true,false,false,false,false] rfl rfl (take_ofW HT_.out HW_.out (by kernel_rfl)) (fun _ _ _ h=>h) (Or.inl ⟨by rfl,?_⟩) hHeld ?_ ?_
       rotate_left
       ·rintro w' ⟨s0,s1,s2,s3,s4,s5,s6,s7,s8,s9,s10,s11,s12,s13,s14,s15,s16,s17,s18,s19,s20,s21,s22,s23,s24,s25⟩
        go_simp
        with_reducible rfl
       rotate_left
       ·exact z19a
       refine take_ (i:=6) (N:=some 68) (v:=?_) (a':=?_) #[true,true,true,true,true,true,true,true,false,false,false,false] rfl rfl (take_ofW HT_.out HW_.out (by kernel_rfl)) (fun _ _ _ h=>h) (Or.inl ⟨by rfl,?_⟩) hHeld ?_ ?_
       rotate_left
       ·rintro w' ⟨s0,s1,s2,s3,s4,s5,s6,s7,s8,s9,s10,s11,s12,s13,s14,s15,s16,s17,s18,s19,s20,s21,s22,s23,s24,s25⟩
        go_simp
        with_reducible rfl
       rotate_left
       ·exact z19a
       refine pure_ (i:=8) (N:=some 70) (v:=?_) (a':=?_) #[true,true,true,true,true,true,true,true,true,false,false,false] rfl rfl (any_of HT_.out (by kernel_rfl)) (fun _ _ _ h=>h) (Or.inl ⟨by rfl,?_⟩) ?_ ?_
       rotate_left
       ·intro w'
        go_simp
        with_reducible rfl
       rotate_left
       ·exact z19a
       refine take_ (i:=9) (N:=some 71) (v:=?_) (a':=?_) #[true,true,true,true,true,true,true,true,true,true,false,false] rfl rfl (take_ofW HT_.out HW_.out (by kernel_rfl)) (fun _ _ _ h=>h) (Or.inl ⟨by rfl,?_⟩) hHeld ?_ ?_
       rotate_left
       ·rintro w' ⟨s0,s1,s2,s3,s4,s5,s6,s7,s8,s9,s10,s11,s12,s13,s14,s15,s16,s17,s18,s19,s20,s21,s22,s23,s24,s25⟩
        go_simp
        with_reducible rfl
       rotate_left
       ·exact z19a
       refine one_ (i:=10) (N:=some 72) #[true,true,true,true,true,true,true,true,true,true,true,false] rfl rfl (one_of HT_.out (by kernel_rfl)) (by decide) (fun K hK=>?_)
       refine goes_ Try.func14 (by kernel_rfl) rfl #[.agg #[.int .i64 ((rd_T28 qf qe).f0),.int .i64 ((rd_T28 qf qe).f1),.slice qek ((rd_T28 qf qe).f2).length qdw,.slice qej ((rd_T28 qf qe).f3).length qdv,.slice qei ((rd_T28 qf qe).f4).length qdu,.slice qeh ((rd_T28 qf qe).f5).length qdt],.agg #[.int .i64 ((rd_T28 qj qe).f0),.int .i64 ((rd_T28 qj qe).f1),.slice qeg ((rd_T28 qj qe).f2).length qds,.slice qef ((rd_T28 qj qe).f3).length qdr,.slice qee ((rd_T28 qj qe).f4).length qdq,.slice qed ((rd_T28 qj qe).f5).length qdp]] (by rfl) rfl rfl z19x2 ?_
       with_reducible refine (laws_lbClient.calls k2 ((rd_T28 qf qe).f0) ((rd_T28 qf qe).f1) _ _ ((rd_T28 qf qe).f2) _ _ ((rd_T28 qf qe).f3) _ _ ((rd_T28 qf qe).f4) _ _ ((rd_T28 qf qe).f5) ((rd_T28 qj qe).f0) ((rd_T28 qj qe).f1) _ _ ((rd_T28 qj qe).f2) _ _ ((rd_T28 qj qe).f3) _ _ ((rd_T28 qj qe).f4) _ _ ((rd_T28 qj qe).f5) true _ ?side1 ?side2 ?side3 ?side4 ?side5 ?side6 ?side7 ?side8 ?side9 ?side10 ?side11 ?side12 ?side13 ?side14 ?side15 ?side16 A44.out).mono ?_
       (case side1=>repeat (first|exact (Kd.C_below qad.out HB.out)|(with_reducible refine Kd.C_alloc ?_ _)|(with_reducible refine Kd.C_drewN ?_ _)|(with_reducible refine Kd.C_drew ?_)))
       (case side2=>exact qfc.out)
       (case side3=>repeat (first|exact (Kd.C_below qac.out HB.out)|(with_reducible refine Kd.C_alloc ?_ _)|(with_reducible refine Kd.C_drewN ?_ _)|(with_reducible refine Kd.C_drew ?_)))
       (case side4=>exact qfb.out)
       (case side5=>repeat (first|exact (Kd.C_below qab.out HB.out)|(with_reducible refine Kd.C_alloc ?_ _)|(with_reducible refine Kd.C_drewN ?_ _)|(with_reducible refine Kd.C_drew ?_)))
       (case side6=>exact qfa.out)
       (case side7=>repeat (first|exact (Kd.C_below qaa.out HB.out)|(with_reducible refine Kd.C_alloc ?_ _)|(with_reducible refine Kd.C_drewN ?_ _)|(with_reducible refine Kd.C_drew ?_)))
       (case side8=>exact qez.out)
       (case side9=>repeat (first|exact (Kd.C_below pz.out HB.out)|(with_reducible refine Kd.C_alloc ?_ _)|(with_reducible refine Kd.C_drewN ?_ _)|(with_reducible refine Kd.C_drew ?_)))
       (case side10=>exact qey.out)
       (case side11=>repeat (first|exact (Kd.C_below px.out HB.out)|(with_reducible refine Kd.C_alloc ?_ _)|(with_reducible refine Kd.C_drewN ?_ _)|(with_reducible refine Kd.C_drew ?_)))
       (case side12=>exact qex.out)
       (case side13=>repeat (first|exact (Kd.C_below pw.out HB.out)|(with_reducible refine Kd.C_alloc ?_ _)|(with_reducible refine Kd.C_drewN ?_ _)|(with_reducible refine Kd.C_drew ?_)))
       (case side14=>exact qew.out)
       (case side15=>repeat (first|exact (Kd.C_below pv.out HB.out)|(with_reducible refine Kd.C_alloc ?_ _)|(with_reducible refine Kd.C_drewN ?_ _)|(with_reducible refine Kd.C_drew ?_)))
       (case side16=>exact qev.out)
       rintro e w49 ⟨rfl,hb⟩
       refine ⟨_,rfl,?_⟩
       have n0_:=Aside0.mk (blk_below (g:=qc) (o:=.cells #[.int .i64 qp,.int .i64 qq,.slice wd qn.length wb,.slice (some wi) qf.length wa,.slice wk qi.length qz,.slice wj qh.length qy,.int .i64 qo] 69 (0,0)) z19x4 hb)
       have n1_:=Aside0.mk (blk_below (g:=qd) (o:=.cells #[.int .i64 qu,.int .i64 qv,.slice vv qr.length vu,.slice (some wh) qj.length vt,.slice ut qm.length vr,.slice us ql.length vq,.int .i64 qt] 69 (0,0)) z19x5 hb)
       have n2_:=Aside0.mk (below_step z19x0 hb)
       clear qa
       clear qb
       clear HB
       have qa:=n0_
       have qb:=n1_
       have HB:=n2_
       clear n0_ n1_ n2_
       (try clear hb)
       (try clear hb2)
       (try clear hk)
       (try clear hi)
       refine hK.out _ _ ⟨(blk_cell qa.out 0).trans rfl,(blk_cell qa.out 1).trans rfl,(blk_cell qa.out 2).trans rfl,(blk_cell qa.out 3).trans rfl,(blk_cell qa.out 4).trans rfl,(blk_cell qa.out 5).trans rfl,(blk_cell qa.out 6).trans rfl,(blk_cell qb.out 0).trans rfl,(blk_cell qb.out 1).trans rfl,(blk_cell qb.out 2).trans rfl,(blk_cell qb.out 3).trans rfl,(blk_cell qb.out 4).trans rfl,(blk_cell qb.out 5).trans rfl,(blk_cell qb.out 6).trans rfl,((HB.out.cell (World.block_lt_of_cell? w _ gj)).trans gj),((HB.out.cell (World.block_lt_of_cell? w _ gi)).trans gi),((HB.out.cell (World.block_lt_of_cell? w _ gh)).trans gh),((HB.out.cell (World.block_lt_of_cell? w _ gg)).trans gg),((HB.out.cell (World.block_lt_of_cell? w _ gf)).trans gf),((HB.out.cell (World.block_lt_of_cell? w _ gc)).trans gc),((HB.out.cell (World.block_lt_of_cell? w _ gb)).trans gb),((HB.out.cell (World.block_lt_of_cell? w _ ga)).trans ga),((HB.out.cell (World.block_lt_of_cell? w _ jz)).trans jz),((HB.out.cell (World.block_lt_of_cell? w _ jy)).trans jy),((HB.out.cell (World.block_lt_of_cell? w _ jx)).trans jx),((HB.out.cell (World.block_lt_of_cell? w _ jw)).trans jw)⟩ (fun hHeld=>?_)
       clear hK K
       refine norm_ (a':=?_) ?_ ?_
       rotate_left
       ·show Act.put _ (some 72) _ = _
        simp only [Act.put,List.setIfInBounds_toArray,List.set_cons_zero,List.set_cons_succ,i64_w,i32_w]
        rfl
       refine pure_ (i:=11) (N:=some 73) (v:=?_) (a':=?_) #[true,true,true,true,true,true,true,true,true,true,true,true] rfl rfl (any_of HT_.out (by kernel_rfl)) (fun _ _ _ h=>h) (Or.inl ⟨by rfl,?_⟩) ?_ ?_
       rotate_left
       ·intro w'
        go_simp
        with_reducible rfl
       rotate_left
       ·exact z19a
       refine done_ (done_of HT_.out (by kernel_rfl)) ?_
       try go_wp2
       go_roundg k2
       case measure=>have:=HJ2.out;have:=HK2.out;omega
       case rel=>exact ⟨(wrap64 (qe + 1)),(by first|rfl|(simp;done)|(simp [*];done)),H',⟨by have:=HJ2.out;have:=HK2.out;omega⟩,⟨by (with_reducible repeat (first|refine blk_drewN ?_ _|refine blk_drew ?_|refine blk_alloc ?_ _));exact qa.out⟩,⟨by (with_reducible repeat (first|refine blk_drewN ?_ _|refine blk_drew ?_|refine blk_alloc ?_ _));exact qb.out⟩,⟨by repeat (first|(with_reducible first|exact HB.out|apply below_alloc|apply pw_below_drewN|apply below_drew1|refine below_set ?_ ue.out|refine below_set ?_ uv.out)|exact HB.out)⟩⟩
      ·rw [if_neg c41] at H
       have qql : decide (qe < (qf.length : Int)) = false:=decide_eq_false c41
       clear c41
       have H':=Aside0.mk H
       clear H
       have qtw:=qx.out
       have qth:=qw.out
       have qif : wr.cell? ⟨qc,0,none⟩ = some (.int .i64 qp):=(blk_cell qa.out 0).trans rfl
       have qie : wr.cell? ⟨qc,1,none⟩ = some (.int .i64 qq):=(blk_cell qa.out 1).trans rfl
       have qid : wr.cell? ⟨qc,2,none⟩ = some (.slice wd qn.length wb):=(blk_cell qa.out 2).trans rfl
       have qic : wr.cell? ⟨qc,3,none⟩ = some (.slice wl qf.length wa):=(blk_cell qa.out 3).trans rfl
       have qib : wr.cell? ⟨qc,4,none⟩ = some (.slice wk qi.length qz):=(blk_cell qa.out 4).trans rfl
       have qia : wr.cell? ⟨qc,5,none⟩ = some (.slice wj qh.length qy):=(blk_cell qa.out 5).trans rfl
       have qhz : wr.cell? ⟨qc,6,none⟩ = some (.int .i64 qo):=(blk_cell qa.out 6).trans rfl
       have qft:=blk_frozen qa.out 0
       have qfs:=blk_frozen qa.out 1
       have qfr:=blk_frozen qa.out 2
       have qfq:=blk_frozen qa.out 3
       have qfp:=blk_frozen qa.out 4
       have qfo:=blk_frozen qa.out 5
       have qfn:=blk_frozen qa.out 6
       go_wp2
       go_loopg [6] k2 (fun kq v6 w' => ∃ (qk : Int),v6 = .int .i64 qk ∧ Aside0 (laws_lbWorld.l1 kq qk qp qq qn qf qi qh qo qu qv qr qj qm ql qt = some r) ∧ Aside0 (kq ≤ k2) ∧ Aside0 (w'.heap[qc]? = some (.cells #[.int .i64 qp,.int .i64 qq,(.slice wd qn.length wb),(.slice wl qf.length wa),(.slice wk qi.length qz),(.slice wj qh.length qy),.int .i64 qo] 69 (0,0))) ∧ Aside0 (w'.heap[qd]? = some (.cells #[.int .i64 qu,.int .i64 qv,(.slice vv qr.length vu),(.slice uu qj.length vt),(.slice ut qm.length vr),(.slice us ql.length vq),.int .i64 qt] 69 (0,0))) ∧ Aside0 (Below w.heap.size w w'))
       case atStart=>exact ⟨(0),(by first|rfl|(simp;done)|(simp [*];done)),H',⟨Nat.le_refl _⟩,⟨by (with_reducible repeat (first|refine blk_drewN ?_ _|refine blk_drew ?_|refine blk_alloc ?_ _));exact qa.out⟩,⟨by (with_reducible repeat (first|refine blk_drewN ?_ _|refine blk_drew ?_|refine blk_alloc ?_ _));exact qb.out⟩,⟨by repeat (first|(with_reducible first|exact HB.out|apply below_alloc|apply pw_below_drewN|apply below_drew1|refine below_set ?_ ue.out|refine below_set ?_ uv.out)|exact HB.out)⟩⟩
       case round =>
        clear H'
        try clear c1
        try clear c2
        try clear p2
        try clear q2
        try clear hx2
        try clear c4
        try clear c5
        try clear p6
        try clear c14
        try clear c22
        try clear p22
        try clear q22
        try clear qsz
        try clear c41
        try clear qql
        try clear c42
        try clear qrf
        try clear c43
        try clear qre
        try clear c45
        try clear c46
        try clear c50
        try clear c54
        try clear qpt
        try clear qps
        try clear qir
        try clear qiq
        try clear qip
        try clear qio
        try clear qin
        try clear qim
        try clear qil
        try clear qik
        try clear qij
        try clear qii
        try clear qih
        try clear qig
        try clear qif
        try clear qie
        try clear qid
        try clear qic
        try clear qib
        try clear qia
        try clear qhz
        try clear qdi
        try clear qdh
        try clear qdg
        try clear qdf
        try clear qde
        try clear qdd
        try clear qdc
        try clear qdb
        try clear qda
        try clear qcz
        try clear qcy
        try clear qcx
        try clear qcw
        try clear qcv
        try clear qcu
        try clear qct
        try clear qcs
        try clear qcr
        try clear qcq
        try clear qcp
        try clear qco
        try clear qcn
        try clear qcm
        try clear qcl
        try clear qck
        try clear qcj
        try clear qci
        try clear qch
        try clear qcg
        try clear qcf
        try clear qce
        try clear qcd
        try clear qcc
        try clear qcb
        try clear qca
        try clear qbz
        try clear qby
        try clear qbx
        try clear qbw
        try clear qbv
        try clear qbu
        try clear qbt
        try clear qbs
        try clear qbr
        try clear qbq
        try clear qbp
        try clear qbo
        try clear qbn
        try clear qbm
        try clear qbl
        try clear qbk
        try clear qbj
        try clear qbi
        try clear qbh
        try clear qbg
        try clear qbf
        try clear qbe
        try clear qbd
        try clear qbc
        try clear qbb
        try clear qba
        try clear qaz
        try clear qay
        try clear qax
        try clear qaw
        try clear qav
        try clear qau
        try clear qat
        try clear qas
        try clear qar
        try clear qaq
        try clear qap
        try clear qao
        try clear qan
        try clear qam
        try clear qal
        try clear qak
        try clear qaj
        try clear qai
        try clear qah
        try clear qag
        try clear qaf
        try clear qae
        try clear qgh
        try clear qgg
        try clear qgf
        try clear qge
        try clear qgd
        try clear qgc
        try clear qgb
        try clear qga
        try clear qfz
        try clear qfy
        try clear qfx
        try clear qfw
        try clear qfv
        try clear qfu
        try clear qft
        try clear qfs
        try clear qfr
        try clear qfq
        try clear qfp
        try clear qfo
        try clear qfn
        try clear vp
        try clear vo
        try clear vn
        try clear vm
        try clear vl
        try clear vk
        try clear wz
        try clear wy
        try clear wx
        try clear ww
        try clear wv
        try clear wu
        try clear p2
        try clear qeo
        try clear qen
        try clear qem
        try clear qel
        obtain ⟨qk,rfl,HA,HK3,qa,qb,HB⟩:=hrel
        cases gk with
        | zero=>exact absurd HA.out (by simp [laws_lbWorld.l1])
        | succ k3 =>
         have H:=HA.out
         clear HA
         simp only [laws_lbWorld.l1] at H
         by_cases c56 : qk < (qi.length : Int)
         ·rw [if_pos c56] at H
          have qqk : decide (qk < (qi.length : Int)) = true:=decide_eq_true c56
          clear c56
          by_cases c57 : 0 ≤ qk
          rotate_left
          ·rw [if_neg c57] at H
           exact absurd H (by simp)
          rw [if_pos c57] at H
          have qrd : decide (0 ≤ qk) = true:=decide_eq_true c57
          clear c57
          by_cases c58 : qk < (qm.length : Int)
          rotate_left
          ·rw [if_neg c58] at H
           exact absurd H (by simp)
          rw [if_pos c58] at H
          have qrc : decide (qk < (qm.length : Int)) = true:=decide_eq_true c58
          clear c58
          replace H:=Option.bind_eq_some_iff.mp H
          obtain ⟨qoa,qrh,H⟩:=H
          replace H : (if qoa = true then (laws_lbWorld.l1 k3 (wrap64 (qk + 1)) qp qq qn qf qi qh qo qu qv qr qj qm ql qt) else (some false)) = some r:=H
          have A59:=Aside0.mk qrh
          clear qrh
          by_cases c60 : qoa = true
          rotate_left
          ·replace c60:=Bool.eq_false_iff.mpr c60
           subst c60
           rw [if_neg (show ¬ (false = true) by decide)] at H
           obtain rfl:=Option.some.inj H
           have qtu:=qx.out
           have qtf:=qw.out
           have qpk : wr.cell? ⟨qc,0,none⟩ = some (.int .i64 qp):=(blk_cell qa.out 0).trans rfl
           have qpj : wr.cell? ⟨qc,1,none⟩ = some (.int .i64 qq):=(blk_cell qa.out 1).trans rfl
           have qpi : wr.cell? ⟨qc,2,none⟩ = some (.slice wd qn.length wb):=(blk_cell qa.out 2).trans rfl
           have qph : wr.cell? ⟨qc,3,none⟩ = some (.slice wl qf.length wa):=(blk_cell qa.out 3).trans rfl
           have qpg : wr.cell? ⟨qc,4,none⟩ = some (.slice wk qi.length qz):=(blk_cell qa.out 4).trans rfl
           have qpf : wr.cell? ⟨qc,5,none⟩ = some (.slice wj qh.length qy):=(blk_cell qa.out 5).trans rfl
           have qpe : wr.cell? ⟨qc,6,none⟩ = some (.int .i64 qo):=(blk_cell qa.out 6).trans rfl
           have qop:=blk_frozen qa.out 0
           have qoo:=blk_frozen qa.out 1
           have qon:=blk_frozen qa.out 2
           have qom:=blk_frozen qa.out 3
           have qol:=blk_frozen qa.out 4
           have qok:=blk_frozen qa.out 5
           have qoj:=blk_frozen qa.out 6
           try go_wp2
           have n0_:=Aside0.mk (blk_drew qa.out)
           have n1_:=Aside0.mk (blk_drew qb.out)
           have n2_:=Aside0.mk (below_drew1 HB.out)
           clear qa
           clear qb
           clear HB
           have qa:=n0_
           have qb:=n1_
           have HB:=n2_
           clear n0_ n1_ n2_
           have qfg : 0 ≤ (qk : Int):=of_decide_eq_true (by first|(with_reducible assumption)|assumption)
           have qfe : qk < (qi.length : Int):=of_decide_eq_true (by first|(with_reducible assumption)|assumption)
           obtain ⟨ur,qec,qdo,qeb,qdn,qqv,ud,uc,ub,ua,gr,pf,gq,pe⟩:=at_T128 qqq.out qk qfg qfe
           have js:=ua
           have jt:=ub
           have ju:=uc
           have jv:=ud
           cases qqv
           replace ud:=(HB.out.cell (World.block_lt_of_cell? w _ ud)).trans ud
           replace uc:=(HB.out.cell (World.block_lt_of_cell? w _ uc)).trans uc
           replace ub:=(HB.out.cell (World.block_lt_of_cell? w _ ub)).trans ub
           replace ua:=(HB.out.cell (World.block_lt_of_cell? w _ ua)).trans ua
           have pu:=Aside0.mk pf
           have qeu:=Aside0.mk gr
           clear pf gr
           have pt:=Aside0.mk pe
           have qet:=Aside0.mk gq
           clear pe gq
           replace qfg:=eq_true qfg
           replace qfe:=eq_true qfe
           have qff : 0 ≤ (qk : Int):=of_decide_eq_true (by first|(with_reducible assumption)|assumption)
           have qfd : qk < (qm.length : Int):=of_decide_eq_true (by first|(with_reducible assumption)|assumption)
           obtain ⟨uq,qea,qdm,qdz,qdl,qqu,vz,vy,vx,vw,gp,pd,gn,pc⟩:=at_T128 qqn.out qk qff qfd
           have jo:=vw
           have jp:=vx
           have jq:=vy
           have jr:=vz
           cases qqu
           replace vz:=(HB.out.cell (World.block_lt_of_cell? w _ vz)).trans vz
           replace vy:=(HB.out.cell (World.block_lt_of_cell? w _ vy)).trans vy
           replace vx:=(HB.out.cell (World.block_lt_of_cell? w _ vx)).trans vx
           replace vw:=(HB.out.cell (World.block_lt_of_cell? w _ vw)).trans vw
           have pr:=Aside0.mk pd
           have qes:=Aside0.mk gp
           clear pd gp
           have pq:=Aside0.mk pc
           have qer:=Aside0.mk gn
           clear pc gn
           replace qff:=eq_true qff
           replace qfd:=eq_true qfd
           refine start_ (n:=12) (S:=fun w' => w'.cell? ⟨qc,0,none⟩ = some (.int .i64 qp) ∧ w'.cell? ⟨qc,1,none⟩ = some (.int .i64 qq) ∧ w'.cell? ⟨qc,2,none⟩ = some (.slice wd qn.length wb) ∧ w'.cell? ⟨qc,3,none⟩ = some (.slice wl qf.length wa) ∧ w'.cell? ⟨qc,4,none⟩ = some (.slice (some ur) qi.length qz) ∧ w'.cell? ⟨qc,5,none⟩ = some (.slice wj qh.length qy) ∧ w'.cell? ⟨qc,6,none⟩ = some (.int .i64 qo) ∧ w'.cell? ⟨qd,0,none⟩ = some (.int .i64 qu) ∧ w'.cell? ⟨qd,1,none⟩ = some (.int .i64 qv) ∧ w'.cell? ⟨qd,2,none⟩ = some (.slice vv qr.length vu) ∧ w'.cell? ⟨qd,3,none⟩ = some (.slice uu qj.length vt) ∧ w'.cell? ⟨qd,4,none⟩ = some (.slice (some uq) qm.length vr) ∧ w'.cell? ⟨qd,5,none⟩ = some (.slice us ql.length vq) ∧ w'.cell? ⟨qd,6,none⟩ = some (.int .i64 qt) ∧ w'.cell? (ur.add ((qk).toNat * 4)) = some (.int .i64 ((rd_T128 qi qk).f0)) ∧ w'.cell? ⟨(ur.add ((qk).toNat * 4)).block,(ur.add ((qk).toNat * 4)).off + 1,none⟩ = some (.int .i64 ((rd_T128 qi qk).f1)) ∧ w'.cell? ⟨(ur.add ((qk).toNat * 4)).block,(ur.add ((qk).toNat * 4)).off + 2,none⟩ = some (.slice qec ((rd_T128 qi qk).f2).length qdo) ∧ w'.cell? ⟨(ur.add ((qk).toNat * 4)).block,(ur.add ((qk).toNat * 4)).off + 3,none⟩ = some (.slice qeb ((rd_T128 qi qk).f3).length qdn) ∧ w'.cell? (uq.add ((qk).toNat * 4)) = some (.int .i64 ((rd_T128 qm qk).f0)) ∧ w'.cell? ⟨(uq.add ((qk).toNat * 4)).block,(uq.add ((qk).toNat * 4)).off + 1,none⟩ = some (.int .i64 ((rd_T128 qm qk).f1)) ∧ w'.cell? ⟨(uq.add ((qk).toNat * 4)).block,(uq.add ((qk).toNat * 4)).off + 2,none⟩ = some (.slice qea ((rd_T128 qm qk).f2).length qdm) ∧ w'.cell? ⟨(uq.add ((qk).toNat * 4)).block,(uq.add ((qk).toNat * 4)).off + 3,none⟩ = some (.slice qdz ((rd_T128 qm qk).f3).length qdl)) (ds:=[]) #[false,false,false,false,false,false,false,false,false,false,false,false] (by kernel_rfl) rfl rfl ⟨(blk_cell qa.out 0).trans rfl,(blk_cell qa.out 1).trans rfl,(blk_cell qa.out 2).trans rfl,(blk_cell qa.out 3).trans rfl,(blk_cell qa.out 4).trans rfl,(blk_cell qa.out 5).trans rfl,(blk_cell qa.out 6).trans rfl,(blk_cell qb.out 0).trans rfl,(blk_cell qb.out 1).trans rfl,(blk_cell qb.out 2).trans rfl,(blk_cell qb.out 3).trans rfl,(blk_cell qb.out 4).trans rfl,(blk_cell qb.out 5).trans rfl,(blk_cell qb.out 6).trans rfl,((HB.out.cell (World.block_lt_of_cell? w _ jv)).trans jv),((HB.out.cell (World.block_lt_of_cell? w _ ju)).trans ju),((HB.out.cell (World.block_lt_of_cell? w _ jt)).trans jt),((HB.out.cell (World.block_lt_of_cell? w _ js)).trans js),((HB.out.cell (World.block_lt_of_cell? w _ jr)).trans jr),((HB.out.cell (World.block_lt_of_cell? w _ jq)).trans jq),((HB.out.cell (World.block_lt_of_cell? w _ jp)).trans jp),((HB.out.cell (World.block_lt_of_cell? w _ jo)).trans jo)⟩ (fun hHeld=>?_);refine with_tabW laws_lbWorld.tab11 laws_lbWorld.bits11 (fun HT_ HW_=>?_)
           generalize wr.drew = w67 at qa qb HB pu pt pr pq ud uc ub ua vz vy vx vw hHeld ⊢
           refine pure_ (i:=0) (N:=some 81) (v:=?_) (a':=?_) #[true,false,false,false,false,false,false,false,false,false,false,false] rfl rfl (any_of HT_.out (by kernel_rfl)) (fun _ _ _ h=>h) (Or.inl ⟨by rfl,?_⟩) ?_ ?_
           rotate_left
           ·intro w'
            go_simp
            with_reducible rfl
           rotate_left
           ·exact z19a
           refine pure_ (i:=2) (N:=some 83) (v:=?_) (a':=?_) #[true,false,true,false,false,false,false,false,false,false,false,false] rfl rfl (any_of HT_.out (by kernel_rfl)) (fun _ _ _ h=>h) (Or.inl ⟨by rfl,?_⟩) ?_ ?_
           rotate_left
           ·intro w'
            go_simp
            with_reducible rfl
           rotate_left
           ·exact z19a
           refine pure_ (i:=5) (N:=some 86) (v:=?_) (a':=?_) #[true,false,true,false,false,true,false,false,false,false,false,false] rfl rfl (any_of HT_.out (by kernel_rfl)) (fun _ _ _ h=>h) (Or.inl ⟨by rfl,?_⟩) ?_ ?_
           rotate_left
           ·intro w'
            go_simp
            with_reducible rfl
           rotate_left
           ·exact z19a
           refine pure_ (i:=7) (N:=some 88) (v:=?_) (a':=?_) #[true,false,true,false,false,true,false,true,false,false,false,false] rfl rfl (any_of HT_.out (by kernel_rfl)) (fun _ _ _ h=>h) (Or.inl ⟨by rfl,?_⟩) ?_ ?_
           rotate_left
           ·intro w'
            go_simp
            with_reducible rfl
           rotate_left
           ·exact z19a
           refine take_ (i:=1) (N:=some 82) (v:=?_) (a':=?_) #[true,true,true,false,false,true,false,true,false,false,false,false] rfl rfl (take_ofW HT_.out HW_.out (by kernel_rfl)) (fun _ _ _ h=>h) (Or.inl ⟨by rfl,?_⟩) hHeld ?_ ?_
           rotate_left
           ·rintro w' ⟨s0,s1,s2,s3,s4,s5,s6,s7,s8,s9,s10,s11,s12,s13,s14,s15,s16,s17,s18,s19,s20,s21⟩
            go_simp
            with_reducible rfl
           rotate_left
           ·exact z19a
           refine pure_ (i:=3) (N:=some 84) (v:=?_) (a':=?_) #[true,true,true,true,false,true,false,true,false,false,false,false] rfl rfl (any_of HT_.out (by kernel_rfl)) (fun _ _ _ h=>h) (Or.inl ⟨by rfl,?_⟩) ?_ ?_
           rotate_left
           ·intro w'
            go_simp
            with_reducible rfl
           rotate_left
           ·exact z19a
           refine take_ (i:=4) (N:=some 85) (v:=?_) (a':=?_) #[true,true,true,true,true,true,false,true,false,false,false,false] rfl rfl (take_ofW HT_.out HW_.out (by kernel_rfl)) (fun _ _ _ h=>h) (Or.inl ⟨by rfl,?_⟩) hHeld ?_ ?_
           rotate_left
           ·rintro w' ⟨s0,s1,s2,s3,s4,s5,s6,s7,s8,s9,s10,s11,s12,s13,s14,s15,s16,s17,s18,s19,s20,s21⟩
            go_simp
            with_reducible rfl
           rotate_left
           ·exact z19a
           refine take_ (i:=6) (N:=some 87) (v:=?_) (a':=?_) #[true,true,true,true,true,true,true,true,false,false,false,false] rfl rfl (take_ofW HT_.out HW_.out (by kernel_rfl)) (fun _ _ _ h=>h) (Or.inl ⟨by rfl,?_⟩) hHeld ?_ ?_
           rotate_left
           ·rintro w' ⟨s0,s1,s2,s3,s4,s5,s6,s7,s8,s9,s10,s11,s12,s13,s14,s15,s16,s17,s18,s19,s20,s21⟩
            go_simp
            with_reducible rfl
           rotate_left
           ·exact z19a
           refine pure_ (i:=8) (N:=some 89) (v:=?_) (a':=?_) #[true,true,true,true,true,true,true,true,true,false,false,false] rfl rfl (any_of HT_.out (by kernel_rfl)) (fun _ _ _ h=>h) (Or.inl ⟨by rfl,?_⟩) ?_ ?_
           rotate_left
           ·intro w'
            go_simp
            with_reducible rfl
           rotate_left
           ·exact z19a
           refine take_ (i:=9) (N:=some 90) (v:=?_) (a':=?_) #[true,true,true,true,true,true,true,true,true,true,false,false] rfl rfl (take_ofW HT_.out HW_.out (by kernel_rfl)) (fun _ _ _ h=>h) (Or.inl ⟨by rfl,?_⟩) hHeld ?_ ?_
           rotate_left
           ·rintro w' ⟨s0,s1,s2,s3,s4,s5,s6,s7,s8,s9,s10,s11,s12,s13,s14,s15,s16,s17,s18,s19,s20,s21⟩
            go_simp
            with_reducible rfl
           rotate_left
           ·exact z19a
           refine one_ (i:=10) (N:=some 91) #[true,true,true,true,true,true,true,true,true,true,true,false] rfl rfl (one_of HT_.out (by kernel_rfl)) (by decide) (fun K hK=>?_)
           refine goes_ Try.func103 (by kernel_rfl) rfl #[.agg #[.int .i64 ((rd_T128 qi qk).f0),.int .i64 ((rd_T128 qi qk).f1),.slice qec ((rd_T128 qi qk).f2).length qdo,.slice qeb ((rd_T128 qi qk).f3).length qdn],.agg #[.int .i64 ((rd_T128 qm qk).f0),.int .i64 ((rd_T128 qm qk).f1),.slice qea ((rd_T128 qm qk).f2).length qdm,.slice qdz ((rd_T128 qm qk).f3).length qdl]] (by rfl) rfl rfl z19x2 ?_
           with_reducible refine (laws_lbServ.calls k3 ((rd_T128 qi qk).f0) ((rd_T128 qi qk).f1) _ _ ((rd_T128 qi qk).f2) _ _ ((rd_T128 qi qk).f3) ((rd_T128 qm qk).f0) ((rd_T128 qm qk).f1) _ _ ((rd_T128 qm qk).f2) _ _ ((rd_T128 qm qk).f3) false _ ?side1 ?side2 ?side3 ?side4 ?side5 ?side6 ?side7 ?side8 A59.out).mono ?_
           (case side1=>repeat (first|exact (Kd.C_below pu.out HB.out)|(with_reducible refine Kd.C_alloc ?_ _)|(with_reducible refine Kd.C_drewN ?_ _)|(with_reducible refine Kd.C_drew ?_)))
           (case side2=>exact qeu.out)
           (case side3=>repeat (first|exact (Kd.C_below pt.out HB.out)|(with_reducible refine Kd.C_alloc ?_ _)|(with_reducible refine Kd.C_drewN ?_ _)|(with_reducible refine Kd.C_drew ?_)))
           (case side4=>exact qet.out)
           (case side5=>repeat (first|exact (Kd.C_below pr.out HB.out)|(with_reducible refine Kd.C_alloc ?_ _)|(with_reducible refine Kd.C_drewN ?_ _)|(with_reducible refine Kd.C_drew ?_)))
           (case side6=>exact qes.out)
           (case side7=>repeat (first|exact (Kd.C_below pq.out HB.out)|(with_reducible refine Kd.C_alloc ?_ _)|(with_reducible refine Kd.C_drewN ?_ _)|(with_reducible refine Kd.C_drew ?_)))
           (case side8=>exact qer.out)
           rintro e w68 ⟨rfl,hb⟩
           refine ⟨_,rfl,?_⟩
           have n0_:=Aside0.mk (blk_below (g:=qc) (o:=.cells #[.int .i64 qp,.int .i64 qq,.slice wd qn.length wb,.slice wl qf.length wa,.slice (some ur) qi.length qz,.slice wj qh.length qy,.int .i64 qo] 69 (0,0)) z19x4 hb)
           have n1_:=Aside0.mk (blk_below (g:=qd) (o:=.cells #[.int .i64 qu,.int .i64 qv,.slice vv qr.length vu,.slice uu qj.length vt,.slice (some uq) qm.length vr,.slice us ql.length vq,.int .i64 qt] 69 (0,0)) z19x5 hb)
           have n2_:=Aside0.mk (below_step z19x0 hb)
           clear qa
           clear qb
           clear HB
           have qa:=n0_
           have qb:=n1_
           have HB:=n2_
           clear n0_ n1_ n2_
           (try clear hb)
           (try clear hb2)
           (try clear hk)
           (try clear hi)
           refine hK.out _ _ ⟨(blk_cell qa.out 0).trans rfl,(blk_cell qa.out 1).trans rfl,(blk_cell qa.out 2).trans rfl,(blk_cell qa.out 3).trans rfl,(blk_cell qa.out 4).trans rfl,(blk_cell qa.out 5).trans rfl,(blk_cell qa.out 6).trans rfl,(blk_cell qb.out 0).trans rfl,(blk_cell qb.out 1).trans rfl,(blk_cell qb.out 2).trans rfl,(blk_cell qb.out 3).trans rfl,(blk_cell qb.out 4).trans rfl,(blk_cell qb.out 5).trans rfl,(blk_cell qb.out 6).trans rfl,((HB.out.cell (World.block_lt_of_cell? w _ jv)).trans jv),((HB.out.cell (World.block_lt_of_cell? w _ ju)).trans ju),((HB.out.cell (World.block_lt_of_cell? w _ jt)).trans jt),((HB.out.cell (World.block_lt_of_cell? w _ js)).trans js),((HB.out.cell (World.block_lt_of_cell? w _ jr)).trans jr),((HB.out.cell (World.block_lt_of_cell? w _ jq)).trans jq),((HB.out.cell (World.block_lt_of_cell? w _ jp)).trans jp),((HB.out.cell (World.block_lt_of_cell? w _ jo)).trans jo)⟩ (fun hHeld=>?_)
           clear hK K
           refine norm_ (a':=?_) ?_ ?_
           rotate_left
           ·show Act.put _ (some 91) _ = _
            simp only [Act.put,List.setIfInBounds_toArray,List.set_cons_zero,List.set_cons_succ,i64_w,i32_w]
            rfl
           refine pure_ (i:=11) (N:=some 92) (v:=?_) (a':=?_) #[true,true,true,true,true,true,true,true,true,true,true,true] rfl rfl (any_of HT_.out (by kernel_rfl)) (fun _ _ _ h=>h) (Or.inl ⟨by rfl,?_⟩) ?_ ?_
           rotate_left
           ·intro w'
            go_simp
            with_reducible rfl
           rotate_left
           ·exact z19a
           refine done_ (done_of HT_.out (by kernel_rfl)) ?_
           try go_wp2
           go_ret
           exact ⟨by first|rfl|(simp [errW_none,errW_some] <;> rfl)|(simp [*,errW_none,errW_some] <;> rfl),by repeat (first|(with_reducible first|exact HB.out|apply below_alloc|apply pw_below_drewN|apply below_drew1|refine below_set ?_ ue.out|refine below_set ?_ uv.out)|exact HB.out)⟩
          subst c60
          rw [if_pos rfl] at H
          have H':=Aside0.mk H
          clear H
          have qtv:=qx.out
          have qtg:=qw.out
          have qpr : wr.cell? ⟨qc,0,none⟩ = some (.int .i64 qp):=(blk_cell qa.out 0).trans rfl
          have qpq : wr.cell? ⟨qc,1,none⟩ = some (.int .i64 qq):=(blk_cell qa.out 1).trans rfl
          have qpp : wr.cell? ⟨qc,2,none⟩ = some (.slice wd qn.length wb):=(blk_cell qa.out 2).trans rfl
          have qpo : wr.cell? ⟨qc,3,none⟩ = some (.slice wl qf.length wa):=(blk_cell qa.out 3).trans rfl
          have qpn : wr.cell? ⟨qc,4,none⟩ = some (.slice wk qi.length qz):=(blk_cell qa.out 4).trans rfl
          have qpm : wr.cell? ⟨qc,5,none⟩ = some (.slice wj qh.length qy):=(blk_cell qa.out 5).trans rfl
          have qpl : wr.cell? ⟨qc,6,none⟩ = some (.int .i64 qo):=(blk_cell qa.out 6).trans rfl
          have qow:=blk_frozen qa.out 0
          have qov:=blk_frozen qa.out 1
          have qou:=blk_frozen qa.out 2
          have qot:=blk_frozen qa.out 3
          have qos:=blk_frozen qa.out 4
          have qor:=blk_frozen qa.out 5
          have qoq:=blk_frozen qa.out 6
          try go_wp2
          have n0_:=Aside0.mk (blk_drew qa.out)
          have n1_:=Aside0.mk (blk_drew qb.out)
          have n2_:=Aside0.mk (below_drew1 HB.out)
          clear qa
          clear qb
          clear HB
          have qa:=n0_
          have qb:=n1_
          have HB:=n2_
          clear n0_ n1_ n2_
          have qfg : 0 ≤ (qk : Int):=of_decide_eq_true (by first|(with_reducible assumption)|assumption)
          have qfe : qk < (qi.length : Int):=of_decide_eq_true (by first|(with_reducible assumption)|assumption)
          obtain ⟨ur,qec,qdo,qeb,qdn,qqv,ud,uc,ub,ua,gr,pf,gq,pe⟩:=at_T128 qqq.out qk qfg qfe
          have js:=ua
          have jt:=ub
          have ju:=uc
          have jv:=ud
          cases qqv
          replace ud:=(HB.out.cell (World.block_lt_of_cell? w _ ud)).trans ud
          replace uc:=(HB.out.cell (World.block_lt_of_cell? w _ uc)).trans uc
          replace ub:=(HB.out.cell (World.block_lt_of_cell? w _ ub)).trans ub
          replace ua:=(HB.out.cell (World.block_lt_of_cell? w _ ua)).trans ua
          have pu:=Aside0.mk pf
          have qeu:=Aside0.mk gr
          clear pf gr
          have pt:=Aside0.mk pe
          have qet:=Aside0.mk gq
          clear pe gq
          replace qfg:=eq_true qfg
          replace qfe:=eq_true qfe
          have qff : 0 ≤ (qk : Int):=of_decide_eq_true (by first|(with_reducible assumption)|assumption)
          have qfd : qk < (qm.length : Int):=of_decide_eq_true (by first|(with_reducible assumption)|assumption)
          obtain ⟨uq,qea,qdm,qdz,qdl,qqu,vz,vy,vx,vw,gp,pd,gn,pc⟩:=at_T128 qqn.out qk qff qfd
          have jo:=vw
          have jp:=vx
          have jq:=vy
          have jr:=vz
          cases qqu
          replace vz:=(HB.out.cell (World.block_lt_of_cell? w _ vz)).trans vz
          replace vy:=(HB.out.cell (World.block_lt_of_cell? w _ vy)).trans vy
          replace vx:=(HB.out.cell (World.block_lt_of_cell? w _ vx)).trans vx
          replace vw:=(HB.out.cell (World.block_lt_of_cell? w _ vw)).trans vw
          have pr:=Aside0.mk pd
          have qes:=Aside0.mk gp
          clear pd gp
          have pq:=Aside0.mk pc
          have qer:=Aside0.mk gn
          clear pc gn
          replace qff:=eq_true qff
          replace qfd:=eq_true qfd
          refine start_ (n:=12) (S:=fun w' => w'.cell? ⟨qc,0,none⟩ = some (.int .i64 qp) ∧ w'.cell? ⟨qc,1,none⟩ = some (.int .i64 qq) ∧ w'.cell? ⟨qc,2,none⟩ = some (.slice wd qn.length wb) ∧ w'.cell? ⟨qc,3,none⟩ = some (.slice wl qf.length wa) ∧ w'.cell? ⟨qc,4,none⟩ = some (.slice (some ur) qi.length qz) ∧ w'.cell? ⟨qc,5,none⟩ = some (.slice wj qh.length qy) ∧ w'.cell? ⟨qc,6,none⟩ = some (.int .i64 qo) ∧ w'.cell? ⟨qd,0,none⟩ = some (.int .i64 qu) ∧ w'.cell? ⟨qd,1,none⟩ = some (.int .i64 qv) ∧ w'.cell? ⟨qd,2,none⟩ = some (.slice vv qr.length vu) ∧ w'.cell? ⟨qd,3,none⟩ = some (.slice uu qj.length vt) ∧ w'.cell? ⟨qd,4,none⟩ = some (.slice (some uq) qm.length vr) ∧ w'.cell? ⟨qd,5,none⟩ = some (.slice us ql.length vq) ∧ w'.cell? ⟨qd,6,none⟩ = some (.int .i64 qt) ∧ w'.cell? (ur.add ((qk).toNat * 4)) = some (.int .i64 ((rd_T128 qi qk).f0)) ∧ w'.cell? ⟨(ur.add ((qk).toNat * 4)).block,(ur.add ((qk).toNat * 4)).off + 1,none⟩ = some (.int .i64 ((rd_T128 qi qk).f1)) ∧ w'.cell? ⟨(ur.add ((qk).toNat * 4)).block,(ur.add ((qk).toNat * 4)).off + 2,none⟩ = some (.slice qec ((rd_T128 qi qk).f2).length qdo) ∧ w'.cell? ⟨(ur.add ((qk).toNat * 4)).block,(ur.add ((qk).toNat * 4)).off + 3,none⟩ = some (.slice qeb ((rd_T128 qi qk).f3).length qdn) ∧ w'.cell? (uq.add ((qk).toNat * 4)) = some (.int .i64 ((rd_T128 qm qk).f0)) ∧ w'.cell? ⟨(uq.add ((qk).toNat * 4)).block,(uq.add ((qk).toNat * 4)).off + 1,none⟩ = some (.int .i64 ((rd_T128 qm qk).f1)) ∧ w'.cell? ⟨(uq.add ((qk).toNat * 4)).block,(uq.add ((qk).toNat * 4)).off + 2,none⟩ = some (.slice qea ((rd_T128 qm qk).f2).length qdm) ∧ w'.cell? ⟨(uq.add ((qk).toNat * 4)).block,(uq.add ((qk).toNat * 4)).off + 3,none⟩ = some (.slice qdz ((rd_T128 qm qk).f3).length qdl)) (ds:=[]) #[false,false,false,false,false,false,false,false,false,false,false,false] (by kernel_rfl) rfl rfl ⟨(blk_cell qa.out 0).trans rfl,(blk_cell qa.out 1).trans rfl,(blk_cell qa.out 2).trans rfl,(blk_cell qa.out 3).trans rfl,(blk_cell qa.out 4).trans rfl,(blk_cell qa.out 5).trans rfl,(blk_cell qa.out 6).trans rfl,(blk_cell qb.out 0).trans rfl,(blk_cell qb.out 1).trans rfl,(blk_cell qb.out 2).trans rfl,(blk_cell qb.out 3).trans rfl,(blk_cell qb.out 4).trans rfl,(blk_cell qb.out 5).trans rfl,(blk_cell qb.out 6).trans rfl,((HB.out.cell (World.block_lt_of_cell? w _ jv)).trans jv),((HB.out.cell (World.block_lt_of_cell? w _ ju)).trans ju),((HB.out.cell (World.block_lt_of_cell? w _ jt)).trans jt),((HB.out.cell (World.block_lt_of_cell? w _ js)).trans js),((HB.out.cell (World.block_lt_of_cell? w _ jr)).trans jr),((HB.out.cell (World.block_lt_of_cell? w _ jq)).trans jq),((HB.out.cell (World.block_lt_of_cell? w _ jp)).trans jp),((HB.out.cell (World.block_lt_of_cell? w _ jo)).trans jo)⟩ (fun hHeld=>?_);refine with_tabW laws_lbWorld.tab11 laws_lbWorld.bits11 (fun HT_ HW_=>?_)
          generalize wr.drew = w63 at qa qb HB pu pt pr pq ud uc ub ua vz vy vx vw hHeld ⊢
          refine pure_ (i:=0) (N:=some 81) (v:=?_) (a':=?_) #[true,false,false,false,false,false,false,false,false,false,false,false] rfl rfl (any_of HT_.out (by kernel_rfl)) (fun _ _ _ h=>h) (Or.inl ⟨by rfl,?_⟩) ?_ ?_
          rotate_left
          ·intro w'
           go_simp
           with_reducible rfl
          rotate_left
          ·exact z19a
          refine pure_ (i:=2) (N:=some 83) (v:=?_) (a':=?_) #[true,false,true,false,false,false,false,false,false,false,false,false] rfl rfl (any_of HT_.out (by kernel_rfl)) (fun _ _ _ h=>h) (Or.inl ⟨by rfl,?_⟩) ?_ ?_
          rotate_left
          ·intro w'
           go_simp
           with_reducible rfl
          rotate_left
          ·exact z19a
          refine pure_ (i:=5) (N:=some 86) (v:=?_) (a':=?_) #[true,false,true,false,false,true,false,false,false,false,false,false] rfl rfl (any_of HT_.out (by kernel_rfl)) (fun _ _ _ h=>h) (Or.inl ⟨by rfl,?_⟩) ?_ ?_
          rotate_left
          ·intro w'
           go_simp
           with_reducible rfl
          rotate_left
          ·exact z19a
          refine pure_ (i:=7) (N:=some 88) (v:=?_) (a':=?_) #[true,false,true,false,false,true,false,true,false,false,false,false] rfl rfl (any_of HT_.out (by kernel_rfl)) (fun _ _ _ h=>h) (Or.inl ⟨by rfl,?_⟩) ?_ ?_
          rotate_left
          ·intro w'
           go_simp
           with_reducible rfl
          rotate_left
          ·exact z19a
          refine take_ (i:=1) (N:=some 82) (v:=?_) (a':=?_) #[true,true,true,false,false,true,false,true,false,false,false,false] rfl rfl (take_ofW HT_.out HW_.out (by kernel_rfl)) (fun _ _ _ h=>h) (Or.inl ⟨by rfl,?_⟩) hHeld ?_ ?_
          rotate_left
          ·rintro w' ⟨s0,s1,s2,s3,s4,s5,s6,s7,s8,s9,s10,s11,s12,s13,s14,s15,s16,s17,s18,s19,s20,s21⟩
           go_simp
           with_reducible rfl
          rotate_left
          ·exact z19a
          refine pure_ (i:=3) (N:=some 84) (v:=?_) (a':=?_) #[true,true,true,true,false,true,false,true,false,false,false,false] rfl rfl (any_of HT_.out (by kernel_rfl)) (fun _ _ _ h=>h) (Or.inl ⟨by rfl,?_⟩) ?_ ?_
          rotate_left
          ·intro w'
           go_simp
           with_reducible rfl
          rotate_left
          ·exact z19a
          refine take_ (i:=4) (N:=some 85) (v:=?_) (a':=?_) #[true,true,true,true,true,true,false,true,false,false,false,false] rfl rfl (take_ofW HT_.out HW_.out (by kernel_rfl)) (fun _ _ _ h=>h) (Or.inl ⟨by rfl,?_⟩) hHeld ?_ ?_
          rotate_left
          ·rintro w' ⟨s0,s1,s2,s3,s4,s5,s6,s7,s8,s9,s10,s11,s12,s13,s14,s15,s16,s17,s18,s19,s20,s21⟩
           go_simp
           with_reducible rfl
          rotate_left
          ·exact z19a
          refine take_ (i:=6) (N:=some 87) (v:=?_) (a':=?_) #[true,true,true,true,true,true,true,true,false,false,false,false] rfl rfl (take_ofW HT_.out HW_.out (by kernel_rfl)) (fun _ _ _ h=>h) (Or.inl ⟨by rfl,?_⟩) hHeld ?_ ?_
          rotate_left
          ·rintro w' ⟨s0,s1,s2,s3,s4,s5,s6,s7,s8,s9,s10,s11,s12,s13,s14,s15,s16,s17,s18,s19,s20,s21⟩
           go_simp
           with_reducible rfl
          rotate_left
          ·exact z19a
          refine pure_ (i:=8) (N:=some 89) (v:=?_) (a':=?_) #[true,true,true,true,true,true,true,true,true,false,false,false] rfl rfl (any_of HT_.out (by kernel_rfl)) (fun _ _ _ h=>h) (Or.inl ⟨by rfl,?_⟩) ?_ ?_
          rotate_left
          ·intro w'
           go_simp
           with_reducible rfl
          rotate_left
          ·exact z19a
          refine take_ (i:=9) (N:=some 90) (v:=?_) (a':=?_) #[true,true,true,true,true,true,true,true,true,true,false,false] rfl rfl (take_ofW HT_.out HW_.out (by kernel_rfl)) (fun _ _ _ h=>h) (Or.inl ⟨by rfl,?_⟩) hHeld ?_ ?_
          rotate_left
          ·rintro w' ⟨s0,s1,s2,s3,s4,s5,s6,s7,s8,s9,s10,s11,s12,s13,s14,s15,s16,s17,s18,s19,s20,s21⟩
           go_simp
           with_reducible rfl
          rotate_left
          ·exact z19a
          refine one_ (i:=10) (N:=some 91) #[true,true,true,true,true,true,true,true,true,true,true,false] rfl rfl (one_of HT_.out (by kernel_rfl)) (by decide) (fun K hK=>?_)
          refine goes_ Try.func103 (by kernel_rfl) rfl #[.agg #[.int .i64 ((rd_T128 qi qk).f0),.int .i64 ((rd_T128 qi qk).f1),.slice qec ((rd_T128 qi qk).f2).length qdo,.slice qeb ((rd_T128 qi qk).f3).length qdn],.agg #[.int .i64 ((rd_T128 qm qk).f0),.int .i64 ((rd_T128 qm qk).f1),.slice qea ((rd_T128 qm qk).f2).length qdm,.slice qdz ((rd_T128 qm qk).f3).length qdl]] (by rfl) rfl rfl z19x2 ?_
          with_reducible refine (laws_lbServ.calls k3 ((rd_T128 qi qk).f0) ((rd_T128 qi qk).f1) _ _ ((rd_T128 qi qk).f2) _ _ ((rd_T128 qi qk).f3) ((rd_T128 qm qk).f0) ((rd_T128 qm qk).f1) _ _ ((rd_T128 qm qk).f2) _ _ ((rd_T128 qm qk).f3) true _ ?side1 ?side2 ?side3 ?side4 ?side5 ?side6 ?side7 ?side8 A59.out).mono ?_
          (case side1=>repeat (first|exact (Kd.C_below pu.out HB.out)|(with_reducible refine Kd.C_alloc ?_ _)|(with_reducible refine Kd.C_drewN ?_ _)|(with_reducible refine Kd.C_drew ?_)))
          (case side2=>exact qeu.out)
          (case side3=>repeat (first|exact (Kd.C_below pt.out HB.out)|(with_reducible refine Kd.C_alloc ?_ _)|(with_reducible refine Kd.C_drewN ?_ _)|(with_reducible refine Kd.C_drew ?_)))
          (case side4=>exact qet.out)
          (case side5=>repeat (first|exact (Kd.C_below pr.out HB.out)|(with_reducible refine Kd.C_alloc ?_ _)|(with_reducible refine Kd.C_drewN ?_ _)|(with_reducible refine Kd.C_drew ?_)))
          (case side6=>exact qes.out)
          (case side7=>repeat (first|exact (Kd.C_below pq.out HB.out)|(with_reducible refine Kd.C_alloc ?_ _)|(with_reducible refine Kd.C_drewN ?_ _)|(with_reducible refine Kd.C_drew ?_)))
          (case side8=>exact qer.out)
          rintro e w64 ⟨rfl,hb⟩
          refine ⟨_,rfl,?_⟩
          have n0_:=Aside0.mk (blk_below (g:=qc) (o:=.cells #[.int .i64 qp,.int .i64 qq,.slice wd qn.length wb,.slice wl qf.length wa,.slice (some ur) qi.length qz,.slice wj qh.length qy,.int .i64 qo] 69 (0,0)) z19x4 hb)
          have n1_:=Aside0.mk (blk_below (g:=qd) (o:=.cells #[.int .i64 qu,.int .i64 qv,.slice vv qr.length vu,.slice uu qj.length vt,.slice (some uq) qm.length vr,.slice us ql.length vq,.int .i64 qt] 69 (0,0)) z19x5 hb)
          have n2_:=Aside0.mk (below_step z19x0 hb)
          clear qa
          clear qb
          clear HB
          have qa:=n0_
          have qb:=n1_
          have HB:=n2_
          clear n0_ n1_ n2_
          (try clear hb)
          (try clear hb2)
          (try clear hk)
          (try clear hi)
          refine hK.out _ _ ⟨(blk_cell qa.out 0).trans rfl,(blk_cell qa.out 1).trans rfl,(blk_cell qa.out 2).trans rfl,(blk_cell qa.out 3).trans rfl,(blk_cell qa.out 4).trans rfl,(blk_cell qa.out 5).trans rfl,(blk_cell qa.out 6).trans rfl,(blk_cell qb.out 0).trans rfl,(blk_cell qb.out 1).trans rfl,(blk_cell qb.out 2).trans rfl,(blk_cell qb.out 3).trans rfl,(blk_cell qb.out 4).trans rfl,(blk_cell qb.out 5).trans rfl,(blk_cell qb.out 6).trans rfl,((HB.out.cell (World.block_lt_of_cell? w _ jv)).trans jv),((HB.out.cell (World.block_lt_of_cell? w _ ju)).trans ju),((HB.out.cell (World.block_lt_of_cell? w _ jt)).trans jt),((HB.out.cell (World.block_lt_of_cell? w _ js)).trans js),((HB.out.cell (World.block_lt_of_cell? w _ jr)).trans jr),((HB.out.cell (World.block_lt_of_cell? w _ jq)).trans jq),((HB.out.cell (World.block_lt_of_cell? w _ jp)).trans jp),((HB.out.cell (World.block_lt_of_cell? w _ jo)).trans jo)⟩ (fun hHeld=>?_)
          clear hK K
          refine norm_ (a':=?_) ?_ ?_
          rotate_left
          ·show Act.put _ (some 91) _ = _
           simp only [Act.put,List.setIfInBounds_toArray,List.set_cons_zero,List.set_cons_succ,i64_w,i32_w]
           rfl
          refine pure_ (i:=11) (N:=some 92) (v:=?_) (a':=?_) #[true,true,true,true,true,true,true,true,true,true,true,true] rfl rfl (any_of HT_.out (by kernel_rfl)) (fun _ _ _ h=>h) (Or.inl ⟨by rfl,?_⟩) ?_ ?_
          rotate_left
          ·intro w'
           go_simp
           with_reducible rfl
          rotate_left
          ·exact z19a
          refine done_ (done_of HT_.out (by kernel_rfl)) ?_
          try go_wp2
          go_roundg k3
          case measure=>have:=HJ2.out;have:=HK2.out;have:=HK3.out;omega
          case rel=>exact ⟨(wrap64 (qk + 1)),(by first|rfl|(simp;done)|(simp [*];done)),H',⟨by have:=HJ2.out;have:=HK2.out;have:=HK3.out;omega⟩,⟨by (with_reducible repeat (first|refine blk_drewN ?_ _|refine blk_drew ?_|refine blk_alloc ?_ _));exact qa.out⟩,⟨by (with_reducible repeat (first|refine blk_drewN ?_ _|refine blk_drew ?_|refine blk_alloc ?_ _));exact qb.out⟩,⟨by repeat (first|(with_reducible first|exact HB.out|apply below_alloc|apply pw_below_drewN|apply below_drew1|refine below_set ?_ ue.out|refine below_set ?_ uv.out)|exact HB.out)⟩⟩
         ·rw [if_neg c56] at H
          have qqk : decide (qk < (qi.length : Int)) = false:=decide_eq_false c56
          clear c56
          have H':=Aside0.mk H
          clear H
          have qtt:=qx.out
          have qte:=qw.out
          have qpd : wr.cell? ⟨qc,0,none⟩ = some (.int .i64 qp):=(blk_cell qa.out 0).trans rfl
          have qpc : wr.cell? ⟨qc,1,none⟩ = some (.int .i64 qq):=(blk_cell qa.out 1).trans rfl
          have qpb : wr.cell? ⟨qc,2,none⟩ = some (.slice wd qn.length wb):=(blk_cell qa.out 2).trans rfl
          have qpa : wr.cell? ⟨qc,3,none⟩ = some (.slice wl qf.length wa):=(blk_cell qa.out 3).trans rfl
          have qoz : wr.cell? ⟨qc,4,none⟩ = some (.slice wk qi.length qz):=(blk_cell qa.out 4).trans rfl
          have qoy : wr.cell? ⟨qc,5,none⟩ = some (.slice wj qh.length qy):=(blk_cell qa.out 5).trans rfl
          have qox : wr.cell? ⟨qc,6,none⟩ = some (.int .i64 qo):=(blk_cell qa.out 6).trans rfl
          have qoi:=blk_frozen qa.out 0
          have qoh:=blk_frozen qa.out 1
          have qog:=blk_frozen qa.out 2
          have qof:=blk_frozen qa.out 3
          have qoe:=blk_frozen qa.out 4
          have qod:=blk_frozen qa.out 5
          have qoc:=blk_frozen qa.out 6
          go_wp2
          go_loopg [7] k3 (fun kq v7 w' => ∃ (qg : Int),v7 = .int .i64 qg ∧ Aside0 (laws_lbWorld.l2 kq qg qp qq qn qf qi qh qo qu qv qr qj qm ql qt = some r) ∧ Aside0 (kq ≤ k3) ∧ Aside0 (w'.heap[qc]? = some (.cells #[.int .i64 qp,.int .i64 qq,(.slice wd qn.length wb),(.slice wl qf.length wa),(.slice wk qi.length qz),(.slice wj qh.length qy),.int .i64 qo] 69 (0,0))) ∧ Aside0 (w'.heap[qd]? = some (.cells #[.int .i64 qu,.int .i64 qv,(.slice vv qr.length vu),(.slice uu qj.length vt),(.slice ut qm.length vr),(.slice us ql.length vq),.int .i64 qt] 69 (0,0))) ∧ Aside0 (Below w.heap.size w w'))
          case atStart=>exact ⟨(0),(by first|rfl|(simp;done)|(simp [*];done)),H',⟨Nat.le_refl _⟩,⟨by (with_reducible repeat (first|refine blk_drewN ?_ _|refine blk_drew ?_|refine blk_alloc ?_ _));exact qa.out⟩,⟨by (with_reducible repeat (first|refine blk_drewN ?_ _|refine blk_drew ?_|refine blk_alloc ?_ _));exact qb.out⟩,⟨by repeat (first|(with_reducible first|exact HB.out|apply below_alloc|apply pw_below_drewN|apply below_drew1|refine below_set ?_ ue.out|refine below_set ?_ uv.out)|exact HB.out)⟩⟩
          case round =>
           clear H'
           try clear c1
           try clear c2
           try clear p2
           try clear q2
           try clear hx2
           try clear c5
           try clear c6
           try clear p6
           try clear c10
           try clear p22
           try clear q22
           try clear qsz
           try clear c23
           try clear p23
           try clear q23
           try clear qup
           try clear c56
           try clear qqk
           try clear c57
           try clear qrd
           try clear c58
           try clear qrc
           try clear c60
           try clear c61
           try clear p64
           try clear c65
           try clear c69
           try clear qir
           try clear qiq
           try clear qip
           try clear qio
           try clear qin
           try clear qim
           try clear qil
           try clear qik
           try clear qij
           try clear qii
           try clear qih
           try clear qig
           try clear qif
           try clear qie
           try clear qid
           try clear qic
           try clear qib
           try clear qia
           try clear qhz
           try clear qpr
           try clear qpq
           try clear qpp
           try clear qpo
           try clear qpn
           try clear qpm
           try clear qpl
           try clear qpk
           try clear qpj
           try clear qpi
           try clear qph
           try clear qpg
           try clear qpf
           try clear qpe
           try clear qpd
           try clear qpc
           try clear qpb
           try clear qpa
           try clear qoz
           try clear qoy
           try clear qox
           try clear qdi
           try clear qdh
           try clear qdg
           try clear qdf
           try clear qde
           try clear qdd
           try clear qdc
           try clear qdb
           try clear qda
           try clear qcz
           try clear qcy
           try clear qcx
           try clear qcw
           try clear qcv
           try clear qcu
           try clear qct
           try clear qcs
           try clear qcr
           try clear qcq
           try clear qcp
           try clear qco
           try clear qcn
           try clear qcm
           try clear qcl
           try clear qck
           try clear qcj
           try clear qci
           try clear qch
           try clear qcg
           try clear qcf
           try clear qce
           try clear qcd
           try clear qcc
           try clear qcb
           try clear qca
           try clear qbz
           try clear qby
           try clear qbx
           try clear qbw
           try clear qbv
           try clear qbu
           try clear qbt
           try clear qbs
           try clear qbr
           try clear qbq
           try clear qbp
           try clear qbo
           try clear qbn
           try clear qbm
           try clear qbl
           try clear qbk
           try clear qbj
           try clear qbi
           try clear qbh
           try clear qbg
           try clear qbf
           try clear qbe
           try clear qbd
           try clear qbc
           try clear qbb
           try clear qba
           try clear qaz
           try clear qay
           try clear qax
           try clear qaw
           try clear qav
           try clear qau
           try clear qat
           try clear qas
           try clear qar
           try clear qaq
           try clear qap
           try clear qao
           try clear qan
           try clear qam
           try clear qal
           try clear qak
           try clear qaj
           try clear qai
           try clear qah
           try clear qag
           try clear qaf
           try clear qae
           try clear qgh
           try clear qgg
           try clear qgf
           try clear qge
           try clear qgd
           try clear qgc
           try clear qgb
           try clear qga
           try clear qfz
           try clear qfy
           try clear qfx
           try clear qfw
           try clear qfv
           try clear qfu
           try clear qft
           try clear qfs
           try clear qfr
           try clear qfq
           try clear qfp
           try clear qfo
           try clear qfn
           try clear qow
           try clear qov
           try clear qou
           try clear qot
           try clear qos
           try clear qor
           try clear qoq
           try clear qop
           try clear qoo
           try clear qon
           try clear qom
           try clear qol
           try clear qok
           try clear qoj
           try clear qoi
           try clear qoh
           try clear qog
           try clear qof
           try clear qoe
           try clear qod
           try clear qoc
           try clear vp
           try clear vo
           try clear vn
           try clear vm
           try clear vl
           try clear vk
           try clear wz
           try clear wy
           try clear wx
           try clear ww
           try clear wv
           try clear wu
           try clear ud
           try clear uc
           try clear ub
           try clear ua
           try clear vz
           try clear vy
           try clear vx
           try clear vw
           try clear p2
           try clear qeo
           try clear qen
           try clear qfg
           try clear qff
           try clear qem
           try clear qel
           try clear qfe
           try clear qfd
           obtain ⟨qg,rfl,HA,HK4,qa,qb,HB⟩:=hrel
           cases gk with
           | zero=>exact absurd HA.out (by simp [laws_lbWorld.l2])
           | succ k4 =>
            have H:=HA.out
            clear HA
            simp only [laws_lbWorld.l2] at H
            by_cases c71 : qg < (qh.length : Int)
            rotate_left
            ·rw [if_neg c71] at H
             have qrb : decide (qg < (qh.length : Int)) = false:=decide_eq_false c71
             clear c71
             obtain rfl:=Option.some.inj H
             have qtq:=qx.out
             have qtb:=qw.out
             have qsk : wr.cell? ⟨qc,0,none⟩ = some (.int .i64 qp):=(blk_cell qa.out 0).trans rfl
             have qsj : wr.cell? ⟨qc,1,none⟩ = some (.int .i64 qq):=(blk_cell qa.out 1).trans rfl
             have qsi : wr.cell? ⟨qc,2,none⟩ = some (.slice wd qn.length wb):=(blk_cell qa.out 2).trans rfl
             have qsh : wr.cell? ⟨qc,3,none⟩ = some (.slice wl qf.length wa):=(blk_cell qa.out 3).trans rfl
             have qsg : wr.cell? ⟨qc,4,none⟩ = some (.slice wk qi.length qz):=(blk_cell qa.out 4).trans rfl
             have qsf : wr.cell? ⟨qc,5,none⟩ = some (.slice wj qh.length qy):=(blk_cell qa.out 5).trans rfl
             have qse : wr.cell? ⟨qc,6,none⟩ = some (.int .i64 qo):=(blk_cell qa.out 6).trans rfl
             have qrp:=blk_frozen qa.out 0
             have qro:=blk_frozen qa.out 1
             have qrn:=blk_frozen qa.out 2
             have qrm:=blk_frozen qa.out 3
             have qrl:=blk_frozen qa.out 4
             have qrk:=blk_frozen qa.out 5
             have qrj:=blk_frozen qa.out 6
             go_wp2
             go_ret
             exact ⟨by first|rfl|(simp [errW_none,errW_some] <;> rfl)|(simp [*,errW_none,errW_some] <;> rfl),by repeat (first|(with_reducible first|exact HB.out|apply below_alloc|apply pw_below_drewN|apply below_drew1|refine below_set ?_ ue.out|refine below_set ?_ uv.out)|exact HB.out)⟩
            rw [if_pos c71] at H
            have qrb : decide (qg < (qh.length : Int)) = true:=decide_eq_true c71
            clear c71
            by_cases c72 : 0 ≤ qg
            rotate_left
            ·rw [if_neg c72] at H
             exact absurd H (by simp)
            rw [if_pos c72] at H
            have qug : decide (0 ≤ qg) = true:=decide_eq_true c72
            clear c72
            by_cases c73 : qg < (ql.length : Int)
            rotate_left
            ·rw [if_neg c73] at H
             exact absurd H (by simp)
            rw [if_pos c73] at H
            have quf : decide (qg < (ql.length : Int)) = true:=decide_eq_true c73
            clear c73
            replace H:=Option.bind_eq_some_iff.mp H
            obtain ⟨qnz,qrg,H⟩:=H
            replace H : (if qnz = true then (laws_lbWorld.l2 k4 (wrap64 (qg + 1)) qp qq qn qf qi qh qo qu qv qr qj qm ql qt) else (some false)) = some r:=H
            have A74:=Aside0.mk qrg
            clear qrg
            by_cases c75 : qnz = true
            rotate_left
            ·replace c75:=Bool.eq_false_iff.mpr c75
             subst c75
             rw [if_neg (show ¬ (false = true) by decide)] at H
             obtain rfl:=Option.some.inj H
             have qtr:=qx.out
             have qtc:=qw.out
             have qsr : wr.cell? ⟨qc,0,none⟩ = some (.int .i64 qp):=(blk_cell qa.out 0).trans rfl
             have qsq : wr.cell? ⟨qc,1,none⟩ = some (.int .i64 qq):=(blk_cell qa.out 1).trans rfl
             have qsp : wr.cell? ⟨qc,2,none⟩ = some (.slice wd qn.length wb):=(blk_cell qa.out 2).trans rfl
             have qso : wr.cell? ⟨qc,3,none⟩ = some (.slice wl qf.length wa):=(blk_cell qa.out 3).trans rfl
             have qsn : wr.cell? ⟨qc,4,none⟩ = some (.slice wk qi.length qz):=(blk_cell qa.out 4).trans rfl
             have qsm : wr.cell? ⟨qc,5,none⟩ = some (.slice wj qh.length qy):=(blk_cell qa.out 5).trans rfl
             have qsl : wr.cell? ⟨qc,6,none⟩ = some (.int .i64 qo):=(blk_cell qa.out 6).trans rfl
             have qrw:=blk_frozen qa.out 0
             have qrv:=blk_frozen qa.out 1
             have qru:=blk_frozen qa.out 2
             have qrt:=blk_frozen qa.out 3
             have qrs:=blk_frozen qa.out 4
             have qrr:=blk_frozen qa.out 5
             have qrq:=blk_frozen qa.out 6
             try go_wp2
             have n0_:=Aside0.mk (blk_drew qa.out)
             have n1_:=Aside0.mk (blk_drew qb.out)
             have n2_:=Aside0.mk (below_drew1 HB.out)
             clear qa
             clear qb
             clear HB
             have qa:=n0_
             have qb:=n1_
             have HB:=n2_
             clear n0_ n1_ n2_
             have qfk : 0 ≤ (qg : Int):=of_decide_eq_true (by first|(with_reducible assumption)|assumption)
             have qfi : qg < (qh.length : Int):=of_decide_eq_true (by first|(with_reducible assumption)|assumption)
             obtain ⟨wt,qdy,qdk,qqt,uo,un,um,ul,uk,gm,pb⟩:=at_T34 qqp.out qg qfk qfi
             have jj:=uk
             have jk:=ul
             have jl:=um
             have jm:=un
             have jn:=uo
             cases qqt
             replace uo:=(HB.out.cell (World.block_lt_of_cell? w _ uo)).trans uo
             replace un:=(HB.out.cell (World.block_lt_of_cell? w _ un)).trans un
             replace um:=(HB.out.cell (World.block_lt_of_cell? w _ um)).trans um
             replace ul:=(HB.out.cell (World.block_lt_of_cell? w _ ul)).trans ul
             replace uk:=(HB.out.cell (World.block_lt_of_cell? w _ uk)).trans uk
             have pp:=Aside0.mk pb
             have qeq:=Aside0.mk gm
             clear pb gm
             replace qfk:=eq_true qfk
             replace qfi:=eq_true qfi
             have qfj : 0 ≤ (qg : Int):=of_decide_eq_true (by first|(with_reducible assumption)|assumption)
             have qfh : qg < (ql.length : Int):=of_decide_eq_true (by first|(with_reducible assumption)|assumption)
             obtain ⟨ws,qdx,qdj,qqs,uj,ui,uh,ug,uf,gl,pa⟩:=at_T34 qqm.out qg qfj qfh
             have je:=uf
             have jf:=ug
             have jg:=uh
             have jh:=ui
             have ji:=uj
             cases qqs
             replace uj:=(HB.out.cell (World.block_lt_of_cell? w _ uj)).trans uj
             replace ui:=(HB.out.cell (World.block_lt_of_cell? w _ ui)).trans ui
             replace uh:=(HB.out.cell (World.block_lt_of_cell? w _ uh)).trans uh
             replace ug:=(HB.out.cell (World.block_lt_of_cell? w _ ug)).trans ug
             replace uf:=(HB.out.cell (World.block_lt_of_cell? w _ uf)).trans uf
             have po:=Aside0.mk pa
             have qep:=Aside0.mk gl
             clear pa gl
             replace qfj:=eq_true qfj
             replace qfh:=eq_true qfh
             refine start_ (n:=12) (S:=fun w' => w'.cell? ⟨qc,0,none⟩ = some (.int .i64 qp) ∧ w'.cell? ⟨qc,1,none⟩ = some (.int .i64 qq) ∧ w'.cell? ⟨qc,2,none⟩ = some (.slice wd qn.length wb) ∧ w'.cell? ⟨qc,3,none⟩ = some (.slice wl qf.length wa) ∧ w'.cell? ⟨qc,4,none⟩ = some (.slice wk qi.length qz) ∧ w'.cell? ⟨qc,5,none⟩ = some (.slice (some wt) qh.length qy) ∧ w'.cell? ⟨qc,6,none⟩ = some (.int .i64 qo) ∧ w'.cell? ⟨qd,0,none⟩ = some (.int .i64 qu) ∧ w'.cell? ⟨qd,1,none⟩ = some (.int .i64 qv) ∧ w'.cell? ⟨qd,2,none⟩ = some (.slice vv qr.length vu) ∧ w'.cell? ⟨qd,3,none⟩ = some (.slice uu qj.length vt) ∧ w'.cell? ⟨qd,4,none⟩ = some (.slice ut qm.length vr) ∧ w'.cell? ⟨qd,5,none⟩ = some (.slice (some ws) ql.length vq) ∧ w'.cell? ⟨qd,6,none⟩ = some (.int .i64 qt) ∧ w'.cell? (wt.add ((qg).toNat * 5)) = some (.int .i64 ((rd_T34 qh qg).f0)) ∧ w'.cell? ⟨(wt.add ((qg).toNat * 5)).block,(wt.add ((qg).toNat * 5)).off + 1,none⟩ = some (.int .i64 ((rd_T34 qh qg).f1)) ∧ w'.cell? ⟨(wt.add ((qg).toNat * 5)).block,(wt.add ((qg).toNat * 5)).off + 2,none⟩ = some (.int .i64 ((rd_T34 qh qg).f2)) ∧ w'.cell? ⟨(wt.add ((qg).toNat * 5)).block,(wt.add ((qg).toNat * 5)).off + 3,none⟩ = some (.int .i64 ((rd_T34 qh qg).f3)) ∧ w'.cell? ⟨(wt.add ((qg).toNat * 5)).block,(wt.add ((qg).toNat * 5)).off + 4,none⟩ = some (.slice qdy ((rd_T34 qh qg).f4).length qdk) ∧ w'.cell? (ws.add ((qg).toNat * 5)) = some (.int .i64 ((rd_T34 ql qg).f0)) ∧ w'.cell? ⟨(ws.add ((qg).toNat * 5)).block,(ws.add ((qg).toNat * 5)).off + 1,none⟩ = some (.int .i64 ((rd_T34 ql qg).f1)) ∧ w'.cell? ⟨(ws.add ((qg).toNat * 5)).block,(ws.add ((qg).toNat * 5)).off + 2,none⟩ = some (.int .i64 ((rd_T34 ql qg).f2)) ∧ w'.cell? ⟨(ws.add ((qg).toNat * 5)).block,(ws.add ((qg).toNat * 5)).off + 3,none⟩ = some (.int .i64 ((rd_T34 ql qg).f3)) ∧ w'.cell? ⟨(ws.add ((qg).toNat * 5)).block,(ws.add ((qg).toNat * 5)).off + 4,none⟩ = some (.slice qdx ((rd_T34 ql qg).f4).length qdj)) (ds:=[]) #[false,false,false,false,false,false,false,false,false,false,false,false] (by kernel_rfl) rfl rfl ⟨(blk_cell qa.out 0).trans rfl,(blk_cell qa.out 1).trans rfl,(blk_cell qa.out 2).trans rfl,(blk_cell qa.out 3).trans rfl,(blk_cell qa.out 4).trans rfl,(blk_cell qa.out 5).trans rfl,(blk_cell qa.out 6).trans rfl,(blk_cell qb.out 0).trans rfl,(blk_cell qb.out 1).trans rfl,(blk_cell qb.out 2).trans rfl,(blk_cell qb.out 3).trans rfl,(blk_cell qb.out 4).trans rfl,(blk_cell qb.out 5).trans rfl,(blk_cell qb.out 6).trans rfl,((HB.out.cell (World.block_lt_of_cell? w _ jn)).trans jn),((HB.out.cell (World.block_lt_of_cell? w _ jm)).trans jm),((HB.out.cell (World.block_lt_of_cell? w _ jl)).trans jl),((HB.out.cell (World.block_lt_of_cell? w _ jk)).trans jk),((HB.out.cell (World.block_lt_of_cell? w _ jj)).trans jj),((HB.out.cell (World.block_lt_of_cell? w _ ji)).trans ji),((HB.out.cell (World.block_lt_of_cell? w _ jh)).trans jh),((HB.out.cell (World.block_lt_of_cell? w _ jg)).trans jg),((HB.out.cell (World.block_lt_of_cell? w _ jf)).trans jf),((HB.out.cell (World.block_lt_of_cell? w _ je)).trans je)⟩ (fun hHeld=>?_);refine with_tabW laws_lbWorld.tab16 laws_lbWorld.bits16 (fun HT_ HW_=>?_)
             generalize wr.drew = w82 at qa qb HB pp po uo un um ul uk uj ui uh ug uf hHeld ⊢
             refine pure_ (i:=0) (N:=some 100) (v:=?_) (a':=?_) #[true,false,false,false,false,false,false,false,false,false,false,false] rfl rfl (any_of HT_.out (by kernel_rfl)) (fun _ _ _ h=>h) (Or.inl ⟨by rfl,?_⟩) ?_ ?_
             rotate_left
             ·intro w'
              go_simp
              with_reducible rfl
             rotate_left
             ·exact z19a
             refine pure_ (i:=2) (N:=some 102) (v:=?_) (a':=?_) #[true,false,true,false,false,false,false,false,false,false,false,false] rfl rfl (any_of HT_.out (by kernel_rfl)) (fun _ _ _ h=>h) (Or.inl ⟨by rfl,?_⟩) ?_ ?_
             rotate_left
             ·intro w'
              go_simp
              with_reducible rfl
             rotate_left
             ·exact z19a
             refine pure_ (i:=5) (N:=some 105) (v:=?_) (a':=?_) #[true,false,true,false,false,true,false,false,false,false,false,false] rfl rfl (any_of HT_.out (by kernel_rfl)) (fun _ _ _ h=>h) (Or.inl ⟨by rfl,?_⟩) ?_ ?_
             rotate_left
             ·intro w'
              go_simp
              with_reducible rfl
             rotate_left
             ·exact z19a
             refine pure_ (i:=7) (N:=some 107) (v:=?_) (a':=?_) #[true,false,true,false,false,true,false,true,false,false,false,false] rfl rfl (any_of HT_.out (by kernel_rfl)) (fun _ _ _ h=>h) (Or.inl ⟨by rfl,?_⟩) ?_ ?_
             rotate_left
             ·intro w'
              go_simp
              with_reducible rfl
             rotate_left
             ·exact z19a
             refine take_ (i:=1) (N:=some 101) (v:=?_) (a':=?_) #[true,true,true,false,false,true,false,true,false,false,false,false] rfl rfl (take_ofW HT_.out HW_.out (by kernel_rfl)) (fun _ _ _ h=>h) (Or.inl ⟨by rfl,?_⟩) hHeld ?_ ?_
             rotate_left
             ·rintro w' ⟨s0,s1,s2,s3,s4,s5,s6,s7,s8,s9,s10,s11,s12,s13,s14,s15,s16,s17,s18,s19,s20,s21,s22,s23⟩
              go_simp
              with_reducible rfl
             rotate_left
             ·exact z19a
             refine pure_ (i:=3) (N:=some 103) (v:=?_) (a':=?_) #[true,true,true,true,false,true,false,true,false,false,false,false] rfl rfl (any_of HT_.out (by kernel_rfl)) (fun _ _ _ h=>h) (Or.inl ⟨by rfl,?_⟩) ?_ ?_
             rotate_left
             ·intro w'
              go_simp
              with_reducible rfl
             rotate_left
             ·exact z19a
             refine take_ (i:=4) (N:=some 104) (v:=?_) (a':=?_) #[true,true,true,true,true,true,false,true,false,false,false,false] rfl rfl (take_ofW HT_.out HW_.out (by kernel_rfl)) (fun _ _ _ h=>h) (Or.inl ⟨by rfl,?_⟩) hHeld ?_ ?_
             rotate_left
             ·rintro w' ⟨s0,s1,s2,s3,s4,s5,s6,s7,s8,s9,s10,s11,s12,s13,s14,s15,s16,s17,s18,s19,s20,s21,s22,s23⟩
              go_simp
              with_reducible rfl
             rotate_left
             ·exact z19a
             refine take_ (i:=6) (N:=some 106) (v:=?_) (a':=?_) #[true,true,true,true,true,true,true,true,false,false,false,false] rfl rfl (take_ofW HT_.out HW_.out (by kernel_rfl)) (fun _ _ _ h=>h) (Or.inl ⟨by rfl,?_⟩) hHeld ?_ ?_
             rotate_left
             ·rintro w' ⟨s0,s1,s2,s3,s4,s5,s6,s7,s8,s9,s10,s11,s12,s13,s14,s15,s16,s17,s18,s19,s20,s21,s22,s23⟩
              go_simp
              with_reducible rfl
             rotate_left
             ·exact z19a
             refine pure_ (i:=8) (N:=some 108) (v:=?_) (a':=?_) #[true,true,true,true,true,true,true,true,true,false,false,false] rfl rfl (any_of HT_.out (by kernel_rfl)) (fun _ _ _ h=>h) (Or.inl ⟨by rfl,?_⟩) ?_ ?_
             rotate_left
             ·intro w'
              go_simp
              with_reducible rfl
             rotate_left
             ·exact z19a
             refine take_ (i:=9) (N:=some 109) (v:=?_) (a':=?_) #[true,true,true,true,true,true,true,true,true,true,false,false] rfl rfl (take_ofW HT_.out HW_.out (by kernel_rfl)) (fun _ _ _ h=>h) (Or.inl ⟨by rfl,?_⟩) hHeld ?_ ?_
             rotate_left
             ·rintro w' ⟨s0,s1,s2,s3,s4,s5,s6,s7,s8,s9,s10,s11,s12,s13,s14,s15,s16,s17,s18,s19,s20,s21,s22,s23⟩
              go_simp
              with_reducible rfl
             rotate_left
             ·exact z19a
             refine one_ (i:=10) (N:=some 110) #[true,true,true,true,true,true,true,true,true,true,true,false] rfl rfl (one_of HT_.out (by kernel_rfl)) (by decide) (fun K hK=>?_)
             refine goes_ Try.func104 (by kernel_rfl) rfl #[.agg #[.int .i64 ((rd_T34 qh qg).f0),.int .i64 ((rd_T34 qh qg).f1),.int .i64 ((rd_T34 qh qg).f2),.int .i64 ((rd_T34 qh qg).f3),.slice qdy ((rd_T34 qh qg).f4).length qdk],.agg #[.int .i64 ((rd_T34 ql qg).f0),.int .i64 ((rd_T34 ql qg).f1),.int .i64 ((rd_T34 ql qg).f2),.int .i64 ((rd_T34 ql qg).f3),.slice qdx ((rd_T34 ql qg).f4).length qdj]] (by rfl) rfl rfl z19x2 ?_
             with_reducible refine (laws_lbMsg.calls k4 ((rd_T34 qh qg).f0) ((rd_T34 qh qg).f1) ((rd_T34 qh qg).f2) ((rd_T34 qh qg).f3) _ _ ((rd_T34 qh qg).f4) ((rd_T34 ql qg).f0) ((rd_T34 ql qg).f1) ((rd_T34 ql qg).f2) ((rd_T34 ql qg).f3) _ _ ((rd_T34 ql qg).f4) false _ ?side1 ?side2 ?side3 ?side4 A74.out).mono ?_
             (case side1=>repeat (first|exact (Kd.C_below pp.out HB.out)|(with_reducible refine Kd.C_alloc ?_ _)|(with_reducible refine Kd.C_drewN ?_ _)|(with_reducible refine Kd.C_drew ?_)))
             (case side2=>exact qeq.out)
             (case side3=>repeat (first|exact (Kd.C_below po.out HB.out)|(with_reducible refine Kd.C_alloc ?_ _)|(with_reducible refine Kd.C_drewN ?_ _)|(with_reducible refine Kd.C_drew ?_)))
             (case side4=>exact qep.out)
             rintro e w83 ⟨rfl,hb⟩
             refine ⟨_,rfl,?_⟩
             have n0_:=Aside0.mk (blk_below (g:=qc) (o:=.cells #[.int .i64 qp,.int .i64 qq,.slice wd qn.length wb,.slice wl qf.length wa,.slice wk qi.length qz,.slice (some wt) qh.length qy,.int .i64 qo] 69 (0,0)) z19x4 hb)
             have n1_:=Aside0.mk (blk_below (g:=qd) (o:=.cells #[.int .i64 qu,.int .i64 qv,.slice vv qr.length vu,.slice uu qj.length vt,.slice ut qm.length vr,.slice (some ws) ql.length vq,.int .i64 qt] 69 (0,0)) z19x5 hb)
             have n2_:=Aside0.mk (below_step z19x0 hb)
             clear qa
             clear qb
             clear HB
             have qa:=n0_
             have qb:=n1_
             have HB:=n2_
             clear n0_ n1_ n2_
             (try clear hb)
             (try clear hb2)
             (try clear hk)
             (try clear hi)
             refine hK.out _ _ ⟨(blk_cell qa.out 0).trans rfl,(blk_cell qa.out 1).trans rfl,(blk_cell qa.out 2).trans rfl,(blk_cell qa.out 3).trans rfl,(blk_cell qa.out 4).trans rfl,(blk_cell qa.out 5).trans rfl,(blk_cell qa.out 6).trans rfl,(blk_cell qb.out 0).trans rfl,(blk_cell qb.out 1).trans rfl,(blk_cell qb.out 2).trans rfl,(blk_cell qb.out 3).trans rfl,(blk_cell qb.out 4).trans rfl,(blk_cell qb.out 5).trans rfl,(blk_cell qb.out 6).trans rfl,((HB.out.cell (World.block_lt_of_cell? w _ jn)).trans jn),((HB.out.cell (World.block_lt_of_cell? w _ jm)).trans jm),((HB.out.cell (World.block_lt_of_cell? w _ jl)).trans jl),((HB.out.cell (World.block_lt_of_cell? w _ jk)).trans jk),((HB.out.cell (World.block_lt_of_cell? w _ jj)).trans jj),((HB.out.cell (World.block_lt_of_cell? w _ ji)).trans ji),((HB.out.cell (World.block_lt_of_cell? w _ jh)).trans jh),((HB.out.cell (World.block_lt_of_cell? w _ jg)).trans jg),((HB.out.cell (World.block_lt_of_cell? w _ jf)).trans jf),((HB.out.cell (World.block_lt_of_cell? w _ je)).trans je)⟩ (fun hHeld=>?_)
             clear hK K
             refine norm_ (a':=?_) ?_ ?_
             rotate_left
             ·show Act.put _ (some 110) _ = _
              simp only [Act.put,List.setIfInBounds_toArray,List.set_cons_zero,List.set_cons_succ,i64_w,i32_w]
              rfl
             refine pure_ (i:=11) (N:=some 111) (v:=?_) (a':=?_) #[true,true,true,true,true,true,true,true,true,true,true,true] rfl rfl (any_of HT_.out (by kernel_rfl)) (fun _ _ _ h=>h) (Or.inl ⟨by rfl,?_⟩) ?_ ?_
             rotate_left
             ·intro w'
              go_simp
              with_reducible rfl
             rotate_left
             ·exact z19a
             refine done_ (done_of HT_.out (by kernel_rfl)) ?_
             try go_wp2
             go_ret
             exact ⟨by first|rfl|(simp [errW_none,errW_some] <;> rfl)|(simp [*,errW_none,errW_some] <;> rfl),by repeat (first|(with_reducible first|exact HB.out|apply below_alloc|apply pw_below_drewN|apply below_drew1|refine below_set ?_ ue.out|refine below_set ?_ uv.out)|exact HB.out)⟩
            subst c75
            rw [if_pos rfl] at H
            have H':=Aside0.mk H
            clear H
            have qts:=qx.out
            have qtd:=qw.out
            have qsy : wr.cell? ⟨qc,0,none⟩ = some (.int .i64 qp):=(blk_cell qa.out 0).trans rfl
            have qsx : wr.cell? ⟨qc,1,none⟩ = some (.int .i64 qq):=(blk_cell qa.out 1).trans rfl
            have qsw : wr.cell? ⟨qc,2,none⟩ = some (.slice wd qn.length wb):=(blk_cell qa.out 2).trans rfl
            have qsv : wr.cell? ⟨qc,3,none⟩ = some (.slice wl qf.length wa):=(blk_cell qa.out 3).trans rfl
            have qsu : wr.cell? ⟨qc,4,none⟩ = some (.slice wk qi.length qz):=(blk_cell qa.out 4).trans rfl
            have qst : wr.cell? ⟨qc,5,none⟩ = some (.slice wj qh.length qy):=(blk_cell qa.out 5).trans rfl
            have qss : wr.cell? ⟨qc,6,none⟩ = some (.int .i64 qo):=(blk_cell qa.out 6).trans rfl
            have qsd:=blk_frozen qa.out 0
            have qsc:=blk_frozen qa.out 1
            have qsb:=blk_frozen qa.out 2
            have qsa:=blk_frozen qa.out 3
            have qrz:=blk_frozen qa.out 4
            have qry:=blk_frozen qa.out 5
            have qrx:=blk_frozen qa.out 6
            try go_wp2
            have n0_:=Aside0.mk (blk_drew qa.out)
            have n1_:=Aside0.mk (blk_drew qb.out)
            have n2_:=Aside0.mk (below_drew1 HB.out)
            clear qa
            clear qb
            clear HB
            have qa:=n0_
            have qb:=n1_
            have HB:=n2_
            clear n0_ n1_ n2_
            have qfk : 0 ≤ (qg : Int):=of_decide_eq_true (by first|(with_reducible assumption)|assumption)
            have qfi : qg < (qh.length : Int):=of_decide_eq_true (by first|(with_reducible assumption)|assumption)
            obtain ⟨wt,qdy,qdk,qqt,uo,un,um,ul,uk,gm,pb⟩:=at_T34 qqp.out qg qfk qfi
            have jj:=uk
            have jk:=ul
            have jl:=um
            have jm:=un
            have jn:=uo
            cases qqt
            replace uo:=(HB.out.cell (World.block_lt_of_cell? w _ uo)).trans uo
            replace un:=(HB.out.cell (World.block_lt_of_cell? w _ un)).trans un
            replace um:=(HB.out.cell (World.block_lt_of_cell? w _ um)).trans um
            replace ul:=(HB.out.cell (World.block_lt_of_cell? w _ ul)).trans ul
            replace uk:=(HB.out.cell (World.block_lt_of_cell? w _ uk)).trans uk
            have pp:=Aside0.mk pb
            have qeq:=Aside0.mk gm
            clear pb gm
            replace qfk:=eq_true qfk
            replace qfi:=eq_true qfi
            have qfj : 0 ≤ (qg : Int):=of_decide_eq_true (by first|(with_reducible assumption)|assumption)
            have qfh : qg < (ql.length : Int):=of_decide_eq_true (by first|(with_reducible assumption)|assumption)
            obtain ⟨ws,qdx,qdj,qqs,uj,ui,uh,ug,uf,gl,pa⟩:=at_T34 qqm.out qg qfj qfh
            have je:=uf
            have jf:=ug
            have jg:=uh
            have jh:=ui
            have ji:=uj
            cases qqs
            replace uj:=(HB.out.cell (World.block_lt_of_cell? w _ uj)).trans uj
            replace ui:=(HB.out.cell (World.block_lt_of_cell? w _ ui)).trans ui
            replace uh:=(HB.out.cell (World.block_lt_of_cell? w _ uh)).trans uh
            replace ug:=(HB.out.cell (World.block_lt_of_cell? w _ ug)).trans ug
            replace uf:=(HB.out.cell (World.block_lt_of_cell? w _ uf)).trans uf
            have po:=Aside0.mk pa
            have qep:=Aside0.mk gl
            clear pa gl
            replace qfj:=eq_true qfj
            replace qfh:=eq_true qfh
            refine start_ (n:=12) (S:=fun w' => w'.cell? ⟨qc,0,none⟩ = some (.int .i64 qp) ∧ w'.cell? ⟨qc,1,none⟩ = some (.int .i64 qq) ∧ w'.cell? ⟨qc,2,none⟩ = some (.slice wd qn.length wb) ∧ w'.cell? ⟨qc,3,none⟩ = some (.slice wl qf.length wa) ∧ w'.cell? ⟨qc,4,none⟩ = some (.slice wk qi.length qz) ∧ w'.cell? ⟨qc,5,none⟩ = some (.slice (some wt) qh.length qy) ∧ w'.cell? ⟨qc,6,none⟩ = some (.int .i64 qo) ∧ w'.cell? ⟨qd,0,none⟩ = some (.int .i64 qu) ∧ w'.cell? ⟨qd,1,none⟩ = some (.int .i64 qv) ∧ w'.cell? ⟨qd,2,none⟩ = some (.slice vv qr.length vu) ∧ w'.cell? ⟨qd,3,none⟩ = some (.slice uu qj.length vt) ∧ w'.cell? ⟨qd,4,none⟩ = some (.slice ut qm.length vr) ∧ w'.cell? ⟨qd,5,none⟩ = some (.slice (some ws) ql.length vq) ∧ w'.cell? ⟨qd,6,none⟩ = some (.int .i64 qt) ∧ w'.cell? (wt.add ((qg).toNat * 5)) = some (.int .i64 ((rd_T34 qh qg).f0)) ∧ w'.cell? ⟨(wt.add ((qg).toNat * 5)).block,(wt.add ((qg).toNat * 5)).off + 1,none⟩ = some (.int .i64 ((rd_T34 qh qg).f1)) ∧ w'.cell? ⟨(wt.add ((qg).toNat * 5)).block,(wt.add ((qg).toNat * 5)).off + 2,none⟩ = some (.int .i64 ((rd_T34 qh qg).f2)) ∧ w'.cell? ⟨(wt.add ((qg).toNat * 5)).block,(wt.add ((qg).toNat * 5)).off + 3,none⟩ = some (.int .i64 ((rd_T34 qh qg).f3)) ∧ w'.cell? ⟨(wt.add ((qg).toNat * 5)).block,(wt.add ((qg).toNat * 5)).off + 4,none⟩ = some (.slice qdy ((rd_T34 qh qg).f4).length qdk) ∧ w'.cell? (ws.add ((qg).toNat * 5)) = some (.int .i64 ((rd_T34 ql qg).f0)) ∧ w'.cell? ⟨(ws.add ((qg).toNat * 5)).block,(ws.add ((qg).toNat * 5)).off + 1,none⟩ = some (.int .i64 ((rd_T34 ql qg).f1)) ∧ w'.cell? ⟨(ws.add ((qg).toNat * 5)).block,(ws.add ((qg).toNat * 5)).off + 2,none⟩ = some (.int .i64 ((rd_T34 ql qg).f2)) ∧ w'.cell? ⟨(ws.add ((qg).toNat * 5)).block,(ws.add ((qg).toNat * 5)).off + 3,none⟩ = some (.int .i64 ((rd_T34 ql qg).f3)) ∧ w'.cell? ⟨(ws.add ((qg).toNat * 5)).block,(ws.add ((qg).toNat * 5)).off + 4,none⟩ = some (.slice qdx ((rd_T34 ql qg).f4).length qdj)) (ds:=[]) #[false,false,false,false,false,false,false,false,false,false,false,false] (by kernel_rfl) rfl rfl ⟨(blk_cell qa.out 0).trans rfl,(blk_cell qa.out 1).trans rfl,(blk_cell qa.out 2).trans rfl,(blk_cell qa.out 3).trans rfl,(blk_cell qa.out 4).trans rfl,(blk_cell qa.out 5).trans rfl,(blk_cell qa.out 6).trans rfl,(blk_cell qb.out 0).trans rfl,(blk_cell qb.out 1).trans rfl,(blk_cell qb.out 2).trans rfl,(blk_cell qb.out 3).trans rfl,(blk_cell qb.out 4).trans rfl,(blk_cell qb.out 5).trans rfl,(blk_cell qb.out 6).trans rfl,((HB.out.cell (World.block_lt_of_cell? w _ jn)).trans jn),((HB.out.cell (World.block_lt_of_cell? w _ jm)).trans jm),((HB.out.cell (World.block_lt_of_cell? w _ jl)).trans jl),((HB.out.cell (World.block_lt_of_cell? w _ jk)).trans jk),((HB.out.cell (World.block_lt_of_cell? w _ jj)).trans jj),((HB.out.cell (World.block_lt_of_cell? w _ ji)).trans ji),((HB.out.cell (World.block_lt_of_cell? w _ jh)).trans jh),((HB.out.cell (World.block_lt_of_cell? w _ jg)).trans jg),((HB.out.cell (World.block_lt_of_cell? w _ jf)).trans jf),((HB.out.cell (World.block_lt_of_cell? w _ je)).trans je)⟩ (fun hHeld=>?_);refine with_tabW laws_lbWorld.tab16 laws_lbWorld.bits16 (fun HT_ HW_=>?_)
            generalize wr.drew = w78 at qa qb HB pp po uo un um ul uk uj ui uh ug uf hHeld ⊢
            refine pure_ (i:=0) (N:=some 100) (v:=?_) (a':=?_) #[true,false,false,false,false,false,false,false,false,false,false,false] rfl rfl (any_of HT_.out (by kernel_rfl)) (fun _ _ _ h=>h) (Or.inl ⟨by rfl,?_⟩) ?_ ?_
            rotate_left
            ·intro w'
             go_simp
             with_reducible rfl
            rotate_left
            ·exact z19a
            refine pure_ (i:=2) (N:=some 102) (v:=?_) (a':=?_) #[true,false,true,false,false,false,false,false,false,false,false,false] rfl rfl (any_of HT_.out (by kernel_rfl)) (fun _ _ _ h=>h) (Or.inl ⟨by rfl,?_⟩) ?_ ?_
            rotate_left
            ·intro w'
             go_simp
             with_reducible rfl
            rotate_left
            ·exact z19a
            refine pure_ (i:=5) (N:=some 105) (v:=?_) (a':=?_) #[true,false,true,false,false,true,false,false,false,false,false,false] rfl rfl (any_of HT_.out (by kernel_rfl)) (fun _ _ _ h=>h) (Or.inl ⟨by rfl,?_⟩) ?_ ?_
            rotate_left
            ·intro w'
             go_simp
             with_reducible rfl
            rotate_left
            ·exact z19a
            refine pure_ (i:=7) (N:=some 107) (v:=?_) (a':=?_) #[true,false,true,false,false,true,false,true,false,false,false,false] rfl rfl (any_of HT_.out (by kernel_rfl)) (fun _ _ _ h=>h) (Or.inl ⟨by rfl,?_⟩) ?_ ?_
            rotate_left
            ·intro w'
             go_simp
             with_reducible rfl
            rotate_left
            ·exact z19a
            refine take_ (i:=1) (N:=some 101) (v:=?_) (a':=?_) #[true,true,true,false,false,true,false,true,false,false,false,false] rfl rfl (take_ofW HT_.out HW_.out (by kernel_rfl)) (fun _ _ _ h=>h) (Or.inl ⟨by rfl,?_⟩) hHeld ?_ ?_
            rotate_left
            ·rintro w' ⟨s0,s1,s2,s3,s4,s5,s6,s7,s8,s9,s10,s11,s12,s13,s14,s15,s16,s17,s18,s19,s20,s21,s22,s23⟩
             go_simp
             with_reducible rfl
            rotate_left
            ·exact z19a
            refine pure_ (i:=3) (N:=some 103) (v:=?_) (a':=?_) #[true,true,true,true,false,true,false,true,false,false,false,false] rfl rfl (any_of HT_.out (by kernel_rfl)) (fun _ _ _ h=>h) (Or.inl ⟨by rfl,?_⟩) ?_ ?_
            rotate_left
            ·intro w'
             go_simp
             with_reducible rfl
            rotate_left
            ·exact z19a
            refine take_ (i:=4) (N:=some 104) (v:=?_) (a':=?_) #[true,true,true,true,true,true,false,true,false,false,false,false] rfl rfl (take_ofW HT_.out HW_.out (by kernel_rfl)) (fun _ _ _ h=>h) (Or.inl ⟨by rfl,?_⟩) hHeld ?_ ?_
            rotate_left
            ·rintro w' ⟨s0,s1,s2,s3,s4,s5,s6,s7,s8,s9,s10,s11,s12,s13,s14,s15,s16,s17,s18,s19,s20,s21,s22,s23⟩
             go_simp
             with_reducible rfl
            rotate_left
            ·exact z19a
            refine take_ (i:=6) (N:=some 106) (v:=?_) (a':=?_) #[true,true,true,true,true,true,true,true,false,false,false,false] rfl rfl (take_ofW HT_.out HW_.out (by kernel_rfl)) (fun _ _ _ h=>h) (Or.inl ⟨by rfl,?_⟩) hHeld ?_ ?_
            rotate_left
            ·rintro w' ⟨s0,s1,s2,s3,s4,s5,s6,s7,s8,s9,s10,s11,s12,s13,s14,s15,s16,s17,s18,s19,s20,s21,s22,s23⟩
             go_simp
             with_reducible rfl
            rotate_left
            ·exact z19a
            refine pure_ (i:=8) (N:=some 108) (v:=?_) (a':=?_) #[true,true,true,true,true,true,true,true,true,false,false,false] rfl rfl (any_of HT_.out (by kernel_rfl)) (fun _ _ _ h=>h) (Or.inl ⟨by rfl,?_⟩) ?_ ?_
            rotate_left
            ·intro w'
             go_simp
             with_reducible rfl
            rotate_left
            ·exact z19a
            refine take_ (i:=9) (N:=some 109) (v:=?_) (a':=?_) #[true,true,true,true,true,true,true,true,true,true,false,false] rfl rfl (take_ofW HT_.out HW_.out (by kernel_rfl)) (fun _ _ _ h=>h) (Or.inl ⟨by rfl,?_⟩) hHeld ?_ ?_
            rotate_left
            ·rintro w' ⟨s0,s1,s2,s3,s4,s5,s6,s7,s8,s9,s10,s11,s12,s13,s14,s15,s16,s17,s18,s19,s20,s21,s22,s23⟩
             go_simp
             with_reducible rfl
            rotate_left
            ·exact z19a
            refine one_ (i:=10) (N:=some 110) #[true,true,true,true,true,true,true,true,true,true,true,false] rfl rfl (one_of HT_.out (by kernel_rfl)) (by decide) (fun K hK=>?_)
            refine goes_ Try.func104 (by kernel_rfl) rfl #[.agg #[.int .i64 ((rd_T34 qh qg).f0),.int .i64 ((rd_T34 qh qg).f1),.int .i64 ((rd_T34 qh qg).f2),.int .i64 ((rd_T34 qh qg).f3),.slice qdy ((rd_T34 qh qg).f4).length qdk],.agg #[.int .i64 ((rd_T34 ql qg).f0),.int .i64 ((rd_T34 ql qg).f1),.int .i64 ((rd_T34 ql qg).f2),.int .i64 ((rd_T34 ql qg).f3),.slice qdx ((rd_T34 ql qg).f4).length qdj]] (by rfl) rfl rfl z19x2 ?_
            with_reducible refine (laws_lbMsg.calls k4 ((rd_T34 qh qg).f0) ((rd_T34 qh qg).f1) ((rd_T34 qh qg).f2) ((rd_T34 qh qg).f3) _ _ ((rd_T34 qh qg).f4) ((rd_T34 ql qg).f0) ((rd_T34 ql qg).f1) ((rd_T34 ql qg).f2) ((rd_T34 ql qg).f3) _ _ ((rd_T34 ql qg).f4) true _ ?side1 ?side2 ?side3 ?side4 A74.out).mono ?_
            (case side1=>repeat (first|exact (Kd.C_below pp.out HB.out)|(with_reducible refine Kd.C_alloc ?_ _)|(with_reducible refine Kd.C_drewN ?_ _)|(with_reducible refine Kd.C_drew ?_)))
            (case side2=>exact qeq.out)
            (case side3=>repeat (first|exact (Kd.C_below po.out HB.out)|(with_reducible refine Kd.C_alloc ?_ _)|(with_reducible refine Kd.C_drewN ?_ _)|(with_reducible refine Kd.C_drew ?_)))
            (case side4=>exact qep.out)
            rintro e w79 ⟨rfl,hb⟩
            refine ⟨_,rfl,?_⟩
            have n0_:=Aside0.mk (blk_below (g:=qc) (o:=.cells #[.int .i64 qp,.int .i64 qq,.slice wd qn.length wb,.slice wl qf.length wa,.slice wk qi.length qz,.slice (some wt) qh.length qy,.int .i64 qo] 69 (0,0)) z19x4 hb)
            have n1_:=Aside0.mk (blk_below (g:=qd) (o:=.cells #[.int .i64 qu,.int .i64 qv,.slice vv qr.length vu,.slice uu qj.length vt,.slice ut qm.length vr,.slice (some ws) ql.length vq,.int .i64 qt] 69 (0,0)) z19x5 hb)
            have n2_:=Aside0.mk (below_step z19x0 hb)
            clear qa
            clear qb
            clear HB
            have qa:=n0_
            have qb:=n1_
            have HB:=n2_
            clear n0_ n1_ n2_
            (try clear hb)
            (try clear hb2)
            (try clear hk)
            (try clear hi)
            refine hK.out _ _ ⟨(blk_cell qa.out 0).trans rfl,(blk_cell qa.out 1).trans rfl,(blk_cell qa.out 2).trans rfl,(blk_cell qa.out 3).trans rfl,(blk_cell qa.out 4).trans rfl,(blk_cell qa.out 5).trans rfl,(blk_cell qa.out 6).trans rfl,(blk_cell qb.out 0).trans rfl,(blk_cell qb.out 1).trans rfl,(blk_cell qb.out 2).trans rfl,(blk_cell qb.out 3).trans rfl,(blk_cell qb.out 4).trans rfl,(blk_cell qb.out 5).trans rfl,(blk_cell qb.out 6).trans rfl,((HB.out.cell (World.block_lt_of_cell? w _ jn)).trans jn),((HB.out.cell (World.block_lt_of_cell? w _ jm)).trans jm),((HB.out.cell (World.block_lt_of_cell? w _ jl)).trans jl),((HB.out.cell (World.block_lt_of_cell? w _ jk)).trans jk),((HB.out.cell (World.block_lt_of_cell? w _ jj)).trans jj),((HB.out.cell (World.block_lt_of_cell? w _ ji)).trans ji),((HB.out.cell (World.block_lt_of_cell? w _ jh)).trans jh),((HB.out.cell (World.block_lt_of_cell? w _ jg)).trans jg),((HB.out.cell (World.block_lt_of_cell? w _ jf)).trans jf),((HB.out.cell (World.block_lt_of_cell? w _ je)).trans je)⟩ (fun hHeld=>?_)
            clear hK K
            refine norm_ (a':=?_) ?_ ?_
            rotate_left
            ·show Act.put _ (some 110) _ = _
             simp only [Act.put,List.setIfInBounds_toArray,List.set_cons_zero,List.set_cons_succ,i64_w,i32_w]
             rfl
            refine pure_ (i:=11) (N:=some 111) (v:=?_) (a':=?_) #[true,true,true,true,true,true,true,true,true,true,true,true] rfl rfl (any_of HT_.out (by kernel_rfl)) (fun _ _ _ h=>h) (Or.inl ⟨by rfl,?_⟩) ?_ ?_
            rotate_left
            ·intro w'
             go_simp
             with_reducible rfl
            rotate_left
            ·exact z19a
            refine done_ (done_of HT_.out (by kernel_rfl)) ?_
            try go_wp2
            go_roundg k4
            case measure=>have:=HJ2.out;have:=HK2.out;have:=HK3.out;have:=HK4.out;omega
            case rel=>exact ⟨(wrap64 (qg + 1)),(by first|rfl|(simp;done)|(simp [*];done)),H',⟨by have:=HJ2.out;have:=HK2.out;have:=HK3.out;have:=HK4.out;omega⟩,⟨by (with_reducible repeat (first|refine blk_drewN ?_ _|refine blk_drew ?_|refine blk_alloc ?_ _));exact qa.out⟩,⟨by (with_reducible repeat (first|refine blk_drewN ?_ _|refine blk_drew ?_|refine blk_alloc ?_ _));exact qb.out⟩,⟨by repeat (first|(with_reducible first|exact HB.out|apply below_alloc|apply pw_below_drewN|apply below_drew1|refine below_set ?_ ue.out|refine below_set ?_ uv.out)|exact HB.out)⟩⟩

end Go.Proofs.Ytbipicjijbnbbaa.Hp
