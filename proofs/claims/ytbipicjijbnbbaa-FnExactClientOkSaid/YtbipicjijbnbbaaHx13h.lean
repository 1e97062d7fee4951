-- hp.py
import Derived.Test.YtbipicjijbnbbaaHx0
import Derived.Test.YtbipicjijbnbbaaHx8
import Derived.Test.YtbipicjijbnbbaaHx9
import Derived.Test.YtbipicjijbnbbaaHx10
import Derived.Test.YtbipicjijbnbbaaHx11
import Derived.Test.YtbipicjijbnbbaaHx12
namespace Go.Proofs.Ytbipicjijbnbbaa.Hp
open Go.RowKit Go.Proofs.YtbipicjijbnbbaaW.PrintWords Go.Proofs.YtbipicjijbnbbaaW.PrintLast Go.Proofs.YtbipicjijbnbbaaW.PrintMore
attribute [local go_sem] max2_int min2_int max_two min_two max_three min_three max_four min_four   -- for this text's walks alone
set_option linter.unusedVariables false
set_option linter.unusedSimpArgs false
-- squeezed by wip/tools/squeeze.py

/-! ### spec_ClientOk: function 48 -/
mutual
def spec_ClientOk.j0 : Nat → Bool → Int → Int → List (S104) → List (S106) → List (S113) → List (S113) → Option (Bool)
 | 0,_,_,_,_,_,_,_=>none
 | k + 1,x18,ud,vw,wz,wa,wh,we=>if x18 = true then (some false) else (spec_ClientOk.l0 k 0 ud vw wz wa wh we)
def spec_ClientOk.l0 : Nat → Int → Int → Int → List (S104) → List (S106) → List (S113) → List (S113) → Option (Bool)
 | 0,_,_,_,_,_,_,_=>none
 | k + 1,x3,ud,vw,wz,wa,wh,we=>if x3 < (wz.length : Int) then (if 0 ≤ x3 then ((spec_l6In.f ((rd_T104 wz x3).f0) 4 6).bind fun qgf=>(if qgf = true then ((spec_l6In.f ((rd_T104 wz x3).f1) 1 vw).bind fun qbc=>(if qbc = true then (if x3 > 0 then (if 0 ≤ (wrap64 (x3 - 1)) then (if (wrap64 (x3 - 1)) < (wz.length : Int) then (if ((rd_T104 wz (wrap64 (x3 - 1))).f1) ≥ ((rd_T104 wz x3).f1) then (some false) else (spec_ClientOk.l0 k (wrap64 (x3 + 1)) ud vw wz wa wh we)) else (none)) else (none)) else (spec_ClientOk.l0 k (wrap64 (x3 + 1)) ud vw wz wa wh we)) else (some false))) else (some false))) else (none)) else (spec_ClientOk.l1 k 0 ud vw wz wa wh we)
def spec_ClientOk.l1 : Nat → Int → Int → Int → List (S104) → List (S106) → List (S113) → List (S113) → Option (Bool)
 | 0,_,_,_,_,_,_,_=>none
 | k + 1,x5,ud,vw,wz,wa,wh,we=>if x5 < (wa.length : Int) then (if 0 ≤ x5 then ((spec_l6In.f ((rd_T106 wa x5).f0) 4 6).bind fun qge=>(if qge = true then ((spec_l12Cred.f k ud vw wz wa wh we ((rd_T106 wa x5).f0)).bind fun jw=>(if jw = x5 then ((spec_l1Session.f ((rd_T106 wa x5).f1)).bind fun gp=>(if gp = true then ((spec_l1Time.f ((rd_T106 wa x5).f2)).bind fun gh=>(if gh = true then ((spec_SealOk.f ((rd_T106 wa x5).f3.f0) ((rd_T106 wa x5).f3.f1) ((rd_T106 wa x5).f3.f2) ((rd_T106 wa x5).f3.f3) ((rd_T106 wa x5).f3.f4) ((rd_T106 wa x5).f3.f5) ((rd_T106 wa x5).f3.f6)).bind fun jy=>(if jy = true then (spec_ClientOk.l1 k (wrap64 (x5 + 1)) ud vw wz wa wh we) else (some false))) else (some false))) else (some false))) else (some false))) else (some false))) else (none)) else (spec_ClientOk.l2 k 0 ud vw wz wa wh we)
def spec_ClientOk.l2 : Nat → Int → Int → Int → List (S104) → List (S106) → List (S113) → List (S113) → Option (Bool)
 | 0,_,_,_,_,_,_,_=>none
 | k + 1,x7,ud,vw,wz,wa,wh,we=>if x7 < (wh.length : Int) then (if 0 ≤ x7 then ((spec_l12Call.f ((rd_T113 wh x7).f0) ((rd_T113 wh x7).f1) ((rd_T113 wh x7).f2) ((rd_T113 wh x7).f3) vw).bind fun qgd=>(if qgd = true then (if x7 > 0 then (if 0 ≤ (wrap64 (x7 - 1)) then (if (wrap64 (x7 - 1)) < (wh.length : Int) then (if ((rd_T113 wh (wrap64 (x7 - 1))).f3) ≥ ((rd_T113 wh x7).f3) then (some false) else (spec_ClientOk.l2 k (wrap64 (x7 + 1)) ud vw wz wa wh we)) else (none)) else (none)) else (spec_ClientOk.l2 k (wrap64 (x7 + 1)) ud vw wz wa wh we)) else (some false))) else (none)) else (spec_ClientOk.l3 k 0 ud vw wz wa wh we)
def spec_ClientOk.l3 : Nat → Int → Int → Int → List (S104) → List (S106) → List (S113) → List (S113) → Option (Bool)
 | 0,_,_,_,_,_,_,_=>none
 | k + 1,x8,ud,vw,wz,wa,wh,we=>if x8 < (we.length : Int) then (if 0 ≤ x8 then ((spec_l12Called.f k wh ((rd_T113 we x8).f0) ((rd_T113 we x8).f1) ((rd_T113 we x8).f2) ((rd_T113 we x8).f3)).bind fun qgc=>(if qgc = true then (if x8 ≤ (we.length : Int) then ((spec_l12Called.f k (we.take (x8 : Int).toNat) ((rd_T113 we x8).f0) ((rd_T113 we x8).f1) ((rd_T113 we x8).f2) ((rd_T113 we x8).f3)).bind fun gn=>(if gn = true then (some false) else (spec_ClientOk.l3 k (wrap64 (x8 + 1)) ud vw wz wa wh we))) else (none)) else (some false))) else (none)) else (some true)
end
def spec_ClientOk.f (k : Nat) (qp : Int) (ql : Int) (qf : List (S104)) (qc : List (S106)) (qg : List (S113)) (qh : List (S113)) : Option (Bool):=(spec_l1User.f qp).bind fun qbd=>(if qbd = true then ((spec_l6In.f ql 0 60).bind fun gl=>(spec_ClientOk.j0 k (!gl) qp ql qf qc qg qh)) else (spec_ClientOk.j0 k true qp ql qf qc qg qh))
theorem spec_ClientOk.mono_l : ∀ k,(∀ y0 y1 y2 y3 y4 y5 y6,LeO (spec_ClientOk.j0 k y0 y1 y2 y3 y4 y5 y6) (spec_ClientOk.j0 (k + 1) y0 y1 y2 y3 y4 y5 y6)) ∧ (∀ y0 y1 y2 y3 y4 y5 y6,LeO (spec_ClientOk.l0 k y0 y1 y2 y3 y4 y5 y6) (spec_ClientOk.l0 (k + 1) y0 y1 y2 y3 y4 y5 y6)) ∧ (∀ y0 y1 y2 y3 y4 y5 y6,LeO (spec_ClientOk.l1 k y0 y1 y2 y3 y4 y5 y6) (spec_ClientOk.l1 (k + 1) y0 y1 y2 y3 y4 y5 y6)) ∧ (∀ y0 y1 y2 y3 y4 y5 y6,LeO (spec_ClientOk.l2 k y0 y1 y2 y3 y4 y5 y6) (spec_ClientOk.l2 (k + 1) y0 y1 y2 y3 y4 y5 y6)) ∧ (∀ y0 y1 y2 y3 y4 y5 y6,LeO (spec_ClientOk.l3 k y0 y1 y2 y3 y4 y5 y6) (spec_ClientOk.l3 (k + 1) y0 y1 y2 y3 y4 y5 y6))
 | 0=>⟨fun _ _ _ _ _ _ _ r h=>by simp [spec_ClientOk.j0] at h,fun _ _ _ _ _ _ _ r h=>by simp [spec_ClientOk.l0] at h,fun _ _ _ _ _ _ _ r h=>by simp [spec_ClientOk.l1] at h,fun _ _ _ _ _ _ _ r h=>by simp [spec_ClientOk.l2] at h,fun _ _ _ _ _ _ _ r h=>by simp [spec_ClientOk.l3] at h⟩
 | k + 1=>by
  obtain ⟨ih0,ih1,ih2,ih3,ih4⟩:=spec_ClientOk.mono_l k
  refine ⟨?_,?_,?_,?_,?_⟩
  ·intro y0 y1 y2 y3 y4 y5 y6
   unfold spec_ClientOk.j0
   repeat' first
   | (with_reducible exact ih0 _ _ _ _ _ _ _)
   | (with_reducible exact ih1 _ _ _ _ _ _ _)
   | (with_reducible exact ih2 _ _ _ _ _ _ _)
   | (with_reducible exact ih3 _ _ _ _ _ _ _)
   | (with_reducible exact ih4 _ _ _ _ _ _ _)
   | (with_reducible exact spec_l12Called.mono _ _ _ _ _ _)
   | (with_reducible exact spec_l12Cred.mono _ _ _ _ _ _ _ _)
   | (with_reducible exact LeO.refl _)
   | (with_reducible exact LeO.none _)
   | (with_reducible refine LeO.ite ?_ ?_)
   | (with_reducible refine LeO.bind ?_ (fun _=>?_))
   | exact ih0 _ _ _ _ _ _ _
   | exact ih1 _ _ _ _ _ _ _
   | exact ih2 _ _ _ _ _ _ _
   | exact ih3 _ _ _ _ _ _ _
   | exact ih4 _ _ _ _ _ _ _
   | exact spec_l12Called.mono _ _ _ _ _ _
   | exact spec_l12Cred.mono _ _ _ _ _ _ _ _
   | exact LeO.none _
   | refine LeO.ite ?_ ?_
   | refine LeO.bind ?_ (fun _=>?_)
  ·intro y0 y1 y2 y3 y4 y5 y6
   unfold spec_ClientOk.l0
   repeat' first
   | (with_reducible exact ih0 _ _ _ _ _ _ _)
   | (with_reducible exact ih1 _ _ _ _ _ _ _)
   | (with_reducible exact ih2 _ _ _ _ _ _ _)
   | (with_reducible exact ih3 _ _ _ _ _ _ _)
   | (with_reducible exact ih4 _ _ _ _ _ _ _)
   | (with_reducible exact spec_l12Called.mono _ _ _ _ _ _)
   | (with_reducible exact spec_l12Cred.mono _ _ _ _ _ _ _ _)
   | (with_reducible exact LeO.refl _)
   | (with_reducible exact LeO.none _)
   | (with_reducible refine LeO.ite ?_ ?_)
   | (with_reducible refine LeO.bind ?_ (fun _=>?_))
   | exact ih0 _ _ _ _ _ _ _
   | exact ih1 _ _ _ _ _ _ _
   | exact ih2 _ _ _ _ _ _ _
   | exact ih3 _ _ _ _ _ _ _
   | exact ih4 _ _ _ _ _ _ _
   | exact spec_l12Called.mono _ _ _ _ _ _
   | exact spec_l12Cred.mono _ _ _ _ _ _ _ _
   | exact LeO.none _
   | refine LeO.ite ?_ ?_
   | refine LeO.bind ?_ (fun _=>?_)
  ·intro y0 y1 y2 y3 y4 y5 y6
   unfold spec_ClientOk.l1
   repeat' first
   | (with_reducible exact ih0 _ _ _ _ _ _ _)
   | (with_reducible exact ih1 _ _ _ _ _ _ _)
   | (with_reducible exact ih2 _ _ _ _ _ _ _)
   | (with_reducible exact ih3 _ _ _ _ _ _ _)
   | (with_reducible exact ih4 _ _ _ _ _ _ _)
   | (with_reducible exact spec_l12Called.mono _ _ _ _ _ _)
   | (with_reducible exact spec_l12Cred.mono _ _ _ _ _ _ _ _)
   | (with_reducible exact LeO.refl _)
   | (with_reducible exact LeO.none _)
   | (with_reducible refine LeO.ite ?_ ?_)
   | (with_reducible refine LeO.bind ?_ (fun _=>?_))
   | exact ih0 _ _ _ _ _ _ _
   | exact ih1 _ _ _ _ _ _ _
   | exact ih2 _ _ _ _ _ _ _
   | exact ih3 _ _ _ _ _ _ _
   | exact ih4 _ _ _ _ _ _ _
   | exact spec_l12Called.mono _ _ _ _ _ _
   | exact spec_l12Cred.mono _ _ _ _ _ _ _ _
   | exact LeO.none _
   | refine LeO.ite ?_ ?_
   | refine LeO.bind ?_ (fun _=>?_)
  ·intro y0 y1 y2 y3 y4 y5 y6
   unfold spec_ClientOk.l2
   repeat' first
   | (with_reducible exact ih0 _ _ _ _ _ _ _)
   | (with_reducible exact ih1 _ _ _ _ _ _ _)
   | (with_reducible exact ih2 _ _ _ _ _ _ _)
   | (with_reducible exact ih3 _ _ _ _ _ _ _)
   | (with_reducible exact ih4 _ _ _ _ _ _ _)
   | (with_reducible exact spec_l12Called.mono _ _ _ _ _ _)
   | (with_reducible exact spec_l12Cred.mono _ _ _ _ _ _ _ _)
   | (with_reducible exact LeO.refl _)
   | (with_reducible exact LeO.none _)
   | (with_reducible refine LeO.ite ?_ ?_)
   | (with_reducible refine LeO.bind ?_ (fun _=>?_))
   | exact ih0 _ _ _ _ _ _ _
   | exact ih1 _ _ _ _ _ _ _
   | exact ih2 _ _ _ _ _ _ _
   | exact ih3 _ _ _ _ _ _ _
   | exact ih4 _ _ _ _ _ _ _
   | exact spec_l12Called.mono _ _ _ _ _ _
   | exact spec_l12Cred.mono _ _ _ _ _ _ _ _
   | exact LeO.none _
   | refine LeO.ite ?_ ?_
   | refine LeO.bind ?_ (fun _=>?_)
  ·intro y0 y1 y2 y3 y4 y5 y6
   unfold spec_ClientOk.l3
   repeat' first
   | (with_reducible exact ih0 _ _ _ _ _ _ _)
   | (with_reducible exact ih1 _ _ _ _ _ _ _)
   | (with_reducible exact ih2 _ _ _ _ _ _ _)
   | (with_reducible exact ih3 _ _ _ _ _ _ _)
   | (with_reducible exact ih4 _ _ _ _ _ _ _)
   | (with_reducible exact spec_l12Called.mono _ _ _ _ _ _)
   | (with_reducible exact spec_l12Cred.mono _ _ _ _ _ _ _ _)
   | (with_reducible exact LeO.refl _)
   | (with_reducible exact LeO.none _)
   | (with_reducible refine LeO.ite ?_ ?_)
   | (with_reducible refine LeO.bind ?_ (fun _=>?_))
   | exact ih0 _ _ _ _ _ _ _
   | exact ih1 _ _ _ _ _ _ _
   | exact ih2 _ _ _ _ _ _ _
   | exact ih3 _ _ _ _ _ _ _
   | exact ih4 _ _ _ _ _ _ _
   | exact spec_l12Called.mono _ _ _ _ _ _
   | exact spec_l12Cred.mono _ _ _ _ _ _ _ _
   | exact LeO.none _
   | refine LeO.ite ?_ ?_
   | refine LeO.bind ?_ (fun _=>?_)
theorem spec_ClientOk.mono : ∀ a0 a1 a2 a3 a4 a5 k,LeO (spec_ClientOk.f k a0 a1 a2 a3 a4 a5) (spec_ClientOk.f (k + 1) a0 a1 a2 a3 a4 a5):=by
 intro a0 a1 a2 a3 a4 a5 k
 obtain ⟨ih0,ih1,ih2,ih3,ih4⟩:=spec_ClientOk.mono_l k
 unfold spec_ClientOk.f
 repeat' first
   | (with_reducible exact ih0 _ _ _ _ _ _ _)
   | (with_reducible exact ih1 _ _ _ _ _ _ _)
   | (with_reducible exact ih2 _ _ _ _ _ _ _)
   | (with_reducible exact ih3 _ _ _ _ _ _ _)
   | (with_reducible exact ih4 _ _ _ _ _ _ _)
   | (with_reducible exact spec_l12Called.mono _ _ _ _ _ _)
   | (with_reducible exact spec_l12Cred.mono _ _ _ _ _ _ _ _)
   | (with_reducible exact LeO.refl _)
   | (with_reducible exact LeO.none _)
   | (with_reducible refine LeO.ite ?_ ?_)
   | (with_reducible refine LeO.bind ?_ (fun _=>?_))
   | exact ih0 _ _ _ _ _ _ _
   | exact ih1 _ _ _ _ _ _ _
   | exact ih2 _ _ _ _ _ _ _
   | exact ih3 _ _ _ _ _ _ _
   | exact ih4 _ _ _ _ _ _ _
   | exact spec_l12Called.mono _ _ _ _ _ _
   | exact spec_l12Cred.mono _ _ _ _ _ _ _ _
   | exact LeO.none _
   | refine LeO.ite ?_ ?_
   | refine LeO.bind ?_ (fun _=>?_)
def spec_ClientOk.T7 : Bool × List (List Nat × List Nat):=(true,[([],[]),([0],[0]),([1],[1]),([2],[2]),([3,2],[3]),([4],[4]),([5,4],[4,5]),([4],[4]),([7,4],[4,7]),([6,8,4,4],[4,6,8]),([9,4],[4,9]),([4,10],[4,10]),([11,9],[11]),([12],[12]),([13,12],[12,13]),([14,12,12],[12,14]),([15],[15]),([16,15],[15,16]),([15],[15]),([18,15],[15,18]),([17,19,15],[15,17,19]),([20,15],[15,20]),([21,15],[15,21]),([15],[15]),([23,15],[15,23]),([22,24,15],[15,22,24]),([15,25,12],[12,15,25]),([12,26],[12,26])])
def spec_ClientOk.B7 : List Nat:=[0,1,3,7,15,31,63,31,159,511,1023,2047,4095,8191,16383,32767,65535,131071,65535,327679,1048575,2097151,4194303,65535,8454143,33554431,67108863,134217727]
theorem spec_ClientOk.tab7 : rtab .any (opsOf Try.f48 7) = spec_ClientOk.T7:=by kernel_rfl
theorem spec_ClientOk.bits7 : waitsOk spec_ClientOk.T7.2 spec_ClientOk.B7 = true:=by kernel_rfl
def spec_ClientOk.T18 : Bool × List (List Nat × List Nat):=(true,[([],[]),([0],[0]),([],[]),([1,2],[1,2]),([3],[3]),([],[]),([5],[5]),([4,6],[4,6]),([7],[7]),([8,7],[8]),([9],[9]),([10,9],[9,10]),([11,9,9],[9,11]),([12],[12]),([13,12],[12,13]),([12],[12]),([15,12],[12,15]),([14,16,12],[12,14,16]),([17,12],[12,17]),([18,12],[12,18]),([12],[12]),([20,12],[12,20]),([12],[12]),([21,22,12],[12,21,22]),([23,12],[12,23]),([24,12],[12,24]),([19,25,12],[12,19,25]),([12,26,9],[9,12,26]),([9,27],[9,27])])
def spec_ClientOk.B18 : List Nat:=[0,1,0,7,15,0,32,127,255,511,1023,2047,4095,8191,16383,8191,40959,131071,262143,524287,8191,1056767,8191,7348223,15736831,32514047,67108863,134217727,268435455]
theorem spec_ClientOk.tab18 : rtab .any (opsOf Try.f48 18) = spec_ClientOk.T18:=by kernel_rfl
theorem spec_ClientOk.bits18 : waitsOk spec_ClientOk.T18.2 spec_ClientOk.B18 = true:=by kernel_rfl
def spec_ClientOk.T23 : Bool × List (List Nat × List Nat):=(true,[([],[]),([0],[0]),([],[]),([2],[2]),([],[]),([3,4],[3,4]),([5],[5]),([1,6],[1,6]),([7],[7]),([8,7],[8]),([9],[9]),([10,9],[9,10]),([9],[9]),([11,12,9],[9,11,12]),([9],[9]),([14,9],[9,14]),([9],[9]),([15,16,9],[9,15,16]),([17,9],[9,17]),([13,18,9,9],[9,13,18]),([9,19],[9,19])])
def spec_ClientOk.B23 : List Nat:=[0,1,0,4,0,28,60,127,255,511,1023,2047,1023,8191,1023,17407,1023,115711,246783,524287,1048575]
theorem spec_ClientOk.tab23 : rtab .any (opsOf Try.f48 23) = spec_ClientOk.T23:=by kernel_rfl
theorem spec_ClientOk.bits23 : waitsOk spec_ClientOk.T23.2 spec_ClientOk.B23 = true:=by kernel_rfl
end Go.Proofs.Ytbipicjijbnbbaa.Hp
