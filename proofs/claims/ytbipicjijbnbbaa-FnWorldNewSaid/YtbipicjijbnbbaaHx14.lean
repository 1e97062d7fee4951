-- hp.py
import Derived.Test.YtbipicjijbnbbaaHx0
import Derived.Test.YtbipicjijbnbbaaHx2
import Derived.Test.YtbipicjijbnbbaaHx3
import Derived.Test.YtbipicjijbnbbaaHx13
namespace Go.Proofs.Ytbipicjijbnbbaa.Hp
open Go.RowKit Go.Proofs.YtbipicjijbnbbaaW.PrintWords Go.Proofs.YtbipicjijbnbbaaW.PrintLast Go.Proofs.YtbipicjijbnbbaaW.PrintMore
attribute [local go_sem] max2_int min2_int max_two min_two max_three min_three max_four min_four   -- for this text's walks alone
set_option linter.unusedVariables false
set_option linter.unusedSimpArgs false

attribute [local go_sem high] eqA104 eqA106
-- squeezed by wip/tools/squeeze.py
theorem z14x7 {P : Prop} (h : P:=by (with_reducible repeat (first|refine blk_drewN ?_ _|refine blk_drew ?_|refine blk_alloc ?_ _));exact qa.out) : P:=h
theorem z14x6 {P : Prop} (h : P:=by repeat (first|(with_reducible first|exact HB.out|apply below_alloc|apply pw_below_drewN|apply below_drew1)|exact HB.out)) : P:=h
theorem z14x5 {P : Prop} (h : P:=by rw [hg];exact (below_size (by repeat (first|(with_reducible first|exact HB.out|apply below_alloc|apply pw_below_drewN|apply below_drew1)|exact HB.out)))) : P:=h
theorem z14x4 {P : Prop} (h : P:=by repeat (first|(with_reducible first|exact HB.out|apply below_alloc|apply pw_below_drewN|apply below_drew1|refine below_set ?_ qx.out)|exact HB.out)) : P:=h
theorem z14x3 {P : Prop} (h : P:=by rw [hg];exact (below_size (by repeat (first|(with_reducible first|exact HB.out|apply below_alloc|apply pw_below_drewN|apply below_drew1|refine below_set ?_ qx.out)|exact HB.out)))) : P:=h
theorem z14x2 {P : Prop} (h : P:=by repeat (first|(with_reducible first|exact HB.out|apply below_alloc|apply pw_below_drewN|apply below_drew1|refine below_set ?_ qx.out|refine below_set ?_ qy.out)|exact HB.out)) : P:=h
theorem z14x1 {P : Prop} (h : P:=by rw [hg];exact Nat.ne_of_lt (blk_lt (g:=qc) (o:=.cells #[.int .i64 qq,.int .i64 qp,.slice wk qh.length wg,.slice wj qf.length we,.slice wi ql.length wd,.slice wh qo.length wb] 28 (0,0)) (by (with_reducible repeat (first|refine blk_drewN ?_ _|refine blk_drew ?_|refine blk_alloc ?_ _));exact qa.out))) : P:=h
theorem z14x0 {P : Prop} (h : P:=by rw [hg];exact Nat.ne_of_gt (blk_lt (g:=qc) (o:=.cells #[.int .i64 qq,.int .i64 qp,.slice wk qh.length wg,.slice wj qf.length we,.slice wi ql.length wd,.slice wh qo.length wb] 28 (0,0)) (by (with_reducible repeat (first|refine blk_drewN ?_ _|refine blk_drew ?_|refine blk_alloc ?_ _));exact qa.out))) : P:=h
/-! ### laws_lbClient: function 14 -/
mutual
def laws_lbClient.j0 : Nat → Bool → Int → Int → List (S104) → List (S106) → List (S113) → List (S113) → Int → Int → List (S104) → List (S106) → List (S113) → List (S113) → Option (Bool)
 | 0,_,_,_,_,_,_,_,_,_,_,_,_,_=>none
 | k + 1,x36,ul,uk,wa,qn,wu,wt,uj,ui,qz,qm,ws,wq=>if x36 = true then (some false) else (laws_lbClient.l0 k 0 ul uk wa qn wu wt uj ui qz qm ws wq)
def laws_lbClient.l0 : Nat → Int → Int → Int → List (S104) → List (S106) → List (S113) → List (S113) → Int → Int → List (S104) → List (S106) → List (S113) → List (S113) → Option (Bool)
 | 0,_,_,_,_,_,_,_,_,_,_,_,_,_=>none
 | k + 1,x5,ul,uk,wa,qn,wu,wt,uj,ui,qz,qm,ws,wq=>if x5 < (wa.length : Int) then (if 0 ≤ x5 then (if x5 < (qz.length : Int) then (if (!(((rd_T104 wa x5).f0) == ((rd_T104 qz x5).f0)) || (!(((rd_T104 wa x5).f1) == ((rd_T104 qz x5).f1)))) = true then (some false) else (laws_lbClient.l0 k (wrap64 (x5 + 1)) ul uk wa qn wu wt uj ui qz qm ws wq)) else (none)) else (none)) else (laws_lbClient.l1 k 0 ul uk wa qn wu wt uj ui qz qm ws wq)
def laws_lbClient.l1 : Nat → Int → Int → Int → List (S104) → List (S106) → List (S113) → List (S113) → Int → Int → List (S104) → List (S106) → List (S113) → List (S113) → Option (Bool)
 | 0,_,_,_,_,_,_,_,_,_,_,_,_,_=>none
 | k + 1,x6,ul,uk,wa,qn,wu,wt,uj,ui,qz,qm,ws,wq=>if x6 < (qn.length : Int) then (if 0 ≤ x6 then (if x6 < (qm.length : Int) then (if (!(((rd_T106 qn x6).f0) == ((rd_T106 qm x6).f0)) || (!(((rd_T106 qn x6).f1) == ((rd_T106 qm x6).f1)) || (!(((rd_T106 qn x6).f2) == ((rd_T106 qm x6).f2)) || ((!(((rd_T106 qn x6).f3.f0) == ((rd_T106 qm x6).f3.f0)) || (!(((rd_T106 qn x6).f3.f1) == ((rd_T106 qm x6).f3.f1)) || (!(((rd_T106 qn x6).f3.f2) == ((rd_T106 qm x6).f3.f2)) || (!(((rd_T106 qn x6).f3.f3) == ((rd_T106 qm x6).f3.f3)) || (!(((rd_T106 qn x6).f3.f4) == ((rd_T106 qm x6).f3.f4)) || (!(((rd_T106 qn x6).f3.f5) == ((rd_T106 qm x6).f3.f5)) || (!(((rd_T106 qn x6).f3.f6) == ((rd_T106 qm x6).f3.f6))))))))))))) = true then (some false) else (laws_lbClient.l1 k (wrap64 (x6 + 1)) ul uk wa qn wu wt uj ui qz qm ws wq)) else (none)) else (none)) else ((laws_lbCalls.f k wu ws).bind fun qbe=>(if qbe = true then ((laws_lbCalls.f k wt wq).bind fun qap=>(some qap)) else (some false)))
end
def laws_lbClient.f (k : Nat) (qq : Int) (qp : Int) (qh : List (S104)) (qf : List (S106)) (ql : List (S113)) (qo : List (S113)) (qv : Int) (qu : Int) (qi : List (S104)) (qg : List (S106)) (qr : List (S113)) (qt : List (S113)) : Option (Bool):=if qq = qv then (if qp = qu then (if (qh.length : Int) = (qi.length : Int) then (laws_lbClient.j0 k ((qf.length : Int) != (qg.length : Int)) qq qp qh qf ql qo qv qu qi qg qr qt) else (laws_lbClient.j0 k true qq qp qh qf ql qo qv qu qi qg qr qt)) else (laws_lbClient.j0 k true qq qp qh qf ql qo qv qu qi qg qr qt)) else (laws_lbClient.j0 k true qq qp qh qf ql qo qv qu qi qg qr qt)
theorem laws_lbClient.mono_l : ∀ k,(∀ y0 y1 y2 y3 y4 y5 y6 y7 y8 y9 y10 y11 y12,LeO (laws_lbClient.j0 k y0 y1 y2 y3 y4 y5 y6 y7 y8 y9 y10 y11 y12) (laws_lbClient.j0 (k + 1) y0 y1 y2 y3 y4 y5 y6 y7 y8 y9 y10 y11 y12)) ∧ (∀ y0 y1 y2 y3 y4 y5 y6 y7 y8 y9 y10 y11 y12,LeO (laws_lbClient.l0 k y0 y1 y2 y3 y4 y5 y6 y7 y8 y9 y10 y11 y12) (laws_lbClient.l0 (k + 1) y0 y1 y2 y3 y4 y5 y6 y7 y8 y9 y10 y11 y12)) ∧ (∀ y0 y1 y2 y3 y4 y5 y6 y7 y8 y9 y10 y11 y12,LeO (laws_lbClient.l1 k y0 y1 y2 y3 y4 y5 y6 y7 y8 y9 y10 y11 y12) (laws_lbClient.l1 (k + 1) y0 y1 y2 y3 y4 y5 y6 y7 y8 y9 y10 y11 y12))
 | 0=>⟨fun _ _ _ _ _ _ _ _ _ _ _ _ _ r h=>by simp [laws_lbClient.j0] at h,fun _ _ _ _ _ _ _ _ _ _ _ _ _ r h=>by simp [laws_lbClient.l0] at h,fun _ _ _ _ _ _ _ _ _ _ _ _ _ r h=>by simp [laws_lbClient.l1] at h⟩
 | k + 1=>by
  obtain ⟨ih0,ih1,ih2⟩:=laws_lbClient.mono_l k
  refine ⟨?_,?_,?_⟩
  ·intro y0 y1 y2 y3 y4 y5 y6 y7 y8 y9 y10 y11 y12
   unfold laws_lbClient.j0
   repeat' first
   | (with_reducible exact ih0 _ _ _ _ _ _ _ _ _ _ _ _ _)
   | (with_reducible exact ih1 _ _ _ _ _ _ _ _ _ _ _ _ _)
   | (with_reducible exact ih2 _ _ _ _ _ _ _ _ _ _ _ _ _)
   | (with_reducible exact laws_lbCalls.mono _ _ _)
   | (with_reducible exact LeO.refl _)
   | (with_reducible exact LeO.none _)
   | (with_reducible refine LeO.ite ?_ ?_)
   | (with_reducible refine LeO.bind ?_ (fun _=>?_))
   | exact ih0 _ _ _ _ _ _ _ _ _ _ _ _ _
   | exact ih1 _ _ _ _ _ _ _ _ _ _ _ _ _
   | exact ih2 _ _ _ _ _ _ _ _ _ _ _ _ _
   | exact laws_lbCalls.mono _ _ _
   | exact LeO.none _
   | refine LeO.ite ?_ ?_
   | refine LeO.bind ?_ (fun _=>?_)
  ·intro y0 y1 y2 y3 y4 y5 y6 y7 y8 y9 y10 y11 y12
   unfold laws_lbClient.l0
   repeat' first
   | (with_reducible exact ih0 _ _ _ _ _ _ _ _ _ _ _ _ _)
   | (with_reducible exact ih1 _ _ _ _ _ _ _ _ _ _ _ _ _)
   | (with_reducible exact ih2 _ _ _ _ _ _ _ _ _ _ _ _ _)
   | (with_reducible exact laws_lbCalls.mono _ _ _)
   | (with_reducible exact LeO.refl _)
   | (with_reducible exact LeO.none _)
   | (with_reducible refine LeO.ite ?_ ?_)
   | (with_reducible refine LeO.bind ?_ (fun _=>?_))
   | exact ih0 _ _ _ _ _ _ _ _ _ _ _ _ _
   | exact ih1 _ _ _ _ _ _ _ _ _ _ _ _ _
   | exact ih2 _ _ _ _ _ _ _ _ _ _ _ _ _
   | exact laws_lbCalls.mono _ _ _
   | exact LeO.none _
   | refine LeO.ite ?_ ?_
   | refine LeO.bind ?_ (fun _=>?_)
  ·intro y0 y1 y2 y3 y4 y5 y6 y7 y8 y9 y10 y11 y12
   unfold laws_lbClient.l1
   repeat' first
   | (with_reducible exact ih0 _ _ _ _ _ _ _ _ _ _ _ _ _)
   | (with_reducible exact ih1 _ _ _ _ _ _ _ _ _ _ _ _ _)
   | (with_reducible exact ih2 _ _ _ _ _ _ _ _ _ _ _ _ _)
   | (with_reducible exact laws_lbCalls.mono _ _ _)
   | (with_reducible exact LeO.refl _)
   | (with_reducible exact LeO.none _)
   | (with_reducible refine LeO.ite ?_ ?_)
   | (with_reducible refine LeO.bind ?_ (fun _=>?_))
   | exact ih0 _ _ _ _ _ _ _ _ _ _ _ _ _
   | exact ih1 _ _ _ _ _ _ _ _ _ _ _ _ _
   | exact ih2 _ _ _ _ _ _ _ _ _ _ _ _ _
   | exact laws_lbCalls.mono _ _ _
   | exact LeO.none _
   | refine LeO.ite ?_ ?_
   | refine LeO.bind ?_ (fun _=>?_)
theorem laws_lbClient.mono : ∀ a0 a1 a2 a3 a4 a5 a6 a7 a8 a9 a10 a11 k,LeO (laws_lbClient.f k a0 a1 a2 a3 a4 a5 a6 a7 a8 a9 a10 a11) (laws_lbClient.f (k + 1) a0 a1 a2 a3 a4 a5 a6 a7 a8 a9 a10 a11):=by
 intro a0 a1 a2 a3 a4 a5 a6 a7 a8 a9 a10 a11 k
 obtain ⟨ih0,ih1,ih2⟩:=laws_lbClient.mono_l k
 unfold laws_lbClient.f
 repeat' first
   | (with_reducible exact ih0 _ _ _ _ _ _ _ _ _ _ _ _ _)
   | (with_reducible exact ih1 _ _ _ _ _ _ _ _ _ _ _ _ _)
   | (with_reducible exact ih2 _ _ _ _ _ _ _ _ _ _ _ _ _)
   | (with_reducible exact laws_lbCalls.mono _ _ _)
   | (with_reducible exact LeO.refl _)
   | (with_reducible exact LeO.none _)
   | (with_reducible refine LeO.ite ?_ ?_)
   | (with_reducible refine LeO.bind ?_ (fun _=>?_))
   | exact ih0 _ _ _ _ _ _ _ _ _ _ _ _ _
   | exact ih1 _ _ _ _ _ _ _ _ _ _ _ _ _
   | exact ih2 _ _ _ _ _ _ _ _ _ _ _ _ _
   | exact laws_lbCalls.mono _ _ _
   | exact LeO.none _
   | refine LeO.ite ?_ ?_
   | refine LeO.bind ?_ (fun _=>?_)
set_option maxHeartbeats 8000000 in
set_option maxRecDepth 100000 in
theorem laws_lbClient.calls (k : Nat) (qq : Int) (qp : Int) (wk : Option Addr) (wg : Nat) (qh : List (S104)) (wj : Option Addr) (we : Nat) (qf : List (S106)) (wi : Option Addr) (wd : Nat) (ql : List (S113)) (wh : Option Addr) (wb : Nat) (qo : List (S113)) (qv : Int) (qu : Int) (uh : Option Addr) (ud : Nat) (qi : List (S104)) (ug : Option Addr) (uc : Nat) (qg : List (S106)) (uf : Option Addr) (ub : Nat) (qr : List (S113)) (ue : Option Addr) (ua : Nat) (qt : List (S113)) (r : Bool) (w : World) (qea : Kd.C k104 w wk qh.length qh) (qei : qh.length ≤ wg) (qdz : Kd.C k106 w wj qf.length qf) (qeh : qf.length ≤ we) (qdy : Kd.C k113 w wi ql.length ql) (qeg : ql.length ≤ wd) (qdx : Kd.C k113 w wh qo.length qo) (qef : qo.length ≤ wb) (qdw : Kd.C k104 w uh qi.length qi) (qee : qi.length ≤ ud) (qdv : Kd.C k106 w ug qg.length qg) (qed : qg.length ≤ uc) (qdu : Kd.C k113 w uf qr.length qr) (qec : qr.length ≤ ub) (qdt : Kd.C k113 w ue qt.length qt) (qeb : qt.length ≤ ua) (h : laws_lbClient.f k qq qp qh qf ql qo qv qu qi qg qr qt = some r) :
  Calls Try.prog 14 #[.agg #[.int .i64 qq,.int .i64 qp,.slice wk qh.length wg,.slice wj qf.length we,.slice wi ql.length wd,.slice wh qo.length wb],.agg #[.int .i64 qv,.int .i64 qu,.slice uh qi.length ud,.slice ug qg.length uc,.slice uf qr.length ub,.slice ue qt.length ua]] w fun e w' => e = .returned (.bool r) ∧ Below w.heap.size w w':=by
 have qka:=Try.underlying28
 have qiy:=Try.underlying104
 have qix:=Try.underlying106
 have qeo:=Aside0.mk qea
 have qjy:=Aside0.mk qei
 clear qea qei
 have qen:=Aside0.mk qdz
 have qjx:=Aside0.mk qeh
 clear qdz qeh
 have un:=Aside0.mk qdy
 have uq:=Aside0.mk qeg
 clear qdy qeg
 have qbb:=Aside0.mk qdx
 have qbd:=Aside0.mk qef
 clear qdx qef
 have qem:=Aside0.mk qdw
 have qjw:=Aside0.mk qee
 clear qdw qee
 have qel:=Aside0.mk qdv
 have qjv:=Aside0.mk qed
 clear qdv qed
 have um:=Aside0.mk qdu
 have uo:=Aside0.mk qec
 clear qdu qec
 have qba:=Aside0.mk qdt
 have qbc:=Aside0.mk qeb
 clear qdt qeb
 have HB:=Aside0.mk (Below.refl w.heap.size w)
 have H : (if qq = qv then (if qp = qu then (if (qh.length : Int) = (qi.length : Int) then (laws_lbClient.j0 k ((qf.length : Int) != (qg.length : Int)) qq qp qh qf ql qo qv qu qi qg qr qt) else (laws_lbClient.j0 k true qq qp qh qf ql qo qv qu qi qg qr qt)) else (laws_lbClient.j0 k true qq qp qh qf ql qo qv qu qi qg qr qt)) else (laws_lbClient.j0 k true qq qp qh qf ql qo qv qu qi qg qr qt)) = some r:=h
 clear h
 have HC3:=Aside0.mk H
 clear H
 go_enter Try.func14,Try.ntmps14
 go_upto_region 1 with (first|((with_reducible refine gate_dst (N:=2) rfl ?_);refine box_event ?hg (N:=2) ?hd (cs:=#[.int .i64 qq,.int .i64 qp,.slice wk qh.length wg,.slice wj qf.length we,.slice wi ql.length wd,.slice wh qo.length wb]) (t:=28) ?hr ?_;(case hd=>rfl);(case hg=>rfl);(case hr=>first|(go_simp;done)|(go_simp;rfl));intro qc hg w4 hbox hb;have n0_:=Aside0.mk (below_step z14x6 hb);have n1_:=Aside0.mk (hbox);have n2_:=Aside0.mk ((z14x5 : w.heap.size ≤ qc));have n3_:=Aside0.mk ((z14x5 : w.heap.size ≤ qc));clear HB;have HB:=n0_;have qa:=n1_;have qeq:=n2_;have qx:=n3_;clear n0_ n1_ n2_ n3_;clear hb hbox hg)|((with_reducible refine gate_dst (N:=3) rfl ?_);refine box_event ?hg (N:=3) ?hd (cs:=#[.int .i64 qv,.int .i64 qu,.slice uh qi.length ud,.slice ug qg.length uc,.slice uf qr.length ub,.slice ue qt.length ua]) (t:=28) ?hr ?_;(case hd=>rfl);(case hg=>rfl);(case hr=>first|(go_simp;done)|(go_simp;rfl));intro qd hg w5 hbox hb;have n0_:=Aside0.mk (blk_below (g:=qc) (o:=.cells #[.int .i64 qq,.int .i64 qp,.slice wk qh.length wg,.slice wj qf.length we,.slice wi ql.length wd,.slice wh qo.length wb] 28 (0,0)) z14x7 hb);have n1_:=Aside0.mk (below_step z14x4 hb);have n2_:=Aside0.mk (hbox);have n3_:=Aside0.mk ((z14x3 : w.heap.size ≤ qd));have n4_:=Aside0.mk ((z14x3 : w.heap.size ≤ qd));have n5_:=Aside0.mk ((z14x1 : qc ≠ qd));have n6_:=Aside0.mk ((z14x0 : qd ≠ qc));clear qa;clear HB;have qa:=n0_;have HB:=n1_;have qb:=n2_;have qep:=n3_;have qy:=n4_;have qk:=n5_;have qj:=n6_;clear n0_ n1_ n2_ n3_ n4_ n5_ n6_;clear hb hbox hg))
 repeat (go_quiet (first|((with_reducible refine gate_dst (N:=2) rfl ?_);refine box_event ?hg (N:=2) ?hd (cs:=#[.int .i64 qq,.int .i64 qp,.slice wk qh.length wg,.slice wj qf.length we,.slice wi ql.length wd,.slice wh qo.length wb]) (t:=28) ?hr ?_;(case hd=>rfl);(case hg=>rfl);(case hr=>first|(go_simp;done)|(go_simp;rfl));intro qc hg w4 hbox hb;have n0_:=Aside0.mk (below_step z14x6 hb);have n1_:=Aside0.mk (hbox);have n2_:=Aside0.mk ((z14x5 : w.heap.size ≤ qc));have n3_:=Aside0.mk ((z14x5 : w.heap.size ≤ qc));clear HB;have HB:=n0_;have qa:=n1_;have qeq:=n2_;have qx:=n3_;clear n0_ n1_ n2_ n3_;clear hb hbox hg)|((with_reducible refine gate_dst (N:=3) rfl ?_);refine box_event ?hg (N:=3) ?hd (cs:=#[.int .i64 qv,.int .i64 qu,.slice uh qi.length ud,.slice ug qg.length uc,.slice uf qr.length ub,.slice ue qt.length ua]) (t:=28) ?hr ?_;(case hd=>rfl);(case hg=>rfl);(case hr=>first|(go_simp;done)|(go_simp;rfl));intro qd hg w5 hbox hb;have n0_:=Aside0.mk (blk_below (g:=qc) (o:=.cells #[.int .i64 qq,.int .i64 qp,.slice wk qh.length wg,.slice wj qf.length we,.slice wi ql.length wd,.slice wh qo.length wb] 28 (0,0)) z14x7 hb);have n1_:=Aside0.mk (below_step z14x4 hb);have n2_:=Aside0.mk (hbox);have n3_:=Aside0.mk ((z14x3 : w.heap.size ≤ qd));have n4_:=Aside0.mk ((z14x3 : w.heap.size ≤ qd));have n5_:=Aside0.mk ((z14x1 : qc ≠ qd));have n6_:=Aside0.mk ((z14x0 : qd ≠ qc));clear qa;clear HB;have qa:=n0_;have HB:=n1_;have qb:=n2_;have qep:=n3_;have qy:=n4_;have qk:=n5_;have qj:=n6_;clear n0_ n1_ n2_ n3_ n4_ n5_ n6_;clear hb hbox hg));go_upto_region 1 with (first|((with_reducible refine gate_dst (N:=2) rfl ?_);refine box_event ?hg (N:=2) ?hd (cs:=#[.int .i64 qq,.int .i64 qp,.slice wk qh.length wg,.slice wj qf.length we,.slice wi ql.length wd,.slice wh qo.length wb]) (t:=28) ?hr ?_;(case hd=>rfl);(case hg=>rfl);(case hr=>first|(go_simp;done)|(go_simp;rfl));intro qc hg w4 hbox hb;have n0_:=Aside0.mk (below_step z14x6 hb);have n1_:=Aside0.mk (hbox);have n2_:=Aside0.mk ((z14x5 : w.heap.size ≤ qc));have n3_:=Aside0.mk ((z14x5 : w.heap.size ≤ qc));clear HB;have HB:=n0_;have qa:=n1_;have qeq:=n2_;have qx:=n3_;clear n0_ n1_ n2_ n3_;clear hb hbox hg)|((with_reducible refine gate_dst (N:=3) rfl ?_);refine box_event ?hg (N:=3) ?hd (cs:=#[.int .i64 qv,.int .i64 qu,.slice uh qi.length ud,.slice ug qg.length uc,.slice uf qr.length ub,.slice ue qt.length ua]) (t:=28) ?hr ?_;(case hd=>rfl);(case hg=>rfl);(case hr=>first|(go_simp;done)|(go_simp;rfl));intro qd hg w5 hbox hb;have n0_:=Aside0.mk (blk_below (g:=qc) (o:=.cells #[.int .i64 qq,.int .i64 qp,.slice wk qh.length wg,.slice wj qf.length we,.slice wi ql.length wd,.slice wh qo.length wb] 28 (0,0)) z14x7 hb);have n1_:=Aside0.mk (below_step z14x4 hb);have n2_:=Aside0.mk (hbox);have n3_:=Aside0.mk ((z14x3 : w.heap.size ≤ qd));have n4_:=Aside0.mk ((z14x3 : w.heap.size ≤ qd));have n5_:=Aside0.mk ((z14x1 : qc ≠ qd));have n6_:=Aside0.mk ((z14x0 : qd ≠ qc));clear qa;clear HB;have qa:=n0_;have HB:=n1_;have qb:=n2_;have qep:=n3_;have qy:=n4_;have qk:=n5_;have qj:=n6_;clear n0_ n1_ n2_ n3_ n4_ n5_ n6_;clear hb hbox hg)))
 (try simp only [Act.put,List.setIfInBounds_toArray,List.set_cons_zero,List.set_cons_succ])
 go_cut [36] (fun v36 wc=>∃ (kq : Nat) (qaz : Bool),v36 = .bool qaz ∧ Aside0 (laws_lbClient.j0 kq qaz qq qp qh qf ql qo qv qu qi qg qr qt = some r) ∧ Aside0 (kq ≤ k) ∧ Aside0 (wc.heap[qc]? = some (.cells #[.int .i64 qq,.int .i64 qp,(.slice wk qh.length wg),(.slice wj qf.length we),(.slice wi ql.length wd),(.slice wh qo.length wb)] 28 (0,0))) ∧ Aside0 (wc.heap[qd]? = some (.cells #[.int .i64 qv,.int .i64 qu,(.slice uh qi.length ud),(.slice ug qg.length uc),(.slice uf qr.length ub),(.slice ue qt.length ua)] 28 (0,0))) ∧ Aside0 (Below w.heap.size w wc))
 case first =>
  have H:=HC3.out
  clear HC3
  by_cases c6 : qq = qv
  rotate_left
  ·rw [if_neg c6] at H
   have qau : (qq == qv) = false:=beq_eq_false_iff_ne.mpr c6
   have qds : (qq != qv) = true:=bne_iff_ne.mpr c6
   (first|rw [qau]|(simp only [i64_w,i32_w];rw [qau])|skip)
   have H':=Aside0.mk H
   clear H
   have qjq:=qk.out
   have qjg:=qj.out
   have pc : w5.cell? ⟨qc,0,none⟩ = some (.int .i64 qq):=(blk_cell qa.out 0).trans rfl
   have pb : w5.cell? ⟨qc,1,none⟩ = some (.int .i64 qp):=(blk_cell qa.out 1).trans rfl
   have pa : w5.cell? ⟨qc,2,none⟩ = some (.slice wk qh.length wg):=(blk_cell qa.out 2).trans rfl
   have gz : w5.cell? ⟨qc,3,none⟩ = some (.slice wj qf.length we):=(blk_cell qa.out 3).trans rfl
   have gy : w5.cell? ⟨qc,4,none⟩ = some (.slice wi ql.length wd):=(blk_cell qa.out 4).trans rfl
   have gx : w5.cell? ⟨qc,5,none⟩ = some (.slice wh qo.length wb):=(blk_cell qa.out 5).trans rfl
   have jc:=blk_frozen qa.out 0
   have jb:=blk_frozen qa.out 1
   have ja:=blk_frozen qa.out 2
   have uz:=blk_frozen qa.out 3
   have uy:=blk_frozen qa.out 4
   have ux:=blk_frozen qa.out 5
   have gw : w5.cell? ⟨qd,0,none⟩ = some (.int .i64 qv):=(blk_cell qb.out 0).trans rfl
   have gv : w5.cell? ⟨qd,1,none⟩ = some (.int .i64 qu):=(blk_cell qb.out 1).trans rfl
   have gu : w5.cell? ⟨qd,2,none⟩ = some (.slice uh qi.length ud):=(blk_cell qb.out 2).trans rfl
   have gt : w5.cell? ⟨qd,3,none⟩ = some (.slice ug qg.length uc):=(blk_cell qb.out 3).trans rfl
   have gs : w5.cell? ⟨qd,4,none⟩ = some (.slice uf qr.length ub):=(blk_cell qb.out 4).trans rfl
   have gr : w5.cell? ⟨qd,5,none⟩ = some (.slice ue qt.length ua):=(blk_cell qb.out 5).trans rfl
   have uw:=blk_frozen qb.out 0
   have uv:=blk_frozen qb.out 1
   have uu:=blk_frozen qb.out 2
   have ut:=blk_frozen qb.out 3
   have us:=blk_frozen qb.out 4
   have ur:=blk_frozen qb.out 5
   go_wp2
   repeat (go_quiet (fail);try go_wp2)
   go_meet
   case rel=>exact ⟨_,(true),(by first|rfl|(simp;done)|(simp [*];done)),H',⟨by first|omega|exact Nat.le_refl _⟩,⟨by (with_reducible repeat (first|refine blk_drewN ?_ _|refine blk_drew ?_|refine blk_alloc ?_ _));exact qa.out⟩,⟨by (with_reducible repeat (first|refine blk_drewN ?_ _|refine blk_drew ?_|refine blk_alloc ?_ _));exact qb.out⟩,⟨by repeat (first|(with_reducible first|exact HB.out|apply below_alloc|apply pw_below_drewN|apply below_drew1|refine below_set ?_ qx.out|refine below_set ?_ qy.out)|exact HB.out)⟩⟩
  rw [if_pos c6] at H
  have qau : (qq == qv) = true:=beq_iff_eq.mpr c6
  have qds : (qq != qv) = false:=bne_eq_false_iff_eq.mpr c6
  clear c6
  (first|rw [qau]|(simp only [i64_w,i32_w];rw [qau])|skip)
  by_cases c7 : qp = qu
  rotate_left
  ·rw [if_neg c7] at H
   have qdr : (qp == qu) = false:=beq_eq_false_iff_ne.mpr c7
   have qdq : (qp != qu) = true:=bne_iff_ne.mpr c7
   have H':=Aside0.mk H
   clear H
   have qjr:=qk.out
   have qjh:=qj.out
   have po : w5.cell? ⟨qc,0,none⟩ = some (.int .i64 qq):=(blk_cell qa.out 0).trans rfl
   have pn : w5.cell? ⟨qc,1,none⟩ = some (.int .i64 qp):=(blk_cell qa.out 1).trans rfl
   have pm : w5.cell? ⟨qc,2,none⟩ = some (.slice wk qh.length wg):=(blk_cell qa.out 2).trans rfl
   have pl : w5.cell? ⟨qc,3,none⟩ = some (.slice wj qf.length we):=(blk_cell qa.out 3).trans rfl
   have pk : w5.cell? ⟨qc,4,none⟩ = some (.slice wi ql.length wd):=(blk_cell qa.out 4).trans rfl
   have pj : w5.cell? ⟨qc,5,none⟩ = some (.slice wh qo.length wb):=(blk_cell qa.out 5).trans rfl
   have jo:=blk_frozen qa.out 0
   have jn:=blk_frozen qa.out 1
   have jm:=blk_frozen qa.out 2
   have jl:=blk_frozen qa.out 3
   have jk:=blk_frozen qa.out 4
   have jj:=blk_frozen qa.out 5
   have pi : w5.cell? ⟨qd,0,none⟩ = some (.int .i64 qv):=(blk_cell qb.out 0).trans rfl
   have ph : w5.cell? ⟨qd,1,none⟩ = some (.int .i64 qu):=(blk_cell qb.out 1).trans rfl
   have pg : w5.cell? ⟨qd,2,none⟩ = some (.slice uh qi.length ud):=(blk_cell qb.out 2).trans rfl
   have pf : w5.cell? ⟨qd,3,none⟩ = some (.slice ug qg.length uc):=(blk_cell qb.out 3).trans rfl
   have pe : w5.cell? ⟨qd,4,none⟩ = some (.slice uf qr.length ub):=(blk_cell qb.out 4).trans rfl
   have pd : w5.cell? ⟨qd,5,none⟩ = some (.slice ue qt.length ua):=(blk_cell qb.out 5).trans rfl
   have ji:=blk_frozen qb.out 0
   have jh:=blk_frozen qb.out 1
   have jg:=blk_frozen qb.out 2
   have jf:=blk_frozen qb.out 3
   have je:=blk_frozen qb.out 4
   have jd:=blk_frozen qb.out 5
   go_wp2
   repeat (go_quiet (fail);try go_wp2)
   go_meet
   case rel=>exact ⟨_,(true),(by first|rfl|(simp;done)|(simp [*];done)),H',⟨by first|omega|exact Nat.le_refl _⟩,⟨by (with_reducible repeat (first|refine blk_drewN ?_ _|refine blk_drew ?_|refine blk_alloc ?_ _));exact qa.out⟩,⟨by (with_reducible repeat (first|refine blk_drewN ?_ _|refine blk_drew ?_|refine blk_alloc ?_ _));exact qb.out⟩,⟨by repeat (first|(with_reducible first|exact HB.out|apply below_alloc|apply pw_below_drewN|apply below_drew1|refine below_set ?_ qx.out|refine below_set ?_ qy.out)|exact HB.out)⟩⟩
  rw [if_pos c7] at H
  have qdr : (qp == qu) = true:=beq_iff_eq.mpr c7
  have qdq : (qp != qu) = false:=bne_eq_false_iff_eq.mpr c7
  clear c7
  by_cases c8 : (qh.length : Int) = (qi.length : Int)
  rotate_left
  ·rw [if_neg c8] at H
   have qdp : ((qh.length : Int) == (qi.length : Int)) = false:=beq_eq_false_iff_ne.mpr c8
   have qdo : ((qh.length : Int) != (qi.length : Int)) = true:=bne_iff_ne.mpr c8
   have qdn : (qh.length == qi.length) = false:=by first|simpa using c8|(simp at c8 ⊢; omega)
   have H':=Aside0.mk H
   clear H
   have qjs:=qk.out
   have qji:=qj.out
   have qac : w5.cell? ⟨qc,0,none⟩ = some (.int .i64 qq):=(blk_cell qa.out 0).trans rfl
   have qab : w5.cell? ⟨qc,1,none⟩ = some (.int .i64 qp):=(blk_cell qa.out 1).trans rfl
   have qaa : w5.cell? ⟨qc,2,none⟩ = some (.slice wk qh.length wg):=(blk_cell qa.out 2).trans rfl
   have pz : w5.cell? ⟨qc,3,none⟩ = some (.slice wj qf.length we):=(blk_cell qa.out 3).trans rfl
   have px : w5.cell? ⟨qc,4,none⟩ = some (.slice wi ql.length wd):=(blk_cell qa.out 4).trans rfl
   have pw : w5.cell? ⟨qc,5,none⟩ = some (.slice wh qo.length wb):=(blk_cell qa.out 5).trans rfl
   have ga:=blk_frozen qa.out 0
   have jz:=blk_frozen qa.out 1
   have jy:=blk_frozen qa.out 2
   have jx:=blk_frozen qa.out 3
   have jw:=blk_frozen qa.out 4
   have jv:=blk_frozen qa.out 5
   have pv : w5.cell? ⟨qd,0,none⟩ = some (.int .i64 qv):=(blk_cell qb.out 0).trans rfl
   have pu : w5.cell? ⟨qd,1,none⟩ = some (.int .i64 qu):=(blk_cell qb.out 1).trans rfl
   have pt : w5.cell? ⟨qd,2,none⟩ = some (.slice uh qi.length ud):=(blk_cell qb.out 2).trans rfl
   have pr : w5.cell? ⟨qd,3,none⟩ = some (.slice ug qg.length uc):=(blk_cell qb.out 3).trans rfl
   have pq : w5.cell? ⟨qd,4,none⟩ = some (.slice uf qr.length ub):=(blk_cell qb.out 4).trans rfl
   have pp : w5.cell? ⟨qd,5,none⟩ = some (.slice ue qt.length ua):=(blk_cell qb.out 5).trans rfl
   have ju:=blk_frozen qb.out 0
   have jt:=blk_frozen qb.out 1
   have js:=blk_frozen qb.out 2
   have jr:=blk_frozen qb.out 3
   have jq:=blk_frozen qb.out 4
   have jp:=blk_frozen qb.out 5
   go_wp2
   repeat (go_quiet (fail);try go_wp2)
   go_meet
   case rel=>exact ⟨_,(true),(by first|rfl|(simp;done)|(simp [*];done)),H',⟨by first|omega|exact Nat.le_refl _⟩,⟨by (with_reducible repeat (first|refine blk_drewN ?_ _|refine blk_drew ?_|refine blk_alloc ?_ _));exact qa.out⟩,⟨by (with_reducible repeat (first|refine blk_drewN ?_ _|refine blk_drew ?_|refine blk_alloc ?_ _));exact qb.out⟩,⟨by repeat (first|(with_reducible first|exact HB.out|apply below_alloc|apply pw_below_drewN|apply below_drew1|refine below_set ?_ qx.out|refine below_set ?_ qy.out)|exact HB.out)⟩⟩
  rw [if_pos c8] at H
  have qdp : ((qh.length : Int) == (qi.length : Int)) = true:=beq_iff_eq.mpr c8
  have qdo : ((qh.length : Int) != (qi.length : Int)) = false:=bne_eq_false_iff_eq.mpr c8
  have qdn : (qh.length == qi.length) = true:=by first|simpa using c8|(simp at c8 ⊢; omega)
  clear c8
  have H':=Aside0.mk H
  clear H
  have qkc:=qk.out
  have qkb:=qj.out
  have qao : w5.cell? ⟨qc,0,none⟩ = some (.int .i64 qq):=(blk_cell qa.out 0).trans rfl
  have qan : w5.cell? ⟨qc,1,none⟩ = some (.int .i64 qp):=(blk_cell qa.out 1).trans rfl
  have qam : w5.cell? ⟨qc,2,none⟩ = some (.slice wk qh.length wg):=(blk_cell qa.out 2).trans rfl
  have qal : w5.cell? ⟨qc,3,none⟩ = some (.slice wj qf.length we):=(blk_cell qa.out 3).trans rfl
  have qak : w5.cell? ⟨qc,4,none⟩ = some (.slice wi ql.length wd):=(blk_cell qa.out 4).trans rfl
  have qaj : w5.cell? ⟨qc,5,none⟩ = some (.slice wh qo.length wb):=(blk_cell qa.out 5).trans rfl
  have gq:=blk_frozen qa.out 0
  have gp:=blk_frozen qa.out 1
  have gn:=blk_frozen qa.out 2
  have gm:=blk_frozen qa.out 3
  have gl:=blk_frozen qa.out 4
  have gj:=blk_frozen qa.out 5
  have qai : w5.cell? ⟨qd,0,none⟩ = some (.int .i64 qv):=(blk_cell qb.out 0).trans rfl
  have qah : w5.cell? ⟨qd,1,none⟩ = some (.int .i64 qu):=(blk_cell qb.out 1).trans rfl
  have qag : w5.cell? ⟨qd,2,none⟩ = some (.slice uh qi.length ud):=(blk_cell qb.out 2).trans rfl
  have qaf : w5.cell? ⟨qd,3,none⟩ = some (.slice ug qg.length uc):=(blk_cell qb.out 3).trans rfl
  have qae : w5.cell? ⟨qd,4,none⟩ = some (.slice uf qr.length ub):=(blk_cell qb.out 4).trans rfl
  have qad : w5.cell? ⟨qd,5,none⟩ = some (.slice ue qt.length ua):=(blk_cell qb.out 5).trans rfl
  have gi:=blk_frozen qb.out 0
  have gh:=blk_frozen qb.out 1
  have gg:=blk_frozen qb.out 2
  have gf:=blk_frozen qb.out 3
  have gc:=blk_frozen qb.out 4
  have gb:=blk_frozen qb.out 5
  go_wp2
  repeat (go_quiet (fail);try go_wp2)
  go_meet
  case rel=>exact ⟨_,(((qf.length : Int) != (qg.length : Int))),(by first|rfl|(simp;done)|(simp [*];done)),H',⟨by first|omega|exact Nat.le_refl _⟩,⟨by (with_reducible repeat (first|refine blk_drewN ?_ _|refine blk_drew ?_|refine blk_alloc ?_ _));exact qa.out⟩,⟨by (with_reducible repeat (first|refine blk_drewN ?_ _|refine blk_drew ?_|refine blk_alloc ?_ _));exact qb.out⟩,⟨by repeat (first|(with_reducible first|exact HB.out|apply below_alloc|apply pw_below_drewN|apply below_drew1|refine below_set ?_ qx.out|refine below_set ?_ qy.out)|exact HB.out)⟩⟩
 case rest =>
  clear HC3
  try clear c1
  try clear p2
  try clear c6
  try clear qau
  try clear qds
  try clear c7
  try clear qdr
  try clear qdq
  try clear c8
  try clear qdp
  try clear qdo
  try clear qdn
  try clear c9
  try clear c12
  try clear c14
  try clear c15
  try clear c18
  try clear qao
  try clear qan
  try clear qam
  try clear qal
  try clear qak
  try clear qaj
  try clear qai
  try clear qah
  try clear qag
  try clear qaf
  try clear qae
  try clear qad
  try clear qac
  try clear qab
  try clear qaa
  try clear pz
  try clear px
  try clear pw
  try clear pv
  try clear pu
  try clear pt
  try clear pr
  try clear pq
  try clear pp
  try clear po
  try clear pn
  try clear pm
  try clear pl
  try clear pk
  try clear pj
  try clear pi
  try clear ph
  try clear pg
  try clear pf
  try clear pe
  try clear pd
  try clear pc
  try clear pb
  try clear pa
  try clear gz
  try clear gy
  try clear gx
  try clear gw
  try clear gv
  try clear gu
  try clear gt
  try clear gs
  try clear gr
  try clear gq
  try clear gp
  try clear gn
  try clear gm
  try clear gl
  try clear gj
  try clear gi
  try clear gh
  try clear gg
  try clear gf
  try clear gc
  try clear gb
  try clear ga
  try clear jz
  try clear jy
  try clear jx
  try clear jw
  try clear jv
  try clear ju
  try clear jt
  try clear js
  try clear jr
  try clear jq
  try clear jp
  try clear jo
  try clear jn
  try clear jm
  try clear jl
  try clear jk
  try clear jj
  try clear ji
  try clear jh
  try clear jg
  try clear jf
  try clear je
  try clear jd
  try clear jc
  try clear jb
  try clear ja
  try clear uz
  try clear uy
  try clear ux
  try clear uw
  try clear uv
  try clear uu
  try clear ut
  try clear us
  try clear ur
  obtain ⟨kq,qaz,rfl,HA,HJ2,qa,qb,HB⟩:=hcut
  cases kq with
  | zero=>exact absurd HA.out (by simp [laws_lbClient.j0])
  | succ kj2 =>
   have H:=HA.out
   clear HA
   simp only [laws_lbClient.j0] at H
   by_cases c21 : qaz = true
   ·subst c21
    rw [if_pos rfl] at H
    obtain rfl:=Option.some.inj H
    go_wp2
    repeat (go_quiet (fail);try go_wp2)
    go_ret
    exact ⟨by first|rfl|(simp [errW_none,errW_some] <;> rfl)|(simp [*,errW_none,errW_some] <;> rfl),by repeat (first|(with_reducible first|exact HB.out|apply below_alloc|apply pw_below_drewN|apply below_drew1|refine below_set ?_ qx.out|refine below_set ?_ qy.out)|exact HB.out)⟩
   ·replace c21:=Bool.eq_false_iff.mpr c21
    subst c21
    rw [if_neg (show ¬ (false = true) by decide)] at H
    have H':=Aside0.mk H
    clear H
    go_wp2
    repeat (go_quiet (fail);try go_wp2)
    go_loopg [5] kj2 (fun kq v5 w' => ∃ (qw : Int),v5 = .int .i64 qw ∧ Aside0 (laws_lbClient.l0 kq qw qq qp qh qf ql qo qv qu qi qg qr qt = some r) ∧ Aside0 (kq ≤ kj2) ∧ Aside0 (w'.heap[qc]? = some (.cells #[.int .i64 qq,.int .i64 qp,(.slice wk qh.length wg),(.slice wj qf.length we),(.slice wi ql.length wd),(.slice wh qo.length wb)] 28 (0,0))) ∧ Aside0 (w'.heap[qd]? = some (.cells #[.int .i64 qv,.int .i64 qu,(.slice uh qi.length ud),(.slice ug qg.length uc),(.slice uf qr.length ub),(.slice ue qt.length ua)] 28 (0,0))) ∧ Aside0 (Below w.heap.size w w'))
    case atStart=>exact ⟨(0),(by first|rfl|(simp;done)|(simp [*];done)),H',⟨Nat.le_refl _⟩,⟨by (with_reducible repeat (first|refine blk_drewN ?_ _|refine blk_drew ?_|refine blk_alloc ?_ _));exact qa.out⟩,⟨by (with_reducible repeat (first|refine blk_drewN ?_ _|refine blk_drew ?_|refine blk_alloc ?_ _));exact qb.out⟩,⟨by repeat (first|(with_reducible first|exact HB.out|apply below_alloc|apply pw_below_drewN|apply below_drew1|refine below_set ?_ qx.out|refine below_set ?_ qy.out)|exact HB.out)⟩⟩
    case round =>
     clear H'
     try clear c1
     try clear c2
     try clear p2
     try clear c6
     try clear qau
     try clear qds
     try clear c7
     try clear qdr
     try clear qdq
     try clear c8
     try clear qdp
     try clear qdo
     try clear qdn
     try clear c9
     try clear c12
     try clear c14
     try clear c15
     try clear c18
     try clear c21
     try clear qao
     try clear qan
     try clear qam
     try clear qal
     try clear qak
     try clear qaj
     try clear qai
     try clear qah
     try clear qag
     try clear qaf
     try clear qae
     try clear qad
     try clear qac
     try clear qab
     try clear qaa
     try clear pz
     try clear px
     try clear pw
     try clear pv
     try clear pu
     try clear pt
     try clear pr
     try clear pq
     try clear pp
     try clear po
     try clear pn
     try clear pm
     try clear pl
     try clear pk
     try clear pj
     try clear pi
     try clear ph
     try clear pg
     try clear pf
     try clear pe
     try clear pd
     try clear pc
     try clear pb
     try clear pa
     try clear gz
     try clear gy
     try clear gx
     try clear gw
     try clear gv
     try clear gu
     try clear gt
     try clear gs
     try clear gr
     try clear gq
     try clear gp
     try clear gn
     try clear gm
     try clear gl
     try clear gj
     try clear gi
     try clear gh
     try clear gg
     try clear gf
     try clear gc
     try clear gb
     try clear ga
     try clear jz
     try clear jy
     try clear jx
     try clear jw
     try clear jv
     try clear ju
     try clear jt
     try clear js
     try clear jr
     try clear jq
     try clear jp
     try clear jo
     try clear jn
     try clear jm
     try clear jl
     try clear jk
     try clear jj
     try clear ji
     try clear jh
     try clear jg
     try clear jf
     try clear je
     try clear jd
     try clear jc
     try clear jb
     try clear ja
     try clear uz
     try clear uy
     try clear ux
     try clear uw
     try clear uv
     try clear uu
     try clear ut
     try clear us
     try clear ur
     try clear p2
     obtain ⟨qw,rfl,HA,HK2,qa,qb,HB⟩:=hrel
     cases gk with
     | zero=>exact absurd HA.out (by simp [laws_lbClient.l0])
     | succ k2 =>
      have H:=HA.out
      clear HA
      simp only [laws_lbClient.l0] at H
      by_cases c22 : qw < (qh.length : Int)
      ·rw [if_pos c22] at H
       have qek : decide (qw < (qh.length : Int)) = true:=decide_eq_true c22
       clear c22
       by_cases c23 : 0 ≤ qw
       rotate_left
       ·rw [if_neg c23] at H
        exact absurd H (by simp)
       rw [if_pos c23] at H
       have qey : decide (0 ≤ qw) = true:=decide_eq_true c23
       clear c23
       by_cases c24 : qw < (qi.length : Int)
       rotate_left
       ·rw [if_neg c24] at H
        exact absurd H (by simp)
       rw [if_pos c24] at H
       have qex : decide (qw < (qi.length : Int)) = true:=decide_eq_true c24
       clear c24
       by_cases c25 : (!(((rd_T104 qh qw).f0) == ((rd_T104 qi qw).f0)) || (!(((rd_T104 qh qw).f1) == ((rd_T104 qi qw).f1)))) = true
       ·rw [if_pos c25] at H
        have qej : (!(((rd_T104 qh qw).f0) == ((rd_T104 qi qw).f0)) || (!(((rd_T104 qh qw).f1) == ((rd_T104 qi qw).f1)))) = true:=c25
        clear c25
        obtain rfl:=Option.some.inj H
        have qjp:=qk.out
        have qjf:=qj.out
        have qdm : wr.cell? ⟨qc,0,none⟩ = some (.int .i64 qq):=(blk_cell qa.out 0).trans rfl
        have qdl : wr.cell? ⟨qc,1,none⟩ = some (.int .i64 qp):=(blk_cell qa.out 1).trans rfl
        have qdk : wr.cell? ⟨qc,2,none⟩ = some (.slice wk qh.length wg):=(blk_cell qa.out 2).trans rfl
        have qdj : wr.cell? ⟨qc,3,none⟩ = some (.slice wj qf.length we):=(blk_cell qa.out 3).trans rfl
        have qdi : wr.cell? ⟨qc,4,none⟩ = some (.slice wi ql.length wd):=(blk_cell qa.out 4).trans rfl
        have qdh : wr.cell? ⟨qc,5,none⟩ = some (.slice wh qo.length wb):=(blk_cell qa.out 5).trans rfl
        have qci:=blk_frozen qa.out 0
        have qch:=blk_frozen qa.out 1
        have qcg:=blk_frozen qa.out 2
        have qcf:=blk_frozen qa.out 3
        have qce:=blk_frozen qa.out 4
        have qcd:=blk_frozen qa.out 5
        have qat : 0 ≤ (qw : Int):=of_decide_eq_true (by first|(with_reducible assumption)|assumption)
        have qar : qw < (qh.length : Int):=of_decide_eq_true (by first|(with_reducible assumption)|assumption)
        obtain ⟨qfc,qeu,wo,wn⟩:=at_T104 qeo.out qw qat qar
        cases qeu
        replace wo:=(HB.out.cell (World.block_lt_of_cell? w _ wo)).trans wo
        replace wn:=(HB.out.cell (World.block_lt_of_cell? w _ wn)).trans wn
        replace qat:=eq_true qat
        replace qar:=eq_true qar
        have qdg : wr.cell? ⟨qd,0,none⟩ = some (.int .i64 qv):=(blk_cell qb.out 0).trans rfl
        have qdf : wr.cell? ⟨qd,1,none⟩ = some (.int .i64 qu):=(blk_cell qb.out 1).trans rfl
        have qde : wr.cell? ⟨qd,2,none⟩ = some (.slice uh qi.length ud):=(blk_cell qb.out 2).trans rfl
        have qdd : wr.cell? ⟨qd,3,none⟩ = some (.slice ug qg.length uc):=(blk_cell qb.out 3).trans rfl
        have qdc : wr.cell? ⟨qd,4,none⟩ = some (.slice uf qr.length ub):=(blk_cell qb.out 4).trans rfl
        have qdb : wr.cell? ⟨qd,5,none⟩ = some (.slice ue qt.length ua):=(blk_cell qb.out 5).trans rfl
        have qcc:=blk_frozen qb.out 0
        have qcb:=blk_frozen qb.out 1
        have qca:=blk_frozen qb.out 2
        have qbz:=blk_frozen qb.out 3
        have qby:=blk_frozen qb.out 4
        have qbx:=blk_frozen qb.out 5
        have qas : 0 ≤ (qw : Int):=of_decide_eq_true (by first|(with_reducible assumption)|assumption)
        have qaq : qw < (qi.length : Int):=of_decide_eq_true (by first|(with_reducible assumption)|assumption)
        obtain ⟨qfb,qet,wm,wl⟩:=at_T104 qem.out qw qas qaq
        cases qet
        replace wm:=(HB.out.cell (World.block_lt_of_cell? w _ wm)).trans wm
        replace wl:=(HB.out.cell (World.block_lt_of_cell? w _ wl)).trans wl
        replace qas:=eq_true qas
        replace qaq:=eq_true qaq
        go_wp2
        repeat (go_quiet (fail);try go_wp2)
        go_ret
        exact ⟨by first|rfl|(simp [errW_none,errW_some] <;> rfl)|(simp [*,errW_none,errW_some] <;> rfl),by repeat (first|(with_reducible first|exact HB.out|apply below_alloc|apply pw_below_drewN|apply below_drew1|refine below_set ?_ qx.out|refine below_set ?_ qy.out)|exact HB.out)⟩
       ·rw [if_neg c25] at H
        have qej : (!(((rd_T104 qh qw).f0) == ((rd_T104 qi qw).f0)) || (!(((rd_T104 qh qw).f1) == ((rd_T104 qi qw).f1)))) = false:=by simpa using c25
        clear c25
        have H':=Aside0.mk H
        clear H
        have qjo:=qk.out
        have qje:=qj.out
        have qda : wr.cell? ⟨qc,0,none⟩ = some (.int .i64 qq):=(blk_cell qa.out 0).trans rfl
        have qcz : wr.cell? ⟨qc,1,none⟩ = some (.int .i64 qp):=(blk_cell qa.out 1).trans rfl
        have qcy : wr.cell? ⟨qc,2,none⟩ = some (.slice wk qh.length wg):=(blk_cell qa.out 2).trans rfl
        have qcx : wr.cell? ⟨qc,3,none⟩ = some (.slice wj qf.length we):=(blk_cell qa.out 3).trans rfl
        have qcw : wr.cell? ⟨qc,4,none⟩ = some (.slice wi ql.length wd):=(blk_cell qa.out 4).trans rfl
        have qcv : wr.cell? ⟨qc,5,none⟩ = some (.slice wh qo.length wb):=(blk_cell qa.out 5).trans rfl
        have qbw:=blk_frozen qa.out 0
        have qbv:=blk_frozen qa.out 1
        have qbu:=blk_frozen qa.out 2
        have qbt:=blk_frozen qa.out 3
        have qbs:=blk_frozen qa.out 4
        have qbr:=blk_frozen qa.out 5
        have qat : 0 ≤ (qw : Int):=of_decide_eq_true (by first|(with_reducible assumption)|assumption)
        have qar : qw < (qh.length : Int):=of_decide_eq_true (by first|(with_reducible assumption)|assumption)
        obtain ⟨qfc,qeu,wo,wn⟩:=at_T104 qeo.out qw qat qar
        cases qeu
        replace wo:=(HB.out.cell (World.block_lt_of_cell? w _ wo)).trans wo
        replace wn:=(HB.out.cell (World.block_lt_of_cell? w _ wn)).trans wn
        replace qat:=eq_true qat
        replace qar:=eq_true qar
        have qcu : wr.cell? ⟨qd,0,none⟩ = some (.int .i64 qv):=(blk_cell qb.out 0).trans rfl
        have qct : wr.cell? ⟨qd,1,none⟩ = some (.int .i64 qu):=(blk_cell qb.out 1).trans rfl
        have qcs : wr.cell? ⟨qd,2,none⟩ = some (.slice uh qi.length ud):=(blk_cell qb.out 2).trans rfl
        have qcr : wr.cell? ⟨qd,3,none⟩ = some (.slice ug qg.length uc):=(blk_cell qb.out 3).trans rfl
        have qcq : wr.cell? ⟨qd,4,none⟩ = some (.slice uf qr.length ub):=(blk_cell qb.out 4).trans rfl
        have qcp : wr.cell? ⟨qd,5,none⟩ = some (.slice ue qt.length ua):=(blk_cell qb.out 5).trans rfl
        have qbq:=blk_frozen qb.out 0
        have qbp:=blk_frozen qb.out 1
        have qbo:=blk_frozen qb.out 2
        have qbn:=blk_frozen qb.out 3
        have qbm:=blk_frozen qb.out 4
        have qbl:=blk_frozen qb.out 5
        have qas : 0 ≤ (qw : Int):=of_decide_eq_true (by first|(with_reducible assumption)|assumption)
        have qaq : qw < (qi.length : Int):=of_decide_eq_true (by first|(with_reducible assumption)|assumption)
        obtain ⟨qfb,qet,wm,wl⟩:=at_T104 qem.out qw qas qaq
        cases qet
        replace wm:=(HB.out.cell (World.block_lt_of_cell? w _ wm)).trans wm
        replace wl:=(HB.out.cell (World.block_lt_of_cell? w _ wl)).trans wl
        replace qas:=eq_true qas
        replace qaq:=eq_true qaq
        go_wp2
        repeat (go_quiet (fail);try go_wp2)
        go_roundg k2
        case measure=>have:=HJ2.out;have:=HK2.out;omega
        case rel=>exact ⟨(wrap64 (qw + 1)),(by first|rfl|(simp;done)|(simp [*];done)),H',⟨by have:=HJ2.out;have:=HK2.out;omega⟩,⟨by (with_reducible repeat (first|refine blk_drewN ?_ _|refine blk_drew ?_|refine blk_alloc ?_ _));exact qa.out⟩,⟨by (with_reducible repeat (first|refine blk_drewN ?_ _|refine blk_drew ?_|refine blk_alloc ?_ _));exact qb.out⟩,⟨by repeat (first|(with_reducible first|exact HB.out|apply below_alloc|apply pw_below_drewN|apply below_drew1|refine below_set ?_ qx.out|refine below_set ?_ qy.out)|exact HB.out)⟩⟩
      ·rw [if_neg c22] at H
       have qek : decide (qw < (qh.length : Int)) = false:=decide_eq_false c22
       clear c22
       have H':=Aside0.mk H
       clear H
       have qjn:=qk.out
       have qjd:=qj.out
       have qco : wr.cell? ⟨qc,0,none⟩ = some (.int .i64 qq):=(blk_cell qa.out 0).trans rfl
       have qcn : wr.cell? ⟨qc,1,none⟩ = some (.int .i64 qp):=(blk_cell qa.out 1).trans rfl
       have qcm : wr.cell? ⟨qc,2,none⟩ = some (.slice wk qh.length wg):=(blk_cell qa.out 2).trans rfl
       have qcl : wr.cell? ⟨qc,3,none⟩ = some (.slice wj qf.length we):=(blk_cell qa.out 3).trans rfl
       have qck : wr.cell? ⟨qc,4,none⟩ = some (.slice wi ql.length wd):=(blk_cell qa.out 4).trans rfl
       have qcj : wr.cell? ⟨qc,5,none⟩ = some (.slice wh qo.length wb):=(blk_cell qa.out 5).trans rfl
       have qbk:=blk_frozen qa.out 0
       have qbj:=blk_frozen qa.out 1
       have qbi:=blk_frozen qa.out 2
       have qbh:=blk_frozen qa.out 3
       have qbg:=blk_frozen qa.out 4
       have qbf:=blk_frozen qa.out 5
       go_wp2
       repeat (go_quiet (fail);try go_wp2)
       go_loopg [6] k2 (fun kq v6 w' => ∃ (qe : Int),v6 = .int .i64 qe ∧ Aside0 (laws_lbClient.l1 kq qe qq qp qh qf ql qo qv qu qi qg qr qt = some r) ∧ Aside0 (kq ≤ k2) ∧ Aside0 (w'.heap[qc]? = some (.cells #[.int .i64 qq,.int .i64 qp,(.slice wk qh.length wg),(.slice wj qf.length we),(.slice wi ql.length wd),(.slice wh qo.length wb)] 28 (0,0))) ∧ Aside0 (w'.heap[qd]? = some (.cells #[.int .i64 qv,.int .i64 qu,(.slice uh qi.length ud),(.slice ug qg.length uc),(.slice uf qr.length ub),(.slice ue qt.length ua)] 28 (0,0))) ∧ Aside0 (Below w.heap.size w w'))
       case atStart=>exact ⟨(0),(by first|rfl|(simp;done)|(simp [*];done)),H',⟨Nat.le_refl _⟩,⟨by (with_reducible repeat (first|refine blk_drewN ?_ _|refine blk_drew ?_|refine blk_alloc ?_ _));exact qa.out⟩,⟨by (with_reducible repeat (first|refine blk_drewN ?_ _|refine blk_drew ?_|refine blk_alloc ?_ _));exact qb.out⟩,⟨by repeat (first|(with_reducible first|exact HB.out|apply below_alloc|apply pw_below_drewN|apply below_drew1|refine below_set ?_ qx.out|refine below_set ?_ qy.out)|exact HB.out)⟩⟩
       case round =>
        clear H'
        try clear c1
        try clear c2
        try clear p2
        try clear q2
        try clear hx2
        try clear c3
        try clear c6
        try clear qau
        try clear qds
        try clear p6
        try clear c7
        try clear qdr
        try clear qdq
        try clear c8
        try clear qdp
        try clear qdo
        try clear qdn
        try clear c9
        try clear c12
        try clear c14
        try clear c15
        try clear c18
        try clear p20
        try clear q20
        try clear qjz
        try clear c21
        try clear c22
        try clear qek
        try clear c23
        try clear qey
        try clear c24
        try clear qex
        try clear c25
        try clear qej
        try clear c26
        try clear c29
        try clear c32
        try clear qao
        try clear qan
        try clear qam
        try clear qal
        try clear qak
        try clear qaj
        try clear qai
        try clear qah
        try clear qag
        try clear qaf
        try clear qae
        try clear qad
        try clear qac
        try clear qab
        try clear qaa
        try clear pz
        try clear px
        try clear pw
        try clear pv
        try clear pu
        try clear pt
        try clear pr
        try clear pq
        try clear pp
        try clear po
        try clear pn
        try clear pm
        try clear pl
        try clear pk
        try clear pj
        try clear pi
        try clear ph
        try clear pg
        try clear pf
        try clear pe
        try clear pd
        try clear pc
        try clear pb
        try clear pa
        try clear gz
        try clear gy
        try clear gx
        try clear gw
        try clear gv
        try clear gu
        try clear gt
        try clear gs
        try clear gr
        try clear qdm
        try clear qdl
        try clear qdk
        try clear qdj
        try clear qdi
        try clear qdh
        try clear qdg
        try clear qdf
        try clear qde
        try clear qdd
        try clear qdc
        try clear qdb
        try clear qda
        try clear qcz
        try clear qcy
        try clear qcx
        try clear qcw
        try clear qcv
        try clear qcu
        try clear qct
        try clear qcs
        try clear qcr
        try clear qcq
        try clear qcp
        try clear qco
        try clear qcn
        try clear qcm
        try clear qcl
        try clear qck
        try clear qcj
        try clear gq
        try clear gp
        try clear gn
        try clear gm
        try clear gl
        try clear gj
        try clear gi
        try clear gh
        try clear gg
        try clear gf
        try clear gc
        try clear gb
        try clear ga
        try clear jz
        try clear jy
        try clear jx
        try clear jw
        try clear jv
        try clear ju
        try clear jt
        try clear js
        try clear jr
        try clear jq
        try clear jp
        try clear jo
        try clear jn
        try clear jm
        try clear jl
        try clear jk
        try clear jj
        try clear ji
        try clear jh
        try clear jg
        try clear jf
        try clear je
        try clear jd
        try clear jc
        try clear jb
        try clear ja
        try clear uz
        try clear uy
        try clear ux
        try clear uw
        try clear uv
        try clear uu
        try clear ut
        try clear us
        try clear ur
        try clear qci
        try clear qch
        try clear qcg
        try clear qcf
        try clear qce
        try clear qcd
        try clear qcc
        try clear qcb
        try clear qca
        try clear qbz
        try clear qby
        try clear qbx
        try clear qbw
        try clear qbv
        try clear qbu
        try clear qbt
        try clear qbs
        try clear qbr
        try clear qbq
        try clear qbp
        try clear qbo
        try clear qbn
        try clear qbm
        try clear qbl
        try clear qbk
        try clear qbj
        try clear qbi
        try clear qbh
        try clear qbg
        try clear qbf
        try clear wo
        try clear wn
        try clear wm
        try clear wl
        try clear p2
        try clear qat
        try clear qas
        try clear qar
        try clear qaq
        obtain ⟨qe,rfl,HA,HK3,qa,qb,HB⟩:=hrel
        cases gk with
        | zero=>exact absurd HA.out (by simp [laws_lbClient.l1])
        | succ k3 =>
         have H:=HA.out
         clear HA
         simp only [laws_lbClient.l1] at H
         by_cases c34 : qe < (qf.length : Int)
         rotate_left
         ·rw [if_neg c34] at H
          have qew : decide (qe < (qf.length : Int)) = false:=decide_eq_false c34
          clear c34
          replace H:=Option.bind_eq_some_iff.mp H
          obtain ⟨qbe,qfe,H⟩:=H
          replace H : (if qbe = true then ((laws_lbCalls.f k3 qo qt).bind fun qap=>(some qap)) else (some false)) = some r:=H
          have A44:=Aside0.mk qfe
          clear qfe
          by_cases c45 : qbe = true
          rotate_left
          ·replace c45:=Bool.eq_false_iff.mpr c45
           subst c45
           rw [if_neg (show ¬ (false = true) by decide)] at H
           obtain rfl:=Option.some.inj H
           have qjj:=qk.out
           have qiz:=qj.out
           have qhm : wr.cell? ⟨qc,0,none⟩ = some (.int .i64 qq):=(blk_cell qa.out 0).trans rfl
           have qhl : wr.cell? ⟨qc,1,none⟩ = some (.int .i64 qp):=(blk_cell qa.out 1).trans rfl
           have qhk : wr.cell? ⟨qc,2,none⟩ = some (.slice wk qh.length wg):=(blk_cell qa.out 2).trans rfl
           have qhj : wr.cell? ⟨qc,3,none⟩ = some (.slice wj qf.length we):=(blk_cell qa.out 3).trans rfl
           have qhi : wr.cell? ⟨qc,4,none⟩ = some (.slice wi ql.length wd):=(blk_cell qa.out 4).trans rfl
           have qhh : wr.cell? ⟨qc,5,none⟩ = some (.slice wh qo.length wb):=(blk_cell qa.out 5).trans rfl
           have qfq:=blk_frozen qa.out 0
           have qfp:=blk_frozen qa.out 1
           have qfo:=blk_frozen qa.out 2
           have qfn:=blk_frozen qa.out 3
           have qfm:=blk_frozen qa.out 4
           have qfl:=blk_frozen qa.out 5
           have qhg : wr.cell? ⟨qd,0,none⟩ = some (.int .i64 qv):=(blk_cell qb.out 0).trans rfl
           have qhf : wr.cell? ⟨qd,1,none⟩ = some (.int .i64 qu):=(blk_cell qb.out 1).trans rfl
           have qhe : wr.cell? ⟨qd,2,none⟩ = some (.slice uh qi.length ud):=(blk_cell qb.out 2).trans rfl
           have qhd : wr.cell? ⟨qd,3,none⟩ = some (.slice ug qg.length uc):=(blk_cell qb.out 3).trans rfl
           have qhc : wr.cell? ⟨qd,4,none⟩ = some (.slice uf qr.length ub):=(blk_cell qb.out 4).trans rfl
           have qhb : wr.cell? ⟨qd,5,none⟩ = some (.slice ue qt.length ua):=(blk_cell qb.out 5).trans rfl
           have qfk:=blk_frozen qb.out 0
           have qfj:=blk_frozen qb.out 1
           have qfi:=blk_frozen qb.out 2
           have qfh:=blk_frozen qb.out 3
           have qfg:=blk_frozen qb.out 4
           have qff:=blk_frozen qb.out 5
           go_wp2_with (first|(go_at_call 67;(with_reducible refine (laws_lbCalls.calls k3 _ _ ql _ _ qr false _ ?side1 ?side2 ?side3 ?side4 A44.out).mono ?_);(case side1=>repeat (first|exact (Kd.C_below un.out HB.out)|(with_reducible refine Kd.C_alloc ?_ _)|(with_reducible refine Kd.C_drewN ?_ _)|(with_reducible refine Kd.C_drew ?_)));(case side2=>exact uq.out);(case side3=>repeat (first|exact (Kd.C_below um.out HB.out)|(with_reducible refine Kd.C_alloc ?_ _)|(with_reducible refine Kd.C_drewN ?_ _)|(with_reducible refine Kd.C_drew ?_)));(case side4=>exact uo.out);rintro e w' ⟨rfl,⟨nd,rfl⟩⟩; (try first|exact ⟨rfl,_,World.drewN_drewN _ _ _⟩|exact ⟨rfl,_,Eq.trans (World.drewN_drewN _ _ _) (congrArg (World.drewN _) (Nat.add_assoc _ _ _))⟩)))
           repeat (go_quiet (first|(go_at_call 67;(with_reducible refine (laws_lbCalls.calls k3 _ _ ql _ _ qr false _ ?side1 ?side2 ?side3 ?side4 A44.out).mono ?_);(case side1=>repeat (first|exact (Kd.C_below un.out HB.out)|(with_reducible refine Kd.C_alloc ?_ _)|(with_reducible refine Kd.C_drewN ?_ _)|(with_reducible refine Kd.C_drew ?_)));(case side2=>exact uq.out);(case side3=>repeat (first|exact (Kd.C_below um.out HB.out)|(with_reducible refine Kd.C_alloc ?_ _)|(with_reducible refine Kd.C_drewN ?_ _)|(with_reducible refine Kd.C_drew ?_)));(case side4=>exact uo.out);rintro e w' ⟨rfl,⟨nd,rfl⟩⟩; (try first|exact ⟨rfl,_,World.drewN_drewN _ _ _⟩|exact ⟨rfl,_,Eq.trans (World.drewN_drewN _ _ _) (congrArg (World.drewN _) (Nat.add_assoc _ _ _))⟩)));try go_wp2_with (first|(go_at_call 67;(with_reducible refine (laws_lbCalls.calls k3 _ _ ql _ _ qr false _ ?side1 ?side2 ?side3 ?side4 A44.out).mono ?_);(case side1=>repeat (first|exact (Kd.C_below un.out HB.out)|(with_reducible refine Kd.C_alloc ?_ _)|(with_reducible refine Kd.C_drewN ?_ _)|(with_reducible refine Kd.C_drew ?_)));(case side2=>exact uq.out);(case side3=>repeat (first|exact (Kd.C_below um.out HB.out)|(with_reducible refine Kd.C_alloc ?_ _)|(with_reducible refine Kd.C_drewN ?_ _)|(with_reducible refine Kd.C_drew ?_)));(case side4=>exact uo.out);rintro e w' ⟨rfl,⟨nd,rfl⟩⟩; (try first|exact ⟨rfl,_,World.drewN_drewN _ _ _⟩|exact ⟨rfl,_,Eq.trans (World.drewN_drewN _ _ _) (congrArg (World.drewN _) (Nat.add_assoc _ _ _))⟩))))
           go_ret
           exact ⟨by first|rfl|(simp [errW_none,errW_some] <;> rfl)|(simp [*,errW_none,errW_some] <;> rfl),by repeat (first|(with_reducible first|exact HB.out|apply below_alloc|apply pw_below_drewN|apply below_drew1|refine below_set ?_ qx.out|refine below_set ?_ qy.out)|exact HB.out)⟩
          subst c45
          rw [if_pos rfl] at H
          replace H:=Option.bind_eq_some_iff.mp H
          obtain ⟨qap,qfd,H⟩:=H
          replace H : (some qap) = some r:=H
          have A46:=Aside0.mk qfd
          clear qfd
          obtain rfl:=Option.some.inj H
          have qjk:=qk.out
          have qja:=qj.out
          have qhy : wr.cell? ⟨qc,0,none⟩ = some (.int .i64 qq):=(blk_cell qa.out 0).trans rfl
          have qhx : wr.cell? ⟨qc,1,none⟩ = some (.int .i64 qp):=(blk_cell qa.out 1).trans rfl
          have qhw : wr.cell? ⟨qc,2,none⟩ = some (.slice wk qh.length wg):=(blk_cell qa.out 2).trans rfl
          have qhv : wr.cell? ⟨qc,3,none⟩ = some (.slice wj qf.length we):=(blk_cell qa.out 3).trans rfl
          have qhu : wr.cell? ⟨qc,4,none⟩ = some (.slice wi ql.length wd):=(blk_cell qa.out 4).trans rfl
          have qht : wr.cell? ⟨qc,5,none⟩ = some (.slice wh qo.length wb):=(blk_cell qa.out 5).trans rfl
          have qgc:=blk_frozen qa.out 0
          have qgb:=blk_frozen qa.out 1
          have qga:=blk_frozen qa.out 2
          have qfz:=blk_frozen qa.out 3
          have qfy:=blk_frozen qa.out 4
          have qfx:=blk_frozen qa.out 5
          have qhs : wr.cell? ⟨qd,0,none⟩ = some (.int .i64 qv):=(blk_cell qb.out 0).trans rfl
          have qhr : wr.cell? ⟨qd,1,none⟩ = some (.int .i64 qu):=(blk_cell qb.out 1).trans rfl
          have qhq : wr.cell? ⟨qd,2,none⟩ = some (.slice uh qi.length ud):=(blk_cell qb.out 2).trans rfl
          have qhp : wr.cell? ⟨qd,3,none⟩ = some (.slice ug qg.length uc):=(blk_cell qb.out 3).trans rfl
          have qho : wr.cell? ⟨qd,4,none⟩ = some (.slice uf qr.length ub):=(blk_cell qb.out 4).trans rfl
          have qhn : wr.cell? ⟨qd,5,none⟩ = some (.slice ue qt.length ua):=(blk_cell qb.out 5).trans rfl
          have qfw:=blk_frozen qb.out 0
          have qfv:=blk_frozen qb.out 1
          have qfu:=blk_frozen qb.out 2
          have qft:=blk_frozen qb.out 3
          have qfs:=blk_frozen qb.out 4
          have qfr:=blk_frozen qb.out 5
          go_wp2_with (first|(go_at_call 67;(with_reducible refine (laws_lbCalls.calls k3 _ _ ql _ _ qr true _ ?side1 ?side2 ?side3 ?side4 A44.out).mono ?_);(case side1=>repeat (first|exact (Kd.C_below un.out HB.out)|(with_reducible refine Kd.C_alloc ?_ _)|(with_reducible refine Kd.C_drewN ?_ _)|(with_reducible refine Kd.C_drew ?_)));(case side2=>exact uq.out);(case side3=>repeat (first|exact (Kd.C_below um.out HB.out)|(with_reducible refine Kd.C_alloc ?_ _)|(with_reducible refine Kd.C_drewN ?_ _)|(with_reducible refine Kd.C_drew ?_)));(case side4=>exact uo.out);rintro e w' ⟨rfl,⟨nd,rfl⟩⟩; (try first|exact ⟨rfl,_,World.drewN_drewN _ _ _⟩|exact ⟨rfl,_,Eq.trans (World.drewN_drewN _ _ _) (congrArg (World.drewN _) (Nat.add_assoc _ _ _))⟩))|(go_at_call 67;(with_reducible refine (laws_lbCalls.calls k3 _ _ qo _ _ qt qap _ ?side1 ?side2 ?side3 ?side4 A46.out).mono ?_);(case side1=>repeat (first|exact (Kd.C_below qbb.out z14x2)|(with_reducible refine Kd.C_alloc ?_ _)|(with_reducible refine Kd.C_drewN ?_ _)|(with_reducible refine Kd.C_drew ?_)));(case side2=>exact qbd.out);(case side3=>repeat (first|exact (Kd.C_below qba.out z14x2)|(with_reducible refine Kd.C_alloc ?_ _)|(with_reducible refine Kd.C_drewN ?_ _)|(with_reducible refine Kd.C_drew ?_)));(case side4=>exact qbc.out);rintro e w' ⟨rfl,⟨nd,rfl⟩⟩; (try first|exact ⟨rfl,_,World.drewN_drewN _ _ _⟩|exact ⟨rfl,_,Eq.trans (World.drewN_drewN _ _ _) (congrArg (World.drewN _) (Nat.add_assoc _ _ _))⟩)))
          repeat (go_quiet (first|(go_at_call 67;(with_reducible refine (laws_lbCalls.calls k3 _ _ ql _ _ qr true _ ?side1 ?side2 ?side3 ?side4 A44.out).mono ?_);(case side1=>repeat (first|exact (Kd.C_below un.out HB.out)|(with_reducible refine Kd.C_alloc ?_ _)|(with_reducible refine Kd.C_drewN ?_ _)|(with_reducible refine Kd.C_drew ?_)));(case side2=>exact uq.out);(case side3=>repeat (first|exact (Kd.C_below um.out HB.out)|(with_reducible refine Kd.C_alloc ?_ _)|(with_reducible refine Kd.C_drewN ?_ _)|(with_reducible refine Kd.C_drew ?_)));(case side4=>exact uo.out);rintro e w' ⟨rfl,⟨nd,rfl⟩⟩; (try first|exact ⟨rfl,_,World.drewN_drewN _ _ _⟩|exact ⟨rfl,_,Eq.trans (World.drewN_drewN _ _ _) (congrArg (World.drewN _) (Nat.add_assoc _ _ _))⟩))|(go_at_call 67;(with_reducible refine (laws_lbCalls.calls k3 _ _ qo _ _ qt qap _ ?side1 ?side2 ?side3 ?side4 A46.out).mono ?_);(case side1=>repeat (first|exact (Kd.C_below qbb.out z14x2)|(with_reducible refine Kd.C_alloc ?_ _)|(with_reducible refine Kd.C_drewN ?_ _)|(with_reducible refine Kd.C_drew ?_)));(case side2=>exact qbd.out);(case side3=>repeat (first|exact (Kd.C_below qba.out z14x2)|(with_reducible refine Kd.C_alloc ?_ _)|(with_reducible refine Kd.C_drewN ?_ _)|(with_reducible refine Kd.C_drew ?_)));(case side4=>exact qbc.out);rintro e w' ⟨rfl,⟨nd,rfl⟩⟩; (try first|exact ⟨rfl,_,World.drewN_drewN _ _ _⟩|exact ⟨rfl,_,Eq.trans (World.drewN_drewN _ _ _) (congrArg (World.drewN _) (Nat.add_assoc _ _ _))⟩)));try go_wp2_with (first|(go_at_call 67;(with_reducible refine (laws_lbCalls.calls k3 _ _ ql _ _ qr true _ ?side1 ?side2 ?side3 ?side4 A44.out).mono ?_);(case side1=>repeat (first|exact (Kd.C_below un.out HB.out)|(with_reducible refine Kd.C_alloc ?_ _)|(with_reducible refine Kd.C_drewN ?_ _)|(with_reducible refine Kd.C_drew ?_)));(case side2=>exact uq.out);(case side3=>repeat (first|exact (Kd.C_below um.out HB.out)|(with_reducible refine Kd.C_alloc ?_ _)|(with_reducible refine Kd.C_drewN ?_ _)|(with_reducible refine Kd.C_drew ?_)));(case side4=>exact uo.out);rintro e w' ⟨rfl,⟨nd,rfl⟩⟩; (try first|exact ⟨rfl,_,World.drewN_drewN _ _ _⟩|exact ⟨rfl,_,Eq.trans (World.drewN_drewN _ _ _) (congrArg (World.drewN _) (Nat.add_assoc _ _ _))⟩))|(go_at_call 67;(with_reducible refine (laws_lbCalls.calls k3 _ _ qo _ _ qt qap _ ?side1 ?side2 ?side3 ?side4 A46.out).mono ?_);(case side1=>repeat (first|exact (Kd.C_below qbb.out z14x2)|(with_reducible refine Kd.C_alloc ?_ _)|(with_reducible refine Kd.C_drewN ?_ _)|(with_reducible refine Kd.C_drew ?_)));(case side2=>exact qbd.out);(case side3=>repeat (first|exact (Kd.C_below qba.out z14x2)|(with_reducible refine Kd.C_alloc ?_ _)|(with_reducible refine Kd.C_drewN ?_ _)|(with_reducible refine Kd.C_drew ?_)));(case side4=>exact qbc.out);rintro e w' ⟨rfl,⟨nd,rfl⟩⟩; (try first|exact ⟨rfl,_,World.drewN_drewN _ _ _⟩|exact ⟨rfl,_,Eq.trans (World.drewN_drewN _ _ _) (congrArg (World.drewN _) (Nat.add_assoc _ _ _))⟩))))
          go_ret
          exact ⟨by first|rfl|(simp [errW_none,errW_some] <;> rfl)|(simp [*,errW_none,errW_some] <;> rfl),by repeat (first|(with_reducible first|exact HB.out|apply below_alloc|apply pw_below_drewN|apply below_drew1|refine below_set ?_ qx.out|refine below_set ?_ qy.out)|exact HB.out)⟩
         rw [if_pos c34] at H
         have qew : decide (qe < (qf.length : Int)) = true:=decide_eq_true c34
         clear c34
         by_cases c35 : 0 ≤ qe
         rotate_left
         ·rw [if_neg c35] at H
          exact absurd H (by simp)
         rw [if_pos c35] at H
         have qju : decide (0 ≤ qe) = true:=decide_eq_true c35
         clear c35
         by_cases c36 : qe < (qg.length : Int)
         rotate_left
         ·rw [if_neg c36] at H
          exact absurd H (by simp)
         rw [if_pos c36] at H
         have qjt : decide (qe < (qg.length : Int)) = true:=decide_eq_true c36
         clear c36
         by_cases c37 : (!(((rd_T106 qf qe).f0) == ((rd_T106 qg qe).f0)) || (!(((rd_T106 qf qe).f1) == ((rd_T106 qg qe).f1)) || (!(((rd_T106 qf qe).f2) == ((rd_T106 qg qe).f2)) || ((!(((rd_T106 qf qe).f3.f0) == ((rd_T106 qg qe).f3.f0)) || (!(((rd_T106 qf qe).f3.f1) == ((rd_T106 qg qe).f3.f1)) || (!(((rd_T106 qf qe).f3.f2) == ((rd_T106 qg qe).f3.f2)) || (!(((rd_T106 qf qe).f3.f3) == ((rd_T106 qg qe).f3.f3)) || (!(((rd_T106 qf qe).f3.f4) == ((rd_T106 qg qe).f3.f4)) || (!(((rd_T106 qf qe).f3.f5) == ((rd_T106 qg qe).f3.f5)) || (!(((rd_T106 qf qe).f3.f6) == ((rd_T106 qg qe).f3.f6))))))))))))) = true
         ·rw [if_pos c37] at H
          have qev : (!(((rd_T106 qf qe).f0) == ((rd_T106 qg qe).f0)) || (!(((rd_T106 qf qe).f1) == ((rd_T106 qg qe).f1)) || (!(((rd_T106 qf qe).f2) == ((rd_T106 qg qe).f2)) || ((!(((rd_T106 qf qe).f3.f0) == ((rd_T106 qg qe).f3.f0)) || (!(((rd_T106 qf qe).f3.f1) == ((rd_T106 qg qe).f3.f1)) || (!(((rd_T106 qf qe).f3.f2) == ((rd_T106 qg qe).f3.f2)) || (!(((rd_T106 qf qe).f3.f3) == ((rd_T106 qg qe).f3.f3)) || (!(((rd_T106 qf qe).f3.f4) == ((rd_T106 qg qe).f3.f4)) || (!(((rd_T106 qf qe).f3.f5) == ((rd_T106 qg qe).f3.f5)) || (!(((rd_T106 qf qe).f3.f6) == ((rd_T106 qg qe).f3.f6))))))))))))) = true:=c37
          clear c37
          obtain rfl:=Option.some.inj H
          have qjm:=qk.out
          have qjc:=qj.out
          have qiw : wr.cell? ⟨qc,0,none⟩ = some (.int .i64 qq):=(blk_cell qa.out 0).trans rfl
          have qiv : wr.cell? ⟨qc,1,none⟩ = some (.int .i64 qp):=(blk_cell qa.out 1).trans rfl
          have qiu : wr.cell? ⟨qc,2,none⟩ = some (.slice wk qh.length wg):=(blk_cell qa.out 2).trans rfl
          have qit : wr.cell? ⟨qc,3,none⟩ = some (.slice wj qf.length we):=(blk_cell qa.out 3).trans rfl
          have qis : wr.cell? ⟨qc,4,none⟩ = some (.slice wi ql.length wd):=(blk_cell qa.out 4).trans rfl
          have qir : wr.cell? ⟨qc,5,none⟩ = some (.slice wh qo.length wb):=(blk_cell qa.out 5).trans rfl
          have qha:=blk_frozen qa.out 0
          have qgz:=blk_frozen qa.out 1
          have qgy:=blk_frozen qa.out 2
          have qgx:=blk_frozen qa.out 3
          have qgw:=blk_frozen qa.out 4
          have qgv:=blk_frozen qa.out 5
          have qay : 0 ≤ (qe : Int):=of_decide_eq_true (by first|(with_reducible assumption)|assumption)
          have qaw : qe < (qf.length : Int):=of_decide_eq_true (by first|(with_reducible assumption)|assumption)
          obtain ⟨qfa,qes,vz,vy,vx,vw,vv,vu,vt,vr,vq,vp⟩:=at_T106 qen.out qe qay qaw
          cases qes
          replace vz:=(HB.out.cell (World.block_lt_of_cell? w _ vz)).trans vz
          replace vy:=(HB.out.cell (World.block_lt_of_cell? w _ vy)).trans vy
          replace vx:=(HB.out.cell (World.block_lt_of_cell? w _ vx)).trans vx
          replace vw:=(HB.out.cell (World.block_lt_of_cell? w _ vw)).trans vw
          replace vv:=(HB.out.cell (World.block_lt_of_cell? w _ vv)).trans vv
          replace vu:=(HB.out.cell (World.block_lt_of_cell? w _ vu)).trans vu
          replace vt:=(HB.out.cell (World.block_lt_of_cell? w _ vt)).trans vt
          replace vr:=(HB.out.cell (World.block_lt_of_cell? w _ vr)).trans vr
          replace vq:=(HB.out.cell (World.block_lt_of_cell? w _ vq)).trans vq
          replace vp:=(HB.out.cell (World.block_lt_of_cell? w _ vp)).trans vp
          replace qay:=eq_true qay
          replace qaw:=eq_true qaw
          have qiq : wr.cell? ⟨qd,0,none⟩ = some (.int .i64 qv):=(blk_cell qb.out 0).trans rfl
          have qip : wr.cell? ⟨qd,1,none⟩ = some (.int .i64 qu):=(blk_cell qb.out 1).trans rfl
          have qio : wr.cell? ⟨qd,2,none⟩ = some (.slice uh qi.length ud):=(blk_cell qb.out 2).trans rfl
          have qin : wr.cell? ⟨qd,3,none⟩ = some (.slice ug qg.length uc):=(blk_cell qb.out 3).trans rfl
          have qim : wr.cell? ⟨qd,4,none⟩ = some (.slice uf qr.length ub):=(blk_cell qb.out 4).trans rfl
          have qil : wr.cell? ⟨qd,5,none⟩ = some (.slice ue qt.length ua):=(blk_cell qb.out 5).trans rfl
          have qgu:=blk_frozen qb.out 0
          have qgt:=blk_frozen qb.out 1
          have qgs:=blk_frozen qb.out 2
          have qgr:=blk_frozen qb.out 3
          have qgq:=blk_frozen qb.out 4
          have qgp:=blk_frozen qb.out 5
          have qax : 0 ≤ (qe : Int):=of_decide_eq_true (by first|(with_reducible assumption)|assumption)
          have qav : qe < (qg.length : Int):=of_decide_eq_true (by first|(with_reducible assumption)|assumption)
          obtain ⟨qez,qer,vo,vn,vm,vl,vk,wz,wy,wx,ww,wv⟩:=at_T106 qel.out qe qax qav
          cases qer
          replace vo:=(HB.out.cell (World.block_lt_of_cell? w _ vo)).trans vo
          replace vn:=(HB.out.cell (World.block_lt_of_cell? w _ vn)).trans vn
          replace vm:=(HB.out.cell (World.block_lt_of_cell? w _ vm)).trans vm
          replace vl:=(HB.out.cell (World.block_lt_of_cell? w _ vl)).trans vl
          replace vk:=(HB.out.cell (World.block_lt_of_cell? w _ vk)).trans vk
          replace wz:=(HB.out.cell (World.block_lt_of_cell? w _ wz)).trans wz
          replace wy:=(HB.out.cell (World.block_lt_of_cell? w _ wy)).trans wy
          replace wx:=(HB.out.cell (World.block_lt_of_cell? w _ wx)).trans wx
          replace ww:=(HB.out.cell (World.block_lt_of_cell? w _ ww)).trans ww
          replace wv:=(HB.out.cell (World.block_lt_of_cell? w _ wv)).trans wv
          replace qax:=eq_true qax
          replace qav:=eq_true qav
          go_wp2
          repeat (go_quiet (fail);try go_wp2)
          go_ret
          exact ⟨by first|rfl|(simp [errW_none,errW_some] <;> rfl)|(simp [*,errW_none,errW_some] <;> rfl),by repeat (first|(with_reducible first|exact HB.out|apply below_alloc|apply pw_below_drewN|apply below_drew1|refine below_set ?_ qx.out|refine below_set ?_ qy.out)|exact HB.out)⟩
         ·rw [if_neg c37] at H
          have qev : (!(((rd_T106 qf qe).f0) == ((rd_T106 qg qe).f0)) || (!(((rd_T106 qf qe).f1) == ((rd_T106 qg qe).f1)) || (!(((rd_T106 qf qe).f2) == ((rd_T106 qg qe).f2)) || ((!(((rd_T106 qf qe).f3.f0) == ((rd_T106 qg qe).f3.f0)) || (!(((rd_T106 qf qe).f3.f1) == ((rd_T106 qg qe).f3.f1)) || (!(((rd_T106 qf qe).f3.f2) == ((rd_T106 qg qe).f3.f2)) || (!(((rd_T106 qf qe).f3.f3) == ((rd_T106 qg qe).f3.f3)) || (!(((rd_T106 qf qe).f3.f4) == ((rd_T106 qg qe).f3.f4)) || (!(((rd_T106 qf qe).f3.f5) == ((rd_T106 qg qe).f3.f5)) || (!(((rd_T106 qf qe).f3.f6) == ((rd_T106 qg qe).f3.f6))))))))))))) = false:=by simpa using c37
          clear c37
          have H':=Aside0.mk H
          clear H
          have qjl:=qk.out
          have qjb:=qj.out
          have qik : wr.cell? ⟨qc,0,none⟩ = some (.int .i64 qq):=(blk_cell qa.out 0).trans rfl
          have qij : wr.cell? ⟨qc,1,none⟩ = some (.int .i64 qp):=(blk_cell qa.out 1).trans rfl
          have qii : wr.cell? ⟨qc,2,none⟩ = some (.slice wk qh.length wg):=(blk_cell qa.out 2).trans rfl
          have qih : wr.cell? ⟨qc,3,none⟩ = some (.slice wj qf.length we):=(blk_cell qa.out 3).trans rfl
          have qig : wr.cell? ⟨qc,4,none⟩ = some (.slice wi ql.length wd):=(blk_cell qa.out 4).trans rfl
          have qif : wr.cell? ⟨qc,5,none⟩ = some (.slice wh qo.length wb):=(blk_cell qa.out 5).trans rfl
          have qgo:=blk_frozen qa.out 0
          have qgn:=blk_frozen qa.out 1
          have qgm:=blk_frozen qa.out 2
          have qgl:=blk_frozen qa.out 3
          have qgk:=blk_frozen qa.out 4
          have qgj:=blk_frozen qa.out 5
          have qay : 0 ≤ (qe : Int):=of_decide_eq_true (by first|(with_reducible assumption)|assumption)
          have qaw : qe < (qf.length : Int):=of_decide_eq_true (by first|(with_reducible assumption)|assumption)
          obtain ⟨qfa,qes,vz,vy,vx,vw,vv,vu,vt,vr,vq,vp⟩:=at_T106 qen.out qe qay qaw
          cases qes
          replace vz:=(HB.out.cell (World.block_lt_of_cell? w _ vz)).trans vz
          replace vy:=(HB.out.cell (World.block_lt_of_cell? w _ vy)).trans vy
          replace vx:=(HB.out.cell (World.block_lt_of_cell? w _ vx)).trans vx
          replace vw:=(HB.out.cell (World.block_lt_of_cell? w _ vw)).trans vw
          replace vv:=(HB.out.cell (World.block_lt_of_cell? w _ vv)).trans vv
          replace vu:=(HB.out.cell (World.block_lt_of_cell? w _ vu)).trans vu
          replace vt:=(HB.out.cell (World.block_lt_of_cell? w _ vt)).trans vt
          replace vr:=(HB.out.cell (World.block_lt_of_cell? w _ vr)).trans vr
          replace vq:=(HB.out.cell (World.block_lt_of_cell? w _ vq)).trans vq
          replace vp:=(HB.out.cell (World.block_lt_of_cell? w _ vp)).trans vp
          replace qay:=eq_true qay
          replace qaw:=eq_true qaw
          have qie : wr.cell? ⟨qd,0,none⟩ = some (.int .i64 qv):=(blk_cell qb.out 0).trans rfl
          have qid : wr.cell? ⟨qd,1,none⟩ = some (.int .i64 qu):=(blk_cell qb.out 1).trans rfl
          have qic : wr.cell? ⟨qd,2,none⟩ = some (.slice uh qi.length ud):=(blk_cell qb.out 2).trans rfl
          have qib : wr.cell? ⟨qd,3,none⟩ = some (.slice ug qg.length uc):=(blk_cell qb.out 3).trans rfl
          have qia : wr.cell? ⟨qd,4,none⟩ = some (.slice uf qr.length ub):=(blk_cell qb.out 4).trans rfl
          have qhz : wr.cell? ⟨qd,5,none⟩ = some (.slice ue qt.length ua):=(blk_cell qb.out 5).trans rfl
          have qgi:=blk_frozen qb.out 0
          have qgh:=blk_frozen qb.out 1
          have qgg:=blk_frozen qb.out 2
          have qgf:=blk_frozen qb.out 3
          have qge:=blk_frozen qb.out 4
          have qgd:=blk_frozen qb.out 5
          have qax : 0 ≤ (qe : Int):=of_decide_eq_true (by first|(with_reducible assumption)|assumption)
          have qav : qe < (qg.length : Int):=of_decide_eq_true (by first|(with_reducible assumption)|assumption)
          obtain ⟨qez,qer,vo,vn,vm,vl,vk,wz,wy,wx,ww,wv⟩:=at_T106 qel.out qe qax qav
          cases qer
          replace vo:=(HB.out.cell (World.block_lt_of_cell? w _ vo)).trans vo
          replace vn:=(HB.out.cell (World.block_lt_of_cell? w _ vn)).trans vn
          replace vm:=(HB.out.cell (World.block_lt_of_cell? w _ vm)).trans vm
          replace vl:=(HB.out.cell (World.block_lt_of_cell? w _ vl)).trans vl
          replace vk:=(HB.out.cell (World.block_lt_of_cell? w _ vk)).trans vk
          replace wz:=(HB.out.cell (World.block_lt_of_cell? w _ wz)).trans wz
          replace wy:=(HB.out.cell (World.block_lt_of_cell? w _ wy)).trans wy
          replace wx:=(HB.out.cell (World.block_lt_of_cell? w _ wx)).trans wx
          replace ww:=(HB.out.cell (World.block_lt_of_cell? w _ ww)).trans ww
          replace wv:=(HB.out.cell (World.block_lt_of_cell? w _ wv)).trans wv
          replace qax:=eq_true qax
          replace qav:=eq_true qav
          go_wp2
          repeat (go_quiet (fail);try go_wp2)
          go_roundg k3
          case measure=>have:=HJ2.out;have:=HK2.out;have:=HK3.out;omega
          case rel=>exact ⟨(wrap64 (qe + 1)),(by first|rfl|(simp;done)|(simp [*];done)),H',⟨by have:=HJ2.out;have:=HK2.out;have:=HK3.out;omega⟩,⟨by (with_reducible repeat (first|refine blk_drewN ?_ _|refine blk_drew ?_|refine blk_alloc ?_ _));exact qa.out⟩,⟨by (with_reducible repeat (first|refine blk_drewN ?_ _|refine blk_drew ?_|refine blk_alloc ?_ _));exact qb.out⟩,⟨by repeat (first|(with_reducible first|exact HB.out|apply below_alloc|apply pw_below_drewN|apply below_drew1|refine below_set ?_ qx.out|refine below_set ?_ qy.out)|exact HB.out)⟩⟩

end Go.Proofs.Ytbipicjijbnbbaa.Hp
