-- hp.py
import Derived.Test.YtbipicjijbnbbaaHx0
import Derived.Test.YtbipicjijbnbbaaHx3
import Derived.Test.YtbipicjijbnbbaaHx9
import Derived.Test.YtbipicjijbnbbaaHx12
import Derived.Test.YtbipicjijbnbbaaHx13
namespace Go.Proofs.Ytbipicjijbnbbaa.Hp
open Go.RowKit Go.Proofs.YtbipicjijbnbbaaW.PrintWords Go.Proofs.YtbipicjijbnbbaaW.PrintLast Go.Proofs.YtbipicjijbnbbaaW.PrintMore
attribute [local go_sem] max2_int min2_int max_two min_two max_three min_three max_four min_four   -- for this text's walks alone
set_option linter.unusedVariables false
set_option linter.unusedSimpArgs false
theorem z14a {P : Prop} (h : P:=by simp only [Act.put,List.setIfInBounds_toArray,List.set_cons_zero,List.set_cons_succ,i64_w,i32_w];rfl) : P:=h
-- squeezed by wip/tools/squeeze.py
theorem z14x13 {P : Prop} (h : P:=by (with_reducible repeat (first|refine blk_drewN ?_ _|refine blk_drew ?_|refine blk_alloc ?_ _));exact qe.out) : P:=h
theorem z14x12 {P : Prop} (h : P:=by (with_reducible repeat (first|refine blk_drewN ?_ _|refine blk_drew ?_|refine blk_alloc ?_ _));exact qj.out) : P:=h
theorem z14x11 {P : Prop} (h : P:=by (with_reducible repeat (first|refine blk_drewN ?_ _|refine blk_drew ?_|refine blk_alloc ?_ _));exact qh.out) : P:=h
theorem z14x10 {P : Prop} (h : P:=by (with_reducible repeat (first|refine blk_drewN ?_ _|refine blk_drew ?_|refine blk_alloc ?_ _));exact qg.out) : P:=h
theorem z14x9 {P : Prop} (h : P:=by repeat (first|(with_reducible first|exact HB.out|apply below_alloc|apply pw_below_drewN|apply below_drew1)|exact HB.out)) : P:=h
theorem z14x8 {P : Prop} (h : P:=by (try simp only [List.map_toArray,List.map_cons,List.map_nil]);first|done|rfl|(simp only [List.length_drop,List.length_take];rfl)) : P:=h
theorem z14x7 {P : Prop} (h : P:=by rw [hg];exact (below_size (by repeat (first|(with_reducible first|exact HB.out|apply below_alloc|apply pw_below_drewN|apply below_drew1|refine below_set ?_ wa.out)|exact HB.out)))) : P:=h
theorem z14x6 {P : Prop} (h : P:=by rw [hg];exact (below_size (by repeat (first|(with_reducible first|exact HB.out|apply below_alloc|apply pw_below_drewN|apply below_drew1|refine below_set ?_ wa.out|refine below_set ?_ we.out)|exact HB.out)))) : P:=h
theorem z14x5 {P : Prop} (h : P:=by rw [hg];exact Nat.ne_of_lt (blk_lt (g:=qm) (o:=.cells #[.int .i64 qp,.slice wd ql.length wb] 64 (0,0)) (by (with_reducible repeat (first|refine blk_drewN ?_ _|refine blk_drew ?_|refine blk_alloc ?_ _));exact qg.out))) : P:=h
theorem z14x4 {P : Prop} (h : P:=by rw [hg];exact Nat.ne_of_gt (blk_lt (g:=qm) (o:=.cells #[.int .i64 qp,.slice wd ql.length wb] 64 (0,0)) (by (with_reducible repeat (first|refine blk_drewN ?_ _|refine blk_drew ?_|refine blk_alloc ?_ _));exact qg.out))) : P:=h
theorem z14x3 {P : Prop} (h : P:=by rw [hg];exact (below_size (by repeat (first|(with_reducible first|exact HB.out|apply below_alloc|apply pw_below_drewN|apply below_drew1|refine below_set ?_ wa.out|refine below_set ?_ we.out|refine below_set ?_ wk.out)|exact HB.out)))) : P:=h
theorem z14x2 {P : Prop} (h : P:=by repeat (first|(with_reducible first|exact HB.out|apply below_alloc|apply pw_below_drewN|apply below_drew1|refine below_set ?_ wa.out|refine below_set ?_ we.out|refine below_set ?_ wk.out|refine below_set ?_ wn.out)|exact HB.out)) : P:=h
theorem z14x1 {P : Prop} (h : P:=by rw [hg];exact Nat.ne_of_lt (blk_lt (g:=qo) (o:=.cells #[.int .i64 qx,.int .i64 qw,.int .i64 qv,.int .i64 qu,.slice wi qr.length wg] 34 (0,0)) (by (with_reducible repeat (first|refine blk_drewN ?_ _|refine blk_drew ?_|refine blk_alloc ?_ _));exact qh.out))) : P:=h
theorem z14x0 {P : Prop} (h : P:=by rw [hg];exact Nat.ne_of_gt (blk_lt (g:=qo) (o:=.cells #[.int .i64 qx,.int .i64 qw,.int .i64 qv,.int .i64 qu,.slice wi qr.length wg] 34 (0,0)) (by (with_reducible repeat (first|refine blk_drewN ?_ _|refine blk_drew ?_|refine blk_alloc ?_ _));exact qh.out))) : P:=h

/-! ### spec_KdcAs: function 53 -/
def spec_KdcAs.j0 : Nat → Int → Bool → Int → List (S41) → Int → Int → Int → Int → List (S41) → Option (Int × (List (S41)) × Int × Int × Int × Int × (List (S41)) × Bool)
 | 0,_,_,_,_,_,_,_,_,_=>none
 | k + 1,x2,x16,vt,vr,vq,vp,vo,vn,vm=>if x16 = true then (some (0,([] : List (S41)),0,0,0,0,([] : List (S41)),false)) else ((spec_l11Copy.f vt vr).bind fun uh=>((spec_l11As.f uh.1 uh.2 vq vp vo vn vm x2).bind fun qt=>(some (qt.1,qt.2.1,qt.2.2.1,qt.2.2.2.1,qt.2.2.2.2.1,qt.2.2.2.2.2.1,qt.2.2.2.2.2.2.1,qt.2.2.2.2.2.2.2))))
def spec_KdcAs.f (k : Nat) (qp : Int) (ql : List (S41)) (qx : Int) (qw : Int) (qv : Int) (qu : Int) (qr : List (S41)) (a2 : Int) : Option (Int × (List (S41)) × Int × Int × Int × Int × (List (S41)) × Bool):=(spec_KdcOk.f k qp ql).bind fun wx=>(if wx = true then ((spec_l1Time.f a2).bind fun wq=>(spec_KdcAs.j0 k a2 (!wq) qp ql qx qw qv qu qr)) else (spec_KdcAs.j0 k a2 true qp ql qx qw qv qu qr))
theorem spec_KdcAs.mono_l : ∀ k,(∀ y0 y1 y2 y3 y4 y5 y6 y7 y8,LeO (spec_KdcAs.j0 k y0 y1 y2 y3 y4 y5 y6 y7 y8) (spec_KdcAs.j0 (k + 1) y0 y1 y2 y3 y4 y5 y6 y7 y8))
 | 0=>fun _ _ _ _ _ _ _ _ _ r h=>by simp [spec_KdcAs.j0] at h
 | k + 1=>by
  have ih0:=spec_KdcAs.mono_l k
  ·intro y0 y1 y2 y3 y4 y5 y6 y7 y8
   unfold spec_KdcAs.j0
   repeat' first
   | (with_reducible exact ih0 _ _ _ _ _ _ _ _ _)
   | (with_reducible exact spec_KdcOk.mono _ _ _)
   | (with_reducible exact LeO.refl _)
   | (with_reducible exact LeO.none _)
   | (with_reducible refine LeO.ite ?_ ?_)
   | (with_reducible refine LeO.bind ?_ (fun _=>?_))
   | exact ih0 _ _ _ _ _ _ _ _ _
   | exact spec_KdcOk.mono _ _ _
   | exact LeO.none _
   | refine LeO.ite ?_ ?_
   | refine LeO.bind ?_ (fun _=>?_)
theorem spec_KdcAs.mono : ∀ a0 a1 a2 a3 a4 a5 a6 a7 k,LeO (spec_KdcAs.f k a0 a1 a2 a3 a4 a5 a6 a7) (spec_KdcAs.f (k + 1) a0 a1 a2 a3 a4 a5 a6 a7):=by
 intro a0 a1 a2 a3 a4 a5 a6 a7 k
 have ih0:=spec_KdcAs.mono_l k
 unfold spec_KdcAs.f
 repeat' first
   | (with_reducible exact ih0 _ _ _ _ _ _ _ _ _)
   | (with_reducible exact spec_KdcOk.mono _ _ _)
   | (with_reducible exact LeO.refl _)
   | (with_reducible exact LeO.none _)
   | (with_reducible refine LeO.ite ?_ ?_)
   | (with_reducible refine LeO.bind ?_ (fun _=>?_))
   | exact ih0 _ _ _ _ _ _ _ _ _
   | exact spec_KdcOk.mono _ _ _
   | exact LeO.none _
   | refine LeO.ite ?_ ?_
   | refine LeO.bind ?_ (fun _=>?_)
def spec_KdcAs.T3 : Bool × List (List Nat × List Nat):=(true,[([],[]),([0],[0]),([],[]),([],[]),([1,2,3,1],[1,2,3]),([4],[4]),([4],[4]),([4],[4]),([5,4,0,1,2,3,4,5,6,7],[5]),([6,8,0,1,2,3,4,5,6,7,8],[6]),([7,9,0,1,2,3,4,5,6,7,8,9],[7])])
def spec_KdcAs.B3 : List Nat:=[0,1,0,0,15,31,31,31,255,511,1023]
theorem spec_KdcAs.tab3 : rtab .any (opsOf Try.f53 3) = spec_KdcAs.T3:=by kernel_rfl
theorem spec_KdcAs.bits3 : waitsOk spec_KdcAs.T3.2 spec_KdcAs.B3 = true:=by kernel_rfl
set_option maxHeartbeats 8000000 in
set_option maxRecDepth 100000 in
theorem spec_KdcAs.calls (k : Nat) (qp : Int) (wd : Option Addr) (wb : Nat) (ql : List (S41)) (qx : Int) (qw : Int) (qv : Int) (qu : Int) (wi : Option Addr) (wg : Nat) (qr : List (S41)) (a2 : Int) (r1 : Int) (r2 : List (S41)) (r3 : Int) (r4 : Int) (r5 : Int) (r6 : Int) (r7 : List (S41)) (r8 : Bool) (w : World) (ue : Kd.C k41 w wd ql.length ql) (ug : ql.length ≤ wb) (ud : Kd.C k41 w wi qr.length qr) (uf : qr.length ≤ wg) (h : spec_KdcAs.f k qp ql qx qw qv qu qr a2 = some (r1,r2,r3,r4,r5,r6,r7,r8)) :
  Calls Try.prog 53 #[.agg #[.int .i64 qp,.slice wd ql.length wb],.agg #[.int .i64 qx,.int .i64 qw,.int .i64 qv,.int .i64 qu,.slice wi qr.length wg],.int .i64 a2] w fun e w' => ∃ v1_ v6_ : Value,e = .returned (.tuple #[.agg #[.int .i64 r1,v1_],.agg #[.int .i64 r3,.int .i64 r4,.int .i64 r5,.int .i64 r6,v6_],.bool r8]) ∧ Kd.R k41 41 w' w.heap.size (fun k_=>some k_ ≠ (v6_ : Value).ownBlock) v1_ r2 ∧ Kd.R k41 41 w' w.heap.size (fun k_=>some k_ ≠ (v1_ : Value).ownBlock) v6_ r7 ∧ Below w.heap.size w w':=by
 have qat:=Try.underlying64
 have qau:=Try.underlying34
 have vk:=Aside0.mk ue
 have vl:=Aside0.mk ug
 clear ue ug
 have uv:=Aside0.mk ud
 have uw:=Aside0.mk uf
 clear ud uf
 have HB:=Aside0.mk (Below.refl w.heap.size w)
 have H : ((spec_KdcOk.f k qp ql).bind fun wx=>(if wx = true then ((spec_l1Time.f a2).bind fun wq=>(spec_KdcAs.j0 k a2 (!wq) qp ql qx qw qv qu qr)) else (spec_KdcAs.j0 k a2 true qp ql qx qw qv qu qr))) = some (r1,r2,r3,r4,r5,r6,r7,r8):=h
 clear h
 have HC4:=Aside0.mk H
 clear H
 go_enter Try.func53,Try.ntmps53
 go_upto_region 1 with (first|((with_reducible refine gate_dst (N:=3) rfl ?_);refine box_event ?hg (N:=3) ?hd (cs:=#[.int .i64 qp,.slice wd ql.length wb]) (t:=64) ?hr ?_;(case hd=>rfl);(case hg=>rfl);(case hr=>first|(go_simp;done)|(go_simp;rfl));intro qm hg w5 hbox hb;have n0_:=Aside0.mk (below_step z14x9 hb);have n1_:=Aside0.mk (hbox);have n2_:=Aside0.mk ((by rw [hg];exact (below_size z14x9) : w.heap.size ≤ qm));have n3_:=Aside0.mk ((by rw [hg];exact (below_size z14x9) : w.heap.size ≤ qm));clear HB;have HB:=n0_;have qg:=n1_;have qar:=n2_;have wa:=n3_;clear n0_ n1_ n2_ n3_;clear hb hbox hg)|((with_reducible refine gate_dst (N:=4) rfl ?_);refine box_event ?hg (N:=4) ?hd (cs:=#[.int .i64 qx,.int .i64 qw,.int .i64 qv,.int .i64 qu,.slice wi qr.length wg]) (t:=34) ?hr ?_;(case hd=>rfl);(case hg=>rfl);(case hr=>first|(go_simp;done)|(go_simp;rfl));intro qo hg w6 hbox hb;have n0_:=Aside0.mk (blk_below (g:=qm) (o:=.cells #[.int .i64 qp,.slice wd ql.length wb] 64 (0,0)) z14x10 hb);have n1_:=Aside0.mk (below_step (by repeat (first|(with_reducible first|exact HB.out|apply below_alloc|apply pw_below_drewN|apply below_drew1|refine below_set ?_ wa.out)|exact HB.out)) hb);have n2_:=Aside0.mk (hbox);have n3_:=Aside0.mk ((z14x7 : w.heap.size ≤ qo));have n4_:=Aside0.mk ((z14x7 : w.heap.size ≤ qo));have n5_:=Aside0.mk ((z14x5 : qm ≠ qo));have n6_:=Aside0.mk ((z14x4 : qo ≠ qm));clear qg;clear HB;have qg:=n0_;have HB:=n1_;have qh:=n2_;have qaq:=n3_;have we:=n4_;have wm:=n5_;have wl:=n6_;clear n0_ n1_ n2_ n3_ n4_ n5_ n6_;clear hb hbox hg)|((with_reducible refine gate_dst (N:=6) rfl ?_);refine box_event ?hg (N:=6) ?hd (cs:=#[.int .i64 0,.slice none 0 0]) (t:=64) ?hr ?_;(case hd=>rfl);(case hg=>rfl);(case hr=>first|(go_simp;done)|(go_simp;rfl));intro qf hg w7 hbox hb;have n0_:=Aside0.mk (blk_below (g:=qm) (o:=.cells #[.int .i64 qp,.slice wd ql.length wb] 64 (0,0)) z14x10 hb);have n1_:=Aside0.mk (blk_below (g:=qo) (o:=.cells #[.int .i64 qx,.int .i64 qw,.int .i64 qv,.int .i64 qu,.slice wi qr.length wg] 34 (0,0)) z14x11 hb);have n2_:=Aside0.mk (below_step (by repeat (first|(with_reducible first|exact HB.out|apply below_alloc|apply pw_below_drewN|apply below_drew1|refine below_set ?_ wa.out|refine below_set ?_ we.out)|exact HB.out)) hb);have n3_:=Aside0.mk (hbox);have n4_:=Aside0.mk ((z14x6 : w.heap.size ≤ qf));have n5_:=Aside0.mk ((z14x6 : w.heap.size ≤ qf));have n6_:=Aside0.mk ((z14x5 : qm ≠ qf));have n7_:=Aside0.mk ((z14x4 : qf ≠ qm));have n8_:=Aside0.mk ((z14x1 : qo ≠ qf));have n9_:=Aside0.mk ((z14x0 : qf ≠ qo));clear qg;clear qh;clear HB;have qg:=n0_;have qh:=n1_;have HB:=n2_;have qj:=n3_;have qap:=n4_;have wk:=n5_;have qn:=n6_;have qz:=n7_;have qi:=n8_;have wh:=n9_;clear n0_ n1_ n2_ n3_ n4_ n5_ n6_ n7_ n8_ n9_;clear hb hbox hg)|((with_reducible refine gate_dst (N:=7) rfl ?_);refine box_event ?hg (N:=7) ?hd (cs:=#[.int .i64 0,.int .i64 0,.int .i64 0,.int .i64 0,.slice none 0 0]) (t:=34) ?hr ?_;(case hd=>rfl);(case hg=>rfl);(case hr=>first|(go_simp;done)|(go_simp;rfl));intro qb hg w8 hbox hb;have n0_:=Aside0.mk (blk_below (g:=qm) (o:=.cells #[.int .i64 qp,.slice wd ql.length wb] 64 (0,0)) z14x10 hb);have n1_:=Aside0.mk (blk_below (g:=qo) (o:=.cells #[.int .i64 qx,.int .i64 qw,.int .i64 qv,.int .i64 qu,.slice wi qr.length wg] 34 (0,0)) z14x11 hb);have n2_:=Aside0.mk (blk_below (g:=qf) (o:=.cells #[.int .i64 0,.slice none 0 0] 64 (0,0)) z14x12 hb);have n3_:=Aside0.mk (below_step (by repeat (first|(with_reducible first|exact HB.out|apply below_alloc|apply pw_below_drewN|apply below_drew1|refine below_set ?_ wa.out|refine below_set ?_ we.out|refine below_set ?_ wk.out)|exact HB.out)) hb);have n4_:=Aside0.mk (hbox);have n5_:=Aside0.mk ((z14x3 : w.heap.size ≤ qb));have n6_:=Aside0.mk ((z14x3 : w.heap.size ≤ qb));have n7_:=Aside0.mk ((z14x5 : qm ≠ qb));have n8_:=Aside0.mk ((z14x4 : qb ≠ qm));have n9_:=Aside0.mk ((z14x1 : qo ≠ qb));have n10_:=Aside0.mk ((z14x0 : qb ≠ qo));have n11_:=Aside0.mk ((by rw [hg];exact Nat.ne_of_lt (blk_lt (g:=qf) (o:=.cells #[.int .i64 0,.slice none 0 0] 64 (0,0)) z14x12) : qf ≠ qb));have n12_:=Aside0.mk ((by rw [hg];exact Nat.ne_of_gt (blk_lt (g:=qf) (o:=.cells #[.int .i64 0,.slice none 0 0] 64 (0,0)) z14x12) : qb ≠ qf));clear qg;clear qh;clear qj;clear HB;have qg:=n0_;have qh:=n1_;have qj:=n2_;have HB:=n3_;have qe:=n4_;have qao:=n5_;have wn:=n6_;have qd:=n7_;have qq:=n8_;have qa:=n9_;have qy:=n10_;have qc:=n11_;have qk:=n12_;clear n0_ n1_ n2_ n3_ n4_ n5_ n6_ n7_ n8_ n9_ n10_ n11_ n12_;clear hb hbox hg))
 (try simp only [Act.put,List.setIfInBounds_toArray,List.set_cons_zero,List.set_cons_succ])
 go_cut [16] (fun v16 wc=>∃ (kq : Nat) (wt : Bool),v16 = .bool wt ∧ Aside0 (spec_KdcAs.j0 kq a2 wt qp ql qx qw qv qu qr = some (r1,r2,r3,r4,r5,r6,r7,r8)) ∧ Aside0 (kq ≤ k) ∧ Aside0 (wc.heap[qm]? = some (.cells #[.int .i64 qp,(.slice wd ql.length wb)] 64 (0,0))) ∧ Aside0 (wc.heap[qo]? = some (.cells #[.int .i64 qx,.int .i64 qw,.int .i64 qv,.int .i64 qu,(.slice wi qr.length wg)] 34 (0,0))) ∧ Aside0 (wc.heap[qf]? = some (.cells #[.int .i64 0,(.slice none 0 0)] 64 (0,0))) ∧ Aside0 (wc.heap[qb]? = some (.cells #[.int .i64 0,.int .i64 0,.int .i64 0,.int .i64 0,(.slice none 0 0)] 34 (0,0))) ∧ Aside0 (Below w.heap.size w wc))
 case first =>
  have H:=HC4.out
  clear HC4
  replace H:=Option.bind_eq_some_iff.mp H
  obtain ⟨wx,A90,H⟩:=H
  replace H : (if wx = true then ((spec_l1Time.f a2).bind fun wq=>(spec_KdcAs.j0 k a2 (!wq) qp ql qx qw qv qu qr)) else (spec_KdcAs.j0 k a2 true qp ql qx qw qv qu qr)) = some (r1,r2,r3,r4,r5,r6,r7,r8):=H
  have A9:=Aside0.mk A90
  clear A90
  by_cases c10 : wx = true
  rotate_left
  ·replace c10:=Bool.eq_false_iff.mpr c10
   subst c10
   rw [if_neg (show ¬ (false = true) by decide)] at H
   have H':=Aside0.mk H
   clear H
   have qad:=wm.out
   have pq:=wl.out
   have qac:=qn.out
   have pp:=qz.out
   have qab:=qd.out
   have po:=qq.out
   have ua : w8.cell? ⟨qm,0,none⟩ = some (.int .i64 qp):=(blk_cell qg.out 0).trans rfl
   have vz : w8.cell? ⟨qm,1,none⟩ = some (.slice wd ql.length wb):=(blk_cell qg.out 1).trans rfl
   have vw:=blk_frozen qg.out 0
   have vv:=blk_frozen qg.out 1
   go_wp2_with (first|((with_reducible refine gate_callee (f:=124) rfl ?_);refine goesL_ (some 10) rfl rfl Try.func124 (by kernel_rfl) rfl #[.agg #[.int .i64 qp,.slice wd ql.length wb]] rfl z14x8 ?_;(with_reducible refine (spec_KdcOk.calls k qp _ _ ql false _ ?side1 ?side2 A9.out).mono ?_);(case side1=>repeat (first|exact (Kd.C_below vk.out HB.out)|(with_reducible refine Kd.C_alloc ?_ _)|(with_reducible refine Kd.C_drewN ?_ _)|(with_reducible refine Kd.C_drew ?_)));(case side2=>exact vl.out);rintro e w21 ⟨rfl,hb⟩; refine ⟨_,rfl,?_⟩; have n0_:=Aside0.mk (blk_below (g:=qm) (o:=.cells #[.int .i64 qp,.slice wd ql.length wb] 64 (0,0)) z14x10 hb);have n1_:=Aside0.mk (blk_below (g:=qo) (o:=.cells #[.int .i64 qx,.int .i64 qw,.int .i64 qv,.int .i64 qu,.slice wi qr.length wg] 34 (0,0)) z14x11 hb);have n2_:=Aside0.mk (blk_below (g:=qf) (o:=.cells #[.int .i64 0,.slice none 0 0] 64 (0,0)) z14x12 hb);have n3_:=Aside0.mk (blk_below (g:=qb) (o:=.cells #[.int .i64 0,.int .i64 0,.int .i64 0,.int .i64 0,.slice none 0 0] 34 (0,0)) z14x13 hb);have n4_:=Aside0.mk (below_step z14x2 hb);clear qg;clear qh;clear qj;clear qe;clear HB;have qg:=n0_;have qh:=n1_;have qj:=n2_;have qe:=n3_;have HB:=n4_;clear n0_ n1_ n2_ n3_ n4_;(try clear hb);(try clear hb2);(try clear hk);(try clear hi)))
   go_meet
   case rel=>exact ⟨_,(true),(by first|rfl|(simp;done)|(simp [*];done)),H',⟨by first|omega|exact Nat.le_refl _⟩,⟨by (with_reducible repeat (first|refine blk_drewN ?_ _|refine blk_drew ?_|refine blk_alloc ?_ _));exact qg.out⟩,⟨by (with_reducible repeat (first|refine blk_drewN ?_ _|refine blk_drew ?_|refine blk_alloc ?_ _));exact qh.out⟩,⟨by (with_reducible repeat (first|refine blk_drewN ?_ _|refine blk_drew ?_|refine blk_alloc ?_ _));exact qj.out⟩,⟨by (with_reducible repeat (first|refine blk_drewN ?_ _|refine blk_drew ?_|refine blk_alloc ?_ _));exact qe.out⟩,⟨by repeat (first|(with_reducible first|exact HB.out|apply below_alloc|apply pw_below_drewN|apply below_drew1|refine below_set ?_ wa.out|refine below_set ?_ we.out|refine below_set ?_ wk.out|refine below_set ?_ wn.out)|exact HB.out)⟩⟩
  subst c10
  rw [if_pos rfl] at H
  replace H:=Option.bind_eq_some_iff.mp H
  obtain ⟨wq,uz,H⟩:=H
  replace H : (spec_KdcAs.j0 k a2 (!wq) qp ql qx qw qv qu qr) = some (r1,r2,r3,r4,r5,r6,r7,r8):=H
  have A11:=Aside0.mk uz
  clear uz
  have H':=Aside0.mk H
  clear H
  have qag:=wm.out
  have pu:=wl.out
  have qaf:=qn.out
  have pt:=qz.out
  have qae:=qd.out
  have pr:=qq.out
  have uc : w8.cell? ⟨qm,0,none⟩ = some (.int .i64 qp):=(blk_cell qg.out 0).trans rfl
  have ub : w8.cell? ⟨qm,1,none⟩ = some (.slice wd ql.length wb):=(blk_cell qg.out 1).trans rfl
  have vy:=blk_frozen qg.out 0
  have vx:=blk_frozen qg.out 1
  go_wp2_with (first|((with_reducible refine gate_callee (f:=124) rfl ?_);refine goesL_ (some 10) rfl rfl Try.func124 (by kernel_rfl) rfl #[.agg #[.int .i64 qp,.slice wd ql.length wb]] rfl z14x8 ?_;(with_reducible refine (spec_KdcOk.calls k qp _ _ ql true _ ?side1 ?side2 A9.out).mono ?_);(case side1=>repeat (first|exact (Kd.C_below vk.out HB.out)|(with_reducible refine Kd.C_alloc ?_ _)|(with_reducible refine Kd.C_drewN ?_ _)|(with_reducible refine Kd.C_drew ?_)));(case side2=>exact vl.out);rintro e w16 ⟨rfl,hb⟩; refine ⟨_,rfl,?_⟩; have n0_:=Aside0.mk (blk_below (g:=qm) (o:=.cells #[.int .i64 qp,.slice wd ql.length wb] 64 (0,0)) z14x10 hb);have n1_:=Aside0.mk (blk_below (g:=qo) (o:=.cells #[.int .i64 qx,.int .i64 qw,.int .i64 qv,.int .i64 qu,.slice wi qr.length wg] 34 (0,0)) z14x11 hb);have n2_:=Aside0.mk (blk_below (g:=qf) (o:=.cells #[.int .i64 0,.slice none 0 0] 64 (0,0)) z14x12 hb);have n3_:=Aside0.mk (blk_below (g:=qb) (o:=.cells #[.int .i64 0,.int .i64 0,.int .i64 0,.int .i64 0,.slice none 0 0] 34 (0,0)) z14x13 hb);have n4_:=Aside0.mk (below_step z14x2 hb);clear qg;clear qh;clear qj;clear qe;clear HB;have qg:=n0_;have qh:=n1_;have qj:=n2_;have qe:=n3_;have HB:=n4_;clear n0_ n1_ n2_ n3_ n4_;(try clear hb);(try clear hb2);(try clear hk);(try clear hi))|(go_at_call 93;(with_reducible refine (spec_l1Time.calls a2 wq _ A11.out).mono ?_);rintro e w' ⟨rfl,⟨nd,rfl⟩⟩))
  go_meet
  case rel=>exact ⟨_,(!wq),(by first|rfl|(simp;done)|(simp [*];done)),H',⟨by first|omega|exact Nat.le_refl _⟩,⟨by (with_reducible repeat (first|refine blk_drewN ?_ _|refine blk_drew ?_|refine blk_alloc ?_ _));exact qg.out⟩,⟨by (with_reducible repeat (first|refine blk_drewN ?_ _|refine blk_drew ?_|refine blk_alloc ?_ _));exact qh.out⟩,⟨by (with_reducible repeat (first|refine blk_drewN ?_ _|refine blk_drew ?_|refine blk_alloc ?_ _));exact qj.out⟩,⟨by (with_reducible repeat (first|refine blk_drewN ?_ _|refine blk_drew ?_|refine blk_alloc ?_ _));exact qe.out⟩,⟨by repeat (first|(with_reducible first|exact HB.out|apply below_alloc|apply pw_below_drewN|apply below_drew1|refine below_set ?_ wa.out|refine below_set ?_ we.out|refine below_set ?_ wk.out|refine below_set ?_ wn.out)|exact HB.out)⟩⟩
 case rest =>
  clear HC4
  try clear c1
  try clear p2
  try clear c5
  try clear c10
  try clear c12
  try clear c13
  try clear c14
  try clear c17
  try clear c18
  try clear c19
  try clear uc
  try clear ub
  try clear ua
  try clear vz
  try clear vy
  try clear vx
  try clear vw
  try clear vv
  obtain ⟨kq,wt,rfl,HA,HJ3,qg,qh,qj,qe,HB⟩:=hcut
  cases kq with
  | zero=>exact absurd HA.out (by simp [spec_KdcAs.j0])
  | succ kj3 =>
   have H:=HA.out
   clear HA
   simp only [spec_KdcAs.j0] at H
   by_cases c22 : wt = true
   ·subst c22
    rw [if_pos rfl] at H
    simp only [Option.some.injEq,Prod.mk.injEq] at H
    obtain ⟨rfl,rfl,rfl,rfl,rfl,rfl,rfl,rfl⟩:=H
    have qaa:=qz.out
    have pn:=qn.out
    have pz:=wh.out
    have pm:=qi.out
    have px:=qc.out
    have pl:=qk.out
    have pg : wc.cell? ⟨qf,0,none⟩ = some (.int .i64 0):=(blk_cell qj.out 0).trans rfl
    have pf : wc.cell? ⟨qf,1,none⟩ = some (.slice none 0 0):=(blk_cell qj.out 1).trans rfl
    have gz:=blk_frozen qj.out 0
    have gy:=blk_frozen qj.out 1
    have pw:=qq.out
    have pk:=qd.out
    have pv:=qy.out
    have pj:=qa.out
    have pe : wc.cell? ⟨qb,0,none⟩ = some (.int .i64 0):=(blk_cell qe.out 0).trans rfl
    have pd : wc.cell? ⟨qb,1,none⟩ = some (.int .i64 0):=(blk_cell qe.out 1).trans rfl
    have pc : wc.cell? ⟨qb,2,none⟩ = some (.int .i64 0):=(blk_cell qe.out 2).trans rfl
    have pb : wc.cell? ⟨qb,3,none⟩ = some (.int .i64 0):=(blk_cell qe.out 3).trans rfl
    have pa : wc.cell? ⟨qb,4,none⟩ = some (.slice none 0 0):=(blk_cell qe.out 4).trans rfl
    have gx:=blk_frozen qe.out 0
    have gw:=blk_frozen qe.out 1
    have gv:=blk_frozen qe.out 2
    have gu:=blk_frozen qe.out 3
    have gt:=blk_frozen qe.out 4
    go_wp2
    refine bodyPost_ret (results_list (rs:=[.cell 6 64,.cell 7 34,.tmp 8]) rfl (by simp) (.cell qf 64 #[.int .i64 0,.slice none 0 0] (0,0) _ rfl (by (with_reducible repeat (first|refine blk_drewN ?_ _|refine blk_drew ?_|refine blk_alloc ?_ _));refine blk_far ?_ qc.out _;(with_reducible repeat (first|refine blk_drewN ?_ _|refine blk_drew ?_|refine blk_alloc ?_ _));refine blk_far ?_ qc.out _;(with_reducible repeat (first|refine blk_drewN ?_ _|refine blk_drew ?_|refine blk_alloc ?_ _));refine blk_far ?_ qc.out _;(with_reducible repeat (first|refine blk_drewN ?_ _|refine blk_drew ?_|refine blk_alloc ?_ _));refine blk_far ?_ qc.out _;(with_reducible repeat (first|refine blk_drewN ?_ _|refine blk_drew ?_|refine blk_alloc ?_ _));refine blk_far ?_ qc.out _;(with_reducible repeat (first|refine blk_drewN ?_ _|refine blk_drew ?_|refine blk_alloc ?_ _));refine blk_put (cs:=#[.int .i64 0,.slice none 0 0]) ?_ 1 _ rfl;(with_reducible repeat (first|refine blk_drewN ?_ _|refine blk_drew ?_|refine blk_alloc ?_ _));refine blk_put (cs:=#[.int .i64 0,.slice none 0 0]) ?_ 0 _ rfl;(with_reducible repeat (first|refine blk_drewN ?_ _|refine blk_drew ?_|refine blk_alloc ?_ _));exact qj.out) Try.underlying64 rfl (by kernel_rfl) (.cell qb 34 #[.int .i64 0,.int .i64 0,.int .i64 0,.int .i64 0,.slice none 0 0] (0,0) _ rfl (by (with_reducible repeat (first|refine blk_drewN ?_ _|refine blk_drew ?_|refine blk_alloc ?_ _));refine blk_put (cs:=#[.int .i64 0,.int .i64 0,.int .i64 0,.int .i64 0,.slice none 0 0]) ?_ 4 _ rfl;(with_reducible repeat (first|refine blk_drewN ?_ _|refine blk_drew ?_|refine blk_alloc ?_ _));refine blk_put (cs:=#[.int .i64 0,.int .i64 0,.int .i64 0,.int .i64 0,.slice none 0 0]) ?_ 3 _ rfl;(with_reducible repeat (first|refine blk_drewN ?_ _|refine blk_drew ?_|refine blk_alloc ?_ _));refine blk_put (cs:=#[.int .i64 0,.int .i64 0,.int .i64 0,.int .i64 0,.slice none 0 0]) ?_ 2 _ rfl;(with_reducible repeat (first|refine blk_drewN ?_ _|refine blk_drew ?_|refine blk_alloc ?_ _));refine blk_put (cs:=#[.int .i64 0,.int .i64 0,.int .i64 0,.int .i64 0,.slice none 0 0]) ?_ 1 _ rfl;(with_reducible repeat (first|refine blk_drewN ?_ _|refine blk_drew ?_|refine blk_alloc ?_ _));refine blk_put (cs:=#[.int .i64 0,.int .i64 0,.int .i64 0,.int .i64 0,.slice none 0 0]) ?_ 0 _ rfl;(with_reducible repeat (first|refine blk_drewN ?_ _|refine blk_drew ?_|refine blk_alloc ?_ _));refine blk_far ?_ qk.out _;(with_reducible repeat (first|refine blk_drewN ?_ _|refine blk_drew ?_|refine blk_alloc ?_ _));refine blk_far ?_ qk.out _;(with_reducible repeat (first|refine blk_drewN ?_ _|refine blk_drew ?_|refine blk_alloc ?_ _));exact qe.out) Try.underlying34 rfl (by kernel_rfl) (.tmp .nil)))) rfl ?_
    exact ⟨_,_,by first|rfl|(simp [errW_none,errW_some] <;> rfl)|(simp [*,errW_none,errW_some] <;> rfl),by first|exact Kd.R_nil _ _ _ _ _|exact Kd.N_nil _ _ _ _ _|exact Kd.V_nil _ _ _ _ _|exact Kd.Q_nil _ _ _ _ _|exact Kd.S_nil _ _ _ _ _,by first|exact Kd.R_nil _ _ _ _ _|exact Kd.N_nil _ _ _ _ _|exact Kd.V_nil _ _ _ _ _|exact Kd.Q_nil _ _ _ _ _|exact Kd.S_nil _ _ _ _ _,by repeat (first|(with_reducible first|exact HB.out|apply below_alloc|apply pw_below_drewN|apply below_drew1|refine below_set ?_ wa.out|refine below_set ?_ we.out|refine below_set ?_ wk.out|refine below_set ?_ wn.out)|exact HB.out)⟩
   ·replace c22:=Bool.eq_false_iff.mpr c22
    subst c22
    rw [if_neg (show ¬ (false = true) by decide)] at H
    replace H:=Option.bind_eq_some_iff.mp H
    obtain ⟨⟨vu,ww⟩,uy,H⟩:=H
    replace H : ((spec_l11As.f vu ww qx qw qv qu qr a2).bind fun qt=>(some (qt.1,qt.2.1,qt.2.2.1,qt.2.2.2.1,qt.2.2.2.2.1,qt.2.2.2.2.2.1,qt.2.2.2.2.2.2.1,qt.2.2.2.2.2.2.2))) = some (r1,r2,r3,r4,r5,r6,r7,r8):=H
    have A30:=Aside0.mk uy
    clear uy
    replace H:=Option.bind_eq_some_iff.mp H
    obtain ⟨⟨wv,wz,wo,wr,ws,wu,wy,ur⟩,ux,H⟩:=H
    replace H : (some (wv,wz,wo,wr,ws,wu,wy,ur)) = some (r1,r2,r3,r4,r5,r6,r7,r8):=H
    have A31:=Aside0.mk ux
    clear ux
    simp only [Option.some.injEq,Prod.mk.injEq] at H
    obtain ⟨rfl,rfl,rfl,rfl,rfl,rfl,rfl,rfl⟩:=H
    try go_wp2
    have n0_:=Aside0.mk (blk_drew qg.out)
    have n1_:=Aside0.mk (blk_drew qh.out)
    have n2_:=Aside0.mk (blk_drew qj.out)
    have n3_:=Aside0.mk (blk_drew qe.out)
    have n4_:=Aside0.mk (below_drew1 HB.out)
    clear qg
    clear qh
    clear qj
    clear qe
    clear HB
    have qg:=n0_
    have qh:=n1_
    have qj:=n2_
    have qe:=n3_
    have HB:=n4_
    clear n0_ n1_ n2_ n3_ n4_
    refine start_ (n:=11) (S:=fun w' => w'.cell? ⟨qm,0,none⟩ = some (.int .i64 qp) ∧ w'.cell? ⟨qm,1,none⟩ = some (.slice wd ql.length wb) ∧ w'.cell? ⟨qo,0,none⟩ = some (.int .i64 qx) ∧ w'.cell? ⟨qo,1,none⟩ = some (.int .i64 qw) ∧ w'.cell? ⟨qo,2,none⟩ = some (.int .i64 qv) ∧ w'.cell? ⟨qo,3,none⟩ = some (.int .i64 qu) ∧ w'.cell? ⟨qo,4,none⟩ = some (.slice wi qr.length wg)) (ds:=[]) #[false,false,false,false,false,false,false,false,false,false,false] (by kernel_rfl) rfl rfl ⟨(blk_cell qg.out 0).trans rfl,(blk_cell qg.out 1).trans rfl,(blk_cell qh.out 0).trans rfl,(blk_cell qh.out 1).trans rfl,(blk_cell qh.out 2).trans rfl,(blk_cell qh.out 3).trans rfl,(blk_cell qh.out 4).trans rfl⟩ (fun hHeld=>?_);refine with_tabW spec_KdcAs.tab3 spec_KdcAs.bits3 (fun HT_ HW_=>?_)
    generalize wc.drew = w32 at qg qh qj qe HB hHeld ⊢
    refine pure_ (i:=3) (N:=some 22) (v:=?_) (a':=?_) #[false,false,false,true,false,false,false,false,false,false,false] rfl rfl (any_of HT_.out (by kernel_rfl)) (fun _ _ _ h=>h) (Or.inl ⟨by rfl,?_⟩) ?_ ?_
    rotate_left
    ·intro w'
     go_simp
     with_reducible rfl
    rotate_left
    ·exact z14a
    refine take_ (i:=0) (N:=some 19) (v:=?_) (a':=?_) #[true,false,false,true,false,false,false,false,false,false,false] rfl rfl (take_ofW HT_.out HW_.out (by kernel_rfl)) (fun _ _ _ h=>h) (Or.inl ⟨by rfl,?_⟩) hHeld ?_ ?_
    rotate_left
    ·rintro w' ⟨s0,s1,s2,s3,s4,s5,s6⟩
     go_simp
     with_reducible rfl
    rotate_left
    ·exact z14a
    refine take_ (i:=2) (N:=some 21) (v:=?_) (a':=?_) #[true,false,true,true,false,false,false,false,false,false,false] rfl rfl (take_ofW HT_.out HW_.out (by kernel_rfl)) (fun _ _ _ h=>h) (Or.inl ⟨by rfl,?_⟩) hHeld ?_ ?_
    rotate_left
    ·rintro w' ⟨s0,s1,s2,s3,s4,s5,s6⟩
     go_simp
     with_reducible rfl
    rotate_left
    ·exact z14a
    refine one_ (i:=1) (N:=some 20) #[true,true,true,true,false,false,false,false,false,false,false] rfl rfl (one_of HT_.out (by kernel_rfl)) (by decide) (fun K hK=>?_)
    refine goes_ Try.func126 (by kernel_rfl) rfl #[.agg #[.int .i64 qp,.slice wd ql.length wb]] (by rfl) rfl rfl z14x8 ?_
    with_reducible refine (spec_l11Copy.calls qp _ _ ql vu ww _ ?side1 ?side2 A30.out).mono ?_
    (case side1=>repeat (first|exact (Kd.C_below vk.out HB.out)|(with_reducible refine Kd.C_alloc ?_ _)|(with_reducible refine Kd.C_drewN ?_ _)|(with_reducible refine Kd.C_drew ?_)))
    (case side2=>exact vl.out)
    rintro e w33 ⟨qas,rfl,ho0,hb⟩
    refine ⟨_,rfl,?_⟩
    have n0_:=Aside0.mk (Kd.R_lower ho0 (below_size z14x2))
    have n1_:=Aside0.mk (blk_below (g:=qm) (o:=.cells #[.int .i64 qp,.slice wd ql.length wb] 64 (0,0)) z14x10 hb)
    have n2_:=Aside0.mk (blk_below (g:=qo) (o:=.cells #[.int .i64 qx,.int .i64 qw,.int .i64 qv,.int .i64 qu,.slice wi qr.length wg] 34 (0,0)) z14x11 hb)
    have n3_:=Aside0.mk (blk_below (g:=qf) (o:=.cells #[.int .i64 0,.slice none 0 0] 64 (0,0)) z14x12 hb)
    have n4_:=Aside0.mk (blk_below (g:=qb) (o:=.cells #[.int .i64 0,.int .i64 0,.int .i64 0,.int .i64 0,.slice none 0 0] 34 (0,0)) z14x13 hb)
    have n5_:=Aside0.mk (below_step z14x2 hb)
    clear qg
    clear qh
    clear qj
    clear qe
    clear HB
    have wj:=n0_
    have qg:=n1_
    have qh:=n2_
    have qj:=n3_
    have qe:=n4_
    have HB:=n5_
    clear n0_ n1_ n2_ n3_ n4_ n5_
    (try clear hb)
    (try clear hb2)
    (try clear hk)
    (try clear hi)
    (try clear ho0)
    obtain ⟨uq,um,uu⟩:=Kd.R_slice wj.out
    (first|subst uu|(injection uu with f1_ f2_ f3_;have f4_:=f1_.symm;have f5_:=f3_.symm;clear f1_ f2_ f3_;subst f4_;subst f5_))
    refine hK.out _ _ ⟨(blk_cell qg.out 0).trans rfl,(blk_cell qg.out 1).trans rfl,(blk_cell qh.out 0).trans rfl,(blk_cell qh.out 1).trans rfl,(blk_cell qh.out 2).trans rfl,(blk_cell qh.out 3).trans rfl,(blk_cell qh.out 4).trans rfl⟩ (fun hHeld=>?_)
    clear hK K
    refine norm_ (a':=?_) ?_ ?_
    rotate_left
    ·show Act.put _ (some 20) _ = _
     simp only [Act.put,List.setIfInBounds_toArray,List.set_cons_zero,List.set_cons_succ,i64_w,i32_w]
     rfl
    refine one_ (i:=4) (N:=some 23) #[true,true,true,true,true,false,false,false,false,false,false] rfl rfl (one_of HT_.out (by kernel_rfl)) (by decide) (fun K hK=>?_)
    refine goes_ Try.func125 (by kernel_rfl) rfl #[.agg #[.int .i64 vu,.slice uq ww.length um],.agg #[.int .i64 qx,.int .i64 qw,.int .i64 qv,.int .i64 qu,.slice wi qr.length wg],.int .i64 a2] (by rfl) rfl rfl z14x8 ?_
    with_reducible refine (spec_l11As.calls vu (fun k_=>some k_ = (.slice uq ww.length um : Value).ownBlock) (.slice uq ww.length um) ww qx qw qv qu _ _ qr a2 wv wz wo wr ws wu wy ur w _ ?side1 ?side2 ?side3 ?side4 A31.out).mono ?_
    (case side1=>repeat (first|(with_reducible first|exact HB.out|apply below_alloc|apply pw_below_drewN|apply below_drew1|refine below_set ?_ wa.out|refine below_set ?_ we.out|refine below_set ?_ wk.out|refine below_set ?_ wn.out)|exact HB.out))
    (case side2=>exact Kd.R_tight rfl wj.out)
    (case side3=>exact Kd.C_kept_came k41_heap uv.out z14x2 (fun k_ hs_=>(fun e_=>Kd.R_base wj.out k_ e_.symm) hs_))
    (case side4=>exact uw.out)
    rintro e w35 ⟨pi,ph,rfl,ho0,ho1,hb,hkp⟩
    refine ⟨_,rfl,?_⟩
    have n0_:=Aside0.mk (blk_kept z14x10 hkp (fun hs_=>(fun e_=>(Kd.R_ne wj.out qg.out (by decide)) e_) hs_))
    have n1_:=Aside0.mk (blk_kept z14x11 hkp (fun hs_=>(fun e_=>(Kd.R_ne wj.out qh.out (by decide)) e_) hs_))
    have n2_:=Aside0.mk (blk_kept z14x12 hkp (fun hs_=>(fun e_=>(Kd.R_ne wj.out qj.out (by decide)) e_) hs_))
    have n3_:=Aside0.mk (blk_kept z14x13 hkp (fun hs_=>(fun e_=>(Kd.R_ne wj.out qe.out (by decide)) e_) hs_))
    have n4_:=Aside0.mk (Kd.R_mono (ok':=fun k_=>some k_ ≠ (ph : Value).ownBlock) ho0 (fun k_ hk_=>hk_.2))
    have n5_:=Aside0.mk (Kd.R_mono (ok':=fun k_=>some k_ ≠ (pi : Value).ownBlock) ho1 (fun k_ hk_=>hk_.2))
    have n6_:=Aside0.mk (hb)
    clear qg
    clear qh
    clear qj
    clear qe
    clear HB
    clear wj
    have qg:=n0_
    have qh:=n1_
    have qj:=n2_
    have qe:=n3_
    have uj:=n4_
    have ui:=n5_
    have HB:=n6_
    clear n0_ n1_ n2_ n3_ n4_ n5_ n6_
    (try clear hb)
    (try clear hkp)
    (try clear ho0)
    (try clear ho1)
    obtain ⟨uo,ul,ut⟩:=Kd.R_slice uj.out
    (first|subst ut|(injection ut with f1_ f2_ f3_;have f4_:=f1_.symm;have f5_:=f3_.symm;clear f1_ f2_ f3_;subst f4_;subst f5_))
    obtain ⟨un,uk,us⟩:=Kd.R_slice ui.out
    (first|subst us|(injection us with f1_ f2_ f3_;have f4_:=f1_.symm;have f5_:=f3_.symm;clear f1_ f2_ f3_;subst f4_;subst f5_))
    refine hK.out _ _ ⟨(blk_cell qg.out 0).trans rfl,(blk_cell qg.out 1).trans rfl,(blk_cell qh.out 0).trans rfl,(blk_cell qh.out 1).trans rfl,(blk_cell qh.out 2).trans rfl,(blk_cell qh.out 3).trans rfl,(blk_cell qh.out 4).trans rfl⟩ (fun hHeld=>?_)
    clear hK K
    refine norm_ (a':=?_) ?_ ?_
    rotate_left
    ·show Act.put _ (some 23) _ = _
     simp only [Act.put,List.setIfInBounds_toArray,List.set_cons_zero,List.set_cons_succ,i64_w,i32_w]
     rfl
    refine pure_ (i:=5) (N:=some 24) (v:=?_) (a':=?_) #[true,true,true,true,true,true,false,false,false,false,false] rfl rfl (any_of HT_.out (by kernel_rfl)) (fun _ _ _ h=>h) (Or.inl ⟨by rfl,?_⟩) ?_ ?_
    rotate_left
    ·intro w'
     go_simp
     with_reducible rfl
    rotate_left
    ·exact z14a
    refine pure_ (i:=6) (N:=some 25) (v:=?_) (a':=?_) #[true,true,true,true,true,true,true,false,false,false,false] rfl rfl (any_of HT_.out (by kernel_rfl)) (fun _ _ _ h=>h) (Or.inl ⟨by rfl,?_⟩) ?_ ?_
    rotate_left
    ·intro w'
     go_simp
     with_reducible rfl
    rotate_left
    ·exact z14a
    refine pure_ (i:=7) (N:=some 26) (v:=?_) (a':=?_) #[true,true,true,true,true,true,true,true,false,false,false] rfl rfl (any_of HT_.out (by kernel_rfl)) (fun _ _ _ h=>h) (Or.inl ⟨by rfl,?_⟩) ?_ ?_
    rotate_left
    ·intro w'
     go_simp
     with_reducible rfl
    rotate_left
    ·exact z14a
    refine one_ (i:=8) (N:=none) #[true,true,true,true,true,true,true,true,true,false,false] rfl rfl (one_of HT_.out (by kernel_rfl)) (by decide) (fun K hK=>?_)
    have qbb : w35.cell? ⟨qf,0,none⟩ = some (.int .i64 0):=(blk_cell qj.out 0).trans rfl
    have qan:=blk_frozen qj.out 0
    have ju:=qn.out
    have jt:=qi.out
    have js:=qk.out
    have gs:=qz.out
    have gr:=wh.out
    have gq:=qc.out
    have qba : w35.cell? ⟨qf,1,none⟩ = some (.slice none 0 0):=(blk_cell qj.out 1).trans rfl
    have qam:=blk_frozen qj.out 1
    have jr:=qn.out
    have jq:=qi.out
    have jp:=qk.out
    have gp:=qz.out
    have gn:=wh.out
    have gm:=qc.out
    refine skip_ (w1:=?_) (by rfl) rfl ?_ ?_
    rotate_left
    ·go_simp
     rfl
    refine hK.out _ _ ⟨((cell_far (p:=⟨qf,_,none⟩) qn.out _).trans (((cell_far (p:=⟨qf,_,none⟩) qn.out _).trans (hHeld.1)))),((cell_far (p:=⟨qf,_,none⟩) qn.out _).trans (((cell_far (p:=⟨qf,_,none⟩) qn.out _).trans (hHeld.2.1)))),((cell_far (p:=⟨qf,_,none⟩) qi.out _).trans (((cell_far (p:=⟨qf,_,none⟩) qi.out _).trans (hHeld.2.2.1)))),((cell_far (p:=⟨qf,_,none⟩) qi.out _).trans (((cell_far (p:=⟨qf,_,none⟩) qi.out _).trans (hHeld.2.2.2.1)))),((cell_far (p:=⟨qf,_,none⟩) qi.out _).trans (((cell_far (p:=⟨qf,_,none⟩) qi.out _).trans (hHeld.2.2.2.2.1)))),((cell_far (p:=⟨qf,_,none⟩) qi.out _).trans (((cell_far (p:=⟨qf,_,none⟩) qi.out _).trans (hHeld.2.2.2.2.2.1)))),((cell_far (p:=⟨qf,_,none⟩) qi.out _).trans (((cell_far (p:=⟨qf,_,none⟩) qi.out _).trans (hHeld.2.2.2.2.2.2))))⟩ (fun hHeld=>?_)
    clear hK K
    refine one_ (i:=9) (N:=none) #[true,true,true,true,true,true,true,true,true,true,false] rfl rfl (one_of HT_.out (by kernel_rfl)) (by decide) (fun K hK=>?_)
    have qaz : w35.cell? ⟨qb,0,none⟩ = some (.int .i64 0):=(blk_cell qe.out 0).trans rfl
    have qal:=blk_frozen qe.out 0
    have jo:=qd.out
    have jn:=qa.out
    have jm:=qc.out
    have gl:=qq.out
    have gk:=qy.out
    have gj:=qk.out
    have qay : w35.cell? ⟨qb,1,none⟩ = some (.int .i64 0):=(blk_cell qe.out 1).trans rfl
    have qak:=blk_frozen qe.out 1
    have jl:=qd.out
    have jk:=qa.out
    have jj:=qc.out
    have gi:=qq.out
    have gh:=qy.out
    have gg:=qk.out
    have qax : w35.cell? ⟨qb,2,none⟩ = some (.int .i64 0):=(blk_cell qe.out 2).trans rfl
    have qaj:=blk_frozen qe.out 2
    have ji:=qd.out
    have jh:=qa.out
    have jg:=qc.out
    have gf:=qq.out
    have gc:=qy.out
    have gb:=qk.out
    have qaw : w35.cell? ⟨qb,3,none⟩ = some (.int .i64 0):=(blk_cell qe.out 3).trans rfl
    have qai:=blk_frozen qe.out 3
    have jf:=qd.out
    have je:=qa.out
    have jd:=qc.out
    have ga:=qq.out
    have jz:=qy.out
    have jy:=qk.out
    have qav : w35.cell? ⟨qb,4,none⟩ = some (.slice none 0 0):=(blk_cell qe.out 4).trans rfl
    have qah:=blk_frozen qe.out 4
    have jc:=qd.out
    have jb:=qa.out
    have ja:=qc.out
    have jx:=qq.out
    have jw:=qy.out
    have jv:=qk.out
    refine skip_ (w1:=?_) (by rfl) rfl ?_ ?_
    rotate_left
    ·go_simp
     rfl
    refine hK.out _ _ ⟨((cell_far (p:=⟨qb,_,none⟩) qd.out _).trans (((cell_far (p:=⟨qb,_,none⟩) qd.out _).trans (((cell_far (p:=⟨qb,_,none⟩) qd.out _).trans (((cell_far (p:=⟨qb,_,none⟩) qd.out _).trans (((cell_far (p:=⟨qb,_,none⟩) qd.out _).trans (hHeld.1)))))))))),((cell_far (p:=⟨qb,_,none⟩) qd.out _).trans (((cell_far (p:=⟨qb,_,none⟩) qd.out _).trans (((cell_far (p:=⟨qb,_,none⟩) qd.out _).trans (((cell_far (p:=⟨qb,_,none⟩) qd.out _).trans (((cell_far (p:=⟨qb,_,none⟩) qd.out _).trans (hHeld.2.1)))))))))),((cell_far (p:=⟨qb,_,none⟩) qa.out _).trans (((cell_far (p:=⟨qb,_,none⟩) qa.out _).trans (((cell_far (p:=⟨qb,_,none⟩) qa.out _).trans (((cell_far (p:=⟨qb,_,none⟩) qa.out _).trans (((cell_far (p:=⟨qb,_,none⟩) qa.out _).trans (hHeld.2.2.1)))))))))),((cell_far (p:=⟨qb,_,none⟩) qa.out _).trans (((cell_far (p:=⟨qb,_,none⟩) qa.out _).trans (((cell_far (p:=⟨qb,_,none⟩) qa.out _).trans (((cell_far (p:=⟨qb,_,none⟩) qa.out _).trans (((cell_far (p:=⟨qb,_,none⟩) qa.out _).trans (hHeld.2.2.2.1)))))))))),((cell_far (p:=⟨qb,_,none⟩) qa.out _).trans (((cell_far (p:=⟨qb,_,none⟩) qa.out _).trans (((cell_far (p:=⟨qb,_,none⟩) qa.out _).trans (((cell_far (p:=⟨qb,_,none⟩) qa.out _).trans (((cell_far (p:=⟨qb,_,none⟩) qa.out _).trans (hHeld.2.2.2.2.1)))))))))),((cell_far (p:=⟨qb,_,none⟩) qa.out _).trans (((cell_far (p:=⟨qb,_,none⟩) qa.out _).trans (((cell_far (p:=⟨qb,_,none⟩) qa.out _).trans (((cell_far (p:=⟨qb,_,none⟩) qa.out _).trans (((cell_far (p:=⟨qb,_,none⟩) qa.out _).trans (hHeld.2.2.2.2.2.1)))))))))),((cell_far (p:=⟨qb,_,none⟩) qa.out _).trans (((cell_far (p:=⟨qb,_,none⟩) qa.out _).trans (((cell_far (p:=⟨qb,_,none⟩) qa.out _).trans (((cell_far (p:=⟨qb,_,none⟩) qa.out _).trans (((cell_far (p:=⟨qb,_,none⟩) qa.out _).trans (hHeld.2.2.2.2.2.2))))))))))⟩ (fun hHeld=>?_)
    clear hK K
    refine pure_ (i:=10) (N:=some 8) (v:=?_) (a':=?_) #[true,true,true,true,true,true,true,true,true,true,true] rfl rfl (any_of HT_.out (by kernel_rfl)) (fun _ _ _ h=>h) (Or.inl ⟨by rfl,?_⟩) ?_ ?_
    rotate_left
    ·intro w'
     go_simp
     with_reducible rfl
    rotate_left
    ·exact z14a
    refine done_ (done_of HT_.out (by kernel_rfl)) ?_
    try go_wp2
    refine bodyPost_ret (results_list (rs:=[.cell 6 64,.cell 7 34,.tmp 8]) rfl (by simp) (.cell qf 64 #[.int .i64 wv,.slice uo wz.length ul] (0,0) _ rfl (by (with_reducible repeat (first|refine blk_drewN ?_ _|refine blk_drew ?_|refine blk_alloc ?_ _));refine blk_far ?_ qc.out _;(with_reducible repeat (first|refine blk_drewN ?_ _|refine blk_drew ?_|refine blk_alloc ?_ _));refine blk_far ?_ qc.out _;(with_reducible repeat (first|refine blk_drewN ?_ _|refine blk_drew ?_|refine blk_alloc ?_ _));refine blk_far ?_ qc.out _;(with_reducible repeat (first|refine blk_drewN ?_ _|refine blk_drew ?_|refine blk_alloc ?_ _));refine blk_far ?_ qc.out _;(with_reducible repeat (first|refine blk_drewN ?_ _|refine blk_drew ?_|refine blk_alloc ?_ _));refine blk_far ?_ qc.out _;(with_reducible repeat (first|refine blk_drewN ?_ _|refine blk_drew ?_|refine blk_alloc ?_ _));refine blk_put (cs:=#[.int .i64 wv,.slice none 0 0]) ?_ 1 _ rfl;(with_reducible repeat (first|refine blk_drewN ?_ _|refine blk_drew ?_|refine blk_alloc ?_ _));refine blk_put (cs:=#[.int .i64 0,.slice none 0 0]) ?_ 0 _ rfl;(with_reducible repeat (first|refine blk_drewN ?_ _|refine blk_drew ?_|refine blk_alloc ?_ _));exact qj.out) Try.underlying64 rfl (by kernel_rfl) (.cell qb 34 #[.int .i64 wo,.int .i64 wr,.int .i64 ws,.int .i64 wu,.slice un wy.length uk] (0,0) _ rfl (by (with_reducible repeat (first|refine blk_drewN ?_ _|refine blk_drew ?_|refine blk_alloc ?_ _));refine blk_put (cs:=#[.int .i64 wo,.int .i64 wr,.int .i64 ws,.int .i64 wu,.slice none 0 0]) ?_ 4 _ rfl;(with_reducible repeat (first|refine blk_drewN ?_ _|refine blk_drew ?_|refine blk_alloc ?_ _));refine blk_put (cs:=#[.int .i64 wo,.int .i64 wr,.int .i64 ws,.int .i64 0,.slice none 0 0]) ?_ 3 _ rfl;(with_reducible repeat (first|refine blk_drewN ?_ _|refine blk_drew ?_|refine blk_alloc ?_ _));refine blk_put (cs:=#[.int .i64 wo,.int .i64 wr,.int .i64 0,.int .i64 0,.slice none 0 0]) ?_ 2 _ rfl;(with_reducible repeat (first|refine blk_drewN ?_ _|refine blk_drew ?_|refine blk_alloc ?_ _));refine blk_put (cs:=#[.int .i64 wo,.int .i64 0,.int .i64 0,.int .i64 0,.slice none 0 0]) ?_ 1 _ rfl;(with_reducible repeat (first|refine blk_drewN ?_ _|refine blk_drew ?_|refine blk_alloc ?_ _));refine blk_put (cs:=#[.int .i64 0,.int .i64 0,.int .i64 0,.int .i64 0,.slice none 0 0]) ?_ 0 _ rfl;(with_reducible repeat (first|refine blk_drewN ?_ _|refine blk_drew ?_|refine blk_alloc ?_ _));refine blk_far ?_ qk.out _;(with_reducible repeat (first|refine blk_drewN ?_ _|refine blk_drew ?_|refine blk_alloc ?_ _));refine blk_far ?_ qk.out _;(with_reducible repeat (first|refine blk_drewN ?_ _|refine blk_drew ?_|refine blk_alloc ?_ _));exact qe.out) Try.underlying34 rfl (by kernel_rfl) (.tmp .nil)))) rfl ?_
    exact ⟨_,_,by first|rfl|(simp [errW_none,errW_some] <;> rfl)|(simp [*,errW_none,errW_some] <;> rfl),by (with_reducible repeat (first|apply Kd.R_alloc|apply Kd.R_drewN|apply Kd.R_drew));exact Kd.R_mono (Kd.R_far (p:=⟨qb,4,none⟩) (Kd.R_far (p:=⟨qb,3,none⟩) (Kd.R_far (p:=⟨qb,2,none⟩) (Kd.R_far (p:=⟨qb,1,none⟩) (Kd.R_far (p:=⟨qb,0,none⟩) (Kd.R_far (p:=⟨qf,1,none⟩) (Kd.R_far (p:=⟨qf,0,none⟩) (Kd.R_types (Kd.R_types uj.out qj.out (by decide)) qe.out (by decide)) (fun _ hk=>hk.1.2) (.int .i64 wv)) (fun _ hk=>hk.1.2) (.slice uo wz.length ul)) (fun _ hk=>hk.2) (.int .i64 wo)) (fun _ hk=>hk.2) (.int .i64 wr)) (fun _ hk=>hk.2) (.int .i64 ws)) (fun _ hk=>hk.2) (.int .i64 wu)) (fun _ hk=>hk.2) (.slice un wy.length uk)) (fun _ hk=>hk.1.1),by (with_reducible repeat (first|apply Kd.R_alloc|apply Kd.R_drewN|apply Kd.R_drew));exact Kd.R_mono (Kd.R_far (p:=⟨qb,4,none⟩) (Kd.R_far (p:=⟨qb,3,none⟩) (Kd.R_far (p:=⟨qb,2,none⟩) (Kd.R_far (p:=⟨qb,1,none⟩) (Kd.R_far (p:=⟨qb,0,none⟩) (Kd.R_far (p:=⟨qf,1,none⟩) (Kd.R_far (p:=⟨qf,0,none⟩) (Kd.R_types (Kd.R_types ui.out qj.out (by decide)) qe.out (by decide)) (fun _ hk=>hk.1.2) (.int .i64 wv)) (fun _ hk=>hk.1.2) (.slice uo wz.length ul)) (fun _ hk=>hk.2) (.int .i64 wo)) (fun _ hk=>hk.2) (.int .i64 wr)) (fun _ hk=>hk.2) (.int .i64 ws)) (fun _ hk=>hk.2) (.int .i64 wu)) (fun _ hk=>hk.2) (.slice un wy.length uk)) (fun _ hk=>hk.1.1),by repeat (first|(with_reducible first|exact HB.out|apply below_alloc|apply pw_below_drewN|apply below_drew1|refine below_set ?_ wa.out|refine below_set ?_ we.out|refine below_set ?_ wk.out|refine below_set ?_ wn.out)|exact HB.out)⟩

end Go.Proofs.Ytbipicjijbnbbaa.Hp
