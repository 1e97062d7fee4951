-- hp.py
import Derived.Test.YtbipicjijbnbbaaHx0
import Derived.Test.YtbipicjijbnbbaaHx15
namespace Go.Proofs.Ytbipicjijbnbbaa.Hp
open Go.RowKit Go.Proofs.YtbipicjijbnbbaaW.PrintWords Go.Proofs.YtbipicjijbnbbaaW.PrintLast Go.Proofs.YtbipicjijbnbbaaW.PrintMore
attribute [local go_sem] max2_int min2_int max_two min_two max_three min_three max_four min_four   -- for this text's walks alone
set_option linter.unusedVariables false
set_option linter.unusedSimpArgs false
-- squeezed by wip/tools/squeeze.py
theorem z18x6 {P : Prop} (h : P:=by (with_reducible repeat (first|refine blk_drewN ?_ _|refine blk_drew ?_|refine blk_alloc ?_ _));exact qa.out) : P:=h
theorem z18x5 {P : Prop} (h : P:=by repeat (first|(with_reducible first|exact HB.out|apply below_alloc|apply pw_below_drewN|apply below_drew1)|exact HB.out)) : P:=h
theorem z18x4 {P : Prop} (h : P:=by rw [hg];exact (below_size (by repeat (first|(with_reducible first|exact HB.out|apply below_alloc|apply pw_below_drewN|apply below_drew1)|exact HB.out)))) : P:=h
theorem z18x3 {P : Prop} (h : P:=by repeat (first|(with_reducible first|exact HB.out|apply below_alloc|apply pw_below_drewN|apply below_drew1|refine below_set ?_ qt.out)|exact HB.out)) : P:=h
theorem z18x2 {P : Prop} (h : P:=by rw [hg];exact (below_size (by repeat (first|(with_reducible first|exact HB.out|apply below_alloc|apply pw_below_drewN|apply below_drew1|refine below_set ?_ qt.out)|exact HB.out)))) : P:=h
theorem z18x1 {P : Prop} (h : P:=by rw [hg];exact Nat.ne_of_lt (blk_lt (g:=qb) (o:=.cells #[.int .i64 qj,.int .i64 qi,.int .i64 qh,.int .i64 qg,.slice qr qk.length qq] 34 (0,0)) (by (with_reducible repeat (first|refine blk_drewN ?_ _|refine blk_drew ?_|refine blk_alloc ?_ _));exact qa.out))) : P:=h
theorem z18x0 {P : Prop} (h : P:=by rw [hg];exact Nat.ne_of_gt (blk_lt (g:=qb) (o:=.cells #[.int .i64 qj,.int .i64 qi,.int .i64 qh,.int .i64 qg,.slice qr qk.length qq] 34 (0,0)) (by (with_reducible repeat (first|refine blk_drewN ?_ _|refine blk_drew ?_|refine blk_alloc ?_ _));exact qa.out))) : P:=h

/-! ### laws_lbMsg: function 104 -/
def laws_lbMsg.f (k : Nat) (qj : Int) (qi : Int) (qh : Int) (qg : Int) (qk : List (S41)) (qo : Int) (qn : Int) (qm : Int) (ql : Int) (qp : List (S41)) : Option (Bool):=if qj = qo then (if qi = qn then (if qh = qm then (if qg = ql then ((laws_lbSeals.f k qk qp).bind fun qz=>(some qz)) else (some false)) else (some false)) else (some false)) else (some false)
theorem laws_lbMsg.mono : ∀ a0 a1 a2 a3 a4 a5 a6 a7 a8 a9 k,LeO (laws_lbMsg.f k a0 a1 a2 a3 a4 a5 a6 a7 a8 a9) (laws_lbMsg.f (k + 1) a0 a1 a2 a3 a4 a5 a6 a7 a8 a9):=by
 intro a0 a1 a2 a3 a4 a5 a6 a7 a8 a9 k
 unfold laws_lbMsg.f
 repeat' first
   | (with_reducible exact laws_lbSeals.mono _ _ _)
   | (with_reducible exact LeO.refl _)
   | (with_reducible exact LeO.none _)
   | (with_reducible refine LeO.ite ?_ ?_)
   | (with_reducible refine LeO.bind ?_ (fun _=>?_))
   | exact laws_lbSeals.mono _ _ _
   | exact LeO.none _
   | refine LeO.ite ?_ ?_
   | refine LeO.bind ?_ (fun _=>?_)
set_option maxHeartbeats 8000000 in
set_option maxRecDepth 100000 in
theorem laws_lbMsg.calls (k : Nat) (qj : Int) (qi : Int) (qh : Int) (qg : Int) (qr : Option Addr) (qq : Nat) (qk : List (S41)) (qo : Int) (qn : Int) (qm : Int) (ql : Int) (qw : Option Addr) (qv : Nat) (qp : List (S41)) (r : Bool) (w : World) (wb : Kd.C k41 w qr qk.length qk) (wd : qk.length ≤ qq) (wa : Kd.C k41 w qw qp.length qp) (wc : qp.length ≤ qv) (h : laws_lbMsg.f k qj qi qh qg qk qo qn qm ql qp = some r) :
  Calls Try.prog 104 #[.agg #[.int .i64 qj,.int .i64 qi,.int .i64 qh,.int .i64 qg,.slice qr qk.length qq],.agg #[.int .i64 qo,.int .i64 qn,.int .i64 qm,.int .i64 ql,.slice qw qp.length qv]] w fun e w' => e = .returned (.bool r) ∧ Below w.heap.size w w':=by
 have pn:=Try.underlying34
 have wg:=Aside0.mk wb
 have wi:=Aside0.mk wd
 clear wb wd
 have we:=Aside0.mk wa
 have wh:=Aside0.mk wc
 clear wa wc
 have HB:=Aside0.mk (Below.refl w.heap.size w)
 have H : (if qj = qo then (if qi = qn then (if qh = qm then (if qg = ql then ((laws_lbSeals.f k qk qp).bind fun qz=>(some qz)) else (some false)) else (some false)) else (some false)) else (some false)) = some r:=h
 clear h
 by_cases c3 : qj = qo
 rotate_left
 ·rw [if_neg c3] at H
  have pc : (qj == qo) = false:=beq_eq_false_iff_ne.mpr c3
  have pb : (qj != qo) = true:=bne_iff_ne.mpr c3
  obtain rfl:=Option.some.inj H
  go_enter Try.func104,Try.ntmps104
  go_wp2_with (first|((with_reducible refine gate_dst (N:=2) rfl ?_);refine box_event ?hg (N:=2) ?hd (cs:=#[.int .i64 qj,.int .i64 qi,.int .i64 qh,.int .i64 qg,.slice qr qk.length qq]) (t:=34) ?hr ?_;(case hd=>rfl);(case hg=>rfl);(case hr=>first|(go_simp;done)|(go_simp;rfl));intro qb hg w28 hbox hb;have n0_:=Aside0.mk (below_step z18x5 hb);have n1_:=Aside0.mk (hbox);have n2_:=Aside0.mk ((z18x4 : w.heap.size ≤ qb));have n3_:=Aside0.mk ((z18x4 : w.heap.size ≤ qb));clear HB;have HB:=n0_;have qa:=n1_;have qy:=n2_;have qt:=n3_;clear n0_ n1_ n2_ n3_;clear hb hbox hg)|((with_reducible refine gate_dst (N:=3) rfl ?_);refine box_event ?hg (N:=3) ?hd (cs:=#[.int .i64 qo,.int .i64 qn,.int .i64 qm,.int .i64 ql,.slice qw qp.length qv]) (t:=34) ?hr ?_;(case hd=>rfl);(case hg=>rfl);(case hr=>first|(go_simp;done)|(go_simp;rfl));intro qd hg w29 hbox hb;have n0_:=Aside0.mk (blk_below (g:=qb) (o:=.cells #[.int .i64 qj,.int .i64 qi,.int .i64 qh,.int .i64 qg,.slice qr qk.length qq] 34 (0,0)) z18x6 hb);have n1_:=Aside0.mk (below_step z18x3 hb);have n2_:=Aside0.mk (hbox);have n3_:=Aside0.mk ((z18x2 : w.heap.size ≤ qd));have n4_:=Aside0.mk ((z18x2 : w.heap.size ≤ qd));have n5_:=Aside0.mk ((z18x1 : qb ≠ qd));have n6_:=Aside0.mk ((z18x0 : qd ≠ qb));clear qa;clear HB;have qa:=n0_;have HB:=n1_;have qc:=n2_;have qx:=n3_;have qu:=n4_;have qf:=n5_;have qe:=n6_;clear n0_ n1_ n2_ n3_ n4_ n5_ n6_;clear hb hbox hg;have pi:=qf.out;have pd:=qe.out;have jd : w29.cell? ⟨qb,0,none⟩ = some (.int .i64 qj):=(blk_cell qa.out 0).trans rfl;have jc : w29.cell? ⟨qb,1,none⟩ = some (.int .i64 qi):=(blk_cell qa.out 1).trans rfl;have jb : w29.cell? ⟨qb,2,none⟩ = some (.int .i64 qh):=(blk_cell qa.out 2).trans rfl;have ja : w29.cell? ⟨qb,3,none⟩ = some (.int .i64 qg):=(blk_cell qa.out 3).trans rfl;have uz : w29.cell? ⟨qb,4,none⟩ = some (.slice qr qk.length qq):=(blk_cell qa.out 4).trans rfl;have wt:=blk_frozen qa.out 0;have ws:=blk_frozen qa.out 1;have wr:=blk_frozen qa.out 2;have wq:=blk_frozen qa.out 3;have wo:=blk_frozen qa.out 4;have uy : w29.cell? ⟨qd,0,none⟩ = some (.int .i64 qo):=(blk_cell qc.out 0).trans rfl;have ux : w29.cell? ⟨qd,1,none⟩ = some (.int .i64 qn):=(blk_cell qc.out 1).trans rfl;have uw : w29.cell? ⟨qd,2,none⟩ = some (.int .i64 qm):=(blk_cell qc.out 2).trans rfl;have uv : w29.cell? ⟨qd,3,none⟩ = some (.int .i64 ql):=(blk_cell qc.out 3).trans rfl;have uu : w29.cell? ⟨qd,4,none⟩ = some (.slice qw qp.length qv):=(blk_cell qc.out 4).trans rfl;have wn:=blk_frozen qc.out 0;have wm:=blk_frozen qc.out 1;have wl:=blk_frozen qc.out 2;have wk:=blk_frozen qc.out 3;have wj:=blk_frozen qc.out 4))
  go_ret
  exact ⟨by first|rfl|(simp [errW_none,errW_some] <;> rfl)|(simp [*,errW_none,errW_some] <;> rfl),by repeat (first|(with_reducible first|exact HB.out|apply below_alloc|apply pw_below_drewN|apply below_drew1|refine below_set ?_ qt.out|refine below_set ?_ qu.out)|exact HB.out)⟩
 rw [if_pos c3] at H
 have pc : (qj == qo) = true:=beq_iff_eq.mpr c3
 have pb : (qj != qo) = false:=bne_eq_false_iff_eq.mpr c3
 clear c3
 by_cases c4 : qi = qn
 rotate_left
 ·rw [if_neg c4] at H
  have pa : (qi == qn) = false:=beq_eq_false_iff_ne.mpr c4
  have gz : (qi != qn) = true:=bne_iff_ne.mpr c4
  obtain rfl:=Option.some.inj H
  go_enter Try.func104,Try.ntmps104
  go_wp2_with (first|((with_reducible refine gate_dst (N:=2) rfl ?_);refine box_event ?hg (N:=2) ?hd (cs:=#[.int .i64 qj,.int .i64 qi,.int .i64 qh,.int .i64 qg,.slice qr qk.length qq]) (t:=34) ?hr ?_;(case hd=>rfl);(case hg=>rfl);(case hr=>first|(go_simp;done)|(go_simp;rfl));intro qb hg w23 hbox hb;have n0_:=Aside0.mk (below_step z18x5 hb);have n1_:=Aside0.mk (hbox);have n2_:=Aside0.mk ((z18x4 : w.heap.size ≤ qb));have n3_:=Aside0.mk ((z18x4 : w.heap.size ≤ qb));clear HB;have HB:=n0_;have qa:=n1_;have qy:=n2_;have qt:=n3_;clear n0_ n1_ n2_ n3_;clear hb hbox hg)|((with_reducible refine gate_dst (N:=3) rfl ?_);refine box_event ?hg (N:=3) ?hd (cs:=#[.int .i64 qo,.int .i64 qn,.int .i64 qm,.int .i64 ql,.slice qw qp.length qv]) (t:=34) ?hr ?_;(case hd=>rfl);(case hg=>rfl);(case hr=>first|(go_simp;done)|(go_simp;rfl));intro qd hg w24 hbox hb;have n0_:=Aside0.mk (blk_below (g:=qb) (o:=.cells #[.int .i64 qj,.int .i64 qi,.int .i64 qh,.int .i64 qg,.slice qr qk.length qq] 34 (0,0)) z18x6 hb);have n1_:=Aside0.mk (below_step z18x3 hb);have n2_:=Aside0.mk (hbox);have n3_:=Aside0.mk ((z18x2 : w.heap.size ≤ qd));have n4_:=Aside0.mk ((z18x2 : w.heap.size ≤ qd));have n5_:=Aside0.mk ((z18x1 : qb ≠ qd));have n6_:=Aside0.mk ((z18x0 : qd ≠ qb));clear qa;clear HB;have qa:=n0_;have HB:=n1_;have qc:=n2_;have qx:=n3_;have qu:=n4_;have qf:=n5_;have qe:=n6_;clear n0_ n1_ n2_ n3_ n4_ n5_ n6_;clear hb hbox hg;have pj:=qf.out;have pe:=qe.out;have jn : w24.cell? ⟨qb,0,none⟩ = some (.int .i64 qj):=(blk_cell qa.out 0).trans rfl;have jm : w24.cell? ⟨qb,1,none⟩ = some (.int .i64 qi):=(blk_cell qa.out 1).trans rfl;have jl : w24.cell? ⟨qb,2,none⟩ = some (.int .i64 qh):=(blk_cell qa.out 2).trans rfl;have jk : w24.cell? ⟨qb,3,none⟩ = some (.int .i64 qg):=(blk_cell qa.out 3).trans rfl;have jj : w24.cell? ⟨qb,4,none⟩ = some (.slice qr qk.length qq):=(blk_cell qa.out 4).trans rfl;have vn:=blk_frozen qa.out 0;have vm:=blk_frozen qa.out 1;have vl:=blk_frozen qa.out 2;have vk:=blk_frozen qa.out 3;have wz:=blk_frozen qa.out 4;have ji : w24.cell? ⟨qd,0,none⟩ = some (.int .i64 qo):=(blk_cell qc.out 0).trans rfl;have jh : w24.cell? ⟨qd,1,none⟩ = some (.int .i64 qn):=(blk_cell qc.out 1).trans rfl;have jg : w24.cell? ⟨qd,2,none⟩ = some (.int .i64 qm):=(blk_cell qc.out 2).trans rfl;have jf : w24.cell? ⟨qd,3,none⟩ = some (.int .i64 ql):=(blk_cell qc.out 3).trans rfl;have je : w24.cell? ⟨qd,4,none⟩ = some (.slice qw qp.length qv):=(blk_cell qc.out 4).trans rfl;have wy:=blk_frozen qc.out 0;have wx:=blk_frozen qc.out 1;have ww:=blk_frozen qc.out 2;have wv:=blk_frozen qc.out 3;have wu:=blk_frozen qc.out 4))
  go_ret
  exact ⟨by first|rfl|(simp [errW_none,errW_some] <;> rfl)|(simp [*,errW_none,errW_some] <;> rfl),by repeat (first|(with_reducible first|exact HB.out|apply below_alloc|apply pw_below_drewN|apply below_drew1|refine below_set ?_ qt.out|refine below_set ?_ qu.out)|exact HB.out)⟩
 rw [if_pos c4] at H
 have pa : (qi == qn) = true:=beq_iff_eq.mpr c4
 have gz : (qi != qn) = false:=bne_eq_false_iff_eq.mpr c4
 clear c4
 by_cases c5 : qh = qm
 rotate_left
 ·rw [if_neg c5] at H
  have gy : (qh == qm) = false:=beq_eq_false_iff_ne.mpr c5
  have gx : (qh != qm) = true:=bne_iff_ne.mpr c5
  obtain rfl:=Option.some.inj H
  go_enter Try.func104,Try.ntmps104
  go_wp2_with (first|((with_reducible refine gate_dst (N:=2) rfl ?_);refine box_event ?hg (N:=2) ?hd (cs:=#[.int .i64 qj,.int .i64 qi,.int .i64 qh,.int .i64 qg,.slice qr qk.length qq]) (t:=34) ?hr ?_;(case hd=>rfl);(case hg=>rfl);(case hr=>first|(go_simp;done)|(go_simp;rfl));intro qb hg w18 hbox hb;have n0_:=Aside0.mk (below_step z18x5 hb);have n1_:=Aside0.mk (hbox);have n2_:=Aside0.mk ((z18x4 : w.heap.size ≤ qb));have n3_:=Aside0.mk ((z18x4 : w.heap.size ≤ qb));clear HB;have HB:=n0_;have qa:=n1_;have qy:=n2_;have qt:=n3_;clear n0_ n1_ n2_ n3_;clear hb hbox hg)|((with_reducible refine gate_dst (N:=3) rfl ?_);refine box_event ?hg (N:=3) ?hd (cs:=#[.int .i64 qo,.int .i64 qn,.int .i64 qm,.int .i64 ql,.slice qw qp.length qv]) (t:=34) ?hr ?_;(case hd=>rfl);(case hg=>rfl);(case hr=>first|(go_simp;done)|(go_simp;rfl));intro qd hg w19 hbox hb;have n0_:=Aside0.mk (blk_below (g:=qb) (o:=.cells #[.int .i64 qj,.int .i64 qi,.int .i64 qh,.int .i64 qg,.slice qr qk.length qq] 34 (0,0)) z18x6 hb);have n1_:=Aside0.mk (below_step z18x3 hb);have n2_:=Aside0.mk (hbox);have n3_:=Aside0.mk ((z18x2 : w.heap.size ≤ qd));have n4_:=Aside0.mk ((z18x2 : w.heap.size ≤ qd));have n5_:=Aside0.mk ((z18x1 : qb ≠ qd));have n6_:=Aside0.mk ((z18x0 : qd ≠ qb));clear qa;clear HB;have qa:=n0_;have HB:=n1_;have qc:=n2_;have qx:=n3_;have qu:=n4_;have qf:=n5_;have qe:=n6_;clear n0_ n1_ n2_ n3_ n4_ n5_ n6_;clear hb hbox hg;have pk:=qf.out;have pf:=qe.out;have jx : w19.cell? ⟨qb,0,none⟩ = some (.int .i64 qj):=(blk_cell qa.out 0).trans rfl;have jw : w19.cell? ⟨qb,1,none⟩ = some (.int .i64 qi):=(blk_cell qa.out 1).trans rfl;have jv : w19.cell? ⟨qb,2,none⟩ = some (.int .i64 qh):=(blk_cell qa.out 2).trans rfl;have ju : w19.cell? ⟨qb,3,none⟩ = some (.int .i64 qg):=(blk_cell qa.out 3).trans rfl;have jt : w19.cell? ⟨qb,4,none⟩ = some (.slice qr qk.length qq):=(blk_cell qa.out 4).trans rfl;have vy:=blk_frozen qa.out 0;have vx:=blk_frozen qa.out 1;have vw:=blk_frozen qa.out 2;have vv:=blk_frozen qa.out 3;have vu:=blk_frozen qa.out 4;have js : w19.cell? ⟨qd,0,none⟩ = some (.int .i64 qo):=(blk_cell qc.out 0).trans rfl;have jr : w19.cell? ⟨qd,1,none⟩ = some (.int .i64 qn):=(blk_cell qc.out 1).trans rfl;have jq : w19.cell? ⟨qd,2,none⟩ = some (.int .i64 qm):=(blk_cell qc.out 2).trans rfl;have jp : w19.cell? ⟨qd,3,none⟩ = some (.int .i64 ql):=(blk_cell qc.out 3).trans rfl;have jo : w19.cell? ⟨qd,4,none⟩ = some (.slice qw qp.length qv):=(blk_cell qc.out 4).trans rfl;have vt:=blk_frozen qc.out 0;have vr:=blk_frozen qc.out 1;have vq:=blk_frozen qc.out 2;have vp:=blk_frozen qc.out 3;have vo:=blk_frozen qc.out 4))
  go_ret
  exact ⟨by first|rfl|(simp [errW_none,errW_some] <;> rfl)|(simp [*,errW_none,errW_some] <;> rfl),by repeat (first|(with_reducible first|exact HB.out|apply below_alloc|apply pw_below_drewN|apply below_drew1|refine below_set ?_ qt.out|refine below_set ?_ qu.out)|exact HB.out)⟩
 rw [if_pos c5] at H
 have gy : (qh == qm) = true:=beq_iff_eq.mpr c5
 have gx : (qh != qm) = false:=bne_eq_false_iff_eq.mpr c5
 clear c5
 by_cases c6 : qg = ql
 rotate_left
 ·rw [if_neg c6] at H
  have gw : (qg == ql) = false:=beq_eq_false_iff_ne.mpr c6
  have gv : (qg != ql) = true:=bne_iff_ne.mpr c6
  obtain rfl:=Option.some.inj H
  go_enter Try.func104,Try.ntmps104
  go_wp2_with (first|((with_reducible refine gate_dst (N:=2) rfl ?_);refine box_event ?hg (N:=2) ?hd (cs:=#[.int .i64 qj,.int .i64 qi,.int .i64 qh,.int .i64 qg,.slice qr qk.length qq]) (t:=34) ?hr ?_;(case hd=>rfl);(case hg=>rfl);(case hr=>first|(go_simp;done)|(go_simp;rfl));intro qb hg w13 hbox hb;have n0_:=Aside0.mk (below_step z18x5 hb);have n1_:=Aside0.mk (hbox);have n2_:=Aside0.mk ((z18x4 : w.heap.size ≤ qb));have n3_:=Aside0.mk ((z18x4 : w.heap.size ≤ qb));clear HB;have HB:=n0_;have qa:=n1_;have qy:=n2_;have qt:=n3_;clear n0_ n1_ n2_ n3_;clear hb hbox hg)|((with_reducible refine gate_dst (N:=3) rfl ?_);refine box_event ?hg (N:=3) ?hd (cs:=#[.int .i64 qo,.int .i64 qn,.int .i64 qm,.int .i64 ql,.slice qw qp.length qv]) (t:=34) ?hr ?_;(case hd=>rfl);(case hg=>rfl);(case hr=>first|(go_simp;done)|(go_simp;rfl));intro qd hg w14 hbox hb;have n0_:=Aside0.mk (blk_below (g:=qb) (o:=.cells #[.int .i64 qj,.int .i64 qi,.int .i64 qh,.int .i64 qg,.slice qr qk.length qq] 34 (0,0)) z18x6 hb);have n1_:=Aside0.mk (below_step z18x3 hb);have n2_:=Aside0.mk (hbox);have n3_:=Aside0.mk ((z18x2 : w.heap.size ≤ qd));have n4_:=Aside0.mk ((z18x2 : w.heap.size ≤ qd));have n5_:=Aside0.mk ((z18x1 : qb ≠ qd));have n6_:=Aside0.mk ((z18x0 : qd ≠ qb));clear qa;clear HB;have qa:=n0_;have HB:=n1_;have qc:=n2_;have qx:=n3_;have qu:=n4_;have qf:=n5_;have qe:=n6_;clear n0_ n1_ n2_ n3_ n4_ n5_ n6_;clear hb hbox hg;have pl:=qf.out;have pg:=qe.out;have gj : w14.cell? ⟨qb,0,none⟩ = some (.int .i64 qj):=(blk_cell qa.out 0).trans rfl;have gi : w14.cell? ⟨qb,1,none⟩ = some (.int .i64 qi):=(blk_cell qa.out 1).trans rfl;have gh : w14.cell? ⟨qb,2,none⟩ = some (.int .i64 qh):=(blk_cell qa.out 2).trans rfl;have gg : w14.cell? ⟨qb,3,none⟩ = some (.int .i64 qg):=(blk_cell qa.out 3).trans rfl;have gf : w14.cell? ⟨qb,4,none⟩ = some (.slice qr qk.length qq):=(blk_cell qa.out 4).trans rfl;have ui:=blk_frozen qa.out 0;have uh:=blk_frozen qa.out 1;have ug:=blk_frozen qa.out 2;have uf:=blk_frozen qa.out 3;have ue:=blk_frozen qa.out 4;have gc : w14.cell? ⟨qd,0,none⟩ = some (.int .i64 qo):=(blk_cell qc.out 0).trans rfl;have gb : w14.cell? ⟨qd,1,none⟩ = some (.int .i64 qn):=(blk_cell qc.out 1).trans rfl;have ga : w14.cell? ⟨qd,2,none⟩ = some (.int .i64 qm):=(blk_cell qc.out 2).trans rfl;have jz : w14.cell? ⟨qd,3,none⟩ = some (.int .i64 ql):=(blk_cell qc.out 3).trans rfl;have jy : w14.cell? ⟨qd,4,none⟩ = some (.slice qw qp.length qv):=(blk_cell qc.out 4).trans rfl;have ud:=blk_frozen qc.out 0;have uc:=blk_frozen qc.out 1;have ub:=blk_frozen qc.out 2;have ua:=blk_frozen qc.out 3;have vz:=blk_frozen qc.out 4))
  go_ret
  exact ⟨by first|rfl|(simp [errW_none,errW_some] <;> rfl)|(simp [*,errW_none,errW_some] <;> rfl),by repeat (first|(with_reducible first|exact HB.out|apply below_alloc|apply pw_below_drewN|apply below_drew1|refine below_set ?_ qt.out|refine below_set ?_ qu.out)|exact HB.out)⟩
 rw [if_pos c6] at H
 have gw : (qg == ql) = true:=beq_iff_eq.mpr c6
 have gv : (qg != ql) = false:=bne_eq_false_iff_eq.mpr c6
 clear c6
 replace H:=Option.bind_eq_some_iff.mp H
 obtain ⟨qz,A70,H⟩:=H
 replace H : (some qz) = some r:=H
 have A7:=Aside0.mk A70
 clear A70
 obtain rfl:=Option.some.inj H
 go_enter Try.func104,Try.ntmps104
 go_wp2_with (first|((with_reducible refine gate_dst (N:=2) rfl ?_);refine box_event ?hg (N:=2) ?hd (cs:=#[.int .i64 qj,.int .i64 qi,.int .i64 qh,.int .i64 qg,.slice qr qk.length qq]) (t:=34) ?hr ?_;(case hd=>rfl);(case hg=>rfl);(case hr=>first|(go_simp;done)|(go_simp;rfl));intro qb hg w8 hbox hb;have n0_:=Aside0.mk (below_step z18x5 hb);have n1_:=Aside0.mk (hbox);have n2_:=Aside0.mk ((z18x4 : w.heap.size ≤ qb));have n3_:=Aside0.mk ((z18x4 : w.heap.size ≤ qb));clear HB;have HB:=n0_;have qa:=n1_;have qy:=n2_;have qt:=n3_;clear n0_ n1_ n2_ n3_;clear hb hbox hg)|((with_reducible refine gate_dst (N:=3) rfl ?_);refine box_event ?hg (N:=3) ?hd (cs:=#[.int .i64 qo,.int .i64 qn,.int .i64 qm,.int .i64 ql,.slice qw qp.length qv]) (t:=34) ?hr ?_;(case hd=>rfl);(case hg=>rfl);(case hr=>first|(go_simp;done)|(go_simp;rfl));intro qd hg w9 hbox hb;have n0_:=Aside0.mk (blk_below (g:=qb) (o:=.cells #[.int .i64 qj,.int .i64 qi,.int .i64 qh,.int .i64 qg,.slice qr qk.length qq] 34 (0,0)) z18x6 hb);have n1_:=Aside0.mk (below_step z18x3 hb);have n2_:=Aside0.mk (hbox);have n3_:=Aside0.mk ((z18x2 : w.heap.size ≤ qd));have n4_:=Aside0.mk ((z18x2 : w.heap.size ≤ qd));have n5_:=Aside0.mk ((z18x1 : qb ≠ qd));have n6_:=Aside0.mk ((z18x0 : qd ≠ qb));clear qa;clear HB;have qa:=n0_;have HB:=n1_;have qc:=n2_;have qx:=n3_;have qu:=n4_;have qf:=n5_;have qe:=n6_;clear n0_ n1_ n2_ n3_ n4_ n5_ n6_;clear hb hbox hg;have pm:=qf.out;have ph:=qe.out;have gu : w9.cell? ⟨qb,0,none⟩ = some (.int .i64 qj):=(blk_cell qa.out 0).trans rfl;have gt : w9.cell? ⟨qb,1,none⟩ = some (.int .i64 qi):=(blk_cell qa.out 1).trans rfl;have gs : w9.cell? ⟨qb,2,none⟩ = some (.int .i64 qh):=(blk_cell qa.out 2).trans rfl;have gr : w9.cell? ⟨qb,3,none⟩ = some (.int .i64 qg):=(blk_cell qa.out 3).trans rfl;have gq : w9.cell? ⟨qb,4,none⟩ = some (.slice qr qk.length qq):=(blk_cell qa.out 4).trans rfl;have ut:=blk_frozen qa.out 0;have us:=blk_frozen qa.out 1;have ur:=blk_frozen qa.out 2;have uq:=blk_frozen qa.out 3;have uo:=blk_frozen qa.out 4;have gp : w9.cell? ⟨qd,0,none⟩ = some (.int .i64 qo):=(blk_cell qc.out 0).trans rfl;have gn : w9.cell? ⟨qd,1,none⟩ = some (.int .i64 qn):=(blk_cell qc.out 1).trans rfl;have gm : w9.cell? ⟨qd,2,none⟩ = some (.int .i64 qm):=(blk_cell qc.out 2).trans rfl;have gl : w9.cell? ⟨qd,3,none⟩ = some (.int .i64 ql):=(blk_cell qc.out 3).trans rfl;have gk : w9.cell? ⟨qd,4,none⟩ = some (.slice qw qp.length qv):=(blk_cell qc.out 4).trans rfl;have un:=blk_frozen qc.out 0;have um:=blk_frozen qc.out 1;have ul:=blk_frozen qc.out 2;have uk:=blk_frozen qc.out 3;have uj:=blk_frozen qc.out 4)|(go_at_call 152;(with_reducible refine (laws_lbSeals.calls k _ _ qk _ _ qp qz _ ?side1 ?side2 ?side3 ?side4 A7.out).mono ?_);(case side1=>repeat (first|exact (Kd.C_below wg.out HB.out)|(with_reducible refine Kd.C_alloc ?_ _)|(with_reducible refine Kd.C_drewN ?_ _)|(with_reducible refine Kd.C_drew ?_)));(case side2=>exact wi.out);(case side3=>repeat (first|exact (Kd.C_below we.out HB.out)|(with_reducible refine Kd.C_alloc ?_ _)|(with_reducible refine Kd.C_drewN ?_ _)|(with_reducible refine Kd.C_drew ?_)));(case side4=>exact wh.out);rintro e w' ⟨rfl,⟨nd,rfl⟩⟩))
 go_ret
 exact ⟨by first|rfl|(simp [errW_none,errW_some] <;> rfl)|(simp [*,errW_none,errW_some] <;> rfl),by repeat (first|(with_reducible first|exact HB.out|apply below_alloc|apply pw_below_drewN|apply below_drew1|refine below_set ?_ qt.out|refine below_set ?_ qu.out)|exact HB.out)⟩

end Go.Proofs.Ytbipicjijbnbbaa.Hp
