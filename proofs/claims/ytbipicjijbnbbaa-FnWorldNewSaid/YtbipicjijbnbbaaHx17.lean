-- hp.py
import Derived.Test.YtbipicjijbnbbaaHx0
import Derived.Test.YtbipicjijbnbbaaHx13
import Derived.Test.YtbipicjijbnbbaaHx15
namespace Go.Proofs.Ytbipicjijbnbbaa.Hp
open Go.RowKit Go.Proofs.YtbipicjijbnbbaaW.PrintWords Go.Proofs.YtbipicjijbnbbaaW.PrintLast Go.Proofs.YtbipicjijbnbbaaW.PrintMore
attribute [local go_sem] max2_int min2_int max_two min_two max_three min_three max_four min_four   -- for this text's walks alone
set_option linter.unusedVariables false
set_option linter.unusedSimpArgs false
-- squeezed by wip/tools/squeeze.py
theorem z17x7 {P : Prop} (h : P:=by (with_reducible repeat (first|refine blk_drewN ?_ _|refine blk_drew ?_|refine blk_alloc ?_ _));exact qa.out) : P:=h
theorem z17x6 {P : Prop} (h : P:=by repeat (first|(with_reducible first|exact HB.out|apply below_alloc|apply pw_below_drewN|apply below_drew1)|exact HB.out)) : P:=h
theorem z17x5 {P : Prop} (h : P:=by rw [hg];exact (below_size (by repeat (first|(with_reducible first|exact HB.out|apply below_alloc|apply pw_below_drewN|apply below_drew1)|exact HB.out)))) : P:=h
theorem z17x4 {P : Prop} (h : P:=by repeat (first|(with_reducible first|exact HB.out|apply below_alloc|apply pw_below_drewN|apply below_drew1|refine below_set ?_ qt.out)|exact HB.out)) : P:=h
theorem z17x3 {P : Prop} (h : P:=by rw [hg];exact (below_size (by repeat (first|(with_reducible first|exact HB.out|apply below_alloc|apply pw_below_drewN|apply below_drew1|refine below_set ?_ qt.out)|exact HB.out)))) : P:=h
theorem z17x2 {P : Prop} (h : P:=by repeat (first|(with_reducible first|exact HB.out|apply below_alloc|apply pw_below_drewN|apply below_drew1|refine below_set ?_ qt.out|refine below_set ?_ qu.out)|exact HB.out)) : P:=h
theorem z17x1 {P : Prop} (h : P:=by rw [hg];exact Nat.ne_of_lt (blk_lt (g:=qb) (o:=.cells #[.int .i64 qj,.int .i64 qi,.slice qr qh.length qp,.slice qq qg.length qo] 128 (0,0)) (by (with_reducible repeat (first|refine blk_drewN ?_ _|refine blk_drew ?_|refine blk_alloc ?_ _));exact qa.out))) : P:=h
theorem z17x0 {P : Prop} (h : P:=by rw [hg];exact Nat.ne_of_gt (blk_lt (g:=qb) (o:=.cells #[.int .i64 qj,.int .i64 qi,.slice qr qh.length qp,.slice qq qg.length qo] 128 (0,0)) (by (with_reducible repeat (first|refine blk_drewN ?_ _|refine blk_drew ?_|refine blk_alloc ?_ _));exact qa.out))) : P:=h

/-! ### laws_lbServ: function 103 -/
def laws_lbServ.f (k : Nat) (qj : Int) (qi : Int) (qh : List (S41)) (qg : List (S113)) (qn : Int) (qm : Int) (ql : List (S41)) (qk : List (S113)) : Option (Bool):=if qj = qn then (if qi = qm then ((laws_lbSeals.f k qh ql).bind fun wa=>(if wa = true then ((laws_lbCalls.f k qg qk).bind fun qz=>(some qz)) else (some false))) else (some false)) else (some false)
theorem laws_lbServ.mono : ∀ a0 a1 a2 a3 a4 a5 a6 a7 k,LeO (laws_lbServ.f k a0 a1 a2 a3 a4 a5 a6 a7) (laws_lbServ.f (k + 1) a0 a1 a2 a3 a4 a5 a6 a7):=by
 intro a0 a1 a2 a3 a4 a5 a6 a7 k
 unfold laws_lbServ.f
 repeat' first
   | (with_reducible exact laws_lbCalls.mono _ _ _)
   | (with_reducible exact laws_lbSeals.mono _ _ _)
   | (with_reducible exact LeO.refl _)
   | (with_reducible exact LeO.none _)
   | (with_reducible refine LeO.ite ?_ ?_)
   | (with_reducible refine LeO.bind ?_ (fun _=>?_))
   | exact laws_lbCalls.mono _ _ _
   | exact laws_lbSeals.mono _ _ _
   | exact LeO.none _
   | refine LeO.ite ?_ ?_
   | refine LeO.bind ?_ (fun _=>?_)
set_option maxHeartbeats 8000000 in
set_option maxRecDepth 100000 in
theorem laws_lbServ.calls (k : Nat) (qj : Int) (qi : Int) (qr : Option Addr) (qp : Nat) (qh : List (S41)) (qq : Option Addr) (qo : Nat) (qg : List (S113)) (qn : Int) (qm : Int) (qy : Option Addr) (qw : Nat) (ql : List (S41)) (qx : Option Addr) (qv : Nat) (qk : List (S113)) (r : Bool) (w : World) (wh : Kd.C k41 w qr qh.length qh) (wl : qh.length ≤ qp) (wg : Kd.C k113 w qq qg.length qg) (wk : qg.length ≤ qo) (we : Kd.C k41 w qy ql.length ql) (wj : ql.length ≤ qw) (wd : Kd.C k113 w qx qk.length qk) (wi : qk.length ≤ qv) (h : laws_lbServ.f k qj qi qh qg qn qm ql qk = some r) :
  Calls Try.prog 103 #[.agg #[.int .i64 qj,.int .i64 qi,.slice qr qh.length qp,.slice qq qg.length qo],.agg #[.int .i64 qn,.int .i64 qm,.slice qy ql.length qw,.slice qx qk.length qv]] w fun e w' => e = .returned (.bool r) ∧ Below w.heap.size w w':=by
 have jx:=Try.underlying128
 have wn:=Aside0.mk wh
 have wq:=Aside0.mk wl
 clear wh wl
 have ws:=Aside0.mk wg
 have wu:=Aside0.mk wk
 clear wg wk
 have wm:=Aside0.mk we
 have wo:=Aside0.mk wj
 clear we wj
 have wr:=Aside0.mk wd
 have wt:=Aside0.mk wi
 clear wd wi
 have HB:=Aside0.mk (Below.refl w.heap.size w)
 have H : (if qj = qn then (if qi = qm then ((laws_lbSeals.f k qh ql).bind fun wa=>(if wa = true then ((laws_lbCalls.f k qg qk).bind fun qz=>(some qz)) else (some false))) else (some false)) else (some false)) = some r:=h
 clear h
 by_cases c3 : qj = qn
 rotate_left
 ·rw [if_neg c3] at H
  have jw : (qj == qn) = false:=beq_eq_false_iff_ne.mpr c3
  have jv : (qj != qn) = true:=bne_iff_ne.mpr c3
  obtain rfl:=Option.some.inj H
  go_enter Try.func103,Try.ntmps103
  go_wp2_with (first|((with_reducible refine gate_dst (N:=2) rfl ?_);refine box_event ?hg (N:=2) ?hd (cs:=#[.int .i64 qj,.int .i64 qi,.slice qr qh.length qp,.slice qq qg.length qo]) (t:=128) ?hr ?_;(case hd=>rfl);(case hg=>rfl);(case hr=>first|(go_simp;done)|(go_simp;rfl));intro qb hg w23 hbox hb;have n0_:=Aside0.mk (below_step z17x6 hb);have n1_:=Aside0.mk (hbox);have n2_:=Aside0.mk ((z17x5 : w.heap.size ≤ qb));have n3_:=Aside0.mk ((z17x5 : w.heap.size ≤ qb));clear HB;have HB:=n0_;have qa:=n1_;have wc:=n2_;have qt:=n3_;clear n0_ n1_ n2_ n3_;clear hb hbox hg)|((with_reducible refine gate_dst (N:=3) rfl ?_);refine box_event ?hg (N:=3) ?hd (cs:=#[.int .i64 qn,.int .i64 qm,.slice qy ql.length qw,.slice qx qk.length qv]) (t:=128) ?hr ?_;(case hd=>rfl);(case hg=>rfl);(case hr=>first|(go_simp;done)|(go_simp;rfl));intro qc hg w24 hbox hb;have n0_:=Aside0.mk (blk_below (g:=qb) (o:=.cells #[.int .i64 qj,.int .i64 qi,.slice qr qh.length qp,.slice qq qg.length qo] 128 (0,0)) z17x7 hb);have n1_:=Aside0.mk (below_step z17x4 hb);have n2_:=Aside0.mk (hbox);have n3_:=Aside0.mk ((z17x3 : w.heap.size ≤ qc));have n4_:=Aside0.mk ((z17x3 : w.heap.size ≤ qc));have n5_:=Aside0.mk ((z17x1 : qb ≠ qc));have n6_:=Aside0.mk ((z17x0 : qc ≠ qb));clear qa;clear HB;have qa:=n0_;have HB:=n1_;have qd:=n2_;have wb:=n3_;have qu:=n4_;have qf:=n5_;have qe:=n6_;clear n0_ n1_ n2_ n3_ n4_ n5_ n6_;clear hb hbox hg;have gc:=qf.out;have jy:=qe.out;have uu : w24.cell? ⟨qb,0,none⟩ = some (.int .i64 qj):=(blk_cell qa.out 0).trans rfl;have ut : w24.cell? ⟨qb,1,none⟩ = some (.int .i64 qi):=(blk_cell qa.out 1).trans rfl;have us : w24.cell? ⟨qb,2,none⟩ = some (.slice qr qh.length qp):=(blk_cell qa.out 2).trans rfl;have ur : w24.cell? ⟨qb,3,none⟩ = some (.slice qq qg.length qo):=(blk_cell qa.out 3).trans rfl;have vm:=blk_frozen qa.out 0;have vl:=blk_frozen qa.out 1;have vk:=blk_frozen qa.out 2;have wz:=blk_frozen qa.out 3;have uq : w24.cell? ⟨qc,0,none⟩ = some (.int .i64 qn):=(blk_cell qd.out 0).trans rfl;have uo : w24.cell? ⟨qc,1,none⟩ = some (.int .i64 qm):=(blk_cell qd.out 1).trans rfl;have un : w24.cell? ⟨qc,2,none⟩ = some (.slice qy ql.length qw):=(blk_cell qd.out 2).trans rfl;have um : w24.cell? ⟨qc,3,none⟩ = some (.slice qx qk.length qv):=(blk_cell qd.out 3).trans rfl;have wy:=blk_frozen qd.out 0;have wx:=blk_frozen qd.out 1;have ww:=blk_frozen qd.out 2;have wv:=blk_frozen qd.out 3))
  go_ret
  exact ⟨by first|rfl|(simp [errW_none,errW_some] <;> rfl)|(simp [*,errW_none,errW_some] <;> rfl),by repeat (first|(with_reducible first|exact HB.out|apply below_alloc|apply pw_below_drewN|apply below_drew1|refine below_set ?_ qt.out|refine below_set ?_ qu.out)|exact HB.out)⟩
 rw [if_pos c3] at H
 have jw : (qj == qn) = true:=beq_iff_eq.mpr c3
 have jv : (qj != qn) = false:=bne_eq_false_iff_eq.mpr c3
 clear c3
 by_cases c4 : qi = qm
 rotate_left
 ·rw [if_neg c4] at H
  have ju : (qi == qm) = false:=beq_eq_false_iff_ne.mpr c4
  have jt : (qi != qm) = true:=bne_iff_ne.mpr c4
  obtain rfl:=Option.some.inj H
  go_enter Try.func103,Try.ntmps103
  go_wp2_with (first|((with_reducible refine gate_dst (N:=2) rfl ?_);refine box_event ?hg (N:=2) ?hd (cs:=#[.int .i64 qj,.int .i64 qi,.slice qr qh.length qp,.slice qq qg.length qo]) (t:=128) ?hr ?_;(case hd=>rfl);(case hg=>rfl);(case hr=>first|(go_simp;done)|(go_simp;rfl));intro qb hg w18 hbox hb;have n0_:=Aside0.mk (below_step z17x6 hb);have n1_:=Aside0.mk (hbox);have n2_:=Aside0.mk ((z17x5 : w.heap.size ≤ qb));have n3_:=Aside0.mk ((z17x5 : w.heap.size ≤ qb));clear HB;have HB:=n0_;have qa:=n1_;have wc:=n2_;have qt:=n3_;clear n0_ n1_ n2_ n3_;clear hb hbox hg)|((with_reducible refine gate_dst (N:=3) rfl ?_);refine box_event ?hg (N:=3) ?hd (cs:=#[.int .i64 qn,.int .i64 qm,.slice qy ql.length qw,.slice qx qk.length qv]) (t:=128) ?hr ?_;(case hd=>rfl);(case hg=>rfl);(case hr=>first|(go_simp;done)|(go_simp;rfl));intro qc hg w19 hbox hb;have n0_:=Aside0.mk (blk_below (g:=qb) (o:=.cells #[.int .i64 qj,.int .i64 qi,.slice qr qh.length qp,.slice qq qg.length qo] 128 (0,0)) z17x7 hb);have n1_:=Aside0.mk (below_step z17x4 hb);have n2_:=Aside0.mk (hbox);have n3_:=Aside0.mk ((z17x3 : w.heap.size ≤ qc));have n4_:=Aside0.mk ((z17x3 : w.heap.size ≤ qc));have n5_:=Aside0.mk ((z17x1 : qb ≠ qc));have n6_:=Aside0.mk ((z17x0 : qc ≠ qb));clear qa;clear HB;have qa:=n0_;have HB:=n1_;have qd:=n2_;have wb:=n3_;have qu:=n4_;have qf:=n5_;have qe:=n6_;clear n0_ n1_ n2_ n3_ n4_ n5_ n6_;clear hb hbox hg;have gf:=qf.out;have jz:=qe.out;have jc : w19.cell? ⟨qb,0,none⟩ = some (.int .i64 qj):=(blk_cell qa.out 0).trans rfl;have jb : w19.cell? ⟨qb,1,none⟩ = some (.int .i64 qi):=(blk_cell qa.out 1).trans rfl;have ja : w19.cell? ⟨qb,2,none⟩ = some (.slice qr qh.length qp):=(blk_cell qa.out 2).trans rfl;have uz : w19.cell? ⟨qb,3,none⟩ = some (.slice qq qg.length qo):=(blk_cell qa.out 3).trans rfl;have vv:=blk_frozen qa.out 0;have vu:=blk_frozen qa.out 1;have vt:=blk_frozen qa.out 2;have vr:=blk_frozen qa.out 3;have uy : w19.cell? ⟨qc,0,none⟩ = some (.int .i64 qn):=(blk_cell qd.out 0).trans rfl;have ux : w19.cell? ⟨qc,1,none⟩ = some (.int .i64 qm):=(blk_cell qd.out 1).trans rfl;have uw : w19.cell? ⟨qc,2,none⟩ = some (.slice qy ql.length qw):=(blk_cell qd.out 2).trans rfl;have uv : w19.cell? ⟨qc,3,none⟩ = some (.slice qx qk.length qv):=(blk_cell qd.out 3).trans rfl;have vq:=blk_frozen qd.out 0;have vp:=blk_frozen qd.out 1;have vo:=blk_frozen qd.out 2;have vn:=blk_frozen qd.out 3))
  go_ret
  exact ⟨by first|rfl|(simp [errW_none,errW_some] <;> rfl)|(simp [*,errW_none,errW_some] <;> rfl),by repeat (first|(with_reducible first|exact HB.out|apply below_alloc|apply pw_below_drewN|apply below_drew1|refine below_set ?_ qt.out|refine below_set ?_ qu.out)|exact HB.out)⟩
 rw [if_pos c4] at H
 have ju : (qi == qm) = true:=beq_iff_eq.mpr c4
 have jt : (qi != qm) = false:=bne_eq_false_iff_eq.mpr c4
 clear c4
 replace H:=Option.bind_eq_some_iff.mp H
 obtain ⟨wa,A50,H⟩:=H
 replace H : (if wa = true then ((laws_lbCalls.f k qg qk).bind fun qz=>(some qz)) else (some false)) = some r:=H
 have A5:=Aside0.mk A50
 clear A50
 by_cases c6 : wa = true
 rotate_left
 ·replace c6:=Bool.eq_false_iff.mpr c6
  subst c6
  rw [if_neg (show ¬ (false = true) by decide)] at H
  obtain rfl:=Option.some.inj H
  go_enter Try.func103,Try.ntmps103
  go_wp2_with (first|((with_reducible refine gate_dst (N:=2) rfl ?_);refine box_event ?hg (N:=2) ?hd (cs:=#[.int .i64 qj,.int .i64 qi,.slice qr qh.length qp,.slice qq qg.length qo]) (t:=128) ?hr ?_;(case hd=>rfl);(case hg=>rfl);(case hr=>first|(go_simp;done)|(go_simp;rfl));intro qb hg w13 hbox hb;have n0_:=Aside0.mk (below_step z17x6 hb);have n1_:=Aside0.mk (hbox);have n2_:=Aside0.mk ((z17x5 : w.heap.size ≤ qb));have n3_:=Aside0.mk ((z17x5 : w.heap.size ≤ qb));clear HB;have HB:=n0_;have qa:=n1_;have wc:=n2_;have qt:=n3_;clear n0_ n1_ n2_ n3_;clear hb hbox hg)|((with_reducible refine gate_dst (N:=3) rfl ?_);refine box_event ?hg (N:=3) ?hd (cs:=#[.int .i64 qn,.int .i64 qm,.slice qy ql.length qw,.slice qx qk.length qv]) (t:=128) ?hr ?_;(case hd=>rfl);(case hg=>rfl);(case hr=>first|(go_simp;done)|(go_simp;rfl));intro qc hg w14 hbox hb;have n0_:=Aside0.mk (blk_below (g:=qb) (o:=.cells #[.int .i64 qj,.int .i64 qi,.slice qr qh.length qp,.slice qq qg.length qo] 128 (0,0)) z17x7 hb);have n1_:=Aside0.mk (below_step z17x4 hb);have n2_:=Aside0.mk (hbox);have n3_:=Aside0.mk ((z17x3 : w.heap.size ≤ qc));have n4_:=Aside0.mk ((z17x3 : w.heap.size ≤ qc));have n5_:=Aside0.mk ((z17x1 : qb ≠ qc));have n6_:=Aside0.mk ((z17x0 : qc ≠ qb));clear qa;clear HB;have qa:=n0_;have HB:=n1_;have qd:=n2_;have wb:=n3_;have qu:=n4_;have qf:=n5_;have qe:=n6_;clear n0_ n1_ n2_ n3_ n4_ n5_ n6_;clear hb hbox hg;have gg:=qf.out;have ga:=qe.out;have jk : w14.cell? ⟨qb,0,none⟩ = some (.int .i64 qj):=(blk_cell qa.out 0).trans rfl;have jj : w14.cell? ⟨qb,1,none⟩ = some (.int .i64 qi):=(blk_cell qa.out 1).trans rfl;have ji : w14.cell? ⟨qb,2,none⟩ = some (.slice qr qh.length qp):=(blk_cell qa.out 2).trans rfl;have jh : w14.cell? ⟨qb,3,none⟩ = some (.slice qq qg.length qo):=(blk_cell qa.out 3).trans rfl;have ud:=blk_frozen qa.out 0;have uc:=blk_frozen qa.out 1;have ub:=blk_frozen qa.out 2;have ua:=blk_frozen qa.out 3;have jg : w14.cell? ⟨qc,0,none⟩ = some (.int .i64 qn):=(blk_cell qd.out 0).trans rfl;have jf : w14.cell? ⟨qc,1,none⟩ = some (.int .i64 qm):=(blk_cell qd.out 1).trans rfl;have je : w14.cell? ⟨qc,2,none⟩ = some (.slice qy ql.length qw):=(blk_cell qd.out 2).trans rfl;have jd : w14.cell? ⟨qc,3,none⟩ = some (.slice qx qk.length qv):=(blk_cell qd.out 3).trans rfl;have vz:=blk_frozen qd.out 0;have vy:=blk_frozen qd.out 1;have vx:=blk_frozen qd.out 2;have vw:=blk_frozen qd.out 3)|(go_at_call 152;(with_reducible refine (laws_lbSeals.calls k _ _ qh _ _ ql false _ ?side1 ?side2 ?side3 ?side4 A5.out).mono ?_);(case side1=>repeat (first|exact (Kd.C_below wn.out HB.out)|(with_reducible refine Kd.C_alloc ?_ _)|(with_reducible refine Kd.C_drewN ?_ _)|(with_reducible refine Kd.C_drew ?_)));(case side2=>exact wq.out);(case side3=>repeat (first|exact (Kd.C_below wm.out HB.out)|(with_reducible refine Kd.C_alloc ?_ _)|(with_reducible refine Kd.C_drewN ?_ _)|(with_reducible refine Kd.C_drew ?_)));(case side4=>exact wo.out);rintro e w' ⟨rfl,⟨nd,rfl⟩⟩))
  go_ret
  exact ⟨by first|rfl|(simp [errW_none,errW_some] <;> rfl)|(simp [*,errW_none,errW_some] <;> rfl),by repeat (first|(with_reducible first|exact HB.out|apply below_alloc|apply pw_below_drewN|apply below_drew1|refine below_set ?_ qt.out|refine below_set ?_ qu.out)|exact HB.out)⟩
 subst c6
 rw [if_pos rfl] at H
 replace H:=Option.bind_eq_some_iff.mp H
 obtain ⟨qz,A70,H⟩:=H
 replace H : (some qz) = some r:=H
 have A7:=Aside0.mk A70
 clear A70
 obtain rfl:=Option.some.inj H
 go_enter Try.func103,Try.ntmps103
 go_wp2_with (first|((with_reducible refine gate_dst (N:=2) rfl ?_);refine box_event ?hg (N:=2) ?hd (cs:=#[.int .i64 qj,.int .i64 qi,.slice qr qh.length qp,.slice qq qg.length qo]) (t:=128) ?hr ?_;(case hd=>rfl);(case hg=>rfl);(case hr=>first|(go_simp;done)|(go_simp;rfl));intro qb hg w8 hbox hb;have n0_:=Aside0.mk (below_step z17x6 hb);have n1_:=Aside0.mk (hbox);have n2_:=Aside0.mk ((z17x5 : w.heap.size ≤ qb));have n3_:=Aside0.mk ((z17x5 : w.heap.size ≤ qb));clear HB;have HB:=n0_;have qa:=n1_;have wc:=n2_;have qt:=n3_;clear n0_ n1_ n2_ n3_;clear hb hbox hg)|((with_reducible refine gate_dst (N:=3) rfl ?_);refine box_event ?hg (N:=3) ?hd (cs:=#[.int .i64 qn,.int .i64 qm,.slice qy ql.length qw,.slice qx qk.length qv]) (t:=128) ?hr ?_;(case hd=>rfl);(case hg=>rfl);(case hr=>first|(go_simp;done)|(go_simp;rfl));intro qc hg w9 hbox hb;have n0_:=Aside0.mk (blk_below (g:=qb) (o:=.cells #[.int .i64 qj,.int .i64 qi,.slice qr qh.length qp,.slice qq qg.length qo] 128 (0,0)) z17x7 hb);have n1_:=Aside0.mk (below_step z17x4 hb);have n2_:=Aside0.mk (hbox);have n3_:=Aside0.mk ((z17x3 : w.heap.size ≤ qc));have n4_:=Aside0.mk ((z17x3 : w.heap.size ≤ qc));have n5_:=Aside0.mk ((z17x1 : qb ≠ qc));have n6_:=Aside0.mk ((z17x0 : qc ≠ qb));clear qa;clear HB;have qa:=n0_;have HB:=n1_;have qd:=n2_;have wb:=n3_;have qu:=n4_;have qf:=n5_;have qe:=n6_;clear n0_ n1_ n2_ n3_ n4_ n5_ n6_;clear hb hbox hg;have gh:=qf.out;have gb:=qe.out;have js : w9.cell? ⟨qb,0,none⟩ = some (.int .i64 qj):=(blk_cell qa.out 0).trans rfl;have jr : w9.cell? ⟨qb,1,none⟩ = some (.int .i64 qi):=(blk_cell qa.out 1).trans rfl;have jq : w9.cell? ⟨qb,2,none⟩ = some (.slice qr qh.length qp):=(blk_cell qa.out 2).trans rfl;have jp : w9.cell? ⟨qb,3,none⟩ = some (.slice qq qg.length qo):=(blk_cell qa.out 3).trans rfl;have ul:=blk_frozen qa.out 0;have uk:=blk_frozen qa.out 1;have uj:=blk_frozen qa.out 2;have ui:=blk_frozen qa.out 3;have jo : w9.cell? ⟨qc,0,none⟩ = some (.int .i64 qn):=(blk_cell qd.out 0).trans rfl;have jn : w9.cell? ⟨qc,1,none⟩ = some (.int .i64 qm):=(blk_cell qd.out 1).trans rfl;have jm : w9.cell? ⟨qc,2,none⟩ = some (.slice qy ql.length qw):=(blk_cell qd.out 2).trans rfl;have jl : w9.cell? ⟨qc,3,none⟩ = some (.slice qx qk.length qv):=(blk_cell qd.out 3).trans rfl;have uh:=blk_frozen qd.out 0;have ug:=blk_frozen qd.out 1;have uf:=blk_frozen qd.out 2;have ue:=blk_frozen qd.out 3)|(go_at_call 152;(with_reducible refine (laws_lbSeals.calls k _ _ qh _ _ ql true _ ?side1 ?side2 ?side3 ?side4 A5.out).mono ?_);(case side1=>repeat (first|exact (Kd.C_below wn.out HB.out)|(with_reducible refine Kd.C_alloc ?_ _)|(with_reducible refine Kd.C_drewN ?_ _)|(with_reducible refine Kd.C_drew ?_)));(case side2=>exact wq.out);(case side3=>repeat (first|exact (Kd.C_below wm.out HB.out)|(with_reducible refine Kd.C_alloc ?_ _)|(with_reducible refine Kd.C_drewN ?_ _)|(with_reducible refine Kd.C_drew ?_)));(case side4=>exact wo.out);rintro e w' ⟨rfl,⟨nd,rfl⟩⟩)|(go_at_call 67;(with_reducible refine (laws_lbCalls.calls k _ _ qg _ _ qk qz _ ?side1 ?side2 ?side3 ?side4 A7.out).mono ?_);(case side1=>repeat (first|exact (Kd.C_below ws.out z17x2)|(with_reducible refine Kd.C_alloc ?_ _)|(with_reducible refine Kd.C_drewN ?_ _)|(with_reducible refine Kd.C_drew ?_)));(case side2=>exact wu.out);(case side3=>repeat (first|exact (Kd.C_below wr.out z17x2)|(with_reducible refine Kd.C_alloc ?_ _)|(with_reducible refine Kd.C_drewN ?_ _)|(with_reducible refine Kd.C_drew ?_)));(case side4=>exact wt.out);rintro e w' ⟨rfl,⟨nd,rfl⟩⟩))
 go_ret
 exact ⟨by first|rfl|(simp [errW_none,errW_some] <;> rfl)|(simp [*,errW_none,errW_some] <;> rfl),by repeat (first|(with_reducible first|exact HB.out|apply below_alloc|apply pw_below_drewN|apply below_drew1|refine below_set ?_ qt.out|refine below_set ?_ qu.out)|exact HB.out)⟩

end Go.Proofs.Ytbipicjijbnbbaa.Hp
