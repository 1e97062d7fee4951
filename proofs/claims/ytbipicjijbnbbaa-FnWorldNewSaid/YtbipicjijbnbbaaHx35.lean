-- hp.py
import Derived.Test.YtbipicjijbnbbaaHx0
import Derived.Test.YtbipicjijbnbbaaHx11
import Derived.Test.YtbipicjijbnbbaaHx20
import Derived.Test.YtbipicjijbnbbaaHx31
import Derived.Test.YtbipicjijbnbbaaHx34
namespace Go.Proofs.Ytbipicjijbnbbaa.Hp
open Go.RowKit Go.Proofs.YtbipicjijbnbbaaW.PrintWords Go.Proofs.YtbipicjijbnbbaaW.PrintLast Go.Proofs.YtbipicjijbnbbaaW.PrintMore
attribute [local go_sem] max2_int min2_int max_two min_two max_three min_three max_four min_four   -- for this text's walks alone
set_option linter.unusedVariables false
set_option linter.unusedSimpArgs false
-- squeezed by wip/tools/squeeze.py
theorem z35x4 {P : Prop} (h : P:=by (with_reducible repeat (first|refine blk_drewN ?_ _|refine blk_drew ?_|refine blk_alloc ?_ _));exact qa.out) : P:=h
theorem z35x3 {P : Prop} (h : P:=by repeat (first|(with_reducible first|exact HB.out|apply below_alloc|apply pw_below_drewN|apply below_drew1)|exact HB.out)) : P:=h
theorem z35x2 {P : Prop} (h : P:=by (try simp only [List.map_toArray,List.map_cons,List.map_nil]);first|done|rfl|(simp only [List.length_drop,List.length_take];rfl)) : P:=h
theorem z35x1 {P : Prop} (h : P:=by rw [hg];exact (below_size (by repeat (first|(with_reducible first|exact HB.out|apply below_alloc|apply pw_below_drewN|apply below_drew1)|exact HB.out)))) : P:=h
theorem z35x0 {P : Prop} (h : P:=by repeat (first|(with_reducible first|exact HB.out|apply below_alloc|apply pw_below_drewN|apply below_drew1|refine below_set ?_ qk.out)|exact HB.out)) : P:=h

/-! ### impl_ServOk: function 108 -/
def impl_ServOk.f (k : Nat) (qc : Int) (qf : Int) (qe : List (S41)) (qd : List (S113)) : Option (Bool):=(impl_servOk.f qc).bind fun qo=>(if qo = true then ((impl_within.f qf (-1) 100).bind fun qn=>(if qn = true then ((impl_cacheOk.f k qe).bind fun qm=>(if qm = true then ((impl_Call_153.f qd).bind fun ql=>(some (!ql))) else (some false))) else (some false))) else (some false))
theorem impl_ServOk.mono : ∀ a0 a1 a2 a3 k,LeO (impl_ServOk.f k a0 a1 a2 a3) (impl_ServOk.f (k + 1) a0 a1 a2 a3):=by
 intro a0 a1 a2 a3 k
 unfold impl_ServOk.f
 repeat' first
   | (with_reducible exact impl_cacheOk.mono _ _)
   | (with_reducible exact LeO.refl _)
   | (with_reducible exact LeO.none _)
   | (with_reducible refine LeO.ite ?_ ?_)
   | (with_reducible refine LeO.bind ?_ (fun _=>?_))
   | exact impl_cacheOk.mono _ _
   | exact LeO.none _
   | refine LeO.ite ?_ ?_
   | refine LeO.bind ?_ (fun _=>?_)
set_option maxHeartbeats 8000000 in
set_option maxRecDepth 100000 in
theorem impl_ServOk.calls (k : Nat) (qc : Int) (qf : Int) (qj : Option Addr) (qh : Nat) (qe : List (S41)) (qi : Option Addr) (qg : Nat) (qd : List (S113)) (r : Bool) (w : World) (qr : Kd.C k41 w qj qe.length qe) (qu : qe.length ≤ qh) (qq : Kd.C k113 w qi qd.length qd) (qt : qd.length ≤ qg) (h : impl_ServOk.f k qc qf qe qd = some r) :
  Calls Try.prog 108 #[.agg #[.int .i64 qc,.int .i64 qf,.slice qj qe.length qh,.slice qi qd.length qg]] w fun e w' => e = .returned (.bool r) ∧ Below w.heap.size w w':=by
 have ua:=Try.underlying128
 have qv:=Aside0.mk qr
 have qw:=Aside0.mk qu
 clear qr qu
 have qx:=Aside0.mk qq
 have qy:=Aside0.mk qt
 clear qq qt
 have HB:=Aside0.mk (Below.refl w.heap.size w)
 have H : ((impl_servOk.f qc).bind fun qo=>(if qo = true then ((impl_within.f qf (-1) 100).bind fun qn=>(if qn = true then ((impl_cacheOk.f k qe).bind fun qm=>(if qm = true then ((impl_Call_153.f qd).bind fun ql=>(some (!ql))) else (some false))) else (some false))) else (some false))) = some r:=h
 clear h
 replace H:=Option.bind_eq_some_iff.mp H
 obtain ⟨qo,A20,H⟩:=H
 replace H : (if qo = true then ((impl_within.f qf (-1) 100).bind fun qn=>(if qn = true then ((impl_cacheOk.f k qe).bind fun qm=>(if qm = true then ((impl_Call_153.f qd).bind fun ql=>(some (!ql))) else (some false))) else (some false))) else (some false)) = some r:=H
 have A2:=Aside0.mk A20
 clear A20
 by_cases c3 : qo = true
 rotate_left
 ·replace c3:=Bool.eq_false_iff.mpr c3
  subst c3
  rw [if_neg (show ¬ (false = true) by decide)] at H
  obtain rfl:=Option.some.inj H
  go_enter Try.func108,Try.ntmps108
  go_wp2_with (first|((with_reducible refine gate_dst (N:=1) rfl ?_);refine box_event ?hg (N:=1) ?hd (cs:=#[.int .i64 qc,.int .i64 qf,.slice qj qe.length qh,.slice qi qd.length qg]) (t:=128) ?hr ?_;(case hd=>rfl);(case hg=>rfl);(case hr=>first|(go_simp;done)|(go_simp;rfl));intro qb hg w19 hbox hb;have n0_:=Aside0.mk (below_step z35x3 hb);have n1_:=Aside0.mk (hbox);have n2_:=Aside0.mk ((z35x1 : w.heap.size ≤ qb));have n3_:=Aside0.mk ((z35x1 : w.heap.size ≤ qb));clear HB;have HB:=n0_;have qa:=n1_;have qp:=n2_;have qk:=n3_;clear n0_ n1_ n2_ n3_;clear hb hbox hg;have wy : w19.cell? ⟨qb,0,none⟩ = some (.int .i64 qc):=(blk_cell qa.out 0).trans rfl;have wx : w19.cell? ⟨qb,1,none⟩ = some (.int .i64 qf):=(blk_cell qa.out 1).trans rfl;have ww : w19.cell? ⟨qb,2,none⟩ = some (.slice qj qe.length qh):=(blk_cell qa.out 2).trans rfl;have wv : w19.cell? ⟨qb,3,none⟩ = some (.slice qi qd.length qg):=(blk_cell qa.out 3).trans rfl;have wc:=blk_frozen qa.out 0;have wb:=blk_frozen qa.out 1;have wa:=blk_frozen qa.out 2;have qz:=blk_frozen qa.out 3)|((with_reducible refine gate_callee (f:=76) rfl ?_);refine goesL_ (some 5) rfl rfl Try.func76 (by kernel_rfl) rfl #[.int .i64 qc] rfl z35x2 ?_;(with_reducible refine (impl_servOk.calls qc false _ A2.out).mono ?_);rintro e w' ⟨rfl,⟨nd,rfl⟩⟩; refine ⟨_,rfl,?_⟩))
  go_ret
  exact ⟨by first|rfl|(simp [errW_none,errW_some] <;> rfl)|(simp [*,errW_none,errW_some] <;> rfl),by repeat (first|(with_reducible first|exact HB.out|apply below_alloc|apply pw_below_drewN|apply below_drew1|refine below_set ?_ qk.out)|exact HB.out)⟩
 subst c3
 rw [if_pos rfl] at H
 replace H:=Option.bind_eq_some_iff.mp H
 obtain ⟨qn,A40,H⟩:=H
 replace H : (if qn = true then ((impl_cacheOk.f k qe).bind fun qm=>(if qm = true then ((impl_Call_153.f qd).bind fun ql=>(some (!ql))) else (some false))) else (some false)) = some r:=H
 have A4:=Aside0.mk A40
 clear A40
 by_cases c5 : qn = true
 rotate_left
 ·replace c5:=Bool.eq_false_iff.mpr c5
  subst c5
  rw [if_neg (show ¬ (false = true) by decide)] at H
  obtain rfl:=Option.some.inj H
  go_enter Try.func108,Try.ntmps108
  go_wp2_with (first|((with_reducible refine gate_dst (N:=1) rfl ?_);refine box_event ?hg (N:=1) ?hd (cs:=#[.int .i64 qc,.int .i64 qf,.slice qj qe.length qh,.slice qi qd.length qg]) (t:=128) ?hr ?_;(case hd=>rfl);(case hg=>rfl);(case hr=>first|(go_simp;done)|(go_simp;rfl));intro qb hg w17 hbox hb;have n0_:=Aside0.mk (below_step z35x3 hb);have n1_:=Aside0.mk (hbox);have n2_:=Aside0.mk ((z35x1 : w.heap.size ≤ qb));have n3_:=Aside0.mk ((z35x1 : w.heap.size ≤ qb));clear HB;have HB:=n0_;have qa:=n1_;have qp:=n2_;have qk:=n3_;clear n0_ n1_ n2_ n3_;clear hb hbox hg;have vm : w17.cell? ⟨qb,0,none⟩ = some (.int .i64 qc):=(blk_cell qa.out 0).trans rfl;have vl : w17.cell? ⟨qb,1,none⟩ = some (.int .i64 qf):=(blk_cell qa.out 1).trans rfl;have vk : w17.cell? ⟨qb,2,none⟩ = some (.slice qj qe.length qh):=(blk_cell qa.out 2).trans rfl;have wz : w17.cell? ⟨qb,3,none⟩ = some (.slice qi qd.length qg):=(blk_cell qa.out 3).trans rfl;have wh:=blk_frozen qa.out 0;have wg:=blk_frozen qa.out 1;have we:=blk_frozen qa.out 2;have wd:=blk_frozen qa.out 3)|((with_reducible refine gate_callee (f:=76) rfl ?_);refine goesL_ (some 5) rfl rfl Try.func76 (by kernel_rfl) rfl #[.int .i64 qc] rfl z35x2 ?_;(with_reducible refine (impl_servOk.calls qc true _ A2.out).mono ?_);rintro e w' ⟨rfl,⟨nd,rfl⟩⟩; refine ⟨_,rfl,?_⟩)|(go_at_call 72;(with_reducible refine (impl_within.calls qf (-1) 100 false _ A4.out).mono ?_);rintro e w' ⟨rfl,⟨nd,rfl⟩⟩))
  go_ret
  exact ⟨by first|rfl|(simp [errW_none,errW_some] <;> rfl)|(simp [*,errW_none,errW_some] <;> rfl),by repeat (first|(with_reducible first|exact HB.out|apply below_alloc|apply pw_below_drewN|apply below_drew1|refine below_set ?_ qk.out)|exact HB.out)⟩
 subst c5
 rw [if_pos rfl] at H
 replace H:=Option.bind_eq_some_iff.mp H
 obtain ⟨qm,A60,H⟩:=H
 replace H : (if qm = true then ((impl_Call_153.f qd).bind fun ql=>(some (!ql))) else (some false)) = some r:=H
 have A6:=Aside0.mk A60
 clear A60
 by_cases c7 : qm = true
 rotate_left
 ·replace c7:=Bool.eq_false_iff.mpr c7
  subst c7
  rw [if_neg (show ¬ (false = true) by decide)] at H
  obtain rfl:=Option.some.inj H
  go_enter Try.func108,Try.ntmps108
  go_wp2_with (first|((with_reducible refine gate_dst (N:=1) rfl ?_);refine box_event ?hg (N:=1) ?hd (cs:=#[.int .i64 qc,.int .i64 qf,.slice qj qe.length qh,.slice qi qd.length qg]) (t:=128) ?hr ?_;(case hd=>rfl);(case hg=>rfl);(case hr=>first|(go_simp;done)|(go_simp;rfl));intro qb hg w14 hbox hb;have n0_:=Aside0.mk (below_step z35x3 hb);have n1_:=Aside0.mk (hbox);have n2_:=Aside0.mk ((z35x1 : w.heap.size ≤ qb));have n3_:=Aside0.mk ((z35x1 : w.heap.size ≤ qb));clear HB;have HB:=n0_;have qa:=n1_;have qp:=n2_;have qk:=n3_;clear n0_ n1_ n2_ n3_;clear hb hbox hg;have vq : w14.cell? ⟨qb,0,none⟩ = some (.int .i64 qc):=(blk_cell qa.out 0).trans rfl;have vp : w14.cell? ⟨qb,1,none⟩ = some (.int .i64 qf):=(blk_cell qa.out 1).trans rfl;have vo : w14.cell? ⟨qb,2,none⟩ = some (.slice qj qe.length qh):=(blk_cell qa.out 2).trans rfl;have vn : w14.cell? ⟨qb,3,none⟩ = some (.slice qi qd.length qg):=(blk_cell qa.out 3).trans rfl;have wl:=blk_frozen qa.out 0;have wk:=blk_frozen qa.out 1;have wj:=blk_frozen qa.out 2;have wi:=blk_frozen qa.out 3)|((with_reducible refine gate_callee (f:=76) rfl ?_);refine goesL_ (some 5) rfl rfl Try.func76 (by kernel_rfl) rfl #[.int .i64 qc] rfl z35x2 ?_;(with_reducible refine (impl_servOk.calls qc true _ A2.out).mono ?_);rintro e w' ⟨rfl,⟨nd,rfl⟩⟩; refine ⟨_,rfl,?_⟩)|(go_at_call 72;(with_reducible refine (impl_within.calls qf (-1) 100 true _ A4.out).mono ?_);rintro e w' ⟨rfl,⟨nd,rfl⟩⟩)|(go_at_call 95;(with_reducible refine (impl_cacheOk.calls k _ _ qe false _ ?side1 ?side2 A6.out).mono ?_);(case side1=>repeat (first|exact (Kd.C_below qv.out z35x0)|(with_reducible refine Kd.C_alloc ?_ _)|(with_reducible refine Kd.C_drewN ?_ _)|(with_reducible refine Kd.C_drew ?_)));(case side2=>exact qw.out);rintro e w16 ⟨rfl,hb⟩; have n0_:=Aside0.mk (blk_below (g:=qb) (o:=.cells #[.int .i64 qc,.int .i64 qf,.slice qj qe.length qh,.slice qi qd.length qg] 128 (0,0)) z35x4 hb);have n1_:=Aside0.mk (below_step z35x0 hb);clear qa;clear HB;have qa:=n0_;have HB:=n1_;clear n0_ n1_;(try clear hb);(try clear hb2);(try clear hk);(try clear hi)))
  go_ret
  exact ⟨by first|rfl|(simp [errW_none,errW_some] <;> rfl)|(simp [*,errW_none,errW_some] <;> rfl),by repeat (first|(with_reducible first|exact HB.out|apply below_alloc|apply pw_below_drewN|apply below_drew1|refine below_set ?_ qk.out)|exact HB.out)⟩
 subst c7
 rw [if_pos rfl] at H
 replace H:=Option.bind_eq_some_iff.mp H
 obtain ⟨ql,A80,H⟩:=H
 replace H : (some (!ql)) = some r:=H
 have A8:=Aside0.mk A80
 clear A80
 obtain rfl:=Option.some.inj H
 go_enter Try.func108,Try.ntmps108
 go_wp2_with (first|((with_reducible refine gate_dst (N:=1) rfl ?_);refine box_event ?hg (N:=1) ?hd (cs:=#[.int .i64 qc,.int .i64 qf,.slice qj qe.length qh,.slice qi qd.length qg]) (t:=128) ?hr ?_;(case hd=>rfl);(case hg=>rfl);(case hr=>first|(go_simp;done)|(go_simp;rfl));intro qb hg w9 hbox hb;have n0_:=Aside0.mk (below_step z35x3 hb);have n1_:=Aside0.mk (hbox);have n2_:=Aside0.mk ((z35x1 : w.heap.size ≤ qb));have n3_:=Aside0.mk ((z35x1 : w.heap.size ≤ qb));clear HB;have HB:=n0_;have qa:=n1_;have qp:=n2_;have qk:=n3_;clear n0_ n1_ n2_ n3_;clear hb hbox hg;have vz : w9.cell? ⟨qb,0,none⟩ = some (.int .i64 qc):=(blk_cell qa.out 0).trans rfl;have vy : w9.cell? ⟨qb,1,none⟩ = some (.int .i64 qf):=(blk_cell qa.out 1).trans rfl;have vx : w9.cell? ⟨qb,2,none⟩ = some (.slice qj qe.length qh):=(blk_cell qa.out 2).trans rfl;have vw : w9.cell? ⟨qb,3,none⟩ = some (.slice qi qd.length qg):=(blk_cell qa.out 3).trans rfl;have wu:=blk_frozen qa.out 0;have wt:=blk_frozen qa.out 1;have ws:=blk_frozen qa.out 2;have wr:=blk_frozen qa.out 3)|((with_reducible refine gate_callee (f:=76) rfl ?_);refine goesL_ (some 5) rfl rfl Try.func76 (by kernel_rfl) rfl #[.int .i64 qc] rfl z35x2 ?_;(with_reducible refine (impl_servOk.calls qc true _ A2.out).mono ?_);rintro e w' ⟨rfl,⟨nd,rfl⟩⟩; refine ⟨_,rfl,?_⟩)|(go_at_call 72;(with_reducible refine (impl_within.calls qf (-1) 100 true _ A4.out).mono ?_);rintro e w' ⟨rfl,⟨nd,rfl⟩⟩)|(go_at_call 95;(with_reducible refine (impl_cacheOk.calls k _ _ qe true _ ?side1 ?side2 A6.out).mono ?_);(case side1=>repeat (first|exact (Kd.C_below qv.out z35x0)|(with_reducible refine Kd.C_alloc ?_ _)|(with_reducible refine Kd.C_drewN ?_ _)|(with_reducible refine Kd.C_drew ?_)));(case side2=>exact qw.out);rintro e w11 ⟨rfl,hb⟩; have n0_:=Aside0.mk (blk_below (g:=qb) (o:=.cells #[.int .i64 qc,.int .i64 qf,.slice qj qe.length qh,.slice qi qd.length qg] 128 (0,0)) z35x4 hb);have n1_:=Aside0.mk (below_step z35x0 hb);clear qa;clear HB;have qa:=n0_;have HB:=n1_;clear n0_ n1_;(try clear hb);(try clear hb2);(try clear hk);(try clear hi);have vv : w11.cell? ⟨qb,0,none⟩ = some (.int .i64 qc):=(blk_cell qa.out 0).trans rfl;have vu : w11.cell? ⟨qb,1,none⟩ = some (.int .i64 qf):=(blk_cell qa.out 1).trans rfl;have vt : w11.cell? ⟨qb,2,none⟩ = some (.slice qj qe.length qh):=(blk_cell qa.out 2).trans rfl;have vr : w11.cell? ⟨qb,3,none⟩ = some (.slice qi qd.length qg):=(blk_cell qa.out 3).trans rfl;have wq:=blk_frozen qa.out 0;have wo:=blk_frozen qa.out 1;have wn:=blk_frozen qa.out 2;have wm:=blk_frozen qa.out 3)|(go_at_call 153;(with_reducible refine (impl_Call_153.calls _ _ qd ql _ ?side1 ?side2 A8.out).mono ?_);(case side1=>repeat (first|exact (Kd.C_below qx.out HB.out)|(with_reducible refine Kd.C_alloc ?_ _)|(with_reducible refine Kd.C_drewN ?_ _)|(with_reducible refine Kd.C_drew ?_)));(case side2=>exact qy.out);rintro e w13 ⟨rfl,hb⟩; have n0_:=Aside0.mk (blk_below (g:=qb) (o:=.cells #[.int .i64 qc,.int .i64 qf,.slice qj qe.length qh,.slice qi qd.length qg] 128 (0,0)) z35x4 hb);have n1_:=Aside0.mk (below_step z35x0 hb);clear qa;clear HB;have qa:=n0_;have HB:=n1_;clear n0_ n1_;(try clear hb);(try clear hb2);(try clear hk);(try clear hi)))
 go_ret
 exact ⟨by first|rfl|(simp [errW_none,errW_some] <;> rfl)|(simp [*,errW_none,errW_some] <;> rfl),by repeat (first|(with_reducible first|exact HB.out|apply below_alloc|apply pw_below_drewN|apply below_drew1|refine below_set ?_ qk.out)|exact HB.out)⟩

-- NOT PRINTED: function 155 (impl_Msg_155)

end Go.Proofs.Ytbipicjijbnbbaa.Hp
