-- hp.py
import Derived.Test.YtbipicjijbnbbaaHx0
import Derived.Test.YtbipicjijbnbbaaHx15
namespace Go.Proofs.Ytbipicjijbnbbaa.Hp
open Go.RowKit Go.Proofs.YtbipicjijbnbbaaW.PrintWords Go.Proofs.YtbipicjijbnbbaaW.PrintLast Go.Proofs.YtbipicjijbnbbaaW.PrintMore
attribute [local go_sem] max2_int min2_int max_two min_two max_three min_three max_four min_four   -- for this text's walks alone
set_option linter.unusedVariables false
set_option linter.unusedSimpArgs false
-- squeezed by wip/tools/squeeze.py
theorem z16x3 {P : Prop} (h : P:=by rw [hg];exact (below_size (by repeat (first|(with_reducible first|exact HB.out|apply below_alloc|apply pw_below_drewN|apply below_drew1)|exact HB.out)))) : P:=h
theorem z16x2 {P : Prop} (h : P:=by rw [hg];exact (below_size (by repeat (first|(with_reducible first|exact HB.out|apply below_alloc|apply pw_below_drewN|apply below_drew1|refine below_set ?_ qm.out)|exact HB.out)))) : P:=h
theorem z16x1 {P : Prop} (h : P:=by rw [hg];exact Nat.ne_of_lt (blk_lt (g:=qa) (o:=.cells #[.int .i64 qd,.slice ql qe.length qk] 64 (0,0)) (by (with_reducible repeat (first|refine blk_drewN ?_ _|refine blk_drew ?_|refine blk_alloc ?_ _));exact qb.out))) : P:=h
theorem z16x0 {P : Prop} (h : P:=by rw [hg];exact Nat.ne_of_gt (blk_lt (g:=qa) (o:=.cells #[.int .i64 qd,.slice ql qe.length qk] 64 (0,0)) (by (with_reducible repeat (first|refine blk_drewN ?_ _|refine blk_drew ?_|refine blk_alloc ?_ _));exact qb.out))) : P:=h

/-! ### laws_lbKdc: function 102 -/
def laws_lbKdc.f (k : Nat) (qd : Int) (qe : List (S41)) (qf : Int) (qh : List (S41)) : Option (Bool):=if qd = qf then ((laws_lbSeals.f k qe qh).bind fun qn=>(some qn)) else (some false)
theorem laws_lbKdc.mono : ∀ a0 a1 a2 a3 k,LeO (laws_lbKdc.f k a0 a1 a2 a3) (laws_lbKdc.f (k + 1) a0 a1 a2 a3):=by
 intro a0 a1 a2 a3 k
 unfold laws_lbKdc.f
 repeat' first
   | (with_reducible exact laws_lbSeals.mono _ _ _)
   | (with_reducible exact LeO.refl _)
   | (with_reducible exact LeO.none _)
   | (with_reducible refine LeO.ite ?_ ?_)
   | (with_reducible refine LeO.bind ?_ (fun _=>?_))
   | exact laws_lbSeals.mono _ _ _
   | exact LeO.none _
   | refine LeO.ite ?_ ?_
   | refine LeO.bind ?_ (fun _=>?_)
set_option maxHeartbeats 8000000 in
set_option maxRecDepth 100000 in
theorem laws_lbKdc.calls (k : Nat) (qd : Int) (ql : Option Addr) (qk : Nat) (qe : List (S41)) (qf : Int) (qp : Option Addr) (qo : Nat) (qh : List (S41)) (r : Bool) (w : World) (qt : Kd.C k41 w ql qe.length qe) (qv : qe.length ≤ qk) (qr : Kd.C k41 w qp qh.length qh) (qu : qh.length ≤ qo) (h : laws_lbKdc.f k qd qe qf qh = some r) :
  Calls Try.prog 102 #[.agg #[.int .i64 qd,.slice ql qe.length qk],.agg #[.int .i64 qf,.slice qp qh.length qo]] w fun e w' => e = .returned (.bool r) ∧ Below w.heap.size w w':=by
 have wy:=Try.underlying64
 have qx:=Aside0.mk qt
 have qz:=Aside0.mk qv
 clear qt qv
 have qw:=Aside0.mk qr
 have qy:=Aside0.mk qu
 clear qr qu
 have HB:=Aside0.mk (Below.refl w.heap.size w)
 have H : (if qd = qf then ((laws_lbSeals.f k qe qh).bind fun qn=>(some qn)) else (some false)) = some r:=h
 clear h
 by_cases c3 : qd = qf
 rotate_left
 ·rw [if_neg c3] at H
  have wv : (qd == qf) = false:=beq_eq_false_iff_ne.mpr c3
  have wu : (qd != qf) = true:=bne_iff_ne.mpr c3
  obtain rfl:=Option.some.inj H
  go_enter Try.func102,Try.ntmps102
  go_wp2_with (first|((with_reducible refine gate_dst (N:=2) rfl ?_);refine box_event ?hg (N:=2) ?hd (cs:=#[.int .i64 qd,.slice ql qe.length qk]) (t:=64) ?hr ?_;(case hd=>rfl);(case hg=>rfl);(case hr=>first|(go_simp;done)|(go_simp;rfl));intro qa hg w10 hbox hb;have n0_:=Aside0.mk (below_step (by repeat (first|(with_reducible first|exact HB.out|apply below_alloc|apply pw_below_drewN|apply below_drew1)|exact HB.out)) hb);have n1_:=Aside0.mk (hbox);have n2_:=Aside0.mk ((z16x3 : w.heap.size ≤ qa));have n3_:=Aside0.mk ((z16x3 : w.heap.size ≤ qa));clear HB;have HB:=n0_;have qb:=n1_;have wb:=n2_;have qm:=n3_;clear n0_ n1_ n2_ n3_;clear hb hbox hg)|((with_reducible refine gate_dst (N:=3) rfl ?_);refine box_event ?hg (N:=3) ?hd (cs:=#[.int .i64 qf,.slice qp qh.length qo]) (t:=64) ?hr ?_;(case hd=>rfl);(case hg=>rfl);(case hr=>first|(go_simp;done)|(go_simp;rfl));intro qc hg w11 hbox hb;have n0_:=Aside0.mk (blk_below (g:=qa) (o:=.cells #[.int .i64 qd,.slice ql qe.length qk] 64 (0,0)) (by (with_reducible repeat (first|refine blk_drewN ?_ _|refine blk_drew ?_|refine blk_alloc ?_ _));exact qb.out) hb);have n1_:=Aside0.mk (below_step (by repeat (first|(with_reducible first|exact HB.out|apply below_alloc|apply pw_below_drewN|apply below_drew1|refine below_set ?_ qm.out)|exact HB.out)) hb);have n2_:=Aside0.mk (hbox);have n3_:=Aside0.mk ((z16x2 : w.heap.size ≤ qc));have n4_:=Aside0.mk ((z16x2 : w.heap.size ≤ qc));have n5_:=Aside0.mk ((z16x1 : qa ≠ qc));have n6_:=Aside0.mk ((z16x0 : qc ≠ qa));clear qb;clear HB;have qb:=n0_;have HB:=n1_;have qg:=n2_;have wa:=n3_;have qq:=n4_;have qj:=n5_;have qi:=n6_;clear n0_ n1_ n2_ n3_ n4_ n5_ n6_;clear hb hbox hg;have wx:=qj.out;have ww:=qi.out;have wk : w11.cell? ⟨qa,0,none⟩ = some (.int .i64 qd):=(blk_cell qb.out 0).trans rfl;have wj : w11.cell? ⟨qa,1,none⟩ = some (.slice ql qe.length qk):=(blk_cell qb.out 1).trans rfl;have wg:=blk_frozen qb.out 0;have we:=blk_frozen qb.out 1;have wi : w11.cell? ⟨qc,0,none⟩ = some (.int .i64 qf):=(blk_cell qg.out 0).trans rfl;have wh : w11.cell? ⟨qc,1,none⟩ = some (.slice qp qh.length qo):=(blk_cell qg.out 1).trans rfl;have wd:=blk_frozen qg.out 0;have wc:=blk_frozen qg.out 1))
  go_ret
  exact ⟨by first|rfl|(simp [errW_none,errW_some] <;> rfl)|(simp [*,errW_none,errW_some] <;> rfl),by repeat (first|(with_reducible first|exact HB.out|apply below_alloc|apply pw_below_drewN|apply below_drew1|refine below_set ?_ qm.out|refine below_set ?_ qq.out)|exact HB.out)⟩
 rw [if_pos c3] at H
 have wv : (qd == qf) = true:=beq_iff_eq.mpr c3
 have wu : (qd != qf) = false:=bne_eq_false_iff_eq.mpr c3
 clear c3
 replace H:=Option.bind_eq_some_iff.mp H
 obtain ⟨qn,A40,H⟩:=H
 replace H : (some qn) = some r:=H
 have A4:=Aside0.mk A40
 clear A40
 obtain rfl:=Option.some.inj H
 go_enter Try.func102,Try.ntmps102
 go_wp2_with (first|((with_reducible refine gate_dst (N:=2) rfl ?_);refine box_event ?hg (N:=2) ?hd (cs:=#[.int .i64 qd,.slice ql qe.length qk]) (t:=64) ?hr ?_;(case hd=>rfl);(case hg=>rfl);(case hr=>first|(go_simp;done)|(go_simp;rfl));intro qa hg w5 hbox hb;have n0_:=Aside0.mk (below_step (by repeat (first|(with_reducible first|exact HB.out|apply below_alloc|apply pw_below_drewN|apply below_drew1)|exact HB.out)) hb);have n1_:=Aside0.mk (hbox);have n2_:=Aside0.mk ((z16x3 : w.heap.size ≤ qa));have n3_:=Aside0.mk ((z16x3 : w.heap.size ≤ qa));clear HB;have HB:=n0_;have qb:=n1_;have wb:=n2_;have qm:=n3_;clear n0_ n1_ n2_ n3_;clear hb hbox hg)|((with_reducible refine gate_dst (N:=3) rfl ?_);refine box_event ?hg (N:=3) ?hd (cs:=#[.int .i64 qf,.slice qp qh.length qo]) (t:=64) ?hr ?_;(case hd=>rfl);(case hg=>rfl);(case hr=>first|(go_simp;done)|(go_simp;rfl));intro qc hg w6 hbox hb;have n0_:=Aside0.mk (blk_below (g:=qa) (o:=.cells #[.int .i64 qd,.slice ql qe.length qk] 64 (0,0)) (by (with_reducible repeat (first|refine blk_drewN ?_ _|refine blk_drew ?_|refine blk_alloc ?_ _));exact qb.out) hb);have n1_:=Aside0.mk (below_step (by repeat (first|(with_reducible first|exact HB.out|apply below_alloc|apply pw_below_drewN|apply below_drew1|refine below_set ?_ qm.out)|exact HB.out)) hb);have n2_:=Aside0.mk (hbox);have n3_:=Aside0.mk ((z16x2 : w.heap.size ≤ qc));have n4_:=Aside0.mk ((z16x2 : w.heap.size ≤ qc));have n5_:=Aside0.mk ((z16x1 : qa ≠ qc));have n6_:=Aside0.mk ((z16x0 : qc ≠ qa));clear qb;clear HB;have qb:=n0_;have HB:=n1_;have qg:=n2_;have wa:=n3_;have qq:=n4_;have qj:=n5_;have qi:=n6_;clear n0_ n1_ n2_ n3_ n4_ n5_ n6_;clear hb hbox hg;have vk:=qj.out;have wz:=qi.out;have wt : w6.cell? ⟨qa,0,none⟩ = some (.int .i64 qd):=(blk_cell qb.out 0).trans rfl;have ws : w6.cell? ⟨qa,1,none⟩ = some (.slice ql qe.length qk):=(blk_cell qb.out 1).trans rfl;have wo:=blk_frozen qb.out 0;have wn:=blk_frozen qb.out 1;have wr : w6.cell? ⟨qc,0,none⟩ = some (.int .i64 qf):=(blk_cell qg.out 0).trans rfl;have wq : w6.cell? ⟨qc,1,none⟩ = some (.slice qp qh.length qo):=(blk_cell qg.out 1).trans rfl;have wm:=blk_frozen qg.out 0;have wl:=blk_frozen qg.out 1)|(go_at_call 152;(with_reducible refine (laws_lbSeals.calls k _ _ qe _ _ qh qn _ ?side1 ?side2 ?side3 ?side4 A4.out).mono ?_);(case side1=>repeat (first|exact (Kd.C_below qx.out HB.out)|(with_reducible refine Kd.C_alloc ?_ _)|(with_reducible refine Kd.C_drewN ?_ _)|(with_reducible refine Kd.C_drew ?_)));(case side2=>exact qz.out);(case side3=>repeat (first|exact (Kd.C_below qw.out HB.out)|(with_reducible refine Kd.C_alloc ?_ _)|(with_reducible refine Kd.C_drewN ?_ _)|(with_reducible refine Kd.C_drew ?_)));(case side4=>exact qy.out);rintro e w' ⟨rfl,⟨nd,rfl⟩⟩))
 go_ret
 exact ⟨by first|rfl|(simp [errW_none,errW_some] <;> rfl)|(simp [*,errW_none,errW_some] <;> rfl),by repeat (first|(with_reducible first|exact HB.out|apply below_alloc|apply pw_below_drewN|apply below_drew1|refine below_set ?_ qm.out|refine below_set ?_ qq.out)|exact HB.out)⟩

end Go.Proofs.Ytbipicjijbnbbaa.Hp
