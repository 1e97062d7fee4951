-- hp.py
import Derived.Test.YtbipicjijbnbbaaHx0
import Derived.Test.YtbipicjijbnbbaaHx21
namespace Go.Proofs.Ytbipicjijbnbbaa.Hp
open Go.RowKit Go.Proofs.YtbipicjijbnbbaaW.PrintWords Go.Proofs.YtbipicjijbnbbaaW.PrintLast Go.Proofs.YtbipicjijbnbbaaW.PrintMore
attribute [local go_sem] max2_int min2_int max_two min_two max_three min_three max_four min_four   -- for this text's walks alone
set_option linter.unusedVariables false
set_option linter.unusedSimpArgs false
-- squeezed by wip/tools/squeeze.py
theorem z28x0 {P : Prop} (h : P:=by rw [hg];exact (below_size (by repeat (first|(with_reducible first|exact HB.out|apply below_alloc|apply pw_below_drewN|apply below_drew1)|exact HB.out)))) : P:=h

/-! ### impl_authOk: function 96 -/
def impl_authOk.f (qi : Int) (qc : Int) (qh : Int) (qg : Int) (qf : Int) (qe : Int) (qd : Int) : Option (Bool):=if qc = 3 then ((impl_SealOk.f qi qc qh qg qf qe qd).bind fun qk=>(some qk)) else (some false)
set_option maxHeartbeats 8000000 in
set_option maxRecDepth 100000 in
theorem impl_authOk.calls (qi : Int) (qc : Int) (qh : Int) (qg : Int) (qf : Int) (qe : Int) (qd : Int) (r : Bool) (w : World) (h : impl_authOk.f qi qc qh qg qf qe qd = some r) :
  Calls Try.prog 96 #[.agg #[.int .i64 qi,.int .i64 qc,.int .i64 qh,.int .i64 qg,.int .i64 qf,.int .i64 qe,.int .i64 qd]] w fun e w' => e = .returned (.bool r) ∧ Below w.heap.size w w':=by
 have wt:=Try.underlying41
 have HB:=Aside0.mk (Below.refl w.heap.size w)
 have H : (if qc = 3 then ((impl_SealOk.f qi qc qh qg qf qe qd).bind fun qk=>(some qk)) else (some false)) = some r:=h
 clear h
 by_cases c2 : qc = 3
 rotate_left
 ·rw [if_neg c2] at H
  have ws : (qc == 3) = false:=beq_eq_false_iff_ne.mpr c2
  have wr : (qc != 3) = true:=bne_iff_ne.mpr c2
  obtain rfl:=Option.some.inj H
  go_enter Try.func96,Try.ntmps96
  go_wp2_with (first|((with_reducible refine gate_dst (N:=1) rfl ?_);refine box_event ?hg (N:=1) ?hd (cs:=#[.int .i64 qi,.int .i64 qc,.int .i64 qh,.int .i64 qg,.int .i64 qf,.int .i64 qe,.int .i64 qd]) (t:=41) ?hr ?_;(case hd=>rfl);(case hg=>rfl);(case hr=>first|(go_simp;done)|(go_simp;rfl));intro qb hg w7 hbox hb;have n0_:=Aside0.mk (below_step (by repeat (first|(with_reducible first|exact HB.out|apply below_alloc|apply pw_below_drewN|apply below_drew1)|exact HB.out)) hb);have n1_:=Aside0.mk (hbox);have n2_:=Aside0.mk ((z28x0 : w.heap.size ≤ qb));have n3_:=Aside0.mk ((z28x0 : w.heap.size ≤ qb));clear HB;have HB:=n0_;have qa:=n1_;have ql:=n2_;have qj:=n3_;clear n0_ n1_ n2_ n3_;clear hb hbox hg;have wi : w7.cell? ⟨qb,0,none⟩ = some (.int .i64 qi):=(blk_cell qa.out 0).trans rfl;have wh : w7.cell? ⟨qb,1,none⟩ = some (.int .i64 qc):=(blk_cell qa.out 1).trans rfl;have wg : w7.cell? ⟨qb,2,none⟩ = some (.int .i64 qh):=(blk_cell qa.out 2).trans rfl;have we : w7.cell? ⟨qb,3,none⟩ = some (.int .i64 qg):=(blk_cell qa.out 3).trans rfl;have wd : w7.cell? ⟨qb,4,none⟩ = some (.int .i64 qf):=(blk_cell qa.out 4).trans rfl;have wc : w7.cell? ⟨qb,5,none⟩ = some (.int .i64 qe):=(blk_cell qa.out 5).trans rfl;have wb : w7.cell? ⟨qb,6,none⟩ = some (.int .i64 qd):=(blk_cell qa.out 6).trans rfl;have qt:=blk_frozen qa.out 0;have qr:=blk_frozen qa.out 1;have qq:=blk_frozen qa.out 2;have qp:=blk_frozen qa.out 3;have qo:=blk_frozen qa.out 4;have qn:=blk_frozen qa.out 5;have qm:=blk_frozen qa.out 6))
  go_ret
  exact ⟨by first|rfl|(simp [errW_none,errW_some] <;> rfl)|(simp [*,errW_none,errW_some] <;> rfl),by repeat (first|(with_reducible first|exact HB.out|apply below_alloc|apply pw_below_drewN|apply below_drew1|refine below_set ?_ qj.out)|exact HB.out)⟩
 rw [if_pos c2] at H
 have ws : (qc == 3) = true:=beq_iff_eq.mpr c2
 have wr : (qc != 3) = false:=bne_eq_false_iff_eq.mpr c2
 clear c2
 replace H:=Option.bind_eq_some_iff.mp H
 obtain ⟨qk,A30,H⟩:=H
 replace H : (some qk) = some r:=H
 have A3:=Aside0.mk A30
 clear A30
 obtain rfl:=Option.some.inj H
 go_enter Try.func96,Try.ntmps96
 go_wp2_with (first|((with_reducible refine gate_dst (N:=1) rfl ?_);refine box_event ?hg (N:=1) ?hd (cs:=#[.int .i64 qi,.int .i64 qc,.int .i64 qh,.int .i64 qg,.int .i64 qf,.int .i64 qe,.int .i64 qd]) (t:=41) ?hr ?_;(case hd=>rfl);(case hg=>rfl);(case hr=>first|(go_simp;done)|(go_simp;rfl));intro qb hg w4 hbox hb;have n0_:=Aside0.mk (below_step (by repeat (first|(with_reducible first|exact HB.out|apply below_alloc|apply pw_below_drewN|apply below_drew1)|exact HB.out)) hb);have n1_:=Aside0.mk (hbox);have n2_:=Aside0.mk ((z28x0 : w.heap.size ≤ qb));have n3_:=Aside0.mk ((z28x0 : w.heap.size ≤ qb));clear HB;have HB:=n0_;have qa:=n1_;have ql:=n2_;have qj:=n3_;clear n0_ n1_ n2_ n3_;clear hb hbox hg;have wq : w4.cell? ⟨qb,0,none⟩ = some (.int .i64 qi):=(blk_cell qa.out 0).trans rfl;have wo : w4.cell? ⟨qb,1,none⟩ = some (.int .i64 qc):=(blk_cell qa.out 1).trans rfl;have wn : w4.cell? ⟨qb,2,none⟩ = some (.int .i64 qh):=(blk_cell qa.out 2).trans rfl;have wm : w4.cell? ⟨qb,3,none⟩ = some (.int .i64 qg):=(blk_cell qa.out 3).trans rfl;have wl : w4.cell? ⟨qb,4,none⟩ = some (.int .i64 qf):=(blk_cell qa.out 4).trans rfl;have wk : w4.cell? ⟨qb,5,none⟩ = some (.int .i64 qe):=(blk_cell qa.out 5).trans rfl;have wj : w4.cell? ⟨qb,6,none⟩ = some (.int .i64 qd):=(blk_cell qa.out 6).trans rfl;have wa:=blk_frozen qa.out 0;have qz:=blk_frozen qa.out 1;have qy:=blk_frozen qa.out 2;have qx:=blk_frozen qa.out 3;have qw:=blk_frozen qa.out 4;have qv:=blk_frozen qa.out 5;have qu:=blk_frozen qa.out 6)|(go_at_call 22;(with_reducible refine (impl_SealOk.calls qi qc qh qg qf qe qd qk _ A3.out).mono ?_);rintro e w6 ⟨rfl,hb⟩; have n0_:=Aside0.mk (blk_below (g:=qb) (o:=.cells #[.int .i64 qi,.int .i64 qc,.int .i64 qh,.int .i64 qg,.int .i64 qf,.int .i64 qe,.int .i64 qd] 41 (0,0)) (by (with_reducible repeat (first|refine blk_drewN ?_ _|refine blk_drew ?_|refine blk_alloc ?_ _));exact qa.out) hb);have n1_:=Aside0.mk (below_step (by repeat (first|(with_reducible first|exact HB.out|apply below_alloc|apply pw_below_drewN|apply below_drew1|refine below_set ?_ qj.out)|exact HB.out)) hb);clear qa;clear HB;have qa:=n0_;have HB:=n1_;clear n0_ n1_;(try clear hb);(try clear hb2);(try clear hk);(try clear hi)))
 go_ret
 exact ⟨by first|rfl|(simp [errW_none,errW_some] <;> rfl)|(simp [*,errW_none,errW_some] <;> rfl),by repeat (first|(with_reducible first|exact HB.out|apply below_alloc|apply pw_below_drewN|apply below_drew1|refine below_set ?_ qj.out)|exact HB.out)⟩

end Go.Proofs.Ytbipicjijbnbbaa.Hp
