-- hp.py
import Derived.Test.YtbipicjijbnbbaaHx0
import Derived.Test.YtbipicjijbnbbaaHx20
import Derived.Test.YtbipicjijbnbbaaHx21
namespace Go.Proofs.Ytbipicjijbnbbaa.Hp
open Go.RowKit Go.Proofs.YtbipicjijbnbbaaW.PrintWords Go.Proofs.YtbipicjijbnbbaaW.PrintLast Go.Proofs.YtbipicjijbnbbaaW.PrintMore
attribute [local go_sem] max2_int min2_int max_two min_two max_three min_three max_four min_four   -- for this text's walks alone
set_option linter.unusedVariables false
set_option linter.unusedSimpArgs false
-- squeezed by wip/tools/squeeze.py
theorem z33x2 {P : Prop} (h : P:=by repeat (first|(with_reducible first|exact HB.out|apply below_alloc|apply pw_below_drewN|apply below_drew1)|exact HB.out)) : P:=h
theorem z33x1 {P : Prop} (h : P:=by (try simp only [List.map_toArray,List.map_cons,List.map_nil]);first|done|rfl|(simp only [List.length_drop,List.length_take];rfl)) : P:=h
theorem z33x0 {P : Prop} (h : P:=by rw [hg];exact (below_size (by repeat (first|(with_reducible first|exact HB.out|apply below_alloc|apply pw_below_drewN|apply below_drew1)|exact HB.out)))) : P:=h

/-! ### impl_ServOk_1: function 154 -/
def impl_ServOk_1.f (qc : Int) (qf : Int) (qe : Int) (qd : Int) : Option (Bool):=(impl_userOk.f qc).bind fun qk=>(if qk = true then ((impl_madeOk.f qf).bind fun qj=>(if qj = true then ((impl_timeOk.f qe).bind fun qi=>(if qi = true then ((impl_numberOk.f qd).bind fun qg=>(some (!qg))) else (some true))) else (some true))) else (some true))
set_option maxHeartbeats 8000000 in
set_option maxRecDepth 100000 in
theorem impl_ServOk_1.calls (qc : Int) (qf : Int) (qe : Int) (qd : Int) (r : Bool) (w : World) (h : impl_ServOk_1.f qc qf qe qd = some r) :
  Calls Try.prog 154 #[.agg #[.int .i64 qc,.int .i64 qf,.int .i64 qe,.int .i64 qd]] w fun e w' => e = .returned (.bool r) ∧ Below w.heap.size w w':=by
 have wv:=Try.underlying113
 have HB:=Aside0.mk (Below.refl w.heap.size w)
 have H : ((impl_userOk.f qc).bind fun qk=>(if qk = true then ((impl_madeOk.f qf).bind fun qj=>(if qj = true then ((impl_timeOk.f qe).bind fun qi=>(if qi = true then ((impl_numberOk.f qd).bind fun qg=>(some (!qg))) else (some true))) else (some true))) else (some true))) = some r:=h
 clear h
 replace H:=Option.bind_eq_some_iff.mp H
 obtain ⟨qk,A20,H⟩:=H
 replace H : (if qk = true then ((impl_madeOk.f qf).bind fun qj=>(if qj = true then ((impl_timeOk.f qe).bind fun qi=>(if qi = true then ((impl_numberOk.f qd).bind fun qg=>(some (!qg))) else (some true))) else (some true))) else (some true)) = some r:=H
 have A2:=Aside0.mk A20
 clear A20
 by_cases c3 : qk = true
 rotate_left
 ·replace c3:=Bool.eq_false_iff.mpr c3
  subst c3
  rw [if_neg (show ¬ (false = true) by decide)] at H
  obtain rfl:=Option.some.inj H
  go_enter Try.func154,Try.ntmps154
  go_wp2_with (first|((with_reducible refine gate_dst (N:=1) rfl ?_);refine box_event ?hg (N:=1) ?hd (cs:=#[.int .i64 qc,.int .i64 qf,.int .i64 qe,.int .i64 qd]) (t:=113) ?hr ?_;(case hd=>rfl);(case hg=>rfl);(case hr=>first|(go_simp;done)|(go_simp;rfl));intro qb hg w15 hbox hb;have n0_:=Aside0.mk (below_step z33x2 hb);have n1_:=Aside0.mk (hbox);have n2_:=Aside0.mk ((z33x0 : w.heap.size ≤ qb));have n3_:=Aside0.mk ((z33x0 : w.heap.size ≤ qb));clear HB;have HB:=n0_;have qa:=n1_;have ql:=n2_;have qh:=n3_;clear n0_ n1_ n2_ n3_;clear hb hbox hg;have wh : w15.cell? ⟨qb,0,none⟩ = some (.int .i64 qc):=(blk_cell qa.out 0).trans rfl;have wg : w15.cell? ⟨qb,1,none⟩ = some (.int .i64 qf):=(blk_cell qa.out 1).trans rfl;have we : w15.cell? ⟨qb,2,none⟩ = some (.int .i64 qe):=(blk_cell qa.out 2).trans rfl;have wd : w15.cell? ⟨qb,3,none⟩ = some (.int .i64 qd):=(blk_cell qa.out 3).trans rfl;have qp:=blk_frozen qa.out 0;have qo:=blk_frozen qa.out 1;have qn:=blk_frozen qa.out 2;have qm:=blk_frozen qa.out 3)|((with_reducible refine gate_callee (f:=66) rfl ?_);refine goesL_ (some 5) rfl rfl Try.func66 (by kernel_rfl) rfl #[.int .i64 qc] rfl z33x1 ?_;(with_reducible refine (impl_userOk.calls qc false _ A2.out).mono ?_);rintro e w' ⟨rfl,⟨nd,rfl⟩⟩; refine ⟨_,rfl,?_⟩))
  go_ret
  exact ⟨by first|rfl|(simp [errW_none,errW_some] <;> rfl)|(simp [*,errW_none,errW_some] <;> rfl),by repeat (first|(with_reducible first|exact HB.out|apply below_alloc|apply pw_below_drewN|apply below_drew1|refine below_set ?_ qh.out)|exact HB.out)⟩
 subst c3
 rw [if_pos rfl] at H
 replace H:=Option.bind_eq_some_iff.mp H
 obtain ⟨qj,A40,H⟩:=H
 replace H : (if qj = true then ((impl_timeOk.f qe).bind fun qi=>(if qi = true then ((impl_numberOk.f qd).bind fun qg=>(some (!qg))) else (some true))) else (some true)) = some r:=H
 have A4:=Aside0.mk A40
 clear A40
 by_cases c5 : qj = true
 rotate_left
 ·replace c5:=Bool.eq_false_iff.mpr c5
  subst c5
  rw [if_neg (show ¬ (false = true) by decide)] at H
  obtain rfl:=Option.some.inj H
  go_enter Try.func154,Try.ntmps154
  go_wp2_with (first|((with_reducible refine gate_dst (N:=1) rfl ?_);refine box_event ?hg (N:=1) ?hd (cs:=#[.int .i64 qc,.int .i64 qf,.int .i64 qe,.int .i64 qd]) (t:=113) ?hr ?_;(case hd=>rfl);(case hg=>rfl);(case hr=>first|(go_simp;done)|(go_simp;rfl));intro qb hg w13 hbox hb;have n0_:=Aside0.mk (below_step z33x2 hb);have n1_:=Aside0.mk (hbox);have n2_:=Aside0.mk ((z33x0 : w.heap.size ≤ qb));have n3_:=Aside0.mk ((z33x0 : w.heap.size ≤ qb));clear HB;have HB:=n0_;have qa:=n1_;have ql:=n2_;have qh:=n3_;clear n0_ n1_ n2_ n3_;clear hb hbox hg;have wl : w13.cell? ⟨qb,0,none⟩ = some (.int .i64 qc):=(blk_cell qa.out 0).trans rfl;have wk : w13.cell? ⟨qb,1,none⟩ = some (.int .i64 qf):=(blk_cell qa.out 1).trans rfl;have wj : w13.cell? ⟨qb,2,none⟩ = some (.int .i64 qe):=(blk_cell qa.out 2).trans rfl;have wi : w13.cell? ⟨qb,3,none⟩ = some (.int .i64 qd):=(blk_cell qa.out 3).trans rfl;have qu:=blk_frozen qa.out 0;have qt:=blk_frozen qa.out 1;have qr:=blk_frozen qa.out 2;have qq:=blk_frozen qa.out 3)|((with_reducible refine gate_callee (f:=66) rfl ?_);refine goesL_ (some 5) rfl rfl Try.func66 (by kernel_rfl) rfl #[.int .i64 qc] rfl z33x1 ?_;(with_reducible refine (impl_userOk.calls qc true _ A2.out).mono ?_);rintro e w' ⟨rfl,⟨nd,rfl⟩⟩; refine ⟨_,rfl,?_⟩)|(go_at_call 75;(with_reducible refine (impl_madeOk.calls qf false _ A4.out).mono ?_);rintro e w' ⟨rfl,⟨nd,rfl⟩⟩))
  go_ret
  exact ⟨by first|rfl|(simp [errW_none,errW_some] <;> rfl)|(simp [*,errW_none,errW_some] <;> rfl),by repeat (first|(with_reducible first|exact HB.out|apply below_alloc|apply pw_below_drewN|apply below_drew1|refine below_set ?_ qh.out)|exact HB.out)⟩
 subst c5
 rw [if_pos rfl] at H
 replace H:=Option.bind_eq_some_iff.mp H
 obtain ⟨qi,A60,H⟩:=H
 replace H : (if qi = true then ((impl_numberOk.f qd).bind fun qg=>(some (!qg))) else (some true)) = some r:=H
 have A6:=Aside0.mk A60
 clear A60
 by_cases c7 : qi = true
 rotate_left
 ·replace c7:=Bool.eq_false_iff.mpr c7
  subst c7
  rw [if_neg (show ¬ (false = true) by decide)] at H
  obtain rfl:=Option.some.inj H
  go_enter Try.func154,Try.ntmps154
  go_wp2_with (first|((with_reducible refine gate_dst (N:=1) rfl ?_);refine box_event ?hg (N:=1) ?hd (cs:=#[.int .i64 qc,.int .i64 qf,.int .i64 qe,.int .i64 qd]) (t:=113) ?hr ?_;(case hd=>rfl);(case hg=>rfl);(case hr=>first|(go_simp;done)|(go_simp;rfl));intro qb hg w11 hbox hb;have n0_:=Aside0.mk (below_step z33x2 hb);have n1_:=Aside0.mk (hbox);have n2_:=Aside0.mk ((z33x0 : w.heap.size ≤ qb));have n3_:=Aside0.mk ((z33x0 : w.heap.size ≤ qb));clear HB;have HB:=n0_;have qa:=n1_;have ql:=n2_;have qh:=n3_;clear n0_ n1_ n2_ n3_;clear hb hbox hg;have wq : w11.cell? ⟨qb,0,none⟩ = some (.int .i64 qc):=(blk_cell qa.out 0).trans rfl;have wo : w11.cell? ⟨qb,1,none⟩ = some (.int .i64 qf):=(blk_cell qa.out 1).trans rfl;have wn : w11.cell? ⟨qb,2,none⟩ = some (.int .i64 qe):=(blk_cell qa.out 2).trans rfl;have wm : w11.cell? ⟨qb,3,none⟩ = some (.int .i64 qd):=(blk_cell qa.out 3).trans rfl;have qy:=blk_frozen qa.out 0;have qx:=blk_frozen qa.out 1;have qw:=blk_frozen qa.out 2;have qv:=blk_frozen qa.out 3)|((with_reducible refine gate_callee (f:=66) rfl ?_);refine goesL_ (some 5) rfl rfl Try.func66 (by kernel_rfl) rfl #[.int .i64 qc] rfl z33x1 ?_;(with_reducible refine (impl_userOk.calls qc true _ A2.out).mono ?_);rintro e w' ⟨rfl,⟨nd,rfl⟩⟩; refine ⟨_,rfl,?_⟩)|(go_at_call 75;(with_reducible refine (impl_madeOk.calls qf true _ A4.out).mono ?_);rintro e w' ⟨rfl,⟨nd,rfl⟩⟩)|(go_at_call 68;(with_reducible refine (impl_timeOk.calls qe false _ A6.out).mono ?_);rintro e w' ⟨rfl,⟨nd,rfl⟩⟩))
  go_ret
  exact ⟨by first|rfl|(simp [errW_none,errW_some] <;> rfl)|(simp [*,errW_none,errW_some] <;> rfl),by repeat (first|(with_reducible first|exact HB.out|apply below_alloc|apply pw_below_drewN|apply below_drew1|refine below_set ?_ qh.out)|exact HB.out)⟩
 subst c7
 rw [if_pos rfl] at H
 replace H:=Option.bind_eq_some_iff.mp H
 obtain ⟨qg,A80,H⟩:=H
 replace H : (some (!qg)) = some r:=H
 have A8:=Aside0.mk A80
 clear A80
 obtain rfl:=Option.some.inj H
 go_enter Try.func154,Try.ntmps154
 go_wp2_with (first|((with_reducible refine gate_dst (N:=1) rfl ?_);refine box_event ?hg (N:=1) ?hd (cs:=#[.int .i64 qc,.int .i64 qf,.int .i64 qe,.int .i64 qd]) (t:=113) ?hr ?_;(case hd=>rfl);(case hg=>rfl);(case hr=>first|(go_simp;done)|(go_simp;rfl));intro qb hg w9 hbox hb;have n0_:=Aside0.mk (below_step z33x2 hb);have n1_:=Aside0.mk (hbox);have n2_:=Aside0.mk ((z33x0 : w.heap.size ≤ qb));have n3_:=Aside0.mk ((z33x0 : w.heap.size ≤ qb));clear HB;have HB:=n0_;have qa:=n1_;have ql:=n2_;have qh:=n3_;clear n0_ n1_ n2_ n3_;clear hb hbox hg;have wu : w9.cell? ⟨qb,0,none⟩ = some (.int .i64 qc):=(blk_cell qa.out 0).trans rfl;have wt : w9.cell? ⟨qb,1,none⟩ = some (.int .i64 qf):=(blk_cell qa.out 1).trans rfl;have ws : w9.cell? ⟨qb,2,none⟩ = some (.int .i64 qe):=(blk_cell qa.out 2).trans rfl;have wr : w9.cell? ⟨qb,3,none⟩ = some (.int .i64 qd):=(blk_cell qa.out 3).trans rfl;have wc:=blk_frozen qa.out 0;have wb:=blk_frozen qa.out 1;have wa:=blk_frozen qa.out 2;have qz:=blk_frozen qa.out 3)|((with_reducible refine gate_callee (f:=66) rfl ?_);refine goesL_ (some 5) rfl rfl Try.func66 (by kernel_rfl) rfl #[.int .i64 qc] rfl z33x1 ?_;(with_reducible refine (impl_userOk.calls qc true _ A2.out).mono ?_);rintro e w' ⟨rfl,⟨nd,rfl⟩⟩; refine ⟨_,rfl,?_⟩)|(go_at_call 75;(with_reducible refine (impl_madeOk.calls qf true _ A4.out).mono ?_);rintro e w' ⟨rfl,⟨nd,rfl⟩⟩)|(go_at_call 68;(with_reducible refine (impl_timeOk.calls qe true _ A6.out).mono ?_);rintro e w' ⟨rfl,⟨nd,rfl⟩⟩)|(go_at_call 86;(with_reducible refine (impl_numberOk.calls qd qg _ A8.out).mono ?_);rintro e w' ⟨rfl,⟨nd,rfl⟩⟩))
 go_ret
 exact ⟨by first|rfl|(simp [errW_none,errW_some] <;> rfl)|(simp [*,errW_none,errW_some] <;> rfl),by repeat (first|(with_reducible first|exact HB.out|apply below_alloc|apply pw_below_drewN|apply below_drew1|refine below_set ?_ qh.out)|exact HB.out)⟩

end Go.Proofs.Ytbipicjijbnbbaa.Hp
