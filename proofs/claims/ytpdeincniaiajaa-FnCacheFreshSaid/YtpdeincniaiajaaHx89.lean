-- hp.py
import Derived.Test.YtpdeincniaiajaaHx0
import Derived.Test.YtpdeincniaiajaaHx7
import Derived.Test.YtpdeincniaiajaaHx9
namespace Go.Proofs.Ytpdeincniaiajaa.Hp
open Go.RowKit Go.Proofs.YtpdeincniaiajaaW.PrintWords Go.Proofs.YtpdeincniaiajaaW.PrintLast Go.Proofs.YtpdeincniaiajaaW.PrintMore
attribute [local go_sem] max2_int min2_int max_two min_two max_three min_three max_four min_four   -- for this text's walks alone
set_option linter.unusedVariables false
set_option linter.unusedSimpArgs false
-- squeezed by wip/tools/squeeze.py
theorem z89x4 {P : Prop} (h : P:=by (with_reducible repeat (first | refine blk_drewN ?_ _ | refine blk_drew ?_ | refine blk_alloc ?_ _));exact qa.out) : P:=h
theorem z89x3 {P : Prop} (h : P:=by repeat (first | (with_reducible first | exact HB.out | apply below_alloc | apply pw_below_drewN | apply below_drew1) | exact HB.out)) : P:=h
theorem z89x2 {P : Prop} (h : P:=by (try simp only [List.map_toArray,List.map_cons,List.map_nil]);first | done | rfl | (simp only [List.length_drop,List.length_take];rfl)) : P:=h
theorem z89x1 {P : Prop} (h : P:=by rw [hg];exact (below_size (by repeat (first | (with_reducible first | exact HB.out | apply below_alloc | apply pw_below_drewN | apply below_drew1) | exact HB.out)))) : P:=h
theorem z89x0 {P : Prop} (h : P:=by repeat (first | (with_reducible first | exact HB.out | apply below_alloc | apply pw_below_drewN | apply below_drew1 | refine below_set ?_ qj.out) | exact HB.out)) : P:=h

-- NOT PRINTED: function 168 (impl_Msg_168)

-- NOT PRINTED: function 127 (impl_Msg_127)

-- NOT PRINTED: function 60 (impl_WorldOk)

/-! ### impl_SealHolds: function 178 -/
def impl_SealHolds.f (qi : Int) (qc : Int) (qh : Int) (qe : Int) (qd : Int) (qg : Int) (qf : Int) : Option (Int):=(impl_SealOk.f qi qc qh qe qd qg qf).bind fun qk => (if qk = true then (if qc = 1 then (some qd) else (if qc = 2 then (some qe) else (some 0))) else (some 0))
set_option maxHeartbeats 8000000 in
set_option maxRecDepth 100000 in
theorem impl_SealHolds.calls (qi : Int) (qc : Int) (qh : Int) (qe : Int) (qd : Int) (qg : Int) (qf : Int) (r : Int) (w : World) (h : impl_SealHolds.f qi qc qh qe qd qg qf = some r) :
  Calls Try.prog 178 #[.agg #[.int .i64 qi,.int .i64 qc,.int .i64 qh,.int .i64 qe,.int .i64 qd,.int .i64 qg,.int .i64 qf]] w fun e w' => e = .returned (.int .i64 r) ∧ Below w.heap.size w w':=by
 have jz:=Try.underlying57
 have HB:=Aside0.mk (Below.refl w.heap.size w)
 have H : ((impl_SealOk.f qi qc qh qe qd qg qf).bind fun qk => (if qk = true then (if qc = 1 then (some qd) else (if qc = 2 then (some qe) else (some 0))) else (some 0))) = some r:=h
 clear h
 replace H:=Option.bind_eq_some_iff.mp H
 obtain ⟨qk,A20,H⟩:=H
 replace H : (if qk = true then (if qc = 1 then (some qd) else (if qc = 2 then (some qe) else (some 0))) else (some 0)) = some r:=H
 have A2:=Aside0.mk A20
 clear A20
 by_cases c3 : qk = true
 ·subst c3
  rw [if_pos rfl] at H
  by_cases c4 : qc = 1
  ·rw [if_pos c4] at H
   have jy : (qc == 1) = true:=beq_iff_eq.mpr c4
   have jx : (qc != 1) = false:=bne_eq_false_iff_eq.mpr c4
   clear c4
   obtain rfl:=Option.some.inj H
   go_enter Try.func178,Try.ntmps178
   go_wp2_with (first | ((with_reducible refine gate_dst (N:=1) rfl ?_);refine box_event ?hg (N:=1) ?hd (cs:=#[.int .i64 qi,.int .i64 qc,.int .i64 qh,.int .i64 qe,.int .i64 qd,.int .i64 qg,.int .i64 qf]) (t:=57) ?hr ?_;(case hd => rfl);(case hg => rfl);(case hr => first | (go_simp;done) | (go_simp;rfl));intro qb hg w5 hbox hb;have n0_:=Aside0.mk (below_step z89x3 hb);have n1_:=Aside0.mk (hbox);have n2_:=Aside0.mk ((z89x1 : w.heap.size ≤ qb));have n3_:=Aside0.mk ((z89x1 : w.heap.size ≤ qb));clear HB;have HB:=n0_;have qa:=n1_;have ql:=n2_;have qj:=n3_;clear n0_ n1_ n2_ n3_;clear hb hbox hg;have ju : w5.cell? ⟨qb,0,none⟩ = some (.int .i64 qi):=(blk_cell qa.out 0).trans rfl;have jt : w5.cell? ⟨qb,1,none⟩ = some (.int .i64 qc):=(blk_cell qa.out 1).trans rfl;have js : w5.cell? ⟨qb,2,none⟩ = some (.int .i64 qh):=(blk_cell qa.out 2).trans rfl;have jr : w5.cell? ⟨qb,3,none⟩ = some (.int .i64 qe):=(blk_cell qa.out 3).trans rfl;have jq : w5.cell? ⟨qb,4,none⟩ = some (.int .i64 qd):=(blk_cell qa.out 4).trans rfl;have jp : w5.cell? ⟨qb,5,none⟩ = some (.int .i64 qg):=(blk_cell qa.out 5).trans rfl;have jo : w5.cell? ⟨qb,6,none⟩ = some (.int .i64 qf):=(blk_cell qa.out 6).trans rfl;have jg:=blk_frozen qa.out 0;have jf:=blk_frozen qa.out 1;have je:=blk_frozen qa.out 2;have jd:=blk_frozen qa.out 3;have jc:=blk_frozen qa.out 4;have jb:=blk_frozen qa.out 5;have ja:=blk_frozen qa.out 6) | ((with_reducible refine gate_callee (f:=97) rfl ?_);refine goesL_ (some 5) rfl rfl Try.func97 (by kernel_rfl) rfl #[.agg #[.int .i64 qi,.int .i64 qc,.int .i64 qh,.int .i64 qe,.int .i64 qd,.int .i64 qg,.int .i64 qf]] rfl z89x2 ?_;(with_reducible refine (impl_SealOk.calls qi qc qh qe qd qg qf true _ A2.out).mono ?_);rintro e w7 ⟨rfl,hb⟩; refine ⟨_,rfl,?_⟩; have n0_:=Aside0.mk (blk_below (g:=qb) (o:=.cells #[.int .i64 qi,.int .i64 qc,.int .i64 qh,.int .i64 qe,.int .i64 qd,.int .i64 qg,.int .i64 qf] 57 (0,0)) z89x4 hb);have n1_:=Aside0.mk (below_step z89x0 hb);clear qa;clear HB;have qa:=n0_;have HB:=n1_;clear n0_ n1_;(try clear hb);(try clear hb2);(try clear hk);(try clear hi);have jn : w7.cell? ⟨qb,0,none⟩ = some (.int .i64 qi):=(blk_cell qa.out 0).trans rfl;have jm : w7.cell? ⟨qb,1,none⟩ = some (.int .i64 qc):=(blk_cell qa.out 1).trans rfl;have jl : w7.cell? ⟨qb,2,none⟩ = some (.int .i64 qh):=(blk_cell qa.out 2).trans rfl;have jk : w7.cell? ⟨qb,3,none⟩ = some (.int .i64 qe):=(blk_cell qa.out 3).trans rfl;have jj : w7.cell? ⟨qb,4,none⟩ = some (.int .i64 qd):=(blk_cell qa.out 4).trans rfl;have ji : w7.cell? ⟨qb,5,none⟩ = some (.int .i64 qg):=(blk_cell qa.out 5).trans rfl;have jh : w7.cell? ⟨qb,6,none⟩ = some (.int .i64 qf):=(blk_cell qa.out 6).trans rfl;have uz:=blk_frozen qa.out 0;have uy:=blk_frozen qa.out 1;have ux:=blk_frozen qa.out 2;have uw:=blk_frozen qa.out 3;have uv:=blk_frozen qa.out 4;have uu:=blk_frozen qa.out 5;have ut:=blk_frozen qa.out 6))
   go_ret
   exact ⟨by first | rfl | (simp [errW_none,errW_some] <;> rfl) | (simp [*,errW_none,errW_some] <;> rfl),by repeat (first | (with_reducible first | exact HB.out | apply below_alloc | apply pw_below_drewN | apply below_drew1 | refine below_set ?_ qj.out) | exact HB.out)⟩
  ·rw [if_neg c4] at H
   have jy : (qc == 1) = false:=beq_eq_false_iff_ne.mpr c4
   have jx : (qc != 1) = true:=bne_iff_ne.mpr c4
   by_cases c9 : qc = 2
   ·rw [if_pos c9] at H
    have jw : (qc == 2) = true:=beq_iff_eq.mpr c9
    have jv : (qc != 2) = false:=bne_eq_false_iff_eq.mpr c9
    clear c9
    obtain rfl:=Option.some.inj H
    go_enter Try.func178,Try.ntmps178
    go_wp2_with (first | ((with_reducible refine gate_dst (N:=1) rfl ?_);refine box_event ?hg (N:=1) ?hd (cs:=#[.int .i64 qi,.int .i64 qc,.int .i64 qh,.int .i64 qe,.int .i64 qd,.int .i64 qg,.int .i64 qf]) (t:=57) ?hr ?_;(case hd => rfl);(case hg => rfl);(case hr => first | (go_simp;done) | (go_simp;rfl));intro qb hg w10 hbox hb;have n0_:=Aside0.mk (below_step z89x3 hb);have n1_:=Aside0.mk (hbox);have n2_:=Aside0.mk ((z89x1 : w.heap.size ≤ qb));have n3_:=Aside0.mk ((z89x1 : w.heap.size ≤ qb));clear HB;have HB:=n0_;have qa:=n1_;have ql:=n2_;have qj:=n3_;clear n0_ n1_ n2_ n3_;clear hb hbox hg;have us : w10.cell? ⟨qb,0,none⟩ = some (.int .i64 qi):=(blk_cell qa.out 0).trans rfl;have ur : w10.cell? ⟨qb,1,none⟩ = some (.int .i64 qc):=(blk_cell qa.out 1).trans rfl;have uq : w10.cell? ⟨qb,2,none⟩ = some (.int .i64 qh):=(blk_cell qa.out 2).trans rfl;have uo : w10.cell? ⟨qb,3,none⟩ = some (.int .i64 qe):=(blk_cell qa.out 3).trans rfl;have un : w10.cell? ⟨qb,4,none⟩ = some (.int .i64 qd):=(blk_cell qa.out 4).trans rfl;have um : w10.cell? ⟨qb,5,none⟩ = some (.int .i64 qg):=(blk_cell qa.out 5).trans rfl;have ul : w10.cell? ⟨qb,6,none⟩ = some (.int .i64 qf):=(blk_cell qa.out 6).trans rfl;have wx:=blk_frozen qa.out 0;have ww:=blk_frozen qa.out 1;have wv:=blk_frozen qa.out 2;have wu:=blk_frozen qa.out 3;have wt:=blk_frozen qa.out 4;have ws:=blk_frozen qa.out 5;have wr:=blk_frozen qa.out 6) | ((with_reducible refine gate_callee (f:=97) rfl ?_);refine goesL_ (some 5) rfl rfl Try.func97 (by kernel_rfl) rfl #[.agg #[.int .i64 qi,.int .i64 qc,.int .i64 qh,.int .i64 qe,.int .i64 qd,.int .i64 qg,.int .i64 qf]] rfl z89x2 ?_;(with_reducible refine (impl_SealOk.calls qi qc qh qe qd qg qf true _ A2.out).mono ?_);rintro e w12 ⟨rfl,hb⟩; refine ⟨_,rfl,?_⟩; have n0_:=Aside0.mk (blk_below (g:=qb) (o:=.cells #[.int .i64 qi,.int .i64 qc,.int .i64 qh,.int .i64 qe,.int .i64 qd,.int .i64 qg,.int .i64 qf] 57 (0,0)) z89x4 hb);have n1_:=Aside0.mk (below_step z89x0 hb);clear qa;clear HB;have qa:=n0_;have HB:=n1_;clear n0_ n1_;(try clear hb);(try clear hb2);(try clear hk);(try clear hi);have uk : w12.cell? ⟨qb,0,none⟩ = some (.int .i64 qi):=(blk_cell qa.out 0).trans rfl;have uj : w12.cell? ⟨qb,1,none⟩ = some (.int .i64 qc):=(blk_cell qa.out 1).trans rfl;have ui : w12.cell? ⟨qb,2,none⟩ = some (.int .i64 qh):=(blk_cell qa.out 2).trans rfl;have uh : w12.cell? ⟨qb,3,none⟩ = some (.int .i64 qe):=(blk_cell qa.out 3).trans rfl;have ug : w12.cell? ⟨qb,4,none⟩ = some (.int .i64 qd):=(blk_cell qa.out 4).trans rfl;have uf : w12.cell? ⟨qb,5,none⟩ = some (.int .i64 qg):=(blk_cell qa.out 5).trans rfl;have ue : w12.cell? ⟨qb,6,none⟩ = some (.int .i64 qf):=(blk_cell qa.out 6).trans rfl;have wq:=blk_frozen qa.out 0;have wo:=blk_frozen qa.out 1;have wn:=blk_frozen qa.out 2;have wm:=blk_frozen qa.out 3;have wl:=blk_frozen qa.out 4;have wk:=blk_frozen qa.out 5;have wj:=blk_frozen qa.out 6))
    go_ret
    exact ⟨by first | rfl | (simp [errW_none,errW_some] <;> rfl) | (simp [*,errW_none,errW_some] <;> rfl),by repeat (first | (with_reducible first | exact HB.out | apply below_alloc | apply pw_below_drewN | apply below_drew1 | refine below_set ?_ qj.out) | exact HB.out)⟩
   ·rw [if_neg c9] at H
    have jw : (qc == 2) = false:=beq_eq_false_iff_ne.mpr c9
    have jv : (qc != 2) = true:=bne_iff_ne.mpr c9
    obtain rfl:=Option.some.inj H
    go_enter Try.func178,Try.ntmps178
    go_wp2_with (first | ((with_reducible refine gate_dst (N:=1) rfl ?_);refine box_event ?hg (N:=1) ?hd (cs:=#[.int .i64 qi,.int .i64 qc,.int .i64 qh,.int .i64 qe,.int .i64 qd,.int .i64 qg,.int .i64 qf]) (t:=57) ?hr ?_;(case hd => rfl);(case hg => rfl);(case hr => first | (go_simp;done) | (go_simp;rfl));intro qb hg w14 hbox hb;have n0_:=Aside0.mk (below_step z89x3 hb);have n1_:=Aside0.mk (hbox);have n2_:=Aside0.mk ((z89x1 : w.heap.size ≤ qb));have n3_:=Aside0.mk ((z89x1 : w.heap.size ≤ qb));clear HB;have HB:=n0_;have qa:=n1_;have ql:=n2_;have qj:=n3_;clear n0_ n1_ n2_ n3_;clear hb hbox hg;have ud : w14.cell? ⟨qb,0,none⟩ = some (.int .i64 qi):=(blk_cell qa.out 0).trans rfl;have uc : w14.cell? ⟨qb,1,none⟩ = some (.int .i64 qc):=(blk_cell qa.out 1).trans rfl;have ub : w14.cell? ⟨qb,2,none⟩ = some (.int .i64 qh):=(blk_cell qa.out 2).trans rfl;have ua : w14.cell? ⟨qb,3,none⟩ = some (.int .i64 qe):=(blk_cell qa.out 3).trans rfl;have vz : w14.cell? ⟨qb,4,none⟩ = some (.int .i64 qd):=(blk_cell qa.out 4).trans rfl;have vy : w14.cell? ⟨qb,5,none⟩ = some (.int .i64 qg):=(blk_cell qa.out 5).trans rfl;have vx : w14.cell? ⟨qb,6,none⟩ = some (.int .i64 qf):=(blk_cell qa.out 6).trans rfl;have wi:=blk_frozen qa.out 0;have wh:=blk_frozen qa.out 1;have wg:=blk_frozen qa.out 2;have we:=blk_frozen qa.out 3;have wd:=blk_frozen qa.out 4;have wc:=blk_frozen qa.out 5;have wb:=blk_frozen qa.out 6) | ((with_reducible refine gate_callee (f:=97) rfl ?_);refine goesL_ (some 5) rfl rfl Try.func97 (by kernel_rfl) rfl #[.agg #[.int .i64 qi,.int .i64 qc,.int .i64 qh,.int .i64 qe,.int .i64 qd,.int .i64 qg,.int .i64 qf]] rfl z89x2 ?_;(with_reducible refine (impl_SealOk.calls qi qc qh qe qd qg qf true _ A2.out).mono ?_);rintro e w16 ⟨rfl,hb⟩; refine ⟨_,rfl,?_⟩; have n0_:=Aside0.mk (blk_below (g:=qb) (o:=.cells #[.int .i64 qi,.int .i64 qc,.int .i64 qh,.int .i64 qe,.int .i64 qd,.int .i64 qg,.int .i64 qf] 57 (0,0)) z89x4 hb);have n1_:=Aside0.mk (below_step z89x0 hb);clear qa;clear HB;have qa:=n0_;have HB:=n1_;clear n0_ n1_;(try clear hb);(try clear hb2);(try clear hk);(try clear hi);have vw : w16.cell? ⟨qb,0,none⟩ = some (.int .i64 qi):=(blk_cell qa.out 0).trans rfl;have vv : w16.cell? ⟨qb,1,none⟩ = some (.int .i64 qc):=(blk_cell qa.out 1).trans rfl;have vu : w16.cell? ⟨qb,2,none⟩ = some (.int .i64 qh):=(blk_cell qa.out 2).trans rfl;have vt : w16.cell? ⟨qb,3,none⟩ = some (.int .i64 qe):=(blk_cell qa.out 3).trans rfl;have vr : w16.cell? ⟨qb,4,none⟩ = some (.int .i64 qd):=(blk_cell qa.out 4).trans rfl;have vq : w16.cell? ⟨qb,5,none⟩ = some (.int .i64 qg):=(blk_cell qa.out 5).trans rfl;have vp : w16.cell? ⟨qb,6,none⟩ = some (.int .i64 qf):=(blk_cell qa.out 6).trans rfl;have wa:=blk_frozen qa.out 0;have qz:=blk_frozen qa.out 1;have qy:=blk_frozen qa.out 2;have qx:=blk_frozen qa.out 3;have qw:=blk_frozen qa.out 4;have qv:=blk_frozen qa.out 5;have qu:=blk_frozen qa.out 6))
    go_ret
    exact ⟨by first | rfl | (simp [errW_none,errW_some] <;> rfl) | (simp [*,errW_none,errW_some] <;> rfl),by repeat (first | (with_reducible first | exact HB.out | apply below_alloc | apply pw_below_drewN | apply below_drew1 | refine below_set ?_ qj.out) | exact HB.out)⟩
 ·replace c3:=Bool.eq_false_iff.mpr c3
  subst c3
  rw [if_neg (show ¬ (false = true) by decide)] at H
  obtain rfl:=Option.some.inj H
  go_enter Try.func178,Try.ntmps178
  go_wp2_with (first | ((with_reducible refine gate_dst (N:=1) rfl ?_);refine box_event ?hg (N:=1) ?hd (cs:=#[.int .i64 qi,.int .i64 qc,.int .i64 qh,.int .i64 qe,.int .i64 qd,.int .i64 qg,.int .i64 qf]) (t:=57) ?hr ?_;(case hd => rfl);(case hg => rfl);(case hr => first | (go_simp;done) | (go_simp;rfl));intro qb hg w18 hbox hb;have n0_:=Aside0.mk (below_step z89x3 hb);have n1_:=Aside0.mk (hbox);have n2_:=Aside0.mk ((z89x1 : w.heap.size ≤ qb));have n3_:=Aside0.mk ((z89x1 : w.heap.size ≤ qb));clear HB;have HB:=n0_;have qa:=n1_;have ql:=n2_;have qj:=n3_;clear n0_ n1_ n2_ n3_;clear hb hbox hg;have vo : w18.cell? ⟨qb,0,none⟩ = some (.int .i64 qi):=(blk_cell qa.out 0).trans rfl;have vn : w18.cell? ⟨qb,1,none⟩ = some (.int .i64 qc):=(blk_cell qa.out 1).trans rfl;have vm : w18.cell? ⟨qb,2,none⟩ = some (.int .i64 qh):=(blk_cell qa.out 2).trans rfl;have vl : w18.cell? ⟨qb,3,none⟩ = some (.int .i64 qe):=(blk_cell qa.out 3).trans rfl;have vk : w18.cell? ⟨qb,4,none⟩ = some (.int .i64 qd):=(blk_cell qa.out 4).trans rfl;have wz : w18.cell? ⟨qb,5,none⟩ = some (.int .i64 qg):=(blk_cell qa.out 5).trans rfl;have wy : w18.cell? ⟨qb,6,none⟩ = some (.int .i64 qf):=(blk_cell qa.out 6).trans rfl;have qt:=blk_frozen qa.out 0;have qr:=blk_frozen qa.out 1;have qq:=blk_frozen qa.out 2;have qp:=blk_frozen qa.out 3;have qo:=blk_frozen qa.out 4;have qn:=blk_frozen qa.out 5;have qm:=blk_frozen qa.out 6) | ((with_reducible refine gate_callee (f:=97) rfl ?_);refine goesL_ (some 5) rfl rfl Try.func97 (by kernel_rfl) rfl #[.agg #[.int .i64 qi,.int .i64 qc,.int .i64 qh,.int .i64 qe,.int .i64 qd,.int .i64 qg,.int .i64 qf]] rfl z89x2 ?_;(with_reducible refine (impl_SealOk.calls qi qc qh qe qd qg qf false _ A2.out).mono ?_);rintro e w20 ⟨rfl,hb⟩; refine ⟨_,rfl,?_⟩; have n0_:=Aside0.mk (blk_below (g:=qb) (o:=.cells #[.int .i64 qi,.int .i64 qc,.int .i64 qh,.int .i64 qe,.int .i64 qd,.int .i64 qg,.int .i64 qf] 57 (0,0)) z89x4 hb);have n1_:=Aside0.mk (below_step z89x0 hb);clear qa;clear HB;have qa:=n0_;have HB:=n1_;clear n0_ n1_;(try clear hb);(try clear hb2);(try clear hk);(try clear hi)))
  go_ret
  exact ⟨by first | rfl | (simp [errW_none,errW_some] <;> rfl) | (simp [*,errW_none,errW_some] <;> rfl),by repeat (first | (with_reducible first | exact HB.out | apply below_alloc | apply pw_below_drewN | apply below_drew1 | refine below_set ?_ qj.out) | exact HB.out)⟩

/-! ### impl_ring_has: function 179 -/
/-- Block g is a ring: which keys one has. -/
structure Ring (w : World) (g : Nat) (bs : List Bool) : Prop where
  blk : w.heap[g]? = some (.cells (bs.map Value.bool).toArray 188 (0,0))
  len : bs.length = 61
theorem Ring.below {w w' : World} {g : Nat} {bs : List Bool} (h : Ring w g bs) (hb : Below w.heap.size w w') : Ring w' g bs :=
  ⟨(hb.block g (Array.getElem?_eq_some_iff.1 h.blk).1).trans h.blk,h.len⟩
theorem Ring.cell {w : World} {g : Nat} {bs : List Bool} (h : Ring w g bs) (i : Nat) (hi : i < 61) : w.cell? ⟨g,i,none⟩ = some (.bool (bs.getD i false)):=by
  rw [blk_cell h.blk i]
  have hl : i < bs.length:=by have:=h.len;omega
  simp [List.getD_eq_getElem?_getD,List.getElem?_eq_getElem hl]
theorem Ring.frozen {w : World} {g : Nat} {bs : List Bool} (h : Ring w g bs) (i : Nat) : w.frozen? ⟨g,i,none⟩ = false:=blk_frozen h.blk i
/-- Is a key there? -/
def ringHas (bs : List Bool) (key : Int) : Bool:=decide (1 ≤ key ∧ key ≤ 60) && bs.getD key.toNat false
theorem within_is (n lo hi : Int) : impl_within.f n lo hi = some (decide (lo ≤ n ∧ n ≤ hi)):=by
  unfold impl_within.f
  split
  · simp;omega
  · simp;omega
set_option maxHeartbeats 8000000 in
set_option maxRecDepth 100000 in
theorem impl_ring_has.calls (g : Nat) (bs : List Bool) (key : Int) (w : World) (hR : Ring w g bs) :
    Calls Try.prog 179 #[.pointer (some ⟨g,0,none⟩),.int .i64 key] w fun e w' => e = .returned (.bool (ringHas bs key)) ∧ Drawn0 w w':=by
  by_cases h : 1 ≤ key ∧ key ≤ 60
  · have HW:=Aside0.mk ((within_is key 1 60).trans (by rw [decide_eq_true h]))
    have HH:=Aside0.mk (show ringHas bs key = bs.getD key.toNat false by unfold ringHas;rw [decide_eq_true h];rfl)
    have hc:=hR.cell key.toNat (by omega)
    have h1 : 0 ≤ key:=by omega
    have h2 : key < 61:=by omega
    clear hR h
    go_enter Try.func179,Try.ntmps179
    go_wp2_with (first | (go_at_call 78;refine (impl_within.calls _ _ _ true _ HW.out).mono ?_;rintro e w1 ⟨rfl,hd⟩; obtain ⟨m,rfl⟩:=hd.out;clear hd))
    go_ret
    exact ⟨by rw [HH.out];simp,⟨⟨m,rfl⟩⟩⟩
  · have HW:=Aside0.mk ((within_is key 1 60).trans (by rw [decide_eq_false h]))
    have HH:=Aside0.mk (show ringHas bs key = false by unfold ringHas;rw [decide_eq_false h];rfl)
    clear hR h
    go_enter Try.func179,Try.ntmps179
    go_wp2_with (first | (go_at_call 78;refine (impl_within.calls _ _ _ false _ HW.out).mono ?_;rintro e w1 ⟨rfl,hd⟩))
    go_ret
    exact ⟨by rw [HH.out];rfl,hd⟩

end Go.Proofs.Ytpdeincniaiajaa.Hp
