-- hp.py
import Derived.Test.YtgekmdfcbcacdaaHx0
import Derived.Test.YtgekmdfcbcacdaaHx7
import Derived.Test.YtgekmdfcbcacdaaHx13
import Derived.Test.YtgekmdfcbcacdaaHx20
namespace Go.Proofs.Ytgekmdfcbcacdaa.Hp
open Go.RowKit Go.Proofs.YtgekmdfcbcacdaaW.PrintWords Go.Proofs.YtgekmdfcbcacdaaW.PrintLast Go.Proofs.YtgekmdfcbcacdaaW.PrintMore
attribute [local go_sem] max2_int min2_int max_two min_two max_three min_three max_four min_four   -- for this text's walks alone
set_option linter.unusedVariables false
set_option linter.unusedSimpArgs false
-- squeezed by wip/tools/squeeze.py
theorem z21x4 {P : Prop} (h : P:=by (with_reducible repeat (first|refine blk_drewN ?_ _|refine blk_drew ?_|refine blk_alloc ?_ _));exact qa.out) : P:=h
theorem z21x3 {P : Prop} (h : P:=by repeat (first|(with_reducible first|exact HB.out|apply below_alloc|apply pw_below_drewN|apply below_drew1)|exact HB.out)) : P:=h
theorem z21x2 {P : Prop} (h : P:=by (try simp only [List.map_toArray,List.map_cons,List.map_nil]);first|done|rfl|(simp only [List.length_drop,List.length_take];rfl)) : P:=h
theorem z21x1 {P : Prop} (h : P:=by rw [hg];exact (below_size (by repeat (first|(with_reducible first|exact HB.out|apply below_alloc|apply pw_below_drewN|apply below_drew1)|exact HB.out)))) : P:=h
theorem z21x0 {P : Prop} (h : P:=by repeat (first|(with_reducible first|exact HB.out|apply below_alloc|apply pw_below_drewN|apply below_drew1|refine below_set ?_ qj.out)|exact HB.out)) : P:=h

/-! ### spec_l1Session: function 125 -/
def spec_l1Session.f (a0 : Int) : Option (Bool):=(spec_l6In.f a0 10 60).bind fun ql=>(some ql)
set_option maxHeartbeats 8000000 in
set_option maxRecDepth 100000 in
theorem spec_l1Session.calls (a0 : Int) (r : Bool) (w : World) (h : spec_l1Session.f a0 = some r) :
  Calls Try.prog 125 #[.int .i64 a0] w fun e w' => e = .returned (.bool r) ∧ Drawn0 w w':=by
 have H : ((spec_l6In.f a0 10 60).bind fun ql=>(some ql)) = some r:=h
 clear h
 replace H:=Option.bind_eq_some_iff.mp H
 obtain ⟨ql,A20,H⟩:=H
 replace H : (some ql) = some r:=H
 have A2:=Aside0.mk A20
 clear A20
 obtain rfl:=Option.some.inj H
 go_enter Try.func125,Try.ntmps125
 go_wp2_with (first|((with_reducible refine gate_callee (f:=108) rfl ?_);refine goesL_ (some 4) rfl rfl Try.func108 (by kernel_rfl) rfl #[.int .i64 a0,.int .i64 10,.int .i64 60] rfl z21x2 ?_;(with_reducible refine (spec_l6In.calls a0 10 60 ql _ A2.out).mono ?_);rintro e w' ⟨rfl,⟨nd,rfl⟩⟩; refine ⟨_,rfl,?_⟩))
 go_ret
 exact ⟨by first|rfl|(simp;done)|(simp [*];done),by repeat (first|exact Drawn0.refl _|apply Drawn0.step)⟩

/-! ### spec_SealOk: function 102 -/
theorem l6In_rng (n lo hi : Int) : spec_l6In.f n lo hi = some (rng n lo hi):=rng_if n lo hi
theorem l1User_rng (n : Int) : spec_l1User.f n = some (rng n 1 3):=by simp only [spec_l1User.f,l6In_rng,Option.bind_some]
theorem l1Session_rng (n : Int) : spec_l1Session.f n = some (rng n 10 60):=by simp only [spec_l1Session.f,l6In_rng,Option.bind_some]
theorem l1Time_rng (n : Int) : spec_l1Time.f n = some (rng n 0 100):=by simp only [spec_l1Time.f,l6In_rng,Option.bind_some]
theorem l1Num_rng (n : Int) : spec_l1Num.f n = some (rng n 1 60):=by simp only [spec_l1Num.f,l6In_rng,Option.bind_some]
def spec_SealOk.f (key kind a b c d e : Int) : Option Bool:=some (sealOk key kind a b c d e)
set_option maxHeartbeats 16000000 in
set_option maxRecDepth 100000 in
theorem spec_SealOk.calls (key kind a b c d e : Int) (r : Bool) (w : World) (h : spec_SealOk.f key kind a b c d e = some r) :
    Calls Try.prog 102 #[.agg #[.int .i64 key,.int .i64 kind,.int .i64 a,.int .i64 b,.int .i64 c,.int .i64 d,.int .i64 e]] w fun e w' => e = .returned (.bool r) ∧ Below w.heap.size w w':=by
  obtain rfl : sealOk key kind a b c d e = r:=Option.some.inj h
  clear h
  by_cases k1 : kind = 1
  case' pos =>
    subst k1
    rcases path5 (key == b) (rng b 4 6) (rng a 1 3) (rng c 10 60) (rng d 0 100) with h1|⟨h1,h2⟩|⟨h1,h2,h3⟩|⟨h1,h2,h3,h4⟩|⟨h1,h2,h3,h4,h5⟩|⟨h1,h2,h3,h4,h5⟩
  case' neg =>
    have e1 : (kind == 1) = false:=beq_eq_false_iff_ne.2 k1
    by_cases k2 : kind = 2
    case' pos =>
      subst k2
      rcases path6 (rng key 1 3) (rng key 10 60) (rng a 4 6) (rng b 10 60) (rng c 1 60) (rng d 0 100) with ⟨h1,h2⟩|⟨(h1|⟨h1,h2⟩),(h3|⟨h3,h4⟩|⟨h3,h4,h5⟩|⟨h3,h4,h5,h6⟩|⟨h3,h4,h5,h6⟩)⟩
    case' neg =>
      have e2 : (kind == 2) = false:=beq_eq_false_iff_ne.2 k2
      by_cases k3 : kind = 3
      case' pos =>
        subst k3
        rcases path5 (rng key 10 60) (rng a 1 3) (rng b 0 100) (rng c 1 60) (d == 0) with h1|⟨h1,h2⟩|⟨h1,h2,h3⟩|⟨h1,h2,h3,h4⟩|⟨h1,h2,h3,h4,h5⟩|⟨h1,h2,h3,h4,h5⟩
      case' neg =>
        have e3 : (kind == 3) = false:=beq_eq_false_iff_ne.2 k3
        by_cases k4 : kind = 4
        case' pos =>
          subst k4
          rcases path5 (rng key 10 60) (rng a 0 100) (rng b 1 60) (c == 0) (d == 0) with h1|⟨h1,h2⟩|⟨h1,h2,h3⟩|⟨h1,h2,h3,h4⟩|⟨h1,h2,h3,h4,h5⟩|⟨h1,h2,h3,h4,h5⟩
        case' neg =>
          have e4 : (kind == 4) = false:=beq_eq_false_iff_ne.2 k4
  all_goals
    go_enter Try.func102,Try.ntmps102
    go_wp2_with (first|(go_at_call 108;refine (spec_l6In.calls _ _ _ _ _ (l6In_rng _ _ _)).mono ?_;rintro e w1 ⟨rfl,hd⟩; obtain ⟨m,rfl⟩:=hd.out;clear hd)|(go_at_call 71;refine (spec_l1User.calls _ _ _ (l1User_rng _)).mono ?_;rintro e w1 ⟨rfl,hd⟩; obtain ⟨m,rfl⟩:=hd.out;clear hd)|(go_at_call 125;refine (spec_l1Session.calls _ _ _ (l1Session_rng _)).mono ?_;rintro e w1 ⟨rfl,hd⟩; obtain ⟨m,rfl⟩:=hd.out;clear hd)|(go_at_call 103;refine (spec_l1Time.calls _ _ _ (l1Time_rng _)).mono ?_;rintro e w1 ⟨rfl,hd⟩; obtain ⟨m,rfl⟩:=hd.out;clear hd)|(go_at_call 89;refine (spec_l1Num.calls _ _ _ (l1Num_rng _)).mono ?_;rintro e w1 ⟨rfl,hd⟩; obtain ⟨m,rfl⟩:=hd.out;clear hd))
    go_ret
    exact ⟨by simp [sealOk, *],by repeat (first|(with_reducible exact Below.refl _ _)|apply pw_below_drewN|apply below_drew1|apply below_alloc)⟩

/-! ### impl_SealHolds: function 152 -/
def impl_SealHolds.f (qi : Int) (qc : Int) (qh : Int) (qe : Int) (qd : Int) (qg : Int) (qf : Int) : Option (Int):=(impl_SealOk.f qi qc qh qe qd qg qf).bind fun qk=>(if qk = true then (if qc = 1 then (some qd) else (if qc = 2 then (some qe) else (some 0))) else (some 0))
set_option maxHeartbeats 8000000 in
set_option maxRecDepth 100000 in
theorem impl_SealHolds.calls (qi : Int) (qc : Int) (qh : Int) (qe : Int) (qd : Int) (qg : Int) (qf : Int) (r : Int) (w : World) (h : impl_SealHolds.f qi qc qh qe qd qg qf = some r) :
  Calls Try.prog 152 #[.agg #[.int .i64 qi,.int .i64 qc,.int .i64 qh,.int .i64 qe,.int .i64 qd,.int .i64 qg,.int .i64 qf]] w fun e w' => e = .returned (.int .i64 r) ∧ Below w.heap.size w w':=by
 have ga:=Try.underlying41
 have HB:=Aside0.mk (Below.refl w.heap.size w)
 have H : ((impl_SealOk.f qi qc qh qe qd qg qf).bind fun qk=>(if qk = true then (if qc = 1 then (some qd) else (if qc = 2 then (some qe) else (some 0))) else (some 0))) = some r:=h
 clear h
 replace H:=Option.bind_eq_some_iff.mp H
 obtain ⟨qk,A20,H⟩:=H
 replace H : (if qk = true then (if qc = 1 then (some qd) else (if qc = 2 then (some qe) else (some 0))) else (some 0)) = some r:=H
 have A2:=Aside0.mk A20
 clear A20
 by_cases c3 : qk = true
 rotate_left
 ·replace c3:=Bool.eq_false_iff.mpr c3
  subst c3
  rw [if_neg (show ¬ (false = true) by decide)] at H
  obtain rfl:=Option.some.inj H
  go_enter Try.func152,Try.ntmps152
  go_wp2_with (first|((with_reducible refine gate_dst (N:=1) rfl ?_);refine box_event ?hg (N:=1) ?hd (cs:=#[.int .i64 qi,.int .i64 qc,.int .i64 qh,.int .i64 qe,.int .i64 qd,.int .i64 qg,.int .i64 qf]) (t:=41) ?hr ?_;(case hd=>rfl);(case hg=>rfl);(case hr=>first|(go_simp;done)|(go_simp;rfl));intro qb hg w18 hbox hb;have n0_:=Aside0.mk (below_step z21x3 hb);have n1_:=Aside0.mk (hbox);have n2_:=Aside0.mk ((z21x1 : w.heap.size ≤ qb));have n3_:=Aside0.mk ((z21x1 : w.heap.size ≤ qb));clear HB;have HB:=n0_;have qa:=n1_;have qm:=n2_;have qj:=n3_;clear n0_ n1_ n2_ n3_;clear hb hbox hg;have vp : w18.cell? ⟨qb,0,none⟩ = some (.int .i64 qi):=(blk_cell qa.out 0).trans rfl;have vo : w18.cell? ⟨qb,1,none⟩ = some (.int .i64 qc):=(blk_cell qa.out 1).trans rfl;have vn : w18.cell? ⟨qb,2,none⟩ = some (.int .i64 qh):=(blk_cell qa.out 2).trans rfl;have vm : w18.cell? ⟨qb,3,none⟩ = some (.int .i64 qe):=(blk_cell qa.out 3).trans rfl;have vl : w18.cell? ⟨qb,4,none⟩ = some (.int .i64 qd):=(blk_cell qa.out 4).trans rfl;have vk : w18.cell? ⟨qb,5,none⟩ = some (.int .i64 qg):=(blk_cell qa.out 5).trans rfl;have wz : w18.cell? ⟨qb,6,none⟩ = some (.int .i64 qf):=(blk_cell qa.out 6).trans rfl;have qu:=blk_frozen qa.out 0;have qt:=blk_frozen qa.out 1;have qr:=blk_frozen qa.out 2;have qq:=blk_frozen qa.out 3;have qp:=blk_frozen qa.out 4;have qo:=blk_frozen qa.out 5;have qn:=blk_frozen qa.out 6)|((with_reducible refine gate_callee (f:=25) rfl ?_);refine goesL_ (some 5) rfl rfl Try.func25 (by kernel_rfl) rfl #[.agg #[.int .i64 qi,.int .i64 qc,.int .i64 qh,.int .i64 qe,.int .i64 qd,.int .i64 qg,.int .i64 qf]] rfl z21x2 ?_;(with_reducible refine (impl_SealOk.calls qi qc qh qe qd qg qf false _ A2.out).mono ?_);rintro e w20 ⟨rfl,hb⟩; refine ⟨_,rfl,?_⟩; have n0_:=Aside0.mk (blk_below (g:=qb) (o:=.cells #[.int .i64 qi,.int .i64 qc,.int .i64 qh,.int .i64 qe,.int .i64 qd,.int .i64 qg,.int .i64 qf] 41 (0,0)) z21x4 hb);have n1_:=Aside0.mk (below_step z21x0 hb);clear qa;clear HB;have qa:=n0_;have HB:=n1_;clear n0_ n1_;(try clear hb);(try clear hb2);(try clear hk);(try clear hi)))
  go_ret
  exact ⟨by first|rfl|(simp [errW_none,errW_some] <;> rfl)|(simp [*,errW_none,errW_some] <;> rfl),by repeat (first|(with_reducible first|exact HB.out|apply below_alloc|apply pw_below_drewN|apply below_drew1|refine below_set ?_ qj.out)|exact HB.out)⟩
 subst c3
 rw [if_pos rfl] at H
 by_cases c4 : qc = 1
 ·rw [if_pos c4] at H
  have jz : (qc == 1) = true:=beq_iff_eq.mpr c4
  have jy : (qc != 1) = false:=bne_eq_false_iff_eq.mpr c4
  clear c4
  obtain rfl:=Option.some.inj H
  go_enter Try.func152,Try.ntmps152
  go_wp2_with (first|((with_reducible refine gate_dst (N:=1) rfl ?_);refine box_event ?hg (N:=1) ?hd (cs:=#[.int .i64 qi,.int .i64 qc,.int .i64 qh,.int .i64 qe,.int .i64 qd,.int .i64 qg,.int .i64 qf]) (t:=41) ?hr ?_;(case hd=>rfl);(case hg=>rfl);(case hr=>first|(go_simp;done)|(go_simp;rfl));intro qb hg w5 hbox hb;have n0_:=Aside0.mk (below_step z21x3 hb);have n1_:=Aside0.mk (hbox);have n2_:=Aside0.mk ((z21x1 : w.heap.size ≤ qb));have n3_:=Aside0.mk ((z21x1 : w.heap.size ≤ qb));clear HB;have HB:=n0_;have qa:=n1_;have qm:=n2_;have qj:=n3_;clear n0_ n1_ n2_ n3_;clear hb hbox hg;have jv : w5.cell? ⟨qb,0,none⟩ = some (.int .i64 qi):=(blk_cell qa.out 0).trans rfl;have ju : w5.cell? ⟨qb,1,none⟩ = some (.int .i64 qc):=(blk_cell qa.out 1).trans rfl;have jt : w5.cell? ⟨qb,2,none⟩ = some (.int .i64 qh):=(blk_cell qa.out 2).trans rfl;have js : w5.cell? ⟨qb,3,none⟩ = some (.int .i64 qe):=(blk_cell qa.out 3).trans rfl;have jr : w5.cell? ⟨qb,4,none⟩ = some (.int .i64 qd):=(blk_cell qa.out 4).trans rfl;have jq : w5.cell? ⟨qb,5,none⟩ = some (.int .i64 qg):=(blk_cell qa.out 5).trans rfl;have jp : w5.cell? ⟨qb,6,none⟩ = some (.int .i64 qf):=(blk_cell qa.out 6).trans rfl;have jh:=blk_frozen qa.out 0;have jg:=blk_frozen qa.out 1;have jf:=blk_frozen qa.out 2;have je:=blk_frozen qa.out 3;have jd:=blk_frozen qa.out 4;have jc:=blk_frozen qa.out 5;have jb:=blk_frozen qa.out 6)|((with_reducible refine gate_callee (f:=25) rfl ?_);refine goesL_ (some 5) rfl rfl Try.func25 (by kernel_rfl) rfl #[.agg #[.int .i64 qi,.int .i64 qc,.int .i64 qh,.int .i64 qe,.int .i64 qd,.int .i64 qg,.int .i64 qf]] rfl z21x2 ?_;(with_reducible refine (impl_SealOk.calls qi qc qh qe qd qg qf true _ A2.out).mono ?_);rintro e w7 ⟨rfl,hb⟩; refine ⟨_,rfl,?_⟩; have n0_:=Aside0.mk (blk_below (g:=qb) (o:=.cells #[.int .i64 qi,.int .i64 qc,.int .i64 qh,.int .i64 qe,.int .i64 qd,.int .i64 qg,.int .i64 qf] 41 (0,0)) z21x4 hb);have n1_:=Aside0.mk (below_step z21x0 hb);clear qa;clear HB;have qa:=n0_;have HB:=n1_;clear n0_ n1_;(try clear hb);(try clear hb2);(try clear hk);(try clear hi);have jo : w7.cell? ⟨qb,0,none⟩ = some (.int .i64 qi):=(blk_cell qa.out 0).trans rfl;have jn : w7.cell? ⟨qb,1,none⟩ = some (.int .i64 qc):=(blk_cell qa.out 1).trans rfl;have jm : w7.cell? ⟨qb,2,none⟩ = some (.int .i64 qh):=(blk_cell qa.out 2).trans rfl;have jl : w7.cell? ⟨qb,3,none⟩ = some (.int .i64 qe):=(blk_cell qa.out 3).trans rfl;have jk : w7.cell? ⟨qb,4,none⟩ = some (.int .i64 qd):=(blk_cell qa.out 4).trans rfl;have jj : w7.cell? ⟨qb,5,none⟩ = some (.int .i64 qg):=(blk_cell qa.out 5).trans rfl;have ji : w7.cell? ⟨qb,6,none⟩ = some (.int .i64 qf):=(blk_cell qa.out 6).trans rfl;have ja:=blk_frozen qa.out 0;have uz:=blk_frozen qa.out 1;have uy:=blk_frozen qa.out 2;have ux:=blk_frozen qa.out 3;have uw:=blk_frozen qa.out 4;have uv:=blk_frozen qa.out 5;have uu:=blk_frozen qa.out 6))
  go_ret
  exact ⟨by first|rfl|(simp [errW_none,errW_some] <;> rfl)|(simp [*,errW_none,errW_some] <;> rfl),by repeat (first|(with_reducible first|exact HB.out|apply below_alloc|apply pw_below_drewN|apply below_drew1|refine below_set ?_ qj.out)|exact HB.out)⟩
 ·rw [if_neg c4] at H
  have jz : (qc == 1) = false:=beq_eq_false_iff_ne.mpr c4
  have jy : (qc != 1) = true:=bne_iff_ne.mpr c4
  by_cases c9 : qc = 2
  rotate_left
  ·rw [if_neg c9] at H
   have jx : (qc == 2) = false:=beq_eq_false_iff_ne.mpr c9
   have jw : (qc != 2) = true:=bne_iff_ne.mpr c9
   obtain rfl:=Option.some.inj H
   go_enter Try.func152,Try.ntmps152
   go_wp2_with (first|((with_reducible refine gate_dst (N:=1) rfl ?_);refine box_event ?hg (N:=1) ?hd (cs:=#[.int .i64 qi,.int .i64 qc,.int .i64 qh,.int .i64 qe,.int .i64 qd,.int .i64 qg,.int .i64 qf]) (t:=41) ?hr ?_;(case hd=>rfl);(case hg=>rfl);(case hr=>first|(go_simp;done)|(go_simp;rfl));intro qb hg w14 hbox hb;have n0_:=Aside0.mk (below_step z21x3 hb);have n1_:=Aside0.mk (hbox);have n2_:=Aside0.mk ((z21x1 : w.heap.size ≤ qb));have n3_:=Aside0.mk ((z21x1 : w.heap.size ≤ qb));clear HB;have HB:=n0_;have qa:=n1_;have qm:=n2_;have qj:=n3_;clear n0_ n1_ n2_ n3_;clear hb hbox hg;have ue : w14.cell? ⟨qb,0,none⟩ = some (.int .i64 qi):=(blk_cell qa.out 0).trans rfl;have ud : w14.cell? ⟨qb,1,none⟩ = some (.int .i64 qc):=(blk_cell qa.out 1).trans rfl;have uc : w14.cell? ⟨qb,2,none⟩ = some (.int .i64 qh):=(blk_cell qa.out 2).trans rfl;have ub : w14.cell? ⟨qb,3,none⟩ = some (.int .i64 qe):=(blk_cell qa.out 3).trans rfl;have ua : w14.cell? ⟨qb,4,none⟩ = some (.int .i64 qd):=(blk_cell qa.out 4).trans rfl;have vz : w14.cell? ⟨qb,5,none⟩ = some (.int .i64 qg):=(blk_cell qa.out 5).trans rfl;have vy : w14.cell? ⟨qb,6,none⟩ = some (.int .i64 qf):=(blk_cell qa.out 6).trans rfl;have wj:=blk_frozen qa.out 0;have wi:=blk_frozen qa.out 1;have wh:=blk_frozen qa.out 2;have wg:=blk_frozen qa.out 3;have we:=blk_frozen qa.out 4;have wd:=blk_frozen qa.out 5;have wc:=blk_frozen qa.out 6)|((with_reducible refine gate_callee (f:=25) rfl ?_);refine goesL_ (some 5) rfl rfl Try.func25 (by kernel_rfl) rfl #[.agg #[.int .i64 qi,.int .i64 qc,.int .i64 qh,.int .i64 qe,.int .i64 qd,.int .i64 qg,.int .i64 qf]] rfl z21x2 ?_;(with_reducible refine (impl_SealOk.calls qi qc qh qe qd qg qf true _ A2.out).mono ?_);rintro e w16 ⟨rfl,hb⟩; refine ⟨_,rfl,?_⟩; have n0_:=Aside0.mk (blk_below (g:=qb) (o:=.cells #[.int .i64 qi,.int .i64 qc,.int .i64 qh,.int .i64 qe,.int .i64 qd,.int .i64 qg,.int .i64 qf] 41 (0,0)) z21x4 hb);have n1_:=Aside0.mk (below_step z21x0 hb);clear qa;clear HB;have qa:=n0_;have HB:=n1_;clear n0_ n1_;(try clear hb);(try clear hb2);(try clear hk);(try clear hi);have vx : w16.cell? ⟨qb,0,none⟩ = some (.int .i64 qi):=(blk_cell qa.out 0).trans rfl;have vw : w16.cell? ⟨qb,1,none⟩ = some (.int .i64 qc):=(blk_cell qa.out 1).trans rfl;have vv : w16.cell? ⟨qb,2,none⟩ = some (.int .i64 qh):=(blk_cell qa.out 2).trans rfl;have vu : w16.cell? ⟨qb,3,none⟩ = some (.int .i64 qe):=(blk_cell qa.out 3).trans rfl;have vt : w16.cell? ⟨qb,4,none⟩ = some (.int .i64 qd):=(blk_cell qa.out 4).trans rfl;have vr : w16.cell? ⟨qb,5,none⟩ = some (.int .i64 qg):=(blk_cell qa.out 5).trans rfl;have vq : w16.cell? ⟨qb,6,none⟩ = some (.int .i64 qf):=(blk_cell qa.out 6).trans rfl;have wb:=blk_frozen qa.out 0;have wa:=blk_frozen qa.out 1;have qz:=blk_frozen qa.out 2;have qy:=blk_frozen qa.out 3;have qx:=blk_frozen qa.out 4;have qw:=blk_frozen qa.out 5;have qv:=blk_frozen qa.out 6))
   go_ret
   exact ⟨by first|rfl|(simp [errW_none,errW_some] <;> rfl)|(simp [*,errW_none,errW_some] <;> rfl),by repeat (first|(with_reducible first|exact HB.out|apply below_alloc|apply pw_below_drewN|apply below_drew1|refine below_set ?_ qj.out)|exact HB.out)⟩
  rw [if_pos c9] at H
  have jx : (qc == 2) = true:=beq_iff_eq.mpr c9
  have jw : (qc != 2) = false:=bne_eq_false_iff_eq.mpr c9
  clear c9
  obtain rfl:=Option.some.inj H
  go_enter Try.func152,Try.ntmps152
  go_wp2_with (first|((with_reducible refine gate_dst (N:=1) rfl ?_);refine box_event ?hg (N:=1) ?hd (cs:=#[.int .i64 qi,.int .i64 qc,.int .i64 qh,.int .i64 qe,.int .i64 qd,.int .i64 qg,.int .i64 qf]) (t:=41) ?hr ?_;(case hd=>rfl);(case hg=>rfl);(case hr=>first|(go_simp;done)|(go_simp;rfl));intro qb hg w10 hbox hb;have n0_:=Aside0.mk (below_step z21x3 hb);have n1_:=Aside0.mk (hbox);have n2_:=Aside0.mk ((z21x1 : w.heap.size ≤ qb));have n3_:=Aside0.mk ((z21x1 : w.heap.size ≤ qb));clear HB;have HB:=n0_;have qa:=n1_;have qm:=n2_;have qj:=n3_;clear n0_ n1_ n2_ n3_;clear hb hbox hg;have ut : w10.cell? ⟨qb,0,none⟩ = some (.int .i64 qi):=(blk_cell qa.out 0).trans rfl;have us : w10.cell? ⟨qb,1,none⟩ = some (.int .i64 qc):=(blk_cell qa.out 1).trans rfl;have ur : w10.cell? ⟨qb,2,none⟩ = some (.int .i64 qh):=(blk_cell qa.out 2).trans rfl;have uq : w10.cell? ⟨qb,3,none⟩ = some (.int .i64 qe):=(blk_cell qa.out 3).trans rfl;have uo : w10.cell? ⟨qb,4,none⟩ = some (.int .i64 qd):=(blk_cell qa.out 4).trans rfl;have un : w10.cell? ⟨qb,5,none⟩ = some (.int .i64 qg):=(blk_cell qa.out 5).trans rfl;have um : w10.cell? ⟨qb,6,none⟩ = some (.int .i64 qf):=(blk_cell qa.out 6).trans rfl;have wy:=blk_frozen qa.out 0;have wx:=blk_frozen qa.out 1;have ww:=blk_frozen qa.out 2;have wv:=blk_frozen qa.out 3;have wu:=blk_frozen qa.out 4;have wt:=blk_frozen qa.out 5;have ws:=blk_frozen qa.out 6)|((with_reducible refine gate_callee (f:=25) rfl ?_);refine goesL_ (some 5) rfl rfl Try.func25 (by kernel_rfl) rfl #[.agg #[.int .i64 qi,.int .i64 qc,.int .i64 qh,.int .i64 qe,.int .i64 qd,.int .i64 qg,.int .i64 qf]] rfl z21x2 ?_;(with_reducible refine (impl_SealOk.calls qi qc qh qe qd qg qf true _ A2.out).mono ?_);rintro e w12 ⟨rfl,hb⟩; refine ⟨_,rfl,?_⟩; have n0_:=Aside0.mk (blk_below (g:=qb) (o:=.cells #[.int .i64 qi,.int .i64 qc,.int .i64 qh,.int .i64 qe,.int .i64 qd,.int .i64 qg,.int .i64 qf] 41 (0,0)) z21x4 hb);have n1_:=Aside0.mk (below_step z21x0 hb);clear qa;clear HB;have qa:=n0_;have HB:=n1_;clear n0_ n1_;(try clear hb);(try clear hb2);(try clear hk);(try clear hi);have ul : w12.cell? ⟨qb,0,none⟩ = some (.int .i64 qi):=(blk_cell qa.out 0).trans rfl;have uk : w12.cell? ⟨qb,1,none⟩ = some (.int .i64 qc):=(blk_cell qa.out 1).trans rfl;have uj : w12.cell? ⟨qb,2,none⟩ = some (.int .i64 qh):=(blk_cell qa.out 2).trans rfl;have ui : w12.cell? ⟨qb,3,none⟩ = some (.int .i64 qe):=(blk_cell qa.out 3).trans rfl;have uh : w12.cell? ⟨qb,4,none⟩ = some (.int .i64 qd):=(blk_cell qa.out 4).trans rfl;have ug : w12.cell? ⟨qb,5,none⟩ = some (.int .i64 qg):=(blk_cell qa.out 5).trans rfl;have uf : w12.cell? ⟨qb,6,none⟩ = some (.int .i64 qf):=(blk_cell qa.out 6).trans rfl;have wr:=blk_frozen qa.out 0;have wq:=blk_frozen qa.out 1;have wo:=blk_frozen qa.out 2;have wn:=blk_frozen qa.out 3;have wm:=blk_frozen qa.out 4;have wl:=blk_frozen qa.out 5;have wk:=blk_frozen qa.out 6))
  go_ret
  exact ⟨by first|rfl|(simp [errW_none,errW_some] <;> rfl)|(simp [*,errW_none,errW_some] <;> rfl),by repeat (first|(with_reducible first|exact HB.out|apply below_alloc|apply pw_below_drewN|apply below_drew1|refine below_set ?_ qj.out)|exact HB.out)⟩

end Go.Proofs.Ytgekmdfcbcacdaa.Hp
