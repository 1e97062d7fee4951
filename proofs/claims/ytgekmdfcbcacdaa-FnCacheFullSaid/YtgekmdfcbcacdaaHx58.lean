-- hp.py
import Derived.Test.YtgekmdfcbcacdaaHx0
import Derived.Test.YtgekmdfcbcacdaaHx12
import Derived.Test.YtgekmdfcbcacdaaHx52
import Derived.Test.YtgekmdfcbcacdaaHx55
import Derived.Test.YtgekmdfcbcacdaaHx57
namespace Go.Proofs.Ytgekmdfcbcacdaa.Hp
open Go.RowKit Go.Proofs.YtgekmdfcbcacdaaW.PrintWords Go.Proofs.YtgekmdfcbcacdaaW.PrintLast Go.Proofs.YtgekmdfcbcacdaaW.PrintMore
attribute [local go_sem] max2_int min2_int max_two min_two max_three min_three max_four min_four   -- for this text's walks alone
set_option linter.unusedVariables false
set_option linter.unusedSimpArgs false
-- squeezed by wip/tools/squeeze.py
theorem z58x4 {P : Prop} (h : P:=by (with_reducible repeat (first|refine blk_drewN ?_ _|refine blk_drew ?_|refine blk_alloc ?_ _));exact qa.out) : P:=h
theorem z58x3 {P : Prop} (h : P:=by repeat (first|(with_reducible first|exact HB.out|apply below_alloc|apply pw_below_drewN|apply below_drew1)|exact HB.out)) : P:=h
theorem z58x2 {P : Prop} (h : P:=by (try simp only [List.map_toArray,List.map_cons,List.map_nil]);first|done|rfl|(simp only [List.length_drop,List.length_take];rfl)) : P:=h
theorem z58x1 {P : Prop} (h : P:=by rw [hg];exact (below_size (by repeat (first|(with_reducible first|exact HB.out|apply below_alloc|apply pw_below_drewN|apply below_drew1)|exact HB.out)))) : P:=h
theorem z58x0 {P : Prop} (h : P:=by repeat (first|(with_reducible first|exact HB.out|apply below_alloc|apply pw_below_drewN|apply below_drew1|refine below_set ?_ qk.out)|exact HB.out)) : P:=h

/-! ### impl_CacheWith: function 41 -/
def impl_CacheWith.f (k : Nat) (l0 : List (S41)) (qi : Int) (qh : Int) (qg : Int) (qf : Int) (qe : Int) (qd : Int) (qc : Int) (a2 : Int) : Option ((List (S41)) × Bool):=(impl_cacheOk.f k l0).bind fun qn=>(if qn = true then ((impl_authOk.f qi qh qg qf qe qd qc).bind fun qm=>(if qm = true then ((impl_timeOk.f a2).bind fun ql=>(if ql = true then ((impl_remember.f l0 qi qh qg qf qe qd qc a2).bind fun qj=>(some (qj.1,qj.2))) else (some (([] : List (S41)),false)))) else (some (([] : List (S41)),false)))) else (some (([] : List (S41)),false)))
theorem impl_CacheWith.mono : ∀ a0 a1 a2 a3 a4 a5 a6 a7 a8 k,LeO (impl_CacheWith.f k a0 a1 a2 a3 a4 a5 a6 a7 a8) (impl_CacheWith.f (k + 1) a0 a1 a2 a3 a4 a5 a6 a7 a8):=by
 intro a0 a1 a2 a3 a4 a5 a6 a7 a8 k
 unfold impl_CacheWith.f
 repeat' first
   | (with_reducible exact impl_cacheOk.mono _ _)
   | (with_reducible exact LeO.refl _)
   | (with_reducible exact LeO.none _)
   | (with_reducible refine LeO.ite ?_ ?_)
   | (with_reducible refine LeO.bind ?_ (fun _=>?_))
   | exact impl_cacheOk.mono _ _
   | exact LeO.none _
   | refine LeO.ite ?_ ?_
   | refine LeO.bind ?_ (fun _=>?_)
set_option maxHeartbeats 8000000 in
set_option maxRecDepth 100000 in
theorem impl_CacheWith.calls (k : Nat) (A0 : Option Addr) (c0 : Nat) (l0 : List (S41)) (qi : Int) (qh : Int) (qg : Int) (qf : Int) (qe : Int) (qd : Int) (qc : Int) (a2 : Int) (r1 : List (S41)) (r2 : Bool) (w : World) (hr0 : Kd.C k41 w A0 l0.length l0) (hc0 : l0.length ≤ c0) (h : impl_CacheWith.f k l0 qi qh qg qf qe qd qc a2 = some (r1,r2)) :
  Calls Try.prog 41 #[.slice A0 l0.length c0,.agg #[.int .i64 qi,.int .i64 qh,.int .i64 qg,.int .i64 qf,.int .i64 qe,.int .i64 qd,.int .i64 qc],.int .i64 a2] w fun e w' => ∃ v0_ : Value,e = .returned (.tuple #[v0_,.bool r2]) ∧ Kd.V k41 41 w' w.heap.size (fun k_=>(w.heap.size ≤ k_)) v0_ r1 ∧ Below w.heap.size w w':=by
 have um:=Try.underlying41
 have HR0:=Aside0.mk hr0
 have HC0:=Aside0.mk hc0
 clear hr0 hc0
 have HB:=Aside0.mk (Below.refl w.heap.size w)
 have H : ((impl_cacheOk.f k l0).bind fun qn=>(if qn = true then ((impl_authOk.f qi qh qg qf qe qd qc).bind fun qm=>(if qm = true then ((impl_timeOk.f a2).bind fun ql=>(if ql = true then ((impl_remember.f l0 qi qh qg qf qe qd qc a2).bind fun qj=>(some (qj.1,qj.2))) else (some (([] : List (S41)),false)))) else (some (([] : List (S41)),false)))) else (some (([] : List (S41)),false)))) = some (r1,r2):=h
 clear h
 replace H:=Option.bind_eq_some_iff.mp H
 obtain ⟨qn,A40,H⟩:=H
 replace H : (if qn = true then ((impl_authOk.f qi qh qg qf qe qd qc).bind fun qm=>(if qm = true then ((impl_timeOk.f a2).bind fun ql=>(if ql = true then ((impl_remember.f l0 qi qh qg qf qe qd qc a2).bind fun qj=>(some (qj.1,qj.2))) else (some (([] : List (S41)),false)))) else (some (([] : List (S41)),false)))) else (some (([] : List (S41)),false))) = some (r1,r2):=H
 have A4:=Aside0.mk A40
 clear A40
 by_cases c5 : qn = true
 rotate_left
 ·replace c5:=Bool.eq_false_iff.mpr c5
  subst c5
  rw [if_neg (show ¬ (false = true) by decide)] at H
  simp only [Option.some.injEq,Prod.mk.injEq] at H
  obtain ⟨rfl,rfl⟩:=H
  go_enter Try.func41,Try.ntmps41
  go_wp2_with (first|((with_reducible refine gate_dst (N:=4) rfl ?_);refine box_event ?hg (N:=4) ?hd (cs:=#[.int .i64 qi,.int .i64 qh,.int .i64 qg,.int .i64 qf,.int .i64 qe,.int .i64 qd,.int .i64 qc]) (t:=41) ?hr ?_;(case hd=>rfl);(case hg=>rfl);(case hr=>first|(go_simp;done)|(go_simp;rfl));intro qb hg w25 hbox hb;have n0_:=Aside0.mk (below_step z58x3 hb);have n1_:=Aside0.mk (hbox);have n2_:=Aside0.mk ((z58x1 : w.heap.size ≤ qb));have n3_:=Aside0.mk ((z58x1 : w.heap.size ≤ qb));clear HB;have HB:=n0_;have qa:=n1_;have qo:=n2_;have qk:=n3_;clear n0_ n1_ n2_ n3_;clear hb hbox hg)|((with_reducible refine gate_callee (f:=105) rfl ?_);refine goesL_ (some 9) rfl rfl Try.func105 (by kernel_rfl) rfl #[.slice A0 l0.length c0] rfl z58x2 ?_;(with_reducible refine (impl_cacheOk.calls k _ _ l0 false _ ?side1 ?side2 A4.out).mono ?_);(case side1=>repeat (first|exact (Kd.C_below HR0.out HB.out)|(with_reducible refine Kd.C_alloc ?_ _)|(with_reducible refine Kd.C_drewN ?_ _)|(with_reducible refine Kd.C_drew ?_)));(case side2=>exact HC0.out);rintro e w26 ⟨rfl,hb⟩; refine ⟨_,rfl,?_⟩; have n0_:=Aside0.mk (blk_below (g:=qb) (o:=.cells #[.int .i64 qi,.int .i64 qh,.int .i64 qg,.int .i64 qf,.int .i64 qe,.int .i64 qd,.int .i64 qc] 41 (0,0)) z58x4 hb);have n1_:=Aside0.mk (below_step z58x0 hb);clear qa;clear HB;have qa:=n0_;have HB:=n1_;clear n0_ n1_;(try clear hb);(try clear hb2);(try clear hk);(try clear hi)))
  go_ret2
  exact ⟨_,by first|rfl|(simp [errW_none,errW_some] <;> rfl)|(simp [*,errW_none,errW_some] <;> rfl),(by first|exact Kd.V_nil _ _ _ _ _|exact Kd.R_V (Kd.R_nil _ _ _ _ _)),by repeat (first|(with_reducible first|exact HB.out|apply below_alloc|apply pw_below_drewN|apply below_drew1|refine below_set ?_ qk.out)|exact HB.out)⟩
 subst c5
 rw [if_pos rfl] at H
 replace H:=Option.bind_eq_some_iff.mp H
 obtain ⟨qm,A60,H⟩:=H
 replace H : (if qm = true then ((impl_timeOk.f a2).bind fun ql=>(if ql = true then ((impl_remember.f l0 qi qh qg qf qe qd qc a2).bind fun qj=>(some (qj.1,qj.2))) else (some (([] : List (S41)),false)))) else (some (([] : List (S41)),false))) = some (r1,r2):=H
 have A6:=Aside0.mk A60
 clear A60
 by_cases c7 : qm = true
 rotate_left
 ·replace c7:=Bool.eq_false_iff.mpr c7
  subst c7
  rw [if_neg (show ¬ (false = true) by decide)] at H
  simp only [Option.some.injEq,Prod.mk.injEq] at H
  obtain ⟨rfl,rfl⟩:=H
  go_enter Try.func41,Try.ntmps41
  go_wp2_with (first|((with_reducible refine gate_dst (N:=4) rfl ?_);refine box_event ?hg (N:=4) ?hd (cs:=#[.int .i64 qi,.int .i64 qh,.int .i64 qg,.int .i64 qf,.int .i64 qe,.int .i64 qd,.int .i64 qc]) (t:=41) ?hr ?_;(case hd=>rfl);(case hg=>rfl);(case hr=>first|(go_simp;done)|(go_simp;rfl));intro qb hg w21 hbox hb;have n0_:=Aside0.mk (below_step z58x3 hb);have n1_:=Aside0.mk (hbox);have n2_:=Aside0.mk ((z58x1 : w.heap.size ≤ qb));have n3_:=Aside0.mk ((z58x1 : w.heap.size ≤ qb));clear HB;have HB:=n0_;have qa:=n1_;have qo:=n2_;have qk:=n3_;clear n0_ n1_ n2_ n3_;clear hb hbox hg)|((with_reducible refine gate_callee (f:=105) rfl ?_);refine goesL_ (some 9) rfl rfl Try.func105 (by kernel_rfl) rfl #[.slice A0 l0.length c0] rfl z58x2 ?_;(with_reducible refine (impl_cacheOk.calls k _ _ l0 true _ ?side1 ?side2 A4.out).mono ?_);(case side1=>repeat (first|exact (Kd.C_below HR0.out HB.out)|(with_reducible refine Kd.C_alloc ?_ _)|(with_reducible refine Kd.C_drewN ?_ _)|(with_reducible refine Kd.C_drew ?_)));(case side2=>exact HC0.out);rintro e w22 ⟨rfl,hb⟩; refine ⟨_,rfl,?_⟩; have n0_:=Aside0.mk (blk_below (g:=qb) (o:=.cells #[.int .i64 qi,.int .i64 qh,.int .i64 qg,.int .i64 qf,.int .i64 qe,.int .i64 qd,.int .i64 qc] 41 (0,0)) z58x4 hb);have n1_:=Aside0.mk (below_step z58x0 hb);clear qa;clear HB;have qa:=n0_;have HB:=n1_;clear n0_ n1_;(try clear hb);(try clear hb2);(try clear hk);(try clear hi);have vo : w22.cell? ⟨qb,0,none⟩ = some (.int .i64 qi):=(blk_cell qa.out 0).trans rfl;have vn : w22.cell? ⟨qb,1,none⟩ = some (.int .i64 qh):=(blk_cell qa.out 1).trans rfl;have vm : w22.cell? ⟨qb,2,none⟩ = some (.int .i64 qg):=(blk_cell qa.out 2).trans rfl;have vl : w22.cell? ⟨qb,3,none⟩ = some (.int .i64 qf):=(blk_cell qa.out 3).trans rfl;have vk : w22.cell? ⟨qb,4,none⟩ = some (.int .i64 qe):=(blk_cell qa.out 4).trans rfl;have wz : w22.cell? ⟨qb,5,none⟩ = some (.int .i64 qd):=(blk_cell qa.out 5).trans rfl;have wy : w22.cell? ⟨qb,6,none⟩ = some (.int .i64 qc):=(blk_cell qa.out 6).trans rfl;have wa:=blk_frozen qa.out 0;have qz:=blk_frozen qa.out 1;have qy:=blk_frozen qa.out 2;have qx:=blk_frozen qa.out 3;have qw:=blk_frozen qa.out 4;have qv:=blk_frozen qa.out 5;have qu:=blk_frozen qa.out 6)|(go_at_call 106;(with_reducible refine (impl_authOk.calls qi qh qg qf qe qd qc false _ A6.out).mono ?_);rintro e w24 ⟨rfl,hb⟩; have n0_:=Aside0.mk (blk_below (g:=qb) (o:=.cells #[.int .i64 qi,.int .i64 qh,.int .i64 qg,.int .i64 qf,.int .i64 qe,.int .i64 qd,.int .i64 qc] 41 (0,0)) z58x4 hb);have n1_:=Aside0.mk (below_step z58x0 hb);clear qa;clear HB;have qa:=n0_;have HB:=n1_;clear n0_ n1_;(try clear hb);(try clear hb2);(try clear hk);(try clear hi)))
  go_ret2
  exact ⟨_,by first|rfl|(simp [errW_none,errW_some] <;> rfl)|(simp [*,errW_none,errW_some] <;> rfl),(by first|exact Kd.V_nil _ _ _ _ _|exact Kd.R_V (Kd.R_nil _ _ _ _ _)),by repeat (first|(with_reducible first|exact HB.out|apply below_alloc|apply pw_below_drewN|apply below_drew1|refine below_set ?_ qk.out)|exact HB.out)⟩
 subst c7
 rw [if_pos rfl] at H
 replace H:=Option.bind_eq_some_iff.mp H
 obtain ⟨ql,A80,H⟩:=H
 replace H : (if ql = true then ((impl_remember.f l0 qi qh qg qf qe qd qc a2).bind fun qj=>(some (qj.1,qj.2))) else (some (([] : List (S41)),false))) = some (r1,r2):=H
 have A8:=Aside0.mk A80
 clear A80
 by_cases c9 : ql = true
 rotate_left
 ·replace c9:=Bool.eq_false_iff.mpr c9
  subst c9
  rw [if_neg (show ¬ (false = true) by decide)] at H
  simp only [Option.some.injEq,Prod.mk.injEq] at H
  obtain ⟨rfl,rfl⟩:=H
  go_enter Try.func41,Try.ntmps41
  go_wp2_with (first|((with_reducible refine gate_dst (N:=4) rfl ?_);refine box_event ?hg (N:=4) ?hd (cs:=#[.int .i64 qi,.int .i64 qh,.int .i64 qg,.int .i64 qf,.int .i64 qe,.int .i64 qd,.int .i64 qc]) (t:=41) ?hr ?_;(case hd=>rfl);(case hg=>rfl);(case hr=>first|(go_simp;done)|(go_simp;rfl));intro qb hg w17 hbox hb;have n0_:=Aside0.mk (below_step z58x3 hb);have n1_:=Aside0.mk (hbox);have n2_:=Aside0.mk ((z58x1 : w.heap.size ≤ qb));have n3_:=Aside0.mk ((z58x1 : w.heap.size ≤ qb));clear HB;have HB:=n0_;have qa:=n1_;have qo:=n2_;have qk:=n3_;clear n0_ n1_ n2_ n3_;clear hb hbox hg)|((with_reducible refine gate_callee (f:=105) rfl ?_);refine goesL_ (some 9) rfl rfl Try.func105 (by kernel_rfl) rfl #[.slice A0 l0.length c0] rfl z58x2 ?_;(with_reducible refine (impl_cacheOk.calls k _ _ l0 true _ ?side1 ?side2 A4.out).mono ?_);(case side1=>repeat (first|exact (Kd.C_below HR0.out HB.out)|(with_reducible refine Kd.C_alloc ?_ _)|(with_reducible refine Kd.C_drewN ?_ _)|(with_reducible refine Kd.C_drew ?_)));(case side2=>exact HC0.out);rintro e w18 ⟨rfl,hb⟩; refine ⟨_,rfl,?_⟩; have n0_:=Aside0.mk (blk_below (g:=qb) (o:=.cells #[.int .i64 qi,.int .i64 qh,.int .i64 qg,.int .i64 qf,.int .i64 qe,.int .i64 qd,.int .i64 qc] 41 (0,0)) z58x4 hb);have n1_:=Aside0.mk (below_step z58x0 hb);clear qa;clear HB;have qa:=n0_;have HB:=n1_;clear n0_ n1_;(try clear hb);(try clear hb2);(try clear hk);(try clear hi);have vw : w18.cell? ⟨qb,0,none⟩ = some (.int .i64 qi):=(blk_cell qa.out 0).trans rfl;have vv : w18.cell? ⟨qb,1,none⟩ = some (.int .i64 qh):=(blk_cell qa.out 1).trans rfl;have vu : w18.cell? ⟨qb,2,none⟩ = some (.int .i64 qg):=(blk_cell qa.out 2).trans rfl;have vt : w18.cell? ⟨qb,3,none⟩ = some (.int .i64 qf):=(blk_cell qa.out 3).trans rfl;have vr : w18.cell? ⟨qb,4,none⟩ = some (.int .i64 qe):=(blk_cell qa.out 4).trans rfl;have vq : w18.cell? ⟨qb,5,none⟩ = some (.int .i64 qd):=(blk_cell qa.out 5).trans rfl;have vp : w18.cell? ⟨qb,6,none⟩ = some (.int .i64 qc):=(blk_cell qa.out 6).trans rfl;have wi:=blk_frozen qa.out 0;have wh:=blk_frozen qa.out 1;have wg:=blk_frozen qa.out 2;have we:=blk_frozen qa.out 3;have wd:=blk_frozen qa.out 4;have wc:=blk_frozen qa.out 5;have wb:=blk_frozen qa.out 6)|(go_at_call 106;(with_reducible refine (impl_authOk.calls qi qh qg qf qe qd qc true _ A6.out).mono ?_);rintro e w20 ⟨rfl,hb⟩; have n0_:=Aside0.mk (blk_below (g:=qb) (o:=.cells #[.int .i64 qi,.int .i64 qh,.int .i64 qg,.int .i64 qf,.int .i64 qe,.int .i64 qd,.int .i64 qc] 41 (0,0)) z58x4 hb);have n1_:=Aside0.mk (below_step z58x0 hb);clear qa;clear HB;have qa:=n0_;have HB:=n1_;clear n0_ n1_;(try clear hb);(try clear hb2);(try clear hk);(try clear hi))|(go_at_call 74;(with_reducible refine (impl_timeOk.calls a2 false _ A8.out).mono ?_);rintro e w' ⟨rfl,⟨nd,rfl⟩⟩))
  go_ret2
  exact ⟨_,by first|rfl|(simp [errW_none,errW_some] <;> rfl)|(simp [*,errW_none,errW_some] <;> rfl),(by first|exact Kd.V_nil _ _ _ _ _|exact Kd.R_V (Kd.R_nil _ _ _ _ _)),by repeat (first|(with_reducible first|exact HB.out|apply below_alloc|apply pw_below_drewN|apply below_drew1|refine below_set ?_ qk.out)|exact HB.out)⟩
 subst c9
 rw [if_pos rfl] at H
 replace H:=Option.bind_eq_some_iff.mp H
 obtain ⟨⟨qq,qp⟩,qt,H⟩:=H
 replace H : (some (qq,qp)) = some (r1,r2):=H
 have A10:=Aside0.mk qt
 clear qt
 simp only [Option.some.injEq,Prod.mk.injEq] at H
 obtain ⟨rfl,rfl⟩:=H
 go_enter Try.func41,Try.ntmps41
 go_wp2_with (first|((with_reducible refine gate_dst (N:=4) rfl ?_);refine box_event ?hg (N:=4) ?hd (cs:=#[.int .i64 qi,.int .i64 qh,.int .i64 qg,.int .i64 qf,.int .i64 qe,.int .i64 qd,.int .i64 qc]) (t:=41) ?hr ?_;(case hd=>rfl);(case hg=>rfl);(case hr=>first|(go_simp;done)|(go_simp;rfl));intro qb hg w11 hbox hb;have n0_:=Aside0.mk (below_step z58x3 hb);have n1_:=Aside0.mk (hbox);have n2_:=Aside0.mk ((z58x1 : w.heap.size ≤ qb));have n3_:=Aside0.mk ((z58x1 : w.heap.size ≤ qb));clear HB;have HB:=n0_;have qa:=n1_;have qo:=n2_;have qk:=n3_;clear n0_ n1_ n2_ n3_;clear hb hbox hg)|((with_reducible refine gate_callee (f:=105) rfl ?_);refine goesL_ (some 9) rfl rfl Try.func105 (by kernel_rfl) rfl #[.slice A0 l0.length c0] rfl z58x2 ?_;(with_reducible refine (impl_cacheOk.calls k _ _ l0 true _ ?side1 ?side2 A4.out).mono ?_);(case side1=>repeat (first|exact (Kd.C_below HR0.out HB.out)|(with_reducible refine Kd.C_alloc ?_ _)|(with_reducible refine Kd.C_drewN ?_ _)|(with_reducible refine Kd.C_drew ?_)));(case side2=>exact HC0.out);rintro e w12 ⟨rfl,hb⟩; refine ⟨_,rfl,?_⟩; have n0_:=Aside0.mk (blk_below (g:=qb) (o:=.cells #[.int .i64 qi,.int .i64 qh,.int .i64 qg,.int .i64 qf,.int .i64 qe,.int .i64 qd,.int .i64 qc] 41 (0,0)) z58x4 hb);have n1_:=Aside0.mk (below_step z58x0 hb);clear qa;clear HB;have qa:=n0_;have HB:=n1_;clear n0_ n1_;(try clear hb);(try clear hb2);(try clear hk);(try clear hi);have uk : w12.cell? ⟨qb,0,none⟩ = some (.int .i64 qi):=(blk_cell qa.out 0).trans rfl;have uj : w12.cell? ⟨qb,1,none⟩ = some (.int .i64 qh):=(blk_cell qa.out 1).trans rfl;have ui : w12.cell? ⟨qb,2,none⟩ = some (.int .i64 qg):=(blk_cell qa.out 2).trans rfl;have uh : w12.cell? ⟨qb,3,none⟩ = some (.int .i64 qf):=(blk_cell qa.out 3).trans rfl;have ug : w12.cell? ⟨qb,4,none⟩ = some (.int .i64 qe):=(blk_cell qa.out 4).trans rfl;have uf : w12.cell? ⟨qb,5,none⟩ = some (.int .i64 qd):=(blk_cell qa.out 5).trans rfl;have ue : w12.cell? ⟨qb,6,none⟩ = some (.int .i64 qc):=(blk_cell qa.out 6).trans rfl;have wx:=blk_frozen qa.out 0;have ww:=blk_frozen qa.out 1;have wv:=blk_frozen qa.out 2;have wu:=blk_frozen qa.out 3;have wt:=blk_frozen qa.out 4;have ws:=blk_frozen qa.out 5;have wr:=blk_frozen qa.out 6)|(go_at_call 106;(with_reducible refine (impl_authOk.calls qi qh qg qf qe qd qc true _ A6.out).mono ?_);rintro e w14 ⟨rfl,hb⟩; have n0_:=Aside0.mk (blk_below (g:=qb) (o:=.cells #[.int .i64 qi,.int .i64 qh,.int .i64 qg,.int .i64 qf,.int .i64 qe,.int .i64 qd,.int .i64 qc] 41 (0,0)) z58x4 hb);have n1_:=Aside0.mk (below_step z58x0 hb);clear qa;clear HB;have qa:=n0_;have HB:=n1_;clear n0_ n1_;(try clear hb);(try clear hb2);(try clear hk);(try clear hi))|(go_at_call 74;(with_reducible refine (impl_timeOk.calls a2 true _ A8.out).mono ?_);rintro e w' ⟨rfl,⟨nd,rfl⟩⟩; have ud : w14.cell? ⟨qb,0,none⟩ = some (.int .i64 qi):=(blk_cell qa.out 0).trans rfl;have uc : w14.cell? ⟨qb,1,none⟩ = some (.int .i64 qh):=(blk_cell qa.out 1).trans rfl;have ub : w14.cell? ⟨qb,2,none⟩ = some (.int .i64 qg):=(blk_cell qa.out 2).trans rfl;have ua : w14.cell? ⟨qb,3,none⟩ = some (.int .i64 qf):=(blk_cell qa.out 3).trans rfl;have vz : w14.cell? ⟨qb,4,none⟩ = some (.int .i64 qe):=(blk_cell qa.out 4).trans rfl;have vy : w14.cell? ⟨qb,5,none⟩ = some (.int .i64 qd):=(blk_cell qa.out 5).trans rfl;have vx : w14.cell? ⟨qb,6,none⟩ = some (.int .i64 qc):=(blk_cell qa.out 6).trans rfl;have wq:=blk_frozen qa.out 0;have wo:=blk_frozen qa.out 1;have wn:=blk_frozen qa.out 2;have wm:=blk_frozen qa.out 3;have wl:=blk_frozen qa.out 4;have wk:=blk_frozen qa.out 5;have wj:=blk_frozen qa.out 6)|((with_reducible refine gate_callee (f:=107) rfl ?_);refine goesL_ (some 24) rfl rfl Try.func107 (by kernel_rfl) rfl #[.slice A0 l0.length c0,.agg #[.int .i64 qi,.int .i64 qh,.int .i64 qg,.int .i64 qf,.int .i64 qe,.int .i64 qd,.int .i64 qc],.int .i64 a2] rfl z58x2 ?_;(with_reducible refine (impl_remember.calls _ _ l0 qi qh qg qf qe qd qc a2 qq qp _ ?side1 ?side2 A10.out).mono ?_);(case side1=>repeat (first|exact (Kd.C_below HR0.out z58x0)|(with_reducible refine Kd.C_alloc ?_ _)|(with_reducible refine Kd.C_drewN ?_ _)|(with_reducible refine Kd.C_drew ?_)));(case side2=>exact HC0.out);rintro e w16 ⟨ul,rfl,ho0,hb⟩; refine ⟨_,rfl,?_⟩; have n0_:=Aside0.mk (Kd.V_lower (Kd.V_mono (ok':=fun k_=>(w.heap.size ≤ k_) ∧ k_ ≠ qb) ho0 (fun k_ hk_=>⟨(Nat.le_trans (below_size z58x0) hk_),(Kd.freshB (g:=qb) (o:=.cells #[.int .i64 qi,.int .i64 qh,.int .i64 qg,.int .i64 qf,.int .i64 qe,.int .i64 qd,.int .i64 qc] 41 (0,0)) z58x4 k_ hk_)⟩)) (below_size z58x0));have n1_:=Aside0.mk (blk_below (g:=qb) (o:=.cells #[.int .i64 qi,.int .i64 qh,.int .i64 qg,.int .i64 qf,.int .i64 qe,.int .i64 qd,.int .i64 qc] 41 (0,0)) z58x4 hb);have n2_:=Aside0.mk (below_step z58x0 hb);clear qa;clear HB;have qr:=n0_;have qa:=n1_;have HB:=n2_;clear n0_ n1_ n2_;(try clear hb);(try clear hb2);(try clear hk);(try clear hi);(try clear ho0)))
 go_ret2
 exact ⟨_,by first|rfl|(simp [errW_none,errW_some] <;> rfl)|(simp [*,errW_none,errW_some] <;> rfl),by (with_reducible repeat (first|apply Kd.V_alloc|apply Kd.V_drewN|apply Kd.V_drew));exact Kd.V_mono qr.out (fun _ hk=>hk.1),by repeat (first|(with_reducible first|exact HB.out|apply below_alloc|apply pw_below_drewN|apply below_drew1|refine below_set ?_ qk.out)|exact HB.out)⟩

end Go.Proofs.Ytgekmdfcbcacdaa.Hp
