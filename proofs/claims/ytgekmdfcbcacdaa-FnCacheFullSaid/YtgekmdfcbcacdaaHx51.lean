-- hp.py
import Derived.Test.YtgekmdfcbcacdaaHx0
import Derived.Test.YtgekmdfcbcacdaaHx20
import Derived.Test.YtgekmdfcbcacdaaHx21
import Derived.Test.YtgekmdfcbcacdaaHx48
import Derived.Test.YtgekmdfcbcacdaaHx50
namespace Go.Proofs.Ytgekmdfcbcacdaa.Hp
open Go.RowKit Go.Proofs.YtgekmdfcbcacdaaW.PrintWords Go.Proofs.YtgekmdfcbcacdaaW.PrintLast Go.Proofs.YtgekmdfcbcacdaaW.PrintMore
attribute [local go_sem] max2_int min2_int max_two min_two max_three min_three max_four min_four   -- for this text's walks alone
set_option linter.unusedVariables false
set_option linter.unusedSimpArgs false
-- squeezed by wip/tools/squeeze.py
theorem z51x4 {P : Prop} (h : P:=by (with_reducible repeat (first|refine blk_drewN ?_ _|refine blk_drew ?_|refine blk_alloc ?_ _));exact qa.out) : P:=h
theorem z51x3 {P : Prop} (h : P:=by repeat (first|(with_reducible first|exact HB.out|apply below_alloc|apply pw_below_drewN|apply below_drew1)|exact HB.out)) : P:=h
theorem z51x2 {P : Prop} (h : P:=by (try simp only [List.map_toArray,List.map_cons,List.map_nil]);first|done|rfl|(simp only [List.length_drop,List.length_take];rfl)) : P:=h
theorem z51x1 {P : Prop} (h : P:=by rw [hg];exact (below_size (by repeat (first|(with_reducible first|exact HB.out|apply below_alloc|apply pw_below_drewN|apply below_drew1)|exact HB.out)))) : P:=h
theorem z51x0 {P : Prop} (h : P:=by repeat (first|(with_reducible first|exact HB.out|apply below_alloc|apply pw_below_drewN|apply below_drew1|refine below_set ?_ qk.out)|exact HB.out)) : P:=h

/-! ### spec_CacheWith: function 40 -/
def spec_CacheWith.f (k : Nat) (l0 : List (S41)) (qi : Int) (qc : Int) (qh : Int) (qg : Int) (qf : Int) (qe : Int) (qd : Int) (a2 : Int) : Option ((List (S41)) × Bool):=(spec_l11Cache.f k l0).bind fun qt=>(if qt = true then (if qc = 3 then ((spec_SealOk.f qi qc qh qg qf qe qd).bind fun qm=>(if qm = true then ((spec_l1Time.f a2).bind fun ql=>(if ql = true then ((spec_l11With.f k l0 qi qc qh qg qf qe qd a2).bind fun qj=>(some (qj.1,qj.2))) else (some ((([] : List (S41))),false)))) else (some ((([] : List (S41))),false)))) else (some ((([] : List (S41))),false))) else (some ((([] : List (S41))),false)))
theorem spec_CacheWith.mono : ∀ a0 a1 a2 a3 a4 a5 a6 a7 a8 k,LeO (spec_CacheWith.f k a0 a1 a2 a3 a4 a5 a6 a7 a8) (spec_CacheWith.f (k + 1) a0 a1 a2 a3 a4 a5 a6 a7 a8):=by
 intro a0 a1 a2 a3 a4 a5 a6 a7 a8 k
 unfold spec_CacheWith.f
 repeat' first
   | (with_reducible exact spec_l11Cache.mono _ _)
   | (with_reducible exact spec_l11With.mono _ _ _ _ _ _ _ _ _ _)
   | (with_reducible exact LeO.refl _)
   | (with_reducible exact LeO.none _)
   | (with_reducible refine LeO.ite ?_ ?_)
   | (with_reducible refine LeO.bind ?_ (fun _=>?_))
   | exact spec_l11Cache.mono _ _
   | exact spec_l11With.mono _ _ _ _ _ _ _ _ _ _
   | exact LeO.none _
   | refine LeO.ite ?_ ?_
   | refine LeO.bind ?_ (fun _=>?_)
set_option maxHeartbeats 8000000 in
set_option maxRecDepth 100000 in
theorem spec_CacheWith.calls (k : Nat) (A0 : Option Addr) (c0 : Nat) (l0 : List (S41)) (qi : Int) (qc : Int) (qh : Int) (qg : Int) (qf : Int) (qe : Int) (qd : Int) (a2 : Int) (r1 : List (S41)) (r2 : Bool) (w : World) (hr0 : Kd.C k41 w A0 l0.length l0) (hc0 : l0.length ≤ c0) (h : spec_CacheWith.f k l0 qi qc qh qg qf qe qd a2 = some (r1,r2)) :
  Calls Try.prog 40 #[.slice A0 l0.length c0,.agg #[.int .i64 qi,.int .i64 qc,.int .i64 qh,.int .i64 qg,.int .i64 qf,.int .i64 qe,.int .i64 qd],.int .i64 a2] w fun e w' => ∃ v0_ : Value,e = .returned (.tuple #[v0_,.bool r2]) ∧ Kd.R k41 41 w' w.heap.size (fun _=>True) v0_ r1 ∧ Below w.heap.size w w':=by
 have gb:=Try.underlying41
 have HR0:=Aside0.mk hr0
 have HC0:=Aside0.mk hc0
 clear hr0 hc0
 have HB:=Aside0.mk (Below.refl w.heap.size w)
 have H : ((spec_l11Cache.f k l0).bind fun qt=>(if qt = true then (if qc = 3 then ((spec_SealOk.f qi qc qh qg qf qe qd).bind fun qm=>(if qm = true then ((spec_l1Time.f a2).bind fun ql=>(if ql = true then ((spec_l11With.f k l0 qi qc qh qg qf qe qd a2).bind fun qj=>(some (qj.1,qj.2))) else (some ((([] : List (S41))),false)))) else (some ((([] : List (S41))),false)))) else (some ((([] : List (S41))),false))) else (some ((([] : List (S41))),false)))) = some (r1,r2):=h
 clear h
 replace H:=Option.bind_eq_some_iff.mp H
 obtain ⟨qt,A40,H⟩:=H
 replace H : (if qt = true then (if qc = 3 then ((spec_SealOk.f qi qc qh qg qf qe qd).bind fun qm=>(if qm = true then ((spec_l1Time.f a2).bind fun ql=>(if ql = true then ((spec_l11With.f k l0 qi qc qh qg qf qe qd a2).bind fun qj=>(some (qj.1,qj.2))) else (some ((([] : List (S41))),false)))) else (some ((([] : List (S41))),false)))) else (some ((([] : List (S41))),false))) else (some ((([] : List (S41))),false))) = some (r1,r2):=H
 have A4:=Aside0.mk A40
 clear A40
 by_cases c5 : qt = true
 rotate_left
 ·replace c5:=Bool.eq_false_iff.mpr c5
  subst c5
  rw [if_neg (show ¬ (false = true) by decide)] at H
  obtain ⟨jq,qn⟩ : ∃ y_ : List (S41),y_ = (([] : List (S41))):=⟨_,rfl⟩
  replace H : (some (jq,false)) = some (r1,r2):=by first|(rw [qn];with_reducible exact H)|(have H2_:=(Option.bind_some _ _).symm.trans H;rw [qn];with_reducible exact H2_)|(have H2_:=(Option.bind_some _ _).symm.trans H;with_reducible exact H2_)|with_reducible exact H|(rw [qn];exact H)|exact H
  have qy:=Aside0.mk qn
  clear qn
  simp only [Option.some.injEq,Prod.mk.injEq] at H
  obtain ⟨rfl,rfl⟩:=H
  go_enter Try.func40,Try.ntmps40
  go_wp2_with (first|((with_reducible refine gate_dst (N:=4) rfl ?_);refine box_event ?hg (N:=4) ?hd (cs:=#[.int .i64 qi,.int .i64 qc,.int .i64 qh,.int .i64 qg,.int .i64 qf,.int .i64 qe,.int .i64 qd]) (t:=41) ?hr ?_;(case hd=>rfl);(case hg=>rfl);(case hr=>first|(go_simp;done)|(go_simp;rfl));intro qb hg w35 hbox hb;have n0_:=Aside0.mk (below_step z51x3 hb);have n1_:=Aside0.mk (hbox);have n2_:=Aside0.mk ((z51x1 : w.heap.size ≤ qb));have n3_:=Aside0.mk ((z51x1 : w.heap.size ≤ qb));clear HB;have HB:=n0_;have qa:=n1_;have qr:=n2_;have qk:=n3_;clear n0_ n1_ n2_ n3_;clear hb hbox hg)|((with_reducible refine gate_callee (f:=101) rfl ?_);refine goesL_ (some 9) rfl rfl Try.func101 (by kernel_rfl) rfl #[.slice A0 l0.length c0] rfl z51x2 ?_;(with_reducible refine (spec_l11Cache.calls k _ _ l0 false _ ?side1 ?side2 A4.out).mono ?_);(case side1=>repeat (first|exact (Kd.C_below HR0.out HB.out)|(with_reducible refine Kd.C_alloc ?_ _)|(with_reducible refine Kd.C_drewN ?_ _)|(with_reducible refine Kd.C_drew ?_)));(case side2=>exact HC0.out);rintro e w36 ⟨rfl,hb⟩; refine ⟨_,rfl,?_⟩; have n0_:=Aside0.mk (blk_below (g:=qb) (o:=.cells #[.int .i64 qi,.int .i64 qc,.int .i64 qh,.int .i64 qg,.int .i64 qf,.int .i64 qe,.int .i64 qd] 41 (0,0)) z51x4 hb);have n1_:=Aside0.mk (below_step z51x0 hb);clear qa;clear HB;have qa:=n0_;have HB:=n1_;clear n0_ n1_;(try clear hb);(try clear hb2);(try clear hk);(try clear hi))|((with_reducible refine gate_dst (N:=26) rfl ?_);refine Kd.R_lit k41 _ 41 ?hg (N:=26) ?hd (xs:=([] : List (S41))) (inner:=[]) (ok:=fun _=>True) (okp:=fun _=>True) ?hr ?hp (fun _ hk=>hk) trivial (Below.refl _ _) (Nat.le_refl _) (by simp) ?_;(case hd=>rfl);(case hg=>rfl);(case hr=>first|(go_simp;done)|(go_simp;rfl));(case hp=>exact (Reps.none _ _));intro jw w37 qu hb hg_ hnew_;clear hg_ hnew_;(first|rw [← qy.out] at qu|(simp only [Int.reduceToNat] at qu;rw [← qy.out] at qu));have n0_:=Aside0.mk (Kd.R_lower (Kd.R_newB qu (g:=qb) (o:=.cells #[.int .i64 qi,.int .i64 qc,.int .i64 qh,.int .i64 qg,.int .i64 qf,.int .i64 qe,.int .i64 qd] 41 (0,0)) z51x4) (below_size z51x0));have n1_:=Aside0.mk (blk_below (g:=qb) (o:=.cells #[.int .i64 qi,.int .i64 qc,.int .i64 qh,.int .i64 qg,.int .i64 qf,.int .i64 qe,.int .i64 qd] 41 (0,0)) z51x4 hb);have n2_:=Aside0.mk (below_step z51x0 hb);clear qa;clear HB;have we:=n0_;have qa:=n1_;have HB:=n2_;clear n0_ n1_ n2_;clear hb qu))
  go_ret2
  exact ⟨_,by first|rfl|(simp [errW_none,errW_some] <;> rfl)|(simp [*,errW_none,errW_some] <;> rfl),by (with_reducible repeat (first|apply Kd.R_alloc|apply Kd.R_drewN|apply Kd.R_drew));exact Kd.R_mono we.out (fun _ hk=>trivial),by repeat (first|(with_reducible first|exact HB.out|apply below_alloc|apply pw_below_drewN|apply below_drew1|refine below_set ?_ qk.out)|exact HB.out)⟩
 subst c5
 rw [if_pos rfl] at H
 by_cases c6 : qc = 3
 rotate_left
 ·rw [if_neg c6] at H
  have jv : (qc == 3) = false:=beq_eq_false_iff_ne.mpr c6
  have ju : (qc != 3) = true:=bne_iff_ne.mpr c6
  obtain ⟨jr,qo⟩ : ∃ y_ : List (S41),y_ = (([] : List (S41))):=⟨_,rfl⟩
  replace H : (some (jr,false)) = some (r1,r2):=by first|(rw [qo];with_reducible exact H)|(have H2_:=(Option.bind_some _ _).symm.trans H;rw [qo];with_reducible exact H2_)|(have H2_:=(Option.bind_some _ _).symm.trans H;with_reducible exact H2_)|with_reducible exact H|(rw [qo];exact H)|exact H
  have qz:=Aside0.mk qo
  clear qo
  simp only [Option.some.injEq,Prod.mk.injEq] at H
  obtain ⟨rfl,rfl⟩:=H
  go_enter Try.func40,Try.ntmps40
  go_wp2_with (first|((with_reducible refine gate_dst (N:=4) rfl ?_);refine box_event ?hg (N:=4) ?hd (cs:=#[.int .i64 qi,.int .i64 qc,.int .i64 qh,.int .i64 qg,.int .i64 qf,.int .i64 qe,.int .i64 qd]) (t:=41) ?hr ?_;(case hd=>rfl);(case hg=>rfl);(case hr=>first|(go_simp;done)|(go_simp;rfl));intro qb hg w30 hbox hb;have n0_:=Aside0.mk (below_step z51x3 hb);have n1_:=Aside0.mk (hbox);have n2_:=Aside0.mk ((z51x1 : w.heap.size ≤ qb));have n3_:=Aside0.mk ((z51x1 : w.heap.size ≤ qb));clear HB;have HB:=n0_;have qa:=n1_;have qr:=n2_;have qk:=n3_;clear n0_ n1_ n2_ n3_;clear hb hbox hg)|((with_reducible refine gate_callee (f:=101) rfl ?_);refine goesL_ (some 9) rfl rfl Try.func101 (by kernel_rfl) rfl #[.slice A0 l0.length c0] rfl z51x2 ?_;(with_reducible refine (spec_l11Cache.calls k _ _ l0 true _ ?side1 ?side2 A4.out).mono ?_);(case side1=>repeat (first|exact (Kd.C_below HR0.out HB.out)|(with_reducible refine Kd.C_alloc ?_ _)|(with_reducible refine Kd.C_drewN ?_ _)|(with_reducible refine Kd.C_drew ?_)));(case side2=>exact HC0.out);rintro e w31 ⟨rfl,hb⟩; refine ⟨_,rfl,?_⟩; have n0_:=Aside0.mk (blk_below (g:=qb) (o:=.cells #[.int .i64 qi,.int .i64 qc,.int .i64 qh,.int .i64 qg,.int .i64 qf,.int .i64 qe,.int .i64 qd] 41 (0,0)) z51x4 hb);have n1_:=Aside0.mk (below_step z51x0 hb);clear qa;clear HB;have qa:=n0_;have HB:=n1_;clear n0_ n1_;(try clear hb);(try clear hb2);(try clear hk);(try clear hi);have um : w31.cell? ⟨qb,0,none⟩ = some (.int .i64 qi):=(blk_cell qa.out 0).trans rfl;have ul : w31.cell? ⟨qb,1,none⟩ = some (.int .i64 qc):=(blk_cell qa.out 1).trans rfl;have uk : w31.cell? ⟨qb,2,none⟩ = some (.int .i64 qh):=(blk_cell qa.out 2).trans rfl;have uj : w31.cell? ⟨qb,3,none⟩ = some (.int .i64 qg):=(blk_cell qa.out 3).trans rfl;have ui : w31.cell? ⟨qb,4,none⟩ = some (.int .i64 qf):=(blk_cell qa.out 4).trans rfl;have uh : w31.cell? ⟨qb,5,none⟩ = some (.int .i64 qe):=(blk_cell qa.out 5).trans rfl;have ug : w31.cell? ⟨qb,6,none⟩ = some (.int .i64 qd):=(blk_cell qa.out 6).trans rfl;have ws:=blk_frozen qa.out 0;have wr:=blk_frozen qa.out 1;have wq:=blk_frozen qa.out 2;have wo:=blk_frozen qa.out 3;have wn:=blk_frozen qa.out 4;have wm:=blk_frozen qa.out 5;have wl:=blk_frozen qa.out 6)|((with_reducible refine gate_dst (N:=26) rfl ?_);refine Kd.R_lit k41 _ 41 ?hg (N:=26) ?hd (xs:=([] : List (S41))) (inner:=[]) (ok:=fun _=>True) (okp:=fun _=>True) ?hr ?hp (fun _ hk=>hk) trivial (Below.refl _ _) (Nat.le_refl _) (by simp) ?_;(case hd=>rfl);(case hg=>rfl);(case hr=>first|(go_simp;done)|(go_simp;rfl));(case hp=>exact (Reps.none _ _));intro jx w33 qv hb hg_ hnew_;clear hg_ hnew_;(first|rw [← qz.out] at qv|(simp only [Int.reduceToNat] at qv;rw [← qz.out] at qv));have n0_:=Aside0.mk (Kd.R_lower (Kd.R_newB qv (g:=qb) (o:=.cells #[.int .i64 qi,.int .i64 qc,.int .i64 qh,.int .i64 qg,.int .i64 qf,.int .i64 qe,.int .i64 qd] 41 (0,0)) z51x4) (below_size z51x0));have n1_:=Aside0.mk (blk_below (g:=qb) (o:=.cells #[.int .i64 qi,.int .i64 qc,.int .i64 qh,.int .i64 qg,.int .i64 qf,.int .i64 qe,.int .i64 qd] 41 (0,0)) z51x4 hb);have n2_:=Aside0.mk (below_step z51x0 hb);clear qa;clear HB;have wg:=n0_;have qa:=n1_;have HB:=n2_;clear n0_ n1_ n2_;clear hb qv))
  go_ret2
  exact ⟨_,by first|rfl|(simp [errW_none,errW_some] <;> rfl)|(simp [*,errW_none,errW_some] <;> rfl),by (with_reducible repeat (first|apply Kd.R_alloc|apply Kd.R_drewN|apply Kd.R_drew));exact Kd.R_mono wg.out (fun _ hk=>trivial),by repeat (first|(with_reducible first|exact HB.out|apply below_alloc|apply pw_below_drewN|apply below_drew1|refine below_set ?_ qk.out)|exact HB.out)⟩
 rw [if_pos c6] at H
 have jv : (qc == 3) = true:=beq_iff_eq.mpr c6
 have ju : (qc != 3) = false:=bne_eq_false_iff_eq.mpr c6
 clear c6
 replace H:=Option.bind_eq_some_iff.mp H
 obtain ⟨qm,A70,H⟩:=H
 replace H : (if qm = true then ((spec_l1Time.f a2).bind fun ql=>(if ql = true then ((spec_l11With.f k l0 qi qc qh qg qf qe qd a2).bind fun qj=>(some (qj.1,qj.2))) else (some ((([] : List (S41))),false)))) else (some ((([] : List (S41))),false))) = some (r1,r2):=H
 have A7:=Aside0.mk A70
 clear A70
 by_cases c8 : qm = true
 rotate_left
 ·replace c8:=Bool.eq_false_iff.mpr c8
  subst c8
  rw [if_neg (show ¬ (false = true) by decide)] at H
  obtain ⟨js,qp⟩ : ∃ y_ : List (S41),y_ = (([] : List (S41))):=⟨_,rfl⟩
  replace H : (some (js,false)) = some (r1,r2):=by first|(rw [qp];with_reducible exact H)|(have H2_:=(Option.bind_some _ _).symm.trans H;rw [qp];with_reducible exact H2_)|(have H2_:=(Option.bind_some _ _).symm.trans H;with_reducible exact H2_)|with_reducible exact H|(rw [qp];exact H)|exact H
  have wa:=Aside0.mk qp
  clear qp
  simp only [Option.some.injEq,Prod.mk.injEq] at H
  obtain ⟨rfl,rfl⟩:=H
  go_enter Try.func40,Try.ntmps40
  go_wp2_with (first|((with_reducible refine gate_dst (N:=4) rfl ?_);refine box_event ?hg (N:=4) ?hd (cs:=#[.int .i64 qi,.int .i64 qc,.int .i64 qh,.int .i64 qg,.int .i64 qf,.int .i64 qe,.int .i64 qd]) (t:=41) ?hr ?_;(case hd=>rfl);(case hg=>rfl);(case hr=>first|(go_simp;done)|(go_simp;rfl));intro qb hg w24 hbox hb;have n0_:=Aside0.mk (below_step z51x3 hb);have n1_:=Aside0.mk (hbox);have n2_:=Aside0.mk ((z51x1 : w.heap.size ≤ qb));have n3_:=Aside0.mk ((z51x1 : w.heap.size ≤ qb));clear HB;have HB:=n0_;have qa:=n1_;have qr:=n2_;have qk:=n3_;clear n0_ n1_ n2_ n3_;clear hb hbox hg)|((with_reducible refine gate_callee (f:=101) rfl ?_);refine goesL_ (some 9) rfl rfl Try.func101 (by kernel_rfl) rfl #[.slice A0 l0.length c0] rfl z51x2 ?_;(with_reducible refine (spec_l11Cache.calls k _ _ l0 true _ ?side1 ?side2 A4.out).mono ?_);(case side1=>repeat (first|exact (Kd.C_below HR0.out HB.out)|(with_reducible refine Kd.C_alloc ?_ _)|(with_reducible refine Kd.C_drewN ?_ _)|(with_reducible refine Kd.C_drew ?_)));(case side2=>exact HC0.out);rintro e w25 ⟨rfl,hb⟩; refine ⟨_,rfl,?_⟩; have n0_:=Aside0.mk (blk_below (g:=qb) (o:=.cells #[.int .i64 qi,.int .i64 qc,.int .i64 qh,.int .i64 qg,.int .i64 qf,.int .i64 qe,.int .i64 qd] 41 (0,0)) z51x4 hb);have n1_:=Aside0.mk (below_step z51x0 hb);clear qa;clear HB;have qa:=n0_;have HB:=n1_;clear n0_ n1_;(try clear hb);(try clear hb2);(try clear hk);(try clear hi);have uu : w25.cell? ⟨qb,0,none⟩ = some (.int .i64 qi):=(blk_cell qa.out 0).trans rfl;have ut : w25.cell? ⟨qb,1,none⟩ = some (.int .i64 qc):=(blk_cell qa.out 1).trans rfl;have us : w25.cell? ⟨qb,2,none⟩ = some (.int .i64 qh):=(blk_cell qa.out 2).trans rfl;have ur : w25.cell? ⟨qb,3,none⟩ = some (.int .i64 qg):=(blk_cell qa.out 3).trans rfl;have uq : w25.cell? ⟨qb,4,none⟩ = some (.int .i64 qf):=(blk_cell qa.out 4).trans rfl;have uo : w25.cell? ⟨qb,5,none⟩ = some (.int .i64 qe):=(blk_cell qa.out 5).trans rfl;have un : w25.cell? ⟨qb,6,none⟩ = some (.int .i64 qd):=(blk_cell qa.out 6).trans rfl;have wz:=blk_frozen qa.out 0;have wy:=blk_frozen qa.out 1;have wx:=blk_frozen qa.out 2;have ww:=blk_frozen qa.out 3;have wv:=blk_frozen qa.out 4;have wu:=blk_frozen qa.out 5;have wt:=blk_frozen qa.out 6)|(go_at_call 102;(with_reducible refine (spec_SealOk.calls qi qc qh qg qf qe qd false _ A7.out).mono ?_);rintro e w27 ⟨rfl,hb⟩; have n0_:=Aside0.mk (blk_below (g:=qb) (o:=.cells #[.int .i64 qi,.int .i64 qc,.int .i64 qh,.int .i64 qg,.int .i64 qf,.int .i64 qe,.int .i64 qd] 41 (0,0)) z51x4 hb);have n1_:=Aside0.mk (below_step z51x0 hb);clear qa;clear HB;have qa:=n0_;have HB:=n1_;clear n0_ n1_;(try clear hb);(try clear hb2);(try clear hk);(try clear hi))|((with_reducible refine gate_dst (N:=26) rfl ?_);refine Kd.R_lit k41 _ 41 ?hg (N:=26) ?hd (xs:=([] : List (S41))) (inner:=[]) (ok:=fun _=>True) (okp:=fun _=>True) ?hr ?hp (fun _ hk=>hk) trivial (Below.refl _ _) (Nat.le_refl _) (by simp) ?_;(case hd=>rfl);(case hg=>rfl);(case hr=>first|(go_simp;done)|(go_simp;rfl));(case hp=>exact (Reps.none _ _));intro jy w28 qw hb hg_ hnew_;clear hg_ hnew_;(first|rw [← wa.out] at qw|(simp only [Int.reduceToNat] at qw;rw [← wa.out] at qw));have n0_:=Aside0.mk (Kd.R_lower (Kd.R_newB qw (g:=qb) (o:=.cells #[.int .i64 qi,.int .i64 qc,.int .i64 qh,.int .i64 qg,.int .i64 qf,.int .i64 qe,.int .i64 qd] 41 (0,0)) z51x4) (below_size z51x0));have n1_:=Aside0.mk (blk_below (g:=qb) (o:=.cells #[.int .i64 qi,.int .i64 qc,.int .i64 qh,.int .i64 qg,.int .i64 qf,.int .i64 qe,.int .i64 qd] 41 (0,0)) z51x4 hb);have n2_:=Aside0.mk (below_step z51x0 hb);clear qa;clear HB;have wh:=n0_;have qa:=n1_;have HB:=n2_;clear n0_ n1_ n2_;clear hb qw))
  go_ret2
  exact ⟨_,by first|rfl|(simp [errW_none,errW_some] <;> rfl)|(simp [*,errW_none,errW_some] <;> rfl),by (with_reducible repeat (first|apply Kd.R_alloc|apply Kd.R_drewN|apply Kd.R_drew));exact Kd.R_mono wh.out (fun _ hk=>trivial),by repeat (first|(with_reducible first|exact HB.out|apply below_alloc|apply pw_below_drewN|apply below_drew1|refine below_set ?_ qk.out)|exact HB.out)⟩
 subst c8
 rw [if_pos rfl] at H
 replace H:=Option.bind_eq_some_iff.mp H
 obtain ⟨ql,A90,H⟩:=H
 replace H : (if ql = true then ((spec_l11With.f k l0 qi qc qh qg qf qe qd a2).bind fun qj=>(some (qj.1,qj.2))) else (some ((([] : List (S41))),false))) = some (r1,r2):=H
 have A9:=Aside0.mk A90
 clear A90
 by_cases c10 : ql = true
 ·subst c10
  rw [if_pos rfl] at H
  replace H:=Option.bind_eq_some_iff.mp H
  obtain ⟨⟨wd,wc⟩,wk,H⟩:=H
  replace H : (some (wd,wc)) = some (r1,r2):=H
  have A11:=Aside0.mk wk
  clear wk
  simp only [Option.some.injEq,Prod.mk.injEq] at H
  obtain ⟨rfl,rfl⟩:=H
  go_enter Try.func40,Try.ntmps40
  go_wp2_with (first|((with_reducible refine gate_dst (N:=4) rfl ?_);refine box_event ?hg (N:=4) ?hd (cs:=#[.int .i64 qi,.int .i64 qc,.int .i64 qh,.int .i64 qg,.int .i64 qf,.int .i64 qe,.int .i64 qd]) (t:=41) ?hr ?_;(case hd=>rfl);(case hg=>rfl);(case hr=>first|(go_simp;done)|(go_simp;rfl));intro qb hg w12 hbox hb;have n0_:=Aside0.mk (below_step z51x3 hb);have n1_:=Aside0.mk (hbox);have n2_:=Aside0.mk ((z51x1 : w.heap.size ≤ qb));have n3_:=Aside0.mk ((z51x1 : w.heap.size ≤ qb));clear HB;have HB:=n0_;have qa:=n1_;have qr:=n2_;have qk:=n3_;clear n0_ n1_ n2_ n3_;clear hb hbox hg)|((with_reducible refine gate_callee (f:=101) rfl ?_);refine goesL_ (some 9) rfl rfl Try.func101 (by kernel_rfl) rfl #[.slice A0 l0.length c0] rfl z51x2 ?_;(with_reducible refine (spec_l11Cache.calls k _ _ l0 true _ ?side1 ?side2 A4.out).mono ?_);(case side1=>repeat (first|exact (Kd.C_below HR0.out HB.out)|(with_reducible refine Kd.C_alloc ?_ _)|(with_reducible refine Kd.C_drewN ?_ _)|(with_reducible refine Kd.C_drew ?_)));(case side2=>exact HC0.out);rintro e w13 ⟨rfl,hb⟩; refine ⟨_,rfl,?_⟩; have n0_:=Aside0.mk (blk_below (g:=qb) (o:=.cells #[.int .i64 qi,.int .i64 qc,.int .i64 qh,.int .i64 qg,.int .i64 qf,.int .i64 qe,.int .i64 qd] 41 (0,0)) z51x4 hb);have n1_:=Aside0.mk (below_step z51x0 hb);clear qa;clear HB;have qa:=n0_;have HB:=n1_;clear n0_ n1_;(try clear hb);(try clear hb2);(try clear hk);(try clear hi);have jp : w13.cell? ⟨qb,0,none⟩ = some (.int .i64 qi):=(blk_cell qa.out 0).trans rfl;have jo : w13.cell? ⟨qb,1,none⟩ = some (.int .i64 qc):=(blk_cell qa.out 1).trans rfl;have jn : w13.cell? ⟨qb,2,none⟩ = some (.int .i64 qh):=(blk_cell qa.out 2).trans rfl;have jm : w13.cell? ⟨qb,3,none⟩ = some (.int .i64 qg):=(blk_cell qa.out 3).trans rfl;have jl : w13.cell? ⟨qb,4,none⟩ = some (.int .i64 qf):=(blk_cell qa.out 4).trans rfl;have jk : w13.cell? ⟨qb,5,none⟩ = some (.int .i64 qe):=(blk_cell qa.out 5).trans rfl;have jj : w13.cell? ⟨qb,6,none⟩ = some (.int .i64 qd):=(blk_cell qa.out 6).trans rfl;have uf:=blk_frozen qa.out 0;have ue:=blk_frozen qa.out 1;have ud:=blk_frozen qa.out 2;have uc:=blk_frozen qa.out 3;have ub:=blk_frozen qa.out 4;have ua:=blk_frozen qa.out 5;have vz:=blk_frozen qa.out 6)|(go_at_call 102;(with_reducible refine (spec_SealOk.calls qi qc qh qg qf qe qd true _ A7.out).mono ?_);rintro e w15 ⟨rfl,hb⟩; have n0_:=Aside0.mk (blk_below (g:=qb) (o:=.cells #[.int .i64 qi,.int .i64 qc,.int .i64 qh,.int .i64 qg,.int .i64 qf,.int .i64 qe,.int .i64 qd] 41 (0,0)) z51x4 hb);have n1_:=Aside0.mk (below_step z51x0 hb);clear qa;clear HB;have qa:=n0_;have HB:=n1_;clear n0_ n1_;(try clear hb);(try clear hb2);(try clear hk);(try clear hi))|(go_at_call 103;(with_reducible refine (spec_l1Time.calls a2 true _ A9.out).mono ?_);rintro e w' ⟨rfl,⟨nd,rfl⟩⟩; have ji : w15.cell? ⟨qb,0,none⟩ = some (.int .i64 qi):=(blk_cell qa.out 0).trans rfl;have jh : w15.cell? ⟨qb,1,none⟩ = some (.int .i64 qc):=(blk_cell qa.out 1).trans rfl;have jg : w15.cell? ⟨qb,2,none⟩ = some (.int .i64 qh):=(blk_cell qa.out 2).trans rfl;have jf : w15.cell? ⟨qb,3,none⟩ = some (.int .i64 qg):=(blk_cell qa.out 3).trans rfl;have je : w15.cell? ⟨qb,4,none⟩ = some (.int .i64 qf):=(blk_cell qa.out 4).trans rfl;have jd : w15.cell? ⟨qb,5,none⟩ = some (.int .i64 qe):=(blk_cell qa.out 5).trans rfl;have jc : w15.cell? ⟨qb,6,none⟩ = some (.int .i64 qd):=(blk_cell qa.out 6).trans rfl;have vy:=blk_frozen qa.out 0;have vx:=blk_frozen qa.out 1;have vw:=blk_frozen qa.out 2;have vv:=blk_frozen qa.out 3;have vu:=blk_frozen qa.out 4;have vt:=blk_frozen qa.out 5;have vr:=blk_frozen qa.out 6)|((with_reducible refine gate_callee (f:=104) rfl ?_);refine goesL_ (some 30) rfl rfl Try.func104 (by kernel_rfl) rfl #[.slice A0 l0.length c0,.agg #[.int .i64 qi,.int .i64 qc,.int .i64 qh,.int .i64 qg,.int .i64 qf,.int .i64 qe,.int .i64 qd],.int .i64 a2] rfl z51x2 ?_;(with_reducible refine (spec_l11With.calls k _ _ l0 qi qc qh qg qf qe qd a2 wd wc _ ?side1 ?side2 A11.out).mono ?_);(case side1=>repeat (first|exact (Kd.C_below HR0.out z51x0)|(with_reducible refine Kd.C_alloc ?_ _)|(with_reducible refine Kd.C_drewN ?_ _)|(with_reducible refine Kd.C_drew ?_)));(case side2=>exact HC0.out);rintro e w17 ⟨ga,rfl,ho0,hb⟩; refine ⟨_,rfl,?_⟩; have n0_:=Aside0.mk (Kd.R_lower (Kd.R_newB ho0 (g:=qb) (o:=.cells #[.int .i64 qi,.int .i64 qc,.int .i64 qh,.int .i64 qg,.int .i64 qf,.int .i64 qe,.int .i64 qd] 41 (0,0)) z51x4) (below_size z51x0));have n1_:=Aside0.mk (blk_below (g:=qb) (o:=.cells #[.int .i64 qi,.int .i64 qc,.int .i64 qh,.int .i64 qg,.int .i64 qf,.int .i64 qe,.int .i64 qd] 41 (0,0)) z51x4 hb);have n2_:=Aside0.mk (below_step z51x0 hb);clear qa;clear HB;have wj:=n0_;have qa:=n1_;have HB:=n2_;clear n0_ n1_ n2_;(try clear hb);(try clear hb2);(try clear hk);(try clear hi);(try clear ho0)))
  go_ret2
  exact ⟨_,by first|rfl|(simp [errW_none,errW_some] <;> rfl)|(simp [*,errW_none,errW_some] <;> rfl),by (with_reducible repeat (first|apply Kd.R_alloc|apply Kd.R_drewN|apply Kd.R_drew));exact Kd.R_mono wj.out (fun _ hk=>trivial),by repeat (first|(with_reducible first|exact HB.out|apply below_alloc|apply pw_below_drewN|apply below_drew1|refine below_set ?_ qk.out)|exact HB.out)⟩
 ·replace c10:=Bool.eq_false_iff.mpr c10
  subst c10
  rw [if_neg (show ¬ (false = true) by decide)] at H
  obtain ⟨jt,qq⟩ : ∃ y_ : List (S41),y_ = (([] : List (S41))):=⟨_,rfl⟩
  replace H : (some (jt,false)) = some (r1,r2):=by first|(rw [qq];with_reducible exact H)|(have H2_:=(Option.bind_some _ _).symm.trans H;rw [qq];with_reducible exact H2_)|(have H2_:=(Option.bind_some _ _).symm.trans H;with_reducible exact H2_)|with_reducible exact H|(rw [qq];exact H)|exact H
  have wb:=Aside0.mk qq
  clear qq
  simp only [Option.some.injEq,Prod.mk.injEq] at H
  obtain ⟨rfl,rfl⟩:=H
  go_enter Try.func40,Try.ntmps40
  go_wp2_with (first|((with_reducible refine gate_dst (N:=4) rfl ?_);refine box_event ?hg (N:=4) ?hd (cs:=#[.int .i64 qi,.int .i64 qc,.int .i64 qh,.int .i64 qg,.int .i64 qf,.int .i64 qe,.int .i64 qd]) (t:=41) ?hr ?_;(case hd=>rfl);(case hg=>rfl);(case hr=>first|(go_simp;done)|(go_simp;rfl));intro qb hg w18 hbox hb;have n0_:=Aside0.mk (below_step z51x3 hb);have n1_:=Aside0.mk (hbox);have n2_:=Aside0.mk ((z51x1 : w.heap.size ≤ qb));have n3_:=Aside0.mk ((z51x1 : w.heap.size ≤ qb));clear HB;have HB:=n0_;have qa:=n1_;have qr:=n2_;have qk:=n3_;clear n0_ n1_ n2_ n3_;clear hb hbox hg)|((with_reducible refine gate_callee (f:=101) rfl ?_);refine goesL_ (some 9) rfl rfl Try.func101 (by kernel_rfl) rfl #[.slice A0 l0.length c0] rfl z51x2 ?_;(with_reducible refine (spec_l11Cache.calls k _ _ l0 true _ ?side1 ?side2 A4.out).mono ?_);(case side1=>repeat (first|exact (Kd.C_below HR0.out HB.out)|(with_reducible refine Kd.C_alloc ?_ _)|(with_reducible refine Kd.C_drewN ?_ _)|(with_reducible refine Kd.C_drew ?_)));(case side2=>exact HC0.out);rintro e w19 ⟨rfl,hb⟩; refine ⟨_,rfl,?_⟩; have n0_:=Aside0.mk (blk_below (g:=qb) (o:=.cells #[.int .i64 qi,.int .i64 qc,.int .i64 qh,.int .i64 qg,.int .i64 qf,.int .i64 qe,.int .i64 qd] 41 (0,0)) z51x4 hb);have n1_:=Aside0.mk (below_step z51x0 hb);clear qa;clear HB;have qa:=n0_;have HB:=n1_;clear n0_ n1_;(try clear hb);(try clear hb2);(try clear hk);(try clear hi);have jb : w19.cell? ⟨qb,0,none⟩ = some (.int .i64 qi):=(blk_cell qa.out 0).trans rfl;have ja : w19.cell? ⟨qb,1,none⟩ = some (.int .i64 qc):=(blk_cell qa.out 1).trans rfl;have uz : w19.cell? ⟨qb,2,none⟩ = some (.int .i64 qh):=(blk_cell qa.out 2).trans rfl;have uy : w19.cell? ⟨qb,3,none⟩ = some (.int .i64 qg):=(blk_cell qa.out 3).trans rfl;have ux : w19.cell? ⟨qb,4,none⟩ = some (.int .i64 qf):=(blk_cell qa.out 4).trans rfl;have uw : w19.cell? ⟨qb,5,none⟩ = some (.int .i64 qe):=(blk_cell qa.out 5).trans rfl;have uv : w19.cell? ⟨qb,6,none⟩ = some (.int .i64 qd):=(blk_cell qa.out 6).trans rfl;have vq:=blk_frozen qa.out 0;have vp:=blk_frozen qa.out 1;have vo:=blk_frozen qa.out 2;have vn:=blk_frozen qa.out 3;have vm:=blk_frozen qa.out 4;have vl:=blk_frozen qa.out 5;have vk:=blk_frozen qa.out 6)|(go_at_call 102;(with_reducible refine (spec_SealOk.calls qi qc qh qg qf qe qd true _ A7.out).mono ?_);rintro e w21 ⟨rfl,hb⟩; have n0_:=Aside0.mk (blk_below (g:=qb) (o:=.cells #[.int .i64 qi,.int .i64 qc,.int .i64 qh,.int .i64 qg,.int .i64 qf,.int .i64 qe,.int .i64 qd] 41 (0,0)) z51x4 hb);have n1_:=Aside0.mk (below_step z51x0 hb);clear qa;clear HB;have qa:=n0_;have HB:=n1_;clear n0_ n1_;(try clear hb);(try clear hb2);(try clear hk);(try clear hi))|(go_at_call 103;(with_reducible refine (spec_l1Time.calls a2 false _ A9.out).mono ?_);rintro e w' ⟨rfl,⟨nd,rfl⟩⟩)|((with_reducible refine gate_dst (N:=26) rfl ?_);refine Kd.R_lit k41 _ 41 ?hg (N:=26) ?hd (xs:=([] : List (S41))) (inner:=[]) (ok:=fun _=>True) (okp:=fun _=>True) ?hr ?hp (fun _ hk=>hk) trivial (Below.refl _ _) (Nat.le_refl _) (by simp) ?_;(case hd=>rfl);(case hg=>rfl);(case hr=>first|(go_simp;done)|(go_simp;rfl));(case hp=>exact (Reps.none _ _));intro jz w22 qx hb hg_ hnew_;clear hg_ hnew_;(first|rw [← wb.out] at qx|(simp only [Int.reduceToNat] at qx;rw [← wb.out] at qx));have n0_:=Aside0.mk (Kd.R_lower (Kd.R_newB qx (g:=qb) (o:=.cells #[.int .i64 qi,.int .i64 qc,.int .i64 qh,.int .i64 qg,.int .i64 qf,.int .i64 qe,.int .i64 qd] 41 (0,0)) z51x4) (below_size z51x0));have n1_:=Aside0.mk (blk_below (g:=qb) (o:=.cells #[.int .i64 qi,.int .i64 qc,.int .i64 qh,.int .i64 qg,.int .i64 qf,.int .i64 qe,.int .i64 qd] 41 (0,0)) z51x4 hb);have n2_:=Aside0.mk (below_step z51x0 hb);clear qa;clear HB;have wi:=n0_;have qa:=n1_;have HB:=n2_;clear n0_ n1_ n2_;clear hb qx))
  go_ret2
  exact ⟨_,by first|rfl|(simp [errW_none,errW_some] <;> rfl)|(simp [*,errW_none,errW_some] <;> rfl),by (with_reducible repeat (first|apply Kd.R_alloc|apply Kd.R_drewN|apply Kd.R_drew));exact Kd.R_mono wi.out (fun _ hk=>trivial),by repeat (first|(with_reducible first|exact HB.out|apply below_alloc|apply pw_below_drewN|apply below_drew1|refine below_set ?_ qk.out)|exact HB.out)⟩

end Go.Proofs.Ytgekmdfcbcacdaa.Hp
