-- hp.py
import Derived.Test.YtbipicjijbnbbaaHx0
import Derived.Test.YtbipicjijbnbbaaHx11
import Derived.Test.YtbipicjijbnbbaaHx31
namespace Go.Proofs.Ytbipicjijbnbbaa.Hp
open Go.RowKit Go.Proofs.YtbipicjijbnbbaaW.PrintWords Go.Proofs.YtbipicjijbnbbaaW.PrintLast Go.Proofs.YtbipicjijbnbbaaW.PrintMore
attribute [local go_sem] max2_int min2_int max_two min_two max_three min_three max_four min_four   -- for this text's walks alone
set_option linter.unusedVariables false
set_option linter.unusedSimpArgs false
-- squeezed by wip/tools/squeeze.py
theorem z32x0 {P : Prop} (h : P:=by rw [hg];exact (below_size (by repeat (first|(with_reducible first|exact HB.out|apply below_alloc|apply pw_below_drewN|apply below_drew1)|exact HB.out)))) : P:=h

/-! ### impl_KdcOk: function 107 -/
def impl_KdcOk.f (k : Nat) (qd : Int) (qc : List (S41)) : Option (Bool):=(impl_within.f qd 10 61).bind fun qi=>(if qi = true then ((impl_cacheOk.f k qc).bind fun qe=>(some qe)) else (some false))
theorem impl_KdcOk.mono : ∀ a0 a1 k,LeO (impl_KdcOk.f k a0 a1) (impl_KdcOk.f (k + 1) a0 a1):=by
 intro a0 a1 k
 unfold impl_KdcOk.f
 repeat' first
   | (with_reducible exact impl_cacheOk.mono _ _)
   | (with_reducible exact LeO.refl _)
   | (with_reducible exact LeO.none _)
   | (with_reducible refine LeO.ite ?_ ?_)
   | (with_reducible refine LeO.bind ?_ (fun _=>?_))
   | exact impl_cacheOk.mono _ _
   | exact LeO.none _
   | refine LeO.ite ?_ ?_
   | refine LeO.bind ?_ (fun _=>?_)
set_option maxHeartbeats 8000000 in
set_option maxRecDepth 100000 in
theorem impl_KdcOk.calls (k : Nat) (qd : Int) (qh : Option Addr) (qg : Nat) (qc : List (S41)) (r : Bool) (w : World) (qj : Kd.C k41 w qh qc.length qc) (qk : qc.length ≤ qg) (h : impl_KdcOk.f k qd qc = some r) :
  Calls Try.prog 107 #[.agg #[.int .i64 qd,.slice qh qc.length qg]] w fun e w' => e = .returned (.bool r) ∧ Below w.heap.size w w':=by
 have qx:=Try.underlying64
 have ql:=Aside0.mk qj
 have qm:=Aside0.mk qk
 clear qj qk
 have HB:=Aside0.mk (Below.refl w.heap.size w)
 have H : ((impl_within.f qd 10 61).bind fun qi=>(if qi = true then ((impl_cacheOk.f k qc).bind fun qe=>(some qe)) else (some false))) = some r:=h
 clear h
 replace H:=Option.bind_eq_some_iff.mp H
 obtain ⟨qi,A20,H⟩:=H
 replace H : (if qi = true then ((impl_cacheOk.f k qc).bind fun qe=>(some qe)) else (some false)) = some r:=H
 have A2:=Aside0.mk A20
 clear A20
 by_cases c3 : qi = true
 rotate_left
 ·replace c3:=Bool.eq_false_iff.mpr c3
  subst c3
  rw [if_neg (show ¬ (false = true) by decide)] at H
  obtain rfl:=Option.some.inj H
  go_enter Try.func107,Try.ntmps107
  go_wp2_with (first|((with_reducible refine gate_dst (N:=1) rfl ?_);refine box_event ?hg (N:=1) ?hd (cs:=#[.int .i64 qd,.slice qh qc.length qg]) (t:=64) ?hr ?_;(case hd=>rfl);(case hg=>rfl);(case hr=>first|(go_simp;done)|(go_simp;rfl));intro qb hg w8 hbox hb;have n0_:=Aside0.mk (below_step (by repeat (first|(with_reducible first|exact HB.out|apply below_alloc|apply pw_below_drewN|apply below_drew1)|exact HB.out)) hb);have n1_:=Aside0.mk (hbox);have n2_:=Aside0.mk ((z32x0 : w.heap.size ≤ qb));have n3_:=Aside0.mk ((z32x0 : w.heap.size ≤ qb));clear HB;have HB:=n0_;have qa:=n1_;have qn:=n2_;have qf:=n3_;clear n0_ n1_ n2_ n3_;clear hb hbox hg;have qu : w8.cell? ⟨qb,0,none⟩ = some (.int .i64 qd):=(blk_cell qa.out 0).trans rfl;have qt : w8.cell? ⟨qb,1,none⟩ = some (.slice qh qc.length qg):=(blk_cell qa.out 1).trans rfl;have qp:=blk_frozen qa.out 0;have qo:=blk_frozen qa.out 1)|((with_reducible refine gate_callee (f:=72) rfl ?_);refine goesL_ (some 5) rfl rfl Try.func72 (by kernel_rfl) rfl #[.int .i64 qd,.int .i64 10,.int .i64 61] rfl (by (try simp only [List.map_toArray,List.map_cons,List.map_nil]);first|done|rfl|(simp only [List.length_drop,List.length_take];rfl)) ?_;(with_reducible refine (impl_within.calls qd 10 61 false _ A2.out).mono ?_);rintro e w' ⟨rfl,⟨nd,rfl⟩⟩; refine ⟨_,rfl,?_⟩))
  go_ret
  exact ⟨by first|rfl|(simp [errW_none,errW_some] <;> rfl)|(simp [*,errW_none,errW_some] <;> rfl),by repeat (first|(with_reducible first|exact HB.out|apply below_alloc|apply pw_below_drewN|apply below_drew1|refine below_set ?_ qf.out)|exact HB.out)⟩
 subst c3
 rw [if_pos rfl] at H
 replace H:=Option.bind_eq_some_iff.mp H
 obtain ⟨qe,A40,H⟩:=H
 replace H : (some qe) = some r:=H
 have A4:=Aside0.mk A40
 clear A40
 obtain rfl:=Option.some.inj H
 go_enter Try.func107,Try.ntmps107
 go_wp2_with (first|((with_reducible refine gate_dst (N:=1) rfl ?_);refine box_event ?hg (N:=1) ?hd (cs:=#[.int .i64 qd,.slice qh qc.length qg]) (t:=64) ?hr ?_;(case hd=>rfl);(case hg=>rfl);(case hr=>first|(go_simp;done)|(go_simp;rfl));intro qb hg w5 hbox hb;have n0_:=Aside0.mk (below_step (by repeat (first|(with_reducible first|exact HB.out|apply below_alloc|apply pw_below_drewN|apply below_drew1)|exact HB.out)) hb);have n1_:=Aside0.mk (hbox);have n2_:=Aside0.mk ((z32x0 : w.heap.size ≤ qb));have n3_:=Aside0.mk ((z32x0 : w.heap.size ≤ qb));clear HB;have HB:=n0_;have qa:=n1_;have qn:=n2_;have qf:=n3_;clear n0_ n1_ n2_ n3_;clear hb hbox hg;have qw : w5.cell? ⟨qb,0,none⟩ = some (.int .i64 qd):=(blk_cell qa.out 0).trans rfl;have qv : w5.cell? ⟨qb,1,none⟩ = some (.slice qh qc.length qg):=(blk_cell qa.out 1).trans rfl;have qr:=blk_frozen qa.out 0;have qq:=blk_frozen qa.out 1)|((with_reducible refine gate_callee (f:=72) rfl ?_);refine goesL_ (some 5) rfl rfl Try.func72 (by kernel_rfl) rfl #[.int .i64 qd,.int .i64 10,.int .i64 61] rfl (by (try simp only [List.map_toArray,List.map_cons,List.map_nil]);first|done|rfl|(simp only [List.length_drop,List.length_take];rfl)) ?_;(with_reducible refine (impl_within.calls qd 10 61 true _ A2.out).mono ?_);rintro e w' ⟨rfl,⟨nd,rfl⟩⟩; refine ⟨_,rfl,?_⟩)|(go_at_call 95;(with_reducible refine (impl_cacheOk.calls k _ _ qc qe _ ?side1 ?side2 A4.out).mono ?_);(case side1=>repeat (first|exact (Kd.C_below ql.out (by repeat (first|(with_reducible first|exact HB.out|apply below_alloc|apply pw_below_drewN|apply below_drew1|refine below_set ?_ qf.out)|exact HB.out)))|(with_reducible refine Kd.C_alloc ?_ _)|(with_reducible refine Kd.C_drewN ?_ _)|(with_reducible refine Kd.C_drew ?_)));(case side2=>exact qm.out);rintro e w7 ⟨rfl,hb⟩; have n0_:=Aside0.mk (blk_below (g:=qb) (o:=.cells #[.int .i64 qd,.slice qh qc.length qg] 64 (0,0)) (by (with_reducible repeat (first|refine blk_drewN ?_ _|refine blk_drew ?_|refine blk_alloc ?_ _));exact qa.out) hb);have n1_:=Aside0.mk (below_step (by repeat (first|(with_reducible first|exact HB.out|apply below_alloc|apply pw_below_drewN|apply below_drew1|refine below_set ?_ qf.out)|exact HB.out)) hb);clear qa;clear HB;have qa:=n0_;have HB:=n1_;clear n0_ n1_;(try clear hb);(try clear hb2);(try clear hk);(try clear hi)))
 go_ret
 exact ⟨by first|rfl|(simp [errW_none,errW_some] <;> rfl)|(simp [*,errW_none,errW_some] <;> rfl),by repeat (first|(with_reducible first|exact HB.out|apply below_alloc|apply pw_below_drewN|apply below_drew1|refine below_set ?_ qf.out)|exact HB.out)⟩

end Go.Proofs.Ytbipicjijbnbbaa.Hp
