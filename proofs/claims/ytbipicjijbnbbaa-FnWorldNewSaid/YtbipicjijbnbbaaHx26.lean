-- hp.py
import Derived.Test.YtbipicjijbnbbaaHx0
import Derived.Test.YtbipicjijbnbbaaHx25
namespace Go.Proofs.Ytbipicjijbnbbaa.Hp
open Go.RowKit Go.Proofs.YtbipicjijbnbbaaW.PrintWords Go.Proofs.YtbipicjijbnbbaaW.PrintLast Go.Proofs.YtbipicjijbnbbaaW.PrintMore
attribute [local go_sem] max2_int min2_int max_two min_two max_three min_three max_four min_four   -- for this text's walks alone
set_option linter.unusedVariables false
set_option linter.unusedSimpArgs false
-- squeezed by wip/tools/squeeze.py
theorem z26x0 {P : Prop} (h : P:=by repeat (first|(with_reducible first|exact HB.out|apply below_alloc|apply pw_below_drewN|apply below_drew1)|exact HB.out)) : P:=h

/-! ### impl_Call_77: function 77 -/
def impl_Call_77.f (k : Nat) (l0 : List (S113)) (qf : Int) (qe : Int) (qd : Int) (qc : Int) : Option (Bool):=(impl_Call_139.f k l0 qf qe qd qc).bind fun qg=>(some (decide (qg ≥ 0)))
theorem impl_Call_77.mono : ∀ a0 a1 a2 a3 a4 k,LeO (impl_Call_77.f k a0 a1 a2 a3 a4) (impl_Call_77.f (k + 1) a0 a1 a2 a3 a4):=by
 intro a0 a1 a2 a3 a4 k
 unfold impl_Call_77.f
 repeat' first
   | (with_reducible exact impl_Call_139.mono _ _ _ _ _ _)
   | (with_reducible exact LeO.refl _)
   | (with_reducible exact LeO.none _)
   | (with_reducible refine LeO.ite ?_ ?_)
   | (with_reducible refine LeO.bind ?_ (fun _=>?_))
   | exact impl_Call_139.mono _ _ _ _ _ _
   | exact LeO.none _
   | refine LeO.ite ?_ ?_
   | refine LeO.bind ?_ (fun _=>?_)
set_option maxHeartbeats 8000000 in
set_option maxRecDepth 100000 in
theorem impl_Call_77.calls (k : Nat) (A0 : Option Addr) (c0 : Nat) (l0 : List (S113)) (qf : Int) (qe : Int) (qd : Int) (qc : Int) (r : Bool) (w : World) (hr0 : Kd.C k113 w A0 l0.length l0) (hc0 : l0.length ≤ c0) (h : impl_Call_77.f k l0 qf qe qd qc = some r) :
  Calls Try.prog 77 #[.slice A0 l0.length c0,.agg #[.int .i64 qf,.int .i64 qe,.int .i64 qd,.int .i64 qc]] w fun e w' => e = .returned (.bool r) ∧ Below w.heap.size w w':=by
 have qq:=Try.underlying113
 have HR0:=Aside0.mk hr0
 have HC0:=Aside0.mk hc0
 clear hr0 hc0
 have HB:=Aside0.mk (Below.refl w.heap.size w)
 have H : ((impl_Call_139.f k l0 qf qe qd qc).bind fun qg=>(some (decide (qg ≥ 0)))) = some r:=h
 clear h
 replace H:=Option.bind_eq_some_iff.mp H
 obtain ⟨qg,A30,H⟩:=H
 replace H : (some (decide (qg ≥ 0))) = some r:=H
 have A3:=Aside0.mk A30
 clear A30
 obtain rfl:=Option.some.inj H
 go_enter Try.func77,Try.ntmps77
 go_wp2_with (first|((with_reducible refine gate_dst (N:=3) rfl ?_);refine box_event ?hg (N:=3) ?hd (cs:=#[.int .i64 qf,.int .i64 qe,.int .i64 qd,.int .i64 qc]) (t:=113) ?hr ?_;(case hd=>rfl);(case hg=>rfl);(case hr=>first|(go_simp;done)|(go_simp;rfl));intro qb hg w4 hbox hb;have n0_:=Aside0.mk (below_step z26x0 hb);have n1_:=Aside0.mk (hbox);have n2_:=Aside0.mk ((by rw [hg];exact (below_size z26x0) : w.heap.size ≤ qb));have n3_:=Aside0.mk ((by rw [hg];exact (below_size z26x0) : w.heap.size ≤ qb));clear HB;have HB:=n0_;have qa:=n1_;have qr:=n2_;have qh:=n3_;clear n0_ n1_ n2_ n3_;clear hb hbox hg;have qp : w4.cell? ⟨qb,0,none⟩ = some (.int .i64 qf):=(blk_cell qa.out 0).trans rfl;have qo : w4.cell? ⟨qb,1,none⟩ = some (.int .i64 qe):=(blk_cell qa.out 1).trans rfl;have qn : w4.cell? ⟨qb,2,none⟩ = some (.int .i64 qd):=(blk_cell qa.out 2).trans rfl;have qm : w4.cell? ⟨qb,3,none⟩ = some (.int .i64 qc):=(blk_cell qa.out 3).trans rfl;have ql:=blk_frozen qa.out 0;have qk:=blk_frozen qa.out 1;have qj:=blk_frozen qa.out 2;have qi:=blk_frozen qa.out 3)|((with_reducible refine gate_callee (f:=139) rfl ?_);refine goesL_ (some 7) rfl rfl Try.func139 (by kernel_rfl) rfl #[.slice A0 l0.length c0,.agg #[.int .i64 qf,.int .i64 qe,.int .i64 qd,.int .i64 qc]] rfl (by (try simp only [List.map_toArray,List.map_cons,List.map_nil]);first|done|rfl|(simp only [List.length_drop,List.length_take];rfl)) ?_;(with_reducible refine (impl_Call_139.calls k _ _ l0 qf qe qd qc qg _ ?side1 ?side2 A3.out).mono ?_);(case side1=>repeat (first|exact (Kd.C_below HR0.out HB.out)|(with_reducible refine Kd.C_alloc ?_ _)|(with_reducible refine Kd.C_drewN ?_ _)|(with_reducible refine Kd.C_drew ?_)));(case side2=>exact HC0.out);rintro e w6 ⟨rfl,hb⟩; refine ⟨_,rfl,?_⟩; have n0_:=Aside0.mk (blk_below (g:=qb) (o:=.cells #[.int .i64 qf,.int .i64 qe,.int .i64 qd,.int .i64 qc] 113 (0,0)) (by (with_reducible repeat (first|refine blk_drewN ?_ _|refine blk_drew ?_|refine blk_alloc ?_ _));exact qa.out) hb);have n1_:=Aside0.mk (below_step (by repeat (first|(with_reducible first|exact HB.out|apply below_alloc|apply pw_below_drewN|apply below_drew1|refine below_set ?_ qh.out)|exact HB.out)) hb);clear qa;clear HB;have qa:=n0_;have HB:=n1_;clear n0_ n1_;(try clear hb);(try clear hb2);(try clear hk);(try clear hi)))
 go_ret
 exact ⟨by first|rfl|(simp [errW_none,errW_some] <;> rfl)|(simp [*,errW_none,errW_some] <;> rfl),by repeat (first|(with_reducible first|exact HB.out|apply below_alloc|apply pw_below_drewN|apply below_drew1|refine below_set ?_ qh.out)|exact HB.out)⟩

end Go.Proofs.Ytbipicjijbnbbaa.Hp
