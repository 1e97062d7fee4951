-- hp.py
import Derived.Test.YtbipicjijbnbbaaHx0
import Derived.Test.YtbipicjijbnbbaaHx29
namespace Go.Proofs.Ytbipicjijbnbbaa.Hp
open Go.RowKit Go.Proofs.YtbipicjijbnbbaaW.PrintWords Go.Proofs.YtbipicjijbnbbaaW.PrintLast Go.Proofs.YtbipicjijbnbbaaW.PrintMore
attribute [local go_sem] max2_int min2_int max_two min_two max_three min_three max_four min_four   -- for this text's walks alone
set_option linter.unusedVariables false
set_option linter.unusedSimpArgs false
-- squeezed by wip/tools/squeeze.py
theorem z30x0 {P : Prop} (h : P:=by repeat (first|(with_reducible first|exact HB.out|apply below_alloc|apply pw_below_drewN|apply below_drew1)|exact HB.out)) : P:=h

/-! ### impl_Seal_146: function 146 -/
def impl_Seal_146.f (k : Nat) (l0 : List (S41)) (qi : Int) (qh : Int) (qg : Int) (qf : Int) (qe : Int) (qd : Int) (qc : Int) : Option (Bool):=(impl_Seal_165.f k l0 qi qh qg qf qe qd qc).bind fun qj=>(some (decide (qj ≥ 0)))
theorem impl_Seal_146.mono : ∀ a0 a1 a2 a3 a4 a5 a6 a7 k,LeO (impl_Seal_146.f k a0 a1 a2 a3 a4 a5 a6 a7) (impl_Seal_146.f (k + 1) a0 a1 a2 a3 a4 a5 a6 a7):=by
 intro a0 a1 a2 a3 a4 a5 a6 a7 k
 unfold impl_Seal_146.f
 repeat' first
   | (with_reducible exact impl_Seal_165.mono _ _ _ _ _ _ _ _ _)
   | (with_reducible exact LeO.refl _)
   | (with_reducible exact LeO.none _)
   | (with_reducible refine LeO.ite ?_ ?_)
   | (with_reducible refine LeO.bind ?_ (fun _=>?_))
   | exact impl_Seal_165.mono _ _ _ _ _ _ _ _ _
   | exact LeO.none _
   | refine LeO.ite ?_ ?_
   | refine LeO.bind ?_ (fun _=>?_)
set_option maxHeartbeats 8000000 in
set_option maxRecDepth 100000 in
theorem impl_Seal_146.calls (k : Nat) (A0 : Option Addr) (c0 : Nat) (l0 : List (S41)) (qi : Int) (qh : Int) (qg : Int) (qf : Int) (qe : Int) (qd : Int) (qc : Int) (r : Bool) (w : World) (hr0 : Kd.C k41 w A0 l0.length l0) (hc0 : l0.length ≤ c0) (h : impl_Seal_146.f k l0 qi qh qg qf qe qd qc = some r) :
  Calls Try.prog 146 #[.slice A0 l0.length c0,.agg #[.int .i64 qi,.int .i64 qh,.int .i64 qg,.int .i64 qf,.int .i64 qe,.int .i64 qd,.int .i64 qc]] w fun e w' => e = .returned (.bool r) ∧ Below w.heap.size w w':=by
 have wb:=Try.underlying41
 have HR0:=Aside0.mk hr0
 have HC0:=Aside0.mk hc0
 clear hr0 hc0
 have HB:=Aside0.mk (Below.refl w.heap.size w)
 have H : ((impl_Seal_165.f k l0 qi qh qg qf qe qd qc).bind fun qj=>(some (decide (qj ≥ 0)))) = some r:=h
 clear h
 replace H:=Option.bind_eq_some_iff.mp H
 obtain ⟨qj,A30,H⟩:=H
 replace H : (some (decide (qj ≥ 0))) = some r:=H
 have A3:=Aside0.mk A30
 clear A30
 obtain rfl:=Option.some.inj H
 go_enter Try.func146,Try.ntmps146
 go_wp2_with (first|((with_reducible refine gate_dst (N:=3) rfl ?_);refine box_event ?hg (N:=3) ?hd (cs:=#[.int .i64 qi,.int .i64 qh,.int .i64 qg,.int .i64 qf,.int .i64 qe,.int .i64 qd,.int .i64 qc]) (t:=41) ?hr ?_;(case hd=>rfl);(case hg=>rfl);(case hr=>first|(go_simp;done)|(go_simp;rfl));intro qb hg w4 hbox hb;have n0_:=Aside0.mk (below_step z30x0 hb);have n1_:=Aside0.mk (hbox);have n2_:=Aside0.mk ((by rw [hg];exact (below_size z30x0) : w.heap.size ≤ qb));have n3_:=Aside0.mk ((by rw [hg];exact (below_size z30x0) : w.heap.size ≤ qb));clear HB;have HB:=n0_;have qa:=n1_;have wa:=n2_;have qk:=n3_;clear n0_ n1_ n2_ n3_;clear hb hbox hg;have qz : w4.cell? ⟨qb,0,none⟩ = some (.int .i64 qi):=(blk_cell qa.out 0).trans rfl;have qy : w4.cell? ⟨qb,1,none⟩ = some (.int .i64 qh):=(blk_cell qa.out 1).trans rfl;have qx : w4.cell? ⟨qb,2,none⟩ = some (.int .i64 qg):=(blk_cell qa.out 2).trans rfl;have qw : w4.cell? ⟨qb,3,none⟩ = some (.int .i64 qf):=(blk_cell qa.out 3).trans rfl;have qv : w4.cell? ⟨qb,4,none⟩ = some (.int .i64 qe):=(blk_cell qa.out 4).trans rfl;have qu : w4.cell? ⟨qb,5,none⟩ = some (.int .i64 qd):=(blk_cell qa.out 5).trans rfl;have qt : w4.cell? ⟨qb,6,none⟩ = some (.int .i64 qc):=(blk_cell qa.out 6).trans rfl;have qr:=blk_frozen qa.out 0;have qq:=blk_frozen qa.out 1;have qp:=blk_frozen qa.out 2;have qo:=blk_frozen qa.out 3;have qn:=blk_frozen qa.out 4;have qm:=blk_frozen qa.out 5;have ql:=blk_frozen qa.out 6)|((with_reducible refine gate_callee (f:=165) rfl ?_);refine goesL_ (some 7) rfl rfl Try.func165 (by kernel_rfl) rfl #[.slice A0 l0.length c0,.agg #[.int .i64 qi,.int .i64 qh,.int .i64 qg,.int .i64 qf,.int .i64 qe,.int .i64 qd,.int .i64 qc]] rfl (by (try simp only [List.map_toArray,List.map_cons,List.map_nil]);first|done|rfl|(simp only [List.length_drop,List.length_take];rfl)) ?_;(with_reducible refine (impl_Seal_165.calls k _ _ l0 qi qh qg qf qe qd qc qj _ ?side1 ?side2 A3.out).mono ?_);(case side1=>repeat (first|exact (Kd.C_below HR0.out HB.out)|(with_reducible refine Kd.C_alloc ?_ _)|(with_reducible refine Kd.C_drewN ?_ _)|(with_reducible refine Kd.C_drew ?_)));(case side2=>exact HC0.out);rintro e w6 ⟨rfl,hb⟩; refine ⟨_,rfl,?_⟩; have n0_:=Aside0.mk (blk_below (g:=qb) (o:=.cells #[.int .i64 qi,.int .i64 qh,.int .i64 qg,.int .i64 qf,.int .i64 qe,.int .i64 qd,.int .i64 qc] 41 (0,0)) (by (with_reducible repeat (first|refine blk_drewN ?_ _|refine blk_drew ?_|refine blk_alloc ?_ _));exact qa.out) hb);have n1_:=Aside0.mk (below_step (by repeat (first|(with_reducible first|exact HB.out|apply below_alloc|apply pw_below_drewN|apply below_drew1|refine below_set ?_ qk.out)|exact HB.out)) hb);clear qa;clear HB;have qa:=n0_;have HB:=n1_;clear n0_ n1_;(try clear hb);(try clear hb2);(try clear hk);(try clear hi)))
 go_ret
 exact ⟨by first|rfl|(simp [errW_none,errW_some] <;> rfl)|(simp [*,errW_none,errW_some] <;> rfl),by repeat (first|(with_reducible first|exact HB.out|apply below_alloc|apply pw_below_drewN|apply below_drew1|refine below_set ?_ qk.out)|exact HB.out)⟩

end Go.Proofs.Ytbipicjijbnbbaa.Hp
