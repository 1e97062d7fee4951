-- hp.py
import Derived.Test.YtbipicjijbnbbaaHx0
import Derived.Test.YtbipicjijbnbbaaHx24
import Derived.Test.YtbipicjijbnbbaaHx37
import Derived.Test.YtbipicjijbnbbaaHx38
import Derived.Test.YtbipicjijbnbbaaHx40
namespace Go.Proofs.Ytbipicjijbnbbaa.Hp
open Go.RowKit Go.Proofs.YtbipicjijbnbbaaW.PrintWords Go.Proofs.YtbipicjijbnbbaaW.PrintLast Go.Proofs.YtbipicjijbnbbaaW.PrintMore
attribute [local go_sem] max2_int min2_int max_two min_two max_three min_three max_four min_four   -- for this text's walks alone
set_option linter.unusedVariables false
set_option linter.unusedSimpArgs false
-- squeezed by wip/tools/squeeze.py
theorem z41x0 {P : Prop} (h : P:=by repeat (first|(with_reducible first|exact HB.out|apply below_alloc|apply pw_below_drewN|apply below_drew1)|exact HB.out)) : P:=h

/-! ### impl_WorldSeals: function 46 -/
theorem blkW {w w1 : World} {g : Nat} {o : Obj} (hb : Below w.heap.size w w1) (h : w.heap[g]? = some o) : w1.heap[g]? = some o:=(hb.block g (blk_lt h)).trans h
/-- A world that is ok,and has no words. -/
def OkNone (qf : Int) (qe : Int) (qd : List S41) (qc : List S28) (qb : List S128) (qg : List S34) (qa : Int) : Prop:=(∃ k,impl_WorldOk.f k qf qe qd qc qb qg qa = some true) ∧ qg = []
/-- At such a world. -/
noncomputable def impl_WorldSeals.f (qf : Int) (qe : Int) (qd : List S41) (qc : List S28) (qb : List S128) (qg : List S34) (qa : Int) : Option (List S41):=@ite _ (OkNone qf qe qd qc qb qg qa) (Classical.propDecidable _) (some []) none
set_option maxHeartbeats 8000000 in
set_option maxRecDepth 100000 in
theorem impl_WorldSeals.calls (qf : Int) (qe : Int) (qo : Option Addr) (qk : Nat) (qd : List S41) (qn : Option Addr) (qj : Nat) (qc : List S28) (qm : Option Addr) (qi : Nat) (qb : List S128) (ql : Option Addr) (qh : Nat) (qg : List S34) (qa : Int) (r : List S41) (w : World) (qt : Kd.C k41 w qo qd.length qd) (qx : qd.length ≤ qk) (qr : Kd.C k28 w qn qc.length qc) (qw : qc.length ≤ qj) (qq : Kd.C k128 w qm qb.length qb) (qv : qb.length ≤ qi) (qp : Kd.C k34 w ql qg.length qg) (qu : qg.length ≤ qh) (h : impl_WorldSeals.f qf qe qd qc qb qg qa = some r) :
    Calls Try.prog 46 #[.agg #[.int .i64 qf,.int .i64 qe,.slice qo qd.length qk,.slice qn qc.length qj,.slice qm qb.length qi,.slice ql qg.length qh,.int .i64 qa]] w fun e w' => ∃ v0_ : Value,e = .returned (v0_) ∧ Kd.R k41 41 w' w.heap.size (fun _=>True) v0_ r ∧ Below w.heap.size w w':=by
  unfold impl_WorldSeals.f at h
  by_cases hq : OkNone qf qe qd qc qb qg qa
  case neg=>rw [if_neg hq] at h;cases h
  rw [if_pos hq] at h
  obtain rfl:=Option.some.inj h
  clear h
  obtain ⟨hok,rfl⟩:=hq
  obtain ⟨k_,hok⟩:=hok
  have HO:=Aside0.mk hok
  have R2:=Aside0.mk qt
  have R3:=Aside0.mk qr
  have R4:=Aside0.mk qq
  have R5:=Aside0.mk qp
  clear hok qt qr qq qp
  have HB:=Aside0.mk (Below.refl w.heap.size w)
  go_enter Try.func46,Try.ntmps46
  go_wp2_with (first|((with_reducible refine gate_dst (N:=1) rfl ?_);refine box_event ?hg (N:=1) ?hd (cs:=#[.int .i64 qf,.int .i64 qe,.slice qo qd.length qk,.slice qn qc.length qj,.slice qm qb.length qi,.slice ql ([] : List S34).length qh,.int .i64 qa]) (t:=69) ?hr ?_;(case hd=>rfl);(case hg=>rfl);(case hr=>first|(go_simp;done)|(go_simp;rfl));intro g1 hg_ w1 hbox_ hb_;have HK1:=Aside0.mk hbox_;have HG1:=Aside0.mk (show w.heap.size ≤ g1 from by rw [hg_];exact below_size (by repeat (first|(with_reducible first|exact HB.out|apply below_alloc|apply pw_below_drewN|apply below_drew1)|exact HB.out)));have n0_:=Aside0.mk (below_step (by repeat (first|(with_reducible first|exact HB.out|apply below_alloc|apply pw_below_drewN|apply below_drew1)|exact HB.out)) hb_);clear HB;have HB:=n0_;clear n0_ hb_ hbox_ hg_;have hc0 : w1.cell? ⟨g1,0,none⟩ = some (.int .i64 qf):=(blk_cell HK1.out 0).trans rfl;have hc1 : w1.cell? ⟨g1,1,none⟩ = some (.int .i64 qe):=(blk_cell HK1.out 1).trans rfl;have hc2 : w1.cell? ⟨g1,2,none⟩ = some (.slice qo qd.length qk):=(blk_cell HK1.out 2).trans rfl;have hc3 : w1.cell? ⟨g1,3,none⟩ = some (.slice qn qc.length qj):=(blk_cell HK1.out 3).trans rfl;have hc4 : w1.cell? ⟨g1,4,none⟩ = some (.slice qm qb.length qi):=(blk_cell HK1.out 4).trans rfl;have hc5 : w1.cell? ⟨g1,5,none⟩ = some (.slice ql ([] : List S34).length qh):=(blk_cell HK1.out 5).trans rfl;have hc6 : w1.cell? ⟨g1,6,none⟩ = some (.int .i64 qa):=(blk_cell HK1.out 6).trans rfl)|(go_at_call 45;(refine (impl_WorldOk.calls k_ qf qe qo qk qd qn qj qc qm qi qb ql qh [] qa true _ (Kd.C_below R2.out (by repeat (first|(with_reducible first|exact HB.out|apply below_alloc|apply pw_below_drewN|apply below_drew1)|exact HB.out))) qx (Kd.C_below R3.out (by repeat (first|(with_reducible first|exact HB.out|apply below_alloc|apply pw_below_drewN|apply below_drew1)|exact HB.out))) qw (Kd.C_below R4.out (by repeat (first|(with_reducible first|exact HB.out|apply below_alloc|apply pw_below_drewN|apply below_drew1)|exact HB.out))) qv (Kd.C_below R5.out (by repeat (first|(with_reducible first|exact HB.out|apply below_alloc|apply pw_below_drewN|apply below_drew1)|exact HB.out))) qu HO.out).mono ?_;rintro e w2 ⟨rfl,hb2⟩; have n1_:=Aside0.mk (blkW hb2 HK1.out);clear HK1;have HK1:=n1_;clear n1_;have n0_:=Aside0.mk (below_step (by repeat (first|(with_reducible first|exact HB.out|apply below_alloc|apply pw_below_drewN|apply below_drew1)|exact HB.out)) hb2);clear HB;have HB:=n0_;clear n0_ hb2 hc0 hc1 hc2 hc3 hc4 hc5 hc6))|(go_at_call 106;refine (impl_World_seals.calls g1 qf qe qd qc qb [] qa [] qf qe qa w _ ⟨qo,qk,qn,qj,qm,qi,ql,qh,(by (with_reducible repeat (first|refine blk_drewN ?_ _|refine blk_drew ?_|refine blk_alloc ?_ _));exact HK1.out),HG1.out,R2.out,R3.out,R4.out,R5.out⟩ (by repeat (first|(with_reducible first|exact HB.out|apply below_alloc|apply pw_below_drewN|apply below_drew1)|exact HB.out)) rfl).mono ?_;rintro e w3 ⟨v3,rfl,hv,-,hb3,-⟩; have HV:=Aside0.mk (Kd.R_lower hv (below_size (by repeat (first|(with_reducible first|exact HB.out|apply below_alloc|apply pw_below_drewN|apply below_drew1)|exact HB.out))));have HB3:=Aside0.mk hb3;clear hv hb3))
  go_ret
  exact ⟨_,rfl,HV.out,HB3.out⟩
/-! ### impl_WorldKeys: function 43 -/
/-- At a world that is ok,and has no words. -/
noncomputable def impl_WorldKeys.f (qf : Int) (qe : Int) (qd : List S41) (qc : List S28) (qb : List S128) (qg : List S34) (qa : Int) : Option (List Int):=@ite _ (OkNone qf qe qd qc qb qg qa) (Classical.propDecidable _) (impl_KnowKeys.f (if qa = 0 then ([] : List Int) else [qa]) []) none
theorem ownB (qf qe : Int) (qd : List S41) (qc : List S28) (qb : List S128) (qg : List S34) (qa : Int) : impl_World_own.f qf qe qd qc qb qg qa = some ((if qa = 0 then ([] : List Int) else [qa]),qf,qe,qa):=by
  unfold impl_World_own.f
  split <;> rfl
set_option maxHeartbeats 8000000 in
set_option maxRecDepth 100000 in
theorem impl_WorldKeys.calls (qf : Int) (qe : Int) (qo : Option Addr) (qk : Nat) (qd : List S41) (qn : Option Addr) (qj : Nat) (qc : List S28) (qm : Option Addr) (qi : Nat) (qb : List S128) (ql : Option Addr) (qh : Nat) (qg : List S34) (qa : Int) (r : List Int) (w : World) (qt : Kd.C k41 w qo qd.length qd) (qx : qd.length ≤ qk) (qr : Kd.C k28 w qn qc.length qc) (qw : qc.length ≤ qj) (qq : Kd.C k128 w qm qb.length qb) (qv : qb.length ≤ qi) (qp : Kd.C k34 w ql qg.length qg) (qu : qg.length ≤ qh) (h : impl_WorldKeys.f qf qe qd qc qb qg qa = some r) :
    Calls Try.prog 43 #[.agg #[.int .i64 qf,.int .i64 qe,.slice qo qd.length qk,.slice qn qc.length qj,.slice qm qb.length qi,.slice ql qg.length qh,.int .i64 qa]] w fun e w' => ∃ v0_ : Value,e = .returned (v0_) ∧ Kd.V (Kd.int .i64) 3 w' w.heap.size (fun k_=>(w.heap.size ≤ k_)) v0_ r ∧ Below w.heap.size w w':=by
  unfold impl_WorldKeys.f at h
  by_cases hq : OkNone qf qe qd qc qb qg qa
  case neg=>rw [if_neg hq] at h;cases h
  rw [if_pos hq] at h
  have HF:=Aside0.mk h
  clear h
  obtain ⟨hok,rfl⟩:=hq
  obtain ⟨k_,hok⟩:=hok
  have HO:=Aside0.mk hok
  have R2:=Aside0.mk qt
  have R3:=Aside0.mk qr
  have R4:=Aside0.mk qq
  have R5:=Aside0.mk qp
  clear hok qt qr qq qp
  have HB:=Aside0.mk (Below.refl w.heap.size w)
  have hown:=ownB qf qe qd qc qb [] qa
  generalize (if qa = 0 then ([] : List Int) else [qa]) = bs at *
  have HW:=Aside0.mk hown
  clear hown
  go_enter Try.func43,Try.ntmps43
  go_wp2_with (first|((with_reducible refine gate_dst (N:=1) rfl ?_);refine box_event ?hg (N:=1) ?hd (cs:=#[.int .i64 qf,.int .i64 qe,.slice qo qd.length qk,.slice qn qc.length qj,.slice qm qb.length qi,.slice ql ([] : List S34).length qh,.int .i64 qa]) (t:=69) ?hr ?_;(case hd=>rfl);(case hg=>rfl);(case hr=>first|(go_simp;done)|(go_simp;rfl));intro g1 hg_ w1 hbox_ hb_;have HK1:=Aside0.mk hbox_;have HG1:=Aside0.mk (show w.heap.size ≤ g1 from by rw [hg_];exact below_size (by repeat (first|(with_reducible first|exact HB.out|apply below_alloc|apply pw_below_drewN|apply below_drew1)|exact HB.out)));have n0_:=Aside0.mk (below_step (by repeat (first|(with_reducible first|exact HB.out|apply below_alloc|apply pw_below_drewN|apply below_drew1)|exact HB.out)) hb_);clear HB;have HB:=n0_;clear n0_ hb_ hbox_ hg_;have hc0 : w1.cell? ⟨g1,0,none⟩ = some (.int .i64 qf):=(blk_cell HK1.out 0).trans rfl;have hc1 : w1.cell? ⟨g1,1,none⟩ = some (.int .i64 qe):=(blk_cell HK1.out 1).trans rfl;have hc2 : w1.cell? ⟨g1,2,none⟩ = some (.slice qo qd.length qk):=(blk_cell HK1.out 2).trans rfl;have hc3 : w1.cell? ⟨g1,3,none⟩ = some (.slice qn qc.length qj):=(blk_cell HK1.out 3).trans rfl;have hc4 : w1.cell? ⟨g1,4,none⟩ = some (.slice qm qb.length qi):=(blk_cell HK1.out 4).trans rfl;have hc5 : w1.cell? ⟨g1,5,none⟩ = some (.slice ql ([] : List S34).length qh):=(blk_cell HK1.out 5).trans rfl;have hc6 : w1.cell? ⟨g1,6,none⟩ = some (.int .i64 qa):=(blk_cell HK1.out 6).trans rfl)|(go_at_call 45;(refine (impl_WorldOk.calls k_ qf qe qo qk qd qn qj qc qm qi qb ql qh [] qa true _ (Kd.C_below R2.out (by repeat (first|(with_reducible first|exact HB.out|apply below_alloc|apply pw_below_drewN|apply below_drew1)|exact HB.out))) qx (Kd.C_below R3.out (by repeat (first|(with_reducible first|exact HB.out|apply below_alloc|apply pw_below_drewN|apply below_drew1)|exact HB.out))) qw (Kd.C_below R4.out (by repeat (first|(with_reducible first|exact HB.out|apply below_alloc|apply pw_below_drewN|apply below_drew1)|exact HB.out))) qv (Kd.C_below R5.out (by repeat (first|(with_reducible first|exact HB.out|apply below_alloc|apply pw_below_drewN|apply below_drew1)|exact HB.out))) qu HO.out).mono ?_;rintro e w2 ⟨rfl,hb2⟩; have n1_:=Aside0.mk (blkW hb2 HK1.out);clear HK1;have HK1:=n1_;clear n1_;have n0_:=Aside0.mk (below_step (by repeat (first|(with_reducible first|exact HB.out|apply below_alloc|apply pw_below_drewN|apply below_drew1)|exact HB.out)) hb2);clear HB;have HB:=n0_;clear n0_ hb2 hc0 hc1 hc2 hc3 hc4 hc5 hc6))|(go_at_call 105;refine (impl_World_own.calls g1 qf qe qd qc qb [] qa bs qf qe qa w _ ⟨qo,qk,qn,qj,qm,qi,ql,qh,(by (with_reducible repeat (first|refine blk_drewN ?_ _|refine blk_drew ?_|refine blk_alloc ?_ _));exact HK1.out),HG1.out,R2.out,R3.out,R4.out,R5.out⟩ (by repeat (first|(with_reducible first|exact HB.out|apply below_alloc|apply pw_below_drewN|apply below_drew1)|exact HB.out)) HW.out).mono ?_;rintro e w3 ⟨v3,rfl,hv,hi3,hb3,-⟩; have HV:=Aside0.mk (IsS69.apart hi3 (Kd.R_lower hv (below_size (by repeat (first|(with_reducible first|exact HB.out|apply below_alloc|apply pw_below_drewN|apply below_drew1)|exact HB.out)))) (by decide));have HI:=Aside0.mk hi3;clear HB;have HB:=Aside0.mk hb3;clear hv hb3 hi3;obtain ⟨A3_,c3_,e3_⟩:=Kd.R_slice HV.out;subst e3_)|(go_at_call 106;refine (impl_World_seals.calls g1 qf qe qd qc qb [] qa [] qf qe qa w _ (by repeat (first|(with_reducible first|exact HI.out|apply IsS69.alloc|apply IsS69.drewN|apply IsS69.drew)|exact HI.out)) (by repeat (first|(with_reducible first|exact HB.out|apply below_alloc|apply pw_below_drewN|apply below_drew1)|exact HB.out)) rfl).mono ?_;rintro e w4 ⟨v4,rfl,hv4,-,hb4,hk4⟩; have HV3:=Aside0.mk (Kd.R_keep (by (with_reducible repeat (first|apply Kd.R_alloc|apply Kd.R_drewN|apply Kd.R_drew));exact HV.out) hk4 (fun k (h : True ∧ k ≠ g1)=>h.2));have HV4:=Aside0.mk hv4;clear HB;have HB:=Aside0.mk hb4;clear hv4 hb4 hk4;obtain ⟨A4_,c4_,e4_⟩:=Kd.R_slice HV4.out;subst e4_)|(go_at_call 27;have C3_:=Aside0.mk (Kd.R_reads' HV3.out).2.2;have C4_:=Aside0.mk (Kd.R_reads' HV4.out).2.2;have L3_:=(Kd.R_reads' HV3.out).2.1;have L4_:=(Kd.R_reads' HV4.out).2.1;refine (impl_KnowKeys.calls A3_ c3_ bs A4_ c4_ [] r _ ?sa L3_ ?sb L4_ HF.out).mono ?_;(case sa=>repeat (first|exact C3_.out|(with_reducible refine Kd.C_alloc ?_ _)|(with_reducible refine Kd.C_drewN ?_ _)|(with_reducible refine Kd.C_drew ?_)));(case sb=>repeat (first|exact C4_.out|(with_reducible refine Kd.C_alloc ?_ _)|(with_reducible refine Kd.C_drewN ?_ _)|(with_reducible refine Kd.C_drew ?_)));rintro e w5 ⟨v5,rfl,hv5,hb5⟩; have HB5:=Aside0.mk (below_step (by repeat (first|(with_reducible first|exact HB.out|apply below_alloc|apply pw_below_drewN|apply below_drew1)|exact HB.out)) hb5);have HS:=Aside0.mk (below_size (by repeat (first|(with_reducible first|exact HB.out|apply below_alloc|apply pw_below_drewN|apply below_drew1)|exact HB.out)));have HV5:=Aside0.mk hv5;clear hv5 hb5))
  go_ret
  obtain ⟨A5,c5,e5,hl5,hF5⟩:=HV5.out
  exact ⟨_,rfl,⟨A5,c5,e5,hl5,fun W' hW' => hF5 W' (fun k hk hlt=>hW' k (Nat.le_trans HS.out hk) hlt)⟩,HB5.out⟩
end Go.Proofs.Ytbipicjijbnbbaa.Hp
