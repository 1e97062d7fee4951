-- hp.py
import Derived.Test.YtbipicjijbnbbaaHx0
import Derived.Test.YtbipicjijbnbbaaHx11
namespace Go.Proofs.Ytbipicjijbnbbaa.Hp
open Go.RowKit Go.Proofs.YtbipicjijbnbbaaW.PrintWords Go.Proofs.YtbipicjijbnbbaaW.PrintLast Go.Proofs.YtbipicjijbnbbaaW.PrintMore
attribute [local go_sem] max2_int min2_int max_two min_two max_three min_three max_four min_four   -- for this text's walks alone
set_option linter.unusedVariables false
set_option linter.unusedSimpArgs false
theorem z12a {P : Prop} (h : P:=by simp only [Act.put,List.setIfInBounds_toArray,List.set_cons_zero,List.set_cons_succ,i64_w,i32_w];rfl) : P:=h
-- squeezed by wip/tools/squeeze.py
theorem z12x16 {P : Prop} (h : P:=by (with_reducible repeat (first|apply Kd.S_alloc|apply Kd.S_drewN|apply Kd.S_drew));exact qg.out) : P:=h
theorem z12x15 {P : Prop} (h : P:=by (with_reducible repeat (first|apply Kd.S_alloc|apply Kd.S_drewN|apply Kd.S_drew));exact qh.out) : P:=h
theorem z12x14 {P : Prop} (h : P:=by (with_reducible repeat (first|apply Kd.R_alloc|apply Kd.R_drewN|apply Kd.R_drew));exact qi.out) : P:=h
theorem z12x13 {P : Prop} (h : P:=by (with_reducible repeat (first|apply Kd.S_alloc|apply Kd.S_drewN|apply Kd.S_drew));exact HO_196004.out) : P:=h
theorem z12x12 {P : Prop} (h : P:=by (with_reducible repeat (first|apply Kd.S_alloc|apply Kd.S_drewN|apply Kd.S_drew));exact HO_196003.out) : P:=h
theorem z12x11 {P : Prop} (h : P:=by (with_reducible repeat (first|apply Kd.R_alloc|apply Kd.R_drewN|apply Kd.R_drew));exact HO_196002.out) : P:=h
theorem z12x10 {P : Prop} (h : P:=by (with_reducible repeat (first|refine blk_drewN ?_ _|refine blk_drew ?_|refine blk_alloc ?_ _));exact qd.out) : P:=h
theorem z12x9 {P : Prop} (h : P:=by (with_reducible repeat (first|refine blk_drewN ?_ _|refine blk_drew ?_|refine blk_alloc ?_ _));exact qc.out) : P:=h
theorem z12x8 {P : Prop} (h : P:=by (with_reducible repeat (first|apply Kd.S_alloc|apply Kd.S_drewN|apply Kd.S_drew));exact Kd.S_mono qg.out (fun _ hk=>hk.2)) : P:=h
theorem z12x7 {P : Prop} (h : P:=by (try simp only [List.map_toArray,List.map_cons,List.map_nil]);first|done|rfl|(simp only [List.length_drop,List.length_take];rfl)) : P:=h
theorem z12x6 {P : Prop} (h : P:=by rw [hg];exact (below_size (by repeat (first|(with_reducible first|exact HB.out|apply below_alloc|apply pw_below_drewN|apply below_drew1)|exact HB.out)))) : P:=h
theorem z12x5 {P : Prop} (h : P:=by repeat (first|(with_reducible first|exact HB.out|apply below_alloc|apply pw_below_drewN|apply below_drew1|refine below_set ?_ wj.out)|exact HB.out)) : P:=h
theorem z12x4 {P : Prop} (h : P:=by rw [hg];exact (below_size (by repeat (first|(with_reducible first|exact HB.out|apply below_alloc|apply pw_below_drewN|apply below_drew1|refine below_set ?_ wj.out)|exact HB.out)))) : P:=h
theorem z12x3 {P : Prop} (h : P:=by repeat (first|(with_reducible first|exact HB.out|apply below_alloc|apply pw_below_drewN|apply below_drew1|refine below_set ?_ wj.out|refine below_set ?_ qk.out)|exact HB.out)) : P:=h
theorem z12x2 {P : Prop} (h : P:=by first|(simp only [putAll,Act.put,List.setIfInBounds_toArray,List.set_cons_zero,List.set_cons_succ];done)|(simp only [putAll,Act.put,List.setIfInBounds_toArray,List.set_cons_zero,List.set_cons_succ];rfl)) : P:=h
theorem z12x1 {P : Prop} (h : P:=by rw [hg];exact Nat.ne_of_lt (blk_lt (g:=qb) (o:=.cells #[.int .i64 0,.int .i64 0,.slice none 0 0,.slice none 0 0,.slice none 0 0,.slice none 0 0,.int .i64 0] 69 (0,0)) (by (with_reducible repeat (first|refine blk_drewN ?_ _|refine blk_drew ?_|refine blk_alloc ?_ _));exact qc.out))) : P:=h
theorem z12x0 {P : Prop} (h : P:=by rw [hg];exact Nat.ne_of_gt (blk_lt (g:=qb) (o:=.cells #[.int .i64 0,.int .i64 0,.slice none 0 0,.slice none 0 0,.slice none 0 0,.slice none 0 0,.int .i64 0] 69 (0,0)) (by (with_reducible repeat (first|refine blk_drewN ?_ _|refine blk_drew ?_|refine blk_alloc ?_ _));exact qc.out))) : P:=h

/-! ### impl_WorldNew: function 41 -/
mutual
def impl_WorldNew.l0 : Nat → Int → Int → Int → List (S41) → List (S28) → List (S128) → Int → Option (Int × Int × (List (S41)) × (List (S28)) × (List (S128)) × (List (S34)) × Int × Bool)
 | 0,_,_,_,_,_,_,_=>none
 | k + 1,x5,wn,wm,wl,wi,wh,wk=>if x5 ≤ 3 then (if wi.length < 1256584717458 then (impl_WorldNew.l0 k (wrap64 (x5 + 1)) wn wm wl (wi ++ [(⟨x5,0,([] : List (S104)),([] : List (S106)),([] : List (S113)),([] : List (S113))⟩ : S28)]) wh wk) else (none)) else (impl_WorldNew.l1 k 4 wn wm wl wi wh wk)
def impl_WorldNew.l1 : Nat → Int → Int → Int → List (S41) → List (S28) → List (S128) → Int → Option (Int × Int × (List (S41)) × (List (S28)) × (List (S128)) × (List (S34)) × Int × Bool)
 | 0,_,_,_,_,_,_,_=>none
 | k + 1,x6,wn,wm,wl,wi,wh,wk=>if x6 ≤ 5 then (if wh.length < 2199023255552 then (impl_WorldNew.l1 k (wrap64 (x6 + 1)) wn wm wl wi (wh ++ [(⟨x6,(-1),([] : List (S41)),([] : List (S113))⟩ : S128)]) wk) else (none)) else (some (wn,wm,wl,wi,wh,([] : List (S34)),wk,true))
end
def impl_WorldNew.f (k : Nat) (a0 : Int) : Option (Int × Int × (List (S41)) × (List (S28)) × (List (S128)) × (List (S34)) × Int × Bool):=(impl_within.f a0 0 3).bind fun vz=>(if vz = true then ((impl_KdcNew.f).bind fun ws=>(impl_WorldNew.l0 k 1 0 ws.1 ws.2 (([] : List (S28))) (([] : List (S128))) a0)) else (some (0,0,([] : List (S41)),([] : List (S28)),([] : List (S128)),([] : List (S34)),0,false)))
theorem impl_WorldNew.mono_l : ∀ k,(∀ y0 y1 y2 y3 y4 y5 y6,LeO (impl_WorldNew.l0 k y0 y1 y2 y3 y4 y5 y6) (impl_WorldNew.l0 (k + 1) y0 y1 y2 y3 y4 y5 y6)) ∧ (∀ y0 y1 y2 y3 y4 y5 y6,LeO (impl_WorldNew.l1 k y0 y1 y2 y3 y4 y5 y6) (impl_WorldNew.l1 (k + 1) y0 y1 y2 y3 y4 y5 y6))
 | 0=>⟨fun _ _ _ _ _ _ _ r h=>by simp [impl_WorldNew.l0] at h,fun _ _ _ _ _ _ _ r h=>by simp [impl_WorldNew.l1] at h⟩
 | k + 1=>by
  obtain ⟨ih0,ih1⟩:=impl_WorldNew.mono_l k
  refine ⟨?_,?_⟩
  ·intro y0 y1 y2 y3 y4 y5 y6
   unfold impl_WorldNew.l0
   repeat' first
   | (with_reducible exact ih0 _ _ _ _ _ _ _)
   | (with_reducible exact ih1 _ _ _ _ _ _ _)
   | (with_reducible exact LeO.refl _)
   | (with_reducible exact LeO.none _)
   | (with_reducible refine LeO.ite ?_ ?_)
   | (with_reducible refine LeO.bind ?_ (fun _=>?_))
   | exact ih0 _ _ _ _ _ _ _
   | exact ih1 _ _ _ _ _ _ _
   | exact LeO.none _
   | refine LeO.ite ?_ ?_
   | refine LeO.bind ?_ (fun _=>?_)
  ·intro y0 y1 y2 y3 y4 y5 y6
   unfold impl_WorldNew.l1
   repeat' first
   | (with_reducible exact ih0 _ _ _ _ _ _ _)
   | (with_reducible exact ih1 _ _ _ _ _ _ _)
   | (with_reducible exact LeO.refl _)
   | (with_reducible exact LeO.none _)
   | (with_reducible refine LeO.ite ?_ ?_)
   | (with_reducible refine LeO.bind ?_ (fun _=>?_))
   | exact ih0 _ _ _ _ _ _ _
   | exact ih1 _ _ _ _ _ _ _
   | exact LeO.none _
   | refine LeO.ite ?_ ?_
   | refine LeO.bind ?_ (fun _=>?_)
theorem impl_WorldNew.mono : ∀ a0 k,LeO (impl_WorldNew.f k a0) (impl_WorldNew.f (k + 1) a0):=by
 intro a0 k
 obtain ⟨ih0,ih1⟩:=impl_WorldNew.mono_l k
 unfold impl_WorldNew.f
 repeat' first
   | (with_reducible exact ih0 _ _ _ _ _ _ _)
   | (with_reducible exact ih1 _ _ _ _ _ _ _)
   | (with_reducible exact LeO.refl _)
   | (with_reducible exact LeO.none _)
   | (with_reducible refine LeO.ite ?_ ?_)
   | (with_reducible refine LeO.bind ?_ (fun _=>?_))
   | exact ih0 _ _ _ _ _ _ _
   | exact ih1 _ _ _ _ _ _ _
   | exact LeO.none _
   | refine LeO.ite ?_ ?_
   | refine LeO.bind ?_ (fun _=>?_)
set_option maxHeartbeats 8000000 in
set_option maxRecDepth 100000 in
theorem impl_WorldNew.calls (k : Nat) (a0 : Int) (r1 : Int) (r2 : Int) (r3 : List (S41)) (r4 : List (S28)) (r5 : List (S128)) (r6 : List (S34)) (r7 : Int) (r8 : Bool) (w : World) (h : impl_WorldNew.f k a0 = some (r1,r2,r3,r4,r5,r6,r7,r8)) :
  Calls Try.prog 41 #[.int .i64 a0] w fun e w' => ∃ v2_ v3_ v4_ v5_ : Value,e = .returned (.tuple #[.agg #[.int .i64 r1,.int .i64 r2,v2_,v3_,v4_,v5_,.int .i64 r7],.bool r8]) ∧ Kd.R k41 41 w' w.heap.size (fun _=>True) v2_ r3 ∧ Kd.S k28 28 w' w.heap.size (fun _=>True) v3_ r4 ∧ Kd.S k128 128 w' w.heap.size (fun k_=>some k_ ≠ (v2_ : Value).ownBlock) v4_ r5 ∧ Kd.S k34 34 w' w.heap.size (fun k_=>some k_ ≠ (v2_ : Value).ownBlock) v5_ r6 ∧ Below w.heap.size w w':=by
 have qcj:=Try.underlying69
 have qck:=Try.underlying28
 have qbt:=Try.underlying128
 have HB:=Aside0.mk (Below.refl w.heap.size w)
 have H : ((impl_within.f a0 0 3).bind fun vz=>(if vz = true then ((impl_KdcNew.f).bind fun ws=>(impl_WorldNew.l0 k 1 0 ws.1 ws.2 (([] : List (S28))) (([] : List (S128))) a0)) else (some (0,0,([] : List (S41)),([] : List (S28)),([] : List (S128)),([] : List (S34)),0,false)))) = some (r1,r2,r3,r4,r5,r6,r7,r8):=h
 clear h
 replace H:=Option.bind_eq_some_iff.mp H
 obtain ⟨vz,A20,H⟩:=H
 replace H : (if vz = true then ((impl_KdcNew.f).bind fun ws=>(impl_WorldNew.l0 k 1 0 ws.1 ws.2 (([] : List (S28))) (([] : List (S128))) a0)) else (some (0,0,([] : List (S41)),([] : List (S28)),([] : List (S128)),([] : List (S34)),0,false))) = some (r1,r2,r3,r4,r5,r6,r7,r8):=H
 have A2:=Aside0.mk A20
 clear A20
 by_cases c3 : vz = true
 rotate_left
 ·replace c3:=Bool.eq_false_iff.mpr c3
  subst c3
  rw [if_neg (show ¬ (false = true) by decide)] at H
  simp only [Option.some.injEq,Prod.mk.injEq] at H
  obtain ⟨rfl,rfl,rfl,rfl,rfl,rfl,rfl,rfl⟩:=H
  go_enter Try.func41,Try.ntmps41
  go_wp2_with (first|((with_reducible refine gate_dst (N:=2) rfl ?_);refine box_event ?hg (N:=2) ?hd (cs:=#[.int .i64 0,.int .i64 0,.slice none 0 0,.slice none 0 0,.slice none 0 0,.slice none 0 0,.int .i64 0]) (t:=69) ?hr ?_;(case hd=>rfl);(case hg=>rfl);(case hr=>first|(go_simp;done)|(go_simp;rfl));intro qb hg w46 hbox hb;have n0_:=Aside0.mk (below_step (by repeat (first|(with_reducible first|exact HB.out|apply below_alloc|apply pw_below_drewN|apply below_drew1)|exact HB.out)) hb);have n1_:=Aside0.mk (hbox);have n2_:=Aside0.mk ((z12x6 : w.heap.size ≤ qb));have n3_:=Aside0.mk ((z12x6 : w.heap.size ≤ qb));clear HB;have HB:=n0_;have qc:=n1_;have gc:=n2_;have wj:=n3_;clear n0_ n1_ n2_ n3_;clear hb hbox hg)|((with_reducible refine gate_callee (f:=72) rfl ?_);refine goesL_ (some 8) rfl rfl Try.func72 (by kernel_rfl) rfl #[.int .i64 a0,.int .i64 0,.int .i64 3] rfl z12x7 ?_;(with_reducible refine (impl_within.calls a0 0 3 false _ A2.out).mono ?_);rintro e w' ⟨rfl,⟨nd,rfl⟩⟩; refine ⟨_,rfl,?_⟩; (try (rw [drewN_self w46];generalize hq_ : World.drewN w46 _ = w46;have n0_ : Aside0 (w46.heap[qb]? = some (.cells #[.int .i64 0,.int .i64 0,.slice none 0 0,.slice none 0 0,.slice none 0 0,.slice none 0 0,.int .i64 0] 69 (0,0))):=⟨by rw [← hq_];exact z12x9⟩; have n1_ : Aside0 (Below w.heap.size w w46):=⟨by rw [← hq_];exact z12x5⟩; clear qc HB hq_;have qc:=n0_;have HB:=n1_;clear n0_ n1_));have qam : w46.cell? ⟨qb,0,none⟩ = some (.int .i64 0):=(blk_cell qc.out 0).trans rfl;have qal : w46.cell? ⟨qb,1,none⟩ = some (.int .i64 0):=(blk_cell qc.out 1).trans rfl;have qak : w46.cell? ⟨qb,2,none⟩ = some (.slice none 0 0):=(blk_cell qc.out 2).trans rfl;have qaj : w46.cell? ⟨qb,3,none⟩ = some (.slice none 0 0):=(blk_cell qc.out 3).trans rfl;have qai : w46.cell? ⟨qb,4,none⟩ = some (.slice none 0 0):=(blk_cell qc.out 4).trans rfl;have qah : w46.cell? ⟨qb,5,none⟩ = some (.slice none 0 0):=(blk_cell qc.out 5).trans rfl;have qag : w46.cell? ⟨qb,6,none⟩ = some (.int .i64 0):=(blk_cell qc.out 6).trans rfl;have pb:=blk_frozen qc.out 0;have pa:=blk_frozen qc.out 1;have gz:=blk_frozen qc.out 2;have gy:=blk_frozen qc.out 3;have gx:=blk_frozen qc.out 4;have gw:=blk_frozen qc.out 5;have gv:=blk_frozen qc.out 6))
  refine bodyPost_ret (results_ct rfl _ _ qb 69 #[.int .i64 0,.int .i64 0,.slice none 0 0,.slice none 0 0,.slice none 0 0,.slice none 0 0,.int .i64 0] (0,0) _ rfl (by (with_reducible repeat (first|refine blk_drewN ?_ _|refine blk_drew ?_|refine blk_alloc ?_ _));refine blk_put (cs:=#[.int .i64 0,.int .i64 0,.slice none 0 0,.slice none 0 0,.slice none 0 0,.slice none 0 0,.int .i64 0]) ?_ 6 _ rfl;(with_reducible repeat (first|refine blk_drewN ?_ _|refine blk_drew ?_|refine blk_alloc ?_ _));refine blk_put (cs:=#[.int .i64 0,.int .i64 0,.slice none 0 0,.slice none 0 0,.slice none 0 0,.slice none 0 0,.int .i64 0]) ?_ 5 _ rfl;(with_reducible repeat (first|refine blk_drewN ?_ _|refine blk_drew ?_|refine blk_alloc ?_ _));refine blk_put (cs:=#[.int .i64 0,.int .i64 0,.slice none 0 0,.slice none 0 0,.slice none 0 0,.slice none 0 0,.int .i64 0]) ?_ 4 _ rfl;(with_reducible repeat (first|refine blk_drewN ?_ _|refine blk_drew ?_|refine blk_alloc ?_ _));refine blk_put (cs:=#[.int .i64 0,.int .i64 0,.slice none 0 0,.slice none 0 0,.slice none 0 0,.slice none 0 0,.int .i64 0]) ?_ 3 _ rfl;(with_reducible repeat (first|refine blk_drewN ?_ _|refine blk_drew ?_|refine blk_alloc ?_ _));refine blk_put (cs:=#[.int .i64 0,.int .i64 0,.slice none 0 0,.slice none 0 0,.slice none 0 0,.slice none 0 0,.int .i64 0]) ?_ 2 _ rfl;(with_reducible repeat (first|refine blk_drewN ?_ _|refine blk_drew ?_|refine blk_alloc ?_ _));refine blk_put (cs:=#[.int .i64 0,.int .i64 0,.slice none 0 0,.slice none 0 0,.slice none 0 0,.slice none 0 0,.int .i64 0]) ?_ 1 _ rfl;(with_reducible repeat (first|refine blk_drewN ?_ _|refine blk_drew ?_|refine blk_alloc ?_ _));refine blk_put (cs:=#[.int .i64 0,.int .i64 0,.slice none 0 0,.slice none 0 0,.slice none 0 0,.slice none 0 0,.int .i64 0]) ?_ 0 _ rfl;(with_reducible repeat (first|refine blk_drewN ?_ _|refine blk_drew ?_|refine blk_alloc ?_ _));exact qc.out) Try.underlying69 rfl (by kernel_rfl)) rfl ?_
  exact ⟨_,_,_,_,by first|rfl|(simp [errW_none,errW_some] <;> rfl)|(simp [*,errW_none,errW_some] <;> rfl),by first|exact Kd.R_nil _ _ _ _ _|exact Kd.N_nil _ _ _ _ _|exact Kd.V_nil _ _ _ _ _|exact Kd.Q_nil _ _ _ _ _|exact Kd.S_nil _ _ _ _ _,by first|exact Kd.S_nil _ _ _ _ _|exact Kd.N_nil _ _ _ _ _|exact Kd.V_nil _ _ _ _ _|exact Kd.Q_nil _ _ _ _ _|exact Kd.R_nil _ _ _ _ _,by first|exact Kd.S_nil _ _ _ _ _|exact Kd.N_nil _ _ _ _ _|exact Kd.V_nil _ _ _ _ _|exact Kd.Q_nil _ _ _ _ _|exact Kd.R_nil _ _ _ _ _,by first|exact Kd.S_nil _ _ _ _ _|exact Kd.N_nil _ _ _ _ _|exact Kd.V_nil _ _ _ _ _|exact Kd.Q_nil _ _ _ _ _|exact Kd.R_nil _ _ _ _ _,by repeat (first|(with_reducible first|exact HB.out|apply below_alloc|apply pw_below_drewN|apply below_drew1|refine below_set ?_ wj.out)|exact HB.out)⟩
 subst c3
 rw [if_pos rfl] at H
 replace H:=Option.bind_eq_some_iff.mp H
 obtain ⟨⟨qm,qj⟩,A40,H⟩:=H
 replace H : (impl_WorldNew.l0 k 1 0 qm qj (([] : List (S28))) (([] : List (S128))) a0) = some (r1,r2,r3,r4,r5,r6,r7,r8):=H
 have A4:=Aside0.mk A40
 clear A40
 obtain ⟨qv,vq⟩ : ∃ y_ : List (S28),y_ = (([] : List (S28))):=⟨_,rfl⟩
 replace H : (impl_WorldNew.l0 k 1 0 qm qj qv (([] : List (S128))) a0) = some (r1,r2,r3,r4,r5,r6,r7,r8):=by first|(rw [vq];with_reducible exact H)|(have H2_:=(Option.bind_some _ _).symm.trans H;rw [vq];with_reducible exact H2_)|(have H2_:=(Option.bind_some _ _).symm.trans H;with_reducible exact H2_)|with_reducible exact H|(rw [vq];exact H)|exact H
 have qz:=Aside0.mk vq
 clear vq
 obtain ⟨qp,vp⟩ : ∃ y_ : List (S128),y_ = (([] : List (S128))):=⟨_,rfl⟩
 replace H : (impl_WorldNew.l0 k 1 0 qm qj qv qp a0) = some (r1,r2,r3,r4,r5,r6,r7,r8):=by first|(rw [vp];with_reducible exact H)|(have H2_:=(Option.bind_some _ _).symm.trans H;rw [vp];with_reducible exact H2_)|(have H2_:=(Option.bind_some _ _).symm.trans H;with_reducible exact H2_)|with_reducible exact H|(rw [vp];exact H)|exact H
 have qy:=Aside0.mk vp
 clear vp
 have H':=Aside0.mk H
 clear H
 go_enter Try.func41,Try.ntmps41
 try go_wp2_with (first|((with_reducible refine gate_dst (N:=2) rfl ?_);refine box_event ?hg (N:=2) ?hd (cs:=#[.int .i64 0,.int .i64 0,.slice none 0 0,.slice none 0 0,.slice none 0 0,.slice none 0 0,.int .i64 0]) (t:=69) ?hr ?_;(case hd=>rfl);(case hg=>rfl);(case hr=>first|(go_simp;done)|(go_simp;rfl));intro qb hg w5 hbox hb;have n0_:=Aside0.mk (below_step (by repeat (first|(with_reducible first|exact HB.out|apply below_alloc|apply pw_below_drewN|apply below_drew1)|exact HB.out)) hb);have n1_:=Aside0.mk (hbox);have n2_:=Aside0.mk ((z12x6 : w.heap.size ≤ qb));have n3_:=Aside0.mk ((z12x6 : w.heap.size ≤ qb));clear HB;have HB:=n0_;have qc:=n1_;have gc:=n2_;have wj:=n3_;clear n0_ n1_ n2_ n3_;clear hb hbox hg)|((with_reducible refine gate_callee (f:=72) rfl ?_);refine goesL_ (some 8) rfl rfl Try.func72 (by kernel_rfl) rfl #[.int .i64 a0,.int .i64 0,.int .i64 3] rfl z12x7 ?_;(with_reducible refine (impl_within.calls a0 0 3 true _ A2.out).mono ?_);rintro e w' ⟨rfl,⟨nd,rfl⟩⟩; refine ⟨_,rfl,?_⟩; (try (rw [drewN_self w5];generalize hq_ : World.drewN w5 _ = w5;have n0_ : Aside0 (w5.heap[qb]? = some (.cells #[.int .i64 0,.int .i64 0,.slice none 0 0,.slice none 0 0,.slice none 0 0,.slice none 0 0,.int .i64 0] 69 (0,0))):=⟨by rw [← hq_];exact z12x9⟩; have n1_ : Aside0 (Below w.heap.size w w5):=⟨by rw [← hq_];exact z12x5⟩; clear qc HB hq_;have qc:=n0_;have HB:=n1_;clear n0_ n1_))))
 have n0_:=Aside0.mk (blk_drew qc.out)
 have n1_:=Aside0.mk (below_drew1 HB.out)
 clear qc
 clear HB
 have qc:=n0_
 have HB:=n1_
 clear n0_ n1_
 refine start_ (n:=7) (S:=fun w' => True) (ds:=[]) #[false,false,false,false,false,false,false] (by kernel_rfl) rfl rfl trivial (fun hHeld=>?_)
 generalize w5.drew = w6 at qc HB hHeld ⊢
 refine pure_ (i:=1) (N:=some 12) (v:=?_) (a':=?_) #[false,true,false,false,false,false,false] rfl rfl (by kernel_rfl) (fun _ _ _ h=>h) (Or.inl ⟨by rfl,?_⟩) ?_ ?_
 rotate_left
 ·intro w'
  go_simp
  with_reducible rfl
 rotate_left
 ·exact z12a
 refine join_ (σ:=Value × Value × Value × Nat) 1 #[true,true,true,true,true,true,false] (fun s_=>[(11,.agg #[.int .i64 qm,s_.1]),(13,s_.2.1),(14,s_.2.2.1),(4,.pointer (some ⟨s_.2.2.2,0,none⟩)),(15,.agg #[.int .i64 0,.int .i64 qm,s_.1,s_.2.1,s_.2.2.1,.slice none 0 0,.int .i64 a0])]) (fun s_ w' => (Kd.R k41 41 w' w.heap.size (fun _=>True) s_.1 qj) ∧ (Kd.S k28 28 w' w.heap.size (fun _=>True) s_.2.1 qv) ∧ (Kd.S k128 128 w' w.heap.size (fun k_=>some k_ ≠ (s_.1 : Value).ownBlock) s_.2.2.1 qp) ∧ (w'.heap[qb]? = some (.cells #[.int .i64 0,.int .i64 0,.slice none 0 0,.slice none 0 0,.slice none 0 0,.slice none 0 0,.int .i64 0] 69 (0,0))) ∧ (w'.heap[s_.2.2.2]? = some (.cells #[.int .i64 0,.int .i64 0,.slice none 0 0,.slice none 0 0,.slice none 0 0,.slice none 0 0,.int .i64 0] 69 (0,0))) ∧ (w.heap.size ≤ s_.2.2.2) ∧ (w.heap.size ≤ s_.2.2.2) ∧ (qb ≠ s_.2.2.2) ∧ (s_.2.2.2 ≠ qb) ∧ (Below w.heap.size w w')) ?_ ?_
 rotate_left
 ·intro hJ0_2_3_5
  refine join_ (σ:=Value × Value × Value) 2 #[true,true,true,true,true,false,false] (fun s_=>[(11,.agg #[.int .i64 qm,s_.1]),(13,s_.2.1),(14,s_.2.2),(15,.agg #[.int .i64 0,.int .i64 qm,s_.1,s_.2.1,s_.2.2,.slice none 0 0,.int .i64 a0])]) (fun s_ w' => (Kd.R k41 41 w' w.heap.size (fun _=>True) s_.1 qj) ∧ (Kd.S k28 28 w' w.heap.size (fun _=>True) s_.2.1 qv) ∧ (Kd.S k128 128 w' w.heap.size (fun k_=>some k_ ≠ (s_.1 : Value).ownBlock) s_.2.2 qp) ∧ (w'.heap[qb]? = some (.cells #[.int .i64 0,.int .i64 0,.slice none 0 0,.slice none 0 0,.slice none 0 0,.slice none 0 0,.int .i64 0] 69 (0,0))) ∧ (Below w.heap.size w w')) ?_ ?_
  rotate_left
  ·intro hJ0_2_3
   refine join_ (σ:=Value × Value × Nat) 3 #[true,true,true,false,false,true,false] (fun s_=>[(11,.agg #[.int .i64 qm,s_.1]),(13,s_.2.1),(4,.pointer (some ⟨s_.2.2,0,none⟩))]) (fun s_ w' => (Kd.R k41 41 w' w.heap.size (fun _=>True) s_.1 qj) ∧ (Kd.S k28 28 w' w.heap.size (fun _=>True) s_.2.1 qv) ∧ (w'.heap[qb]? = some (.cells #[.int .i64 0,.int .i64 0,.slice none 0 0,.slice none 0 0,.slice none 0 0,.slice none 0 0,.int .i64 0] 69 (0,0))) ∧ (w'.heap[s_.2.2]? = some (.cells #[.int .i64 0,.int .i64 0,.slice none 0 0,.slice none 0 0,.slice none 0 0,.slice none 0 0,.int .i64 0] 69 (0,0))) ∧ (w.heap.size ≤ s_.2.2) ∧ (w.heap.size ≤ s_.2.2) ∧ (qb ≠ s_.2.2) ∧ (s_.2.2 ≠ qb) ∧ (Below w.heap.size w w')) ?_ ?_
   rotate_left
   ·intro hJ0_2_5
    refine join_ (σ:=Value × Value × Nat) 3 #[true,true,false,true,false,true,false] (fun s_=>[(11,.agg #[.int .i64 qm,s_.1]),(14,s_.2.1),(4,.pointer (some ⟨s_.2.2,0,none⟩))]) (fun s_ w' => (Kd.R k41 41 w' w.heap.size (fun _=>True) s_.1 qj) ∧ (Kd.S k128 128 w' w.heap.size (fun k_=>some k_ ≠ (s_.1 : Value).ownBlock) s_.2.1 qp) ∧ (w'.heap[qb]? = some (.cells #[.int .i64 0,.int .i64 0,.slice none 0 0,.slice none 0 0,.slice none 0 0,.slice none 0 0,.int .i64 0] 69 (0,0))) ∧ (w'.heap[s_.2.2]? = some (.cells #[.int .i64 0,.int .i64 0,.slice none 0 0,.slice none 0 0,.slice none 0 0,.slice none 0 0,.int .i64 0] 69 (0,0))) ∧ (w.heap.size ≤ s_.2.2) ∧ (w.heap.size ≤ s_.2.2) ∧ (qb ≠ s_.2.2) ∧ (s_.2.2 ≠ qb) ∧ (Below w.heap.size w w')) ?_ ?_
    rotate_left
    ·intro hJ0_3_5
     refine join_ (σ:=Value × Value × Nat) 3 #[false,true,true,true,false,true,false] (fun s_=>[(13,s_.1),(14,s_.2.1),(4,.pointer (some ⟨s_.2.2,0,none⟩))]) (fun s_ w' => (Kd.S k28 28 w' w.heap.size (fun _=>True) s_.1 qv) ∧ (Kd.S k128 128 w' w.heap.size (fun _=>True) s_.2.1 qp) ∧ (w'.heap[qb]? = some (.cells #[.int .i64 0,.int .i64 0,.slice none 0 0,.slice none 0 0,.slice none 0 0,.slice none 0 0,.int .i64 0] 69 (0,0))) ∧ (w'.heap[s_.2.2]? = some (.cells #[.int .i64 0,.int .i64 0,.slice none 0 0,.slice none 0 0,.slice none 0 0,.slice none 0 0,.int .i64 0] 69 (0,0))) ∧ (w.heap.size ≤ s_.2.2) ∧ (w.heap.size ≤ s_.2.2) ∧ (qb ≠ s_.2.2) ∧ (s_.2.2 ≠ qb) ∧ (Below w.heap.size w w')) ?_ ?_
     rotate_left
     ·intro hJ2_3_5
      refine join_ (σ:=Value × Value) 4 #[true,true,true,false,false,false,false] (fun s_=>[(11,.agg #[.int .i64 qm,s_.1]),(13,s_.2)]) (fun s_ w' => (Kd.R k41 41 w' w.heap.size (fun _=>True) s_.1 qj) ∧ (Kd.S k28 28 w' w.heap.size (fun _=>True) s_.2 qv) ∧ (w'.heap[qb]? = some (.cells #[.int .i64 0,.int .i64 0,.slice none 0 0,.slice none 0 0,.slice none 0 0,.slice none 0 0,.int .i64 0] 69 (0,0))) ∧ (Below w.heap.size w w')) ?_ ?_
      rotate_left
      ·intro js
       refine join_ (σ:=Value × Value) 4 #[true,true,false,true,false,false,false] (fun s_=>[(11,.agg #[.int .i64 qm,s_.1]),(14,s_.2)]) (fun s_ w' => (Kd.R k41 41 w' w.heap.size (fun _=>True) s_.1 qj) ∧ (Kd.S k128 128 w' w.heap.size (fun k_=>some k_ ≠ (s_.1 : Value).ownBlock) s_.2 qp) ∧ (w'.heap[qb]? = some (.cells #[.int .i64 0,.int .i64 0,.slice none 0 0,.slice none 0 0,.slice none 0 0,.slice none 0 0,.int .i64 0] 69 (0,0))) ∧ (Below w.heap.size w w')) ?_ ?_
       rotate_left
       ·intro jr
        refine join_ (σ:=Value × Nat) 4 #[true,true,false,false,false,true,false] (fun s_=>[(11,.agg #[.int .i64 qm,s_.1]),(4,.pointer (some ⟨s_.2,0,none⟩))]) (fun s_ w' => (Kd.R k41 41 w' w.heap.size (fun _=>True) s_.1 qj) ∧ (w'.heap[qb]? = some (.cells #[.int .i64 0,.int .i64 0,.slice none 0 0,.slice none 0 0,.slice none 0 0,.slice none 0 0,.int .i64 0] 69 (0,0))) ∧ (w'.heap[s_.2]? = some (.cells #[.int .i64 0,.int .i64 0,.slice none 0 0,.slice none 0 0,.slice none 0 0,.slice none 0 0,.int .i64 0] 69 (0,0))) ∧ (w.heap.size ≤ s_.2) ∧ (w.heap.size ≤ s_.2) ∧ (qb ≠ s_.2) ∧ (s_.2 ≠ qb) ∧ (Below w.heap.size w w')) ?_ ?_
        rotate_left
        ·intro jq
         refine join_ (σ:=Value × Value) 4 #[false,true,true,true,false,false,false] (fun s_=>[(13,s_.1),(14,s_.2)]) (fun s_ w' => (Kd.S k28 28 w' w.heap.size (fun _=>True) s_.1 qv) ∧ (Kd.S k128 128 w' w.heap.size (fun _=>True) s_.2 qp) ∧ (w'.heap[qb]? = some (.cells #[.int .i64 0,.int .i64 0,.slice none 0 0,.slice none 0 0,.slice none 0 0,.slice none 0 0,.int .i64 0] 69 (0,0))) ∧ (Below w.heap.size w w')) ?_ ?_
         rotate_left
         ·intro jp
          refine join_ (σ:=Value × Nat) 4 #[false,true,true,false,false,true,false] (fun s_=>[(13,s_.1),(4,.pointer (some ⟨s_.2,0,none⟩))]) (fun s_ w' => (Kd.S k28 28 w' w.heap.size (fun _=>True) s_.1 qv) ∧ (w'.heap[qb]? = some (.cells #[.int .i64 0,.int .i64 0,.slice none 0 0,.slice none 0 0,.slice none 0 0,.slice none 0 0,.int .i64 0] 69 (0,0))) ∧ (w'.heap[s_.2]? = some (.cells #[.int .i64 0,.int .i64 0,.slice none 0 0,.slice none 0 0,.slice none 0 0,.slice none 0 0,.int .i64 0] 69 (0,0))) ∧ (w.heap.size ≤ s_.2) ∧ (w.heap.size ≤ s_.2) ∧ (qb ≠ s_.2) ∧ (s_.2 ≠ qb) ∧ (Below w.heap.size w w')) ?_ ?_
          rotate_left
          ·intro jo
           refine join_ (σ:=Value × Nat) 4 #[false,true,false,true,false,true,false] (fun s_=>[(14,s_.1),(4,.pointer (some ⟨s_.2,0,none⟩))]) (fun s_ w' => (Kd.S k128 128 w' w.heap.size (fun _=>True) s_.1 qp) ∧ (w'.heap[qb]? = some (.cells #[.int .i64 0,.int .i64 0,.slice none 0 0,.slice none 0 0,.slice none 0 0,.slice none 0 0,.int .i64 0] 69 (0,0))) ∧ (w'.heap[s_.2]? = some (.cells #[.int .i64 0,.int .i64 0,.slice none 0 0,.slice none 0 0,.slice none 0 0,.slice none 0 0,.int .i64 0] 69 (0,0))) ∧ (w.heap.size ≤ s_.2) ∧ (w.heap.size ≤ s_.2) ∧ (qb ≠ s_.2) ∧ (s_.2 ≠ qb) ∧ (Below w.heap.size w w')) ?_ ?_
           rotate_left
           ·intro jn
            refine join_ (σ:=Value) 5 #[true,true,false,false,false,false,false] (fun s_=>[(11,.agg #[.int .i64 qm,s_])]) (fun s_ w' => (Kd.R k41 41 w' w.heap.size (fun _=>True) s_ qj) ∧ (w'.heap[qb]? = some (.cells #[.int .i64 0,.int .i64 0,.slice none 0 0,.slice none 0 0,.slice none 0 0,.slice none 0 0,.int .i64 0] 69 (0,0))) ∧ (Below w.heap.size w w')) ?_ ?_
            rotate_left
            ·intro hJ0
             refine join_ (σ:=Value) 5 #[false,true,true,false,false,false,false] (fun s_=>[(13,s_)]) (fun s_ w' => (Kd.S k28 28 w' w.heap.size (fun _=>True) s_ qv) ∧ (w'.heap[qb]? = some (.cells #[.int .i64 0,.int .i64 0,.slice none 0 0,.slice none 0 0,.slice none 0 0,.slice none 0 0,.int .i64 0] 69 (0,0))) ∧ (Below w.heap.size w w')) ?_ ?_
             rotate_left
             ·intro hJ2
              refine join_ (σ:=Value) 5 #[false,true,false,true,false,false,false] (fun s_=>[(14,s_)]) (fun s_ w' => (Kd.S k128 128 w' w.heap.size (fun _=>True) s_ qp) ∧ (w'.heap[qb]? = some (.cells #[.int .i64 0,.int .i64 0,.slice none 0 0,.slice none 0 0,.slice none 0 0,.slice none 0 0,.int .i64 0] 69 (0,0))) ∧ (Below w.heap.size w w')) ?_ ?_
              rotate_left
              ·intro hJ3
               refine join_ (σ:=Nat) 5 #[false,true,false,false,false,true,false] (fun s_=>[(4,.pointer (some ⟨s_,0,none⟩))]) (fun s_ w' => (w'.heap[qb]? = some (.cells #[.int .i64 0,.int .i64 0,.slice none 0 0,.slice none 0 0,.slice none 0 0,.slice none 0 0,.int .i64 0] 69 (0,0))) ∧ (w'.heap[s_]? = some (.cells #[.int .i64 0,.int .i64 0,.slice none 0 0,.slice none 0 0,.slice none 0 0,.slice none 0 0,.int .i64 0] 69 (0,0))) ∧ (w.heap.size ≤ s_) ∧ (w.heap.size ≤ s_) ∧ (qb ≠ s_) ∧ (s_ ≠ qb) ∧ (Below w.heap.size w w')) ?_ ?_
               rotate_left
               ·intro hJ5
                refine four_ (i:=0) (j:=2) (k:=3) (m:=5) (Ni:=some 11) (Nj:=some 13) (Nk:=some 14) (Nm:=some 4) #[true,true,false,false,false,false,false] #[false,true,true,false,false,false,false] #[false,true,false,true,false,false,false] #[false,true,false,false,false,true,false] rfl rfl rfl rfl rfl rfl rfl rfl (by kernel_rfl) (by decide) (by decide) (by decide) (by decide) (fun K hK=>?_) (fun K hK=>?_) (fun K hK=>?_) (fun K hK=>?_)
                ·skip
                 refine goes_ Try.func101 (by kernel_rfl) rfl #[] (by rfl) rfl rfl z12x7 ?_
                 with_reducible refine (impl_KdcNew.calls  qm qj _ A4.out).mono ?_
                 rintro e w7 ⟨qq,rfl,ho0,hb⟩
                 refine ⟨_,rfl,?_⟩
                 have n0_:=Aside0.mk (Kd.R_lower ho0 (below_size z12x5))
                 have n1_:=Aside0.mk (blk_below (g:=qb) (o:=.cells #[.int .i64 0,.int .i64 0,.slice none 0 0,.slice none 0 0,.slice none 0 0,.slice none 0 0,.int .i64 0] 69 (0,0)) z12x9 hb)
                 have n2_:=Aside0.mk (below_step z12x5 hb)
                 clear qc
                 clear HB
                 have qi:=n0_
                 have qc:=n1_
                 have HB:=n2_
                 clear n0_ n1_ n2_
                 (try clear hb)
                 (try clear hb2)
                 (try clear hk)
                 (try clear hi)
                 (try clear ho0)
                 refine hK.out _ _ trivial (fun hHeld=>?_)
                 clear hK K
                 refine norm_ (a':=?_) ?_ ?_
                 rotate_left
                 ·show Act.put _ (some 11) _ = _
                  simp only [Act.put,List.setIfInBounds_toArray,List.set_cons_zero,List.set_cons_succ,i64_w,i32_w]
                  rfl
                 exact norm_ z12x2 (hJ0 (qq) _ ⟨z12x14,z12x9,z12x5⟩)
                ·skip
                 refine S_made0_step k28 _ 28 ?hg (N:=13) ?hd (c:=3) (zs:=#[.int .i64 0,.int .i64 0,.slice none 0 0,.slice none 0 0,.slice none 0 0,.slice none 0 0,.int .i64 0,.int .i64 0,.slice none 0 0,.slice none 0 0,.slice none 0 0,.slice none 0 0,.int .i64 0,.int .i64 0,.slice none 0 0,.slice none 0 0,.slice none 0 0,.slice none 0 0]) (ok:=fun _=>True) ?hr (by rfl) (by decide) trivial (Below.refl _ _) (Nat.le_refl _) ?_;(case hd=>rfl);(case hg=>rfl);(case hr=>first|(go_simp;done)|(go_simp;rfl)|(go_simp;kernel_rfl))
                 intro qu w7 ho8 hb hg_ hnew_
                 clear hg_ hnew_
                 (first|rw [← qz.out] at ho8|(simp only [Int.reduceToNat] at ho8;rw [← qz.out] at ho8))
                 have n0_:=Aside0.mk (Kd.S_lower ho8 (below_size z12x5))
                 have n1_:=Aside0.mk (blk_below (g:=qb) (o:=.cells #[.int .i64 0,.int .i64 0,.slice none 0 0,.slice none 0 0,.slice none 0 0,.slice none 0 0,.int .i64 0] 69 (0,0)) z12x9 hb)
                 have n2_:=Aside0.mk (below_step z12x5 hb)
                 clear qc
                 clear HB
                 have qh:=n0_
                 have qc:=n1_
                 have HB:=n2_
                 clear n0_ n1_ n2_
                 clear hb ho8
                 refine hK.out _ _ trivial (fun hHeld=>?_)
                 clear hK K
                 refine norm_ (a':=?_) ?_ ?_
                 rotate_left
                 ·show Act.put _ (some 13) _ = _
                  simp only [Act.put,List.setIfInBounds_toArray,List.set_cons_zero,List.set_cons_succ,i64_w,i32_w]
                  rfl
                 exact norm_ z12x2 (hJ2 (qu) _ ⟨z12x15,z12x9,z12x5⟩)
                ·skip
                 refine S_made0_step k128 _ 128 ?hg (N:=14) ?hd (c:=2) (zs:=#[.int .i64 0,.int .i64 0,.slice none 0 0,.slice none 0 0,.int .i64 0,.int .i64 0,.slice none 0 0,.slice none 0 0]) (ok:=fun _=>True) ?hr (by rfl) (by decide) trivial (Below.refl _ _) (Nat.le_refl _) ?_;(case hd=>rfl);(case hg=>rfl);(case hr=>first|(go_simp;done)|(go_simp;rfl)|(go_simp;kernel_rfl))
                 intro qt w7 ho8 hb hg_ hnew_
                 clear hg_ hnew_
                 (first|rw [← qy.out] at ho8|(simp only [Int.reduceToNat] at ho8;rw [← qy.out] at ho8))
                 have n0_:=Aside0.mk (Kd.S_lower ho8 (below_size z12x5))
                 have n1_:=Aside0.mk (blk_below (g:=qb) (o:=.cells #[.int .i64 0,.int .i64 0,.slice none 0 0,.slice none 0 0,.slice none 0 0,.slice none 0 0,.int .i64 0] 69 (0,0)) z12x9 hb)
                 have n2_:=Aside0.mk (below_step z12x5 hb)
                 clear qc
                 clear HB
                 have qg:=n0_
                 have qc:=n1_
                 have HB:=n2_
                 clear n0_ n1_ n2_
                 clear hb ho8
                 refine hK.out _ _ trivial (fun hHeld=>?_)
                 clear hK K
                 refine norm_ (a':=?_) ?_ ?_
                 rotate_left
                 ·show Act.put _ (some 14) _ = _
                  simp only [Act.put,List.setIfInBounds_toArray,List.set_cons_zero,List.set_cons_succ,i64_w,i32_w]
                  rfl
                 exact norm_ z12x2 (hJ3 (qt) _ ⟨z12x16,z12x9,z12x5⟩)
                ·skip
                 refine box_step ?hg (N:=4) ?hd (cs:=#[.int .i64 0,.int .i64 0,.slice none 0 0,.slice none 0 0,.slice none 0 0,.slice none 0 0,.int .i64 0]) (t:=69) ?hr ?_;(case hd=>rfl);(case hg=>rfl);(case hr=>first|(go_simp;done)|(go_simp;rfl))
                 intro qa hg w7 hbox hb
                 have n0_:=Aside0.mk (blk_below (g:=qb) (o:=.cells #[.int .i64 0,.int .i64 0,.slice none 0 0,.slice none 0 0,.slice none 0 0,.slice none 0 0,.int .i64 0] 69 (0,0)) z12x9 hb)
                 have n1_:=Aside0.mk (below_step z12x5 hb)
                 have n2_:=Aside0.mk (hbox)
                 have n3_:=Aside0.mk ((z12x4 : w.heap.size ≤ qa))
                 have n4_:=Aside0.mk ((z12x4 : w.heap.size ≤ qa))
                 have n5_:=Aside0.mk ((z12x1 : qb ≠ qa))
                 have n6_:=Aside0.mk ((z12x0 : qa ≠ qb))
                 clear qc
                 clear HB
                 have qc:=n0_
                 have HB:=n1_
                 have qd:=n2_
                 have qn:=n3_
                 have qk:=n4_
                 have qe:=n5_
                 have qf:=n6_
                 clear n0_ n1_ n2_ n3_ n4_ n5_ n6_
                 clear hb hbox hg
                 refine hK.out _ _ trivial (fun hHeld=>?_)
                 clear hK K
                 refine norm_ (a':=?_) ?_ ?_
                 rotate_left
                 ·show Act.put _ (some 4) _ = _
                  simp only [Act.put,List.setIfInBounds_toArray,List.set_cons_zero,List.set_cons_succ,i64_w,i32_w]
                  rfl
                 exact norm_ z12x2 (hJ5 (qa) _ ⟨z12x9,z12x10,qn.out,qk.out,qe.out,qf.out,z12x3⟩)
               ·skip
                rintro qa w8 ⟨h0_,h1_,h2_,h3_,h4_,h5_,h6_⟩
                have n0_ : Aside0 (w8.heap[qb]? = some (.cells #[.int .i64 0,.int .i64 0,.slice none 0 0,.slice none 0 0,.slice none 0 0,.slice none 0 0,.int .i64 0] 69 (0,0))):=⟨h0_⟩
                have n1_ : Aside0 (w8.heap[qa]? = some (.cells #[.int .i64 0,.int .i64 0,.slice none 0 0,.slice none 0 0,.slice none 0 0,.slice none 0 0,.int .i64 0] 69 (0,0))):=⟨h1_⟩
                have n2_ : Aside0 (w.heap.size ≤ qa):=⟨h2_⟩
                have n3_ : Aside0 (w.heap.size ≤ qa):=⟨h3_⟩
                have n4_ : Aside0 (qb ≠ qa):=⟨h4_⟩
                have n5_ : Aside0 (qa ≠ qb):=⟨h5_⟩
                have n6_ : Aside0 (Below w.heap.size w w8):=⟨h6_⟩
                clear qc
                clear HB
                clear h0_ h1_ h2_ h3_ h4_ h5_ h6_
                have qc:=n0_
                have qd:=n1_
                have qn:=n2_
                have qk:=n3_
                have qe:=n4_
                have qf:=n5_
                have HB:=n6_
                clear n0_ n1_ n2_ n3_ n4_ n5_ n6_
                have hHeld:=trivial
                refine norm_ (a':=?_) ?_ ?_
                rotate_left
                ·simp only [putAll,Act.put,List.setIfInBounds_toArray,List.set_cons_zero,List.set_cons_succ]
                 rfl
                refine three_ (i:=0) (j:=2) (k:=3) (Ni:=some 11) (Nj:=some 13) (Nk:=some 14) #[true,true,false,false,false,true,false] #[false,true,true,false,false,true,false] #[false,true,false,true,false,true,false] rfl rfl rfl rfl rfl rfl (by kernel_rfl) (by decide) (by decide) (by decide) (fun K hK=>?_) (fun K hK=>?_) (fun K hK=>?_)
                ·skip
                 refine goes_ Try.func101 (by kernel_rfl) rfl #[] (by rfl) rfl rfl z12x7 ?_
                 with_reducible refine (impl_KdcNew.calls  qm qj _ A4.out).mono ?_
                 rintro e w9 ⟨qq,rfl,ho0,hb⟩
                 refine ⟨_,rfl,?_⟩
                 have n0_:=Aside0.mk (Kd.R_lower ho0 (below_size z12x3))
                 have n1_:=Aside0.mk (blk_below (g:=qb) (o:=.cells #[.int .i64 0,.int .i64 0,.slice none 0 0,.slice none 0 0,.slice none 0 0,.slice none 0 0,.int .i64 0] 69 (0,0)) z12x9 hb)
                 have n2_:=Aside0.mk (blk_below (g:=qa) (o:=.cells #[.int .i64 0,.int .i64 0,.slice none 0 0,.slice none 0 0,.slice none 0 0,.slice none 0 0,.int .i64 0] 69 (0,0)) z12x10 hb)
                 have n3_:=Aside0.mk (below_step z12x3 hb)
                 clear qc
                 clear qd
                 clear HB
                 have qi:=n0_
                 have qc:=n1_
                 have qd:=n2_
                 have HB:=n3_
                 clear n0_ n1_ n2_ n3_
                 (try clear hb)
                 (try clear hb2)
                 (try clear hk)
                 (try clear hi)
                 (try clear ho0)
                 refine hK.out _ _ trivial (fun hHeld=>?_)
                 clear hK K
                 refine norm_ (a':=?_) ?_ ?_
                 rotate_left
                 ·show Act.put _ (some 11) _ = _
                  simp only [Act.put,List.setIfInBounds_toArray,List.set_cons_zero,List.set_cons_succ,i64_w,i32_w]
                  rfl
                 exact norm_ z12x2 (jq (qq,qa) _ ⟨z12x14,z12x9,z12x10,qn.out,qk.out,qe.out,qf.out,z12x3⟩)
                ·skip
                 refine S_made0_step k28 _ 28 ?hg (N:=13) ?hd (c:=3) (zs:=#[.int .i64 0,.int .i64 0,.slice none 0 0,.slice none 0 0,.slice none 0 0,.slice none 0 0,.int .i64 0,.int .i64 0,.slice none 0 0,.slice none 0 0,.slice none 0 0,.slice none 0 0,.int .i64 0,.int .i64 0,.slice none 0 0,.slice none 0 0,.slice none 0 0,.slice none 0 0]) (ok:=fun _=>True) ?hr (by rfl) (by decide) trivial (Below.refl _ _) (Nat.le_refl _) ?_;(case hd=>rfl);(case hg=>rfl);(case hr=>first|(go_simp;done)|(go_simp;rfl)|(go_simp;kernel_rfl))
                 intro qu w9 wd hb hg_ hnew_
                 clear hg_ hnew_
                 (first|rw [← qz.out] at wd|(simp only [Int.reduceToNat] at wd;rw [← qz.out] at wd))
                 have n0_:=Aside0.mk (Kd.S_lower wd (below_size z12x3))
                 have n1_:=Aside0.mk (blk_below (g:=qb) (o:=.cells #[.int .i64 0,.int .i64 0,.slice none 0 0,.slice none 0 0,.slice none 0 0,.slice none 0 0,.int .i64 0] 69 (0,0)) z12x9 hb)
                 have n2_:=Aside0.mk (blk_below (g:=qa) (o:=.cells #[.int .i64 0,.int .i64 0,.slice none 0 0,.slice none 0 0,.slice none 0 0,.slice none 0 0,.int .i64 0] 69 (0,0)) z12x10 hb)
                 have n3_:=Aside0.mk (below_step z12x3 hb)
                 clear qc
                 clear qd
                 clear HB
                 have qh:=n0_
                 have qc:=n1_
                 have qd:=n2_
                 have HB:=n3_
                 clear n0_ n1_ n2_ n3_
                 clear hb wd
                 refine hK.out _ _ trivial (fun hHeld=>?_)
                 clear hK K
                 refine norm_ (a':=?_) ?_ ?_
                 rotate_left
                 ·show Act.put _ (some 13) _ = _
                  simp only [Act.put,List.setIfInBounds_toArray,List.set_cons_zero,List.set_cons_succ,i64_w,i32_w]
                  rfl
                 exact norm_ z12x2 (jo (qu,qa) _ ⟨z12x15,z12x9,z12x10,qn.out,qk.out,qe.out,qf.out,z12x3⟩)
                ·skip
                 refine S_made0_step k128 _ 128 ?hg (N:=14) ?hd (c:=2) (zs:=#[.int .i64 0,.int .i64 0,.slice none 0 0,.slice none 0 0,.int .i64 0,.int .i64 0,.slice none 0 0,.slice none 0 0]) (ok:=fun _=>True) ?hr (by rfl) (by decide) trivial (Below.refl _ _) (Nat.le_refl _) ?_;(case hd=>rfl);(case hg=>rfl);(case hr=>first|(go_simp;done)|(go_simp;rfl)|(go_simp;kernel_rfl))
                 intro qt w9 wd hb hg_ hnew_
                 clear hg_ hnew_
                 (first|rw [← qy.out] at wd|(simp only [Int.reduceToNat] at wd;rw [← qy.out] at wd))
                 have n0_:=Aside0.mk (Kd.S_lower wd (below_size z12x3))
                 have n1_:=Aside0.mk (blk_below (g:=qb) (o:=.cells #[.int .i64 0,.int .i64 0,.slice none 0 0,.slice none 0 0,.slice none 0 0,.slice none 0 0,.int .i64 0] 69 (0,0)) z12x9 hb)
                 have n2_:=Aside0.mk (blk_below (g:=qa) (o:=.cells #[.int .i64 0,.int .i64 0,.slice none 0 0,.slice none 0 0,.slice none 0 0,.slice none 0 0,.int .i64 0] 69 (0,0)) z12x10 hb)
                 have n3_:=Aside0.mk (below_step z12x3 hb)
                 clear qc
                 clear qd
                 clear HB
                 have qg:=n0_
                 have qc:=n1_
                 have qd:=n2_
                 have HB:=n3_
                 clear n0_ n1_ n2_ n3_
                 clear hb wd
                 refine hK.out _ _ trivial (fun hHeld=>?_)
                 clear hK K
                 refine norm_ (a':=?_) ?_ ?_
                 rotate_left
                 ·show Act.put _ (some 14) _ = _
                  simp only [Act.put,List.setIfInBounds_toArray,List.set_cons_zero,List.set_cons_succ,i64_w,i32_w]
                  rfl
                 exact norm_ z12x2 (jn (qt,qa) _ ⟨z12x16,z12x9,z12x10,qn.out,qk.out,qe.out,qf.out,z12x3⟩)
              ·skip
               rintro qt w9 ⟨h0_,h1_,h2_⟩
               have n0_ : Aside0 (Kd.S k128 128 w9 w.heap.size (fun _=>True) qt qp):=⟨h0_⟩
               have n1_ : Aside0 (w9.heap[qb]? = some (.cells #[.int .i64 0,.int .i64 0,.slice none 0 0,.slice none 0 0,.slice none 0 0,.slice none 0 0,.int .i64 0] 69 (0,0))):=⟨h1_⟩
               have n2_ : Aside0 (Below w.heap.size w w9):=⟨h2_⟩
               clear qc
               clear HB
               clear h0_ h1_ h2_
               have qg:=n0_
               have qc:=n1_
               have HB:=n2_
               clear n0_ n1_ n2_
               have hHeld:=trivial
               refine norm_ (a':=?_) ?_ ?_
               rotate_left
               ·simp only [putAll,Act.put,List.setIfInBounds_toArray,List.set_cons_zero,List.set_cons_succ]
                rfl
               refine three_ (i:=0) (j:=2) (k:=5) (Ni:=some 11) (Nj:=some 13) (Nk:=some 4) #[true,true,false,true,false,false,false] #[false,true,true,true,false,false,false] #[false,true,false,true,false,true,false] rfl rfl rfl rfl rfl rfl (by kernel_rfl) (by decide) (by decide) (by decide) (fun K hK=>?_) (fun K hK=>?_) (fun K hK=>?_)
               ·skip
                refine goes_ Try.func101 (by kernel_rfl) rfl #[] (by rfl) rfl rfl z12x7 ?_
                with_reducible refine (impl_KdcNew.calls  qm qj _ A4.out).mono ?_
                rintro e w10 ⟨qq,rfl,ho0,hb⟩
                refine ⟨_,rfl,?_⟩
                have n0_:=Aside0.mk (Kd.S_elder' z12x16 (Kd.R_base ho0) hb)
                have n1_:=Aside0.mk (Kd.R_lower ho0 (below_size z12x5))
                have n2_:=Aside0.mk (blk_below (g:=qb) (o:=.cells #[.int .i64 0,.int .i64 0,.slice none 0 0,.slice none 0 0,.slice none 0 0,.slice none 0 0,.int .i64 0] 69 (0,0)) z12x9 hb)
                have n3_:=Aside0.mk (below_step z12x5 hb)
                clear qg
                clear qc
                clear HB
                have qg:=n0_
                have qi:=n1_
                have qc:=n2_
                have HB:=n3_
                clear n0_ n1_ n2_ n3_
                (try clear hb)
                (try clear hb2)
                (try clear hk)
                (try clear hi)
                (try clear ho0)
                refine hK.out _ _ trivial (fun hHeld=>?_)
                clear hK K
                refine norm_ (a':=?_) ?_ ?_
                rotate_left
                ·show Act.put _ (some 11) _ = _
                 simp only [Act.put,List.setIfInBounds_toArray,List.set_cons_zero,List.set_cons_succ,i64_w,i32_w]
                 rfl
                exact norm_ z12x2 (jr (qq,qt) _ ⟨z12x14,z12x8,z12x9,z12x5⟩)
               ·skip
                refine S_made0_step k28 _ 28 ?hg (N:=13) ?hd (c:=3) (zs:=#[.int .i64 0,.int .i64 0,.slice none 0 0,.slice none 0 0,.slice none 0 0,.slice none 0 0,.int .i64 0,.int .i64 0,.slice none 0 0,.slice none 0 0,.slice none 0 0,.slice none 0 0,.int .i64 0,.int .i64 0,.slice none 0 0,.slice none 0 0,.slice none 0 0,.slice none 0 0]) (ok:=fun _=>True) ?hr (by rfl) (by decide) trivial (Below.refl _ _) (Nat.le_refl _) ?_;(case hd=>rfl);(case hg=>rfl);(case hr=>first|(go_simp;done)|(go_simp;rfl)|(go_simp;kernel_rfl))
                intro qu w10 wc hb hg_ hnew_
                clear hg_ hnew_
                (first|rw [← qz.out] at wc|(simp only [Int.reduceToNat] at wc;rw [← qz.out] at wc))
                have n0_:=Aside0.mk (Kd.S_below z12x16 hb)
                have n1_:=Aside0.mk (Kd.S_lower wc (below_size z12x5))
                have n2_:=Aside0.mk (blk_below (g:=qb) (o:=.cells #[.int .i64 0,.int .i64 0,.slice none 0 0,.slice none 0 0,.slice none 0 0,.slice none 0 0,.int .i64 0] 69 (0,0)) z12x9 hb)
                have n3_:=Aside0.mk (below_step z12x5 hb)
                clear qg
                clear qc
                clear HB
                have qg:=n0_
                have qh:=n1_
                have qc:=n2_
                have HB:=n3_
                clear n0_ n1_ n2_ n3_
                clear hb wc
                refine hK.out _ _ trivial (fun hHeld=>?_)
                clear hK K
                refine norm_ (a':=?_) ?_ ?_
                rotate_left
                ·show Act.put _ (some 13) _ = _
                 simp only [Act.put,List.setIfInBounds_toArray,List.set_cons_zero,List.set_cons_succ,i64_w,i32_w]
                 rfl
                exact norm_ z12x2 (jp (qu,qt) _ ⟨z12x15,z12x16,z12x9,z12x5⟩)
               ·skip
                refine box_step ?hg (N:=4) ?hd (cs:=#[.int .i64 0,.int .i64 0,.slice none 0 0,.slice none 0 0,.slice none 0 0,.slice none 0 0,.int .i64 0]) (t:=69) ?hr ?_;(case hd=>rfl);(case hg=>rfl);(case hr=>first|(go_simp;done)|(go_simp;rfl))
                intro qa hg w10 hbox hb
                have n0_:=Aside0.mk (Kd.S_below z12x16 hb)
                have n1_:=Aside0.mk (blk_below (g:=qb) (o:=.cells #[.int .i64 0,.int .i64 0,.slice none 0 0,.slice none 0 0,.slice none 0 0,.slice none 0 0,.int .i64 0] 69 (0,0)) z12x9 hb)
                have n2_:=Aside0.mk (below_step z12x5 hb)
                have n3_:=Aside0.mk (hbox)
                have n4_:=Aside0.mk ((z12x4 : w.heap.size ≤ qa))
                have n5_:=Aside0.mk ((z12x4 : w.heap.size ≤ qa))
                have n6_:=Aside0.mk ((z12x1 : qb ≠ qa))
                have n7_:=Aside0.mk ((z12x0 : qa ≠ qb))
                clear qg
                clear qc
                clear HB
                have qg:=n0_
                have qc:=n1_
                have HB:=n2_
                have qd:=n3_
                have qn:=n4_
                have qk:=n5_
                have qe:=n6_
                have qf:=n7_
                clear n0_ n1_ n2_ n3_ n4_ n5_ n6_ n7_
                clear hb hbox hg
                refine hK.out _ _ trivial (fun hHeld=>?_)
                clear hK K
                refine norm_ (a':=?_) ?_ ?_
                rotate_left
                ·show Act.put _ (some 4) _ = _
                 simp only [Act.put,List.setIfInBounds_toArray,List.set_cons_zero,List.set_cons_succ,i64_w,i32_w]
                 rfl
                exact norm_ z12x2 (jn (qt,qa) _ ⟨z12x16,z12x9,z12x10,qn.out,qk.out,qe.out,qf.out,z12x3⟩)
             ·skip
              rintro qu w9 ⟨h0_,h1_,h2_⟩
              have n0_ : Aside0 (Kd.S k28 28 w9 w.heap.size (fun _=>True) qu qv):=⟨h0_⟩
              have n1_ : Aside0 (w9.heap[qb]? = some (.cells #[.int .i64 0,.int .i64 0,.slice none 0 0,.slice none 0 0,.slice none 0 0,.slice none 0 0,.int .i64 0] 69 (0,0))):=⟨h1_⟩
              have n2_ : Aside0 (Below w.heap.size w w9):=⟨h2_⟩
              clear qc
              clear HB
              clear h0_ h1_ h2_
              have qh:=n0_
              have qc:=n1_
              have HB:=n2_
              clear n0_ n1_ n2_
              have hHeld:=trivial
              refine norm_ (a':=?_) ?_ ?_
              rotate_left
              ·simp only [putAll,Act.put,List.setIfInBounds_toArray,List.set_cons_zero,List.set_cons_succ]
               rfl
              refine three_ (i:=0) (j:=3) (k:=5) (Ni:=some 11) (Nj:=some 14) (Nk:=some 4) #[true,true,true,false,false,false,false] #[false,true,true,true,false,false,false] #[false,true,true,false,false,true,false] rfl rfl rfl rfl rfl rfl (by kernel_rfl) (by decide) (by decide) (by decide) (fun K hK=>?_) (fun K hK=>?_) (fun K hK=>?_)
              ·skip
               refine goes_ Try.func101 (by kernel_rfl) rfl #[] (by rfl) rfl rfl z12x7 ?_
               with_reducible refine (impl_KdcNew.calls  qm qj _ A4.out).mono ?_
               rintro e w10 ⟨qq,rfl,ho0,hb⟩
               refine ⟨_,rfl,?_⟩
               have n0_:=Aside0.mk (Kd.S_below z12x15 hb)
               have n1_:=Aside0.mk (Kd.R_lower ho0 (below_size z12x5))
               have n2_:=Aside0.mk (blk_below (g:=qb) (o:=.cells #[.int .i64 0,.int .i64 0,.slice none 0 0,.slice none 0 0,.slice none 0 0,.slice none 0 0,.int .i64 0] 69 (0,0)) z12x9 hb)
               have n3_:=Aside0.mk (below_step z12x5 hb)
               clear qh
               clear qc
               clear HB
               have qh:=n0_
               have qi:=n1_
               have qc:=n2_
               have HB:=n3_
               clear n0_ n1_ n2_ n3_
               (try clear hb)
               (try clear hb2)
               (try clear hk)
               (try clear hi)
               (try clear ho0)
               refine hK.out _ _ trivial (fun hHeld=>?_)
               clear hK K
               refine norm_ (a':=?_) ?_ ?_
               rotate_left
               ·show Act.put _ (some 11) _ = _
                simp only [Act.put,List.setIfInBounds_toArray,List.set_cons_zero,List.set_cons_succ,i64_w,i32_w]
                rfl
               exact norm_ z12x2 (js (qq,qu) _ ⟨z12x14,z12x15,z12x9,z12x5⟩)
              ·skip
               refine S_made0_step k128 _ 128 ?hg (N:=14) ?hd (c:=2) (zs:=#[.int .i64 0,.int .i64 0,.slice none 0 0,.slice none 0 0,.int .i64 0,.int .i64 0,.slice none 0 0,.slice none 0 0]) (ok:=fun _=>True) ?hr (by rfl) (by decide) trivial (Below.refl _ _) (Nat.le_refl _) ?_;(case hd=>rfl);(case hg=>rfl);(case hr=>first|(go_simp;done)|(go_simp;rfl)|(go_simp;kernel_rfl))
               intro qt w10 wc hb hg_ hnew_
               clear hg_ hnew_
               (first|rw [← qy.out] at wc|(simp only [Int.reduceToNat] at wc;rw [← qy.out] at wc))
               have n0_:=Aside0.mk (Kd.S_below z12x15 hb)
               have n1_:=Aside0.mk (Kd.S_lower wc (below_size z12x5))
               have n2_:=Aside0.mk (blk_below (g:=qb) (o:=.cells #[.int .i64 0,.int .i64 0,.slice none 0 0,.slice none 0 0,.slice none 0 0,.slice none 0 0,.int .i64 0] 69 (0,0)) z12x9 hb)
               have n3_:=Aside0.mk (below_step z12x5 hb)
               clear qh
               clear qc
               clear HB
               have qh:=n0_
               have qg:=n1_
               have qc:=n2_
               have HB:=n3_
               clear n0_ n1_ n2_ n3_
               clear hb wc
               refine hK.out _ _ trivial (fun hHeld=>?_)
               clear hK K
               refine norm_ (a':=?_) ?_ ?_
               rotate_left
               ·show Act.put _ (some 14) _ = _
                simp only [Act.put,List.setIfInBounds_toArray,List.set_cons_zero,List.set_cons_succ,i64_w,i32_w]
                rfl
               exact norm_ z12x2 (jp (qu,qt) _ ⟨z12x15,z12x16,z12x9,z12x5⟩)
              ·skip
               refine box_step ?hg (N:=4) ?hd (cs:=#[.int .i64 0,.int .i64 0,.slice none 0 0,.slice none 0 0,.slice none 0 0,.slice none 0 0,.int .i64 0]) (t:=69) ?hr ?_;(case hd=>rfl);(case hg=>rfl);(case hr=>first|(go_simp;done)|(go_simp;rfl))
               intro qa hg w10 hbox hb
               have n0_:=Aside0.mk (Kd.S_below z12x15 hb)
               have n1_:=Aside0.mk (blk_below (g:=qb) (o:=.cells #[.int .i64 0,.int .i64 0,.slice none 0 0,.slice none 0 0,.slice none 0 0,.slice none 0 0,.int .i64 0] 69 (0,0)) z12x9 hb)
               have n2_:=Aside0.mk (below_step z12x5 hb)
               have n3_:=Aside0.mk (hbox)
               have n4_:=Aside0.mk ((z12x4 : w.heap.size ≤ qa))
               have n5_:=Aside0.mk ((z12x4 : w.heap.size ≤ qa))
               have n6_:=Aside0.mk ((z12x1 : qb ≠ qa))
               have n7_:=Aside0.mk ((z12x0 : qa ≠ qb))
               clear qh
               clear qc
               clear HB
               have qh:=n0_
               have qc:=n1_
               have HB:=n2_
               have qd:=n3_
               have qn:=n4_
               have qk:=n5_
               have qe:=n6_
               have qf:=n7_
               clear n0_ n1_ n2_ n3_ n4_ n5_ n6_ n7_
               clear hb hbox hg
               refine hK.out _ _ trivial (fun hHeld=>?_)
               clear hK K
               refine norm_ (a':=?_) ?_ ?_
               rotate_left
               ·show Act.put _ (some 4) _ = _
                simp only [Act.put,List.setIfInBounds_toArray,List.set_cons_zero,List.set_cons_succ,i64_w,i32_w]
                rfl
               exact norm_ z12x2 (jo (qu,qa) _ ⟨z12x15,z12x9,z12x10,qn.out,qk.out,qe.out,qf.out,z12x3⟩)
            ·skip
             rintro qq w8 ⟨h0_,h1_,h2_⟩
             have n0_ : Aside0 (Kd.R k41 41 w8 w.heap.size (fun _=>True) qq qj):=⟨h0_⟩
             have n1_ : Aside0 (w8.heap[qb]? = some (.cells #[.int .i64 0,.int .i64 0,.slice none 0 0,.slice none 0 0,.slice none 0 0,.slice none 0 0,.int .i64 0] 69 (0,0))):=⟨h1_⟩
             have n2_ : Aside0 (Below w.heap.size w w8):=⟨h2_⟩
             clear qc
             clear HB
             clear h0_ h1_ h2_
             have qi:=n0_
             have qc:=n1_
             have HB:=n2_
             clear n0_ n1_ n2_
             have hHeld:=trivial
             refine norm_ (a':=?_) ?_ ?_
             rotate_left
             ·simp only [putAll,Act.put,List.setIfInBounds_toArray,List.set_cons_zero,List.set_cons_succ]
              rfl
             refine three_ (i:=2) (j:=3) (k:=5) (Ni:=some 13) (Nj:=some 14) (Nk:=some 4) #[true,true,true,false,false,false,false] #[true,true,false,true,false,false,false] #[true,true,false,false,false,true,false] rfl rfl rfl rfl rfl rfl (by kernel_rfl) (by decide) (by decide) (by decide) (fun K hK=>?_) (fun K hK=>?_) (fun K hK=>?_)
             ·skip
              refine S_made0_step k28 _ 28 ?hg (N:=13) ?hd (c:=3) (zs:=#[.int .i64 0,.int .i64 0,.slice none 0 0,.slice none 0 0,.slice none 0 0,.slice none 0 0,.int .i64 0,.int .i64 0,.slice none 0 0,.slice none 0 0,.slice none 0 0,.slice none 0 0,.int .i64 0,.int .i64 0,.slice none 0 0,.slice none 0 0,.slice none 0 0,.slice none 0 0]) (ok:=fun _=>True) ?hr (by rfl) (by decide) trivial (Below.refl _ _) (Nat.le_refl _) ?_;(case hd=>rfl);(case hg=>rfl);(case hr=>first|(go_simp;done)|(go_simp;rfl)|(go_simp;kernel_rfl))
              intro qu w9 wd hb hg_ hnew_
              clear hg_ hnew_
              (first|rw [← qz.out] at wd|(simp only [Int.reduceToNat] at wd;rw [← qz.out] at wd))
              have n0_:=Aside0.mk (Kd.R_below z12x14 hb)
              have n1_:=Aside0.mk (Kd.S_lower wd (below_size z12x5))
              have n2_:=Aside0.mk (blk_below (g:=qb) (o:=.cells #[.int .i64 0,.int .i64 0,.slice none 0 0,.slice none 0 0,.slice none 0 0,.slice none 0 0,.int .i64 0] 69 (0,0)) z12x9 hb)
              have n3_:=Aside0.mk (below_step z12x5 hb)
              clear qi
              clear qc
              clear HB
              have qi:=n0_
              have qh:=n1_
              have qc:=n2_
              have HB:=n3_
              clear n0_ n1_ n2_ n3_
              clear hb wd
              refine hK.out _ _ trivial (fun hHeld=>?_)
              clear hK K
              refine norm_ (a':=?_) ?_ ?_
              rotate_left
              ·show Act.put _ (some 13) _ = _
               simp only [Act.put,List.setIfInBounds_toArray,List.set_cons_zero,List.set_cons_succ,i64_w,i32_w]
               rfl
              exact norm_ z12x2 (js (qq,qu) _ ⟨z12x14,z12x15,z12x9,z12x5⟩)
             ·skip
              refine S_made0_step k128 _ 128 ?hg (N:=14) ?hd (c:=2) (zs:=#[.int .i64 0,.int .i64 0,.slice none 0 0,.slice none 0 0,.int .i64 0,.int .i64 0,.slice none 0 0,.slice none 0 0]) (ok:=fun _=>True) ?hr (by rfl) (by decide) trivial (Below.refl _ _) (Nat.le_refl _) ?_;(case hd=>rfl);(case hg=>rfl);(case hr=>first|(go_simp;done)|(go_simp;rfl)|(go_simp;kernel_rfl))
              intro qt w9 wd hb hg_ hnew_
              clear hg_ hnew_
              (first|rw [← qy.out] at wd|(simp only [Int.reduceToNat] at wd;rw [← qy.out] at wd))
              have n0_:=Aside0.mk (Kd.R_below z12x14 hb)
              have n1_:=Aside0.mk (Kd.S_lower (Kd.S_new' wd (Kd.R_lt z12x14)) (below_size z12x5))
              have n2_:=Aside0.mk (blk_below (g:=qb) (o:=.cells #[.int .i64 0,.int .i64 0,.slice none 0 0,.slice none 0 0,.slice none 0 0,.slice none 0 0,.int .i64 0] 69 (0,0)) z12x9 hb)
              have n3_:=Aside0.mk (below_step z12x5 hb)
              clear qi
              clear qc
              clear HB
              have qi:=n0_
              have qg:=n1_
              have qc:=n2_
              have HB:=n3_
              clear n0_ n1_ n2_ n3_
              clear hb wd
              refine hK.out _ _ trivial (fun hHeld=>?_)
              clear hK K
              refine norm_ (a':=?_) ?_ ?_
              rotate_left
              ·show Act.put _ (some 14) _ = _
               simp only [Act.put,List.setIfInBounds_toArray,List.set_cons_zero,List.set_cons_succ,i64_w,i32_w]
               rfl
              exact norm_ z12x2 (jr (qq,qt) _ ⟨z12x14,z12x8,z12x9,z12x5⟩)
             ·skip
              refine box_step ?hg (N:=4) ?hd (cs:=#[.int .i64 0,.int .i64 0,.slice none 0 0,.slice none 0 0,.slice none 0 0,.slice none 0 0,.int .i64 0]) (t:=69) ?hr ?_;(case hd=>rfl);(case hg=>rfl);(case hr=>first|(go_simp;done)|(go_simp;rfl))
              intro qa hg w9 hbox hb
              have n0_:=Aside0.mk (Kd.R_below z12x14 hb)
              have n1_:=Aside0.mk (blk_below (g:=qb) (o:=.cells #[.int .i64 0,.int .i64 0,.slice none 0 0,.slice none 0 0,.slice none 0 0,.slice none 0 0,.int .i64 0] 69 (0,0)) z12x9 hb)
              have n2_:=Aside0.mk (below_step z12x5 hb)
              have n3_:=Aside0.mk (hbox)
              have n4_:=Aside0.mk ((z12x4 : w.heap.size ≤ qa))
              have n5_:=Aside0.mk ((z12x4 : w.heap.size ≤ qa))
              have n6_:=Aside0.mk ((z12x1 : qb ≠ qa))
              have n7_:=Aside0.mk ((z12x0 : qa ≠ qb))
              clear qi
              clear qc
              clear HB
              have qi:=n0_
              have qc:=n1_
              have HB:=n2_
              have qd:=n3_
              have qn:=n4_
              have qk:=n5_
              have qe:=n6_
              have qf:=n7_
              clear n0_ n1_ n2_ n3_ n4_ n5_ n6_ n7_
              clear hb hbox hg
              refine hK.out _ _ trivial (fun hHeld=>?_)
              clear hK K
              refine norm_ (a':=?_) ?_ ?_
              rotate_left
              ·show Act.put _ (some 4) _ = _
               simp only [Act.put,List.setIfInBounds_toArray,List.set_cons_zero,List.set_cons_succ,i64_w,i32_w]
               rfl
              exact norm_ z12x2 (jq (qq,qa) _ ⟨z12x14,z12x9,z12x10,qn.out,qk.out,qe.out,qf.out,z12x3⟩)
           ·skip
            rintro ⟨qt,qa⟩ w10 ⟨h0_,h1_,h2_,h3_,h4_,h5_,h6_,h7_⟩
            have n0_ : Aside0 (Kd.S k128 128 w10 w.heap.size (fun _=>True) qt qp):=⟨h0_⟩
            have n1_ : Aside0 (w10.heap[qb]? = some (.cells #[.int .i64 0,.int .i64 0,.slice none 0 0,.slice none 0 0,.slice none 0 0,.slice none 0 0,.int .i64 0] 69 (0,0))):=⟨h1_⟩
            have n2_ : Aside0 (w10.heap[qa]? = some (.cells #[.int .i64 0,.int .i64 0,.slice none 0 0,.slice none 0 0,.slice none 0 0,.slice none 0 0,.int .i64 0] 69 (0,0))):=⟨h2_⟩
            have n3_ : Aside0 (w.heap.size ≤ qa):=⟨h3_⟩
            have n4_ : Aside0 (w.heap.size ≤ qa):=⟨h4_⟩
            have n5_ : Aside0 (qb ≠ qa):=⟨h5_⟩
            have n6_ : Aside0 (qa ≠ qb):=⟨h6_⟩
            have n7_ : Aside0 (Below w.heap.size w w10):=⟨h7_⟩
            clear qc
            clear HB
            clear h0_ h1_ h2_ h3_ h4_ h5_ h6_ h7_
            have qg:=n0_
            have qc:=n1_
            have qd:=n2_
            have qn:=n3_
            have qk:=n4_
            have qe:=n5_
            have qf:=n6_
            have HB:=n7_
            clear n0_ n1_ n2_ n3_ n4_ n5_ n6_ n7_
            have hHeld:=trivial
            refine norm_ (a':=?_) ?_ ?_
            rotate_left
            ·simp only [putAll,Act.put,List.setIfInBounds_toArray,List.set_cons_zero,List.set_cons_succ]
             rfl
            refine two_ (i:=0) (j:=2) (Ni:=some 11) (Nj:=some 13) #[true,true,false,true,false,true,false] #[false,true,true,true,false,true,false] rfl rfl rfl rfl (by kernel_rfl) (by decide) (by decide) (fun K hK=>?_) (fun K hK=>?_)
            ·skip
             refine goes_ Try.func101 (by kernel_rfl) rfl #[] (by rfl) rfl rfl z12x7 ?_
             with_reducible refine (impl_KdcNew.calls  qm qj _ A4.out).mono ?_
             rintro e w11 ⟨qq,rfl,ho0,hb⟩
             refine ⟨_,rfl,?_⟩
             have n0_:=Aside0.mk (Kd.S_elder' z12x16 (Kd.R_base ho0) hb)
             have n1_:=Aside0.mk (Kd.R_lower ho0 (below_size z12x3))
             have n2_:=Aside0.mk (blk_below (g:=qb) (o:=.cells #[.int .i64 0,.int .i64 0,.slice none 0 0,.slice none 0 0,.slice none 0 0,.slice none 0 0,.int .i64 0] 69 (0,0)) z12x9 hb)
             have n3_:=Aside0.mk (blk_below (g:=qa) (o:=.cells #[.int .i64 0,.int .i64 0,.slice none 0 0,.slice none 0 0,.slice none 0 0,.slice none 0 0,.int .i64 0] 69 (0,0)) z12x10 hb)
             have n4_:=Aside0.mk (below_step z12x3 hb)
             clear qg
             clear qc
             clear qd
             clear HB
             have qg:=n0_
             have qi:=n1_
             have qc:=n2_
             have qd:=n3_
             have HB:=n4_
             clear n0_ n1_ n2_ n3_ n4_
             (try clear hb)
             (try clear hb2)
             (try clear hk)
             (try clear hi)
             (try clear ho0)
             refine hK.out _ _ trivial (fun hHeld=>?_)
             clear hK K
             refine norm_ (a':=?_) ?_ ?_
             rotate_left
             ·show Act.put _ (some 11) _ = _
              simp only [Act.put,List.setIfInBounds_toArray,List.set_cons_zero,List.set_cons_succ,i64_w,i32_w]
              rfl
             exact norm_ z12x2 (hJ0_3_5 (qq,qt,qa) _ ⟨z12x14,z12x8,z12x9,z12x10,qn.out,qk.out,qe.out,qf.out,z12x3⟩)
            ·skip
             refine S_made0_step k28 _ 28 ?hg (N:=13) ?hd (c:=3) (zs:=#[.int .i64 0,.int .i64 0,.slice none 0 0,.slice none 0 0,.slice none 0 0,.slice none 0 0,.int .i64 0,.int .i64 0,.slice none 0 0,.slice none 0 0,.slice none 0 0,.slice none 0 0,.int .i64 0,.int .i64 0,.slice none 0 0,.slice none 0 0,.slice none 0 0,.slice none 0 0]) (ok:=fun _=>True) ?hr (by rfl) (by decide) trivial (Below.refl _ _) (Nat.le_refl _) ?_;(case hd=>rfl);(case hg=>rfl);(case hr=>first|(go_simp;done)|(go_simp;rfl)|(go_simp;kernel_rfl))
             intro qu w11 wb hb hg_ hnew_
             clear hg_ hnew_
             (first|rw [← qz.out] at wb|(simp only [Int.reduceToNat] at wb;rw [← qz.out] at wb))
             have n0_:=Aside0.mk (Kd.S_below z12x16 hb)
             have n1_:=Aside0.mk (Kd.S_lower wb (below_size z12x3))
             have n2_:=Aside0.mk (blk_below (g:=qb) (o:=.cells #[.int .i64 0,.int .i64 0,.slice none 0 0,.slice none 0 0,.slice none 0 0,.slice none 0 0,.int .i64 0] 69 (0,0)) z12x9 hb)
             have n3_:=Aside0.mk (blk_below (g:=qa) (o:=.cells #[.int .i64 0,.int .i64 0,.slice none 0 0,.slice none 0 0,.slice none 0 0,.slice none 0 0,.int .i64 0] 69 (0,0)) z12x10 hb)
             have n4_:=Aside0.mk (below_step z12x3 hb)
             clear qg
             clear qc
             clear qd
             clear HB
             have qg:=n0_
             have qh:=n1_
             have qc:=n2_
             have qd:=n3_
             have HB:=n4_
             clear n0_ n1_ n2_ n3_ n4_
             clear hb wb
             refine hK.out _ _ trivial (fun hHeld=>?_)
             clear hK K
             refine norm_ (a':=?_) ?_ ?_
             rotate_left
             ·show Act.put _ (some 13) _ = _
              simp only [Act.put,List.setIfInBounds_toArray,List.set_cons_zero,List.set_cons_succ,i64_w,i32_w]
              rfl
             exact norm_ z12x2 (hJ2_3_5 (qu,qt,qa) _ ⟨z12x15,z12x16,z12x9,z12x10,qn.out,qk.out,qe.out,qf.out,z12x3⟩)
          ·skip
           rintro ⟨qu,qa⟩ w10 ⟨h0_,h1_,h2_,h3_,h4_,h5_,h6_,h7_⟩
           have n0_ : Aside0 (Kd.S k28 28 w10 w.heap.size (fun _=>True) qu qv):=⟨h0_⟩
           have n1_ : Aside0 (w10.heap[qb]? = some (.cells #[.int .i64 0,.int .i64 0,.slice none 0 0,.slice none 0 0,.slice none 0 0,.slice none 0 0,.int .i64 0] 69 (0,0))):=⟨h1_⟩
           have n2_ : Aside0 (w10.heap[qa]? = some (.cells #[.int .i64 0,.int .i64 0,.slice none 0 0,.slice none 0 0,.slice none 0 0,.slice none 0 0,.int .i64 0] 69 (0,0))):=⟨h2_⟩
           have n3_ : Aside0 (w.heap.size ≤ qa):=⟨h3_⟩
           have n4_ : Aside0 (w.heap.size ≤ qa):=⟨h4_⟩
           have n5_ : Aside0 (qb ≠ qa):=⟨h5_⟩
           have n6_ : Aside0 (qa ≠ qb):=⟨h6_⟩
           have n7_ : Aside0 (Below w.heap.size w w10):=⟨h7_⟩
           clear qc
           clear HB
           clear h0_ h1_ h2_ h3_ h4_ h5_ h6_ h7_
           have qh:=n0_
           have qc:=n1_
           have qd:=n2_
           have qn:=n3_
           have qk:=n4_
           have qe:=n5_
           have qf:=n6_
           have HB:=n7_
           clear n0_ n1_ n2_ n3_ n4_ n5_ n6_ n7_
           have hHeld:=trivial
           refine norm_ (a':=?_) ?_ ?_
           rotate_left
           ·simp only [putAll,Act.put,List.setIfInBounds_toArray,List.set_cons_zero,List.set_cons_succ]
            rfl
           refine two_ (i:=0) (j:=3) (Ni:=some 11) (Nj:=some 14) #[true,true,true,false,false,true,false] #[false,true,true,true,false,true,false] rfl rfl rfl rfl (by kernel_rfl) (by decide) (by decide) (fun K hK=>?_) (fun K hK=>?_)
           ·skip
            refine goes_ Try.func101 (by kernel_rfl) rfl #[] (by rfl) rfl rfl z12x7 ?_
            with_reducible refine (impl_KdcNew.calls  qm qj _ A4.out).mono ?_
            rintro e w11 ⟨qq,rfl,ho0,hb⟩
            refine ⟨_,rfl,?_⟩
            have n0_:=Aside0.mk (Kd.S_below z12x15 hb)
            have n1_:=Aside0.mk (Kd.R_lower ho0 (below_size z12x3))
            have n2_:=Aside0.mk (blk_below (g:=qb) (o:=.cells #[.int .i64 0,.int .i64 0,.slice none 0 0,.slice none 0 0,.slice none 0 0,.slice none 0 0,.int .i64 0] 69 (0,0)) z12x9 hb)
            have n3_:=Aside0.mk (blk_below (g:=qa) (o:=.cells #[.int .i64 0,.int .i64 0,.slice none 0 0,.slice none 0 0,.slice none 0 0,.slice none 0 0,.int .i64 0] 69 (0,0)) z12x10 hb)
            have n4_:=Aside0.mk (below_step z12x3 hb)
            clear qh
            clear qc
            clear qd
            clear HB
            have qh:=n0_
            have qi:=n1_
            have qc:=n2_
            have qd:=n3_
            have HB:=n4_
            clear n0_ n1_ n2_ n3_ n4_
            (try clear hb)
            (try clear hb2)
            (try clear hk)
            (try clear hi)
            (try clear ho0)
            refine hK.out _ _ trivial (fun hHeld=>?_)
            clear hK K
            refine norm_ (a':=?_) ?_ ?_
            rotate_left
            ·show Act.put _ (some 11) _ = _
             simp only [Act.put,List.setIfInBounds_toArray,List.set_cons_zero,List.set_cons_succ,i64_w,i32_w]
             rfl
            exact norm_ z12x2 (hJ0_2_5 (qq,qu,qa) _ ⟨z12x14,z12x15,z12x9,z12x10,qn.out,qk.out,qe.out,qf.out,z12x3⟩)
           ·skip
            refine S_made0_step k128 _ 128 ?hg (N:=14) ?hd (c:=2) (zs:=#[.int .i64 0,.int .i64 0,.slice none 0 0,.slice none 0 0,.int .i64 0,.int .i64 0,.slice none 0 0,.slice none 0 0]) (ok:=fun _=>True) ?hr (by rfl) (by decide) trivial (Below.refl _ _) (Nat.le_refl _) ?_;(case hd=>rfl);(case hg=>rfl);(case hr=>first|(go_simp;done)|(go_simp;rfl)|(go_simp;kernel_rfl))
            intro qt w11 wb hb hg_ hnew_
            clear hg_ hnew_
            (first|rw [← qy.out] at wb|(simp only [Int.reduceToNat] at wb;rw [← qy.out] at wb))
            have n0_:=Aside0.mk (Kd.S_below z12x15 hb)
            have n1_:=Aside0.mk (Kd.S_lower wb (below_size z12x3))
            have n2_:=Aside0.mk (blk_below (g:=qb) (o:=.cells #[.int .i64 0,.int .i64 0,.slice none 0 0,.slice none 0 0,.slice none 0 0,.slice none 0 0,.int .i64 0] 69 (0,0)) z12x9 hb)
            have n3_:=Aside0.mk (blk_below (g:=qa) (o:=.cells #[.int .i64 0,.int .i64 0,.slice none 0 0,.slice none 0 0,.slice none 0 0,.slice none 0 0,.int .i64 0] 69 (0,0)) z12x10 hb)
            have n4_:=Aside0.mk (below_step z12x3 hb)
            clear qh
            clear qc
            clear qd
            clear HB
            have qh:=n0_
            have qg:=n1_
            have qc:=n2_
            have qd:=n3_
            have HB:=n4_
            clear n0_ n1_ n2_ n3_ n4_
            clear hb wb
            refine hK.out _ _ trivial (fun hHeld=>?_)
            clear hK K
            refine norm_ (a':=?_) ?_ ?_
            rotate_left
            ·show Act.put _ (some 14) _ = _
             simp only [Act.put,List.setIfInBounds_toArray,List.set_cons_zero,List.set_cons_succ,i64_w,i32_w]
             rfl
            exact norm_ z12x2 (hJ2_3_5 (qu,qt,qa) _ ⟨z12x15,z12x16,z12x9,z12x10,qn.out,qk.out,qe.out,qf.out,z12x3⟩)
         ·skip
          rintro ⟨qu,qt⟩ w11 ⟨h0_,h1_,h2_,h3_⟩
          have n0_ : Aside0 (Kd.S k28 28 w11 w.heap.size (fun _=>True) qu qv):=⟨h0_⟩
          have n1_ : Aside0 (Kd.S k128 128 w11 w.heap.size (fun _=>True) qt qp):=⟨h1_⟩
          have n2_ : Aside0 (w11.heap[qb]? = some (.cells #[.int .i64 0,.int .i64 0,.slice none 0 0,.slice none 0 0,.slice none 0 0,.slice none 0 0,.int .i64 0] 69 (0,0))):=⟨h2_⟩
          have n3_ : Aside0 (Below w.heap.size w w11):=⟨h3_⟩
          clear qc
          clear HB
          clear h0_ h1_ h2_ h3_
          have qh:=n0_
          have qg:=n1_
          have qc:=n2_
          have HB:=n3_
          clear n0_ n1_ n2_ n3_
          have hHeld:=trivial
          refine norm_ (a':=?_) ?_ ?_
          rotate_left
          ·simp only [putAll,Act.put,List.setIfInBounds_toArray,List.set_cons_zero,List.set_cons_succ]
           rfl
          refine two_ (i:=0) (j:=5) (Ni:=some 11) (Nj:=some 4) #[true,true,true,true,false,false,false] #[false,true,true,true,false,true,false] rfl rfl rfl rfl (by kernel_rfl) (by decide) (by decide) (fun K hK=>?_) (fun K hK=>?_)
          ·skip
           refine goes_ Try.func101 (by kernel_rfl) rfl #[] (by rfl) rfl rfl z12x7 ?_
           with_reducible refine (impl_KdcNew.calls  qm qj _ A4.out).mono ?_
           rintro e w12 ⟨qq,rfl,ho0,hb⟩
           refine ⟨_,rfl,?_⟩
           have n0_:=Aside0.mk (Kd.S_below z12x15 hb)
           have n1_:=Aside0.mk (Kd.S_elder' z12x16 (Kd.R_base ho0) hb)
           have n2_:=Aside0.mk (Kd.R_lower ho0 (below_size z12x5))
           have n3_:=Aside0.mk (blk_below (g:=qb) (o:=.cells #[.int .i64 0,.int .i64 0,.slice none 0 0,.slice none 0 0,.slice none 0 0,.slice none 0 0,.int .i64 0] 69 (0,0)) z12x9 hb)
           have n4_:=Aside0.mk (below_step z12x5 hb)
           clear qh
           clear qg
           clear qc
           clear HB
           have qh:=n0_
           have qg:=n1_
           have qi:=n2_
           have qc:=n3_
           have HB:=n4_
           clear n0_ n1_ n2_ n3_ n4_
           (try clear hb)
           (try clear hb2)
           (try clear hk)
           (try clear hi)
           (try clear ho0)
           obtain ⟨uf,ue,vr⟩:=Kd.S_slice qg.out
           (first|subst vr|(injection vr with f1_ f2_ f3_;have f4_:=f1_.symm;have f5_:=f3_.symm;clear f1_ f2_ f3_;subst f4_;subst f5_))
           obtain ⟨vk,wy,wg⟩:=Kd.S_slice qh.out
           (first|subst wg|(injection wg with f1_ f2_ f3_;have f4_:=f1_.symm;have f5_:=f3_.symm;clear f1_ f2_ f3_;subst f4_;subst f5_))
           obtain ⟨wz,wx,we⟩:=Kd.R_slice qi.out
           (first|subst we|(injection we with f1_ f2_ f3_;have f4_:=f1_.symm;have f5_:=f3_.symm;clear f1_ f2_ f3_;subst f4_;subst f5_))
           refine hK.out _ _ trivial (fun hHeld=>?_)
           clear hK K
           refine norm_ (a':=?_) ?_ ?_
           rotate_left
           ·show Act.put _ (some 11) _ = _
            simp only [Act.put,List.setIfInBounds_toArray,List.set_cons_zero,List.set_cons_succ,i64_w,i32_w]
            rfl
           refine pure_ (i:=4) (N:=some 15) (v:=?_) (a':=?_) #[true,true,true,true,true,false,false] rfl rfl (by kernel_rfl) (fun _ _ _ h=>h) (Or.inl ⟨by rfl,?_⟩) ?_ ?_
           rotate_left
           ·intro w'
            go_simp
            with_reducible rfl
           rotate_left
           ·exact z12a
           exact norm_ z12x2 (hJ0_2_3 (.slice wz qj.length wx,.slice vk qv.length wy,.slice uf qp.length ue) _ ⟨z12x14,z12x15,z12x8,z12x9,z12x5⟩)
          ·skip
           refine box_step ?hg (N:=4) ?hd (cs:=#[.int .i64 0,.int .i64 0,.slice none 0 0,.slice none 0 0,.slice none 0 0,.slice none 0 0,.int .i64 0]) (t:=69) ?hr ?_;(case hd=>rfl);(case hg=>rfl);(case hr=>first|(go_simp;done)|(go_simp;rfl))
           intro qa hg w12 hbox hb
           have n0_:=Aside0.mk (Kd.S_below z12x15 hb)
           have n1_:=Aside0.mk (Kd.S_below z12x16 hb)
           have n2_:=Aside0.mk (blk_below (g:=qb) (o:=.cells #[.int .i64 0,.int .i64 0,.slice none 0 0,.slice none 0 0,.slice none 0 0,.slice none 0 0,.int .i64 0] 69 (0,0)) z12x9 hb)
           have n3_:=Aside0.mk (below_step z12x5 hb)
           have n4_:=Aside0.mk (hbox)
           have n5_:=Aside0.mk ((z12x4 : w.heap.size ≤ qa))
           have n6_:=Aside0.mk ((z12x4 : w.heap.size ≤ qa))
           have n7_:=Aside0.mk ((z12x1 : qb ≠ qa))
           have n8_:=Aside0.mk ((z12x0 : qa ≠ qb))
           clear qh
           clear qg
           clear qc
           clear HB
           have qh:=n0_
           have qg:=n1_
           have qc:=n2_
           have HB:=n3_
           have qd:=n4_
           have qn:=n5_
           have qk:=n6_
           have qe:=n7_
           have qf:=n8_
           clear n0_ n1_ n2_ n3_ n4_ n5_ n6_ n7_ n8_
           clear hb hbox hg
           refine hK.out _ _ trivial (fun hHeld=>?_)
           clear hK K
           refine norm_ (a':=?_) ?_ ?_
           rotate_left
           ·show Act.put _ (some 4) _ = _
            simp only [Act.put,List.setIfInBounds_toArray,List.set_cons_zero,List.set_cons_succ,i64_w,i32_w]
            rfl
           exact norm_ z12x2 (hJ2_3_5 (qu,qt,qa) _ ⟨z12x15,z12x16,z12x9,z12x10,qn.out,qk.out,qe.out,qf.out,z12x3⟩)
        ·skip
         rintro ⟨qq,qa⟩ w9 ⟨h0_,h1_,h2_,h3_,h4_,h5_,h6_,h7_⟩
         have n0_ : Aside0 (Kd.R k41 41 w9 w.heap.size (fun _=>True) qq qj):=⟨h0_⟩
         have n1_ : Aside0 (w9.heap[qb]? = some (.cells #[.int .i64 0,.int .i64 0,.slice none 0 0,.slice none 0 0,.slice none 0 0,.slice none 0 0,.int .i64 0] 69 (0,0))):=⟨h1_⟩
         have n2_ : Aside0 (w9.heap[qa]? = some (.cells #[.int .i64 0,.int .i64 0,.slice none 0 0,.slice none 0 0,.slice none 0 0,.slice none 0 0,.int .i64 0] 69 (0,0))):=⟨h2_⟩
         have n3_ : Aside0 (w.heap.size ≤ qa):=⟨h3_⟩
         have n4_ : Aside0 (w.heap.size ≤ qa):=⟨h4_⟩
         have n5_ : Aside0 (qb ≠ qa):=⟨h5_⟩
         have n6_ : Aside0 (qa ≠ qb):=⟨h6_⟩
         have n7_ : Aside0 (Below w.heap.size w w9):=⟨h7_⟩
         clear qc
         clear HB
         clear h0_ h1_ h2_ h3_ h4_ h5_ h6_ h7_
         have qi:=n0_
         have qc:=n1_
         have qd:=n2_
         have qn:=n3_
         have qk:=n4_
         have qe:=n5_
         have qf:=n6_
         have HB:=n7_
         clear n0_ n1_ n2_ n3_ n4_ n5_ n6_ n7_
         have hHeld:=trivial
         refine norm_ (a':=?_) ?_ ?_
         rotate_left
         ·simp only [putAll,Act.put,List.setIfInBounds_toArray,List.set_cons_zero,List.set_cons_succ]
          rfl
         refine two_ (i:=2) (j:=3) (Ni:=some 13) (Nj:=some 14) #[true,true,true,false,false,true,false] #[true,true,false,true,false,true,false] rfl rfl rfl rfl (by kernel_rfl) (by decide) (by decide) (fun K hK=>?_) (fun K hK=>?_)
         ·skip
          refine S_made0_step k28 _ 28 ?hg (N:=13) ?hd (c:=3) (zs:=#[.int .i64 0,.int .i64 0,.slice none 0 0,.slice none 0 0,.slice none 0 0,.slice none 0 0,.int .i64 0,.int .i64 0,.slice none 0 0,.slice none 0 0,.slice none 0 0,.slice none 0 0,.int .i64 0,.int .i64 0,.slice none 0 0,.slice none 0 0,.slice none 0 0,.slice none 0 0]) (ok:=fun _=>True) ?hr (by rfl) (by decide) trivial (Below.refl _ _) (Nat.le_refl _) ?_;(case hd=>rfl);(case hg=>rfl);(case hr=>first|(go_simp;done)|(go_simp;rfl)|(go_simp;kernel_rfl))
          intro qu w10 wc hb hg_ hnew_
          clear hg_ hnew_
          (first|rw [← qz.out] at wc|(simp only [Int.reduceToNat] at wc;rw [← qz.out] at wc))
          have n0_:=Aside0.mk (Kd.R_below z12x14 hb)
          have n1_:=Aside0.mk (Kd.S_lower wc (below_size z12x3))
          have n2_:=Aside0.mk (blk_below (g:=qb) (o:=.cells #[.int .i64 0,.int .i64 0,.slice none 0 0,.slice none 0 0,.slice none 0 0,.slice none 0 0,.int .i64 0] 69 (0,0)) z12x9 hb)
          have n3_:=Aside0.mk (blk_below (g:=qa) (o:=.cells #[.int .i64 0,.int .i64 0,.slice none 0 0,.slice none 0 0,.slice none 0 0,.slice none 0 0,.int .i64 0] 69 (0,0)) z12x10 hb)
          have n4_:=Aside0.mk (below_step z12x3 hb)
          clear qi
          clear qc
          clear qd
          clear HB
          have qi:=n0_
          have qh:=n1_
          have qc:=n2_
          have qd:=n3_
          have HB:=n4_
          clear n0_ n1_ n2_ n3_ n4_
          clear hb wc
          refine hK.out _ _ trivial (fun hHeld=>?_)
          clear hK K
          refine norm_ (a':=?_) ?_ ?_
          rotate_left
          ·show Act.put _ (some 13) _ = _
           simp only [Act.put,List.setIfInBounds_toArray,List.set_cons_zero,List.set_cons_succ,i64_w,i32_w]
           rfl
          exact norm_ z12x2 (hJ0_2_5 (qq,qu,qa) _ ⟨z12x14,z12x15,z12x9,z12x10,qn.out,qk.out,qe.out,qf.out,z12x3⟩)
         ·skip
          refine S_made0_step k128 _ 128 ?hg (N:=14) ?hd (c:=2) (zs:=#[.int .i64 0,.int .i64 0,.slice none 0 0,.slice none 0 0,.int .i64 0,.int .i64 0,.slice none 0 0,.slice none 0 0]) (ok:=fun _=>True) ?hr (by rfl) (by decide) trivial (Below.refl _ _) (Nat.le_refl _) ?_;(case hd=>rfl);(case hg=>rfl);(case hr=>first|(go_simp;done)|(go_simp;rfl)|(go_simp;kernel_rfl))
          intro qt w10 wc hb hg_ hnew_
          clear hg_ hnew_
          (first|rw [← qy.out] at wc|(simp only [Int.reduceToNat] at wc;rw [← qy.out] at wc))
          have n0_:=Aside0.mk (Kd.R_below z12x14 hb)
          have n1_:=Aside0.mk (Kd.S_lower (Kd.S_new' wc (Kd.R_lt z12x14)) (below_size z12x3))
          have n2_:=Aside0.mk (blk_below (g:=qb) (o:=.cells #[.int .i64 0,.int .i64 0,.slice none 0 0,.slice none 0 0,.slice none 0 0,.slice none 0 0,.int .i64 0] 69 (0,0)) z12x9 hb)
          have n3_:=Aside0.mk (blk_below (g:=qa) (o:=.cells #[.int .i64 0,.int .i64 0,.slice none 0 0,.slice none 0 0,.slice none 0 0,.slice none 0 0,.int .i64 0] 69 (0,0)) z12x10 hb)
          have n4_:=Aside0.mk (below_step z12x3 hb)
          clear qi
          clear qc
          clear qd
          clear HB
          have qi:=n0_
          have qg:=n1_
          have qc:=n2_
          have qd:=n3_
          have HB:=n4_
          clear n0_ n1_ n2_ n3_ n4_
          clear hb wc
          refine hK.out _ _ trivial (fun hHeld=>?_)
          clear hK K
          refine norm_ (a':=?_) ?_ ?_
          rotate_left
          ·show Act.put _ (some 14) _ = _
           simp only [Act.put,List.setIfInBounds_toArray,List.set_cons_zero,List.set_cons_succ,i64_w,i32_w]
           rfl
          exact norm_ z12x2 (hJ0_3_5 (qq,qt,qa) _ ⟨z12x14,z12x8,z12x9,z12x10,qn.out,qk.out,qe.out,qf.out,z12x3⟩)
       ·skip
        rintro ⟨qq,qt⟩ w10 ⟨h0_,h1_,h2_,h3_⟩
        have n0_ : Aside0 (Kd.R k41 41 w10 w.heap.size (fun _=>True) qq qj):=⟨h0_⟩
        have n1_ : Aside0 (Kd.S k128 128 w10 w.heap.size (fun k_=>some k_ ≠ (qq : Value).ownBlock) qt qp):=⟨h1_⟩
        have n2_ : Aside0 (w10.heap[qb]? = some (.cells #[.int .i64 0,.int .i64 0,.slice none 0 0,.slice none 0 0,.slice none 0 0,.slice none 0 0,.int .i64 0] 69 (0,0))):=⟨h2_⟩
        have n3_ : Aside0 (Below w.heap.size w w10):=⟨h3_⟩
        clear qc
        clear HB
        clear h0_ h1_ h2_ h3_
        have qi:=n0_
        have qg:=n1_
        have qc:=n2_
        have HB:=n3_
        clear n0_ n1_ n2_ n3_
        have hHeld:=trivial
        refine norm_ (a':=?_) ?_ ?_
        rotate_left
        ·simp only [putAll,Act.put,List.setIfInBounds_toArray,List.set_cons_zero,List.set_cons_succ]
         rfl
        refine two_ (i:=2) (j:=5) (Ni:=some 13) (Nj:=some 4) #[true,true,true,true,false,false,false] #[true,true,false,true,false,true,false] rfl rfl rfl rfl (by kernel_rfl) (by decide) (by decide) (fun K hK=>?_) (fun K hK=>?_)
        ·skip
         refine S_made0_step k28 _ 28 ?hg (N:=13) ?hd (c:=3) (zs:=#[.int .i64 0,.int .i64 0,.slice none 0 0,.slice none 0 0,.slice none 0 0,.slice none 0 0,.int .i64 0,.int .i64 0,.slice none 0 0,.slice none 0 0,.slice none 0 0,.slice none 0 0,.int .i64 0,.int .i64 0,.slice none 0 0,.slice none 0 0,.slice none 0 0,.slice none 0 0]) (ok:=fun _=>True) ?hr (by rfl) (by decide) trivial (Below.refl _ _) (Nat.le_refl _) ?_;(case hd=>rfl);(case hg=>rfl);(case hr=>first|(go_simp;done)|(go_simp;rfl)|(go_simp;kernel_rfl))
         intro qu w11 wb hb hg_ hnew_
         clear hg_ hnew_
         (first|rw [← qz.out] at wb|(simp only [Int.reduceToNat] at wb;rw [← qz.out] at wb))
         have n0_:=Aside0.mk (Kd.R_below z12x14 hb)
         have n1_:=Aside0.mk (Kd.S_below z12x16 hb)
         have n2_:=Aside0.mk (Kd.S_lower wb (below_size z12x5))
         have n3_:=Aside0.mk (blk_below (g:=qb) (o:=.cells #[.int .i64 0,.int .i64 0,.slice none 0 0,.slice none 0 0,.slice none 0 0,.slice none 0 0,.int .i64 0] 69 (0,0)) z12x9 hb)
         have n4_:=Aside0.mk (below_step z12x5 hb)
         clear qi
         clear qg
         clear qc
         clear HB
         have qi:=n0_
         have qg:=n1_
         have qh:=n2_
         have qc:=n3_
         have HB:=n4_
         clear n0_ n1_ n2_ n3_ n4_
         clear hb wb
         obtain ⟨uf,ue,vr⟩:=Kd.S_slice qg.out
         (first|subst vr|(injection vr with f1_ f2_ f3_;have f4_:=f1_.symm;have f5_:=f3_.symm;clear f1_ f2_ f3_;subst f4_;subst f5_))
         obtain ⟨vk,wy,wg⟩:=Kd.S_slice qh.out
         (first|subst wg|(injection wg with f1_ f2_ f3_;have f4_:=f1_.symm;have f5_:=f3_.symm;clear f1_ f2_ f3_;subst f4_;subst f5_))
         obtain ⟨wz,wx,we⟩:=Kd.R_slice qi.out
         (first|subst we|(injection we with f1_ f2_ f3_;have f4_:=f1_.symm;have f5_:=f3_.symm;clear f1_ f2_ f3_;subst f4_;subst f5_))
         refine hK.out _ _ trivial (fun hHeld=>?_)
         clear hK K
         refine norm_ (a':=?_) ?_ ?_
         rotate_left
         ·show Act.put _ (some 13) _ = _
          simp only [Act.put,List.setIfInBounds_toArray,List.set_cons_zero,List.set_cons_succ,i64_w,i32_w]
          rfl
         refine pure_ (i:=4) (N:=some 15) (v:=?_) (a':=?_) #[true,true,true,true,true,false,false] rfl rfl (by kernel_rfl) (fun _ _ _ h=>h) (Or.inl ⟨by rfl,?_⟩) ?_ ?_
         rotate_left
         ·intro w'
          go_simp
          with_reducible rfl
         rotate_left
         ·exact z12a
         exact norm_ z12x2 (hJ0_2_3 (.slice wz qj.length wx,.slice vk qv.length wy,.slice uf qp.length ue) _ ⟨z12x14,z12x15,z12x16,z12x9,z12x5⟩)
        ·skip
         refine box_step ?hg (N:=4) ?hd (cs:=#[.int .i64 0,.int .i64 0,.slice none 0 0,.slice none 0 0,.slice none 0 0,.slice none 0 0,.int .i64 0]) (t:=69) ?hr ?_;(case hd=>rfl);(case hg=>rfl);(case hr=>first|(go_simp;done)|(go_simp;rfl))
         intro qa hg w11 hbox hb
         have n0_:=Aside0.mk (Kd.R_below z12x14 hb)
         have n1_:=Aside0.mk (Kd.S_below z12x16 hb)
         have n2_:=Aside0.mk (blk_below (g:=qb) (o:=.cells #[.int .i64 0,.int .i64 0,.slice none 0 0,.slice none 0 0,.slice none 0 0,.slice none 0 0,.int .i64 0] 69 (0,0)) z12x9 hb)
         have n3_:=Aside0.mk (below_step z12x5 hb)
         have n4_:=Aside0.mk (hbox)
         have n5_:=Aside0.mk ((z12x4 : w.heap.size ≤ qa))
         have n6_:=Aside0.mk ((z12x4 : w.heap.size ≤ qa))
         have n7_:=Aside0.mk ((z12x1 : qb ≠ qa))
         have n8_:=Aside0.mk ((z12x0 : qa ≠ qb))
         clear qi
         clear qg
         clear qc
         clear HB
         have qi:=n0_
         have qg:=n1_
         have qc:=n2_
         have HB:=n3_
         have qd:=n4_
         have qn:=n5_
         have qk:=n6_
         have qe:=n7_
         have qf:=n8_
         clear n0_ n1_ n2_ n3_ n4_ n5_ n6_ n7_ n8_
         clear hb hbox hg
         refine hK.out _ _ trivial (fun hHeld=>?_)
         clear hK K
         refine norm_ (a':=?_) ?_ ?_
         rotate_left
         ·show Act.put _ (some 4) _ = _
          simp only [Act.put,List.setIfInBounds_toArray,List.set_cons_zero,List.set_cons_succ,i64_w,i32_w]
          rfl
         exact norm_ z12x2 (hJ0_3_5 (qq,qt,qa) _ ⟨z12x14,z12x16,z12x9,z12x10,qn.out,qk.out,qe.out,qf.out,z12x3⟩)
      ·skip
       rintro ⟨qq,qu⟩ w10 ⟨h0_,h1_,h2_,h3_⟩
       have n0_ : Aside0 (Kd.R k41 41 w10 w.heap.size (fun _=>True) qq qj):=⟨h0_⟩
       have n1_ : Aside0 (Kd.S k28 28 w10 w.heap.size (fun _=>True) qu qv):=⟨h1_⟩
       have n2_ : Aside0 (w10.heap[qb]? = some (.cells #[.int .i64 0,.int .i64 0,.slice none 0 0,.slice none 0 0,.slice none 0 0,.slice none 0 0,.int .i64 0] 69 (0,0))):=⟨h2_⟩
       have n3_ : Aside0 (Below w.heap.size w w10):=⟨h3_⟩
       clear qc
       clear HB
       clear h0_ h1_ h2_ h3_
       have qi:=n0_
       have qh:=n1_
       have qc:=n2_
       have HB:=n3_
       clear n0_ n1_ n2_ n3_
       have hHeld:=trivial
       refine norm_ (a':=?_) ?_ ?_
       rotate_left
       ·simp only [putAll,Act.put,List.setIfInBounds_toArray,List.set_cons_zero,List.set_cons_succ]
        rfl
       refine two_ (i:=3) (j:=5) (Ni:=some 14) (Nj:=some 4) #[true,true,true,true,false,false,false] #[true,true,true,false,false,true,false] rfl rfl rfl rfl (by kernel_rfl) (by decide) (by decide) (fun K hK=>?_) (fun K hK=>?_)
       ·skip
        refine S_made0_step k128 _ 128 ?hg (N:=14) ?hd (c:=2) (zs:=#[.int .i64 0,.int .i64 0,.slice none 0 0,.slice none 0 0,.int .i64 0,.int .i64 0,.slice none 0 0,.slice none 0 0]) (ok:=fun _=>True) ?hr (by rfl) (by decide) trivial (Below.refl _ _) (Nat.le_refl _) ?_;(case hd=>rfl);(case hg=>rfl);(case hr=>first|(go_simp;done)|(go_simp;rfl)|(go_simp;kernel_rfl))
        intro qt w11 wb hb hg_ hnew_
        clear hg_ hnew_
        (first|rw [← qy.out] at wb|(simp only [Int.reduceToNat] at wb;rw [← qy.out] at wb))
        have n0_:=Aside0.mk (Kd.R_below z12x14 hb)
        have n1_:=Aside0.mk (Kd.S_below z12x15 hb)
        have n2_:=Aside0.mk (Kd.S_lower (Kd.S_new' wb (Kd.R_lt z12x14)) (below_size z12x5))
        have n3_:=Aside0.mk (blk_below (g:=qb) (o:=.cells #[.int .i64 0,.int .i64 0,.slice none 0 0,.slice none 0 0,.slice none 0 0,.slice none 0 0,.int .i64 0] 69 (0,0)) z12x9 hb)
        have n4_:=Aside0.mk (below_step z12x5 hb)
        clear qi
        clear qh
        clear qc
        clear HB
        have qi:=n0_
        have qh:=n1_
        have qg:=n2_
        have qc:=n3_
        have HB:=n4_
        clear n0_ n1_ n2_ n3_ n4_
        clear hb wb
        obtain ⟨uf,ue,vr⟩:=Kd.S_slice qg.out
        (first|subst vr|(injection vr with f1_ f2_ f3_;have f4_:=f1_.symm;have f5_:=f3_.symm;clear f1_ f2_ f3_;subst f4_;subst f5_))
        obtain ⟨vk,wy,wg⟩:=Kd.S_slice qh.out
        (first|subst wg|(injection wg with f1_ f2_ f3_;have f4_:=f1_.symm;have f5_:=f3_.symm;clear f1_ f2_ f3_;subst f4_;subst f5_))
        obtain ⟨wz,wx,we⟩:=Kd.R_slice qi.out
        (first|subst we|(injection we with f1_ f2_ f3_;have f4_:=f1_.symm;have f5_:=f3_.symm;clear f1_ f2_ f3_;subst f4_;subst f5_))
        refine hK.out _ _ trivial (fun hHeld=>?_)
        clear hK K
        refine norm_ (a':=?_) ?_ ?_
        rotate_left
        ·show Act.put _ (some 14) _ = _
         simp only [Act.put,List.setIfInBounds_toArray,List.set_cons_zero,List.set_cons_succ,i64_w,i32_w]
         rfl
        refine pure_ (i:=4) (N:=some 15) (v:=?_) (a':=?_) #[true,true,true,true,true,false,false] rfl rfl (by kernel_rfl) (fun _ _ _ h=>h) (Or.inl ⟨by rfl,?_⟩) ?_ ?_
        rotate_left
        ·intro w'
         go_simp
         with_reducible rfl
        rotate_left
        ·exact z12a
        exact norm_ z12x2 (hJ0_2_3 (.slice wz qj.length wx,.slice vk qv.length wy,.slice uf qp.length ue) _ ⟨z12x14,z12x15,z12x8,z12x9,z12x5⟩)
       ·skip
        refine box_step ?hg (N:=4) ?hd (cs:=#[.int .i64 0,.int .i64 0,.slice none 0 0,.slice none 0 0,.slice none 0 0,.slice none 0 0,.int .i64 0]) (t:=69) ?hr ?_;(case hd=>rfl);(case hg=>rfl);(case hr=>first|(go_simp;done)|(go_simp;rfl))
        intro qa hg w11 hbox hb
        have n0_:=Aside0.mk (Kd.R_below z12x14 hb)
        have n1_:=Aside0.mk (Kd.S_below z12x15 hb)
        have n2_:=Aside0.mk (blk_below (g:=qb) (o:=.cells #[.int .i64 0,.int .i64 0,.slice none 0 0,.slice none 0 0,.slice none 0 0,.slice none 0 0,.int .i64 0] 69 (0,0)) z12x9 hb)
        have n3_:=Aside0.mk (below_step z12x5 hb)
        have n4_:=Aside0.mk (hbox)
        have n5_:=Aside0.mk ((z12x4 : w.heap.size ≤ qa))
        have n6_:=Aside0.mk ((z12x4 : w.heap.size ≤ qa))
        have n7_:=Aside0.mk ((z12x1 : qb ≠ qa))
        have n8_:=Aside0.mk ((z12x0 : qa ≠ qb))
        clear qi
        clear qh
        clear qc
        clear HB
        have qi:=n0_
        have qh:=n1_
        have qc:=n2_
        have HB:=n3_
        have qd:=n4_
        have qn:=n5_
        have qk:=n6_
        have qe:=n7_
        have qf:=n8_
        clear n0_ n1_ n2_ n3_ n4_ n5_ n6_ n7_ n8_
        clear hb hbox hg
        refine hK.out _ _ trivial (fun hHeld=>?_)
        clear hK K
        refine norm_ (a':=?_) ?_ ?_
        rotate_left
        ·show Act.put _ (some 4) _ = _
         simp only [Act.put,List.setIfInBounds_toArray,List.set_cons_zero,List.set_cons_succ,i64_w,i32_w]
         rfl
        exact norm_ z12x2 (hJ0_2_5 (qq,qu,qa) _ ⟨z12x14,z12x15,z12x9,z12x10,qn.out,qk.out,qe.out,qf.out,z12x3⟩)
     ·skip
      rintro ⟨qu,qt,qa⟩ w12 ⟨h0_,h1_,h2_,h3_,h4_,h5_,h6_,h7_,h8_⟩
      have n0_ : Aside0 (Kd.S k28 28 w12 w.heap.size (fun _=>True) qu qv):=⟨h0_⟩
      have n1_ : Aside0 (Kd.S k128 128 w12 w.heap.size (fun _=>True) qt qp):=⟨h1_⟩
      have n2_ : Aside0 (w12.heap[qb]? = some (.cells #[.int .i64 0,.int .i64 0,.slice none 0 0,.slice none 0 0,.slice none 0 0,.slice none 0 0,.int .i64 0] 69 (0,0))):=⟨h2_⟩
      have n3_ : Aside0 (w12.heap[qa]? = some (.cells #[.int .i64 0,.int .i64 0,.slice none 0 0,.slice none 0 0,.slice none 0 0,.slice none 0 0,.int .i64 0] 69 (0,0))):=⟨h3_⟩
      have n4_ : Aside0 (w.heap.size ≤ qa):=⟨h4_⟩
      have n5_ : Aside0 (w.heap.size ≤ qa):=⟨h5_⟩
      have n6_ : Aside0 (qb ≠ qa):=⟨h6_⟩
      have n7_ : Aside0 (qa ≠ qb):=⟨h7_⟩
      have n8_ : Aside0 (Below w.heap.size w w12):=⟨h8_⟩
      clear qc
      clear HB
      clear h0_ h1_ h2_ h3_ h4_ h5_ h6_ h7_ h8_
      have qh:=n0_
      have qg:=n1_
      have qc:=n2_
      have qd:=n3_
      have qn:=n4_
      have qk:=n5_
      have qe:=n6_
      have qf:=n7_
      have HB:=n8_
      clear n0_ n1_ n2_ n3_ n4_ n5_ n6_ n7_ n8_
      have hHeld:=trivial
      refine norm_ (a':=?_) ?_ ?_
      rotate_left
      ·simp only [putAll,Act.put,List.setIfInBounds_toArray,List.set_cons_zero,List.set_cons_succ]
       rfl
      refine one_ (i:=0) (N:=some 11) #[true,true,true,true,false,true,false] rfl rfl (by kernel_rfl) (by decide) (fun K hK=>?_)
      refine goes_ Try.func101 (by kernel_rfl) rfl #[] (by rfl) rfl rfl z12x7 ?_
      with_reducible refine (impl_KdcNew.calls  qm qj _ A4.out).mono ?_
      rintro e w13 ⟨qq,rfl,ho0,hb⟩
      refine ⟨_,rfl,?_⟩
      have n0_:=Aside0.mk (Kd.S_below z12x15 hb)
      have n1_:=Aside0.mk (Kd.S_elder' z12x16 (Kd.R_base ho0) hb)
      have n2_:=Aside0.mk (Kd.R_lower ho0 (below_size z12x3))
      have n3_:=Aside0.mk (blk_below (g:=qb) (o:=.cells #[.int .i64 0,.int .i64 0,.slice none 0 0,.slice none 0 0,.slice none 0 0,.slice none 0 0,.int .i64 0] 69 (0,0)) z12x9 hb)
      have n4_:=Aside0.mk (blk_below (g:=qa) (o:=.cells #[.int .i64 0,.int .i64 0,.slice none 0 0,.slice none 0 0,.slice none 0 0,.slice none 0 0,.int .i64 0] 69 (0,0)) z12x10 hb)
      have n5_:=Aside0.mk (below_step z12x3 hb)
      clear qh
      clear qg
      clear qc
      clear qd
      clear HB
      have qh:=n0_
      have qg:=n1_
      have qi:=n2_
      have qc:=n3_
      have qd:=n4_
      have HB:=n5_
      clear n0_ n1_ n2_ n3_ n4_ n5_
      (try clear hb)
      (try clear hb2)
      (try clear hk)
      (try clear hi)
      (try clear ho0)
      obtain ⟨vk,wy,wg⟩:=Kd.S_slice qg.out
      (first|subst wg|(injection wg with f1_ f2_ f3_;have f4_:=f1_.symm;have f5_:=f3_.symm;clear f1_ f2_ f3_;subst f4_;subst f5_))
      obtain ⟨wz,wx,we⟩:=Kd.S_slice qh.out
      (first|subst we|(injection we with f1_ f2_ f3_;have f4_:=f1_.symm;have f5_:=f3_.symm;clear f1_ f2_ f3_;subst f4_;subst f5_))
      obtain ⟨vw,vu,ww⟩:=Kd.R_slice qi.out
      (first|subst ww|(injection ww with f1_ f2_ f3_;have f4_:=f1_.symm;have f5_:=f3_.symm;clear f1_ f2_ f3_;subst f4_;subst f5_))
      refine hK.out _ _ trivial (fun hHeld=>?_)
      clear hK K
      refine norm_ (a':=?_) ?_ ?_
      rotate_left
      ·show Act.put _ (some 11) _ = _
       simp only [Act.put,List.setIfInBounds_toArray,List.set_cons_zero,List.set_cons_succ,i64_w,i32_w]
       rfl
      refine pure_ (i:=4) (N:=some 15) (v:=?_) (a':=?_) #[true,true,true,true,true,true,false] rfl rfl (by kernel_rfl) (fun _ _ _ h=>h) (Or.inl ⟨by rfl,?_⟩) ?_ ?_
      rotate_left
      ·intro w'
       go_simp
       with_reducible rfl
      rotate_left
      ·exact z12a
      exact norm_ z12x2 (hJ0_2_3_5 (.slice vw qj.length vu,.slice wz qv.length wx,.slice vk qp.length wy,qa) _ ⟨z12x14,z12x15,z12x8,z12x9,z12x10,qn.out,qk.out,qe.out,qf.out,z12x3⟩)
    ·skip
     rintro ⟨qq,qt,qa⟩ w11 ⟨h0_,h1_,h2_,h3_,h4_,h5_,h6_,h7_,h8_⟩
     have n0_ : Aside0 (Kd.R k41 41 w11 w.heap.size (fun _=>True) qq qj):=⟨h0_⟩
     have n1_ : Aside0 (Kd.S k128 128 w11 w.heap.size (fun k_=>some k_ ≠ (qq : Value).ownBlock) qt qp):=⟨h1_⟩
     have n2_ : Aside0 (w11.heap[qb]? = some (.cells #[.int .i64 0,.int .i64 0,.slice none 0 0,.slice none 0 0,.slice none 0 0,.slice none 0 0,.int .i64 0] 69 (0,0))):=⟨h2_⟩
     have n3_ : Aside0 (w11.heap[qa]? = some (.cells #[.int .i64 0,.int .i64 0,.slice none 0 0,.slice none 0 0,.slice none 0 0,.slice none 0 0,.int .i64 0] 69 (0,0))):=⟨h3_⟩
     have n4_ : Aside0 (w.heap.size ≤ qa):=⟨h4_⟩
     have n5_ : Aside0 (w.heap.size ≤ qa):=⟨h5_⟩
     have n6_ : Aside0 (qb ≠ qa):=⟨h6_⟩
     have n7_ : Aside0 (qa ≠ qb):=⟨h7_⟩
     have n8_ : Aside0 (Below w.heap.size w w11):=⟨h8_⟩
     clear qc
     clear HB
     clear h0_ h1_ h2_ h3_ h4_ h5_ h6_ h7_ h8_
     have qi:=n0_
     have qg:=n1_
     have qc:=n2_
     have qd:=n3_
     have qn:=n4_
     have qk:=n5_
     have qe:=n6_
     have qf:=n7_
     have HB:=n8_
     clear n0_ n1_ n2_ n3_ n4_ n5_ n6_ n7_ n8_
     have hHeld:=trivial
     refine norm_ (a':=?_) ?_ ?_
     rotate_left
     ·simp only [putAll,Act.put,List.setIfInBounds_toArray,List.set_cons_zero,List.set_cons_succ]
      rfl
     refine one_ (i:=2) (N:=some 13) #[true,true,true,true,false,true,false] rfl rfl (by kernel_rfl) (by decide) (fun K hK=>?_)
     refine S_made0_step k28 _ 28 ?hg (N:=13) ?hd (c:=3) (zs:=#[.int .i64 0,.int .i64 0,.slice none 0 0,.slice none 0 0,.slice none 0 0,.slice none 0 0,.int .i64 0,.int .i64 0,.slice none 0 0,.slice none 0 0,.slice none 0 0,.slice none 0 0,.int .i64 0,.int .i64 0,.slice none 0 0,.slice none 0 0,.slice none 0 0,.slice none 0 0]) (ok:=fun _=>True) ?hr (by rfl) (by decide) trivial (Below.refl _ _) (Nat.le_refl _) ?_;(case hd=>rfl);(case hg=>rfl);(case hr=>first|(go_simp;done)|(go_simp;rfl)|(go_simp;kernel_rfl))
     intro qu w12 wv hb hg_ hnew_
     clear hg_ hnew_
     (first|rw [← qz.out] at wv|(simp only [Int.reduceToNat] at wv;rw [← qz.out] at wv))
     have n0_:=Aside0.mk (Kd.R_below z12x14 hb)
     have n1_:=Aside0.mk (Kd.S_below z12x16 hb)
     have n2_:=Aside0.mk (Kd.S_lower wv (below_size z12x3))
     have n3_:=Aside0.mk (blk_below (g:=qb) (o:=.cells #[.int .i64 0,.int .i64 0,.slice none 0 0,.slice none 0 0,.slice none 0 0,.slice none 0 0,.int .i64 0] 69 (0,0)) z12x9 hb)
     have n4_:=Aside0.mk (blk_below (g:=qa) (o:=.cells #[.int .i64 0,.int .i64 0,.slice none 0 0,.slice none 0 0,.slice none 0 0,.slice none 0 0,.int .i64 0] 69 (0,0)) z12x10 hb)
     have n5_:=Aside0.mk (below_step z12x3 hb)
     clear qi
     clear qg
     clear qc
     clear qd
     clear HB
     have qi:=n0_
     have qg:=n1_
     have qh:=n2_
     have qc:=n3_
     have qd:=n4_
     have HB:=n5_
     clear n0_ n1_ n2_ n3_ n4_ n5_
     clear hb wv
     obtain ⟨vk,wy,wg⟩:=Kd.S_slice qg.out
     (first|subst wg|(injection wg with f1_ f2_ f3_;have f4_:=f1_.symm;have f5_:=f3_.symm;clear f1_ f2_ f3_;subst f4_;subst f5_))
     obtain ⟨wz,wx,we⟩:=Kd.S_slice qh.out
     (first|subst we|(injection we with f1_ f2_ f3_;have f4_:=f1_.symm;have f5_:=f3_.symm;clear f1_ f2_ f3_;subst f4_;subst f5_))
     obtain ⟨vw,vu,ww⟩:=Kd.R_slice qi.out
     (first|subst ww|(injection ww with f1_ f2_ f3_;have f4_:=f1_.symm;have f5_:=f3_.symm;clear f1_ f2_ f3_;subst f4_;subst f5_))
     refine hK.out _ _ trivial (fun hHeld=>?_)
     clear hK K
     refine norm_ (a':=?_) ?_ ?_
     rotate_left
     ·show Act.put _ (some 13) _ = _
      simp only [Act.put,List.setIfInBounds_toArray,List.set_cons_zero,List.set_cons_succ,i64_w,i32_w]
      rfl
     refine pure_ (i:=4) (N:=some 15) (v:=?_) (a':=?_) #[true,true,true,true,true,true,false] rfl rfl (by kernel_rfl) (fun _ _ _ h=>h) (Or.inl ⟨by rfl,?_⟩) ?_ ?_
     rotate_left
     ·intro w'
      go_simp
      with_reducible rfl
     rotate_left
     ·exact z12a
     exact norm_ z12x2 (hJ0_2_3_5 (.slice vw qj.length vu,.slice wz qv.length wx,.slice vk qp.length wy,qa) _ ⟨z12x14,z12x15,z12x16,z12x9,z12x10,qn.out,qk.out,qe.out,qf.out,z12x3⟩)
   ·skip
    rintro ⟨qq,qu,qa⟩ w11 ⟨h0_,h1_,h2_,h3_,h4_,h5_,h6_,h7_,h8_⟩
    have n0_ : Aside0 (Kd.R k41 41 w11 w.heap.size (fun _=>True) qq qj):=⟨h0_⟩
    have n1_ : Aside0 (Kd.S k28 28 w11 w.heap.size (fun _=>True) qu qv):=⟨h1_⟩
    have n2_ : Aside0 (w11.heap[qb]? = some (.cells #[.int .i64 0,.int .i64 0,.slice none 0 0,.slice none 0 0,.slice none 0 0,.slice none 0 0,.int .i64 0] 69 (0,0))):=⟨h2_⟩
    have n3_ : Aside0 (w11.heap[qa]? = some (.cells #[.int .i64 0,.int .i64 0,.slice none 0 0,.slice none 0 0,.slice none 0 0,.slice none 0 0,.int .i64 0] 69 (0,0))):=⟨h3_⟩
    have n4_ : Aside0 (w.heap.size ≤ qa):=⟨h4_⟩
    have n5_ : Aside0 (w.heap.size ≤ qa):=⟨h5_⟩
    have n6_ : Aside0 (qb ≠ qa):=⟨h6_⟩
    have n7_ : Aside0 (qa ≠ qb):=⟨h7_⟩
    have n8_ : Aside0 (Below w.heap.size w w11):=⟨h8_⟩
    clear qc
    clear HB
    clear h0_ h1_ h2_ h3_ h4_ h5_ h6_ h7_ h8_
    have qi:=n0_
    have qh:=n1_
    have qc:=n2_
    have qd:=n3_
    have qn:=n4_
    have qk:=n5_
    have qe:=n6_
    have qf:=n7_
    have HB:=n8_
    clear n0_ n1_ n2_ n3_ n4_ n5_ n6_ n7_ n8_
    have hHeld:=trivial
    refine norm_ (a':=?_) ?_ ?_
    rotate_left
    ·simp only [putAll,Act.put,List.setIfInBounds_toArray,List.set_cons_zero,List.set_cons_succ]
     rfl
    refine one_ (i:=3) (N:=some 14) #[true,true,true,true,false,true,false] rfl rfl (by kernel_rfl) (by decide) (fun K hK=>?_)
    refine S_made0_step k128 _ 128 ?hg (N:=14) ?hd (c:=2) (zs:=#[.int .i64 0,.int .i64 0,.slice none 0 0,.slice none 0 0,.int .i64 0,.int .i64 0,.slice none 0 0,.slice none 0 0]) (ok:=fun _=>True) ?hr (by rfl) (by decide) trivial (Below.refl _ _) (Nat.le_refl _) ?_;(case hd=>rfl);(case hg=>rfl);(case hr=>first|(go_simp;done)|(go_simp;rfl)|(go_simp;kernel_rfl))
    intro qt w12 wv hb hg_ hnew_
    clear hg_ hnew_
    (first|rw [← qy.out] at wv|(simp only [Int.reduceToNat] at wv;rw [← qy.out] at wv))
    have n0_:=Aside0.mk (Kd.R_below z12x14 hb)
    have n1_:=Aside0.mk (Kd.S_below z12x15 hb)
    have n2_:=Aside0.mk (Kd.S_lower (Kd.S_new' wv (Kd.R_lt z12x14)) (below_size z12x3))
    have n3_:=Aside0.mk (blk_below (g:=qb) (o:=.cells #[.int .i64 0,.int .i64 0,.slice none 0 0,.slice none 0 0,.slice none 0 0,.slice none 0 0,.int .i64 0] 69 (0,0)) z12x9 hb)
    have n4_:=Aside0.mk (blk_below (g:=qa) (o:=.cells #[.int .i64 0,.int .i64 0,.slice none 0 0,.slice none 0 0,.slice none 0 0,.slice none 0 0,.int .i64 0] 69 (0,0)) z12x10 hb)
    have n5_:=Aside0.mk (below_step z12x3 hb)
    clear qi
    clear qh
    clear qc
    clear qd
    clear HB
    have qi:=n0_
    have qh:=n1_
    have qg:=n2_
    have qc:=n3_
    have qd:=n4_
    have HB:=n5_
    clear n0_ n1_ n2_ n3_ n4_ n5_
    clear hb wv
    obtain ⟨vk,wy,wg⟩:=Kd.S_slice qg.out
    (first|subst wg|(injection wg with f1_ f2_ f3_;have f4_:=f1_.symm;have f5_:=f3_.symm;clear f1_ f2_ f3_;subst f4_;subst f5_))
    obtain ⟨wz,wx,we⟩:=Kd.S_slice qh.out
    (first|subst we|(injection we with f1_ f2_ f3_;have f4_:=f1_.symm;have f5_:=f3_.symm;clear f1_ f2_ f3_;subst f4_;subst f5_))
    obtain ⟨vw,vu,ww⟩:=Kd.R_slice qi.out
    (first|subst ww|(injection ww with f1_ f2_ f3_;have f4_:=f1_.symm;have f5_:=f3_.symm;clear f1_ f2_ f3_;subst f4_;subst f5_))
    refine hK.out _ _ trivial (fun hHeld=>?_)
    clear hK K
    refine norm_ (a':=?_) ?_ ?_
    rotate_left
    ·show Act.put _ (some 14) _ = _
     simp only [Act.put,List.setIfInBounds_toArray,List.set_cons_zero,List.set_cons_succ,i64_w,i32_w]
     rfl
    refine pure_ (i:=4) (N:=some 15) (v:=?_) (a':=?_) #[true,true,true,true,true,true,false] rfl rfl (by kernel_rfl) (fun _ _ _ h=>h) (Or.inl ⟨by rfl,?_⟩) ?_ ?_
    rotate_left
    ·intro w'
     go_simp
     with_reducible rfl
    rotate_left
    ·exact z12a
    exact norm_ z12x2 (hJ0_2_3_5 (.slice vw qj.length vu,.slice wz qv.length wx,.slice vk qp.length wy,qa) _ ⟨z12x14,z12x15,z12x8,z12x9,z12x10,qn.out,qk.out,qe.out,qf.out,z12x3⟩)
  ·skip
   rintro ⟨qq,qu,qt⟩ w15 ⟨h0_,h1_,h2_,h3_,h4_⟩
   have n0_ : Aside0 (Kd.R k41 41 w15 w.heap.size (fun _=>True) qq qj):=⟨h0_⟩
   have n1_ : Aside0 (Kd.S k28 28 w15 w.heap.size (fun _=>True) qu qv):=⟨h1_⟩
   have n2_ : Aside0 (Kd.S k128 128 w15 w.heap.size (fun k_=>some k_ ≠ (qq : Value).ownBlock) qt qp):=⟨h2_⟩
   have n3_ : Aside0 (w15.heap[qb]? = some (.cells #[.int .i64 0,.int .i64 0,.slice none 0 0,.slice none 0 0,.slice none 0 0,.slice none 0 0,.int .i64 0] 69 (0,0))):=⟨h3_⟩
   have n4_ : Aside0 (Below w.heap.size w w15):=⟨h4_⟩
   clear qc
   clear HB
   clear h0_ h1_ h2_ h3_ h4_
   have qi:=n0_
   have qh:=n1_
   have qg:=n2_
   have qc:=n3_
   have HB:=n4_
   clear n0_ n1_ n2_ n3_ n4_
   have hHeld:=trivial
   obtain ⟨vw,vu,ww⟩:=Kd.S_slice qg.out
   (first|subst ww|(injection ww with f1_ f2_ f3_;have f4_:=f1_.symm;have f5_:=f3_.symm;clear f1_ f2_ f3_;subst f4_;subst f5_))
   obtain ⟨wq,wo,ud⟩:=Kd.S_slice qh.out
   (first|subst ud|(injection ud with f1_ f2_ f3_;have f4_:=f1_.symm;have f5_:=f3_.symm;clear f1_ f2_ f3_;subst f4_;subst f5_))
   obtain ⟨vm,vl,uc⟩:=Kd.R_slice qi.out
   (first|subst uc|(injection uc with f1_ f2_ f3_;have f4_:=f1_.symm;have f5_:=f3_.symm;clear f1_ f2_ f3_;subst f4_;subst f5_))
   refine norm_ (a':=?_) ?_ ?_
   rotate_left
   ·simp only [putAll,Act.put,List.setIfInBounds_toArray,List.set_cons_zero,List.set_cons_succ]
    rfl
   refine one_ (i:=5) (N:=some 4) #[true,true,true,true,true,true,false] rfl rfl (by kernel_rfl) (by decide) (fun K hK=>?_)
   refine box_step ?hg (N:=4) ?hd (cs:=#[.int .i64 0,.int .i64 0,.slice none 0 0,.slice none 0 0,.slice none 0 0,.slice none 0 0,.int .i64 0]) (t:=69) ?hr ?_;(case hd=>rfl);(case hg=>rfl);(case hr=>first|(go_simp;done)|(go_simp;rfl))
   intro qa hg w19 hbox hb
   have n0_:=Aside0.mk (Kd.R_below z12x14 hb)
   have n1_:=Aside0.mk (Kd.S_below z12x15 hb)
   have n2_:=Aside0.mk (Kd.S_below z12x16 hb)
   have n3_:=Aside0.mk (blk_below (g:=qb) (o:=.cells #[.int .i64 0,.int .i64 0,.slice none 0 0,.slice none 0 0,.slice none 0 0,.slice none 0 0,.int .i64 0] 69 (0,0)) z12x9 hb)
   have n4_:=Aside0.mk (below_step z12x5 hb)
   have n5_:=Aside0.mk (hbox)
   have n6_:=Aside0.mk ((z12x4 : w.heap.size ≤ qa))
   have n7_:=Aside0.mk ((z12x4 : w.heap.size ≤ qa))
   have n8_:=Aside0.mk ((z12x1 : qb ≠ qa))
   have n9_:=Aside0.mk ((z12x0 : qa ≠ qb))
   clear qi
   clear qh
   clear qg
   clear qc
   clear HB
   have qi:=n0_
   have qh:=n1_
   have qg:=n2_
   have qc:=n3_
   have HB:=n4_
   have qd:=n5_
   have qn:=n6_
   have qk:=n7_
   have qe:=n8_
   have qf:=n9_
   clear n0_ n1_ n2_ n3_ n4_ n5_ n6_ n7_ n8_ n9_
   clear hb hbox hg
   refine hK.out _ _ trivial (fun hHeld=>?_)
   clear hK K
   refine norm_ (a':=?_) ?_ ?_
   rotate_left
   ·show Act.put _ (some 4) _ = _
    simp only [Act.put,List.setIfInBounds_toArray,List.set_cons_zero,List.set_cons_succ,i64_w,i32_w]
    rfl
   exact norm_ z12x2 (hJ0_2_3_5 (.slice vm qj.length vl,.slice wq qv.length wo,.slice vw qp.length vu,qa) _ ⟨z12x14,z12x15,z12x16,z12x9,z12x10,qn.out,qk.out,qe.out,qf.out,z12x3⟩)
 rintro ⟨qq,qu,qt,qa⟩ w16 ⟨h0_,h1_,h2_,h3_,h4_,h5_,h6_,h7_,h8_,h9_⟩
 have n0_ : Aside0 (Kd.R k41 41 w16 w.heap.size (fun _=>True) qq qj):=⟨h0_⟩
 have n1_ : Aside0 (Kd.S k28 28 w16 w.heap.size (fun _=>True) qu qv):=⟨h1_⟩
 have n2_ : Aside0 (Kd.S k128 128 w16 w.heap.size (fun k_=>some k_ ≠ (qq : Value).ownBlock) qt qp):=⟨h2_⟩
 have n3_ : Aside0 (w16.heap[qb]? = some (.cells #[.int .i64 0,.int .i64 0,.slice none 0 0,.slice none 0 0,.slice none 0 0,.slice none 0 0,.int .i64 0] 69 (0,0))):=⟨h3_⟩
 have n4_ : Aside0 (w16.heap[qa]? = some (.cells #[.int .i64 0,.int .i64 0,.slice none 0 0,.slice none 0 0,.slice none 0 0,.slice none 0 0,.int .i64 0] 69 (0,0))):=⟨h4_⟩
 have n5_ : Aside0 (w.heap.size ≤ qa):=⟨h5_⟩
 have n6_ : Aside0 (w.heap.size ≤ qa):=⟨h6_⟩
 have n7_ : Aside0 (qb ≠ qa):=⟨h7_⟩
 have n8_ : Aside0 (qa ≠ qb):=⟨h8_⟩
 have n9_ : Aside0 (Below w.heap.size w w16):=⟨h9_⟩
 clear qc
 clear HB
 clear h0_ h1_ h2_ h3_ h4_ h5_ h6_ h7_ h8_ h9_
 have qi:=n0_
 have qh:=n1_
 have qg:=n2_
 have qc:=n3_
 have qd:=n4_
 have qn:=n5_
 have qk:=n6_
 have qe:=n7_
 have qf:=n8_
 have HB:=n9_
 clear n0_ n1_ n2_ n3_ n4_ n5_ n6_ n7_ n8_ n9_
 have hHeld:=trivial
 obtain ⟨wq,wo,ud⟩:=Kd.S_slice qg.out
 (first|subst ud|(injection ud with f1_ f2_ f3_;have f4_:=f1_.symm;have f5_:=f3_.symm;clear f1_ f2_ f3_;subst f4_;subst f5_))
 obtain ⟨vm,vl,uc⟩:=Kd.S_slice qh.out
 (first|subst uc|(injection uc with f1_ f2_ f3_;have f4_:=f1_.symm;have f5_:=f3_.symm;clear f1_ f2_ f3_;subst f4_;subst f5_))
 obtain ⟨qx,qw,jw⟩:=Kd.R_slice qi.out
 (first|subst jw|(injection jw with f1_ f2_ f3_;have f4_:=f1_.symm;have f5_:=f3_.symm;clear f1_ f2_ f3_;subst f4_;subst f5_))
 refine norm_ (a':=?_) ?_ ?_
 rotate_left
 ·simp only [putAll,Act.put,List.setIfInBounds_toArray,List.set_cons_zero,List.set_cons_succ]
  rfl
 refine one_ (i:=6) (N:=none) #[true,true,true,true,true,true,true] rfl rfl (by kernel_rfl) (by decide) (fun K hK=>?_)
 have qcr : w16.cell? ⟨qa,0,none⟩ = some (.int .i64 0):=(blk_cell qd.out 0).trans rfl
 have qcg:=blk_frozen qd.out 0
 have gm:=qe.out
 have gu:=qf.out
 have qcq : w16.cell? ⟨qa,1,none⟩ = some (.int .i64 0):=(blk_cell qd.out 1).trans rfl
 have qcf:=blk_frozen qd.out 1
 have gl:=qe.out
 have gt:=qf.out
 have qcp : w16.cell? ⟨qa,2,none⟩ = some (.slice none 0 0):=(blk_cell qd.out 2).trans rfl
 have qce:=blk_frozen qd.out 2
 have gj:=qe.out
 have gs:=qf.out
 have qco : w16.cell? ⟨qa,3,none⟩ = some (.slice none 0 0):=(blk_cell qd.out 3).trans rfl
 have qcd:=blk_frozen qd.out 3
 have gi:=qe.out
 have gr:=qf.out
 have qcn : w16.cell? ⟨qa,4,none⟩ = some (.slice none 0 0):=(blk_cell qd.out 4).trans rfl
 have qcc:=blk_frozen qd.out 4
 have gh:=qe.out
 have gq:=qf.out
 have qcm : w16.cell? ⟨qa,5,none⟩ = some (.slice none 0 0):=(blk_cell qd.out 5).trans rfl
 have qcb:=blk_frozen qd.out 5
 have gg:=qe.out
 have gp:=qf.out
 have qcl : w16.cell? ⟨qa,6,none⟩ = some (.int .i64 0):=(blk_cell qd.out 6).trans rfl
 have qca:=blk_frozen qd.out 6
 have gf:=qe.out
 have gn:=qf.out
 refine skip_ (w1:=?_) (by rfl) rfl ?_ ?_
 rotate_left
 ·go_simp
  rfl
 refine hK.out _ _ trivial (fun hHeld=>?_)
 clear hK K
 refine done_ (by kernel_rfl) ?_
 try go_wp2
 go_loopg [5] k (fun kq v5 w' => ∃ (wu : Int) (ql : List (S28)) (qr : Value),v5 = .int .i64 wu ∧ Aside0 (impl_WorldNew.l0 kq wu 0 qm qj ql qp a0 = some (r1,r2,r3,r4,r5,r6,r7,r8)) ∧ Aside0 (kq ≤ k) ∧ Aside0 (Kd.R k41 41 w' w.heap.size (fun _=>True) (.slice qx qj.length qw) qj) ∧ Aside0 (Kd.S k28 28 w' w.heap.size (fun _=>True) qr ql) ∧ Aside0 (Kd.S k128 128 w' w.heap.size (fun k_=>some k_ ≠ ((.slice qx qj.length qw) : Value).ownBlock) (.slice wq qp.length wo) qp) ∧ Aside0 (w'.heap[qb]? = some (.cells #[.int .i64 0,.int .i64 0,(.slice none 0 0),(.slice none 0 0),(.slice none 0 0),(.slice none 0 0),.int .i64 0] 69 (0,0))) ∧ Aside0 (w'.heap[qa]? = some (.cells #[.int .i64 0,.int .i64 qm,(.slice qx qj.length qw),qr,(.slice wq qp.length wo),(.slice none 0 0),.int .i64 a0] 69 (0,0))) ∧ Aside0 (Below w.heap.size w w'))
 case atStart=>exact ⟨(1),(qv),(.slice vm qv.length vl),(by first|rfl|(simp;done)|(simp [*];done)),H',⟨Nat.le_refl _⟩,⟨by (with_reducible repeat (first|apply Kd.R_alloc|apply Kd.R_drewN|apply Kd.R_drew));exact Kd.R_mono (Kd.R_far (p:=⟨qa,6,none⟩) (Kd.R_far (p:=⟨qa,5,none⟩) (Kd.R_far (p:=⟨qa,4,none⟩) (Kd.R_far (p:=⟨qa,3,none⟩) (Kd.R_far (p:=⟨qa,2,none⟩) (Kd.R_far (p:=⟨qa,1,none⟩) (Kd.R_far (p:=⟨qa,0,none⟩) (Kd.R_types qi.out qd.out (by decide)) (fun _ hk=>hk.2) (.int .i64 0)) (fun _ hk=>hk.2) (.int .i64 qm)) (fun _ hk=>hk.2) (.slice qx qj.length qw)) (fun _ hk=>hk.2) (.slice vm qv.length vl)) (fun _ hk=>hk.2) (.slice wq qp.length wo)) (fun _ hk=>hk.2) (.slice none 0 0)) (fun _ hk=>hk.2) (.int .i64 a0)) (fun _ hk=>trivial)⟩,⟨by (with_reducible repeat (first|apply Kd.S_alloc|apply Kd.S_drewN|apply Kd.S_drew));exact Kd.S_mono (Kd.S_far (p:=⟨qa,6,none⟩) (Kd.S_far (p:=⟨qa,5,none⟩) (Kd.S_far (p:=⟨qa,4,none⟩) (Kd.S_far (p:=⟨qa,3,none⟩) (Kd.S_far (p:=⟨qa,2,none⟩) (Kd.S_far (p:=⟨qa,1,none⟩) (Kd.S_far (p:=⟨qa,0,none⟩) (Kd.S_types qh.out qd.out (by decide)) (fun _ hk=>hk.2) (.int .i64 0)) (fun _ hk=>hk.2) (.int .i64 qm)) (fun _ hk=>hk.2) (.slice qx qj.length qw)) (fun _ hk=>hk.2) (.slice vm qv.length vl)) (fun _ hk=>hk.2) (.slice wq qp.length wo)) (fun _ hk=>hk.2) (.slice none 0 0)) (fun _ hk=>hk.2) (.int .i64 a0)) (fun _ hk=>trivial)⟩,⟨by (with_reducible repeat (first|apply Kd.S_alloc|apply Kd.S_drewN|apply Kd.S_drew));exact Kd.S_mono (Kd.S_far (p:=⟨qa,6,none⟩) (Kd.S_far (p:=⟨qa,5,none⟩) (Kd.S_far (p:=⟨qa,4,none⟩) (Kd.S_far (p:=⟨qa,3,none⟩) (Kd.S_far (p:=⟨qa,2,none⟩) (Kd.S_far (p:=⟨qa,1,none⟩) (Kd.S_far (p:=⟨qa,0,none⟩) (Kd.S_types qg.out qd.out (by decide)) (fun _ hk=>hk.2) (.int .i64 0)) (fun _ hk=>hk.2) (.int .i64 qm)) (fun _ hk=>hk.2) (.slice qx qj.length qw)) (fun _ hk=>hk.2) (.slice vm qv.length vl)) (fun _ hk=>hk.2) (.slice wq qp.length wo)) (fun _ hk=>hk.2) (.slice none 0 0)) (fun _ hk=>hk.2) (.int .i64 a0)) (fun _ hk=>hk.1)⟩,⟨by (with_reducible repeat (first|refine blk_drewN ?_ _|refine blk_drew ?_|refine blk_alloc ?_ _));refine blk_far ?_ qe.out _;(with_reducible repeat (first|refine blk_drewN ?_ _|refine blk_drew ?_|refine blk_alloc ?_ _));refine blk_far ?_ qe.out _;(with_reducible repeat (first|refine blk_drewN ?_ _|refine blk_drew ?_|refine blk_alloc ?_ _));refine blk_far ?_ qe.out _;(with_reducible repeat (first|refine blk_drewN ?_ _|refine blk_drew ?_|refine blk_alloc ?_ _));refine blk_far ?_ qe.out _;(with_reducible repeat (first|refine blk_drewN ?_ _|refine blk_drew ?_|refine blk_alloc ?_ _));refine blk_far ?_ qe.out _;(with_reducible repeat (first|refine blk_drewN ?_ _|refine blk_drew ?_|refine blk_alloc ?_ _));refine blk_far ?_ qe.out _;(with_reducible repeat (first|refine blk_drewN ?_ _|refine blk_drew ?_|refine blk_alloc ?_ _));refine blk_far ?_ qe.out _;(with_reducible repeat (first|refine blk_drewN ?_ _|refine blk_drew ?_|refine blk_alloc ?_ _));exact qc.out⟩,⟨by (with_reducible repeat (first|refine blk_drewN ?_ _|refine blk_drew ?_|refine blk_alloc ?_ _));refine blk_put (cs:=#[.int .i64 0,.int .i64 qm,.slice qx qj.length qw,.slice vm qv.length vl,.slice wq qp.length wo,.slice none 0 0,.int .i64 0]) ?_ 6 _ rfl;(with_reducible repeat (first|refine blk_drewN ?_ _|refine blk_drew ?_|refine blk_alloc ?_ _));refine blk_put (cs:=#[.int .i64 0,.int .i64 qm,.slice qx qj.length qw,.slice vm qv.length vl,.slice wq qp.length wo,.slice none 0 0,.int .i64 0]) ?_ 5 _ rfl;(with_reducible repeat (first|refine blk_drewN ?_ _|refine blk_drew ?_|refine blk_alloc ?_ _));refine blk_put (cs:=#[.int .i64 0,.int .i64 qm,.slice qx qj.length qw,.slice vm qv.length vl,.slice none 0 0,.slice none 0 0,.int .i64 0]) ?_ 4 _ rfl;(with_reducible repeat (first|refine blk_drewN ?_ _|refine blk_drew ?_|refine blk_alloc ?_ _));refine blk_put (cs:=#[.int .i64 0,.int .i64 qm,.slice qx qj.length qw,.slice none 0 0,.slice none 0 0,.slice none 0 0,.int .i64 0]) ?_ 3 _ rfl;(with_reducible repeat (first|refine blk_drewN ?_ _|refine blk_drew ?_|refine blk_alloc ?_ _));refine blk_put (cs:=#[.int .i64 0,.int .i64 qm,.slice none 0 0,.slice none 0 0,.slice none 0 0,.slice none 0 0,.int .i64 0]) ?_ 2 _ rfl;(with_reducible repeat (first|refine blk_drewN ?_ _|refine blk_drew ?_|refine blk_alloc ?_ _));refine blk_put (cs:=#[.int .i64 0,.int .i64 0,.slice none 0 0,.slice none 0 0,.slice none 0 0,.slice none 0 0,.int .i64 0]) ?_ 1 _ rfl;(with_reducible repeat (first|refine blk_drewN ?_ _|refine blk_drew ?_|refine blk_alloc ?_ _));refine blk_put (cs:=#[.int .i64 0,.int .i64 0,.slice none 0 0,.slice none 0 0,.slice none 0 0,.slice none 0 0,.int .i64 0]) ?_ 0 _ rfl;(with_reducible repeat (first|refine blk_drewN ?_ _|refine blk_drew ?_|refine blk_alloc ?_ _));exact qd.out⟩,⟨by repeat (first|(with_reducible first|exact HB.out|apply below_alloc|apply pw_below_drewN|apply below_drew1|refine below_set ?_ wj.out|refine below_set ?_ qk.out)|exact HB.out)⟩⟩
 case round =>
  clear H'
  try clear c1
  try clear p2
  try clear c10
  obtain ⟨wu,ql,qr,rfl,HA,HK1,HO_196002,HO_196003,HO_196004,qc,qd,HB⟩:=hrel
  cases gk with
  | zero=>exact absurd HA.out (by simp [impl_WorldNew.l0])
  | succ k1 =>
   have H:=HA.out
   clear HA
   simp only [impl_WorldNew.l0] at H
   by_cases c27 : wu ≤ 3
   ·rw [if_pos c27] at H
    have jt : decide (wu ≤ 3) = true:=decide_eq_true c27
    clear c27
    by_cases c28 : ql.length < 1256584717458
    rotate_left
    ·rw [if_neg c28] at H
     exact absurd H (by simp)
    rw [if_pos c28] at H
    have gb:=Aside0.mk c28
    clear c28
    obtain ⟨vy,vo⟩ : ∃ y_ : List (S28),y_ = (ql ++ [(⟨wu,0,([] : List (S104)),([] : List (S106)),([] : List (S113)),([] : List (S113))⟩ : S28)]):=⟨_,rfl⟩
    replace H : (impl_WorldNew.l0 k1 (wrap64 (wu + 1)) 0 qm qj vy qp a0) = some (r1,r2,r3,r4,r5,r6,r7,r8):=by first|(rw [vo];with_reducible exact H)|(have H2_:=(Option.bind_some _ _).symm.trans H;rw [vo];with_reducible exact H2_)|(have H2_:=(Option.bind_some _ _).symm.trans H;with_reducible exact H2_)|with_reducible exact H|(rw [vo];exact H)|exact H
    have jz:=Aside0.mk vo
    clear vo
    have H':=Aside0.mk H
    clear H
    have qbz:=qf.out
    have qbw:=qe.out
    have ji : wr.cell? ⟨qa,0,none⟩ = some (.int .i64 0):=(blk_cell qd.out 0).trans rfl
    have jh : wr.cell? ⟨qa,1,none⟩ = some (.int .i64 qm):=(blk_cell qd.out 1).trans rfl
    have jg : wr.cell? ⟨qa,2,none⟩ = some (.slice qx qj.length qw):=(blk_cell qd.out 2).trans rfl
    have jf : wr.cell? ⟨qa,3,none⟩ = some (qr):=(blk_cell qd.out 3).trans rfl
    have je : wr.cell? ⟨qa,4,none⟩ = some (.slice wq qp.length wo):=(blk_cell qd.out 4).trans rfl
    have jd : wr.cell? ⟨qa,5,none⟩ = some (.slice none 0 0):=(blk_cell qd.out 5).trans rfl
    have jc : wr.cell? ⟨qa,6,none⟩ = some (.int .i64 a0):=(blk_cell qd.out 6).trans rfl
    have uu:=blk_frozen qd.out 0
    have ut:=blk_frozen qd.out 1
    have us:=blk_frozen qd.out 2
    have ur:=blk_frozen qd.out 3
    have uq:=blk_frozen qd.out 4
    have uo:=blk_frozen qd.out 5
    have un:=blk_frozen qd.out 6
    go_wp2_with (first|((with_reducible refine gate_builtin (b:=.append) (xs:=#[.tmp 21,.tmp 24]) rfl ?_);at_builtin;refine Kd.S_append k28 (w0:=w) w.heap.size rfl (.tmp 21) (.tmp 24) 65 28 (.agg #[(.int .i64 0),(.int .i64 0),(.slice none 0 0),(.slice none 0 0),(.slice none 0 0),(.slice none 0 0)]) 112 rfl Try.underlying65 info28 rfl (by decide) (by omega) qr ql (⟨wu,0,([] : List (S104)),([] : List (S106)),([] : List (S113)),([] : List (S113))⟩ : S28) [.int .i64 wu,.int .i64 0,.slice none 0 0,.slice none 0 0,.slice none 0 0,.slice none 0 0] (fun _=>True) (fun _=>False) rfl rfl ?aP (fun k_ hk_=>hk_.elim) ?aF ?aO ?aB ?aS ?aL ?_;(case aP=>exact k28_mkM _ _ _ (⟨wu,0,([] : List (S104)),([] : List (S106)),([] : List (S113)),([] : List (S113))⟩ : S28) (Kd.R_nil _ _ _ _ _) (Kd.R_nil _ _ _ _ _) (Kd.R_nil _ _ _ _ _) (Kd.R_nil _ _ _ _ _));(case aB=>exact z12x3);(case aF=>exact (fun _ _=>trivial));(case aO=>exact (by (with_reducible repeat (first|apply Kd.S_alloc|apply Kd.S_drewN|apply Kd.S_drew));exact Kd.S_mono HO_196003.out (fun k_ hk=>⟨trivial,fun e_=>e_⟩)));(case aS=>exact (below_size z12x3));(case aL=>have:=gb.out;omega);intro qci w31 ho hb hg hat;rw [← jz.out] at ho;have n0_:=Aside0.mk (Kd.R_over' z12x11 (Kd.S_typed z12x12) (by decide) hg);have n1_:=Aside0.mk (Kd.S_over' z12x13 (Kd.S_typed z12x12) (by decide) hg);have n2_:=Aside0.mk (blk_grown (g:=qb) (o:=.cells #[.int .i64 0,.int .i64 0,.slice none 0 0,.slice none 0 0,.slice none 0 0,.slice none 0 0,.int .i64 0] 69 (0,0)) z12x9 hg (Kd.S_ne HO_196003.out qc.out (by decide)));have n3_:=Aside0.mk (blk_grown (g:=qa) (o:=.cells #[.int .i64 0,.int .i64 qm,.slice qx qj.length qw,qr,.slice wq qp.length wo,.slice none 0 0,.int .i64 a0] 69 (0,0)) z12x10 hg (Kd.S_ne HO_196003.out qd.out (by decide)));have n4_:=Aside0.mk (hb);have n5_:=Aside0.mk (ho);clear HO_196002;clear HO_196004;clear qc;clear qd;clear HB;clear HO_196003;have HO_196002:=n0_;have HO_196004:=n1_;have qc:=n2_;have qd:=n3_;have HB:=n4_;have jv:=n5_;clear n0_ n1_ n2_ n3_ n4_ n5_;clear ho hb hg hat;obtain ⟨jm,jk,qbs⟩:=Kd.S_slice jv.out;subst qbs;have jb : w31.cell? ⟨qa,0,none⟩ = some (.int .i64 0):=(blk_cell qd.out 0).trans rfl;have ja : w31.cell? ⟨qa,1,none⟩ = some (.int .i64 qm):=(blk_cell qd.out 1).trans rfl;have uz : w31.cell? ⟨qa,2,none⟩ = some (.slice qx qj.length qw):=(blk_cell qd.out 2).trans rfl;have uy : w31.cell? ⟨qa,3,none⟩ = some (qr):=(blk_cell qd.out 3).trans rfl;have ux : w31.cell? ⟨qa,4,none⟩ = some (.slice wq qp.length wo):=(blk_cell qd.out 4).trans rfl;have uw : w31.cell? ⟨qa,5,none⟩ = some (.slice none 0 0):=(blk_cell qd.out 5).trans rfl;have uv : w31.cell? ⟨qa,6,none⟩ = some (.int .i64 a0):=(blk_cell qd.out 6).trans rfl;have um:=blk_frozen qd.out 0;have ul:=blk_frozen qd.out 1;have uk:=blk_frozen qd.out 2;have uj:=blk_frozen qd.out 3;have ui:=blk_frozen qd.out 4;have uh:=blk_frozen qd.out 5;have ug:=blk_frozen qd.out 6))
    go_roundg k1
    case measure=>have:=HK1.out;omega
    case rel=>exact ⟨(wrap64 (wu + 1)),(vy),(.slice jm vy.length jk),(by first|rfl|(simp;done)|(simp [*];done)),H',⟨by have:=HK1.out;omega⟩,⟨by (with_reducible repeat (first|apply Kd.R_alloc|apply Kd.R_drewN|apply Kd.R_drew));exact Kd.R_mono (Kd.R_far (p:=⟨qa,3,none⟩) (Kd.R_types HO_196002.out qd.out (by decide)) (fun _ hk=>hk.2) (.slice jm vy.length jk)) (fun _ hk=>trivial)⟩,⟨by (with_reducible repeat (first|apply Kd.S_alloc|apply Kd.S_drewN|apply Kd.S_drew));exact Kd.S_mono (Kd.S_far (p:=⟨qa,3,none⟩) (Kd.S_types jv.out qd.out (by decide)) (fun _ hk=>hk.2) (.slice jm vy.length jk)) (fun _ hk=>trivial)⟩,⟨by (with_reducible repeat (first|apply Kd.S_alloc|apply Kd.S_drewN|apply Kd.S_drew));exact Kd.S_mono (Kd.S_far (p:=⟨qa,3,none⟩) (Kd.S_types HO_196004.out qd.out (by decide)) (fun _ hk=>hk.2) (.slice jm vy.length jk)) (fun _ hk=>hk.1)⟩,⟨by (with_reducible repeat (first|refine blk_drewN ?_ _|refine blk_drew ?_|refine blk_alloc ?_ _));refine blk_far ?_ qe.out _;(with_reducible repeat (first|refine blk_drewN ?_ _|refine blk_drew ?_|refine blk_alloc ?_ _));exact qc.out⟩,⟨by (with_reducible repeat (first|refine blk_drewN ?_ _|refine blk_drew ?_|refine blk_alloc ?_ _));refine blk_put (cs:=#[.int .i64 0,.int .i64 qm,.slice qx qj.length qw,qr,.slice wq qp.length wo,.slice none 0 0,.int .i64 a0]) ?_ 3 _ rfl;(with_reducible repeat (first|refine blk_drewN ?_ _|refine blk_drew ?_|refine blk_alloc ?_ _));exact qd.out⟩,⟨by repeat (first|(with_reducible first|exact HB.out|apply below_alloc|apply pw_below_drewN|apply below_drew1|refine below_set ?_ wj.out|refine below_set ?_ qk.out)|exact HB.out)⟩⟩
   ·rw [if_neg c27] at H
    have jt : decide (wu ≤ 3) = false:=decide_eq_false c27
    clear c27
    have H':=Aside0.mk H
    clear H
    go_wp2
    go_loopg [6] k1 (fun kq v6 w' => ∃ (wt : Int) (qo : List (S128)) (wa : Value),v6 = .int .i64 wt ∧ Aside0 (impl_WorldNew.l1 kq wt 0 qm qj ql qo a0 = some (r1,r2,r3,r4,r5,r6,r7,r8)) ∧ Aside0 (kq ≤ k1) ∧ Aside0 (Kd.R k41 41 w' w.heap.size (fun _=>True) (.slice qx qj.length qw) qj) ∧ Aside0 (Kd.S k28 28 w' w.heap.size (fun _=>True) qr ql) ∧ Aside0 (Kd.S k128 128 w' w.heap.size (fun k_=>some k_ ≠ ((.slice qx qj.length qw) : Value).ownBlock) wa qo) ∧ Aside0 (w'.heap[qb]? = some (.cells #[.int .i64 0,.int .i64 0,(.slice none 0 0),(.slice none 0 0),(.slice none 0 0),(.slice none 0 0),.int .i64 0] 69 (0,0))) ∧ Aside0 (w'.heap[qa]? = some (.cells #[.int .i64 0,.int .i64 qm,(.slice qx qj.length qw),qr,wa,(.slice none 0 0),.int .i64 a0] 69 (0,0))) ∧ Aside0 (Below w.heap.size w w'))
    case atStart=>exact ⟨(4),(qp),(.slice wq qp.length wo),(by first|rfl|(simp;done)|(simp [*];done)),H',⟨Nat.le_refl _⟩,⟨by (with_reducible repeat (first|apply Kd.R_alloc|apply Kd.R_drewN|apply Kd.R_drew));exact HO_196002.out⟩,⟨by (with_reducible repeat (first|apply Kd.S_alloc|apply Kd.S_drewN|apply Kd.S_drew));exact HO_196003.out⟩,⟨by (with_reducible repeat (first|apply Kd.S_alloc|apply Kd.S_drewN|apply Kd.S_drew));exact HO_196004.out⟩,⟨by (with_reducible repeat (first|refine blk_drewN ?_ _|refine blk_drew ?_|refine blk_alloc ?_ _));exact qc.out⟩,⟨by (with_reducible repeat (first|refine blk_drewN ?_ _|refine blk_drew ?_|refine blk_alloc ?_ _));exact qd.out⟩,⟨by repeat (first|(with_reducible first|exact HB.out|apply below_alloc|apply pw_below_drewN|apply below_drew1|refine below_set ?_ wj.out|refine below_set ?_ qk.out)|exact HB.out)⟩⟩
    case round =>
     clear H'
     try clear c1
     try clear c2
     try clear p2
     try clear p6
     try clear c10
     try clear c27
     try clear jt
     try clear c28
     try clear c29
     try clear ji
     try clear jh
     try clear jg
     try clear jf
     try clear je
     try clear jd
     try clear jc
     try clear jb
     try clear ja
     try clear uz
     try clear uy
     try clear ux
     try clear uw
     try clear uv
     try clear uu
     try clear ut
     try clear us
     try clear ur
     try clear uq
     try clear uo
     try clear un
     try clear um
     try clear ul
     try clear uk
     try clear uj
     try clear ui
     try clear uh
     try clear ug
     try clear p2
     obtain ⟨wt,qo,wa,rfl,HA,HK2,HO_196002,HO_196003,HO_196004,qc,qd,HB⟩:=hrel
     cases gk with
     | zero=>exact absurd HA.out (by simp [impl_WorldNew.l1])
     | succ k2 =>
      have H:=HA.out
      clear HA
      simp only [impl_WorldNew.l1] at H
      by_cases c34 : wt ≤ 5
      ·rw [if_pos c34] at H
       have jx : decide (wt ≤ 5) = true:=decide_eq_true c34
       clear c34
       by_cases c35 : qo.length < 2199023255552
       rotate_left
       ·rw [if_neg c35] at H
        exact absurd H (by simp)
       rw [if_pos c35] at H
       have ga:=Aside0.mk c35
       clear c35
       obtain ⟨vx,vn⟩ : ∃ y_ : List (S128),y_ = (qo ++ [(⟨wt,(-1),([] : List (S41)),([] : List (S113))⟩ : S128)]):=⟨_,rfl⟩
       replace H : (impl_WorldNew.l1 k2 (wrap64 (wt + 1)) 0 qm qj ql vx a0) = some (r1,r2,r3,r4,r5,r6,r7,r8):=by first|(rw [vn];with_reducible exact H)|(have H2_:=(Option.bind_some _ _).symm.trans H;rw [vn];with_reducible exact H2_)|(have H2_:=(Option.bind_some _ _).symm.trans H;with_reducible exact H2_)|with_reducible exact H|(rw [vn];exact H)|exact H
       have jy:=Aside0.mk vn
       clear vn
       have H':=Aside0.mk H
       clear H
       have qby:=qf.out
       have qbv:=qe.out
       have qbo : wr.cell? ⟨qa,0,none⟩ = some (.int .i64 0):=(blk_cell qd.out 0).trans rfl
       have qbn : wr.cell? ⟨qa,1,none⟩ = some (.int .i64 qm):=(blk_cell qd.out 1).trans rfl
       have qbm : wr.cell? ⟨qa,2,none⟩ = some (.slice qx qj.length qw):=(blk_cell qd.out 2).trans rfl
       have qbl : wr.cell? ⟨qa,3,none⟩ = some (qr):=(blk_cell qd.out 3).trans rfl
       have qbk : wr.cell? ⟨qa,4,none⟩ = some (wa):=(blk_cell qd.out 4).trans rfl
       have qbj : wr.cell? ⟨qa,5,none⟩ = some (.slice none 0 0):=(blk_cell qd.out 5).trans rfl
       have qbi : wr.cell? ⟨qa,6,none⟩ = some (.int .i64 a0):=(blk_cell qd.out 6).trans rfl
       have qaf:=blk_frozen qd.out 0
       have qae:=blk_frozen qd.out 1
       have qad:=blk_frozen qd.out 2
       have qac:=blk_frozen qd.out 3
       have qab:=blk_frozen qd.out 4
       have qaa:=blk_frozen qd.out 5
       have pz:=blk_frozen qd.out 6
       go_wp2_with (first|((with_reducible refine gate_builtin (b:=.append) (xs:=#[.tmp 32,.tmp 35]) rfl ?_);at_builtin;refine Kd.S_append k128 (w0:=w) w.heap.size rfl (.tmp 32) (.tmp 35) 66 128 (.agg #[(.int .i64 0),(.int .i64 0),(.slice none 0 0),(.slice none 0 0)]) 64 rfl Try.underlying66 info128 rfl (by decide) (by omega) wa qo (⟨wt,(-1),([] : List (S41)),([] : List (S113))⟩ : S128) [.int .i64 wt,.int .i64 (-1),.slice none 0 0,.slice none 0 0] (fun k_=>some k_ ≠ (.slice qx qj.length qw : Value).ownBlock) (fun _=>False) rfl rfl ?aP (fun k_ hk_=>hk_.elim) ?aF ?aO ?aB ?aS ?aL ?_;(case aP=>exact k128_mkM _ _ _ (⟨wt,(-1),([] : List (S41)),([] : List (S113))⟩ : S128) (Kd.R_nil _ _ _ _ _) (Kd.R_nil _ _ _ _ _));(case aB=>exact z12x3);(case aF=>exact (fun k_ hk=>Kd.fresh' (Kd.R_lt z12x11) k_ hk));(case aO=>exact (by (with_reducible repeat (first|apply Kd.S_alloc|apply Kd.S_drewN|apply Kd.S_drew));exact Kd.S_mono HO_196004.out (fun k_ hk=>⟨hk,fun e_=>e_⟩)));(case aS=>exact (below_size z12x3));(case aL=>have:=ga.out;omega);intro qch w38 ho hb hg hat;rw [← jy.out] at ho;have n0_:=Aside0.mk (Kd.R_over' z12x11 (Kd.S_typed z12x13) (by decide) hg);have n1_:=Aside0.mk (Kd.S_over' z12x12 (Kd.S_typed z12x13) (by decide) hg);have n2_:=Aside0.mk (blk_grown (g:=qb) (o:=.cells #[.int .i64 0,.int .i64 0,.slice none 0 0,.slice none 0 0,.slice none 0 0,.slice none 0 0,.int .i64 0] 69 (0,0)) z12x9 hg (Kd.S_ne HO_196004.out qc.out (by decide)));have n3_:=Aside0.mk (blk_grown (g:=qa) (o:=.cells #[.int .i64 0,.int .i64 qm,.slice qx qj.length qw,qr,wa,.slice none 0 0,.int .i64 a0] 69 (0,0)) z12x10 hg (Kd.S_ne HO_196004.out qd.out (by decide)));have n4_:=Aside0.mk (hb);have n5_:=Aside0.mk (ho);clear HO_196002;clear HO_196003;clear qc;clear qd;clear HB;clear HO_196004;have HO_196002:=n0_;have HO_196003:=n1_;have qc:=n2_;have qd:=n3_;have HB:=n4_;have ju:=n5_;clear n0_ n1_ n2_ n3_ n4_ n5_;clear ho hb hg hat;obtain ⟨jl,jj,qbr⟩:=Kd.S_slice ju.out;subst qbr;have qbh : w38.cell? ⟨qa,0,none⟩ = some (.int .i64 0):=(blk_cell qd.out 0).trans rfl;have qbg : w38.cell? ⟨qa,1,none⟩ = some (.int .i64 qm):=(blk_cell qd.out 1).trans rfl;have qbf : w38.cell? ⟨qa,2,none⟩ = some (.slice qx qj.length qw):=(blk_cell qd.out 2).trans rfl;have qbe : w38.cell? ⟨qa,3,none⟩ = some (qr):=(blk_cell qd.out 3).trans rfl;have qbd : w38.cell? ⟨qa,4,none⟩ = some (wa):=(blk_cell qd.out 4).trans rfl;have qbc : w38.cell? ⟨qa,5,none⟩ = some (.slice none 0 0):=(blk_cell qd.out 5).trans rfl;have qbb : w38.cell? ⟨qa,6,none⟩ = some (.int .i64 a0):=(blk_cell qd.out 6).trans rfl;have px:=blk_frozen qd.out 0;have pw:=blk_frozen qd.out 1;have pv:=blk_frozen qd.out 2;have pu:=blk_frozen qd.out 3;have pt:=blk_frozen qd.out 4;have pr:=blk_frozen qd.out 5;have pq:=blk_frozen qd.out 6))
       go_roundg k2
       case measure=>have:=HK1.out;have:=HK2.out;omega
       case rel=>exact ⟨(wrap64 (wt + 1)),(vx),(.slice jl vx.length jj),(by first|rfl|(simp;done)|(simp [*];done)),H',⟨by have:=HK1.out;have:=HK2.out;omega⟩,⟨by (with_reducible repeat (first|apply Kd.R_alloc|apply Kd.R_drewN|apply Kd.R_drew));exact Kd.R_mono (Kd.R_far (p:=⟨qa,4,none⟩) (Kd.R_types HO_196002.out qd.out (by decide)) (fun _ hk=>hk.2) (.slice jl vx.length jj)) (fun _ hk=>trivial)⟩,⟨by (with_reducible repeat (first|apply Kd.S_alloc|apply Kd.S_drewN|apply Kd.S_drew));exact Kd.S_mono (Kd.S_far (p:=⟨qa,4,none⟩) (Kd.S_types HO_196003.out qd.out (by decide)) (fun _ hk=>hk.2) (.slice jl vx.length jj)) (fun _ hk=>trivial)⟩,⟨by (with_reducible repeat (first|apply Kd.S_alloc|apply Kd.S_drewN|apply Kd.S_drew));exact Kd.S_mono (Kd.S_far (p:=⟨qa,4,none⟩) (Kd.S_types ju.out qd.out (by decide)) (fun _ hk=>hk.2) (.slice jl vx.length jj)) (fun _ hk=>hk.1)⟩,⟨by (with_reducible repeat (first|refine blk_drewN ?_ _|refine blk_drew ?_|refine blk_alloc ?_ _));refine blk_far ?_ qe.out _;(with_reducible repeat (first|refine blk_drewN ?_ _|refine blk_drew ?_|refine blk_alloc ?_ _));exact qc.out⟩,⟨by (with_reducible repeat (first|refine blk_drewN ?_ _|refine blk_drew ?_|refine blk_alloc ?_ _));refine blk_put (cs:=#[.int .i64 0,.int .i64 qm,.slice qx qj.length qw,qr,wa,.slice none 0 0,.int .i64 a0]) ?_ 4 _ rfl;(with_reducible repeat (first|refine blk_drewN ?_ _|refine blk_drew ?_|refine blk_alloc ?_ _));exact qd.out⟩,⟨by repeat (first|(with_reducible first|exact HB.out|apply below_alloc|apply pw_below_drewN|apply below_drew1|refine below_set ?_ wj.out|refine below_set ?_ qk.out)|exact HB.out)⟩⟩
      ·rw [if_neg c34] at H
       have jx : decide (wt ≤ 5) = false:=decide_eq_false c34
       clear c34
       simp only [Option.some.injEq,Prod.mk.injEq] at H
       obtain ⟨rfl,rfl,rfl,rfl,rfl,rfl,rfl,rfl⟩:=H
       have qbx:=qf.out
       have qbu:=qe.out
       have qba : wr.cell? ⟨qa,0,none⟩ = some (.int .i64 0):=(blk_cell qd.out 0).trans rfl
       have qaz : wr.cell? ⟨qa,1,none⟩ = some (.int .i64 qm):=(blk_cell qd.out 1).trans rfl
       have qay : wr.cell? ⟨qa,2,none⟩ = some (.slice qx qj.length qw):=(blk_cell qd.out 2).trans rfl
       have qax : wr.cell? ⟨qa,3,none⟩ = some (qr):=(blk_cell qd.out 3).trans rfl
       have qaw : wr.cell? ⟨qa,4,none⟩ = some (wa):=(blk_cell qd.out 4).trans rfl
       have qav : wr.cell? ⟨qa,5,none⟩ = some (.slice none 0 0):=(blk_cell qd.out 5).trans rfl
       have qau : wr.cell? ⟨qa,6,none⟩ = some (.int .i64 a0):=(blk_cell qd.out 6).trans rfl
       have pp:=blk_frozen qd.out 0
       have po:=blk_frozen qd.out 1
       have pn:=blk_frozen qd.out 2
       have pm:=blk_frozen qd.out 3
       have pl:=blk_frozen qd.out 4
       have pk:=blk_frozen qd.out 5
       have pj:=blk_frozen qd.out 6
       have qat : wr.cell? ⟨qb,0,none⟩ = some (.int .i64 0):=(blk_cell qc.out 0).trans rfl
       have qas : wr.cell? ⟨qb,1,none⟩ = some (.int .i64 0):=(blk_cell qc.out 1).trans rfl
       have qar : wr.cell? ⟨qb,2,none⟩ = some (.slice none 0 0):=(blk_cell qc.out 2).trans rfl
       have qaq : wr.cell? ⟨qb,3,none⟩ = some (.slice none 0 0):=(blk_cell qc.out 3).trans rfl
       have qap : wr.cell? ⟨qb,4,none⟩ = some (.slice none 0 0):=(blk_cell qc.out 4).trans rfl
       have qao : wr.cell? ⟨qb,5,none⟩ = some (.slice none 0 0):=(blk_cell qc.out 5).trans rfl
       have qan : wr.cell? ⟨qb,6,none⟩ = some (.int .i64 0):=(blk_cell qc.out 6).trans rfl
       have pi:=blk_frozen qc.out 0
       have ph:=blk_frozen qc.out 1
       have pg:=blk_frozen qc.out 2
       have pf:=blk_frozen qc.out 3
       have pe:=blk_frozen qc.out 4
       have pd:=blk_frozen qc.out 5
       have pc:=blk_frozen qc.out 6
       obtain ⟨vv,vt,qbq⟩:=Kd.S_slice HO_196003.out
       subst qbq
       obtain ⟨ub,ua,qbp⟩:=Kd.S_slice HO_196004.out
       subst qbp
       go_wp2
       refine bodyPost_ret (results_ct rfl _ _ qb 69 #[.int .i64 0,.int .i64 qm,.slice qx qj.length qw,.slice vv ql.length vt,.slice ub qo.length ua,.slice none 0 0,.int .i64 a0] (0,0) _ rfl (by (with_reducible repeat (first|refine blk_drewN ?_ _|refine blk_drew ?_|refine blk_alloc ?_ _));refine blk_put (cs:=#[.int .i64 0,.int .i64 qm,.slice qx qj.length qw,.slice vv ql.length vt,.slice ub qo.length ua,.slice none 0 0,.int .i64 0]) ?_ 6 _ rfl;(with_reducible repeat (first|refine blk_drewN ?_ _|refine blk_drew ?_|refine blk_alloc ?_ _));refine blk_put (cs:=#[.int .i64 0,.int .i64 qm,.slice qx qj.length qw,.slice vv ql.length vt,.slice ub qo.length ua,.slice none 0 0,.int .i64 0]) ?_ 5 _ rfl;(with_reducible repeat (first|refine blk_drewN ?_ _|refine blk_drew ?_|refine blk_alloc ?_ _));refine blk_put (cs:=#[.int .i64 0,.int .i64 qm,.slice qx qj.length qw,.slice vv ql.length vt,.slice none 0 0,.slice none 0 0,.int .i64 0]) ?_ 4 _ rfl;(with_reducible repeat (first|refine blk_drewN ?_ _|refine blk_drew ?_|refine blk_alloc ?_ _));refine blk_put (cs:=#[.int .i64 0,.int .i64 qm,.slice qx qj.length qw,.slice none 0 0,.slice none 0 0,.slice none 0 0,.int .i64 0]) ?_ 3 _ rfl;(with_reducible repeat (first|refine blk_drewN ?_ _|refine blk_drew ?_|refine blk_alloc ?_ _));refine blk_put (cs:=#[.int .i64 0,.int .i64 qm,.slice none 0 0,.slice none 0 0,.slice none 0 0,.slice none 0 0,.int .i64 0]) ?_ 2 _ rfl;(with_reducible repeat (first|refine blk_drewN ?_ _|refine blk_drew ?_|refine blk_alloc ?_ _));refine blk_put (cs:=#[.int .i64 0,.int .i64 0,.slice none 0 0,.slice none 0 0,.slice none 0 0,.slice none 0 0,.int .i64 0]) ?_ 1 _ rfl;(with_reducible repeat (first|refine blk_drewN ?_ _|refine blk_drew ?_|refine blk_alloc ?_ _));refine blk_put (cs:=#[.int .i64 0,.int .i64 0,.slice none 0 0,.slice none 0 0,.slice none 0 0,.slice none 0 0,.int .i64 0]) ?_ 0 _ rfl;(with_reducible repeat (first|refine blk_drewN ?_ _|refine blk_drew ?_|refine blk_alloc ?_ _));exact qc.out) Try.underlying69 rfl (by kernel_rfl)) rfl ?_
       exact ⟨_,_,_,_,by first|rfl|(simp [errW_none,errW_some] <;> rfl)|(simp [*,errW_none,errW_some] <;> rfl),by (with_reducible repeat (first|apply Kd.R_alloc|apply Kd.R_drewN|apply Kd.R_drew));exact Kd.R_mono (Kd.R_far (p:=⟨qb,6,none⟩) (Kd.R_far (p:=⟨qb,5,none⟩) (Kd.R_far (p:=⟨qb,4,none⟩) (Kd.R_far (p:=⟨qb,3,none⟩) (Kd.R_far (p:=⟨qb,2,none⟩) (Kd.R_far (p:=⟨qb,1,none⟩) (Kd.R_far (p:=⟨qb,0,none⟩) (Kd.R_types HO_196002.out qc.out (by decide)) (fun _ hk=>hk.2) (.int .i64 0)) (fun _ hk=>hk.2) (.int .i64 qm)) (fun _ hk=>hk.2) (.slice qx qj.length qw)) (fun _ hk=>hk.2) (.slice vv ql.length vt)) (fun _ hk=>hk.2) (.slice ub qo.length ua)) (fun _ hk=>hk.2) (.slice none 0 0)) (fun _ hk=>hk.2) (.int .i64 a0)) (fun _ hk=>trivial),by (with_reducible repeat (first|apply Kd.S_alloc|apply Kd.S_drewN|apply Kd.S_drew));exact Kd.S_mono (Kd.S_far (p:=⟨qb,6,none⟩) (Kd.S_far (p:=⟨qb,5,none⟩) (Kd.S_far (p:=⟨qb,4,none⟩) (Kd.S_far (p:=⟨qb,3,none⟩) (Kd.S_far (p:=⟨qb,2,none⟩) (Kd.S_far (p:=⟨qb,1,none⟩) (Kd.S_far (p:=⟨qb,0,none⟩) (Kd.S_types HO_196003.out qc.out (by decide)) (fun _ hk=>hk.2) (.int .i64 0)) (fun _ hk=>hk.2) (.int .i64 qm)) (fun _ hk=>hk.2) (.slice qx qj.length qw)) (fun _ hk=>hk.2) (.slice vv ql.length vt)) (fun _ hk=>hk.2) (.slice ub qo.length ua)) (fun _ hk=>hk.2) (.slice none 0 0)) (fun _ hk=>hk.2) (.int .i64 a0)) (fun _ hk=>trivial),by (with_reducible repeat (first|apply Kd.S_alloc|apply Kd.S_drewN|apply Kd.S_drew));exact Kd.S_mono (Kd.S_far (p:=⟨qb,6,none⟩) (Kd.S_far (p:=⟨qb,5,none⟩) (Kd.S_far (p:=⟨qb,4,none⟩) (Kd.S_far (p:=⟨qb,3,none⟩) (Kd.S_far (p:=⟨qb,2,none⟩) (Kd.S_far (p:=⟨qb,1,none⟩) (Kd.S_far (p:=⟨qb,0,none⟩) (Kd.S_types HO_196004.out qc.out (by decide)) (fun _ hk=>hk.2) (.int .i64 0)) (fun _ hk=>hk.2) (.int .i64 qm)) (fun _ hk=>hk.2) (.slice qx qj.length qw)) (fun _ hk=>hk.2) (.slice vv ql.length vt)) (fun _ hk=>hk.2) (.slice ub qo.length ua)) (fun _ hk=>hk.2) (.slice none 0 0)) (fun _ hk=>hk.2) (.int .i64 a0)) (fun _ hk=>hk.1),by first|exact Kd.S_nil _ _ _ _ _|exact Kd.N_nil _ _ _ _ _|exact Kd.V_nil _ _ _ _ _|exact Kd.Q_nil _ _ _ _ _|exact Kd.R_nil _ _ _ _ _,by repeat (first|(with_reducible first|exact HB.out|apply below_alloc|apply pw_below_drewN|apply below_drew1|refine below_set ?_ wj.out|refine below_set ?_ qk.out)|exact HB.out)⟩

end Go.Proofs.Ytbipicjijbnbbaa.Hp
