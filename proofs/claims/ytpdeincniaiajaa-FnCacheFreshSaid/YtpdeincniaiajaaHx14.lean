-- hp.py
import Derived.Test.YtpdeincniaiajaaHx0
import Derived.Test.YtpdeincniaiajaaHx9
import Derived.Test.YtpdeincniaiajaaHx13
namespace Go.Proofs.Ytpdeincniaiajaa.Hp
open Go.RowKit Go.Proofs.YtpdeincniaiajaaW.PrintWords Go.Proofs.YtpdeincniaiajaaW.PrintLast Go.Proofs.YtpdeincniaiajaaW.PrintMore
attribute [local go_sem] max2_int min2_int max_two min_two max_three min_three max_four min_four   -- for this text's walks alone
set_option linter.unusedVariables false
set_option linter.unusedSimpArgs false
-- squeezed by wip/tools/squeeze.py
theorem z14x7 {P : Prop} (h : P:=by (with_reducible repeat (first | refine blk_drewN ?_ _ | refine blk_drew ?_ | refine blk_alloc ?_ _));exact qi.out) : P:=h
theorem z14x6 {P : Prop} (h : P:=by repeat (first | (with_reducible first | exact HB.out | apply below_alloc | apply pw_below_drewN | apply below_drew1) | exact HB.out)) : P:=h
theorem z14x5 {P : Prop} (h : P:=by rw [hg];exact (below_size (by repeat (first | (with_reducible first | exact HB.out | apply below_alloc | apply pw_below_drewN | apply below_drew1) | exact HB.out)))) : P:=h
theorem z14x4 {P : Prop} (h : P:=by rw [hg];exact (below_size (by repeat (first | (with_reducible first | exact HB.out | apply below_alloc | apply pw_below_drewN | apply below_drew1 | refine below_set ?_ qv.out) | exact HB.out)))) : P:=h
theorem z14x3 {P : Prop} (h : P:=by rw [hg];exact (below_size (by repeat (first | (with_reducible first | exact HB.out | apply below_alloc | apply pw_below_drewN | apply below_drew1 | refine below_set ?_ qv.out | refine below_set ?_ qy.out) | exact HB.out)))) : P:=h
theorem z14x2 {P : Prop} (h : P:=by repeat (first | (with_reducible first | exact HB.out | apply below_alloc | apply pw_below_drewN | apply below_drew1 | refine below_set ?_ qv.out | refine below_set ?_ qy.out | refine below_set ?_ wi.out) | exact HB.out)) : P:=h
theorem z14x1 {P : Prop} (h : P:=by rw [hg];exact Nat.ne_of_lt (blk_lt (g:=qf) (o:=.cells #[.int .i64 qc,.slice qt qk.length qr] 24 (0,0)) (by (with_reducible repeat (first | refine blk_drewN ?_ _ | refine blk_drew ?_ | refine blk_alloc ?_ _));exact qe.out))) : P:=h
theorem z14x0 {P : Prop} (h : P:=by rw [hg];exact Nat.ne_of_gt (blk_lt (g:=qf) (o:=.cells #[.int .i64 qc,.slice qt qk.length qr] 24 (0,0)) (by (with_reducible repeat (first | refine blk_drewN ?_ _ | refine blk_drew ?_ | refine blk_alloc ?_ _));exact qe.out))) : P:=h

/-! ### laws_toKdc: function 21 -/
def laws_toKdc.f (k : Nat) (qc : Int) (qk : List (S72)) : Option (Int × (List (S57))):=(laws_toSealS.f k qk).bind fun qw => (some (qc,qw))
theorem laws_toKdc.mono : ∀ a0 a1 k,LeO (laws_toKdc.f k a0 a1) (laws_toKdc.f (k + 1) a0 a1):=by
 intro a0 a1 k
 unfold laws_toKdc.f
 repeat' first
   | (with_reducible exact laws_toSealS.mono _ _)
   | (with_reducible exact LeO.refl _)
   | (with_reducible exact LeO.none _)
   | (with_reducible refine LeO.ite ?_ ?_)
   | (with_reducible refine LeO.bind ?_ (fun _ => ?_))
   | exact laws_toSealS.mono _ _
   | exact LeO.none _
   | refine LeO.ite ?_ ?_
   | refine LeO.bind ?_ (fun _ => ?_)
set_option maxHeartbeats 8000000 in
set_option maxRecDepth 100000 in
theorem laws_toKdc.calls (k : Nat) (qc : Int) (qt : Option Addr) (qr : Nat) (qk : List (S72)) (r1 : Int) (r2 : List (S57)) (w : World) (we : Kd.C k72 w qt qk.length qk) (wg : qk.length ≤ qr) (h : laws_toKdc.f k qc qk = some (r1,r2)) :
  Calls Try.prog 21 #[.agg #[.int .i64 qc,.slice qt qk.length qr]] w fun e w' => ∃ v1_ : Value,e = .returned (.agg #[.int .i64 r1,v1_]) ∧ Kd.R k57 57 w' w.heap.size (fun _ => True) v1_ r2 ∧ Below w.heap.size w w':=by
 have uy:=Try.underlying24
 have ux:=Try.underlying29
 have wq:=Aside0.mk we
 have wr:=Aside0.mk wg
 clear we wg
 have HB:=Aside0.mk (Below.refl w.heap.size w)
 have H : ((laws_toSealS.f k qk).bind fun qw => (some (qc,qw))) = some (r1,r2):=h
 clear h
 replace H:=Option.bind_eq_some_iff.mp H
 obtain ⟨qw,A20,H⟩:=H
 replace H : (some (qc,qw)) = some (r1,r2):=H
 have A2:=Aside0.mk A20
 clear A20
 simp only [Option.some.injEq,Prod.mk.injEq] at H
 obtain ⟨rfl,rfl⟩:=H
 go_enter Try.func21,Try.ntmps21
 go_wp2_with (first | ((with_reducible refine gate_dst (N:=1) rfl ?_);refine box_event ?hg (N:=1) ?hd (cs:=#[.int .i64 qc,.slice qt qk.length qr]) (t:=24) ?hr ?_;(case hd => rfl);(case hg => rfl);(case hr => first | (go_simp;done) | (go_simp;rfl));intro qf hg w3 hbox hb;have n0_:=Aside0.mk (below_step z14x6 hb);have n1_:=Aside0.mk (hbox);have n2_:=Aside0.mk ((z14x5 : w.heap.size ≤ qf));have n3_:=Aside0.mk ((z14x5 : w.heap.size ≤ qf));clear HB;have HB:=n0_;have qe:=n1_;have uu:=n2_;have qv:=n3_;clear n0_ n1_ n2_ n3_;clear hb hbox hg) | ((with_reducible refine gate_dst (N:=2) rfl ?_);refine box_event ?hg (N:=2) ?hd (cs:=#[.int .i64 0,.slice none 0 0]) (t:=29) ?hr ?_;(case hd => rfl);(case hg => rfl);(case hr => first | (go_simp;done) | (go_simp;rfl));intro qd hg w4 hbox hb;have n0_:=Aside0.mk (blk_below (g:=qf) (o:=.cells #[.int .i64 qc,.slice qt qk.length qr] 24 (0,0)) (by (with_reducible repeat (first | refine blk_drewN ?_ _ | refine blk_drew ?_ | refine blk_alloc ?_ _));exact qe.out) hb);have n1_:=Aside0.mk (below_step (by repeat (first | (with_reducible first | exact HB.out | apply below_alloc | apply pw_below_drewN | apply below_drew1 | refine below_set ?_ qv.out) | exact HB.out)) hb);have n2_:=Aside0.mk (hbox);have n3_:=Aside0.mk ((z14x4 : w.heap.size ≤ qd));have n4_:=Aside0.mk ((z14x4 : w.heap.size ≤ qd));have n5_:=Aside0.mk ((z14x1 : qf ≠ qd));have n6_:=Aside0.mk ((z14x0 : qd ≠ qf));clear qe;clear HB;have qe:=n0_;have HB:=n1_;have qi:=n2_;have ut:=n3_;have qy:=n4_;have wd:=n5_;have wc:=n6_;clear n0_ n1_ n2_ n3_ n4_ n5_ n6_;clear hb hbox hg) | ((with_reducible refine gate_dst (N:=3) rfl ?_);refine box_event ?hg (N:=3) ?hd (cs:=#[.int .i64 0,.slice none 0 0]) (t:=29) ?hr ?_;(case hd => rfl);(case hg => rfl);(case hr => first | (go_simp;done) | (go_simp;rfl));intro qg hg w5 hbox hb;have n0_:=Aside0.mk (blk_below (g:=qf) (o:=.cells #[.int .i64 qc,.slice qt qk.length qr] 24 (0,0)) (by (with_reducible repeat (first | refine blk_drewN ?_ _ | refine blk_drew ?_ | refine blk_alloc ?_ _));exact qe.out) hb);have n1_:=Aside0.mk (blk_below (g:=qd) (o:=.cells #[.int .i64 0,.slice none 0 0] 29 (0,0)) z14x7 hb);have n2_:=Aside0.mk (below_step (by repeat (first | (with_reducible first | exact HB.out | apply below_alloc | apply pw_below_drewN | apply below_drew1 | refine below_set ?_ qv.out | refine below_set ?_ qy.out) | exact HB.out)) hb);have n3_:=Aside0.mk (hbox);have n4_:=Aside0.mk ((z14x3 : w.heap.size ≤ qg));have n5_:=Aside0.mk ((z14x3 : w.heap.size ≤ qg));have n6_:=Aside0.mk ((z14x1 : qf ≠ qg));have n7_:=Aside0.mk ((z14x0 : qg ≠ qf));have n8_:=Aside0.mk ((by rw [hg];exact Nat.ne_of_lt (blk_lt (g:=qd) (o:=.cells #[.int .i64 0,.slice none 0 0] 29 (0,0)) z14x7) : qd ≠ qg));have n9_:=Aside0.mk ((by rw [hg];exact Nat.ne_of_gt (blk_lt (g:=qd) (o:=.cells #[.int .i64 0,.slice none 0 0] 29 (0,0)) z14x7) : qg ≠ qd));clear qe;clear qi;clear HB;have qe:=n0_;have qi:=n1_;have HB:=n2_;have qh:=n3_;have us:=n4_;have wi:=n5_;have qu:=n6_;have wb:=n7_;have ql:=n8_;have wa:=n9_;clear n0_ n1_ n2_ n3_ n4_ n5_ n6_ n7_ n8_ n9_;clear hb hbox hg;have je:=wd.out;have jb:=wc.out;have jd:=qu.out;have ja:=wb.out;have wm : w5.cell? ⟨qf,0,none⟩ = some (.int .i64 qc):=(blk_cell qe.out 0).trans rfl;have wl : w5.cell? ⟨qf,1,none⟩ = some (.slice qt qk.length qr):=(blk_cell qe.out 1).trans rfl;have wk:=blk_frozen qe.out 0;have wj:=blk_frozen qe.out 1;have jc:=wa.out;have uz:=ql.out;have vo : w5.cell? ⟨qg,0,none⟩ = some (.int .i64 0):=(blk_cell qh.out 0).trans rfl;have vn : w5.cell? ⟨qg,1,none⟩ = some (.slice none 0 0):=(blk_cell qh.out 1).trans rfl;have wy:=blk_frozen qh.out 0;have wx:=blk_frozen qh.out 1) | ((with_reducible refine gate_callee (f:=46) rfl ?_);refine goesL_ (some 9) rfl rfl Try.func46 (by kernel_rfl) rfl #[.slice qt qk.length qr] rfl (by (try simp only [List.map_toArray,List.map_cons,List.map_nil]);first | done | rfl | (simp only [List.length_drop,List.length_take];rfl)) ?_;(with_reducible refine (laws_toSealS.calls k _ _ qk qw _ ?side1 ?side2 A2.out).mono ?_);(case side1 => exact Kd.C_below wq.out z14x2);(case side2 => exact wr.out);rintro e w11 ⟨uv,rfl,ho0,hb⟩; refine ⟨_,rfl,?_⟩; have n0_:=Aside0.mk (Kd.R_lower ho0 (below_size z14x2));have n1_:=Aside0.mk (blk_below (g:=qf) (o:=.cells #[.int .i64 qc,.slice qt qk.length qr] 24 (0,0)) (by (with_reducible repeat (first | refine blk_drewN ?_ _ | refine blk_drew ?_ | refine blk_alloc ?_ _));refine blk_far ?_ qu.out _;(with_reducible repeat (first | refine blk_drewN ?_ _ | refine blk_drew ?_ | refine blk_alloc ?_ _));exact qe.out) hb);have n2_:=Aside0.mk (blk_below (g:=qd) (o:=.cells #[.int .i64 0,.slice none 0 0] 29 (0,0)) (by (with_reducible repeat (first | refine blk_drewN ?_ _ | refine blk_drew ?_ | refine blk_alloc ?_ _));refine blk_far ?_ ql.out _;(with_reducible repeat (first | refine blk_drewN ?_ _ | refine blk_drew ?_ | refine blk_alloc ?_ _));exact qi.out) hb);have n3_:=Aside0.mk (blk_below (g:=qg) (o:=.cells #[.int .i64 qc,.slice none 0 0] 29 (0,0)) (by (with_reducible repeat (first | refine blk_drewN ?_ _ | refine blk_drew ?_ | refine blk_alloc ?_ _));refine blk_put (cs:=#[.int .i64 0,.slice none 0 0]) ?_ 0 _ rfl;(with_reducible repeat (first | refine blk_drewN ?_ _ | refine blk_drew ?_ | refine blk_alloc ?_ _));exact qh.out) hb);have n4_:=Aside0.mk (below_step z14x2 hb);clear qe;clear qi;clear qh;clear HB;have wh:=n0_;have qe:=n1_;have qi:=n2_;have qh:=n3_;have HB:=n4_;clear n0_ n1_ n2_ n3_ n4_;(try clear hb);(try clear hb2);(try clear hk);(try clear hi);(try clear ho0);obtain ⟨wo,wn,uo⟩:=Kd.R_slice wh.out;subst uo;have vm : w11.cell? ⟨qg,0,none⟩ = some (.int .i64 qc):=(blk_cell qh.out 0).trans rfl;have vl : w11.cell? ⟨qg,1,none⟩ = some (.slice none 0 0):=(blk_cell qh.out 1).trans rfl;have ww:=blk_frozen qh.out 0;have wv:=blk_frozen qh.out 1;have vk : w11.cell? ⟨qd,0,none⟩ = some (.int .i64 0):=(blk_cell qi.out 0).trans rfl;have wz : w11.cell? ⟨qd,1,none⟩ = some (.slice none 0 0):=(blk_cell qi.out 1).trans rfl;have wu:=blk_frozen qi.out 0;have wt:=blk_frozen qi.out 1))
 refine bodyPost_ret (results_cell_row rfl _ _ qd 29 #[.int .i64 qc,.slice wo qw.length wn] (0,0) _ rfl (by (with_reducible repeat (first | refine blk_drewN ?_ _ | refine blk_drew ?_ | refine blk_alloc ?_ _));refine blk_put (cs:=#[.int .i64 qc,.slice none 0 0]) ?_ 1 _ rfl;(with_reducible repeat (first | refine blk_drewN ?_ _ | refine blk_drew ?_ | refine blk_alloc ?_ _));refine blk_put (cs:=#[.int .i64 0,.slice none 0 0]) ?_ 0 _ rfl;(with_reducible repeat (first | refine blk_drewN ?_ _ | refine blk_drew ?_ | refine blk_alloc ?_ _));refine blk_far ?_ ql.out _;(with_reducible repeat (first | refine blk_drewN ?_ _ | refine blk_drew ?_ | refine blk_alloc ?_ _));exact qi.out) Try.underlying29 rfl (by kernel_rfl)) rfl ?_
 exact ⟨_,by first | rfl | (simp [errW_none,errW_some] <;> rfl) | (simp [*,errW_none,errW_some] <;> rfl),by (with_reducible repeat (first | apply Kd.R_alloc | apply Kd.R_drewN | apply Kd.R_drew));exact Kd.R_mono (Kd.R_far (p:=⟨qd,1,none⟩) (Kd.R_far (p:=⟨qd,0,none⟩) (Kd.R_far (p:=⟨qg,1,none⟩) (Kd.R_types (Kd.R_types wh.out qh.out (by decide)) qi.out (by decide)) (fun _ hk => hk.1.2) (.slice wo qw.length wn)) (fun _ hk => hk.2) (.int .i64 qc)) (fun _ hk => hk.2) (.slice wo qw.length wn)) (fun _ hk => trivial),by repeat (first | (with_reducible first | exact HB.out | apply below_alloc | apply pw_below_drewN | apply below_drew1 | refine below_set ?_ qv.out | refine below_set ?_ qy.out | refine below_set ?_ wi.out) | exact HB.out)⟩

/-! ### impl_authOk: function 105 -/
def impl_authOk.f (qc : Int) (qj : Int) (qq : Int) (qp : Int) (qo : Int) (qn : Int) (qm : Int) : Option (Bool):=if qj = 3 then ((impl_SealOk.f qc qj qq qp qo qn qm).bind fun qz => (some qz)) else (some false)
set_option maxHeartbeats 8000000 in
set_option maxRecDepth 100000 in
theorem impl_authOk.calls (qc : Int) (qj : Int) (qq : Int) (qp : Int) (qo : Int) (qn : Int) (qm : Int) (r : Bool) (w : World) (h : impl_authOk.f qc qj qq qp qo qn qm = some r) :
  Calls Try.prog 105 #[.agg #[.int .i64 qc,.int .i64 qj,.int .i64 qq,.int .i64 qp,.int .i64 qo,.int .i64 qn,.int .i64 qm]] w fun e w' => e = .returned (.bool r) ∧ Below w.heap.size w w':=by
 have uw:=Try.underlying57
 have HB:=Aside0.mk (Below.refl w.heap.size w)
 have H : (if qj = 3 then ((impl_SealOk.f qc qj qq qp qo qn qm).bind fun qz => (some qz)) else (some false)) = some r:=h
 clear h
 by_cases c2 : qj = 3
 ·rw [if_pos c2] at H
  have ur : (qj == 3) = true:=beq_iff_eq.mpr c2
  have uq : (qj != 3) = false:=bne_eq_false_iff_eq.mpr c2
  clear c2
  replace H:=Option.bind_eq_some_iff.mp H
  obtain ⟨qz,A30,H⟩:=H
  replace H : (some qz) = some r:=H
  have A3:=Aside0.mk A30
  clear A30
  obtain rfl:=Option.some.inj H
  go_enter Try.func105,Try.ntmps105
  go_wp2_with (first | ((with_reducible refine gate_dst (N:=1) rfl ?_);refine box_event ?hg (N:=1) ?hd (cs:=#[.int .i64 qc,.int .i64 qj,.int .i64 qq,.int .i64 qp,.int .i64 qo,.int .i64 qn,.int .i64 qm]) (t:=57) ?hr ?_;(case hd => rfl);(case hg => rfl);(case hr => first | (go_simp;done) | (go_simp;rfl));intro qb hg w4 hbox hb;have n0_:=Aside0.mk (below_step z14x6 hb);have n1_:=Aside0.mk (hbox);have n2_:=Aside0.mk ((z14x5 : w.heap.size ≤ qb));have n3_:=Aside0.mk ((z14x5 : w.heap.size ≤ qb));clear HB;have HB:=n0_;have qa:=n1_;have ws:=n2_;have qx:=n3_;clear n0_ n1_ n2_ n3_;clear hb hbox hg;have un : w4.cell? ⟨qb,0,none⟩ = some (.int .i64 qc):=(blk_cell qa.out 0).trans rfl;have um : w4.cell? ⟨qb,1,none⟩ = some (.int .i64 qj):=(blk_cell qa.out 1).trans rfl;have ul : w4.cell? ⟨qb,2,none⟩ = some (.int .i64 qq):=(blk_cell qa.out 2).trans rfl;have uk : w4.cell? ⟨qb,3,none⟩ = some (.int .i64 qp):=(blk_cell qa.out 3).trans rfl;have uj : w4.cell? ⟨qb,4,none⟩ = some (.int .i64 qo):=(blk_cell qa.out 4).trans rfl;have ui : w4.cell? ⟨qb,5,none⟩ = some (.int .i64 qn):=(blk_cell qa.out 5).trans rfl;have uh : w4.cell? ⟨qb,6,none⟩ = some (.int .i64 qm):=(blk_cell qa.out 6).trans rfl;have ub:=blk_frozen qa.out 0;have ua:=blk_frozen qa.out 1;have vz:=blk_frozen qa.out 2;have vy:=blk_frozen qa.out 3;have vx:=blk_frozen qa.out 4;have vw:=blk_frozen qa.out 5;have vv:=blk_frozen qa.out 6) | (go_at_call 97;(with_reducible refine (impl_SealOk.calls qc qj qq qp qo qn qm qz _ A3.out).mono ?_);rintro e w6 ⟨rfl,hb⟩; have n0_:=Aside0.mk (blk_below (g:=qb) (o:=.cells #[.int .i64 qc,.int .i64 qj,.int .i64 qq,.int .i64 qp,.int .i64 qo,.int .i64 qn,.int .i64 qm] 57 (0,0)) (by (with_reducible repeat (first | refine blk_drewN ?_ _ | refine blk_drew ?_ | refine blk_alloc ?_ _));exact qa.out) hb);have n1_:=Aside0.mk (below_step (by repeat (first | (with_reducible first | exact HB.out | apply below_alloc | apply pw_below_drewN | apply below_drew1 | refine below_set ?_ qx.out) | exact HB.out)) hb);clear qa;clear HB;have qa:=n0_;have HB:=n1_;clear n0_ n1_;(try clear hb);(try clear hb2);(try clear hk);(try clear hi)))
  go_ret
  exact ⟨by first | rfl | (simp [errW_none,errW_some] <;> rfl) | (simp [*,errW_none,errW_some] <;> rfl),by repeat (first | (with_reducible first | exact HB.out | apply below_alloc | apply pw_below_drewN | apply below_drew1 | refine below_set ?_ qx.out) | exact HB.out)⟩
 ·rw [if_neg c2] at H
  have ur : (qj == 3) = false:=beq_eq_false_iff_ne.mpr c2
  have uq : (qj != 3) = true:=bne_iff_ne.mpr c2
  obtain rfl:=Option.some.inj H
  go_enter Try.func105,Try.ntmps105
  go_wp2_with (first | ((with_reducible refine gate_dst (N:=1) rfl ?_);refine box_event ?hg (N:=1) ?hd (cs:=#[.int .i64 qc,.int .i64 qj,.int .i64 qq,.int .i64 qp,.int .i64 qo,.int .i64 qn,.int .i64 qm]) (t:=57) ?hr ?_;(case hd => rfl);(case hg => rfl);(case hr => first | (go_simp;done) | (go_simp;rfl));intro qb hg w7 hbox hb;have n0_:=Aside0.mk (below_step z14x6 hb);have n1_:=Aside0.mk (hbox);have n2_:=Aside0.mk ((z14x5 : w.heap.size ≤ qb));have n3_:=Aside0.mk ((z14x5 : w.heap.size ≤ qb));clear HB;have HB:=n0_;have qa:=n1_;have ws:=n2_;have qx:=n3_;clear n0_ n1_ n2_ n3_;clear hb hbox hg;have wm : w7.cell? ⟨qb,0,none⟩ = some (.int .i64 qc):=(blk_cell qa.out 0).trans rfl;have wl : w7.cell? ⟨qb,1,none⟩ = some (.int .i64 qj):=(blk_cell qa.out 1).trans rfl;have ug : w7.cell? ⟨qb,2,none⟩ = some (.int .i64 qq):=(blk_cell qa.out 2).trans rfl;have uf : w7.cell? ⟨qb,3,none⟩ = some (.int .i64 qp):=(blk_cell qa.out 3).trans rfl;have ue : w7.cell? ⟨qb,4,none⟩ = some (.int .i64 qo):=(blk_cell qa.out 4).trans rfl;have ud : w7.cell? ⟨qb,5,none⟩ = some (.int .i64 qn):=(blk_cell qa.out 5).trans rfl;have uc : w7.cell? ⟨qb,6,none⟩ = some (.int .i64 qm):=(blk_cell qa.out 6).trans rfl;have wk:=blk_frozen qa.out 0;have wj:=blk_frozen qa.out 1;have vu:=blk_frozen qa.out 2;have vt:=blk_frozen qa.out 3;have vr:=blk_frozen qa.out 4;have vq:=blk_frozen qa.out 5;have vp:=blk_frozen qa.out 6))
  go_ret
  exact ⟨by first | rfl | (simp [errW_none,errW_some] <;> rfl) | (simp [*,errW_none,errW_some] <;> rfl),by repeat (first | (with_reducible first | exact HB.out | apply below_alloc | apply pw_below_drewN | apply below_drew1 | refine below_set ?_ qx.out) | exact HB.out)⟩

end Go.Proofs.Ytpdeincniaiajaa.Hp
