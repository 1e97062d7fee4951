-- hp.py
import Derived.Test.YtpdeincniaiajaaHx0
import Derived.Test.YtpdeincniaiajaaHx12
namespace Go.Proofs.Ytpdeincniaiajaa.Hp
open Go.RowKit Go.Proofs.YtpdeincniaiajaaW.PrintWords Go.Proofs.YtpdeincniaiajaaW.PrintLast Go.Proofs.YtpdeincniaiajaaW.PrintMore
attribute [local go_sem] max2_int min2_int max_two min_two max_three min_three max_four min_four   -- for this text's walks alone
set_option linter.unusedVariables false
set_option linter.unusedSimpArgs false
-- squeezed by wip/tools/squeeze.py
theorem z13x0 {P : Prop} (h : P:=by repeat (first | (with_reducible first | exact HB.out | apply below_alloc | apply pw_below_drewN | apply below_drew1) | exact HB.out)) : P:=h

/-! ### laws_toSealS: function 46 -/
def laws_toSealS.l0 : Nat → List (S72) → List (S57) → Int → Option ((List (S57)))
 | 0,_,_,_ => none
 | k + 1,x0,x3,x4 => if x4 < (x0.length : Int) then (if 0 ≤ x4 then ((laws_toSeal.f ((rd_T72 x0 x4).f0) ((rd_T72 x0 x4).f1) ((rd_T72 x0 x4).f2) ((rd_T72 x0 x4).f3) ((rd_T72 x0 x4).f4) ((rd_T72 x0 x4).f5) ((rd_T72 x0 x4).f6)).bind fun qh => (if x4 < (x3.length : Int) then (laws_toSealS.l0 k x0 (x3.set (x4 : Int).toNat (⟨qh.1,qh.2.1,qh.2.2.1,qh.2.2.2.1,qh.2.2.2.2.1,qh.2.2.2.2.2.1,qh.2.2.2.2.2.2⟩ : S57)) (wrap64 (x4 + 1))) else (none))) else (none)) else (some x3)
def laws_toSealS.f (k : Nat) (l0 : List (S72)) : Option ((List (S57))):=if 0 ≤ (l0.length : Int) then (if ((l0.length : Int) : Int).toNat ≤ 5026338869833 then (laws_toSealS.l0 k l0 (List.replicate ((l0.length : Int) : Int).toNat z57) 0) else (none)) else (none)
theorem laws_toSealS.mono_l : ∀ k,(∀ y0 y1 y2,LeO (laws_toSealS.l0 k y0 y1 y2) (laws_toSealS.l0 (k + 1) y0 y1 y2))
 | 0 => fun _ _ _ r h => by simp [laws_toSealS.l0] at h
 | k + 1 => by
  have ih0:=laws_toSealS.mono_l k
  ·intro y0 y1 y2
   unfold laws_toSealS.l0
   repeat' first
   | (with_reducible exact ih0 _ _ _)
   | (with_reducible exact LeO.refl _)
   | (with_reducible exact LeO.none _)
   | (with_reducible refine LeO.ite ?_ ?_)
   | (with_reducible refine LeO.bind ?_ (fun _ => ?_))
   | exact ih0 _ _ _
   | exact LeO.none _
   | refine LeO.ite ?_ ?_
   | refine LeO.bind ?_ (fun _ => ?_)
theorem laws_toSealS.mono : ∀ a0 k,LeO (laws_toSealS.f k a0) (laws_toSealS.f (k + 1) a0):=by
 intro a0 k
 have ih0:=laws_toSealS.mono_l k
 unfold laws_toSealS.f
 repeat' first
   | (with_reducible exact ih0 _ _ _)
   | (with_reducible exact LeO.refl _)
   | (with_reducible exact LeO.none _)
   | (with_reducible refine LeO.ite ?_ ?_)
   | (with_reducible refine LeO.bind ?_ (fun _ => ?_))
   | exact ih0 _ _ _
   | exact LeO.none _
   | refine LeO.ite ?_ ?_
   | refine LeO.bind ?_ (fun _ => ?_)
set_option maxHeartbeats 8000000 in
set_option maxRecDepth 100000 in
theorem laws_toSealS.calls (k : Nat) (A0 : Option Addr) (c0 : Nat) (l0 : List (S72)) (r : List (S57)) (w : World) (hr0 : Kd.C k72 w A0 l0.length l0) (hc0 : l0.length ≤ c0) (h : laws_toSealS.f k l0 = some r) :
  Calls Try.prog 46 #[.slice A0 l0.length c0] w fun e w' => ∃ v0_ : Value,e = .returned (v0_) ∧ Kd.R k57 57 w' w.heap.size (fun _ => True) v0_ r ∧ Below w.heap.size w w':=by
 have uq:=Try.underlying72
 have ur:=Try.underlying57
 have HR0:=Aside0.mk hr0
 have HC0:=Aside0.mk hc0
 clear hr0 hc0
 have HB:=Aside0.mk (Below.refl w.heap.size w)
 have H : (if 0 ≤ (l0.length : Int) then (if ((l0.length : Int) : Int).toNat ≤ 5026338869833 then (laws_toSealS.l0 k l0 (List.replicate ((l0.length : Int) : Int).toNat z57) 0) else (none)) else (none)) = some r:=h
 clear h
 by_cases c2 : 0 ≤ (l0.length : Int)
 rotate_left
 ·rw [if_neg c2] at H
  exact absurd H (by simp)
 rw [if_pos c2] at H
 have un:=eq_true c2
 have um : decide (0 ≤ (l0.length : Int)) = true:=decide_eq_true c2
 clear c2
 by_cases c3 : ((l0.length : Int) : Int).toNat ≤ 5026338869833
 rotate_left
 ·rw [if_neg c3] at H
  exact absurd H (by simp)
 rw [if_pos c3] at H
 have ul:=eq_true c3
 have uk : decide (((l0.length : Int) : Int).toNat ≤ 5026338869833) = true:=decide_eq_true c3
 clear c3
 obtain ⟨ww,qq⟩ : ∃ y_ : List (S57),y_ = (List.replicate ((l0.length : Int) : Int).toNat z57):=⟨_,rfl⟩
 replace H : (laws_toSealS.l0 k l0 ww 0) = some r:=by first | (rw [qq];with_reducible exact H) | (have H2_:=(Option.bind_some _ _).symm.trans H;rw [qq];with_reducible exact H2_) | (have H2_:=(Option.bind_some _ _).symm.trans H;with_reducible exact H2_) | with_reducible exact H | (rw [qq];exact H) | exact H
 have wb:=Aside0.mk qq
 clear qq
 have H':=Aside0.mk H
 clear H
 go_enter Try.func46,Try.ntmps46
 go_wp2_with (first | ((with_reducible refine gate_dst (N:=7) rfl ?_);refine Kd.R_make k57 _ 57 rfl (N:=7) rfl 27 _ _ rfl (l0.length : Int) rfl rfl Try.underlying27 (.agg #[(.int .i64 0),(.int .i64 0),(.int .i64 0),(.int .i64 0),(.int .i64 0),(.int .i64 0),(.int .i64 0)]) 56 info57 rfl (by decide) (by omega) z57 (ok:=fun _ => True) (okp:=fun _ => True) (k57_mkM _ _ _ z57 ) (fun _ hk => hk) trivial (of_decide_eq_true (by first | (with_reducible assumption) | assumption)) (Nat.le_trans (Nat.mul_le_mul_right _ (of_decide_eq_true (by first | (with_reducible assumption) | assumption) : (l0.length : Int).toNat ≤ 5026338869833)) (by omega)) (Below.refl _ _) (Nat.le_refl _) ?_;intro vr w4 ho5 hb hg_ hnew_;clear hg_ hnew_;(first | rw [← wb.out] at ho5 | (simp only [Int.reduceToNat] at ho5;rw [← wb.out] at ho5));have n0_:=Aside0.mk (Kd.R_lower ho5 (below_size z13x0));have n1_:=Aside0.mk (below_step z13x0 hb);clear HB;have vp:=n0_;have HB:=n1_;clear n0_ n1_;clear hb ho5))
 go_loopg [4] k (fun kq v4 w' => ∃ (qc : List (S57)) (qa : Int),v4 = .int .i64 qa ∧ Aside0 (laws_toSealS.l0 kq l0 qc qa = some r) ∧ Aside0 (kq ≤ k) ∧ Aside0 (Kd.R k57 57 w' w.heap.size (fun _ => True) vr qc) ∧ Aside0 (Below w.heap.size w w'))
 case atStart => exact ⟨(ww),(0),(by first | rfl | (simp;done) | (simp [*];done)),H',⟨Nat.le_refl _⟩,⟨by (with_reducible repeat (first | apply Kd.R_alloc | apply Kd.R_drewN | apply Kd.R_drew));exact vp.out⟩,⟨by repeat (first | (with_reducible first | exact HB.out | apply below_alloc | apply pw_below_drewN | apply below_drew1) | exact HB.out)⟩⟩
 case round =>
  clear H'
  try clear c2
  try clear un
  try clear um
  try clear p2
  try clear c3
  try clear ul
  try clear uk
  try clear c4
  obtain ⟨qc,qa,rfl,HA,HK1,HO_3,HB⟩:=hrel
  cases gk with
  | zero => exact absurd HA.out (by simp [laws_toSealS.l0])
  | succ k1 =>
   have H:=HA.out
   clear HA
   simp only [laws_toSealS.l0] at H
   by_cases c6 : qa < (l0.length : Int)
   ·rw [if_pos c6] at H
    have uj : decide (qa < (l0.length : Int)) = true:=decide_eq_true c6
    clear c6
    by_cases c7 : 0 ≤ qa
    rotate_left
    ·rw [if_neg c7] at H
     exact absurd H (by simp)
    rw [if_pos c7] at H
    have uw : decide (0 ≤ qa) = true:=decide_eq_true c7
    clear c7
    replace H:=Option.bind_eq_some_iff.mp H
    obtain ⟨⟨qy,qx,qw,qv,qu,qt,qr⟩,A80,H⟩:=H
    replace H : (if qa < (qc.length : Int) then (laws_toSealS.l0 k1 l0 (qc.set (qa : Int).toNat (⟨qy,qx,qw,qv,qu,qt,qr⟩ : S57)) (wrap64 (qa + 1))) else (none)) = some r:=H
    have A8:=Aside0.mk A80
    clear A80
    by_cases c9 : qa < (qc.length : Int)
    rotate_left
    ·rw [if_neg c9] at H
     exact absurd H (by simp)
    rw [if_pos c9] at H
    have uv : decide (qa < (qc.length : Int)) = true:=decide_eq_true c9
    clear c9
    obtain ⟨wc,qp⟩ : ∃ y_ : List (S57),y_ = (qc.set (qa : Int).toNat (⟨qy,qx,qw,qv,qu,qt,qr⟩ : S57)):=⟨_,rfl⟩
    replace H : (laws_toSealS.l0 k1 l0 wc (wrap64 (qa + 1))) = some r:=by first | (rw [qp];with_reducible exact H) | (have H2_:=(Option.bind_some _ _).symm.trans H;rw [qp];with_reducible exact H2_) | (have H2_:=(Option.bind_some _ _).symm.trans H;with_reducible exact H2_) | with_reducible exact H | (rw [qp];exact H) | exact H
    have vn:=Aside0.mk qp
    clear qp
    have H':=Aside0.mk H
    clear H
    have we : 0 ≤ (qa : Int):=of_decide_eq_true (by first | (with_reducible assumption) | assumption)
    have wd : qa < (l0.length : Int):=of_decide_eq_true (by first | (with_reducible assumption) | assumption)
    obtain ⟨uo,ui,qo,qn,qm,ql,qk,qj,qi⟩:=at_T72 HR0.out qa we wd
    cases ui
    replace qo:=(HB.out.cell (World.block_lt_of_cell? w _ qo)).trans qo
    replace qn:=(HB.out.cell (World.block_lt_of_cell? w _ qn)).trans qn
    replace qm:=(HB.out.cell (World.block_lt_of_cell? w _ qm)).trans qm
    replace ql:=(HB.out.cell (World.block_lt_of_cell? w _ ql)).trans ql
    replace qk:=(HB.out.cell (World.block_lt_of_cell? w _ qk)).trans qk
    replace qj:=(HB.out.cell (World.block_lt_of_cell? w _ qj)).trans qj
    replace qi:=(HB.out.cell (World.block_lt_of_cell? w _ qi)).trans qi
    replace we:=eq_true we
    replace wd:=eq_true wd
    go_wp2_with (first | ((with_reducible refine gate_callee (f:=47) rfl ?_);refine goesL_ (some 20) rfl rfl Try.func47 (by kernel_rfl) rfl #[.agg #[.int .i64 ((rd_T72 l0 qa).f0),.int .i64 ((rd_T72 l0 qa).f1),.int .i64 ((rd_T72 l0 qa).f2),.int .i64 ((rd_T72 l0 qa).f3),.int .i64 ((rd_T72 l0 qa).f4),.int .i64 ((rd_T72 l0 qa).f5),.int .i64 ((rd_T72 l0 qa).f6)]] rfl (by (try simp only [List.map_toArray,List.map_cons,List.map_nil]);first | done | rfl | (simp only [List.length_drop,List.length_take];rfl)) ?_;(with_reducible refine (laws_toSeal.calls ((rd_T72 l0 qa).f0) ((rd_T72 l0 qa).f1) ((rd_T72 l0 qa).f2) ((rd_T72 l0 qa).f3) ((rd_T72 l0 qa).f4) ((rd_T72 l0 qa).f5) ((rd_T72 l0 qa).f6) qy qx qw qv qu qt qr _ A8.out).mono ?_);rintro e w11 ⟨rfl,hb⟩; refine ⟨_,rfl,?_⟩; have n0_:=Aside0.mk (Kd.R_below (by (with_reducible repeat (first | apply Kd.R_alloc | apply Kd.R_drewN | apply Kd.R_drew));exact HO_3.out) hb);have n1_:=Aside0.mk (below_step z13x0 hb);clear HO_3;clear HB;have HO_3:=n0_;have HB:=n1_;clear n0_ n1_;(try clear hb);(try clear hb2);(try clear hk);(try clear hi);have p10 : 0 ≤ (qa : Int):=of_decide_eq_true (by first | (with_reducible assumption) | assumption);have q10 : (qa : Int) < ((qc.length : Int) : Int):=of_decide_eq_true (by first | (with_reducible assumption) | assumption);obtain ⟨qb,vm,vl,vk,uh,us,vq⟩:=Kd.R_form HO_3.out (by omega);(first | cases vl | (injection vl with ea_ en_ ec_;(first | subst ea_ | (injection ea_ with ea_;subst ea_));subst ec_;clear en_));have qz:=Aside0.mk vk;have ux:=Aside0.mk vq;clear vk uh vq;obtain ⟨uu,wx,wz,qg,qf⟩:=Kd.R_elem HO_3.out z57 (qa : Int) p10 q10;obtain rfl:=k57_openM wz;have vz : w11.cell? ⟨qb,(qa : Int).toNat * 7,none⟩ = some (.int .i64 ((rd_T57 qc qa).f0)):=qg 0 _ rfl;have vy : w11.cell? ⟨qb,(qa : Int).toNat * 7 + 1,none⟩ = some (.int .i64 ((rd_T57 qc qa).f1)):=qg 1 _ rfl;have vx : w11.cell? ⟨qb,(qa : Int).toNat * 7 + 2,none⟩ = some (.int .i64 ((rd_T57 qc qa).f2)):=qg 2 _ rfl;have vw : w11.cell? ⟨qb,(qa : Int).toNat * 7 + 3,none⟩ = some (.int .i64 ((rd_T57 qc qa).f3)):=qg 3 _ rfl;have vv : w11.cell? ⟨qb,(qa : Int).toNat * 7 + 4,none⟩ = some (.int .i64 ((rd_T57 qc qa).f4)):=qg 4 _ rfl;have vu : w11.cell? ⟨qb,(qa : Int).toNat * 7 + 5,none⟩ = some (.int .i64 ((rd_T57 qc qa).f5)):=qg 5 _ rfl;have vt : w11.cell? ⟨qb,(qa : Int).toNat * 7 + 6,none⟩ = some (.int .i64 ((rd_T57 qc qa).f6)):=qg 6 _ rfl;have ug : w11.frozen? ⟨qb,(qa : Int).toNat * 7,none⟩ = false:=qf 0;have uf : w11.frozen? ⟨qb,(qa : Int).toNat * 7 + 1,none⟩ = false:=qf 1;have ue : w11.frozen? ⟨qb,(qa : Int).toNat * 7 + 2,none⟩ = false:=qf 2;have ud : w11.frozen? ⟨qb,(qa : Int).toNat * 7 + 3,none⟩ = false:=qf 3;have uc : w11.frozen? ⟨qb,(qa : Int).toNat * 7 + 4,none⟩ = false:=qf 4;have ub : w11.frozen? ⟨qb,(qa : Int).toNat * 7 + 5,none⟩ = false:=qf 5;have ua : w11.frozen? ⟨qb,(qa : Int).toNat * 7 + 6,none⟩ = false:=qf 6;clear wx qg qf wz;replace p10:=eq_true p10;replace q10:=eq_true q10;have vo:=Aside0.mk (show Kd.R k57 57 w11 w.heap.size (fun _ => True) (.slice (some ⟨qb,0,none⟩) qc.length vm) qc from (by (with_reducible repeat (first | apply Kd.R_alloc | apply Kd.R_drewN | apply Kd.R_drew));exact HO_3.out));obtain ⟨ut,wa,wy,qd,qe⟩:=Kd.R_elem vo.out z57 (qa : Int) (of_decide_eq_true (by first | (with_reducible assumption) | assumption)) (by have h_ : (qa : Int) < ((qc.length : Int) : Int):=of_decide_eq_true (by first | (with_reducible assumption) | assumption);first | exact h_ | (have e_:=(Kd.R_reads' HO_3.out).1;omega) | simpa using h_);obtain rfl:=k57_openM wy;have wv:=Kd.R_seg vo.out (qa : Int) (of_decide_eq_true (by first | (with_reducible assumption) | assumption)) (by have h_ : (qa : Int) < ((qc.length : Int) : Int):=of_decide_eq_true (by first | (with_reducible assumption) | assumption);first | exact h_ | (have e_:=(Kd.R_reads' HO_3.out).1;omega) | simpa using h_) (seg:=[.int .i64 qy,.int .i64 qx,.int .i64 qw,.int .i64 qv,.int .i64 qu,.int .i64 qt,.int .i64 qr]) (j:=0) wa qd (show 7 ≤ 7 from by decide) (x':=(⟨qy,qx,qw,qv,qu,qt,qr⟩ : S57)) (k57_mkM _ _ _ (⟨qy,qx,qw,qv,qu,qt,qr⟩ : S57) ) (fun _ hk => hk);have wm:=qd 0 _ rfl;(try simp only [show (k57).sz = 7 from rfl,Nat.mul_one,Nat.add_zero] at wm);have wu:=qe 0;(try simp only [show (k57).sz = 7 from rfl,Nat.mul_one,Nat.add_zero] at wu);have wl:=qd 1 _ rfl;(try simp only [show (k57).sz = 7 from rfl,Nat.mul_one,Nat.add_zero] at wl);have wt:=qe 1;(try simp only [show (k57).sz = 7 from rfl,Nat.mul_one,Nat.add_zero] at wt);have wk:=qd 2 _ rfl;(try simp only [show (k57).sz = 7 from rfl,Nat.mul_one,Nat.add_zero] at wk);have ws:=qe 2;(try simp only [show (k57).sz = 7 from rfl,Nat.mul_one,Nat.add_zero] at ws);have wj:=qd 3 _ rfl;(try simp only [show (k57).sz = 7 from rfl,Nat.mul_one,Nat.add_zero] at wj);have wr:=qe 3;(try simp only [show (k57).sz = 7 from rfl,Nat.mul_one,Nat.add_zero] at wr);have wi:=qd 4 _ rfl;(try simp only [show (k57).sz = 7 from rfl,Nat.mul_one,Nat.add_zero] at wi);have wq:=qe 4;(try simp only [show (k57).sz = 7 from rfl,Nat.mul_one,Nat.add_zero] at wq);have wh:=qd 5 _ rfl;(try simp only [show (k57).sz = 7 from rfl,Nat.mul_one,Nat.add_zero] at wh);have wo:=qe 5;(try simp only [show (k57).sz = 7 from rfl,Nat.mul_one,Nat.add_zero] at wo);have wg:=qd 6 _ rfl;(try simp only [show (k57).sz = 7 from rfl,Nat.mul_one,Nat.add_zero] at wg);have wn:=qe 6;(try simp only [show (k57).sz = 7 from rfl,Nat.mul_one,Nat.add_zero] at wn);clear wa qd qe wy) | ((with_reducible refine gate_store (t:=57) (p:=21) rfl ?_);refine store_event (t:=57) (p:=21) (v:=?vo_w13) (w1:=(((((((w11.setCell ⟨qb,(qa : Int).toNat * 7,none⟩ (.int .i64 qy)).setCell ⟨qb,(qa : Int).toNat * 7 + 1,none⟩ (.int .i64 qx)).setCell ⟨qb,(qa : Int).toNat * 7 + 2,none⟩ (.int .i64 qw)).setCell ⟨qb,(qa : Int).toNat * 7 + 3,none⟩ (.int .i64 qv)).setCell ⟨qb,(qa : Int).toNat * 7 + 4,none⟩ (.int .i64 qu)).setCell ⟨qb,(qa : Int).toNat * 7 + 5,none⟩ (.int .i64 qt)).setCell ⟨qb,(qa : Int).toNat * 7 + 6,none⟩ (.int .i64 qr))) ?hg ?ho ?hn ?hr ?_;(case ho => rfl);(case hg => rfl);(case hn => rfl);(case hr => first | (go_simp;done) | (go_simp;rfl));intro w13 hw;have hg : w11.grownBy w13 (some qb):=(by rw [hw];exact wv.2);have hp_ : Kd.R k57 57 w13 w.heap.size (fun _ => True) (.slice (some ⟨qb,0,none⟩) qc.length vm) wc:=(by rw [hw,vn.out];exact wv.1);clear wv;have n0_:=Aside0.mk (hp_);have n1_:=Aside0.mk ((by rw [hw];exact below_set (below_set (below_set (below_set (below_set (below_set (below_set (HB.out) qz.out) qz.out) qz.out) qz.out) qz.out) qz.out) qz.out : Below w.heap.size w w13));clear HO_3;clear HB;have HO_3:=n0_;have HB:=n1_;clear n0_ n1_;clear hg hw hp_))
    go_roundg k1
    case measure => have:=HK1.out;omega
    case rel => exact ⟨(wc),(wrap64 (qa + 1)),(by first | rfl | (simp;done) | (simp [*];done)),H',⟨by have:=HK1.out;omega⟩,⟨by (with_reducible repeat (first | apply Kd.R_alloc | apply Kd.R_drewN | apply Kd.R_drew));exact HO_3.out⟩,⟨by repeat (first | (with_reducible first | exact HB.out | apply below_alloc | apply pw_below_drewN | apply below_drew1) | exact HB.out)⟩⟩
   ·rw [if_neg c6] at H
    have uj : decide (qa < (l0.length : Int)) = false:=decide_eq_false c6
    clear c6
    obtain rfl:=Option.some.inj H
    go_wp2
    go_ret
    exact ⟨_,by first | rfl | (simp [errW_none,errW_some] <;> rfl) | (simp [*,errW_none,errW_some] <;> rfl),by (with_reducible repeat (first | apply Kd.R_alloc | apply Kd.R_drewN | apply Kd.R_drew));exact HO_3.out,by repeat (first | (with_reducible first | exact HB.out | apply below_alloc | apply pw_below_drewN | apply below_drew1) | exact HB.out)⟩
end Go.Proofs.Ytpdeincniaiajaa.Hp
