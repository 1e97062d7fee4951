-- hp.py
import Derived.Test.YtgekmdfcbcacdaaHx0
import Derived.Test.YtgekmdfcbcacdaaHx46
import Derived.Test.YtgekmdfcbcacdaaHx49
namespace Go.Proofs.Ytgekmdfcbcacdaa.Hp
open Go.RowKit Go.Proofs.YtgekmdfcbcacdaaW.PrintWords Go.Proofs.YtgekmdfcbcacdaaW.PrintLast Go.Proofs.YtgekmdfcbcacdaaW.PrintMore
attribute [local go_sem] max2_int min2_int max_two min_two max_three min_three max_four min_four   -- for this text's walks alone
set_option linter.unusedVariables false
set_option linter.unusedSimpArgs false
-- squeezed by wip/tools/squeeze.py
theorem z50x4 {P : Prop} (h : P:=by (with_reducible repeat (first|apply Kd.R_alloc|apply Kd.R_drewN|apply Kd.R_drew));exact HO_8.out) : P:=h
theorem z50x3 {P : Prop} (h : P:=by (with_reducible repeat (first|refine blk_drewN ?_ _|refine blk_drew ?_|refine blk_alloc ?_ _));exact qa.out) : P:=h
theorem z50x2 {P : Prop} (h : P:=by repeat (first|(with_reducible first|exact HB.out|apply below_alloc|apply pw_below_drewN|apply below_drew1)|exact HB.out)) : P:=h
theorem z50x1 {P : Prop} (h : P:=by (try simp only [List.map_toArray,List.map_cons,List.map_nil]);first|done|rfl|(simp only [List.length_drop,List.length_take];rfl)) : P:=h
theorem z50x0 {P : Prop} (h : P:=by repeat (first|(with_reducible first|exact HB.out|apply below_alloc|apply pw_below_drewN|apply below_drew1|refine below_set ?_ qu.out)|exact HB.out)) : P:=h

/-! ### spec_l11With: function 104 -/
def spec_l11With.l0 : Nat → List (S41) → Int → List (S41) → Int → Int → Int → Int → Int → Int → Int → Int → Option ((List (S41)) × Bool)
 | 0,_,_,_,_,_,_,_,_,_,_,_=>none
 | k + 1,x0,x2,x8,x9,wa,qz,qy,qt,qx,qw,qv=>if x9 < (x0.length : Int) then (if 0 ≤ x9 then ((spec_l11Fresh.f ((rd_T41 x0 x9).f3) x2).bind fun ws=>(if ws = true then (if x8.length < 2513169434916 then (spec_l11With.l0 k x0 x2 (x8 ++ [(⟨(rd_T41 x0 x9).f0,(rd_T41 x0 x9).f1,(rd_T41 x0 x9).f2,(rd_T41 x0 x9).f3,(rd_T41 x0 x9).f4,(rd_T41 x0 x9).f5,(rd_T41 x0 x9).f6⟩ : S41)]) (wrap64 (x9 + 1)) wa qz qy qt qx qw qv) else (none)) else (spec_l11With.l0 k x0 x2 x8 (wrap64 (x9 + 1)) wa qz qy qt qx qw qv))) else (none)) else ((spec_l11Fresh.f qt x2).bind fun wq=>(if wq = true then ((spec_l3Among.f k x8 wa qz qy qt qx qw qv).bind fun wo=>(if wo = true then (some (x8,false)) else (if (x8.length : Int) = 20 then (some (x8,false)) else (if x8.length < 2513169434916 then (some ((x8 ++ [(⟨wa,qz,qy,qt,qx,qw,qv⟩ : S41)]),true)) else (none))))) else (some (x8,false))))
def spec_l11With.f (k : Nat) (l0 : List (S41)) (qj : Int) (qi : Int) (qh : Int) (qd : Int) (qg : Int) (qf : Int) (qe : Int) (a2 : Int) : Option ((List (S41)) × Bool):=spec_l11With.l0 k l0 a2 (([] : List (S41))) 0 qj qi qh qd qg qf qe
theorem spec_l11With.mono_l : ∀ k,(∀ y0 y1 y2 y3 y4 y5 y6 y7 y8 y9 y10,LeO (spec_l11With.l0 k y0 y1 y2 y3 y4 y5 y6 y7 y8 y9 y10) (spec_l11With.l0 (k + 1) y0 y1 y2 y3 y4 y5 y6 y7 y8 y9 y10))
 | 0=>fun _ _ _ _ _ _ _ _ _ _ _ r h=>by simp [spec_l11With.l0] at h
 | k + 1=>by
  have ih0:=spec_l11With.mono_l k
  ·intro y0 y1 y2 y3 y4 y5 y6 y7 y8 y9 y10
   unfold spec_l11With.l0
   repeat' first
   | (with_reducible exact ih0 _ _ _ _ _ _ _ _ _ _ _)
   | (with_reducible exact spec_l3Among.mono _ _ _ _ _ _ _ _ _)
   | (with_reducible exact LeO.refl _)
   | (with_reducible exact LeO.none _)
   | (with_reducible refine LeO.ite ?_ ?_)
   | (with_reducible refine LeO.bind ?_ (fun _=>?_))
   | exact ih0 _ _ _ _ _ _ _ _ _ _ _
   | exact spec_l3Among.mono _ _ _ _ _ _ _ _ _
   | exact LeO.none _
   | refine LeO.ite ?_ ?_
   | refine LeO.bind ?_ (fun _=>?_)
theorem spec_l11With.mono : ∀ a0 a1 a2 a3 a4 a5 a6 a7 a8 k,LeO (spec_l11With.f k a0 a1 a2 a3 a4 a5 a6 a7 a8) (spec_l11With.f (k + 1) a0 a1 a2 a3 a4 a5 a6 a7 a8):=by
 intro a0 a1 a2 a3 a4 a5 a6 a7 a8 k
 have ih0:=spec_l11With.mono_l k
 unfold spec_l11With.f
 repeat' first
   | (with_reducible exact ih0 _ _ _ _ _ _ _ _ _ _ _)
   | (with_reducible exact spec_l3Among.mono _ _ _ _ _ _ _ _ _)
   | (with_reducible exact LeO.refl _)
   | (with_reducible exact LeO.none _)
   | (with_reducible refine LeO.ite ?_ ?_)
   | (with_reducible refine LeO.bind ?_ (fun _=>?_))
   | exact ih0 _ _ _ _ _ _ _ _ _ _ _
   | exact spec_l3Among.mono _ _ _ _ _ _ _ _ _
   | exact LeO.none _
   | refine LeO.ite ?_ ?_
   | refine LeO.bind ?_ (fun _=>?_)
set_option maxHeartbeats 8000000 in
set_option maxRecDepth 100000 in
theorem spec_l11With.calls (k : Nat) (A0 : Option Addr) (c0 : Nat) (l0 : List (S41)) (qj : Int) (qi : Int) (qh : Int) (qd : Int) (qg : Int) (qf : Int) (qe : Int) (a2 : Int) (r1 : List (S41)) (r2 : Bool) (w : World) (hr0 : Kd.C k41 w A0 l0.length l0) (hc0 : l0.length ≤ c0) (h : spec_l11With.f k l0 qj qi qh qd qg qf qe a2 = some (r1,r2)) :
  Calls Try.prog 104 #[.slice A0 l0.length c0,.agg #[.int .i64 qj,.int .i64 qi,.int .i64 qh,.int .i64 qd,.int .i64 qg,.int .i64 qf,.int .i64 qe],.int .i64 a2] w fun e w' => ∃ v0_ : Value,e = .returned (.tuple #[v0_,.bool r2]) ∧ Kd.R k41 41 w' w.heap.size (fun _=>True) v0_ r1 ∧ Below w.heap.size w w':=by
 have pg:=Try.underlying41
 have HR0:=Aside0.mk hr0
 have HC0:=Aside0.mk hc0
 clear hr0 hc0
 have HB:=Aside0.mk (Below.refl w.heap.size w)
 have H : (spec_l11With.l0 k l0 a2 (([] : List (S41))) 0 qj qi qh qd qg qf qe) = some (r1,r2):=h
 clear h
 obtain ⟨wz,wl⟩ : ∃ y_ : List (S41),y_ = (([] : List (S41))):=⟨_,rfl⟩
 replace H : (spec_l11With.l0 k l0 a2 wz 0 qj qi qh qd qg qf qe) = some (r1,r2):=by first|(rw [wl];with_reducible exact H)|(have H2_:=(Option.bind_some _ _).symm.trans H;rw [wl];with_reducible exact H2_)|(have H2_:=(Option.bind_some _ _).symm.trans H;with_reducible exact H2_)|with_reducible exact H|(rw [wl];exact H)|exact H
 have wu:=Aside0.mk wl
 clear wl
 have H':=Aside0.mk H
 clear H
 go_enter Try.func104,Try.ntmps104
 go_wp2_with (first|((with_reducible refine gate_dst (N:=4) rfl ?_);refine box_event ?hg (N:=4) ?hd (cs:=#[.int .i64 qj,.int .i64 qi,.int .i64 qh,.int .i64 qd,.int .i64 qg,.int .i64 qf,.int .i64 qe]) (t:=41) ?hr ?_;(case hd=>rfl);(case hg=>rfl);(case hr=>first|(go_simp;done)|(go_simp;rfl));intro qb hg w4 hbox hb;have n0_:=Aside0.mk (below_step z50x2 hb);have n1_:=Aside0.mk (hbox);have n2_:=Aside0.mk ((by rw [hg];exact (below_size z50x2) : w.heap.size ≤ qb));have n3_:=Aside0.mk ((by rw [hg];exact (below_size z50x2) : w.heap.size ≤ qb));clear HB;have HB:=n0_;have qa:=n1_;have pc:=n2_;have qu:=n3_;clear n0_ n1_ n2_ n3_;clear hb hbox hg)|((with_reducible refine gate_dst (N:=10) rfl ?_);refine Kd.R_lit k41 _ 41 ?hg (N:=10) ?hd (xs:=([] : List (S41))) (inner:=[]) (ok:=fun _=>True) (okp:=fun _=>True) ?hr ?hp (fun _ hk=>hk) trivial (Below.refl _ _) (Nat.le_refl _) (by simp) ?_;(case hd=>rfl);(case hg=>rfl);(case hr=>first|(go_simp;done)|(go_simp;rfl));(case hp=>exact (Reps.none _ _));intro pf w5 ho6 hb hg_ hnew_;clear hg_ hnew_;(first|rw [← wu.out] at ho6|(simp only [Int.reduceToNat] at ho6;rw [← wu.out] at ho6));have n0_:=Aside0.mk (Kd.R_lower (Kd.R_newB ho6 (g:=qb) (o:=.cells #[.int .i64 qj,.int .i64 qi,.int .i64 qh,.int .i64 qd,.int .i64 qg,.int .i64 qf,.int .i64 qe] 41 (0,0)) z50x3) (below_size z50x0));have n1_:=Aside0.mk (blk_below (g:=qb) (o:=.cells #[.int .i64 qj,.int .i64 qi,.int .i64 qh,.int .i64 qd,.int .i64 qg,.int .i64 qf,.int .i64 qe] 41 (0,0)) z50x3 hb);have n2_:=Aside0.mk (below_step z50x0 hb);clear qa;clear HB;have vu:=n0_;have qa:=n1_;have HB:=n2_;clear n0_ n1_ n2_;clear hb ho6))
 go_loopg [8,9] k (fun kq v8 v9 w' => ∃ (qk : List (S41)) (qc : Int),v9 = .int .i64 qc ∧ Aside0 (spec_l11With.l0 kq l0 a2 qk qc qj qi qh qd qg qf qe = some (r1,r2)) ∧ Aside0 (kq ≤ k) ∧ Aside0 (Kd.R k41 41 w' w.heap.size (fun k_=>k_ ≠ qb) v8 qk) ∧ Aside0 (w'.heap[qb]? = some (.cells #[.int .i64 qj,.int .i64 qi,.int .i64 qh,.int .i64 qd,.int .i64 qg,.int .i64 qf,.int .i64 qe] 41 (0,0))) ∧ Aside0 (Below w.heap.size w w'))
 case atStart=>exact ⟨(wz),(0),(by first|rfl|(simp;done)|(simp [*];done)),H',⟨Nat.le_refl _⟩,⟨by (with_reducible repeat (first|apply Kd.R_alloc|apply Kd.R_drewN|apply Kd.R_drew));exact Kd.R_mono vu.out (fun _ hk=>hk.2)⟩,⟨by (with_reducible repeat (first|refine blk_drewN ?_ _|refine blk_drew ?_|refine blk_alloc ?_ _));exact qa.out⟩,⟨by repeat (first|(with_reducible first|exact HB.out|apply below_alloc|apply pw_below_drewN|apply below_drew1|refine below_set ?_ qu.out)|exact HB.out)⟩⟩
 case round =>
  clear H'
  try clear c1
  try clear p2
  obtain ⟨qk,qc,rfl,HA,HK1,HO_8,qa,HB⟩:=hrel
  cases gk with
  | zero=>exact absurd HA.out (by simp [spec_l11With.l0])
  | succ k1 =>
   have H:=HA.out
   clear HA
   simp only [spec_l11With.l0] at H
   by_cases c7 : qc < (l0.length : Int)
   ·rw [if_pos c7] at H
    have pa : decide (qc < (l0.length : Int)) = true:=decide_eq_true c7
    clear c7
    by_cases c8 : 0 ≤ qc
    rotate_left
    ·rw [if_neg c8] at H
     exact absurd H (by simp)
    rw [if_pos c8] at H
    have pj : decide (0 ≤ qc) = true:=decide_eq_true c8
    clear c8
    replace H:=Option.bind_eq_some_iff.mp H
    obtain ⟨ws,A90,H⟩:=H
    replace H : (if ws = true then (if qk.length < 2513169434916 then (spec_l11With.l0 k1 l0 a2 (qk ++ [(⟨(rd_T41 l0 qc).f0,(rd_T41 l0 qc).f1,(rd_T41 l0 qc).f2,(rd_T41 l0 qc).f3,(rd_T41 l0 qc).f4,(rd_T41 l0 qc).f5,(rd_T41 l0 qc).f6⟩ : S41)]) (wrap64 (qc + 1)) qj qi qh qd qg qf qe) else (none)) else (spec_l11With.l0 k1 l0 a2 qk (wrap64 (qc + 1)) qj qi qh qd qg qf qe)) = some (r1,r2):=H
    have A9:=Aside0.mk A90
    clear A90
    by_cases c10 : ws = true
    rotate_left
    ·replace c10:=Bool.eq_false_iff.mpr c10
     subst c10
     rw [if_neg (show ¬ (false = true) by decide)] at H
     have H':=Aside0.mk H
     clear H
     have wn : 0 ≤ (qc : Int):=of_decide_eq_true (by first|(with_reducible assumption)|assumption)
     have wm : qc < (l0.length : Int):=of_decide_eq_true (by first|(with_reducible assumption)|assumption)
     obtain ⟨wt,wx,qr,qq,qp,qo,qn,qm,ql⟩:=at_T41 HR0.out qc wn wm
     cases wx
     replace qr:=(HB.out.cell (World.block_lt_of_cell? w _ qr)).trans qr
     replace qq:=(HB.out.cell (World.block_lt_of_cell? w _ qq)).trans qq
     replace qp:=(HB.out.cell (World.block_lt_of_cell? w _ qp)).trans qp
     replace qo:=(HB.out.cell (World.block_lt_of_cell? w _ qo)).trans qo
     replace qn:=(HB.out.cell (World.block_lt_of_cell? w _ qn)).trans qn
     replace qm:=(HB.out.cell (World.block_lt_of_cell? w _ qm)).trans qm
     replace ql:=(HB.out.cell (World.block_lt_of_cell? w _ ql)).trans ql
     replace wn:=eq_true wn
     replace wm:=eq_true wm
     go_wp2_with (first|((with_reducible refine gate_callee (f:=154) rfl ?_);refine goesL_ (some 23) rfl rfl Try.func154 (by kernel_rfl) rfl #[.int .i64 ((rd_T41 l0 qc).f3),.int .i64 a2] rfl z50x1 ?_;(with_reducible refine (spec_l11Fresh.calls ((rd_T41 l0 qc).f3) a2 false _ A9.out).mono ?_);rintro e w' ⟨rfl,⟨nd,rfl⟩⟩; refine ⟨_,rfl,?_⟩))
     go_roundg k1
     case measure=>have:=HK1.out;omega
     case rel=>exact ⟨(qk),(wrap64 (qc + 1)),(by first|rfl|(simp;done)|(simp [*];done)),H',⟨by have:=HK1.out;omega⟩,⟨by (with_reducible repeat (first|apply Kd.R_alloc|apply Kd.R_drewN|apply Kd.R_drew));exact HO_8.out⟩,⟨by (with_reducible repeat (first|refine blk_drewN ?_ _|refine blk_drew ?_|refine blk_alloc ?_ _));exact qa.out⟩,⟨by repeat (first|(with_reducible first|exact HB.out|apply below_alloc|apply pw_below_drewN|apply below_drew1|refine below_set ?_ qu.out)|exact HB.out)⟩⟩
    subst c10
    rw [if_pos rfl] at H
    by_cases c11 : qk.length < 2513169434916
    rotate_left
    ·rw [if_neg c11] at H
     exact absurd H (by simp)
    rw [if_pos c11] at H
    have vq:=Aside0.mk c11
    clear c11
    obtain ⟨wy,wk⟩ : ∃ y_ : List (S41),y_ = (qk ++ [(⟨(rd_T41 l0 qc).f0,(rd_T41 l0 qc).f1,(rd_T41 l0 qc).f2,(rd_T41 l0 qc).f3,(rd_T41 l0 qc).f4,(rd_T41 l0 qc).f5,(rd_T41 l0 qc).f6⟩ : S41)]):=⟨_,rfl⟩
    replace H : (spec_l11With.l0 k1 l0 a2 wy (wrap64 (qc + 1)) qj qi qh qd qg qf qe) = some (r1,r2):=by first|(rw [wk];with_reducible exact H)|(have H2_:=(Option.bind_some _ _).symm.trans H;rw [wk];with_reducible exact H2_)|(have H2_:=(Option.bind_some _ _).symm.trans H;with_reducible exact H2_)|with_reducible exact H|(rw [wk];exact H)|exact H
    have vo:=Aside0.mk wk
    clear wk
    have H':=Aside0.mk H
    clear H
    have wn : 0 ≤ (qc : Int):=of_decide_eq_true (by first|(with_reducible assumption)|assumption)
    have wm : qc < (l0.length : Int):=of_decide_eq_true (by first|(with_reducible assumption)|assumption)
    obtain ⟨wt,wx,qr,qq,qp,qo,qn,qm,ql⟩:=at_T41 HR0.out qc wn wm
    cases wx
    replace qr:=(HB.out.cell (World.block_lt_of_cell? w _ qr)).trans qr
    replace qq:=(HB.out.cell (World.block_lt_of_cell? w _ qq)).trans qq
    replace qp:=(HB.out.cell (World.block_lt_of_cell? w _ qp)).trans qp
    replace qo:=(HB.out.cell (World.block_lt_of_cell? w _ qo)).trans qo
    replace qn:=(HB.out.cell (World.block_lt_of_cell? w _ qn)).trans qn
    replace qm:=(HB.out.cell (World.block_lt_of_cell? w _ qm)).trans qm
    replace ql:=(HB.out.cell (World.block_lt_of_cell? w _ ql)).trans ql
    replace wn:=eq_true wn
    replace wm:=eq_true wm
    go_wp2_with (first|((with_reducible refine gate_callee (f:=154) rfl ?_);refine goesL_ (some 23) rfl rfl Try.func154 (by kernel_rfl) rfl #[.int .i64 ((rd_T41 l0 qc).f3),.int .i64 a2] rfl z50x1 ?_;(with_reducible refine (spec_l11Fresh.calls ((rd_T41 l0 qc).f3) a2 true _ A9.out).mono ?_);rintro e w' ⟨rfl,⟨nd,rfl⟩⟩; refine ⟨_,rfl,?_⟩; have ww : 0 ≤ (qc : Int):=of_decide_eq_true (by first|(with_reducible assumption)|assumption);have wv : qc < (l0.length : Int):=of_decide_eq_true (by first|(with_reducible assumption)|assumption);obtain ⟨vm,gy,wi,wh,wg,we,wd,wc,wb⟩:=at_T41 HR0.out qc ww wv;obtain rfl : wt = vm:=(by injection gy);replace wi:=(HB.out.cell (World.block_lt_of_cell? w _ wi)).trans wi;replace wh:=(HB.out.cell (World.block_lt_of_cell? w _ wh)).trans wh;replace wg:=(HB.out.cell (World.block_lt_of_cell? w _ wg)).trans wg;replace we:=(HB.out.cell (World.block_lt_of_cell? w _ we)).trans we;replace wd:=(HB.out.cell (World.block_lt_of_cell? w _ wd)).trans wd;replace wc:=(HB.out.cell (World.block_lt_of_cell? w _ wc)).trans wc;replace wb:=(HB.out.cell (World.block_lt_of_cell? w _ wb)).trans wb;replace ww:=eq_true ww;replace wv:=eq_true wv)|((with_reducible refine gate_builtin (b:=.append) (xs:=#[.tmp 24,.tmp 29]) rfl ?_);at_builtin;refine Kd.R_append k41 (w0:=w) w.heap.size rfl (.tmp 24) (.tmp 29) 32 41 (.agg #[(.int .i64 0),(.int .i64 0),(.int .i64 0),(.int .i64 0),(.int .i64 0),(.int .i64 0),(.int .i64 0)]) 56 rfl Try.underlying32 info41 rfl (by decide) (by omega) u8 qk (⟨(rd_T41 l0 qc).f0,(rd_T41 l0 qc).f1,(rd_T41 l0 qc).f2,(rd_T41 l0 qc).f3,(rd_T41 l0 qc).f4,(rd_T41 l0 qc).f5,(rd_T41 l0 qc).f6⟩ : S41) [.int .i64 ((rd_T41 l0 qc).f0),.int .i64 ((rd_T41 l0 qc).f1),.int .i64 ((rd_T41 l0 qc).f2),.int .i64 ((rd_T41 l0 qc).f3),.int .i64 ((rd_T41 l0 qc).f4),.int .i64 ((rd_T41 l0 qc).f5),.int .i64 ((rd_T41 l0 qc).f6)] (fun k_=>k_ ≠ qb) (fun _=>False) rfl rfl ?aP (fun _ hk=>hk.elim) ?aF ?aO ?aB ?aS ?aL ?_;(case aP=>exact k41_mkM _ _ _ (⟨(rd_T41 l0 qc).f0,(rd_T41 l0 qc).f1,(rd_T41 l0 qc).f2,(rd_T41 l0 qc).f3,(rd_T41 l0 qc).f4,(rd_T41 l0 qc).f5,(rd_T41 l0 qc).f6⟩ : S41));(case aB=>exact z50x0);(case aF=>exact (fun k_ hk=>Kd.freshB (g:=qb) (o:=.cells #[.int .i64 qj,.int .i64 qi,.int .i64 qh,.int .i64 qd,.int .i64 qg,.int .i64 qf,.int .i64 qe] 41 (0,0)) z50x3 k_ hk));(case aO=>exact z50x4);(case aS=>exact (below_size z50x0));(case aL=>have:=vq.out;omega);intro pe w12 ho hb hg hat;rw [← vo.out] at ho;have n0_:=Aside0.mk (blk_grown (g:=qb) (o:=.cells #[.int .i64 qj,.int .i64 qi,.int .i64 qh,.int .i64 qd,.int .i64 qg,.int .i64 qf,.int .i64 qe] 41 (0,0)) z50x3 hg (Kd.R_away HO_8.out (fun _ hk=>hk)));have n1_:=Aside0.mk (hb);have n2_:=Aside0.mk (ho);clear qa;clear HB;clear HO_8;have qa:=n0_;have HB:=n1_;have vt:=n2_;clear n0_ n1_ n2_;clear ho hb hg hat))
    go_roundg k1
    case measure=>have:=HK1.out;omega
    case rel=>exact ⟨(wy),(wrap64 (qc + 1)),(by first|rfl|(simp;done)|(simp [*];done)),H',⟨by have:=HK1.out;omega⟩,⟨by (with_reducible repeat (first|apply Kd.R_alloc|apply Kd.R_drewN|apply Kd.R_drew));exact vt.out⟩,⟨by (with_reducible repeat (first|refine blk_drewN ?_ _|refine blk_drew ?_|refine blk_alloc ?_ _));exact qa.out⟩,⟨by repeat (first|(with_reducible first|exact HB.out|apply below_alloc|apply pw_below_drewN|apply below_drew1|refine below_set ?_ qu.out)|exact HB.out)⟩⟩
   ·rw [if_neg c7] at H
    have pa : decide (qc < (l0.length : Int)) = false:=decide_eq_false c7
    clear c7
    replace H:=Option.bind_eq_some_iff.mp H
    obtain ⟨wq,vw,H⟩:=H
    replace H : (if wq = true then ((spec_l3Among.f k1 qk qj qi qh qd qg qf qe).bind fun wo=>(if wo = true then (some (qk,false)) else (if (qk.length : Int) = 20 then (some (qk,false)) else (if qk.length < 2513169434916 then (some ((qk ++ [(⟨qj,qi,qh,qd,qg,qf,qe⟩ : S41)]),true)) else (none))))) else (some (qk,false))) = some (r1,r2):=H
    have A13:=Aside0.mk vw
    clear vw
    by_cases c14 : wq = true
    rotate_left
    ·replace c14:=Bool.eq_false_iff.mpr c14
     subst c14
     rw [if_neg (show ¬ (false = true) by decide)] at H
     simp only [Option.some.injEq,Prod.mk.injEq] at H
     obtain ⟨rfl,rfl⟩:=H
     have jn : wr.cell? ⟨qb,0,none⟩ = some (.int .i64 qj):=(blk_cell qa.out 0).trans rfl
     have jm : wr.cell? ⟨qb,1,none⟩ = some (.int .i64 qi):=(blk_cell qa.out 1).trans rfl
     have jl : wr.cell? ⟨qb,2,none⟩ = some (.int .i64 qh):=(blk_cell qa.out 2).trans rfl
     have jk : wr.cell? ⟨qb,3,none⟩ = some (.int .i64 qd):=(blk_cell qa.out 3).trans rfl
     have jj : wr.cell? ⟨qb,4,none⟩ = some (.int .i64 qg):=(blk_cell qa.out 4).trans rfl
     have ji : wr.cell? ⟨qb,5,none⟩ = some (.int .i64 qf):=(blk_cell qa.out 5).trans rfl
     have jh : wr.cell? ⟨qb,6,none⟩ = some (.int .i64 qe):=(blk_cell qa.out 6).trans rfl
     have ud:=blk_frozen qa.out 0
     have uc:=blk_frozen qa.out 1
     have ub:=blk_frozen qa.out 2
     have ua:=blk_frozen qa.out 3
     have vz:=blk_frozen qa.out 4
     have vy:=blk_frozen qa.out 5
     have vx:=blk_frozen qa.out 6
     go_wp2_with (first|((with_reducible refine gate_callee (f:=154) rfl ?_);refine goesL_ (some 34) rfl rfl Try.func154 (by kernel_rfl) rfl #[.int .i64 qd,.int .i64 a2] rfl z50x1 ?_;(with_reducible refine (spec_l11Fresh.calls qd a2 false _ A13.out).mono ?_);rintro e w' ⟨rfl,⟨nd,rfl⟩⟩; refine ⟨_,rfl,?_⟩))
     go_ret2
     exact ⟨_,by first|rfl|(simp [errW_none,errW_some] <;> rfl)|(simp [*,errW_none,errW_some] <;> rfl),by (with_reducible repeat (first|apply Kd.R_alloc|apply Kd.R_drewN|apply Kd.R_drew));exact Kd.R_mono HO_8.out (fun _ hk=>trivial),by repeat (first|(with_reducible first|exact HB.out|apply below_alloc|apply pw_below_drewN|apply below_drew1|refine below_set ?_ qu.out)|exact HB.out)⟩
    subst c14
    rw [if_pos rfl] at H
    replace H:=Option.bind_eq_some_iff.mp H
    obtain ⟨wo,vv,H⟩:=H
    replace H : (if wo = true then (some (qk,false)) else (if (qk.length : Int) = 20 then (some (qk,false)) else (if qk.length < 2513169434916 then (some ((qk ++ [(⟨qj,qi,qh,qd,qg,qf,qe⟩ : S41)]),true)) else (none)))) = some (r1,r2):=H
    have A15:=Aside0.mk vv
    clear vv
    by_cases c16 : wo = true
    ·subst c16
     rw [if_pos rfl] at H
     simp only [Option.some.injEq,Prod.mk.injEq] at H
     obtain ⟨rfl,rfl⟩:=H
     have gt : wr.cell? ⟨qb,0,none⟩ = some (.int .i64 qj):=(blk_cell qa.out 0).trans rfl
     have gs : wr.cell? ⟨qb,1,none⟩ = some (.int .i64 qi):=(blk_cell qa.out 1).trans rfl
     have gr : wr.cell? ⟨qb,2,none⟩ = some (.int .i64 qh):=(blk_cell qa.out 2).trans rfl
     have gq : wr.cell? ⟨qb,3,none⟩ = some (.int .i64 qd):=(blk_cell qa.out 3).trans rfl
     have gp : wr.cell? ⟨qb,4,none⟩ = some (.int .i64 qg):=(blk_cell qa.out 4).trans rfl
     have gn : wr.cell? ⟨qb,5,none⟩ = some (.int .i64 qf):=(blk_cell qa.out 5).trans rfl
     have gm : wr.cell? ⟨qb,6,none⟩ = some (.int .i64 qe):=(blk_cell qa.out 6).trans rfl
     have jg:=blk_frozen qa.out 0
     have jf:=blk_frozen qa.out 1
     have je:=blk_frozen qa.out 2
     have jd:=blk_frozen qa.out 3
     have jc:=blk_frozen qa.out 4
     have jb:=blk_frozen qa.out 5
     have ja:=blk_frozen qa.out 6
     go_wp2_with (first|((with_reducible refine gate_callee (f:=154) rfl ?_);refine goesL_ (some 34) rfl rfl Try.func154 (by kernel_rfl) rfl #[.int .i64 qd,.int .i64 a2] rfl z50x1 ?_;(with_reducible refine (spec_l11Fresh.calls qd a2 true _ A13.out).mono ?_);rintro e w' ⟨rfl,⟨nd,rfl⟩⟩; refine ⟨_,rfl,?_⟩; obtain ⟨pl,pi,gx⟩:=Kd.R_slice HO_8.out;subst gx)|(go_at_call 100;(with_reducible refine (spec_l3Among.calls k1 _ _ qk qj qi qh qd qg qf qe true _ ?side1 ?side2 A15.out).mono ?_);(case side1=>repeat (first|exact (Kd.R_reads' HO_8.out).2.2|(with_reducible refine Kd.C_alloc ?_ _)|(with_reducible refine Kd.C_drewN ?_ _)|(with_reducible refine Kd.C_drew ?_)));(case side2=>exact (Kd.R_reads' HO_8.out).2.1);rintro e w19 ⟨rfl,hb⟩; have n0_:=Aside0.mk (Kd.R_below z50x4 hb);have n1_:=Aside0.mk (blk_below (g:=qb) (o:=.cells #[.int .i64 qj,.int .i64 qi,.int .i64 qh,.int .i64 qd,.int .i64 qg,.int .i64 qf,.int .i64 qe] 41 (0,0)) z50x3 hb);have n2_:=Aside0.mk (below_step z50x0 hb);clear HO_8;clear qa;clear HB;have HO_8:=n0_;have qa:=n1_;have HB:=n2_;clear n0_ n1_ n2_;(try clear hb);(try clear hb2);(try clear hk);(try clear hi)))
     go_ret2
     exact ⟨_,by first|rfl|(simp [errW_none,errW_some] <;> rfl)|(simp [*,errW_none,errW_some] <;> rfl),by (with_reducible repeat (first|apply Kd.R_alloc|apply Kd.R_drewN|apply Kd.R_drew));exact Kd.R_mono HO_8.out (fun _ hk=>trivial),by repeat (first|(with_reducible first|exact HB.out|apply below_alloc|apply pw_below_drewN|apply below_drew1|refine below_set ?_ qu.out)|exact HB.out)⟩
    ·replace c16:=Bool.eq_false_iff.mpr c16
     subst c16
     rw [if_neg (show ¬ (false = true) by decide)] at H
     by_cases c20 : (qk.length : Int) = 20
     ·rw [if_pos c20] at H
      have vl : ((qk.length : Int) == 20) = true:=beq_iff_eq.mpr c20
      have vk : ((qk.length : Int) != 20) = false:=bne_eq_false_iff_eq.mpr c20
      clear c20
      simp only [Option.some.injEq,Prod.mk.injEq] at H
      obtain ⟨rfl,rfl⟩:=H
      have gl : wr.cell? ⟨qb,0,none⟩ = some (.int .i64 qj):=(blk_cell qa.out 0).trans rfl
      have gj : wr.cell? ⟨qb,1,none⟩ = some (.int .i64 qi):=(blk_cell qa.out 1).trans rfl
      have gi : wr.cell? ⟨qb,2,none⟩ = some (.int .i64 qh):=(blk_cell qa.out 2).trans rfl
      have gh : wr.cell? ⟨qb,3,none⟩ = some (.int .i64 qd):=(blk_cell qa.out 3).trans rfl
      have gg : wr.cell? ⟨qb,4,none⟩ = some (.int .i64 qg):=(blk_cell qa.out 4).trans rfl
      have gf : wr.cell? ⟨qb,5,none⟩ = some (.int .i64 qf):=(blk_cell qa.out 5).trans rfl
      have gc : wr.cell? ⟨qb,6,none⟩ = some (.int .i64 qe):=(blk_cell qa.out 6).trans rfl
      have uz:=blk_frozen qa.out 0
      have uy:=blk_frozen qa.out 1
      have ux:=blk_frozen qa.out 2
      have uw:=blk_frozen qa.out 3
      have uv:=blk_frozen qa.out 4
      have uu:=blk_frozen qa.out 5
      have ut:=blk_frozen qa.out 6
      go_wp2_with (first|((with_reducible refine gate_callee (f:=154) rfl ?_);refine goesL_ (some 34) rfl rfl Try.func154 (by kernel_rfl) rfl #[.int .i64 qd,.int .i64 a2] rfl z50x1 ?_;(with_reducible refine (spec_l11Fresh.calls qd a2 true _ A13.out).mono ?_);rintro e w' ⟨rfl,⟨nd,rfl⟩⟩; refine ⟨_,rfl,?_⟩; obtain ⟨pk,ph,gw⟩:=Kd.R_slice HO_8.out;subst gw)|(go_at_call 100;(with_reducible refine (spec_l3Among.calls k1 _ _ qk qj qi qh qd qg qf qe false _ ?side1 ?side2 A15.out).mono ?_);(case side1=>repeat (first|exact (Kd.R_reads' HO_8.out).2.2|(with_reducible refine Kd.C_alloc ?_ _)|(with_reducible refine Kd.C_drewN ?_ _)|(with_reducible refine Kd.C_drew ?_)));(case side2=>exact (Kd.R_reads' HO_8.out).2.1);rintro e w23 ⟨rfl,hb⟩; have n0_:=Aside0.mk (Kd.R_below z50x4 hb);have n1_:=Aside0.mk (blk_below (g:=qb) (o:=.cells #[.int .i64 qj,.int .i64 qi,.int .i64 qh,.int .i64 qd,.int .i64 qg,.int .i64 qf,.int .i64 qe] 41 (0,0)) z50x3 hb);have n2_:=Aside0.mk (below_step z50x0 hb);clear HO_8;clear qa;clear HB;have HO_8:=n0_;have qa:=n1_;have HB:=n2_;clear n0_ n1_ n2_;(try clear hb);(try clear hb2);(try clear hk);(try clear hi)))
      go_ret2
      exact ⟨_,by first|rfl|(simp [errW_none,errW_some] <;> rfl)|(simp [*,errW_none,errW_some] <;> rfl),by (with_reducible repeat (first|apply Kd.R_alloc|apply Kd.R_drewN|apply Kd.R_drew));exact Kd.R_mono HO_8.out (fun _ hk=>trivial),by repeat (first|(with_reducible first|exact HB.out|apply below_alloc|apply pw_below_drewN|apply below_drew1|refine below_set ?_ qu.out)|exact HB.out)⟩
     ·rw [if_neg c20] at H
      have vl : ((qk.length : Int) == 20) = false:=beq_eq_false_iff_ne.mpr c20
      have vk : ((qk.length : Int) != 20) = true:=bne_iff_ne.mpr c20
      by_cases c24 : qk.length < 2513169434916
      rotate_left
      ·rw [if_neg c24] at H
       exact absurd H (by simp)
      rw [if_pos c24] at H
      have vp:=Aside0.mk c24
      clear c24
      obtain ⟨gu,wj⟩ : ∃ y_ : List (S41),y_ = (qk ++ [(⟨qj,qi,qh,qd,qg,qf,qe⟩ : S41)]):=⟨_,rfl⟩
      replace H : (some (gu,true)) = some (r1,r2):=by first|(rw [wj];with_reducible exact H)|(have H2_:=(Option.bind_some _ _).symm.trans H;rw [wj];with_reducible exact H2_)|(have H2_:=(Option.bind_some _ _).symm.trans H;with_reducible exact H2_)|with_reducible exact H|(rw [wj];exact H)|exact H
      have vn:=Aside0.mk wj
      clear wj
      simp only [Option.some.injEq,Prod.mk.injEq] at H
      obtain ⟨rfl,rfl⟩:=H
      have gb : wr.cell? ⟨qb,0,none⟩ = some (.int .i64 qj):=(blk_cell qa.out 0).trans rfl
      have ga : wr.cell? ⟨qb,1,none⟩ = some (.int .i64 qi):=(blk_cell qa.out 1).trans rfl
      have jz : wr.cell? ⟨qb,2,none⟩ = some (.int .i64 qh):=(blk_cell qa.out 2).trans rfl
      have jy : wr.cell? ⟨qb,3,none⟩ = some (.int .i64 qd):=(blk_cell qa.out 3).trans rfl
      have jx : wr.cell? ⟨qb,4,none⟩ = some (.int .i64 qg):=(blk_cell qa.out 4).trans rfl
      have jw : wr.cell? ⟨qb,5,none⟩ = some (.int .i64 qf):=(blk_cell qa.out 5).trans rfl
      have jv : wr.cell? ⟨qb,6,none⟩ = some (.int .i64 qe):=(blk_cell qa.out 6).trans rfl
      have us:=blk_frozen qa.out 0
      have ur:=blk_frozen qa.out 1
      have uq:=blk_frozen qa.out 2
      have uo:=blk_frozen qa.out 3
      have un:=blk_frozen qa.out 4
      have um:=blk_frozen qa.out 5
      have ul:=blk_frozen qa.out 6
      go_wp2_with (first|((with_reducible refine gate_callee (f:=154) rfl ?_);refine goesL_ (some 34) rfl rfl Try.func154 (by kernel_rfl) rfl #[.int .i64 qd,.int .i64 a2] rfl z50x1 ?_;(with_reducible refine (spec_l11Fresh.calls qd a2 true _ A13.out).mono ?_);rintro e w' ⟨rfl,⟨nd,rfl⟩⟩; refine ⟨_,rfl,?_⟩; obtain ⟨pb,gz,gv⟩:=Kd.R_slice HO_8.out;subst gv)|(go_at_call 100;(with_reducible refine (spec_l3Among.calls k1 _ _ qk qj qi qh qd qg qf qe false _ ?side1 ?side2 A15.out).mono ?_);(case side1=>repeat (first|exact (Kd.R_reads' HO_8.out).2.2|(with_reducible refine Kd.C_alloc ?_ _)|(with_reducible refine Kd.C_drewN ?_ _)|(with_reducible refine Kd.C_drew ?_)));(case side2=>exact (Kd.R_reads' HO_8.out).2.1);rintro e w27 ⟨rfl,hb⟩; have n0_:=Aside0.mk (Kd.R_below z50x4 hb);have n1_:=Aside0.mk (blk_below (g:=qb) (o:=.cells #[.int .i64 qj,.int .i64 qi,.int .i64 qh,.int .i64 qd,.int .i64 qg,.int .i64 qf,.int .i64 qe] 41 (0,0)) z50x3 hb);have n2_:=Aside0.mk (below_step z50x0 hb);clear HO_8;clear qa;clear HB;have HO_8:=n0_;have qa:=n1_;have HB:=n2_;clear n0_ n1_ n2_;(try clear hb);(try clear hb2);(try clear hk);(try clear hi);have ju : w27.cell? ⟨qb,0,none⟩ = some (.int .i64 qj):=(blk_cell qa.out 0).trans rfl;have jt : w27.cell? ⟨qb,1,none⟩ = some (.int .i64 qi):=(blk_cell qa.out 1).trans rfl;have js : w27.cell? ⟨qb,2,none⟩ = some (.int .i64 qh):=(blk_cell qa.out 2).trans rfl;have jr : w27.cell? ⟨qb,3,none⟩ = some (.int .i64 qd):=(blk_cell qa.out 3).trans rfl;have jq : w27.cell? ⟨qb,4,none⟩ = some (.int .i64 qg):=(blk_cell qa.out 4).trans rfl;have jp : w27.cell? ⟨qb,5,none⟩ = some (.int .i64 qf):=(blk_cell qa.out 5).trans rfl;have jo : w27.cell? ⟨qb,6,none⟩ = some (.int .i64 qe):=(blk_cell qa.out 6).trans rfl;have uk:=blk_frozen qa.out 0;have uj:=blk_frozen qa.out 1;have ui:=blk_frozen qa.out 2;have uh:=blk_frozen qa.out 3;have ug:=blk_frozen qa.out 4;have uf:=blk_frozen qa.out 5;have ue:=blk_frozen qa.out 6)|((with_reducible refine gate_builtin (b:=.append) (xs:=#[.tmp 47,.tmp 49]) rfl ?_);at_builtin;refine Kd.R_append k41 (w0:=w) w.heap.size rfl (.tmp 47) (.tmp 49) 32 41 (.agg #[(.int .i64 0),(.int .i64 0),(.int .i64 0),(.int .i64 0),(.int .i64 0),(.int .i64 0),(.int .i64 0)]) 56 rfl Try.underlying32 info41 rfl (by decide) (by omega) (.slice pb qk.length gz) qk (⟨qj,qi,qh,qd,qg,qf,qe⟩ : S41) [.int .i64 qj,.int .i64 qi,.int .i64 qh,.int .i64 qd,.int .i64 qg,.int .i64 qf,.int .i64 qe] (fun k_=>k_ ≠ qb) (fun _=>False) rfl rfl ?aP (fun _ hk=>hk.elim) ?aF ?aO ?aB ?aS ?aL ?_;(case aP=>exact k41_mkM _ _ _ (⟨qj,qi,qh,qd,qg,qf,qe⟩ : S41));(case aB=>exact z50x0);(case aF=>exact (fun k_ hk=>Kd.freshB (g:=qb) (o:=.cells #[.int .i64 qj,.int .i64 qi,.int .i64 qh,.int .i64 qd,.int .i64 qg,.int .i64 qf,.int .i64 qe] 41 (0,0)) z50x3 k_ hk));(case aO=>exact z50x4);(case aS=>exact (below_size z50x0));(case aL=>have:=vp.out;omega);intro pd w29 ho hb hg hat;rw [← vn.out] at ho;have n0_:=Aside0.mk (blk_grown (g:=qb) (o:=.cells #[.int .i64 qj,.int .i64 qi,.int .i64 qh,.int .i64 qd,.int .i64 qg,.int .i64 qf,.int .i64 qe] 41 (0,0)) z50x3 hg (Kd.R_away HO_8.out (fun _ hk=>hk)));have n1_:=Aside0.mk (hb);have n2_:=Aside0.mk (ho);clear qa;clear HB;clear HO_8;have qa:=n0_;have HB:=n1_;have vr:=n2_;clear n0_ n1_ n2_;clear ho hb hg hat))
      go_ret2
      exact ⟨_,by first|rfl|(simp [errW_none,errW_some] <;> rfl)|(simp [*,errW_none,errW_some] <;> rfl),by (with_reducible repeat (first|apply Kd.R_alloc|apply Kd.R_drewN|apply Kd.R_drew));exact Kd.R_mono vr.out (fun _ hk=>trivial),by repeat (first|(with_reducible first|exact HB.out|apply below_alloc|apply pw_below_drewN|apply below_drew1|refine below_set ?_ qu.out)|exact HB.out)⟩

end Go.Proofs.Ytgekmdfcbcacdaa.Hp
