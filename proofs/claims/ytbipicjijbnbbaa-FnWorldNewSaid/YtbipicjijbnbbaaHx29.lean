-- hp.py
import Derived.Test.YtbipicjijbnbbaaHx0
import Derived.Test.YtbipicjijbnbbaaHx1
namespace Go.Proofs.Ytbipicjijbnbbaa.Hp
open Go.RowKit Go.Proofs.YtbipicjijbnbbaaW.PrintWords Go.Proofs.YtbipicjijbnbbaaW.PrintLast Go.Proofs.YtbipicjijbnbbaaW.PrintMore
attribute [local go_sem] max2_int min2_int max_two min_two max_three min_three max_four min_four   -- for this text's walks alone
set_option linter.unusedVariables false
set_option linter.unusedSimpArgs false

attribute [local go_sem high] eqA41
-- squeezed by wip/tools/squeeze.py
theorem z29x1 {P : Prop} (h : P:=by repeat (first|(with_reducible first|exact HB.out|apply below_alloc|apply pw_below_drewN|apply below_drew1)|exact HB.out)) : P:=h
theorem z29x0 {P : Prop} (h : P:=by rw [hg];exact (below_size (by repeat (first|(with_reducible first|exact HB.out|apply below_alloc|apply pw_below_drewN|apply below_drew1)|exact HB.out)))) : P:=h
/-! ### impl_Seal_165: function 165 -/
def impl_Seal_165.l0 : Nat → List (S41) → Int → Int → Int → Int → Int → Int → Int → Int → Int → Option (Int)
 | 0,_,_,_,_,_,_,_,_,_,_=>none
 | k + 1,x0,x7,x8,wb,wa,qz,qy,qx,qw,qv=>if x8 < x7 then (if 0 ≤ x8 then (if x8 < (x0.length : Int) then (if (wb == ((rd_T41 x0 x8).f0) && (wa == ((rd_T41 x0 x8).f1) && (qz == ((rd_T41 x0 x8).f2) && (qy == ((rd_T41 x0 x8).f3) && (qx == ((rd_T41 x0 x8).f4) && (qw == ((rd_T41 x0 x8).f5) && (qv == ((rd_T41 x0 x8).f6)))))))) = true then (some x8) else (impl_Seal_165.l0 k x0 x7 (wrap64 (x8 + 1)) wb wa qz qy qx qw qv)) else (none)) else (none)) else (some (-1))
def impl_Seal_165.f (k : Nat) (l0 : List (S41)) (qj : Int) (qi : Int) (qh : Int) (qg : Int) (qf : Int) (qe : Int) (qd : Int) : Option (Int):=impl_Seal_165.l0 k l0 (l0.length : Int) 0 qj qi qh qg qf qe qd
theorem impl_Seal_165.mono_l : ∀ k,(∀ y0 y1 y2 y3 y4 y5 y6 y7 y8 y9,LeO (impl_Seal_165.l0 k y0 y1 y2 y3 y4 y5 y6 y7 y8 y9) (impl_Seal_165.l0 (k + 1) y0 y1 y2 y3 y4 y5 y6 y7 y8 y9))
 | 0=>fun _ _ _ _ _ _ _ _ _ _ r h=>by simp [impl_Seal_165.l0] at h
 | k + 1=>by
  have ih0:=impl_Seal_165.mono_l k
  ·intro y0 y1 y2 y3 y4 y5 y6 y7 y8 y9
   unfold impl_Seal_165.l0
   repeat' first
   | (with_reducible exact ih0 _ _ _ _ _ _ _ _ _ _)
   | (with_reducible exact LeO.refl _)
   | (with_reducible exact LeO.none _)
   | (with_reducible refine LeO.ite ?_ ?_)
   | (with_reducible refine LeO.bind ?_ (fun _=>?_))
   | exact ih0 _ _ _ _ _ _ _ _ _ _
   | exact LeO.none _
   | refine LeO.ite ?_ ?_
   | refine LeO.bind ?_ (fun _=>?_)
theorem impl_Seal_165.mono : ∀ a0 a1 a2 a3 a4 a5 a6 a7 k,LeO (impl_Seal_165.f k a0 a1 a2 a3 a4 a5 a6 a7) (impl_Seal_165.f (k + 1) a0 a1 a2 a3 a4 a5 a6 a7):=by
 intro a0 a1 a2 a3 a4 a5 a6 a7 k
 have ih0:=impl_Seal_165.mono_l k
 unfold impl_Seal_165.f
 repeat' first
   | (with_reducible exact ih0 _ _ _ _ _ _ _ _ _ _)
   | (with_reducible exact LeO.refl _)
   | (with_reducible exact LeO.none _)
   | (with_reducible refine LeO.ite ?_ ?_)
   | (with_reducible refine LeO.bind ?_ (fun _=>?_))
   | exact ih0 _ _ _ _ _ _ _ _ _ _
   | exact LeO.none _
   | refine LeO.ite ?_ ?_
   | refine LeO.bind ?_ (fun _=>?_)
set_option maxHeartbeats 8000000 in
set_option maxRecDepth 100000 in
theorem impl_Seal_165.calls (k : Nat) (A0 : Option Addr) (c0 : Nat) (l0 : List (S41)) (qj : Int) (qi : Int) (qh : Int) (qg : Int) (qf : Int) (qe : Int) (qd : Int) (r : Int) (w : World) (hr0 : Kd.C k41 w A0 l0.length l0) (hc0 : l0.length ≤ c0) (h : impl_Seal_165.f k l0 qj qi qh qg qf qe qd = some r) :
  Calls Try.prog 165 #[.slice A0 l0.length c0,.agg #[.int .i64 qj,.int .i64 qi,.int .i64 qh,.int .i64 qg,.int .i64 qf,.int .i64 qe,.int .i64 qd]] w fun e w' => e = .returned (.int .i64 r) ∧ Below w.heap.size w w':=by
 have vz:=Try.underlying41
 have HR0:=Aside0.mk hr0
 have HC0:=Aside0.mk hc0
 clear hr0 hc0
 have HB:=Aside0.mk (Below.refl w.heap.size w)
 have H : (impl_Seal_165.l0 k l0 (l0.length : Int) 0 qj qi qh qg qf qe qd) = some r:=h
 clear h
 have H':=Aside0.mk H
 clear H
 go_enter Try.func165,Try.ntmps165
 go_wp2_with (first|((with_reducible refine gate_dst (N:=3) rfl ?_);refine box_event ?hg (N:=3) ?hd (cs:=#[.int .i64 qj,.int .i64 qi,.int .i64 qh,.int .i64 qg,.int .i64 qf,.int .i64 qe,.int .i64 qd]) (t:=41) ?hr ?_;(case hd=>rfl);(case hg=>rfl);(case hr=>first|(go_simp;done)|(go_simp;rfl));intro qc hg w3 hbox hb;have n0_:=Aside0.mk (below_step z29x1 hb);have n1_:=Aside0.mk (hbox);have n2_:=Aside0.mk ((z29x0 : w.heap.size ≤ qc));have n3_:=Aside0.mk ((z29x0 : w.heap.size ≤ qc));clear HB;have HB:=n0_;have qb:=n1_;have wc:=n2_;have qr:=n3_;clear n0_ n1_ n2_ n3_;clear hb hbox hg))
 repeat (go_quiet (first|((with_reducible refine gate_dst (N:=3) rfl ?_);refine box_event ?hg (N:=3) ?hd (cs:=#[.int .i64 qj,.int .i64 qi,.int .i64 qh,.int .i64 qg,.int .i64 qf,.int .i64 qe,.int .i64 qd]) (t:=41) ?hr ?_;(case hd=>rfl);(case hg=>rfl);(case hr=>first|(go_simp;done)|(go_simp;rfl));intro qc hg w3 hbox hb;have n0_:=Aside0.mk (below_step z29x1 hb);have n1_:=Aside0.mk (hbox);have n2_:=Aside0.mk ((z29x0 : w.heap.size ≤ qc));have n3_:=Aside0.mk ((z29x0 : w.heap.size ≤ qc));clear HB;have HB:=n0_;have qb:=n1_;have wc:=n2_;have qr:=n3_;clear n0_ n1_ n2_ n3_;clear hb hbox hg));try go_wp2_with (first|((with_reducible refine gate_dst (N:=3) rfl ?_);refine box_event ?hg (N:=3) ?hd (cs:=#[.int .i64 qj,.int .i64 qi,.int .i64 qh,.int .i64 qg,.int .i64 qf,.int .i64 qe,.int .i64 qd]) (t:=41) ?hr ?_;(case hd=>rfl);(case hg=>rfl);(case hr=>first|(go_simp;done)|(go_simp;rfl));intro qc hg w3 hbox hb;have n0_:=Aside0.mk (below_step z29x1 hb);have n1_:=Aside0.mk (hbox);have n2_:=Aside0.mk ((z29x0 : w.heap.size ≤ qc));have n3_:=Aside0.mk ((z29x0 : w.heap.size ≤ qc));clear HB;have HB:=n0_;have qb:=n1_;have wc:=n2_;have qr:=n3_;clear n0_ n1_ n2_ n3_;clear hb hbox hg)))
 go_loopg [8] k (fun kq v8 w' => ∃ (qa : Int),v8 = .int .i64 qa ∧ Aside0 (impl_Seal_165.l0 kq l0 (l0.length : Int) qa qj qi qh qg qf qe qd = some r) ∧ Aside0 (kq ≤ k) ∧ Aside0 (w'.heap[qc]? = some (.cells #[.int .i64 qj,.int .i64 qi,.int .i64 qh,.int .i64 qg,.int .i64 qf,.int .i64 qe,.int .i64 qd] 41 (0,0))) ∧ Aside0 (Below w.heap.size w w'))
 case atStart=>exact ⟨(0),(by first|rfl|(simp;done)|(simp [*];done)),H',⟨Nat.le_refl _⟩,⟨by (with_reducible repeat (first|refine blk_drewN ?_ _|refine blk_drew ?_|refine blk_alloc ?_ _));exact qb.out⟩,⟨by repeat (first|(with_reducible first|exact HB.out|apply below_alloc|apply pw_below_drewN|apply below_drew1|refine below_set ?_ qr.out)|exact HB.out)⟩⟩
 case round =>
  clear H'
  try clear c1
  try clear p2
  obtain ⟨qa,rfl,HA,HK1,qb,HB⟩:=hrel
  cases gk with
  | zero=>exact absurd HA.out (by simp [impl_Seal_165.l0])
  | succ k1 =>
   have H:=HA.out
   clear HA
   simp only [impl_Seal_165.l0] at H
   by_cases c4 : qa < (l0.length : Int)
   rotate_left
   ·rw [if_neg c4] at H
    have vy : decide (qa < (l0.length : Int)) = false:=decide_eq_false c4
    clear c4
    obtain rfl:=Option.some.inj H
    go_wp2
    repeat (go_quiet (fail);try go_wp2)
    go_ret
    exact ⟨by first|rfl|(simp [errW_none,errW_some] <;> rfl)|(simp [*,errW_none,errW_some] <;> rfl),by repeat (first|(with_reducible first|exact HB.out|apply below_alloc|apply pw_below_drewN|apply below_drew1|refine below_set ?_ qr.out)|exact HB.out)⟩
   rw [if_pos c4] at H
   have vy : decide (qa < (l0.length : Int)) = true:=decide_eq_true c4
   clear c4
   by_cases c5 : 0 ≤ qa
   rotate_left
   ·rw [if_neg c5] at H
    exact absurd H (by simp)
   rw [if_pos c5] at H
   have uc : decide (0 ≤ qa) = true:=decide_eq_true c5
   clear c5
   by_cases c6 : qa < (l0.length : Int)
   rotate_left
   ·rw [if_neg c6] at H
    exact absurd H (by simp)
   rw [if_pos c6] at H
   have ub : decide (qa < (l0.length : Int)) = true:=decide_eq_true c6
   clear c6
   by_cases c7 : (qj == ((rd_T41 l0 qa).f0) && (qi == ((rd_T41 l0 qa).f1) && (qh == ((rd_T41 l0 qa).f2) && (qg == ((rd_T41 l0 qa).f3) && (qf == ((rd_T41 l0 qa).f4) && (qe == ((rd_T41 l0 qa).f5) && (qd == ((rd_T41 l0 qa).f6)))))))) = true
   ·rw [if_pos c7] at H
    have vx : (qj == ((rd_T41 l0 qa).f0) && (qi == ((rd_T41 l0 qa).f1) && (qh == ((rd_T41 l0 qa).f2) && (qg == ((rd_T41 l0 qa).f3) && (qf == ((rd_T41 l0 qa).f4) && (qe == ((rd_T41 l0 qa).f5) && (qd == ((rd_T41 l0 qa).f6)))))))) = true:=c7
    (try (have vw : decide (qj = ((rd_T41 l0 qa).f0) && (qi == ((rd_T41 l0 qa).f1) && (qh == ((rd_T41 l0 qa).f2) && (qg == ((rd_T41 l0 qa).f3) && (qf == ((rd_T41 l0 qa).f4) && (qe == ((rd_T41 l0 qa).f5) && (qd == ((rd_T41 l0 qa).f6)))))))) = true:=by simpa using c7))
    (try (have vv : (qj == ((rd_T41 l0 qa).f0) && (qi == ((rd_T41 l0 qa).f1) && (qh == ((rd_T41 l0 qa).f2) && (qg == ((rd_T41 l0 qa).f3) && (qf == ((rd_T41 l0 qa).f4) && (qe == ((rd_T41 l0 qa).f5) && (qd == ((rd_T41 l0 qa).f6)))))))) = true:=by simpa using c7))
    clear c7
    obtain rfl:=Option.some.inj H
    have vu : wr.cell? ⟨qc,0,none⟩ = some (.int .i64 qj):=(blk_cell qb.out 0).trans rfl
    have vt : wr.cell? ⟨qc,1,none⟩ = some (.int .i64 qi):=(blk_cell qb.out 1).trans rfl
    have vr : wr.cell? ⟨qc,2,none⟩ = some (.int .i64 qh):=(blk_cell qb.out 2).trans rfl
    have vq : wr.cell? ⟨qc,3,none⟩ = some (.int .i64 qg):=(blk_cell qb.out 3).trans rfl
    have vp : wr.cell? ⟨qc,4,none⟩ = some (.int .i64 qf):=(blk_cell qb.out 4).trans rfl
    have vo : wr.cell? ⟨qc,5,none⟩ = some (.int .i64 qe):=(blk_cell qb.out 5).trans rfl
    have vn : wr.cell? ⟨qc,6,none⟩ = some (.int .i64 qd):=(blk_cell qb.out 6).trans rfl
    have wv:=blk_frozen qb.out 0
    have wu:=blk_frozen qb.out 1
    have wt:=blk_frozen qb.out 2
    have ws:=blk_frozen qb.out 3
    have wq:=blk_frozen qb.out 4
    have wo:=blk_frozen qb.out 5
    have wn:=blk_frozen qb.out 6
    have qu : 0 ≤ (qa : Int):=of_decide_eq_true (by first|(with_reducible assumption)|assumption)
    have qt : qa < (l0.length : Int):=of_decide_eq_true (by first|(with_reducible assumption)|assumption)
    obtain ⟨we,wd,qq,qp,qo,qn,qm,ql,qk⟩:=at_T41 HR0.out qa qu qt
    cases wd
    replace qq:=(HB.out.cell (World.block_lt_of_cell? w _ qq)).trans qq
    replace qp:=(HB.out.cell (World.block_lt_of_cell? w _ qp)).trans qp
    replace qo:=(HB.out.cell (World.block_lt_of_cell? w _ qo)).trans qo
    replace qn:=(HB.out.cell (World.block_lt_of_cell? w _ qn)).trans qn
    replace qm:=(HB.out.cell (World.block_lt_of_cell? w _ qm)).trans qm
    replace ql:=(HB.out.cell (World.block_lt_of_cell? w _ ql)).trans ql
    replace qk:=(HB.out.cell (World.block_lt_of_cell? w _ qk)).trans qk
    replace qu:=eq_true qu
    replace qt:=eq_true qt
    go_wp2
    repeat (go_quiet (fail);try go_wp2)
    go_ret
    exact ⟨by first|rfl|(simp [errW_none,errW_some] <;> rfl)|(simp [*,errW_none,errW_some] <;> rfl),by repeat (first|(with_reducible first|exact HB.out|apply below_alloc|apply pw_below_drewN|apply below_drew1|refine below_set ?_ qr.out)|exact HB.out)⟩
   ·rw [if_neg c7] at H
    have vx : (qj == ((rd_T41 l0 qa).f0) && (qi == ((rd_T41 l0 qa).f1) && (qh == ((rd_T41 l0 qa).f2) && (qg == ((rd_T41 l0 qa).f3) && (qf == ((rd_T41 l0 qa).f4) && (qe == ((rd_T41 l0 qa).f5) && (qd == ((rd_T41 l0 qa).f6)))))))) = false:=by simpa using c7
    (try (have vw : decide (qj = ((rd_T41 l0 qa).f0) && (qi == ((rd_T41 l0 qa).f1) && (qh == ((rd_T41 l0 qa).f2) && (qg == ((rd_T41 l0 qa).f3) && (qf == ((rd_T41 l0 qa).f4) && (qe == ((rd_T41 l0 qa).f5) && (qd == ((rd_T41 l0 qa).f6)))))))) = false:=by simpa using c7))
    (try (have vv : (qj == ((rd_T41 l0 qa).f0) && (qi == ((rd_T41 l0 qa).f1) && (qh == ((rd_T41 l0 qa).f2) && (qg == ((rd_T41 l0 qa).f3) && (qf == ((rd_T41 l0 qa).f4) && (qe == ((rd_T41 l0 qa).f5) && (qd == ((rd_T41 l0 qa).f6)))))))) = false:=by simpa using c7))
    (try (have ua : ¬ (qj = ((rd_T41 l0 qa).f0) && (qi == ((rd_T41 l0 qa).f1) && (qh == ((rd_T41 l0 qa).f2) && (qg == ((rd_T41 l0 qa).f3) && (qf == ((rd_T41 l0 qa).f4) && (qe == ((rd_T41 l0 qa).f5) && (qd == ((rd_T41 l0 qa).f6)))))))):=by simpa using c7))
    clear c7
    have H':=Aside0.mk H
    clear H
    have vm : wr.cell? ⟨qc,0,none⟩ = some (.int .i64 qj):=(blk_cell qb.out 0).trans rfl
    have vl : wr.cell? ⟨qc,1,none⟩ = some (.int .i64 qi):=(blk_cell qb.out 1).trans rfl
    have vk : wr.cell? ⟨qc,2,none⟩ = some (.int .i64 qh):=(blk_cell qb.out 2).trans rfl
    have wz : wr.cell? ⟨qc,3,none⟩ = some (.int .i64 qg):=(blk_cell qb.out 3).trans rfl
    have wy : wr.cell? ⟨qc,4,none⟩ = some (.int .i64 qf):=(blk_cell qb.out 4).trans rfl
    have wx : wr.cell? ⟨qc,5,none⟩ = some (.int .i64 qe):=(blk_cell qb.out 5).trans rfl
    have ww : wr.cell? ⟨qc,6,none⟩ = some (.int .i64 qd):=(blk_cell qb.out 6).trans rfl
    have wm:=blk_frozen qb.out 0
    have wl:=blk_frozen qb.out 1
    have wk:=blk_frozen qb.out 2
    have wj:=blk_frozen qb.out 3
    have wi:=blk_frozen qb.out 4
    have wh:=blk_frozen qb.out 5
    have wg:=blk_frozen qb.out 6
    have qu : 0 ≤ (qa : Int):=of_decide_eq_true (by first|(with_reducible assumption)|assumption)
    have qt : qa < (l0.length : Int):=of_decide_eq_true (by first|(with_reducible assumption)|assumption)
    obtain ⟨we,wd,qq,qp,qo,qn,qm,ql,qk⟩:=at_T41 HR0.out qa qu qt
    cases wd
    replace qq:=(HB.out.cell (World.block_lt_of_cell? w _ qq)).trans qq
    replace qp:=(HB.out.cell (World.block_lt_of_cell? w _ qp)).trans qp
    replace qo:=(HB.out.cell (World.block_lt_of_cell? w _ qo)).trans qo
    replace qn:=(HB.out.cell (World.block_lt_of_cell? w _ qn)).trans qn
    replace qm:=(HB.out.cell (World.block_lt_of_cell? w _ qm)).trans qm
    replace ql:=(HB.out.cell (World.block_lt_of_cell? w _ ql)).trans ql
    replace qk:=(HB.out.cell (World.block_lt_of_cell? w _ qk)).trans qk
    replace qu:=eq_true qu
    replace qt:=eq_true qt
    go_wp2
    repeat (go_quiet (fail);try go_wp2)
    go_roundg k1
    case measure=>have:=HK1.out;omega
    case rel=>exact ⟨(wrap64 (qa + 1)),(by first|rfl|(simp;done)|(simp [*];done)),H',⟨by have:=HK1.out;omega⟩,⟨by (with_reducible repeat (first|refine blk_drewN ?_ _|refine blk_drew ?_|refine blk_alloc ?_ _));exact qb.out⟩,⟨by repeat (first|(with_reducible first|exact HB.out|apply below_alloc|apply pw_below_drewN|apply below_drew1|refine below_set ?_ qr.out)|exact HB.out)⟩⟩

end Go.Proofs.Ytbipicjijbnbbaa.Hp
