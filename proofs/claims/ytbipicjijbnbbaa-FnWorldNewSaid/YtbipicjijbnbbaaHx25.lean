-- hp.py
import Derived.Test.YtbipicjijbnbbaaHx0
import Derived.Test.YtbipicjijbnbbaaHx4
namespace Go.Proofs.Ytbipicjijbnbbaa.Hp
open Go.RowKit Go.Proofs.YtbipicjijbnbbaaW.PrintWords Go.Proofs.YtbipicjijbnbbaaW.PrintLast Go.Proofs.YtbipicjijbnbbaaW.PrintMore
attribute [local go_sem] max2_int min2_int max_two min_two max_three min_three max_four min_four   -- for this text's walks alone
set_option linter.unusedVariables false
set_option linter.unusedSimpArgs false

attribute [local go_sem high] eqA113
-- squeezed by wip/tools/squeeze.py
theorem z25x1 {P : Prop} (h : P:=by repeat (first|(with_reducible first|exact HB.out|apply below_alloc|apply pw_below_drewN|apply below_drew1)|exact HB.out)) : P:=h
theorem z25x0 {P : Prop} (h : P:=by rw [hg];exact (below_size (by repeat (first|(with_reducible first|exact HB.out|apply below_alloc|apply pw_below_drewN|apply below_drew1)|exact HB.out)))) : P:=h
/-! ### impl_Call_139: function 139 -/
def impl_Call_139.l0 : Nat → List (S113) → Int → Int → Int → Int → Int → Int → Option (Int)
 | 0,_,_,_,_,_,_,_=>none
 | k + 1,x0,x7,x8,qr,qq,qp,qo=>if x8 < x7 then (if 0 ≤ x8 then (if x8 < (x0.length : Int) then (if (qr == ((rd_T113 x0 x8).f0) && (qq == ((rd_T113 x0 x8).f1) && (qp == ((rd_T113 x0 x8).f2) && (qo == ((rd_T113 x0 x8).f3))))) = true then (some x8) else (impl_Call_139.l0 k x0 x7 (wrap64 (x8 + 1)) qr qq qp qo)) else (none)) else (none)) else (some (-1))
def impl_Call_139.f (k : Nat) (l0 : List (S113)) (qg : Int) (qf : Int) (qe : Int) (qd : Int) : Option (Int):=impl_Call_139.l0 k l0 (l0.length : Int) 0 qg qf qe qd
theorem impl_Call_139.mono_l : ∀ k,(∀ y0 y1 y2 y3 y4 y5 y6,LeO (impl_Call_139.l0 k y0 y1 y2 y3 y4 y5 y6) (impl_Call_139.l0 (k + 1) y0 y1 y2 y3 y4 y5 y6))
 | 0=>fun _ _ _ _ _ _ _ r h=>by simp [impl_Call_139.l0] at h
 | k + 1=>by
  have ih0:=impl_Call_139.mono_l k
  ·intro y0 y1 y2 y3 y4 y5 y6
   unfold impl_Call_139.l0
   repeat' first
   | (with_reducible exact ih0 _ _ _ _ _ _ _)
   | (with_reducible exact LeO.refl _)
   | (with_reducible exact LeO.none _)
   | (with_reducible refine LeO.ite ?_ ?_)
   | (with_reducible refine LeO.bind ?_ (fun _=>?_))
   | exact ih0 _ _ _ _ _ _ _
   | exact LeO.none _
   | refine LeO.ite ?_ ?_
   | refine LeO.bind ?_ (fun _=>?_)
theorem impl_Call_139.mono : ∀ a0 a1 a2 a3 a4 k,LeO (impl_Call_139.f k a0 a1 a2 a3 a4) (impl_Call_139.f (k + 1) a0 a1 a2 a3 a4):=by
 intro a0 a1 a2 a3 a4 k
 have ih0:=impl_Call_139.mono_l k
 unfold impl_Call_139.f
 repeat' first
   | (with_reducible exact ih0 _ _ _ _ _ _ _)
   | (with_reducible exact LeO.refl _)
   | (with_reducible exact LeO.none _)
   | (with_reducible refine LeO.ite ?_ ?_)
   | (with_reducible refine LeO.bind ?_ (fun _=>?_))
   | exact ih0 _ _ _ _ _ _ _
   | exact LeO.none _
   | refine LeO.ite ?_ ?_
   | refine LeO.bind ?_ (fun _=>?_)
set_option maxHeartbeats 8000000 in
set_option maxRecDepth 100000 in
theorem impl_Call_139.calls (k : Nat) (A0 : Option Addr) (c0 : Nat) (l0 : List (S113)) (qg : Int) (qf : Int) (qe : Int) (qd : Int) (r : Int) (w : World) (hr0 : Kd.C k113 w A0 l0.length l0) (hc0 : l0.length ≤ c0) (h : impl_Call_139.f k l0 qg qf qe qd = some r) :
  Calls Try.prog 139 #[.slice A0 l0.length c0,.agg #[.int .i64 qg,.int .i64 qf,.int .i64 qe,.int .i64 qd]] w fun e w' => e = .returned (.int .i64 r) ∧ Below w.heap.size w w':=by
 have wt:=Try.underlying113
 have HR0:=Aside0.mk hr0
 have HC0:=Aside0.mk hc0
 clear hr0 hc0
 have HB:=Aside0.mk (Below.refl w.heap.size w)
 have H : (impl_Call_139.l0 k l0 (l0.length : Int) 0 qg qf qe qd) = some r:=h
 clear h
 have H':=Aside0.mk H
 clear H
 go_enter Try.func139,Try.ntmps139
 go_wp2_with (first|((with_reducible refine gate_dst (N:=3) rfl ?_);refine box_event ?hg (N:=3) ?hd (cs:=#[.int .i64 qg,.int .i64 qf,.int .i64 qe,.int .i64 qd]) (t:=113) ?hr ?_;(case hd=>rfl);(case hg=>rfl);(case hr=>first|(go_simp;done)|(go_simp;rfl));intro qc hg w3 hbox hb;have n0_:=Aside0.mk (below_step z25x1 hb);have n1_:=Aside0.mk (hbox);have n2_:=Aside0.mk ((z25x0 : w.heap.size ≤ qc));have n3_:=Aside0.mk ((z25x0 : w.heap.size ≤ qc));clear HB;have HB:=n0_;have qb:=n1_;have qt:=n2_;have ql:=n3_;clear n0_ n1_ n2_ n3_;clear hb hbox hg))
 repeat (go_quiet (first|((with_reducible refine gate_dst (N:=3) rfl ?_);refine box_event ?hg (N:=3) ?hd (cs:=#[.int .i64 qg,.int .i64 qf,.int .i64 qe,.int .i64 qd]) (t:=113) ?hr ?_;(case hd=>rfl);(case hg=>rfl);(case hr=>first|(go_simp;done)|(go_simp;rfl));intro qc hg w3 hbox hb;have n0_:=Aside0.mk (below_step z25x1 hb);have n1_:=Aside0.mk (hbox);have n2_:=Aside0.mk ((z25x0 : w.heap.size ≤ qc));have n3_:=Aside0.mk ((z25x0 : w.heap.size ≤ qc));clear HB;have HB:=n0_;have qb:=n1_;have qt:=n2_;have ql:=n3_;clear n0_ n1_ n2_ n3_;clear hb hbox hg));try go_wp2_with (first|((with_reducible refine gate_dst (N:=3) rfl ?_);refine box_event ?hg (N:=3) ?hd (cs:=#[.int .i64 qg,.int .i64 qf,.int .i64 qe,.int .i64 qd]) (t:=113) ?hr ?_;(case hd=>rfl);(case hg=>rfl);(case hr=>first|(go_simp;done)|(go_simp;rfl));intro qc hg w3 hbox hb;have n0_:=Aside0.mk (below_step z25x1 hb);have n1_:=Aside0.mk (hbox);have n2_:=Aside0.mk ((z25x0 : w.heap.size ≤ qc));have n3_:=Aside0.mk ((z25x0 : w.heap.size ≤ qc));clear HB;have HB:=n0_;have qb:=n1_;have qt:=n2_;have ql:=n3_;clear n0_ n1_ n2_ n3_;clear hb hbox hg)))
 go_loopg [8] k (fun kq v8 w' => ∃ (qa : Int),v8 = .int .i64 qa ∧ Aside0 (impl_Call_139.l0 kq l0 (l0.length : Int) qa qg qf qe qd = some r) ∧ Aside0 (kq ≤ k) ∧ Aside0 (w'.heap[qc]? = some (.cells #[.int .i64 qg,.int .i64 qf,.int .i64 qe,.int .i64 qd] 113 (0,0))) ∧ Aside0 (Below w.heap.size w w'))
 case atStart=>exact ⟨(0),(by first|rfl|(simp;done)|(simp [*];done)),H',⟨Nat.le_refl _⟩,⟨by (with_reducible repeat (first|refine blk_drewN ?_ _|refine blk_drew ?_|refine blk_alloc ?_ _));exact qb.out⟩,⟨by repeat (first|(with_reducible first|exact HB.out|apply below_alloc|apply pw_below_drewN|apply below_drew1|refine below_set ?_ ql.out)|exact HB.out)⟩⟩
 case round =>
  clear H'
  try clear c1
  try clear p2
  obtain ⟨qa,rfl,HA,HK1,qb,HB⟩:=hrel
  cases gk with
  | zero=>exact absurd HA.out (by simp [impl_Call_139.l0])
  | succ k1 =>
   have H:=HA.out
   clear HA
   simp only [impl_Call_139.l0] at H
   by_cases c4 : qa < (l0.length : Int)
   rotate_left
   ·rw [if_neg c4] at H
    have ws : decide (qa < (l0.length : Int)) = false:=decide_eq_false c4
    clear c4
    obtain rfl:=Option.some.inj H
    go_wp2
    repeat (go_quiet (fail);try go_wp2)
    go_ret
    exact ⟨by first|rfl|(simp [errW_none,errW_some] <;> rfl)|(simp [*,errW_none,errW_some] <;> rfl),by repeat (first|(with_reducible first|exact HB.out|apply below_alloc|apply pw_below_drewN|apply below_drew1|refine below_set ?_ ql.out)|exact HB.out)⟩
   rw [if_pos c4] at H
   have ws : decide (qa < (l0.length : Int)) = true:=decide_eq_true c4
   clear c4
   by_cases c5 : 0 ≤ qa
   rotate_left
   ·rw [if_neg c5] at H
    exact absurd H (by simp)
   rw [if_pos c5] at H
   have ww : decide (0 ≤ qa) = true:=decide_eq_true c5
   clear c5
   by_cases c6 : qa < (l0.length : Int)
   rotate_left
   ·rw [if_neg c6] at H
    exact absurd H (by simp)
   rw [if_pos c6] at H
   have wv : decide (qa < (l0.length : Int)) = true:=decide_eq_true c6
   clear c6
   by_cases c7 : (qg == ((rd_T113 l0 qa).f0) && (qf == ((rd_T113 l0 qa).f1) && (qe == ((rd_T113 l0 qa).f2) && (qd == ((rd_T113 l0 qa).f3))))) = true
   ·rw [if_pos c7] at H
    have wq : (qg == ((rd_T113 l0 qa).f0) && (qf == ((rd_T113 l0 qa).f1) && (qe == ((rd_T113 l0 qa).f2) && (qd == ((rd_T113 l0 qa).f3))))) = true:=c7
    (try (have wo : decide (qg = ((rd_T113 l0 qa).f0) && (qf == ((rd_T113 l0 qa).f1) && (qe == ((rd_T113 l0 qa).f2) && (qd == ((rd_T113 l0 qa).f3))))) = true:=by simpa using c7))
    (try (have wn : (qg == ((rd_T113 l0 qa).f0) && (qf == ((rd_T113 l0 qa).f1) && (qe == ((rd_T113 l0 qa).f2) && (qd == ((rd_T113 l0 qa).f3))))) = true:=by simpa using c7))
    clear c7
    obtain rfl:=Option.some.inj H
    have wm : wr.cell? ⟨qc,0,none⟩ = some (.int .i64 qg):=(blk_cell qb.out 0).trans rfl
    have wl : wr.cell? ⟨qc,1,none⟩ = some (.int .i64 qf):=(blk_cell qb.out 1).trans rfl
    have wk : wr.cell? ⟨qc,2,none⟩ = some (.int .i64 qe):=(blk_cell qb.out 2).trans rfl
    have wj : wr.cell? ⟨qc,3,none⟩ = some (.int .i64 qd):=(blk_cell qb.out 3).trans rfl
    have wd:=blk_frozen qb.out 0
    have wc:=blk_frozen qb.out 1
    have wb:=blk_frozen qb.out 2
    have wa:=blk_frozen qb.out 3
    have qn : 0 ≤ (qa : Int):=of_decide_eq_true (by first|(with_reducible assumption)|assumption)
    have qm : qa < (l0.length : Int):=of_decide_eq_true (by first|(with_reducible assumption)|assumption)
    obtain ⟨qv,qu,qk,qj,qi,qh⟩:=at_T113 HR0.out qa qn qm
    cases qu
    replace qk:=(HB.out.cell (World.block_lt_of_cell? w _ qk)).trans qk
    replace qj:=(HB.out.cell (World.block_lt_of_cell? w _ qj)).trans qj
    replace qi:=(HB.out.cell (World.block_lt_of_cell? w _ qi)).trans qi
    replace qh:=(HB.out.cell (World.block_lt_of_cell? w _ qh)).trans qh
    replace qn:=eq_true qn
    replace qm:=eq_true qm
    go_wp2
    repeat (go_quiet (fail);try go_wp2)
    go_ret
    exact ⟨by first|rfl|(simp [errW_none,errW_some] <;> rfl)|(simp [*,errW_none,errW_some] <;> rfl),by repeat (first|(with_reducible first|exact HB.out|apply below_alloc|apply pw_below_drewN|apply below_drew1|refine below_set ?_ ql.out)|exact HB.out)⟩
   ·rw [if_neg c7] at H
    have wq : (qg == ((rd_T113 l0 qa).f0) && (qf == ((rd_T113 l0 qa).f1) && (qe == ((rd_T113 l0 qa).f2) && (qd == ((rd_T113 l0 qa).f3))))) = false:=by simpa using c7
    (try (have wo : decide (qg = ((rd_T113 l0 qa).f0) && (qf == ((rd_T113 l0 qa).f1) && (qe == ((rd_T113 l0 qa).f2) && (qd == ((rd_T113 l0 qa).f3))))) = false:=by simpa using c7))
    (try (have wn : (qg == ((rd_T113 l0 qa).f0) && (qf == ((rd_T113 l0 qa).f1) && (qe == ((rd_T113 l0 qa).f2) && (qd == ((rd_T113 l0 qa).f3))))) = false:=by simpa using c7))
    (try (have wu : ¬ (qg = ((rd_T113 l0 qa).f0) && (qf == ((rd_T113 l0 qa).f1) && (qe == ((rd_T113 l0 qa).f2) && (qd == ((rd_T113 l0 qa).f3))))):=by simpa using c7))
    clear c7
    have H':=Aside0.mk H
    clear H
    have wi : wr.cell? ⟨qc,0,none⟩ = some (.int .i64 qg):=(blk_cell qb.out 0).trans rfl
    have wh : wr.cell? ⟨qc,1,none⟩ = some (.int .i64 qf):=(blk_cell qb.out 1).trans rfl
    have wg : wr.cell? ⟨qc,2,none⟩ = some (.int .i64 qe):=(blk_cell qb.out 2).trans rfl
    have we : wr.cell? ⟨qc,3,none⟩ = some (.int .i64 qd):=(blk_cell qb.out 3).trans rfl
    have qz:=blk_frozen qb.out 0
    have qy:=blk_frozen qb.out 1
    have qx:=blk_frozen qb.out 2
    have qw:=blk_frozen qb.out 3
    have qn : 0 ≤ (qa : Int):=of_decide_eq_true (by first|(with_reducible assumption)|assumption)
    have qm : qa < (l0.length : Int):=of_decide_eq_true (by first|(with_reducible assumption)|assumption)
    obtain ⟨qv,qu,qk,qj,qi,qh⟩:=at_T113 HR0.out qa qn qm
    cases qu
    replace qk:=(HB.out.cell (World.block_lt_of_cell? w _ qk)).trans qk
    replace qj:=(HB.out.cell (World.block_lt_of_cell? w _ qj)).trans qj
    replace qi:=(HB.out.cell (World.block_lt_of_cell? w _ qi)).trans qi
    replace qh:=(HB.out.cell (World.block_lt_of_cell? w _ qh)).trans qh
    replace qn:=eq_true qn
    replace qm:=eq_true qm
    go_wp2
    repeat (go_quiet (fail);try go_wp2)
    go_roundg k1
    case measure=>have:=HK1.out;omega
    case rel=>exact ⟨(wrap64 (qa + 1)),(by first|rfl|(simp;done)|(simp [*];done)),H',⟨by have:=HK1.out;omega⟩,⟨by (with_reducible repeat (first|refine blk_drewN ?_ _|refine blk_drew ?_|refine blk_alloc ?_ _));exact qb.out⟩,⟨by repeat (first|(with_reducible first|exact HB.out|apply below_alloc|apply pw_below_drewN|apply below_drew1|refine below_set ?_ ql.out)|exact HB.out)⟩⟩

end Go.Proofs.Ytbipicjijbnbbaa.Hp
