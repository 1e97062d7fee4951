-- hp.py
import Derived.Test.YtbipicjijbnbbaaHx0
import Derived.Test.YtbipicjijbnbbaaHx28
import Derived.Test.YtbipicjijbnbbaaHx30
namespace Go.Proofs.Ytbipicjijbnbbaa.Hp
open Go.RowKit Go.Proofs.YtbipicjijbnbbaaW.PrintWords Go.Proofs.YtbipicjijbnbbaaW.PrintLast Go.Proofs.YtbipicjijbnbbaaW.PrintMore
attribute [local go_sem] max2_int min2_int max_two min_two max_three min_three max_four min_four   -- for this text's walks alone
set_option linter.unusedVariables false
set_option linter.unusedSimpArgs false
theorem z31a {P : Prop} (h : P:=by simp only [Act.put,List.setIfInBounds_toArray,List.set_cons_zero,List.set_cons_succ,i64_w,i32_w];rfl) : P:=h
-- squeezed by wip/tools/squeeze.py
theorem z31x4 {P : Prop} (h : P:=by (with_reducible repeat (first|refine blk_drewN ?_ _|refine blk_drew ?_|refine blk_alloc ?_ _));exact qb.out) : P:=h
theorem z31x3 {P : Prop} (h : P:=by repeat (first|(with_reducible first|exact HB.out|apply below_alloc|apply pw_below_drewN|apply below_drew1)|exact HB.out)) : P:=h
theorem z31x2 {P : Prop} (h : P:=by (try simp only [List.map_toArray,List.map_cons,List.map_nil]);first|done|rfl|(simp only [List.length_drop,List.length_take];rfl)) : P:=h
theorem z31x1 {P : Prop} (h : P:=by rw [hg];exact (below_size (by repeat (first|(with_reducible first|exact HB.out|apply below_alloc|apply pw_below_drewN|apply below_drew1)|exact HB.out)))) : P:=h
theorem z31x0 {P : Prop} (h : P:=by repeat (first|(with_reducible first|exact HB.out|apply below_alloc|apply pw_below_drewN|apply below_drew1|refine below_set ?_ qk.out)|exact HB.out)) : P:=h

/-! ### impl_cacheOk: function 95 -/
def impl_cacheOk.l0 : Nat → List (S41) → List (S41) → Int → Int → Option (Bool)
 | 0,_,_,_,_=>none
 | k + 1,x0,x5,x6,x7=>if x7 < x6 then (if 0 ≤ x7 then (if x7 < (x5.length : Int) then ((impl_authOk.f ((rd_T41 x5 x7).f0) ((rd_T41 x5 x7).f1) ((rd_T41 x5 x7).f2) ((rd_T41 x5 x7).f3) ((rd_T41 x5 x7).f4) ((rd_T41 x5 x7).f5) ((rd_T41 x5 x7).f6)).bind fun qw=>(if qw = true then (if x7 ≤ (x0.length : Int) then ((impl_Seal_146.f k (x0.take (x7 : Int).toNat) ((rd_T41 x5 x7).f0) ((rd_T41 x5 x7).f1) ((rd_T41 x5 x7).f2) ((rd_T41 x5 x7).f3) ((rd_T41 x5 x7).f4) ((rd_T41 x5 x7).f5) ((rd_T41 x5 x7).f6)).bind fun qp=>(if qp = true then (some false) else (impl_cacheOk.l0 k x0 x5 x6 (wrap64 (x7 + 1))))) else (none)) else (some false))) else (none)) else (none)) else (some (decide ((x0.length : Int) ≤ 20)))
def impl_cacheOk.f (k : Nat) (l0 : List (S41)) : Option (Bool):=impl_cacheOk.l0 k l0 l0 (l0.length : Int) 0
theorem impl_cacheOk.mono_l : ∀ k,(∀ y0 y1 y2 y3,LeO (impl_cacheOk.l0 k y0 y1 y2 y3) (impl_cacheOk.l0 (k + 1) y0 y1 y2 y3))
 | 0=>fun _ _ _ _ r h=>by simp [impl_cacheOk.l0] at h
 | k + 1=>by
  have ih0:=impl_cacheOk.mono_l k
  ·intro y0 y1 y2 y3
   unfold impl_cacheOk.l0
   repeat' first
   | (with_reducible exact ih0 _ _ _ _)
   | (with_reducible exact impl_Seal_146.mono _ _ _ _ _ _ _ _ _)
   | (with_reducible exact LeO.refl _)
   | (with_reducible exact LeO.none _)
   | (with_reducible refine LeO.ite ?_ ?_)
   | (with_reducible refine LeO.bind ?_ (fun _=>?_))
   | exact ih0 _ _ _ _
   | exact impl_Seal_146.mono _ _ _ _ _ _ _ _ _
   | exact LeO.none _
   | refine LeO.ite ?_ ?_
   | refine LeO.bind ?_ (fun _=>?_)
theorem impl_cacheOk.mono : ∀ a0 k,LeO (impl_cacheOk.f k a0) (impl_cacheOk.f (k + 1) a0):=by
 intro a0 k
 have ih0:=impl_cacheOk.mono_l k
 unfold impl_cacheOk.f
 repeat' first
   | (with_reducible exact ih0 _ _ _ _)
   | (with_reducible exact impl_Seal_146.mono _ _ _ _ _ _ _ _ _)
   | (with_reducible exact LeO.refl _)
   | (with_reducible exact LeO.none _)
   | (with_reducible refine LeO.ite ?_ ?_)
   | (with_reducible refine LeO.bind ?_ (fun _=>?_))
   | exact ih0 _ _ _ _
   | exact impl_Seal_146.mono _ _ _ _ _ _ _ _ _
   | exact LeO.none _
   | refine LeO.ite ?_ ?_
   | refine LeO.bind ?_ (fun _=>?_)
def impl_cacheOk.T4 : Bool × List (List Nat × List Nat):=(true,[([],[]),([0],[0]),([1],[1]),([2,1],[2]),([3],[3]),([3],[3]),([4,5,3],[3,4,5]),([3],[3]),([6,7,3,3],[3,6,7]),([3,8],[3,8])])
def impl_cacheOk.B4 : List Nat:=[0,1,3,7,15,15,63,15,255,511]
theorem impl_cacheOk.tab4 : rtab .any (opsOf Try.f95 4) = impl_cacheOk.T4:=by kernel_rfl
theorem impl_cacheOk.bits4 : waitsOk impl_cacheOk.T4.2 impl_cacheOk.B4 = true:=by kernel_rfl
set_option maxHeartbeats 8000000 in
set_option maxRecDepth 100000 in
theorem impl_cacheOk.calls (k : Nat) (A0 : Option Addr) (c0 : Nat) (l0 : List (S41)) (r : Bool) (w : World) (hr0 : Kd.C k41 w A0 l0.length l0) (hc0 : l0.length ≤ c0) (h : impl_cacheOk.f k l0 = some r) :
  Calls Try.prog 95 #[.slice A0 l0.length c0] w fun e w' => e = .returned (.bool r) ∧ Below w.heap.size w w':=by
 have ur:=Try.underlying41
 have HR0:=Aside0.mk hr0
 have HC0:=Aside0.mk hc0
 clear hr0 hc0
 have HB:=Aside0.mk (Below.refl w.heap.size w)
 have H : (impl_cacheOk.l0 k l0 l0 (l0.length : Int) 0) = some r:=h
 clear h
 have H':=Aside0.mk H
 clear H
 go_enter Try.func95,Try.ntmps95
 go_wp2
 go_loopg [7] k (fun kq v7 w' => ∃ (qa : Int),v7 = .int .i64 qa ∧ Aside0 (impl_cacheOk.l0 kq l0 l0 (l0.length : Int) qa = some r) ∧ Aside0 (kq ≤ k) ∧ Aside0 (Below w.heap.size w w'))
 case atStart=>exact ⟨(0),(by first|rfl|(simp;done)|(simp [*];done)),H',⟨Nat.le_refl _⟩,⟨by repeat (first|(with_reducible first|exact HB.out|apply below_alloc|apply pw_below_drewN|apply below_drew1)|exact HB.out)⟩⟩
 case round =>
  clear H'
  obtain ⟨qa,rfl,HA,HK1,HB⟩:=hrel
  cases gk with
  | zero=>exact absurd HA.out (by simp [impl_cacheOk.l0])
  | succ k1 =>
   have H:=HA.out
   clear HA
   simp only [impl_cacheOk.l0] at H
   by_cases c2 : qa < (l0.length : Int)
   rotate_left
   ·rw [if_neg c2] at H
    have un : decide (qa < (l0.length : Int)) = false:=decide_eq_false c2
    clear c2
    obtain rfl:=Option.some.inj H
    go_wp2
    go_ret
    exact ⟨by first|rfl|(simp [errW_none,errW_some] <;> rfl)|(simp [*,errW_none,errW_some] <;> rfl),by repeat (first|(with_reducible first|exact HB.out|apply below_alloc|apply pw_below_drewN|apply below_drew1)|exact HB.out)⟩
   rw [if_pos c2] at H
   have un : decide (qa < (l0.length : Int)) = true:=decide_eq_true c2
   clear c2
   by_cases c3 : 0 ≤ qa
   rotate_left
   ·rw [if_neg c3] at H
    exact absurd H (by simp)
   rw [if_pos c3] at H
   have uw : decide (0 ≤ qa) = true:=decide_eq_true c3
   clear c3
   by_cases c4 : qa < (l0.length : Int)
   rotate_left
   ·rw [if_neg c4] at H
    exact absurd H (by simp)
   rw [if_pos c4] at H
   have uv : decide (qa < (l0.length : Int)) = true:=decide_eq_true c4
   clear c4
   replace H:=Option.bind_eq_some_iff.mp H
   obtain ⟨qw,A50,H⟩:=H
   replace H : (if qw = true then (if qa ≤ (l0.length : Int) then ((impl_Seal_146.f k1 (l0.take (qa : Int).toNat) ((rd_T41 l0 qa).f0) ((rd_T41 l0 qa).f1) ((rd_T41 l0 qa).f2) ((rd_T41 l0 qa).f3) ((rd_T41 l0 qa).f4) ((rd_T41 l0 qa).f5) ((rd_T41 l0 qa).f6)).bind fun qp=>(if qp = true then (some false) else (impl_cacheOk.l0 k1 l0 l0 (l0.length : Int) (wrap64 (qa + 1))))) else (none)) else (some false)) = some r:=H
   have A5:=Aside0.mk A50
   clear A50
   by_cases c6 : qw = true
   rotate_left
   ·replace c6:=Bool.eq_false_iff.mpr c6
    subst c6
    rw [if_neg (show ¬ (false = true) by decide)] at H
    obtain rfl:=Option.some.inj H
    have qn : 0 ≤ (qa : Int):=of_decide_eq_true (by first|(with_reducible assumption)|assumption)
    have qm : qa < (l0.length : Int):=of_decide_eq_true (by first|(with_reducible assumption)|assumption)
    obtain ⟨ql,qt,qj,qi,qh,qg,qf,qe,qd⟩:=at_T41 HR0.out qa qn qm
    cases qt
    replace qj:=(HB.out.cell (World.block_lt_of_cell? w _ qj)).trans qj
    replace qi:=(HB.out.cell (World.block_lt_of_cell? w _ qi)).trans qi
    replace qh:=(HB.out.cell (World.block_lt_of_cell? w _ qh)).trans qh
    replace qg:=(HB.out.cell (World.block_lt_of_cell? w _ qg)).trans qg
    replace qf:=(HB.out.cell (World.block_lt_of_cell? w _ qf)).trans qf
    replace qe:=(HB.out.cell (World.block_lt_of_cell? w _ qe)).trans qe
    replace qd:=(HB.out.cell (World.block_lt_of_cell? w _ qd)).trans qd
    replace qn:=eq_true qn
    replace qm:=eq_true qm
    try go_wp2_with (first|((with_reducible refine gate_dst (N:=4) rfl ?_);refine box_event ?hg (N:=4) ?hd (cs:=#[.int .i64 0,.int .i64 0,.int .i64 0,.int .i64 0,.int .i64 0,.int .i64 0,.int .i64 0]) (t:=41) ?hr ?_;(case hd=>rfl);(case hg=>rfl);(case hr=>first|(go_simp;done)|(go_simp;rfl));intro qc hg w25 hbox hb;have n0_:=Aside0.mk (below_step z31x3 hb);have n1_:=Aside0.mk (hbox);have n2_:=Aside0.mk ((z31x1 : w.heap.size ≤ qc));have n3_:=Aside0.mk ((z31x1 : w.heap.size ≤ qc));clear HB;have HB:=n0_;have qb:=n1_;have qz:=n2_;have qk:=n3_;clear n0_ n1_ n2_ n3_;clear hb hbox hg;have vy : w25.cell? ⟨qc,0,none⟩ = some (.int .i64 0):=(blk_cell qb.out 0).trans rfl;have vx : w25.cell? ⟨qc,1,none⟩ = some (.int .i64 0):=(blk_cell qb.out 1).trans rfl;have vw : w25.cell? ⟨qc,2,none⟩ = some (.int .i64 0):=(blk_cell qb.out 2).trans rfl;have vv : w25.cell? ⟨qc,3,none⟩ = some (.int .i64 0):=(blk_cell qb.out 3).trans rfl;have vu : w25.cell? ⟨qc,4,none⟩ = some (.int .i64 0):=(blk_cell qb.out 4).trans rfl;have vt : w25.cell? ⟨qc,5,none⟩ = some (.int .i64 0):=(blk_cell qb.out 5).trans rfl;have vr : w25.cell? ⟨qc,6,none⟩ = some (.int .i64 0):=(blk_cell qb.out 6).trans rfl;have ws:=blk_frozen qb.out 0;have wr:=blk_frozen qb.out 1;have wq:=blk_frozen qb.out 2;have wo:=blk_frozen qb.out 3;have wn:=blk_frozen qb.out 4;have wm:=blk_frozen qb.out 5;have wl:=blk_frozen qb.out 6))
    have n0_ : Aside0 ((((((((w25.setCell ⟨qc,0,none⟩ (.int .i64 ((rd_T41 l0 qa).f0))).setCell ⟨qc,1,none⟩ (.int .i64 ((rd_T41 l0 qa).f1))).setCell ⟨qc,2,none⟩ (.int .i64 ((rd_T41 l0 qa).f2))).setCell ⟨qc,3,none⟩ (.int .i64 ((rd_T41 l0 qa).f3))).setCell ⟨qc,4,none⟩ (.int .i64 ((rd_T41 l0 qa).f4))).setCell ⟨qc,5,none⟩ (.int .i64 ((rd_T41 l0 qa).f5))).setCell ⟨qc,6,none⟩ (.int .i64 ((rd_T41 l0 qa).f6))).heap[qc]? = some (.cells #[.int .i64 ((rd_T41 l0 qa).f0),.int .i64 ((rd_T41 l0 qa).f1),.int .i64 ((rd_T41 l0 qa).f2),.int .i64 ((rd_T41 l0 qa).f3),.int .i64 ((rd_T41 l0 qa).f4),.int .i64 ((rd_T41 l0 qa).f5),.int .i64 ((rd_T41 l0 qa).f6)] 41 (0,0))):=⟨by (with_reducible repeat (first|refine blk_drewN ?_ _|refine blk_drew ?_|refine blk_alloc ?_ _));refine blk_put (cs:=#[.int .i64 ((rd_T41 l0 qa).f0),.int .i64 ((rd_T41 l0 qa).f1),.int .i64 ((rd_T41 l0 qa).f2),.int .i64 ((rd_T41 l0 qa).f3),.int .i64 ((rd_T41 l0 qa).f4),.int .i64 ((rd_T41 l0 qa).f5),.int .i64 0]) ?_ 6 _ rfl;(with_reducible repeat (first|refine blk_drewN ?_ _|refine blk_drew ?_|refine blk_alloc ?_ _));refine blk_put (cs:=#[.int .i64 ((rd_T41 l0 qa).f0),.int .i64 ((rd_T41 l0 qa).f1),.int .i64 ((rd_T41 l0 qa).f2),.int .i64 ((rd_T41 l0 qa).f3),.int .i64 ((rd_T41 l0 qa).f4),.int .i64 0,.int .i64 0]) ?_ 5 _ rfl;(with_reducible repeat (first|refine blk_drewN ?_ _|refine blk_drew ?_|refine blk_alloc ?_ _));refine blk_put (cs:=#[.int .i64 ((rd_T41 l0 qa).f0),.int .i64 ((rd_T41 l0 qa).f1),.int .i64 ((rd_T41 l0 qa).f2),.int .i64 ((rd_T41 l0 qa).f3),.int .i64 0,.int .i64 0,.int .i64 0]) ?_ 4 _ rfl;(with_reducible repeat (first|refine blk_drewN ?_ _|refine blk_drew ?_|refine blk_alloc ?_ _));refine blk_put (cs:=#[.int .i64 ((rd_T41 l0 qa).f0),.int .i64 ((rd_T41 l0 qa).f1),.int .i64 ((rd_T41 l0 qa).f2),.int .i64 0,.int .i64 0,.int .i64 0,.int .i64 0]) ?_ 3 _ rfl;(with_reducible repeat (first|refine blk_drewN ?_ _|refine blk_drew ?_|refine blk_alloc ?_ _));refine blk_put (cs:=#[.int .i64 ((rd_T41 l0 qa).f0),.int .i64 ((rd_T41 l0 qa).f1),.int .i64 0,.int .i64 0,.int .i64 0,.int .i64 0,.int .i64 0]) ?_ 2 _ rfl;(with_reducible repeat (first|refine blk_drewN ?_ _|refine blk_drew ?_|refine blk_alloc ?_ _));refine blk_put (cs:=#[.int .i64 ((rd_T41 l0 qa).f0),.int .i64 0,.int .i64 0,.int .i64 0,.int .i64 0,.int .i64 0,.int .i64 0]) ?_ 1 _ rfl;(with_reducible repeat (first|refine blk_drewN ?_ _|refine blk_drew ?_|refine blk_alloc ?_ _));refine blk_put (cs:=#[.int .i64 0,.int .i64 0,.int .i64 0,.int .i64 0,.int .i64 0,.int .i64 0,.int .i64 0]) ?_ 0 _ rfl;(with_reducible repeat (first|refine blk_drewN ?_ _|refine blk_drew ?_|refine blk_alloc ?_ _));exact qb.out⟩
    have n1_ : Aside0 (Below w.heap.size w (((((((w25.setCell ⟨qc,0,none⟩ (.int .i64 ((rd_T41 l0 qa).f0))).setCell ⟨qc,1,none⟩ (.int .i64 ((rd_T41 l0 qa).f1))).setCell ⟨qc,2,none⟩ (.int .i64 ((rd_T41 l0 qa).f2))).setCell ⟨qc,3,none⟩ (.int .i64 ((rd_T41 l0 qa).f3))).setCell ⟨qc,4,none⟩ (.int .i64 ((rd_T41 l0 qa).f4))).setCell ⟨qc,5,none⟩ (.int .i64 ((rd_T41 l0 qa).f5))).setCell ⟨qc,6,none⟩ (.int .i64 ((rd_T41 l0 qa).f6)))):=⟨by repeat (first|(with_reducible first|exact HB.out|apply below_alloc|apply pw_below_drewN|apply below_drew1|refine below_set ?_ qk.out)|exact HB.out)⟩
    (try clear qb)
    (try clear HB)
    generalize (((((((w25.setCell ⟨qc,0,none⟩ (.int .i64 ((rd_T41 l0 qa).f0))).setCell ⟨qc,1,none⟩ (.int .i64 ((rd_T41 l0 qa).f1))).setCell ⟨qc,2,none⟩ (.int .i64 ((rd_T41 l0 qa).f2))).setCell ⟨qc,3,none⟩ (.int .i64 ((rd_T41 l0 qa).f3))).setCell ⟨qc,4,none⟩ (.int .i64 ((rd_T41 l0 qa).f4))).setCell ⟨qc,5,none⟩ (.int .i64 ((rd_T41 l0 qa).f5))).setCell ⟨qc,6,none⟩ (.int .i64 ((rd_T41 l0 qa).f6))) = w27 at n0_ n1_ ⊢
    have qb:=n0_
    have HB:=n1_
    clear n0_ n1_
    have n0_:=Aside0.mk (blk_drew qb.out)
    have n1_:=Aside0.mk (below_drew1 HB.out)
    clear qb
    clear HB
    have qb:=n0_
    have HB:=n1_
    clear n0_ n1_
    refine start_ (n:=10) (S:=fun w' => w'.cell? ⟨qc,0,none⟩ = some (.int .i64 ((rd_T41 l0 qa).f0)) ∧ w'.cell? ⟨qc,1,none⟩ = some (.int .i64 ((rd_T41 l0 qa).f1)) ∧ w'.cell? ⟨qc,2,none⟩ = some (.int .i64 ((rd_T41 l0 qa).f2)) ∧ w'.cell? ⟨qc,3,none⟩ = some (.int .i64 ((rd_T41 l0 qa).f3)) ∧ w'.cell? ⟨qc,4,none⟩ = some (.int .i64 ((rd_T41 l0 qa).f4)) ∧ w'.cell? ⟨qc,5,none⟩ = some (.int .i64 ((rd_T41 l0 qa).f5)) ∧ w'.cell? ⟨qc,6,none⟩ = some (.int .i64 ((rd_T41 l0 qa).f6))) (ds:=[]) #[false,false,false,false,false,false,false,false,false,false] (by kernel_rfl) rfl rfl ⟨(blk_cell qb.out 0).trans rfl,(blk_cell qb.out 1).trans rfl,(blk_cell qb.out 2).trans rfl,(blk_cell qb.out 3).trans rfl,(blk_cell qb.out 4).trans rfl,(blk_cell qb.out 5).trans rfl,(blk_cell qb.out 6).trans rfl⟩ (fun hHeld=>?_);refine with_tabW impl_cacheOk.tab4 impl_cacheOk.bits4 (fun HT_ HW_=>?_)
    generalize w27.drew = w28 at qb HB hHeld ⊢
    refine take_ (i:=0) (N:=some 12) (v:=?_) (a':=?_) #[true,false,false,false,false,false,false,false,false,false] rfl rfl (take_ofW HT_.out HW_.out (by kernel_rfl)) (fun _ _ _ h=>h) (Or.inl ⟨by rfl,?_⟩) hHeld ?_ ?_
    rotate_left
    ·rintro w' ⟨s0,s1,s2,s3,s4,s5,s6⟩
     go_simp
     with_reducible rfl
    rotate_left
    ·exact z31a
    refine one_ (i:=1) (N:=some 13) #[true,true,false,false,false,false,false,false,false,false] rfl rfl (one_of HT_.out (by kernel_rfl)) (by decide) (fun K hK=>?_)
    refine goes_ Try.func96 (by kernel_rfl) rfl #[.agg #[.int .i64 ((rd_T41 l0 qa).f0),.int .i64 ((rd_T41 l0 qa).f1),.int .i64 ((rd_T41 l0 qa).f2),.int .i64 ((rd_T41 l0 qa).f3),.int .i64 ((rd_T41 l0 qa).f4),.int .i64 ((rd_T41 l0 qa).f5),.int .i64 ((rd_T41 l0 qa).f6)]] (by rfl) rfl rfl z31x2 ?_
    with_reducible refine (impl_authOk.calls ((rd_T41 l0 qa).f0) ((rd_T41 l0 qa).f1) ((rd_T41 l0 qa).f2) ((rd_T41 l0 qa).f3) ((rd_T41 l0 qa).f4) ((rd_T41 l0 qa).f5) ((rd_T41 l0 qa).f6) false _ A5.out).mono ?_
    rintro e w29 ⟨rfl,hb⟩
    refine ⟨_,rfl,?_⟩
    have n0_:=Aside0.mk (blk_below (g:=qc) (o:=.cells #[.int .i64 ((rd_T41 l0 qa).f0),.int .i64 ((rd_T41 l0 qa).f1),.int .i64 ((rd_T41 l0 qa).f2),.int .i64 ((rd_T41 l0 qa).f3),.int .i64 ((rd_T41 l0 qa).f4),.int .i64 ((rd_T41 l0 qa).f5),.int .i64 ((rd_T41 l0 qa).f6)] 41 (0,0)) z31x4 hb)
    have n1_:=Aside0.mk (below_step z31x0 hb)
    clear qb
    clear HB
    have qb:=n0_
    have HB:=n1_
    clear n0_ n1_
    (try clear hb)
    (try clear hb2)
    (try clear hk)
    (try clear hi)
    refine hK.out _ _ ⟨(blk_cell qb.out 0).trans rfl,(blk_cell qb.out 1).trans rfl,(blk_cell qb.out 2).trans rfl,(blk_cell qb.out 3).trans rfl,(blk_cell qb.out 4).trans rfl,(blk_cell qb.out 5).trans rfl,(blk_cell qb.out 6).trans rfl⟩ (fun hHeld=>?_)
    clear hK K
    refine norm_ (a':=?_) ?_ ?_
    rotate_left
    ·show Act.put _ (some 13) _ = _
     simp only [Act.put,List.setIfInBounds_toArray,List.set_cons_zero,List.set_cons_succ,i64_w,i32_w]
     rfl
    refine pure_ (i:=2) (N:=some 14) (v:=?_) (a':=?_) #[true,true,true,false,false,false,false,false,false,false] rfl rfl (any_of HT_.out (by kernel_rfl)) (fun _ _ _ h=>h) (Or.inl ⟨by rfl,?_⟩) ?_ ?_
    rotate_left
    ·intro w'
     go_simp
     with_reducible rfl
    rotate_left
    ·exact z31a
    refine pure_ (i:=3) (N:=some 15) (v:=?_) (a':=?_) #[true,true,true,true,false,false,false,false,false,false] rfl rfl (any_of HT_.out (by kernel_rfl)) (fun _ _ _ h=>h) (Or.inl ⟨by rfl,?_⟩) ?_ ?_
    rotate_left
    ·intro w'
     go_simp
     with_reducible rfl
    rotate_left
    ·exact z31a
    refine pure_ (i:=4) (N:=some 16) (v:=undef) (a':=?_) #[true,true,true,true,true,false,false,false,false,false] rfl rfl (any_of HT_.out (by kernel_rfl)) (fun _ _ _ h=>h) (Or.inr ⟨by rfl,rfl⟩) ?_ ?_
    rotate_left
    ·exact z31a
    refine pure_ (i:=5) (N:=some 17) (v:=undef) (a':=?_) #[true,true,true,true,true,true,false,false,false,false] rfl rfl (any_of HT_.out (by kernel_rfl)) (fun _ _ _ h=>h) (Or.inr ⟨by rfl,rfl⟩) ?_ ?_
    rotate_left
    ·exact z31a
    refine pure_ (i:=6) (N:=some 18) (v:=undef) (a':=?_) #[true,true,true,true,true,true,true,false,false,false] rfl rfl (any_of HT_.out (by kernel_rfl)) (fun _ _ _ h=>h) (Or.inr ⟨by rfl,rfl⟩) ?_ ?_
    rotate_left
    ·exact z31a
    refine pure_ (i:=7) (N:=some 19) (v:=undef) (a':=?_) #[true,true,true,true,true,true,true,true,false,false] rfl rfl (any_of HT_.out (by kernel_rfl)) (fun _ _ _ h=>h) (Or.inr ⟨by rfl,rfl⟩) ?_ ?_
    rotate_left
    ·exact z31a
    refine pure_ (i:=8) (N:=some 20) (v:=undef) (a':=?_) #[true,true,true,true,true,true,true,true,true,false] rfl rfl (any_of HT_.out (by kernel_rfl)) (fun _ _ _ h=>h) (Or.inr ⟨by rfl,rfl⟩) ?_ ?_
    rotate_left
    ·exact z31a
    refine pure_ (i:=9) (N:=some 21) (v:=?_) (a':=?_) #[true,true,true,true,true,true,true,true,true,true] rfl rfl (any_of HT_.out (by kernel_rfl)) (fun _ _ _ h=>h) (Or.inl ⟨by rfl,?_⟩) ?_ ?_
    rotate_left
    ·intro w'
     go_simp
     with_reducible rfl
    rotate_left
    ·exact z31a
    refine done_ (done_of HT_.out (by kernel_rfl)) ?_
    try go_wp2
    go_ret
    exact ⟨by first|rfl|(simp [errW_none,errW_some] <;> rfl)|(simp [*,errW_none,errW_some] <;> rfl),by repeat (first|(with_reducible first|exact HB.out|apply below_alloc|apply pw_below_drewN|apply below_drew1|refine below_set ?_ qk.out)|exact HB.out)⟩
   subst c6
   rw [if_pos rfl] at H
   have uu:=eq_true (of_decide_eq_true (by first|(with_reducible assumption)|assumption) : 0 ≤ qa)
   by_cases c8 : qa ≤ (l0.length : Int)
   rotate_left
   ·rw [if_neg c8] at H
    exact absurd H (by simp)
   rw [if_pos c8] at H
   have ut:=eq_true c8
   have us : decide (qa ≤ (l0.length : Int)) = true:=decide_eq_true c8
   clear c8
   obtain ⟨qo,qq⟩ : ∃ y_ : List (S41),y_ = (l0.take (qa : Int).toNat):=⟨_,rfl⟩
   replace H : ((impl_Seal_146.f k1 qo ((rd_T41 l0 qa).f0) ((rd_T41 l0 qa).f1) ((rd_T41 l0 qa).f2) ((rd_T41 l0 qa).f3) ((rd_T41 l0 qa).f4) ((rd_T41 l0 qa).f5) ((rd_T41 l0 qa).f6)).bind fun qp=>(if qp = true then (some false) else (impl_cacheOk.l0 k1 l0 l0 (l0.length : Int) (wrap64 (qa + 1))))) = some r:=by first|(rw [qq];with_reducible exact H)|(have H2_:=(Option.bind_some _ _).symm.trans H;rw [qq];with_reducible exact H2_)|(have H2_:=(Option.bind_some _ _).symm.trans H;with_reducible exact H2_)|with_reducible exact H|(rw [qq];exact H)|exact H
   have qr:=Aside0.mk qq
   clear qq
   replace H:=Option.bind_eq_some_iff.mp H
   obtain ⟨qp,A90,H⟩:=H
   replace H : (if qp = true then (some false) else (impl_cacheOk.l0 k1 l0 l0 (l0.length : Int) (wrap64 (qa + 1)))) = some r:=H
   have A9:=Aside0.mk A90
   clear A90
   by_cases c10 : qp = true
   ·subst c10
    rw [if_pos rfl] at H
    obtain rfl:=Option.some.inj H
    have qn : 0 ≤ (qa : Int):=of_decide_eq_true (by first|(with_reducible assumption)|assumption)
    have qm : qa < (l0.length : Int):=of_decide_eq_true (by first|(with_reducible assumption)|assumption)
    obtain ⟨ql,qt,qj,qi,qh,qg,qf,qe,qd⟩:=at_T41 HR0.out qa qn qm
    cases qt
    replace qj:=(HB.out.cell (World.block_lt_of_cell? w _ qj)).trans qj
    replace qi:=(HB.out.cell (World.block_lt_of_cell? w _ qi)).trans qi
    replace qh:=(HB.out.cell (World.block_lt_of_cell? w _ qh)).trans qh
    replace qg:=(HB.out.cell (World.block_lt_of_cell? w _ qg)).trans qg
    replace qf:=(HB.out.cell (World.block_lt_of_cell? w _ qf)).trans qf
    replace qe:=(HB.out.cell (World.block_lt_of_cell? w _ qe)).trans qe
    replace qd:=(HB.out.cell (World.block_lt_of_cell? w _ qd)).trans qd
    replace qn:=eq_true qn
    replace qm:=eq_true qm
    try go_wp2_with (first|((with_reducible refine gate_dst (N:=4) rfl ?_);refine box_event ?hg (N:=4) ?hd (cs:=#[.int .i64 0,.int .i64 0,.int .i64 0,.int .i64 0,.int .i64 0,.int .i64 0,.int .i64 0]) (t:=41) ?hr ?_;(case hd=>rfl);(case hg=>rfl);(case hr=>first|(go_simp;done)|(go_simp;rfl));intro qc hg w11 hbox hb;have n0_:=Aside0.mk (below_step z31x3 hb);have n1_:=Aside0.mk (hbox);have n2_:=Aside0.mk ((z31x1 : w.heap.size ≤ qc));have n3_:=Aside0.mk ((z31x1 : w.heap.size ≤ qc));clear HB;have HB:=n0_;have qb:=n1_;have qz:=n2_;have qk:=n3_;clear n0_ n1_ n2_ n3_;clear hb hbox hg;have um : w11.cell? ⟨qc,0,none⟩ = some (.int .i64 0):=(blk_cell qb.out 0).trans rfl;have ul : w11.cell? ⟨qc,1,none⟩ = some (.int .i64 0):=(blk_cell qb.out 1).trans rfl;have uk : w11.cell? ⟨qc,2,none⟩ = some (.int .i64 0):=(blk_cell qb.out 2).trans rfl;have uj : w11.cell? ⟨qc,3,none⟩ = some (.int .i64 0):=(blk_cell qb.out 3).trans rfl;have ui : w11.cell? ⟨qc,4,none⟩ = some (.int .i64 0):=(blk_cell qb.out 4).trans rfl;have uh : w11.cell? ⟨qc,5,none⟩ = some (.int .i64 0):=(blk_cell qb.out 5).trans rfl;have ug : w11.cell? ⟨qc,6,none⟩ = some (.int .i64 0):=(blk_cell qb.out 6).trans rfl;have vq:=blk_frozen qb.out 0;have vp:=blk_frozen qb.out 1;have vo:=blk_frozen qb.out 2;have vn:=blk_frozen qb.out 3;have vm:=blk_frozen qb.out 4;have vl:=blk_frozen qb.out 5;have vk:=blk_frozen qb.out 6))
    have n0_ : Aside0 ((((((((w11.setCell ⟨qc,0,none⟩ (.int .i64 ((rd_T41 l0 qa).f0))).setCell ⟨qc,1,none⟩ (.int .i64 ((rd_T41 l0 qa).f1))).setCell ⟨qc,2,none⟩ (.int .i64 ((rd_T41 l0 qa).f2))).setCell ⟨qc,3,none⟩ (.int .i64 ((rd_T41 l0 qa).f3))).setCell ⟨qc,4,none⟩ (.int .i64 ((rd_T41 l0 qa).f4))).setCell ⟨qc,5,none⟩ (.int .i64 ((rd_T41 l0 qa).f5))).setCell ⟨qc,6,none⟩ (.int .i64 ((rd_T41 l0 qa).f6))).heap[qc]? = some (.cells #[.int .i64 ((rd_T41 l0 qa).f0),.int .i64 ((rd_T41 l0 qa).f1),.int .i64 ((rd_T41 l0 qa).f2),.int .i64 ((rd_T41 l0 qa).f3),.int .i64 ((rd_T41 l0 qa).f4),.int .i64 ((rd_T41 l0 qa).f5),.int .i64 ((rd_T41 l0 qa).f6)] 41 (0,0))):=⟨by (with_reducible repeat (first|refine blk_drewN ?_ _|refine blk_drew ?_|refine blk_alloc ?_ _));refine blk_put (cs:=#[.int .i64 ((rd_T41 l0 qa).f0),.int .i64 ((rd_T41 l0 qa).f1),.int .i64 ((rd_T41 l0 qa).f2),.int .i64 ((rd_T41 l0 qa).f3),.int .i64 ((rd_T41 l0 qa).f4),.int .i64 ((rd_T41 l0 qa).f5),.int .i64 0]) ?_ 6 _ rfl;(with_reducible repeat (first|refine blk_drewN ?_ _|refine blk_drew ?_|refine blk_alloc ?_ _));refine blk_put (cs:=#[.int .i64 ((rd_T41 l0 qa).f0),.int .i64 ((rd_T41 l0 qa).f1),.int .i64 ((rd_T41 l0 qa).f2),.int .i64 ((rd_T41 l0 qa).f3),.int .i64 ((rd_T41 l0 qa).f4),.int .i64 0,.int .i64 0]) ?_ 5 _ rfl;(with_reducible repeat (first|refine blk_drewN ?_ _|refine blk_drew ?_|refine blk_alloc ?_ _));refine blk_put (cs:=#[.int .i64 ((rd_T41 l0 qa).f0),.int .i64 ((rd_T41 l0 qa).f1),.int .i64 ((rd_T41 l0 qa).f2),.int .i64 ((rd_T41 l0 qa).f3),.int .i64 0,.int .i64 0,.int .i64 0]) ?_ 4 _ rfl;(with_reducible repeat (first|refine blk_drewN ?_ _|refine blk_drew ?_|refine blk_alloc ?_ _));refine blk_put (cs:=#[.int .i64 ((rd_T41 l0 qa).f0),.int .i64 ((rd_T41 l0 qa).f1),.int .i64 ((rd_T41 l0 qa).f2),.int .i64 0,.int .i64 0,.int .i64 0,.int .i64 0]) ?_ 3 _ rfl;(with_reducible repeat (first|refine blk_drewN ?_ _|refine blk_drew ?_|refine blk_alloc ?_ _));refine blk_put (cs:=#[.int .i64 ((rd_T41 l0 qa).f0),.int .i64 ((rd_T41 l0 qa).f1),.int .i64 0,.int .i64 0,.int .i64 0,.int .i64 0,.int .i64 0]) ?_ 2 _ rfl;(with_reducible repeat (first|refine blk_drewN ?_ _|refine blk_drew ?_|refine blk_alloc ?_ _));refine blk_put (cs:=#[.int .i64 ((rd_T41 l0 qa).f0),.int .i64 0,.int .i64 0,.int .i64 0,.int .i64 0,.int .i64 0,.int .i64 0]) ?_ 1 _ rfl;(with_reducible repeat (first|refine blk_drewN ?_ _|refine blk_drew ?_|refine blk_alloc ?_ _));refine blk_put (cs:=#[.int .i64 0,.int .i64 0,.int .i64 0,.int .i64 0,.int .i64 0,.int .i64 0,.int .i64 0]) ?_ 0 _ rfl;(with_reducible repeat (first|refine blk_drewN ?_ _|refine blk_drew ?_|refine blk_alloc ?_ _));exact qb.out⟩
    have n1_ : Aside0 (Below w.heap.size w (((((((w11.setCell ⟨qc,0,none⟩ (.int .i64 ((rd_T41 l0 qa).f0))).setCell ⟨qc,1,none⟩ (.int .i64 ((rd_T41 l0 qa).f1))).setCell ⟨qc,2,none⟩ (.int .i64 ((rd_T41 l0 qa).f2))).setCell ⟨qc,3,none⟩ (.int .i64 ((rd_T41 l0 qa).f3))).setCell ⟨qc,4,none⟩ (.int .i64 ((rd_T41 l0 qa).f4))).setCell ⟨qc,5,none⟩ (.int .i64 ((rd_T41 l0 qa).f5))).setCell ⟨qc,6,none⟩ (.int .i64 ((rd_T41 l0 qa).f6)))):=⟨by repeat (first|(with_reducible first|exact HB.out|apply below_alloc|apply pw_below_drewN|apply below_drew1|refine below_set ?_ qk.out)|exact HB.out)⟩
    (try clear qb)
    (try clear HB)
    generalize (((((((w11.setCell ⟨qc,0,none⟩ (.int .i64 ((rd_T41 l0 qa).f0))).setCell ⟨qc,1,none⟩ (.int .i64 ((rd_T41 l0 qa).f1))).setCell ⟨qc,2,none⟩ (.int .i64 ((rd_T41 l0 qa).f2))).setCell ⟨qc,3,none⟩ (.int .i64 ((rd_T41 l0 qa).f3))).setCell ⟨qc,4,none⟩ (.int .i64 ((rd_T41 l0 qa).f4))).setCell ⟨qc,5,none⟩ (.int .i64 ((rd_T41 l0 qa).f5))).setCell ⟨qc,6,none⟩ (.int .i64 ((rd_T41 l0 qa).f6))) = w13 at n0_ n1_ ⊢
    have qb:=n0_
    have HB:=n1_
    clear n0_ n1_
    have n0_:=Aside0.mk (blk_drew qb.out)
    have n1_:=Aside0.mk (below_drew1 HB.out)
    clear qb
    clear HB
    have qb:=n0_
    have HB:=n1_
    clear n0_ n1_
    refine start_ (n:=10) (S:=fun w' => w'.cell? ⟨qc,0,none⟩ = some (.int .i64 ((rd_T41 l0 qa).f0)) ∧ w'.cell? ⟨qc,1,none⟩ = some (.int .i64 ((rd_T41 l0 qa).f1)) ∧ w'.cell? ⟨qc,2,none⟩ = some (.int .i64 ((rd_T41 l0 qa).f2)) ∧ w'.cell? ⟨qc,3,none⟩ = some (.int .i64 ((rd_T41 l0 qa).f3)) ∧ w'.cell? ⟨qc,4,none⟩ = some (.int .i64 ((rd_T41 l0 qa).f4)) ∧ w'.cell? ⟨qc,5,none⟩ = some (.int .i64 ((rd_T41 l0 qa).f5)) ∧ w'.cell? ⟨qc,6,none⟩ = some (.int .i64 ((rd_T41 l0 qa).f6))) (ds:=[]) #[false,false,false,false,false,false,false,false,false,false] (by kernel_rfl) rfl rfl ⟨(blk_cell qb.out 0).trans rfl,(blk_cell qb.out 1).trans rfl,(blk_cell qb.out 2).trans rfl,(blk_cell qb.out 3).trans rfl,(blk_cell qb.out 4).trans rfl,(blk_cell qb.out 5).trans rfl,(blk_cell qb.out 6).trans rfl⟩ (fun hHeld=>?_);refine with_tabW impl_cacheOk.tab4 impl_cacheOk.bits4 (fun HT_ HW_=>?_)
    generalize w13.drew = w14 at qb HB hHeld ⊢
    refine take_ (i:=0) (N:=some 12) (v:=?_) (a':=?_) #[true,false,false,false,false,false,false,false,false,false] rfl rfl (take_ofW HT_.out HW_.out (by kernel_rfl)) (fun _ _ _ h=>h) (Or.inl ⟨by rfl,?_⟩) hHeld ?_ ?_
    rotate_left
    ·rintro w' ⟨s0,s1,s2,s3,s4,s5,s6⟩
     go_simp
     with_reducible rfl
    rotate_left
    ·exact z31a
    refine one_ (i:=1) (N:=some 13) #[true,true,false,false,false,false,false,false,false,false] rfl rfl (one_of HT_.out (by kernel_rfl)) (by decide) (fun K hK=>?_)
    refine goes_ Try.func96 (by kernel_rfl) rfl #[.agg #[.int .i64 ((rd_T41 l0 qa).f0),.int .i64 ((rd_T41 l0 qa).f1),.int .i64 ((rd_T41 l0 qa).f2),.int .i64 ((rd_T41 l0 qa).f3),.int .i64 ((rd_T41 l0 qa).f4),.int .i64 ((rd_T41 l0 qa).f5),.int .i64 ((rd_T41 l0 qa).f6)]] (by rfl) rfl rfl z31x2 ?_
    with_reducible refine (impl_authOk.calls ((rd_T41 l0 qa).f0) ((rd_T41 l0 qa).f1) ((rd_T41 l0 qa).f2) ((rd_T41 l0 qa).f3) ((rd_T41 l0 qa).f4) ((rd_T41 l0 qa).f5) ((rd_T41 l0 qa).f6) true _ A5.out).mono ?_
    rintro e w15 ⟨rfl,hb⟩
    refine ⟨_,rfl,?_⟩
    have n0_:=Aside0.mk (blk_below (g:=qc) (o:=.cells #[.int .i64 ((rd_T41 l0 qa).f0),.int .i64 ((rd_T41 l0 qa).f1),.int .i64 ((rd_T41 l0 qa).f2),.int .i64 ((rd_T41 l0 qa).f3),.int .i64 ((rd_T41 l0 qa).f4),.int .i64 ((rd_T41 l0 qa).f5),.int .i64 ((rd_T41 l0 qa).f6)] 41 (0,0)) z31x4 hb)
    have n1_:=Aside0.mk (below_step z31x0 hb)
    clear qb
    clear HB
    have qb:=n0_
    have HB:=n1_
    clear n0_ n1_
    (try clear hb)
    (try clear hb2)
    (try clear hk)
    (try clear hi)
    have q16 : (qa : Int) ≤ ((l0.length : Int) : Int):=of_decide_eq_true (by first|(with_reducible assumption)|assumption)
    obtain ⟨uq,qy,_,wi,_⟩:=info_parts info41
    have hroom16 : l0.length ≤ c0:=HC0.out
    have wk : Kd.C k41 _ (some ql) l0.length l0:=HR0.out
    have wg:=cut_to (P:=Try.prog) 32 41 .i64 Try.underlying32 qy (some ql) l0.length c0 qa (of_decide_eq_true (by first|(with_reducible assumption)|assumption)) q16 hroom16
    have wd:=Kd.C_take (m:=(qa : Int).toNat) wk (by omega)
    have wb : qo.length = (qa : Int).toNat:=(by rw [qr.out,List.length_take];omega)
    rw [← qr.out] at wd
    rw [← wb] at wg
    have qu:=Aside0.mk wd
    have qv:=Aside0.mk (show qo.length ≤ c0 from by omega)
    clear wd wk hroom16 qy wi
    have uy:=Aside0.mk wb
    clear wb
    replace q16:=eq_true q16
    refine hK.out _ _ ⟨(blk_cell qb.out 0).trans rfl,(blk_cell qb.out 1).trans rfl,(blk_cell qb.out 2).trans rfl,(blk_cell qb.out 3).trans rfl,(blk_cell qb.out 4).trans rfl,(blk_cell qb.out 5).trans rfl,(blk_cell qb.out 6).trans rfl⟩ (fun hHeld=>?_)
    clear hK K
    refine norm_ (a':=?_) ?_ ?_
    rotate_left
    ·show Act.put _ (some 13) _ = _
     simp only [Act.put,List.setIfInBounds_toArray,List.set_cons_zero,List.set_cons_succ,i64_w,i32_w]
     rfl
    refine pure_ (i:=2) (N:=some 14) (v:=?_) (a':=?_) #[true,true,true,false,false,false,false,false,false,false] rfl rfl (any_of HT_.out (by kernel_rfl)) (fun _ _ _ h=>h) (Or.inl ⟨by rfl,?_⟩) ?_ ?_
    rotate_left
    ·intro w'
     go_simp
     with_reducible rfl
    rotate_left
    ·exact z31a
    refine pure_ (i:=3) (N:=some 15) (v:=?_) (a':=?_) #[true,true,true,true,false,false,false,false,false,false] rfl rfl (any_of HT_.out (by kernel_rfl)) (fun _ _ _ h=>h) (Or.inl ⟨by rfl,?_⟩) ?_ ?_
    rotate_left
    ·intro w'
     go_simp
     with_reducible rfl
    rotate_left
    ·exact z31a
    refine pure_ (i:=4) (N:=some 16) (v:=?_) (a':=?_) #[true,true,true,true,true,false,false,false,false,false] rfl rfl (any_of HT_.out (by kernel_rfl)) (fun _ _ _ h=>h) (Or.inl ⟨by rfl,?_⟩) ?_ ?_
    rotate_left
    ·intro w'
     go_simp
     with_reducible rfl
    rotate_left
    ·exact z31a
    refine pure_ (i:=5) (N:=some 17) (v:=?_) (a':=?_) #[true,true,true,true,true,true,false,false,false,false] rfl rfl (any_of HT_.out (by kernel_rfl)) (fun _ _ _ h=>h) (Or.inl ⟨by rfl,?_⟩) ?_ ?_
    rotate_left
    ·intro w'
     go_simp
     with_reducible rfl
    rotate_left
    ·exact z31a
    refine pure_ (i:=6) (N:=some 18) (v:=?_) (a':=?_) #[true,true,true,true,true,true,true,false,false,false] rfl rfl (any_of HT_.out (by kernel_rfl)) (fun _ _ _ h=>h) (Or.inl ⟨by rfl,?_⟩) ?_ ?_
    rotate_left
    ·intro w'
     go_simp
     with_reducible rfl
    rotate_left
    ·exact z31a
    refine take_ (i:=7) (N:=some 19) (v:=?_) (a':=?_) #[true,true,true,true,true,true,true,true,false,false] rfl rfl (take_ofW HT_.out HW_.out (by kernel_rfl)) (fun _ _ _ h=>h) (Or.inl ⟨by rfl,?_⟩) hHeld ?_ ?_
    rotate_left
    ·rintro w' ⟨s0,s1,s2,s3,s4,s5,s6⟩
     go_simp
     with_reducible rfl
    rotate_left
    ·exact z31a
    refine one_ (i:=8) (N:=some 20) #[true,true,true,true,true,true,true,true,true,false] rfl rfl (one_of HT_.out (by kernel_rfl)) (by decide) (fun K hK=>?_)
    refine goes_ Try.func146 (by kernel_rfl) rfl #[.slice (some ql) qo.length c0,.agg #[.int .i64 ((rd_T41 l0 qa).f0),.int .i64 ((rd_T41 l0 qa).f1),.int .i64 ((rd_T41 l0 qa).f2),.int .i64 ((rd_T41 l0 qa).f3),.int .i64 ((rd_T41 l0 qa).f4),.int .i64 ((rd_T41 l0 qa).f5),.int .i64 ((rd_T41 l0 qa).f6)]] (by rfl) rfl rfl z31x2 ?_
    with_reducible refine (impl_Seal_146.calls k1 _ _ qo ((rd_T41 l0 qa).f0) ((rd_T41 l0 qa).f1) ((rd_T41 l0 qa).f2) ((rd_T41 l0 qa).f3) ((rd_T41 l0 qa).f4) ((rd_T41 l0 qa).f5) ((rd_T41 l0 qa).f6) true _ ?side1 ?side2 A9.out).mono ?_
    (case side1=>repeat (first|exact (Kd.C_below qu.out HB.out)|(with_reducible refine Kd.C_alloc ?_ _)|(with_reducible refine Kd.C_drewN ?_ _)|(with_reducible refine Kd.C_drew ?_)))
    (case side2=>exact qv.out)
    rintro e w17 ⟨rfl,hb⟩
    refine ⟨_,rfl,?_⟩
    have n0_:=Aside0.mk (blk_below (g:=qc) (o:=.cells #[.int .i64 ((rd_T41 l0 qa).f0),.int .i64 ((rd_T41 l0 qa).f1),.int .i64 ((rd_T41 l0 qa).f2),.int .i64 ((rd_T41 l0 qa).f3),.int .i64 ((rd_T41 l0 qa).f4),.int .i64 ((rd_T41 l0 qa).f5),.int .i64 ((rd_T41 l0 qa).f6)] 41 (0,0)) z31x4 hb)
    have n1_:=Aside0.mk (below_step z31x0 hb)
    clear qb
    clear HB
    have qb:=n0_
    have HB:=n1_
    clear n0_ n1_
    (try clear hb)
    (try clear hb2)
    (try clear hk)
    (try clear hi)
    refine hK.out _ _ ⟨(blk_cell qb.out 0).trans rfl,(blk_cell qb.out 1).trans rfl,(blk_cell qb.out 2).trans rfl,(blk_cell qb.out 3).trans rfl,(blk_cell qb.out 4).trans rfl,(blk_cell qb.out 5).trans rfl,(blk_cell qb.out 6).trans rfl⟩ (fun hHeld=>?_)
    clear hK K
    refine norm_ (a':=?_) ?_ ?_
    rotate_left
    ·show Act.put _ (some 20) _ = _
     simp only [Act.put,List.setIfInBounds_toArray,List.set_cons_zero,List.set_cons_succ,i64_w,i32_w]
     rfl
    refine pure_ (i:=9) (N:=some 21) (v:=?_) (a':=?_) #[true,true,true,true,true,true,true,true,true,true] rfl rfl (any_of HT_.out (by kernel_rfl)) (fun _ _ _ h=>h) (Or.inl ⟨by rfl,?_⟩) ?_ ?_
    rotate_left
    ·intro w'
     go_simp
     with_reducible rfl
    rotate_left
    ·exact z31a
    refine done_ (done_of HT_.out (by kernel_rfl)) ?_
    try go_wp2
    go_ret
    exact ⟨by first|rfl|(simp [errW_none,errW_some] <;> rfl)|(simp [*,errW_none,errW_some] <;> rfl),by repeat (first|(with_reducible first|exact HB.out|apply below_alloc|apply pw_below_drewN|apply below_drew1|refine below_set ?_ qk.out)|exact HB.out)⟩
   ·replace c10:=Bool.eq_false_iff.mpr c10
    subst c10
    rw [if_neg (show ¬ (false = true) by decide)] at H
    have H':=Aside0.mk H
    clear H
    have qn : 0 ≤ (qa : Int):=of_decide_eq_true (by first|(with_reducible assumption)|assumption)
    have qm : qa < (l0.length : Int):=of_decide_eq_true (by first|(with_reducible assumption)|assumption)
    obtain ⟨ql,qt,qj,qi,qh,qg,qf,qe,qd⟩:=at_T41 HR0.out qa qn qm
    cases qt
    replace qj:=(HB.out.cell (World.block_lt_of_cell? w _ qj)).trans qj
    replace qi:=(HB.out.cell (World.block_lt_of_cell? w _ qi)).trans qi
    replace qh:=(HB.out.cell (World.block_lt_of_cell? w _ qh)).trans qh
    replace qg:=(HB.out.cell (World.block_lt_of_cell? w _ qg)).trans qg
    replace qf:=(HB.out.cell (World.block_lt_of_cell? w _ qf)).trans qf
    replace qe:=(HB.out.cell (World.block_lt_of_cell? w _ qe)).trans qe
    replace qd:=(HB.out.cell (World.block_lt_of_cell? w _ qd)).trans qd
    replace qn:=eq_true qn
    replace qm:=eq_true qm
    try go_wp2_with (first|((with_reducible refine gate_dst (N:=4) rfl ?_);refine box_event ?hg (N:=4) ?hd (cs:=#[.int .i64 0,.int .i64 0,.int .i64 0,.int .i64 0,.int .i64 0,.int .i64 0,.int .i64 0]) (t:=41) ?hr ?_;(case hd=>rfl);(case hg=>rfl);(case hr=>first|(go_simp;done)|(go_simp;rfl));intro qc hg w18 hbox hb;have n0_:=Aside0.mk (below_step z31x3 hb);have n1_:=Aside0.mk (hbox);have n2_:=Aside0.mk ((z31x1 : w.heap.size ≤ qc));have n3_:=Aside0.mk ((z31x1 : w.heap.size ≤ qc));clear HB;have HB:=n0_;have qb:=n1_;have qz:=n2_;have qk:=n3_;clear n0_ n1_ n2_ n3_;clear hb hbox hg;have uf : w18.cell? ⟨qc,0,none⟩ = some (.int .i64 0):=(blk_cell qb.out 0).trans rfl;have ue : w18.cell? ⟨qc,1,none⟩ = some (.int .i64 0):=(blk_cell qb.out 1).trans rfl;have ud : w18.cell? ⟨qc,2,none⟩ = some (.int .i64 0):=(blk_cell qb.out 2).trans rfl;have uc : w18.cell? ⟨qc,3,none⟩ = some (.int .i64 0):=(blk_cell qb.out 3).trans rfl;have ub : w18.cell? ⟨qc,4,none⟩ = some (.int .i64 0):=(blk_cell qb.out 4).trans rfl;have ua : w18.cell? ⟨qc,5,none⟩ = some (.int .i64 0):=(blk_cell qb.out 5).trans rfl;have vz : w18.cell? ⟨qc,6,none⟩ = some (.int .i64 0):=(blk_cell qb.out 6).trans rfl;have wz:=blk_frozen qb.out 0;have wy:=blk_frozen qb.out 1;have wx:=blk_frozen qb.out 2;have ww:=blk_frozen qb.out 3;have wv:=blk_frozen qb.out 4;have wu:=blk_frozen qb.out 5;have wt:=blk_frozen qb.out 6))
    have n0_ : Aside0 ((((((((w18.setCell ⟨qc,0,none⟩ (.int .i64 ((rd_T41 l0 qa).f0))).setCell ⟨qc,1,none⟩ (.int .i64 ((rd_T41 l0 qa).f1))).setCell ⟨qc,2,none⟩ (.int .i64 ((rd_T41 l0 qa).f2))).setCell ⟨qc,3,none⟩ (.int .i64 ((rd_T41 l0 qa).f3))).setCell ⟨qc,4,none⟩ (.int .i64 ((rd_T41 l0 qa).f4))).setCell ⟨qc,5,none⟩ (.int .i64 ((rd_T41 l0 qa).f5))).setCell ⟨qc,6,none⟩ (.int .i64 ((rd_T41 l0 qa).f6))).heap[qc]? = some (.cells #[.int .i64 ((rd_T41 l0 qa).f0),.int .i64 ((rd_T41 l0 qa).f1),.int .i64 ((rd_T41 l0 qa).f2),.int .i64 ((rd_T41 l0 qa).f3),.int .i64 ((rd_T41 l0 qa).f4),.int .i64 ((rd_T41 l0 qa).f5),.int .i64 ((rd_T41 l0 qa).f6)] 41 (0,0))):=⟨by (with_reducible repeat (first|refine blk_drewN ?_ _|refine blk_drew ?_|refine blk_alloc ?_ _));refine blk_put (cs:=#[.int .i64 ((rd_T41 l0 qa).f0),.int .i64 ((rd_T41 l0 qa).f1),.int .i64 ((rd_T41 l0 qa).f2),.int .i64 ((rd_T41 l0 qa).f3),.int .i64 ((rd_T41 l0 qa).f4),.int .i64 ((rd_T41 l0 qa).f5),.int .i64 0]) ?_ 6 _ rfl;(with_reducible repeat (first|refine blk_drewN ?_ _|refine blk_drew ?_|refine blk_alloc ?_ _));refine blk_put (cs:=#[.int .i64 ((rd_T41 l0 qa).f0),.int .i64 ((rd_T41 l0 qa).f1),.int .i64 ((rd_T41 l0 qa).f2),.int .i64 ((rd_T41 l0 qa).f3),.int .i64 ((rd_T41 l0 qa).f4),.int .i64 0,.int .i64 0]) ?_ 5 _ rfl;(with_reducible repeat (first|refine blk_drewN ?_ _|refine blk_drew ?_|refine blk_alloc ?_ _));refine blk_put (cs:=#[.int .i64 ((rd_T41 l0 qa).f0),.int .i64 ((rd_T41 l0 qa).f1),.int .i64 ((rd_T41 l0 qa).f2),.int .i64 ((rd_T41 l0 qa).f3),.int .i64 0,.int .i64 0,.int .i64 0]) ?_ 4 _ rfl;(with_reducible repeat (first|refine blk_drewN ?_ _|refine blk_drew ?_|refine blk_alloc ?_ _));refine blk_put (cs:=#[.int .i64 ((rd_T41 l0 qa).f0),.int .i64 ((rd_T41 l0 qa).f1),.int .i64 ((rd_T41 l0 qa).f2),.int .i64 0,.int .i64 0,.int .i64 0,.int .i64 0]) ?_ 3 _ rfl;(with_reducible repeat (first|refine blk_drewN ?_ _|refine blk_drew ?_|refine blk_alloc ?_ _));refine blk_put (cs:=#[.int .i64 ((rd_T41 l0 qa).f0),.int .i64 ((rd_T41 l0 qa).f1),.int .i64 0,.int .i64 0,.int .i64 0,.int .i64 0,.int .i64 0]) ?_ 2 _ rfl;(with_reducible repeat (first|refine blk_drewN ?_ _|refine blk_drew ?_|refine blk_alloc ?_ _));refine blk_put (cs:=#[.int .i64 ((rd_T41 l0 qa).f0),.int .i64 0,.int .i64 0,.int .i64 0,.int .i64 0,.int .i64 0,.int .i64 0]) ?_ 1 _ rfl;(with_reducible repeat (first|refine blk_drewN ?_ _|refine blk_drew ?_|refine blk_alloc ?_ _));refine blk_put (cs:=#[.int .i64 0,.int .i64 0,.int .i64 0,.int .i64 0,.int .i64 0,.int .i64 0,.int .i64 0]) ?_ 0 _ rfl;(with_reducible repeat (first|refine blk_drewN ?_ _|refine blk_drew ?_|refine blk_alloc ?_ _));exact qb.out⟩
    have n1_ : Aside0 (Below w.heap.size w (((((((w18.setCell ⟨qc,0,none⟩ (.int .i64 ((rd_T41 l0 qa).f0))).setCell ⟨qc,1,none⟩ (.int .i64 ((rd_T41 l0 qa).f1))).setCell ⟨qc,2,none⟩ (.int .i64 ((rd_T41 l0 qa).f2))).setCell ⟨qc,3,none⟩ (.int .i64 ((rd_T41 l0 qa).f3))).setCell ⟨qc,4,none⟩ (.int .i64 ((rd_T41 l0 qa).f4))).setCell ⟨qc,5,none⟩ (.int .i64 ((rd_T41 l0 qa).f5))).setCell ⟨qc,6,none⟩ (.int .i64 ((rd_T41 l0 qa).f6)))):=⟨by repeat (first|(with_reducible first|exact HB.out|apply below_alloc|apply pw_below_drewN|apply below_drew1|refine below_set ?_ qk.out)|exact HB.out)⟩
    (try clear qb)
    (try clear HB)
    generalize (((((((w18.setCell ⟨qc,0,none⟩ (.int .i64 ((rd_T41 l0 qa).f0))).setCell ⟨qc,1,none⟩ (.int .i64 ((rd_T41 l0 qa).f1))).setCell ⟨qc,2,none⟩ (.int .i64 ((rd_T41 l0 qa).f2))).setCell ⟨qc,3,none⟩ (.int .i64 ((rd_T41 l0 qa).f3))).setCell ⟨qc,4,none⟩ (.int .i64 ((rd_T41 l0 qa).f4))).setCell ⟨qc,5,none⟩ (.int .i64 ((rd_T41 l0 qa).f5))).setCell ⟨qc,6,none⟩ (.int .i64 ((rd_T41 l0 qa).f6))) = w20 at n0_ n1_ ⊢
    have qb:=n0_
    have HB:=n1_
    clear n0_ n1_
    have n0_:=Aside0.mk (blk_drew qb.out)
    have n1_:=Aside0.mk (below_drew1 HB.out)
    clear qb
    clear HB
    have qb:=n0_
    have HB:=n1_
    clear n0_ n1_
    refine start_ (n:=10) (S:=fun w' => w'.cell? ⟨qc,0,none⟩ = some (.int .i64 ((rd_T41 l0 qa).f0)) ∧ w'.cell? ⟨qc,1,none⟩ = some (.int .i64 ((rd_T41 l0 qa).f1)) ∧ w'.cell? ⟨qc,2,none⟩ = some (.int .i64 ((rd_T41 l0 qa).f2)) ∧ w'.cell? ⟨qc,3,none⟩ = some (.int .i64 ((rd_T41 l0 qa).f3)) ∧ w'.cell? ⟨qc,4,none⟩ = some (.int .i64 ((rd_T41 l0 qa).f4)) ∧ w'.cell? ⟨qc,5,none⟩ = some (.int .i64 ((rd_T41 l0 qa).f5)) ∧ w'.cell? ⟨qc,6,none⟩ = some (.int .i64 ((rd_T41 l0 qa).f6))) (ds:=[]) #[false,false,false,false,false,false,false,false,false,false] (by kernel_rfl) rfl rfl ⟨(blk_cell qb.out 0).trans rfl,(blk_cell qb.out 1).trans rfl,(blk_cell qb.out 2).trans rfl,(blk_cell qb.out 3).trans rfl,(blk_cell qb.out 4).trans rfl,(blk_cell qb.out 5).trans rfl,(blk_cell qb.out 6).trans rfl⟩ (fun hHeld=>?_);refine with_tabW impl_cacheOk.tab4 impl_cacheOk.bits4 (fun HT_ HW_=>?_)
    generalize w20.drew = w21 at qb HB hHeld ⊢
    refine take_ (i:=0) (N:=some 12) (v:=?_) (a':=?_) #[true,false,false,false,false,false,false,false,false,false] rfl rfl (take_ofW HT_.out HW_.out (by kernel_rfl)) (fun _ _ _ h=>h) (Or.inl ⟨by rfl,?_⟩) hHeld ?_ ?_
    rotate_left
    ·rintro w' ⟨s0,s1,s2,s3,s4,s5,s6⟩
     go_simp
     with_reducible rfl
    rotate_left
    ·exact z31a
    refine one_ (i:=1) (N:=some 13) #[true,true,false,false,false,false,false,false,false,false] rfl rfl (one_of HT_.out (by kernel_rfl)) (by decide) (fun K hK=>?_)
    refine goes_ Try.func96 (by kernel_rfl) rfl #[.agg #[.int .i64 ((rd_T41 l0 qa).f0),.int .i64 ((rd_T41 l0 qa).f1),.int .i64 ((rd_T41 l0 qa).f2),.int .i64 ((rd_T41 l0 qa).f3),.int .i64 ((rd_T41 l0 qa).f4),.int .i64 ((rd_T41 l0 qa).f5),.int .i64 ((rd_T41 l0 qa).f6)]] (by rfl) rfl rfl z31x2 ?_
    with_reducible refine (impl_authOk.calls ((rd_T41 l0 qa).f0) ((rd_T41 l0 qa).f1) ((rd_T41 l0 qa).f2) ((rd_T41 l0 qa).f3) ((rd_T41 l0 qa).f4) ((rd_T41 l0 qa).f5) ((rd_T41 l0 qa).f6) true _ A5.out).mono ?_
    rintro e w22 ⟨rfl,hb⟩
    refine ⟨_,rfl,?_⟩
    have n0_:=Aside0.mk (blk_below (g:=qc) (o:=.cells #[.int .i64 ((rd_T41 l0 qa).f0),.int .i64 ((rd_T41 l0 qa).f1),.int .i64 ((rd_T41 l0 qa).f2),.int .i64 ((rd_T41 l0 qa).f3),.int .i64 ((rd_T41 l0 qa).f4),.int .i64 ((rd_T41 l0 qa).f5),.int .i64 ((rd_T41 l0 qa).f6)] 41 (0,0)) z31x4 hb)
    have n1_:=Aside0.mk (below_step z31x0 hb)
    clear qb
    clear HB
    have qb:=n0_
    have HB:=n1_
    clear n0_ n1_
    (try clear hb)
    (try clear hb2)
    (try clear hk)
    (try clear hi)
    have q23 : (qa : Int) ≤ ((l0.length : Int) : Int):=of_decide_eq_true (by first|(with_reducible assumption)|assumption)
    obtain ⟨uo,qx,_,wh,_⟩:=info_parts info41
    have hroom23 : l0.length ≤ c0:=HC0.out
    have wj : Kd.C k41 _ (some ql) l0.length l0:=HR0.out
    have we:=cut_to (P:=Try.prog) 32 41 .i64 Try.underlying32 qx (some ql) l0.length c0 qa (of_decide_eq_true (by first|(with_reducible assumption)|assumption)) q23 hroom23
    have wc:=Kd.C_take (m:=(qa : Int).toNat) wj (by omega)
    have wa : qo.length = (qa : Int).toNat:=(by rw [qr.out,List.length_take];omega)
    rw [← qr.out] at wc
    rw [← wa] at we
    have qu:=Aside0.mk wc
    have qv:=Aside0.mk (show qo.length ≤ c0 from by omega)
    clear wc wj hroom23 qx wh
    have ux:=Aside0.mk wa
    clear wa
    replace q23:=eq_true q23
    refine hK.out _ _ ⟨(blk_cell qb.out 0).trans rfl,(blk_cell qb.out 1).trans rfl,(blk_cell qb.out 2).trans rfl,(blk_cell qb.out 3).trans rfl,(blk_cell qb.out 4).trans rfl,(blk_cell qb.out 5).trans rfl,(blk_cell qb.out 6).trans rfl⟩ (fun hHeld=>?_)
    clear hK K
    refine norm_ (a':=?_) ?_ ?_
    rotate_left
    ·show Act.put _ (some 13) _ = _
     simp only [Act.put,List.setIfInBounds_toArray,List.set_cons_zero,List.set_cons_succ,i64_w,i32_w]
     rfl
    refine pure_ (i:=2) (N:=some 14) (v:=?_) (a':=?_) #[true,true,true,false,false,false,false,false,false,false] rfl rfl (any_of HT_.out (by kernel_rfl)) (fun _ _ _ h=>h) (Or.inl ⟨by rfl,?_⟩) ?_ ?_
    rotate_left
    ·intro w'
     go_simp
     with_reducible rfl
    rotate_left
    ·exact z31a
    refine pure_ (i:=3) (N:=some 15) (v:=?_) (a':=?_) #[true,true,true,true,false,false,false,false,false,false] rfl rfl (any_of HT_.out (by kernel_rfl)) (fun _ _ _ h=>h) (Or.inl ⟨by rfl,?_⟩) ?_ ?_
    rotate_left
    ·intro w'
     go_simp
     with_reducible rfl
    rotate_left
    ·exact z31a
    refine pure_ (i:=4) (N:=some 16) (v:=?_) (a':=?_) #[true,true,true,true,true,false,false,false,false,false] rfl rfl (any_of HT_.out (by kernel_rfl)) (fun _ _ _ h=>h) (Or.inl ⟨by rfl,?_⟩) ?_ ?_
    rotate_left
    ·intro w'
     go_simp
     with_reducible rfl
    rotate_left
    ·exact z31a
    refine pure_ (i:=5) (N:=some 17) (v:=?_) (a':=?_) #[true,true,true,true,true,true,false,false,false,false] rfl rfl (any_of HT_.out (by kernel_rfl)) (fun _ _ _ h=>h) (Or.inl ⟨by rfl,?_⟩) ?_ ?_
    rotate_left
    ·intro w'
     go_simp
     with_reducible rfl
    rotate_left
    ·exact z31a
    refine pure_ (i:=6) (N:=some 18) (v:=?_) (a':=?_) #[true,true,true,true,true,true,true,false,false,false] rfl rfl (any_of HT_.out (by kernel_rfl)) (fun _ _ _ h=>h) (Or.inl ⟨by rfl,?_⟩) ?_ ?_
    rotate_left
    ·intro w'
     go_simp
     with_reducible rfl
    rotate_left
    ·exact z31a
    refine take_ (i:=7) (N:=some 19) (v:=?_) (a':=?_) #[true,true,true,true,true,true,true,true,false,false] rfl rfl (take_ofW HT_.out HW_.out (by kernel_rfl)) (fun _ _ _ h=>h) (Or.inl ⟨by rfl,?_⟩) hHeld ?_ ?_
    rotate_left
    ·rintro w' ⟨s0,s1,s2,s3,s4,s5,s6⟩
     go_simp
     with_reducible rfl
    rotate_left
    ·exact z31a
    refine one_ (i:=8) (N:=some 20) #[true,true,true,true,true,true,true,true,true,false] rfl rfl (one_of HT_.out (by kernel_rfl)) (by decide) (fun K hK=>?_)
    refine goes_ Try.func146 (by kernel_rfl) rfl #[.slice (some ql) qo.length c0,.agg #[.int .i64 ((rd_T41 l0 qa).f0),.int .i64 ((rd_T41 l0 qa).f1),.int .i64 ((rd_T41 l0 qa).f2),.int .i64 ((rd_T41 l0 qa).f3),.int .i64 ((rd_T41 l0 qa).f4),.int .i64 ((rd_T41 l0 qa).f5),.int .i64 ((rd_T41 l0 qa).f6)]] (by rfl) rfl rfl z31x2 ?_
    with_reducible refine (impl_Seal_146.calls k1 _ _ qo ((rd_T41 l0 qa).f0) ((rd_T41 l0 qa).f1) ((rd_T41 l0 qa).f2) ((rd_T41 l0 qa).f3) ((rd_T41 l0 qa).f4) ((rd_T41 l0 qa).f5) ((rd_T41 l0 qa).f6) false _ ?side1 ?side2 A9.out).mono ?_
    (case side1=>repeat (first|exact (Kd.C_below qu.out HB.out)|(with_reducible refine Kd.C_alloc ?_ _)|(with_reducible refine Kd.C_drewN ?_ _)|(with_reducible refine Kd.C_drew ?_)))
    (case side2=>exact qv.out)
    rintro e w24 ⟨rfl,hb⟩
    refine ⟨_,rfl,?_⟩
    have n0_:=Aside0.mk (blk_below (g:=qc) (o:=.cells #[.int .i64 ((rd_T41 l0 qa).f0),.int .i64 ((rd_T41 l0 qa).f1),.int .i64 ((rd_T41 l0 qa).f2),.int .i64 ((rd_T41 l0 qa).f3),.int .i64 ((rd_T41 l0 qa).f4),.int .i64 ((rd_T41 l0 qa).f5),.int .i64 ((rd_T41 l0 qa).f6)] 41 (0,0)) z31x4 hb)
    have n1_:=Aside0.mk (below_step z31x0 hb)
    clear qb
    clear HB
    have qb:=n0_
    have HB:=n1_
    clear n0_ n1_
    (try clear hb)
    (try clear hb2)
    (try clear hk)
    (try clear hi)
    refine hK.out _ _ ⟨(blk_cell qb.out 0).trans rfl,(blk_cell qb.out 1).trans rfl,(blk_cell qb.out 2).trans rfl,(blk_cell qb.out 3).trans rfl,(blk_cell qb.out 4).trans rfl,(blk_cell qb.out 5).trans rfl,(blk_cell qb.out 6).trans rfl⟩ (fun hHeld=>?_)
    clear hK K
    refine norm_ (a':=?_) ?_ ?_
    rotate_left
    ·show Act.put _ (some 20) _ = _
     simp only [Act.put,List.setIfInBounds_toArray,List.set_cons_zero,List.set_cons_succ,i64_w,i32_w]
     rfl
    refine pure_ (i:=9) (N:=some 21) (v:=?_) (a':=?_) #[true,true,true,true,true,true,true,true,true,true] rfl rfl (any_of HT_.out (by kernel_rfl)) (fun _ _ _ h=>h) (Or.inl ⟨by rfl,?_⟩) ?_ ?_
    rotate_left
    ·intro w'
     go_simp
     with_reducible rfl
    rotate_left
    ·exact z31a
    refine done_ (done_of HT_.out (by kernel_rfl)) ?_
    try go_wp2
    go_roundg k1
    case measure=>have:=HK1.out;omega
    case rel=>exact ⟨(wrap64 (qa + 1)),(by first|rfl|(simp;done)|(simp [*];done)),H',⟨by have:=HK1.out;omega⟩,⟨by repeat (first|(with_reducible first|exact HB.out|apply below_alloc|apply pw_below_drewN|apply below_drew1|refine below_set ?_ qk.out)|exact HB.out)⟩⟩

end Go.Proofs.Ytbipicjijbnbbaa.Hp
