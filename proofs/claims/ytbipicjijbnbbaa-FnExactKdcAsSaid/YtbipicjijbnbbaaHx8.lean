-- hp.py
import Derived.Test.YtbipicjijbnbbaaHx0
import Derived.Test.YtbipicjijbnbbaaHx6
import Derived.Test.YtbipicjijbnbbaaHx7
namespace Go.Proofs.Ytbipicjijbnbbaa.Hp
open Go.RowKit Go.Proofs.YtbipicjijbnbbaaW.PrintWords Go.Proofs.YtbipicjijbnbbaaW.PrintLast Go.Proofs.YtbipicjijbnbbaaW.PrintMore
attribute [local go_sem] max2_int min2_int max_two min_two max_three min_three max_four min_four   -- for this text's walks alone
set_option linter.unusedVariables false
set_option linter.unusedSimpArgs false
theorem z8a {P : Prop} (h : P:=by simp only [Act.put,List.setIfInBounds_toArray,List.set_cons_zero,List.set_cons_succ,i64_w,i32_w];rfl) : P:=h
-- squeezed by wip/tools/squeeze.py
theorem z8x1 {P : Prop} (h : P:=by repeat (first|(with_reducible first|exact HB.out|apply below_alloc|apply pw_below_drewN|apply below_drew1)|exact HB.out)) : P:=h
theorem z8x0 {P : Prop} (h : P:=by (try simp only [List.map_toArray,List.map_cons,List.map_nil]);first|done|rfl|(simp only [List.length_drop,List.length_take];rfl)) : P:=h

/-! ### spec_l11Cache: function 92 -/
def spec_l11Cache.l0 : Nat → List (S41) → Int → Option (Bool)
 | 0,_,_=>none
 | k + 1,x0,x3=>if x3 < (x0.length : Int) then (if 0 ≤ x3 then (if ((rd_T41 x0 x3).f1) = 3 then ((spec_SealOk.f ((rd_T41 x0 x3).f0) ((rd_T41 x0 x3).f1) ((rd_T41 x0 x3).f2) ((rd_T41 x0 x3).f3) ((rd_T41 x0 x3).f4) ((rd_T41 x0 x3).f5) ((rd_T41 x0 x3).f6)).bind fun vx=>(if vx = true then (if x3 ≤ (x0.length : Int) then ((spec_l3Among.f k (x0.take (x3 : Int).toNat) ((rd_T41 x0 x3).f0) ((rd_T41 x0 x3).f1) ((rd_T41 x0 x3).f2) ((rd_T41 x0 x3).f3) ((rd_T41 x0 x3).f4) ((rd_T41 x0 x3).f5) ((rd_T41 x0 x3).f6)).bind fun vl=>(if vl = true then (some false) else (spec_l11Cache.l0 k x0 (wrap64 (x3 + 1))))) else (none)) else (some false))) else (some false)) else (none)) else (some (decide ((x0.length : Int) ≤ 20)))
def spec_l11Cache.f (k : Nat) (l0 : List (S41)) : Option (Bool):=spec_l11Cache.l0 k l0 0
theorem spec_l11Cache.mono_l : ∀ k,(∀ y0 y1,LeO (spec_l11Cache.l0 k y0 y1) (spec_l11Cache.l0 (k + 1) y0 y1))
 | 0=>fun _ _ r h=>by simp [spec_l11Cache.l0] at h
 | k + 1=>by
  have ih0:=spec_l11Cache.mono_l k
  ·intro y0 y1
   unfold spec_l11Cache.l0
   repeat' first
   | (with_reducible exact ih0 _ _)
   | (with_reducible exact spec_l3Among.mono _ _ _ _ _ _ _ _ _)
   | (with_reducible exact LeO.refl _)
   | (with_reducible exact LeO.none _)
   | (with_reducible refine LeO.ite ?_ ?_)
   | (with_reducible refine LeO.bind ?_ (fun _=>?_))
   | exact ih0 _ _
   | exact spec_l3Among.mono _ _ _ _ _ _ _ _ _
   | exact LeO.none _
   | refine LeO.ite ?_ ?_
   | refine LeO.bind ?_ (fun _=>?_)
theorem spec_l11Cache.mono : ∀ a0 k,LeO (spec_l11Cache.f k a0) (spec_l11Cache.f (k + 1) a0):=by
 intro a0 k
 have ih0:=spec_l11Cache.mono_l k
 unfold spec_l11Cache.f
 repeat' first
   | (with_reducible exact ih0 _ _)
   | (with_reducible exact spec_l3Among.mono _ _ _ _ _ _ _ _ _)
   | (with_reducible exact LeO.refl _)
   | (with_reducible exact LeO.none _)
   | (with_reducible refine LeO.ite ?_ ?_)
   | (with_reducible refine LeO.bind ?_ (fun _=>?_))
   | exact ih0 _ _
   | exact spec_l3Among.mono _ _ _ _ _ _ _ _ _
   | exact LeO.none _
   | refine LeO.ite ?_ ?_
   | refine LeO.bind ?_ (fun _=>?_)
def spec_l11Cache.T4 : Bool × List (List Nat × List Nat):=(true,[([],[]),([],[]),([0,1],[0,1]),([2],[2]),([3],[3]),([4],[4]),([5],[5]),([6],[6]),([6],[6]),([7,8,6],[6,7,8]),([9,6],[6,9]),([10,6,6],[6,10]),([11,6],[6,11]),([6,12],[6,12]),([13,11],[13]),([14],[14]),([14],[14]),([15,16,14],[14,15,16]),([14],[14]),([14],[14]),([18,19,14],[14,18,19]),([20,14],[14,20]),([17,21,14,14],[14,17,21]),([14,22],[14,22])])
def spec_l11Cache.B4 : List Nat:=[0,0,3,7,15,31,63,127,127,511,1023,2047,4095,8191,16383,32767,32767,131071,32767,32767,819199,1867775,4194303,8388607]
theorem spec_l11Cache.tab4 : rtab .any (opsOf Try.f92 4) = spec_l11Cache.T4:=by kernel_rfl
theorem spec_l11Cache.bits4 : waitsOk spec_l11Cache.T4.2 spec_l11Cache.B4 = true:=by kernel_rfl
set_option maxHeartbeats 8000000 in
set_option maxRecDepth 100000 in
theorem spec_l11Cache.calls (k : Nat) (A0 : Option Addr) (c0 : Nat) (l0 : List (S41)) (r : Bool) (w : World) (hr0 : Kd.C k41 w A0 l0.length l0) (hc0 : l0.length ≤ c0) (h : spec_l11Cache.f k l0 = some r) :
  Calls Try.prog 92 #[.slice A0 l0.length c0] w fun e w' => e = .returned (.bool r) ∧ Below w.heap.size w w':=by
 have ur:=Try.underlying41
 have HR0:=Aside0.mk hr0
 have HC0:=Aside0.mk hc0
 clear hr0 hc0
 have HB:=Aside0.mk (Below.refl w.heap.size w)
 have H : (spec_l11Cache.l0 k l0 0) = some r:=h
 clear h
 have H':=Aside0.mk H
 clear H
 go_enter Try.func92,Try.ntmps92
 go_wp2
 go_loopg [3] k (fun kq v3 w' => ∃ (qa : Int),v3 = .int .i64 qa ∧ Aside0 (spec_l11Cache.l0 kq l0 qa = some r) ∧ Aside0 (kq ≤ k) ∧ Aside0 (Below w.heap.size w w'))
 case atStart=>exact ⟨(0),(by first|rfl|(simp;done)|(simp [*];done)),H',⟨Nat.le_refl _⟩,⟨by repeat (first|(with_reducible first|exact HB.out|apply below_alloc|apply pw_below_drewN|apply below_drew1)|exact HB.out)⟩⟩
 case round =>
  clear H'
  obtain ⟨qa,rfl,HA,HK1,HB⟩:=hrel
  cases gk with
  | zero=>exact absurd HA.out (by simp [spec_l11Cache.l0])
  | succ k1 =>
   have H:=HA.out
   clear HA
   simp only [spec_l11Cache.l0] at H
   by_cases c2 : qa < (l0.length : Int)
   rotate_left
   ·rw [if_neg c2] at H
    have un : decide (qa < (l0.length : Int)) = false:=decide_eq_false c2
    clear c2
    obtain rfl:=Option.some.inj H
    go_wp2
    go_ret
    exact ⟨by first|rfl|(simp [errW_none,errW_some] <;> rfl)|(simp [*,errW_none,errW_some] <;> rfl),by repeat (first|(with_reducible first|exact HB.out|apply below_alloc|apply pw_below_drewN|apply below_drew1)|exact HB.out)⟩
   rw [if_pos c2] at H
   have un : decide (qa < (l0.length : Int)) = true:=decide_eq_true c2
   clear c2
   by_cases c3 : 0 ≤ qa
   rotate_left
   ·rw [if_neg c3] at H
    exact absurd H (by simp)
   rw [if_pos c3] at H
   have uv : decide (0 ≤ qa) = true:=decide_eq_true c3
   clear c3
   by_cases c4 : ((rd_T41 l0 qa).f1) = 3
   rotate_left
   ·rw [if_neg c4] at H
    have um : (((rd_T41 l0 qa).f1) == 3) = false:=beq_eq_false_iff_ne.mpr c4
    have ul : (((rd_T41 l0 qa).f1) != 3) = true:=bne_iff_ne.mpr c4
    obtain rfl:=Option.some.inj H
    try go_wp2
    have n0_:=Aside0.mk (below_drew1 HB.out)
    clear HB
    have HB:=n0_
    clear n0_
    have wx : 0 ≤ (qa : Int):=of_decide_eq_true (by first|(with_reducible assumption)|assumption)
    have ww : qa < (l0.length : Int):=of_decide_eq_true (by first|(with_reducible assumption)|assumption)
    obtain ⟨qb,vq,qi,qh,qg,qf,qe,qd,qc⟩:=at_T41 HR0.out qa wx ww
    have qj:=qc
    have qk:=qd
    have ql:=qe
    have qm:=qf
    have qn:=qg
    have qo:=qh
    have qp:=qi
    cases vq
    replace qi:=(HB.out.cell (World.block_lt_of_cell? w _ qi)).trans qi
    replace qh:=(HB.out.cell (World.block_lt_of_cell? w _ qh)).trans qh
    replace qg:=(HB.out.cell (World.block_lt_of_cell? w _ qg)).trans qg
    replace qf:=(HB.out.cell (World.block_lt_of_cell? w _ qf)).trans qf
    replace qe:=(HB.out.cell (World.block_lt_of_cell? w _ qe)).trans qe
    replace qd:=(HB.out.cell (World.block_lt_of_cell? w _ qd)).trans qd
    replace qc:=(HB.out.cell (World.block_lt_of_cell? w _ qc)).trans qc
    replace wx:=eq_true wx
    replace ww:=eq_true ww
    refine start_ (n:=24) (S:=fun w' => w'.cell? (qb.add ((qa).toNat * 7)) = some (.int .i64 ((rd_T41 l0 qa).f0)) ∧ w'.cell? ⟨(qb.add ((qa).toNat * 7)).block,(qb.add ((qa).toNat * 7)).off + 1,none⟩ = some (.int .i64 ((rd_T41 l0 qa).f1)) ∧ w'.cell? ⟨(qb.add ((qa).toNat * 7)).block,(qb.add ((qa).toNat * 7)).off + 2,none⟩ = some (.int .i64 ((rd_T41 l0 qa).f2)) ∧ w'.cell? ⟨(qb.add ((qa).toNat * 7)).block,(qb.add ((qa).toNat * 7)).off + 3,none⟩ = some (.int .i64 ((rd_T41 l0 qa).f3)) ∧ w'.cell? ⟨(qb.add ((qa).toNat * 7)).block,(qb.add ((qa).toNat * 7)).off + 4,none⟩ = some (.int .i64 ((rd_T41 l0 qa).f4)) ∧ w'.cell? ⟨(qb.add ((qa).toNat * 7)).block,(qb.add ((qa).toNat * 7)).off + 5,none⟩ = some (.int .i64 ((rd_T41 l0 qa).f5)) ∧ w'.cell? ⟨(qb.add ((qa).toNat * 7)).block,(qb.add ((qa).toNat * 7)).off + 6,none⟩ = some (.int .i64 ((rd_T41 l0 qa).f6))) (ds:=[]) #[false,false,false,false,false,false,false,false,false,false,false,false,false,false,false,false,false,false,false,false,false,false,false,false] (by kernel_rfl) rfl rfl ⟨((HB.out.cell (World.block_lt_of_cell? w _ qp)).trans qp),((HB.out.cell (World.block_lt_of_cell? w _ qo)).trans qo),((HB.out.cell (World.block_lt_of_cell? w _ qn)).trans qn),((HB.out.cell (World.block_lt_of_cell? w _ qm)).trans qm),((HB.out.cell (World.block_lt_of_cell? w _ ql)).trans ql),((HB.out.cell (World.block_lt_of_cell? w _ qk)).trans qk),((HB.out.cell (World.block_lt_of_cell? w _ qj)).trans qj)⟩ (fun hHeld=>?_);refine with_tabW spec_l11Cache.tab4 spec_l11Cache.bits4 (fun HT_ HW_=>?_)
    generalize wr.drew = w21 at HB qi qh qg qf qe qd qc hHeld ⊢
    refine pure_ (i:=0) (N:=some 10) (v:=?_) (a':=?_) #[true,false,false,false,false,false,false,false,false,false,false,false,false,false,false,false,false,false,false,false,false,false,false,false] rfl rfl (any_of HT_.out (by kernel_rfl)) (fun _ _ _ h=>h) (Or.inl ⟨by rfl,?_⟩) ?_ ?_
    rotate_left
    ·intro w'
     go_simp
     with_reducible rfl
    rotate_left
    ·exact z8a
    refine pure_ (i:=1) (N:=some 11) (v:=?_) (a':=?_) #[true,true,false,false,false,false,false,false,false,false,false,false,false,false,false,false,false,false,false,false,false,false,false,false] rfl rfl (any_of HT_.out (by kernel_rfl)) (fun _ _ _ h=>h) (Or.inl ⟨by rfl,?_⟩) ?_ ?_
    rotate_left
    ·intro w'
     go_simp
     with_reducible rfl
    rotate_left
    ·exact z8a
    refine pure_ (i:=2) (N:=some 12) (v:=?_) (a':=?_) #[true,true,true,false,false,false,false,false,false,false,false,false,false,false,false,false,false,false,false,false,false,false,false,false] rfl rfl (any_of HT_.out (by kernel_rfl)) (fun _ _ _ h=>h) (Or.inl ⟨by rfl,?_⟩) ?_ ?_
    rotate_left
    ·intro w'
     go_simp
     with_reducible rfl
    rotate_left
    ·exact z8a
    refine pure_ (i:=3) (N:=some 13) (v:=?_) (a':=?_) #[true,true,true,true,false,false,false,false,false,false,false,false,false,false,false,false,false,false,false,false,false,false,false,false] rfl rfl (any_of HT_.out (by kernel_rfl)) (fun _ _ _ h=>h) (Or.inl ⟨by rfl,?_⟩) ?_ ?_
    rotate_left
    ·intro w'
     go_simp
     with_reducible rfl
    rotate_left
    ·exact z8a
    refine take_ (i:=4) (N:=some 14) (v:=?_) (a':=?_) #[true,true,true,true,true,false,false,false,false,false,false,false,false,false,false,false,false,false,false,false,false,false,false,false] rfl rfl (take_ofW HT_.out HW_.out (by kernel_rfl)) (fun _ _ _ h=>h) (Or.inl ⟨by rfl,?_⟩) hHeld ?_ ?_
    rotate_left
    ·rintro w' ⟨s0,s1,s2,s3,s4,s5,s6⟩
     go_simp
     with_reducible rfl
    rotate_left
    ·exact z8a
    refine pure_ (i:=5) (N:=some 15) (v:=?_) (a':=?_) #[true,true,true,true,true,true,false,false,false,false,false,false,false,false,false,false,false,false,false,false,false,false,false,false] rfl rfl (any_of HT_.out (by kernel_rfl)) (fun _ _ _ h=>h) (Or.inl ⟨by rfl,?_⟩) ?_ ?_
    rotate_left
    ·intro w'
     go_simp
     with_reducible rfl
    rotate_left
    ·exact z8a
    refine pure_ (i:=6) (N:=some 16) (v:=?_) (a':=?_) #[true,true,true,true,true,true,true,false,false,false,false,false,false,false,false,false,false,false,false,false,false,false,false,false] rfl rfl (any_of HT_.out (by kernel_rfl)) (fun _ _ _ h=>h) (Or.inl ⟨by rfl,?_⟩) ?_ ?_
    rotate_left
    ·intro w'
     go_simp
     with_reducible rfl
    rotate_left
    ·exact z8a
    refine pure_ (i:=7) (N:=some 17) (v:=undef) (a':=?_) #[true,true,true,true,true,true,true,true,false,false,false,false,false,false,false,false,false,false,false,false,false,false,false,false] rfl rfl (any_of HT_.out (by kernel_rfl)) (fun _ _ _ h=>h) (Or.inr ⟨by rfl,rfl⟩) ?_ ?_
    rotate_left
    ·exact z8a
    refine pure_ (i:=8) (N:=some 18) (v:=undef) (a':=?_) #[true,true,true,true,true,true,true,true,true,false,false,false,false,false,false,false,false,false,false,false,false,false,false,false] rfl rfl (any_of HT_.out (by kernel_rfl)) (fun _ _ _ h=>h) (Or.inr ⟨by rfl,rfl⟩) ?_ ?_
    rotate_left
    ·exact z8a
    refine pure_ (i:=9) (N:=some 19) (v:=undef) (a':=?_) #[true,true,true,true,true,true,true,true,true,true,false,false,false,false,false,false,false,false,false,false,false,false,false,false] rfl rfl (any_of HT_.out (by kernel_rfl)) (fun _ _ _ h=>h) (Or.inr ⟨by rfl,rfl⟩) ?_ ?_
    rotate_left
    ·exact z8a
    refine pure_ (i:=10) (N:=some 20) (v:=undef) (a':=?_) #[true,true,true,true,true,true,true,true,true,true,true,false,false,false,false,false,false,false,false,false,false,false,false,false] rfl rfl (any_of HT_.out (by kernel_rfl)) (fun _ _ _ h=>h) (Or.inr ⟨by rfl,rfl⟩) ?_ ?_
    rotate_left
    ·exact z8a
    refine pure_ (i:=11) (N:=some 21) (v:=undef) (a':=?_) #[true,true,true,true,true,true,true,true,true,true,true,true,false,false,false,false,false,false,false,false,false,false,false,false] rfl rfl (any_of HT_.out (by kernel_rfl)) (fun _ _ _ h=>h) (Or.inr ⟨by rfl,rfl⟩) ?_ ?_
    rotate_left
    ·exact z8a
    refine pure_ (i:=12) (N:=some 22) (v:=undef) (a':=?_) #[true,true,true,true,true,true,true,true,true,true,true,true,true,false,false,false,false,false,false,false,false,false,false,false] rfl rfl (any_of HT_.out (by kernel_rfl)) (fun _ _ _ h=>h) (Or.inr ⟨by rfl,rfl⟩) ?_ ?_
    rotate_left
    ·exact z8a
    refine pure_ (i:=13) (N:=some 23) (v:=?_) (a':=?_) #[true,true,true,true,true,true,true,true,true,true,true,true,true,true,false,false,false,false,false,false,false,false,false,false] rfl rfl (any_of HT_.out (by kernel_rfl)) (fun _ _ _ h=>h) (Or.inl ⟨by rfl,?_⟩) ?_ ?_
    rotate_left
    ·intro w'
     go_simp
     with_reducible rfl
    rotate_left
    ·exact z8a
    refine pure_ (i:=14) (N:=some 24) (v:=?_) (a':=?_) #[true,true,true,true,true,true,true,true,true,true,true,true,true,true,true,false,false,false,false,false,false,false,false,false] rfl rfl (any_of HT_.out (by kernel_rfl)) (fun _ _ _ h=>h) (Or.inl ⟨by rfl,?_⟩) ?_ ?_
    rotate_left
    ·intro w'
     go_simp
     with_reducible rfl
    rotate_left
    ·exact z8a
    refine pure_ (i:=15) (N:=some 25) (v:=undef) (a':=?_) #[true,true,true,true,true,true,true,true,true,true,true,true,true,true,true,true,false,false,false,false,false,false,false,false] rfl rfl (any_of HT_.out (by kernel_rfl)) (fun _ _ _ h=>h) (Or.inr ⟨by rfl,rfl⟩) ?_ ?_
    rotate_left
    ·exact z8a
    refine pure_ (i:=16) (N:=some 26) (v:=undef) (a':=?_) #[true,true,true,true,true,true,true,true,true,true,true,true,true,true,true,true,true,false,false,false,false,false,false,false] rfl rfl (any_of HT_.out (by kernel_rfl)) (fun _ _ _ h=>h) (Or.inr ⟨by rfl,rfl⟩) ?_ ?_
    rotate_left
    ·exact z8a
    refine pure_ (i:=17) (N:=some 27) (v:=undef) (a':=?_) #[true,true,true,true,true,true,true,true,true,true,true,true,true,true,true,true,true,true,false,false,false,false,false,false] rfl rfl (any_of HT_.out (by kernel_rfl)) (fun _ _ _ h=>h) (Or.inr ⟨by rfl,rfl⟩) ?_ ?_
    rotate_left
    ·exact z8a
    refine pure_ (i:=18) (N:=some 28) (v:=undef) (a':=?_) #[true,true,true,true,true,true,true,true,true,true,true,true,true,true,true,true,true,true,true,false,false,false,false,false] rfl rfl (any_of HT_.out (by kernel_rfl)) (fun _ _ _ h=>h) (Or.inr ⟨by rfl,rfl⟩) ?_ ?_
    rotate_left
    ·exact z8a
    refine pure_ (i:=19) (N:=some 29) (v:=undef) (a':=?_) #[true,true,true,true,true,true,true,true,true,true,true,true,true,true,true,true,true,true,true,true,false,false,false,false] rfl rfl (any_of HT_.out (by kernel_rfl)) (fun _ _ _ h=>h) (Or.inr ⟨by rfl,rfl⟩) ?_ ?_
    rotate_left
    ·exact z8a
    refine pure_ (i:=20) (N:=some 30) (v:=undef) (a':=?_) #[true,true,true,true,true,true,true,true,true,true,true,true,true,true,true,true,true,true,true,true,true,false,false,false] rfl rfl (any_of HT_.out (by kernel_rfl)) (fun _ _ _ h=>h) (Or.inr ⟨by rfl,rfl⟩) ?_ ?_
    rotate_left
    ·exact z8a
    refine pure_ (i:=21) (N:=some 31) (v:=undef) (a':=?_) #[true,true,true,true,true,true,true,true,true,true,true,true,true,true,true,true,true,true,true,true,true,true,false,false] rfl rfl (any_of HT_.out (by kernel_rfl)) (fun _ _ _ h=>h) (Or.inr ⟨by rfl,rfl⟩) ?_ ?_
    rotate_left
    ·exact z8a
    refine pure_ (i:=22) (N:=some 32) (v:=undef) (a':=?_) #[true,true,true,true,true,true,true,true,true,true,true,true,true,true,true,true,true,true,true,true,true,true,true,false] rfl rfl (any_of HT_.out (by kernel_rfl)) (fun _ _ _ h=>h) (Or.inr ⟨by rfl,rfl⟩) ?_ ?_
    rotate_left
    ·exact z8a
    refine pure_ (i:=23) (N:=some 33) (v:=?_) (a':=?_) #[true,true,true,true,true,true,true,true,true,true,true,true,true,true,true,true,true,true,true,true,true,true,true,true] rfl rfl (any_of HT_.out (by kernel_rfl)) (fun _ _ _ h=>h) (Or.inl ⟨by rfl,?_⟩) ?_ ?_
    rotate_left
    ·intro w'
     go_simp
     with_reducible rfl
    rotate_left
    ·exact z8a
    refine done_ (done_of HT_.out (by kernel_rfl)) ?_
    try go_wp2
    go_ret
    exact ⟨by first|rfl|(simp [errW_none,errW_some] <;> rfl)|(simp [*,errW_none,errW_some] <;> rfl),by repeat (first|(with_reducible first|exact HB.out|apply below_alloc|apply pw_below_drewN|apply below_drew1)|exact HB.out)⟩
   rw [if_pos c4] at H
   have um : (((rd_T41 l0 qa).f1) == 3) = true:=beq_iff_eq.mpr c4
   have ul : (((rd_T41 l0 qa).f1) != 3) = false:=bne_eq_false_iff_eq.mpr c4
   clear c4
   replace H:=Option.bind_eq_some_iff.mp H
   obtain ⟨vx,A50,H⟩:=H
   replace H : (if vx = true then (if qa ≤ (l0.length : Int) then ((spec_l3Among.f k1 (l0.take (qa : Int).toNat) ((rd_T41 l0 qa).f0) ((rd_T41 l0 qa).f1) ((rd_T41 l0 qa).f2) ((rd_T41 l0 qa).f3) ((rd_T41 l0 qa).f4) ((rd_T41 l0 qa).f5) ((rd_T41 l0 qa).f6)).bind fun vl=>(if vl = true then (some false) else (spec_l11Cache.l0 k1 l0 (wrap64 (qa + 1))))) else (none)) else (some false)) = some r:=H
   have A5:=Aside0.mk A50
   clear A50
   by_cases c6 : vx = true
   rotate_left
   ·replace c6:=Bool.eq_false_iff.mpr c6
    subst c6
    rw [if_neg (show ¬ (false = true) by decide)] at H
    obtain rfl:=Option.some.inj H
    try go_wp2
    have n0_:=Aside0.mk (below_drew1 HB.out)
    clear HB
    have HB:=n0_
    clear n0_
    have wx : 0 ≤ (qa : Int):=of_decide_eq_true (by first|(with_reducible assumption)|assumption)
    have ww : qa < (l0.length : Int):=of_decide_eq_true (by first|(with_reducible assumption)|assumption)
    obtain ⟨qb,vq,qi,qh,qg,qf,qe,qd,qc⟩:=at_T41 HR0.out qa wx ww
    have qj:=qc
    have qk:=qd
    have ql:=qe
    have qm:=qf
    have qn:=qg
    have qo:=qh
    have qp:=qi
    cases vq
    replace qi:=(HB.out.cell (World.block_lt_of_cell? w _ qi)).trans qi
    replace qh:=(HB.out.cell (World.block_lt_of_cell? w _ qh)).trans qh
    replace qg:=(HB.out.cell (World.block_lt_of_cell? w _ qg)).trans qg
    replace qf:=(HB.out.cell (World.block_lt_of_cell? w _ qf)).trans qf
    replace qe:=(HB.out.cell (World.block_lt_of_cell? w _ qe)).trans qe
    replace qd:=(HB.out.cell (World.block_lt_of_cell? w _ qd)).trans qd
    replace qc:=(HB.out.cell (World.block_lt_of_cell? w _ qc)).trans qc
    replace wx:=eq_true wx
    replace ww:=eq_true ww
    have wz : 0 ≤ (qa : Int):=of_decide_eq_true (by first|(with_reducible assumption)|assumption)
    have wy : qa < (l0.length : Int):=of_decide_eq_true (by first|(with_reducible assumption)|assumption)
    obtain ⟨vn,vt,we,wd,wc,wb,wa,qz,qy⟩:=at_T41 HR0.out qa wz wy
    have qq:=qy
    have qr:=qz
    have qt:=wa
    have qu:=wb
    have qv:=wc
    have qw:=wd
    have qx:=we
    obtain rfl : qb = vn:=(by injection vt)
    replace we:=(HB.out.cell (World.block_lt_of_cell? w _ we)).trans we
    replace wd:=(HB.out.cell (World.block_lt_of_cell? w _ wd)).trans wd
    replace wc:=(HB.out.cell (World.block_lt_of_cell? w _ wc)).trans wc
    replace wb:=(HB.out.cell (World.block_lt_of_cell? w _ wb)).trans wb
    replace wa:=(HB.out.cell (World.block_lt_of_cell? w _ wa)).trans wa
    replace qz:=(HB.out.cell (World.block_lt_of_cell? w _ qz)).trans qz
    replace qy:=(HB.out.cell (World.block_lt_of_cell? w _ qy)).trans qy
    replace wz:=eq_true wz
    replace wy:=eq_true wy
    refine start_ (n:=24) (S:=fun w' => w'.cell? (qb.add ((qa).toNat * 7)) = some (.int .i64 ((rd_T41 l0 qa).f0)) ∧ w'.cell? ⟨(qb.add ((qa).toNat * 7)).block,(qb.add ((qa).toNat * 7)).off + 1,none⟩ = some (.int .i64 ((rd_T41 l0 qa).f1)) ∧ w'.cell? ⟨(qb.add ((qa).toNat * 7)).block,(qb.add ((qa).toNat * 7)).off + 2,none⟩ = some (.int .i64 ((rd_T41 l0 qa).f2)) ∧ w'.cell? ⟨(qb.add ((qa).toNat * 7)).block,(qb.add ((qa).toNat * 7)).off + 3,none⟩ = some (.int .i64 ((rd_T41 l0 qa).f3)) ∧ w'.cell? ⟨(qb.add ((qa).toNat * 7)).block,(qb.add ((qa).toNat * 7)).off + 4,none⟩ = some (.int .i64 ((rd_T41 l0 qa).f4)) ∧ w'.cell? ⟨(qb.add ((qa).toNat * 7)).block,(qb.add ((qa).toNat * 7)).off + 5,none⟩ = some (.int .i64 ((rd_T41 l0 qa).f5)) ∧ w'.cell? ⟨(qb.add ((qa).toNat * 7)).block,(qb.add ((qa).toNat * 7)).off + 6,none⟩ = some (.int .i64 ((rd_T41 l0 qa).f6)) ∧ w'.cell? (qb.add ((qa).toNat * 7)) = some (.int .i64 ((rd_T41 l0 qa).f0)) ∧ w'.cell? ⟨(qb.add ((qa).toNat * 7)).block,(qb.add ((qa).toNat * 7)).off + 1,none⟩ = some (.int .i64 ((rd_T41 l0 qa).f1)) ∧ w'.cell? ⟨(qb.add ((qa).toNat * 7)).block,(qb.add ((qa).toNat * 7)).off + 2,none⟩ = some (.int .i64 ((rd_T41 l0 qa).f2)) ∧ w'.cell? ⟨(qb.add ((qa).toNat * 7)).block,(qb.add ((qa).toNat * 7)).off + 3,none⟩ = some (.int .i64 ((rd_T41 l0 qa).f3)) ∧ w'.cell? ⟨(qb.add ((qa).toNat * 7)).block,(qb.add ((qa).toNat * 7)).off + 4,none⟩ = some (.int .i64 ((rd_T41 l0 qa).f4)) ∧ w'.cell? ⟨(qb.add ((qa).toNat * 7)).block,(qb.add ((qa).toNat * 7)).off + 5,none⟩ = some (.int .i64 ((rd_T41 l0 qa).f5)) ∧ w'.cell? ⟨(qb.add ((qa).toNat * 7)).block,(qb.add ((qa).toNat * 7)).off + 6,none⟩ = some (.int .i64 ((rd_T41 l0 qa).f6))) (ds:=[]) #[false,false,false,false,false,false,false,false,false,false,false,false,false,false,false,false,false,false,false,false,false,false,false,false] (by kernel_rfl) rfl rfl ⟨((HB.out.cell (World.block_lt_of_cell? w _ qp)).trans qp),((HB.out.cell (World.block_lt_of_cell? w _ qo)).trans qo),((HB.out.cell (World.block_lt_of_cell? w _ qn)).trans qn),((HB.out.cell (World.block_lt_of_cell? w _ qm)).trans qm),((HB.out.cell (World.block_lt_of_cell? w _ ql)).trans ql),((HB.out.cell (World.block_lt_of_cell? w _ qk)).trans qk),((HB.out.cell (World.block_lt_of_cell? w _ qj)).trans qj),((HB.out.cell (World.block_lt_of_cell? w _ qx)).trans qx),((HB.out.cell (World.block_lt_of_cell? w _ qw)).trans qw),((HB.out.cell (World.block_lt_of_cell? w _ qv)).trans qv),((HB.out.cell (World.block_lt_of_cell? w _ qu)).trans qu),((HB.out.cell (World.block_lt_of_cell? w _ qt)).trans qt),((HB.out.cell (World.block_lt_of_cell? w _ qr)).trans qr),((HB.out.cell (World.block_lt_of_cell? w _ qq)).trans qq)⟩ (fun hHeld=>?_);refine with_tabW spec_l11Cache.tab4 spec_l11Cache.bits4 (fun HT_ HW_=>?_)
    generalize wr.drew = w19 at HB qi qh qg qf qe qd qc we wd wc wb wa qz qy hHeld ⊢
    refine pure_ (i:=0) (N:=some 10) (v:=?_) (a':=?_) #[true,false,false,false,false,false,false,false,false,false,false,false,false,false,false,false,false,false,false,false,false,false,false,false] rfl rfl (any_of HT_.out (by kernel_rfl)) (fun _ _ _ h=>h) (Or.inl ⟨by rfl,?_⟩) ?_ ?_
    rotate_left
    ·intro w'
     go_simp
     with_reducible rfl
    rotate_left
    ·exact z8a
    refine pure_ (i:=1) (N:=some 11) (v:=?_) (a':=?_) #[true,true,false,false,false,false,false,false,false,false,false,false,false,false,false,false,false,false,false,false,false,false,false,false] rfl rfl (any_of HT_.out (by kernel_rfl)) (fun _ _ _ h=>h) (Or.inl ⟨by rfl,?_⟩) ?_ ?_
    rotate_left
    ·intro w'
     go_simp
     with_reducible rfl
    rotate_left
    ·exact z8a
    refine pure_ (i:=2) (N:=some 12) (v:=?_) (a':=?_) #[true,true,true,false,false,false,false,false,false,false,false,false,false,false,false,false,false,false,false,false,false,false,false,false] rfl rfl (any_of HT_.out (by kernel_rfl)) (fun _ _ _ h=>h) (Or.inl ⟨by rfl,?_⟩) ?_ ?_
    rotate_left
    ·intro w'
     go_simp
     with_reducible rfl
    rotate_left
    ·exact z8a
    refine pure_ (i:=3) (N:=some 13) (v:=?_) (a':=?_) #[true,true,true,true,false,false,false,false,false,false,false,false,false,false,false,false,false,false,false,false,false,false,false,false] rfl rfl (any_of HT_.out (by kernel_rfl)) (fun _ _ _ h=>h) (Or.inl ⟨by rfl,?_⟩) ?_ ?_
    rotate_left
    ·intro w'
     go_simp
     with_reducible rfl
    rotate_left
    ·exact z8a
    refine take_ (i:=4) (N:=some 14) (v:=?_) (a':=?_) #[true,true,true,true,true,false,false,false,false,false,false,false,false,false,false,false,false,false,false,false,false,false,false,false] rfl rfl (take_ofW HT_.out HW_.out (by kernel_rfl)) (fun _ _ _ h=>h) (Or.inl ⟨by rfl,?_⟩) hHeld ?_ ?_
    rotate_left
    ·rintro w' ⟨s0,s1,s2,s3,s4,s5,s6,s7,s8,s9,s10,s11,s12,s13⟩
     go_simp
     with_reducible rfl
    rotate_left
    ·exact z8a
    refine pure_ (i:=5) (N:=some 15) (v:=?_) (a':=?_) #[true,true,true,true,true,true,false,false,false,false,false,false,false,false,false,false,false,false,false,false,false,false,false,false] rfl rfl (any_of HT_.out (by kernel_rfl)) (fun _ _ _ h=>h) (Or.inl ⟨by rfl,?_⟩) ?_ ?_
    rotate_left
    ·intro w'
     go_simp
     with_reducible rfl
    rotate_left
    ·exact z8a
    refine pure_ (i:=6) (N:=some 16) (v:=?_) (a':=?_) #[true,true,true,true,true,true,true,false,false,false,false,false,false,false,false,false,false,false,false,false,false,false,false,false] rfl rfl (any_of HT_.out (by kernel_rfl)) (fun _ _ _ h=>h) (Or.inl ⟨by rfl,?_⟩) ?_ ?_
    rotate_left
    ·intro w'
     go_simp
     with_reducible rfl
    rotate_left
    ·exact z8a
    refine pure_ (i:=7) (N:=some 17) (v:=?_) (a':=?_) #[true,true,true,true,true,true,true,true,false,false,false,false,false,false,false,false,false,false,false,false,false,false,false,false] rfl rfl (any_of HT_.out (by kernel_rfl)) (fun _ _ _ h=>h) (Or.inl ⟨by rfl,?_⟩) ?_ ?_
    rotate_left
    ·intro w'
     go_simp
     with_reducible rfl
    rotate_left
    ·exact z8a
    refine pure_ (i:=8) (N:=some 18) (v:=?_) (a':=?_) #[true,true,true,true,true,true,true,true,true,false,false,false,false,false,false,false,false,false,false,false,false,false,false,false] rfl rfl (any_of HT_.out (by kernel_rfl)) (fun _ _ _ h=>h) (Or.inl ⟨by rfl,?_⟩) ?_ ?_
    rotate_left
    ·intro w'
     go_simp
     with_reducible rfl
    rotate_left
    ·exact z8a
    refine pure_ (i:=9) (N:=some 19) (v:=?_) (a':=?_) #[true,true,true,true,true,true,true,true,true,true,false,false,false,false,false,false,false,false,false,false,false,false,false,false] rfl rfl (any_of HT_.out (by kernel_rfl)) (fun _ _ _ h=>h) (Or.inl ⟨by rfl,?_⟩) ?_ ?_
    rotate_left
    ·intro w'
     go_simp
     with_reducible rfl
    rotate_left
    ·exact z8a
    refine take_ (i:=10) (N:=some 20) (v:=?_) (a':=?_) #[true,true,true,true,true,true,true,true,true,true,true,false,false,false,false,false,false,false,false,false,false,false,false,false] rfl rfl (take_ofW HT_.out HW_.out (by kernel_rfl)) (fun _ _ _ h=>h) (Or.inl ⟨by rfl,?_⟩) hHeld ?_ ?_
    rotate_left
    ·rintro w' ⟨s0,s1,s2,s3,s4,s5,s6,s7,s8,s9,s10,s11,s12,s13⟩
     go_simp
     with_reducible rfl
    rotate_left
    ·exact z8a
    refine one_ (i:=11) (N:=some 21) #[true,true,true,true,true,true,true,true,true,true,true,true,false,false,false,false,false,false,false,false,false,false,false,false] rfl rfl (one_of HT_.out (by kernel_rfl)) (by decide) (fun K hK=>?_)
    refine goes_ Try.func90 (by kernel_rfl) rfl #[.agg #[.int .i64 ((rd_T41 l0 qa).f0),.int .i64 ((rd_T41 l0 qa).f1),.int .i64 ((rd_T41 l0 qa).f2),.int .i64 ((rd_T41 l0 qa).f3),.int .i64 ((rd_T41 l0 qa).f4),.int .i64 ((rd_T41 l0 qa).f5),.int .i64 ((rd_T41 l0 qa).f6)]] (by rfl) rfl rfl z8x0 ?_
    with_reducible refine (spec_SealOk.calls ((rd_T41 l0 qa).f0) ((rd_T41 l0 qa).f1) ((rd_T41 l0 qa).f2) ((rd_T41 l0 qa).f3) ((rd_T41 l0 qa).f4) ((rd_T41 l0 qa).f5) ((rd_T41 l0 qa).f6) false _ A5.out).mono ?_
    rintro e w20 ⟨rfl,hb⟩
    refine ⟨_,rfl,?_⟩
    have n0_:=Aside0.mk (below_step z8x1 hb)
    clear HB
    have HB:=n0_
    clear n0_
    (try clear hb)
    (try clear hb2)
    (try clear hk)
    (try clear hi)
    refine hK.out _ _ ⟨((HB.out.cell (World.block_lt_of_cell? w _ qp)).trans qp),((HB.out.cell (World.block_lt_of_cell? w _ qo)).trans qo),((HB.out.cell (World.block_lt_of_cell? w _ qn)).trans qn),((HB.out.cell (World.block_lt_of_cell? w _ qm)).trans qm),((HB.out.cell (World.block_lt_of_cell? w _ ql)).trans ql),((HB.out.cell (World.block_lt_of_cell? w _ qk)).trans qk),((HB.out.cell (World.block_lt_of_cell? w _ qj)).trans qj),((HB.out.cell (World.block_lt_of_cell? w _ qx)).trans qx),((HB.out.cell (World.block_lt_of_cell? w _ qw)).trans qw),((HB.out.cell (World.block_lt_of_cell? w _ qv)).trans qv),((HB.out.cell (World.block_lt_of_cell? w _ qu)).trans qu),((HB.out.cell (World.block_lt_of_cell? w _ qt)).trans qt),((HB.out.cell (World.block_lt_of_cell? w _ qr)).trans qr),((HB.out.cell (World.block_lt_of_cell? w _ qq)).trans qq)⟩ (fun hHeld=>?_)
    clear hK K
    refine norm_ (a':=?_) ?_ ?_
    rotate_left
    ·show Act.put _ (some 21) _ = _
     simp only [Act.put,List.setIfInBounds_toArray,List.set_cons_zero,List.set_cons_succ,i64_w,i32_w]
     rfl
    refine pure_ (i:=12) (N:=some 22) (v:=?_) (a':=?_) #[true,true,true,true,true,true,true,true,true,true,true,true,true,false,false,false,false,false,false,false,false,false,false,false] rfl rfl (any_of HT_.out (by kernel_rfl)) (fun _ _ _ h=>h) (Or.inl ⟨by rfl,?_⟩) ?_ ?_
    rotate_left
    ·intro w'
     go_simp
     with_reducible rfl
    rotate_left
    ·exact z8a
    refine pure_ (i:=13) (N:=some 23) (v:=?_) (a':=?_) #[true,true,true,true,true,true,true,true,true,true,true,true,true,true,false,false,false,false,false,false,false,false,false,false] rfl rfl (any_of HT_.out (by kernel_rfl)) (fun _ _ _ h=>h) (Or.inl ⟨by rfl,?_⟩) ?_ ?_
    rotate_left
    ·intro w'
     go_simp
     with_reducible rfl
    rotate_left
    ·exact z8a
    refine pure_ (i:=14) (N:=some 24) (v:=?_) (a':=?_) #[true,true,true,true,true,true,true,true,true,true,true,true,true,true,true,false,false,false,false,false,false,false,false,false] rfl rfl (any_of HT_.out (by kernel_rfl)) (fun _ _ _ h=>h) (Or.inl ⟨by rfl,?_⟩) ?_ ?_
    rotate_left
    ·intro w'
     go_simp
     with_reducible rfl
    rotate_left
    ·exact z8a
    refine pure_ (i:=15) (N:=some 25) (v:=undef) (a':=?_) #[true,true,true,true,true,true,true,true,true,true,true,true,true,true,true,true,false,false,false,false,false,false,false,false] rfl rfl (any_of HT_.out (by kernel_rfl)) (fun _ _ _ h=>h) (Or.inr ⟨by rfl,rfl⟩) ?_ ?_
    rotate_left
    ·exact z8a
    refine pure_ (i:=16) (N:=some 26) (v:=undef) (a':=?_) #[true,true,true,true,true,true,true,true,true,true,true,true,true,true,true,true,true,false,false,false,false,false,false,false] rfl rfl (any_of HT_.out (by kernel_rfl)) (fun _ _ _ h=>h) (Or.inr ⟨by rfl,rfl⟩) ?_ ?_
    rotate_left
    ·exact z8a
    refine pure_ (i:=17) (N:=some 27) (v:=undef) (a':=?_) #[true,true,true,true,true,true,true,true,true,true,true,true,true,true,true,true,true,true,false,false,false,false,false,false] rfl rfl (any_of HT_.out (by kernel_rfl)) (fun _ _ _ h=>h) (Or.inr ⟨by rfl,rfl⟩) ?_ ?_
    rotate_left
    ·exact z8a
    refine pure_ (i:=18) (N:=some 28) (v:=undef) (a':=?_) #[true,true,true,true,true,true,true,true,true,true,true,true,true,true,true,true,true,true,true,false,false,false,false,false] rfl rfl (any_of HT_.out (by kernel_rfl)) (fun _ _ _ h=>h) (Or.inr ⟨by rfl,rfl⟩) ?_ ?_
    rotate_left
    ·exact z8a
    refine pure_ (i:=19) (N:=some 29) (v:=undef) (a':=?_) #[true,true,true,true,true,true,true,true,true,true,true,true,true,true,true,true,true,true,true,true,false,false,false,false] rfl rfl (any_of HT_.out (by kernel_rfl)) (fun _ _ _ h=>h) (Or.inr ⟨by rfl,rfl⟩) ?_ ?_
    rotate_left
    ·exact z8a
    refine pure_ (i:=20) (N:=some 30) (v:=undef) (a':=?_) #[true,true,true,true,true,true,true,true,true,true,true,true,true,true,true,true,true,true,true,true,true,false,false,false] rfl rfl (any_of HT_.out (by kernel_rfl)) (fun _ _ _ h=>h) (Or.inr ⟨by rfl,rfl⟩) ?_ ?_
    rotate_left
    ·exact z8a
    refine pure_ (i:=21) (N:=some 31) (v:=undef) (a':=?_) #[true,true,true,true,true,true,true,true,true,true,true,true,true,true,true,true,true,true,true,true,true,true,false,false] rfl rfl (any_of HT_.out (by kernel_rfl)) (fun _ _ _ h=>h) (Or.inr ⟨by rfl,rfl⟩) ?_ ?_
    rotate_left
    ·exact z8a
    refine pure_ (i:=22) (N:=some 32) (v:=undef) (a':=?_) #[true,true,true,true,true,true,true,true,true,true,true,true,true,true,true,true,true,true,true,true,true,true,true,false] rfl rfl (any_of HT_.out (by kernel_rfl)) (fun _ _ _ h=>h) (Or.inr ⟨by rfl,rfl⟩) ?_ ?_
    rotate_left
    ·exact z8a
    refine pure_ (i:=23) (N:=some 33) (v:=?_) (a':=?_) #[true,true,true,true,true,true,true,true,true,true,true,true,true,true,true,true,true,true,true,true,true,true,true,true] rfl rfl (any_of HT_.out (by kernel_rfl)) (fun _ _ _ h=>h) (Or.inl ⟨by rfl,?_⟩) ?_ ?_
    rotate_left
    ·intro w'
     go_simp
     with_reducible rfl
    rotate_left
    ·exact z8a
    refine done_ (done_of HT_.out (by kernel_rfl)) ?_
    try go_wp2
    go_ret
    exact ⟨by first|rfl|(simp [errW_none,errW_some] <;> rfl)|(simp [*,errW_none,errW_some] <;> rfl),by repeat (first|(with_reducible first|exact HB.out|apply below_alloc|apply pw_below_drewN|apply below_drew1)|exact HB.out)⟩
   subst c6
   rw [if_pos rfl] at H
   have uu:=eq_true (of_decide_eq_true (by first|(with_reducible assumption)|assumption) : 0 ≤ qa)
   by_cases c8 : qa ≤ (l0.length : Int)
   rotate_left
   ·rw [if_neg c8] at H
    exact absurd H (by simp)
   rw [if_pos c8] at H
   have ut:=eq_true c8
   have us : decide (qa ≤ (l0.length : Int)) = true:=decide_eq_true c8
   clear c8
   obtain ⟨vk,vm⟩ : ∃ y_ : List (S41),y_ = (l0.take (qa : Int).toNat):=⟨_,rfl⟩
   replace H : ((spec_l3Among.f k1 vk ((rd_T41 l0 qa).f0) ((rd_T41 l0 qa).f1) ((rd_T41 l0 qa).f2) ((rd_T41 l0 qa).f3) ((rd_T41 l0 qa).f4) ((rd_T41 l0 qa).f5) ((rd_T41 l0 qa).f6)).bind fun vl=>(if vl = true then (some false) else (spec_l11Cache.l0 k1 l0 (wrap64 (qa + 1))))) = some r:=by first|(rw [vm];with_reducible exact H)|(have H2_:=(Option.bind_some _ _).symm.trans H;rw [vm];with_reducible exact H2_)|(have H2_:=(Option.bind_some _ _).symm.trans H;with_reducible exact H2_)|with_reducible exact H|(rw [vm];exact H)|exact H
   have vr:=Aside0.mk vm
   clear vm
   replace H:=Option.bind_eq_some_iff.mp H
   obtain ⟨vl,A90,H⟩:=H
   replace H : (if vl = true then (some false) else (spec_l11Cache.l0 k1 l0 (wrap64 (qa + 1)))) = some r:=H
   have A9:=Aside0.mk A90
   clear A90
   by_cases c10 : vl = true
   ·subst c10
    rw [if_pos rfl] at H
    obtain rfl:=Option.some.inj H
    try go_wp2
    have n0_:=Aside0.mk (below_drew1 HB.out)
    clear HB
    have HB:=n0_
    clear n0_
    have wx : 0 ≤ (qa : Int):=of_decide_eq_true (by first|(with_reducible assumption)|assumption)
    have ww : qa < (l0.length : Int):=of_decide_eq_true (by first|(with_reducible assumption)|assumption)
    obtain ⟨qb,vq,qi,qh,qg,qf,qe,qd,qc⟩:=at_T41 HR0.out qa wx ww
    have qj:=qc
    have qk:=qd
    have ql:=qe
    have qm:=qf
    have qn:=qg
    have qo:=qh
    have qp:=qi
    cases vq
    replace qi:=(HB.out.cell (World.block_lt_of_cell? w _ qi)).trans qi
    replace qh:=(HB.out.cell (World.block_lt_of_cell? w _ qh)).trans qh
    replace qg:=(HB.out.cell (World.block_lt_of_cell? w _ qg)).trans qg
    replace qf:=(HB.out.cell (World.block_lt_of_cell? w _ qf)).trans qf
    replace qe:=(HB.out.cell (World.block_lt_of_cell? w _ qe)).trans qe
    replace qd:=(HB.out.cell (World.block_lt_of_cell? w _ qd)).trans qd
    replace qc:=(HB.out.cell (World.block_lt_of_cell? w _ qc)).trans qc
    replace wx:=eq_true wx
    replace ww:=eq_true ww
    have wz : 0 ≤ (qa : Int):=of_decide_eq_true (by first|(with_reducible assumption)|assumption)
    have wy : qa < (l0.length : Int):=of_decide_eq_true (by first|(with_reducible assumption)|assumption)
    obtain ⟨vn,vt,we,wd,wc,wb,wa,qz,qy⟩:=at_T41 HR0.out qa wz wy
    have qq:=qy
    have qr:=qz
    have qt:=wa
    have qu:=wb
    have qv:=wc
    have qw:=wd
    have qx:=we
    obtain rfl : qb = vn:=(by injection vt)
    replace we:=(HB.out.cell (World.block_lt_of_cell? w _ we)).trans we
    replace wd:=(HB.out.cell (World.block_lt_of_cell? w _ wd)).trans wd
    replace wc:=(HB.out.cell (World.block_lt_of_cell? w _ wc)).trans wc
    replace wb:=(HB.out.cell (World.block_lt_of_cell? w _ wb)).trans wb
    replace wa:=(HB.out.cell (World.block_lt_of_cell? w _ wa)).trans wa
    replace qz:=(HB.out.cell (World.block_lt_of_cell? w _ qz)).trans qz
    replace qy:=(HB.out.cell (World.block_lt_of_cell? w _ qy)).trans qy
    replace wz:=eq_true wz
    replace wy:=eq_true wy
    have vp : 0 ≤ (qa : Int):=of_decide_eq_true (by first|(with_reducible assumption)|assumption)
    have vo : qa < (l0.length : Int):=of_decide_eq_true (by first|(with_reducible assumption)|assumption)
    obtain ⟨vu,ug,wv,wu,wt,ws,wq,wo,wn⟩:=at_T41 HR0.out qa vp vo
    have wg:=wn
    have wh:=wo
    have wi:=wq
    have wj:=ws
    have wk:=wt
    have wl:=wu
    have wm:=wv
    obtain rfl : qb = vu:=(by injection ug)
    replace wv:=(HB.out.cell (World.block_lt_of_cell? w _ wv)).trans wv
    replace wu:=(HB.out.cell (World.block_lt_of_cell? w _ wu)).trans wu
    replace wt:=(HB.out.cell (World.block_lt_of_cell? w _ wt)).trans wt
    replace ws:=(HB.out.cell (World.block_lt_of_cell? w _ ws)).trans ws
    replace wq:=(HB.out.cell (World.block_lt_of_cell? w _ wq)).trans wq
    replace wo:=(HB.out.cell (World.block_lt_of_cell? w _ wo)).trans wo
    replace wn:=(HB.out.cell (World.block_lt_of_cell? w _ wn)).trans wn
    replace vp:=eq_true vp
    replace vo:=eq_true vo
    refine start_ (n:=24) (S:=fun w' => w'.cell? (qb.add ((qa).toNat * 7)) = some (.int .i64 ((rd_T41 l0 qa).f0)) ∧ w'.cell? ⟨(qb.add ((qa).toNat * 7)).block,(qb.add ((qa).toNat * 7)).off + 1,none⟩ = some (.int .i64 ((rd_T41 l0 qa).f1)) ∧ w'.cell? ⟨(qb.add ((qa).toNat * 7)).block,(qb.add ((qa).toNat * 7)).off + 2,none⟩ = some (.int .i64 ((rd_T41 l0 qa).f2)) ∧ w'.cell? ⟨(qb.add ((qa).toNat * 7)).block,(qb.add ((qa).toNat * 7)).off + 3,none⟩ = some (.int .i64 ((rd_T41 l0 qa).f3)) ∧ w'.cell? ⟨(qb.add ((qa).toNat * 7)).block,(qb.add ((qa).toNat * 7)).off + 4,none⟩ = some (.int .i64 ((rd_T41 l0 qa).f4)) ∧ w'.cell? ⟨(qb.add ((qa).toNat * 7)).block,(qb.add ((qa).toNat * 7)).off + 5,none⟩ = some (.int .i64 ((rd_T41 l0 qa).f5)) ∧ w'.cell? ⟨(qb.add ((qa).toNat * 7)).block,(qb.add ((qa).toNat * 7)).off + 6,none⟩ = some (.int .i64 ((rd_T41 l0 qa).f6)) ∧ w'.cell? (qb.add ((qa).toNat * 7)) = some (.int .i64 ((rd_T41 l0 qa).f0)) ∧ w'.cell? ⟨(qb.add ((qa).toNat * 7)).block,(qb.add ((qa).toNat * 7)).off + 1,none⟩ = some (.int .i64 ((rd_T41 l0 qa).f1)) ∧ w'.cell? ⟨(qb.add ((qa).toNat * 7)).block,(qb.add ((qa).toNat * 7)).off + 2,none⟩ = some (.int .i64 ((rd_T41 l0 qa).f2)) ∧ w'.cell? ⟨(qb.add ((qa).toNat * 7)).block,(qb.add ((qa).toNat * 7)).off + 3,none⟩ = some (.int .i64 ((rd_T41 l0 qa).f3)) ∧ w'.cell? ⟨(qb.add ((qa).toNat * 7)).block,(qb.add ((qa).toNat * 7)).off + 4,none⟩ = some (.int .i64 ((rd_T41 l0 qa).f4)) ∧ w'.cell? ⟨(qb.add ((qa).toNat * 7)).block,(qb.add ((qa).toNat * 7)).off + 5,none⟩ = some (.int .i64 ((rd_T41 l0 qa).f5)) ∧ w'.cell? ⟨(qb.add ((qa).toNat * 7)).block,(qb.add ((qa).toNat * 7)).off + 6,none⟩ = some (.int .i64 ((rd_T41 l0 qa).f6)) ∧ w'.cell? (qb.add ((qa).toNat * 7)) = some (.int .i64 ((rd_T41 l0 qa).f0)) ∧ w'.cell? ⟨(qb.add ((qa).toNat * 7)).block,(qb.add ((qa).toNat * 7)).off + 1,none⟩ = some (.int .i64 ((rd_T41 l0 qa).f1)) ∧ w'.cell? ⟨(qb.add ((qa).toNat * 7)).block,(qb.add ((qa).toNat * 7)).off + 2,none⟩ = some (.int .i64 ((rd_T41 l0 qa).f2)) ∧ w'.cell? ⟨(qb.add ((qa).toNat * 7)).block,(qb.add ((qa).toNat * 7)).off + 3,none⟩ = some (.int .i64 ((rd_T41 l0 qa).f3)) ∧ w'.cell? ⟨(qb.add ((qa).toNat * 7)).block,(qb.add ((qa).toNat * 7)).off + 4,none⟩ = some (.int .i64 ((rd_T41 l0 qa).f4)) ∧ w'.cell? ⟨(qb.add ((qa).toNat * 7)).block,(qb.add ((qa).toNat * 7)).off + 5,none⟩ = some (.int .i64 ((rd_T41 l0 qa).f5)) ∧ w'.cell? ⟨(qb.add ((qa).toNat * 7)).block,(qb.add ((qa).toNat * 7)).off + 6,none⟩ = some (.int .i64 ((rd_T41 l0 qa).f6))) (ds:=[]) #[false,false,false,false,false,false,false,false,false,false,false,false,false,false,false,false,false,false,false,false,false,false,false,false] (by kernel_rfl) rfl rfl ⟨((HB.out.cell (World.block_lt_of_cell? w _ qp)).trans qp),((HB.out.cell (World.block_lt_of_cell? w _ qo)).trans qo),((HB.out.cell (World.block_lt_of_cell? w _ qn)).trans qn),((HB.out.cell (World.block_lt_of_cell? w _ qm)).trans qm),((HB.out.cell (World.block_lt_of_cell? w _ ql)).trans ql),((HB.out.cell (World.block_lt_of_cell? w _ qk)).trans qk),((HB.out.cell (World.block_lt_of_cell? w _ qj)).trans qj),((HB.out.cell (World.block_lt_of_cell? w _ qx)).trans qx),((HB.out.cell (World.block_lt_of_cell? w _ qw)).trans qw),((HB.out.cell (World.block_lt_of_cell? w _ qv)).trans qv),((HB.out.cell (World.block_lt_of_cell? w _ qu)).trans qu),((HB.out.cell (World.block_lt_of_cell? w _ qt)).trans qt),((HB.out.cell (World.block_lt_of_cell? w _ qr)).trans qr),((HB.out.cell (World.block_lt_of_cell? w _ qq)).trans qq),((HB.out.cell (World.block_lt_of_cell? w _ wm)).trans wm),((HB.out.cell (World.block_lt_of_cell? w _ wl)).trans wl),((HB.out.cell (World.block_lt_of_cell? w _ wk)).trans wk),((HB.out.cell (World.block_lt_of_cell? w _ wj)).trans wj),((HB.out.cell (World.block_lt_of_cell? w _ wi)).trans wi),((HB.out.cell (World.block_lt_of_cell? w _ wh)).trans wh),((HB.out.cell (World.block_lt_of_cell? w _ wg)).trans wg)⟩ (fun hHeld=>?_);refine with_tabW spec_l11Cache.tab4 spec_l11Cache.bits4 (fun HT_ HW_=>?_)
    generalize wr.drew = w11 at HB qi qh qg qf qe qd qc we wd wc wb wa qz qy wv wu wt ws wq wo wn hHeld ⊢
    refine pure_ (i:=0) (N:=some 10) (v:=?_) (a':=?_) #[true,false,false,false,false,false,false,false,false,false,false,false,false,false,false,false,false,false,false,false,false,false,false,false] rfl rfl (any_of HT_.out (by kernel_rfl)) (fun _ _ _ h=>h) (Or.inl ⟨by rfl,?_⟩) ?_ ?_
    rotate_left
    ·intro w'
     go_simp
     with_reducible rfl
    rotate_left
    ·exact z8a
    refine pure_ (i:=1) (N:=some 11) (v:=?_) (a':=?_) #[true,true,false,false,false,false,false,false,false,false,false,false,false,false,false,false,false,false,false,false,false,false,false,false] rfl rfl (any_of HT_.out (by kernel_rfl)) (fun _ _ _ h=>h) (Or.inl ⟨by rfl,?_⟩) ?_ ?_
    rotate_left
    ·intro w'
     go_simp
     with_reducible rfl
    rotate_left
    ·exact z8a
    refine pure_ (i:=2) (N:=some 12) (v:=?_) (a':=?_) #[true,true,true,false,false,false,false,false,false,false,false,false,false,false,false,false,false,false,false,false,false,false,false,false] rfl rfl (any_of HT_.out (by kernel_rfl)) (fun _ _ _ h=>h) (Or.inl ⟨by rfl,?_⟩) ?_ ?_
    rotate_left
    ·intro w'
     go_simp
     with_reducible rfl
    rotate_left
    ·exact z8a
    refine pure_ (i:=3) (N:=some 13) (v:=?_) (a':=?_) #[true,true,true,true,false,false,false,false,false,false,false,false,false,false,false,false,false,false,false,false,false,false,false,false] rfl rfl (any_of HT_.out (by kernel_rfl)) (fun _ _ _ h=>h) (Or.inl ⟨by rfl,?_⟩) ?_ ?_
    rotate_left
    ·intro w'
     go_simp
     with_reducible rfl
    rotate_left
    ·exact z8a
    refine take_ (i:=4) (N:=some 14) (v:=?_) (a':=?_) #[true,true,true,true,true,false,false,false,false,false,false,false,false,false,false,false,false,false,false,false,false,false,false,false] rfl rfl (take_ofW HT_.out HW_.out (by kernel_rfl)) (fun _ _ _ h=>h) (Or.inl ⟨by rfl,?_⟩) hHeld ?_ ?_
    rotate_left
    ·rintro w' ⟨s0,s1,s2,s3,s4,s5,s6,s7,s8,s9,s10,s11,s12,s13,s14,s15,s16,s17,s18,s19,s20⟩
     go_simp
     with_reducible rfl
    rotate_left
    ·exact z8a
    refine pure_ (i:=5) (N:=some 15) (v:=?_) (a':=?_) #[true,true,true,true,true,true,false,false,false,false,false,false,false,false,false,false,false,false,false,false,false,false,false,false] rfl rfl (any_of HT_.out (by kernel_rfl)) (fun _ _ _ h=>h) (Or.inl ⟨by rfl,?_⟩) ?_ ?_
    rotate_left
    ·intro w'
     go_simp
     with_reducible rfl
    rotate_left
    ·exact z8a
    refine pure_ (i:=6) (N:=some 16) (v:=?_) (a':=?_) #[true,true,true,true,true,true,true,false,false,false,false,false,false,false,false,false,false,false,false,false,false,false,false,false] rfl rfl (any_of HT_.out (by kernel_rfl)) (fun _ _ _ h=>h) (Or.inl ⟨by rfl,?_⟩) ?_ ?_
    rotate_left
    ·intro w'
     go_simp
     with_reducible rfl
    rotate_left
    ·exact z8a
    refine pure_ (i:=7) (N:=some 17) (v:=?_) (a':=?_) #[true,true,true,true,true,true,true,true,false,false,false,false,false,false,false,false,false,false,false,false,false,false,false,false] rfl rfl (any_of HT_.out (by kernel_rfl)) (fun _ _ _ h=>h) (Or.inl ⟨by rfl,?_⟩) ?_ ?_
    rotate_left
    ·intro w'
     go_simp
     with_reducible rfl
    rotate_left
    ·exact z8a
    refine pure_ (i:=8) (N:=some 18) (v:=?_) (a':=?_) #[true,true,true,true,true,true,true,true,true,false,false,false,false,false,false,false,false,false,false,false,false,false,false,false] rfl rfl (any_of HT_.out (by kernel_rfl)) (fun _ _ _ h=>h) (Or.inl ⟨by rfl,?_⟩) ?_ ?_
    rotate_left
    ·intro w'
     go_simp
     with_reducible rfl
    rotate_left
    ·exact z8a
    refine pure_ (i:=9) (N:=some 19) (v:=?_) (a':=?_) #[true,true,true,true,true,true,true,true,true,true,false,false,false,false,false,false,false,false,false,false,false,false,false,false] rfl rfl (any_of HT_.out (by kernel_rfl)) (fun _ _ _ h=>h) (Or.inl ⟨by rfl,?_⟩) ?_ ?_
    rotate_left
    ·intro w'
     go_simp
     with_reducible rfl
    rotate_left
    ·exact z8a
    refine take_ (i:=10) (N:=some 20) (v:=?_) (a':=?_) #[true,true,true,true,true,true,true,true,true,true,true,false,false,false,false,false,false,false,false,false,false,false,false,false] rfl rfl (take_ofW HT_.out HW_.out (by kernel_rfl)) (fun _ _ _ h=>h) (Or.inl ⟨by rfl,?_⟩) hHeld ?_ ?_
    rotate_left
    ·rintro w' ⟨s0,s1,s2,s3,s4,s5,s6,s7,s8,s9,s10,s11,s12,s13,s14,s15,s16,s17,s18,s19,s20⟩
     go_simp
     with_reducible rfl
    rotate_left
    ·exact z8a
    refine one_ (i:=11) (N:=some 21) #[true,true,true,true,true,true,true,true,true,true,true,true,false,false,false,false,false,false,false,false,false,false,false,false] rfl rfl (one_of HT_.out (by kernel_rfl)) (by decide) (fun K hK=>?_)
    refine goes_ Try.func90 (by kernel_rfl) rfl #[.agg #[.int .i64 ((rd_T41 l0 qa).f0),.int .i64 ((rd_T41 l0 qa).f1),.int .i64 ((rd_T41 l0 qa).f2),.int .i64 ((rd_T41 l0 qa).f3),.int .i64 ((rd_T41 l0 qa).f4),.int .i64 ((rd_T41 l0 qa).f5),.int .i64 ((rd_T41 l0 qa).f6)]] (by rfl) rfl rfl z8x0 ?_
    with_reducible refine (spec_SealOk.calls ((rd_T41 l0 qa).f0) ((rd_T41 l0 qa).f1) ((rd_T41 l0 qa).f2) ((rd_T41 l0 qa).f3) ((rd_T41 l0 qa).f4) ((rd_T41 l0 qa).f5) ((rd_T41 l0 qa).f6) true _ A5.out).mono ?_
    rintro e w12 ⟨rfl,hb⟩
    refine ⟨_,rfl,?_⟩
    have n0_:=Aside0.mk (below_step z8x1 hb)
    clear HB
    have HB:=n0_
    clear n0_
    (try clear hb)
    (try clear hb2)
    (try clear hk)
    (try clear hi)
    have q13 : (qa : Int) ≤ ((l0.length : Int) : Int):=of_decide_eq_true (by first|(with_reducible assumption)|assumption)
    obtain ⟨uq,vz,_,ui,_⟩:=info_parts info41
    have hroom13 : l0.length ≤ c0:=HC0.out
    have uk : Kd.C k41 _ (some qb) l0.length l0:=HR0.out
    have uf:=cut_to (P:=Try.prog) 32 41 .i64 Try.underlying32 vz (some qb) l0.length c0 qa (of_decide_eq_true (by first|(with_reducible assumption)|assumption)) q13 hroom13
    have ud:=Kd.C_take (m:=(qa : Int).toNat) uk (by omega)
    have ub : vk.length = (qa : Int).toNat:=(by rw [vr.out,List.length_take];omega)
    rw [← vr.out] at ud
    rw [← ub] at uf
    have vv:=Aside0.mk ud
    have vw:=Aside0.mk (show vk.length ≤ c0 from by omega)
    clear ud uk hroom13 vz ui
    have ux:=Aside0.mk ub
    clear ub
    replace q13:=eq_true q13
    refine hK.out _ _ ⟨((HB.out.cell (World.block_lt_of_cell? w _ qp)).trans qp),((HB.out.cell (World.block_lt_of_cell? w _ qo)).trans qo),((HB.out.cell (World.block_lt_of_cell? w _ qn)).trans qn),((HB.out.cell (World.block_lt_of_cell? w _ qm)).trans qm),((HB.out.cell (World.block_lt_of_cell? w _ ql)).trans ql),((HB.out.cell (World.block_lt_of_cell? w _ qk)).trans qk),((HB.out.cell (World.block_lt_of_cell? w _ qj)).trans qj),((HB.out.cell (World.block_lt_of_cell? w _ qx)).trans qx),((HB.out.cell (World.block_lt_of_cell? w _ qw)).trans qw),((HB.out.cell (World.block_lt_of_cell? w _ qv)).trans qv),((HB.out.cell (World.block_lt_of_cell? w _ qu)).trans qu),((HB.out.cell (World.block_lt_of_cell? w _ qt)).trans qt),((HB.out.cell (World.block_lt_of_cell? w _ qr)).trans qr),((HB.out.cell (World.block_lt_of_cell? w _ qq)).trans qq),((HB.out.cell (World.block_lt_of_cell? w _ wm)).trans wm),((HB.out.cell (World.block_lt_of_cell? w _ wl)).trans wl),((HB.out.cell (World.block_lt_of_cell? w _ wk)).trans wk),((HB.out.cell (World.block_lt_of_cell? w _ wj)).trans wj),((HB.out.cell (World.block_lt_of_cell? w _ wi)).trans wi),((HB.out.cell (World.block_lt_of_cell? w _ wh)).trans wh),((HB.out.cell (World.block_lt_of_cell? w _ wg)).trans wg)⟩ (fun hHeld=>?_)
    clear hK K
    refine norm_ (a':=?_) ?_ ?_
    rotate_left
    ·show Act.put _ (some 21) _ = _
     simp only [Act.put,List.setIfInBounds_toArray,List.set_cons_zero,List.set_cons_succ,i64_w,i32_w]
     rfl
    refine pure_ (i:=12) (N:=some 22) (v:=?_) (a':=?_) #[true,true,true,true,true,true,true,true,true,true,true,true,true,false,false,false,false,false,false,false,false,false,false,false] rfl rfl (any_of HT_.out (by kernel_rfl)) (fun _ _ _ h=>h) (Or.inl ⟨by rfl,?_⟩) ?_ ?_
    rotate_left
    ·intro w'
     go_simp
     with_reducible rfl
    rotate_left
    ·exact z8a
    refine pure_ (i:=13) (N:=some 23) (v:=?_) (a':=?_) #[true,true,true,true,true,true,true,true,true,true,true,true,true,true,false,false,false,false,false,false,false,false,false,false] rfl rfl (any_of HT_.out (by kernel_rfl)) (fun _ _ _ h=>h) (Or.inl ⟨by rfl,?_⟩) ?_ ?_
    rotate_left
    ·intro w'
     go_simp
     with_reducible rfl
    rotate_left
    ·exact z8a
    refine pure_ (i:=14) (N:=some 24) (v:=?_) (a':=?_) #[true,true,true,true,true,true,true,true,true,true,true,true,true,true,true,false,false,false,false,false,false,false,false,false] rfl rfl (any_of HT_.out (by kernel_rfl)) (fun _ _ _ h=>h) (Or.inl ⟨by rfl,?_⟩) ?_ ?_
    rotate_left
    ·intro w'
     go_simp
     with_reducible rfl
    rotate_left
    ·exact z8a
    refine pure_ (i:=15) (N:=some 25) (v:=?_) (a':=?_) #[true,true,true,true,true,true,true,true,true,true,true,true,true,true,true,true,false,false,false,false,false,false,false,false] rfl rfl (any_of HT_.out (by kernel_rfl)) (fun _ _ _ h=>h) (Or.inl ⟨by rfl,?_⟩) ?_ ?_
    rotate_left
    ·intro w'
     go_simp
     with_reducible rfl
    rotate_left
    ·exact z8a
    refine pure_ (i:=16) (N:=some 26) (v:=?_) (a':=?_) #[true,true,true,true,true,true,true,true,true,true,true,true,true,true,true,true,true,false,false,false,false,false,false,false] rfl rfl (any_of HT_.out (by kernel_rfl)) (fun _ _ _ h=>h) (Or.inl ⟨by rfl,?_⟩) ?_ ?_
    rotate_left
    ·intro w'
     go_simp
     with_reducible rfl
    rotate_left
    ·exact z8a
    refine pure_ (i:=17) (N:=some 27) (v:=?_) (a':=?_) #[true,true,true,true,true,true,true,true,true,true,true,true,true,true,true,true,true,true,false,false,false,false,false,false] rfl rfl (any_of HT_.out (by kernel_rfl)) (fun _ _ _ h=>h) (Or.inl ⟨by rfl,?_⟩) ?_ ?_
    rotate_left
    ·intro w'
     go_simp
     with_reducible rfl
    rotate_left
    ·exact z8a
    refine pure_ (i:=18) (N:=some 28) (v:=?_) (a':=?_) #[true,true,true,true,true,true,true,true,true,true,true,true,true,true,true,true,true,true,true,false,false,false,false,false] rfl rfl (any_of HT_.out (by kernel_rfl)) (fun _ _ _ h=>h) (Or.inl ⟨by rfl,?_⟩) ?_ ?_
    rotate_left
    ·intro w'
     go_simp
     with_reducible rfl
    rotate_left
    ·exact z8a
    refine pure_ (i:=19) (N:=some 29) (v:=?_) (a':=?_) #[true,true,true,true,true,true,true,true,true,true,true,true,true,true,true,true,true,true,true,true,false,false,false,false] rfl rfl (any_of HT_.out (by kernel_rfl)) (fun _ _ _ h=>h) (Or.inl ⟨by rfl,?_⟩) ?_ ?_
    rotate_left
    ·intro w'
     go_simp
     with_reducible rfl
    rotate_left
    ·exact z8a
    refine pure_ (i:=20) (N:=some 30) (v:=?_) (a':=?_) #[true,true,true,true,true,true,true,true,true,true,true,true,true,true,true,true,true,true,true,true,true,false,false,false] rfl rfl (any_of HT_.out (by kernel_rfl)) (fun _ _ _ h=>h) (Or.inl ⟨by rfl,?_⟩) ?_ ?_
    rotate_left
    ·intro w'
     go_simp
     with_reducible rfl
    rotate_left
    ·exact z8a
    refine take_ (i:=21) (N:=some 31) (v:=?_) (a':=?_) #[true,true,true,true,true,true,true,true,true,true,true,true,true,true,true,true,true,true,true,true,true,true,false,false] rfl rfl (take_ofW HT_.out HW_.out (by kernel_rfl)) (fun _ _ _ h=>h) (Or.inl ⟨by rfl,?_⟩) hHeld ?_ ?_
    rotate_left
    ·rintro w' ⟨s0,s1,s2,s3,s4,s5,s6,s7,s8,s9,s10,s11,s12,s13,s14,s15,s16,s17,s18,s19,s20⟩
     go_simp
     with_reducible rfl
    rotate_left
    ·exact z8a
    refine one_ (i:=22) (N:=some 32) #[true,true,true,true,true,true,true,true,true,true,true,true,true,true,true,true,true,true,true,true,true,true,true,false] rfl rfl (one_of HT_.out (by kernel_rfl)) (by decide) (fun K hK=>?_)
    refine goes_ Try.func144 (by kernel_rfl) rfl #[.slice (some qb) vk.length c0,.agg #[.int .i64 ((rd_T41 l0 qa).f0),.int .i64 ((rd_T41 l0 qa).f1),.int .i64 ((rd_T41 l0 qa).f2),.int .i64 ((rd_T41 l0 qa).f3),.int .i64 ((rd_T41 l0 qa).f4),.int .i64 ((rd_T41 l0 qa).f5),.int .i64 ((rd_T41 l0 qa).f6)]] (by rfl) rfl rfl z8x0 ?_
    with_reducible refine (spec_l3Among.calls k1 _ _ vk ((rd_T41 l0 qa).f0) ((rd_T41 l0 qa).f1) ((rd_T41 l0 qa).f2) ((rd_T41 l0 qa).f3) ((rd_T41 l0 qa).f4) ((rd_T41 l0 qa).f5) ((rd_T41 l0 qa).f6) true _ ?side1 ?side2 A9.out).mono ?_
    (case side1=>repeat (first|exact (Kd.C_below vv.out HB.out)|(with_reducible refine Kd.C_alloc ?_ _)|(with_reducible refine Kd.C_drewN ?_ _)|(with_reducible refine Kd.C_drew ?_)))
    (case side2=>exact vw.out)
    rintro e w14 ⟨rfl,hb⟩
    refine ⟨_,rfl,?_⟩
    have n0_:=Aside0.mk (below_step z8x1 hb)
    clear HB
    have HB:=n0_
    clear n0_
    (try clear hb)
    (try clear hb2)
    (try clear hk)
    (try clear hi)
    refine hK.out _ _ ⟨((HB.out.cell (World.block_lt_of_cell? w _ qp)).trans qp),((HB.out.cell (World.block_lt_of_cell? w _ qo)).trans qo),((HB.out.cell (World.block_lt_of_cell? w _ qn)).trans qn),((HB.out.cell (World.block_lt_of_cell? w _ qm)).trans qm),((HB.out.cell (World.block_lt_of_cell? w _ ql)).trans ql),((HB.out.cell (World.block_lt_of_cell? w _ qk)).trans qk),((HB.out.cell (World.block_lt_of_cell? w _ qj)).trans qj),((HB.out.cell (World.block_lt_of_cell? w _ qx)).trans qx),((HB.out.cell (World.block_lt_of_cell? w _ qw)).trans qw),((HB.out.cell (World.block_lt_of_cell? w _ qv)).trans qv),((HB.out.cell (World.block_lt_of_cell? w _ qu)).trans qu),((HB.out.cell (World.block_lt_of_cell? w _ qt)).trans qt),((HB.out.cell (World.block_lt_of_cell? w _ qr)).trans qr),((HB.out.cell (World.block_lt_of_cell? w _ qq)).trans qq),((HB.out.cell (World.block_lt_of_cell? w _ wm)).trans wm),((HB.out.cell (World.block_lt_of_cell? w _ wl)).trans wl),((HB.out.cell (World.block_lt_of_cell? w _ wk)).trans wk),((HB.out.cell (World.block_lt_of_cell? w _ wj)).trans wj),((HB.out.cell (World.block_lt_of_cell? w _ wi)).trans wi),((HB.out.cell (World.block_lt_of_cell? w _ wh)).trans wh),((HB.out.cell (World.block_lt_of_cell? w _ wg)).trans wg)⟩ (fun hHeld=>?_)
    clear hK K
    refine norm_ (a':=?_) ?_ ?_
    rotate_left
    ·show Act.put _ (some 32) _ = _
     simp only [Act.put,List.setIfInBounds_toArray,List.set_cons_zero,List.set_cons_succ,i64_w,i32_w]
     rfl
    refine pure_ (i:=23) (N:=some 33) (v:=?_) (a':=?_) #[true,true,true,true,true,true,true,true,true,true,true,true,true,true,true,true,true,true,true,true,true,true,true,true] rfl rfl (any_of HT_.out (by kernel_rfl)) (fun _ _ _ h=>h) (Or.inl ⟨by rfl,?_⟩) ?_ ?_
    rotate_left
    ·intro w'
     go_simp
     with_reducible rfl
    rotate_left
    ·exact z8a
    refine done_ (done_of HT_.out (by kernel_rfl)) ?_
    try go_wp2
    go_ret
    exact ⟨by first|rfl|(simp [errW_none,errW_some] <;> rfl)|(simp [*,errW_none,errW_some] <;> rfl),by repeat (first|(with_reducible first|exact HB.out|apply below_alloc|apply pw_below_drewN|apply below_drew1)|exact HB.out)⟩
   ·replace c10:=Bool.eq_false_iff.mpr c10
    subst c10
    rw [if_neg (show ¬ (false = true) by decide)] at H
    have H':=Aside0.mk H
    clear H
    try go_wp2
    have n0_:=Aside0.mk (below_drew1 HB.out)
    clear HB
    have HB:=n0_
    clear n0_
    have wx : 0 ≤ (qa : Int):=of_decide_eq_true (by first|(with_reducible assumption)|assumption)
    have ww : qa < (l0.length : Int):=of_decide_eq_true (by first|(with_reducible assumption)|assumption)
    obtain ⟨qb,vq,qi,qh,qg,qf,qe,qd,qc⟩:=at_T41 HR0.out qa wx ww
    have qj:=qc
    have qk:=qd
    have ql:=qe
    have qm:=qf
    have qn:=qg
    have qo:=qh
    have qp:=qi
    cases vq
    replace qi:=(HB.out.cell (World.block_lt_of_cell? w _ qi)).trans qi
    replace qh:=(HB.out.cell (World.block_lt_of_cell? w _ qh)).trans qh
    replace qg:=(HB.out.cell (World.block_lt_of_cell? w _ qg)).trans qg
    replace qf:=(HB.out.cell (World.block_lt_of_cell? w _ qf)).trans qf
    replace qe:=(HB.out.cell (World.block_lt_of_cell? w _ qe)).trans qe
    replace qd:=(HB.out.cell (World.block_lt_of_cell? w _ qd)).trans qd
    replace qc:=(HB.out.cell (World.block_lt_of_cell? w _ qc)).trans qc
    replace wx:=eq_true wx
    replace ww:=eq_true ww
    have wz : 0 ≤ (qa : Int):=of_decide_eq_true (by first|(with_reducible assumption)|assumption)
    have wy : qa < (l0.length : Int):=of_decide_eq_true (by first|(with_reducible assumption)|assumption)
    obtain ⟨vn,vt,we,wd,wc,wb,wa,qz,qy⟩:=at_T41 HR0.out qa wz wy
    have qq:=qy
    have qr:=qz
    have qt:=wa
    have qu:=wb
    have qv:=wc
    have qw:=wd
    have qx:=we
    obtain rfl : qb = vn:=(by injection vt)
    replace we:=(HB.out.cell (World.block_lt_of_cell? w _ we)).trans we
    replace wd:=(HB.out.cell (World.block_lt_of_cell? w _ wd)).trans wd
    replace wc:=(HB.out.cell (World.block_lt_of_cell? w _ wc)).trans wc
    replace wb:=(HB.out.cell (World.block_lt_of_cell? w _ wb)).trans wb
    replace wa:=(HB.out.cell (World.block_lt_of_cell? w _ wa)).trans wa
    replace qz:=(HB.out.cell (World.block_lt_of_cell? w _ qz)).trans qz
    replace qy:=(HB.out.cell (World.block_lt_of_cell? w _ qy)).trans qy
    replace wz:=eq_true wz
    replace wy:=eq_true wy
    have vp : 0 ≤ (qa : Int):=of_decide_eq_true (by first|(with_reducible assumption)|assumption)
    have vo : qa < (l0.length : Int):=of_decide_eq_true (by first|(with_reducible assumption)|assumption)
    obtain ⟨vu,ug,wv,wu,wt,ws,wq,wo,wn⟩:=at_T41 HR0.out qa vp vo
    have wg:=wn
    have wh:=wo
    have wi:=wq
    have wj:=ws
    have wk:=wt
    have wl:=wu
    have wm:=wv
    obtain rfl : qb = vu:=(by injection ug)
    replace wv:=(HB.out.cell (World.block_lt_of_cell? w _ wv)).trans wv
    replace wu:=(HB.out.cell (World.block_lt_of_cell? w _ wu)).trans wu
    replace wt:=(HB.out.cell (World.block_lt_of_cell? w _ wt)).trans wt
    replace ws:=(HB.out.cell (World.block_lt_of_cell? w _ ws)).trans ws
    replace wq:=(HB.out.cell (World.block_lt_of_cell? w _ wq)).trans wq
    replace wo:=(HB.out.cell (World.block_lt_of_cell? w _ wo)).trans wo
    replace wn:=(HB.out.cell (World.block_lt_of_cell? w _ wn)).trans wn
    replace vp:=eq_true vp
    replace vo:=eq_true vo
    refine start_ (n:=24) (S:=fun w' => w'.cell? (qb.add ((qa).toNat * 7)) = some (.int .i64 ((rd_T41 l0 qa).f0)) ∧ w'.cell? ⟨(qb.add ((qa).toNat * 7)).block,(qb.add ((qa).toNat * 7)).off + 1,none⟩ = some (.int .i64 ((rd_T41 l0 qa).f1)) ∧ w'.cell? ⟨(qb.add ((qa).toNat * 7)).block,(qb.add ((qa).toNat * 7)).off + 2,none⟩ = some (.int .i64 ((rd_T41 l0 qa).f2)) ∧ w'.cell? ⟨(qb.add ((qa).toNat * 7)).block,(qb.add ((qa).toNat * 7)).off + 3,none⟩ = some (.int .i64 ((rd_T41 l0 qa).f3)) ∧ w'.cell? ⟨(qb.add ((qa).toNat * 7)).block,(qb.add ((qa).toNat * 7)).off + 4,none⟩ = some (.int .i64 ((rd_T41 l0 qa).f4)) ∧ w'.cell? ⟨(qb.add ((qa).toNat * 7)).block,(qb.add ((qa).toNat * 7)).off + 5,none⟩ = some (.int .i64 ((rd_T41 l0 qa).f5)) ∧ w'.cell? ⟨(qb.add ((qa).toNat * 7)).block,(qb.add ((qa).toNat * 7)).off + 6,none⟩ = some (.int .i64 ((rd_T41 l0 qa).f6)) ∧ w'.cell? (qb.add ((qa).toNat * 7)) = some (.int .i64 ((rd_T41 l0 qa).f0)) ∧ w'.cell? ⟨(qb.add ((qa).toNat * 7)).block,(qb.add ((qa).toNat * 7)).off + 1,none⟩ = some (.int .i64 ((rd_T41 l0 qa).f1)) ∧ w'.cell? ⟨(qb.add ((qa).toNat * 7)).block,(qb.add ((qa).toNat * 7)).off + 2,none⟩ = some (.int .i64 ((rd_T41 l0 qa).f2)) ∧ w'.cell? ⟨(qb.add ((qa).toNat * 7)).block,(qb.add ((qa).toNat * 7)).off + 3,none⟩ = some (.int .i64 ((rd_T41 l0 qa).f3)) ∧ w'.cell? ⟨(qb.add ((qa).toNat * 7)).block,(qb.add ((qa).toNat * 7)).off + 4,none⟩ = some (.int .i64 ((rd_T41 l0 qa).f4)) ∧ w'.cell? ⟨(qb.add ((qa).toNat * 7)).block,(qb.add ((qa).toNat * 7)).off + 5,none⟩ = some (.int .i64 ((rd_T41 l0 qa).f5)) ∧ w'.cell? ⟨(qb.add ((qa).toNat * 7)).block,(qb.add ((qa).toNat * 7)).off + 6,none⟩ = some (.int .i64 ((rd_T41 l0 qa).f6)) ∧ w'.cell? (qb.add ((qa).toNat * 7)) = some (.int .i64 ((rd_T41 l0 qa).f0)) ∧ w'.cell? ⟨(qb.add ((qa).toNat * 7)).block,(qb.add ((qa).toNat * 7)).off + 1,none⟩ = some (.int .i64 ((rd_T41 l0 qa).f1)) ∧ w'.cell? ⟨(qb.add ((qa).toNat * 7)).block,(qb.add ((qa).toNat * 7)).off + 2,none⟩ = some (.int .i64 ((rd_T41 l0 qa).f2)) ∧ w'.cell? ⟨(qb.add ((qa).toNat * 7)).block,(qb.add ((qa).toNat * 7)).off + 3,none⟩ = some (.int .i64 ((rd_T41 l0 qa).f3)) ∧ w'.cell? ⟨(qb.add ((qa).toNat * 7)).block,(qb.add ((qa).toNat * 7)).off + 4,none⟩ = some (.int .i64 ((rd_T41 l0 qa).f4)) ∧ w'.cell? ⟨(qb.add ((qa).toNat * 7)).block,(qb.add ((qa).toNat * 7)).off + 5,none⟩ = some (.int .i64 ((rd_T41 l0 qa).f5)) ∧ w'.cell? ⟨(qb.add ((qa).toNat * 7)).block,(qb.add ((qa).toNat * 7)).off + 6,none⟩ = some (.int .i64 ((rd_T41 l0 qa).f6))) (ds:=[]) #[false,false,false,false,false,false,false,false,false,false,false,false,false,false,false,false,false,false,false,false,false,false,false,false] (by kernel_rfl) rfl rfl ⟨((HB.out.cell (World.block_lt_of_cell? w _ qp)).trans qp),((HB.out.cell (World.block_lt_of_cell? w _ qo)).trans qo),((HB.out.cell (World.block_lt_of_cell? w _ qn)).trans qn),((HB.out.cell (World.block_lt_of_cell? w _ qm)).trans qm),((HB.out.cell (World.block_lt_of_cell? w _ ql)).trans ql),((HB.out.cell (World.block_lt_of_cell? w _ qk)).trans qk),((HB.out.cell (World.block_lt_of_cell? w _ qj)).trans qj),((HB.out.cell (World.block_lt_of_cell? w _ qx)).trans qx),((HB.out.cell (World.block_lt_of_cell? w _ qw)).trans qw),((HB.out.cell (World.block_lt_of_cell? w _ qv)).trans qv),((HB.out.cell (World.block_lt_of_cell? w _ qu)).trans qu),((HB.out.cell (World.block_lt_of_cell? w _ qt)).trans qt),((HB.out.cell (World.block_lt_of_cell? w _ qr)).trans qr),((HB.out.cell (World.block_lt_of_cell? w _ qq)).trans qq),((HB.out.cell (World.block_lt_of_cell? w _ wm)).trans wm),((HB.out.cell (World.block_lt_of_cell? w _ wl)).trans wl),((HB.out.cell (World.block_lt_of_cell? w _ wk)).trans wk),((HB.out.cell (World.block_lt_of_cell? w _ wj)).trans wj),((HB.out.cell (World.block_lt_of_cell? w _ wi)).trans wi),((HB.out.cell (World.block_lt_of_cell? w _ wh)).trans wh),((HB.out.cell (World.block_lt_of_cell? w _ wg)).trans wg)⟩ (fun hHeld=>?_);refine with_tabW spec_l11Cache.tab4 spec_l11Cache.bits4 (fun HT_ HW_=>?_)
    generalize wr.drew = w15 at HB qi qh qg qf qe qd qc we wd wc wb wa qz qy wv wu wt ws wq wo wn hHeld ⊢
    refine pure_ (i:=0) (N:=some 10) (v:=?_) (a':=?_) #[true,false,false,false,false,false,false,false,false,false,false,false,false,false,false,false,false,false,false,false,false,false,false,false] rfl rfl (any_of HT_.out (by kernel_rfl)) (fun _ _ _ h=>h) (Or.inl ⟨by rfl,?_⟩) ?_ ?_
    rotate_left
    ·intro w'
     go_simp
     with_reducible rfl
    rotate_left
    ·exact z8a
    refine pure_ (i:=1) (N:=some 11) (v:=?_) (a':=?_) #[true,true,false,false,false,false,false,false,false,false,false,false,false,false,false,false,false,false,false,false,false,false,false,false] rfl rfl (any_of HT_.out (by kernel_rfl)) (fun _ _ _ h=>h) (Or.inl ⟨by rfl,?_⟩) ?_ ?_
    rotate_left
    ·intro w'
     go_simp
     with_reducible rfl
    rotate_left
    ·exact z8a
    refine pure_ (i:=2) (N:=some 12) (v:=?_) (a':=?_) #[true,true,true,false,false,false,false,false,false,false,false,false,false,false,false,false,false,false,false,false,false,false,false,false] rfl rfl (any_of HT_.out (by kernel_rfl)) (fun _ _ _ h=>h) (Or.inl ⟨by rfl,?_⟩) ?_ ?_
    rotate_left
    ·intro w'
     go_simp
     with_reducible rfl
    rotate_left
    ·exact z8a
    refine pure_ (i:=3) (N:=some 13) (v:=?_) (a':=?_) #[true,true,true,true,false,false,false,false,false,false,false,false,false,false,false,false,false,false,false,false,false,false,false,false] rfl rfl (any_of HT_.out (by kernel_rfl)) (fun _ _ _ h=>h) (Or.inl ⟨by rfl,?_⟩) ?_ ?_
    rotate_left
    ·intro w'
     go_simp
     with_reducible rfl
    rotate_left
    ·exact z8a
    refine take_ (i:=4) (N:=some 14) (v:=?_) (a':=?_) #[true,true,true,true,true,false,false,false,false,false,false,false,false,false,false,false,false,false,false,false,false,false,false,false] rfl rfl (take_ofW HT_.out HW_.out (by kernel_rfl)) (fun _ _ _ h=>h) (Or.inl ⟨by rfl,?_⟩) hHeld ?_ ?_
    rotate_left
    ·rintro w' ⟨s0,s1,s2,s3,s4,s5,s6,s7,s8,s9,s10,s11,s12,s13,s14,s15,s16,s17,s18,s19,s20⟩
     go_simp
     with_reducible rfl
    rotate_left
    ·exact z8a
    refine pure_ (i:=5) (N:=some 15) (v:=?_) (a':=?_) #[true,true,true,true,true,true,false,false,false,false,false,false,false,false,false,false,false,false,false,false,false,false,false,false] rfl rfl (any_of HT_.out (by kernel_rfl)) (fun _ _ _ h=>h) (Or.inl ⟨by rfl,?_⟩) ?_ ?_
    rotate_left
    ·intro w'
     go_simp
     with_reducible rfl
    rotate_left
    ·exact z8a
    refine pure_ (i:=6) (N:=some 16) (v:=?_) (a':=?_) #[true,true,true,true,true,true,true,false,false,false,false,false,false,false,false,false,false,false,false,false,false,false,false,false] rfl rfl (any_of HT_.out (by kernel_rfl)) (fun _ _ _ h=>h) (Or.inl ⟨by rfl,?_⟩) ?_ ?_
    rotate_left
    ·intro w'
     go_simp
     with_reducible rfl
    rotate_left
    ·exact z8a
    refine pure_ (i:=7) (N:=some 17) (v:=?_) (a':=?_) #[true,true,true,true,true,true,true,true,false,false,false,false,false,false,false,false,false,false,false,false,false,false,false,false] rfl rfl (any_of HT_.out (by kernel_rfl)) (fun _ _ _ h=>h) (Or.inl ⟨by rfl,?_⟩) ?_ ?_
    rotate_left
    ·intro w'
     go_simp
     with_reducible rfl
    rotate_left
    ·exact z8a
    refine pure_ (i:=8) (N:=some 18) (v:=?_) (a':=?_) #[true,true,true,true,true,true,true,true,true,false,false,false,false,false,false,false,false,false,false,false,false,false,false,false] rfl rfl (any_of HT_.out (by kernel_rfl)) (fun _ _ _ h=>h) (Or.inl ⟨by rfl,?_⟩) ?_ ?_
    rotate_left
    ·intro w'
     go_simp
     with_reducible rfl
    rotate_left
    ·exact z8a
    refine pure_ (i:=9) (N:=some 19) (v:=?_) (a':=?_) #[true,true,true,true,true,true,true,true,true,true,false,false,false,false,false,false,false,false,false,false,false,false,false,false] rfl rfl (any_of HT_.out (by kernel_rfl)) (fun _ _ _ h=>h) (Or.inl ⟨by rfl,?_⟩) ?_ ?_
    rotate_left
    ·intro w'
     go_simp
     with_reducible rfl
    rotate_left
    ·exact z8a
    refine take_ (i:=10) (N:=some 20) (v:=?_) (a':=?_) #[true,true,true,true,true,true,true,true,true,true,true,false,false,false,false,false,false,false,false,false,false,false,false,false] rfl rfl (take_ofW HT_.out HW_.out (by kernel_rfl)) (fun _ _ _ h=>h) (Or.inl ⟨by rfl,?_⟩) hHeld ?_ ?_
    rotate_left
    ·rintro w' ⟨s0,s1,s2,s3,s4,s5,s6,s7,s8,s9,s10,s11,s12,s13,s14,s15,s16,s17,s18,s19,s20⟩
     go_simp
     with_reducible rfl
    rotate_left
    ·exact z8a
    refine one_ (i:=11) (N:=some 21) #[true,true,true,true,true,true,true,true,true,true,true,true,false,false,false,false,false,false,false,false,false,false,false,false] rfl rfl (one_of HT_.out (by kernel_rfl)) (by decide) (fun K hK=>?_)
    refine goes_ Try.func90 (by kernel_rfl) rfl #[.agg #[.int .i64 ((rd_T41 l0 qa).f0),.int .i64 ((rd_T41 l0 qa).f1),.int .i64 ((rd_T41 l0 qa).f2),.int .i64 ((rd_T41 l0 qa).f3),.int .i64 ((rd_T41 l0 qa).f4),.int .i64 ((rd_T41 l0 qa).f5),.int .i64 ((rd_T41 l0 qa).f6)]] (by rfl) rfl rfl z8x0 ?_
    with_reducible refine (spec_SealOk.calls ((rd_T41 l0 qa).f0) ((rd_T41 l0 qa).f1) ((rd_T41 l0 qa).f2) ((rd_T41 l0 qa).f3) ((rd_T41 l0 qa).f4) ((rd_T41 l0 qa).f5) ((rd_T41 l0 qa).f6) true _ A5.out).mono ?_
    rintro e w16 ⟨rfl,hb⟩
    refine ⟨_,rfl,?_⟩
    have n0_:=Aside0.mk (below_step z8x1 hb)
    clear HB
    have HB:=n0_
    clear n0_
    (try clear hb)
    (try clear hb2)
    (try clear hk)
    (try clear hi)
    have q17 : (qa : Int) ≤ ((l0.length : Int) : Int):=of_decide_eq_true (by first|(with_reducible assumption)|assumption)
    obtain ⟨uo,vy,_,uh,_⟩:=info_parts info41
    have hroom17 : l0.length ≤ c0:=HC0.out
    have uj : Kd.C k41 _ (some qb) l0.length l0:=HR0.out
    have ue:=cut_to (P:=Try.prog) 32 41 .i64 Try.underlying32 vy (some qb) l0.length c0 qa (of_decide_eq_true (by first|(with_reducible assumption)|assumption)) q17 hroom17
    have uc:=Kd.C_take (m:=(qa : Int).toNat) uj (by omega)
    have ua : vk.length = (qa : Int).toNat:=(by rw [vr.out,List.length_take];omega)
    rw [← vr.out] at uc
    rw [← ua] at ue
    have vv:=Aside0.mk uc
    have vw:=Aside0.mk (show vk.length ≤ c0 from by omega)
    clear uc uj hroom17 vy uh
    have uw:=Aside0.mk ua
    clear ua
    replace q17:=eq_true q17
    refine hK.out _ _ ⟨((HB.out.cell (World.block_lt_of_cell? w _ qp)).trans qp),((HB.out.cell (World.block_lt_of_cell? w _ qo)).trans qo),((HB.out.cell (World.block_lt_of_cell? w _ qn)).trans qn),((HB.out.cell (World.block_lt_of_cell? w _ qm)).trans qm),((HB.out.cell (World.block_lt_of_cell? w _ ql)).trans ql),((HB.out.cell (World.block_lt_of_cell? w _ qk)).trans qk),((HB.out.cell (World.block_lt_of_cell? w _ qj)).trans qj),((HB.out.cell (World.block_lt_of_cell? w _ qx)).trans qx),((HB.out.cell (World.block_lt_of_cell? w _ qw)).trans qw),((HB.out.cell (World.block_lt_of_cell? w _ qv)).trans qv),((HB.out.cell (World.block_lt_of_cell? w _ qu)).trans qu),((HB.out.cell (World.block_lt_of_cell? w _ qt)).trans qt),((HB.out.cell (World.block_lt_of_cell? w _ qr)).trans qr),((HB.out.cell (World.block_lt_of_cell? w _ qq)).trans qq),((HB.out.cell (World.block_lt_of_cell? w _ wm)).trans wm),((HB.out.cell (World.block_lt_of_cell? w _ wl)).trans wl),((HB.out.cell (World.block_lt_of_cell? w _ wk)).trans wk),((HB.out.cell (World.block_lt_of_cell? w _ wj)).trans wj),((HB.out.cell (World.block_lt_of_cell? w _ wi)).trans wi),((HB.out.cell (World.block_lt_of_cell? w _ wh)).trans wh),((HB.out.cell (World.block_lt_of_cell? w _ wg)).trans wg)⟩ (fun hHeld=>?_)
    clear hK K
    refine norm_ (a':=?_) ?_ ?_
    rotate_left
    ·show Act.put _ (some 21) _ = _
     simp only [Act.put,List.setIfInBounds_toArray,List.set_cons_zero,List.set_cons_succ,i64_w,i32_w]
     rfl
    refine pure_ (i:=12) (N:=some 22) (v:=?_) (a':=?_) #[true,true,true,true,true,true,true,true,true,true,true,true,true,false,false,false,false,false,false,false,false,false,false,false] rfl rfl (any_of HT_.out (by kernel_rfl)) (fun _ _ _ h=>h) (Or.inl ⟨by rfl,?_⟩) ?_ ?_
    rotate_left
    ·intro w'
     go_simp
     with_reducible rfl
    rotate_left
    ·exact z8a
    refine pure_ (i:=13) (N:=some 23) (v:=?_) (a':=?_) #[true,true,true,true,true,true,true,true,true,true,true,true,true,true,false,false,false,false,false,false,false,false,false,false] rfl rfl (any_of HT_.out (by kernel_rfl)) (fun _ _ _ h=>h) (Or.inl ⟨by rfl,?_⟩) ?_ ?_
    rotate_left
    ·intro w'
     go_simp
     with_reducible rfl
    rotate_left
    ·exact z8a
    refine pure_ (i:=14) (N:=some 24) (v:=?_) (a':=?_) #[true,true,true,true,true,true,true,true,true,true,true,true,true,true,true,false,false,false,false,false,false,false,false,false] rfl rfl (any_of HT_.out (by kernel_rfl)) (fun _ _ _ h=>h) (Or.inl ⟨by rfl,?_⟩) ?_ ?_
    rotate_left
    ·intro w'
     go_simp
     with_reducible rfl
    rotate_left
    ·exact z8a
    refine pure_ (i:=15) (N:=some 25) (v:=?_) (a':=?_) #[true,true,true,true,true,true,true,true,true,true,true,true,true,true,true,true,false,false,false,false,false,false,false,false] rfl rfl (any_of HT_.out (by kernel_rfl)) (fun _ _ _ h=>h) (Or.inl ⟨by rfl,?_⟩) ?_ ?_
    rotate_left
    ·intro w'
     go_simp
     with_reducible rfl
    rotate_left
    ·exact z8a
    refine pure_ (i:=16) (N:=some 26) (v:=?_) (a':=?_) #[true,true,true,true,true,true,true,true,true,true,true,true,true,true,true,true,true,false,false,false,false,false,false,false] rfl rfl (any_of HT_.out (by kernel_rfl)) (fun _ _ _ h=>h) (Or.inl ⟨by rfl,?_⟩) ?_ ?_
    rotate_left
    ·intro w'
     go_simp
     with_reducible rfl
    rotate_left
    ·exact z8a
    refine pure_ (i:=17) (N:=some 27) (v:=?_) (a':=?_) #[true,true,true,true,true,true,true,true,true,true,true,true,true,true,true,true,true,true,false,false,false,false,false,false] rfl rfl (any_of HT_.out (by kernel_rfl)) (fun _ _ _ h=>h) (Or.inl ⟨by rfl,?_⟩) ?_ ?_
    rotate_left
    ·intro w'
     go_simp
     with_reducible rfl
    rotate_left
    ·exact z8a
    refine pure_ (i:=18) (N:=some 28) (v:=?_) (a':=?_) #[true,true,true,true,true,true,true,true,true,true,true,true,true,true,true,true,true,true,true,false,false,false,false,false] rfl rfl (any_of HT_.out (by kernel_rfl)) (fun _ _ _ h=>h) (Or.inl ⟨by rfl,?_⟩) ?_ ?_
    rotate_left
    ·intro w'
     go_simp
     with_reducible rfl
    rotate_left
    ·exact z8a
    refine pure_ (i:=19) (N:=some 29) (v:=?_) (a':=?_) #[true,true,true,true,true,true,true,true,true,true,true,true,true,true,true,true,true,true,true,true,false,false,false,false] rfl rfl (any_of HT_.out (by kernel_rfl)) (fun _ _ _ h=>h) (Or.inl ⟨by rfl,?_⟩) ?_ ?_
    rotate_left
    ·intro w'
     go_simp
     with_reducible rfl
    rotate_left
    ·exact z8a
    refine pure_ (i:=20) (N:=some 30) (v:=?_) (a':=?_) #[true,true,true,true,true,true,true,true,true,true,true,true,true,true,true,true,true,true,true,true,true,false,false,false] rfl rfl (any_of HT_.out (by kernel_rfl)) (fun _ _ _ h=>h) (Or.inl ⟨by rfl,?_⟩) ?_ ?_
    rotate_left
    ·intro w'
     go_simp
     with_reducible rfl
    rotate_left
    ·exact z8a
    refine take_ (i:=21) (N:=some 31) (v:=?_) (a':=?_) #[true,true,true,true,true,true,true,true,true,true,true,true,true,true,true,true,true,true,true,true,true,true,false,false] rfl rfl (take_ofW HT_.out HW_.out (by kernel_rfl)) (fun _ _ _ h=>h) (Or.inl ⟨by rfl,?_⟩) hHeld ?_ ?_
    rotate_left
    ·rintro w' ⟨s0,s1,s2,s3,s4,s5,s6,s7,s8,s9,s10,s11,s12,s13,s14,s15,s16,s17,s18,s19,s20⟩
     go_simp
     with_reducible rfl
    rotate_left
    ·exact z8a
    refine one_ (i:=22) (N:=some 32) #[true,true,true,true,true,true,true,true,true,true,true,true,true,true,true,true,true,true,true,true,true,true,true,false] rfl rfl (one_of HT_.out (by kernel_rfl)) (by decide) (fun K hK=>?_)
    refine goes_ Try.func144 (by kernel_rfl) rfl #[.slice (some qb) vk.length c0,.agg #[.int .i64 ((rd_T41 l0 qa).f0),.int .i64 ((rd_T41 l0 qa).f1),.int .i64 ((rd_T41 l0 qa).f2),.int .i64 ((rd_T41 l0 qa).f3),.int .i64 ((rd_T41 l0 qa).f4),.int .i64 ((rd_T41 l0 qa).f5),.int .i64 ((rd_T41 l0 qa).f6)]] (by rfl) rfl rfl z8x0 ?_
    with_reducible refine (spec_l3Among.calls k1 _ _ vk ((rd_T41 l0 qa).f0) ((rd_T41 l0 qa).f1) ((rd_T41 l0 qa).f2) ((rd_T41 l0 qa).f3) ((rd_T41 l0 qa).f4) ((rd_T41 l0 qa).f5) ((rd_T41 l0 qa).f6) false _ ?side1 ?side2 A9.out).mono ?_
    (case side1=>repeat (first|exact (Kd.C_below vv.out HB.out)|(with_reducible refine Kd.C_alloc ?_ _)|(with_reducible refine Kd.C_drewN ?_ _)|(with_reducible refine Kd.C_drew ?_)))
    (case side2=>exact vw.out)
    rintro e w18 ⟨rfl,hb⟩
    refine ⟨_,rfl,?_⟩
    have n0_:=Aside0.mk (below_step z8x1 hb)
    clear HB
    have HB:=n0_
    clear n0_
    (try clear hb)
    (try clear hb2)
    (try clear hk)
    (try clear hi)
    refine hK.out _ _ ⟨((HB.out.cell (World.block_lt_of_cell? w _ qp)).trans qp),((HB.out.cell (World.block_lt_of_cell? w _ qo)).trans qo),((HB.out.cell (World.block_lt_of_cell? w _ qn)).trans qn),((HB.out.cell (World.block_lt_of_cell? w _ qm)).trans qm),((HB.out.cell (World.block_lt_of_cell? w _ ql)).trans ql),((HB.out.cell (World.block_lt_of_cell? w _ qk)).trans qk),((HB.out.cell (World.block_lt_of_cell? w _ qj)).trans qj),((HB.out.cell (World.block_lt_of_cell? w _ qx)).trans qx),((HB.out.cell (World.block_lt_of_cell? w _ qw)).trans qw),((HB.out.cell (World.block_lt_of_cell? w _ qv)).trans qv),((HB.out.cell (World.block_lt_of_cell? w _ qu)).trans qu),((HB.out.cell (World.block_lt_of_cell? w _ qt)).trans qt),((HB.out.cell (World.block_lt_of_cell? w _ qr)).trans qr),((HB.out.cell (World.block_lt_of_cell? w _ qq)).trans qq),((HB.out.cell (World.block_lt_of_cell? w _ wm)).trans wm),((HB.out.cell (World.block_lt_of_cell? w _ wl)).trans wl),((HB.out.cell (World.block_lt_of_cell? w _ wk)).trans wk),((HB.out.cell (World.block_lt_of_cell? w _ wj)).trans wj),((HB.out.cell (World.block_lt_of_cell? w _ wi)).trans wi),((HB.out.cell (World.block_lt_of_cell? w _ wh)).trans wh),((HB.out.cell (World.block_lt_of_cell? w _ wg)).trans wg)⟩ (fun hHeld=>?_)
    clear hK K
    refine norm_ (a':=?_) ?_ ?_
    rotate_left
    ·show Act.put _ (some 32) _ = _
     simp only [Act.put,List.setIfInBounds_toArray,List.set_cons_zero,List.set_cons_succ,i64_w,i32_w]
     rfl
    refine pure_ (i:=23) (N:=some 33) (v:=?_) (a':=?_) #[true,true,true,true,true,true,true,true,true,true,true,true,true,true,true,true,true,true,true,true,true,true,true,true] rfl rfl (any_of HT_.out (by kernel_rfl)) (fun _ _ _ h=>h) (Or.inl ⟨by rfl,?_⟩) ?_ ?_
    rotate_left
    ·intro w'
     go_simp
     with_reducible rfl
    rotate_left
    ·exact z8a
    refine done_ (done_of HT_.out (by kernel_rfl)) ?_
    try go_wp2
    go_roundg k1
    case measure=>have:=HK1.out;omega
    case rel=>exact ⟨(wrap64 (qa + 1)),(by first|rfl|(simp;done)|(simp [*];done)),H',⟨by have:=HK1.out;omega⟩,⟨by repeat (first|(with_reducible first|exact HB.out|apply below_alloc|apply pw_below_drewN|apply below_drew1)|exact HB.out)⟩⟩

end Go.Proofs.Ytbipicjijbnbbaa.Hp
