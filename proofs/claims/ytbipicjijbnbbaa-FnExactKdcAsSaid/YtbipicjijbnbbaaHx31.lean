-- hp.py
import Derived.Test.YtbipicjijbnbbaaHx0
import Derived.Test.YtbipicjijbnbbaaHx30
namespace Go.Proofs.Ytbipicjijbnbbaa.Hp
open Go.RowKit Go.Proofs.YtbipicjijbnbbaaW.PrintWords Go.Proofs.YtbipicjijbnbbaaW.PrintLast Go.Proofs.YtbipicjijbnbbaaW.PrintMore
attribute [local go_sem] max2_int min2_int max_two min_two max_three min_three max_four min_four   -- for this text's walks alone
set_option linter.unusedVariables false
set_option linter.unusedSimpArgs false
theorem z31a {P : Prop} (h : P:=by simp only [Act.put,List.setIfInBounds_toArray,List.set_cons_zero,List.set_cons_succ,i64_w,i32_w];rfl) : P:=h
-- squeezed by wip/tools/squeeze.py

/-! ### laws_eqSealS: function 29 -/
def laws_eqSealS.l0 : Nat → List (S41) → List (S41) → Int → Option (Bool)
 | 0,_,_,_=>none
 | k + 1,x0,x1,x5=>if x5 < (x0.length : Int) then (if 0 ≤ x5 then (if x5 < (x1.length : Int) then ((laws_eqSeal.f ((rd_T41 x0 x5).f0) ((rd_T41 x0 x5).f1) ((rd_T41 x0 x5).f2) ((rd_T41 x0 x5).f3) ((rd_T41 x0 x5).f4) ((rd_T41 x0 x5).f5) ((rd_T41 x0 x5).f6) ((rd_T41 x1 x5).f0) ((rd_T41 x1 x5).f1) ((rd_T41 x1 x5).f2) ((rd_T41 x1 x5).f3) ((rd_T41 x1 x5).f4) ((rd_T41 x1 x5).f5) ((rd_T41 x1 x5).f6)).bind fun wl=>(if wl = true then (laws_eqSealS.l0 k x0 x1 (wrap64 (x5 + 1))) else (some false))) else (none)) else (none)) else (some true)
def laws_eqSealS.f (k : Nat) (l0 : List (S41)) (l1 : List (S41)) : Option (Bool):=if (l0.length : Int) = (l1.length : Int) then (laws_eqSealS.l0 k l0 l1 0) else (some false)
theorem laws_eqSealS.mono_l : ∀ k,(∀ y0 y1 y2,LeO (laws_eqSealS.l0 k y0 y1 y2) (laws_eqSealS.l0 (k + 1) y0 y1 y2))
 | 0=>fun _ _ _ r h=>by simp [laws_eqSealS.l0] at h
 | k + 1=>by
  have ih0:=laws_eqSealS.mono_l k
  ·intro y0 y1 y2
   unfold laws_eqSealS.l0
   repeat' first
   | (with_reducible exact ih0 _ _ _)
   | (with_reducible exact LeO.refl _)
   | (with_reducible exact LeO.none _)
   | (with_reducible refine LeO.ite ?_ ?_)
   | (with_reducible refine LeO.bind ?_ (fun _=>?_))
   | exact ih0 _ _ _
   | exact LeO.none _
   | refine LeO.ite ?_ ?_
   | refine LeO.bind ?_ (fun _=>?_)
theorem laws_eqSealS.mono : ∀ a0 a1 k,LeO (laws_eqSealS.f k a0 a1) (laws_eqSealS.f (k + 1) a0 a1):=by
 intro a0 a1 k
 have ih0:=laws_eqSealS.mono_l k
 unfold laws_eqSealS.f
 repeat' first
   | (with_reducible exact ih0 _ _ _)
   | (with_reducible exact LeO.refl _)
   | (with_reducible exact LeO.none _)
   | (with_reducible refine LeO.ite ?_ ?_)
   | (with_reducible refine LeO.bind ?_ (fun _=>?_))
   | exact ih0 _ _ _
   | exact LeO.none _
   | refine LeO.ite ?_ ?_
   | refine LeO.bind ?_ (fun _=>?_)
def laws_eqSealS.T6 : Bool × List (List Nat × List Nat):=(true,[([],[]),([],[]),([0,1],[0,1]),([2],[2]),([],[]),([],[]),([4,5],[4,5]),([6],[6]),([3,7],[3,7]),([8],[8])])
def laws_eqSealS.B6 : List Nat:=[0,0,3,7,0,0,48,112,255,511]
theorem laws_eqSealS.tab6 : rtab .any (opsOf Try.f29 6) = laws_eqSealS.T6:=by kernel_rfl
theorem laws_eqSealS.bits6 : waitsOk laws_eqSealS.T6.2 laws_eqSealS.B6 = true:=by kernel_rfl
set_option maxHeartbeats 8000000 in
set_option maxRecDepth 100000 in
theorem laws_eqSealS.calls (k : Nat) (A0 : Option Addr) (c0 : Nat) (l0 : List (S41)) (A1 : Option Addr) (c1 : Nat) (l1 : List (S41)) (r : Bool) (w : World) (hr0 : Kd.C k41 w A0 l0.length l0) (hc0 : l0.length ≤ c0) (hr1 : Kd.C k41 w A1 l1.length l1) (hc1 : l1.length ≤ c1) (h : laws_eqSealS.f k l0 l1 = some r) :
  Calls Try.prog 29 #[.slice A0 l0.length c0,.slice A1 l1.length c1] w fun e w' => e = .returned (.bool r) ∧ Below w.heap.size w w':=by
 have wu:=Try.underlying41
 have HR0:=Aside0.mk hr0
 have HC0:=Aside0.mk hc0
 clear hr0 hc0
 have HR1:=Aside0.mk hr1
 have HC1:=Aside0.mk hc1
 clear hr1 hc1
 have HB:=Aside0.mk (Below.refl w.heap.size w)
 have H : (if (l0.length : Int) = (l1.length : Int) then (laws_eqSealS.l0 k l0 l1 0) else (some false)) = some r:=h
 clear h
 by_cases c3 : (l0.length : Int) = (l1.length : Int)
 rotate_left
 ·rw [if_neg c3] at H
  have ws : ((l0.length : Int) == (l1.length : Int)) = false:=beq_eq_false_iff_ne.mpr c3
  have wq : ((l0.length : Int) != (l1.length : Int)) = true:=bne_iff_ne.mpr c3
  have wo : (l0.length == l1.length) = false:=by first|simpa using c3|(simp at c3 ⊢; omega)
  obtain rfl:=Option.some.inj H
  go_enter Try.func29,Try.ntmps29
  go_wp2
  go_ret
  exact ⟨by first|rfl|(simp [errW_none,errW_some] <;> rfl)|(simp [*,errW_none,errW_some] <;> rfl),by repeat (first|(with_reducible first|exact HB.out|apply below_alloc|apply pw_below_drewN|apply below_drew1)|exact HB.out)⟩
 rw [if_pos c3] at H
 have ws : ((l0.length : Int) == (l1.length : Int)) = true:=beq_iff_eq.mpr c3
 have wq : ((l0.length : Int) != (l1.length : Int)) = false:=bne_eq_false_iff_eq.mpr c3
 have wo : (l0.length == l1.length) = true:=by first|simpa using c3|(simp at c3 ⊢; omega)
 clear c3
 have H':=Aside0.mk H
 clear H
 go_enter Try.func29,Try.ntmps29
 go_wp2
 go_loopg [5] k (fun kq v5 w' => ∃ (qa : Int),v5 = .int .i64 qa ∧ Aside0 (laws_eqSealS.l0 kq l0 l1 qa = some r) ∧ Aside0 (kq ≤ k) ∧ Aside0 (Below w.heap.size w w'))
 case atStart=>exact ⟨(0),(by first|rfl|(simp;done)|(simp [*];done)),H',⟨Nat.le_refl _⟩,⟨by repeat (first|(with_reducible first|exact HB.out|apply below_alloc|apply pw_below_drewN|apply below_drew1)|exact HB.out)⟩⟩
 case round =>
  clear H'
  try clear c1
  try clear c2
  try clear p2
  try clear c3
  try clear ws
  try clear wq
  try clear wo
  obtain ⟨qa,rfl,HA,HK1,HB⟩:=hrel
  cases gk with
  | zero=>exact absurd HA.out (by simp [laws_eqSealS.l0])
  | succ k1 =>
   have H:=HA.out
   clear HA
   simp only [laws_eqSealS.l0] at H
   by_cases c4 : qa < (l0.length : Int)
   rotate_left
   ·rw [if_neg c4] at H
    have wt : decide (qa < (l0.length : Int)) = false:=decide_eq_false c4
    clear c4
    obtain rfl:=Option.some.inj H
    go_wp2
    go_ret
    exact ⟨by first|rfl|(simp [errW_none,errW_some] <;> rfl)|(simp [*,errW_none,errW_some] <;> rfl),by repeat (first|(with_reducible first|exact HB.out|apply below_alloc|apply pw_below_drewN|apply below_drew1)|exact HB.out)⟩
   rw [if_pos c4] at H
   have wt : decide (qa < (l0.length : Int)) = true:=decide_eq_true c4
   clear c4
   by_cases c5 : 0 ≤ qa
   rotate_left
   ·rw [if_neg c5] at H
    exact absurd H (by simp)
   rw [if_pos c5] at H
   have ww : decide (0 ≤ qa) = true:=decide_eq_true c5
   clear c5
   by_cases c6 : qa < (l1.length : Int)
   rotate_left
   ·rw [if_neg c6] at H
    exact absurd H (by simp)
   rw [if_pos c6] at H
   have wv : decide (qa < (l1.length : Int)) = true:=decide_eq_true c6
   clear c6
   replace H:=Option.bind_eq_some_iff.mp H
   obtain ⟨wl,A70,H⟩:=H
   replace H : (if wl = true then (laws_eqSealS.l0 k1 l0 l1 (wrap64 (qa + 1))) else (some false)) = some r:=H
   have A7:=Aside0.mk A70
   clear A70
   by_cases c8 : wl = true
   rotate_left
   ·replace c8:=Bool.eq_false_iff.mpr c8
    subst c8
    rw [if_neg (show ¬ (false = true) by decide)] at H
    obtain rfl:=Option.some.inj H
    try go_wp2
    have n0_:=Aside0.mk (below_drew1 HB.out)
    clear HB
    have HB:=n0_
    clear n0_
    have wk : 0 ≤ (qa : Int):=of_decide_eq_true (by first|(with_reducible assumption)|assumption)
    have wi : qa < (l0.length : Int):=of_decide_eq_true (by first|(with_reducible assumption)|assumption)
    obtain ⟨qc,wn,qq,qp,qo,qn,qm,ql,qk⟩:=at_T41 HR0.out qa wk wi
    have qz:=qk
    have wa:=ql
    have wb:=qm
    have wc:=qn
    have wd:=qo
    have we:=qp
    have wg:=qq
    cases wn
    replace qq:=(HB.out.cell (World.block_lt_of_cell? w _ qq)).trans qq
    replace qp:=(HB.out.cell (World.block_lt_of_cell? w _ qp)).trans qp
    replace qo:=(HB.out.cell (World.block_lt_of_cell? w _ qo)).trans qo
    replace qn:=(HB.out.cell (World.block_lt_of_cell? w _ qn)).trans qn
    replace qm:=(HB.out.cell (World.block_lt_of_cell? w _ qm)).trans qm
    replace ql:=(HB.out.cell (World.block_lt_of_cell? w _ ql)).trans ql
    replace qk:=(HB.out.cell (World.block_lt_of_cell? w _ qk)).trans qk
    replace wk:=eq_true wk
    replace wi:=eq_true wi
    have wj : 0 ≤ (qa : Int):=of_decide_eq_true (by first|(with_reducible assumption)|assumption)
    have wh : qa < (l1.length : Int):=of_decide_eq_true (by first|(with_reducible assumption)|assumption)
    obtain ⟨qb,wm,qj,qi,qh,qg,qf,qe,qd⟩:=at_T41 HR1.out qa wj wh
    have qr:=qd
    have qt:=qe
    have qu:=qf
    have qv:=qg
    have qw:=qh
    have qx:=qi
    have qy:=qj
    cases wm
    replace qj:=(HB.out.cell (World.block_lt_of_cell? w _ qj)).trans qj
    replace qi:=(HB.out.cell (World.block_lt_of_cell? w _ qi)).trans qi
    replace qh:=(HB.out.cell (World.block_lt_of_cell? w _ qh)).trans qh
    replace qg:=(HB.out.cell (World.block_lt_of_cell? w _ qg)).trans qg
    replace qf:=(HB.out.cell (World.block_lt_of_cell? w _ qf)).trans qf
    replace qe:=(HB.out.cell (World.block_lt_of_cell? w _ qe)).trans qe
    replace qd:=(HB.out.cell (World.block_lt_of_cell? w _ qd)).trans qd
    replace wj:=eq_true wj
    replace wh:=eq_true wh
    refine start_ (n:=10) (S:=fun w' => w'.cell? (qc.add ((qa).toNat * 7)) = some (.int .i64 ((rd_T41 l0 qa).f0)) ∧ w'.cell? ⟨(qc.add ((qa).toNat * 7)).block,(qc.add ((qa).toNat * 7)).off + 1,none⟩ = some (.int .i64 ((rd_T41 l0 qa).f1)) ∧ w'.cell? ⟨(qc.add ((qa).toNat * 7)).block,(qc.add ((qa).toNat * 7)).off + 2,none⟩ = some (.int .i64 ((rd_T41 l0 qa).f2)) ∧ w'.cell? ⟨(qc.add ((qa).toNat * 7)).block,(qc.add ((qa).toNat * 7)).off + 3,none⟩ = some (.int .i64 ((rd_T41 l0 qa).f3)) ∧ w'.cell? ⟨(qc.add ((qa).toNat * 7)).block,(qc.add ((qa).toNat * 7)).off + 4,none⟩ = some (.int .i64 ((rd_T41 l0 qa).f4)) ∧ w'.cell? ⟨(qc.add ((qa).toNat * 7)).block,(qc.add ((qa).toNat * 7)).off + 5,none⟩ = some (.int .i64 ((rd_T41 l0 qa).f5)) ∧ w'.cell? ⟨(qc.add ((qa).toNat * 7)).block,(qc.add ((qa).toNat * 7)).off + 6,none⟩ = some (.int .i64 ((rd_T41 l0 qa).f6)) ∧ w'.cell? (qb.add ((qa).toNat * 7)) = some (.int .i64 ((rd_T41 l1 qa).f0)) ∧ w'.cell? ⟨(qb.add ((qa).toNat * 7)).block,(qb.add ((qa).toNat * 7)).off + 1,none⟩ = some (.int .i64 ((rd_T41 l1 qa).f1)) ∧ w'.cell? ⟨(qb.add ((qa).toNat * 7)).block,(qb.add ((qa).toNat * 7)).off + 2,none⟩ = some (.int .i64 ((rd_T41 l1 qa).f2)) ∧ w'.cell? ⟨(qb.add ((qa).toNat * 7)).block,(qb.add ((qa).toNat * 7)).off + 3,none⟩ = some (.int .i64 ((rd_T41 l1 qa).f3)) ∧ w'.cell? ⟨(qb.add ((qa).toNat * 7)).block,(qb.add ((qa).toNat * 7)).off + 4,none⟩ = some (.int .i64 ((rd_T41 l1 qa).f4)) ∧ w'.cell? ⟨(qb.add ((qa).toNat * 7)).block,(qb.add ((qa).toNat * 7)).off + 5,none⟩ = some (.int .i64 ((rd_T41 l1 qa).f5)) ∧ w'.cell? ⟨(qb.add ((qa).toNat * 7)).block,(qb.add ((qa).toNat * 7)).off + 6,none⟩ = some (.int .i64 ((rd_T41 l1 qa).f6))) (ds:=[]) #[false,false,false,false,false,false,false,false,false,false] (by kernel_rfl) rfl rfl ⟨((HB.out.cell (World.block_lt_of_cell? w _ wg)).trans wg),((HB.out.cell (World.block_lt_of_cell? w _ we)).trans we),((HB.out.cell (World.block_lt_of_cell? w _ wd)).trans wd),((HB.out.cell (World.block_lt_of_cell? w _ wc)).trans wc),((HB.out.cell (World.block_lt_of_cell? w _ wb)).trans wb),((HB.out.cell (World.block_lt_of_cell? w _ wa)).trans wa),((HB.out.cell (World.block_lt_of_cell? w _ qz)).trans qz),((HB.out.cell (World.block_lt_of_cell? w _ qy)).trans qy),((HB.out.cell (World.block_lt_of_cell? w _ qx)).trans qx),((HB.out.cell (World.block_lt_of_cell? w _ qw)).trans qw),((HB.out.cell (World.block_lt_of_cell? w _ qv)).trans qv),((HB.out.cell (World.block_lt_of_cell? w _ qu)).trans qu),((HB.out.cell (World.block_lt_of_cell? w _ qt)).trans qt),((HB.out.cell (World.block_lt_of_cell? w _ qr)).trans qr)⟩ (fun hHeld=>?_);refine with_tabW laws_eqSealS.tab6 laws_eqSealS.bits6 (fun HT_ HW_=>?_)
    generalize wr.drew = w11 at HB qq qp qo qn qm ql qk qj qi qh qg qf qe qd hHeld ⊢
    refine pure_ (i:=0) (N:=some 17) (v:=?_) (a':=?_) #[true,false,false,false,false,false,false,false,false,false] rfl rfl (any_of HT_.out (by kernel_rfl)) (fun _ _ _ h=>h) (Or.inl ⟨by rfl,?_⟩) ?_ ?_
    rotate_left
    ·intro w'
     go_simp
     with_reducible rfl
    rotate_left
    ·exact z31a
    refine pure_ (i:=1) (N:=some 18) (v:=?_) (a':=?_) #[true,true,false,false,false,false,false,false,false,false] rfl rfl (any_of HT_.out (by kernel_rfl)) (fun _ _ _ h=>h) (Or.inl ⟨by rfl,?_⟩) ?_ ?_
    rotate_left
    ·intro w'
     go_simp
     with_reducible rfl
    rotate_left
    ·exact z31a
    refine pure_ (i:=2) (N:=some 19) (v:=?_) (a':=?_) #[true,true,true,false,false,false,false,false,false,false] rfl rfl (any_of HT_.out (by kernel_rfl)) (fun _ _ _ h=>h) (Or.inl ⟨by rfl,?_⟩) ?_ ?_
    rotate_left
    ·intro w'
     go_simp
     with_reducible rfl
    rotate_left
    ·exact z31a
    refine pure_ (i:=4) (N:=some 21) (v:=?_) (a':=?_) #[true,true,true,false,true,false,false,false,false,false] rfl rfl (any_of HT_.out (by kernel_rfl)) (fun _ _ _ h=>h) (Or.inl ⟨by rfl,?_⟩) ?_ ?_
    rotate_left
    ·intro w'
     go_simp
     with_reducible rfl
    rotate_left
    ·exact z31a
    refine pure_ (i:=5) (N:=some 22) (v:=?_) (a':=?_) #[true,true,true,false,true,true,false,false,false,false] rfl rfl (any_of HT_.out (by kernel_rfl)) (fun _ _ _ h=>h) (Or.inl ⟨by rfl,?_⟩) ?_ ?_
    rotate_left
    ·intro w'
     go_simp
     with_reducible rfl
    rotate_left
    ·exact z31a
    refine pure_ (i:=6) (N:=some 23) (v:=?_) (a':=?_) #[true,true,true,false,true,true,true,false,false,false] rfl rfl (any_of HT_.out (by kernel_rfl)) (fun _ _ _ h=>h) (Or.inl ⟨by rfl,?_⟩) ?_ ?_
    rotate_left
    ·intro w'
     go_simp
     with_reducible rfl
    rotate_left
    ·exact z31a
    refine take_ (i:=3) (N:=some 20) (v:=?_) (a':=?_) #[true,true,true,true,true,true,true,false,false,false] rfl rfl (take_ofW HT_.out HW_.out (by kernel_rfl)) (fun _ _ _ h=>h) (Or.inl ⟨by rfl,?_⟩) hHeld ?_ ?_
    rotate_left
    ·rintro w' ⟨s0,s1,s2,s3,s4,s5,s6,s7,s8,s9,s10,s11,s12,s13⟩
     go_simp
     with_reducible rfl
    rotate_left
    ·exact z31a
    refine take_ (i:=7) (N:=some 24) (v:=?_) (a':=?_) #[true,true,true,true,true,true,true,true,false,false] rfl rfl (take_ofW HT_.out HW_.out (by kernel_rfl)) (fun _ _ _ h=>h) (Or.inl ⟨by rfl,?_⟩) hHeld ?_ ?_
    rotate_left
    ·rintro w' ⟨s0,s1,s2,s3,s4,s5,s6,s7,s8,s9,s10,s11,s12,s13⟩
     go_simp
     with_reducible rfl
    rotate_left
    ·exact z31a
    refine one_ (i:=8) (N:=some 25) #[true,true,true,true,true,true,true,true,true,false] rfl rfl (one_of HT_.out (by kernel_rfl)) (by decide) (fun K hK=>?_)
    refine goes_ Try.func89 (by kernel_rfl) rfl #[.agg #[.int .i64 ((rd_T41 l0 qa).f0),.int .i64 ((rd_T41 l0 qa).f1),.int .i64 ((rd_T41 l0 qa).f2),.int .i64 ((rd_T41 l0 qa).f3),.int .i64 ((rd_T41 l0 qa).f4),.int .i64 ((rd_T41 l0 qa).f5),.int .i64 ((rd_T41 l0 qa).f6)],.agg #[.int .i64 ((rd_T41 l1 qa).f0),.int .i64 ((rd_T41 l1 qa).f1),.int .i64 ((rd_T41 l1 qa).f2),.int .i64 ((rd_T41 l1 qa).f3),.int .i64 ((rd_T41 l1 qa).f4),.int .i64 ((rd_T41 l1 qa).f5),.int .i64 ((rd_T41 l1 qa).f6)]] (by rfl) rfl rfl (by (try simp only [List.map_toArray,List.map_cons,List.map_nil]);first|done|rfl|(simp only [List.length_drop,List.length_take];rfl)) ?_
    with_reducible refine (laws_eqSeal.calls ((rd_T41 l0 qa).f0) ((rd_T41 l0 qa).f1) ((rd_T41 l0 qa).f2) ((rd_T41 l0 qa).f3) ((rd_T41 l0 qa).f4) ((rd_T41 l0 qa).f5) ((rd_T41 l0 qa).f6) ((rd_T41 l1 qa).f0) ((rd_T41 l1 qa).f1) ((rd_T41 l1 qa).f2) ((rd_T41 l1 qa).f3) ((rd_T41 l1 qa).f4) ((rd_T41 l1 qa).f5) ((rd_T41 l1 qa).f6) false _ A7.out).mono ?_
    rintro e w12 ⟨rfl,hb⟩
    refine ⟨_,rfl,?_⟩
    have n0_:=Aside0.mk (below_step (by repeat (first|(with_reducible first|exact HB.out|apply below_alloc|apply pw_below_drewN|apply below_drew1)|exact HB.out)) hb)
    clear HB
    have HB:=n0_
    clear n0_
    (try clear hb)
    (try clear hb2)
    (try clear hk)
    (try clear hi)
    refine hK.out _ _ ⟨((HB.out.cell (World.block_lt_of_cell? w _ wg)).trans wg),((HB.out.cell (World.block_lt_of_cell? w _ we)).trans we),((HB.out.cell (World.block_lt_of_cell? w _ wd)).trans wd),((HB.out.cell (World.block_lt_of_cell? w _ wc)).trans wc),((HB.out.cell (World.block_lt_of_cell? w _ wb)).trans wb),((HB.out.cell (World.block_lt_of_cell? w _ wa)).trans wa),((HB.out.cell (World.block_lt_of_cell? w _ qz)).trans qz),((HB.out.cell (World.block_lt_of_cell? w _ qy)).trans qy),((HB.out.cell (World.block_lt_of_cell? w _ qx)).trans qx),((HB.out.cell (World.block_lt_of_cell? w _ qw)).trans qw),((HB.out.cell (World.block_lt_of_cell? w _ qv)).trans qv),((HB.out.cell (World.block_lt_of_cell? w _ qu)).trans qu),((HB.out.cell (World.block_lt_of_cell? w _ qt)).trans qt),((HB.out.cell (World.block_lt_of_cell? w _ qr)).trans qr)⟩ (fun hHeld=>?_)
    clear hK K
    refine norm_ (a':=?_) ?_ ?_
    rotate_left
    ·show Act.put _ (some 25) _ = _
     simp only [Act.put,List.setIfInBounds_toArray,List.set_cons_zero,List.set_cons_succ,i64_w,i32_w]
     rfl
    refine pure_ (i:=9) (N:=some 26) (v:=?_) (a':=?_) #[true,true,true,true,true,true,true,true,true,true] rfl rfl (any_of HT_.out (by kernel_rfl)) (fun _ _ _ h=>h) (Or.inl ⟨by rfl,?_⟩) ?_ ?_
    rotate_left
    ·intro w'
     go_simp
     with_reducible rfl
    rotate_left
    ·exact z31a
    refine done_ (done_of HT_.out (by kernel_rfl)) ?_
    try go_wp2
    go_ret
    exact ⟨by first|rfl|(simp [errW_none,errW_some] <;> rfl)|(simp [*,errW_none,errW_some] <;> rfl),by repeat (first|(with_reducible first|exact HB.out|apply below_alloc|apply pw_below_drewN|apply below_drew1)|exact HB.out)⟩
   subst c8
   rw [if_pos rfl] at H
   have H':=Aside0.mk H
   clear H
   try go_wp2
   have n0_:=Aside0.mk (below_drew1 HB.out)
   clear HB
   have HB:=n0_
   clear n0_
   have wk : 0 ≤ (qa : Int):=of_decide_eq_true (by first|(with_reducible assumption)|assumption)
   have wi : qa < (l0.length : Int):=of_decide_eq_true (by first|(with_reducible assumption)|assumption)
   obtain ⟨qc,wn,qq,qp,qo,qn,qm,ql,qk⟩:=at_T41 HR0.out qa wk wi
   have qz:=qk
   have wa:=ql
   have wb:=qm
   have wc:=qn
   have wd:=qo
   have we:=qp
   have wg:=qq
   cases wn
   replace qq:=(HB.out.cell (World.block_lt_of_cell? w _ qq)).trans qq
   replace qp:=(HB.out.cell (World.block_lt_of_cell? w _ qp)).trans qp
   replace qo:=(HB.out.cell (World.block_lt_of_cell? w _ qo)).trans qo
   replace qn:=(HB.out.cell (World.block_lt_of_cell? w _ qn)).trans qn
   replace qm:=(HB.out.cell (World.block_lt_of_cell? w _ qm)).trans qm
   replace ql:=(HB.out.cell (World.block_lt_of_cell? w _ ql)).trans ql
   replace qk:=(HB.out.cell (World.block_lt_of_cell? w _ qk)).trans qk
   replace wk:=eq_true wk
   replace wi:=eq_true wi
   have wj : 0 ≤ (qa : Int):=of_decide_eq_true (by first|(with_reducible assumption)|assumption)
   have wh : qa < (l1.length : Int):=of_decide_eq_true (by first|(with_reducible assumption)|assumption)
   obtain ⟨qb,wm,qj,qi,qh,qg,qf,qe,qd⟩:=at_T41 HR1.out qa wj wh
   have qr:=qd
   have qt:=qe
   have qu:=qf
   have qv:=qg
   have qw:=qh
   have qx:=qi
   have qy:=qj
   cases wm
   replace qj:=(HB.out.cell (World.block_lt_of_cell? w _ qj)).trans qj
   replace qi:=(HB.out.cell (World.block_lt_of_cell? w _ qi)).trans qi
   replace qh:=(HB.out.cell (World.block_lt_of_cell? w _ qh)).trans qh
   replace qg:=(HB.out.cell (World.block_lt_of_cell? w _ qg)).trans qg
   replace qf:=(HB.out.cell (World.block_lt_of_cell? w _ qf)).trans qf
   replace qe:=(HB.out.cell (World.block_lt_of_cell? w _ qe)).trans qe
   replace qd:=(HB.out.cell (World.block_lt_of_cell? w _ qd)).trans qd
   replace wj:=eq_true wj
   replace wh:=eq_true wh
   refine start_ (n:=10) (S:=fun w' => w'.cell? (qc.add ((qa).toNat * 7)) = some (.int .i64 ((rd_T41 l0 qa).f0)) ∧ w'.cell? ⟨(qc.add ((qa).toNat * 7)).block,(qc.add ((qa).toNat * 7)).off + 1,none⟩ = some (.int .i64 ((rd_T41 l0 qa).f1)) ∧ w'.cell? ⟨(qc.add ((qa).toNat * 7)).block,(qc.add ((qa).toNat * 7)).off + 2,none⟩ = some (.int .i64 ((rd_T41 l0 qa).f2)) ∧ w'.cell? ⟨(qc.add ((qa).toNat * 7)).block,(qc.add ((qa).toNat * 7)).off + 3,none⟩ = some (.int .i64 ((rd_T41 l0 qa).f3)) ∧ w'.cell? ⟨(qc.add ((qa).toNat * 7)).block,(qc.add ((qa).toNat * 7)).off + 4,none⟩ = some (.int .i64 ((rd_T41 l0 qa).f4)) ∧ w'.cell? ⟨(qc.add ((qa).toNat * 7)).block,(qc.add ((qa).toNat * 7)).off + 5,none⟩ = some (.int .i64 ((rd_T41 l0 qa).f5)) ∧ w'.cell? ⟨(qc.add ((qa).toNat * 7)).block,(qc.add ((qa).toNat * 7)).off + 6,none⟩ = some (.int .i64 ((rd_T41 l0 qa).f6)) ∧ w'.cell? (qb.add ((qa).toNat * 7)) = some (.int .i64 ((rd_T41 l1 qa).f0)) ∧ w'.cell? ⟨(qb.add ((qa).toNat * 7)).block,(qb.add ((qa).toNat * 7)).off + 1,none⟩ = some (.int .i64 ((rd_T41 l1 qa).f1)) ∧ w'.cell? ⟨(qb.add ((qa).toNat * 7)).block,(qb.add ((qa).toNat * 7)).off + 2,none⟩ = some (.int .i64 ((rd_T41 l1 qa).f2)) ∧ w'.cell? ⟨(qb.add ((qa).toNat * 7)).block,(qb.add ((qa).toNat * 7)).off + 3,none⟩ = some (.int .i64 ((rd_T41 l1 qa).f3)) ∧ w'.cell? ⟨(qb.add ((qa).toNat * 7)).block,(qb.add ((qa).toNat * 7)).off + 4,none⟩ = some (.int .i64 ((rd_T41 l1 qa).f4)) ∧ w'.cell? ⟨(qb.add ((qa).toNat * 7)).block,(qb.add ((qa).toNat * 7)).off + 5,none⟩ = some (.int .i64 ((rd_T41 l1 qa).f5)) ∧ w'.cell? ⟨(qb.add ((qa).toNat * 7)).block,(qb.add ((qa).toNat * 7)).off + 6,none⟩ = some (.int .i64 ((rd_T41 l1 qa).f6))) (ds:=[]) #[false,false,false,false,false,false,false,false,false,false] (by kernel_rfl) rfl rfl ⟨((HB.out.cell (World.block_lt_of_cell? w _ wg)).trans wg),((HB.out.cell (World.block_lt_of_cell? w _ we)).trans we),((HB.out.cell (World.block_lt_of_cell? w _ wd)).trans wd),((HB.out.cell (World.block_lt_of_cell? w _ wc)).trans wc),((HB.out.cell (World.block_lt_of_cell? w _ wb)).trans wb),((HB.out.cell (World.block_lt_of_cell? w _ wa)).trans wa),((HB.out.cell (World.block_lt_of_cell? w _ qz)).trans qz),((HB.out.cell (World.block_lt_of_cell? w _ qy)).trans qy),((HB.out.cell (World.block_lt_of_cell? w _ qx)).trans qx),((HB.out.cell (World.block_lt_of_cell? w _ qw)).trans qw),((HB.out.cell (World.block_lt_of_cell? w _ qv)).trans qv),((HB.out.cell (World.block_lt_of_cell? w _ qu)).trans qu),((HB.out.cell (World.block_lt_of_cell? w _ qt)).trans qt),((HB.out.cell (World.block_lt_of_cell? w _ qr)).trans qr)⟩ (fun hHeld=>?_);refine with_tabW laws_eqSealS.tab6 laws_eqSealS.bits6 (fun HT_ HW_=>?_)
   generalize wr.drew = w9 at HB qq qp qo qn qm ql qk qj qi qh qg qf qe qd hHeld ⊢
   refine pure_ (i:=0) (N:=some 17) (v:=?_) (a':=?_) #[true,false,false,false,false,false,false,false,false,false] rfl rfl (any_of HT_.out (by kernel_rfl)) (fun _ _ _ h=>h) (Or.inl ⟨by rfl,?_⟩) ?_ ?_
   rotate_left
   ·intro w'
    go_simp
    with_reducible rfl
   rotate_left
   ·exact z31a
   refine pure_ (i:=1) (N:=some 18) (v:=?_) (a':=?_) #[true,true,false,false,false,false,false,false,false,false] rfl rfl (any_of HT_.out (by kernel_rfl)) (fun _ _ _ h=>h) (Or.inl ⟨by rfl,?_⟩) ?_ ?_
   rotate_left
   ·intro w'
    go_simp
    with_reducible rfl
   rotate_left
   ·exact z31a
   refine pure_ (i:=2) (N:=some 19) (v:=?_) (a':=?_) #[true,true,true,false,false,false,false,false,false,false] rfl rfl (any_of HT_.out (by kernel_rfl)) (fun _ _ _ h=>h) (Or.inl ⟨by rfl,?_⟩) ?_ ?_
   rotate_left
   ·intro w'
    go_simp
    with_reducible rfl
   rotate_left
   ·exact z31a
   refine pure_ (i:=4) (N:=some 21) (v:=?_) (a':=?_) #[true,true,true,false,true,false,false,false,false,false] rfl rfl (any_of HT_.out (by kernel_rfl)) (fun _ _ _ h=>h) (Or.inl ⟨by rfl,?_⟩) ?_ ?_
   rotate_left
   ·intro w'
    go_simp
    with_reducible rfl
   rotate_left
   ·exact z31a
   refine pure_ (i:=5) (N:=some 22) (v:=?_) (a':=?_) #[true,true,true,false,true,true,false,false,false,false] rfl rfl (any_of HT_.out (by kernel_rfl)) (fun _ _ _ h=>h) (Or.inl ⟨by rfl,?_⟩) ?_ ?_
   rotate_left
   ·intro w'
    go_simp
    with_reducible rfl
   rotate_left
   ·exact z31a
   refine pure_ (i:=6) (N:=some 23) (v:=?_) (a':=?_) #[true,true,true,false,true,true,true,false,false,false] rfl rfl (any_of HT_.out (by kernel_rfl)) (fun _ _ _ h=>h) (Or.inl ⟨by rfl,?_⟩) ?_ ?_
   rotate_left
   ·intro w'
    go_simp
    with_reducible rfl
   rotate_left
   ·exact z31a
   refine take_ (i:=3) (N:=some 20) (v:=?_) (a':=?_) #[true,true,true,true,true,true,true,false,false,false] rfl rfl (take_ofW HT_.out HW_.out (by kernel_rfl)) (fun _ _ _ h=>h) (Or.inl ⟨by rfl,?_⟩) hHeld ?_ ?_
   rotate_left
   ·rintro w' ⟨s0,s1,s2,s3,s4,s5,s6,s7,s8,s9,s10,s11,s12,s13⟩
    go_simp
    with_reducible rfl
   rotate_left
   ·exact z31a
   refine take_ (i:=7) (N:=some 24) (v:=?_) (a':=?_) #[true,true,true,true,true,true,true,true,false,false] rfl rfl (take_ofW HT_.out HW_.out (by kernel_rfl)) (fun _ _ _ h=>h) (Or.inl ⟨by rfl,?_⟩) hHeld ?_ ?_
   rotate_left
   ·rintro w' ⟨s0,s1,s2,s3,s4,s5,s6,s7,s8,s9,s10,s11,s12,s13⟩
    go_simp
    with_reducible rfl
   rotate_left
   ·exact z31a
   refine one_ (i:=8) (N:=some 25) #[true,true,true,true,true,true,true,true,true,false] rfl rfl (one_of HT_.out (by kernel_rfl)) (by decide) (fun K hK=>?_)
   refine goes_ Try.func89 (by kernel_rfl) rfl #[.agg #[.int .i64 ((rd_T41 l0 qa).f0),.int .i64 ((rd_T41 l0 qa).f1),.int .i64 ((rd_T41 l0 qa).f2),.int .i64 ((rd_T41 l0 qa).f3),.int .i64 ((rd_T41 l0 qa).f4),.int .i64 ((rd_T41 l0 qa).f5),.int .i64 ((rd_T41 l0 qa).f6)],.agg #[.int .i64 ((rd_T41 l1 qa).f0),.int .i64 ((rd_T41 l1 qa).f1),.int .i64 ((rd_T41 l1 qa).f2),.int .i64 ((rd_T41 l1 qa).f3),.int .i64 ((rd_T41 l1 qa).f4),.int .i64 ((rd_T41 l1 qa).f5),.int .i64 ((rd_T41 l1 qa).f6)]] (by rfl) rfl rfl (by (try simp only [List.map_toArray,List.map_cons,List.map_nil]);first|done|rfl|(simp only [List.length_drop,List.length_take];rfl)) ?_
   with_reducible refine (laws_eqSeal.calls ((rd_T41 l0 qa).f0) ((rd_T41 l0 qa).f1) ((rd_T41 l0 qa).f2) ((rd_T41 l0 qa).f3) ((rd_T41 l0 qa).f4) ((rd_T41 l0 qa).f5) ((rd_T41 l0 qa).f6) ((rd_T41 l1 qa).f0) ((rd_T41 l1 qa).f1) ((rd_T41 l1 qa).f2) ((rd_T41 l1 qa).f3) ((rd_T41 l1 qa).f4) ((rd_T41 l1 qa).f5) ((rd_T41 l1 qa).f6) true _ A7.out).mono ?_
   rintro e w10 ⟨rfl,hb⟩
   refine ⟨_,rfl,?_⟩
   have n0_:=Aside0.mk (below_step (by repeat (first|(with_reducible first|exact HB.out|apply below_alloc|apply pw_below_drewN|apply below_drew1)|exact HB.out)) hb)
   clear HB
   have HB:=n0_
   clear n0_
   (try clear hb)
   (try clear hb2)
   (try clear hk)
   (try clear hi)
   refine hK.out _ _ ⟨((HB.out.cell (World.block_lt_of_cell? w _ wg)).trans wg),((HB.out.cell (World.block_lt_of_cell? w _ we)).trans we),((HB.out.cell (World.block_lt_of_cell? w _ wd)).trans wd),((HB.out.cell (World.block_lt_of_cell? w _ wc)).trans wc),((HB.out.cell (World.block_lt_of_cell? w _ wb)).trans wb),((HB.out.cell (World.block_lt_of_cell? w _ wa)).trans wa),((HB.out.cell (World.block_lt_of_cell? w _ qz)).trans qz),((HB.out.cell (World.block_lt_of_cell? w _ qy)).trans qy),((HB.out.cell (World.block_lt_of_cell? w _ qx)).trans qx),((HB.out.cell (World.block_lt_of_cell? w _ qw)).trans qw),((HB.out.cell (World.block_lt_of_cell? w _ qv)).trans qv),((HB.out.cell (World.block_lt_of_cell? w _ qu)).trans qu),((HB.out.cell (World.block_lt_of_cell? w _ qt)).trans qt),((HB.out.cell (World.block_lt_of_cell? w _ qr)).trans qr)⟩ (fun hHeld=>?_)
   clear hK K
   refine norm_ (a':=?_) ?_ ?_
   rotate_left
   ·show Act.put _ (some 25) _ = _
    simp only [Act.put,List.setIfInBounds_toArray,List.set_cons_zero,List.set_cons_succ,i64_w,i32_w]
    rfl
   refine pure_ (i:=9) (N:=some 26) (v:=?_) (a':=?_) #[true,true,true,true,true,true,true,true,true,true] rfl rfl (any_of HT_.out (by kernel_rfl)) (fun _ _ _ h=>h) (Or.inl ⟨by rfl,?_⟩) ?_ ?_
   rotate_left
   ·intro w'
    go_simp
    with_reducible rfl
   rotate_left
   ·exact z31a
   refine done_ (done_of HT_.out (by kernel_rfl)) ?_
   try go_wp2
   go_roundg k1
   case measure=>have:=HK1.out;omega
   case rel=>exact ⟨(wrap64 (qa + 1)),(by first|rfl|(simp;done)|(simp [*];done)),H',⟨by have:=HK1.out;omega⟩,⟨by repeat (first|(with_reducible first|exact HB.out|apply below_alloc|apply pw_below_drewN|apply below_drew1)|exact HB.out)⟩⟩

end Go.Proofs.Ytbipicjijbnbbaa.Hp
