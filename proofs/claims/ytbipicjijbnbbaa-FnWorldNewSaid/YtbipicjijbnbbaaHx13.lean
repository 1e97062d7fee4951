-- hp.py
import Derived.Test.YtbipicjijbnbbaaHx0
import Derived.Test.YtbipicjijbnbbaaHx4
namespace Go.Proofs.Ytbipicjijbnbbaa.Hp
open Go.RowKit Go.Proofs.YtbipicjijbnbbaaW.PrintWords Go.Proofs.YtbipicjijbnbbaaW.PrintLast Go.Proofs.YtbipicjijbnbbaaW.PrintMore
attribute [local go_sem] max2_int min2_int max_two min_two max_three min_three max_four min_four   -- for this text's walks alone
set_option linter.unusedVariables false
set_option linter.unusedSimpArgs false

attribute [local go_sem high] eqA113
-- squeezed by wip/tools/squeeze.py
/-! ### laws_lbCalls: function 67 -/
def laws_lbCalls.l0 : Nat → List (S113) → List (S113) → Int → Option (Bool)
 | 0,_,_,_=>none
 | k + 1,x0,x1,x5=>if x5 < (x0.length : Int) then (if 0 ≤ x5 then (if x5 < (x1.length : Int) then (if (!(((rd_T113 x0 x5).f0) == ((rd_T113 x1 x5).f0)) || (!(((rd_T113 x0 x5).f1) == ((rd_T113 x1 x5).f1)) || (!(((rd_T113 x0 x5).f2) == ((rd_T113 x1 x5).f2)) || (!(((rd_T113 x0 x5).f3) == ((rd_T113 x1 x5).f3)))))) = true then (some false) else (laws_lbCalls.l0 k x0 x1 (wrap64 (x5 + 1)))) else (none)) else (none)) else (some true)
def laws_lbCalls.f (k : Nat) (l0 : List (S113)) (l1 : List (S113)) : Option (Bool):=if (l0.length : Int) = (l1.length : Int) then (laws_lbCalls.l0 k l0 l1 0) else (some false)
theorem laws_lbCalls.mono_l : ∀ k,(∀ y0 y1 y2,LeO (laws_lbCalls.l0 k y0 y1 y2) (laws_lbCalls.l0 (k + 1) y0 y1 y2))
 | 0=>fun _ _ _ r h=>by simp [laws_lbCalls.l0] at h
 | k + 1=>by
  have ih0:=laws_lbCalls.mono_l k
  ·intro y0 y1 y2
   unfold laws_lbCalls.l0
   repeat' first
   | (with_reducible exact ih0 _ _ _)
   | (with_reducible exact LeO.refl _)
   | (with_reducible exact LeO.none _)
   | (with_reducible refine LeO.ite ?_ ?_)
   | (with_reducible refine LeO.bind ?_ (fun _=>?_))
   | exact ih0 _ _ _
   | exact LeO.none _
   | refine LeO.ite ?_ ?_
   | refine LeO.bind ?_ (fun _=>?_)
theorem laws_lbCalls.mono : ∀ a0 a1 k,LeO (laws_lbCalls.f k a0 a1) (laws_lbCalls.f (k + 1) a0 a1):=by
 intro a0 a1 k
 have ih0:=laws_lbCalls.mono_l k
 unfold laws_lbCalls.f
 repeat' first
   | (with_reducible exact ih0 _ _ _)
   | (with_reducible exact LeO.refl _)
   | (with_reducible exact LeO.none _)
   | (with_reducible refine LeO.ite ?_ ?_)
   | (with_reducible refine LeO.bind ?_ (fun _=>?_))
   | exact ih0 _ _ _
   | exact LeO.none _
   | refine LeO.ite ?_ ?_
   | refine LeO.bind ?_ (fun _=>?_)
set_option maxHeartbeats 8000000 in
set_option maxRecDepth 100000 in
theorem laws_lbCalls.calls (k : Nat) (A0 : Option Addr) (c0 : Nat) (l0 : List (S113)) (A1 : Option Addr) (c1 : Nat) (l1 : List (S113)) (r : Bool) (w : World) (hr0 : Kd.C k113 w A0 l0.length l0) (hc0 : l0.length ≤ c0) (hr1 : Kd.C k113 w A1 l1.length l1) (hc1 : l1.length ≤ c1) (h : laws_lbCalls.f k l0 l1 = some r) :
  Calls Try.prog 67 #[.slice A0 l0.length c0,.slice A1 l1.length c1] w fun e w' => e = .returned (.bool r) ∧ Drawn0 w w':=by
 have qx:=Try.underlying113
 have HR0:=Aside0.mk hr0
 have HC0:=Aside0.mk hc0
 clear hr0 hc0
 have HR1:=Aside0.mk hr1
 have HC1:=Aside0.mk hc1
 clear hr1 hc1
 have H : (if (l0.length : Int) = (l1.length : Int) then (laws_lbCalls.l0 k l0 l1 0) else (some false)) = some r:=h
 clear h
 by_cases c3 : (l0.length : Int) = (l1.length : Int)
 rotate_left
 ·rw [if_neg c3] at H
  have qr : ((l0.length : Int) == (l1.length : Int)) = false:=beq_eq_false_iff_ne.mpr c3
  have qq : ((l0.length : Int) != (l1.length : Int)) = true:=bne_iff_ne.mpr c3
  have qp : (l0.length == l1.length) = false:=by first|simpa using c3|(simp at c3 ⊢; omega)
  obtain rfl:=Option.some.inj H
  go_enter Try.func67,Try.ntmps67
  go_wp2
  repeat (go_quiet (fail);try go_wp2)
  go_ret
  exact ⟨by first|rfl|(simp;done)|(simp [*];done),by repeat (first|exact Drawn0.refl _|apply Drawn0.step)⟩
 rw [if_pos c3] at H
 have qr : ((l0.length : Int) == (l1.length : Int)) = true:=beq_iff_eq.mpr c3
 have qq : ((l0.length : Int) != (l1.length : Int)) = false:=bne_eq_false_iff_eq.mpr c3
 have qp : (l0.length == l1.length) = true:=by first|simpa using c3|(simp at c3 ⊢; omega)
 clear c3
 have H':=Aside0.mk H
 clear H
 go_enter Try.func67,Try.ntmps67
 go_wp2
 repeat (go_quiet (fail);try go_wp2)
 go_loopg [5] k (fun kq v5 w' => ∃ (qa : Int),v5 = .int .i64 qa ∧ Aside0 (laws_lbCalls.l0 kq l0 l1 qa = some r) ∧ Aside0 (kq ≤ k) ∧ Drawn0 w w')
 case atStart=>exact ⟨(0),(by first|rfl|(simp;done)|(simp [*];done)),H',⟨Nat.le_refl _⟩,by repeat (first|exact Drawn0.refl _|apply Drawn0.step)⟩
 case round =>
  clear H'
  try clear c1
  try clear p2
  try clear c3
  try clear qr
  try clear qq
  try clear qp
  obtain ⟨qa,rfl,HA,HK1,⟨m1,rfl⟩⟩:=hrel
  cases gk with
  | zero=>exact absurd HA.out (by simp [laws_lbCalls.l0])
  | succ k1 =>
   have H:=HA.out
   clear HA
   simp only [laws_lbCalls.l0] at H
   by_cases c4 : qa < (l0.length : Int)
   rotate_left
   ·rw [if_neg c4] at H
    have qw : decide (qa < (l0.length : Int)) = false:=decide_eq_false c4
    clear c4
    obtain rfl:=Option.some.inj H
    go_wp2
    repeat (go_quiet (fail);try go_wp2)
    go_ret
    exact ⟨by first|rfl|(simp;done)|(simp [*];done),by repeat (first|exact Drawn0.refl _|apply Drawn0.step)⟩
   rw [if_pos c4] at H
   have qw : decide (qa < (l0.length : Int)) = true:=decide_eq_true c4
   clear c4
   by_cases c5 : 0 ≤ qa
   rotate_left
   ·rw [if_neg c5] at H
    exact absurd H (by simp)
   rw [if_pos c5] at H
   have qz : decide (0 ≤ qa) = true:=decide_eq_true c5
   clear c5
   by_cases c6 : qa < (l1.length : Int)
   rotate_left
   ·rw [if_neg c6] at H
    exact absurd H (by simp)
   rw [if_pos c6] at H
   have qy : decide (qa < (l1.length : Int)) = true:=decide_eq_true c6
   clear c6
   by_cases c7 : (!(((rd_T113 l0 qa).f0) == ((rd_T113 l1 qa).f0)) || (!(((rd_T113 l0 qa).f1) == ((rd_T113 l1 qa).f1)) || (!(((rd_T113 l0 qa).f2) == ((rd_T113 l1 qa).f2)) || (!(((rd_T113 l0 qa).f3) == ((rd_T113 l1 qa).f3)))))) = true
   ·rw [if_pos c7] at H
    have qv : (!(((rd_T113 l0 qa).f0) == ((rd_T113 l1 qa).f0)) || (!(((rd_T113 l0 qa).f1) == ((rd_T113 l1 qa).f1)) || (!(((rd_T113 l0 qa).f2) == ((rd_T113 l1 qa).f2)) || (!(((rd_T113 l0 qa).f3) == ((rd_T113 l1 qa).f3)))))) = true:=c7
    clear c7
    obtain rfl:=Option.some.inj H
    have qe : 0 ≤ (qa : Int):=of_decide_eq_true (by first|(with_reducible assumption)|assumption)
    have qc : qa < (l0.length : Int):=of_decide_eq_true (by first|(with_reducible assumption)|assumption)
    obtain ⟨qu,qo,qm,ql,qk,qj⟩:=at_T113 HR0.out qa qe qc
    cases qo
    replace qe:=eq_true qe
    replace qc:=eq_true qc
    have qd : 0 ≤ (qa : Int):=of_decide_eq_true (by first|(with_reducible assumption)|assumption)
    have qb : qa < (l1.length : Int):=of_decide_eq_true (by first|(with_reducible assumption)|assumption)
    obtain ⟨qt,qn,qi,qh,qg,qf⟩:=at_T113 HR1.out qa qd qb
    cases qn
    replace qd:=eq_true qd
    replace qb:=eq_true qb
    go_wp2
    repeat (go_quiet (fail);try go_wp2)
    go_ret
    exact ⟨by first|rfl|(simp;done)|(simp [*];done),by repeat (first|exact Drawn0.refl _|apply Drawn0.step)⟩
   ·rw [if_neg c7] at H
    have qv : (!(((rd_T113 l0 qa).f0) == ((rd_T113 l1 qa).f0)) || (!(((rd_T113 l0 qa).f1) == ((rd_T113 l1 qa).f1)) || (!(((rd_T113 l0 qa).f2) == ((rd_T113 l1 qa).f2)) || (!(((rd_T113 l0 qa).f3) == ((rd_T113 l1 qa).f3)))))) = false:=by simpa using c7
    clear c7
    have H':=Aside0.mk H
    clear H
    have qe : 0 ≤ (qa : Int):=of_decide_eq_true (by first|(with_reducible assumption)|assumption)
    have qc : qa < (l0.length : Int):=of_decide_eq_true (by first|(with_reducible assumption)|assumption)
    obtain ⟨qu,qo,qm,ql,qk,qj⟩:=at_T113 HR0.out qa qe qc
    cases qo
    replace qe:=eq_true qe
    replace qc:=eq_true qc
    have qd : 0 ≤ (qa : Int):=of_decide_eq_true (by first|(with_reducible assumption)|assumption)
    have qb : qa < (l1.length : Int):=of_decide_eq_true (by first|(with_reducible assumption)|assumption)
    obtain ⟨qt,qn,qi,qh,qg,qf⟩:=at_T113 HR1.out qa qd qb
    cases qn
    replace qd:=eq_true qd
    replace qb:=eq_true qb
    go_wp2
    repeat (go_quiet (fail);try go_wp2)
    go_roundg k1
    case measure=>have:=HK1.out;omega
    case rel=>exact ⟨(wrap64 (qa + 1)),(by first|rfl|(simp;done)|(simp [*];done)),H',⟨by have:=HK1.out;omega⟩,by repeat (first|exact Drawn0.refl _|apply Drawn0.step)⟩

end Go.Proofs.Ytbipicjijbnbbaa.Hp
