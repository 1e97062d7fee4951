-- hp.py
import Derived.Test.YtbipicjijbnbbaaHx0
import Derived.Test.YtbipicjijbnbbaaHx1
namespace Go.Proofs.Ytbipicjijbnbbaa.Hp
open Go.RowKit Go.Proofs.YtbipicjijbnbbaaW.PrintWords Go.Proofs.YtbipicjijbnbbaaW.PrintLast Go.Proofs.YtbipicjijbnbbaaW.PrintMore
attribute [local go_sem] max2_int min2_int max_two min_two max_three min_three max_four min_four   -- for this text's walks alone
set_option linter.unusedVariables false
set_option linter.unusedSimpArgs false

attribute [local go_sem high] eqA41
-- squeezed by wip/tools/squeeze.py
/-! ### laws_lbSeals: function 152 -/
def laws_lbSeals.l0 : Nat → List (S41) → List (S41) → Int → Option (Bool)
 | 0,_,_,_=>none
 | k + 1,x0,x1,x5=>if x5 < (x0.length : Int) then (if 0 ≤ x5 then (if x5 < (x1.length : Int) then (if (!(((rd_T41 x0 x5).f0) == ((rd_T41 x1 x5).f0)) || (!(((rd_T41 x0 x5).f1) == ((rd_T41 x1 x5).f1)) || (!(((rd_T41 x0 x5).f2) == ((rd_T41 x1 x5).f2)) || (!(((rd_T41 x0 x5).f3) == ((rd_T41 x1 x5).f3)) || (!(((rd_T41 x0 x5).f4) == ((rd_T41 x1 x5).f4)) || (!(((rd_T41 x0 x5).f5) == ((rd_T41 x1 x5).f5)) || (!(((rd_T41 x0 x5).f6) == ((rd_T41 x1 x5).f6))))))))) = true then (some false) else (laws_lbSeals.l0 k x0 x1 (wrap64 (x5 + 1)))) else (none)) else (none)) else (some true)
def laws_lbSeals.f (k : Nat) (l0 : List (S41)) (l1 : List (S41)) : Option (Bool):=if (l0.length : Int) = (l1.length : Int) then (laws_lbSeals.l0 k l0 l1 0) else (some false)
theorem laws_lbSeals.mono_l : ∀ k,(∀ y0 y1 y2,LeO (laws_lbSeals.l0 k y0 y1 y2) (laws_lbSeals.l0 (k + 1) y0 y1 y2))
 | 0=>fun _ _ _ r h=>by simp [laws_lbSeals.l0] at h
 | k + 1=>by
  have ih0:=laws_lbSeals.mono_l k
  ·intro y0 y1 y2
   unfold laws_lbSeals.l0
   repeat' first
   | (with_reducible exact ih0 _ _ _)
   | (with_reducible exact LeO.refl _)
   | (with_reducible exact LeO.none _)
   | (with_reducible refine LeO.ite ?_ ?_)
   | (with_reducible refine LeO.bind ?_ (fun _=>?_))
   | exact ih0 _ _ _
   | exact LeO.none _
   | refine LeO.ite ?_ ?_
   | refine LeO.bind ?_ (fun _=>?_)
theorem laws_lbSeals.mono : ∀ a0 a1 k,LeO (laws_lbSeals.f k a0 a1) (laws_lbSeals.f (k + 1) a0 a1):=by
 intro a0 a1 k
 have ih0:=laws_lbSeals.mono_l k
 unfold laws_lbSeals.f
 repeat' first
   | (with_reducible exact ih0 _ _ _)
   | (with_reducible exact LeO.refl _)
   | (with_reducible exact LeO.none _)
   | (with_reducible refine LeO.ite ?_ ?_)
   | (with_reducible refine LeO.bind ?_ (fun _=>?_))
   | exact ih0 _ _ _
   | exact LeO.none _
   | refine LeO.ite ?_ ?_
   | refine LeO.bind ?_ (fun _=>?_)
set_option maxHeartbeats 8000000 in
set_option maxRecDepth 100000 in
theorem laws_lbSeals.calls (k : Nat) (A0 : Option Addr) (c0 : Nat) (l0 : List (S41)) (A1 : Option Addr) (c1 : Nat) (l1 : List (S41)) (r : Bool) (w : World) (hr0 : Kd.C k41 w A0 l0.length l0) (hc0 : l0.length ≤ c0) (hr1 : Kd.C k41 w A1 l1.length l1) (hc1 : l1.length ≤ c1) (h : laws_lbSeals.f k l0 l1 = some r) :
  Calls Try.prog 152 #[.slice A0 l0.length c0,.slice A1 l1.length c1] w fun e w' => e = .returned (.bool r) ∧ Drawn0 w w':=by
 have wd:=Try.underlying41
 have HR0:=Aside0.mk hr0
 have HC0:=Aside0.mk hc0
 clear hr0 hc0
 have HR1:=Aside0.mk hr1
 have HC1:=Aside0.mk hc1
 clear hr1 hc1
 have H : (if (l0.length : Int) = (l1.length : Int) then (laws_lbSeals.l0 k l0 l1 0) else (some false)) = some r:=h
 clear h
 by_cases c3 : (l0.length : Int) = (l1.length : Int)
 rotate_left
 ·rw [if_neg c3] at H
  have qy : ((l0.length : Int) == (l1.length : Int)) = false:=beq_eq_false_iff_ne.mpr c3
  have qx : ((l0.length : Int) != (l1.length : Int)) = true:=bne_iff_ne.mpr c3
  have qw : (l0.length == l1.length) = false:=by first|simpa using c3|(simp at c3 ⊢; omega)
  obtain rfl:=Option.some.inj H
  go_enter Try.func152,Try.ntmps152
  go_wp2
  repeat (go_quiet (fail);try go_wp2)
  go_ret
  exact ⟨by first|rfl|(simp;done)|(simp [*];done),by repeat (first|exact Drawn0.refl _|apply Drawn0.step)⟩
 rw [if_pos c3] at H
 have qy : ((l0.length : Int) == (l1.length : Int)) = true:=beq_iff_eq.mpr c3
 have qx : ((l0.length : Int) != (l1.length : Int)) = false:=bne_eq_false_iff_eq.mpr c3
 have qw : (l0.length == l1.length) = true:=by first|simpa using c3|(simp at c3 ⊢; omega)
 clear c3
 have H':=Aside0.mk H
 clear H
 go_enter Try.func152,Try.ntmps152
 go_wp2
 repeat (go_quiet (fail);try go_wp2)
 go_loopg [5] k (fun kq v5 w' => ∃ (qa : Int),v5 = .int .i64 qa ∧ Aside0 (laws_lbSeals.l0 kq l0 l1 qa = some r) ∧ Aside0 (kq ≤ k) ∧ Drawn0 w w')
 case atStart=>exact ⟨(0),(by first|rfl|(simp;done)|(simp [*];done)),H',⟨Nat.le_refl _⟩,by repeat (first|exact Drawn0.refl _|apply Drawn0.step)⟩
 case round =>
  clear H'
  try clear c1
  try clear p2
  try clear c3
  try clear qy
  try clear qx
  try clear qw
  obtain ⟨qa,rfl,HA,HK1,⟨m1,rfl⟩⟩:=hrel
  cases gk with
  | zero=>exact absurd HA.out (by simp [laws_lbSeals.l0])
  | succ k1 =>
   have H:=HA.out
   clear HA
   simp only [laws_lbSeals.l0] at H
   by_cases c4 : qa < (l0.length : Int)
   rotate_left
   ·rw [if_neg c4] at H
    have wc : decide (qa < (l0.length : Int)) = false:=decide_eq_false c4
    clear c4
    obtain rfl:=Option.some.inj H
    go_wp2
    repeat (go_quiet (fail);try go_wp2)
    go_ret
    exact ⟨by first|rfl|(simp;done)|(simp [*];done),by repeat (first|exact Drawn0.refl _|apply Drawn0.step)⟩
   rw [if_pos c4] at H
   have wc : decide (qa < (l0.length : Int)) = true:=decide_eq_true c4
   clear c4
   by_cases c5 : 0 ≤ qa
   rotate_left
   ·rw [if_neg c5] at H
    exact absurd H (by simp)
   rw [if_pos c5] at H
   have wg : decide (0 ≤ qa) = true:=decide_eq_true c5
   clear c5
   by_cases c6 : qa < (l1.length : Int)
   rotate_left
   ·rw [if_neg c6] at H
    exact absurd H (by simp)
   rw [if_pos c6] at H
   have we : decide (qa < (l1.length : Int)) = true:=decide_eq_true c6
   clear c6
   by_cases c7 : (!(((rd_T41 l0 qa).f0) == ((rd_T41 l1 qa).f0)) || (!(((rd_T41 l0 qa).f1) == ((rd_T41 l1 qa).f1)) || (!(((rd_T41 l0 qa).f2) == ((rd_T41 l1 qa).f2)) || (!(((rd_T41 l0 qa).f3) == ((rd_T41 l1 qa).f3)) || (!(((rd_T41 l0 qa).f4) == ((rd_T41 l1 qa).f4)) || (!(((rd_T41 l0 qa).f5) == ((rd_T41 l1 qa).f5)) || (!(((rd_T41 l0 qa).f6) == ((rd_T41 l1 qa).f6))))))))) = true
   ·rw [if_pos c7] at H
    have wb : (!(((rd_T41 l0 qa).f0) == ((rd_T41 l1 qa).f0)) || (!(((rd_T41 l0 qa).f1) == ((rd_T41 l1 qa).f1)) || (!(((rd_T41 l0 qa).f2) == ((rd_T41 l1 qa).f2)) || (!(((rd_T41 l0 qa).f3) == ((rd_T41 l1 qa).f3)) || (!(((rd_T41 l0 qa).f4) == ((rd_T41 l1 qa).f4)) || (!(((rd_T41 l0 qa).f5) == ((rd_T41 l1 qa).f5)) || (!(((rd_T41 l0 qa).f6) == ((rd_T41 l1 qa).f6))))))))) = true:=c7
    clear c7
    obtain rfl:=Option.some.inj H
    have qe : 0 ≤ (qa : Int):=of_decide_eq_true (by first|(with_reducible assumption)|assumption)
    have qc : qa < (l0.length : Int):=of_decide_eq_true (by first|(with_reducible assumption)|assumption)
    obtain ⟨wa,qv,qt,qr,qq,qp,qo,qn,qm⟩:=at_T41 HR0.out qa qe qc
    cases qv
    replace qe:=eq_true qe
    replace qc:=eq_true qc
    have qd : 0 ≤ (qa : Int):=of_decide_eq_true (by first|(with_reducible assumption)|assumption)
    have qb : qa < (l1.length : Int):=of_decide_eq_true (by first|(with_reducible assumption)|assumption)
    obtain ⟨qz,qu,ql,qk,qj,qi,qh,qg,qf⟩:=at_T41 HR1.out qa qd qb
    cases qu
    replace qd:=eq_true qd
    replace qb:=eq_true qb
    go_wp2
    repeat (go_quiet (fail);try go_wp2)
    go_ret
    exact ⟨by first|rfl|(simp;done)|(simp [*];done),by repeat (first|exact Drawn0.refl _|apply Drawn0.step)⟩
   ·rw [if_neg c7] at H
    have wb : (!(((rd_T41 l0 qa).f0) == ((rd_T41 l1 qa).f0)) || (!(((rd_T41 l0 qa).f1) == ((rd_T41 l1 qa).f1)) || (!(((rd_T41 l0 qa).f2) == ((rd_T41 l1 qa).f2)) || (!(((rd_T41 l0 qa).f3) == ((rd_T41 l1 qa).f3)) || (!(((rd_T41 l0 qa).f4) == ((rd_T41 l1 qa).f4)) || (!(((rd_T41 l0 qa).f5) == ((rd_T41 l1 qa).f5)) || (!(((rd_T41 l0 qa).f6) == ((rd_T41 l1 qa).f6))))))))) = false:=by simpa using c7
    clear c7
    have H':=Aside0.mk H
    clear H
    have qe : 0 ≤ (qa : Int):=of_decide_eq_true (by first|(with_reducible assumption)|assumption)
    have qc : qa < (l0.length : Int):=of_decide_eq_true (by first|(with_reducible assumption)|assumption)
    obtain ⟨wa,qv,qt,qr,qq,qp,qo,qn,qm⟩:=at_T41 HR0.out qa qe qc
    cases qv
    replace qe:=eq_true qe
    replace qc:=eq_true qc
    have qd : 0 ≤ (qa : Int):=of_decide_eq_true (by first|(with_reducible assumption)|assumption)
    have qb : qa < (l1.length : Int):=of_decide_eq_true (by first|(with_reducible assumption)|assumption)
    obtain ⟨qz,qu,ql,qk,qj,qi,qh,qg,qf⟩:=at_T41 HR1.out qa qd qb
    cases qu
    replace qd:=eq_true qd
    replace qb:=eq_true qb
    go_wp2
    repeat (go_quiet (fail);try go_wp2)
    go_roundg k1
    case measure=>have:=HK1.out;omega
    case rel=>exact ⟨(wrap64 (qa + 1)),(by first|rfl|(simp;done)|(simp [*];done)),H',⟨by have:=HK1.out;omega⟩,by repeat (first|exact Drawn0.refl _|apply Drawn0.step)⟩

end Go.Proofs.Ytbipicjijbnbbaa.Hp
