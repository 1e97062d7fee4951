-- hp.py
import Derived.Test.YtbipicjijbnbbaaHx0
import Derived.Test.YtbipicjijbnbbaaHx5
namespace Go.Proofs.Ytbipicjijbnbbaa.Hp
open Go.RowKit Go.Proofs.YtbipicjijbnbbaaW.PrintWords Go.Proofs.YtbipicjijbnbbaaW.PrintLast Go.Proofs.YtbipicjijbnbbaaW.PrintMore
attribute [local go_sem] max2_int min2_int max_two min_two max_three min_three max_four min_four   -- for this text's walks alone
set_option linter.unusedVariables false
set_option linter.unusedSimpArgs false
-- squeezed by wip/tools/squeeze.py

/-! ### spec_l6Rd_pick: function 64 -/
def spec_l6Rd_pick.j0 : Nat → Int → Bool → List Int → Int → Option (Int × Int)
 | 0,_,_,_,_=>none
 | k + 1,x1,x24,qc,qd=>if x24 = true then (some (0,qd)) else (if (wrap64 (qd - 1)) < (qc.length : Int) then (if 0 ≤ (wrap64 (qd - 1)) then (if x1 = 0 then (none) else (some (Int.tmod (wrap64 (rd qc (wrap64 (qd - 1)))) x1,qd))) else (none)) else (if (qc.length : Int) = 0 then (none) else (if 0 ≤ (Int.tmod (wrap64 (qd - 1)) (qc.length : Int)) then (if (Int.tmod (wrap64 (qd - 1)) (qc.length : Int)) < (qc.length : Int) then (if 0 ≤ (Int.tmod (wrap64 ((wrap64 ((wrap64 (qd - 1)) * 7)) + 3)) (qc.length : Int)) then (if (Int.tmod (wrap64 ((wrap64 ((wrap64 (qd - 1)) * 7)) + 3)) (qc.length : Int)) < (qc.length : Int) then (if x1 = 0 then (none) else (some (Int.tmod (Go.bits .xor .i64 (wrap64 ((wrap64 ((wrap64 ((wrap64 ((wrap64 (rd qc (Int.tmod (wrap64 (qd - 1)) (qc.length : Int)))) * 131)) + (wrap64 ((wrap64 (rd qc (Int.tmod (wrap64 ((wrap64 ((wrap64 (qd - 1)) * 7)) + 3)) (qc.length : Int)))) * 1117)))) + (wrap64 ((wrap64 (qd - 1)) * 29)))) + (wrap64 ((wrap64 (Int.tdiv (wrap64 (qd - 1)) (qc.length : Int))) * 53)))) (wrap64 (Int.tdiv (wrap64 ((wrap64 ((wrap64 ((wrap64 ((wrap64 (rd qc (Int.tmod (wrap64 (qd - 1)) (qc.length : Int)))) * 131)) + (wrap64 ((wrap64 (rd qc (Int.tmod (wrap64 ((wrap64 ((wrap64 (qd - 1)) * 7)) + 3)) (qc.length : Int)))) * 1117)))) + (wrap64 ((wrap64 (qd - 1)) * 29)))) + (wrap64 ((wrap64 (Int.tdiv (wrap64 (qd - 1)) (qc.length : Int))) * 53)))) 64))) x1,qd))) else (none)) else (none)) else (none)) else (none))))
def spec_l6Rd_pick.f (k : Nat) (qa : List Int) (qb : Int) (a1 : Int) : Option (Int × Int):=if a1 < 1 then (spec_l6Rd_pick.j0 k a1 true qa (wrap64 (qb + 1))) else (spec_l6Rd_pick.j0 k a1 ((qa.length : Int) == 0) qa (wrap64 (qb + 1)))
theorem spec_l6Rd_pick.mono_l : ∀ k,(∀ y0 y1 y2 y3,LeO (spec_l6Rd_pick.j0 k y0 y1 y2 y3) (spec_l6Rd_pick.j0 (k + 1) y0 y1 y2 y3))
 | 0=>fun _ _ _ _ r h=>by simp [spec_l6Rd_pick.j0] at h
 | k + 1=>by
  have ih0:=spec_l6Rd_pick.mono_l k
  ·intro y0 y1 y2 y3
   unfold spec_l6Rd_pick.j0
   repeat' first
   | (with_reducible exact ih0 _ _ _ _)
   | (with_reducible exact LeO.refl _)
   | (with_reducible exact LeO.none _)
   | (with_reducible refine LeO.ite ?_ ?_)
   | (with_reducible refine LeO.bind ?_ (fun _=>?_))
   | exact ih0 _ _ _ _
   | exact LeO.none _
   | refine LeO.ite ?_ ?_
   | refine LeO.bind ?_ (fun _=>?_)
theorem spec_l6Rd_pick.mono : ∀ a0 a1 a2 k,LeO (spec_l6Rd_pick.f k a0 a1 a2) (spec_l6Rd_pick.f (k + 1) a0 a1 a2):=by
 intro a0 a1 a2 k
 have ih0:=spec_l6Rd_pick.mono_l k
 unfold spec_l6Rd_pick.f
 repeat' first
   | (with_reducible exact ih0 _ _ _ _)
   | (with_reducible exact LeO.refl _)
   | (with_reducible exact LeO.none _)
   | (with_reducible refine LeO.ite ?_ ?_)
   | (with_reducible refine LeO.bind ?_ (fun _=>?_))
   | exact ih0 _ _ _ _
   | exact LeO.none _
   | refine LeO.ite ?_ ?_
   | refine LeO.bind ?_ (fun _=>?_)
set_option maxHeartbeats 8000000 in
set_option maxRecDepth 100000 in
theorem spec_l6Rd_pick.calls (k : Nat) (g : Nat) (qa : List Int) (qb : Int) (a1 : Int) (r1 : Int) (r2 : Int) (w0 w : World) (hI : IsS150 w0 w g qa qb) (hB : Below w0.heap.size w0 w) (h : spec_l6Rd_pick.f k qa qb a1 = some (r1,r2)) :
  Calls Try.prog 64 #[.pointer (some ⟨g,0,none⟩),.int .i64 a1] w fun e w' => e = .returned (.int .i64 r1) ∧ IsS150 w0 w' g qa r2 ∧ Below w0.heap.size w0 w' ∧ KeepBut w w' g none:=by
 have HI0:=Aside0.mk hI
 have HK:=Aside0.mk (KeepBut.refl w g none)
 have HL:=Aside0.mk hB.size
 clear hI
 have HW0:=Aside0.mk hB.size
 have HB:=Aside0.mk hB
 clear hB
 have H : (if a1 < 1 then (spec_l6Rd_pick.j0 k a1 true qa (wrap64 (qb + 1))) else (spec_l6Rd_pick.j0 k a1 ((qa.length : Int) == 0) qa (wrap64 (qb + 1)))) = some (r1,r2):=h
 clear h
 have HC3:=Aside0.mk H
 clear H
 obtain ⟨vu,vp,qu,vk,vr⟩:=HI0.out
 have wi:=cellS150_0 qu
 have wh:=cellS150_1 qu
 have wd:=blk_frozen qu 1
 clear qu vk
 go_enter Try.func64,Try.ntmps64
 go_upto_region 2 with (fail)
 repeat (go_quiet (fail);go_upto_region 2 with (fail))
 go_cut [24] (fun v24 wc=>∃ (kq : Nat) (qg : Bool),v24 = .bool qg ∧ Aside0 (spec_l6Rd_pick.j0 kq a1 qg qa (wrap64 (qb + 1)) = some (r1,r2)) ∧ Aside0 (kq ≤ k) ∧ Aside0 (IsS150 w0 wc g qa (wrap64 (qb + 1))) ∧ Aside0 (KeepBut w wc g none) ∧ Aside0 (Below w0.heap.size w0 wc))
 case first =>
  have H:=HC3.out
  clear HC3
  by_cases c5 : a1 < 1
  ·rw [if_pos c5] at H
   have qn : decide (a1 < 1) = true:=decide_eq_true c5
   clear c5
   (first|rw [qn]|(simp only [i64_w,i32_w];rw [qn])|skip)
   have H':=Aside0.mk H
   clear H
   go_wp2
   repeat (go_quiet (fail);try go_wp2)
   go_meet
   case rel=>exact ⟨_,(true),(by first|rfl|(simp;done)|(simp [*];done)),H',⟨by first|omega|exact Nat.le_refl _⟩,⟨by repeat (first|(with_reducible first|exact HI0.out|apply IsS150.alloc|apply IsS150.drewN|apply IsS150.drew|apply IsS150.set_1)|exact HI0.out)⟩,⟨by repeat (first|(with_reducible first|exact HK.out|apply KeepBut.set_|apply keep_drewN|apply keep_drew|apply keep_alloc)|exact HK.out)⟩,⟨by repeat (first|(with_reducible first|exact HB.out|apply below_alloc|apply pw_below_drewN|apply below_drew1|refine below_set ?_ (IsS150.ge HI0.out))|exact HB.out)⟩⟩
  ·rw [if_neg c5] at H
   have qn : decide (a1 < 1) = false:=decide_eq_false c5
   clear c5
   (first|rw [qn]|(simp only [i64_w,i32_w];rw [qn])|skip)
   have H':=Aside0.mk H
   clear H
   obtain ⟨vt,vo,qt,wz,vq⟩:=HI0.out
   have wg:=cellS150_0 qt
   have we:=cellS150_1 qt
   have wb:=blk_frozen qt 1
   clear qt wz
   go_wp2
   repeat (go_quiet (fail);try go_wp2)
   go_meet
   case rel=>exact ⟨_,(((qa.length : Int) == 0)),(by first|rfl|(simp;done)|(simp [*];done)),H',⟨by first|omega|exact Nat.le_refl _⟩,⟨by repeat (first|(with_reducible first|exact HI0.out|apply IsS150.alloc|apply IsS150.drewN|apply IsS150.drew|apply IsS150.set_1)|exact HI0.out)⟩,⟨by repeat (first|(with_reducible first|exact HK.out|apply KeepBut.set_|apply keep_drewN|apply keep_drew|apply keep_alloc)|exact HK.out)⟩,⟨by repeat (first|(with_reducible first|exact HB.out|apply below_alloc|apply pw_below_drewN|apply below_drew1|refine below_set ?_ (IsS150.ge HI0.out))|exact HB.out)⟩⟩
 case rest =>
  clear HC3
  try clear p2
  try clear c5
  try clear qn
  try clear c6
  try clear p6
  try clear wi
  try clear wh
  try clear wg
  try clear we
  try clear wd
  try clear wb
  obtain ⟨kq,qg,rfl,HA,HJ2,HI0,HK,HB⟩:=hcut
  cases kq with
  | zero=>exact absurd HA.out (by simp [spec_l6Rd_pick.j0])
  | succ kj2 =>
   have H:=HA.out
   clear HA
   simp only [spec_l6Rd_pick.j0] at H
   by_cases c7 : qg = true
   ·subst c7
    rw [if_pos rfl] at H
    simp only [Option.some.injEq,Prod.mk.injEq] at H
    obtain ⟨rfl,rfl⟩:=H
    go_wp2
    repeat (go_quiet (fail);try go_wp2)
    go_ret
    exact ⟨by first|rfl|(simp [errW_none,errW_some] <;> rfl)|(simp [*,errW_none,errW_some] <;> rfl),by repeat (first|(with_reducible first|exact HI0.out|apply IsS150.alloc|apply IsS150.drewN|apply IsS150.drew|apply IsS150.set_1)|exact HI0.out),by repeat (first|(with_reducible first|exact HB.out|apply below_alloc|apply pw_below_drewN|apply below_drew1|refine below_set ?_ (IsS150.ge HI0.out))|exact HB.out),by repeat (first|(with_reducible first|exact HK.out|apply KeepBut.set_|apply keep_drewN|apply keep_drew|apply keep_alloc)|exact HK.out)⟩
   ·replace c7:=Bool.eq_false_iff.mpr c7
    subst c7
    rw [if_neg (show ¬ (false = true) by decide)] at H
    by_cases c8 : (wrap64 ((wrap64 (qb + 1)) - 1)) < (qa.length : Int)
    ·rw [if_pos c8] at H
     have wl : decide ((wrap64 ((wrap64 (qb + 1)) - 1)) < (qa.length : Int)) = true:=decide_eq_true c8
     clear c8
     obtain ⟨ji9,qo⟩ : ∃ j_ : Int,(wrap64 ((wrap64 (qb + 1)) - 1)) = j_:=⟨_,rfl⟩
     replace H : (if 0 ≤ (ji9) then (if a1 = 0 then (none) else (some (Int.tmod (wrap64 (rd qa (ji9))) a1,(wrap64 (qb + 1))))) else (none)) = some (r1,r2):=by first|(rw [qo] at H;exact H)|(simp only [qo] at H ⊢; exact H)
     (try rw [qo] at wl)
     have hji9w : (IntKind.i64.wrap ((wrap64 (qb + 1)) - 1)) = ji9:=(i64_w _).trans qo
     by_cases c10 : 0 ≤ (ji9)
     rotate_left
     ·rw [if_neg c10] at H
      exact absurd H (by simp)
     rw [if_pos c10] at H
     have ug : decide (0 ≤ (ji9)) = true:=decide_eq_true c10
     clear c10
     by_cases c11 : a1 = 0
     ·rw [if_pos c11] at H
      exact absurd H (by simp)
     ·rw [if_neg c11] at H
      have uf : (a1 == 0) = false:=beq_eq_false_iff_ne.mpr c11
      have ue : (a1 != 0) = true:=bne_iff_ne.mpr c11
      simp only [Option.some.injEq,Prod.mk.injEq] at H
      obtain ⟨rfl,rfl⟩:=H
      obtain ⟨wy,ww,qm,wk,qr⟩:=HI0.out
      have wu:=cellS150_0 qm
      have wt:=cellS150_1 qm
      have wq:=blk_frozen qm 1
      clear qm wk
      have wa : 0 ≤ ((ji9) : Int):=of_decide_eq_true (by first|(with_reducible assumption)|assumption)
      have qx : (ji9) < (qa.length : Int):=of_decide_eq_true (by first|(with_reducible assumption)|assumption)
      obtain ⟨uh,vn,qj⟩:=Kd.at_int qr (ji9) wa qx
      cases vn
      replace qj:=pw_cell_below HB.out qj
      replace wa:=eq_true wa
      replace qx:=eq_true qx
      go_wp2
      repeat (go_quiet (fail);try go_wp2)
      go_ret
      exact ⟨by first|rfl|(simp [errW_none,errW_some] <;> rfl)|(simp only [← qo];first|rfl|(simp [errW_none,errW_some] <;> rfl))|(simp [*,errW_none,errW_some] <;> rfl),by repeat (first|(with_reducible first|exact HI0.out|apply IsS150.alloc|apply IsS150.drewN|apply IsS150.drew|apply IsS150.set_1)|exact HI0.out),by repeat (first|(with_reducible first|exact HB.out|apply below_alloc|apply pw_below_drewN|apply below_drew1|refine below_set ?_ (IsS150.ge HI0.out))|exact HB.out),by repeat (first|(with_reducible first|exact HK.out|apply KeepBut.set_|apply keep_drewN|apply keep_drew|apply keep_alloc)|exact HK.out)⟩
    ·rw [if_neg c8] at H
     have wl : decide ((wrap64 ((wrap64 (qb + 1)) - 1)) < (qa.length : Int)) = false:=decide_eq_false c8
     clear c8
     by_cases c13 : (qa.length : Int) = 0
     ·rw [if_pos c13] at H
      exact absurd H (by simp)
     ·rw [if_neg c13] at H
      have ud : ((qa.length : Int) == 0) = false:=beq_eq_false_iff_ne.mpr c13
      have uc : ((qa.length : Int) != 0) = true:=bne_iff_ne.mpr c13
      have ub : ¬ (qa = []):=fun h_=>c13 (by rw [h_];rfl)
      obtain ⟨qe,qq⟩ : ∃ j_ : Int,(Int.tmod (wrap64 ((wrap64 (qb + 1)) - 1)) (qa.length : Int)) = j_:=⟨_,rfl⟩
      replace H : (if 0 ≤ (qe) then (if (qe) < (qa.length : Int) then (if 0 ≤ (Int.tmod (wrap64 ((wrap64 ((wrap64 ((wrap64 (qb + 1)) - 1)) * 7)) + 3)) (qa.length : Int)) then (if (Int.tmod (wrap64 ((wrap64 ((wrap64 ((wrap64 (qb + 1)) - 1)) * 7)) + 3)) (qa.length : Int)) < (qa.length : Int) then (if a1 = 0 then (none) else (some (Int.tmod (Go.bits .xor .i64 (wrap64 ((wrap64 ((wrap64 ((wrap64 ((wrap64 (rd qa (qe))) * 131)) + (wrap64 ((wrap64 (rd qa (Int.tmod (wrap64 ((wrap64 ((wrap64 ((wrap64 (qb + 1)) - 1)) * 7)) + 3)) (qa.length : Int)))) * 1117)))) + (wrap64 ((wrap64 ((wrap64 (qb + 1)) - 1)) * 29)))) + (wrap64 ((wrap64 (Int.tdiv (wrap64 ((wrap64 (qb + 1)) - 1)) (qa.length : Int))) * 53)))) (wrap64 (Int.tdiv (wrap64 ((wrap64 ((wrap64 ((wrap64 ((wrap64 (rd qa (qe))) * 131)) + (wrap64 ((wrap64 (rd qa (Int.tmod (wrap64 ((wrap64 ((wrap64 ((wrap64 (qb + 1)) - 1)) * 7)) + 3)) (qa.length : Int)))) * 1117)))) + (wrap64 ((wrap64 ((wrap64 (qb + 1)) - 1)) * 29)))) + (wrap64 ((wrap64 (Int.tdiv (wrap64 ((wrap64 (qb + 1)) - 1)) (qa.length : Int))) * 53)))) 64))) a1,(wrap64 (qb + 1))))) else (none)) else (none)) else (none)) else (none)) = some (r1,r2):=by first|(rw [qq] at H;exact H)|(simp only [qq] at H ⊢; exact H)
      by_cases c15 : 0 ≤ (qe)
      rotate_left
      ·rw [if_neg c15] at H
       exact absurd H (by simp)
      rw [if_pos c15] at H
      have ua : decide (0 ≤ (qe)) = true:=decide_eq_true c15
      clear c15
      by_cases c16 : (qe) < (qa.length : Int)
      rotate_left
      ·rw [if_neg c16] at H
       exact absurd H (by simp)
      rw [if_pos c16] at H
      have vz : decide ((qe) < (qa.length : Int)) = true:=decide_eq_true c16
      clear c16
      obtain ⟨qf,qp⟩ : ∃ j_ : Int,(Int.tmod (wrap64 ((wrap64 ((wrap64 ((wrap64 (qb + 1)) - 1)) * 7)) + 3)) (qa.length : Int)) = j_:=⟨_,rfl⟩
      replace H : (if 0 ≤ (qf) then (if (qf) < (qa.length : Int) then (if a1 = 0 then (none) else (some (Int.tmod (Go.bits .xor .i64 (wrap64 ((wrap64 ((wrap64 ((wrap64 ((wrap64 (rd qa (qe))) * 131)) + (wrap64 ((wrap64 (rd qa (qf))) * 1117)))) + (wrap64 ((wrap64 ((wrap64 (qb + 1)) - 1)) * 29)))) + (wrap64 ((wrap64 (Int.tdiv (wrap64 ((wrap64 (qb + 1)) - 1)) (qa.length : Int))) * 53)))) (wrap64 (Int.tdiv (wrap64 ((wrap64 ((wrap64 ((wrap64 ((wrap64 (rd qa (qe))) * 131)) + (wrap64 ((wrap64 (rd qa (qf))) * 1117)))) + (wrap64 ((wrap64 ((wrap64 (qb + 1)) - 1)) * 29)))) + (wrap64 ((wrap64 (Int.tdiv (wrap64 ((wrap64 (qb + 1)) - 1)) (qa.length : Int))) * 53)))) 64))) a1,(wrap64 (qb + 1))))) else (none)) else (none)) = some (r1,r2):=by first|(rw [qp] at H;exact H)|(simp only [qp] at H ⊢; exact H)
      by_cases c18 : 0 ≤ (qf)
      rotate_left
      ·rw [if_neg c18] at H
       exact absurd H (by simp)
      rw [if_pos c18] at H
      have vy : decide (0 ≤ (qf)) = true:=decide_eq_true c18
      clear c18
      by_cases c19 : (qf) < (qa.length : Int)
      rotate_left
      ·rw [if_neg c19] at H
       exact absurd H (by simp)
      rw [if_pos c19] at H
      have vx : decide ((qf) < (qa.length : Int)) = true:=decide_eq_true c19
      clear c19
      by_cases c20 : a1 = 0
      ·rw [if_pos c20] at H
       exact absurd H (by simp)
      ·rw [if_neg c20] at H
       have vw : (a1 == 0) = false:=beq_eq_false_iff_ne.mpr c20
       have vv : (a1 != 0) = true:=bne_iff_ne.mpr c20
       simp only [Option.some.injEq,Prod.mk.injEq] at H
       obtain ⟨rfl,rfl⟩:=H
       obtain ⟨wx,wv,ql,wj,qk⟩:=HI0.out
       have ws:=cellS150_0 ql
       have wr:=cellS150_1 ql
       have wo:=blk_frozen ql 1
       clear ql wj
       have qz : 0 ≤ ((qe) : Int):=of_decide_eq_true (by first|(with_reducible assumption)|assumption)
       have qw : (qe) < (qa.length : Int):=of_decide_eq_true (by first|(with_reducible assumption)|assumption)
       obtain ⟨wn,vm,qi⟩:=Kd.at_int qk (qe) qz qw
       cases vm
       replace qi:=pw_cell_below HB.out qi
       replace qz:=eq_true qz
       replace qw:=eq_true qw
       have qy : 0 ≤ ((qf) : Int):=of_decide_eq_true (by first|(with_reducible assumption)|assumption)
       have qv : (qf) < (qa.length : Int):=of_decide_eq_true (by first|(with_reducible assumption)|assumption)
       obtain ⟨wm,vl,qh⟩:=Kd.at_int qk (qf) qy qv
       obtain rfl : wn = wm:=(by injection vl)
       replace qh:=pw_cell_below HB.out qh
       replace qy:=eq_true qy
       replace qv:=eq_true qv
       go_wp2
       repeat (go_quiet (fail);try go_wp2)
       go_ret
       exact ⟨by first|rfl|(simp [errW_none,errW_some] <;> rfl)|(simp only [← qq,← qp];first|rfl|(simp [errW_none,errW_some] <;> rfl))|(simp [*,errW_none,errW_some] <;> rfl),by repeat (first|(with_reducible first|exact HI0.out|apply IsS150.alloc|apply IsS150.drewN|apply IsS150.drew|apply IsS150.set_1)|exact HI0.out),by repeat (first|(with_reducible first|exact HB.out|apply below_alloc|apply pw_below_drewN|apply below_drew1|refine below_set ?_ (IsS150.ge HI0.out))|exact HB.out),by repeat (first|(with_reducible first|exact HK.out|apply KeepBut.set_|apply keep_drewN|apply keep_drew|apply keep_alloc)|exact HK.out)⟩

end Go.Proofs.Ytbipicjijbnbbaa.Hp
