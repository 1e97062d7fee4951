-- hp.py
import Derived.Test.YtbiknbjcidlabaaHx0
import Derived.Test.YtbiknbjcidlabaaHx3
import Derived.Test.YtbiknbjcidlabaaHx5
namespace Go.Proofs.Ytbiknbjcidlabaa.Hp
open Go.RowKit Go.Proofs.YtbiknbjcidlabaaW.PrintWords Go.Proofs.YtbiknbjcidlabaaW.PrintLast Go.Proofs.YtbiknbjcidlabaaW.PrintMore
attribute [local go_sem] max2_int min2_int max_two min_two max_three min_three max_four min_four
set_option linter.all false
-- squeezed by wip/tools/squeeze.py
theorem z37x2 {P : Prop} (h : P := by (with_reducible repeat (first | apply Kd.R_alloc | apply Kd.R_drewN | apply Kd.R_drew)); exact HO_5.out) : P := h
theorem z37x1 {P : Prop} (h : P := by repeat (first | (with_reducible first | exact HB.out | apply below_alloc | apply pw_below_drewN | apply below_drew1) | exact HB.out)) : P := h
theorem z37x0 {P : Prop} (h : P := by (try simp only [List.map_toArray, List.map_cons, List.map_nil]); first | done | rfl | (simp only [List.length_drop, List.length_take]; rfl)) : P := h

/-! ### spec_l3All: function 76 -/
mutual
def spec_l3All.l0 : Nat → List Int → List (S24) → List Bool → Int → Option (List Bool)
 | 0, _, _, _, _ => none
 | k + 1, x0, x1, x5, x6 => if x6 < (x0.length : Int) then (if 0 ≤ x6 then ((spec_l6In.f (rd x0 x6) 1 60).bind fun t500 => (if t500 = true then (if 0 ≤ (rd x0 x6) then (if (rd x0 x6) < (x5.length : Int) then (spec_l3All.l0 k x0 x1 (x5.set ((rd x0 x6) : Int).toNat true) (wrap64 (x6 + 1))) else (none)) else (none)) else (spec_l3All.l0 k x0 x1 x5 (wrap64 (x6 + 1))))) else (none)) else (spec_l3All.l1 k x1 x5 0)
def spec_l3All.l1 : Nat → List (S24) → List Bool → Int → Option (List Bool)
 | 0, _, _, _ => none
 | k + 1, x1, x5, x7 => if x7 < (x1.length : Int) then (if 0 ≤ x7 then ((spec_SealHolds.f ((rd_T24 x1 x7).f0) ((rd_T24 x1 x7).f1) ((rd_T24 x1 x7).f2) ((rd_T24 x1 x7).f3) ((rd_T24 x1 x7).f4) ((rd_T24 x1 x7).f5) ((rd_T24 x1 x7).f6)).bind fun t504 => (if t504 > 0 then (if 0 ≤ ((rd_T24 x1 x7).f0) then (if ((rd_T24 x1 x7).f0) < (x5.length : Int) then (if rdOf false x5 ((rd_T24 x1 x7).f0) = true then (if 0 ≤ t504 then (if t504 < (x5.length : Int) then (if rdOf false x5 t504 = true then (spec_l3All.l1 k x1 x5 (wrap64 (x7 + 1))) else (spec_l3All.l1 k x1 (x5.set (t504 : Int).toNat true) ((-1) + 1))) else (none)) else (none)) else (spec_l3All.l1 k x1 x5 (wrap64 (x7 + 1)))) else (none)) else (none)) else (spec_l3All.l1 k x1 x5 (wrap64 (x7 + 1))))) else (none)) else (some x5)
end
def spec_l3All.f (k : Nat) (l0 : List Int) (l1 : List (S24)) : Option (List Bool) := if 61 ≤ 281474976710656 then (spec_l3All.l0 k l0 l1 (List.replicate 61 false) 0) else (none)
theorem spec_l3All.mono_l : ∀ k, (∀ y0 y1 y2 y3, LeO (spec_l3All.l0 k y0 y1 y2 y3) (spec_l3All.l0 (k + 1) y0 y1 y2 y3)) ∧ (∀ y0 y1 y2, LeO (spec_l3All.l1 k y0 y1 y2) (spec_l3All.l1 (k + 1) y0 y1 y2))
 | 0 => ⟨fun _ _ _ _ r h => by simp [spec_l3All.l0] at h, fun _ _ _ r h => by simp [spec_l3All.l1] at h⟩
 | k + 1 => by
  obtain ⟨ih0, ih1⟩ := spec_l3All.mono_l k
  refine ⟨?_, ?_⟩
  ·intro y0 y1 y2 y3
   unfold spec_l3All.l0
   repeat' first
   | (with_reducible exact ih0 _ _ _ _)
   | (with_reducible exact ih1 _ _ _)
   | (with_reducible exact LeO.refl _)
   | (with_reducible exact LeO.none _)
   | (with_reducible refine LeO.ite ?_ ?_)
   | (with_reducible refine LeO.bind ?_ (fun _ => ?_))
   | exact ih0 _ _ _ _
   | exact ih1 _ _ _
   | exact LeO.none _
   | refine LeO.ite ?_ ?_
   | refine LeO.bind ?_ (fun _ => ?_)
  ·intro y0 y1 y2
   unfold spec_l3All.l1
   repeat' first
   | (with_reducible exact ih0 _ _ _ _)
   | (with_reducible exact ih1 _ _ _)
   | (with_reducible exact LeO.refl _)
   | (with_reducible exact LeO.none _)
   | (with_reducible refine LeO.ite ?_ ?_)
   | (with_reducible refine LeO.bind ?_ (fun _ => ?_))
   | exact ih0 _ _ _ _
   | exact ih1 _ _ _
   | exact LeO.none _
   | refine LeO.ite ?_ ?_
   | refine LeO.bind ?_ (fun _ => ?_)
theorem spec_l3All.mono : ∀ a0 a1 k, LeO (spec_l3All.f k a0 a1) (spec_l3All.f (k + 1) a0 a1) := by
 intro a0 a1 k
 obtain ⟨ih0, ih1⟩ := spec_l3All.mono_l k
 unfold spec_l3All.f
 repeat' first
   | (with_reducible exact ih0 _ _ _ _)
   | (with_reducible exact ih1 _ _ _)
   | (with_reducible exact LeO.refl _)
   | (with_reducible exact LeO.none _)
   | (with_reducible refine LeO.ite ?_ ?_)
   | (with_reducible refine LeO.bind ?_ (fun _ => ?_))
   | exact ih0 _ _ _ _
   | exact ih1 _ _ _
   | exact LeO.none _
   | refine LeO.ite ?_ ?_
   | refine LeO.bind ?_ (fun _ => ?_)
set_option maxHeartbeats 8000000 in
set_option maxRecDepth 100000 in
theorem spec_l3All.calls (k : Nat) (A0 : Option Addr) (c0 : Nat) (l0 : List Int) (A1 : Option Addr) (c1 : Nat) (l1 : List (S24)) (r : List Bool) (w : World) (hr0 : Kd.C (Kd.int .i64) w A0 l0.length l0) (hc0 : l0.length ≤ c0) (hr1 : Kd.C k24 w A1 l1.length l1) (hc1 : l1.length ≤ c1) (h : spec_l3All.f k l0 l1 = some r) :
  Calls Try.prog 76 #[.slice A0 l0.length c0, .slice A1 l1.length c1] w fun e w' => ∃ v0_ : Value, e = .returned (v0_) ∧ Kd.R Kd.bool 4 w' w.heap.size (fun _ => True) v0_ r ∧ Below w.heap.size w w' := by
 have hu24 := Try.underlying24
 have HR0 := Aside0.mk hr0
 have HC0 := Aside0.mk hc0
 clear hr0 hc0
 have HR1 := Aside0.mk hr1
 have HC1 := Aside0.mk hc1
 clear hr1 hc1
 have HB := Aside0.mk (Below.refl w.heap.size w)
 have H : (if 61 ≤ 281474976710656 then (spec_l3All.l0 k l0 l1 (List.replicate 61 false) 0) else (none)) = some r := h
 clear h
 by_cases c3 : 61 ≤ 281474976710656
 ·rw [if_pos c3] at H
  have c3b0 := eq_true c3
  have c3b1 : decide (61 ≤ 281474976710656) = true := decide_eq_true c3
  clear c3
  obtain ⟨y496, hy496⟩ : ∃ y_ : List Bool, y_ = (List.replicate 61 false) := ⟨_, rfl⟩
  replace H : (spec_l3All.l0 k l0 l1 y496 0) = some r := by first | (rw [hy496]; with_reducible exact H) | (have H2_ := (Option.bind_some _ _).symm.trans H; rw [hy496]; with_reducible exact H2_) | (have H2_ := (Option.bind_some _ _).symm.trans H; with_reducible exact H2_) | with_reducible exact H | (rw [hy496]; exact H) | exact H
  have Ny496 := Aside0.mk hy496
  clear hy496
  have H' := Aside0.mk H
  clear H
  go_enter Try.func76, Try.ntmps76
  go_wp2_with (first | ((with_reducible refine gate_dst (N := 9) rfl ?_); refine Kd.R_make Kd.bool _ 4 rfl (N := 9) rfl 74 _ _ rfl 61 rfl rfl Try.underlying74 (.bool false) 1 info4 rfl (by decide) (by omega) false (ok := fun _ => True) (okp := fun _ => True) rfl (fun _ hk => hk) trivial (by omega) (by omega) (Below.refl _ _) (Nat.le_refl _) ?_; intro v497 w4 ho5 hb hg_ hnew_; clear hg_ hnew_; (first | rw [← Ny496.out] at ho5 | (simp only [Int.reduceToNat] at ho5; rw [← Ny496.out] at ho5)); have n0_ := Aside0.mk (Kd.R_lower ho5 (below_size z37x1)); have n1_ := Aside0.mk (below_step z37x1 hb); clear HB; have HO498 := n0_; have HB := n1_; clear n0_ n1_; clear hb ho5))
  go_loopg [6] k (fun kq v6 w' => ∃ (x5_1 : List Bool) (x6_1 : Int), v6 = .int .i64 x6_1 ∧ Aside0 (spec_l3All.l0 kq l0 l1 x5_1 x6_1 = some r) ∧ Aside0 (kq ≤ k) ∧ Aside0 (Kd.R Kd.bool 4 w' w.heap.size (fun _ => True) v497 x5_1) ∧ Aside0 (Below w.heap.size w w'))
  case atStart => exact ⟨(y496), (0), (by first | rfl | (simp; done) | (simp [*]; done)), H', ⟨Nat.le_refl _⟩, ⟨by (with_reducible repeat (first | apply Kd.R_alloc | apply Kd.R_drewN | apply Kd.R_drew)); exact HO498.out⟩, ⟨by repeat (first | (with_reducible first | exact HB.out | apply below_alloc | apply pw_below_drewN | apply below_drew1) | exact HB.out)⟩⟩
  case round =>
   clear H'
   try clear c1
   try clear p2
   try clear c3
   try clear c3b0
   try clear c3b1
   obtain ⟨x5_1, x6_1, rfl, HA, HK1, HO_5, HB⟩ := hrel
   cases gk with
   | zero => exact absurd HA.out (by simp [spec_l3All.l0])
   | succ k1 =>
    have H := HA.out
    clear HA
    simp only [spec_l3All.l0] at H
    by_cases c6 : x6_1 < (l0.length : Int)
    ·rw [if_pos c6] at H
     have c6b0 : decide (x6_1 < (l0.length : Int)) = true := decide_eq_true c6
     clear c6
     by_cases c7 : 0 ≤ x6_1
     ·rw [if_pos c7] at H
      have c7b0 : decide (0 ≤ x6_1) = true := decide_eq_true c7
      clear c7
      replace H := Option.bind_eq_some_iff.mp H
      obtain ⟨t500, A80, H⟩ := H
      replace H : (if t500 = true then (if 0 ≤ (rd l0 x6_1) then (if (rd l0 x6_1) < (x5_1.length : Int) then (spec_l3All.l0 k1 l0 l1 (x5_1.set ((rd l0 x6_1) : Int).toNat true) (wrap64 (x6_1 + 1))) else (none)) else (none)) else (spec_l3All.l0 k1 l0 l1 x5_1 (wrap64 (x6_1 + 1)))) = some r := H
      have A8 := Aside0.mk A80
      clear A80
      by_cases c9 : t500 = true
      ·subst c9
       rw [if_pos rfl] at H
       by_cases c10 : 0 ≤ (rd l0 x6_1)
       ·rw [if_pos c10] at H
        have c10b0 : decide (0 ≤ (rd l0 x6_1)) = true := decide_eq_true c10
        clear c10
        by_cases c11 : (rd l0 x6_1) < (x5_1.length : Int)
        ·rw [if_pos c11] at H
         have c11b0 : decide ((rd l0 x6_1) < (x5_1.length : Int)) = true := decide_eq_true c11
         clear c11
         obtain ⟨y502, hy502⟩ : ∃ y_ : List Bool, y_ = (x5_1.set ((rd l0 x6_1) : Int).toNat true) := ⟨_, rfl⟩
         replace H : (spec_l3All.l0 k1 l0 l1 y502 (wrap64 (x6_1 + 1))) = some r := by first | (rw [hy502]; with_reducible exact H) | (have H2_ := (Option.bind_some _ _).symm.trans H; rw [hy502]; with_reducible exact H2_) | (have H2_ := (Option.bind_some _ _).symm.trans H; with_reducible exact H2_) | with_reducible exact H | (rw [hy502]; exact H) | exact H
         have Ny502 := Aside0.mk hy502
         clear hy502
         have H' := Aside0.mk H
         clear H
         have p499 : 0 ≤ (x6_1 : Int) := of_decide_eq_true (by first | (with_reducible assumption) | assumption)
         have q499 : x6_1 < (l0.length : Int) := of_decide_eq_true (by first | (with_reducible assumption) | assumption)
         obtain ⟨ad499, e499, hx499_0⟩ := Kd.at_int HR0.out x6_1 p499 q499
         cases e499
         replace hx499_0 := (HB.out.cell (World.block_lt_of_cell? w _ hx499_0)).trans hx499_0
         replace p499 := eq_true p499
         replace q499 := eq_true q499
         go_wp2_with (first | ((with_reducible refine gate_callee (f := 84) rfl ?_); refine goesL_ (some 20) rfl rfl Try.func84 (by kernel_rfl) rfl #[.int .i64 (rd l0 x6_1), .int .i64 1, .int .i64 60] rfl z37x0 ?_; (with_reducible refine (spec_l6In.calls (rd l0 x6_1) 1 60 true _ A8.out).mono ?_); rintro e w' ⟨rfl, ⟨nd, rfl⟩⟩; refine ⟨_, rfl, ?_⟩; (try (rw [drewN_self wr]; generalize hq_ : World.drewN wr _ = wr; have n0_ : Aside0 (Kd.R Kd.bool 4 wr w.heap.size (fun _ => True) v497 x5_1) := ⟨by rw [← hq_]; exact z37x2⟩; have n1_ : Aside0 (Below w.heap.size w wr) := ⟨by rw [← hq_]; exact z37x1⟩; clear HO_5 HB hq_; have HO_5 := n0_; have HB := n1_; clear n0_ n1_)); have p501 : 0 ≤ (x6_1 : Int) := of_decide_eq_true (by first | (with_reducible assumption) | assumption); have q501 : x6_1 < (l0.length : Int) := of_decide_eq_true (by first | (with_reducible assumption) | assumption); obtain ⟨ad501, e501, hx501_0⟩ := Kd.at_int HR0.out x6_1 p501 q501; obtain rfl : ad499 = ad501 := (by injection e501); replace hx501_0 := (HB.out.cell (World.block_lt_of_cell? w _ hx501_0)).trans hx501_0; replace p501 := eq_true p501; replace q501 := eq_true q501; have p12 : 0 ≤ ((rd l0 x6_1) : Int) := of_decide_eq_true (by first | (with_reducible assumption) | assumption); have q12 : ((rd l0 x6_1) : Int) < ((x5_1.length : Int) : Int) := of_decide_eq_true (by first | (with_reducible assumption) | assumption); obtain ⟨go12, co12, eo12, gb12, gl12, cl12, HG12⟩ := Kd.R_form HO_5.out (by omega); (first | cases eo12 | (injection eo12 with ea_ en_ ec_; (first | subst ea_ | (injection ea_ with ea_; subst ea_)); subst ec_; clear en_)); have GB12 := Aside0.mk gb12; have GG12 := Aside0.mk HG12; clear gb12 gl12 HG12; obtain ⟨hx12_0, hf12_0⟩ := Kd.R_celln false HO_5.out ((rd l0 x6_1) : Int) p12 q12; replace p12 := eq_true p12; replace q12 := eq_true q12; obtain ⟨hy13_, hz13_⟩ := Kd.R_celln false HO_5.out ((rd l0 x6_1) : Int) (of_decide_eq_true (by first | (with_reducible assumption) | assumption)) (of_decide_eq_true (by first | (with_reducible assumption) | assumption)); have HP13 := Kd.R_putg HO_5.out ((rd l0 x6_1) : Int) true) | ((with_reducible refine gate_store (t := 4) (p := 26) rfl ?_); refine store_event (t := 4) (p := 26) (v := ?vo_w14) (w1 := (wr.setCell ⟨go12, ((rd l0 x6_1) : Int).toNat, none⟩ (.bool true))) ?hg ?ho ?hn ?hr ?_; (case ho => rfl); (case hg => rfl); (case hn => rfl); (case hr => first | (go_simp; done) | (go_simp; rfl)); intro w14 hw; have hg : wr.grownBy w14 (some go12) := (by rw [hw]; exact HP13.2); have hp_ : Kd.R Kd.bool 4 w14 w.heap.size (fun _ => True) (.slice (some ⟨go12, 0, none⟩) x5_1.length co12) y502 := (by rw [hw, Ny502.out]; exact HP13.1); clear HP13; have n0_ := Aside0.mk (hp_); have n1_ := Aside0.mk ((by rw [hw]; exact below_set (HB.out) GB12.out : Below w.heap.size w w14)); clear HO_5; clear HB; have HO_5 := n0_; have HB := n1_; clear n0_ n1_; clear hg hw hp_))
         go_roundg k1
         case measure => have := HK1.out; omega
         case rel => exact ⟨(y502), (wrap64 (x6_1 + 1)), (by first | rfl | (simp; done) | (simp [*]; done)), H', ⟨by have := HK1.out; omega⟩, ⟨by (with_reducible repeat (first | apply Kd.R_alloc | apply Kd.R_drewN | apply Kd.R_drew)); exact HO_5.out⟩, ⟨by repeat (first | (with_reducible first | exact HB.out | apply below_alloc | apply pw_below_drewN | apply below_drew1) | exact HB.out)⟩⟩
        ·rw [if_neg c11] at H
         exact absurd H (by simp)
       ·rw [if_neg c10] at H
        exact absurd H (by simp)
      ·replace c9 := Bool.eq_false_iff.mpr c9
       subst c9
       rw [if_neg (show ¬ (false = true) by decide)] at H
       have H' := Aside0.mk H
       clear H
       have p499 : 0 ≤ (x6_1 : Int) := of_decide_eq_true (by first | (with_reducible assumption) | assumption)
       have q499 : x6_1 < (l0.length : Int) := of_decide_eq_true (by first | (with_reducible assumption) | assumption)
       obtain ⟨ad499, e499, hx499_0⟩ := Kd.at_int HR0.out x6_1 p499 q499
       cases e499
       replace hx499_0 := (HB.out.cell (World.block_lt_of_cell? w _ hx499_0)).trans hx499_0
       replace p499 := eq_true p499
       replace q499 := eq_true q499
       go_wp2_with (first | ((with_reducible refine gate_callee (f := 84) rfl ?_); refine goesL_ (some 20) rfl rfl Try.func84 (by kernel_rfl) rfl #[.int .i64 (rd l0 x6_1), .int .i64 1, .int .i64 60] rfl z37x0 ?_; (with_reducible refine (spec_l6In.calls (rd l0 x6_1) 1 60 false _ A8.out).mono ?_); rintro e w' ⟨rfl, ⟨nd, rfl⟩⟩; refine ⟨_, rfl, ?_⟩))
       go_roundg k1
       case measure => have := HK1.out; omega
       case rel => exact ⟨(x5_1), (wrap64 (x6_1 + 1)), (by first | rfl | (simp; done) | (simp [*]; done)), H', ⟨by have := HK1.out; omega⟩, ⟨by (with_reducible repeat (first | apply Kd.R_alloc | apply Kd.R_drewN | apply Kd.R_drew)); exact HO_5.out⟩, ⟨by repeat (first | (with_reducible first | exact HB.out | apply below_alloc | apply pw_below_drewN | apply below_drew1) | exact HB.out)⟩⟩
     ·rw [if_neg c7] at H
      exact absurd H (by simp)
    ·rw [if_neg c6] at H
     have c6b0 : decide (x6_1 < (l0.length : Int)) = false := decide_eq_false c6
     clear c6
     have H' := Aside0.mk H
     clear H
     go_wp2
     go_loopg [7] k1 (fun kq v7 w' => ∃ (x5_2 : List Bool) (x7_2 : Int), v7 = .int .i64 x7_2 ∧ Aside0 (spec_l3All.l1 kq l1 x5_2 x7_2 = some r) ∧ Aside0 (kq ≤ k1) ∧ Aside0 (Kd.R Kd.bool 4 w' w.heap.size (fun _ => True) v497 x5_2) ∧ Aside0 (Below w.heap.size w w'))
     case atStart => exact ⟨(x5_1), (0), (by first | rfl | (simp; done) | (simp [*]; done)), H', ⟨Nat.le_refl _⟩, ⟨by (with_reducible repeat (first | apply Kd.R_alloc | apply Kd.R_drewN | apply Kd.R_drew)); exact HO_5.out⟩, ⟨by repeat (first | (with_reducible first | exact HB.out | apply below_alloc | apply pw_below_drewN | apply below_drew1) | exact HB.out)⟩⟩
     case round =>
      clear H'
      try clear c1
      try clear p1
      try clear q1
      try clear hx1
      try clear p2
      try clear c3
      try clear c3b0
      try clear c3b1
      try clear p4
      try clear q4
      try clear hx4
      try clear p5
      try clear q5
      try clear hx5
      try clear c6
      try clear c6b0
      try clear p6
      try clear c7
      try clear c7b0
      try clear c8
      try clear c9
      try clear c10
      try clear c10b0
      try clear c11
      try clear c11b0
      try clear p12
      try clear q12
      try clear hx12
      try clear hf12
      try clear hx12_0
      try clear hx499_0
      try clear hx501_0
      try clear p12
      try clear p2
      try clear p499
      try clear p501
      try clear q12
      try clear q499
      try clear q501
      obtain ⟨x5_2, x7_2, rfl, HA, HK2, HO_5, HB⟩ := hrel
      cases gk with
      | zero => exact absurd HA.out (by simp [spec_l3All.l1])
      | succ k2 =>
       have H := HA.out
       clear HA
       simp only [spec_l3All.l1] at H
       by_cases c15 : x7_2 < (l1.length : Int)
       ·rw [if_pos c15] at H
        have c15b0 : decide (x7_2 < (l1.length : Int)) = true := decide_eq_true c15
        clear c15
        by_cases c16 : 0 ≤ x7_2
        ·rw [if_pos c16] at H
         have c16b0 : decide (0 ≤ x7_2) = true := decide_eq_true c16
         clear c16
         replace H := Option.bind_eq_some_iff.mp H
         obtain ⟨t504, A170, H⟩ := H
         replace H : (if t504 > 0 then (if 0 ≤ ((rd_T24 l1 x7_2).f0) then (if ((rd_T24 l1 x7_2).f0) < (x5_2.length : Int) then (if rdOf false x5_2 ((rd_T24 l1 x7_2).f0) = true then (if 0 ≤ t504 then (if t504 < (x5_2.length : Int) then (if rdOf false x5_2 t504 = true then (spec_l3All.l1 k2 l1 x5_2 (wrap64 (x7_2 + 1))) else (spec_l3All.l1 k2 l1 (x5_2.set (t504 : Int).toNat true) ((-1) + 1))) else (none)) else (none)) else (spec_l3All.l1 k2 l1 x5_2 (wrap64 (x7_2 + 1)))) else (none)) else (none)) else (spec_l3All.l1 k2 l1 x5_2 (wrap64 (x7_2 + 1)))) = some r := H
         have A17 := Aside0.mk A170
         clear A170
         by_cases c18 : t504 > 0
         ·rw [if_pos c18] at H
          have c18b0 : decide (0 < t504) = true := decide_eq_true c18
          clear c18
          by_cases c19 : 0 ≤ ((rd_T24 l1 x7_2).f0)
          ·rw [if_pos c19] at H
           have c19b0 : decide (0 ≤ ((rd_T24 l1 x7_2).f0)) = true := decide_eq_true c19
           clear c19
           by_cases c20 : ((rd_T24 l1 x7_2).f0) < (x5_2.length : Int)
           ·rw [if_pos c20] at H
            have c20b0 : decide (((rd_T24 l1 x7_2).f0) < (x5_2.length : Int)) = true := decide_eq_true c20
            clear c20
            obtain ⟨bq21, hbq21⟩ : ∃ b_ : Bool, b_ = (rdOf false x5_2 ((rd_T24 l1 x7_2).f0)) := ⟨_, rfl⟩
            replace H : (if bq21 = true then (if 0 ≤ t504 then (if t504 < (x5_2.length : Int) then (if rdOf false x5_2 t504 = true then (spec_l3All.l1 k2 l1 x5_2 (wrap64 (x7_2 + 1))) else (spec_l3All.l1 k2 l1 (x5_2.set (t504 : Int).toNat true) ((-1) + 1))) else (none)) else (none)) else (spec_l3All.l1 k2 l1 x5_2 (wrap64 (x7_2 + 1)))) = some r := by rw [← hbq21] at H; exact H
            have Nbq21 := Aside0.mk hbq21
            clear hbq21
            by_cases c22 : bq21 = true
            ·subst c22
             rw [if_pos rfl] at H
             by_cases c23 : 0 ≤ t504
             ·rw [if_pos c23] at H
              have c23b0 : decide (0 ≤ t504) = true := decide_eq_true c23
              clear c23
              by_cases c24 : t504 < (x5_2.length : Int)
              ·rw [if_pos c24] at H
               have c24b0 : decide (t504 < (x5_2.length : Int)) = true := decide_eq_true c24
               clear c24
               obtain ⟨bq25, hbq25⟩ : ∃ b_ : Bool, b_ = (rdOf false x5_2 t504) := ⟨_, rfl⟩
               replace H : (if bq25 = true then (spec_l3All.l1 k2 l1 x5_2 (wrap64 (x7_2 + 1))) else (spec_l3All.l1 k2 l1 (x5_2.set (t504 : Int).toNat true) ((-1) + 1))) = some r := by rw [← hbq25] at H; exact H
               have Nbq25 := Aside0.mk hbq25
               clear hbq25
               by_cases c26 : bq25 = true
               ·subst c26
                rw [if_pos rfl] at H
                have H' := Aside0.mk H
                clear H
                have p503 : 0 ≤ (x7_2 : Int) := of_decide_eq_true (by first | (with_reducible assumption) | assumption)
                have q503 : x7_2 < (l1.length : Int) := of_decide_eq_true (by first | (with_reducible assumption) | assumption)
                obtain ⟨ad503, e503, hx503_0, hx503_1, hx503_2, hx503_3, hx503_4, hx503_5, hx503_6⟩ := at_T24 HR1.out x7_2 p503 q503
                cases e503
                replace hx503_0 := (HB.out.cell (World.block_lt_of_cell? w _ hx503_0)).trans hx503_0
                replace hx503_1 := (HB.out.cell (World.block_lt_of_cell? w _ hx503_1)).trans hx503_1
                replace hx503_2 := (HB.out.cell (World.block_lt_of_cell? w _ hx503_2)).trans hx503_2
                replace hx503_3 := (HB.out.cell (World.block_lt_of_cell? w _ hx503_3)).trans hx503_3
                replace hx503_4 := (HB.out.cell (World.block_lt_of_cell? w _ hx503_4)).trans hx503_4
                replace hx503_5 := (HB.out.cell (World.block_lt_of_cell? w _ hx503_5)).trans hx503_5
                replace hx503_6 := (HB.out.cell (World.block_lt_of_cell? w _ hx503_6)).trans hx503_6
                replace p503 := eq_true p503
                replace q503 := eq_true q503
                go_wp2_with (first | ((with_reducible refine gate_callee (f := 24) rfl ?_); refine goesL_ (some 37) rfl rfl Try.func24 (by kernel_rfl) rfl #[.agg #[.int .i64 ((rd_T24 l1 x7_2).f0), .int .i64 ((rd_T24 l1 x7_2).f1), .int .i64 ((rd_T24 l1 x7_2).f2), .int .i64 ((rd_T24 l1 x7_2).f3), .int .i64 ((rd_T24 l1 x7_2).f4), .int .i64 ((rd_T24 l1 x7_2).f5), .int .i64 ((rd_T24 l1 x7_2).f6)]] rfl z37x0 ?_; (with_reducible refine (spec_SealHolds.calls ((rd_T24 l1 x7_2).f0) ((rd_T24 l1 x7_2).f1) ((rd_T24 l1 x7_2).f2) ((rd_T24 l1 x7_2).f3) ((rd_T24 l1 x7_2).f4) ((rd_T24 l1 x7_2).f5) ((rd_T24 l1 x7_2).f6) t504 _ A17.out).mono ?_); rintro e w27 ⟨rfl, hb⟩; refine ⟨_, rfl, ?_⟩; have n0_ := Aside0.mk (Kd.R_below z37x2 hb); have n1_ := Aside0.mk (below_step z37x1 hb); clear HO_5; clear HB; have HO_5 := n0_; have HB := n1_; clear n0_ n1_; (try clear hb); (try clear hb2); (try clear hk); (try clear hi); have p505 : 0 ≤ (x7_2 : Int) := of_decide_eq_true (by first | (with_reducible assumption) | assumption); have q505 : x7_2 < (l1.length : Int) := of_decide_eq_true (by first | (with_reducible assumption) | assumption); obtain ⟨ad505, e505, hx505_0, hx505_1, hx505_2, hx505_3, hx505_4, hx505_5, hx505_6⟩ := at_T24 HR1.out x7_2 p505 q505; obtain rfl : ad503 = ad505 := (by injection e505); replace hx505_0 := (HB.out.cell (World.block_lt_of_cell? w _ hx505_0)).trans hx505_0; replace hx505_1 := (HB.out.cell (World.block_lt_of_cell? w _ hx505_1)).trans hx505_1; replace hx505_2 := (HB.out.cell (World.block_lt_of_cell? w _ hx505_2)).trans hx505_2; replace hx505_3 := (HB.out.cell (World.block_lt_of_cell? w _ hx505_3)).trans hx505_3; replace hx505_4 := (HB.out.cell (World.block_lt_of_cell? w _ hx505_4)).trans hx505_4; replace hx505_5 := (HB.out.cell (World.block_lt_of_cell? w _ hx505_5)).trans hx505_5; replace hx505_6 := (HB.out.cell (World.block_lt_of_cell? w _ hx505_6)).trans hx505_6; replace p505 := eq_true p505; replace q505 := eq_true q505; obtain ⟨Ao28, co28, eo28⟩ := Kd.R_slice HO_5.out; subst eo28; have p506 : 0 ≤ (((rd_T24 l1 x7_2).f0) : Int) := of_decide_eq_true (by first | (with_reducible assumption) | assumption); have q506 : ((rd_T24 l1 x7_2).f0) < (x5_2.length : Int) := of_decide_eq_true (by first | (with_reducible assumption) | assumption); obtain ⟨ad506, e506, hx506_0⟩ := Kd.at_bool (Kd.R_reads' HO_5.out).2.2 ((rd_T24 l1 x7_2).f0) p506 q506; (try rw [← Nbq21.out] at hx506_0); (try rw [← Nbq25.out] at hx506_0); cases e506; replace p506 := eq_true p506; replace q506 := eq_true q506; have p507 : 0 ≤ (t504 : Int) := of_decide_eq_true (by first | (with_reducible assumption) | assumption); have q507 : t504 < (x5_2.length : Int) := of_decide_eq_true (by first | (with_reducible assumption) | assumption); obtain ⟨ad507, e507, hx507_0⟩ := Kd.at_bool (Kd.R_reads' HO_5.out).2.2 t504 p507 q507; (try rw [← Nbq21.out] at hx507_0); (try rw [← Nbq25.out] at hx507_0); obtain rfl : ad506 = ad507 := (by injection e507); replace p507 := eq_true p507; replace q507 := eq_true q507))
                go_roundg k2
                case measure => have := HK1.out; have := HK2.out; omega
                case rel => exact ⟨(x5_2), (wrap64 (x7_2 + 1)), (by first | rfl | (simp; done) | (simp [*]; done)), H', ⟨by have := HK1.out; have := HK2.out; omega⟩, ⟨by (with_reducible repeat (first | apply Kd.R_alloc | apply Kd.R_drewN | apply Kd.R_drew)); exact HO_5.out⟩, ⟨by repeat (first | (with_reducible first | exact HB.out | apply below_alloc | apply pw_below_drewN | apply below_drew1) | exact HB.out)⟩⟩
               ·replace c26 := Bool.eq_false_iff.mpr c26
                subst c26
                rw [if_neg (show ¬ (false = true) by decide)] at H
                obtain ⟨y508, hy508⟩ : ∃ y_ : List Bool, y_ = (x5_2.set (t504 : Int).toNat true) := ⟨_, rfl⟩
                replace H : (spec_l3All.l1 k2 l1 y508 ((-1) + 1)) = some r := by first | (rw [hy508]; with_reducible exact H) | (have H2_ := (Option.bind_some _ _).symm.trans H; rw [hy508]; with_reducible exact H2_) | (have H2_ := (Option.bind_some _ _).symm.trans H; with_reducible exact H2_) | with_reducible exact H | (rw [hy508]; exact H) | exact H
                have Ny508 := Aside0.mk hy508
                clear hy508
                have H' := Aside0.mk H
                clear H
                have p503 : 0 ≤ (x7_2 : Int) := of_decide_eq_true (by first | (with_reducible assumption) | assumption)
                have q503 : x7_2 < (l1.length : Int) := of_decide_eq_true (by first | (with_reducible assumption) | assumption)
                obtain ⟨ad503, e503, hx503_0, hx503_1, hx503_2, hx503_3, hx503_4, hx503_5, hx503_6⟩ := at_T24 HR1.out x7_2 p503 q503
                cases e503
                replace hx503_0 := (HB.out.cell (World.block_lt_of_cell? w _ hx503_0)).trans hx503_0
                replace hx503_1 := (HB.out.cell (World.block_lt_of_cell? w _ hx503_1)).trans hx503_1
                replace hx503_2 := (HB.out.cell (World.block_lt_of_cell? w _ hx503_2)).trans hx503_2
                replace hx503_3 := (HB.out.cell (World.block_lt_of_cell? w _ hx503_3)).trans hx503_3
                replace hx503_4 := (HB.out.cell (World.block_lt_of_cell? w _ hx503_4)).trans hx503_4
                replace hx503_5 := (HB.out.cell (World.block_lt_of_cell? w _ hx503_5)).trans hx503_5
                replace hx503_6 := (HB.out.cell (World.block_lt_of_cell? w _ hx503_6)).trans hx503_6
                replace p503 := eq_true p503
                replace q503 := eq_true q503
                go_wp2_with (first | ((with_reducible refine gate_callee (f := 24) rfl ?_); refine goesL_ (some 37) rfl rfl Try.func24 (by kernel_rfl) rfl #[.agg #[.int .i64 ((rd_T24 l1 x7_2).f0), .int .i64 ((rd_T24 l1 x7_2).f1), .int .i64 ((rd_T24 l1 x7_2).f2), .int .i64 ((rd_T24 l1 x7_2).f3), .int .i64 ((rd_T24 l1 x7_2).f4), .int .i64 ((rd_T24 l1 x7_2).f5), .int .i64 ((rd_T24 l1 x7_2).f6)]] rfl z37x0 ?_; (with_reducible refine (spec_SealHolds.calls ((rd_T24 l1 x7_2).f0) ((rd_T24 l1 x7_2).f1) ((rd_T24 l1 x7_2).f2) ((rd_T24 l1 x7_2).f3) ((rd_T24 l1 x7_2).f4) ((rd_T24 l1 x7_2).f5) ((rd_T24 l1 x7_2).f6) t504 _ A17.out).mono ?_); rintro e w30 ⟨rfl, hb⟩; refine ⟨_, rfl, ?_⟩; have n0_ := Aside0.mk (Kd.R_below z37x2 hb); have n1_ := Aside0.mk (below_step z37x1 hb); clear HO_5; clear HB; have HO_5 := n0_; have HB := n1_; clear n0_ n1_; (try clear hb); (try clear hb2); (try clear hk); (try clear hi); have p505 : 0 ≤ (x7_2 : Int) := of_decide_eq_true (by first | (with_reducible assumption) | assumption); have q505 : x7_2 < (l1.length : Int) := of_decide_eq_true (by first | (with_reducible assumption) | assumption); obtain ⟨ad505, e505, hx505_0, hx505_1, hx505_2, hx505_3, hx505_4, hx505_5, hx505_6⟩ := at_T24 HR1.out x7_2 p505 q505; obtain rfl : ad503 = ad505 := (by injection e505); replace hx505_0 := (HB.out.cell (World.block_lt_of_cell? w _ hx505_0)).trans hx505_0; replace hx505_1 := (HB.out.cell (World.block_lt_of_cell? w _ hx505_1)).trans hx505_1; replace hx505_2 := (HB.out.cell (World.block_lt_of_cell? w _ hx505_2)).trans hx505_2; replace hx505_3 := (HB.out.cell (World.block_lt_of_cell? w _ hx505_3)).trans hx505_3; replace hx505_4 := (HB.out.cell (World.block_lt_of_cell? w _ hx505_4)).trans hx505_4; replace hx505_5 := (HB.out.cell (World.block_lt_of_cell? w _ hx505_5)).trans hx505_5; replace hx505_6 := (HB.out.cell (World.block_lt_of_cell? w _ hx505_6)).trans hx505_6; replace p505 := eq_true p505; replace q505 := eq_true q505; obtain ⟨Ao31, co31, eo31⟩ := Kd.R_slice HO_5.out; subst eo31; have p506 : 0 ≤ (((rd_T24 l1 x7_2).f0) : Int) := of_decide_eq_true (by first | (with_reducible assumption) | assumption); have q506 : ((rd_T24 l1 x7_2).f0) < (x5_2.length : Int) := of_decide_eq_true (by first | (with_reducible assumption) | assumption); obtain ⟨ad506, e506, hx506_0⟩ := Kd.at_bool (Kd.R_reads' HO_5.out).2.2 ((rd_T24 l1 x7_2).f0) p506 q506; (try rw [← Nbq21.out] at hx506_0); (try rw [← Nbq25.out] at hx506_0); cases e506; replace p506 := eq_true p506; replace q506 := eq_true q506; have p507 : 0 ≤ (t504 : Int) := of_decide_eq_true (by first | (with_reducible assumption) | assumption); have q507 : t504 < (x5_2.length : Int) := of_decide_eq_true (by first | (with_reducible assumption) | assumption); obtain ⟨ad507, e507, hx507_0⟩ := Kd.at_bool (Kd.R_reads' HO_5.out).2.2 t504 p507 q507; (try rw [← Nbq21.out] at hx507_0); (try rw [← Nbq25.out] at hx507_0); obtain rfl : ad506 = ad507 := (by injection e507); replace p507 := eq_true p507; replace q507 := eq_true q507; have p29 : 0 ≤ (t504 : Int) := of_decide_eq_true (by first | (with_reducible assumption) | assumption); have q29 : (t504 : Int) < ((x5_2.length : Int) : Int) := of_decide_eq_true (by first | (with_reducible assumption) | assumption); obtain ⟨go29, co29, eo29, gb29, gl29, cl29, HG29⟩ := Kd.R_form HO_5.out (by omega); (first | cases eo29 | (injection eo29 with ea_ en_ ec_; (first | subst ea_ | (injection ea_ with ea_; subst ea_)); subst ec_; clear en_)); have GB29 := Aside0.mk gb29; have GG29 := Aside0.mk HG29; clear gb29 gl29 HG29; (first | simp only [add_plain] at hx506_0 | skip); (first | simp only [add_plain] at hx507_0 | skip); obtain ⟨hx29_0, hf29_0⟩ := Kd.R_celln false HO_5.out (t504 : Int) p29 q29; replace p29 := eq_true p29; replace q29 := eq_true q29; obtain ⟨hy32_, hz32_⟩ := Kd.R_celln false HO_5.out (t504 : Int) (of_decide_eq_true (by first | (with_reducible assumption) | assumption)) (of_decide_eq_true (by first | (with_reducible assumption) | assumption)); have HP32 := Kd.R_putg HO_5.out (t504 : Int) true) | ((with_reducible refine gate_store (t := 4) (p := 59) rfl ?_); refine store_event (t := 4) (p := 59) (v := ?vo_w33) (w1 := (w30.setCell ⟨go29, (t504 : Int).toNat, none⟩ (.bool true))) ?hg ?ho ?hn ?hr ?_; (case ho => rfl); (case hg => rfl); (case hn => rfl); (case hr => first | (go_simp; done) | (go_simp; rfl)); intro w33 hw; have hg : w30.grownBy w33 (some go29) := (by rw [hw]; exact HP32.2); have hp_ : Kd.R Kd.bool 4 w33 w.heap.size (fun _ => True) (.slice (some ⟨go29, 0, none⟩) x5_2.length co31) y508 := (by rw [hw, Ny508.out]; exact HP32.1); clear HP32; have n0_ := Aside0.mk (hp_); have n1_ := Aside0.mk ((by rw [hw]; exact below_set (HB.out) GB29.out : Below w.heap.size w w33)); clear HO_5; clear HB; have HO_5 := n0_; have HB := n1_; clear n0_ n1_; clear hg hw hp_))
                go_roundg k2
                case measure => have := HK1.out; have := HK2.out; omega
                case rel => exact ⟨(y508), ((-1) + 1), (by first | rfl | (simp; done) | (simp [*]; done)), H', ⟨by have := HK1.out; have := HK2.out; omega⟩, ⟨by (with_reducible repeat (first | apply Kd.R_alloc | apply Kd.R_drewN | apply Kd.R_drew)); exact HO_5.out⟩, ⟨by repeat (first | (with_reducible first | exact HB.out | apply below_alloc | apply pw_below_drewN | apply below_drew1) | exact HB.out)⟩⟩
              ·rw [if_neg c24] at H
               exact absurd H (by simp)
             ·rw [if_neg c23] at H
              exact absurd H (by simp)
            ·replace c22 := Bool.eq_false_iff.mpr c22
             subst c22
             rw [if_neg (show ¬ (false = true) by decide)] at H
             have H' := Aside0.mk H
             clear H
             have p503 : 0 ≤ (x7_2 : Int) := of_decide_eq_true (by first | (with_reducible assumption) | assumption)
             have q503 : x7_2 < (l1.length : Int) := of_decide_eq_true (by first | (with_reducible assumption) | assumption)
             obtain ⟨ad503, e503, hx503_0, hx503_1, hx503_2, hx503_3, hx503_4, hx503_5, hx503_6⟩ := at_T24 HR1.out x7_2 p503 q503
             cases e503
             replace hx503_0 := (HB.out.cell (World.block_lt_of_cell? w _ hx503_0)).trans hx503_0
             replace hx503_1 := (HB.out.cell (World.block_lt_of_cell? w _ hx503_1)).trans hx503_1
             replace hx503_2 := (HB.out.cell (World.block_lt_of_cell? w _ hx503_2)).trans hx503_2
             replace hx503_3 := (HB.out.cell (World.block_lt_of_cell? w _ hx503_3)).trans hx503_3
             replace hx503_4 := (HB.out.cell (World.block_lt_of_cell? w _ hx503_4)).trans hx503_4
             replace hx503_5 := (HB.out.cell (World.block_lt_of_cell? w _ hx503_5)).trans hx503_5
             replace hx503_6 := (HB.out.cell (World.block_lt_of_cell? w _ hx503_6)).trans hx503_6
             replace p503 := eq_true p503
             replace q503 := eq_true q503
             go_wp2_with (first | ((with_reducible refine gate_callee (f := 24) rfl ?_); refine goesL_ (some 37) rfl rfl Try.func24 (by kernel_rfl) rfl #[.agg #[.int .i64 ((rd_T24 l1 x7_2).f0), .int .i64 ((rd_T24 l1 x7_2).f1), .int .i64 ((rd_T24 l1 x7_2).f2), .int .i64 ((rd_T24 l1 x7_2).f3), .int .i64 ((rd_T24 l1 x7_2).f4), .int .i64 ((rd_T24 l1 x7_2).f5), .int .i64 ((rd_T24 l1 x7_2).f6)]] rfl z37x0 ?_; (with_reducible refine (spec_SealHolds.calls ((rd_T24 l1 x7_2).f0) ((rd_T24 l1 x7_2).f1) ((rd_T24 l1 x7_2).f2) ((rd_T24 l1 x7_2).f3) ((rd_T24 l1 x7_2).f4) ((rd_T24 l1 x7_2).f5) ((rd_T24 l1 x7_2).f6) t504 _ A17.out).mono ?_); rintro e w34 ⟨rfl, hb⟩; refine ⟨_, rfl, ?_⟩; have n0_ := Aside0.mk (Kd.R_below z37x2 hb); have n1_ := Aside0.mk (below_step z37x1 hb); clear HO_5; clear HB; have HO_5 := n0_; have HB := n1_; clear n0_ n1_; (try clear hb); (try clear hb2); (try clear hk); (try clear hi); have p505 : 0 ≤ (x7_2 : Int) := of_decide_eq_true (by first | (with_reducible assumption) | assumption); have q505 : x7_2 < (l1.length : Int) := of_decide_eq_true (by first | (with_reducible assumption) | assumption); obtain ⟨ad505, e505, hx505_0, hx505_1, hx505_2, hx505_3, hx505_4, hx505_5, hx505_6⟩ := at_T24 HR1.out x7_2 p505 q505; obtain rfl : ad503 = ad505 := (by injection e505); replace hx505_0 := (HB.out.cell (World.block_lt_of_cell? w _ hx505_0)).trans hx505_0; replace hx505_1 := (HB.out.cell (World.block_lt_of_cell? w _ hx505_1)).trans hx505_1; replace hx505_2 := (HB.out.cell (World.block_lt_of_cell? w _ hx505_2)).trans hx505_2; replace hx505_3 := (HB.out.cell (World.block_lt_of_cell? w _ hx505_3)).trans hx505_3; replace hx505_4 := (HB.out.cell (World.block_lt_of_cell? w _ hx505_4)).trans hx505_4; replace hx505_5 := (HB.out.cell (World.block_lt_of_cell? w _ hx505_5)).trans hx505_5; replace hx505_6 := (HB.out.cell (World.block_lt_of_cell? w _ hx505_6)).trans hx505_6; replace p505 := eq_true p505; replace q505 := eq_true q505; obtain ⟨Ao35, co35, eo35⟩ := Kd.R_slice HO_5.out; subst eo35; have p506 : 0 ≤ (((rd_T24 l1 x7_2).f0) : Int) := of_decide_eq_true (by first | (with_reducible assumption) | assumption); have q506 : ((rd_T24 l1 x7_2).f0) < (x5_2.length : Int) := of_decide_eq_true (by first | (with_reducible assumption) | assumption); obtain ⟨ad506, e506, hx506_0⟩ := Kd.at_bool (Kd.R_reads' HO_5.out).2.2 ((rd_T24 l1 x7_2).f0) p506 q506; (try rw [← Nbq21.out] at hx506_0); cases e506; replace p506 := eq_true p506; replace q506 := eq_true q506))
             go_roundg k2
             case measure => have := HK1.out; have := HK2.out; omega
             case rel => exact ⟨(x5_2), (wrap64 (x7_2 + 1)), (by first | rfl | (simp; done) | (simp [*]; done)), H', ⟨by have := HK1.out; have := HK2.out; omega⟩, ⟨by (with_reducible repeat (first | apply Kd.R_alloc | apply Kd.R_drewN | apply Kd.R_drew)); exact HO_5.out⟩, ⟨by repeat (first | (with_reducible first | exact HB.out | apply below_alloc | apply pw_below_drewN | apply below_drew1) | exact HB.out)⟩⟩
           ·rw [if_neg c20] at H
            exact absurd H (by simp)
          ·rw [if_neg c19] at H
           exact absurd H (by simp)
         ·rw [if_neg c18] at H
          have c18b0 : decide (0 < t504) = false := decide_eq_false c18
          clear c18
          have H' := Aside0.mk H
          clear H
          have p503 : 0 ≤ (x7_2 : Int) := of_decide_eq_true (by first | (with_reducible assumption) | assumption)
          have q503 : x7_2 < (l1.length : Int) := of_decide_eq_true (by first | (with_reducible assumption) | assumption)
          obtain ⟨ad503, e503, hx503_0, hx503_1, hx503_2, hx503_3, hx503_4, hx503_5, hx503_6⟩ := at_T24 HR1.out x7_2 p503 q503
          cases e503
          replace hx503_0 := (HB.out.cell (World.block_lt_of_cell? w _ hx503_0)).trans hx503_0
          replace hx503_1 := (HB.out.cell (World.block_lt_of_cell? w _ hx503_1)).trans hx503_1
          replace hx503_2 := (HB.out.cell (World.block_lt_of_cell? w _ hx503_2)).trans hx503_2
          replace hx503_3 := (HB.out.cell (World.block_lt_of_cell? w _ hx503_3)).trans hx503_3
          replace hx503_4 := (HB.out.cell (World.block_lt_of_cell? w _ hx503_4)).trans hx503_4
          replace hx503_5 := (HB.out.cell (World.block_lt_of_cell? w _ hx503_5)).trans hx503_5
          replace hx503_6 := (HB.out.cell (World.block_lt_of_cell? w _ hx503_6)).trans hx503_6
          replace p503 := eq_true p503
          replace q503 := eq_true q503
          go_wp2_with (first | ((with_reducible refine gate_callee (f := 24) rfl ?_); refine goesL_ (some 37) rfl rfl Try.func24 (by kernel_rfl) rfl #[.agg #[.int .i64 ((rd_T24 l1 x7_2).f0), .int .i64 ((rd_T24 l1 x7_2).f1), .int .i64 ((rd_T24 l1 x7_2).f2), .int .i64 ((rd_T24 l1 x7_2).f3), .int .i64 ((rd_T24 l1 x7_2).f4), .int .i64 ((rd_T24 l1 x7_2).f5), .int .i64 ((rd_T24 l1 x7_2).f6)]] rfl z37x0 ?_; (with_reducible refine (spec_SealHolds.calls ((rd_T24 l1 x7_2).f0) ((rd_T24 l1 x7_2).f1) ((rd_T24 l1 x7_2).f2) ((rd_T24 l1 x7_2).f3) ((rd_T24 l1 x7_2).f4) ((rd_T24 l1 x7_2).f5) ((rd_T24 l1 x7_2).f6) t504 _ A17.out).mono ?_); rintro e w36 ⟨rfl, hb⟩; refine ⟨_, rfl, ?_⟩; have n0_ := Aside0.mk (Kd.R_below z37x2 hb); have n1_ := Aside0.mk (below_step z37x1 hb); clear HO_5; clear HB; have HO_5 := n0_; have HB := n1_; clear n0_ n1_; (try clear hb); (try clear hb2); (try clear hk); (try clear hi)))
          go_roundg k2
          case measure => have := HK1.out; have := HK2.out; omega
          case rel => exact ⟨(x5_2), (wrap64 (x7_2 + 1)), (by first | rfl | (simp; done) | (simp [*]; done)), H', ⟨by have := HK1.out; have := HK2.out; omega⟩, ⟨by (with_reducible repeat (first | apply Kd.R_alloc | apply Kd.R_drewN | apply Kd.R_drew)); exact HO_5.out⟩, ⟨by repeat (first | (with_reducible first | exact HB.out | apply below_alloc | apply pw_below_drewN | apply below_drew1) | exact HB.out)⟩⟩
        ·rw [if_neg c16] at H
         exact absurd H (by simp)
       ·rw [if_neg c15] at H
        have c15b0 : decide (x7_2 < (l1.length : Int)) = false := decide_eq_false c15
        clear c15
        obtain rfl := Option.some.inj H
        go_wp2
        go_ret
        exact ⟨_, by first | rfl | (simp [errW_none, errW_some] <;> rfl) | (simp [*, errW_none, errW_some] <;> rfl), by (with_reducible repeat (first | apply Kd.R_alloc | apply Kd.R_drewN | apply Kd.R_drew)); exact HO_5.out, by repeat (first | (with_reducible first | exact HB.out | apply below_alloc | apply pw_below_drewN | apply below_drew1) | exact HB.out)⟩
 ·rw [if_neg c3] at H
  exact absurd H (by simp)

end Go.Proofs.Ytbiknbjcidlabaa.Hp
