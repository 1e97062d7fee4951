-- hp.py
import Derived.Test.YtbipicjijbnbbaaHx0
import Derived.Test.YtbipicjijbnbbaaHx21
import Derived.Test.YtbipicjijbnbbaaHx27
namespace Go.Proofs.Ytbipicjijbnbbaa.Hp
open Go.RowKit Go.Proofs.YtbipicjijbnbbaaW.PrintWords Go.Proofs.YtbipicjijbnbbaaW.PrintLast Go.Proofs.YtbipicjijbnbbaaW.PrintMore
attribute [local go_sem] max2_int min2_int max_two min_two max_three min_three max_four min_four   -- for this text's walks alone
set_option linter.unusedVariables false
set_option linter.unusedSimpArgs false
-- squeezed by wip/tools/squeeze.py
theorem z42x3 {P : Prop} (h : P := by (with_reducible repeat (first | apply Kd.R_alloc | apply Kd.R_drewN | apply Kd.R_drew)); exact HO_6.out) : P := h
theorem z42x2 {P : Prop} (h : P := by (with_reducible repeat (first | apply Kd.R_alloc | apply Kd.R_drewN | apply Kd.R_drew)); exact HO_5.out) : P := h
theorem z42x1 {P : Prop} (h : P := by repeat (first | (with_reducible first | exact HB.out | apply below_alloc | apply pw_below_drewN | apply below_drew1) | exact HB.out)) : P := h
theorem z42x0 {P : Prop} (h : P := by (try simp only [List.map_toArray, List.map_cons, List.map_nil]); first | done | rfl | (simp only [List.length_drop, List.length_take]; rfl)) : P := h

/-! ### spec_KnowRead: function 33 -/
def spec_KnowRead.l0 : Nat → List (S41) → List Bool → List (S41) → Int → Option ((List (S41)))
 | 0, _, _, _, _ => none
 | k + 1, x1, x5, x6, x7 => if x7 < (x1.length : Int) then (if 0 ≤ x7 then ((spec_SealOk.f ((rd_T41 x1 x7).f0) ((rd_T41 x1 x7).f1) ((rd_T41 x1 x7).f2) ((rd_T41 x1 x7).f3) ((rd_T41 x1 x7).f4) ((rd_T41 x1 x7).f5) ((rd_T41 x1 x7).f6)).bind fun t517 => (if t517 = true then (if 0 ≤ ((rd_T41 x1 x7).f0) then (if ((rd_T41 x1 x7).f0) < (x5.length : Int) then (if rdOf false x5 ((rd_T41 x1 x7).f0) = true then (if x6.length < 2513169434916 then (spec_KnowRead.l0 k x1 x5 (x6 ++ [(⟨(rd_T41 x1 x7).f0, (rd_T41 x1 x7).f1, (rd_T41 x1 x7).f2, (rd_T41 x1 x7).f3, (rd_T41 x1 x7).f4, (rd_T41 x1 x7).f5, (rd_T41 x1 x7).f6⟩ : S41)]) (wrap64 (x7 + 1))) else (none)) else (spec_KnowRead.l0 k x1 x5 x6 (wrap64 (x7 + 1)))) else (none)) else (none)) else (spec_KnowRead.l0 k x1 x5 x6 (wrap64 (x7 + 1))))) else (none)) else (some x6)
def spec_KnowRead.f (k : Nat) (l0 : List Int) (l1 : List (S41)) : Option ((List (S41))) := (spec_l3All.f k l0 l1).bind fun t510 => (spec_KnowRead.l0 k l1 t510 (([] : List (S41))) 0)
theorem spec_KnowRead.mono_l : ∀ k, (∀ y0 y1 y2 y3, LeO (spec_KnowRead.l0 k y0 y1 y2 y3) (spec_KnowRead.l0 (k + 1) y0 y1 y2 y3))
 | 0 => fun _ _ _ _ r h => by simp [spec_KnowRead.l0] at h
 | k + 1 => by
  have ih0 := spec_KnowRead.mono_l k
  ·intro y0 y1 y2 y3
   unfold spec_KnowRead.l0
   repeat' first
   | (with_reducible exact ih0 _ _ _ _)
   | (with_reducible exact spec_l3All.mono _ _ _)
   | (with_reducible exact LeO.refl _)
   | (with_reducible exact LeO.none _)
   | (with_reducible refine LeO.ite ?_ ?_)
   | (with_reducible refine LeO.bind ?_ (fun _ => ?_))
   | exact ih0 _ _ _ _
   | exact spec_l3All.mono _ _ _
   | exact LeO.none _
   | refine LeO.ite ?_ ?_
   | refine LeO.bind ?_ (fun _ => ?_)
theorem spec_KnowRead.mono : ∀ a0 a1 k, LeO (spec_KnowRead.f k a0 a1) (spec_KnowRead.f (k + 1) a0 a1) := by
 intro a0 a1 k
 have ih0 := spec_KnowRead.mono_l k
 unfold spec_KnowRead.f
 repeat' first
   | (with_reducible exact ih0 _ _ _ _)
   | (with_reducible exact spec_l3All.mono _ _ _)
   | (with_reducible exact LeO.refl _)
   | (with_reducible exact LeO.none _)
   | (with_reducible refine LeO.ite ?_ ?_)
   | (with_reducible refine LeO.bind ?_ (fun _ => ?_))
   | exact ih0 _ _ _ _
   | exact spec_l3All.mono _ _ _
   | exact LeO.none _
   | refine LeO.ite ?_ ?_
   | refine LeO.bind ?_ (fun _ => ?_)
set_option maxHeartbeats 8000000 in
set_option maxRecDepth 100000 in
theorem spec_KnowRead.calls (k : Nat) (A0 : Option Addr) (c0 : Nat) (l0 : List Int) (A1 : Option Addr) (c1 : Nat) (l1 : List (S41)) (r : List (S41)) (w : World) (hr0 : Kd.C (Kd.int .i64) w A0 l0.length l0) (hc0 : l0.length ≤ c0) (hr1 : Kd.C k41 w A1 l1.length l1) (hc1 : l1.length ≤ c1) (h : spec_KnowRead.f k l0 l1 = some r) :
  Calls Try.prog 33 #[.slice A0 l0.length c0, .slice A1 l1.length c1] w fun e w' => ∃ v0_ : Value, e = .returned (v0_) ∧ Kd.R k41 41 w' w.heap.size (fun _ => True) v0_ r ∧ Below w.heap.size w w' := by
 have hu41 := Try.underlying41
 have HR0 := Aside0.mk hr0
 have HC0 := Aside0.mk hc0
 clear hr0 hc0
 have HR1 := Aside0.mk hr1
 have HC1 := Aside0.mk hc1
 clear hr1 hc1
 have HB := Aside0.mk (Below.refl w.heap.size w)
 have H : ((spec_l3All.f k l0 l1).bind fun t510 => (spec_KnowRead.l0 k l1 t510 (([] : List (S41))) 0)) = some r := h
 clear h
 replace H := Option.bind_eq_some_iff.mp H
 obtain ⟨t510, A30, H⟩ := H
 replace H : (spec_KnowRead.l0 k l1 t510 (([] : List (S41))) 0) = some r := H
 have A3 := Aside0.mk A30
 clear A30
 obtain ⟨y513, hy513⟩ : ∃ y_ : List (S41), y_ = (([] : List (S41))) := ⟨_, rfl⟩
 replace H : (spec_KnowRead.l0 k l1 t510 y513 0) = some r := by first | (rw [hy513]; with_reducible exact H) | (have H2_ := (Option.bind_some _ _).symm.trans H; rw [hy513]; with_reducible exact H2_) | (have H2_ := (Option.bind_some _ _).symm.trans H; with_reducible exact H2_) | with_reducible exact H | (rw [hy513]; exact H) | exact H
 have Ny513 := Aside0.mk hy513
 clear hy513
 have H' := Aside0.mk H
 clear H
 go_enter Try.func33, Try.ntmps33
 go_wp2_with (first | ((with_reducible refine gate_callee (f := 87) rfl ?_); refine goesL_ (some 10) rfl rfl Try.func87 (by kernel_rfl) rfl #[.slice A0 l0.length c0, .slice A1 l1.length c1] rfl z42x0 ?_; (with_reducible refine (spec_l3All.calls k _ _ l0 _ _ l1 t510 _ ?side1 ?side2 ?side3 ?side4 A3.out).mono ?_); (case side1 => repeat (first | exact HR0.out | (with_reducible refine Kd.C_alloc ?_ _) | (with_reducible refine Kd.C_drewN ?_ _) | (with_reducible refine Kd.C_drew ?_))); (case side2 => exact HC0.out); (case side3 => repeat (first | exact HR1.out | (with_reducible refine Kd.C_alloc ?_ _) | (with_reducible refine Kd.C_drewN ?_ _) | (with_reducible refine Kd.C_drew ?_))); (case side4 => exact HC1.out); rintro e w4 ⟨v511, rfl, ho0, hb⟩; refine ⟨_, rfl, ?_⟩; have n0_ := Aside0.mk (Kd.R_lower ho0 (below_size z42x1)); have n1_ := Aside0.mk (below_step z42x1 hb); clear HB; have HO512 := n0_; have HB := n1_; clear n0_ n1_; (try clear hb); (try clear hb2); (try clear hk); (try clear hi); (try clear ho0)) | ((with_reducible refine gate_dst (N := 11) rfl ?_); refine Kd.R_lit k41 _ 41 ?hg (N := 11) ?hd (xs := ([] : List (S41))) (inner := []) (ok := fun _ => True) (okp := fun _ => True) ?hr ?hp (fun _ hk => hk) trivial (Below.refl _ _) (Nat.le_refl _) (by simp) ?_; (case hd => rfl); (case hg => rfl); (case hr => first | (go_simp; done) | (go_simp; rfl)); (case hp => exact (Reps.none _ _)); intro v514 w5 ho6 hb hg_ hnew_; clear hg_ hnew_; (first | rw [← Ny513.out] at ho6 | (simp only [Int.reduceToNat] at ho6; rw [← Ny513.out] at ho6)); have n0_ := Aside0.mk (Kd.R_below (by (with_reducible repeat (first | apply Kd.R_alloc | apply Kd.R_drewN | apply Kd.R_drew)); exact HO512.out) hb); have n1_ := Aside0.mk (Kd.R_lower ho6 (below_size z42x1)); have n2_ := Aside0.mk (below_step z42x1 hb); clear HO512; clear HB; have HO512 := n0_; have HO515 := n1_; have HB := n2_; clear n0_ n1_ n2_; clear hb ho6))
 go_loopg [6, 7] k (fun kq v6 v7 w' => ∃ (x6_1 : List (S41)) (x7_1 : Int), v7 = .int .i64 x7_1 ∧ Aside0 (spec_KnowRead.l0 kq l1 t510 x6_1 x7_1 = some r) ∧ Aside0 (kq ≤ k) ∧ Aside0 (Kd.R Kd.bool 4 w' w.heap.size (fun _ => True) v511 t510) ∧ Aside0 (Kd.R k41 41 w' w.heap.size (fun _ => True) v6 x6_1) ∧ Aside0 (Below w.heap.size w w'))
 case atStart => exact ⟨(y513), (0), (by first | rfl | (simp; done) | (simp [*]; done)), H', ⟨Nat.le_refl _⟩, ⟨by (with_reducible repeat (first | apply Kd.R_alloc | apply Kd.R_drewN | apply Kd.R_drew)); exact HO512.out⟩, ⟨by (with_reducible repeat (first | apply Kd.R_alloc | apply Kd.R_drewN | apply Kd.R_drew)); exact HO515.out⟩, ⟨by repeat (first | (with_reducible first | exact HB.out | apply below_alloc | apply pw_below_drewN | apply below_drew1) | exact HB.out)⟩⟩
 case round =>
  clear H'
  try clear c1
  try clear p2
  try clear c3
  obtain ⟨x6_1, x7_1, rfl, HA, HK1, HO_5, HO_6, HB⟩ := hrel
  cases gk with
  | zero => exact absurd HA.out (by simp [spec_KnowRead.l0])
  | succ k1 =>
   have H := HA.out
   clear HA
   simp only [spec_KnowRead.l0] at H
   by_cases c7 : x7_1 < (l1.length : Int)
   ·rw [if_pos c7] at H
    have c7b0 : decide (x7_1 < (l1.length : Int)) = true := decide_eq_true c7
    clear c7
    by_cases c8 : 0 ≤ x7_1
    ·rw [if_pos c8] at H
     have c8b0 : decide (0 ≤ x7_1) = true := decide_eq_true c8
     clear c8
     replace H := Option.bind_eq_some_iff.mp H
     obtain ⟨t517, A90, H⟩ := H
     replace H : (if t517 = true then (if 0 ≤ ((rd_T41 l1 x7_1).f0) then (if ((rd_T41 l1 x7_1).f0) < (t510.length : Int) then (if rdOf false t510 ((rd_T41 l1 x7_1).f0) = true then (if x6_1.length < 2513169434916 then (spec_KnowRead.l0 k1 l1 t510 (x6_1 ++ [(⟨(rd_T41 l1 x7_1).f0, (rd_T41 l1 x7_1).f1, (rd_T41 l1 x7_1).f2, (rd_T41 l1 x7_1).f3, (rd_T41 l1 x7_1).f4, (rd_T41 l1 x7_1).f5, (rd_T41 l1 x7_1).f6⟩ : S41)]) (wrap64 (x7_1 + 1))) else (none)) else (spec_KnowRead.l0 k1 l1 t510 x6_1 (wrap64 (x7_1 + 1)))) else (none)) else (none)) else (spec_KnowRead.l0 k1 l1 t510 x6_1 (wrap64 (x7_1 + 1)))) = some r := H
     have A9 := Aside0.mk A90
     clear A90
     by_cases c10 : t517 = true
     ·subst c10
      rw [if_pos rfl] at H
      by_cases c11 : 0 ≤ ((rd_T41 l1 x7_1).f0)
      ·rw [if_pos c11] at H
       have c11b0 : decide (0 ≤ ((rd_T41 l1 x7_1).f0)) = true := decide_eq_true c11
       clear c11
       by_cases c12 : ((rd_T41 l1 x7_1).f0) < (t510.length : Int)
       ·rw [if_pos c12] at H
        have c12b0 : decide (((rd_T41 l1 x7_1).f0) < (t510.length : Int)) = true := decide_eq_true c12
        clear c12
        obtain ⟨bq13, hbq13⟩ : ∃ b_ : Bool, b_ = (rdOf false t510 ((rd_T41 l1 x7_1).f0)) := ⟨_, rfl⟩
        replace H : (if bq13 = true then (if x6_1.length < 2513169434916 then (spec_KnowRead.l0 k1 l1 t510 (x6_1 ++ [(⟨(rd_T41 l1 x7_1).f0, (rd_T41 l1 x7_1).f1, (rd_T41 l1 x7_1).f2, (rd_T41 l1 x7_1).f3, (rd_T41 l1 x7_1).f4, (rd_T41 l1 x7_1).f5, (rd_T41 l1 x7_1).f6⟩ : S41)]) (wrap64 (x7_1 + 1))) else (none)) else (spec_KnowRead.l0 k1 l1 t510 x6_1 (wrap64 (x7_1 + 1)))) = some r := by rw [← hbq13] at H; exact H
        have Nbq13 := Aside0.mk hbq13
        clear hbq13
        by_cases c14 : bq13 = true
        ·subst c14
         rw [if_pos rfl] at H
         by_cases c15 : x6_1.length < 2513169434916
         ·rw [if_pos c15] at H
          have LMc15 := Aside0.mk c15
          clear c15
          obtain ⟨y521, hy521⟩ : ∃ y_ : List (S41), y_ = (x6_1 ++ [(⟨(rd_T41 l1 x7_1).f0, (rd_T41 l1 x7_1).f1, (rd_T41 l1 x7_1).f2, (rd_T41 l1 x7_1).f3, (rd_T41 l1 x7_1).f4, (rd_T41 l1 x7_1).f5, (rd_T41 l1 x7_1).f6⟩ : S41)]) := ⟨_, rfl⟩
          replace H : (spec_KnowRead.l0 k1 l1 t510 y521 (wrap64 (x7_1 + 1))) = some r := by first | (rw [hy521]; with_reducible exact H) | (have H2_ := (Option.bind_some _ _).symm.trans H; rw [hy521]; with_reducible exact H2_) | (have H2_ := (Option.bind_some _ _).symm.trans H; with_reducible exact H2_) | with_reducible exact H | (rw [hy521]; exact H) | exact H
          have Ny521 := Aside0.mk hy521
          clear hy521
          have H' := Aside0.mk H
          clear H
          have p516 : 0 ≤ (x7_1 : Int) := of_decide_eq_true (by first | (with_reducible assumption) | assumption)
          have q516 : x7_1 < (l1.length : Int) := of_decide_eq_true (by first | (with_reducible assumption) | assumption)
          obtain ⟨ad516, e516, hx516_0, hx516_1, hx516_2, hx516_3, hx516_4, hx516_5, hx516_6⟩ := at_T41 HR1.out x7_1 p516 q516
          cases e516
          replace hx516_0 := (HB.out.cell (World.block_lt_of_cell? w _ hx516_0)).trans hx516_0
          replace hx516_1 := (HB.out.cell (World.block_lt_of_cell? w _ hx516_1)).trans hx516_1
          replace hx516_2 := (HB.out.cell (World.block_lt_of_cell? w _ hx516_2)).trans hx516_2
          replace hx516_3 := (HB.out.cell (World.block_lt_of_cell? w _ hx516_3)).trans hx516_3
          replace hx516_4 := (HB.out.cell (World.block_lt_of_cell? w _ hx516_4)).trans hx516_4
          replace hx516_5 := (HB.out.cell (World.block_lt_of_cell? w _ hx516_5)).trans hx516_5
          replace hx516_6 := (HB.out.cell (World.block_lt_of_cell? w _ hx516_6)).trans hx516_6
          replace p516 := eq_true p516
          replace q516 := eq_true q516
          go_wp2_with (first | ((with_reducible refine gate_callee (f := 90) rfl ?_); refine goesL_ (some 22) rfl rfl Try.func90 (by kernel_rfl) rfl #[.agg #[.int .i64 ((rd_T41 l1 x7_1).f0), .int .i64 ((rd_T41 l1 x7_1).f1), .int .i64 ((rd_T41 l1 x7_1).f2), .int .i64 ((rd_T41 l1 x7_1).f3), .int .i64 ((rd_T41 l1 x7_1).f4), .int .i64 ((rd_T41 l1 x7_1).f5), .int .i64 ((rd_T41 l1 x7_1).f6)]] rfl z42x0 ?_; (with_reducible refine (spec_SealOk.calls ((rd_T41 l1 x7_1).f0) ((rd_T41 l1 x7_1).f1) ((rd_T41 l1 x7_1).f2) ((rd_T41 l1 x7_1).f3) ((rd_T41 l1 x7_1).f4) ((rd_T41 l1 x7_1).f5) ((rd_T41 l1 x7_1).f6) true _ A9.out).mono ?_); rintro e w16 ⟨rfl, hb⟩; refine ⟨_, rfl, ?_⟩; have n0_ := Aside0.mk (Kd.R_below z42x2 hb); have n1_ := Aside0.mk (Kd.R_below z42x3 hb); have n2_ := Aside0.mk (below_step z42x1 hb); clear HO_5; clear HO_6; clear HB; have HO_5 := n0_; have HO_6 := n1_; have HB := n2_; clear n0_ n1_ n2_; (try clear hb); (try clear hb2); (try clear hk); (try clear hi); have p518 : 0 ≤ (x7_1 : Int) := of_decide_eq_true (by first | (with_reducible assumption) | assumption); have q518 : x7_1 < (l1.length : Int) := of_decide_eq_true (by first | (with_reducible assumption) | assumption); obtain ⟨ad518, e518, hx518_0, hx518_1, hx518_2, hx518_3, hx518_4, hx518_5, hx518_6⟩ := at_T41 HR1.out x7_1 p518 q518; obtain rfl : ad516 = ad518 := (by injection e518); replace hx518_0 := (HB.out.cell (World.block_lt_of_cell? w _ hx518_0)).trans hx518_0; replace hx518_1 := (HB.out.cell (World.block_lt_of_cell? w _ hx518_1)).trans hx518_1; replace hx518_2 := (HB.out.cell (World.block_lt_of_cell? w _ hx518_2)).trans hx518_2; replace hx518_3 := (HB.out.cell (World.block_lt_of_cell? w _ hx518_3)).trans hx518_3; replace hx518_4 := (HB.out.cell (World.block_lt_of_cell? w _ hx518_4)).trans hx518_4; replace hx518_5 := (HB.out.cell (World.block_lt_of_cell? w _ hx518_5)).trans hx518_5; replace hx518_6 := (HB.out.cell (World.block_lt_of_cell? w _ hx518_6)).trans hx518_6; replace p518 := eq_true p518; replace q518 := eq_true q518; obtain ⟨Ao17, co17, eo17⟩ := Kd.R_slice HO_5.out; subst eo17; have p519 : 0 ≤ (((rd_T41 l1 x7_1).f0) : Int) := of_decide_eq_true (by first | (with_reducible assumption) | assumption); have q519 : ((rd_T41 l1 x7_1).f0) < (t510.length : Int) := of_decide_eq_true (by first | (with_reducible assumption) | assumption); obtain ⟨ad519, e519, hx519_0⟩ := Kd.at_bool (Kd.R_reads' HO_5.out).2.2 ((rd_T41 l1 x7_1).f0) p519 q519; (try rw [← Nbq13.out] at hx519_0); cases e519; replace p519 := eq_true p519; replace q519 := eq_true q519; have p520 : 0 ≤ (x7_1 : Int) := of_decide_eq_true (by first | (with_reducible assumption) | assumption); have q520 : x7_1 < (l1.length : Int) := of_decide_eq_true (by first | (with_reducible assumption) | assumption); obtain ⟨ad520, e520, hx520_0, hx520_1, hx520_2, hx520_3, hx520_4, hx520_5, hx520_6⟩ := at_T41 HR1.out x7_1 p520 q520; obtain rfl : ad516 = ad520 := (by injection e520); replace hx520_0 := (HB.out.cell (World.block_lt_of_cell? w _ hx520_0)).trans hx520_0; replace hx520_1 := (HB.out.cell (World.block_lt_of_cell? w _ hx520_1)).trans hx520_1; replace hx520_2 := (HB.out.cell (World.block_lt_of_cell? w _ hx520_2)).trans hx520_2; replace hx520_3 := (HB.out.cell (World.block_lt_of_cell? w _ hx520_3)).trans hx520_3; replace hx520_4 := (HB.out.cell (World.block_lt_of_cell? w _ hx520_4)).trans hx520_4; replace hx520_5 := (HB.out.cell (World.block_lt_of_cell? w _ hx520_5)).trans hx520_5; replace hx520_6 := (HB.out.cell (World.block_lt_of_cell? w _ hx520_6)).trans hx520_6; replace p520 := eq_true p520; replace q520 := eq_true q520) | ((with_reducible refine gate_builtin (b := .append) (xs := #[.tmp 33, .tmp 38]) rfl ?_); at_builtin; refine Kd.R_append k41 (w0 := w) w.heap.size rfl (.tmp 33) (.tmp 38) 32 41 (.agg #[(.int .i64 0), (.int .i64 0), (.int .i64 0), (.int .i64 0), (.int .i64 0), (.int .i64 0), (.int .i64 0)]) 56 rfl Try.underlying32 info41 rfl (by decide) (by omega) u6 x6_1 (⟨(rd_T41 l1 x7_1).f0, (rd_T41 l1 x7_1).f1, (rd_T41 l1 x7_1).f2, (rd_T41 l1 x7_1).f3, (rd_T41 l1 x7_1).f4, (rd_T41 l1 x7_1).f5, (rd_T41 l1 x7_1).f6⟩ : S41) [.int .i64 ((rd_T41 l1 x7_1).f0), .int .i64 ((rd_T41 l1 x7_1).f1), .int .i64 ((rd_T41 l1 x7_1).f2), .int .i64 ((rd_T41 l1 x7_1).f3), .int .i64 ((rd_T41 l1 x7_1).f4), .int .i64 ((rd_T41 l1 x7_1).f5), .int .i64 ((rd_T41 l1 x7_1).f6)] (fun _ => True) (fun _ => False) rfl rfl ?aP (fun _ hk => hk.elim) ?aF ?aO ?aB ?aS ?aL ?_; (case aP => exact k41_mkM _ _ _ (⟨(rd_T41 l1 x7_1).f0, (rd_T41 l1 x7_1).f1, (rd_T41 l1 x7_1).f2, (rd_T41 l1 x7_1).f3, (rd_T41 l1 x7_1).f4, (rd_T41 l1 x7_1).f5, (rd_T41 l1 x7_1).f6⟩ : S41)); (case aB => exact z42x1); (case aF => exact (fun _ _ => trivial)); (case aO => exact z42x3); (case aS => exact (below_size z42x1)); (case aL => have := LMc15.out; omega); intro v522 w18 ho hb hg hat; rw [← Ny521.out] at ho; have n0_ := Aside0.mk (Kd.R_over' z42x2 (Kd.R_typed z42x3) (by decide) hg); have n1_ := Aside0.mk (hb); have n2_ := Aside0.mk (ho); clear HO_5; clear HB; clear HO_6; have HO_5 := n0_; have HB := n1_; have HO523 := n2_; clear n0_ n1_ n2_; clear ho hb hg hat))
          go_roundg k1
          case measure => have := HK1.out; omega
          case rel => exact ⟨(y521), (wrap64 (x7_1 + 1)), (by first | rfl | (simp; done) | (simp [*]; done)), H', ⟨by have := HK1.out; omega⟩, ⟨by (with_reducible repeat (first | apply Kd.R_alloc | apply Kd.R_drewN | apply Kd.R_drew)); exact HO_5.out⟩, ⟨by (with_reducible repeat (first | apply Kd.R_alloc | apply Kd.R_drewN | apply Kd.R_drew)); exact HO523.out⟩, ⟨by repeat (first | (with_reducible first | exact HB.out | apply below_alloc | apply pw_below_drewN | apply below_drew1) | exact HB.out)⟩⟩
         ·rw [if_neg c15] at H
          exact absurd H (by simp)
        ·replace c14 := Bool.eq_false_iff.mpr c14
         subst c14
         rw [if_neg (show ¬ (false = true) by decide)] at H
         have H' := Aside0.mk H
         clear H
         have p516 : 0 ≤ (x7_1 : Int) := of_decide_eq_true (by first | (with_reducible assumption) | assumption)
         have q516 : x7_1 < (l1.length : Int) := of_decide_eq_true (by first | (with_reducible assumption) | assumption)
         obtain ⟨ad516, e516, hx516_0, hx516_1, hx516_2, hx516_3, hx516_4, hx516_5, hx516_6⟩ := at_T41 HR1.out x7_1 p516 q516
         cases e516
         replace hx516_0 := (HB.out.cell (World.block_lt_of_cell? w _ hx516_0)).trans hx516_0
         replace hx516_1 := (HB.out.cell (World.block_lt_of_cell? w _ hx516_1)).trans hx516_1
         replace hx516_2 := (HB.out.cell (World.block_lt_of_cell? w _ hx516_2)).trans hx516_2
         replace hx516_3 := (HB.out.cell (World.block_lt_of_cell? w _ hx516_3)).trans hx516_3
         replace hx516_4 := (HB.out.cell (World.block_lt_of_cell? w _ hx516_4)).trans hx516_4
         replace hx516_5 := (HB.out.cell (World.block_lt_of_cell? w _ hx516_5)).trans hx516_5
         replace hx516_6 := (HB.out.cell (World.block_lt_of_cell? w _ hx516_6)).trans hx516_6
         replace p516 := eq_true p516
         replace q516 := eq_true q516
         go_wp2_with (first | ((with_reducible refine gate_callee (f := 90) rfl ?_); refine goesL_ (some 22) rfl rfl Try.func90 (by kernel_rfl) rfl #[.agg #[.int .i64 ((rd_T41 l1 x7_1).f0), .int .i64 ((rd_T41 l1 x7_1).f1), .int .i64 ((rd_T41 l1 x7_1).f2), .int .i64 ((rd_T41 l1 x7_1).f3), .int .i64 ((rd_T41 l1 x7_1).f4), .int .i64 ((rd_T41 l1 x7_1).f5), .int .i64 ((rd_T41 l1 x7_1).f6)]] rfl z42x0 ?_; (with_reducible refine (spec_SealOk.calls ((rd_T41 l1 x7_1).f0) ((rd_T41 l1 x7_1).f1) ((rd_T41 l1 x7_1).f2) ((rd_T41 l1 x7_1).f3) ((rd_T41 l1 x7_1).f4) ((rd_T41 l1 x7_1).f5) ((rd_T41 l1 x7_1).f6) true _ A9.out).mono ?_); rintro e w19 ⟨rfl, hb⟩; refine ⟨_, rfl, ?_⟩; have n0_ := Aside0.mk (Kd.R_below z42x2 hb); have n1_ := Aside0.mk (Kd.R_below z42x3 hb); have n2_ := Aside0.mk (below_step z42x1 hb); clear HO_5; clear HO_6; clear HB; have HO_5 := n0_; have HO_6 := n1_; have HB := n2_; clear n0_ n1_ n2_; (try clear hb); (try clear hb2); (try clear hk); (try clear hi); have p518 : 0 ≤ (x7_1 : Int) := of_decide_eq_true (by first | (with_reducible assumption) | assumption); have q518 : x7_1 < (l1.length : Int) := of_decide_eq_true (by first | (with_reducible assumption) | assumption); obtain ⟨ad518, e518, hx518_0, hx518_1, hx518_2, hx518_3, hx518_4, hx518_5, hx518_6⟩ := at_T41 HR1.out x7_1 p518 q518; obtain rfl : ad516 = ad518 := (by injection e518); replace hx518_0 := (HB.out.cell (World.block_lt_of_cell? w _ hx518_0)).trans hx518_0; replace hx518_1 := (HB.out.cell (World.block_lt_of_cell? w _ hx518_1)).trans hx518_1; replace hx518_2 := (HB.out.cell (World.block_lt_of_cell? w _ hx518_2)).trans hx518_2; replace hx518_3 := (HB.out.cell (World.block_lt_of_cell? w _ hx518_3)).trans hx518_3; replace hx518_4 := (HB.out.cell (World.block_lt_of_cell? w _ hx518_4)).trans hx518_4; replace hx518_5 := (HB.out.cell (World.block_lt_of_cell? w _ hx518_5)).trans hx518_5; replace hx518_6 := (HB.out.cell (World.block_lt_of_cell? w _ hx518_6)).trans hx518_6; replace p518 := eq_true p518; replace q518 := eq_true q518; obtain ⟨Ao20, co20, eo20⟩ := Kd.R_slice HO_5.out; subst eo20; have p519 : 0 ≤ (((rd_T41 l1 x7_1).f0) : Int) := of_decide_eq_true (by first | (with_reducible assumption) | assumption); have q519 : ((rd_T41 l1 x7_1).f0) < (t510.length : Int) := of_decide_eq_true (by first | (with_reducible assumption) | assumption); obtain ⟨ad519, e519, hx519_0⟩ := Kd.at_bool (Kd.R_reads' HO_5.out).2.2 ((rd_T41 l1 x7_1).f0) p519 q519; (try rw [← Nbq13.out] at hx519_0); cases e519; replace p519 := eq_true p519; replace q519 := eq_true q519))
         go_roundg k1
         case measure => have := HK1.out; omega
         case rel => exact ⟨(x6_1), (wrap64 (x7_1 + 1)), (by first | rfl | (simp; done) | (simp [*]; done)), H', ⟨by have := HK1.out; omega⟩, ⟨by (with_reducible repeat (first | apply Kd.R_alloc | apply Kd.R_drewN | apply Kd.R_drew)); exact HO_5.out⟩, ⟨by (with_reducible repeat (first | apply Kd.R_alloc | apply Kd.R_drewN | apply Kd.R_drew)); exact HO_6.out⟩, ⟨by repeat (first | (with_reducible first | exact HB.out | apply below_alloc | apply pw_below_drewN | apply below_drew1) | exact HB.out)⟩⟩
       ·rw [if_neg c12] at H
        exact absurd H (by simp)
      ·rw [if_neg c11] at H
       exact absurd H (by simp)
     ·replace c10 := Bool.eq_false_iff.mpr c10
      subst c10
      rw [if_neg (show ¬ (false = true) by decide)] at H
      have H' := Aside0.mk H
      clear H
      have p516 : 0 ≤ (x7_1 : Int) := of_decide_eq_true (by first | (with_reducible assumption) | assumption)
      have q516 : x7_1 < (l1.length : Int) := of_decide_eq_true (by first | (with_reducible assumption) | assumption)
      obtain ⟨ad516, e516, hx516_0, hx516_1, hx516_2, hx516_3, hx516_4, hx516_5, hx516_6⟩ := at_T41 HR1.out x7_1 p516 q516
      cases e516
      replace hx516_0 := (HB.out.cell (World.block_lt_of_cell? w _ hx516_0)).trans hx516_0
      replace hx516_1 := (HB.out.cell (World.block_lt_of_cell? w _ hx516_1)).trans hx516_1
      replace hx516_2 := (HB.out.cell (World.block_lt_of_cell? w _ hx516_2)).trans hx516_2
      replace hx516_3 := (HB.out.cell (World.block_lt_of_cell? w _ hx516_3)).trans hx516_3
      replace hx516_4 := (HB.out.cell (World.block_lt_of_cell? w _ hx516_4)).trans hx516_4
      replace hx516_5 := (HB.out.cell (World.block_lt_of_cell? w _ hx516_5)).trans hx516_5
      replace hx516_6 := (HB.out.cell (World.block_lt_of_cell? w _ hx516_6)).trans hx516_6
      replace p516 := eq_true p516
      replace q516 := eq_true q516
      go_wp2_with (first | ((with_reducible refine gate_callee (f := 90) rfl ?_); refine goesL_ (some 22) rfl rfl Try.func90 (by kernel_rfl) rfl #[.agg #[.int .i64 ((rd_T41 l1 x7_1).f0), .int .i64 ((rd_T41 l1 x7_1).f1), .int .i64 ((rd_T41 l1 x7_1).f2), .int .i64 ((rd_T41 l1 x7_1).f3), .int .i64 ((rd_T41 l1 x7_1).f4), .int .i64 ((rd_T41 l1 x7_1).f5), .int .i64 ((rd_T41 l1 x7_1).f6)]] rfl z42x0 ?_; (with_reducible refine (spec_SealOk.calls ((rd_T41 l1 x7_1).f0) ((rd_T41 l1 x7_1).f1) ((rd_T41 l1 x7_1).f2) ((rd_T41 l1 x7_1).f3) ((rd_T41 l1 x7_1).f4) ((rd_T41 l1 x7_1).f5) ((rd_T41 l1 x7_1).f6) false _ A9.out).mono ?_); rintro e w21 ⟨rfl, hb⟩; refine ⟨_, rfl, ?_⟩; have n0_ := Aside0.mk (Kd.R_below z42x2 hb); have n1_ := Aside0.mk (Kd.R_below z42x3 hb); have n2_ := Aside0.mk (below_step z42x1 hb); clear HO_5; clear HO_6; clear HB; have HO_5 := n0_; have HO_6 := n1_; have HB := n2_; clear n0_ n1_ n2_; (try clear hb); (try clear hb2); (try clear hk); (try clear hi)))
      go_roundg k1
      case measure => have := HK1.out; omega
      case rel => exact ⟨(x6_1), (wrap64 (x7_1 + 1)), (by first | rfl | (simp; done) | (simp [*]; done)), H', ⟨by have := HK1.out; omega⟩, ⟨by (with_reducible repeat (first | apply Kd.R_alloc | apply Kd.R_drewN | apply Kd.R_drew)); exact HO_5.out⟩, ⟨by (with_reducible repeat (first | apply Kd.R_alloc | apply Kd.R_drewN | apply Kd.R_drew)); exact HO_6.out⟩, ⟨by repeat (first | (with_reducible first | exact HB.out | apply below_alloc | apply pw_below_drewN | apply below_drew1) | exact HB.out)⟩⟩
    ·rw [if_neg c8] at H
     exact absurd H (by simp)
   ·rw [if_neg c7] at H
    have c7b0 : decide (x7_1 < (l1.length : Int)) = false := decide_eq_false c7
    clear c7
    obtain rfl := Option.some.inj H
    go_wp2
    go_ret
    exact ⟨_, by first | rfl | (simp [errW_none, errW_some] <;> rfl) | (simp [*, errW_none, errW_some] <;> rfl), by (with_reducible repeat (first | apply Kd.R_alloc | apply Kd.R_drewN | apply Kd.R_drew)); exact HO_6.out, by repeat (first | (with_reducible first | exact HB.out | apply below_alloc | apply pw_below_drewN | apply below_drew1) | exact HB.out)⟩

end Go.Proofs.Ytbipicjijbnbbaa.Hp
