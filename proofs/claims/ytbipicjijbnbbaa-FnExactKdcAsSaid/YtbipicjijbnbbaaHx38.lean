-- hp.py
import Derived.Test.YtbipicjijbnbbaaHx0
import Derived.Test.YtbipicjijbnbbaaHx2
import Derived.Test.YtbipicjijbnbbaaHx14
import Derived.Test.YtbipicjijbnbbaaHx17
import Derived.Test.YtbipicjijbnbbaaHx29
import Derived.Test.YtbipicjijbnbbaaHx32
import Derived.Test.YtbipicjijbnbbaaHx33
import Derived.Test.YtbipicjijbnbbaaHx34
import Derived.Test.YtbipicjijbnbbaaHx35
import Derived.Test.YtbipicjijbnbbaaHx37
import Derived.Deep.Cut
namespace Go.Proofs.Ytbipicjijbnbbaa.Hp
open Go.RowKit Go.Proofs.YtbipicjijbnbbaaW.PrintWords Go.Proofs.YtbipicjijbnbbaaW.PrintLast Go.Proofs.YtbipicjijbnbbaaW.PrintMore
attribute [local go_sem] max2_int min2_int max_two min_two max_three min_three max_four min_four   -- for this text's walks alone
set_option linter.unusedVariables false
set_option linter.unusedSimpArgs false
-- squeezed by wip/tools/squeeze.py
theorem z38x16 {P : Prop} (h : P := by first | rfl | ((try simp only [List.map_toArray, List.map_cons, List.map_nil]); first | done | rfl)) : P := h
theorem z38x15 {P : Prop} (h : P := by (with_reducible repeat (first | refine blk_drewN ?_ _ | refine blk_drew ?_ | refine blk_alloc ?_ _)); exact HK4.out) : P := h
theorem z38x14 {P : Prop} (h : P := by (with_reducible repeat (first | refine blk_drewN ?_ _ | refine blk_drew ?_ | refine blk_alloc ?_ _)); exact HK3.out) : P := h
theorem z38x13 {P : Prop} (h : P := by (with_reducible repeat (first | refine blk_drewN ?_ _ | refine blk_drew ?_ | refine blk_alloc ?_ _)); exact HK14.out) : P := h
theorem z38x12 {P : Prop} (h : P := by (with_reducible repeat (first | refine blk_drewN ?_ _ | refine blk_drew ?_ | refine blk_alloc ?_ _)); exact HK13.out) : P := h
theorem z38x11 {P : Prop} (h : P := by (with_reducible repeat (first | refine blk_drewN ?_ _ | refine blk_drew ?_ | refine blk_alloc ?_ _)); exact HK12.out) : P := h
theorem z38x10 {P : Prop} (h : P := by (with_reducible repeat (first | refine blk_drewN ?_ _ | refine blk_drew ?_ | refine blk_alloc ?_ _)); exact HK11.out) : P := h
theorem z38x9 {P : Prop} (h : P := by repeat (first | (with_reducible first | exact HP.out | apply below_alloc | apply pw_below_drewN | apply below_drew1) | exact HP.out)) : P := h
theorem z38x8 {P : Prop} (h : P := by repeat (first | (with_reducible first | exact HB.out | apply below_alloc | apply pw_below_drewN | apply below_drew1) | exact HB.out)) : P := h
theorem z38x7 {P : Prop} (h : P := by repeat (first | (with_reducible first | exact HB8.out | apply below_alloc | apply pw_below_drewN | apply below_drew1) | exact HB8.out)) : P := h
theorem z38x6 {P : Prop} (h : P := by repeat (first | (with_reducible first | exact HB32.out | apply below_alloc | apply pw_below_drewN | apply below_drew1) | exact HB32.out)) : P := h
theorem z38x5 {P : Prop} (h : P := by repeat (first | (with_reducible first | exact HB28.out | apply below_alloc | apply pw_below_drewN | apply below_drew1) | exact HB28.out)) : P := h
theorem z38x4 {P : Prop} (h : P := by repeat (first | (with_reducible first | exact HB16.out | apply below_alloc | apply pw_below_drewN | apply below_drew1) | exact HB16.out)) : P := h
theorem z38x3 {P : Prop} (h : P := by repeat (first | (with_reducible first | exact HB13.out | apply below_alloc | apply pw_below_drewN | apply below_drew1) | exact HB13.out)) : P := h
theorem z38x2 {P : Prop} (h : P := by repeat (first | (with_reducible first | exact HB10.out | apply below_alloc | apply pw_below_drewN | apply below_drew1) | exact HB10.out)) : P := h
theorem z38x1 {P : Prop} (h : P := by repeat (first | (with_reducible first | exact Below.refl _ _ | apply below_alloc | apply pw_below_drewN | apply below_drew1) | exact Below.refl _ _)) : P := h
theorem z38x0 {P : Prop} (h : P := by first | (simp only [putAll, Act.put, List.setIfInBounds_toArray, List.set_cons_zero, List.set_cons_succ]; done) | (simp only [putAll, Act.put, List.setIfInBounds_toArray, List.set_cons_zero, List.set_cons_succ]; rfl)) : P := h

/-! ### laws_FnExactKdcAs: function 10 -/
-- IMPORT Derived.Deep.Cut
set_option maxHeartbeats 16000000 in
set_option maxRecDepth 100000 in
theorem markKdcClip.calls (k : Nat) (a0_0 : Int) (A : Option Addr) (c c2 : Nat) (l : List S41) (a1 r1 : Int) (r2 : List S41) (w0 w : World) (hB : Below w0.heap.size w0 w) (ho : Kd.R k41 41 w w0.heap.size (fun k_ => some k_ = (.slice A l.length c : Value).ownBlock) (.slice A l.length c) l) (h : laws_markKdc.f k a0_0 l a1 = some (r1, r2)) (M : ∀ W, Below w0.heap.size w0 W → Kd.R k41 41 W w0.heap.size (fun k_ => some k_ = (.slice A l.length c : Value).ownBlock) (.slice A l.length c) l → Calls Try.prog 31 #[.slice A l.length c2, .int .i64 a1] W fun e w' => e = .returned (.int .i64 r1) ∧ Kd.R k41 41 w' w0.heap.size (fun _ => True) (.slice A l.length c) r2 ∧ Below w0.heap.size w0 w' ∧ Kept W w' (fun k_ => some k_ = (.slice A l.length c : Value).ownBlock)) :
    Calls Try.prog 59 #[.agg #[.int .i64 a0_0, .slice A l.length c2], .int .i64 a1] w fun e w' => e = .returned (.int .i64 r1) ∧ Kd.R k41 41 w' w0.heap.size (fun _ => True) (.slice A l.length c) r2 ∧ Below w0.heap.size w0 w' ∧ Kept w w' (fun k_ => some k_ = (.slice A l.length c : Value).ownBlock) := by
  have HO := Aside0.mk ho
  have HB := Aside0.mk hB
  have HM := Aside0.mk M
  clear ho hB M h
  go_enter Try.func59, Try.ntmps59
  go_wp2_with (first | ((with_reducible refine gate_dst (N := 2) rfl ?_); refine box_event ?hg (N := 2) ?hd (cs := #[.int .i64 a0_0, .slice A l.length c2]) (t := 64) ?hr ?_; (case hd => rfl); (case hg => rfl); (case hr => first | (go_simp; done) | (go_simp; rfl)); intro g hg_ w1 hbox_ hb_; have HK1 := Aside0.mk hbox_; have HP := Aside0.mk (below_step (by repeat (first | (with_reducible first | exact Below.refl w.heap.size w | apply below_alloc | apply pw_below_drewN | apply below_drew1) | exact Below.refl w.heap.size w)) hb_); have hc0 : w1.cell? ⟨g, 0, none⟩ = some (.int .i64 a0_0) := (blk_cell HK1.out 0).trans rfl; have hc1 : w1.cell? ⟨g, 1, none⟩ = some (.slice A l.length c2) := (blk_cell HK1.out 1).trans rfl; have hf0 := blk_frozen HK1.out 0; have hf1 := blk_frozen HK1.out 1; clear hb_ hbox_ hg_) | (go_at_call 31; refine (HM.out _ (below_step HB.out z38x9) (Kd.R_below HO.out z38x9)).mono ?_; rintro e w2 ⟨rfl, ho_, hb_, hk_⟩; have HO2 := Aside0.mk ho_; have HB2 := Aside0.mk hb_; have HK2 := Aside0.mk (Kept.then_ (Kept.of_below z38x9 (fun k_ => some k_ = (.slice A l.length c : Value).ownBlock)) hk_ (fun _ q => .inl q)); clear ho_ hb_ hk_))
  go_ret
  exact ⟨rfl, Kd.R_mono HO2.out (fun _ q => q), HB2.out, HK2.out⟩
theorem heldKdcAt (k : Nat) (a : Int) (A : Option Addr) (n c : Nat) (l : List S41) (a1 r : Int) (w : World) (e : n = l.length) (hr : Kd.C k41 w A l.length l) (hc : l.length ≤ c) (h : laws_heldKdc.f k a l a1 = some r) : Calls Try.prog 61 #[.agg #[.int .i64 a, .slice A n c], .int .i64 a1] w fun e w' => e = .returned (.int .i64 r) ∧ Below w.heap.size w w' := by
  subst e
  exact laws_heldKdc.calls k a A c l a1 r w hr hc h
theorem heldMsgAt (k : Nat) (b0 b1 b2 b3 : Int) (A : Option Addr) (n c : Nat) (l : List S41) (a1 r : Int) (w : World) (e : n = l.length) (hr : Kd.C k41 w A l.length l) (hc : l.length ≤ c) (h : laws_heldMsg.f k b0 b1 b2 b3 l a1 = some r) : Calls Try.prog 62 #[.agg #[.int .i64 b0, .int .i64 b1, .int .i64 b2, .int .i64 b3, .slice A n c], .int .i64 a1] w fun e w' => e = .returned (.int .i64 r) ∧ Below w.heap.size w w' := by
  subst e
  exact laws_heldMsg.calls k b0 b1 b2 b3 A c l a1 r w hr hc h
def kdcT : Bool × List (List Nat × List Nat) := (true, [([], []), ([0], [0]), ([], []), ([2, 1], [2]), ([], []), ([1, 3, 4, 3], [1, 3, 4]), ([5], [5]), ([6], [6]), ([6], [6]), ([6], [6]), ([], []), ([], []), ([10, 7, 5, 0, 1, 2, 3, 4, 5, 6, 7, 10, 11], [7, 10]), ([11, 8, 12, 0, 1, 2, 3, 4, 5, 6, 7, 8, 10, 11, 12], [8, 11]), ([9, 13, 0, 1, 2, 3, 4, 5, 6, 7, 8, 9, 10, 11, 12, 13], [9])])
def kdcB : List Nat := [0, 1, 0, 7, 0, 31, 63, 127, 127, 127, 0, 0, 3327, 7679, 16383]
theorem kdcTab8 : rtab .any (opsOf Try.f10 8) = kdcT := by kernel_rfl
theorem kdcTab35 : rtab .any (opsOf Try.f10 35) = kdcT := by kernel_rfl
theorem kdcBits : waitsOk kdcT.2 kdcB = true := by kernel_rfl
set_option maxHeartbeats 16000000 in
set_option maxRecDepth 100000 in
theorem kdcLawA (a0_0 : Int) (A0 : Option Addr) (c0 : Nat) (l0 : List S58) (a1_0 a1_1 a1_2 a1_3 : Int) (A1 : Option Addr) (c1 : Nat) (l1 : List S58) (a2 : Int) (s1 : Int) (w : World) (hr0 : Kd.C k58 w A0 l0.length l0) (hc0 : l0.length ≤ c0) (hr1 : Kd.C k58 w A1 l1.length l1) (hc1 : l1.length ≤ c1) (hz1 : laws_szKdc.f a0_0 l0 1048576 = some s1) (d0 : s1 < 0) :
    Calls Try.prog 10 #[.agg #[.int .i64 a0_0, .slice A0 l0.length c0], .agg #[.int .i64 a1_0, .int .i64 a1_1, .int .i64 a1_2, .int .i64 a1_3, .slice A1 l1.length c1], .int .i64 a2] w fun e w' => e = .returned (.bool true) ∧ Below w.heap.size w w' := by
  have HR0 := Aside0.mk hr0
  have HR1 := Aside0.mk hr1
  have HL0 := Aside0.mk hc0
  have HL1 := Aside0.mk hc1
  have HB := Aside0.mk (Below.refl w.heap.size w)
  clear hr0 hr1 hc0 hc1
  have HZ1 := Aside0.mk hz1
  have d0b : decide (s1 < 0) = true := decide_eq_true d0
  clear hz1 d0
  go_enter Try.func10, Try.ntmps10
  go_wp2_with (first | ((with_reducible refine gate_dst (N := 3) rfl ?_); refine box_event ?hg (N := 3) ?hd (cs := #[.int .i64 a0_0, .slice A0 l0.length c0]) (t := 85) ?hr ?_; (case hd => rfl); (case hg => rfl); (case hr => first | (go_simp; done) | (go_simp; rfl)); intro g3 hg_ w1 hbox_ hb_; have HK3 := Aside0.mk hbox_; have mm_ := Aside0.mk (below_step z38x8 hb_); clear HB; have HB := mm_; clear mm_; clear hb_ hbox_ hg_) | ((with_reducible refine gate_dst (N := 4) rfl ?_); refine box_event ?hg (N := 4) ?hd (cs := #[.int .i64 a1_0, .int .i64 a1_1, .int .i64 a1_2, .int .i64 a1_3, .slice A1 l1.length c1]) (t := 87) ?hr ?_; (case hd => rfl); (case hg => rfl); (case hr => first | (go_simp; done) | (go_simp; rfl)); intro g4 hg_ w2 hbox_ hb_; have HK4 := Aside0.mk hbox_; have mm0_ := Aside0.mk (below_step z38x8 hb_); have mm1_ := Aside0.mk (blkB0 hb_ z38x14); clear HB; have HB := mm0_; clear mm0_; clear HK3; have HK3 := mm1_; clear mm1_; have hc0 : w2.cell? ⟨g3, 0, none⟩ = some (.int .i64 a0_0) := (blk_cell HK3.out 0).trans rfl; have hc1 : w2.cell? ⟨g3, 1, none⟩ = some (.slice A0 l0.length c0) := (blk_cell HK3.out 1).trans rfl; clear hb_ hbox_ hg_) | (go_at_call 51; refine (laws_szKdc.calls a0_0 A0 c0 l0 1048576 s1 _ (Kd.C_below HR0.out z38x8) HL0.out HZ1.out).mono ?_; rintro e w3 ⟨rfl, hb_⟩; have mm0_ := Aside0.mk (below_step z38x8 hb_); have mm1_ := Aside0.mk (blkB0 hb_ z38x14); have mm2_ := Aside0.mk (blkB0 hb_ z38x15); clear HB; have HB := mm0_; clear mm0_; clear HK3; have HK3 := mm1_; clear mm1_; clear HK4; have HK4 := mm2_; clear mm2_; clear hc0 hc1 hb_; have hc0 : w3.cell? ⟨g4, 0, none⟩ = some (.int .i64 a1_0) := (blk_cell HK4.out 0).trans rfl; have hc1 : w3.cell? ⟨g4, 1, none⟩ = some (.int .i64 a1_1) := (blk_cell HK4.out 1).trans rfl; have hc2 : w3.cell? ⟨g4, 2, none⟩ = some (.int .i64 a1_2) := (blk_cell HK4.out 2).trans rfl; have hc3 : w3.cell? ⟨g4, 3, none⟩ = some (.int .i64 a1_3) := (blk_cell HK4.out 3).trans rfl; have hc4 : w3.cell? ⟨g4, 4, none⟩ = some (.slice A1 l1.length c1) := (blk_cell HK4.out 4).trans rfl))
  go_ret
  exact ⟨rfl, z38x8⟩
set_option maxHeartbeats 16000000 in
set_option maxRecDepth 100000 in
theorem kdcLawB (a0_0 : Int) (A0 : Option Addr) (c0 : Nat) (l0 : List S58) (a1_0 a1_1 a1_2 a1_3 : Int) (A1 : Option Addr) (c1 : Nat) (l1 : List S58) (a2 : Int) (s1 s2 : Int) (w : World) (hr0 : Kd.C k58 w A0 l0.length l0) (hc0 : l0.length ≤ c0) (hr1 : Kd.C k58 w A1 l1.length l1) (hc1 : l1.length ≤ c1) (hz1 : laws_szKdc.f a0_0 l0 1048576 = some s1) (hz2 : laws_szMsg.f a1_0 a1_1 a1_2 a1_3 l1 s1 = some s2) (d0 : ¬ s1 < 0) (d1 : s2 < 0) :
    Calls Try.prog 10 #[.agg #[.int .i64 a0_0, .slice A0 l0.length c0], .agg #[.int .i64 a1_0, .int .i64 a1_1, .int .i64 a1_2, .int .i64 a1_3, .slice A1 l1.length c1], .int .i64 a2] w fun e w' => e = .returned (.bool true) ∧ Below w.heap.size w w' := by
  have HR0 := Aside0.mk hr0
  have HR1 := Aside0.mk hr1
  have HL0 := Aside0.mk hc0
  have HL1 := Aside0.mk hc1
  have HB := Aside0.mk (Below.refl w.heap.size w)
  clear hr0 hr1 hc0 hc1
  have HZ1 := Aside0.mk hz1
  have HZ2 := Aside0.mk hz2
  have d0b : decide (s1 < 0) = false := decide_eq_false d0
  have d1b : decide (s2 < 0) = true := decide_eq_true d1
  clear hz1 hz2 d0 d1
  go_enter Try.func10, Try.ntmps10
  go_wp2_with (first | ((with_reducible refine gate_dst (N := 3) rfl ?_); refine box_event ?hg (N := 3) ?hd (cs := #[.int .i64 a0_0, .slice A0 l0.length c0]) (t := 85) ?hr ?_; (case hd => rfl); (case hg => rfl); (case hr => first | (go_simp; done) | (go_simp; rfl)); intro g3 hg_ w1 hbox_ hb_; have HK3 := Aside0.mk hbox_; have mm_ := Aside0.mk (below_step z38x8 hb_); clear HB; have HB := mm_; clear mm_; clear hb_ hbox_ hg_) | ((with_reducible refine gate_dst (N := 4) rfl ?_); refine box_event ?hg (N := 4) ?hd (cs := #[.int .i64 a1_0, .int .i64 a1_1, .int .i64 a1_2, .int .i64 a1_3, .slice A1 l1.length c1]) (t := 87) ?hr ?_; (case hd => rfl); (case hg => rfl); (case hr => first | (go_simp; done) | (go_simp; rfl)); intro g4 hg_ w2 hbox_ hb_; have HK4 := Aside0.mk hbox_; have mm0_ := Aside0.mk (below_step z38x8 hb_); have mm1_ := Aside0.mk (blkB0 hb_ z38x14); clear HB; have HB := mm0_; clear mm0_; clear HK3; have HK3 := mm1_; clear mm1_; have hc0 : w2.cell? ⟨g3, 0, none⟩ = some (.int .i64 a0_0) := (blk_cell HK3.out 0).trans rfl; have hc1 : w2.cell? ⟨g3, 1, none⟩ = some (.slice A0 l0.length c0) := (blk_cell HK3.out 1).trans rfl; clear hb_ hbox_ hg_) | (go_at_call 51; refine (laws_szKdc.calls a0_0 A0 c0 l0 1048576 s1 _ (Kd.C_below HR0.out z38x8) HL0.out HZ1.out).mono ?_; rintro e w3 ⟨rfl, hb_⟩; have mm0_ := Aside0.mk (below_step z38x8 hb_); have mm1_ := Aside0.mk (blkB0 hb_ z38x14); have mm2_ := Aside0.mk (blkB0 hb_ z38x15); clear HB; have HB := mm0_; clear mm0_; clear HK3; have HK3 := mm1_; clear mm1_; clear HK4; have HK4 := mm2_; clear mm2_; clear hc0 hc1 hb_; have hc0 : w3.cell? ⟨g4, 0, none⟩ = some (.int .i64 a1_0) := (blk_cell HK4.out 0).trans rfl; have hc1 : w3.cell? ⟨g4, 1, none⟩ = some (.int .i64 a1_1) := (blk_cell HK4.out 1).trans rfl; have hc2 : w3.cell? ⟨g4, 2, none⟩ = some (.int .i64 a1_2) := (blk_cell HK4.out 2).trans rfl; have hc3 : w3.cell? ⟨g4, 3, none⟩ = some (.int .i64 a1_3) := (blk_cell HK4.out 3).trans rfl; have hc4 : w3.cell? ⟨g4, 4, none⟩ = some (.slice A1 l1.length c1) := (blk_cell HK4.out 4).trans rfl) | (go_at_call 52; refine (laws_szMsg.calls a1_0 a1_1 a1_2 a1_3 A1 c1 l1 s1 s2 _ (Kd.C_below HR1.out z38x8) HL1.out HZ2.out).mono ?_; rintro e w4 ⟨rfl, hb_⟩; have mm0_ := Aside0.mk (below_step z38x8 hb_); have mm1_ := Aside0.mk (blkB0 hb_ z38x14); have mm2_ := Aside0.mk (blkB0 hb_ z38x15); clear HB; have HB := mm0_; clear mm0_; clear HK3; have HK3 := mm1_; clear mm1_; clear HK4; have HK4 := mm2_; clear mm2_; clear hc0 hc1 hc2 hc3 hc4 hb_))
  go_ret
  exact ⟨rfl, z38x8⟩
theorem zm0 {P : Prop} (h : P := by repeat (first | (with_reducible first | exact HK.out | apply Kept.alloc | apply Kept.drewN | apply Kept.drew) | exact HK.out)) : P := h
theorem zm1 {P : Prop} (h : P := by (with_reducible repeat (first | apply Kd.R_alloc | apply Kd.R_drewN | apply Kd.R_drew)); exact HO_0.out) : P := h
set_option maxHeartbeats 16000000 in
set_option maxRecDepth 100000 in
theorem markSealSClip (k : Nat) (P0_ : Nat → Prop) (u9000_ : Value) (uc_ : Value) (hcl : ∀ A n c, u9000_ = .slice A n c → ∃ c2, uc_ = .slice A n c2) (l0 : List (S41)) (a1 : Int) (r1 : Int) (r2 : List (S41)) (w0 w : World) (hB : Below w0.heap.size w0 w) (ho0 : Kd.R k41 41 w w0.heap.size P0_ u9000_ l0) (h : laws_markSealS.f k l0 a1 = some (r1, r2)) :
  Calls Try.prog 31 #[uc_, .int .i64 a1] w fun e w' => e = .returned (.int .i64 r1) ∧ Kd.R k41 41 w' w0.heap.size (fun k_ => (P0_ k_ ∨ w.heap.size ≤ k_)) u9000_ r2 ∧ Below w0.heap.size w0 w' ∧ Kept w w' (fun k_ => P0_ k_) := by
 have HO0 := Aside0.mk (show Kd.R k41 41 w w0.heap.size (fun k_ => (P0_ k_ ∨ w.heap.size ≤ k_)) u9000_ l0 from Kd.R_mono ho0 (fun k_ hk => (.inl hk)))
 have HK := Aside0.mk (Kept.refl w (fun k_ => P0_ k_))
 have HW0 := Aside0.mk hB.size
 have HB := Aside0.mk hB
 clear hB
 have H : (laws_markSealS.l0 k l0 a1 0) = some (r1, r2) := h
 clear h
 have H' := Aside0.mk H
 clear H
 go_enter Try.func31, Try.ntmps31
 go_wp2
 go_loopg [1, 5] k (fun kq v1 v5 w' => ∃ (x0_1 : List (S41)) (x1_1 : Int) (x5_1 : Int), v1 = .int .i64 x1_1 ∧ v5 = .int .i64 x5_1 ∧ Aside0 (laws_markSealS.l0 kq x0_1 x1_1 x5_1 = some (r1, r2)) ∧ Aside0 (kq ≤ k) ∧ Aside0 (Kd.R k41 41 w' w0.heap.size (fun k_ => (P0_ k_ ∨ w.heap.size ≤ k_)) u9000_ x0_1) ∧ Aside0 (Kept w w' (fun k_ => P0_ k_)) ∧ Aside0 (Below w0.heap.size w0 w'))
 case atStart => exact ⟨(l0), (a1), (0), (by first | rfl | (simp; done) | (simp [*]; done)), (by first | rfl | (simp; done) | (simp [*]; done)), H', ⟨Nat.le_refl _⟩, ⟨by (with_reducible repeat (first | apply Kd.R_alloc | apply Kd.R_drewN | apply Kd.R_drew)); exact HO0.out⟩, ⟨by repeat (first | (with_reducible first | exact HK.out | apply Kept.alloc | apply Kept.drewN | apply Kept.drew) | exact HK.out)⟩, ⟨by repeat (first | (with_reducible first | exact HB.out | apply below_alloc | apply pw_below_drewN | apply below_drew1) | exact HB.out)⟩⟩
 case round =>
  clear H'
  try clear p2
  obtain ⟨x0_1, x1_1, x5_1, rfl, rfl, HA, HK1, HO_0, HK, HB⟩ := hrel
  cases gk with
  | zero => exact absurd HA.out (by simp [laws_markSealS.l0])
  | succ k1 =>
   have H := HA.out
   clear HA
   simp only [laws_markSealS.l0] at H
   by_cases c3 : x5_1 < (x0_1.length : Int)
   ·rw [if_pos c3] at H
    have c3b0 : decide (x5_1 < (x0_1.length : Int)) = true := decide_eq_true c3
    clear c3
    by_cases c4 : 0 ≤ x5_1
    ·rw [if_pos c4] at H
     have c4b0 : decide (0 ≤ x5_1) = true := decide_eq_true c4
     clear c4
     obtain ⟨y255, hy255⟩ : ∃ y_ : List (S41), y_ = (x0_1.set (x5_1 : Int).toNat (⟨x1_1, (rd_T41 x0_1 x5_1).f1, (rd_T41 x0_1 x5_1).f2, (rd_T41 x0_1 x5_1).f3, (rd_T41 x0_1 x5_1).f4, (rd_T41 x0_1 x5_1).f5, (rd_T41 x0_1 x5_1).f6⟩ : S41)) := ⟨_, rfl⟩
     replace H : ((some (y255.set (x5_1 : Int).toNat (⟨(rd_T41 y255 x5_1).f0, wrap64 (x1_1 + 1), (rd_T41 y255 x5_1).f2, (rd_T41 y255 x5_1).f3, (rd_T41 y255 x5_1).f4, (rd_T41 y255 x5_1).f5, (rd_T41 y255 x5_1).f6⟩ : S41) : List (S41))).bind fun y256 => ((some (y256.set (x5_1 : Int).toNat (⟨(rd_T41 y256 x5_1).f0, (rd_T41 y256 x5_1).f1, wrap64 ((wrap64 (x1_1 + 1)) + 1), (rd_T41 y256 x5_1).f3, (rd_T41 y256 x5_1).f4, (rd_T41 y256 x5_1).f5, (rd_T41 y256 x5_1).f6⟩ : S41) : List (S41))).bind fun y257 => ((some (y257.set (x5_1 : Int).toNat (⟨(rd_T41 y257 x5_1).f0, (rd_T41 y257 x5_1).f1, (rd_T41 y257 x5_1).f2, wrap64 ((wrap64 ((wrap64 (x1_1 + 1)) + 1)) + 1), (rd_T41 y257 x5_1).f4, (rd_T41 y257 x5_1).f5, (rd_T41 y257 x5_1).f6⟩ : S41) : List (S41))).bind fun y258 => ((some (y258.set (x5_1 : Int).toNat (⟨(rd_T41 y258 x5_1).f0, (rd_T41 y258 x5_1).f1, (rd_T41 y258 x5_1).f2, (rd_T41 y258 x5_1).f3, wrap64 ((wrap64 ((wrap64 ((wrap64 (x1_1 + 1)) + 1)) + 1)) + 1), (rd_T41 y258 x5_1).f5, (rd_T41 y258 x5_1).f6⟩ : S41) : List (S41))).bind fun y259 => ((some (y259.set (x5_1 : Int).toNat (⟨(rd_T41 y259 x5_1).f0, (rd_T41 y259 x5_1).f1, (rd_T41 y259 x5_1).f2, (rd_T41 y259 x5_1).f3, (rd_T41 y259 x5_1).f4, wrap64 ((wrap64 ((wrap64 ((wrap64 ((wrap64 (x1_1 + 1)) + 1)) + 1)) + 1)) + 1), (rd_T41 y259 x5_1).f6⟩ : S41) : List (S41))).bind fun y260 => (laws_markSealS.l0 k1 (y260.set (x5_1 : Int).toNat (⟨(rd_T41 y260 x5_1).f0, (rd_T41 y260 x5_1).f1, (rd_T41 y260 x5_1).f2, (rd_T41 y260 x5_1).f3, (rd_T41 y260 x5_1).f4, (rd_T41 y260 x5_1).f5, wrap64 ((wrap64 ((wrap64 ((wrap64 ((wrap64 ((wrap64 (x1_1 + 1)) + 1)) + 1)) + 1)) + 1)) + 1)⟩ : S41)) (wrap64 ((wrap64 ((wrap64 ((wrap64 ((wrap64 ((wrap64 ((wrap64 (x1_1 + 1)) + 1)) + 1)) + 1)) + 1)) + 1)) + 1)) (wrap64 (x5_1 + 1)))))))) = some (r1, r2) := by first | (rw [hy255]; with_reducible exact H) | (have H2_ := (Option.bind_some _ _).symm.trans H; rw [hy255]; with_reducible exact H2_) | (have H2_ := (Option.bind_some _ _).symm.trans H; with_reducible exact H2_) | with_reducible exact H | (rw [hy255]; exact H) | exact H
     have Ny255 := Aside0.mk hy255
     clear hy255
     obtain ⟨y256, hy256⟩ : ∃ y_ : List (S41), y_ = (y255.set (x5_1 : Int).toNat (⟨(rd_T41 y255 x5_1).f0, wrap64 (x1_1 + 1), (rd_T41 y255 x5_1).f2, (rd_T41 y255 x5_1).f3, (rd_T41 y255 x5_1).f4, (rd_T41 y255 x5_1).f5, (rd_T41 y255 x5_1).f6⟩ : S41)) := ⟨_, rfl⟩
     replace H : ((some (y256.set (x5_1 : Int).toNat (⟨(rd_T41 y256 x5_1).f0, (rd_T41 y256 x5_1).f1, wrap64 ((wrap64 (x1_1 + 1)) + 1), (rd_T41 y256 x5_1).f3, (rd_T41 y256 x5_1).f4, (rd_T41 y256 x5_1).f5, (rd_T41 y256 x5_1).f6⟩ : S41) : List (S41))).bind fun y257 => ((some (y257.set (x5_1 : Int).toNat (⟨(rd_T41 y257 x5_1).f0, (rd_T41 y257 x5_1).f1, (rd_T41 y257 x5_1).f2, wrap64 ((wrap64 ((wrap64 (x1_1 + 1)) + 1)) + 1), (rd_T41 y257 x5_1).f4, (rd_T41 y257 x5_1).f5, (rd_T41 y257 x5_1).f6⟩ : S41) : List (S41))).bind fun y258 => ((some (y258.set (x5_1 : Int).toNat (⟨(rd_T41 y258 x5_1).f0, (rd_T41 y258 x5_1).f1, (rd_T41 y258 x5_1).f2, (rd_T41 y258 x5_1).f3, wrap64 ((wrap64 ((wrap64 ((wrap64 (x1_1 + 1)) + 1)) + 1)) + 1), (rd_T41 y258 x5_1).f5, (rd_T41 y258 x5_1).f6⟩ : S41) : List (S41))).bind fun y259 => ((some (y259.set (x5_1 : Int).toNat (⟨(rd_T41 y259 x5_1).f0, (rd_T41 y259 x5_1).f1, (rd_T41 y259 x5_1).f2, (rd_T41 y259 x5_1).f3, (rd_T41 y259 x5_1).f4, wrap64 ((wrap64 ((wrap64 ((wrap64 ((wrap64 (x1_1 + 1)) + 1)) + 1)) + 1)) + 1), (rd_T41 y259 x5_1).f6⟩ : S41) : List (S41))).bind fun y260 => (laws_markSealS.l0 k1 (y260.set (x5_1 : Int).toNat (⟨(rd_T41 y260 x5_1).f0, (rd_T41 y260 x5_1).f1, (rd_T41 y260 x5_1).f2, (rd_T41 y260 x5_1).f3, (rd_T41 y260 x5_1).f4, (rd_T41 y260 x5_1).f5, wrap64 ((wrap64 ((wrap64 ((wrap64 ((wrap64 ((wrap64 (x1_1 + 1)) + 1)) + 1)) + 1)) + 1)) + 1)⟩ : S41)) (wrap64 ((wrap64 ((wrap64 ((wrap64 ((wrap64 ((wrap64 ((wrap64 (x1_1 + 1)) + 1)) + 1)) + 1)) + 1)) + 1)) + 1)) (wrap64 (x5_1 + 1))))))) = some (r1, r2) := by first | (rw [hy256]; with_reducible exact H) | (have H2_ := (Option.bind_some _ _).symm.trans H; rw [hy256]; with_reducible exact H2_) | (have H2_ := (Option.bind_some _ _).symm.trans H; with_reducible exact H2_) | with_reducible exact H | (rw [hy256]; exact H) | exact H
     have Ny256 := Aside0.mk hy256
     clear hy256
     obtain ⟨y257, hy257⟩ : ∃ y_ : List (S41), y_ = (y256.set (x5_1 : Int).toNat (⟨(rd_T41 y256 x5_1).f0, (rd_T41 y256 x5_1).f1, wrap64 ((wrap64 (x1_1 + 1)) + 1), (rd_T41 y256 x5_1).f3, (rd_T41 y256 x5_1).f4, (rd_T41 y256 x5_1).f5, (rd_T41 y256 x5_1).f6⟩ : S41)) := ⟨_, rfl⟩
     replace H : ((some (y257.set (x5_1 : Int).toNat (⟨(rd_T41 y257 x5_1).f0, (rd_T41 y257 x5_1).f1, (rd_T41 y257 x5_1).f2, wrap64 ((wrap64 ((wrap64 (x1_1 + 1)) + 1)) + 1), (rd_T41 y257 x5_1).f4, (rd_T41 y257 x5_1).f5, (rd_T41 y257 x5_1).f6⟩ : S41) : List (S41))).bind fun y258 => ((some (y258.set (x5_1 : Int).toNat (⟨(rd_T41 y258 x5_1).f0, (rd_T41 y258 x5_1).f1, (rd_T41 y258 x5_1).f2, (rd_T41 y258 x5_1).f3, wrap64 ((wrap64 ((wrap64 ((wrap64 (x1_1 + 1)) + 1)) + 1)) + 1), (rd_T41 y258 x5_1).f5, (rd_T41 y258 x5_1).f6⟩ : S41) : List (S41))).bind fun y259 => ((some (y259.set (x5_1 : Int).toNat (⟨(rd_T41 y259 x5_1).f0, (rd_T41 y259 x5_1).f1, (rd_T41 y259 x5_1).f2, (rd_T41 y259 x5_1).f3, (rd_T41 y259 x5_1).f4, wrap64 ((wrap64 ((wrap64 ((wrap64 ((wrap64 (x1_1 + 1)) + 1)) + 1)) + 1)) + 1), (rd_T41 y259 x5_1).f6⟩ : S41) : List (S41))).bind fun y260 => (laws_markSealS.l0 k1 (y260.set (x5_1 : Int).toNat (⟨(rd_T41 y260 x5_1).f0, (rd_T41 y260 x5_1).f1, (rd_T41 y260 x5_1).f2, (rd_T41 y260 x5_1).f3, (rd_T41 y260 x5_1).f4, (rd_T41 y260 x5_1).f5, wrap64 ((wrap64 ((wrap64 ((wrap64 ((wrap64 ((wrap64 (x1_1 + 1)) + 1)) + 1)) + 1)) + 1)) + 1)⟩ : S41)) (wrap64 ((wrap64 ((wrap64 ((wrap64 ((wrap64 ((wrap64 ((wrap64 (x1_1 + 1)) + 1)) + 1)) + 1)) + 1)) + 1)) + 1)) (wrap64 (x5_1 + 1)))))) = some (r1, r2) := by first | (rw [hy257]; with_reducible exact H) | (have H2_ := (Option.bind_some _ _).symm.trans H; rw [hy257]; with_reducible exact H2_) | (have H2_ := (Option.bind_some _ _).symm.trans H; with_reducible exact H2_) | with_reducible exact H | (rw [hy257]; exact H) | exact H
     have Ny257 := Aside0.mk hy257
     clear hy257
     obtain ⟨y258, hy258⟩ : ∃ y_ : List (S41), y_ = (y257.set (x5_1 : Int).toNat (⟨(rd_T41 y257 x5_1).f0, (rd_T41 y257 x5_1).f1, (rd_T41 y257 x5_1).f2, wrap64 ((wrap64 ((wrap64 (x1_1 + 1)) + 1)) + 1), (rd_T41 y257 x5_1).f4, (rd_T41 y257 x5_1).f5, (rd_T41 y257 x5_1).f6⟩ : S41)) := ⟨_, rfl⟩
     replace H : ((some (y258.set (x5_1 : Int).toNat (⟨(rd_T41 y258 x5_1).f0, (rd_T41 y258 x5_1).f1, (rd_T41 y258 x5_1).f2, (rd_T41 y258 x5_1).f3, wrap64 ((wrap64 ((wrap64 ((wrap64 (x1_1 + 1)) + 1)) + 1)) + 1), (rd_T41 y258 x5_1).f5, (rd_T41 y258 x5_1).f6⟩ : S41) : List (S41))).bind fun y259 => ((some (y259.set (x5_1 : Int).toNat (⟨(rd_T41 y259 x5_1).f0, (rd_T41 y259 x5_1).f1, (rd_T41 y259 x5_1).f2, (rd_T41 y259 x5_1).f3, (rd_T41 y259 x5_1).f4, wrap64 ((wrap64 ((wrap64 ((wrap64 ((wrap64 (x1_1 + 1)) + 1)) + 1)) + 1)) + 1), (rd_T41 y259 x5_1).f6⟩ : S41) : List (S41))).bind fun y260 => (laws_markSealS.l0 k1 (y260.set (x5_1 : Int).toNat (⟨(rd_T41 y260 x5_1).f0, (rd_T41 y260 x5_1).f1, (rd_T41 y260 x5_1).f2, (rd_T41 y260 x5_1).f3, (rd_T41 y260 x5_1).f4, (rd_T41 y260 x5_1).f5, wrap64 ((wrap64 ((wrap64 ((wrap64 ((wrap64 ((wrap64 (x1_1 + 1)) + 1)) + 1)) + 1)) + 1)) + 1)⟩ : S41)) (wrap64 ((wrap64 ((wrap64 ((wrap64 ((wrap64 ((wrap64 ((wrap64 (x1_1 + 1)) + 1)) + 1)) + 1)) + 1)) + 1)) + 1)) (wrap64 (x5_1 + 1))))) = some (r1, r2) := by first | (rw [hy258]; with_reducible exact H) | (have H2_ := (Option.bind_some _ _).symm.trans H; rw [hy258]; with_reducible exact H2_) | (have H2_ := (Option.bind_some _ _).symm.trans H; with_reducible exact H2_) | with_reducible exact H | (rw [hy258]; exact H) | exact H
     have Ny258 := Aside0.mk hy258
     clear hy258
     obtain ⟨y259, hy259⟩ : ∃ y_ : List (S41), y_ = (y258.set (x5_1 : Int).toNat (⟨(rd_T41 y258 x5_1).f0, (rd_T41 y258 x5_1).f1, (rd_T41 y258 x5_1).f2, (rd_T41 y258 x5_1).f3, wrap64 ((wrap64 ((wrap64 ((wrap64 (x1_1 + 1)) + 1)) + 1)) + 1), (rd_T41 y258 x5_1).f5, (rd_T41 y258 x5_1).f6⟩ : S41)) := ⟨_, rfl⟩
     replace H : ((some (y259.set (x5_1 : Int).toNat (⟨(rd_T41 y259 x5_1).f0, (rd_T41 y259 x5_1).f1, (rd_T41 y259 x5_1).f2, (rd_T41 y259 x5_1).f3, (rd_T41 y259 x5_1).f4, wrap64 ((wrap64 ((wrap64 ((wrap64 ((wrap64 (x1_1 + 1)) + 1)) + 1)) + 1)) + 1), (rd_T41 y259 x5_1).f6⟩ : S41) : List (S41))).bind fun y260 => (laws_markSealS.l0 k1 (y260.set (x5_1 : Int).toNat (⟨(rd_T41 y260 x5_1).f0, (rd_T41 y260 x5_1).f1, (rd_T41 y260 x5_1).f2, (rd_T41 y260 x5_1).f3, (rd_T41 y260 x5_1).f4, (rd_T41 y260 x5_1).f5, wrap64 ((wrap64 ((wrap64 ((wrap64 ((wrap64 ((wrap64 (x1_1 + 1)) + 1)) + 1)) + 1)) + 1)) + 1)⟩ : S41)) (wrap64 ((wrap64 ((wrap64 ((wrap64 ((wrap64 ((wrap64 ((wrap64 (x1_1 + 1)) + 1)) + 1)) + 1)) + 1)) + 1)) + 1)) (wrap64 (x5_1 + 1)))) = some (r1, r2) := by first | (rw [hy259]; with_reducible exact H) | (have H2_ := (Option.bind_some _ _).symm.trans H; rw [hy259]; with_reducible exact H2_) | (have H2_ := (Option.bind_some _ _).symm.trans H; with_reducible exact H2_) | with_reducible exact H | (rw [hy259]; exact H) | exact H
     have Ny259 := Aside0.mk hy259
     clear hy259
     obtain ⟨y260, hy260⟩ : ∃ y_ : List (S41), y_ = (y259.set (x5_1 : Int).toNat (⟨(rd_T41 y259 x5_1).f0, (rd_T41 y259 x5_1).f1, (rd_T41 y259 x5_1).f2, (rd_T41 y259 x5_1).f3, (rd_T41 y259 x5_1).f4, wrap64 ((wrap64 ((wrap64 ((wrap64 ((wrap64 (x1_1 + 1)) + 1)) + 1)) + 1)) + 1), (rd_T41 y259 x5_1).f6⟩ : S41)) := ⟨_, rfl⟩
     replace H : (laws_markSealS.l0 k1 (y260.set (x5_1 : Int).toNat (⟨(rd_T41 y260 x5_1).f0, (rd_T41 y260 x5_1).f1, (rd_T41 y260 x5_1).f2, (rd_T41 y260 x5_1).f3, (rd_T41 y260 x5_1).f4, (rd_T41 y260 x5_1).f5, wrap64 ((wrap64 ((wrap64 ((wrap64 ((wrap64 ((wrap64 (x1_1 + 1)) + 1)) + 1)) + 1)) + 1)) + 1)⟩ : S41)) (wrap64 ((wrap64 ((wrap64 ((wrap64 ((wrap64 ((wrap64 ((wrap64 (x1_1 + 1)) + 1)) + 1)) + 1)) + 1)) + 1)) + 1)) (wrap64 (x5_1 + 1))) = some (r1, r2) := by first | (rw [hy260]; with_reducible exact H) | (have H2_ := (Option.bind_some _ _).symm.trans H; rw [hy260]; with_reducible exact H2_) | (have H2_ := (Option.bind_some _ _).symm.trans H; with_reducible exact H2_) | with_reducible exact H | (rw [hy260]; exact H) | exact H
     have Ny260 := Aside0.mk hy260
     clear hy260
     obtain ⟨y261, hy261⟩ : ∃ y_ : List (S41), y_ = (y260.set (x5_1 : Int).toNat (⟨(rd_T41 y260 x5_1).f0, (rd_T41 y260 x5_1).f1, (rd_T41 y260 x5_1).f2, (rd_T41 y260 x5_1).f3, (rd_T41 y260 x5_1).f4, (rd_T41 y260 x5_1).f5, wrap64 ((wrap64 ((wrap64 ((wrap64 ((wrap64 ((wrap64 (x1_1 + 1)) + 1)) + 1)) + 1)) + 1)) + 1)⟩ : S41)) := ⟨_, rfl⟩
     replace H : (laws_markSealS.l0 k1 y261 (wrap64 ((wrap64 ((wrap64 ((wrap64 ((wrap64 ((wrap64 ((wrap64 (x1_1 + 1)) + 1)) + 1)) + 1)) + 1)) + 1)) + 1)) (wrap64 (x5_1 + 1))) = some (r1, r2) := by first | (rw [hy261]; with_reducible exact H) | (have H2_ := (Option.bind_some _ _).symm.trans H; rw [hy261]; with_reducible exact H2_) | (have H2_ := (Option.bind_some _ _).symm.trans H; with_reducible exact H2_) | with_reducible exact H | (rw [hy261]; exact H) | exact H
     have Ny261 := Aside0.mk hy261
     clear hy261
     have H' := Aside0.mk H
     clear H
     obtain ⟨Ao12, co12, eo12⟩ := Kd.R_slice HO_0.out
     subst eo12
     obtain ⟨cq12, eq12⟩ := hcl _ _ _ rfl
     subst eq12
     have p5 : 0 ≤ (x5_1 : Int) := of_decide_eq_true (by first | (with_reducible assumption) | assumption)
     have q5 : (x5_1 : Int) < ((x0_1.length : Int) : Int) := of_decide_eq_true (by first | (with_reducible assumption) | assumption)
     obtain ⟨go5, co5, eo5, gb5, gl5, cl5, HG5⟩ := Kd.R_form HO_0.out (by omega)
     (first | cases eo5 | (injection eo5 with ea_ en_ ec_; (first | subst ea_ | (injection ea_ with ea_; subst ea_)); subst ec_; clear en_))
     have GB5 := Aside0.mk gb5
     have GG5 := Aside0.mk HG5
     clear gb5 gl5 HG5
     have HMgo5 := Aside0.mk (show (P0_ go5 ∨ w.heap.size ≤ go5) from (HO_0.out.1 _ rfl))
     obtain ⟨ce5, hcl5, hM5, hcc5, hfr5⟩ := Kd.R_elem HO_0.out z41 (x5_1 : Int) p5 q5
     obtain rfl := k41_openM hM5
     have hx5_0 : wr.cell? ⟨go5, (x5_1 : Int).toNat * 7, none⟩ = some (.int .i64 ((rd_T41 x0_1 x5_1).f0)) := hcc5 0 _ rfl
     have hx5_1 : wr.cell? ⟨go5, (x5_1 : Int).toNat * 7 + 1, none⟩ = some (.int .i64 ((rd_T41 x0_1 x5_1).f1)) := hcc5 1 _ rfl
     have hx5_2 : wr.cell? ⟨go5, (x5_1 : Int).toNat * 7 + 2, none⟩ = some (.int .i64 ((rd_T41 x0_1 x5_1).f2)) := hcc5 2 _ rfl
     have hx5_3 : wr.cell? ⟨go5, (x5_1 : Int).toNat * 7 + 3, none⟩ = some (.int .i64 ((rd_T41 x0_1 x5_1).f3)) := hcc5 3 _ rfl
     have hx5_4 : wr.cell? ⟨go5, (x5_1 : Int).toNat * 7 + 4, none⟩ = some (.int .i64 ((rd_T41 x0_1 x5_1).f4)) := hcc5 4 _ rfl
     have hx5_5 : wr.cell? ⟨go5, (x5_1 : Int).toNat * 7 + 5, none⟩ = some (.int .i64 ((rd_T41 x0_1 x5_1).f5)) := hcc5 5 _ rfl
     have hx5_6 : wr.cell? ⟨go5, (x5_1 : Int).toNat * 7 + 6, none⟩ = some (.int .i64 ((rd_T41 x0_1 x5_1).f6)) := hcc5 6 _ rfl
     have hf5_0 : wr.frozen? ⟨go5, (x5_1 : Int).toNat * 7, none⟩ = false := hfr5 0
     have hf5_1 : wr.frozen? ⟨go5, (x5_1 : Int).toNat * 7 + 1, none⟩ = false := hfr5 1
     have hf5_2 : wr.frozen? ⟨go5, (x5_1 : Int).toNat * 7 + 2, none⟩ = false := hfr5 2
     have hf5_3 : wr.frozen? ⟨go5, (x5_1 : Int).toNat * 7 + 3, none⟩ = false := hfr5 3
     have hf5_4 : wr.frozen? ⟨go5, (x5_1 : Int).toNat * 7 + 4, none⟩ = false := hfr5 4
     have hf5_5 : wr.frozen? ⟨go5, (x5_1 : Int).toNat * 7 + 5, none⟩ = false := hfr5 5
     have hf5_6 : wr.frozen? ⟨go5, (x5_1 : Int).toNat * 7 + 6, none⟩ = false := hfr5 6
     clear hcl5 hcc5 hfr5 hM5
     replace p5 := eq_true p5
     replace q5 := eq_true q5
     have HX13 := Aside0.mk (show Kd.R k41 41 wr w0.heap.size (fun k_ => (P0_ k_ ∨ w.heap.size ≤ k_)) (.slice (some ⟨go5, 0, none⟩) x0_1.length co12) x0_1 from zm1)
     obtain ⟨ce13, hcl13, hM13, hcc13, hfr13⟩ := Kd.R_elem HX13.out z41 (x5_1 : Int) (of_decide_eq_true (by first | (with_reducible assumption) | assumption)) (by have h_ : (x5_1 : Int) < ((x0_1.length : Int) : Int) := of_decide_eq_true (by first | (with_reducible assumption) | assumption); first | exact h_ | (have e_ := (Kd.R_reads' HO_0.out).1; omega) | simpa using h_)
     obtain rfl := k41_openM hM13
     have HP13 := Kd.R_seg HX13.out (x5_1 : Int) (of_decide_eq_true (by first | (with_reducible assumption) | assumption)) (by have h_ : (x5_1 : Int) < ((x0_1.length : Int) : Int) := of_decide_eq_true (by first | (with_reducible assumption) | assumption); first | exact h_ | (have e_ := (Kd.R_reads' HO_0.out).1; omega) | simpa using h_) (seg := [.int .i64 x1_1]) (j := 0) hcl13 hcc13 (show 1 ≤ 7 from by decide) (x' := (⟨x1_1, (rd_T41 x0_1 x5_1).f1, (rd_T41 x0_1 x5_1).f2, (rd_T41 x0_1 x5_1).f3, (rd_T41 x0_1 x5_1).f4, (rd_T41 x0_1 x5_1).f5, (rd_T41 x0_1 x5_1).f6⟩ : S41)) (k41_mkM _ _ _ (⟨x1_1, (rd_T41 x0_1 x5_1).f1, (rd_T41 x0_1 x5_1).f2, (rd_T41 x0_1 x5_1).f3, (rd_T41 x0_1 x5_1).f4, (rd_T41 x0_1 x5_1).f5, (rd_T41 x0_1 x5_1).f6⟩ : S41) ) (fun _ hk => hk)
     have hx13_0 := hcc13 0 _ rfl
     (try simp only [show (k41).sz = 7 from rfl, Nat.mul_one, Nat.add_zero] at hx13_0)
     have hf13_0 := hfr13 0
     (try simp only [show (k41).sz = 7 from rfl, Nat.mul_one, Nat.add_zero] at hf13_0)
     clear hcl13 hcc13 hfr13 hM13
     go_wp2_with (first | ((with_reducible refine gate_store (t := 3) (p := 16) rfl ?_); refine store_event (t := 3) (p := 16) (v := ?vo_w14) (w1 := (wr.setCell ⟨go5, (x5_1 : Int).toNat * 7, none⟩ (.int .i64 x1_1))) ?hg ?ho ?hn ?hr ?_; (case ho => rfl); (case hg => rfl); (case hn => rfl); (case hr => first | (go_simp; done) | (go_simp; rfl)); intro w14 hw; have hg : wr.grownBy w14 (some go5) := (by rw [hw]; exact HP13.2); have hp_ : Kd.R k41 41 w14 w0.heap.size (fun k_ => (P0_ k_ ∨ w.heap.size ≤ k_)) (.slice (some ⟨go5, 0, none⟩) x0_1.length co12) y255 := (by rw [hw, Ny255.out]; exact HP13.1); clear HP13; have n0_ := Aside0.mk (hp_); have n1_ := Aside0.mk ((by rw [hw]; exact below_set (HB.out) GB5.out : Below w0.heap.size w0 w14)); have n2_ := Aside0.mk (Kept.of_grown (S := (fun k_ => P0_ k_)) hg zm0 (fun k_ e_ => (HO_0.out.1 k_ e_))); clear HO_0; clear HB; clear HK; have HO_0 := n0_; have HB := n1_; have HK := n2_; clear n0_ n1_ n2_; clear hg hw hp_; have p6 : 0 ≤ (x5_1 : Int) := of_decide_eq_true (by first | (with_reducible assumption) | assumption); have q6 : (x5_1 : Int) < ((x0_1.length : Int) : Int) := of_decide_eq_true (by first | (with_reducible assumption) | assumption); obtain ⟨ce6, hcl6, hM6, hcc6, hfr6⟩ := Kd.R_elem HO_0.out z41 (x5_1 : Int) p6 q6; obtain rfl := k41_openM hM6; have hx6_0 : w14.cell? ⟨go5, (x5_1 : Int).toNat * 7, none⟩ = some (.int .i64 ((rd_T41 y255 x5_1).f0)) := hcc6 0 _ rfl; have hx6_1 : w14.cell? ⟨go5, (x5_1 : Int).toNat * 7 + 1, none⟩ = some (.int .i64 ((rd_T41 y255 x5_1).f1)) := hcc6 1 _ rfl; have hx6_2 : w14.cell? ⟨go5, (x5_1 : Int).toNat * 7 + 2, none⟩ = some (.int .i64 ((rd_T41 y255 x5_1).f2)) := hcc6 2 _ rfl; have hx6_3 : w14.cell? ⟨go5, (x5_1 : Int).toNat * 7 + 3, none⟩ = some (.int .i64 ((rd_T41 y255 x5_1).f3)) := hcc6 3 _ rfl; have hx6_4 : w14.cell? ⟨go5, (x5_1 : Int).toNat * 7 + 4, none⟩ = some (.int .i64 ((rd_T41 y255 x5_1).f4)) := hcc6 4 _ rfl; have hx6_5 : w14.cell? ⟨go5, (x5_1 : Int).toNat * 7 + 5, none⟩ = some (.int .i64 ((rd_T41 y255 x5_1).f5)) := hcc6 5 _ rfl; have hx6_6 : w14.cell? ⟨go5, (x5_1 : Int).toNat * 7 + 6, none⟩ = some (.int .i64 ((rd_T41 y255 x5_1).f6)) := hcc6 6 _ rfl; have hf6_0 : w14.frozen? ⟨go5, (x5_1 : Int).toNat * 7, none⟩ = false := hfr6 0; have hf6_1 : w14.frozen? ⟨go5, (x5_1 : Int).toNat * 7 + 1, none⟩ = false := hfr6 1; have hf6_2 : w14.frozen? ⟨go5, (x5_1 : Int).toNat * 7 + 2, none⟩ = false := hfr6 2; have hf6_3 : w14.frozen? ⟨go5, (x5_1 : Int).toNat * 7 + 3, none⟩ = false := hfr6 3; have hf6_4 : w14.frozen? ⟨go5, (x5_1 : Int).toNat * 7 + 4, none⟩ = false := hfr6 4; have hf6_5 : w14.frozen? ⟨go5, (x5_1 : Int).toNat * 7 + 5, none⟩ = false := hfr6 5; have hf6_6 : w14.frozen? ⟨go5, (x5_1 : Int).toNat * 7 + 6, none⟩ = false := hfr6 6; clear hcl6 hcc6 hfr6 hM6; replace p6 := eq_true p6; replace q6 := eq_true q6; have HX15 := Aside0.mk (show Kd.R k41 41 w14 w0.heap.size (fun k_ => (P0_ k_ ∨ w.heap.size ≤ k_)) (.slice (some ⟨go5, 0, none⟩) x0_1.length co12) y255 from zm1); obtain ⟨ce15, hcl15, hM15, hcc15, hfr15⟩ := Kd.R_elem HX15.out z41 (x5_1 : Int) (of_decide_eq_true (by first | (with_reducible assumption) | assumption)) (by have h_ : (x5_1 : Int) < ((x0_1.length : Int) : Int) := of_decide_eq_true (by first | (with_reducible assumption) | assumption); first | exact h_ | (have e_ := (Kd.R_reads' HO_0.out).1; omega) | simpa using h_); obtain rfl := k41_openM hM15; have HP15 := Kd.R_seg HX15.out (x5_1 : Int) (of_decide_eq_true (by first | (with_reducible assumption) | assumption)) (by have h_ : (x5_1 : Int) < ((x0_1.length : Int) : Int) := of_decide_eq_true (by first | (with_reducible assumption) | assumption); first | exact h_ | (have e_ := (Kd.R_reads' HO_0.out).1; omega) | simpa using h_) (seg := [.int .i64 (wrap64 (x1_1 + 1))]) (j := 1) hcl15 hcc15 (show 2 ≤ 7 from by decide) (x' := (⟨(rd_T41 y255 x5_1).f0, wrap64 (x1_1 + 1), (rd_T41 y255 x5_1).f2, (rd_T41 y255 x5_1).f3, (rd_T41 y255 x5_1).f4, (rd_T41 y255 x5_1).f5, (rd_T41 y255 x5_1).f6⟩ : S41)) (k41_mkM _ _ _ (⟨(rd_T41 y255 x5_1).f0, wrap64 (x1_1 + 1), (rd_T41 y255 x5_1).f2, (rd_T41 y255 x5_1).f3, (rd_T41 y255 x5_1).f4, (rd_T41 y255 x5_1).f5, (rd_T41 y255 x5_1).f6⟩ : S41) ) (fun _ hk => hk); have hx15_1 := hcc15 1 _ rfl; (try simp only [show (k41).sz = 7 from rfl, Nat.mul_one, Nat.add_zero] at hx15_1); have hf15_1 := hfr15 1; (try simp only [show (k41).sz = 7 from rfl, Nat.mul_one, Nat.add_zero] at hf15_1); clear hcl15 hcc15 hfr15 hM15) | ((with_reducible refine gate_store (t := 3) (p := 23) rfl ?_); refine store_event (t := 3) (p := 23) (v := ?vo_w16) (w1 := (w14.setCell ⟨go5, (x5_1 : Int).toNat * 7 + 1, none⟩ (.int .i64 (wrap64 (x1_1 + 1))))) ?hg ?ho ?hn ?hr ?_; (case ho => rfl); (case hg => rfl); (case hn => rfl); (case hr => first | (go_simp; done) | (go_simp; rfl)); intro w16 hw; have hg : w14.grownBy w16 (some go5) := (by rw [hw]; exact HP15.2); have hp_ : Kd.R k41 41 w16 w0.heap.size (fun k_ => (P0_ k_ ∨ w.heap.size ≤ k_)) (.slice (some ⟨go5, 0, none⟩) x0_1.length co12) y256 := (by rw [hw, Ny256.out]; exact HP15.1); clear HP15; have n0_ := Aside0.mk (hp_); have n1_ := Aside0.mk ((by rw [hw]; exact below_set (HB.out) GB5.out : Below w0.heap.size w0 w16)); have n2_ := Aside0.mk (Kept.of_grown (S := (fun k_ => P0_ k_)) hg zm0 (fun k_ e_ => (HO_0.out.1 k_ e_))); clear HO_0; clear HB; clear HK; have HO_0 := n0_; have HB := n1_; have HK := n2_; clear n0_ n1_ n2_; clear hg hw hp_; have p7 : 0 ≤ (x5_1 : Int) := of_decide_eq_true (by first | (with_reducible assumption) | assumption); have q7 : (x5_1 : Int) < ((x0_1.length : Int) : Int) := of_decide_eq_true (by first | (with_reducible assumption) | assumption); obtain ⟨ce7, hcl7, hM7, hcc7, hfr7⟩ := Kd.R_elem HO_0.out z41 (x5_1 : Int) p7 q7; obtain rfl := k41_openM hM7; have hx7_0 : w16.cell? ⟨go5, (x5_1 : Int).toNat * 7, none⟩ = some (.int .i64 ((rd_T41 y256 x5_1).f0)) := hcc7 0 _ rfl; have hx7_1 : w16.cell? ⟨go5, (x5_1 : Int).toNat * 7 + 1, none⟩ = some (.int .i64 ((rd_T41 y256 x5_1).f1)) := hcc7 1 _ rfl; have hx7_2 : w16.cell? ⟨go5, (x5_1 : Int).toNat * 7 + 2, none⟩ = some (.int .i64 ((rd_T41 y256 x5_1).f2)) := hcc7 2 _ rfl; have hx7_3 : w16.cell? ⟨go5, (x5_1 : Int).toNat * 7 + 3, none⟩ = some (.int .i64 ((rd_T41 y256 x5_1).f3)) := hcc7 3 _ rfl; have hx7_4 : w16.cell? ⟨go5, (x5_1 : Int).toNat * 7 + 4, none⟩ = some (.int .i64 ((rd_T41 y256 x5_1).f4)) := hcc7 4 _ rfl; have hx7_5 : w16.cell? ⟨go5, (x5_1 : Int).toNat * 7 + 5, none⟩ = some (.int .i64 ((rd_T41 y256 x5_1).f5)) := hcc7 5 _ rfl; have hx7_6 : w16.cell? ⟨go5, (x5_1 : Int).toNat * 7 + 6, none⟩ = some (.int .i64 ((rd_T41 y256 x5_1).f6)) := hcc7 6 _ rfl; have hf7_0 : w16.frozen? ⟨go5, (x5_1 : Int).toNat * 7, none⟩ = false := hfr7 0; have hf7_1 : w16.frozen? ⟨go5, (x5_1 : Int).toNat * 7 + 1, none⟩ = false := hfr7 1; have hf7_2 : w16.frozen? ⟨go5, (x5_1 : Int).toNat * 7 + 2, none⟩ = false := hfr7 2; have hf7_3 : w16.frozen? ⟨go5, (x5_1 : Int).toNat * 7 + 3, none⟩ = false := hfr7 3; have hf7_4 : w16.frozen? ⟨go5, (x5_1 : Int).toNat * 7 + 4, none⟩ = false := hfr7 4; have hf7_5 : w16.frozen? ⟨go5, (x5_1 : Int).toNat * 7 + 5, none⟩ = false := hfr7 5; have hf7_6 : w16.frozen? ⟨go5, (x5_1 : Int).toNat * 7 + 6, none⟩ = false := hfr7 6; clear hcl7 hcc7 hfr7 hM7; replace p7 := eq_true p7; replace q7 := eq_true q7; have HX17 := Aside0.mk (show Kd.R k41 41 w16 w0.heap.size (fun k_ => (P0_ k_ ∨ w.heap.size ≤ k_)) (.slice (some ⟨go5, 0, none⟩) x0_1.length co12) y256 from zm1); obtain ⟨ce17, hcl17, hM17, hcc17, hfr17⟩ := Kd.R_elem HX17.out z41 (x5_1 : Int) (of_decide_eq_true (by first | (with_reducible assumption) | assumption)) (by have h_ : (x5_1 : Int) < ((x0_1.length : Int) : Int) := of_decide_eq_true (by first | (with_reducible assumption) | assumption); first | exact h_ | (have e_ := (Kd.R_reads' HO_0.out).1; omega) | simpa using h_); obtain rfl := k41_openM hM17; have HP17 := Kd.R_seg HX17.out (x5_1 : Int) (of_decide_eq_true (by first | (with_reducible assumption) | assumption)) (by have h_ : (x5_1 : Int) < ((x0_1.length : Int) : Int) := of_decide_eq_true (by first | (with_reducible assumption) | assumption); first | exact h_ | (have e_ := (Kd.R_reads' HO_0.out).1; omega) | simpa using h_) (seg := [.int .i64 (wrap64 ((wrap64 (x1_1 + 1)) + 1))]) (j := 2) hcl17 hcc17 (show 3 ≤ 7 from by decide) (x' := (⟨(rd_T41 y256 x5_1).f0, (rd_T41 y256 x5_1).f1, wrap64 ((wrap64 (x1_1 + 1)) + 1), (rd_T41 y256 x5_1).f3, (rd_T41 y256 x5_1).f4, (rd_T41 y256 x5_1).f5, (rd_T41 y256 x5_1).f6⟩ : S41)) (k41_mkM _ _ _ (⟨(rd_T41 y256 x5_1).f0, (rd_T41 y256 x5_1).f1, wrap64 ((wrap64 (x1_1 + 1)) + 1), (rd_T41 y256 x5_1).f3, (rd_T41 y256 x5_1).f4, (rd_T41 y256 x5_1).f5, (rd_T41 y256 x5_1).f6⟩ : S41) ) (fun _ hk => hk); have hx17_2 := hcc17 2 _ rfl; (try simp only [show (k41).sz = 7 from rfl, Nat.mul_one, Nat.add_zero] at hx17_2); have hf17_2 := hfr17 2; (try simp only [show (k41).sz = 7 from rfl, Nat.mul_one, Nat.add_zero] at hf17_2); clear hcl17 hcc17 hfr17 hM17) | ((with_reducible refine gate_store (t := 3) (p := 30) rfl ?_); refine store_event (t := 3) (p := 30) (v := ?vo_w18) (w1 := (w16.setCell ⟨go5, (x5_1 : Int).toNat * 7 + 2, none⟩ (.int .i64 (wrap64 ((wrap64 (x1_1 + 1)) + 1))))) ?hg ?ho ?hn ?hr ?_; (case ho => rfl); (case hg => rfl); (case hn => rfl); (case hr => first | (go_simp; done) | (go_simp; rfl)); intro w18 hw; have hg : w16.grownBy w18 (some go5) := (by rw [hw]; exact HP17.2); have hp_ : Kd.R k41 41 w18 w0.heap.size (fun k_ => (P0_ k_ ∨ w.heap.size ≤ k_)) (.slice (some ⟨go5, 0, none⟩) x0_1.length co12) y257 := (by rw [hw, Ny257.out]; exact HP17.1); clear HP17; have n0_ := Aside0.mk (hp_); have n1_ := Aside0.mk ((by rw [hw]; exact below_set (HB.out) GB5.out : Below w0.heap.size w0 w18)); have n2_ := Aside0.mk (Kept.of_grown (S := (fun k_ => P0_ k_)) hg zm0 (fun k_ e_ => (HO_0.out.1 k_ e_))); clear HO_0; clear HB; clear HK; have HO_0 := n0_; have HB := n1_; have HK := n2_; clear n0_ n1_ n2_; clear hg hw hp_; have p8 : 0 ≤ (x5_1 : Int) := of_decide_eq_true (by first | (with_reducible assumption) | assumption); have q8 : (x5_1 : Int) < ((x0_1.length : Int) : Int) := of_decide_eq_true (by first | (with_reducible assumption) | assumption); obtain ⟨ce8, hcl8, hM8, hcc8, hfr8⟩ := Kd.R_elem HO_0.out z41 (x5_1 : Int) p8 q8; obtain rfl := k41_openM hM8; have hx8_0 : w18.cell? ⟨go5, (x5_1 : Int).toNat * 7, none⟩ = some (.int .i64 ((rd_T41 y257 x5_1).f0)) := hcc8 0 _ rfl; have hx8_1 : w18.cell? ⟨go5, (x5_1 : Int).toNat * 7 + 1, none⟩ = some (.int .i64 ((rd_T41 y257 x5_1).f1)) := hcc8 1 _ rfl; have hx8_2 : w18.cell? ⟨go5, (x5_1 : Int).toNat * 7 + 2, none⟩ = some (.int .i64 ((rd_T41 y257 x5_1).f2)) := hcc8 2 _ rfl; have hx8_3 : w18.cell? ⟨go5, (x5_1 : Int).toNat * 7 + 3, none⟩ = some (.int .i64 ((rd_T41 y257 x5_1).f3)) := hcc8 3 _ rfl; have hx8_4 : w18.cell? ⟨go5, (x5_1 : Int).toNat * 7 + 4, none⟩ = some (.int .i64 ((rd_T41 y257 x5_1).f4)) := hcc8 4 _ rfl; have hx8_5 : w18.cell? ⟨go5, (x5_1 : Int).toNat * 7 + 5, none⟩ = some (.int .i64 ((rd_T41 y257 x5_1).f5)) := hcc8 5 _ rfl; have hx8_6 : w18.cell? ⟨go5, (x5_1 : Int).toNat * 7 + 6, none⟩ = some (.int .i64 ((rd_T41 y257 x5_1).f6)) := hcc8 6 _ rfl; have hf8_0 : w18.frozen? ⟨go5, (x5_1 : Int).toNat * 7, none⟩ = false := hfr8 0; have hf8_1 : w18.frozen? ⟨go5, (x5_1 : Int).toNat * 7 + 1, none⟩ = false := hfr8 1; have hf8_2 : w18.frozen? ⟨go5, (x5_1 : Int).toNat * 7 + 2, none⟩ = false := hfr8 2; have hf8_3 : w18.frozen? ⟨go5, (x5_1 : Int).toNat * 7 + 3, none⟩ = false := hfr8 3; have hf8_4 : w18.frozen? ⟨go5, (x5_1 : Int).toNat * 7 + 4, none⟩ = false := hfr8 4; have hf8_5 : w18.frozen? ⟨go5, (x5_1 : Int).toNat * 7 + 5, none⟩ = false := hfr8 5; have hf8_6 : w18.frozen? ⟨go5, (x5_1 : Int).toNat * 7 + 6, none⟩ = false := hfr8 6; clear hcl8 hcc8 hfr8 hM8; replace p8 := eq_true p8; replace q8 := eq_true q8; have HX19 := Aside0.mk (show Kd.R k41 41 w18 w0.heap.size (fun k_ => (P0_ k_ ∨ w.heap.size ≤ k_)) (.slice (some ⟨go5, 0, none⟩) x0_1.length co12) y257 from zm1); obtain ⟨ce19, hcl19, hM19, hcc19, hfr19⟩ := Kd.R_elem HX19.out z41 (x5_1 : Int) (of_decide_eq_true (by first | (with_reducible assumption) | assumption)) (by have h_ : (x5_1 : Int) < ((x0_1.length : Int) : Int) := of_decide_eq_true (by first | (with_reducible assumption) | assumption); first | exact h_ | (have e_ := (Kd.R_reads' HO_0.out).1; omega) | simpa using h_); obtain rfl := k41_openM hM19; have HP19 := Kd.R_seg HX19.out (x5_1 : Int) (of_decide_eq_true (by first | (with_reducible assumption) | assumption)) (by have h_ : (x5_1 : Int) < ((x0_1.length : Int) : Int) := of_decide_eq_true (by first | (with_reducible assumption) | assumption); first | exact h_ | (have e_ := (Kd.R_reads' HO_0.out).1; omega) | simpa using h_) (seg := [.int .i64 (wrap64 ((wrap64 ((wrap64 (x1_1 + 1)) + 1)) + 1))]) (j := 3) hcl19 hcc19 (show 4 ≤ 7 from by decide) (x' := (⟨(rd_T41 y257 x5_1).f0, (rd_T41 y257 x5_1).f1, (rd_T41 y257 x5_1).f2, wrap64 ((wrap64 ((wrap64 (x1_1 + 1)) + 1)) + 1), (rd_T41 y257 x5_1).f4, (rd_T41 y257 x5_1).f5, (rd_T41 y257 x5_1).f6⟩ : S41)) (k41_mkM _ _ _ (⟨(rd_T41 y257 x5_1).f0, (rd_T41 y257 x5_1).f1, (rd_T41 y257 x5_1).f2, wrap64 ((wrap64 ((wrap64 (x1_1 + 1)) + 1)) + 1), (rd_T41 y257 x5_1).f4, (rd_T41 y257 x5_1).f5, (rd_T41 y257 x5_1).f6⟩ : S41) ) (fun _ hk => hk); have hx19_3 := hcc19 3 _ rfl; (try simp only [show (k41).sz = 7 from rfl, Nat.mul_one, Nat.add_zero] at hx19_3); have hf19_3 := hfr19 3; (try simp only [show (k41).sz = 7 from rfl, Nat.mul_one, Nat.add_zero] at hf19_3); clear hcl19 hcc19 hfr19 hM19) | ((with_reducible refine gate_store (t := 3) (p := 37) rfl ?_); refine store_event (t := 3) (p := 37) (v := ?vo_w20) (w1 := (w18.setCell ⟨go5, (x5_1 : Int).toNat * 7 + 3, none⟩ (.int .i64 (wrap64 ((wrap64 ((wrap64 (x1_1 + 1)) + 1)) + 1))))) ?hg ?ho ?hn ?hr ?_; (case ho => rfl); (case hg => rfl); (case hn => rfl); (case hr => first | (go_simp; done) | (go_simp; rfl)); intro w20 hw; have hg : w18.grownBy w20 (some go5) := (by rw [hw]; exact HP19.2); have hp_ : Kd.R k41 41 w20 w0.heap.size (fun k_ => (P0_ k_ ∨ w.heap.size ≤ k_)) (.slice (some ⟨go5, 0, none⟩) x0_1.length co12) y258 := (by rw [hw, Ny258.out]; exact HP19.1); clear HP19; have n0_ := Aside0.mk (hp_); have n1_ := Aside0.mk ((by rw [hw]; exact below_set (HB.out) GB5.out : Below w0.heap.size w0 w20)); have n2_ := Aside0.mk (Kept.of_grown (S := (fun k_ => P0_ k_)) hg zm0 (fun k_ e_ => (HO_0.out.1 k_ e_))); clear HO_0; clear HB; clear HK; have HO_0 := n0_; have HB := n1_; have HK := n2_; clear n0_ n1_ n2_; clear hg hw hp_; have p9 : 0 ≤ (x5_1 : Int) := of_decide_eq_true (by first | (with_reducible assumption) | assumption); have q9 : (x5_1 : Int) < ((x0_1.length : Int) : Int) := of_decide_eq_true (by first | (with_reducible assumption) | assumption); obtain ⟨ce9, hcl9, hM9, hcc9, hfr9⟩ := Kd.R_elem HO_0.out z41 (x5_1 : Int) p9 q9; obtain rfl := k41_openM hM9; have hx9_0 : w20.cell? ⟨go5, (x5_1 : Int).toNat * 7, none⟩ = some (.int .i64 ((rd_T41 y258 x5_1).f0)) := hcc9 0 _ rfl; have hx9_1 : w20.cell? ⟨go5, (x5_1 : Int).toNat * 7 + 1, none⟩ = some (.int .i64 ((rd_T41 y258 x5_1).f1)) := hcc9 1 _ rfl; have hx9_2 : w20.cell? ⟨go5, (x5_1 : Int).toNat * 7 + 2, none⟩ = some (.int .i64 ((rd_T41 y258 x5_1).f2)) := hcc9 2 _ rfl; have hx9_3 : w20.cell? ⟨go5, (x5_1 : Int).toNat * 7 + 3, none⟩ = some (.int .i64 ((rd_T41 y258 x5_1).f3)) := hcc9 3 _ rfl; have hx9_4 : w20.cell? ⟨go5, (x5_1 : Int).toNat * 7 + 4, none⟩ = some (.int .i64 ((rd_T41 y258 x5_1).f4)) := hcc9 4 _ rfl; have hx9_5 : w20.cell? ⟨go5, (x5_1 : Int).toNat * 7 + 5, none⟩ = some (.int .i64 ((rd_T41 y258 x5_1).f5)) := hcc9 5 _ rfl; have hx9_6 : w20.cell? ⟨go5, (x5_1 : Int).toNat * 7 + 6, none⟩ = some (.int .i64 ((rd_T41 y258 x5_1).f6)) := hcc9 6 _ rfl; have hf9_0 : w20.frozen? ⟨go5, (x5_1 : Int).toNat * 7, none⟩ = false := hfr9 0; have hf9_1 : w20.frozen? ⟨go5, (x5_1 : Int).toNat * 7 + 1, none⟩ = false := hfr9 1; have hf9_2 : w20.frozen? ⟨go5, (x5_1 : Int).toNat * 7 + 2, none⟩ = false := hfr9 2; have hf9_3 : w20.frozen? ⟨go5, (x5_1 : Int).toNat * 7 + 3, none⟩ = false := hfr9 3; have hf9_4 : w20.frozen? ⟨go5, (x5_1 : Int).toNat * 7 + 4, none⟩ = false := hfr9 4; have hf9_5 : w20.frozen? ⟨go5, (x5_1 : Int).toNat * 7 + 5, none⟩ = false := hfr9 5; have hf9_6 : w20.frozen? ⟨go5, (x5_1 : Int).toNat * 7 + 6, none⟩ = false := hfr9 6; clear hcl9 hcc9 hfr9 hM9; replace p9 := eq_true p9; replace q9 := eq_true q9; have HX21 := Aside0.mk (show Kd.R k41 41 w20 w0.heap.size (fun k_ => (P0_ k_ ∨ w.heap.size ≤ k_)) (.slice (some ⟨go5, 0, none⟩) x0_1.length co12) y258 from zm1); obtain ⟨ce21, hcl21, hM21, hcc21, hfr21⟩ := Kd.R_elem HX21.out z41 (x5_1 : Int) (of_decide_eq_true (by first | (with_reducible assumption) | assumption)) (by have h_ : (x5_1 : Int) < ((x0_1.length : Int) : Int) := of_decide_eq_true (by first | (with_reducible assumption) | assumption); first | exact h_ | (have e_ := (Kd.R_reads' HO_0.out).1; omega) | simpa using h_); obtain rfl := k41_openM hM21; have HP21 := Kd.R_seg HX21.out (x5_1 : Int) (of_decide_eq_true (by first | (with_reducible assumption) | assumption)) (by have h_ : (x5_1 : Int) < ((x0_1.length : Int) : Int) := of_decide_eq_true (by first | (with_reducible assumption) | assumption); first | exact h_ | (have e_ := (Kd.R_reads' HO_0.out).1; omega) | simpa using h_) (seg := [.int .i64 (wrap64 ((wrap64 ((wrap64 ((wrap64 (x1_1 + 1)) + 1)) + 1)) + 1))]) (j := 4) hcl21 hcc21 (show 5 ≤ 7 from by decide) (x' := (⟨(rd_T41 y258 x5_1).f0, (rd_T41 y258 x5_1).f1, (rd_T41 y258 x5_1).f2, (rd_T41 y258 x5_1).f3, wrap64 ((wrap64 ((wrap64 ((wrap64 (x1_1 + 1)) + 1)) + 1)) + 1), (rd_T41 y258 x5_1).f5, (rd_T41 y258 x5_1).f6⟩ : S41)) (k41_mkM _ _ _ (⟨(rd_T41 y258 x5_1).f0, (rd_T41 y258 x5_1).f1, (rd_T41 y258 x5_1).f2, (rd_T41 y258 x5_1).f3, wrap64 ((wrap64 ((wrap64 ((wrap64 (x1_1 + 1)) + 1)) + 1)) + 1), (rd_T41 y258 x5_1).f5, (rd_T41 y258 x5_1).f6⟩ : S41) ) (fun _ hk => hk); have hx21_4 := hcc21 4 _ rfl; (try simp only [show (k41).sz = 7 from rfl, Nat.mul_one, Nat.add_zero] at hx21_4); have hf21_4 := hfr21 4; (try simp only [show (k41).sz = 7 from rfl, Nat.mul_one, Nat.add_zero] at hf21_4); clear hcl21 hcc21 hfr21 hM21) | ((with_reducible refine gate_store (t := 3) (p := 44) rfl ?_); refine store_event (t := 3) (p := 44) (v := ?vo_w22) (w1 := (w20.setCell ⟨go5, (x5_1 : Int).toNat * 7 + 4, none⟩ (.int .i64 (wrap64 ((wrap64 ((wrap64 ((wrap64 (x1_1 + 1)) + 1)) + 1)) + 1))))) ?hg ?ho ?hn ?hr ?_; (case ho => rfl); (case hg => rfl); (case hn => rfl); (case hr => first | (go_simp; done) | (go_simp; rfl)); intro w22 hw; have hg : w20.grownBy w22 (some go5) := (by rw [hw]; exact HP21.2); have hp_ : Kd.R k41 41 w22 w0.heap.size (fun k_ => (P0_ k_ ∨ w.heap.size ≤ k_)) (.slice (some ⟨go5, 0, none⟩) x0_1.length co12) y259 := (by rw [hw, Ny259.out]; exact HP21.1); clear HP21; have n0_ := Aside0.mk (hp_); have n1_ := Aside0.mk ((by rw [hw]; exact below_set (HB.out) GB5.out : Below w0.heap.size w0 w22)); have n2_ := Aside0.mk (Kept.of_grown (S := (fun k_ => P0_ k_)) hg zm0 (fun k_ e_ => (HO_0.out.1 k_ e_))); clear HO_0; clear HB; clear HK; have HO_0 := n0_; have HB := n1_; have HK := n2_; clear n0_ n1_ n2_; clear hg hw hp_; have p10 : 0 ≤ (x5_1 : Int) := of_decide_eq_true (by first | (with_reducible assumption) | assumption); have q10 : (x5_1 : Int) < ((x0_1.length : Int) : Int) := of_decide_eq_true (by first | (with_reducible assumption) | assumption); obtain ⟨ce10, hcl10, hM10, hcc10, hfr10⟩ := Kd.R_elem HO_0.out z41 (x5_1 : Int) p10 q10; obtain rfl := k41_openM hM10; have hx10_0 : w22.cell? ⟨go5, (x5_1 : Int).toNat * 7, none⟩ = some (.int .i64 ((rd_T41 y259 x5_1).f0)) := hcc10 0 _ rfl; have hx10_1 : w22.cell? ⟨go5, (x5_1 : Int).toNat * 7 + 1, none⟩ = some (.int .i64 ((rd_T41 y259 x5_1).f1)) := hcc10 1 _ rfl; have hx10_2 : w22.cell? ⟨go5, (x5_1 : Int).toNat * 7 + 2, none⟩ = some (.int .i64 ((rd_T41 y259 x5_1).f2)) := hcc10 2 _ rfl; have hx10_3 : w22.cell? ⟨go5, (x5_1 : Int).toNat * 7 + 3, none⟩ = some (.int .i64 ((rd_T41 y259 x5_1).f3)) := hcc10 3 _ rfl; have hx10_4 : w22.cell? ⟨go5, (x5_1 : Int).toNat * 7 + 4, none⟩ = some (.int .i64 ((rd_T41 y259 x5_1).f4)) := hcc10 4 _ rfl; have hx10_5 : w22.cell? ⟨go5, (x5_1 : Int).toNat * 7 + 5, none⟩ = some (.int .i64 ((rd_T41 y259 x5_1).f5)) := hcc10 5 _ rfl; have hx10_6 : w22.cell? ⟨go5, (x5_1 : Int).toNat * 7 + 6, none⟩ = some (.int .i64 ((rd_T41 y259 x5_1).f6)) := hcc10 6 _ rfl; have hf10_0 : w22.frozen? ⟨go5, (x5_1 : Int).toNat * 7, none⟩ = false := hfr10 0; have hf10_1 : w22.frozen? ⟨go5, (x5_1 : Int).toNat * 7 + 1, none⟩ = false := hfr10 1; have hf10_2 : w22.frozen? ⟨go5, (x5_1 : Int).toNat * 7 + 2, none⟩ = false := hfr10 2; have hf10_3 : w22.frozen? ⟨go5, (x5_1 : Int).toNat * 7 + 3, none⟩ = false := hfr10 3; have hf10_4 : w22.frozen? ⟨go5, (x5_1 : Int).toNat * 7 + 4, none⟩ = false := hfr10 4; have hf10_5 : w22.frozen? ⟨go5, (x5_1 : Int).toNat * 7 + 5, none⟩ = false := hfr10 5; have hf10_6 : w22.frozen? ⟨go5, (x5_1 : Int).toNat * 7 + 6, none⟩ = false := hfr10 6; clear hcl10 hcc10 hfr10 hM10; replace p10 := eq_true p10; replace q10 := eq_true q10; have HX23 := Aside0.mk (show Kd.R k41 41 w22 w0.heap.size (fun k_ => (P0_ k_ ∨ w.heap.size ≤ k_)) (.slice (some ⟨go5, 0, none⟩) x0_1.length co12) y259 from zm1); obtain ⟨ce23, hcl23, hM23, hcc23, hfr23⟩ := Kd.R_elem HX23.out z41 (x5_1 : Int) (of_decide_eq_true (by first | (with_reducible assumption) | assumption)) (by have h_ : (x5_1 : Int) < ((x0_1.length : Int) : Int) := of_decide_eq_true (by first | (with_reducible assumption) | assumption); first | exact h_ | (have e_ := (Kd.R_reads' HO_0.out).1; omega) | simpa using h_); obtain rfl := k41_openM hM23; have HP23 := Kd.R_seg HX23.out (x5_1 : Int) (of_decide_eq_true (by first | (with_reducible assumption) | assumption)) (by have h_ : (x5_1 : Int) < ((x0_1.length : Int) : Int) := of_decide_eq_true (by first | (with_reducible assumption) | assumption); first | exact h_ | (have e_ := (Kd.R_reads' HO_0.out).1; omega) | simpa using h_) (seg := [.int .i64 (wrap64 ((wrap64 ((wrap64 ((wrap64 ((wrap64 (x1_1 + 1)) + 1)) + 1)) + 1)) + 1))]) (j := 5) hcl23 hcc23 (show 6 ≤ 7 from by decide) (x' := (⟨(rd_T41 y259 x5_1).f0, (rd_T41 y259 x5_1).f1, (rd_T41 y259 x5_1).f2, (rd_T41 y259 x5_1).f3, (rd_T41 y259 x5_1).f4, wrap64 ((wrap64 ((wrap64 ((wrap64 ((wrap64 (x1_1 + 1)) + 1)) + 1)) + 1)) + 1), (rd_T41 y259 x5_1).f6⟩ : S41)) (k41_mkM _ _ _ (⟨(rd_T41 y259 x5_1).f0, (rd_T41 y259 x5_1).f1, (rd_T41 y259 x5_1).f2, (rd_T41 y259 x5_1).f3, (rd_T41 y259 x5_1).f4, wrap64 ((wrap64 ((wrap64 ((wrap64 ((wrap64 (x1_1 + 1)) + 1)) + 1)) + 1)) + 1), (rd_T41 y259 x5_1).f6⟩ : S41) ) (fun _ hk => hk); have hx23_5 := hcc23 5 _ rfl; (try simp only [show (k41).sz = 7 from rfl, Nat.mul_one, Nat.add_zero] at hx23_5); have hf23_5 := hfr23 5; (try simp only [show (k41).sz = 7 from rfl, Nat.mul_one, Nat.add_zero] at hf23_5); clear hcl23 hcc23 hfr23 hM23) | ((with_reducible refine gate_store (t := 3) (p := 51) rfl ?_); refine store_event (t := 3) (p := 51) (v := ?vo_w24) (w1 := (w22.setCell ⟨go5, (x5_1 : Int).toNat * 7 + 5, none⟩ (.int .i64 (wrap64 ((wrap64 ((wrap64 ((wrap64 ((wrap64 (x1_1 + 1)) + 1)) + 1)) + 1)) + 1))))) ?hg ?ho ?hn ?hr ?_; (case ho => rfl); (case hg => rfl); (case hn => rfl); (case hr => first | (go_simp; done) | (go_simp; rfl)); intro w24 hw; have hg : w22.grownBy w24 (some go5) := (by rw [hw]; exact HP23.2); have hp_ : Kd.R k41 41 w24 w0.heap.size (fun k_ => (P0_ k_ ∨ w.heap.size ≤ k_)) (.slice (some ⟨go5, 0, none⟩) x0_1.length co12) y260 := (by rw [hw, Ny260.out]; exact HP23.1); clear HP23; have n0_ := Aside0.mk (hp_); have n1_ := Aside0.mk ((by rw [hw]; exact below_set (HB.out) GB5.out : Below w0.heap.size w0 w24)); have n2_ := Aside0.mk (Kept.of_grown (S := (fun k_ => P0_ k_)) hg zm0 (fun k_ e_ => (HO_0.out.1 k_ e_))); clear HO_0; clear HB; clear HK; have HO_0 := n0_; have HB := n1_; have HK := n2_; clear n0_ n1_ n2_; clear hg hw hp_; have p11 : 0 ≤ (x5_1 : Int) := of_decide_eq_true (by first | (with_reducible assumption) | assumption); have q11 : (x5_1 : Int) < ((x0_1.length : Int) : Int) := of_decide_eq_true (by first | (with_reducible assumption) | assumption); obtain ⟨ce11, hcl11, hM11, hcc11, hfr11⟩ := Kd.R_elem HO_0.out z41 (x5_1 : Int) p11 q11; obtain rfl := k41_openM hM11; have hx11_0 : w24.cell? ⟨go5, (x5_1 : Int).toNat * 7, none⟩ = some (.int .i64 ((rd_T41 y260 x5_1).f0)) := hcc11 0 _ rfl; have hx11_1 : w24.cell? ⟨go5, (x5_1 : Int).toNat * 7 + 1, none⟩ = some (.int .i64 ((rd_T41 y260 x5_1).f1)) := hcc11 1 _ rfl; have hx11_2 : w24.cell? ⟨go5, (x5_1 : Int).toNat * 7 + 2, none⟩ = some (.int .i64 ((rd_T41 y260 x5_1).f2)) := hcc11 2 _ rfl; have hx11_3 : w24.cell? ⟨go5, (x5_1 : Int).toNat * 7 + 3, none⟩ = some (.int .i64 ((rd_T41 y260 x5_1).f3)) := hcc11 3 _ rfl; have hx11_4 : w24.cell? ⟨go5, (x5_1 : Int).toNat * 7 + 4, none⟩ = some (.int .i64 ((rd_T41 y260 x5_1).f4)) := hcc11 4 _ rfl; have hx11_5 : w24.cell? ⟨go5, (x5_1 : Int).toNat * 7 + 5, none⟩ = some (.int .i64 ((rd_T41 y260 x5_1).f5)) := hcc11 5 _ rfl; have hx11_6 : w24.cell? ⟨go5, (x5_1 : Int).toNat * 7 + 6, none⟩ = some (.int .i64 ((rd_T41 y260 x5_1).f6)) := hcc11 6 _ rfl; have hf11_0 : w24.frozen? ⟨go5, (x5_1 : Int).toNat * 7, none⟩ = false := hfr11 0; have hf11_1 : w24.frozen? ⟨go5, (x5_1 : Int).toNat * 7 + 1, none⟩ = false := hfr11 1; have hf11_2 : w24.frozen? ⟨go5, (x5_1 : Int).toNat * 7 + 2, none⟩ = false := hfr11 2; have hf11_3 : w24.frozen? ⟨go5, (x5_1 : Int).toNat * 7 + 3, none⟩ = false := hfr11 3; have hf11_4 : w24.frozen? ⟨go5, (x5_1 : Int).toNat * 7 + 4, none⟩ = false := hfr11 4; have hf11_5 : w24.frozen? ⟨go5, (x5_1 : Int).toNat * 7 + 5, none⟩ = false := hfr11 5; have hf11_6 : w24.frozen? ⟨go5, (x5_1 : Int).toNat * 7 + 6, none⟩ = false := hfr11 6; clear hcl11 hcc11 hfr11 hM11; replace p11 := eq_true p11; replace q11 := eq_true q11; have HX25 := Aside0.mk (show Kd.R k41 41 w24 w0.heap.size (fun k_ => (P0_ k_ ∨ w.heap.size ≤ k_)) (.slice (some ⟨go5, 0, none⟩) x0_1.length co12) y260 from zm1); obtain ⟨ce25, hcl25, hM25, hcc25, hfr25⟩ := Kd.R_elem HX25.out z41 (x5_1 : Int) (of_decide_eq_true (by first | (with_reducible assumption) | assumption)) (by have h_ : (x5_1 : Int) < ((x0_1.length : Int) : Int) := of_decide_eq_true (by first | (with_reducible assumption) | assumption); first | exact h_ | (have e_ := (Kd.R_reads' HO_0.out).1; omega) | simpa using h_); obtain rfl := k41_openM hM25; have HP25 := Kd.R_seg HX25.out (x5_1 : Int) (of_decide_eq_true (by first | (with_reducible assumption) | assumption)) (by have h_ : (x5_1 : Int) < ((x0_1.length : Int) : Int) := of_decide_eq_true (by first | (with_reducible assumption) | assumption); first | exact h_ | (have e_ := (Kd.R_reads' HO_0.out).1; omega) | simpa using h_) (seg := [.int .i64 (wrap64 ((wrap64 ((wrap64 ((wrap64 ((wrap64 ((wrap64 (x1_1 + 1)) + 1)) + 1)) + 1)) + 1)) + 1))]) (j := 6) hcl25 hcc25 (show 7 ≤ 7 from by decide) (x' := (⟨(rd_T41 y260 x5_1).f0, (rd_T41 y260 x5_1).f1, (rd_T41 y260 x5_1).f2, (rd_T41 y260 x5_1).f3, (rd_T41 y260 x5_1).f4, (rd_T41 y260 x5_1).f5, wrap64 ((wrap64 ((wrap64 ((wrap64 ((wrap64 ((wrap64 (x1_1 + 1)) + 1)) + 1)) + 1)) + 1)) + 1)⟩ : S41)) (k41_mkM _ _ _ (⟨(rd_T41 y260 x5_1).f0, (rd_T41 y260 x5_1).f1, (rd_T41 y260 x5_1).f2, (rd_T41 y260 x5_1).f3, (rd_T41 y260 x5_1).f4, (rd_T41 y260 x5_1).f5, wrap64 ((wrap64 ((wrap64 ((wrap64 ((wrap64 ((wrap64 (x1_1 + 1)) + 1)) + 1)) + 1)) + 1)) + 1)⟩ : S41) ) (fun _ hk => hk); have hx25_6 := hcc25 6 _ rfl; (try simp only [show (k41).sz = 7 from rfl, Nat.mul_one, Nat.add_zero] at hx25_6); have hf25_6 := hfr25 6; (try simp only [show (k41).sz = 7 from rfl, Nat.mul_one, Nat.add_zero] at hf25_6); clear hcl25 hcc25 hfr25 hM25) | ((with_reducible refine gate_store (t := 3) (p := 58) rfl ?_); refine store_event (t := 3) (p := 58) (v := ?vo_w26) (w1 := (w24.setCell ⟨go5, (x5_1 : Int).toNat * 7 + 6, none⟩ (.int .i64 (wrap64 ((wrap64 ((wrap64 ((wrap64 ((wrap64 ((wrap64 (x1_1 + 1)) + 1)) + 1)) + 1)) + 1)) + 1))))) ?hg ?ho ?hn ?hr ?_; (case ho => rfl); (case hg => rfl); (case hn => rfl); (case hr => first | (go_simp; done) | (go_simp; rfl)); intro w26 hw; have hg : w24.grownBy w26 (some go5) := (by rw [hw]; exact HP25.2); have hp_ : Kd.R k41 41 w26 w0.heap.size (fun k_ => (P0_ k_ ∨ w.heap.size ≤ k_)) (.slice (some ⟨go5, 0, none⟩) x0_1.length co12) y261 := (by rw [hw, Ny261.out]; exact HP25.1); clear HP25; have n0_ := Aside0.mk (hp_); have n1_ := Aside0.mk ((by rw [hw]; exact below_set (HB.out) GB5.out : Below w0.heap.size w0 w26)); have n2_ := Aside0.mk (Kept.of_grown (S := (fun k_ => P0_ k_)) hg zm0 (fun k_ e_ => (HO_0.out.1 k_ e_))); clear HO_0; clear HB; clear HK; have HO_0 := n0_; have HB := n1_; have HK := n2_; clear n0_ n1_ n2_; clear hg hw hp_))
     go_roundg k1
     case measure => have := HK1.out; omega
     case rel => exact ⟨(y261), (wrap64 ((wrap64 ((wrap64 ((wrap64 ((wrap64 ((wrap64 ((wrap64 (x1_1 + 1)) + 1)) + 1)) + 1)) + 1)) + 1)) + 1)), (wrap64 (x5_1 + 1)), (by first | rfl | (simp; done) | (simp [*]; done)), (by first | rfl | (simp; done) | (simp [*]; done)), H', ⟨by have := HK1.out; omega⟩, ⟨by (with_reducible repeat (first | apply Kd.R_alloc | apply Kd.R_drewN | apply Kd.R_drew)); exact HO_0.out⟩, ⟨by repeat (first | (with_reducible first | exact HK.out | apply Kept.alloc | apply Kept.drewN | apply Kept.drew) | exact HK.out)⟩, ⟨by repeat (first | (with_reducible first | exact HB.out | apply below_alloc | apply pw_below_drewN | apply below_drew1) | exact HB.out)⟩⟩
    ·rw [if_neg c4] at H
     exact absurd H (by simp)
   ·rw [if_neg c3] at H
    have c3b0 : decide (x5_1 < (x0_1.length : Int)) = false := decide_eq_false c3
    clear c3
    simp only [Option.some.injEq, Prod.mk.injEq] at H
    obtain ⟨rfl, rfl⟩ := H
    obtain ⟨Ao27, co27, eo27⟩ := Kd.R_slice HO_0.out
    subst eo27
    obtain ⟨cq27, eq27⟩ := hcl _ _ _ rfl
    subst eq27
    go_wp2
    go_ret
    exact ⟨by first | rfl | (simp [errW_none, errW_some] <;> rfl) | (simp [*, errW_none, errW_some] <;> rfl), by (with_reducible repeat (first | apply Kd.R_alloc | apply Kd.R_drewN | apply Kd.R_drew)); exact HO_0.out, by repeat (first | (with_reducible first | exact HB.out | apply below_alloc | apply pw_below_drewN | apply below_drew1) | exact HB.out), by repeat (first | (with_reducible first | exact HK.out | apply Kept.alloc | apply Kept.drewN | apply Kept.drew) | exact HK.out)⟩
theorem marksClip (k : Nat) (A : Option Addr) (c c2 : Nat) (l : List S41) (a1 r1 : Int) (r2 : List S41) (w0 w : World) (hB : Below w0.heap.size w0 w) (ho : Kd.R k41 41 w w0.heap.size (fun k_ => some k_ = (.slice A l.length c : Value).ownBlock) (.slice A l.length c) l) (h : laws_markSealS.f k l a1 = some (r1, r2)) : Calls Try.prog 31 #[.slice A l.length c2, .int .i64 a1] w fun e w' => e = .returned (.int .i64 r1) ∧ Kd.R k41 41 w' w0.heap.size (fun _ => True) (.slice A l.length c) r2 ∧ Below w0.heap.size w0 w' ∧ Kept w w' (fun k_ => some k_ = (.slice A l.length c : Value).ownBlock) :=
  (markSealSClip k (fun k_ => some k_ = (.slice A l.length c : Value).ownBlock) (.slice A l.length c) (.slice A l.length c2) (fun A' n' c' e_ => by cases e_; exact ⟨_, rfl⟩) l a1 r1 r2 w0 w hB ho h).mono (fun e w' q => ⟨q.1, Kd.R_mono q.2.1 (fun _ _ => trivial), q.2.2⟩)
set_option maxHeartbeats 16000000 in
set_option maxRecDepth 100000 in
theorem kdcLaw (k : Nat) (a0_0 : Int) (A0 : Option Addr) (c0 : Nat) (l0 : List S58) (a1_0 a1_1 a1_2 a1_3 : Int) (A1 : Option Addr) (c1 : Nat) (l1 : List S58) (a2 : Int) (s1 s2 : Int) (L0 L1 : List S41) (n m0 m1 m2 m3 : Int) (C SS : List S41) (b : Bool) (q1 q2 p1 p2 : Int) (L0' L1' C' SS' : List S41) (w : World) (hr0 : Kd.C k58 w A0 l0.length l0) (hc0 : l0.length ≤ c0) (hr1 : Kd.C k58 w A1 l1.length l1) (hc1 : l1.length ≤ c1) (h0 : laws_szKdc.f a0_0 l0 1048576 = some s1) (h1 : laws_szMsg.f a1_0 a1_1 a1_2 a1_3 l1 s1 = some s2) (h2 : laws_toKdc.f k a0_0 l0 = some (a0_0, L0)) (h3 : laws_toMsg.f k a1_0 a1_1 a1_2 a1_3 l1 = some (a1_0, a1_1, a1_2, a1_3, L1)) (h4 : spec_KdcAs.f k a0_0 L0 a1_0 a1_1 a1_2 a1_3 L1 a2 = some (n, C, m0, m1, m2, m3, SS, b)) (h5 : impl_KdcAs.f k a0_0 L0 a1_0 a1_1 a1_2 a1_3 L1 a2 = some (n, C, m0, m1, m2, m3, SS, b)) (h6 : laws_eqKdc.f k n C n C = some true) (h7 : laws_eqMsg.f k m0 m1 m2 m3 SS m0 m1 m2 m3 SS = some true) (h8 : laws_eqKdc.f k a0_0 L0 a0_0 L0 = some true) (h9 : laws_eqMsg.f k a1_0 a1_1 a1_2 a1_3 L1 a1_0 a1_1 a1_2 a1_3 L1 = some true) (h10 : laws_markKdc.f k a0_0 L0 1 = some (q1, L0')) (h11 : laws_markMsg.f k a1_0 a1_1 a1_2 a1_3 L1 q1 = some (q2, L1')) (h12 : laws_markKdc.f k n C 1 = some (p1, C')) (h13 : laws_markMsg.f k m0 m1 m2 m3 SS p1 = some (p2, SS')) (h14 : laws_heldKdc.f k n C' 1 = some p1) (h15 : laws_heldMsg.f k m0 m1 m2 m3 SS' p1 = some p2) (hms : laws_markSealS.f k C 1 = some (p1, C')) (d0 : ¬ s1 < 0) (d1 : ¬ s2 < 0) (d2 : ¬ q2 < 0) (d3 : ¬ p1 < 0) (d4 : ¬ p2 < 0) :
    Calls Try.prog 10 #[.agg #[.int .i64 a0_0, .slice A0 l0.length c0], .agg #[.int .i64 a1_0, .int .i64 a1_1, .int .i64 a1_2, .int .i64 a1_3, .slice A1 l1.length c1], .int .i64 a2] w fun e w' => e = .returned (.bool true) ∧ Below w.heap.size w w' := by
  have HR0 := Aside0.mk hr0
  have HR1 := Aside0.mk hr1
  have HL0 := Aside0.mk hc0
  have HL1 := Aside0.mk hc1
  have HB := Aside0.mk (Below.refl w.heap.size w)
  clear hr0 hr1 hc0 hc1
  have HZ1 := Aside0.mk h0
  have HZ2 := Aside0.mk h1
  have HT0 := Aside0.mk h2
  have HT1 := Aside0.mk h3
  have HS := Aside0.mk h4
  have HI := Aside0.mk h5
  have HE0 := Aside0.mk h6
  have HE1 := Aside0.mk h7
  have HE2 := Aside0.mk h8
  have HE3 := Aside0.mk h9
  have HM0 := Aside0.mk h10
  have HM1 := Aside0.mk h11
  have HM2 := Aside0.mk h12
  have HM3 := Aside0.mk h13
  have HH0 := Aside0.mk h14
  have HH1 := Aside0.mk h15
  have d0b : decide (s1 < 0) = false := decide_eq_false d0
  have d1b : decide (s2 < 0) = false := decide_eq_false d1
  have d2b : decide (q2 < 0) = false := decide_eq_false d2
  have d3b : decide (p1 < 0) = false := decide_eq_false d3
  have d4b : decide (p2 < 0) = false := decide_eq_false d4
  have HMS := Aside0.mk hms
  have bb_ : (b != b) = false := by simp
  have pp_ : (p2 != p2) = false := by simp
  clear h0 h1 h2 h3 h4 h5 h6 h7 h8 h9 h10 h11 h12 h13 h14 h15 d0 d1 d2 d3 d4
  go_enter Try.func10, Try.ntmps10
  go_upto_region 8 with (first | ((with_reducible refine gate_dst (N := 3) rfl ?_); refine box_event ?hg (N := 3) ?hd (cs := #[.int .i64 a0_0, .slice A0 l0.length c0]) (t := 85) ?hr ?_; (case hd => rfl); (case hg => rfl); (case hr => first | (go_simp; done) | (go_simp; rfl)); intro g3 hg_ w1 hbox_ hb_; have HK3 := Aside0.mk hbox_; have mm_ := Aside0.mk (below_step z38x8 hb_); clear HB; have HB := mm_; clear mm_; clear hb_ hbox_ hg_) | ((with_reducible refine gate_dst (N := 4) rfl ?_); refine box_event ?hg (N := 4) ?hd (cs := #[.int .i64 a1_0, .int .i64 a1_1, .int .i64 a1_2, .int .i64 a1_3, .slice A1 l1.length c1]) (t := 87) ?hr ?_; (case hd => rfl); (case hg => rfl); (case hr => first | (go_simp; done) | (go_simp; rfl)); intro g4 hg_ w2 hbox_ hb_; have HK4 := Aside0.mk hbox_; have mm0_ := Aside0.mk (below_step z38x8 hb_); have mm1_ := Aside0.mk (blkB0 hb_ z38x14); clear HB; have HB := mm0_; clear mm0_; clear HK3; have HK3 := mm1_; clear mm1_; have hc0 : w2.cell? ⟨g3, 0, none⟩ = some (.int .i64 a0_0) := (blk_cell HK3.out 0).trans rfl; have hc1 : w2.cell? ⟨g3, 1, none⟩ = some (.slice A0 l0.length c0) := (blk_cell HK3.out 1).trans rfl; clear hb_ hbox_ hg_) | (go_at_call 51; refine (laws_szKdc.calls a0_0 A0 c0 l0 1048576 s1 _ (Kd.C_below HR0.out z38x8) HL0.out HZ1.out).mono ?_; rintro e w3 ⟨rfl, hb_⟩; have mm0_ := Aside0.mk (below_step z38x8 hb_); have mm1_ := Aside0.mk (blkB0 hb_ z38x14); have mm2_ := Aside0.mk (blkB0 hb_ z38x15); clear HB; have HB := mm0_; clear mm0_; clear HK3; have HK3 := mm1_; clear mm1_; clear HK4; have HK4 := mm2_; clear mm2_; clear hc0 hc1 hb_; have hc0 : w3.cell? ⟨g4, 0, none⟩ = some (.int .i64 a1_0) := (blk_cell HK4.out 0).trans rfl; have hc1 : w3.cell? ⟨g4, 1, none⟩ = some (.int .i64 a1_1) := (blk_cell HK4.out 1).trans rfl; have hc2 : w3.cell? ⟨g4, 2, none⟩ = some (.int .i64 a1_2) := (blk_cell HK4.out 2).trans rfl; have hc3 : w3.cell? ⟨g4, 3, none⟩ = some (.int .i64 a1_3) := (blk_cell HK4.out 3).trans rfl; have hc4 : w3.cell? ⟨g4, 4, none⟩ = some (.slice A1 l1.length c1) := (blk_cell HK4.out 4).trans rfl) | (go_at_call 52; refine (laws_szMsg.calls a1_0 a1_1 a1_2 a1_3 A1 c1 l1 s1 s2 _ (Kd.C_below HR1.out z38x8) HL1.out HZ2.out).mono ?_; rintro e w4 ⟨rfl, hb_⟩; have mm0_ := Aside0.mk (below_step z38x8 hb_); have mm1_ := Aside0.mk (blkB0 hb_ z38x14); have mm2_ := Aside0.mk (blkB0 hb_ z38x15); clear HB; have HB := mm0_; clear mm0_; clear HK3; have HK3 := mm1_; clear mm1_; clear HK4; have HK4 := mm2_; clear mm2_; clear hc0 hc1 hc2 hc3 hc4 hb_))
  refine start_ (n := 15) (S := fun w' => Below w4.heap.size w4 w') (ds := []) #[false, false, false, false, false, false, false, false, false, false, false, false, false, false, false] (by kernel_rfl) rfl rfl z38x1 (fun hS => ?_); refine with_tabW kdcTab8 kdcBits (fun HT_ HW_ => ?_)
  refine pure_ (i := 4) (N := some 37) (v := ?_) (a' := ?_) #[false, false, false, false, true, false, false, false, false, false, false, false, false, false, false] rfl rfl (any_of HT_.out (by kernel_rfl)) (fun _ _ _ h => h) (Or.inl ⟨by rfl, ?_⟩) ?_ ?_
  rotate_left
  · intro w'
    go_simp
    with_reducible rfl
  rotate_left
  · simp only [Act.put, List.setIfInBounds_toArray, List.set_cons_zero, List.set_cons_succ, i64_w, i32_w]
    rfl
  refine take_ (i := 0) (N := some 33) (v := ?_) (a' := ?_) #[true, false, false, false, true, false, false, false, false, false, false, false, false, false, false] rfl rfl (take_ofW HT_.out HW_.out (by kernel_rfl)) (fun _ _ _ h => h) (Or.inl ⟨by rfl, ?_⟩) hS ?_ ?_
  rotate_left
  · intro w' hS_
    replace hS_ : Below w4.heap.size w4 w' := hS_
    have s0 : w'.cell? ⟨g3, 0, none⟩ = some (.int .i64 a0_0) := (blk_cell (blkB0 hS_ HK3.out) 0).trans rfl
    have s1 : w'.cell? ⟨g3, 1, none⟩ = some (.slice A0 l0.length c0) := (blk_cell (blkB0 hS_ HK3.out) 1).trans rfl
    go_simp
    with_reducible rfl
  rotate_left
  · simp only [Act.put, List.setIfInBounds_toArray, List.set_cons_zero, List.set_cons_succ, i64_w, i32_w]
    rfl
  refine take_ (i := 2) (N := some 35) (v := ?_) (a' := ?_) #[true, false, true, false, true, false, false, false, false, false, false, false, false, false, false] rfl rfl (take_ofW HT_.out HW_.out (by kernel_rfl)) (fun _ _ _ h => h) (Or.inl ⟨by rfl, ?_⟩) hS ?_ ?_
  rotate_left
  · intro w' hS_
    replace hS_ : Below w4.heap.size w4 w' := hS_
    have s0 : w'.cell? ⟨g4, 0, none⟩ = some (.int .i64 a1_0) := (blk_cell (blkB0 hS_ HK4.out) 0).trans rfl
    have s1 : w'.cell? ⟨g4, 1, none⟩ = some (.int .i64 a1_1) := (blk_cell (blkB0 hS_ HK4.out) 1).trans rfl
    have s2 : w'.cell? ⟨g4, 2, none⟩ = some (.int .i64 a1_2) := (blk_cell (blkB0 hS_ HK4.out) 2).trans rfl
    have s3 : w'.cell? ⟨g4, 3, none⟩ = some (.int .i64 a1_3) := (blk_cell (blkB0 hS_ HK4.out) 3).trans rfl
    have s4 : w'.cell? ⟨g4, 4, none⟩ = some (.slice A1 l1.length c1) := (blk_cell (blkB0 hS_ HK4.out) 4).trans rfl
    go_simp
    with_reducible rfl
  rotate_left
  · simp only [Act.put, List.setIfInBounds_toArray, List.set_cons_zero, List.set_cons_succ, i64_w, i32_w]
    rfl
  refine join_ (σ := Option Addr × Nat × Option Addr × Nat × Option Addr × Nat × Nat × Option Addr × Nat × Nat × Nat) 3 #[true, true, true, true, true, true, true, true, true, true, true, true, false, false, false] (fun s_ => [(34, .agg #[.int .i64 a0_0, .slice s_.1 L0.length s_.2.1]), (36, .agg #[.int .i64 a1_0, .int .i64 a1_1, .int .i64 a1_2, .int .i64 a1_3, .slice s_.2.2.1 L1.length s_.2.2.2.1]), (38, .tuple #[.agg #[.int .i64 n, .slice s_.2.2.2.2.1 C.length s_.2.2.2.2.2.2.1], .agg #[.int .i64 m0, .int .i64 m1, .int .i64 m2, .int .i64 m3, .slice s_.2.2.2.2.2.2.2.1 SS.length s_.2.2.2.2.2.2.2.2.1], .bool b]), (32, .tuple #[.agg #[.int .i64 n, .slice s_.2.2.2.2.1 C.length s_.2.2.2.2.2.2.1], .agg #[.int .i64 m0, .int .i64 m1, .int .i64 m2, .int .i64 m3, .slice s_.2.2.2.2.2.2.2.1 SS.length s_.2.2.2.2.2.2.2.2.1], .bool b]), (39, .agg #[.int .i64 n, .slice s_.2.2.2.2.1 C.length s_.2.2.2.2.2.2.1]), (40, .agg #[.int .i64 m0, .int .i64 m1, .int .i64 m2, .int .i64 m3, .slice s_.2.2.2.2.2.2.2.1 SS.length s_.2.2.2.2.2.2.2.2.1]), (41, .bool b), (8, .pointer (some ⟨s_.2.2.2.2.2.2.2.2.2.1, 0, none⟩)), (9, .pointer (some ⟨s_.2.2.2.2.2.2.2.2.2.2, 0, none⟩))]) (fun s_ w' => (Below w4.heap.size w4 w') ∧ (C.length ≤ s_.2.2.2.2.2.2.1 ∧ Kd.R k41 41 w' w4.heap.size (fun _ => True) (.slice s_.2.2.2.2.1 C.length s_.2.2.2.2.2.1) C) ∧ (Kd.R k41 41 w' w4.heap.size (fun _ => True) (.slice s_.2.2.2.2.2.2.2.1 SS.length s_.2.2.2.2.2.2.2.2.1) SS) ∧ (w'.heap[s_.2.2.2.2.2.2.2.2.2.1]? = some (.cells #[.int .i64 0, .slice none 0 0] 64 (0, 0))) ∧ (w4.heap.size ≤ s_.2.2.2.2.2.2.2.2.2.1) ∧ (w'.heap[s_.2.2.2.2.2.2.2.2.2.2]? = some (.cells #[.int .i64 0, .int .i64 0, .int .i64 0, .int .i64 0, .slice none 0 0] 34 (0, 0))) ∧ (w4.heap.size ≤ s_.2.2.2.2.2.2.2.2.2.2) ∧ (s_.2.2.2.2.2.2.2.2.2.1 ≠ s_.2.2.2.2.2.2.2.2.2.2)) ?_ ?_
  rotate_left
  · intro hJ311
    refine join_ (σ := Option Addr × Nat × Option Addr × Nat × Nat × Nat) 8 #[true, true, true, true, true, false, false, false, false, false, true, true, false, false, false] (fun s_ => [(34, .agg #[.int .i64 a0_0, .slice s_.1 L0.length s_.2.1]), (36, .agg #[.int .i64 a1_0, .int .i64 a1_1, .int .i64 a1_2, .int .i64 a1_3, .slice s_.2.2.1 L1.length s_.2.2.2.1]), (8, .pointer (some ⟨s_.2.2.2.2.1, 0, none⟩)), (9, .pointer (some ⟨s_.2.2.2.2.2, 0, none⟩))]) (fun s_ w' => (Below w4.heap.size w4 w') ∧ (Kd.C k41 w' s_.1 L0.length L0 ∧ L0.length ≤ s_.2.1) ∧ (Kd.C k41 w' s_.2.2.1 L1.length L1 ∧ L1.length ≤ s_.2.2.2.1) ∧ (w'.heap[s_.2.2.2.2.1]? = some (.cells #[.int .i64 0, .slice none 0 0] 64 (0, 0))) ∧ (w4.heap.size ≤ s_.2.2.2.2.1) ∧ (w'.heap[s_.2.2.2.2.2]? = some (.cells #[.int .i64 0, .int .i64 0, .int .i64 0, .int .i64 0, .slice none 0 0] 34 (0, 0))) ∧ (w4.heap.size ≤ s_.2.2.2.2.2) ∧ (s_.2.2.2.2.1 ≠ s_.2.2.2.2.2)) ?_ ?_
    rotate_left
    · intro hJ211
      refine join_ (σ := Option Addr × Nat × Option Addr × Nat × Option Addr × Nat × Nat × Option Addr × Nat × Nat) 4 #[true, true, true, true, true, true, true, true, true, true, false, true, false, false, false] (fun s_ => [(34, .agg #[.int .i64 a0_0, .slice s_.1 L0.length s_.2.1]), (36, .agg #[.int .i64 a1_0, .int .i64 a1_1, .int .i64 a1_2, .int .i64 a1_3, .slice s_.2.2.1 L1.length s_.2.2.2.1]), (38, .tuple #[.agg #[.int .i64 n, .slice s_.2.2.2.2.1 C.length s_.2.2.2.2.2.2.1], .agg #[.int .i64 m0, .int .i64 m1, .int .i64 m2, .int .i64 m3, .slice s_.2.2.2.2.2.2.2.1 SS.length s_.2.2.2.2.2.2.2.2.1], .bool b]), (32, .tuple #[.agg #[.int .i64 n, .slice s_.2.2.2.2.1 C.length s_.2.2.2.2.2.2.1], .agg #[.int .i64 m0, .int .i64 m1, .int .i64 m2, .int .i64 m3, .slice s_.2.2.2.2.2.2.2.1 SS.length s_.2.2.2.2.2.2.2.2.1], .bool b]), (39, .agg #[.int .i64 n, .slice s_.2.2.2.2.1 C.length s_.2.2.2.2.2.2.1]), (40, .agg #[.int .i64 m0, .int .i64 m1, .int .i64 m2, .int .i64 m3, .slice s_.2.2.2.2.2.2.2.1 SS.length s_.2.2.2.2.2.2.2.2.1]), (41, .bool b), (9, .pointer (some ⟨s_.2.2.2.2.2.2.2.2.2, 0, none⟩))]) (fun s_ w' => (Below w4.heap.size w4 w') ∧ (C.length ≤ s_.2.2.2.2.2.2.1 ∧ Kd.R k41 41 w' w4.heap.size (fun _ => True) (.slice s_.2.2.2.2.1 C.length s_.2.2.2.2.2.1) C) ∧ (Kd.R k41 41 w' w4.heap.size (fun _ => True) (.slice s_.2.2.2.2.2.2.2.1 SS.length s_.2.2.2.2.2.2.2.2.1) SS) ∧ (w'.heap[s_.2.2.2.2.2.2.2.2.2]? = some (.cells #[.int .i64 0, .int .i64 0, .int .i64 0, .int .i64 0, .slice none 0 0] 34 (0, 0))) ∧ (w4.heap.size ≤ s_.2.2.2.2.2.2.2.2.2)) ?_ ?_
      rotate_left
      · intro hJ301
        refine join_ (σ := Option Addr × Nat × Option Addr × Nat × Option Addr × Nat × Nat × Option Addr × Nat × Nat) 4 #[true, true, true, true, true, true, true, true, true, true, true, false, false, false, false] (fun s_ => [(34, .agg #[.int .i64 a0_0, .slice s_.1 L0.length s_.2.1]), (36, .agg #[.int .i64 a1_0, .int .i64 a1_1, .int .i64 a1_2, .int .i64 a1_3, .slice s_.2.2.1 L1.length s_.2.2.2.1]), (38, .tuple #[.agg #[.int .i64 n, .slice s_.2.2.2.2.1 C.length s_.2.2.2.2.2.2.1], .agg #[.int .i64 m0, .int .i64 m1, .int .i64 m2, .int .i64 m3, .slice s_.2.2.2.2.2.2.2.1 SS.length s_.2.2.2.2.2.2.2.2.1], .bool b]), (32, .tuple #[.agg #[.int .i64 n, .slice s_.2.2.2.2.1 C.length s_.2.2.2.2.2.2.1], .agg #[.int .i64 m0, .int .i64 m1, .int .i64 m2, .int .i64 m3, .slice s_.2.2.2.2.2.2.2.1 SS.length s_.2.2.2.2.2.2.2.2.1], .bool b]), (39, .agg #[.int .i64 n, .slice s_.2.2.2.2.1 C.length s_.2.2.2.2.2.2.1]), (40, .agg #[.int .i64 m0, .int .i64 m1, .int .i64 m2, .int .i64 m3, .slice s_.2.2.2.2.2.2.2.1 SS.length s_.2.2.2.2.2.2.2.2.1]), (41, .bool b), (8, .pointer (some ⟨s_.2.2.2.2.2.2.2.2.2, 0, none⟩))]) (fun s_ w' => (Below w4.heap.size w4 w') ∧ (C.length ≤ s_.2.2.2.2.2.2.1 ∧ Kd.R k41 41 w' w4.heap.size (fun _ => True) (.slice s_.2.2.2.2.1 C.length s_.2.2.2.2.2.1) C) ∧ (Kd.R k41 41 w' w4.heap.size (fun _ => True) (.slice s_.2.2.2.2.2.2.2.1 SS.length s_.2.2.2.2.2.2.2.2.1) SS) ∧ (w'.heap[s_.2.2.2.2.2.2.2.2.2]? = some (.cells #[.int .i64 0, .slice none 0 0] 64 (0, 0))) ∧ (w4.heap.size ≤ s_.2.2.2.2.2.2.2.2.2)) ?_ ?_
        rotate_left
        · intro hJ310
          refine join_ (σ := Option Addr × Nat × Nat × Nat) 9 #[true, true, true, false, true, false, false, false, false, false, true, true, false, false, false] (fun s_ => [(34, .agg #[.int .i64 a0_0, .slice s_.1 L0.length s_.2.1]), (8, .pointer (some ⟨s_.2.2.1, 0, none⟩)), (9, .pointer (some ⟨s_.2.2.2, 0, none⟩))]) (fun s_ w' => (Below w4.heap.size w4 w') ∧ (Kd.C k41 w' s_.1 L0.length L0 ∧ L0.length ≤ s_.2.1) ∧ (w'.heap[s_.2.2.1]? = some (.cells #[.int .i64 0, .slice none 0 0] 64 (0, 0))) ∧ (w4.heap.size ≤ s_.2.2.1) ∧ (w'.heap[s_.2.2.2]? = some (.cells #[.int .i64 0, .int .i64 0, .int .i64 0, .int .i64 0, .slice none 0 0] 34 (0, 0))) ∧ (w4.heap.size ≤ s_.2.2.2) ∧ (s_.2.2.1 ≠ s_.2.2.2)) ?_ ?_
          rotate_left
          · intro hJ111
            refine join_ (σ := Option Addr × Nat × Option Addr × Nat × Nat) 9 #[true, true, true, true, true, false, false, false, false, false, false, true, false, false, false] (fun s_ => [(34, .agg #[.int .i64 a0_0, .slice s_.1 L0.length s_.2.1]), (36, .agg #[.int .i64 a1_0, .int .i64 a1_1, .int .i64 a1_2, .int .i64 a1_3, .slice s_.2.2.1 L1.length s_.2.2.2.1]), (9, .pointer (some ⟨s_.2.2.2.2, 0, none⟩))]) (fun s_ w' => (Below w4.heap.size w4 w') ∧ (Kd.C k41 w' s_.1 L0.length L0 ∧ L0.length ≤ s_.2.1) ∧ (Kd.C k41 w' s_.2.2.1 L1.length L1 ∧ L1.length ≤ s_.2.2.2.1) ∧ (w'.heap[s_.2.2.2.2]? = some (.cells #[.int .i64 0, .int .i64 0, .int .i64 0, .int .i64 0, .slice none 0 0] 34 (0, 0))) ∧ (w4.heap.size ≤ s_.2.2.2.2)) ?_ ?_
            rotate_left
            · intro hJ201
              refine join_ (σ := Option Addr × Nat × Option Addr × Nat × Nat) 9 #[true, true, true, true, true, false, false, false, false, false, true, false, false, false, false] (fun s_ => [(34, .agg #[.int .i64 a0_0, .slice s_.1 L0.length s_.2.1]), (36, .agg #[.int .i64 a1_0, .int .i64 a1_1, .int .i64 a1_2, .int .i64 a1_3, .slice s_.2.2.1 L1.length s_.2.2.2.1]), (8, .pointer (some ⟨s_.2.2.2.2, 0, none⟩))]) (fun s_ w' => (Below w4.heap.size w4 w') ∧ (Kd.C k41 w' s_.1 L0.length L0 ∧ L0.length ≤ s_.2.1) ∧ (Kd.C k41 w' s_.2.2.1 L1.length L1 ∧ L1.length ≤ s_.2.2.2.1) ∧ (w'.heap[s_.2.2.2.2]? = some (.cells #[.int .i64 0, .slice none 0 0] 64 (0, 0))) ∧ (w4.heap.size ≤ s_.2.2.2.2)) ?_ ?_
              rotate_left
              · intro hJ210
                refine join_ (σ := Option Addr × Nat × Option Addr × Nat × Option Addr × Nat × Nat × Option Addr × Nat) 5 #[true, true, true, true, true, true, true, true, true, true, false, false, false, false, false] (fun s_ => [(34, .agg #[.int .i64 a0_0, .slice s_.1 L0.length s_.2.1]), (36, .agg #[.int .i64 a1_0, .int .i64 a1_1, .int .i64 a1_2, .int .i64 a1_3, .slice s_.2.2.1 L1.length s_.2.2.2.1]), (38, .tuple #[.agg #[.int .i64 n, .slice s_.2.2.2.2.1 C.length s_.2.2.2.2.2.2.1], .agg #[.int .i64 m0, .int .i64 m1, .int .i64 m2, .int .i64 m3, .slice s_.2.2.2.2.2.2.2.1 SS.length s_.2.2.2.2.2.2.2.2], .bool b]), (32, .tuple #[.agg #[.int .i64 n, .slice s_.2.2.2.2.1 C.length s_.2.2.2.2.2.2.1], .agg #[.int .i64 m0, .int .i64 m1, .int .i64 m2, .int .i64 m3, .slice s_.2.2.2.2.2.2.2.1 SS.length s_.2.2.2.2.2.2.2.2], .bool b]), (39, .agg #[.int .i64 n, .slice s_.2.2.2.2.1 C.length s_.2.2.2.2.2.2.1]), (40, .agg #[.int .i64 m0, .int .i64 m1, .int .i64 m2, .int .i64 m3, .slice s_.2.2.2.2.2.2.2.1 SS.length s_.2.2.2.2.2.2.2.2]), (41, .bool b)]) (fun s_ w' => (Below w4.heap.size w4 w') ∧ (C.length ≤ s_.2.2.2.2.2.2.1 ∧ Kd.R k41 41 w' w4.heap.size (fun _ => True) (.slice s_.2.2.2.2.1 C.length s_.2.2.2.2.2.1) C) ∧ (Kd.R k41 41 w' w4.heap.size (fun _ => True) (.slice s_.2.2.2.2.2.2.2.1 SS.length s_.2.2.2.2.2.2.2.2) SS)) ?_ ?_
                rotate_left
                · intro hJ300
                  refine join_ (σ := Nat × Nat) 10 #[true, false, true, false, true, false, false, false, false, false, true, true, false, false, false] (fun s_ => [(8, .pointer (some ⟨s_.1, 0, none⟩)), (9, .pointer (some ⟨s_.2, 0, none⟩))]) (fun s_ w' => (Below w4.heap.size w4 w') ∧ (w'.heap[s_.1]? = some (.cells #[.int .i64 0, .slice none 0 0] 64 (0, 0))) ∧ (w4.heap.size ≤ s_.1) ∧ (w'.heap[s_.2]? = some (.cells #[.int .i64 0, .int .i64 0, .int .i64 0, .int .i64 0, .slice none 0 0] 34 (0, 0))) ∧ (w4.heap.size ≤ s_.2) ∧ (s_.1 ≠ s_.2)) ?_ ?_
                  rotate_left
                  · intro hJ011
                    refine join_ (σ := Option Addr × Nat × Nat) 10 #[true, true, true, false, true, false, false, false, false, false, false, true, false, false, false] (fun s_ => [(34, .agg #[.int .i64 a0_0, .slice s_.1 L0.length s_.2.1]), (9, .pointer (some ⟨s_.2.2, 0, none⟩))]) (fun s_ w' => (Below w4.heap.size w4 w') ∧ (Kd.C k41 w' s_.1 L0.length L0 ∧ L0.length ≤ s_.2.1) ∧ (w'.heap[s_.2.2]? = some (.cells #[.int .i64 0, .int .i64 0, .int .i64 0, .int .i64 0, .slice none 0 0] 34 (0, 0))) ∧ (w4.heap.size ≤ s_.2.2)) ?_ ?_
                    rotate_left
                    · intro hJ101
                      refine join_ (σ := Option Addr × Nat × Nat) 10 #[true, true, true, false, true, false, false, false, false, false, true, false, false, false, false] (fun s_ => [(34, .agg #[.int .i64 a0_0, .slice s_.1 L0.length s_.2.1]), (8, .pointer (some ⟨s_.2.2, 0, none⟩))]) (fun s_ w' => (Below w4.heap.size w4 w') ∧ (Kd.C k41 w' s_.1 L0.length L0 ∧ L0.length ≤ s_.2.1) ∧ (w'.heap[s_.2.2]? = some (.cells #[.int .i64 0, .slice none 0 0] 64 (0, 0))) ∧ (w4.heap.size ≤ s_.2.2)) ?_ ?_
                      rotate_left
                      · intro hJ110
                        refine join_ (σ := Option Addr × Nat × Option Addr × Nat) 10 #[true, true, true, true, true, false, false, false, false, false, false, false, false, false, false] (fun s_ => [(34, .agg #[.int .i64 a0_0, .slice s_.1 L0.length s_.2.1]), (36, .agg #[.int .i64 a1_0, .int .i64 a1_1, .int .i64 a1_2, .int .i64 a1_3, .slice s_.2.2.1 L1.length s_.2.2.2])]) (fun s_ w' => (Below w4.heap.size w4 w') ∧ (Kd.C k41 w' s_.1 L0.length L0 ∧ L0.length ≤ s_.2.1) ∧ (Kd.C k41 w' s_.2.2.1 L1.length L1 ∧ L1.length ≤ s_.2.2.2)) ?_ ?_
                        rotate_left
                        · intro hJ200
                          refine join_ (σ := Nat) 11 #[true, false, true, false, true, false, false, false, false, false, false, true, false, false, false] (fun s_ => [(9, .pointer (some ⟨s_, 0, none⟩))]) (fun s_ w' => (Below w4.heap.size w4 w') ∧ (w'.heap[s_]? = some (.cells #[.int .i64 0, .int .i64 0, .int .i64 0, .int .i64 0, .slice none 0 0] 34 (0, 0))) ∧ (w4.heap.size ≤ s_)) ?_ ?_
                          rotate_left
                          · intro hJ001
                            refine join_ (σ := Nat) 11 #[true, false, true, false, true, false, false, false, false, false, true, false, false, false, false] (fun s_ => [(8, .pointer (some ⟨s_, 0, none⟩))]) (fun s_ w' => (Below w4.heap.size w4 w') ∧ (w'.heap[s_]? = some (.cells #[.int .i64 0, .slice none 0 0] 64 (0, 0))) ∧ (w4.heap.size ≤ s_)) ?_ ?_
                            rotate_left
                            · intro hJ010
                              refine join_ (σ := Option Addr × Nat) 11 #[true, true, true, false, true, false, false, false, false, false, false, false, false, false, false] (fun s_ => [(34, .agg #[.int .i64 a0_0, .slice s_.1 L0.length s_.2])]) (fun s_ w' => (Below w4.heap.size w4 w') ∧ (Kd.C k41 w' s_.1 L0.length L0 ∧ L0.length ≤ s_.2)) ?_ ?_
                              rotate_left
                              · intro hJ100
                                refine three_ (i := 1) (j := 10) (k := 11) (Ni := some 34) (Nj := some 8) (Nk := some 9) #[true, true, true, false, true, false, false, false, false, false, false, false, false, false, false] #[true, false, true, false, true, false, false, false, false, false, true, false, false, false, false] #[true, false, true, false, true, false, false, false, false, false, false, true, false, false, false] rfl rfl rfl rfl rfl rfl (three_of HT_.out (by kernel_rfl)) (by decide) (by decide) (by decide) (fun K hK => ?_) (fun K hK => ?_) (fun K hK => ?_)
                                · refine goes_ Try.func54 (by kernel_rfl) rfl #[.agg #[.int .i64 a0_0, .slice A0 l0.length c0]] (by rfl) rfl rfl z38x16 ?_
                                  with_reducible refine (laws_toKdc.calls k a0_0 A0 c0 l0 a0_0 L0 _ (Kd.C_below (Kd.C_below HR0.out HB.out) hS) HL0.out HT0.out).mono ?_
                                  rintro e w2 ⟨v_, rfl, ho_, hb_⟩
                                  refine ⟨_, rfl, ?_⟩
                                  obtain ⟨P0, pz0, ev_⟩ := Kd.R_slice ho_
                                  subst ev_
                                  refine hK.out _ _ (below_step hS hb_) (fun hS2 => ?_)
                                  clear hK K
                                  exact norm_ z38x0 (hJ100 ⟨P0, pz0⟩ _ ⟨hS2, ⟨(Kd.R_reads' ho_).2.2, (Kd.R_reads' ho_).2.1⟩⟩)
                                · refine box_step ?hg (N := 8) ?hd (cs := #[.int .i64 0, .slice none 0 0]) (t := 64) ?hr ?_; (case hd => rfl); (case hg => rfl); (case hr => first | (go_simp; done) | (go_simp; rfl))
                                  intro ga_ hg_ w2 hbox_ hb_
                                  refine hK.out _ _ (below_step hS hb_) (fun hS2 => ?_)
                                  clear hK K
                                  exact norm_ z38x0 (hJ010 (ga_) _ ⟨hS2, hbox_, (by rw [hg_]; exact hS.size)⟩)
                                · refine box_step ?hg (N := 9) ?hd (cs := #[.int .i64 0, .int .i64 0, .int .i64 0, .int .i64 0, .slice none 0 0]) (t := 34) ?hr ?_; (case hd => rfl); (case hg => rfl); (case hr => first | (go_simp; done) | (go_simp; rfl))
                                  intro gb_ hg_ w2 hbox_ hb_
                                  refine hK.out _ _ (below_step hS hb_) (fun hS2 => ?_)
                                  clear hK K
                                  exact norm_ z38x0 (hJ001 (gb_) _ ⟨hS2, hbox_, (by rw [hg_]; exact hS.size)⟩)
                              rintro ⟨P0, pz0⟩ w1 ⟨hS, f0⟩
                              replace hS : Below w4.heap.size w4 w1 := hS
                              replace f0 : Kd.C k41 w1 P0 L0.length L0 ∧ L0.length ≤ pz0 := f0
                              refine norm_ (a' := ?_) ?_ ?_
                              rotate_left
                              · simp only [putAll, Act.put, List.setIfInBounds_toArray, List.set_cons_zero, List.set_cons_succ]
                                rfl
                              refine three_ (i := 3) (j := 10) (k := 11) (Ni := some 36) (Nj := some 8) (Nk := some 9) #[true, true, true, true, true, false, false, false, false, false, false, false, false, false, false] #[true, true, true, false, true, false, false, false, false, false, true, false, false, false, false] #[true, true, true, false, true, false, false, false, false, false, false, true, false, false, false] rfl rfl rfl rfl rfl rfl (three_of HT_.out (by kernel_rfl)) (by decide) (by decide) (by decide) (fun K hK => ?_) (fun K hK => ?_) (fun K hK => ?_)
                              · refine goes_ Try.func55 (by kernel_rfl) rfl #[.agg #[.int .i64 a1_0, .int .i64 a1_1, .int .i64 a1_2, .int .i64 a1_3, .slice A1 l1.length c1]] (by rfl) rfl rfl z38x16 ?_
                                with_reducible refine (laws_toMsg.calls k a1_0 a1_1 a1_2 a1_3 A1 c1 l1 a1_0 a1_1 a1_2 a1_3 L1 _ (Kd.C_below (Kd.C_below HR1.out HB.out) hS) HL1.out HT1.out).mono ?_
                                rintro e w2 ⟨v_, rfl, ho_, hb_⟩
                                refine ⟨_, rfl, ?_⟩
                                obtain ⟨P1, pz1, ev_⟩ := Kd.R_slice ho_
                                subst ev_
                                refine hK.out _ _ (below_step hS hb_) (fun hS2 => ?_)
                                clear hK K
                                exact norm_ z38x0 (hJ200 ⟨P0, pz0, P1, pz1⟩ _ ⟨hS2, ⟨Kd.C_below f0.1 hb_, f0.2⟩, ⟨(Kd.R_reads' ho_).2.2, (Kd.R_reads' ho_).2.1⟩⟩)
                              · refine box_step ?hg (N := 8) ?hd (cs := #[.int .i64 0, .slice none 0 0]) (t := 64) ?hr ?_; (case hd => rfl); (case hg => rfl); (case hr => first | (go_simp; done) | (go_simp; rfl))
                                intro ga_ hg_ w2 hbox_ hb_
                                refine hK.out _ _ (below_step hS hb_) (fun hS2 => ?_)
                                clear hK K
                                exact norm_ z38x0 (hJ110 ⟨P0, pz0, ga_⟩ _ ⟨hS2, ⟨Kd.C_below f0.1 hb_, f0.2⟩, hbox_, (by rw [hg_]; exact hS.size)⟩)
                              · refine box_step ?hg (N := 9) ?hd (cs := #[.int .i64 0, .int .i64 0, .int .i64 0, .int .i64 0, .slice none 0 0]) (t := 34) ?hr ?_; (case hd => rfl); (case hg => rfl); (case hr => first | (go_simp; done) | (go_simp; rfl))
                                intro gb_ hg_ w2 hbox_ hb_
                                refine hK.out _ _ (below_step hS hb_) (fun hS2 => ?_)
                                clear hK K
                                exact norm_ z38x0 (hJ101 ⟨P0, pz0, gb_⟩ _ ⟨hS2, ⟨Kd.C_below f0.1 hb_, f0.2⟩, hbox_, (by rw [hg_]; exact hS.size)⟩)
                            rintro ga_ w1 ⟨hS, ka, ja⟩
                            replace hS : Below w4.heap.size w4 w1 := hS
                            replace ka : w1.heap[ga_]? = some (.cells #[.int .i64 0, .slice none 0 0] 64 (0, 0)) := ka
                            replace ja : w4.heap.size ≤ ga_ := ja
                            refine norm_ (a' := ?_) ?_ ?_
                            rotate_left
                            · simp only [putAll, Act.put, List.setIfInBounds_toArray, List.set_cons_zero, List.set_cons_succ]
                              rfl
                            refine two_ (i := 1) (j := 11) (Ni := some 34) (Nj := some 9) #[true, true, true, false, true, false, false, false, false, false, true, false, false, false, false] #[true, false, true, false, true, false, false, false, false, false, true, true, false, false, false] rfl rfl rfl rfl (two_of HT_.out (by kernel_rfl)) (by decide) (by decide) (fun K hK => ?_) (fun K hK => ?_)
                            · refine goes_ Try.func54 (by kernel_rfl) rfl #[.agg #[.int .i64 a0_0, .slice A0 l0.length c0]] (by rfl) rfl rfl z38x16 ?_
                              with_reducible refine (laws_toKdc.calls k a0_0 A0 c0 l0 a0_0 L0 _ (Kd.C_below (Kd.C_below HR0.out HB.out) hS) HL0.out HT0.out).mono ?_
                              rintro e w2 ⟨v_, rfl, ho_, hb_⟩
                              refine ⟨_, rfl, ?_⟩
                              obtain ⟨P0, pz0, ev_⟩ := Kd.R_slice ho_
                              subst ev_
                              refine hK.out _ _ (below_step hS hb_) (fun hS2 => ?_)
                              clear hK K
                              exact norm_ z38x0 (hJ110 ⟨P0, pz0, ga_⟩ _ ⟨hS2, ⟨(Kd.R_reads' ho_).2.2, (Kd.R_reads' ho_).2.1⟩, blkB0 hb_ ka, ja⟩)
                            · refine box_step ?hg (N := 9) ?hd (cs := #[.int .i64 0, .int .i64 0, .int .i64 0, .int .i64 0, .slice none 0 0]) (t := 34) ?hr ?_; (case hd => rfl); (case hg => rfl); (case hr => first | (go_simp; done) | (go_simp; rfl))
                              intro gb_ hg_ w2 hbox_ hb_
                              refine hK.out _ _ (below_step hS hb_) (fun hS2 => ?_)
                              clear hK K
                              exact norm_ z38x0 (hJ011 ⟨ga_, gb_⟩ _ ⟨hS2, blkB0 hb_ ka, ja, hbox_, (by rw [hg_]; exact hS.size), Nat.ne_of_lt (Nat.lt_of_lt_of_eq (blk_lt ka) hg_.symm)⟩)
                          rintro gb_ w1 ⟨hS, kb, jb⟩
                          replace hS : Below w4.heap.size w4 w1 := hS
                          replace kb : w1.heap[gb_]? = some (.cells #[.int .i64 0, .int .i64 0, .int .i64 0, .int .i64 0, .slice none 0 0] 34 (0, 0)) := kb
                          replace jb : w4.heap.size ≤ gb_ := jb
                          refine norm_ (a' := ?_) ?_ ?_
                          rotate_left
                          · simp only [putAll, Act.put, List.setIfInBounds_toArray, List.set_cons_zero, List.set_cons_succ]
                            rfl
                          refine two_ (i := 1) (j := 10) (Ni := some 34) (Nj := some 8) #[true, true, true, false, true, false, false, false, false, false, false, true, false, false, false] #[true, false, true, false, true, false, false, false, false, false, true, true, false, false, false] rfl rfl rfl rfl (two_of HT_.out (by kernel_rfl)) (by decide) (by decide) (fun K hK => ?_) (fun K hK => ?_)
                          · refine goes_ Try.func54 (by kernel_rfl) rfl #[.agg #[.int .i64 a0_0, .slice A0 l0.length c0]] (by rfl) rfl rfl z38x16 ?_
                            with_reducible refine (laws_toKdc.calls k a0_0 A0 c0 l0 a0_0 L0 _ (Kd.C_below (Kd.C_below HR0.out HB.out) hS) HL0.out HT0.out).mono ?_
                            rintro e w2 ⟨v_, rfl, ho_, hb_⟩
                            refine ⟨_, rfl, ?_⟩
                            obtain ⟨P0, pz0, ev_⟩ := Kd.R_slice ho_
                            subst ev_
                            refine hK.out _ _ (below_step hS hb_) (fun hS2 => ?_)
                            clear hK K
                            exact norm_ z38x0 (hJ101 ⟨P0, pz0, gb_⟩ _ ⟨hS2, ⟨(Kd.R_reads' ho_).2.2, (Kd.R_reads' ho_).2.1⟩, blkB0 hb_ kb, jb⟩)
                          · refine box_step ?hg (N := 8) ?hd (cs := #[.int .i64 0, .slice none 0 0]) (t := 64) ?hr ?_; (case hd => rfl); (case hg => rfl); (case hr => first | (go_simp; done) | (go_simp; rfl))
                            intro ga_ hg_ w2 hbox_ hb_
                            refine hK.out _ _ (below_step hS hb_) (fun hS2 => ?_)
                            clear hK K
                            exact norm_ z38x0 (hJ011 ⟨ga_, gb_⟩ _ ⟨hS2, hbox_, (by rw [hg_]; exact hS.size), blkB0 hb_ kb, jb, Nat.ne_of_gt (Nat.lt_of_lt_of_eq (blk_lt kb) hg_.symm)⟩)
                        rintro ⟨P0, pz0, P1, pz1⟩ w1 ⟨hS, f0, f1⟩
                        replace hS : Below w4.heap.size w4 w1 := hS
                        replace f0 : Kd.C k41 w1 P0 L0.length L0 ∧ L0.length ≤ pz0 := f0
                        replace f1 : Kd.C k41 w1 P1 L1.length L1 ∧ L1.length ≤ pz1 := f1
                        refine norm_ (a' := ?_) ?_ ?_
                        rotate_left
                        · simp only [putAll, Act.put, List.setIfInBounds_toArray, List.set_cons_zero, List.set_cons_succ]
                          rfl
                        refine three_ (i := 5) (j := 10) (k := 11) (Ni := some 38) (Nj := some 8) (Nk := some 9) #[true, true, true, true, true, true, false, false, false, false, false, false, false, false, false] #[true, true, true, true, true, false, false, false, false, false, true, false, false, false, false] #[true, true, true, true, true, false, false, false, false, false, false, true, false, false, false] rfl rfl rfl rfl rfl rfl (three_of HT_.out (by kernel_rfl)) (by decide) (by decide) (by decide) (fun K hK => ?_) (fun K hK => ?_) (fun K hK => ?_)
                        · refine goes_ Try.func53 (by kernel_rfl) rfl #[.agg #[.int .i64 a0_0, .slice P0 L0.length pz0], .agg #[.int .i64 a1_0, .int .i64 a1_1, .int .i64 a1_2, .int .i64 a1_3, .slice P1 L1.length pz1], .int .i64 a2] (by rfl) rfl rfl z38x16 ?_
                          with_reducible refine (spec_KdcAs.calls k a0_0 P0 pz0 L0 a1_0 a1_1 a1_2 a1_3 P1 pz1 L1 a2 n C m0 m1 m2 m3 SS b _ f0.1 f0.2 f1.1 f1.2 HS.out).mono ?_
                          rintro e w2 ⟨v_, u_, rfl, ho_, hu_, hb_⟩
                          refine ⟨_, rfl, ?_⟩
                          obtain ⟨Q0, q0_, ev_⟩ := Kd.R_slice ho_
                          subst ev_
                          obtain ⟨Q1, q1_, ev_⟩ := Kd.R_slice hu_
                          subst ev_
                          refine hK.out _ _ (below_step hS hb_) (fun hS2 => ?_)
                          clear hK K
                          refine norm_ (a' := ?_) ?_ ?_
                          rotate_left
                          · show Act.put _ (some 38) _ = _
                            simp only [Act.put, List.setIfInBounds_toArray, List.set_cons_zero, List.set_cons_succ, i64_w, i32_w]
                            rfl
                          refine pure_ (i := 6) (N := some 32) (v := ?_) (a' := ?_) #[true, true, true, true, true, true, true, false, false, false, false, false, false, false, false] rfl rfl (any_of HT_.out (by kernel_rfl)) (fun _ _ _ h => h) (Or.inl ⟨by rfl, ?_⟩) ?_ ?_
                          rotate_left
                          · intro w'
                            go_simp
                            with_reducible rfl
                          rotate_left
                          · simp only [Act.put, List.setIfInBounds_toArray, List.set_cons_zero, List.set_cons_succ, i64_w, i32_w]
                            rfl
                          refine pure_ (i := 7) (N := some 39) (v := ?_) (a' := ?_) #[true, true, true, true, true, true, true, true, false, false, false, false, false, false, false] rfl rfl (any_of HT_.out (by kernel_rfl)) (fun _ _ _ h => h) (Or.inl ⟨by rfl, ?_⟩) ?_ ?_
                          rotate_left
                          · intro w'
                            go_simp
                            with_reducible rfl
                          rotate_left
                          · simp only [Act.put, List.setIfInBounds_toArray, List.set_cons_zero, List.set_cons_succ, i64_w, i32_w]
                            rfl
                          refine pure_ (i := 8) (N := some 40) (v := ?_) (a' := ?_) #[true, true, true, true, true, true, true, true, true, false, false, false, false, false, false] rfl rfl (any_of HT_.out (by kernel_rfl)) (fun _ _ _ h => h) (Or.inl ⟨by rfl, ?_⟩) ?_ ?_
                          rotate_left
                          · intro w'
                            go_simp
                            with_reducible rfl
                          rotate_left
                          · simp only [Act.put, List.setIfInBounds_toArray, List.set_cons_zero, List.set_cons_succ, i64_w, i32_w]
                            rfl
                          refine pure_ (i := 9) (N := some 41) (v := ?_) (a' := ?_) #[true, true, true, true, true, true, true, true, true, true, false, false, false, false, false] rfl rfl (any_of HT_.out (by kernel_rfl)) (fun _ _ _ h => h) (Or.inl ⟨by rfl, ?_⟩) ?_ ?_
                          rotate_left
                          · intro w'
                            go_simp
                            with_reducible rfl
                          rotate_left
                          · simp only [Act.put, List.setIfInBounds_toArray, List.set_cons_zero, List.set_cons_succ, i64_w, i32_w]
                            rfl
                          exact norm_ z38x0 (hJ300 ⟨P0, pz0, P1, pz1, Q0, q0_, q0_, Q1, q1_⟩ _ ⟨hS2, ⟨(Kd.R_reads' ho_).2.1, Kd.R_mono (Kd.R_lower ho_ hS.size) (fun _ _ => trivial)⟩, Kd.R_mono (Kd.R_lower hu_ hS.size) (fun _ _ => trivial)⟩)
                        · refine box_step ?hg (N := 8) ?hd (cs := #[.int .i64 0, .slice none 0 0]) (t := 64) ?hr ?_; (case hd => rfl); (case hg => rfl); (case hr => first | (go_simp; done) | (go_simp; rfl))
                          intro ga_ hg_ w2 hbox_ hb_
                          refine hK.out _ _ (below_step hS hb_) (fun hS2 => ?_)
                          clear hK K
                          exact norm_ z38x0 (hJ210 ⟨P0, pz0, P1, pz1, ga_⟩ _ ⟨hS2, ⟨Kd.C_below f0.1 hb_, f0.2⟩, ⟨Kd.C_below f1.1 hb_, f1.2⟩, hbox_, (by rw [hg_]; exact hS.size)⟩)
                        · refine box_step ?hg (N := 9) ?hd (cs := #[.int .i64 0, .int .i64 0, .int .i64 0, .int .i64 0, .slice none 0 0]) (t := 34) ?hr ?_; (case hd => rfl); (case hg => rfl); (case hr => first | (go_simp; done) | (go_simp; rfl))
                          intro gb_ hg_ w2 hbox_ hb_
                          refine hK.out _ _ (below_step hS hb_) (fun hS2 => ?_)
                          clear hK K
                          exact norm_ z38x0 (hJ201 ⟨P0, pz0, P1, pz1, gb_⟩ _ ⟨hS2, ⟨Kd.C_below f0.1 hb_, f0.2⟩, ⟨Kd.C_below f1.1 hb_, f1.2⟩, hbox_, (by rw [hg_]; exact hS.size)⟩)
                      rintro ⟨P0, pz0, ga_⟩ w1 ⟨hS, f0, ka, ja⟩
                      replace hS : Below w4.heap.size w4 w1 := hS
                      replace f0 : Kd.C k41 w1 P0 L0.length L0 ∧ L0.length ≤ pz0 := f0
                      replace ka : w1.heap[ga_]? = some (.cells #[.int .i64 0, .slice none 0 0] 64 (0, 0)) := ka
                      replace ja : w4.heap.size ≤ ga_ := ja
                      refine norm_ (a' := ?_) ?_ ?_
                      rotate_left
                      · simp only [putAll, Act.put, List.setIfInBounds_toArray, List.set_cons_zero, List.set_cons_succ]
                        rfl
                      refine two_ (i := 3) (j := 11) (Ni := some 36) (Nj := some 9) #[true, true, true, true, true, false, false, false, false, false, true, false, false, false, false] #[true, true, true, false, true, false, false, false, false, false, true, true, false, false, false] rfl rfl rfl rfl (two_of HT_.out (by kernel_rfl)) (by decide) (by decide) (fun K hK => ?_) (fun K hK => ?_)
                      · refine goes_ Try.func55 (by kernel_rfl) rfl #[.agg #[.int .i64 a1_0, .int .i64 a1_1, .int .i64 a1_2, .int .i64 a1_3, .slice A1 l1.length c1]] (by rfl) rfl rfl z38x16 ?_
                        with_reducible refine (laws_toMsg.calls k a1_0 a1_1 a1_2 a1_3 A1 c1 l1 a1_0 a1_1 a1_2 a1_3 L1 _ (Kd.C_below (Kd.C_below HR1.out HB.out) hS) HL1.out HT1.out).mono ?_
                        rintro e w2 ⟨v_, rfl, ho_, hb_⟩
                        refine ⟨_, rfl, ?_⟩
                        obtain ⟨P1, pz1, ev_⟩ := Kd.R_slice ho_
                        subst ev_
                        refine hK.out _ _ (below_step hS hb_) (fun hS2 => ?_)
                        clear hK K
                        exact norm_ z38x0 (hJ210 ⟨P0, pz0, P1, pz1, ga_⟩ _ ⟨hS2, ⟨Kd.C_below f0.1 hb_, f0.2⟩, ⟨(Kd.R_reads' ho_).2.2, (Kd.R_reads' ho_).2.1⟩, blkB0 hb_ ka, ja⟩)
                      · refine box_step ?hg (N := 9) ?hd (cs := #[.int .i64 0, .int .i64 0, .int .i64 0, .int .i64 0, .slice none 0 0]) (t := 34) ?hr ?_; (case hd => rfl); (case hg => rfl); (case hr => first | (go_simp; done) | (go_simp; rfl))
                        intro gb_ hg_ w2 hbox_ hb_
                        refine hK.out _ _ (below_step hS hb_) (fun hS2 => ?_)
                        clear hK K
                        exact norm_ z38x0 (hJ111 ⟨P0, pz0, ga_, gb_⟩ _ ⟨hS2, ⟨Kd.C_below f0.1 hb_, f0.2⟩, blkB0 hb_ ka, ja, hbox_, (by rw [hg_]; exact hS.size), Nat.ne_of_lt (Nat.lt_of_lt_of_eq (blk_lt ka) hg_.symm)⟩)
                    rintro ⟨P0, pz0, gb_⟩ w1 ⟨hS, f0, kb, jb⟩
                    replace hS : Below w4.heap.size w4 w1 := hS
                    replace f0 : Kd.C k41 w1 P0 L0.length L0 ∧ L0.length ≤ pz0 := f0
                    replace kb : w1.heap[gb_]? = some (.cells #[.int .i64 0, .int .i64 0, .int .i64 0, .int .i64 0, .slice none 0 0] 34 (0, 0)) := kb
                    replace jb : w4.heap.size ≤ gb_ := jb
                    refine norm_ (a' := ?_) ?_ ?_
                    rotate_left
                    · simp only [putAll, Act.put, List.setIfInBounds_toArray, List.set_cons_zero, List.set_cons_succ]
                      rfl
                    refine two_ (i := 3) (j := 10) (Ni := some 36) (Nj := some 8) #[true, true, true, true, true, false, false, false, false, false, false, true, false, false, false] #[true, true, true, false, true, false, false, false, false, false, true, true, false, false, false] rfl rfl rfl rfl (two_of HT_.out (by kernel_rfl)) (by decide) (by decide) (fun K hK => ?_) (fun K hK => ?_)
                    · refine goes_ Try.func55 (by kernel_rfl) rfl #[.agg #[.int .i64 a1_0, .int .i64 a1_1, .int .i64 a1_2, .int .i64 a1_3, .slice A1 l1.length c1]] (by rfl) rfl rfl z38x16 ?_
                      with_reducible refine (laws_toMsg.calls k a1_0 a1_1 a1_2 a1_3 A1 c1 l1 a1_0 a1_1 a1_2 a1_3 L1 _ (Kd.C_below (Kd.C_below HR1.out HB.out) hS) HL1.out HT1.out).mono ?_
                      rintro e w2 ⟨v_, rfl, ho_, hb_⟩
                      refine ⟨_, rfl, ?_⟩
                      obtain ⟨P1, pz1, ev_⟩ := Kd.R_slice ho_
                      subst ev_
                      refine hK.out _ _ (below_step hS hb_) (fun hS2 => ?_)
                      clear hK K
                      exact norm_ z38x0 (hJ201 ⟨P0, pz0, P1, pz1, gb_⟩ _ ⟨hS2, ⟨Kd.C_below f0.1 hb_, f0.2⟩, ⟨(Kd.R_reads' ho_).2.2, (Kd.R_reads' ho_).2.1⟩, blkB0 hb_ kb, jb⟩)
                    · refine box_step ?hg (N := 8) ?hd (cs := #[.int .i64 0, .slice none 0 0]) (t := 64) ?hr ?_; (case hd => rfl); (case hg => rfl); (case hr => first | (go_simp; done) | (go_simp; rfl))
                      intro ga_ hg_ w2 hbox_ hb_
                      refine hK.out _ _ (below_step hS hb_) (fun hS2 => ?_)
                      clear hK K
                      exact norm_ z38x0 (hJ111 ⟨P0, pz0, ga_, gb_⟩ _ ⟨hS2, ⟨Kd.C_below f0.1 hb_, f0.2⟩, hbox_, (by rw [hg_]; exact hS.size), blkB0 hb_ kb, jb, Nat.ne_of_gt (Nat.lt_of_lt_of_eq (blk_lt kb) hg_.symm)⟩)
                  rintro ⟨ga_, gb_⟩ w1 ⟨hS, ka, ja, kb, jb, nab⟩
                  replace hS : Below w4.heap.size w4 w1 := hS
                  replace ka : w1.heap[ga_]? = some (.cells #[.int .i64 0, .slice none 0 0] 64 (0, 0)) := ka
                  replace ja : w4.heap.size ≤ ga_ := ja
                  replace kb : w1.heap[gb_]? = some (.cells #[.int .i64 0, .int .i64 0, .int .i64 0, .int .i64 0, .slice none 0 0] 34 (0, 0)) := kb
                  replace jb : w4.heap.size ≤ gb_ := jb
                  replace nab : ga_ ≠ gb_ := nab
                  refine norm_ (a' := ?_) ?_ ?_
                  rotate_left
                  · simp only [putAll, Act.put, List.setIfInBounds_toArray, List.set_cons_zero, List.set_cons_succ]
                    rfl
                  refine one_ (i := 1) (N := some 34) #[true, true, true, false, true, false, false, false, false, false, true, true, false, false, false] rfl rfl (one_of HT_.out (by kernel_rfl)) (by decide) (fun K hK => ?_)
                  · refine goes_ Try.func54 (by kernel_rfl) rfl #[.agg #[.int .i64 a0_0, .slice A0 l0.length c0]] (by rfl) rfl rfl z38x16 ?_
                    with_reducible refine (laws_toKdc.calls k a0_0 A0 c0 l0 a0_0 L0 _ (Kd.C_below (Kd.C_below HR0.out HB.out) hS) HL0.out HT0.out).mono ?_
                    rintro e w2 ⟨v_, rfl, ho_, hb_⟩
                    refine ⟨_, rfl, ?_⟩
                    obtain ⟨P0, pz0, ev_⟩ := Kd.R_slice ho_
                    subst ev_
                    refine hK.out _ _ (below_step hS hb_) (fun hS2 => ?_)
                    clear hK K
                    exact norm_ z38x0 (hJ111 ⟨P0, pz0, ga_, gb_⟩ _ ⟨hS2, ⟨(Kd.R_reads' ho_).2.2, (Kd.R_reads' ho_).2.1⟩, blkB0 hb_ ka, ja, blkB0 hb_ kb, jb, nab⟩)
                rintro ⟨P0, pz0, P1, pz1, Q0, q0_, x0_, Q1, q1_⟩ w1 ⟨hS, f2, f3⟩
                replace hS : Below w4.heap.size w4 w1 := hS
                replace f2 : C.length ≤ x0_ ∧ Kd.R k41 41 w1 w4.heap.size (fun _ => True) (.slice Q0 C.length q0_) C := f2
                replace f3 : Kd.R k41 41 w1 w4.heap.size (fun _ => True) (.slice Q1 SS.length q1_) SS := f3
                refine norm_ (a' := ?_) ?_ ?_
                rotate_left
                · simp only [putAll, Act.put, List.setIfInBounds_toArray, List.set_cons_zero, List.set_cons_succ]
                  rfl
                refine two_ (i := 10) (j := 11) (Ni := some 8) (Nj := some 9) #[true, true, true, true, true, true, true, true, true, true, true, false, false, false, false] #[true, true, true, true, true, true, true, true, true, true, false, true, false, false, false] rfl rfl rfl rfl (two_of HT_.out (by kernel_rfl)) (by decide) (by decide) (fun K hK => ?_) (fun K hK => ?_)
                · refine box_step ?hg (N := 8) ?hd (cs := #[.int .i64 0, .slice none 0 0]) (t := 64) ?hr ?_; (case hd => rfl); (case hg => rfl); (case hr => first | (go_simp; done) | (go_simp; rfl))
                  intro ga_ hg_ w2 hbox_ hb_
                  refine hK.out _ _ (below_step hS hb_) (fun hS2 => ?_)
                  clear hK K
                  exact norm_ z38x0 (hJ310 ⟨P0, pz0, P1, pz1, Q0, q0_, x0_, Q1, q1_, ga_⟩ _ ⟨hS2, ⟨f2.1, Kd.R_below f2.2 hb_⟩, Kd.R_below f3 hb_, hbox_, (by rw [hg_]; exact hS.size)⟩)
                · refine box_step ?hg (N := 9) ?hd (cs := #[.int .i64 0, .int .i64 0, .int .i64 0, .int .i64 0, .slice none 0 0]) (t := 34) ?hr ?_; (case hd => rfl); (case hg => rfl); (case hr => first | (go_simp; done) | (go_simp; rfl))
                  intro gb_ hg_ w2 hbox_ hb_
                  refine hK.out _ _ (below_step hS hb_) (fun hS2 => ?_)
                  clear hK K
                  exact norm_ z38x0 (hJ301 ⟨P0, pz0, P1, pz1, Q0, q0_, x0_, Q1, q1_, gb_⟩ _ ⟨hS2, ⟨f2.1, Kd.R_below f2.2 hb_⟩, Kd.R_below f3 hb_, hbox_, (by rw [hg_]; exact hS.size)⟩)
              rintro ⟨P0, pz0, P1, pz1, ga_⟩ w1 ⟨hS, f0, f1, ka, ja⟩
              replace hS : Below w4.heap.size w4 w1 := hS
              replace f0 : Kd.C k41 w1 P0 L0.length L0 ∧ L0.length ≤ pz0 := f0
              replace f1 : Kd.C k41 w1 P1 L1.length L1 ∧ L1.length ≤ pz1 := f1
              replace ka : w1.heap[ga_]? = some (.cells #[.int .i64 0, .slice none 0 0] 64 (0, 0)) := ka
              replace ja : w4.heap.size ≤ ga_ := ja
              refine norm_ (a' := ?_) ?_ ?_
              rotate_left
              · simp only [putAll, Act.put, List.setIfInBounds_toArray, List.set_cons_zero, List.set_cons_succ]
                rfl
              refine two_ (i := 5) (j := 11) (Ni := some 38) (Nj := some 9) #[true, true, true, true, true, true, false, false, false, false, true, false, false, false, false] #[true, true, true, true, true, false, false, false, false, false, true, true, false, false, false] rfl rfl rfl rfl (two_of HT_.out (by kernel_rfl)) (by decide) (by decide) (fun K hK => ?_) (fun K hK => ?_)
              · refine goes_ Try.func53 (by kernel_rfl) rfl #[.agg #[.int .i64 a0_0, .slice P0 L0.length pz0], .agg #[.int .i64 a1_0, .int .i64 a1_1, .int .i64 a1_2, .int .i64 a1_3, .slice P1 L1.length pz1], .int .i64 a2] (by rfl) rfl rfl z38x16 ?_
                with_reducible refine (spec_KdcAs.calls k a0_0 P0 pz0 L0 a1_0 a1_1 a1_2 a1_3 P1 pz1 L1 a2 n C m0 m1 m2 m3 SS b _ f0.1 f0.2 f1.1 f1.2 HS.out).mono ?_
                rintro e w2 ⟨v_, u_, rfl, ho_, hu_, hb_⟩
                refine ⟨_, rfl, ?_⟩
                obtain ⟨Q0, q0_, ev_⟩ := Kd.R_slice ho_
                subst ev_
                obtain ⟨Q1, q1_, ev_⟩ := Kd.R_slice hu_
                subst ev_
                refine hK.out _ _ (below_step hS hb_) (fun hS2 => ?_)
                clear hK K
                refine norm_ (a' := ?_) ?_ ?_
                rotate_left
                · show Act.put _ (some 38) _ = _
                  simp only [Act.put, List.setIfInBounds_toArray, List.set_cons_zero, List.set_cons_succ, i64_w, i32_w]
                  rfl
                refine pure_ (i := 6) (N := some 32) (v := ?_) (a' := ?_) #[true, true, true, true, true, true, true, false, false, false, true, false, false, false, false] rfl rfl (any_of HT_.out (by kernel_rfl)) (fun _ _ _ h => h) (Or.inl ⟨by rfl, ?_⟩) ?_ ?_
                rotate_left
                · intro w'
                  go_simp
                  with_reducible rfl
                rotate_left
                · simp only [Act.put, List.setIfInBounds_toArray, List.set_cons_zero, List.set_cons_succ, i64_w, i32_w]
                  rfl
                refine pure_ (i := 7) (N := some 39) (v := ?_) (a' := ?_) #[true, true, true, true, true, true, true, true, false, false, true, false, false, false, false] rfl rfl (any_of HT_.out (by kernel_rfl)) (fun _ _ _ h => h) (Or.inl ⟨by rfl, ?_⟩) ?_ ?_
                rotate_left
                · intro w'
                  go_simp
                  with_reducible rfl
                rotate_left
                · simp only [Act.put, List.setIfInBounds_toArray, List.set_cons_zero, List.set_cons_succ, i64_w, i32_w]
                  rfl
                refine pure_ (i := 8) (N := some 40) (v := ?_) (a' := ?_) #[true, true, true, true, true, true, true, true, true, false, true, false, false, false, false] rfl rfl (any_of HT_.out (by kernel_rfl)) (fun _ _ _ h => h) (Or.inl ⟨by rfl, ?_⟩) ?_ ?_
                rotate_left
                · intro w'
                  go_simp
                  with_reducible rfl
                rotate_left
                · simp only [Act.put, List.setIfInBounds_toArray, List.set_cons_zero, List.set_cons_succ, i64_w, i32_w]
                  rfl
                refine pure_ (i := 9) (N := some 41) (v := ?_) (a' := ?_) #[true, true, true, true, true, true, true, true, true, true, true, false, false, false, false] rfl rfl (any_of HT_.out (by kernel_rfl)) (fun _ _ _ h => h) (Or.inl ⟨by rfl, ?_⟩) ?_ ?_
                rotate_left
                · intro w'
                  go_simp
                  with_reducible rfl
                rotate_left
                · simp only [Act.put, List.setIfInBounds_toArray, List.set_cons_zero, List.set_cons_succ, i64_w, i32_w]
                  rfl
                exact norm_ z38x0 (hJ310 ⟨P0, pz0, P1, pz1, Q0, q0_, q0_, Q1, q1_, ga_⟩ _ ⟨hS2, ⟨(Kd.R_reads' ho_).2.1, Kd.R_mono (Kd.R_lower ho_ hS.size) (fun _ _ => trivial)⟩, Kd.R_mono (Kd.R_lower hu_ hS.size) (fun _ _ => trivial), blkB0 hb_ ka, ja⟩)
              · refine box_step ?hg (N := 9) ?hd (cs := #[.int .i64 0, .int .i64 0, .int .i64 0, .int .i64 0, .slice none 0 0]) (t := 34) ?hr ?_; (case hd => rfl); (case hg => rfl); (case hr => first | (go_simp; done) | (go_simp; rfl))
                intro gb_ hg_ w2 hbox_ hb_
                refine hK.out _ _ (below_step hS hb_) (fun hS2 => ?_)
                clear hK K
                exact norm_ z38x0 (hJ211 ⟨P0, pz0, P1, pz1, ga_, gb_⟩ _ ⟨hS2, ⟨Kd.C_below f0.1 hb_, f0.2⟩, ⟨Kd.C_below f1.1 hb_, f1.2⟩, blkB0 hb_ ka, ja, hbox_, (by rw [hg_]; exact hS.size), Nat.ne_of_lt (Nat.lt_of_lt_of_eq (blk_lt ka) hg_.symm)⟩)
            rintro ⟨P0, pz0, P1, pz1, gb_⟩ w1 ⟨hS, f0, f1, kb, jb⟩
            replace hS : Below w4.heap.size w4 w1 := hS
            replace f0 : Kd.C k41 w1 P0 L0.length L0 ∧ L0.length ≤ pz0 := f0
            replace f1 : Kd.C k41 w1 P1 L1.length L1 ∧ L1.length ≤ pz1 := f1
            replace kb : w1.heap[gb_]? = some (.cells #[.int .i64 0, .int .i64 0, .int .i64 0, .int .i64 0, .slice none 0 0] 34 (0, 0)) := kb
            replace jb : w4.heap.size ≤ gb_ := jb
            refine norm_ (a' := ?_) ?_ ?_
            rotate_left
            · simp only [putAll, Act.put, List.setIfInBounds_toArray, List.set_cons_zero, List.set_cons_succ]
              rfl
            refine two_ (i := 5) (j := 10) (Ni := some 38) (Nj := some 8) #[true, true, true, true, true, true, false, false, false, false, false, true, false, false, false] #[true, true, true, true, true, false, false, false, false, false, true, true, false, false, false] rfl rfl rfl rfl (two_of HT_.out (by kernel_rfl)) (by decide) (by decide) (fun K hK => ?_) (fun K hK => ?_)
            · refine goes_ Try.func53 (by kernel_rfl) rfl #[.agg #[.int .i64 a0_0, .slice P0 L0.length pz0], .agg #[.int .i64 a1_0, .int .i64 a1_1, .int .i64 a1_2, .int .i64 a1_3, .slice P1 L1.length pz1], .int .i64 a2] (by rfl) rfl rfl z38x16 ?_
              with_reducible refine (spec_KdcAs.calls k a0_0 P0 pz0 L0 a1_0 a1_1 a1_2 a1_3 P1 pz1 L1 a2 n C m0 m1 m2 m3 SS b _ f0.1 f0.2 f1.1 f1.2 HS.out).mono ?_
              rintro e w2 ⟨v_, u_, rfl, ho_, hu_, hb_⟩
              refine ⟨_, rfl, ?_⟩
              obtain ⟨Q0, q0_, ev_⟩ := Kd.R_slice ho_
              subst ev_
              obtain ⟨Q1, q1_, ev_⟩ := Kd.R_slice hu_
              subst ev_
              refine hK.out _ _ (below_step hS hb_) (fun hS2 => ?_)
              clear hK K
              refine norm_ (a' := ?_) ?_ ?_
              rotate_left
              · show Act.put _ (some 38) _ = _
                simp only [Act.put, List.setIfInBounds_toArray, List.set_cons_zero, List.set_cons_succ, i64_w, i32_w]
                rfl
              refine pure_ (i := 6) (N := some 32) (v := ?_) (a' := ?_) #[true, true, true, true, true, true, true, false, false, false, false, true, false, false, false] rfl rfl (any_of HT_.out (by kernel_rfl)) (fun _ _ _ h => h) (Or.inl ⟨by rfl, ?_⟩) ?_ ?_
              rotate_left
              · intro w'
                go_simp
                with_reducible rfl
              rotate_left
              · simp only [Act.put, List.setIfInBounds_toArray, List.set_cons_zero, List.set_cons_succ, i64_w, i32_w]
                rfl
              refine pure_ (i := 7) (N := some 39) (v := ?_) (a' := ?_) #[true, true, true, true, true, true, true, true, false, false, false, true, false, false, false] rfl rfl (any_of HT_.out (by kernel_rfl)) (fun _ _ _ h => h) (Or.inl ⟨by rfl, ?_⟩) ?_ ?_
              rotate_left
              · intro w'
                go_simp
                with_reducible rfl
              rotate_left
              · simp only [Act.put, List.setIfInBounds_toArray, List.set_cons_zero, List.set_cons_succ, i64_w, i32_w]
                rfl
              refine pure_ (i := 8) (N := some 40) (v := ?_) (a' := ?_) #[true, true, true, true, true, true, true, true, true, false, false, true, false, false, false] rfl rfl (any_of HT_.out (by kernel_rfl)) (fun _ _ _ h => h) (Or.inl ⟨by rfl, ?_⟩) ?_ ?_
              rotate_left
              · intro w'
                go_simp
                with_reducible rfl
              rotate_left
              · simp only [Act.put, List.setIfInBounds_toArray, List.set_cons_zero, List.set_cons_succ, i64_w, i32_w]
                rfl
              refine pure_ (i := 9) (N := some 41) (v := ?_) (a' := ?_) #[true, true, true, true, true, true, true, true, true, true, false, true, false, false, false] rfl rfl (any_of HT_.out (by kernel_rfl)) (fun _ _ _ h => h) (Or.inl ⟨by rfl, ?_⟩) ?_ ?_
              rotate_left
              · intro w'
                go_simp
                with_reducible rfl
              rotate_left
              · simp only [Act.put, List.setIfInBounds_toArray, List.set_cons_zero, List.set_cons_succ, i64_w, i32_w]
                rfl
              exact norm_ z38x0 (hJ301 ⟨P0, pz0, P1, pz1, Q0, q0_, q0_, Q1, q1_, gb_⟩ _ ⟨hS2, ⟨(Kd.R_reads' ho_).2.1, Kd.R_mono (Kd.R_lower ho_ hS.size) (fun _ _ => trivial)⟩, Kd.R_mono (Kd.R_lower hu_ hS.size) (fun _ _ => trivial), blkB0 hb_ kb, jb⟩)
            · refine box_step ?hg (N := 8) ?hd (cs := #[.int .i64 0, .slice none 0 0]) (t := 64) ?hr ?_; (case hd => rfl); (case hg => rfl); (case hr => first | (go_simp; done) | (go_simp; rfl))
              intro ga_ hg_ w2 hbox_ hb_
              refine hK.out _ _ (below_step hS hb_) (fun hS2 => ?_)
              clear hK K
              exact norm_ z38x0 (hJ211 ⟨P0, pz0, P1, pz1, ga_, gb_⟩ _ ⟨hS2, ⟨Kd.C_below f0.1 hb_, f0.2⟩, ⟨Kd.C_below f1.1 hb_, f1.2⟩, hbox_, (by rw [hg_]; exact hS.size), blkB0 hb_ kb, jb, Nat.ne_of_gt (Nat.lt_of_lt_of_eq (blk_lt kb) hg_.symm)⟩)
          rintro ⟨P0, pz0, ga_, gb_⟩ w1 ⟨hS, f0, ka, ja, kb, jb, nab⟩
          replace hS : Below w4.heap.size w4 w1 := hS
          replace f0 : Kd.C k41 w1 P0 L0.length L0 ∧ L0.length ≤ pz0 := f0
          replace ka : w1.heap[ga_]? = some (.cells #[.int .i64 0, .slice none 0 0] 64 (0, 0)) := ka
          replace ja : w4.heap.size ≤ ga_ := ja
          replace kb : w1.heap[gb_]? = some (.cells #[.int .i64 0, .int .i64 0, .int .i64 0, .int .i64 0, .slice none 0 0] 34 (0, 0)) := kb
          replace jb : w4.heap.size ≤ gb_ := jb
          replace nab : ga_ ≠ gb_ := nab
          refine norm_ (a' := ?_) ?_ ?_
          rotate_left
          · simp only [putAll, Act.put, List.setIfInBounds_toArray, List.set_cons_zero, List.set_cons_succ]
            rfl
          refine one_ (i := 3) (N := some 36) #[true, true, true, true, true, false, false, false, false, false, true, true, false, false, false] rfl rfl (one_of HT_.out (by kernel_rfl)) (by decide) (fun K hK => ?_)
          · refine goes_ Try.func55 (by kernel_rfl) rfl #[.agg #[.int .i64 a1_0, .int .i64 a1_1, .int .i64 a1_2, .int .i64 a1_3, .slice A1 l1.length c1]] (by rfl) rfl rfl z38x16 ?_
            with_reducible refine (laws_toMsg.calls k a1_0 a1_1 a1_2 a1_3 A1 c1 l1 a1_0 a1_1 a1_2 a1_3 L1 _ (Kd.C_below (Kd.C_below HR1.out HB.out) hS) HL1.out HT1.out).mono ?_
            rintro e w2 ⟨v_, rfl, ho_, hb_⟩
            refine ⟨_, rfl, ?_⟩
            obtain ⟨P1, pz1, ev_⟩ := Kd.R_slice ho_
            subst ev_
            refine hK.out _ _ (below_step hS hb_) (fun hS2 => ?_)
            clear hK K
            exact norm_ z38x0 (hJ211 ⟨P0, pz0, P1, pz1, ga_, gb_⟩ _ ⟨hS2, ⟨Kd.C_below f0.1 hb_, f0.2⟩, ⟨(Kd.R_reads' ho_).2.2, (Kd.R_reads' ho_).2.1⟩, blkB0 hb_ ka, ja, blkB0 hb_ kb, jb, nab⟩)
        rintro ⟨P0, pz0, P1, pz1, Q0, q0_, x0_, Q1, q1_, ga_⟩ w1 ⟨hS, f2, f3, ka, ja⟩
        replace hS : Below w4.heap.size w4 w1 := hS
        replace f2 : C.length ≤ x0_ ∧ Kd.R k41 41 w1 w4.heap.size (fun _ => True) (.slice Q0 C.length q0_) C := f2
        replace f3 : Kd.R k41 41 w1 w4.heap.size (fun _ => True) (.slice Q1 SS.length q1_) SS := f3
        replace ka : w1.heap[ga_]? = some (.cells #[.int .i64 0, .slice none 0 0] 64 (0, 0)) := ka
        replace ja : w4.heap.size ≤ ga_ := ja
        refine norm_ (a' := ?_) ?_ ?_
        rotate_left
        · simp only [putAll, Act.put, List.setIfInBounds_toArray, List.set_cons_zero, List.set_cons_succ]
          rfl
        refine one_ (i := 11) (N := some 9) #[true, true, true, true, true, true, true, true, true, true, true, true, false, false, false] rfl rfl (one_of HT_.out (by kernel_rfl)) (by decide) (fun K hK => ?_)
        · refine box_step ?hg (N := 9) ?hd (cs := #[.int .i64 0, .int .i64 0, .int .i64 0, .int .i64 0, .slice none 0 0]) (t := 34) ?hr ?_; (case hd => rfl); (case hg => rfl); (case hr => first | (go_simp; done) | (go_simp; rfl))
          intro gb_ hg_ w2 hbox_ hb_
          refine hK.out _ _ (below_step hS hb_) (fun hS2 => ?_)
          clear hK K
          exact norm_ z38x0 (hJ311 ⟨P0, pz0, P1, pz1, Q0, q0_, x0_, Q1, q1_, ga_, gb_⟩ _ ⟨hS2, ⟨f2.1, Kd.R_below f2.2 hb_⟩, Kd.R_below f3 hb_, blkB0 hb_ ka, ja, hbox_, (by rw [hg_]; exact hS.size), Nat.ne_of_lt (Nat.lt_of_lt_of_eq (blk_lt ka) hg_.symm)⟩)
      rintro ⟨P0, pz0, P1, pz1, Q0, q0_, x0_, Q1, q1_, gb_⟩ w1 ⟨hS, f2, f3, kb, jb⟩
      replace hS : Below w4.heap.size w4 w1 := hS
      replace f2 : C.length ≤ x0_ ∧ Kd.R k41 41 w1 w4.heap.size (fun _ => True) (.slice Q0 C.length q0_) C := f2
      replace f3 : Kd.R k41 41 w1 w4.heap.size (fun _ => True) (.slice Q1 SS.length q1_) SS := f3
      replace kb : w1.heap[gb_]? = some (.cells #[.int .i64 0, .int .i64 0, .int .i64 0, .int .i64 0, .slice none 0 0] 34 (0, 0)) := kb
      replace jb : w4.heap.size ≤ gb_ := jb
      refine norm_ (a' := ?_) ?_ ?_
      rotate_left
      · simp only [putAll, Act.put, List.setIfInBounds_toArray, List.set_cons_zero, List.set_cons_succ]
        rfl
      refine one_ (i := 10) (N := some 8) #[true, true, true, true, true, true, true, true, true, true, true, true, false, false, false] rfl rfl (one_of HT_.out (by kernel_rfl)) (by decide) (fun K hK => ?_)
      · refine box_step ?hg (N := 8) ?hd (cs := #[.int .i64 0, .slice none 0 0]) (t := 64) ?hr ?_; (case hd => rfl); (case hg => rfl); (case hr => first | (go_simp; done) | (go_simp; rfl))
        intro ga_ hg_ w2 hbox_ hb_
        refine hK.out _ _ (below_step hS hb_) (fun hS2 => ?_)
        clear hK K
        exact norm_ z38x0 (hJ311 ⟨P0, pz0, P1, pz1, Q0, q0_, x0_, Q1, q1_, ga_, gb_⟩ _ ⟨hS2, ⟨f2.1, Kd.R_below f2.2 hb_⟩, Kd.R_below f3 hb_, hbox_, (by rw [hg_]; exact hS.size), blkB0 hb_ kb, jb, Nat.ne_of_gt (Nat.lt_of_lt_of_eq (blk_lt kb) hg_.symm)⟩)
    rintro ⟨P0, pz0, P1, pz1, ga_, gb_⟩ w1 ⟨hS, f0, f1, ka, ja, kb, jb, nab⟩
    replace hS : Below w4.heap.size w4 w1 := hS
    replace f0 : Kd.C k41 w1 P0 L0.length L0 ∧ L0.length ≤ pz0 := f0
    replace f1 : Kd.C k41 w1 P1 L1.length L1 ∧ L1.length ≤ pz1 := f1
    replace ka : w1.heap[ga_]? = some (.cells #[.int .i64 0, .slice none 0 0] 64 (0, 0)) := ka
    replace ja : w4.heap.size ≤ ga_ := ja
    replace kb : w1.heap[gb_]? = some (.cells #[.int .i64 0, .int .i64 0, .int .i64 0, .int .i64 0, .slice none 0 0] 34 (0, 0)) := kb
    replace jb : w4.heap.size ≤ gb_ := jb
    replace nab : ga_ ≠ gb_ := nab
    refine norm_ (a' := ?_) ?_ ?_
    rotate_left
    · simp only [putAll, Act.put, List.setIfInBounds_toArray, List.set_cons_zero, List.set_cons_succ]
      rfl
    refine one_ (i := 5) (N := some 38) #[true, true, true, true, true, true, false, false, false, false, true, true, false, false, false] rfl rfl (one_of HT_.out (by kernel_rfl)) (by decide) (fun K hK => ?_)
    · refine goes_ Try.func53 (by kernel_rfl) rfl #[.agg #[.int .i64 a0_0, .slice P0 L0.length pz0], .agg #[.int .i64 a1_0, .int .i64 a1_1, .int .i64 a1_2, .int .i64 a1_3, .slice P1 L1.length pz1], .int .i64 a2] (by rfl) rfl rfl z38x16 ?_
      with_reducible refine (spec_KdcAs.calls k a0_0 P0 pz0 L0 a1_0 a1_1 a1_2 a1_3 P1 pz1 L1 a2 n C m0 m1 m2 m3 SS b _ f0.1 f0.2 f1.1 f1.2 HS.out).mono ?_
      rintro e w2 ⟨v_, u_, rfl, ho_, hu_, hb_⟩
      refine ⟨_, rfl, ?_⟩
      obtain ⟨Q0, q0_, ev_⟩ := Kd.R_slice ho_
      subst ev_
      obtain ⟨Q1, q1_, ev_⟩ := Kd.R_slice hu_
      subst ev_
      refine hK.out _ _ (below_step hS hb_) (fun hS2 => ?_)
      clear hK K
      refine norm_ (a' := ?_) ?_ ?_
      rotate_left
      · show Act.put _ (some 38) _ = _
        simp only [Act.put, List.setIfInBounds_toArray, List.set_cons_zero, List.set_cons_succ, i64_w, i32_w]
        rfl
      refine pure_ (i := 6) (N := some 32) (v := ?_) (a' := ?_) #[true, true, true, true, true, true, true, false, false, false, true, true, false, false, false] rfl rfl (any_of HT_.out (by kernel_rfl)) (fun _ _ _ h => h) (Or.inl ⟨by rfl, ?_⟩) ?_ ?_
      rotate_left
      · intro w'
        go_simp
        with_reducible rfl
      rotate_left
      · simp only [Act.put, List.setIfInBounds_toArray, List.set_cons_zero, List.set_cons_succ, i64_w, i32_w]
        rfl
      refine pure_ (i := 7) (N := some 39) (v := ?_) (a' := ?_) #[true, true, true, true, true, true, true, true, false, false, true, true, false, false, false] rfl rfl (any_of HT_.out (by kernel_rfl)) (fun _ _ _ h => h) (Or.inl ⟨by rfl, ?_⟩) ?_ ?_
      rotate_left
      · intro w'
        go_simp
        with_reducible rfl
      rotate_left
      · simp only [Act.put, List.setIfInBounds_toArray, List.set_cons_zero, List.set_cons_succ, i64_w, i32_w]
        rfl
      refine pure_ (i := 8) (N := some 40) (v := ?_) (a' := ?_) #[true, true, true, true, true, true, true, true, true, false, true, true, false, false, false] rfl rfl (any_of HT_.out (by kernel_rfl)) (fun _ _ _ h => h) (Or.inl ⟨by rfl, ?_⟩) ?_ ?_
      rotate_left
      · intro w'
        go_simp
        with_reducible rfl
      rotate_left
      · simp only [Act.put, List.setIfInBounds_toArray, List.set_cons_zero, List.set_cons_succ, i64_w, i32_w]
        rfl
      refine pure_ (i := 9) (N := some 41) (v := ?_) (a' := ?_) #[true, true, true, true, true, true, true, true, true, true, true, true, false, false, false] rfl rfl (any_of HT_.out (by kernel_rfl)) (fun _ _ _ h => h) (Or.inl ⟨by rfl, ?_⟩) ?_ ?_
      rotate_left
      · intro w'
        go_simp
        with_reducible rfl
      rotate_left
      · simp only [Act.put, List.setIfInBounds_toArray, List.set_cons_zero, List.set_cons_succ, i64_w, i32_w]
        rfl
      exact norm_ z38x0 (hJ311 ⟨P0, pz0, P1, pz1, Q0, q0_, q0_, Q1, q1_, ga_, gb_⟩ _ ⟨hS2, ⟨(Kd.R_reads' ho_).2.1, Kd.R_mono (Kd.R_lower ho_ hS.size) (fun _ _ => trivial)⟩, Kd.R_mono (Kd.R_lower hu_ hS.size) (fun _ _ => trivial), blkB0 hb_ ka, ja, blkB0 hb_ kb, jb, nab⟩)
  rintro ⟨P0, pz0, P1, pz1, Q0, q0_, x0_, Q1, q1_, ga_, gb_⟩ w1 ⟨hS, f2, f3, ka, ja, kb, jb, nab⟩
  replace hS : Below w4.heap.size w4 w1 := hS
  replace f2 : C.length ≤ x0_ ∧ Kd.R k41 41 w1 w4.heap.size (fun _ => True) (.slice Q0 C.length q0_) C := f2
  replace f3 : Kd.R k41 41 w1 w4.heap.size (fun _ => True) (.slice Q1 SS.length q1_) SS := f3
  replace ka : w1.heap[ga_]? = some (.cells #[.int .i64 0, .slice none 0 0] 64 (0, 0)) := ka
  replace ja : w4.heap.size ≤ ga_ := ja
  replace kb : w1.heap[gb_]? = some (.cells #[.int .i64 0, .int .i64 0, .int .i64 0, .int .i64 0, .slice none 0 0] 34 (0, 0)) := kb
  replace jb : w4.heap.size ≤ gb_ := jb
  replace nab : ga_ ≠ gb_ := nab
  refine norm_ (a' := ?_) ?_ ?_
  rotate_left
  · simp only [putAll, Act.put, List.setIfInBounds_toArray, List.set_cons_zero, List.set_cons_succ]
    rfl
  have nba := Ne.symm nab
  have hz0 : w1.cell? ⟨ga_, 0, none⟩ = some (.int .i64 0) := (blk_cell ka 0).trans rfl
  have hz1 : w1.cell? ⟨ga_, 1, none⟩ = some (.slice none 0 0) := (blk_cell ka 1).trans rfl
  have hf0 := blk_frozen ka 0
  have hf1 := blk_frozen ka 1
  have hy0 : w1.cell? ⟨gb_, 0, none⟩ = some (.int .i64 0) := (blk_cell kb 0).trans rfl
  have hy1 : w1.cell? ⟨gb_, 1, none⟩ = some (.int .i64 0) := (blk_cell kb 1).trans rfl
  have hy2 : w1.cell? ⟨gb_, 2, none⟩ = some (.int .i64 0) := (blk_cell kb 2).trans rfl
  have hy3 : w1.cell? ⟨gb_, 3, none⟩ = some (.int .i64 0) := (blk_cell kb 3).trans rfl
  have hy4 : w1.cell? ⟨gb_, 4, none⟩ = some (.slice none 0 0) := (blk_cell kb 4).trans rfl
  have hg0 := blk_frozen kb 0
  have hg1 := blk_frozen kb 1
  have hg2 := blk_frozen kb 2
  have hg3 := blk_frozen kb 3
  have hg4 := blk_frozen kb 4
  refine one_ (i := 12) (N := none) #[true, true, true, true, true, true, true, true, true, true, true, true, true, false, false] rfl rfl (one_of HT_.out (by kernel_rfl)) (by decide) (fun K hK => ?_)
  refine skip_ (w1 := ?_) (by rfl) rfl ?_ ?_
  rotate_left
  · go_simp
    rfl
  refine hK.out _ _ (kdcPutB hS ja _ _) (fun hS2 => ?_)
  clear hK K
  refine one_ (i := 13) (N := none) #[true, true, true, true, true, true, true, true, true, true, true, true, true, true, false] rfl rfl (one_of HT_.out (by kernel_rfl)) (by decide) (fun K hK => ?_)
  refine skip_ (w1 := ?_) (by rfl) rfl ?_ ?_
  rotate_left
  · go_simp
    rfl
  refine hK.out _ _ (msgPutB hS2 jb _ _ _ _ _) (fun hS3 => ?_)
  clear hK K
  refine pure_ (i := 14) (N := some 10) (v := ?_) (a' := ?_) #[true, true, true, true, true, true, true, true, true, true, true, true, true, true, true] rfl rfl (any_of HT_.out (by kernel_rfl)) (fun _ _ _ h => h) (Or.inl ⟨by rfl, ?_⟩) ?_ ?_
  rotate_left
  · intro w'
    go_simp
    with_reducible rfl
  rotate_left
  · simp only [Act.put, List.setIfInBounds_toArray, List.set_cons_zero, List.set_cons_succ, i64_w, i32_w]
    rfl
  refine done_ (done_of HT_.out (by kernel_rfl)) ?_
  clear hS2 hz0 hz1 hf0 hf1 hy0 hy1 hy2 hy3 hy4 hg0 hg1 hg2 hg3 hg4
  generalize hW_ : World.setCell _ _ _ = W8
  have hS4 : Below w4.heap.size w4 W8 := by rw [← hW_]; exact hS3
  have GA := Aside0.mk (show W8.heap[ga_]? = some (.cells #[.int .i64 n, .slice Q0 C.length x0_] 64 (0, 0)) from by rw [← hW_]; exact msgFar nab (kdcPut ka _ _) _ _ _ _ _)
  have GB := Aside0.mk (show W8.heap[gb_]? = some (.cells #[.int .i64 m0, .int .i64 m1, .int .i64 m2, .int .i64 m3, .slice Q1 SS.length q1_] 34 (0, 0)) from by rw [← hW_]; exact msgPut (kdcFar nba kb _ _) _ _ _ _ _)
  have RA := Aside0.mk (show C.length ≤ x0_ ∧ Kd.C k41 W8 Q0 C.length C from And.intro f2.1 (by rw [← hW_]; exact (Kd.R_reads' (kdcEnd (u := .slice none 0 0) (Kd.R_tight rfl f2.2) ka kb (fun _ _ h => by cases h) _ _ _ _ _ _ _)).2.2))
  have RB := Aside0.mk (show SS.length ≤ q1_ ∧ Kd.C k41 W8 Q1 SS.length SS from And.intro (Kd.R_reads' f3).2.1 (by rw [← hW_]; exact (Kd.R_reads' (kdcEnd (u := .slice none 0 0) (Kd.R_tight rfl f3) ka kb (fun _ _ h => by cases h) _ _ _ _ _ _ _)).2.2))
  clear hW_ hS3 hS
  have hS3 := hS4
  clear hS4
  have HK8 := GA
  have HK9 := GB
  have HW0 := RA
  have HW1 := RB
  have HQ3 := Aside0.mk (blkB0 hS3 HK3.out)
  have HQ4 := Aside0.mk (blkB0 hS3 HK4.out)
  have HC0 := Aside0.mk (Kd.C_below (Kd.C_below HR0.out HB.out) hS3)
  have HC1 := Aside0.mk (Kd.C_below (Kd.C_below HR1.out HB.out) hS3)
  have HBW := Aside0.mk (below_step HB.out hS3)
  clear GA GB RA RB hS3 f2 f3 ka kb ja jb nab nba HK3 HK4 HR0 HR1 HB HT_ HW_
  have HB8 := Aside0.mk (Below.refl W8.heap.size W8)
  have hc0 : W8.cell? ⟨g3, 0, none⟩ = some (.int .i64 a0_0) := (blk_cell HQ3.out 0).trans rfl
  have hc1 : W8.cell? ⟨g3, 1, none⟩ = some (.slice A0 l0.length c0) := (blk_cell HQ3.out 1).trans rfl
  go_upto_region 12 with (first | ((with_reducible refine gate_dst (N := 11) rfl ?_); refine box_event ?hg (N := 11) ?hd (cs := #[.int .i64 0, .slice none 0 0]) (t := 64) ?hr ?_; (case hd => rfl); (case hg => rfl); (case hr => first | (go_simp; done) | (go_simp; rfl)); intro g11 hg_ w11 hbox_ hb_; have HK11 := Aside0.mk hbox_; have HG := Aside0.mk (show w10.heap.size ≤ g11 from by rw [hg_]; exact Nat.le_refl _); have HP := Aside0.mk (below_step (by repeat (first | (with_reducible first | exact Below.refl w10.heap.size w10 | apply below_alloc | apply pw_below_drewN | apply below_drew1) | exact Below.refl w10.heap.size w10)) hb_); have hz0 : w11.cell? ⟨g11, 0, none⟩ = some (.int .i64 0) := (blk_cell HK11.out 0).trans rfl; have hz1 : w11.cell? ⟨g11, 1, none⟩ = some (.slice none 0 0) := (blk_cell HK11.out 1).trans rfl; have hf0 := blk_frozen HK11.out 0; have hf1 := blk_frozen HK11.out 1; clear hb_ hbox_ hg_) | ((with_reducible refine gate_store (t := 64) (p := 11) rfl ?_); refine store_event (t := 64) (p := 11) (v := .tmp 43) (w1 := ((w11.setCell ⟨g11, 0, none⟩ (.int .i64 a0_0)).setCell ⟨g11, 1, none⟩ (.slice A11 L0.length c11))) ?hg ?ho ?hn ?hr ?_; (case ho => rfl); (case hg => rfl); (case hn => rfl); (case hr => first | (go_simp; done) | (go_simp; rfl)); intro w12 hw_; have mq_ := Aside0.mk (show w12.heap[g11]? = some (.cells #[.int .i64 a0_0, .slice A11 L0.length c11] 64 (0, 0)) from by rw [hw_]; exact kdcPut HK11.out _ _); have mp_ := (show Below w10.heap.size w10 w12 from by rw [hw_]; exact kdcPutB HP.out HG.out _ _); clear HK11 HP HG hz0 hz1 hf0 hf1; have HK11 := mq_; clear mq_; have mm0_ := Aside0.mk (below_step z38x7 mp_); have mm1_ := Aside0.mk (below_step z38x2 mp_); clear HB8; have HB8 := mm0_; clear mm0_; clear HB10; have HB10 := mm1_; clear mm1_; clear mp_; have hc0 : w12.cell? ⟨g4, 0, none⟩ = some (.int .i64 a1_0) := (blk_cell (blkB0 HB8.out HQ4.out) 0).trans rfl; have hc1 : w12.cell? ⟨g4, 1, none⟩ = some (.int .i64 a1_1) := (blk_cell (blkB0 HB8.out HQ4.out) 1).trans rfl; have hc2 : w12.cell? ⟨g4, 2, none⟩ = some (.int .i64 a1_2) := (blk_cell (blkB0 HB8.out HQ4.out) 2).trans rfl; have hc3 : w12.cell? ⟨g4, 3, none⟩ = some (.int .i64 a1_3) := (blk_cell (blkB0 HB8.out HQ4.out) 3).trans rfl; have hc4 : w12.cell? ⟨g4, 4, none⟩ = some (.slice A1 l1.length c1) := (blk_cell (blkB0 HB8.out HQ4.out) 4).trans rfl; clear hw_) | ((with_reducible refine gate_dst (N := 12) rfl ?_); refine box_event ?hg (N := 12) ?hd (cs := #[.int .i64 0, .int .i64 0, .int .i64 0, .int .i64 0, .slice none 0 0]) (t := 34) ?hr ?_; (case hd => rfl); (case hg => rfl); (case hr => first | (go_simp; done) | (go_simp; rfl)); intro g12 hg_ w14 hbox_ hb_; have HK12 := Aside0.mk hbox_; have HG := Aside0.mk (show w13.heap.size ≤ g12 from by rw [hg_]; exact Nat.le_refl _); have HP := Aside0.mk (below_step (by repeat (first | (with_reducible first | exact Below.refl w13.heap.size w13 | apply below_alloc | apply pw_below_drewN | apply below_drew1) | exact Below.refl w13.heap.size w13)) hb_); have hz0 : w14.cell? ⟨g12, 0, none⟩ = some (.int .i64 0) := (blk_cell HK12.out 0).trans rfl; have hz1 : w14.cell? ⟨g12, 1, none⟩ = some (.int .i64 0) := (blk_cell HK12.out 1).trans rfl; have hz2 : w14.cell? ⟨g12, 2, none⟩ = some (.int .i64 0) := (blk_cell HK12.out 2).trans rfl; have hz3 : w14.cell? ⟨g12, 3, none⟩ = some (.int .i64 0) := (blk_cell HK12.out 3).trans rfl; have hz4 : w14.cell? ⟨g12, 4, none⟩ = some (.slice none 0 0) := (blk_cell HK12.out 4).trans rfl; have hf0 := blk_frozen HK12.out 0; have hf1 := blk_frozen HK12.out 1; have hf2 := blk_frozen HK12.out 2; have hf3 := blk_frozen HK12.out 3; have hf4 := blk_frozen HK12.out 4; clear hb_ hbox_ hg_) | ((with_reducible refine gate_store (t := 34) (p := 12) rfl ?_); refine store_event (t := 34) (p := 12) (v := .tmp 45) (w1 := (((((w14.setCell ⟨g12, 0, none⟩ (.int .i64 a1_0)).setCell ⟨g12, 1, none⟩ (.int .i64 a1_1)).setCell ⟨g12, 2, none⟩ (.int .i64 a1_2)).setCell ⟨g12, 3, none⟩ (.int .i64 a1_3)).setCell ⟨g12, 4, none⟩ (.slice A12 L1.length c12))) ?hg ?ho ?hn ?hr ?_; (case ho => rfl); (case hg => rfl); (case hn => rfl); (case hr => first | (go_simp; done) | (go_simp; rfl)); intro w15 hw_; have mq_ := Aside0.mk (show w15.heap[g12]? = some (.cells #[.int .i64 a1_0, .int .i64 a1_1, .int .i64 a1_2, .int .i64 a1_3, .slice A12 L1.length c12] 34 (0, 0)) from by rw [hw_]; exact msgPut HK12.out _ _ _ _ _); have mp_ := (show Below w13.heap.size w13 w15 from by rw [hw_]; exact msgPutB HP.out HG.out _ _ _ _ _); clear HK12 HP HG hz0 hz1 hz2 hz3 hz4 hf0 hf1 hf2 hf3 hf4; have HK12 := mq_; clear mq_; have mm0_ := Aside0.mk (below_step z38x7 mp_); have mm1_ := Aside0.mk (below_step z38x2 mp_); have mm2_ := Aside0.mk (below_step z38x3 mp_); have mm3_ := Aside0.mk (blkB0 mp_ z38x10); clear HB8; have HB8 := mm0_; clear mm0_; clear HB10; have HB10 := mm1_; clear mm1_; clear HB13; have HB13 := mm2_; clear mm2_; clear HK11; have HK11 := mm3_; clear mm3_; clear mp_; have hc0 : w15.cell? ⟨g11, 0, none⟩ = some (.int .i64 a0_0) := (blk_cell HK11.out 0).trans rfl; have hc1 : w15.cell? ⟨g11, 1, none⟩ = some (.slice A11 L0.length c11) := (blk_cell HK11.out 1).trans rfl; have hd0 : w15.cell? ⟨g12, 0, none⟩ = some (.int .i64 a1_0) := (blk_cell HK12.out 0).trans rfl; have hd1 : w15.cell? ⟨g12, 1, none⟩ = some (.int .i64 a1_1) := (blk_cell HK12.out 1).trans rfl; have hd2 : w15.cell? ⟨g12, 2, none⟩ = some (.int .i64 a1_2) := (blk_cell HK12.out 2).trans rfl; have hd3 : w15.cell? ⟨g12, 3, none⟩ = some (.int .i64 a1_3) := (blk_cell HK12.out 3).trans rfl; have hd4 : w15.cell? ⟨g12, 4, none⟩ = some (.slice A12 L1.length c12) := (blk_cell HK12.out 4).trans rfl; clear hw_) | ((with_reducible refine gate_dst (N := 13) rfl ?_); refine box_event ?hg (N := 13) ?hd (cs := #[.int .i64 0, .slice none 0 0]) (t := 64) ?hr ?_; (case hd => rfl); (case hg => rfl); (case hr => first | (go_simp; done) | (go_simp; rfl)); intro g13 hg_ w17 hbox_ hb_; have HK13 := Aside0.mk hbox_; have HGA := Aside0.mk (show w16.heap.size ≤ g13 from by rw [hg_]; exact Nat.le_refl _); have HP := Aside0.mk (below_step (by repeat (first | (with_reducible first | exact Below.refl w16.heap.size w16 | apply below_alloc | apply pw_below_drewN | apply below_drew1) | exact Below.refl w16.heap.size w16)) hb_); have hz0 : w17.cell? ⟨g13, 0, none⟩ = some (.int .i64 0) := (blk_cell HK13.out 0).trans rfl; have hz1 : w17.cell? ⟨g13, 1, none⟩ = some (.slice none 0 0) := (blk_cell HK13.out 1).trans rfl; have hf0 := blk_frozen HK13.out 0; have hf1 := blk_frozen HK13.out 1; clear hb_ hbox_ hg_) | ((with_reducible refine gate_dst (N := 14) rfl ?_); refine box_event ?hg (N := 14) ?hd (cs := #[.int .i64 0, .int .i64 0, .int .i64 0, .int .i64 0, .slice none 0 0]) (t := 34) ?hr ?_; (case hd => rfl); (case hg => rfl); (case hr => first | (go_simp; done) | (go_simp; rfl)); intro g14 hg_ w18 hbox_ hb_; have HK14 := Aside0.mk hbox_; have HGB := Aside0.mk (show w16.heap.size ≤ g14 from by rw [hg_]; exact HP.out.size); have N34 := Aside0.mk (show g13 ≠ g14 from by have h_ := blk_lt HK13.out; omega); have mm_ := Aside0.mk (below_step z38x9 hb_); have mk_ := Aside0.mk (blkB0 hb_ z38x12); clear HP HK13; have HP := mm_; have HK13 := mk_; clear mm_ mk_ hz0 hz1 hf0 hf1; have hz0 : w18.cell? ⟨g13, 0, none⟩ = some (.int .i64 0) := (blk_cell HK13.out 0).trans rfl; have hz1 : w18.cell? ⟨g13, 1, none⟩ = some (.slice none 0 0) := (blk_cell HK13.out 1).trans rfl; have hf0 := blk_frozen HK13.out 0; have hf1 := blk_frozen HK13.out 1; have hy0 : w18.cell? ⟨g14, 0, none⟩ = some (.int .i64 0) := (blk_cell HK14.out 0).trans rfl; have hy1 : w18.cell? ⟨g14, 1, none⟩ = some (.int .i64 0) := (blk_cell HK14.out 1).trans rfl; have hy2 : w18.cell? ⟨g14, 2, none⟩ = some (.int .i64 0) := (blk_cell HK14.out 2).trans rfl; have hy3 : w18.cell? ⟨g14, 3, none⟩ = some (.int .i64 0) := (blk_cell HK14.out 3).trans rfl; have hy4 : w18.cell? ⟨g14, 4, none⟩ = some (.slice none 0 0) := (blk_cell HK14.out 4).trans rfl; have hg0 := blk_frozen HK14.out 0; have hg1 := blk_frozen HK14.out 1; have hg2 := blk_frozen HK14.out 2; have hg3 := blk_frozen HK14.out 3; have hg4 := blk_frozen HK14.out 4; have n1 := N34.out; have n2 := Ne.symm n1; clear hb_ hbox_ hg_) | ((with_reducible refine gate_store (t := 64) (p := 13) rfl ?_); refine store_event (t := 64) (p := 13) (v := .tmp 51) (w1 := ((w18.setCell ⟨g13, 0, none⟩ (.int .i64 n)).setCell ⟨g13, 1, none⟩ (.slice A13 C.length C.length))) ?hg ?ho ?hn ?hr ?_; (case ho => rfl); (case hg => rfl); (case hn => rfl); (case hr => first | (go_simp; done) | (go_simp; rfl)); intro w19 hw_; have mq_ := Aside0.mk (show w19.heap[g13]? = some (.cells #[.int .i64 n, .slice A13 C.length C.length] 64 (0, 0)) from by rw [hw_]; exact kdcPut HK13.out _ _); have mr_ := Aside0.mk (show w19.heap[g14]? = some (.cells #[.int .i64 0, .int .i64 0, .int .i64 0, .int .i64 0, .slice none 0 0] 34 (0, 0)) from by rw [hw_]; exact kdcFar (Ne.symm N34.out) HK14.out _ _); have mp_ := Aside0.mk (show Below w16.heap.size w16 w19 from by rw [hw_]; exact kdcPutB HP.out HGA.out _ _); clear HK13 HK14 HP HGA hz0 hz1 hf0 hf1 hy0 hy1 hy2 hy3 hy4 hg0 hg1 hg2 hg3 hg4; have HK13 := mq_; have HK14 := mr_; have HP := mp_; clear mq_ mr_ mp_; have hy0 : w19.cell? ⟨g14, 0, none⟩ = some (.int .i64 0) := (blk_cell HK14.out 0).trans rfl; have hy1 : w19.cell? ⟨g14, 1, none⟩ = some (.int .i64 0) := (blk_cell HK14.out 1).trans rfl; have hy2 : w19.cell? ⟨g14, 2, none⟩ = some (.int .i64 0) := (blk_cell HK14.out 2).trans rfl; have hy3 : w19.cell? ⟨g14, 3, none⟩ = some (.int .i64 0) := (blk_cell HK14.out 3).trans rfl; have hy4 : w19.cell? ⟨g14, 4, none⟩ = some (.slice none 0 0) := (blk_cell HK14.out 4).trans rfl; have hg0 := blk_frozen HK14.out 0; have hg1 := blk_frozen HK14.out 1; have hg2 := blk_frozen HK14.out 2; have hg3 := blk_frozen HK14.out 3; have hg4 := blk_frozen HK14.out 4; clear hw_) | ((with_reducible refine gate_store (t := 34) (p := 14) rfl ?_); refine store_event (t := 34) (p := 14) (v := .tmp 52) (w1 := (((((w19.setCell ⟨g14, 0, none⟩ (.int .i64 m0)).setCell ⟨g14, 1, none⟩ (.int .i64 m1)).setCell ⟨g14, 2, none⟩ (.int .i64 m2)).setCell ⟨g14, 3, none⟩ (.int .i64 m3)).setCell ⟨g14, 4, none⟩ (.slice A14 SS.length c14))) ?hg ?ho ?hn ?hr ?_; (case ho => rfl); (case hg => rfl); (case hn => rfl); (case hr => first | (go_simp; done) | (go_simp; rfl)); intro w20 hw_; have mq_ := Aside0.mk (show w20.heap[g14]? = some (.cells #[.int .i64 m0, .int .i64 m1, .int .i64 m2, .int .i64 m3, .slice A14 SS.length c14] 34 (0, 0)) from by rw [hw_]; exact msgPut HK14.out _ _ _ _ _); have mr_ := Aside0.mk (show w20.heap[g13]? = some (.cells #[.int .i64 n, .slice A13 C.length C.length] 64 (0, 0)) from by rw [hw_]; exact msgFar N34.out HK13.out _ _ _ _ _); have mp_ := (show Below w16.heap.size w16 w20 from by rw [hw_]; exact msgPutB HP.out HGB.out _ _ _ _ _); clear HK13 HK14 HP HGB hy0 hy1 hy2 hy3 hy4 hg0 hg1 hg2 hg3 hg4 n1 n2; have HK14 := mq_; have HK13 := mr_; clear mq_ mr_; have mm0_ := Aside0.mk (below_step z38x7 mp_); have mm1_ := Aside0.mk (below_step z38x2 mp_); have mm2_ := Aside0.mk (below_step z38x3 mp_); have mm3_ := Aside0.mk (below_step z38x4 mp_); have mm4_ := Aside0.mk (blkB0 mp_ z38x10); have mm5_ := Aside0.mk (blkB0 mp_ z38x11); clear HB8; have HB8 := mm0_; clear mm0_; clear HB10; have HB10 := mm1_; clear mm1_; clear HB13; have HB13 := mm2_; clear mm2_; clear HB16; have HB16 := mm3_; clear mm3_; clear HK11; have HK11 := mm4_; clear mm4_; clear HK12; have HK12 := mm5_; clear mm5_; clear mp_; have hc0 : w20.cell? ⟨g13, 0, none⟩ = some (.int .i64 n) := (blk_cell HK13.out 0).trans rfl; have hc1 : w20.cell? ⟨g13, 1, none⟩ = some (.slice A13 C.length C.length) := (blk_cell HK13.out 1).trans rfl; have hd0 : w20.cell? ⟨ga_, 0, none⟩ = some (.int .i64 n) := (blk_cell (blkB0 HB8.out HK8.out) 0).trans rfl; have hd1 : w20.cell? ⟨ga_, 1, none⟩ = some (.slice Q0 C.length x0_) := (blk_cell (blkB0 HB8.out HK8.out) 1).trans rfl; clear hw_) | (go_at_call 54; refine (laws_toKdc.calls k a0_0 A0 c0 l0 a0_0 L0 _ (Kd.C_below HC0.out z38x7) HL0.out HT0.out).mono ?_; rintro e w10 ⟨v_, rfl, ho_, hb_⟩; obtain ⟨A11, c11, ev_⟩ := Kd.R_slice ho_; subst ev_; have HX0 := Aside0.mk (Kd.R_lower ho_ (z38x7 : Below W8.heap.size W8 _).size); have mm0_ := Aside0.mk (below_step z38x7 hb_); clear HB8; have HB8 := mm0_; clear mm0_; clear ho_ hb_ hc0 hc1; have HB10 := Aside0.mk (Below.refl w10.heap.size w10)) | (go_at_call 55; refine (laws_toMsg.calls k a1_0 a1_1 a1_2 a1_3 A1 c1 l1 a1_0 a1_1 a1_2 a1_3 L1 _ (Kd.C_below HC1.out z38x7) HL1.out HT1.out).mono ?_; rintro e w13 ⟨v_, rfl, ho_, hb_⟩; obtain ⟨A12, c12, ev_⟩ := Kd.R_slice ho_; subst ev_; have HX1 := Aside0.mk (Kd.R_lower (Kd.R_new' ho_ (Kd.R_lt (Kd.R_below HX0.out z38x2))) (z38x7 : Below W8.heap.size W8 _).size); have mm0_ := Aside0.mk (below_step z38x7 hb_); have mm1_ := Aside0.mk (below_step z38x2 hb_); have mm2_ := Aside0.mk (blkB0 hb_ z38x10); clear HB8; have HB8 := mm0_; clear mm0_; clear HB10; have HB10 := mm1_; clear mm1_; clear HK11; have HK11 := mm2_; clear mm2_; clear ho_ hb_ hc0 hc1 hc2 hc3 hc4; have HB13 := Aside0.mk (Below.refl w13.heap.size w13)) | (go_at_call 56; refine (impl_KdcAs.calls k a0_0 A11 c11 L0 a1_0 a1_1 a1_2 a1_3 A12 c12 L1 a2 n C m0 m1 m2 m3 SS b _ (Kd.C_below (Kd.R_reads' HX0.out).2.2 z38x2) (Kd.R_reads' HX0.out).2.1 (Kd.C_below (Kd.R_reads' HX1.out).2.2 z38x3) (Kd.R_reads' HX1.out).2.1 HI.out).mono ?_; rintro e w16 ⟨v_, vc_, u_, rfl, hcl_, ho_, hu_, hb_⟩; obtain ⟨A13, c13, ev_⟩ := Kd.R_slice ho_; subst ev_; obtain rfl := hcl_ _ _ _ rfl; obtain ⟨A14, c14, ev_⟩ := Kd.R_slice hu_; subst ev_; have HG0 := Aside0.mk (Kd.R_lower (Kd.R_new' (Kd.R_new' ho_ (Kd.R_lt (Kd.R_below HX0.out z38x2))) (Kd.R_lt (Kd.R_below HX1.out z38x3))) (z38x7 : Below W8.heap.size W8 _).size); have HG1 := Aside0.mk (Kd.R_lower (Kd.R_new' (Kd.R_new' hu_ (Kd.R_lt (Kd.R_below HX0.out z38x2))) (Kd.R_lt (Kd.R_below HX1.out z38x3))) (z38x7 : Below W8.heap.size W8 _).size); have mm0_ := Aside0.mk (below_step z38x7 hb_); have mm1_ := Aside0.mk (below_step z38x2 hb_); have mm2_ := Aside0.mk (below_step z38x3 hb_); have mm3_ := Aside0.mk (blkB0 hb_ z38x10); have mm4_ := Aside0.mk (blkB0 hb_ z38x11); clear HB8; have HB8 := mm0_; clear mm0_; clear HB10; have HB10 := mm1_; clear mm1_; clear HB13; have HB13 := mm2_; clear mm2_; clear HK11; have HK11 := mm3_; clear mm3_; clear HK12; have HK12 := mm4_; clear mm4_; clear ho_ hu_ hb_ hcl_ hc0 hc1 hd0 hd1 hd2 hd3 hd4; have HB16 := Aside0.mk (Below.refl w16.heap.size w16)))
  go_upto_region 14 with (first | (go_at_call 57; refine (laws_eqKdc.calls k n A13 C.length C n Q0 x0_ C true _ (Kd.C_below (Kd.R_reads' HG0.out).2.2 z38x4) (Nat.le_refl _) (Kd.C_below HW0.out.2 z38x7) HW0.out.1 HE0.out).mono ?_; rintro e w21 ⟨rfl, hb_⟩; have mm0_ := Aside0.mk (below_step z38x7 hb_); have mm1_ := Aside0.mk (below_step z38x2 hb_); have mm2_ := Aside0.mk (below_step z38x3 hb_); have mm3_ := Aside0.mk (below_step z38x4 hb_); have mm4_ := Aside0.mk (blkB0 hb_ z38x10); have mm5_ := Aside0.mk (blkB0 hb_ z38x11); have mm6_ := Aside0.mk (blkB0 hb_ z38x12); have mm7_ := Aside0.mk (blkB0 hb_ z38x13); clear HB8; have HB8 := mm0_; clear mm0_; clear HB10; have HB10 := mm1_; clear mm1_; clear HB13; have HB13 := mm2_; clear mm2_; clear HB16; have HB16 := mm3_; clear mm3_; clear HK11; have HK11 := mm4_; clear mm4_; clear HK12; have HK12 := mm5_; clear mm5_; clear HK13; have HK13 := mm6_; clear mm6_; clear HK14; have HK14 := mm7_; clear mm7_; clear hb_ hc0 hc1 hd0 hd1; have hc0 : w21.cell? ⟨g14, 0, none⟩ = some (.int .i64 m0) := (blk_cell HK14.out 0).trans rfl; have hc1 : w21.cell? ⟨g14, 1, none⟩ = some (.int .i64 m1) := (blk_cell HK14.out 1).trans rfl; have hc2 : w21.cell? ⟨g14, 2, none⟩ = some (.int .i64 m2) := (blk_cell HK14.out 2).trans rfl; have hc3 : w21.cell? ⟨g14, 3, none⟩ = some (.int .i64 m3) := (blk_cell HK14.out 3).trans rfl; have hc4 : w21.cell? ⟨g14, 4, none⟩ = some (.slice A14 SS.length c14) := (blk_cell HK14.out 4).trans rfl; have hd0 : w21.cell? ⟨gb_, 0, none⟩ = some (.int .i64 m0) := (blk_cell (blkB0 HB8.out HK9.out) 0).trans rfl; have hd1 : w21.cell? ⟨gb_, 1, none⟩ = some (.int .i64 m1) := (blk_cell (blkB0 HB8.out HK9.out) 1).trans rfl; have hd2 : w21.cell? ⟨gb_, 2, none⟩ = some (.int .i64 m2) := (blk_cell (blkB0 HB8.out HK9.out) 2).trans rfl; have hd3 : w21.cell? ⟨gb_, 3, none⟩ = some (.int .i64 m3) := (blk_cell (blkB0 HB8.out HK9.out) 3).trans rfl; have hd4 : w21.cell? ⟨gb_, 4, none⟩ = some (.slice Q1 SS.length q1_) := (blk_cell (blkB0 HB8.out HK9.out) 4).trans rfl) | (go_at_call 58; refine (laws_eqMsg.calls k m0 m1 m2 m3 A14 c14 SS m0 m1 m2 m3 Q1 q1_ SS true _ (Kd.C_below (Kd.R_reads' HG1.out).2.2 z38x4) (Kd.R_reads' HG1.out).2.1 (Kd.C_below HW1.out.2 z38x7) HW1.out.1 HE1.out).mono ?_; rintro e w22 ⟨rfl, hb_⟩; have mm0_ := Aside0.mk (below_step z38x7 hb_); have mm1_ := Aside0.mk (below_step z38x2 hb_); have mm2_ := Aside0.mk (below_step z38x3 hb_); have mm3_ := Aside0.mk (below_step z38x4 hb_); have mm4_ := Aside0.mk (blkB0 hb_ z38x10); have mm5_ := Aside0.mk (blkB0 hb_ z38x11); have mm6_ := Aside0.mk (blkB0 hb_ z38x12); have mm7_ := Aside0.mk (blkB0 hb_ z38x13); clear HB8; have HB8 := mm0_; clear mm0_; clear HB10; have HB10 := mm1_; clear mm1_; clear HB13; have HB13 := mm2_; clear mm2_; clear HB16; have HB16 := mm3_; clear mm3_; clear HK11; have HK11 := mm4_; clear mm4_; clear HK12; have HK12 := mm5_; clear mm5_; clear HK13; have HK13 := mm6_; clear mm6_; clear HK14; have HK14 := mm7_; clear mm7_; clear hb_ hc0 hc1 hc2 hc3 hc4 hd0 hd1 hd2 hd3 hd4))
  refine start_ (n := 5) (S := fun w' => Below w22.heap.size w22 w') (ds := []) #[false, false, false, false, false] (by kernel_rfl) rfl rfl z38x1 (fun hS => ?_)
  refine take_ (i := 0) (N := some 69) (v := ?_) (a' := ?_) #[true, false, false, false, false] rfl rfl (by kernel_rfl) (fun _ _ _ h => h) (Or.inl ⟨by rfl, ?_⟩) hS ?_ ?_
  rotate_left
  · intro w' hS_
    replace hS_ : Below w22.heap.size w22 w' := hS_
    have s0 : w'.cell? ⟨g11, 0, none⟩ = some (.int .i64 a0_0) := (blk_cell (blkB0 hS_ HK11.out) 0).trans rfl
    have s1 : w'.cell? ⟨g11, 1, none⟩ = some (.slice A11 L0.length c11) := (blk_cell (blkB0 hS_ HK11.out) 1).trans rfl
    go_simp
    with_reducible rfl
  rotate_left
  · simp only [Act.put, List.setIfInBounds_toArray, List.set_cons_zero, List.set_cons_succ, i64_w, i32_w]
    rfl
  refine take_ (i := 1) (N := some 70) (v := ?_) (a' := ?_) #[true, true, false, false, false] rfl rfl (by kernel_rfl) (fun _ _ _ h => h) (Or.inl ⟨by rfl, ?_⟩) hS ?_ ?_
  rotate_left
  · intro w' hS_
    replace hS_ : Below w22.heap.size w22 w' := hS_
    have s0 : w'.cell? ⟨g3, 0, none⟩ = some (.int .i64 a0_0) := (blk_cell (blkB0 hS_ (blkB0 HB8.out HQ3.out)) 0).trans rfl
    have s1 : w'.cell? ⟨g3, 1, none⟩ = some (.slice A0 l0.length c0) := (blk_cell (blkB0 hS_ (blkB0 HB8.out HQ3.out)) 1).trans rfl
    go_simp
    with_reducible rfl
  rotate_left
  · simp only [Act.put, List.setIfInBounds_toArray, List.set_cons_zero, List.set_cons_succ, i64_w, i32_w]
    rfl
  refine one_ (i := 2) (N := some 71) #[true, true, true, false, false] rfl rfl (by kernel_rfl) (by decide) (fun K hK => ?_)
  refine goes_ Try.func54 (by kernel_rfl) rfl #[.agg #[.int .i64 a0_0, .slice A0 l0.length c0]] (by rfl) rfl rfl z38x16 ?_
  with_reducible refine (laws_toKdc.calls k a0_0 A0 c0 l0 a0_0 L0 _ (Kd.C_below (Kd.C_below HC0.out HB8.out) hS) HL0.out HT0.out).mono ?_
  rintro e w23 ⟨v_, rfl, ho_, hb_⟩
  refine ⟨_, rfl, ?_⟩
  obtain ⟨P0, pz0, ev_⟩ := Kd.R_slice ho_
  subst ev_
  have HY := Aside0.mk (Kd.R_reads' ho_).2
  clear ho_
  refine hK.out _ _ (below_step hS hb_) (fun hS2 => ?_)
  clear hK K
  refine norm_ (a' := ?_) ?_ ?_
  rotate_left
  · show Act.put _ (some 71) _ = _
    simp only [Act.put, List.setIfInBounds_toArray, List.set_cons_zero, List.set_cons_succ, i64_w, i32_w]
    rfl
  replace hS2 : Below w22.heap.size w22 w23 := hS2
  clear hS hb_
  refine one_ (i := 3) (N := some 72) #[true, true, true, true, false] rfl rfl (by kernel_rfl) (by decide) (fun K hK => ?_)
  refine goes_ Try.func57 (by kernel_rfl) rfl #[.agg #[.int .i64 a0_0, .slice A11 L0.length c11], .agg #[.int .i64 a0_0, .slice P0 L0.length pz0]] (by rfl) rfl rfl z38x16 ?_
  with_reducible refine (laws_eqKdc.calls k a0_0 A11 c11 L0 a0_0 P0 pz0 L0 true _ (Kd.C_below (Kd.C_below (Kd.R_reads' HX0.out).2.2 HB10.out) hS2) (Kd.R_reads' HX0.out).2.1 HY.out.2 HY.out.1 HE2.out).mono ?_
  rintro e w24 ⟨rfl, hb_⟩
  refine ⟨_, rfl, ?_⟩
  refine hK.out _ _ (below_step hS2 hb_) (fun hS3 => ?_)
  clear hK K
  refine norm_ (a' := ?_) ?_ ?_
  rotate_left
  · show Act.put _ (some 72) _ = _
    simp only [Act.put, List.setIfInBounds_toArray, List.set_cons_zero, List.set_cons_succ, i64_w, i32_w]
    rfl
  replace hS3 : Below w22.heap.size w22 w24 := hS3
  clear hS2 hb_
  refine pure_ (i := 4) (N := some 73) (v := ?_) (a' := ?_) #[true, true, true, true, true] rfl rfl (by kernel_rfl) (fun _ _ _ h => h) (Or.inl ⟨by rfl, ?_⟩) ?_ ?_
  rotate_left
  · intro w'
    go_simp
    with_reducible rfl
  rotate_left
  · simp only [Act.put, List.setIfInBounds_toArray, List.set_cons_zero, List.set_cons_succ, i64_w, i32_w]
    rfl
  refine done_ (by kernel_rfl) ?_
  (have mm0_ := Aside0.mk (below_step z38x7 hS3); have mm1_ := Aside0.mk (below_step z38x2 hS3); have mm2_ := Aside0.mk (below_step z38x3 hS3); have mm3_ := Aside0.mk (below_step z38x4 hS3); have mm4_ := Aside0.mk (blkB0 hS3 z38x10); have mm5_ := Aside0.mk (blkB0 hS3 z38x11); have mm6_ := Aside0.mk (blkB0 hS3 z38x12); have mm7_ := Aside0.mk (blkB0 hS3 z38x13); clear HB8; have HB8 := mm0_; clear mm0_; clear HB10; have HB10 := mm1_; clear mm1_; clear HB13; have HB13 := mm2_; clear mm2_; clear HB16; have HB16 := mm3_; clear mm3_; clear HK11; have HK11 := mm4_; clear mm4_; clear HK12; have HK12 := mm5_; clear mm5_; clear HK13; have HK13 := mm6_; clear mm6_; clear HK14; have HK14 := mm7_; clear mm7_)
  clear hS3 HY
  go_upto_region 16 with fail
  refine start_ (n := 5) (S := fun w' => Below w24.heap.size w24 w') (ds := []) #[false, false, false, false, false] (by kernel_rfl) rfl rfl z38x1 (fun hS => ?_)
  refine take_ (i := 0) (N := some 74) (v := ?_) (a' := ?_) #[true, false, false, false, false] rfl rfl (by kernel_rfl) (fun _ _ _ h => h) (Or.inl ⟨by rfl, ?_⟩) hS ?_ ?_
  rotate_left
  · intro w' hS_
    replace hS_ : Below w24.heap.size w24 w' := hS_
    have s0 : w'.cell? ⟨g12, 0, none⟩ = some (.int .i64 a1_0) := (blk_cell (blkB0 hS_ HK12.out) 0).trans rfl
    have s1 : w'.cell? ⟨g12, 1, none⟩ = some (.int .i64 a1_1) := (blk_cell (blkB0 hS_ HK12.out) 1).trans rfl
    have s2 : w'.cell? ⟨g12, 2, none⟩ = some (.int .i64 a1_2) := (blk_cell (blkB0 hS_ HK12.out) 2).trans rfl
    have s3 : w'.cell? ⟨g12, 3, none⟩ = some (.int .i64 a1_3) := (blk_cell (blkB0 hS_ HK12.out) 3).trans rfl
    have s4 : w'.cell? ⟨g12, 4, none⟩ = some (.slice A12 L1.length c12) := (blk_cell (blkB0 hS_ HK12.out) 4).trans rfl
    go_simp
    with_reducible rfl
  rotate_left
  · simp only [Act.put, List.setIfInBounds_toArray, List.set_cons_zero, List.set_cons_succ, i64_w, i32_w]
    rfl
  refine take_ (i := 1) (N := some 75) (v := ?_) (a' := ?_) #[true, true, false, false, false] rfl rfl (by kernel_rfl) (fun _ _ _ h => h) (Or.inl ⟨by rfl, ?_⟩) hS ?_ ?_
  rotate_left
  · intro w' hS_
    replace hS_ : Below w24.heap.size w24 w' := hS_
    have s0 : w'.cell? ⟨g4, 0, none⟩ = some (.int .i64 a1_0) := (blk_cell (blkB0 hS_ (blkB0 HB8.out HQ4.out)) 0).trans rfl
    have s1 : w'.cell? ⟨g4, 1, none⟩ = some (.int .i64 a1_1) := (blk_cell (blkB0 hS_ (blkB0 HB8.out HQ4.out)) 1).trans rfl
    have s2 : w'.cell? ⟨g4, 2, none⟩ = some (.int .i64 a1_2) := (blk_cell (blkB0 hS_ (blkB0 HB8.out HQ4.out)) 2).trans rfl
    have s3 : w'.cell? ⟨g4, 3, none⟩ = some (.int .i64 a1_3) := (blk_cell (blkB0 hS_ (blkB0 HB8.out HQ4.out)) 3).trans rfl
    have s4 : w'.cell? ⟨g4, 4, none⟩ = some (.slice A1 l1.length c1) := (blk_cell (blkB0 hS_ (blkB0 HB8.out HQ4.out)) 4).trans rfl
    go_simp
    with_reducible rfl
  rotate_left
  · simp only [Act.put, List.setIfInBounds_toArray, List.set_cons_zero, List.set_cons_succ, i64_w, i32_w]
    rfl
  refine one_ (i := 2) (N := some 76) #[true, true, true, false, false] rfl rfl (by kernel_rfl) (by decide) (fun K hK => ?_)
  refine goes_ Try.func55 (by kernel_rfl) rfl #[.agg #[.int .i64 a1_0, .int .i64 a1_1, .int .i64 a1_2, .int .i64 a1_3, .slice A1 l1.length c1]] (by rfl) rfl rfl z38x16 ?_
  with_reducible refine (laws_toMsg.calls k a1_0 a1_1 a1_2 a1_3 A1 c1 l1 a1_0 a1_1 a1_2 a1_3 L1 _ (Kd.C_below (Kd.C_below HC1.out HB8.out) hS) HL1.out HT1.out).mono ?_
  rintro e w25 ⟨v_, rfl, ho_, hb_⟩
  refine ⟨_, rfl, ?_⟩
  obtain ⟨P0, pz0, ev_⟩ := Kd.R_slice ho_
  subst ev_
  have HY := Aside0.mk (Kd.R_reads' ho_).2
  clear ho_
  refine hK.out _ _ (below_step hS hb_) (fun hS2 => ?_)
  clear hK K
  refine norm_ (a' := ?_) ?_ ?_
  rotate_left
  · show Act.put _ (some 76) _ = _
    simp only [Act.put, List.setIfInBounds_toArray, List.set_cons_zero, List.set_cons_succ, i64_w, i32_w]
    rfl
  replace hS2 : Below w24.heap.size w24 w25 := hS2
  clear hS hb_
  refine one_ (i := 3) (N := some 77) #[true, true, true, true, false] rfl rfl (by kernel_rfl) (by decide) (fun K hK => ?_)
  refine goes_ Try.func58 (by kernel_rfl) rfl #[.agg #[.int .i64 a1_0, .int .i64 a1_1, .int .i64 a1_2, .int .i64 a1_3, .slice A12 L1.length c12], .agg #[.int .i64 a1_0, .int .i64 a1_1, .int .i64 a1_2, .int .i64 a1_3, .slice P0 L1.length pz0]] (by rfl) rfl rfl z38x16 ?_
  with_reducible refine (laws_eqMsg.calls k a1_0 a1_1 a1_2 a1_3 A12 c12 L1 a1_0 a1_1 a1_2 a1_3 P0 pz0 L1 true _ (Kd.C_below (Kd.C_below (Kd.R_reads' HX1.out).2.2 HB13.out) hS2) (Kd.R_reads' HX1.out).2.1 HY.out.2 HY.out.1 HE3.out).mono ?_
  rintro e w26 ⟨rfl, hb_⟩
  refine ⟨_, rfl, ?_⟩
  refine hK.out _ _ (below_step hS2 hb_) (fun hS3 => ?_)
  clear hK K
  refine norm_ (a' := ?_) ?_ ?_
  rotate_left
  · show Act.put _ (some 77) _ = _
    simp only [Act.put, List.setIfInBounds_toArray, List.set_cons_zero, List.set_cons_succ, i64_w, i32_w]
    rfl
  replace hS3 : Below w24.heap.size w24 w26 := hS3
  clear hS2 hb_
  refine pure_ (i := 4) (N := some 78) (v := ?_) (a' := ?_) #[true, true, true, true, true] rfl rfl (by kernel_rfl) (fun _ _ _ h => h) (Or.inl ⟨by rfl, ?_⟩) ?_ ?_
  rotate_left
  · intro w'
    go_simp
    with_reducible rfl
  rotate_left
  · simp only [Act.put, List.setIfInBounds_toArray, List.set_cons_zero, List.set_cons_succ, i64_w, i32_w]
    rfl
  refine done_ (by kernel_rfl) ?_
  (have mm0_ := Aside0.mk (below_step z38x7 hS3); have mm1_ := Aside0.mk (below_step z38x2 hS3); have mm2_ := Aside0.mk (below_step z38x3 hS3); have mm3_ := Aside0.mk (below_step z38x4 hS3); have mm4_ := Aside0.mk (blkB0 hS3 z38x10); have mm5_ := Aside0.mk (blkB0 hS3 z38x11); have mm6_ := Aside0.mk (blkB0 hS3 z38x12); have mm7_ := Aside0.mk (blkB0 hS3 z38x13); clear HB8; have HB8 := mm0_; clear mm0_; clear HB10; have HB10 := mm1_; clear mm1_; clear HB13; have HB13 := mm2_; clear mm2_; clear HB16; have HB16 := mm3_; clear mm3_; clear HK11; have HK11 := mm4_; clear mm4_; clear HK12; have HK12 := mm5_; clear mm5_; clear HK13; have HK13 := mm6_; clear mm6_; clear HK14; have HK14 := mm7_; clear mm7_)
  clear hS3 HY
  have hc0 : w26.cell? ⟨g11, 0, none⟩ = some (.int .i64 a0_0) := (blk_cell HK11.out 0).trans rfl
  have hc1 : w26.cell? ⟨g11, 1, none⟩ = some (.slice A11 L0.length c11) := (blk_cell HK11.out 1).trans rfl
  go_upto_region 21 with (first | (go_at_call 59; refine (laws_markKdc.calls k a0_0 (fun k_ => some k_ = (.slice A11 L0.length c11 : Value).ownBlock) (.slice A11 L0.length c11) L0 1 q1 L0' W8 _ z38x7 (Kd.R_tight rfl (Kd.R_below HX0.out z38x2)) HM0.out).mono ?_; rintro e w27 ⟨rfl, _, hb_, hkp_⟩; have mm0_ := Aside0.mk (Kd.R_mono (Kd.R_keptB (Kd.R_below HX1.out z38x3) hkp_ (fun k_ hk_ hs_ => hk_.2 hs_)) (fun _ h_ => h_.1)); have mm1_ := Aside0.mk (Kd.R_mono (Kd.R_keptB (Kd.R_below HG0.out z38x4) hkp_ (fun k_ hk_ hs_ => hk_.1.2 hs_)) (fun _ h_ => h_.1)); have mm2_ := Aside0.mk (Kd.R_mono (Kd.R_keptB (Kd.R_below HG1.out z38x4) hkp_ (fun k_ hk_ hs_ => hk_.1.2 hs_)) (fun _ h_ => h_.1)); have mm3_ := Aside0.mk (blk_kept z38x11 hkp_ (fun e_ => (Kd.R_ne (Kd.R_below HX0.out z38x2) z38x11 (by decide)) e_)); have mm4_ := Aside0.mk (blk_kept z38x12 hkp_ (fun e_ => (Kd.R_ne (Kd.R_below HX0.out z38x2) z38x12 (by decide)) e_)); have mm5_ := Aside0.mk (blk_kept z38x13 hkp_ (fun e_ => (Kd.R_ne (Kd.R_below HX0.out z38x2) z38x13 (by decide)) e_)); clear HX1; have HX1 := mm0_; clear mm0_; clear HG0; have HG0 := mm1_; clear mm1_; clear HG1; have HG1 := mm2_; clear mm2_; clear HK12; have HK12 := mm3_; clear mm3_; clear HK13; have HK13 := mm4_; clear mm4_; clear HK14; have HK14 := mm5_; clear mm5_; clear HB8 HB10 HB13 HB16 HX0 HK11 hkp_ hc0 hc1; have HB8 := Aside0.mk hb_; clear hb_; have hc0 : w27.cell? ⟨g12, 0, none⟩ = some (.int .i64 a1_0) := (blk_cell HK12.out 0).trans rfl; have hc1 : w27.cell? ⟨g12, 1, none⟩ = some (.int .i64 a1_1) := (blk_cell HK12.out 1).trans rfl; have hc2 : w27.cell? ⟨g12, 2, none⟩ = some (.int .i64 a1_2) := (blk_cell HK12.out 2).trans rfl; have hc3 : w27.cell? ⟨g12, 3, none⟩ = some (.int .i64 a1_3) := (blk_cell HK12.out 3).trans rfl; have hc4 : w27.cell? ⟨g12, 4, none⟩ = some (.slice A12 L1.length c12) := (blk_cell HK12.out 4).trans rfl) | (go_at_call 60; refine (laws_markMsg.calls k a1_0 a1_1 a1_2 a1_3 (fun k_ => some k_ = (.slice A12 L1.length c12 : Value).ownBlock) (.slice A12 L1.length c12) L1 q1 q2 L1' W8 _ z38x7 (Kd.R_tight rfl (Kd.R_below HX1.out z38x1)) HM1.out).mono ?_; rintro e w28 ⟨rfl, _, hb_, hkp_⟩; have mm0_ := Aside0.mk (Kd.R_mono (Kd.R_keptB (Kd.R_below HG0.out z38x1) hkp_ (fun k_ hk_ hs_ => hk_.2 hs_)) (fun _ h_ => h_.1)); have mm1_ := Aside0.mk (Kd.R_mono (Kd.R_keptB (Kd.R_below HG1.out z38x1) hkp_ (fun k_ hk_ hs_ => hk_.2 hs_)) (fun _ h_ => h_.1)); have mm2_ := Aside0.mk (blk_kept z38x12 hkp_ (fun e_ => (Kd.R_ne (Kd.R_below HX1.out z38x1) z38x12 (by decide)) e_)); have mm3_ := Aside0.mk (blk_kept z38x13 hkp_ (fun e_ => (Kd.R_ne (Kd.R_below HX1.out z38x1) z38x13 (by decide)) e_)); clear HG0; have HG0 := mm0_; clear mm0_; clear HG1; have HG1 := mm1_; clear mm1_; clear HK13; have HK13 := mm2_; clear mm2_; clear HK14; have HK14 := mm3_; clear mm3_; clear HB8 HX1 HK12 hkp_ hc0 hc1 hc2 hc3 hc4; have HB8 := Aside0.mk hb_; clear hb_; have HB28 := Aside0.mk (Below.refl w28.heap.size w28); have hc0 : w28.cell? ⟨g13, 0, none⟩ = some (.int .i64 n) := (blk_cell HK13.out 0).trans rfl; have hc1 : w28.cell? ⟨g13, 1, none⟩ = some (.slice A13 C.length C.length) := (blk_cell HK13.out 1).trans rfl; have hd0 : w28.cell? ⟨ga_, 0, none⟩ = some (.int .i64 n) := (blk_cell (blkB0 HB8.out HK8.out) 0).trans rfl; have hd1 : w28.cell? ⟨ga_, 1, none⟩ = some (.slice Q0 C.length x0_) := (blk_cell (blkB0 HB8.out HK8.out) 1).trans rfl))
  go_upto_region 24 with (first | (go_at_call 57; refine (laws_eqKdc.calls k n A13 C.length C n Q0 x0_ C true _ (Kd.C_below (Kd.R_reads' HG0.out).2.2 z38x5) (Nat.le_refl _) (Kd.C_below HW0.out.2 z38x7) HW0.out.1 HE0.out).mono ?_; rintro e w29 ⟨rfl, hb_⟩; have mm0_ := Aside0.mk (below_step z38x7 hb_); have mm1_ := Aside0.mk (below_step z38x5 hb_); have mm2_ := Aside0.mk (blkB0 hb_ z38x12); have mm3_ := Aside0.mk (blkB0 hb_ z38x13); clear HB8; have HB8 := mm0_; clear mm0_; clear HB28; have HB28 := mm1_; clear mm1_; clear HK13; have HK13 := mm2_; clear mm2_; clear HK14; have HK14 := mm3_; clear mm3_; clear hb_ hc0 hc1 hd0 hd1; have hc0 : w29.cell? ⟨g14, 0, none⟩ = some (.int .i64 m0) := (blk_cell HK14.out 0).trans rfl; have hc1 : w29.cell? ⟨g14, 1, none⟩ = some (.int .i64 m1) := (blk_cell HK14.out 1).trans rfl; have hc2 : w29.cell? ⟨g14, 2, none⟩ = some (.int .i64 m2) := (blk_cell HK14.out 2).trans rfl; have hc3 : w29.cell? ⟨g14, 3, none⟩ = some (.int .i64 m3) := (blk_cell HK14.out 3).trans rfl; have hc4 : w29.cell? ⟨g14, 4, none⟩ = some (.slice A14 SS.length c14) := (blk_cell HK14.out 4).trans rfl; have hd0 : w29.cell? ⟨gb_, 0, none⟩ = some (.int .i64 m0) := (blk_cell (blkB0 HB8.out HK9.out) 0).trans rfl; have hd1 : w29.cell? ⟨gb_, 1, none⟩ = some (.int .i64 m1) := (blk_cell (blkB0 HB8.out HK9.out) 1).trans rfl; have hd2 : w29.cell? ⟨gb_, 2, none⟩ = some (.int .i64 m2) := (blk_cell (blkB0 HB8.out HK9.out) 2).trans rfl; have hd3 : w29.cell? ⟨gb_, 3, none⟩ = some (.int .i64 m3) := (blk_cell (blkB0 HB8.out HK9.out) 3).trans rfl; have hd4 : w29.cell? ⟨gb_, 4, none⟩ = some (.slice Q1 SS.length q1_) := (blk_cell (blkB0 HB8.out HK9.out) 4).trans rfl) | (go_at_call 58; refine (laws_eqMsg.calls k m0 m1 m2 m3 A14 c14 SS m0 m1 m2 m3 Q1 q1_ SS true _ (Kd.C_below (Kd.R_reads' HG1.out).2.2 z38x5) (Kd.R_reads' HG1.out).2.1 (Kd.C_below HW1.out.2 z38x7) HW1.out.1 HE1.out).mono ?_; rintro e w30 ⟨rfl, hb_⟩; have mm0_ := Aside0.mk (below_step z38x7 hb_); have mm1_ := Aside0.mk (below_step z38x5 hb_); have mm2_ := Aside0.mk (blkB0 hb_ z38x12); have mm3_ := Aside0.mk (blkB0 hb_ z38x13); clear HB8; have HB8 := mm0_; clear mm0_; clear HB28; have HB28 := mm1_; clear mm1_; clear HK13; have HK13 := mm2_; clear mm2_; clear HK14; have HK14 := mm3_; clear mm3_; clear hb_ hc0 hc1 hc2 hc3 hc4 hd0 hd1 hd2 hd3 hd4; have hc0 : w30.cell? ⟨g13, 0, none⟩ = some (.int .i64 n) := (blk_cell HK13.out 0).trans rfl; have hc1 : w30.cell? ⟨g13, 1, none⟩ = some (.slice A13 C.length C.length) := (blk_cell HK13.out 1).trans rfl))
  go_upto_region 27 with (first | (go_at_call 59; refine (markKdcClip.calls k n A13 c13 C.length C 1 p1 C' W8 _ z38x7 (Kd.R_tight rfl (Kd.R_below HG0.out z38x5)) HM2.out (fun W_ hb_ ho_ => marksClip k A13 c13 C.length C 1 p1 C' W8 W_ hb_ ho_ HMS.out)).mono ?_; rintro e w31 ⟨rfl, hy_, hb_, hkp_⟩; have HGC := Aside0.mk (Kd.R_reok rfl hy_ (fun k_ e_ => HG0.out.1 k_ e_)); have mm0_ := Aside0.mk (Kd.R_mono (Kd.R_keptB (Kd.R_below HG1.out z38x5) hkp_ (fun k_ hk_ hs_ => hk_.1.1 hs_)) (fun _ h_ => h_.1)); have mm1_ := Aside0.mk (blk_kept z38x12 hkp_ (fun e_ => (Kd.R_ne (Kd.R_below HG0.out z38x5) z38x12 (by decide)) e_)); have mm2_ := Aside0.mk (blk_kept z38x13 hkp_ (fun e_ => (Kd.R_ne (Kd.R_below HG0.out z38x5) z38x13 (by decide)) e_)); clear HG1; have HG1 := mm0_; clear mm0_; clear HK13; have HK13 := mm1_; clear mm1_; clear HK14; have HK14 := mm2_; clear mm2_; clear HB8 HB28 HG0 hkp_ hy_ hc0 hc1; have HB8 := Aside0.mk hb_; clear hb_; have hc0 : w31.cell? ⟨g14, 0, none⟩ = some (.int .i64 m0) := (blk_cell HK14.out 0).trans rfl; have hc1 : w31.cell? ⟨g14, 1, none⟩ = some (.int .i64 m1) := (blk_cell HK14.out 1).trans rfl; have hc2 : w31.cell? ⟨g14, 2, none⟩ = some (.int .i64 m2) := (blk_cell HK14.out 2).trans rfl; have hc3 : w31.cell? ⟨g14, 3, none⟩ = some (.int .i64 m3) := (blk_cell HK14.out 3).trans rfl; have hc4 : w31.cell? ⟨g14, 4, none⟩ = some (.slice A14 SS.length c14) := (blk_cell HK14.out 4).trans rfl) | (go_at_call 60; refine (laws_markMsg.calls k m0 m1 m2 m3 (fun k_ => some k_ = (.slice A14 SS.length c14 : Value).ownBlock) (.slice A14 SS.length c14) SS p1 p2 SS' W8 _ z38x7 (Kd.R_tight rfl (Kd.R_below HG1.out z38x1)) HM3.out).mono ?_; rintro e w32 ⟨rfl, hy_, hb_, hkp_⟩; have mm0_ := Aside0.mk (Kd.R_mono (Kd.R_keptB (Kd.R_below HGC.out z38x1) hkp_ (fun k_ hk_ hs_ => hk_.1.1 hs_)) (fun _ h_ => h_.1)); have mm1_ := Aside0.mk (blk_kept z38x12 hkp_ (fun e_ => (Kd.R_ne (Kd.R_below HG1.out z38x1) z38x12 (by decide)) e_)); have mm2_ := Aside0.mk (blk_kept z38x13 hkp_ (fun e_ => (Kd.R_ne (Kd.R_below HG1.out z38x1) z38x13 (by decide)) e_)); clear HGC; have HGC := mm0_; clear mm0_; clear HK13; have HK13 := mm1_; clear mm1_; clear HK14; have HK14 := mm2_; clear mm2_; have HC13 := Aside0.mk (Kd.R_reads' HGC.out); have HC14 := Aside0.mk (Kd.R_reads' hy_); clear HB8 HG1 HGC hkp_ hy_ hc0 hc1 hc2 hc3 hc4; have HB8 := Aside0.mk hb_; clear hb_; have HB32 := Aside0.mk (Below.refl w32.heap.size w32); have hc0 : w32.cell? ⟨g13, 0, none⟩ = some (.int .i64 n) := (blk_cell HK13.out 0).trans rfl; have hc1 : w32.cell? ⟨g13, 1, none⟩ = some (.slice A13 C.length C.length) := (blk_cell HK13.out 1).trans rfl))
  go_upto_region 35 with (first | (go_at_call 61; refine (heldKdcAt k n A13 C.length C.length C' 1 p1 _ HC13.out.1 (Kd.C_below HC13.out.2.2 z38x6) (Nat.le_of_eq HC13.out.1.symm) HH0.out).mono ?_; rintro e w33 ⟨rfl, hb_⟩; have mm0_ := Aside0.mk (below_step z38x7 hb_); have mm1_ := Aside0.mk (below_step z38x6 hb_); have mm2_ := Aside0.mk (blkB0 hb_ z38x12); have mm3_ := Aside0.mk (blkB0 hb_ z38x13); clear HB8; have HB8 := mm0_; clear mm0_; clear HB32; have HB32 := mm1_; clear mm1_; clear HK13; have HK13 := mm2_; clear mm2_; clear HK14; have HK14 := mm3_; clear mm3_; clear hb_ hc0 hc1; have hc0 : w33.cell? ⟨g14, 0, none⟩ = some (.int .i64 m0) := (blk_cell HK14.out 0).trans rfl; have hc1 : w33.cell? ⟨g14, 1, none⟩ = some (.int .i64 m1) := (blk_cell HK14.out 1).trans rfl; have hc2 : w33.cell? ⟨g14, 2, none⟩ = some (.int .i64 m2) := (blk_cell HK14.out 2).trans rfl; have hc3 : w33.cell? ⟨g14, 3, none⟩ = some (.int .i64 m3) := (blk_cell HK14.out 3).trans rfl; have hc4 : w33.cell? ⟨g14, 4, none⟩ = some (.slice A14 SS.length c14) := (blk_cell HK14.out 4).trans rfl) | (go_at_call 62; refine (heldMsgAt k m0 m1 m2 m3 A14 SS.length c14 SS' p1 p2 _ HC14.out.1 (Kd.C_below HC14.out.2.2 z38x6) (Nat.le_trans (Nat.le_of_eq HC14.out.1.symm) HC14.out.2.1) HH1.out).mono ?_; rintro e w34 ⟨rfl, hb_⟩; have mm0_ := Aside0.mk (below_step z38x7 hb_); have mm1_ := Aside0.mk (below_step z38x6 hb_); have mm2_ := Aside0.mk (blkB0 hb_ z38x12); have mm3_ := Aside0.mk (blkB0 hb_ z38x13); clear HB8; have HB8 := mm0_; clear mm0_; clear HB32; have HB32 := mm1_; clear mm1_; clear HK13; have HK13 := mm2_; clear mm2_; clear HK14; have HK14 := mm3_; clear mm3_; clear hb_ hc0 hc1 hc2 hc3 hc4))
  refine start_ (n := 15) (S := fun w' => Below w34.heap.size w34 w') (ds := []) #[false, false, false, false, false, false, false, false, false, false, false, false, false, false, false] (by kernel_rfl) rfl rfl z38x1 (fun hS => ?_); refine with_tabW kdcTab35 kdcBits (fun HT_ HW_ => ?_)
  refine pure_ (i := 4) (N := some 128) (v := ?_) (a' := ?_) #[false, false, false, false, true, false, false, false, false, false, false, false, false, false, false] rfl rfl (any_of HT_.out (by kernel_rfl)) (fun _ _ _ h => h) (Or.inl ⟨by rfl, ?_⟩) ?_ ?_
  rotate_left
  · intro w'
    go_simp
    with_reducible rfl
  rotate_left
  · simp only [Act.put, List.setIfInBounds_toArray, List.set_cons_zero, List.set_cons_succ, i64_w, i32_w]
    rfl
  refine take_ (i := 0) (N := some 124) (v := ?_) (a' := ?_) #[true, false, false, false, true, false, false, false, false, false, false, false, false, false, false] rfl rfl (take_ofW HT_.out HW_.out (by kernel_rfl)) (fun _ _ _ h => h) (Or.inl ⟨by rfl, ?_⟩) hS ?_ ?_
  rotate_left
  · intro w' hS_
    replace hS_ : Below w34.heap.size w34 w' := hS_
    have s0 : w'.cell? ⟨g3, 0, none⟩ = some (.int .i64 a0_0) := (blk_cell (blkB0 hS_ (blkB0 HB8.out HQ3.out)) 0).trans rfl
    have s1 : w'.cell? ⟨g3, 1, none⟩ = some (.slice A0 l0.length c0) := (blk_cell (blkB0 hS_ (blkB0 HB8.out HQ3.out)) 1).trans rfl
    go_simp
    with_reducible rfl
  rotate_left
  · simp only [Act.put, List.setIfInBounds_toArray, List.set_cons_zero, List.set_cons_succ, i64_w, i32_w]
    rfl
  refine take_ (i := 2) (N := some 126) (v := ?_) (a' := ?_) #[true, false, true, false, true, false, false, false, false, false, false, false, false, false, false] rfl rfl (take_ofW HT_.out HW_.out (by kernel_rfl)) (fun _ _ _ h => h) (Or.inl ⟨by rfl, ?_⟩) hS ?_ ?_
  rotate_left
  · intro w' hS_
    replace hS_ : Below w34.heap.size w34 w' := hS_
    have s0 : w'.cell? ⟨g4, 0, none⟩ = some (.int .i64 a1_0) := (blk_cell (blkB0 hS_ (blkB0 HB8.out HQ4.out)) 0).trans rfl
    have s1 : w'.cell? ⟨g4, 1, none⟩ = some (.int .i64 a1_1) := (blk_cell (blkB0 hS_ (blkB0 HB8.out HQ4.out)) 1).trans rfl
    have s2 : w'.cell? ⟨g4, 2, none⟩ = some (.int .i64 a1_2) := (blk_cell (blkB0 hS_ (blkB0 HB8.out HQ4.out)) 2).trans rfl
    have s3 : w'.cell? ⟨g4, 3, none⟩ = some (.int .i64 a1_3) := (blk_cell (blkB0 hS_ (blkB0 HB8.out HQ4.out)) 3).trans rfl
    have s4 : w'.cell? ⟨g4, 4, none⟩ = some (.slice A1 l1.length c1) := (blk_cell (blkB0 hS_ (blkB0 HB8.out HQ4.out)) 4).trans rfl
    go_simp
    with_reducible rfl
  rotate_left
  · simp only [Act.put, List.setIfInBounds_toArray, List.set_cons_zero, List.set_cons_succ, i64_w, i32_w]
    rfl
  refine join_ (σ := Option Addr × Nat × Option Addr × Nat × Option Addr × Nat × Nat × Option Addr × Nat × Nat × Nat) 3 #[true, true, true, true, true, true, true, true, true, true, true, true, false, false, false] (fun s_ => [(125, .agg #[.int .i64 a0_0, .slice s_.1 L0.length s_.2.1]), (127, .agg #[.int .i64 a1_0, .int .i64 a1_1, .int .i64 a1_2, .int .i64 a1_3, .slice s_.2.2.1 L1.length s_.2.2.2.1]), (129, .tuple #[.agg #[.int .i64 n, .slice s_.2.2.2.2.1 C.length s_.2.2.2.2.2.2.1], .agg #[.int .i64 m0, .int .i64 m1, .int .i64 m2, .int .i64 m3, .slice s_.2.2.2.2.2.2.2.1 SS.length s_.2.2.2.2.2.2.2.2.1], .bool b]), (123, .tuple #[.agg #[.int .i64 n, .slice s_.2.2.2.2.1 C.length s_.2.2.2.2.2.2.1], .agg #[.int .i64 m0, .int .i64 m1, .int .i64 m2, .int .i64 m3, .slice s_.2.2.2.2.2.2.2.1 SS.length s_.2.2.2.2.2.2.2.2.1], .bool b]), (130, .agg #[.int .i64 n, .slice s_.2.2.2.2.1 C.length s_.2.2.2.2.2.2.1]), (131, .agg #[.int .i64 m0, .int .i64 m1, .int .i64 m2, .int .i64 m3, .slice s_.2.2.2.2.2.2.2.1 SS.length s_.2.2.2.2.2.2.2.2.1]), (132, .bool b), (19, .pointer (some ⟨s_.2.2.2.2.2.2.2.2.2.1, 0, none⟩)), (20, .pointer (some ⟨s_.2.2.2.2.2.2.2.2.2.2, 0, none⟩))]) (fun s_ w' => (Below w34.heap.size w34 w') ∧ (C.length ≤ s_.2.2.2.2.2.2.1 ∧ Kd.R k41 41 w' w34.heap.size (fun _ => True) (.slice s_.2.2.2.2.1 C.length s_.2.2.2.2.2.1) C) ∧ (Kd.R k41 41 w' w34.heap.size (fun _ => True) (.slice s_.2.2.2.2.2.2.2.1 SS.length s_.2.2.2.2.2.2.2.2.1) SS) ∧ (w'.heap[s_.2.2.2.2.2.2.2.2.2.1]? = some (.cells #[.int .i64 0, .slice none 0 0] 64 (0, 0))) ∧ (w34.heap.size ≤ s_.2.2.2.2.2.2.2.2.2.1) ∧ (w'.heap[s_.2.2.2.2.2.2.2.2.2.2]? = some (.cells #[.int .i64 0, .int .i64 0, .int .i64 0, .int .i64 0, .slice none 0 0] 34 (0, 0))) ∧ (w34.heap.size ≤ s_.2.2.2.2.2.2.2.2.2.2) ∧ (s_.2.2.2.2.2.2.2.2.2.1 ≠ s_.2.2.2.2.2.2.2.2.2.2)) ?_ ?_
  rotate_left
  · intro hJ311
    refine join_ (σ := Option Addr × Nat × Option Addr × Nat × Nat × Nat) 8 #[true, true, true, true, true, false, false, false, false, false, true, true, false, false, false] (fun s_ => [(125, .agg #[.int .i64 a0_0, .slice s_.1 L0.length s_.2.1]), (127, .agg #[.int .i64 a1_0, .int .i64 a1_1, .int .i64 a1_2, .int .i64 a1_3, .slice s_.2.2.1 L1.length s_.2.2.2.1]), (19, .pointer (some ⟨s_.2.2.2.2.1, 0, none⟩)), (20, .pointer (some ⟨s_.2.2.2.2.2, 0, none⟩))]) (fun s_ w' => (Below w34.heap.size w34 w') ∧ (Kd.C k41 w' s_.1 L0.length L0 ∧ L0.length ≤ s_.2.1) ∧ (Kd.C k41 w' s_.2.2.1 L1.length L1 ∧ L1.length ≤ s_.2.2.2.1) ∧ (w'.heap[s_.2.2.2.2.1]? = some (.cells #[.int .i64 0, .slice none 0 0] 64 (0, 0))) ∧ (w34.heap.size ≤ s_.2.2.2.2.1) ∧ (w'.heap[s_.2.2.2.2.2]? = some (.cells #[.int .i64 0, .int .i64 0, .int .i64 0, .int .i64 0, .slice none 0 0] 34 (0, 0))) ∧ (w34.heap.size ≤ s_.2.2.2.2.2) ∧ (s_.2.2.2.2.1 ≠ s_.2.2.2.2.2)) ?_ ?_
    rotate_left
    · intro hJ211
      refine join_ (σ := Option Addr × Nat × Option Addr × Nat × Option Addr × Nat × Nat × Option Addr × Nat × Nat) 4 #[true, true, true, true, true, true, true, true, true, true, false, true, false, false, false] (fun s_ => [(125, .agg #[.int .i64 a0_0, .slice s_.1 L0.length s_.2.1]), (127, .agg #[.int .i64 a1_0, .int .i64 a1_1, .int .i64 a1_2, .int .i64 a1_3, .slice s_.2.2.1 L1.length s_.2.2.2.1]), (129, .tuple #[.agg #[.int .i64 n, .slice s_.2.2.2.2.1 C.length s_.2.2.2.2.2.2.1], .agg #[.int .i64 m0, .int .i64 m1, .int .i64 m2, .int .i64 m3, .slice s_.2.2.2.2.2.2.2.1 SS.length s_.2.2.2.2.2.2.2.2.1], .bool b]), (123, .tuple #[.agg #[.int .i64 n, .slice s_.2.2.2.2.1 C.length s_.2.2.2.2.2.2.1], .agg #[.int .i64 m0, .int .i64 m1, .int .i64 m2, .int .i64 m3, .slice s_.2.2.2.2.2.2.2.1 SS.length s_.2.2.2.2.2.2.2.2.1], .bool b]), (130, .agg #[.int .i64 n, .slice s_.2.2.2.2.1 C.length s_.2.2.2.2.2.2.1]), (131, .agg #[.int .i64 m0, .int .i64 m1, .int .i64 m2, .int .i64 m3, .slice s_.2.2.2.2.2.2.2.1 SS.length s_.2.2.2.2.2.2.2.2.1]), (132, .bool b), (20, .pointer (some ⟨s_.2.2.2.2.2.2.2.2.2, 0, none⟩))]) (fun s_ w' => (Below w34.heap.size w34 w') ∧ (C.length ≤ s_.2.2.2.2.2.2.1 ∧ Kd.R k41 41 w' w34.heap.size (fun _ => True) (.slice s_.2.2.2.2.1 C.length s_.2.2.2.2.2.1) C) ∧ (Kd.R k41 41 w' w34.heap.size (fun _ => True) (.slice s_.2.2.2.2.2.2.2.1 SS.length s_.2.2.2.2.2.2.2.2.1) SS) ∧ (w'.heap[s_.2.2.2.2.2.2.2.2.2]? = some (.cells #[.int .i64 0, .int .i64 0, .int .i64 0, .int .i64 0, .slice none 0 0] 34 (0, 0))) ∧ (w34.heap.size ≤ s_.2.2.2.2.2.2.2.2.2)) ?_ ?_
      rotate_left
      · intro hJ301
        refine join_ (σ := Option Addr × Nat × Option Addr × Nat × Option Addr × Nat × Nat × Option Addr × Nat × Nat) 4 #[true, true, true, true, true, true, true, true, true, true, true, false, false, false, false] (fun s_ => [(125, .agg #[.int .i64 a0_0, .slice s_.1 L0.length s_.2.1]), (127, .agg #[.int .i64 a1_0, .int .i64 a1_1, .int .i64 a1_2, .int .i64 a1_3, .slice s_.2.2.1 L1.length s_.2.2.2.1]), (129, .tuple #[.agg #[.int .i64 n, .slice s_.2.2.2.2.1 C.length s_.2.2.2.2.2.2.1], .agg #[.int .i64 m0, .int .i64 m1, .int .i64 m2, .int .i64 m3, .slice s_.2.2.2.2.2.2.2.1 SS.length s_.2.2.2.2.2.2.2.2.1], .bool b]), (123, .tuple #[.agg #[.int .i64 n, .slice s_.2.2.2.2.1 C.length s_.2.2.2.2.2.2.1], .agg #[.int .i64 m0, .int .i64 m1, .int .i64 m2, .int .i64 m3, .slice s_.2.2.2.2.2.2.2.1 SS.length s_.2.2.2.2.2.2.2.2.1], .bool b]), (130, .agg #[.int .i64 n, .slice s_.2.2.2.2.1 C.length s_.2.2.2.2.2.2.1]), (131, .agg #[.int .i64 m0, .int .i64 m1, .int .i64 m2, .int .i64 m3, .slice s_.2.2.2.2.2.2.2.1 SS.length s_.2.2.2.2.2.2.2.2.1]), (132, .bool b), (19, .pointer (some ⟨s_.2.2.2.2.2.2.2.2.2, 0, none⟩))]) (fun s_ w' => (Below w34.heap.size w34 w') ∧ (C.length ≤ s_.2.2.2.2.2.2.1 ∧ Kd.R k41 41 w' w34.heap.size (fun _ => True) (.slice s_.2.2.2.2.1 C.length s_.2.2.2.2.2.1) C) ∧ (Kd.R k41 41 w' w34.heap.size (fun _ => True) (.slice s_.2.2.2.2.2.2.2.1 SS.length s_.2.2.2.2.2.2.2.2.1) SS) ∧ (w'.heap[s_.2.2.2.2.2.2.2.2.2]? = some (.cells #[.int .i64 0, .slice none 0 0] 64 (0, 0))) ∧ (w34.heap.size ≤ s_.2.2.2.2.2.2.2.2.2)) ?_ ?_
        rotate_left
        · intro hJ310
          refine join_ (σ := Option Addr × Nat × Nat × Nat) 9 #[true, true, true, false, true, false, false, false, false, false, true, true, false, false, false] (fun s_ => [(125, .agg #[.int .i64 a0_0, .slice s_.1 L0.length s_.2.1]), (19, .pointer (some ⟨s_.2.2.1, 0, none⟩)), (20, .pointer (some ⟨s_.2.2.2, 0, none⟩))]) (fun s_ w' => (Below w34.heap.size w34 w') ∧ (Kd.C k41 w' s_.1 L0.length L0 ∧ L0.length ≤ s_.2.1) ∧ (w'.heap[s_.2.2.1]? = some (.cells #[.int .i64 0, .slice none 0 0] 64 (0, 0))) ∧ (w34.heap.size ≤ s_.2.2.1) ∧ (w'.heap[s_.2.2.2]? = some (.cells #[.int .i64 0, .int .i64 0, .int .i64 0, .int .i64 0, .slice none 0 0] 34 (0, 0))) ∧ (w34.heap.size ≤ s_.2.2.2) ∧ (s_.2.2.1 ≠ s_.2.2.2)) ?_ ?_
          rotate_left
          · intro hJ111
            refine join_ (σ := Option Addr × Nat × Option Addr × Nat × Nat) 9 #[true, true, true, true, true, false, false, false, false, false, false, true, false, false, false] (fun s_ => [(125, .agg #[.int .i64 a0_0, .slice s_.1 L0.length s_.2.1]), (127, .agg #[.int .i64 a1_0, .int .i64 a1_1, .int .i64 a1_2, .int .i64 a1_3, .slice s_.2.2.1 L1.length s_.2.2.2.1]), (20, .pointer (some ⟨s_.2.2.2.2, 0, none⟩))]) (fun s_ w' => (Below w34.heap.size w34 w') ∧ (Kd.C k41 w' s_.1 L0.length L0 ∧ L0.length ≤ s_.2.1) ∧ (Kd.C k41 w' s_.2.2.1 L1.length L1 ∧ L1.length ≤ s_.2.2.2.1) ∧ (w'.heap[s_.2.2.2.2]? = some (.cells #[.int .i64 0, .int .i64 0, .int .i64 0, .int .i64 0, .slice none 0 0] 34 (0, 0))) ∧ (w34.heap.size ≤ s_.2.2.2.2)) ?_ ?_
            rotate_left
            · intro hJ201
              refine join_ (σ := Option Addr × Nat × Option Addr × Nat × Nat) 9 #[true, true, true, true, true, false, false, false, false, false, true, false, false, false, false] (fun s_ => [(125, .agg #[.int .i64 a0_0, .slice s_.1 L0.length s_.2.1]), (127, .agg #[.int .i64 a1_0, .int .i64 a1_1, .int .i64 a1_2, .int .i64 a1_3, .slice s_.2.2.1 L1.length s_.2.2.2.1]), (19, .pointer (some ⟨s_.2.2.2.2, 0, none⟩))]) (fun s_ w' => (Below w34.heap.size w34 w') ∧ (Kd.C k41 w' s_.1 L0.length L0 ∧ L0.length ≤ s_.2.1) ∧ (Kd.C k41 w' s_.2.2.1 L1.length L1 ∧ L1.length ≤ s_.2.2.2.1) ∧ (w'.heap[s_.2.2.2.2]? = some (.cells #[.int .i64 0, .slice none 0 0] 64 (0, 0))) ∧ (w34.heap.size ≤ s_.2.2.2.2)) ?_ ?_
              rotate_left
              · intro hJ210
                refine join_ (σ := Option Addr × Nat × Option Addr × Nat × Option Addr × Nat × Nat × Option Addr × Nat) 5 #[true, true, true, true, true, true, true, true, true, true, false, false, false, false, false] (fun s_ => [(125, .agg #[.int .i64 a0_0, .slice s_.1 L0.length s_.2.1]), (127, .agg #[.int .i64 a1_0, .int .i64 a1_1, .int .i64 a1_2, .int .i64 a1_3, .slice s_.2.2.1 L1.length s_.2.2.2.1]), (129, .tuple #[.agg #[.int .i64 n, .slice s_.2.2.2.2.1 C.length s_.2.2.2.2.2.2.1], .agg #[.int .i64 m0, .int .i64 m1, .int .i64 m2, .int .i64 m3, .slice s_.2.2.2.2.2.2.2.1 SS.length s_.2.2.2.2.2.2.2.2], .bool b]), (123, .tuple #[.agg #[.int .i64 n, .slice s_.2.2.2.2.1 C.length s_.2.2.2.2.2.2.1], .agg #[.int .i64 m0, .int .i64 m1, .int .i64 m2, .int .i64 m3, .slice s_.2.2.2.2.2.2.2.1 SS.length s_.2.2.2.2.2.2.2.2], .bool b]), (130, .agg #[.int .i64 n, .slice s_.2.2.2.2.1 C.length s_.2.2.2.2.2.2.1]), (131, .agg #[.int .i64 m0, .int .i64 m1, .int .i64 m2, .int .i64 m3, .slice s_.2.2.2.2.2.2.2.1 SS.length s_.2.2.2.2.2.2.2.2]), (132, .bool b)]) (fun s_ w' => (Below w34.heap.size w34 w') ∧ (C.length ≤ s_.2.2.2.2.2.2.1 ∧ Kd.R k41 41 w' w34.heap.size (fun _ => True) (.slice s_.2.2.2.2.1 C.length s_.2.2.2.2.2.1) C) ∧ (Kd.R k41 41 w' w34.heap.size (fun _ => True) (.slice s_.2.2.2.2.2.2.2.1 SS.length s_.2.2.2.2.2.2.2.2) SS)) ?_ ?_
                rotate_left
                · intro hJ300
                  refine join_ (σ := Nat × Nat) 10 #[true, false, true, false, true, false, false, false, false, false, true, true, false, false, false] (fun s_ => [(19, .pointer (some ⟨s_.1, 0, none⟩)), (20, .pointer (some ⟨s_.2, 0, none⟩))]) (fun s_ w' => (Below w34.heap.size w34 w') ∧ (w'.heap[s_.1]? = some (.cells #[.int .i64 0, .slice none 0 0] 64 (0, 0))) ∧ (w34.heap.size ≤ s_.1) ∧ (w'.heap[s_.2]? = some (.cells #[.int .i64 0, .int .i64 0, .int .i64 0, .int .i64 0, .slice none 0 0] 34 (0, 0))) ∧ (w34.heap.size ≤ s_.2) ∧ (s_.1 ≠ s_.2)) ?_ ?_
                  rotate_left
                  · intro hJ011
                    refine join_ (σ := Option Addr × Nat × Nat) 10 #[true, true, true, false, true, false, false, false, false, false, false, true, false, false, false] (fun s_ => [(125, .agg #[.int .i64 a0_0, .slice s_.1 L0.length s_.2.1]), (20, .pointer (some ⟨s_.2.2, 0, none⟩))]) (fun s_ w' => (Below w34.heap.size w34 w') ∧ (Kd.C k41 w' s_.1 L0.length L0 ∧ L0.length ≤ s_.2.1) ∧ (w'.heap[s_.2.2]? = some (.cells #[.int .i64 0, .int .i64 0, .int .i64 0, .int .i64 0, .slice none 0 0] 34 (0, 0))) ∧ (w34.heap.size ≤ s_.2.2)) ?_ ?_
                    rotate_left
                    · intro hJ101
                      refine join_ (σ := Option Addr × Nat × Nat) 10 #[true, true, true, false, true, false, false, false, false, false, true, false, false, false, false] (fun s_ => [(125, .agg #[.int .i64 a0_0, .slice s_.1 L0.length s_.2.1]), (19, .pointer (some ⟨s_.2.2, 0, none⟩))]) (fun s_ w' => (Below w34.heap.size w34 w') ∧ (Kd.C k41 w' s_.1 L0.length L0 ∧ L0.length ≤ s_.2.1) ∧ (w'.heap[s_.2.2]? = some (.cells #[.int .i64 0, .slice none 0 0] 64 (0, 0))) ∧ (w34.heap.size ≤ s_.2.2)) ?_ ?_
                      rotate_left
                      · intro hJ110
                        refine join_ (σ := Option Addr × Nat × Option Addr × Nat) 10 #[true, true, true, true, true, false, false, false, false, false, false, false, false, false, false] (fun s_ => [(125, .agg #[.int .i64 a0_0, .slice s_.1 L0.length s_.2.1]), (127, .agg #[.int .i64 a1_0, .int .i64 a1_1, .int .i64 a1_2, .int .i64 a1_3, .slice s_.2.2.1 L1.length s_.2.2.2])]) (fun s_ w' => (Below w34.heap.size w34 w') ∧ (Kd.C k41 w' s_.1 L0.length L0 ∧ L0.length ≤ s_.2.1) ∧ (Kd.C k41 w' s_.2.2.1 L1.length L1 ∧ L1.length ≤ s_.2.2.2)) ?_ ?_
                        rotate_left
                        · intro hJ200
                          refine join_ (σ := Nat) 11 #[true, false, true, false, true, false, false, false, false, false, false, true, false, false, false] (fun s_ => [(20, .pointer (some ⟨s_, 0, none⟩))]) (fun s_ w' => (Below w34.heap.size w34 w') ∧ (w'.heap[s_]? = some (.cells #[.int .i64 0, .int .i64 0, .int .i64 0, .int .i64 0, .slice none 0 0] 34 (0, 0))) ∧ (w34.heap.size ≤ s_)) ?_ ?_
                          rotate_left
                          · intro hJ001
                            refine join_ (σ := Nat) 11 #[true, false, true, false, true, false, false, false, false, false, true, false, false, false, false] (fun s_ => [(19, .pointer (some ⟨s_, 0, none⟩))]) (fun s_ w' => (Below w34.heap.size w34 w') ∧ (w'.heap[s_]? = some (.cells #[.int .i64 0, .slice none 0 0] 64 (0, 0))) ∧ (w34.heap.size ≤ s_)) ?_ ?_
                            rotate_left
                            · intro hJ010
                              refine join_ (σ := Option Addr × Nat) 11 #[true, true, true, false, true, false, false, false, false, false, false, false, false, false, false] (fun s_ => [(125, .agg #[.int .i64 a0_0, .slice s_.1 L0.length s_.2])]) (fun s_ w' => (Below w34.heap.size w34 w') ∧ (Kd.C k41 w' s_.1 L0.length L0 ∧ L0.length ≤ s_.2)) ?_ ?_
                              rotate_left
                              · intro hJ100
                                refine three_ (i := 1) (j := 10) (k := 11) (Ni := some 125) (Nj := some 19) (Nk := some 20) #[true, true, true, false, true, false, false, false, false, false, false, false, false, false, false] #[true, false, true, false, true, false, false, false, false, false, true, false, false, false, false] #[true, false, true, false, true, false, false, false, false, false, false, true, false, false, false] rfl rfl rfl rfl rfl rfl (three_of HT_.out (by kernel_rfl)) (by decide) (by decide) (by decide) (fun K hK => ?_) (fun K hK => ?_) (fun K hK => ?_)
                                · refine goes_ Try.func54 (by kernel_rfl) rfl #[.agg #[.int .i64 a0_0, .slice A0 l0.length c0]] (by rfl) rfl rfl z38x16 ?_
                                  with_reducible refine (laws_toKdc.calls k a0_0 A0 c0 l0 a0_0 L0 _ (Kd.C_below (Kd.C_below HC0.out HB8.out) hS) HL0.out HT0.out).mono ?_
                                  rintro e w2 ⟨v_, rfl, ho_, hb_⟩
                                  refine ⟨_, rfl, ?_⟩
                                  obtain ⟨P0, pz0, ev_⟩ := Kd.R_slice ho_
                                  subst ev_
                                  refine hK.out _ _ (below_step hS hb_) (fun hS2 => ?_)
                                  clear hK K
                                  exact norm_ z38x0 (hJ100 ⟨P0, pz0⟩ _ ⟨hS2, ⟨(Kd.R_reads' ho_).2.2, (Kd.R_reads' ho_).2.1⟩⟩)
                                · refine box_step ?hg (N := 19) ?hd (cs := #[.int .i64 0, .slice none 0 0]) (t := 64) ?hr ?_; (case hd => rfl); (case hg => rfl); (case hr => first | (go_simp; done) | (go_simp; rfl))
                                  intro yga_ hg_ w2 hbox_ hb_
                                  refine hK.out _ _ (below_step hS hb_) (fun hS2 => ?_)
                                  clear hK K
                                  exact norm_ z38x0 (hJ010 (yga_) _ ⟨hS2, hbox_, (by rw [hg_]; exact hS.size)⟩)
                                · refine box_step ?hg (N := 20) ?hd (cs := #[.int .i64 0, .int .i64 0, .int .i64 0, .int .i64 0, .slice none 0 0]) (t := 34) ?hr ?_; (case hd => rfl); (case hg => rfl); (case hr => first | (go_simp; done) | (go_simp; rfl))
                                  intro ygb_ hg_ w2 hbox_ hb_
                                  refine hK.out _ _ (below_step hS hb_) (fun hS2 => ?_)
                                  clear hK K
                                  exact norm_ z38x0 (hJ001 (ygb_) _ ⟨hS2, hbox_, (by rw [hg_]; exact hS.size)⟩)
                              rintro ⟨P0, pz0⟩ w1 ⟨hS, f0⟩
                              replace hS : Below w34.heap.size w34 w1 := hS
                              replace f0 : Kd.C k41 w1 P0 L0.length L0 ∧ L0.length ≤ pz0 := f0
                              refine norm_ (a' := ?_) ?_ ?_
                              rotate_left
                              · simp only [putAll, Act.put, List.setIfInBounds_toArray, List.set_cons_zero, List.set_cons_succ]
                                rfl
                              refine three_ (i := 3) (j := 10) (k := 11) (Ni := some 127) (Nj := some 19) (Nk := some 20) #[true, true, true, true, true, false, false, false, false, false, false, false, false, false, false] #[true, true, true, false, true, false, false, false, false, false, true, false, false, false, false] #[true, true, true, false, true, false, false, false, false, false, false, true, false, false, false] rfl rfl rfl rfl rfl rfl (three_of HT_.out (by kernel_rfl)) (by decide) (by decide) (by decide) (fun K hK => ?_) (fun K hK => ?_) (fun K hK => ?_)
                              · refine goes_ Try.func55 (by kernel_rfl) rfl #[.agg #[.int .i64 a1_0, .int .i64 a1_1, .int .i64 a1_2, .int .i64 a1_3, .slice A1 l1.length c1]] (by rfl) rfl rfl z38x16 ?_
                                with_reducible refine (laws_toMsg.calls k a1_0 a1_1 a1_2 a1_3 A1 c1 l1 a1_0 a1_1 a1_2 a1_3 L1 _ (Kd.C_below (Kd.C_below HC1.out HB8.out) hS) HL1.out HT1.out).mono ?_
                                rintro e w2 ⟨v_, rfl, ho_, hb_⟩
                                refine ⟨_, rfl, ?_⟩
                                obtain ⟨P1, pz1, ev_⟩ := Kd.R_slice ho_
                                subst ev_
                                refine hK.out _ _ (below_step hS hb_) (fun hS2 => ?_)
                                clear hK K
                                exact norm_ z38x0 (hJ200 ⟨P0, pz0, P1, pz1⟩ _ ⟨hS2, ⟨Kd.C_below f0.1 hb_, f0.2⟩, ⟨(Kd.R_reads' ho_).2.2, (Kd.R_reads' ho_).2.1⟩⟩)
                              · refine box_step ?hg (N := 19) ?hd (cs := #[.int .i64 0, .slice none 0 0]) (t := 64) ?hr ?_; (case hd => rfl); (case hg => rfl); (case hr => first | (go_simp; done) | (go_simp; rfl))
                                intro yga_ hg_ w2 hbox_ hb_
                                refine hK.out _ _ (below_step hS hb_) (fun hS2 => ?_)
                                clear hK K
                                exact norm_ z38x0 (hJ110 ⟨P0, pz0, yga_⟩ _ ⟨hS2, ⟨Kd.C_below f0.1 hb_, f0.2⟩, hbox_, (by rw [hg_]; exact hS.size)⟩)
                              · refine box_step ?hg (N := 20) ?hd (cs := #[.int .i64 0, .int .i64 0, .int .i64 0, .int .i64 0, .slice none 0 0]) (t := 34) ?hr ?_; (case hd => rfl); (case hg => rfl); (case hr => first | (go_simp; done) | (go_simp; rfl))
                                intro ygb_ hg_ w2 hbox_ hb_
                                refine hK.out _ _ (below_step hS hb_) (fun hS2 => ?_)
                                clear hK K
                                exact norm_ z38x0 (hJ101 ⟨P0, pz0, ygb_⟩ _ ⟨hS2, ⟨Kd.C_below f0.1 hb_, f0.2⟩, hbox_, (by rw [hg_]; exact hS.size)⟩)
                            rintro yga_ w1 ⟨hS, ka, ja⟩
                            replace hS : Below w34.heap.size w34 w1 := hS
                            replace ka : w1.heap[yga_]? = some (.cells #[.int .i64 0, .slice none 0 0] 64 (0, 0)) := ka
                            replace ja : w34.heap.size ≤ yga_ := ja
                            refine norm_ (a' := ?_) ?_ ?_
                            rotate_left
                            · simp only [putAll, Act.put, List.setIfInBounds_toArray, List.set_cons_zero, List.set_cons_succ]
                              rfl
                            refine two_ (i := 1) (j := 11) (Ni := some 125) (Nj := some 20) #[true, true, true, false, true, false, false, false, false, false, true, false, false, false, false] #[true, false, true, false, true, false, false, false, false, false, true, true, false, false, false] rfl rfl rfl rfl (two_of HT_.out (by kernel_rfl)) (by decide) (by decide) (fun K hK => ?_) (fun K hK => ?_)
                            · refine goes_ Try.func54 (by kernel_rfl) rfl #[.agg #[.int .i64 a0_0, .slice A0 l0.length c0]] (by rfl) rfl rfl z38x16 ?_
                              with_reducible refine (laws_toKdc.calls k a0_0 A0 c0 l0 a0_0 L0 _ (Kd.C_below (Kd.C_below HC0.out HB8.out) hS) HL0.out HT0.out).mono ?_
                              rintro e w2 ⟨v_, rfl, ho_, hb_⟩
                              refine ⟨_, rfl, ?_⟩
                              obtain ⟨P0, pz0, ev_⟩ := Kd.R_slice ho_
                              subst ev_
                              refine hK.out _ _ (below_step hS hb_) (fun hS2 => ?_)
                              clear hK K
                              exact norm_ z38x0 (hJ110 ⟨P0, pz0, yga_⟩ _ ⟨hS2, ⟨(Kd.R_reads' ho_).2.2, (Kd.R_reads' ho_).2.1⟩, blkB0 hb_ ka, ja⟩)
                            · refine box_step ?hg (N := 20) ?hd (cs := #[.int .i64 0, .int .i64 0, .int .i64 0, .int .i64 0, .slice none 0 0]) (t := 34) ?hr ?_; (case hd => rfl); (case hg => rfl); (case hr => first | (go_simp; done) | (go_simp; rfl))
                              intro ygb_ hg_ w2 hbox_ hb_
                              refine hK.out _ _ (below_step hS hb_) (fun hS2 => ?_)
                              clear hK K
                              exact norm_ z38x0 (hJ011 ⟨yga_, ygb_⟩ _ ⟨hS2, blkB0 hb_ ka, ja, hbox_, (by rw [hg_]; exact hS.size), Nat.ne_of_lt (Nat.lt_of_lt_of_eq (blk_lt ka) hg_.symm)⟩)
                          rintro ygb_ w1 ⟨hS, kb, jb⟩
                          replace hS : Below w34.heap.size w34 w1 := hS
                          replace kb : w1.heap[ygb_]? = some (.cells #[.int .i64 0, .int .i64 0, .int .i64 0, .int .i64 0, .slice none 0 0] 34 (0, 0)) := kb
                          replace jb : w34.heap.size ≤ ygb_ := jb
                          refine norm_ (a' := ?_) ?_ ?_
                          rotate_left
                          · simp only [putAll, Act.put, List.setIfInBounds_toArray, List.set_cons_zero, List.set_cons_succ]
                            rfl
                          refine two_ (i := 1) (j := 10) (Ni := some 125) (Nj := some 19) #[true, true, true, false, true, false, false, false, false, false, false, true, false, false, false] #[true, false, true, false, true, false, false, false, false, false, true, true, false, false, false] rfl rfl rfl rfl (two_of HT_.out (by kernel_rfl)) (by decide) (by decide) (fun K hK => ?_) (fun K hK => ?_)
                          · refine goes_ Try.func54 (by kernel_rfl) rfl #[.agg #[.int .i64 a0_0, .slice A0 l0.length c0]] (by rfl) rfl rfl z38x16 ?_
                            with_reducible refine (laws_toKdc.calls k a0_0 A0 c0 l0 a0_0 L0 _ (Kd.C_below (Kd.C_below HC0.out HB8.out) hS) HL0.out HT0.out).mono ?_
                            rintro e w2 ⟨v_, rfl, ho_, hb_⟩
                            refine ⟨_, rfl, ?_⟩
                            obtain ⟨P0, pz0, ev_⟩ := Kd.R_slice ho_
                            subst ev_
                            refine hK.out _ _ (below_step hS hb_) (fun hS2 => ?_)
                            clear hK K
                            exact norm_ z38x0 (hJ101 ⟨P0, pz0, ygb_⟩ _ ⟨hS2, ⟨(Kd.R_reads' ho_).2.2, (Kd.R_reads' ho_).2.1⟩, blkB0 hb_ kb, jb⟩)
                          · refine box_step ?hg (N := 19) ?hd (cs := #[.int .i64 0, .slice none 0 0]) (t := 64) ?hr ?_; (case hd => rfl); (case hg => rfl); (case hr => first | (go_simp; done) | (go_simp; rfl))
                            intro yga_ hg_ w2 hbox_ hb_
                            refine hK.out _ _ (below_step hS hb_) (fun hS2 => ?_)
                            clear hK K
                            exact norm_ z38x0 (hJ011 ⟨yga_, ygb_⟩ _ ⟨hS2, hbox_, (by rw [hg_]; exact hS.size), blkB0 hb_ kb, jb, Nat.ne_of_gt (Nat.lt_of_lt_of_eq (blk_lt kb) hg_.symm)⟩)
                        rintro ⟨P0, pz0, P1, pz1⟩ w1 ⟨hS, f0, f1⟩
                        replace hS : Below w34.heap.size w34 w1 := hS
                        replace f0 : Kd.C k41 w1 P0 L0.length L0 ∧ L0.length ≤ pz0 := f0
                        replace f1 : Kd.C k41 w1 P1 L1.length L1 ∧ L1.length ≤ pz1 := f1
                        refine norm_ (a' := ?_) ?_ ?_
                        rotate_left
                        · simp only [putAll, Act.put, List.setIfInBounds_toArray, List.set_cons_zero, List.set_cons_succ]
                          rfl
                        refine three_ (i := 5) (j := 10) (k := 11) (Ni := some 129) (Nj := some 19) (Nk := some 20) #[true, true, true, true, true, true, false, false, false, false, false, false, false, false, false] #[true, true, true, true, true, false, false, false, false, false, true, false, false, false, false] #[true, true, true, true, true, false, false, false, false, false, false, true, false, false, false] rfl rfl rfl rfl rfl rfl (three_of HT_.out (by kernel_rfl)) (by decide) (by decide) (by decide) (fun K hK => ?_) (fun K hK => ?_) (fun K hK => ?_)
                        · refine goes_ Try.func56 (by kernel_rfl) rfl #[.agg #[.int .i64 a0_0, .slice P0 L0.length pz0], .agg #[.int .i64 a1_0, .int .i64 a1_1, .int .i64 a1_2, .int .i64 a1_3, .slice P1 L1.length pz1], .int .i64 a2] (by rfl) rfl rfl z38x16 ?_
                          with_reducible refine (impl_KdcAs.calls k a0_0 P0 pz0 L0 a1_0 a1_1 a1_2 a1_3 P1 pz1 L1 a2 n C m0 m1 m2 m3 SS b _ f0.1 f0.2 f1.1 f1.2 HI.out).mono ?_
                          rintro e w2 ⟨v_, vc_, u_, rfl, hcl_, ho_, hu_, hb_⟩
                          refine ⟨_, rfl, ?_⟩
                          obtain ⟨yQ0, yq0_, ev_⟩ := Kd.R_slice ho_
                          subst ev_
                          obtain ⟨yQ1, yq1_, ev_⟩ := Kd.R_slice hu_
                          subst ev_
                          obtain rfl := hcl_ _ _ _ rfl
                          refine hK.out _ _ (below_step hS hb_) (fun hS2 => ?_)
                          clear hK K
                          refine norm_ (a' := ?_) ?_ ?_
                          rotate_left
                          · show Act.put _ (some 129) _ = _
                            simp only [Act.put, List.setIfInBounds_toArray, List.set_cons_zero, List.set_cons_succ, i64_w, i32_w]
                            rfl
                          refine pure_ (i := 6) (N := some 123) (v := ?_) (a' := ?_) #[true, true, true, true, true, true, true, false, false, false, false, false, false, false, false] rfl rfl (any_of HT_.out (by kernel_rfl)) (fun _ _ _ h => h) (Or.inl ⟨by rfl, ?_⟩) ?_ ?_
                          rotate_left
                          · intro w'
                            go_simp
                            with_reducible rfl
                          rotate_left
                          · simp only [Act.put, List.setIfInBounds_toArray, List.set_cons_zero, List.set_cons_succ, i64_w, i32_w]
                            rfl
                          refine pure_ (i := 7) (N := some 130) (v := ?_) (a' := ?_) #[true, true, true, true, true, true, true, true, false, false, false, false, false, false, false] rfl rfl (any_of HT_.out (by kernel_rfl)) (fun _ _ _ h => h) (Or.inl ⟨by rfl, ?_⟩) ?_ ?_
                          rotate_left
                          · intro w'
                            go_simp
                            with_reducible rfl
                          rotate_left
                          · simp only [Act.put, List.setIfInBounds_toArray, List.set_cons_zero, List.set_cons_succ, i64_w, i32_w]
                            rfl
                          refine pure_ (i := 8) (N := some 131) (v := ?_) (a' := ?_) #[true, true, true, true, true, true, true, true, true, false, false, false, false, false, false] rfl rfl (any_of HT_.out (by kernel_rfl)) (fun _ _ _ h => h) (Or.inl ⟨by rfl, ?_⟩) ?_ ?_
                          rotate_left
                          · intro w'
                            go_simp
                            with_reducible rfl
                          rotate_left
                          · simp only [Act.put, List.setIfInBounds_toArray, List.set_cons_zero, List.set_cons_succ, i64_w, i32_w]
                            rfl
                          refine pure_ (i := 9) (N := some 132) (v := ?_) (a' := ?_) #[true, true, true, true, true, true, true, true, true, true, false, false, false, false, false] rfl rfl (any_of HT_.out (by kernel_rfl)) (fun _ _ _ h => h) (Or.inl ⟨by rfl, ?_⟩) ?_ ?_
                          rotate_left
                          · intro w'
                            go_simp
                            with_reducible rfl
                          rotate_left
                          · simp only [Act.put, List.setIfInBounds_toArray, List.set_cons_zero, List.set_cons_succ, i64_w, i32_w]
                            rfl
                          exact norm_ z38x0 (hJ300 ⟨P0, pz0, P1, pz1, yQ0, yq0_, C.length, yQ1, yq1_⟩ _ ⟨hS2, ⟨Nat.le_refl _, Kd.R_mono (Kd.R_lower ho_ hS.size) (fun _ _ => trivial)⟩, Kd.R_mono (Kd.R_lower hu_ hS.size) (fun _ _ => trivial)⟩)
                        · refine box_step ?hg (N := 19) ?hd (cs := #[.int .i64 0, .slice none 0 0]) (t := 64) ?hr ?_; (case hd => rfl); (case hg => rfl); (case hr => first | (go_simp; done) | (go_simp; rfl))
                          intro yga_ hg_ w2 hbox_ hb_
                          refine hK.out _ _ (below_step hS hb_) (fun hS2 => ?_)
                          clear hK K
                          exact norm_ z38x0 (hJ210 ⟨P0, pz0, P1, pz1, yga_⟩ _ ⟨hS2, ⟨Kd.C_below f0.1 hb_, f0.2⟩, ⟨Kd.C_below f1.1 hb_, f1.2⟩, hbox_, (by rw [hg_]; exact hS.size)⟩)
                        · refine box_step ?hg (N := 20) ?hd (cs := #[.int .i64 0, .int .i64 0, .int .i64 0, .int .i64 0, .slice none 0 0]) (t := 34) ?hr ?_; (case hd => rfl); (case hg => rfl); (case hr => first | (go_simp; done) | (go_simp; rfl))
                          intro ygb_ hg_ w2 hbox_ hb_
                          refine hK.out _ _ (below_step hS hb_) (fun hS2 => ?_)
                          clear hK K
                          exact norm_ z38x0 (hJ201 ⟨P0, pz0, P1, pz1, ygb_⟩ _ ⟨hS2, ⟨Kd.C_below f0.1 hb_, f0.2⟩, ⟨Kd.C_below f1.1 hb_, f1.2⟩, hbox_, (by rw [hg_]; exact hS.size)⟩)
                      rintro ⟨P0, pz0, yga_⟩ w1 ⟨hS, f0, ka, ja⟩
                      replace hS : Below w34.heap.size w34 w1 := hS
                      replace f0 : Kd.C k41 w1 P0 L0.length L0 ∧ L0.length ≤ pz0 := f0
                      replace ka : w1.heap[yga_]? = some (.cells #[.int .i64 0, .slice none 0 0] 64 (0, 0)) := ka
                      replace ja : w34.heap.size ≤ yga_ := ja
                      refine norm_ (a' := ?_) ?_ ?_
                      rotate_left
                      · simp only [putAll, Act.put, List.setIfInBounds_toArray, List.set_cons_zero, List.set_cons_succ]
                        rfl
                      refine two_ (i := 3) (j := 11) (Ni := some 127) (Nj := some 20) #[true, true, true, true, true, false, false, false, false, false, true, false, false, false, false] #[true, true, true, false, true, false, false, false, false, false, true, true, false, false, false] rfl rfl rfl rfl (two_of HT_.out (by kernel_rfl)) (by decide) (by decide) (fun K hK => ?_) (fun K hK => ?_)
                      · refine goes_ Try.func55 (by kernel_rfl) rfl #[.agg #[.int .i64 a1_0, .int .i64 a1_1, .int .i64 a1_2, .int .i64 a1_3, .slice A1 l1.length c1]] (by rfl) rfl rfl z38x16 ?_
                        with_reducible refine (laws_toMsg.calls k a1_0 a1_1 a1_2 a1_3 A1 c1 l1 a1_0 a1_1 a1_2 a1_3 L1 _ (Kd.C_below (Kd.C_below HC1.out HB8.out) hS) HL1.out HT1.out).mono ?_
                        rintro e w2 ⟨v_, rfl, ho_, hb_⟩
                        refine ⟨_, rfl, ?_⟩
                        obtain ⟨P1, pz1, ev_⟩ := Kd.R_slice ho_
                        subst ev_
                        refine hK.out _ _ (below_step hS hb_) (fun hS2 => ?_)
                        clear hK K
                        exact norm_ z38x0 (hJ210 ⟨P0, pz0, P1, pz1, yga_⟩ _ ⟨hS2, ⟨Kd.C_below f0.1 hb_, f0.2⟩, ⟨(Kd.R_reads' ho_).2.2, (Kd.R_reads' ho_).2.1⟩, blkB0 hb_ ka, ja⟩)
                      · refine box_step ?hg (N := 20) ?hd (cs := #[.int .i64 0, .int .i64 0, .int .i64 0, .int .i64 0, .slice none 0 0]) (t := 34) ?hr ?_; (case hd => rfl); (case hg => rfl); (case hr => first | (go_simp; done) | (go_simp; rfl))
                        intro ygb_ hg_ w2 hbox_ hb_
                        refine hK.out _ _ (below_step hS hb_) (fun hS2 => ?_)
                        clear hK K
                        exact norm_ z38x0 (hJ111 ⟨P0, pz0, yga_, ygb_⟩ _ ⟨hS2, ⟨Kd.C_below f0.1 hb_, f0.2⟩, blkB0 hb_ ka, ja, hbox_, (by rw [hg_]; exact hS.size), Nat.ne_of_lt (Nat.lt_of_lt_of_eq (blk_lt ka) hg_.symm)⟩)
                    rintro ⟨P0, pz0, ygb_⟩ w1 ⟨hS, f0, kb, jb⟩
                    replace hS : Below w34.heap.size w34 w1 := hS
                    replace f0 : Kd.C k41 w1 P0 L0.length L0 ∧ L0.length ≤ pz0 := f0
                    replace kb : w1.heap[ygb_]? = some (.cells #[.int .i64 0, .int .i64 0, .int .i64 0, .int .i64 0, .slice none 0 0] 34 (0, 0)) := kb
                    replace jb : w34.heap.size ≤ ygb_ := jb
                    refine norm_ (a' := ?_) ?_ ?_
                    rotate_left
                    · simp only [putAll, Act.put, List.setIfInBounds_toArray, List.set_cons_zero, List.set_cons_succ]
                      rfl
                    refine two_ (i := 3) (j := 10) (Ni := some 127) (Nj := some 19) #[true, true, true, true, true, false, false, false, false, false, false, true, false, false, false] #[true, true, true, false, true, false, false, false, false, false, true, true, false, false, false] rfl rfl rfl rfl (two_of HT_.out (by kernel_rfl)) (by decide) (by decide) (fun K hK => ?_) (fun K hK => ?_)
                    · refine goes_ Try.func55 (by kernel_rfl) rfl #[.agg #[.int .i64 a1_0, .int .i64 a1_1, .int .i64 a1_2, .int .i64 a1_3, .slice A1 l1.length c1]] (by rfl) rfl rfl z38x16 ?_
                      with_reducible refine (laws_toMsg.calls k a1_0 a1_1 a1_2 a1_3 A1 c1 l1 a1_0 a1_1 a1_2 a1_3 L1 _ (Kd.C_below (Kd.C_below HC1.out HB8.out) hS) HL1.out HT1.out).mono ?_
                      rintro e w2 ⟨v_, rfl, ho_, hb_⟩
                      refine ⟨_, rfl, ?_⟩
                      obtain ⟨P1, pz1, ev_⟩ := Kd.R_slice ho_
                      subst ev_
                      refine hK.out _ _ (below_step hS hb_) (fun hS2 => ?_)
                      clear hK K
                      exact norm_ z38x0 (hJ201 ⟨P0, pz0, P1, pz1, ygb_⟩ _ ⟨hS2, ⟨Kd.C_below f0.1 hb_, f0.2⟩, ⟨(Kd.R_reads' ho_).2.2, (Kd.R_reads' ho_).2.1⟩, blkB0 hb_ kb, jb⟩)
                    · refine box_step ?hg (N := 19) ?hd (cs := #[.int .i64 0, .slice none 0 0]) (t := 64) ?hr ?_; (case hd => rfl); (case hg => rfl); (case hr => first | (go_simp; done) | (go_simp; rfl))
                      intro yga_ hg_ w2 hbox_ hb_
                      refine hK.out _ _ (below_step hS hb_) (fun hS2 => ?_)
                      clear hK K
                      exact norm_ z38x0 (hJ111 ⟨P0, pz0, yga_, ygb_⟩ _ ⟨hS2, ⟨Kd.C_below f0.1 hb_, f0.2⟩, hbox_, (by rw [hg_]; exact hS.size), blkB0 hb_ kb, jb, Nat.ne_of_gt (Nat.lt_of_lt_of_eq (blk_lt kb) hg_.symm)⟩)
                  rintro ⟨yga_, ygb_⟩ w1 ⟨hS, ka, ja, kb, jb, nab⟩
                  replace hS : Below w34.heap.size w34 w1 := hS
                  replace ka : w1.heap[yga_]? = some (.cells #[.int .i64 0, .slice none 0 0] 64 (0, 0)) := ka
                  replace ja : w34.heap.size ≤ yga_ := ja
                  replace kb : w1.heap[ygb_]? = some (.cells #[.int .i64 0, .int .i64 0, .int .i64 0, .int .i64 0, .slice none 0 0] 34 (0, 0)) := kb
                  replace jb : w34.heap.size ≤ ygb_ := jb
                  replace nab : yga_ ≠ ygb_ := nab
                  refine norm_ (a' := ?_) ?_ ?_
                  rotate_left
                  · simp only [putAll, Act.put, List.setIfInBounds_toArray, List.set_cons_zero, List.set_cons_succ]
                    rfl
                  refine one_ (i := 1) (N := some 125) #[true, true, true, false, true, false, false, false, false, false, true, true, false, false, false] rfl rfl (one_of HT_.out (by kernel_rfl)) (by decide) (fun K hK => ?_)
                  · refine goes_ Try.func54 (by kernel_rfl) rfl #[.agg #[.int .i64 a0_0, .slice A0 l0.length c0]] (by rfl) rfl rfl z38x16 ?_
                    with_reducible refine (laws_toKdc.calls k a0_0 A0 c0 l0 a0_0 L0 _ (Kd.C_below (Kd.C_below HC0.out HB8.out) hS) HL0.out HT0.out).mono ?_
                    rintro e w2 ⟨v_, rfl, ho_, hb_⟩
                    refine ⟨_, rfl, ?_⟩
                    obtain ⟨P0, pz0, ev_⟩ := Kd.R_slice ho_
                    subst ev_
                    refine hK.out _ _ (below_step hS hb_) (fun hS2 => ?_)
                    clear hK K
                    exact norm_ z38x0 (hJ111 ⟨P0, pz0, yga_, ygb_⟩ _ ⟨hS2, ⟨(Kd.R_reads' ho_).2.2, (Kd.R_reads' ho_).2.1⟩, blkB0 hb_ ka, ja, blkB0 hb_ kb, jb, nab⟩)
                rintro ⟨P0, pz0, P1, pz1, yQ0, yq0_, yx0_, yQ1, yq1_⟩ w1 ⟨hS, f2, f3⟩
                replace hS : Below w34.heap.size w34 w1 := hS
                replace f2 : C.length ≤ yx0_ ∧ Kd.R k41 41 w1 w34.heap.size (fun _ => True) (.slice yQ0 C.length yq0_) C := f2
                replace f3 : Kd.R k41 41 w1 w34.heap.size (fun _ => True) (.slice yQ1 SS.length yq1_) SS := f3
                refine norm_ (a' := ?_) ?_ ?_
                rotate_left
                · simp only [putAll, Act.put, List.setIfInBounds_toArray, List.set_cons_zero, List.set_cons_succ]
                  rfl
                refine two_ (i := 10) (j := 11) (Ni := some 19) (Nj := some 20) #[true, true, true, true, true, true, true, true, true, true, true, false, false, false, false] #[true, true, true, true, true, true, true, true, true, true, false, true, false, false, false] rfl rfl rfl rfl (two_of HT_.out (by kernel_rfl)) (by decide) (by decide) (fun K hK => ?_) (fun K hK => ?_)
                · refine box_step ?hg (N := 19) ?hd (cs := #[.int .i64 0, .slice none 0 0]) (t := 64) ?hr ?_; (case hd => rfl); (case hg => rfl); (case hr => first | (go_simp; done) | (go_simp; rfl))
                  intro yga_ hg_ w2 hbox_ hb_
                  refine hK.out _ _ (below_step hS hb_) (fun hS2 => ?_)
                  clear hK K
                  exact norm_ z38x0 (hJ310 ⟨P0, pz0, P1, pz1, yQ0, yq0_, yx0_, yQ1, yq1_, yga_⟩ _ ⟨hS2, ⟨f2.1, Kd.R_below f2.2 hb_⟩, Kd.R_below f3 hb_, hbox_, (by rw [hg_]; exact hS.size)⟩)
                · refine box_step ?hg (N := 20) ?hd (cs := #[.int .i64 0, .int .i64 0, .int .i64 0, .int .i64 0, .slice none 0 0]) (t := 34) ?hr ?_; (case hd => rfl); (case hg => rfl); (case hr => first | (go_simp; done) | (go_simp; rfl))
                  intro ygb_ hg_ w2 hbox_ hb_
                  refine hK.out _ _ (below_step hS hb_) (fun hS2 => ?_)
                  clear hK K
                  exact norm_ z38x0 (hJ301 ⟨P0, pz0, P1, pz1, yQ0, yq0_, yx0_, yQ1, yq1_, ygb_⟩ _ ⟨hS2, ⟨f2.1, Kd.R_below f2.2 hb_⟩, Kd.R_below f3 hb_, hbox_, (by rw [hg_]; exact hS.size)⟩)
              rintro ⟨P0, pz0, P1, pz1, yga_⟩ w1 ⟨hS, f0, f1, ka, ja⟩
              replace hS : Below w34.heap.size w34 w1 := hS
              replace f0 : Kd.C k41 w1 P0 L0.length L0 ∧ L0.length ≤ pz0 := f0
              replace f1 : Kd.C k41 w1 P1 L1.length L1 ∧ L1.length ≤ pz1 := f1
              replace ka : w1.heap[yga_]? = some (.cells #[.int .i64 0, .slice none 0 0] 64 (0, 0)) := ka
              replace ja : w34.heap.size ≤ yga_ := ja
              refine norm_ (a' := ?_) ?_ ?_
              rotate_left
              · simp only [putAll, Act.put, List.setIfInBounds_toArray, List.set_cons_zero, List.set_cons_succ]
                rfl
              refine two_ (i := 5) (j := 11) (Ni := some 129) (Nj := some 20) #[true, true, true, true, true, true, false, false, false, false, true, false, false, false, false] #[true, true, true, true, true, false, false, false, false, false, true, true, false, false, false] rfl rfl rfl rfl (two_of HT_.out (by kernel_rfl)) (by decide) (by decide) (fun K hK => ?_) (fun K hK => ?_)
              · refine goes_ Try.func56 (by kernel_rfl) rfl #[.agg #[.int .i64 a0_0, .slice P0 L0.length pz0], .agg #[.int .i64 a1_0, .int .i64 a1_1, .int .i64 a1_2, .int .i64 a1_3, .slice P1 L1.length pz1], .int .i64 a2] (by rfl) rfl rfl z38x16 ?_
                with_reducible refine (impl_KdcAs.calls k a0_0 P0 pz0 L0 a1_0 a1_1 a1_2 a1_3 P1 pz1 L1 a2 n C m0 m1 m2 m3 SS b _ f0.1 f0.2 f1.1 f1.2 HI.out).mono ?_
                rintro e w2 ⟨v_, vc_, u_, rfl, hcl_, ho_, hu_, hb_⟩
                refine ⟨_, rfl, ?_⟩
                obtain ⟨yQ0, yq0_, ev_⟩ := Kd.R_slice ho_
                subst ev_
                obtain ⟨yQ1, yq1_, ev_⟩ := Kd.R_slice hu_
                subst ev_
                obtain rfl := hcl_ _ _ _ rfl
                refine hK.out _ _ (below_step hS hb_) (fun hS2 => ?_)
                clear hK K
                refine norm_ (a' := ?_) ?_ ?_
                rotate_left
                · show Act.put _ (some 129) _ = _
                  simp only [Act.put, List.setIfInBounds_toArray, List.set_cons_zero, List.set_cons_succ, i64_w, i32_w]
                  rfl
                refine pure_ (i := 6) (N := some 123) (v := ?_) (a' := ?_) #[true, true, true, true, true, true, true, false, false, false, true, false, false, false, false] rfl rfl (any_of HT_.out (by kernel_rfl)) (fun _ _ _ h => h) (Or.inl ⟨by rfl, ?_⟩) ?_ ?_
                rotate_left
                · intro w'
                  go_simp
                  with_reducible rfl
                rotate_left
                · simp only [Act.put, List.setIfInBounds_toArray, List.set_cons_zero, List.set_cons_succ, i64_w, i32_w]
                  rfl
                refine pure_ (i := 7) (N := some 130) (v := ?_) (a' := ?_) #[true, true, true, true, true, true, true, true, false, false, true, false, false, false, false] rfl rfl (any_of HT_.out (by kernel_rfl)) (fun _ _ _ h => h) (Or.inl ⟨by rfl, ?_⟩) ?_ ?_
                rotate_left
                · intro w'
                  go_simp
                  with_reducible rfl
                rotate_left
                · simp only [Act.put, List.setIfInBounds_toArray, List.set_cons_zero, List.set_cons_succ, i64_w, i32_w]
                  rfl
                refine pure_ (i := 8) (N := some 131) (v := ?_) (a' := ?_) #[true, true, true, true, true, true, true, true, true, false, true, false, false, false, false] rfl rfl (any_of HT_.out (by kernel_rfl)) (fun _ _ _ h => h) (Or.inl ⟨by rfl, ?_⟩) ?_ ?_
                rotate_left
                · intro w'
                  go_simp
                  with_reducible rfl
                rotate_left
                · simp only [Act.put, List.setIfInBounds_toArray, List.set_cons_zero, List.set_cons_succ, i64_w, i32_w]
                  rfl
                refine pure_ (i := 9) (N := some 132) (v := ?_) (a' := ?_) #[true, true, true, true, true, true, true, true, true, true, true, false, false, false, false] rfl rfl (any_of HT_.out (by kernel_rfl)) (fun _ _ _ h => h) (Or.inl ⟨by rfl, ?_⟩) ?_ ?_
                rotate_left
                · intro w'
                  go_simp
                  with_reducible rfl
                rotate_left
                · simp only [Act.put, List.setIfInBounds_toArray, List.set_cons_zero, List.set_cons_succ, i64_w, i32_w]
                  rfl
                exact norm_ z38x0 (hJ310 ⟨P0, pz0, P1, pz1, yQ0, yq0_, C.length, yQ1, yq1_, yga_⟩ _ ⟨hS2, ⟨Nat.le_refl _, Kd.R_mono (Kd.R_lower ho_ hS.size) (fun _ _ => trivial)⟩, Kd.R_mono (Kd.R_lower hu_ hS.size) (fun _ _ => trivial), blkB0 hb_ ka, ja⟩)
              · refine box_step ?hg (N := 20) ?hd (cs := #[.int .i64 0, .int .i64 0, .int .i64 0, .int .i64 0, .slice none 0 0]) (t := 34) ?hr ?_; (case hd => rfl); (case hg => rfl); (case hr => first | (go_simp; done) | (go_simp; rfl))
                intro ygb_ hg_ w2 hbox_ hb_
                refine hK.out _ _ (below_step hS hb_) (fun hS2 => ?_)
                clear hK K
                exact norm_ z38x0 (hJ211 ⟨P0, pz0, P1, pz1, yga_, ygb_⟩ _ ⟨hS2, ⟨Kd.C_below f0.1 hb_, f0.2⟩, ⟨Kd.C_below f1.1 hb_, f1.2⟩, blkB0 hb_ ka, ja, hbox_, (by rw [hg_]; exact hS.size), Nat.ne_of_lt (Nat.lt_of_lt_of_eq (blk_lt ka) hg_.symm)⟩)
            rintro ⟨P0, pz0, P1, pz1, ygb_⟩ w1 ⟨hS, f0, f1, kb, jb⟩
            replace hS : Below w34.heap.size w34 w1 := hS
            replace f0 : Kd.C k41 w1 P0 L0.length L0 ∧ L0.length ≤ pz0 := f0
            replace f1 : Kd.C k41 w1 P1 L1.length L1 ∧ L1.length ≤ pz1 := f1
            replace kb : w1.heap[ygb_]? = some (.cells #[.int .i64 0, .int .i64 0, .int .i64 0, .int .i64 0, .slice none 0 0] 34 (0, 0)) := kb
            replace jb : w34.heap.size ≤ ygb_ := jb
            refine norm_ (a' := ?_) ?_ ?_
            rotate_left
            · simp only [putAll, Act.put, List.setIfInBounds_toArray, List.set_cons_zero, List.set_cons_succ]
              rfl
            refine two_ (i := 5) (j := 10) (Ni := some 129) (Nj := some 19) #[true, true, true, true, true, true, false, false, false, false, false, true, false, false, false] #[true, true, true, true, true, false, false, false, false, false, true, true, false, false, false] rfl rfl rfl rfl (two_of HT_.out (by kernel_rfl)) (by decide) (by decide) (fun K hK => ?_) (fun K hK => ?_)
            · refine goes_ Try.func56 (by kernel_rfl) rfl #[.agg #[.int .i64 a0_0, .slice P0 L0.length pz0], .agg #[.int .i64 a1_0, .int .i64 a1_1, .int .i64 a1_2, .int .i64 a1_3, .slice P1 L1.length pz1], .int .i64 a2] (by rfl) rfl rfl z38x16 ?_
              with_reducible refine (impl_KdcAs.calls k a0_0 P0 pz0 L0 a1_0 a1_1 a1_2 a1_3 P1 pz1 L1 a2 n C m0 m1 m2 m3 SS b _ f0.1 f0.2 f1.1 f1.2 HI.out).mono ?_
              rintro e w2 ⟨v_, vc_, u_, rfl, hcl_, ho_, hu_, hb_⟩
              refine ⟨_, rfl, ?_⟩
              obtain ⟨yQ0, yq0_, ev_⟩ := Kd.R_slice ho_
              subst ev_
              obtain ⟨yQ1, yq1_, ev_⟩ := Kd.R_slice hu_
              subst ev_
              obtain rfl := hcl_ _ _ _ rfl
              refine hK.out _ _ (below_step hS hb_) (fun hS2 => ?_)
              clear hK K
              refine norm_ (a' := ?_) ?_ ?_
              rotate_left
              · show Act.put _ (some 129) _ = _
                simp only [Act.put, List.setIfInBounds_toArray, List.set_cons_zero, List.set_cons_succ, i64_w, i32_w]
                rfl
              refine pure_ (i := 6) (N := some 123) (v := ?_) (a' := ?_) #[true, true, true, true, true, true, true, false, false, false, false, true, false, false, false] rfl rfl (any_of HT_.out (by kernel_rfl)) (fun _ _ _ h => h) (Or.inl ⟨by rfl, ?_⟩) ?_ ?_
              rotate_left
              · intro w'
                go_simp
                with_reducible rfl
              rotate_left
              · simp only [Act.put, List.setIfInBounds_toArray, List.set_cons_zero, List.set_cons_succ, i64_w, i32_w]
                rfl
              refine pure_ (i := 7) (N := some 130) (v := ?_) (a' := ?_) #[true, true, true, true, true, true, true, true, false, false, false, true, false, false, false] rfl rfl (any_of HT_.out (by kernel_rfl)) (fun _ _ _ h => h) (Or.inl ⟨by rfl, ?_⟩) ?_ ?_
              rotate_left
              · intro w'
                go_simp
                with_reducible rfl
              rotate_left
              · simp only [Act.put, List.setIfInBounds_toArray, List.set_cons_zero, List.set_cons_succ, i64_w, i32_w]
                rfl
              refine pure_ (i := 8) (N := some 131) (v := ?_) (a' := ?_) #[true, true, true, true, true, true, true, true, true, false, false, true, false, false, false] rfl rfl (any_of HT_.out (by kernel_rfl)) (fun _ _ _ h => h) (Or.inl ⟨by rfl, ?_⟩) ?_ ?_
              rotate_left
              · intro w'
                go_simp
                with_reducible rfl
              rotate_left
              · simp only [Act.put, List.setIfInBounds_toArray, List.set_cons_zero, List.set_cons_succ, i64_w, i32_w]
                rfl
              refine pure_ (i := 9) (N := some 132) (v := ?_) (a' := ?_) #[true, true, true, true, true, true, true, true, true, true, false, true, false, false, false] rfl rfl (any_of HT_.out (by kernel_rfl)) (fun _ _ _ h => h) (Or.inl ⟨by rfl, ?_⟩) ?_ ?_
              rotate_left
              · intro w'
                go_simp
                with_reducible rfl
              rotate_left
              · simp only [Act.put, List.setIfInBounds_toArray, List.set_cons_zero, List.set_cons_succ, i64_w, i32_w]
                rfl
              exact norm_ z38x0 (hJ301 ⟨P0, pz0, P1, pz1, yQ0, yq0_, C.length, yQ1, yq1_, ygb_⟩ _ ⟨hS2, ⟨Nat.le_refl _, Kd.R_mono (Kd.R_lower ho_ hS.size) (fun _ _ => trivial)⟩, Kd.R_mono (Kd.R_lower hu_ hS.size) (fun _ _ => trivial), blkB0 hb_ kb, jb⟩)
            · refine box_step ?hg (N := 19) ?hd (cs := #[.int .i64 0, .slice none 0 0]) (t := 64) ?hr ?_; (case hd => rfl); (case hg => rfl); (case hr => first | (go_simp; done) | (go_simp; rfl))
              intro yga_ hg_ w2 hbox_ hb_
              refine hK.out _ _ (below_step hS hb_) (fun hS2 => ?_)
              clear hK K
              exact norm_ z38x0 (hJ211 ⟨P0, pz0, P1, pz1, yga_, ygb_⟩ _ ⟨hS2, ⟨Kd.C_below f0.1 hb_, f0.2⟩, ⟨Kd.C_below f1.1 hb_, f1.2⟩, hbox_, (by rw [hg_]; exact hS.size), blkB0 hb_ kb, jb, Nat.ne_of_gt (Nat.lt_of_lt_of_eq (blk_lt kb) hg_.symm)⟩)
          rintro ⟨P0, pz0, yga_, ygb_⟩ w1 ⟨hS, f0, ka, ja, kb, jb, nab⟩
          replace hS : Below w34.heap.size w34 w1 := hS
          replace f0 : Kd.C k41 w1 P0 L0.length L0 ∧ L0.length ≤ pz0 := f0
          replace ka : w1.heap[yga_]? = some (.cells #[.int .i64 0, .slice none 0 0] 64 (0, 0)) := ka
          replace ja : w34.heap.size ≤ yga_ := ja
          replace kb : w1.heap[ygb_]? = some (.cells #[.int .i64 0, .int .i64 0, .int .i64 0, .int .i64 0, .slice none 0 0] 34 (0, 0)) := kb
          replace jb : w34.heap.size ≤ ygb_ := jb
          replace nab : yga_ ≠ ygb_ := nab
          refine norm_ (a' := ?_) ?_ ?_
          rotate_left
          · simp only [putAll, Act.put, List.setIfInBounds_toArray, List.set_cons_zero, List.set_cons_succ]
            rfl
          refine one_ (i := 3) (N := some 127) #[true, true, true, true, true, false, false, false, false, false, true, true, false, false, false] rfl rfl (one_of HT_.out (by kernel_rfl)) (by decide) (fun K hK => ?_)
          · refine goes_ Try.func55 (by kernel_rfl) rfl #[.agg #[.int .i64 a1_0, .int .i64 a1_1, .int .i64 a1_2, .int .i64 a1_3, .slice A1 l1.length c1]] (by rfl) rfl rfl z38x16 ?_
            with_reducible refine (laws_toMsg.calls k a1_0 a1_1 a1_2 a1_3 A1 c1 l1 a1_0 a1_1 a1_2 a1_3 L1 _ (Kd.C_below (Kd.C_below HC1.out HB8.out) hS) HL1.out HT1.out).mono ?_
            rintro e w2 ⟨v_, rfl, ho_, hb_⟩
            refine ⟨_, rfl, ?_⟩
            obtain ⟨P1, pz1, ev_⟩ := Kd.R_slice ho_
            subst ev_
            refine hK.out _ _ (below_step hS hb_) (fun hS2 => ?_)
            clear hK K
            exact norm_ z38x0 (hJ211 ⟨P0, pz0, P1, pz1, yga_, ygb_⟩ _ ⟨hS2, ⟨Kd.C_below f0.1 hb_, f0.2⟩, ⟨(Kd.R_reads' ho_).2.2, (Kd.R_reads' ho_).2.1⟩, blkB0 hb_ ka, ja, blkB0 hb_ kb, jb, nab⟩)
        rintro ⟨P0, pz0, P1, pz1, yQ0, yq0_, yx0_, yQ1, yq1_, yga_⟩ w1 ⟨hS, f2, f3, ka, ja⟩
        replace hS : Below w34.heap.size w34 w1 := hS
        replace f2 : C.length ≤ yx0_ ∧ Kd.R k41 41 w1 w34.heap.size (fun _ => True) (.slice yQ0 C.length yq0_) C := f2
        replace f3 : Kd.R k41 41 w1 w34.heap.size (fun _ => True) (.slice yQ1 SS.length yq1_) SS := f3
        replace ka : w1.heap[yga_]? = some (.cells #[.int .i64 0, .slice none 0 0] 64 (0, 0)) := ka
        replace ja : w34.heap.size ≤ yga_ := ja
        refine norm_ (a' := ?_) ?_ ?_
        rotate_left
        · simp only [putAll, Act.put, List.setIfInBounds_toArray, List.set_cons_zero, List.set_cons_succ]
          rfl
        refine one_ (i := 11) (N := some 20) #[true, true, true, true, true, true, true, true, true, true, true, true, false, false, false] rfl rfl (one_of HT_.out (by kernel_rfl)) (by decide) (fun K hK => ?_)
        · refine box_step ?hg (N := 20) ?hd (cs := #[.int .i64 0, .int .i64 0, .int .i64 0, .int .i64 0, .slice none 0 0]) (t := 34) ?hr ?_; (case hd => rfl); (case hg => rfl); (case hr => first | (go_simp; done) | (go_simp; rfl))
          intro ygb_ hg_ w2 hbox_ hb_
          refine hK.out _ _ (below_step hS hb_) (fun hS2 => ?_)
          clear hK K
          exact norm_ z38x0 (hJ311 ⟨P0, pz0, P1, pz1, yQ0, yq0_, yx0_, yQ1, yq1_, yga_, ygb_⟩ _ ⟨hS2, ⟨f2.1, Kd.R_below f2.2 hb_⟩, Kd.R_below f3 hb_, blkB0 hb_ ka, ja, hbox_, (by rw [hg_]; exact hS.size), Nat.ne_of_lt (Nat.lt_of_lt_of_eq (blk_lt ka) hg_.symm)⟩)
      rintro ⟨P0, pz0, P1, pz1, yQ0, yq0_, yx0_, yQ1, yq1_, ygb_⟩ w1 ⟨hS, f2, f3, kb, jb⟩
      replace hS : Below w34.heap.size w34 w1 := hS
      replace f2 : C.length ≤ yx0_ ∧ Kd.R k41 41 w1 w34.heap.size (fun _ => True) (.slice yQ0 C.length yq0_) C := f2
      replace f3 : Kd.R k41 41 w1 w34.heap.size (fun _ => True) (.slice yQ1 SS.length yq1_) SS := f3
      replace kb : w1.heap[ygb_]? = some (.cells #[.int .i64 0, .int .i64 0, .int .i64 0, .int .i64 0, .slice none 0 0] 34 (0, 0)) := kb
      replace jb : w34.heap.size ≤ ygb_ := jb
      refine norm_ (a' := ?_) ?_ ?_
      rotate_left
      · simp only [putAll, Act.put, List.setIfInBounds_toArray, List.set_cons_zero, List.set_cons_succ]
        rfl
      refine one_ (i := 10) (N := some 19) #[true, true, true, true, true, true, true, true, true, true, true, true, false, false, false] rfl rfl (one_of HT_.out (by kernel_rfl)) (by decide) (fun K hK => ?_)
      · refine box_step ?hg (N := 19) ?hd (cs := #[.int .i64 0, .slice none 0 0]) (t := 64) ?hr ?_; (case hd => rfl); (case hg => rfl); (case hr => first | (go_simp; done) | (go_simp; rfl))
        intro yga_ hg_ w2 hbox_ hb_
        refine hK.out _ _ (below_step hS hb_) (fun hS2 => ?_)
        clear hK K
        exact norm_ z38x0 (hJ311 ⟨P0, pz0, P1, pz1, yQ0, yq0_, yx0_, yQ1, yq1_, yga_, ygb_⟩ _ ⟨hS2, ⟨f2.1, Kd.R_below f2.2 hb_⟩, Kd.R_below f3 hb_, hbox_, (by rw [hg_]; exact hS.size), blkB0 hb_ kb, jb, Nat.ne_of_gt (Nat.lt_of_lt_of_eq (blk_lt kb) hg_.symm)⟩)
    rintro ⟨P0, pz0, P1, pz1, yga_, ygb_⟩ w1 ⟨hS, f0, f1, ka, ja, kb, jb, nab⟩
    replace hS : Below w34.heap.size w34 w1 := hS
    replace f0 : Kd.C k41 w1 P0 L0.length L0 ∧ L0.length ≤ pz0 := f0
    replace f1 : Kd.C k41 w1 P1 L1.length L1 ∧ L1.length ≤ pz1 := f1
    replace ka : w1.heap[yga_]? = some (.cells #[.int .i64 0, .slice none 0 0] 64 (0, 0)) := ka
    replace ja : w34.heap.size ≤ yga_ := ja
    replace kb : w1.heap[ygb_]? = some (.cells #[.int .i64 0, .int .i64 0, .int .i64 0, .int .i64 0, .slice none 0 0] 34 (0, 0)) := kb
    replace jb : w34.heap.size ≤ ygb_ := jb
    replace nab : yga_ ≠ ygb_ := nab
    refine norm_ (a' := ?_) ?_ ?_
    rotate_left
    · simp only [putAll, Act.put, List.setIfInBounds_toArray, List.set_cons_zero, List.set_cons_succ]
      rfl
    refine one_ (i := 5) (N := some 129) #[true, true, true, true, true, true, false, false, false, false, true, true, false, false, false] rfl rfl (one_of HT_.out (by kernel_rfl)) (by decide) (fun K hK => ?_)
    · refine goes_ Try.func56 (by kernel_rfl) rfl #[.agg #[.int .i64 a0_0, .slice P0 L0.length pz0], .agg #[.int .i64 a1_0, .int .i64 a1_1, .int .i64 a1_2, .int .i64 a1_3, .slice P1 L1.length pz1], .int .i64 a2] (by rfl) rfl rfl z38x16 ?_
      with_reducible refine (impl_KdcAs.calls k a0_0 P0 pz0 L0 a1_0 a1_1 a1_2 a1_3 P1 pz1 L1 a2 n C m0 m1 m2 m3 SS b _ f0.1 f0.2 f1.1 f1.2 HI.out).mono ?_
      rintro e w2 ⟨v_, vc_, u_, rfl, hcl_, ho_, hu_, hb_⟩
      refine ⟨_, rfl, ?_⟩
      obtain ⟨yQ0, yq0_, ev_⟩ := Kd.R_slice ho_
      subst ev_
      obtain ⟨yQ1, yq1_, ev_⟩ := Kd.R_slice hu_
      subst ev_
      obtain rfl := hcl_ _ _ _ rfl
      refine hK.out _ _ (below_step hS hb_) (fun hS2 => ?_)
      clear hK K
      refine norm_ (a' := ?_) ?_ ?_
      rotate_left
      · show Act.put _ (some 129) _ = _
        simp only [Act.put, List.setIfInBounds_toArray, List.set_cons_zero, List.set_cons_succ, i64_w, i32_w]
        rfl
      refine pure_ (i := 6) (N := some 123) (v := ?_) (a' := ?_) #[true, true, true, true, true, true, true, false, false, false, true, true, false, false, false] rfl rfl (any_of HT_.out (by kernel_rfl)) (fun _ _ _ h => h) (Or.inl ⟨by rfl, ?_⟩) ?_ ?_
      rotate_left
      · intro w'
        go_simp
        with_reducible rfl
      rotate_left
      · simp only [Act.put, List.setIfInBounds_toArray, List.set_cons_zero, List.set_cons_succ, i64_w, i32_w]
        rfl
      refine pure_ (i := 7) (N := some 130) (v := ?_) (a' := ?_) #[true, true, true, true, true, true, true, true, false, false, true, true, false, false, false] rfl rfl (any_of HT_.out (by kernel_rfl)) (fun _ _ _ h => h) (Or.inl ⟨by rfl, ?_⟩) ?_ ?_
      rotate_left
      · intro w'
        go_simp
        with_reducible rfl
      rotate_left
      · simp only [Act.put, List.setIfInBounds_toArray, List.set_cons_zero, List.set_cons_succ, i64_w, i32_w]
        rfl
      refine pure_ (i := 8) (N := some 131) (v := ?_) (a' := ?_) #[true, true, true, true, true, true, true, true, true, false, true, true, false, false, false] rfl rfl (any_of HT_.out (by kernel_rfl)) (fun _ _ _ h => h) (Or.inl ⟨by rfl, ?_⟩) ?_ ?_
      rotate_left
      · intro w'
        go_simp
        with_reducible rfl
      rotate_left
      · simp only [Act.put, List.setIfInBounds_toArray, List.set_cons_zero, List.set_cons_succ, i64_w, i32_w]
        rfl
      refine pure_ (i := 9) (N := some 132) (v := ?_) (a' := ?_) #[true, true, true, true, true, true, true, true, true, true, true, true, false, false, false] rfl rfl (any_of HT_.out (by kernel_rfl)) (fun _ _ _ h => h) (Or.inl ⟨by rfl, ?_⟩) ?_ ?_
      rotate_left
      · intro w'
        go_simp
        with_reducible rfl
      rotate_left
      · simp only [Act.put, List.setIfInBounds_toArray, List.set_cons_zero, List.set_cons_succ, i64_w, i32_w]
        rfl
      exact norm_ z38x0 (hJ311 ⟨P0, pz0, P1, pz1, yQ0, yq0_, C.length, yQ1, yq1_, yga_, ygb_⟩ _ ⟨hS2, ⟨Nat.le_refl _, Kd.R_mono (Kd.R_lower ho_ hS.size) (fun _ _ => trivial)⟩, Kd.R_mono (Kd.R_lower hu_ hS.size) (fun _ _ => trivial), blkB0 hb_ ka, ja, blkB0 hb_ kb, jb, nab⟩)
  rintro ⟨P0, pz0, P1, pz1, yQ0, yq0_, yx0_, yQ1, yq1_, yga_, ygb_⟩ w1 ⟨hS, f2, f3, ka, ja, kb, jb, nab⟩
  replace hS : Below w34.heap.size w34 w1 := hS
  replace f2 : C.length ≤ yx0_ ∧ Kd.R k41 41 w1 w34.heap.size (fun _ => True) (.slice yQ0 C.length yq0_) C := f2
  replace f3 : Kd.R k41 41 w1 w34.heap.size (fun _ => True) (.slice yQ1 SS.length yq1_) SS := f3
  replace ka : w1.heap[yga_]? = some (.cells #[.int .i64 0, .slice none 0 0] 64 (0, 0)) := ka
  replace ja : w34.heap.size ≤ yga_ := ja
  replace kb : w1.heap[ygb_]? = some (.cells #[.int .i64 0, .int .i64 0, .int .i64 0, .int .i64 0, .slice none 0 0] 34 (0, 0)) := kb
  replace jb : w34.heap.size ≤ ygb_ := jb
  replace nab : yga_ ≠ ygb_ := nab
  refine norm_ (a' := ?_) ?_ ?_
  rotate_left
  · simp only [putAll, Act.put, List.setIfInBounds_toArray, List.set_cons_zero, List.set_cons_succ]
    rfl
  have nba := Ne.symm nab
  have hz0 : w1.cell? ⟨yga_, 0, none⟩ = some (.int .i64 0) := (blk_cell ka 0).trans rfl
  have hz1 : w1.cell? ⟨yga_, 1, none⟩ = some (.slice none 0 0) := (blk_cell ka 1).trans rfl
  have hf0 := blk_frozen ka 0
  have hf1 := blk_frozen ka 1
  have hy0 : w1.cell? ⟨ygb_, 0, none⟩ = some (.int .i64 0) := (blk_cell kb 0).trans rfl
  have hy1 : w1.cell? ⟨ygb_, 1, none⟩ = some (.int .i64 0) := (blk_cell kb 1).trans rfl
  have hy2 : w1.cell? ⟨ygb_, 2, none⟩ = some (.int .i64 0) := (blk_cell kb 2).trans rfl
  have hy3 : w1.cell? ⟨ygb_, 3, none⟩ = some (.int .i64 0) := (blk_cell kb 3).trans rfl
  have hy4 : w1.cell? ⟨ygb_, 4, none⟩ = some (.slice none 0 0) := (blk_cell kb 4).trans rfl
  have hg0 := blk_frozen kb 0
  have hg1 := blk_frozen kb 1
  have hg2 := blk_frozen kb 2
  have hg3 := blk_frozen kb 3
  have hg4 := blk_frozen kb 4
  refine one_ (i := 12) (N := none) #[true, true, true, true, true, true, true, true, true, true, true, true, true, false, false] rfl rfl (one_of HT_.out (by kernel_rfl)) (by decide) (fun K hK => ?_)
  refine skip_ (w1 := ?_) (by rfl) rfl ?_ ?_
  rotate_left
  · go_simp
    rfl
  refine hK.out _ _ (kdcPutB hS ja _ _) (fun hS2 => ?_)
  clear hK K
  refine one_ (i := 13) (N := none) #[true, true, true, true, true, true, true, true, true, true, true, true, true, true, false] rfl rfl (one_of HT_.out (by kernel_rfl)) (by decide) (fun K hK => ?_)
  refine skip_ (w1 := ?_) (by rfl) rfl ?_ ?_
  rotate_left
  · go_simp
    rfl
  refine hK.out _ _ (msgPutB hS2 jb _ _ _ _ _) (fun hS3 => ?_)
  clear hK K
  refine pure_ (i := 14) (N := some 21) (v := ?_) (a' := ?_) #[true, true, true, true, true, true, true, true, true, true, true, true, true, true, true] rfl rfl (any_of HT_.out (by kernel_rfl)) (fun _ _ _ h => h) (Or.inl ⟨by rfl, ?_⟩) ?_ ?_
  rotate_left
  · intro w'
    go_simp
    with_reducible rfl
  rotate_left
  · simp only [Act.put, List.setIfInBounds_toArray, List.set_cons_zero, List.set_cons_succ, i64_w, i32_w]
    rfl
  refine done_ (done_of HT_.out (by kernel_rfl)) ?_
  clear hS2 hz0 hz1 hf0 hf1 hy0 hy1 hy2 hy3 hy4 hg0 hg1 hg2 hg3 hg4
  generalize hW_ : World.setCell _ _ _ = W35
  have hS4 : Below w34.heap.size w34 W35 := by rw [← hW_]; exact hS3
  have GA := Aside0.mk (show W35.heap[yga_]? = some (.cells #[.int .i64 n, .slice yQ0 C.length yx0_] 64 (0, 0)) from by rw [← hW_]; exact msgFar nab (kdcPut ka _ _) _ _ _ _ _)
  have GB := Aside0.mk (show W35.heap[ygb_]? = some (.cells #[.int .i64 m0, .int .i64 m1, .int .i64 m2, .int .i64 m3, .slice yQ1 SS.length yq1_] 34 (0, 0)) from by rw [← hW_]; exact msgPut (kdcFar nba kb _ _) _ _ _ _ _)
  have RA := Aside0.mk (show C.length ≤ yx0_ ∧ Kd.C k41 W35 yQ0 C.length C from And.intro f2.1 (by rw [← hW_]; exact (Kd.R_reads' (kdcEnd (u := .slice none 0 0) (Kd.R_tight rfl f2.2) ka kb (fun _ _ h => by cases h) _ _ _ _ _ _ _)).2.2))
  have RB := Aside0.mk (show SS.length ≤ yq1_ ∧ Kd.C k41 W35 yQ1 SS.length SS from And.intro (Kd.R_reads' f3).2.1 (by rw [← hW_]; exact (Kd.R_reads' (kdcEnd (u := .slice none 0 0) (Kd.R_tight rfl f3) ka kb (fun _ _ h => by cases h) _ _ _ _ _ _ _)).2.2))
  clear hW_ hS3 hS
  have hS3 := hS4
  clear hS4
  skip
  (have mm0_ := Aside0.mk (below_step z38x7 hS3); have mm1_ := Aside0.mk (below_step z38x6 hS3); have mm2_ := Aside0.mk (blkB0 hS3 z38x12); have mm3_ := Aside0.mk (blkB0 hS3 z38x13); clear HB8; have HB8 := mm0_; clear mm0_; clear HB32; have HB32 := mm1_; clear mm1_; clear HK13; have HK13 := mm2_; clear mm2_; clear HK14; have HK14 := mm3_; clear mm3_)
  clear hS3 f2 f3 ka kb ja jb nab nba HT_ HW_
  have hc0 : W35.cell? ⟨yga_, 0, none⟩ = some (.int .i64 n) := (blk_cell GA.out 0).trans rfl
  have hc1 : W35.cell? ⟨yga_, 1, none⟩ = some (.slice yQ0 C.length yx0_) := (blk_cell GA.out 1).trans rfl
  have hd0 : W35.cell? ⟨ga_, 0, none⟩ = some (.int .i64 n) := (blk_cell (blkB0 HB8.out HK8.out) 0).trans rfl
  have hd1 : W35.cell? ⟨ga_, 1, none⟩ = some (.slice Q0 C.length x0_) := (blk_cell (blkB0 HB8.out HK8.out) 1).trans rfl
  go_wp2_with (first | (go_at_call 57; refine (laws_eqKdc.calls k n yQ0 yx0_ C n Q0 x0_ C true _ (by repeat (first | exact RA.out.2 | (with_reducible refine Kd.C_alloc ?_ _) | (with_reducible refine Kd.C_drewN ?_ _) | (with_reducible refine Kd.C_drew ?_))) RA.out.1 (Kd.C_below HW0.out.2 z38x7) HW0.out.1 HE0.out).mono ?_; rintro e w36 ⟨rfl, hb_⟩; have mm0_ := Aside0.mk (below_step z38x7 hb_); have mm1_ := Aside0.mk (below_step z38x6 hb_); have mm2_ := Aside0.mk (blkB0 hb_ z38x12); have mm3_ := Aside0.mk (blkB0 hb_ z38x13); have mm4_ := Aside0.mk (blkB0 hb_ (by (with_reducible repeat (first | refine blk_drewN ?_ _ | refine blk_drew ?_ | refine blk_alloc ?_ _)); exact GB.out)); clear HB8; have HB8 := mm0_; clear mm0_; clear HB32; have HB32 := mm1_; clear mm1_; clear HK13; have HK13 := mm2_; clear mm2_; clear HK14; have HK14 := mm3_; clear mm3_; clear GB; have GB := mm4_; clear mm4_; have mr_ := Aside0.mk (Kd.C_below (by repeat (first | exact RB.out.2 | (with_reducible refine Kd.C_alloc ?_ _) | (with_reducible refine Kd.C_drewN ?_ _) | (with_reducible refine Kd.C_drew ?_))) hb_); clear hb_ hc0 hc1 hd0 hd1; have hc0 : w36.cell? ⟨ygb_, 0, none⟩ = some (.int .i64 m0) := (blk_cell GB.out 0).trans rfl; have hc1 : w36.cell? ⟨ygb_, 1, none⟩ = some (.int .i64 m1) := (blk_cell GB.out 1).trans rfl; have hc2 : w36.cell? ⟨ygb_, 2, none⟩ = some (.int .i64 m2) := (blk_cell GB.out 2).trans rfl; have hc3 : w36.cell? ⟨ygb_, 3, none⟩ = some (.int .i64 m3) := (blk_cell GB.out 3).trans rfl; have hc4 : w36.cell? ⟨ygb_, 4, none⟩ = some (.slice yQ1 SS.length yq1_) := (blk_cell GB.out 4).trans rfl; have hd0 : w36.cell? ⟨gb_, 0, none⟩ = some (.int .i64 m0) := (blk_cell (blkB0 HB8.out HK9.out) 0).trans rfl; have hd1 : w36.cell? ⟨gb_, 1, none⟩ = some (.int .i64 m1) := (blk_cell (blkB0 HB8.out HK9.out) 1).trans rfl; have hd2 : w36.cell? ⟨gb_, 2, none⟩ = some (.int .i64 m2) := (blk_cell (blkB0 HB8.out HK9.out) 2).trans rfl; have hd3 : w36.cell? ⟨gb_, 3, none⟩ = some (.int .i64 m3) := (blk_cell (blkB0 HB8.out HK9.out) 3).trans rfl; have hd4 : w36.cell? ⟨gb_, 4, none⟩ = some (.slice Q1 SS.length q1_) := (blk_cell (blkB0 HB8.out HK9.out) 4).trans rfl) | (go_at_call 58; refine (laws_eqMsg.calls k m0 m1 m2 m3 yQ1 yq1_ SS m0 m1 m2 m3 Q1 q1_ SS true _ (by repeat (first | exact mr_.out | (with_reducible refine Kd.C_alloc ?_ _) | (with_reducible refine Kd.C_drewN ?_ _) | (with_reducible refine Kd.C_drew ?_))) RB.out.1 (Kd.C_below HW1.out.2 z38x7) HW1.out.1 HE1.out).mono ?_; rintro e w37 ⟨rfl, hb_⟩; have mm0_ := Aside0.mk (below_step z38x7 hb_); have mm1_ := Aside0.mk (below_step z38x6 hb_); have mm2_ := Aside0.mk (blkB0 hb_ z38x12); have mm3_ := Aside0.mk (blkB0 hb_ z38x13); clear HB8; have HB8 := mm0_; clear mm0_; clear HB32; have HB32 := mm1_; clear mm1_; clear HK13; have HK13 := mm2_; clear mm2_; clear HK14; have HK14 := mm3_; clear mm3_; clear hb_ hc0 hc1 hc2 hc3 hc4 hd0 hd1 hd2 hd3 hd4; have hc0 : w37.cell? ⟨g13, 0, none⟩ = some (.int .i64 n) := (blk_cell HK13.out 0).trans rfl; have hc1 : w37.cell? ⟨g13, 1, none⟩ = some (.slice A13 C.length C.length) := (blk_cell HK13.out 1).trans rfl) | (go_at_call 61; refine (heldKdcAt k n A13 C.length C.length C' 1 p1 _ HC13.out.1 (Kd.C_below HC13.out.2.2 z38x6) (Nat.le_of_eq HC13.out.1.symm) HH0.out).mono ?_; rintro e w38 ⟨rfl, hb_⟩; have mm0_ := Aside0.mk (below_step z38x7 hb_); have mm1_ := Aside0.mk (below_step z38x6 hb_); have mm2_ := Aside0.mk (blkB0 hb_ z38x12); have mm3_ := Aside0.mk (blkB0 hb_ z38x13); clear HB8; have HB8 := mm0_; clear mm0_; clear HB32; have HB32 := mm1_; clear mm1_; clear HK13; have HK13 := mm2_; clear mm2_; clear HK14; have HK14 := mm3_; clear mm3_; clear hb_ hc0 hc1; have hc0 : w38.cell? ⟨g14, 0, none⟩ = some (.int .i64 m0) := (blk_cell HK14.out 0).trans rfl; have hc1 : w38.cell? ⟨g14, 1, none⟩ = some (.int .i64 m1) := (blk_cell HK14.out 1).trans rfl; have hc2 : w38.cell? ⟨g14, 2, none⟩ = some (.int .i64 m2) := (blk_cell HK14.out 2).trans rfl; have hc3 : w38.cell? ⟨g14, 3, none⟩ = some (.int .i64 m3) := (blk_cell HK14.out 3).trans rfl; have hc4 : w38.cell? ⟨g14, 4, none⟩ = some (.slice A14 SS.length c14) := (blk_cell HK14.out 4).trans rfl) | (go_at_call 62; refine (heldMsgAt k m0 m1 m2 m3 A14 SS.length c14 SS' p1 p2 _ HC14.out.1 (Kd.C_below HC14.out.2.2 z38x6) (Nat.le_trans (Nat.le_of_eq HC14.out.1.symm) HC14.out.2.1) HH1.out).mono ?_; rintro e w39 ⟨rfl, hb_⟩; have mm0_ := Aside0.mk (below_step z38x7 hb_); have mm1_ := Aside0.mk (below_step z38x6 hb_); have mm2_ := Aside0.mk (blkB0 hb_ z38x12); have mm3_ := Aside0.mk (blkB0 hb_ z38x13); clear HB8; have HB8 := mm0_; clear mm0_; clear HB32; have HB32 := mm1_; clear mm1_; clear HK13; have HK13 := mm2_; clear mm2_; clear HK14; have HK14 := mm3_; clear mm3_; clear hb_ hc0 hc1 hc2 hc3 hc4))
  go_ret
  exact ⟨rfl, below_step HBW.out z38x7⟩
/-- What is to be shown of the plain functions. -/
def kdcP (a0_0 : Int) (l0 : List S58) (a1_0 a1_1 a1_2 a1_3 : Int) (l1 : List S58) (a2 : Int) : Prop := ∃ k s1, laws_szKdc.f a0_0 l0 1048576 = some s1 ∧ (s1 < 0 ∨ (¬ s1 < 0 ∧ ∃ s2, laws_szMsg.f a1_0 a1_1 a1_2 a1_3 l1 s1 = some s2 ∧ (s2 < 0 ∨ (¬ s2 < 0 ∧ ∃ (L0 L1 : List S41) (n m0 m1 m2 m3 : Int) (C SS : List S41) (b : Bool) (q1 q2 p1 p2 : Int) (L0' L1' C' SS' : List S41), laws_toKdc.f k a0_0 l0 = some (a0_0, L0) ∧ laws_toMsg.f k a1_0 a1_1 a1_2 a1_3 l1 = some (a1_0, a1_1, a1_2, a1_3, L1) ∧ spec_KdcAs.f k a0_0 L0 a1_0 a1_1 a1_2 a1_3 L1 a2 = some (n, C, m0, m1, m2, m3, SS, b) ∧ impl_KdcAs.f k a0_0 L0 a1_0 a1_1 a1_2 a1_3 L1 a2 = some (n, C, m0, m1, m2, m3, SS, b) ∧ laws_eqKdc.f k n C n C = some true ∧ laws_eqMsg.f k m0 m1 m2 m3 SS m0 m1 m2 m3 SS = some true ∧ laws_eqKdc.f k a0_0 L0 a0_0 L0 = some true ∧ laws_eqMsg.f k a1_0 a1_1 a1_2 a1_3 L1 a1_0 a1_1 a1_2 a1_3 L1 = some true ∧ laws_markKdc.f k a0_0 L0 1 = some (q1, L0') ∧ laws_markMsg.f k a1_0 a1_1 a1_2 a1_3 L1 q1 = some (q2, L1') ∧ laws_markKdc.f k n C 1 = some (p1, C') ∧ laws_markMsg.f k m0 m1 m2 m3 SS p1 = some (p2, SS') ∧ laws_heldKdc.f k n C' 1 = some p1 ∧ laws_heldMsg.f k m0 m1 m2 m3 SS' p1 = some p2 ∧ laws_markSealS.f k C 1 = some (p1, C') ∧ ¬ q2 < 0 ∧ ¬ p1 < 0 ∧ ¬ p2 < 0))))
noncomputable def laws_FnExactKdcAs.f (a0_0 : Int) (l0 : List S58) (a1_0 a1_1 a1_2 a1_3 : Int) (l1 : List S58) (a2 : Int) : Option Bool := @ite _ (kdcP a0_0 l0 a1_0 a1_1 a1_2 a1_3 l1 a2) (Classical.propDecidable _) (some true) none
theorem laws_FnExactKdcAs.of (a0_0 : Int) (l0 : List S58) (a1_0 a1_1 a1_2 a1_3 : Int) (l1 : List S58) (a2 : Int) (h : kdcP a0_0 l0 a1_0 a1_1 a1_2 a1_3 l1 a2) : laws_FnExactKdcAs.f a0_0 l0 a1_0 a1_1 a1_2 a1_3 l1 a2 = some true := by
  unfold laws_FnExactKdcAs.f
  rw [if_pos h]
theorem laws_FnExactKdcAs.calls (a0_0 : Int) (A0 : Option Addr) (c0 : Nat) (l0 : List S58) (a1_0 a1_1 a1_2 a1_3 : Int) (A1 : Option Addr) (c1 : Nat) (l1 : List S58) (a2 : Int) (r : Bool) (w : World) (hr0 : Kd.C k58 w A0 l0.length l0) (hc0 : l0.length ≤ c0) (hr1 : Kd.C k58 w A1 l1.length l1) (hc1 : l1.length ≤ c1) (h : laws_FnExactKdcAs.f a0_0 l0 a1_0 a1_1 a1_2 a1_3 l1 a2 = some r) :
    Calls Try.prog 10 #[.agg #[.int .i64 a0_0, .slice A0 l0.length c0], .agg #[.int .i64 a1_0, .int .i64 a1_1, .int .i64 a1_2, .int .i64 a1_3, .slice A1 l1.length c1], .int .i64 a2] w fun e w' => e = .returned (.bool r) ∧ Below w.heap.size w w' := by
  unfold laws_FnExactKdcAs.f at h
  by_cases hp : kdcP a0_0 l0 a1_0 a1_1 a1_2 a1_3 l1 a2
  case neg => rw [if_neg hp] at h; cases h
  rw [if_pos hp] at h
  obtain rfl := Option.some.inj h
  obtain ⟨k, s1, z1, hs | ⟨hs, s2, z2, ht | ⟨ht, L0, L1, n, m0, m1, m2, m3, C, SS, b, q1, q2, p1, p2, L0', L1', C', SS', e0, e1, e2, e3, e4, e5, e6, e7, e8, e9, e10, e11, e12, e13, e14, e15, e16, e17⟩⟩⟩ := hp
  · exact kdcLawA a0_0 A0 c0 l0 a1_0 a1_1 a1_2 a1_3 A1 c1 l1 a2 s1 w hr0 hc0 hr1 hc1 z1 hs
  · exact kdcLawB a0_0 A0 c0 l0 a1_0 a1_1 a1_2 a1_3 A1 c1 l1 a2 s1 s2 w hr0 hc0 hr1 hc1 z1 z2 hs ht
  · exact kdcLaw k a0_0 A0 c0 l0 a1_0 a1_1 a1_2 a1_3 A1 c1 l1 a2 s1 s2 L0 L1 n m0 m1 m2 m3 C SS b q1 q2 p1 p2 L0' L1' C' SS' w hr0 hc0 hr1 hc1 z1 z2 e0 e1 e2 e3 e4 e5 e6 e7 e8 e9 e10 e11 e12 e13 e14 hs ht e15 e16 e17

end Go.Proofs.Ytbipicjijbnbbaa.Hp
