-- hp.py
import Derived.Test.YtgekmdfcbcacdaaHx0
import Derived.Test.YtgekmdfcbcacdaaHx5
import Derived.Test.YtgekmdfcbcacdaaHx6
import Derived.Test.YtgekmdfcbcacdaaHx15
namespace Go.Proofs.Ytgekmdfcbcacdaa.Hp
open Go.RowKit Go.Proofs.YtgekmdfcbcacdaaW.PrintWords Go.Proofs.YtgekmdfcbcacdaaW.PrintLast Go.Proofs.YtgekmdfcbcacdaaW.PrintMore
attribute [local go_sem] max2_int min2_int max_two min_two max_three min_three max_four min_four   -- for this text's walks alone
set_option linter.unusedVariables false
set_option linter.unusedSimpArgs false
-- squeezed by wip/tools/squeeze.py
theorem z26x6 {P : Prop} (h : P := by (with_reducible repeat (first | apply Kd.R_alloc | apply Kd.R_drewN | apply Kd.R_drew)); exact HO_3.out) : P := h
theorem z26x5 {P : Prop} (h : P := by (with_reducible repeat (first | apply Kd.R_alloc | apply Kd.R_drewN | apply Kd.R_drew)); exact HO424.out) : P := h
theorem z26x4 {P : Prop} (h : P := by (with_reducible repeat (first | apply Kd.R_alloc | apply Kd.R_drewN | apply Kd.R_drew)); exact HO413.out) : P := h
theorem z26x3 {P : Prop} (h : P := by (try simp only [List.map_toArray, List.map_cons, List.map_nil]); first | done | rfl | (simp only [List.length_drop, List.length_take]; rfl)) : P := h
theorem z26x2 {P : Prop} (h : P := by repeat (first | (with_reducible first | exact HK.out | apply KeepBut.set_ | apply keep_drewN | apply keep_drew | apply keep_alloc) | exact HK.out)) : P := h
theorem z26x1 {P : Prop} (h : P := by repeat (first | (with_reducible first | exact HI0.out | apply IsS158.alloc | apply IsS158.drewN | apply IsS158.drew | apply IsS158.set_1) | exact HI0.out)) : P := h
theorem z26x0 {P : Prop} (h : P := by repeat (first | (with_reducible first | exact HB.out | apply below_alloc | apply pw_below_drewN | apply below_drew1 | refine below_set ?_ (IsS158.ge HI0.out)) | exact HB.out)) : P := h

/-! ### spec_l71Keys: function 93 -/
def spec_l71Keys.l0 : Nat → List Int → Int → List Int → Int → Option (List Int × Int)
 | 0, _, _, _, _ => none
 | k + 1, x3, x4, x1000, x1001 => if x4 > 0 then ((spec_l6Rd_pick.f k x1000 x1001 6).bind fun bt405 => ((spec_l71Key.f k x1000 bt405.2).bind fun bt407 => ((spec_l6Rd_pick.f k x1000 bt407.2 3).bind fun bt409 => ((some (([wrap64 (1 + bt405.1), bt407.1, wrap64 (1 + bt409.1)] : List Int) : List Int)).bind fun y411 => ((spec_l6Rd_pick.f k x1000 bt409.2 3).bind fun bt414 => (if 0 ≤ bt414.1 then (if bt414.1 < (y411.length : Int) then (if x3.length < 17592186044416 then (spec_l71Keys.l0 k (x3 ++ [rd y411 bt414.1]) (wrap64 (x4 - 1)) x1000 bt414.2) else (none)) else (none)) else (none))))))) else ((spec_l6Rd_pick.f k x1000 x1001 16).bind fun bt420 => (if bt420.1 = 0 then ((some (([0, (-1), 61] : List Int) : List Int)).bind fun y422 => ((spec_l6Rd_pick.f k x1000 bt420.2 3).bind fun bt425 => (if 0 ≤ bt425.1 then (if bt425.1 < (y422.length : Int) then (if x3.length < 17592186044416 then (some ((x3 ++ [rd y422 bt425.1]), bt425.2)) else (none)) else (none)) else (none)))) else (some (x3, bt420.2))))
def spec_l71Keys.f (k : Nat) (s0_0 : List Int) (s0_1 : Int) : Option (List Int × Int) := (spec_l6Rd_pick.f k s0_0 s0_1 4).bind fun bt403 => (spec_l71Keys.l0 k (([] : List Int)) bt403.1 s0_0 bt403.2)
theorem spec_l71Keys.mono_l : ∀ k, (∀ y0 y1 y2 y3, LeO (spec_l71Keys.l0 k y0 y1 y2 y3) (spec_l71Keys.l0 (k + 1) y0 y1 y2 y3))
 | 0 => fun _ _ _ _ r h => by simp [spec_l71Keys.l0] at h
 | k + 1 => by
  have ih0 := spec_l71Keys.mono_l k
  ·intro y0 y1 y2 y3
   unfold spec_l71Keys.l0
   repeat' first
   | (with_reducible exact ih0 _ _ _ _)
   | (with_reducible exact spec_l6Rd_pick.mono _ _ _ _)
   | (with_reducible exact spec_l71Key.mono _ _ _)
   | (with_reducible exact LeO.refl _)
   | (with_reducible exact LeO.none _)
   | (with_reducible refine LeO.ite ?_ ?_)
   | (with_reducible refine LeO.bind ?_ (fun _ => ?_))
   | exact ih0 _ _ _ _
   | exact spec_l6Rd_pick.mono _ _ _ _
   | exact spec_l71Key.mono _ _ _
   | exact LeO.none _
   | refine LeO.ite ?_ ?_
   | refine LeO.bind ?_ (fun _ => ?_)
theorem spec_l71Keys.mono : ∀ a0 a1 k, LeO (spec_l71Keys.f k a0 a1) (spec_l71Keys.f (k + 1) a0 a1) := by
 intro a0 a1 k
 have ih0 := spec_l71Keys.mono_l k
 unfold spec_l71Keys.f
 repeat' first
   | (with_reducible exact ih0 _ _ _ _)
   | (with_reducible exact spec_l6Rd_pick.mono _ _ _ _)
   | (with_reducible exact spec_l71Key.mono _ _ _)
   | (with_reducible exact LeO.refl _)
   | (with_reducible exact LeO.none _)
   | (with_reducible refine LeO.ite ?_ ?_)
   | (with_reducible refine LeO.bind ?_ (fun _ => ?_))
   | exact ih0 _ _ _ _
   | exact spec_l6Rd_pick.mono _ _ _ _
   | exact spec_l71Key.mono _ _ _
   | exact LeO.none _
   | refine LeO.ite ?_ ?_
   | refine LeO.bind ?_ (fun _ => ?_)
set_option maxHeartbeats 8000000 in
set_option maxRecDepth 100000 in
theorem spec_l71Keys.calls (k : Nat) (g : Nat) (s0_0 : List Int) (s0_1 : Int) (r1 : List Int) (r2 : Int) (w0 w : World) (hI : IsS158 w0 w g s0_0 s0_1) (hB : Below w0.heap.size w0 w) (h : spec_l71Keys.f k s0_0 s0_1 = some (r1, r2)) :
  Calls Try.prog 93 #[.pointer (some ⟨g, 0, none⟩)] w fun e w' => ∃ v0_ : Value, e = .returned (v0_) ∧ Kd.R (Kd.int .i64) 3 w' w.heap.size (fun _ => True) v0_ r1 ∧ IsS158 w0 w' g s0_0 r2 ∧ Below w0.heap.size w0 w' ∧ KeepBut w w' g none := by
 have HI0 := Aside0.mk hI
 have HK := Aside0.mk (KeepBut.refl w g none)
 have HL := Aside0.mk hB.size
 clear hI
 have HW0 := Aside0.mk hB.size
 have HB := Aside0.mk hB
 clear hB
 have H : ((spec_l6Rd_pick.f k s0_0 s0_1 4).bind fun bt403 => (spec_l71Keys.l0 k (([] : List Int)) bt403.1 s0_0 bt403.2)) = some (r1, r2) := h
 clear h
 obtain ⟨y400, hy400⟩ : ∃ y_ : List Int, y_ = (([] : List Int)) := ⟨_, rfl⟩
 replace H : ((spec_l6Rd_pick.f k s0_0 s0_1 4).bind fun bt403 => (spec_l71Keys.l0 k y400 bt403.1 s0_0 bt403.2)) = some (r1, r2) := by first | (rw [hy400]; with_reducible exact H) | (have H2_ := (Option.bind_some _ _).symm.trans H; rw [hy400]; with_reducible exact H2_) | (have H2_ := (Option.bind_some _ _).symm.trans H; with_reducible exact H2_) | with_reducible exact H | (rw [hy400]; exact H) | exact H
 have Ny400 := Aside0.mk hy400
 clear hy400
 replace H := Option.bind_eq_some_iff.mp H
 obtain ⟨⟨t403, t404⟩, A20, H⟩ := H
 replace H : (spec_l71Keys.l0 k y400 t403 s0_0 t404) = some (r1, r2) := H
 have A2 := Aside0.mk A20
 clear A20
 have H' := Aside0.mk H
 clear H
 go_enter Try.func93, Try.ntmps93
 go_wp2_with (first | ((with_reducible refine gate_dst (N := 5) rfl ?_); refine Kd.R_lit (Kd.int .i64) _ 3 ?hg (N := 5) ?hd (xs := ([] : List Int)) (inner := []) (ok := fun _ => True) (okp := fun _ => True) ?hr ?hp (fun _ hk => hk) trivial (Below.refl _ _) (Nat.le_refl _) (by simp) ?_; (case hd => rfl); (case hg => rfl); (case hr => first | (go_simp; done) | (go_simp; rfl)); (case hp => exact (Reps.none _ _)); intro v401 w3 ho4 hb hg_ hnew_; clear hg_ hnew_; (first | rw [← Ny400.out] at ho4 | (simp only [Int.reduceToNat] at ho4; rw [← Ny400.out] at ho4)); have n0_ := Aside0.mk (Kd.R_lower ho4 (keep_size (w := w) (g := g) (row := none) z26x2)); have n1_ := Aside0.mk (IsS158.below z26x1 hb); have n2_ := Aside0.mk (KeepBut.trans z26x2 (KeepBut.of_below hb g none) (.inl rfl)); have n3_ := Aside0.mk (below_step z26x0 hb); clear HI0; clear HK; clear HB; have HO402 := n0_; have HI0 := n1_; have HK := n2_; have HB := n3_; clear n0_ n1_ n2_ n3_; clear hb ho4) | ((with_reducible refine gate_callee (f := 70) rfl ?_); refine goesL_ (some 7) rfl rfl Try.func70 (by kernel_rfl) rfl #[.pointer (some ⟨g, 0, none⟩), .int .i64 4] rfl z26x3 ?_; (with_reducible refine (spec_l6Rd_pick.calls k g s0_0 s0_1 4 t403 t404 w0 _ ?side1 ?side2 A2.out).mono ?_); (case side1 => repeat (first | (with_reducible first | exact HI0.out | apply IsS158.alloc | apply IsS158.drewN | apply IsS158.drew | apply IsS158.set_1) | exact HI0.out)); (case side2 => repeat (first | (with_reducible first | exact HB.out | apply below_alloc | apply pw_below_drewN | apply below_drew1 | refine below_set ?_ (IsS158.ge HI0.out)) | exact HB.out)); rintro e w5 ⟨rfl, hi, hb, hk⟩; refine ⟨_, rfl, ?_⟩; have n0_ := Aside0.mk (Kd.R_mono (Kd.R_keep (IsS158.apart (show IsS158 w0 _ g s0_0 s0_1 from by repeat (first | (with_reducible first | exact HI0.out | apply IsS158.alloc | apply IsS158.drewN | apply IsS158.drew | apply IsS158.set_1) | exact HI0.out)) (by (with_reducible repeat (first | apply Kd.R_alloc | apply Kd.R_drewN | apply Kd.R_drew)); exact HO402.out) (by decide)) hk (fun _ h => h.2)) (fun _ h => h.1)); have n1_ := Aside0.mk (KeepBut.trans z26x2 hk (.inl rfl)); have n2_ := Aside0.mk (hb); have n3_ := Aside0.mk (hi); clear HO402; clear HK; clear HB; clear HI0; have HO402 := n0_; have HK := n1_; have HB := n2_; have HI0 := n3_; clear n0_ n1_ n2_ n3_; (try clear hb); (try clear hb2); (try clear hk); (try clear hi)))
 go_loopg [3, 4] k (fun kq v3 v4 w' => ∃ (x3_1 : List Int) (x4_1 : Int) (x1001_1 : Int), v4 = .int .i64 x4_1 ∧ Aside0 (spec_l71Keys.l0 kq x3_1 x4_1 s0_0 x1001_1 = some (r1, r2)) ∧ Aside0 (kq ≤ k) ∧ Aside0 (Kd.R (Kd.int .i64) 3 w' w.heap.size (fun _ => True) v3 x3_1) ∧ Aside0 (IsS158 w0 w' g s0_0 x1001_1) ∧ Aside0 (KeepBut w w' g none) ∧ Aside0 (Below w0.heap.size w0 w'))
 case atStart => exact ⟨(y400), (t403), (t404), (by first | rfl | (simp; done) | (simp [*]; done)), H', ⟨Nat.le_refl _⟩, ⟨by (with_reducible repeat (first | apply Kd.R_alloc | apply Kd.R_drewN | apply Kd.R_drew)); exact HO402.out⟩, ⟨by repeat (first | (with_reducible first | exact HI0.out | apply IsS158.alloc | apply IsS158.drewN | apply IsS158.drew | apply IsS158.set_1) | exact HI0.out)⟩, ⟨by repeat (first | (with_reducible first | exact HK.out | apply KeepBut.set_ | apply keep_drewN | apply keep_drew | apply keep_alloc) | exact HK.out)⟩, ⟨by repeat (first | (with_reducible first | exact HB.out | apply below_alloc | apply pw_below_drewN | apply below_drew1 | refine below_set ?_ (IsS158.ge HI0.out)) | exact HB.out)⟩⟩
 case round =>
  clear H'
  try clear p2
  obtain ⟨x3_1, x4_1, x1001_1, rfl, HA, HK1, HO_3, HI0, HK, HB⟩ := hrel
  cases gk with
  | zero => exact absurd HA.out (by simp [spec_l71Keys.l0])
  | succ k1 =>
   have H := HA.out
   clear HA
   simp only [spec_l71Keys.l0] at H
   by_cases c6 : x4_1 > 0
   ·rw [if_pos c6] at H
    have c6b0 : decide (0 < x4_1) = true := decide_eq_true c6
    clear c6
    replace H := Option.bind_eq_some_iff.mp H
    obtain ⟨⟨t405, t406⟩, A70, H⟩ := H
    replace H : ((spec_l71Key.f k1 s0_0 t406).bind fun bt407 => ((spec_l6Rd_pick.f k1 s0_0 bt407.2 3).bind fun bt409 => ((some (([wrap64 (1 + t405), bt407.1, wrap64 (1 + bt409.1)] : List Int) : List Int)).bind fun y411 => ((spec_l6Rd_pick.f k1 s0_0 bt409.2 3).bind fun bt414 => (if 0 ≤ bt414.1 then (if bt414.1 < (y411.length : Int) then (if x3_1.length < 17592186044416 then (spec_l71Keys.l0 k1 (x3_1 ++ [rd y411 bt414.1]) (wrap64 (x4_1 - 1)) s0_0 bt414.2) else (none)) else (none)) else (none)))))) = some (r1, r2) := H
    have A7 := Aside0.mk A70
    clear A70
    replace H := Option.bind_eq_some_iff.mp H
    obtain ⟨⟨t407, t408⟩, A80, H⟩ := H
    replace H : ((spec_l6Rd_pick.f k1 s0_0 t408 3).bind fun bt409 => ((some (([wrap64 (1 + t405), t407, wrap64 (1 + bt409.1)] : List Int) : List Int)).bind fun y411 => ((spec_l6Rd_pick.f k1 s0_0 bt409.2 3).bind fun bt414 => (if 0 ≤ bt414.1 then (if bt414.1 < (y411.length : Int) then (if x3_1.length < 17592186044416 then (spec_l71Keys.l0 k1 (x3_1 ++ [rd y411 bt414.1]) (wrap64 (x4_1 - 1)) s0_0 bt414.2) else (none)) else (none)) else (none))))) = some (r1, r2) := H
    have A8 := Aside0.mk A80
    clear A80
    replace H := Option.bind_eq_some_iff.mp H
    obtain ⟨⟨t409, t410⟩, A90, H⟩ := H
    replace H : ((some (([wrap64 (1 + t405), t407, wrap64 (1 + t409)] : List Int) : List Int)).bind fun y411 => ((spec_l6Rd_pick.f k1 s0_0 t410 3).bind fun bt414 => (if 0 ≤ bt414.1 then (if bt414.1 < (y411.length : Int) then (if x3_1.length < 17592186044416 then (spec_l71Keys.l0 k1 (x3_1 ++ [rd y411 bt414.1]) (wrap64 (x4_1 - 1)) s0_0 bt414.2) else (none)) else (none)) else (none)))) = some (r1, r2) := H
    have A9 := Aside0.mk A90
    clear A90
    obtain ⟨y411, hy411⟩ : ∃ y_ : List Int, y_ = (([wrap64 (1 + t405), t407, wrap64 (1 + t409)] : List Int)) := ⟨_, rfl⟩
    replace H : ((spec_l6Rd_pick.f k1 s0_0 t410 3).bind fun bt414 => (if 0 ≤ bt414.1 then (if bt414.1 < (y411.length : Int) then (if x3_1.length < 17592186044416 then (spec_l71Keys.l0 k1 (x3_1 ++ [rd y411 bt414.1]) (wrap64 (x4_1 - 1)) s0_0 bt414.2) else (none)) else (none)) else (none))) = some (r1, r2) := by first | (rw [hy411]; with_reducible exact H) | (have H2_ := (Option.bind_some _ _).symm.trans H; rw [hy411]; with_reducible exact H2_) | (have H2_ := (Option.bind_some _ _).symm.trans H; with_reducible exact H2_) | with_reducible exact H | (rw [hy411]; exact H) | exact H
    have Ny411 := Aside0.mk hy411
    clear hy411
    replace H := Option.bind_eq_some_iff.mp H
    obtain ⟨⟨t414, t415⟩, A100, H⟩ := H
    replace H : (if 0 ≤ t414 then (if t414 < (y411.length : Int) then (if x3_1.length < 17592186044416 then (spec_l71Keys.l0 k1 (x3_1 ++ [rd y411 t414]) (wrap64 (x4_1 - 1)) s0_0 t415) else (none)) else (none)) else (none)) = some (r1, r2) := H
    have A10 := Aside0.mk A100
    clear A100
    by_cases c11 : 0 ≤ t414
    ·rw [if_pos c11] at H
     have c11b0 : decide (0 ≤ t414) = true := decide_eq_true c11
     clear c11
     by_cases c12 : t414 < (y411.length : Int)
     ·rw [if_pos c12] at H
      have c12b0 : decide (t414 < (y411.length : Int)) = true := decide_eq_true c12
      clear c12
      by_cases c13 : x3_1.length < 17592186044416
      ·rw [if_pos c13] at H
       have LMc13 := Aside0.mk c13
       clear c13
       obtain ⟨y417, hy417⟩ : ∃ y_ : List Int, y_ = (x3_1 ++ [rd y411 t414]) := ⟨_, rfl⟩
       replace H : (spec_l71Keys.l0 k1 y417 (wrap64 (x4_1 - 1)) s0_0 t415) = some (r1, r2) := by first | (rw [hy417]; with_reducible exact H) | (have H2_ := (Option.bind_some _ _).symm.trans H; rw [hy417]; with_reducible exact H2_) | (have H2_ := (Option.bind_some _ _).symm.trans H; with_reducible exact H2_) | with_reducible exact H | (rw [hy417]; exact H) | exact H
       have Ny417 := Aside0.mk hy417
       clear hy417
       have H' := Aside0.mk H
       clear H
       go_wp2_with (first | ((with_reducible refine gate_callee (f := 70) rfl ?_); refine goesL_ (some 14) rfl rfl Try.func70 (by kernel_rfl) rfl #[.pointer (some ⟨g, 0, none⟩), .int .i64 6] rfl z26x3 ?_; (with_reducible refine (spec_l6Rd_pick.calls k1 g s0_0 x1001_1 6 t405 t406 w0 _ ?side1 ?side2 A7.out).mono ?_); (case side1 => repeat (first | (with_reducible first | exact HI0.out | apply IsS158.alloc | apply IsS158.drewN | apply IsS158.drew | apply IsS158.set_1) | exact HI0.out)); (case side2 => repeat (first | (with_reducible first | exact HB.out | apply below_alloc | apply pw_below_drewN | apply below_drew1 | refine below_set ?_ (IsS158.ge HI0.out)) | exact HB.out)); rintro e w14 ⟨rfl, hi, hb, hk⟩; refine ⟨_, rfl, ?_⟩; have n0_ := Aside0.mk (Kd.R_mono (Kd.R_keep (IsS158.apart (show IsS158 w0 _ g s0_0 x1001_1 from by repeat (first | (with_reducible first | exact HI0.out | apply IsS158.alloc | apply IsS158.drewN | apply IsS158.drew | apply IsS158.set_1) | exact HI0.out)) z26x6 (by decide)) hk (fun _ h => h.2)) (fun _ h => h.1)); have n1_ := Aside0.mk (KeepBut.trans z26x2 hk (.inl rfl)); have n2_ := Aside0.mk (hb); have n3_ := Aside0.mk (hi); clear HO_3; clear HK; clear HB; clear HI0; have HO_3 := n0_; have HK := n1_; have HB := n2_; have HI0 := n3_; clear n0_ n1_ n2_ n3_; (try clear hb); (try clear hb2); (try clear hk); (try clear hi)) | ((with_reducible refine gate_callee (f := 99) rfl ?_); refine goesL_ (some 17) rfl rfl Try.func99 (by kernel_rfl) rfl #[.pointer (some ⟨g, 0, none⟩)] rfl z26x3 ?_; (with_reducible refine (spec_l71Key.calls k1 g s0_0 t406 t407 t408 w0 _ ?side1 ?side2 A8.out).mono ?_); (case side1 => repeat (first | (with_reducible first | exact HI0.out | apply IsS158.alloc | apply IsS158.drewN | apply IsS158.drew | apply IsS158.set_1) | exact HI0.out)); (case side2 => repeat (first | (with_reducible first | exact HB.out | apply below_alloc | apply pw_below_drewN | apply below_drew1 | refine below_set ?_ (IsS158.ge HI0.out)) | exact HB.out)); rintro e w15 ⟨rfl, hi, hb, hk⟩; refine ⟨_, rfl, ?_⟩; have n0_ := Aside0.mk (Kd.R_mono (Kd.R_keep (IsS158.apart (show IsS158 w0 _ g s0_0 t406 from by repeat (first | (with_reducible first | exact HI0.out | apply IsS158.alloc | apply IsS158.drewN | apply IsS158.drew | apply IsS158.set_1) | exact HI0.out)) z26x6 (by decide)) hk (fun _ h => h.2)) (fun _ h => h.1)); have n1_ := Aside0.mk (KeepBut.trans z26x2 hk (.inl rfl)); have n2_ := Aside0.mk (hb); have n3_ := Aside0.mk (hi); clear HO_3; clear HK; clear HB; clear HI0; have HO_3 := n0_; have HK := n1_; have HB := n2_; have HI0 := n3_; clear n0_ n1_ n2_ n3_; (try clear hb); (try clear hb2); (try clear hk); (try clear hi)) | ((with_reducible refine gate_callee (f := 70) rfl ?_); refine goesL_ (some 19) rfl rfl Try.func70 (by kernel_rfl) rfl #[.pointer (some ⟨g, 0, none⟩), .int .i64 3] rfl z26x3 ?_; (with_reducible refine (spec_l6Rd_pick.calls k1 g s0_0 t408 3 t409 t410 w0 _ ?side1 ?side2 A9.out).mono ?_); (case side1 => repeat (first | (with_reducible first | exact HI0.out | apply IsS158.alloc | apply IsS158.drewN | apply IsS158.drew | apply IsS158.set_1) | exact HI0.out)); (case side2 => repeat (first | (with_reducible first | exact HB.out | apply below_alloc | apply pw_below_drewN | apply below_drew1 | refine below_set ?_ (IsS158.ge HI0.out)) | exact HB.out)); rintro e w16 ⟨rfl, hi, hb, hk⟩; refine ⟨_, rfl, ?_⟩; have n0_ := Aside0.mk (Kd.R_mono (Kd.R_keep (IsS158.apart (show IsS158 w0 _ g s0_0 t408 from by repeat (first | (with_reducible first | exact HI0.out | apply IsS158.alloc | apply IsS158.drewN | apply IsS158.drew | apply IsS158.set_1) | exact HI0.out)) z26x6 (by decide)) hk (fun _ h => h.2)) (fun _ h => h.1)); have n1_ := Aside0.mk (KeepBut.trans z26x2 hk (.inl rfl)); have n2_ := Aside0.mk (hb); have n3_ := Aside0.mk (hi); clear HO_3; clear HK; clear HB; clear HI0; have HO_3 := n0_; have HK := n1_; have HB := n2_; have HI0 := n3_; clear n0_ n1_ n2_ n3_; (try clear hb); (try clear hb2); (try clear hk); (try clear hi)) | ((with_reducible refine gate_dst (N := 21) rfl ?_); refine Kd.R_lit (Kd.int .i64) _ 3 ?hg (N := 21) ?hd (xs := ([wrap64 (1 + t405), t407, wrap64 (1 + t409)] : List Int)) (inner := [.int .i64 (wrap64 (1 + t405)), .int .i64 t407, .int .i64 (wrap64 (1 + t409))]) (ok := fun _ => True) (okp := fun _ => True) ?hr ?hp (fun _ hk => hk) trivial (Below.refl _ _) (Nat.le_refl _) (by simp) ?_; (case hd => rfl); (case hg => rfl); (case hr => first | (go_simp; done) | (go_simp; rfl)); (case hp => exact (Reps.one (show Kd.M (Kd.int .i64) _ _ _ (wrap64 (1 + t405)) [.int .i64 (wrap64 (1 + t405))] from rfl) (Reps.one (show Kd.M (Kd.int .i64) _ _ _ t407 [.int .i64 t407] from rfl) (Reps.one (show Kd.M (Kd.int .i64) _ _ _ (wrap64 (1 + t409)) [.int .i64 (wrap64 (1 + t409))] from rfl) (Reps.none _ _))))); intro v412 w17 ho18 hb hg_ hnew_; clear hg_ hnew_; (first | rw [← Ny411.out] at ho18 | (simp only [Int.reduceToNat] at ho18; rw [← Ny411.out] at ho18)); have n0_ := Aside0.mk (Kd.R_elder' z26x6 (Kd.R_base ho18) hb); have n1_ := Aside0.mk (Kd.R_lower (Kd.R_new' ho18 (Kd.R_lt z26x6)) (keep_size (w := w) (g := g) (row := none) z26x2)); have n2_ := Aside0.mk (IsS158.below z26x1 hb); have n3_ := Aside0.mk (KeepBut.trans z26x2 (KeepBut.of_below hb g none) (.inl rfl)); have n4_ := Aside0.mk (below_step z26x0 hb); clear HO_3; clear HI0; clear HK; clear HB; have HO_3 := n0_; have HO413 := n1_; have HI0 := n2_; have HK := n3_; have HB := n4_; clear n0_ n1_ n2_ n3_ n4_; clear hb ho18) | ((with_reducible refine gate_callee (f := 70) rfl ?_); refine goesL_ (some 23) rfl rfl Try.func70 (by kernel_rfl) rfl #[.pointer (some ⟨g, 0, none⟩), .int .i64 3] rfl z26x3 ?_; (with_reducible refine (spec_l6Rd_pick.calls k1 g s0_0 t410 3 t414 t415 w0 _ ?side1 ?side2 A10.out).mono ?_); (case side1 => repeat (first | (with_reducible first | exact HI0.out | apply IsS158.alloc | apply IsS158.drewN | apply IsS158.drew | apply IsS158.set_1) | exact HI0.out)); (case side2 => repeat (first | (with_reducible first | exact HB.out | apply below_alloc | apply pw_below_drewN | apply below_drew1 | refine below_set ?_ (IsS158.ge HI0.out)) | exact HB.out)); rintro e w19 ⟨rfl, hi, hb, hk⟩; refine ⟨_, rfl, ?_⟩; have n0_ := Aside0.mk (Kd.R_mono (Kd.R_keep (IsS158.apart (show IsS158 w0 _ g s0_0 t410 from by repeat (first | (with_reducible first | exact HI0.out | apply IsS158.alloc | apply IsS158.drewN | apply IsS158.drew | apply IsS158.set_1) | exact HI0.out)) z26x6 (by decide)) hk (fun _ h => h.2)) (fun _ h => h.1)); have n1_ := Aside0.mk (Kd.R_mono (Kd.R_keep (IsS158.apart (show IsS158 w0 _ g s0_0 t410 from by repeat (first | (with_reducible first | exact HI0.out | apply IsS158.alloc | apply IsS158.drewN | apply IsS158.drew | apply IsS158.set_1) | exact HI0.out)) z26x4 (by decide)) hk (fun _ h => h.2)) (fun _ h => h.1)); have n2_ := Aside0.mk (KeepBut.trans z26x2 hk (.inl rfl)); have n3_ := Aside0.mk (hb); have n4_ := Aside0.mk (hi); clear HO_3; clear HO413; clear HK; clear HB; clear HI0; have HO_3 := n0_; have HO413 := n1_; have HK := n2_; have HB := n3_; have HI0 := n4_; clear n0_ n1_ n2_ n3_ n4_; (try clear hb); (try clear hb2); (try clear hk); (try clear hi); obtain ⟨Ao20, co20, eo20⟩ := Kd.R_slice HO413.out; subst eo20; have p416 : 0 ≤ (t414 : Int) := of_decide_eq_true (by first | (with_reducible assumption) | assumption); have q416 : t414 < (y411.length : Int) := of_decide_eq_true (by first | (with_reducible assumption) | assumption); obtain ⟨ad416, e416, hx416_0⟩ := Kd.at_int (Kd.R_reads' HO413.out).2.2 t414 p416 q416; cases e416; replace p416 := eq_true p416; replace q416 := eq_true q416) | ((with_reducible refine gate_builtin (b := .append) (xs := #[.tmp 12, .tmp 26]) rfl ?_); at_builtin; refine Kd.R_append (Kd.int .i64) w.heap.size rfl (.tmp 12) (.tmp 26) 46 3 (.int .i64 0) 8 rfl Try.underlying46 info3 rfl (by decide) (by omega) u3 x3_1 (rd y411 t414) [.int .i64 (rd y411 t414)] (fun k_ => some k_ ≠ (.slice (some ad416) y411.length co20 : Value).ownBlock) (fun _ => False) rfl rfl ?aP (fun _ hk => hk.elim) ?aF ?aO (Below.refl _ _) ?aS ?aL ?_; (case aP => exact rfl); (case aF => exact (fun k_ hk => Kd.fresh' (Kd.R_lt z26x4) k_ hk)); (case aO => exact (by (with_reducible repeat (first | apply Kd.R_alloc | apply Kd.R_drewN | apply Kd.R_drew)); exact Kd.R_mono HO_3.out (fun _ hk => hk.2))); (case aS => exact (keep_size (w := w) (g := g) (row := none) z26x2)); (case aL => have := LMc13.out; omega); intro v418 w21 ho hb hg hat; rw [← Ny417.out] at ho; have n0_ := Aside0.mk (IsS158.grown z26x1 hg (IsS158.own_ne HI0.out HO_3.out (by decide))); have n1_ := Aside0.mk (Kd.R_after (ok := (fun _ => True)) z26x4 hg hat); have n2_ := Aside0.mk (below_weaken z26x0 HL.out hb); have n3_ := Aside0.mk (KeepBut.trans z26x2 (KeepBut.of_grown hg g) (Kd.R_base2 HO_3.out)); have n4_ := Aside0.mk (ho); clear HI0; clear HO413; clear HB; clear HK; clear HO_3; have HI0 := n0_; have HO413 := n1_; have HB := n2_; have HK := n3_; have HO419 := n4_; clear n0_ n1_ n2_ n3_ n4_; clear ho hb hg hat))
       go_roundg k1
       case measure => have := HK1.out; omega
       case rel => exact ⟨(y417), (wrap64 (x4_1 - 1)), (t415), (by first | rfl | (simp; done) | (simp [*]; done)), H', ⟨by have := HK1.out; omega⟩, ⟨by (with_reducible repeat (first | apply Kd.R_alloc | apply Kd.R_drewN | apply Kd.R_drew)); exact Kd.R_mono HO419.out (fun _ hk => trivial)⟩, ⟨by repeat (first | (with_reducible first | exact HI0.out | apply IsS158.alloc | apply IsS158.drewN | apply IsS158.drew | apply IsS158.set_1) | exact HI0.out)⟩, ⟨by repeat (first | (with_reducible first | exact HK.out | apply KeepBut.set_ | apply keep_drewN | apply keep_drew | apply keep_alloc) | exact HK.out)⟩, ⟨by repeat (first | (with_reducible first | exact HB.out | apply below_alloc | apply pw_below_drewN | apply below_drew1 | refine below_set ?_ (IsS158.ge HI0.out)) | exact HB.out)⟩⟩
      ·rw [if_neg c13] at H
       exact absurd H (by simp)
     ·rw [if_neg c12] at H
      exact absurd H (by simp)
    ·rw [if_neg c11] at H
     exact absurd H (by simp)
   ·rw [if_neg c6] at H
    have c6b0 : decide (0 < x4_1) = false := decide_eq_false c6
    clear c6
    replace H := Option.bind_eq_some_iff.mp H
    obtain ⟨⟨t420, t421⟩, A220, H⟩ := H
    replace H : (if t420 = 0 then ((some (([0, (-1), 61] : List Int) : List Int)).bind fun y422 => ((spec_l6Rd_pick.f k1 s0_0 t421 3).bind fun bt425 => (if 0 ≤ bt425.1 then (if bt425.1 < (y422.length : Int) then (if x3_1.length < 17592186044416 then (some ((x3_1 ++ [rd y422 bt425.1]), bt425.2)) else (none)) else (none)) else (none)))) else (some (x3_1, t421))) = some (r1, r2) := H
    have A22 := Aside0.mk A220
    clear A220
    by_cases c23 : t420 = 0
    ·rw [if_pos c23] at H
     have c23b0 : (t420 == 0) = true := beq_iff_eq.mpr c23
     have c23b1 : (t420 != 0) = false := bne_eq_false_iff_eq.mpr c23
     clear c23
     obtain ⟨y422, hy422⟩ : ∃ y_ : List Int, y_ = (([0, (-1), 61] : List Int)) := ⟨_, rfl⟩
     replace H : ((spec_l6Rd_pick.f k1 s0_0 t421 3).bind fun bt425 => (if 0 ≤ bt425.1 then (if bt425.1 < (y422.length : Int) then (if x3_1.length < 17592186044416 then (some ((x3_1 ++ [rd y422 bt425.1]), bt425.2)) else (none)) else (none)) else (none))) = some (r1, r2) := by first | (rw [hy422]; with_reducible exact H) | (have H2_ := (Option.bind_some _ _).symm.trans H; rw [hy422]; with_reducible exact H2_) | (have H2_ := (Option.bind_some _ _).symm.trans H; with_reducible exact H2_) | with_reducible exact H | (rw [hy422]; exact H) | exact H
     have Ny422 := Aside0.mk hy422
     clear hy422
     replace H := Option.bind_eq_some_iff.mp H
     obtain ⟨⟨t425, t426⟩, A240, H⟩ := H
     replace H : (if 0 ≤ t425 then (if t425 < (y422.length : Int) then (if x3_1.length < 17592186044416 then (some ((x3_1 ++ [rd y422 t425]), t426)) else (none)) else (none)) else (none)) = some (r1, r2) := H
     have A24 := Aside0.mk A240
     clear A240
     by_cases c25 : 0 ≤ t425
     ·rw [if_pos c25] at H
      have c25b0 : decide (0 ≤ t425) = true := decide_eq_true c25
      clear c25
      by_cases c26 : t425 < (y422.length : Int)
      ·rw [if_pos c26] at H
       have c26b0 : decide (t425 < (y422.length : Int)) = true := decide_eq_true c26
       clear c26
       by_cases c27 : x3_1.length < 17592186044416
       ·rw [if_pos c27] at H
        have LMc27 := Aside0.mk c27
        clear c27
        obtain ⟨y428, hy428⟩ : ∃ y_ : List Int, y_ = (x3_1 ++ [rd y422 t425]) := ⟨_, rfl⟩
        replace H : (some (y428, t426)) = some (r1, r2) := by first | (rw [hy428]; with_reducible exact H) | (have H2_ := (Option.bind_some _ _).symm.trans H; rw [hy428]; with_reducible exact H2_) | (have H2_ := (Option.bind_some _ _).symm.trans H; with_reducible exact H2_) | with_reducible exact H | (rw [hy428]; exact H) | exact H
        have Ny428 := Aside0.mk hy428
        clear hy428
        simp only [Option.some.injEq, Prod.mk.injEq] at H
        obtain ⟨rfl, rfl⟩ := H
        go_wp2_with (first | ((with_reducible refine gate_callee (f := 70) rfl ?_); refine goesL_ (some 29) rfl rfl Try.func70 (by kernel_rfl) rfl #[.pointer (some ⟨g, 0, none⟩), .int .i64 16] rfl z26x3 ?_; (with_reducible refine (spec_l6Rd_pick.calls k1 g s0_0 x1001_1 16 t420 t421 w0 _ ?side1 ?side2 A22.out).mono ?_); (case side1 => repeat (first | (with_reducible first | exact HI0.out | apply IsS158.alloc | apply IsS158.drewN | apply IsS158.drew | apply IsS158.set_1) | exact HI0.out)); (case side2 => repeat (first | (with_reducible first | exact HB.out | apply below_alloc | apply pw_below_drewN | apply below_drew1 | refine below_set ?_ (IsS158.ge HI0.out)) | exact HB.out)); rintro e w28 ⟨rfl, hi, hb, hk⟩; refine ⟨_, rfl, ?_⟩; have n0_ := Aside0.mk (Kd.R_mono (Kd.R_keep (IsS158.apart (show IsS158 w0 _ g s0_0 x1001_1 from by repeat (first | (with_reducible first | exact HI0.out | apply IsS158.alloc | apply IsS158.drewN | apply IsS158.drew | apply IsS158.set_1) | exact HI0.out)) z26x6 (by decide)) hk (fun _ h => h.2)) (fun _ h => h.1)); have n1_ := Aside0.mk (KeepBut.trans z26x2 hk (.inl rfl)); have n2_ := Aside0.mk (hb); have n3_ := Aside0.mk (hi); clear HO_3; clear HK; clear HB; clear HI0; have HO_3 := n0_; have HK := n1_; have HB := n2_; have HI0 := n3_; clear n0_ n1_ n2_ n3_; (try clear hb); (try clear hb2); (try clear hk); (try clear hi)) | ((with_reducible refine gate_dst (N := 32) rfl ?_); refine Kd.R_lit (Kd.int .i64) _ 3 ?hg (N := 32) ?hd (xs := ([0, (-1), 61] : List Int)) (inner := [.int .i64 0, .int .i64 (-1), .int .i64 61]) (ok := fun _ => True) (okp := fun _ => True) ?hr ?hp (fun _ hk => hk) trivial (Below.refl _ _) (Nat.le_refl _) (by simp) ?_; (case hd => rfl); (case hg => rfl); (case hr => first | (go_simp; done) | (go_simp; rfl)); (case hp => exact (Reps.one (show Kd.M (Kd.int .i64) _ _ _ 0 [.int .i64 0] from rfl) (Reps.one (show Kd.M (Kd.int .i64) _ _ _ (-1) [.int .i64 (-1)] from rfl) (Reps.one (show Kd.M (Kd.int .i64) _ _ _ 61 [.int .i64 61] from rfl) (Reps.none _ _))))); intro v423 w29 ho30 hb hg_ hnew_; clear hg_ hnew_; (first | rw [← Ny422.out] at ho30 | (simp only [Int.reduceToNat] at ho30; rw [← Ny422.out] at ho30)); have n0_ := Aside0.mk (Kd.R_elder' z26x6 (Kd.R_base ho30) hb); have n1_ := Aside0.mk (Kd.R_lower (Kd.R_new' ho30 (Kd.R_lt z26x6)) (keep_size (w := w) (g := g) (row := none) z26x2)); have n2_ := Aside0.mk (IsS158.below z26x1 hb); have n3_ := Aside0.mk (KeepBut.trans z26x2 (KeepBut.of_below hb g none) (.inl rfl)); have n4_ := Aside0.mk (below_step z26x0 hb); clear HO_3; clear HI0; clear HK; clear HB; have HO_3 := n0_; have HO424 := n1_; have HI0 := n2_; have HK := n3_; have HB := n4_; clear n0_ n1_ n2_ n3_ n4_; clear hb ho30) | ((with_reducible refine gate_callee (f := 70) rfl ?_); refine goesL_ (some 34) rfl rfl Try.func70 (by kernel_rfl) rfl #[.pointer (some ⟨g, 0, none⟩), .int .i64 3] rfl z26x3 ?_; (with_reducible refine (spec_l6Rd_pick.calls k1 g s0_0 t421 3 t425 t426 w0 _ ?side1 ?side2 A24.out).mono ?_); (case side1 => repeat (first | (with_reducible first | exact HI0.out | apply IsS158.alloc | apply IsS158.drewN | apply IsS158.drew | apply IsS158.set_1) | exact HI0.out)); (case side2 => repeat (first | (with_reducible first | exact HB.out | apply below_alloc | apply pw_below_drewN | apply below_drew1 | refine below_set ?_ (IsS158.ge HI0.out)) | exact HB.out)); rintro e w31 ⟨rfl, hi, hb, hk⟩; refine ⟨_, rfl, ?_⟩; have n0_ := Aside0.mk (Kd.R_mono (Kd.R_keep (IsS158.apart (show IsS158 w0 _ g s0_0 t421 from by repeat (first | (with_reducible first | exact HI0.out | apply IsS158.alloc | apply IsS158.drewN | apply IsS158.drew | apply IsS158.set_1) | exact HI0.out)) z26x6 (by decide)) hk (fun _ h => h.2)) (fun _ h => h.1)); have n1_ := Aside0.mk (Kd.R_mono (Kd.R_keep (IsS158.apart (show IsS158 w0 _ g s0_0 t421 from by repeat (first | (with_reducible first | exact HI0.out | apply IsS158.alloc | apply IsS158.drewN | apply IsS158.drew | apply IsS158.set_1) | exact HI0.out)) z26x5 (by decide)) hk (fun _ h => h.2)) (fun _ h => h.1)); have n2_ := Aside0.mk (KeepBut.trans z26x2 hk (.inl rfl)); have n3_ := Aside0.mk (hb); have n4_ := Aside0.mk (hi); clear HO_3; clear HO424; clear HK; clear HB; clear HI0; have HO_3 := n0_; have HO424 := n1_; have HK := n2_; have HB := n3_; have HI0 := n4_; clear n0_ n1_ n2_ n3_ n4_; (try clear hb); (try clear hb2); (try clear hk); (try clear hi); obtain ⟨Ao32, co32, eo32⟩ := Kd.R_slice HO424.out; subst eo32; have p427 : 0 ≤ (t425 : Int) := of_decide_eq_true (by first | (with_reducible assumption) | assumption); have q427 : t425 < (y422.length : Int) := of_decide_eq_true (by first | (with_reducible assumption) | assumption); obtain ⟨ad427, e427, hx427_0⟩ := Kd.at_int (Kd.R_reads' HO424.out).2.2 t425 p427 q427; cases e427; replace p427 := eq_true p427; replace q427 := eq_true q427) | ((with_reducible refine gate_builtin (b := .append) (xs := #[.tmp 31, .tmp 37]) rfl ?_); at_builtin; refine Kd.R_append (Kd.int .i64) w.heap.size rfl (.tmp 31) (.tmp 37) 46 3 (.int .i64 0) 8 rfl Try.underlying46 info3 rfl (by decide) (by omega) u3 x3_1 (rd y422 t425) [.int .i64 (rd y422 t425)] (fun k_ => some k_ ≠ (.slice (some ad427) y422.length co32 : Value).ownBlock) (fun _ => False) rfl rfl ?aP (fun _ hk => hk.elim) ?aF ?aO (Below.refl _ _) ?aS ?aL ?_; (case aP => exact rfl); (case aF => exact (fun k_ hk => Kd.fresh' (Kd.R_lt z26x5) k_ hk)); (case aO => exact (by (with_reducible repeat (first | apply Kd.R_alloc | apply Kd.R_drewN | apply Kd.R_drew)); exact Kd.R_mono HO_3.out (fun _ hk => hk.2))); (case aS => exact (keep_size (w := w) (g := g) (row := none) z26x2)); (case aL => have := LMc27.out; omega); intro v429 w33 ho hb hg hat; rw [← Ny428.out] at ho; have n0_ := Aside0.mk (IsS158.grown z26x1 hg (IsS158.own_ne HI0.out HO_3.out (by decide))); have n1_ := Aside0.mk (Kd.R_after (ok := (fun _ => True)) z26x5 hg hat); have n2_ := Aside0.mk (below_weaken z26x0 HL.out hb); have n3_ := Aside0.mk (KeepBut.trans z26x2 (KeepBut.of_grown hg g) (Kd.R_base2 HO_3.out)); have n4_ := Aside0.mk (ho); clear HI0; clear HO424; clear HB; clear HK; clear HO_3; have HI0 := n0_; have HO424 := n1_; have HB := n2_; have HK := n3_; have HO430 := n4_; clear n0_ n1_ n2_ n3_ n4_; clear ho hb hg hat))
        go_ret
        exact ⟨_, by first | rfl | (simp [errW_none, errW_some] <;> rfl) | (simp [*, errW_none, errW_some] <;> rfl), by (with_reducible repeat (first | apply Kd.R_alloc | apply Kd.R_drewN | apply Kd.R_drew)); exact Kd.R_mono HO430.out (fun _ hk => trivial), by repeat (first | (with_reducible first | exact HI0.out | apply IsS158.alloc | apply IsS158.drewN | apply IsS158.drew | apply IsS158.set_1) | exact HI0.out), by repeat (first | (with_reducible first | exact HB.out | apply below_alloc | apply pw_below_drewN | apply below_drew1 | refine below_set ?_ (IsS158.ge HI0.out)) | exact HB.out), by repeat (first | (with_reducible first | exact HK.out | apply KeepBut.set_ | apply keep_drewN | apply keep_drew | apply keep_alloc) | exact HK.out)⟩
       ·rw [if_neg c27] at H
        exact absurd H (by simp)
      ·rw [if_neg c26] at H
       exact absurd H (by simp)
     ·rw [if_neg c25] at H
      exact absurd H (by simp)
    ·rw [if_neg c23] at H
     have c23b0 : (t420 == 0) = false := beq_eq_false_iff_ne.mpr c23
     have c23b1 : (t420 != 0) = true := bne_iff_ne.mpr c23
     simp only [Option.some.injEq, Prod.mk.injEq] at H
     obtain ⟨rfl, rfl⟩ := H
     go_wp2_with (first | ((with_reducible refine gate_callee (f := 70) rfl ?_); refine goesL_ (some 29) rfl rfl Try.func70 (by kernel_rfl) rfl #[.pointer (some ⟨g, 0, none⟩), .int .i64 16] rfl z26x3 ?_; (with_reducible refine (spec_l6Rd_pick.calls k1 g s0_0 x1001_1 16 t420 t421 w0 _ ?side1 ?side2 A22.out).mono ?_); (case side1 => repeat (first | (with_reducible first | exact HI0.out | apply IsS158.alloc | apply IsS158.drewN | apply IsS158.drew | apply IsS158.set_1) | exact HI0.out)); (case side2 => repeat (first | (with_reducible first | exact HB.out | apply below_alloc | apply pw_below_drewN | apply below_drew1 | refine below_set ?_ (IsS158.ge HI0.out)) | exact HB.out)); rintro e w34 ⟨rfl, hi, hb, hk⟩; refine ⟨_, rfl, ?_⟩; have n0_ := Aside0.mk (Kd.R_mono (Kd.R_keep (IsS158.apart (show IsS158 w0 _ g s0_0 x1001_1 from by repeat (first | (with_reducible first | exact HI0.out | apply IsS158.alloc | apply IsS158.drewN | apply IsS158.drew | apply IsS158.set_1) | exact HI0.out)) z26x6 (by decide)) hk (fun _ h => h.2)) (fun _ h => h.1)); have n1_ := Aside0.mk (KeepBut.trans z26x2 hk (.inl rfl)); have n2_ := Aside0.mk (hb); have n3_ := Aside0.mk (hi); clear HO_3; clear HK; clear HB; clear HI0; have HO_3 := n0_; have HK := n1_; have HB := n2_; have HI0 := n3_; clear n0_ n1_ n2_ n3_; (try clear hb); (try clear hb2); (try clear hk); (try clear hi)))
     go_ret
     exact ⟨_, by first | rfl | (simp [errW_none, errW_some] <;> rfl) | (simp [*, errW_none, errW_some] <;> rfl), by (with_reducible repeat (first | apply Kd.R_alloc | apply Kd.R_drewN | apply Kd.R_drew)); exact HO_3.out, by repeat (first | (with_reducible first | exact HI0.out | apply IsS158.alloc | apply IsS158.drewN | apply IsS158.drew | apply IsS158.set_1) | exact HI0.out), by repeat (first | (with_reducible first | exact HB.out | apply below_alloc | apply pw_below_drewN | apply below_drew1 | refine below_set ?_ (IsS158.ge HI0.out)) | exact HB.out), by repeat (first | (with_reducible first | exact HK.out | apply KeepBut.set_ | apply keep_drewN | apply keep_drew | apply keep_alloc) | exact HK.out)⟩

end Go.Proofs.Ytgekmdfcbcacdaa.Hp
