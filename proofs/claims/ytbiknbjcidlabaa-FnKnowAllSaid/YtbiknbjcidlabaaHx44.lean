-- Printed by wip/tools/hp.py of this session (the kit's print.py, with contracts typed by hand beside).
import Derived.Test.YtbiknbjcidlabaaHx0
import Derived.Test.YtbiknbjcidlabaaHx3
import Derived.Test.YtbiknbjcidlabaaHx40
import Derived.Test.YtbiknbjcidlabaaHx41
import Derived.Test.YtbiknbjcidlabaaHx42
import Derived.Test.YtbiknbjcidlabaaHx43
namespace Go.Proofs.Ytbiknbjcidlabaa.Hp
open Go.RowKit Go.Proofs.YtbiknbjcidlabaaW.PrintWords Go.Proofs.YtbiknbjcidlabaaW.PrintLast Go.Proofs.YtbiknbjcidlabaaW.PrintMore
attribute [local go_sem] max2_int min2_int max_two min_two max_three min_three max_four min_four   -- for this text's walks alone
set_option linter.unusedVariables false
set_option linter.unusedSimpArgs false
-- squeezed by wip/tools/squeeze.py
theorem z44x7 {P : Prop} (h : P := by (with_reducible repeat (first | apply Kd.R_alloc | apply Kd.R_drewN | apply Kd.R_drew)); exact HO_8.out) : P := h
theorem z44x6 {P : Prop} (h : P := by (with_reducible repeat (first | apply Kd.R_alloc | apply Kd.R_drewN | apply Kd.R_drew)); exact HO_6.out) : P := h
theorem z44x5 {P : Prop} (h : P := by (with_reducible repeat (first | apply Kd.R_alloc | apply Kd.R_drewN | apply Kd.R_drew)); exact HO_4.out) : P := h
theorem z44x4 {P : Prop} (h : P := by (with_reducible repeat (first | apply Kd.V_alloc | apply Kd.V_drewN | apply Kd.V_drew)); exact HO593.out) : P := h
theorem z44x3 {P : Prop} (h : P := by (with_reducible repeat (first | apply Kd.R_alloc | apply Kd.R_drewN | apply Kd.R_drew)); exact HO590.out) : P := h
theorem z44x2 {P : Prop} (h : P := by (with_reducible repeat (first | apply Kd.R_alloc | apply Kd.R_drewN | apply Kd.R_drew)); exact HO588.out) : P := h
theorem z44x1 {P : Prop} (h : P := by repeat (first | (with_reducible first | exact HB.out | apply below_alloc | apply pw_below_drewN | apply below_drew1) | exact HB.out)) : P := h
theorem z44x0 {P : Prop} (h : P := by (try simp only [List.map_toArray, List.map_cons, List.map_nil]); first | done | rfl | (simp only [List.length_drop, List.length_take]; rfl)) : P := h

/-! ### laws_FnKnowAll: function 9 -/
mutual
def laws_FnKnowAll.l0 : Nat → List (S24) → List Int → Int → Option (Bool)
 | 0, _, _, _ => none
 | k + 1, x4, x6, x7 => if x7 ≤ 60 then (if x6.length < 17592186044416 then (laws_FnKnowAll.l0 k x4 (x6 ++ [x7]) (wrap64 (x7 + 1))) else (none)) else (laws_FnKnowAll.l1 k x4 x6 (([] : List (S24))) 0)
def laws_FnKnowAll.l1 : Nat → List (S24) → List Int → List (S24) → Int → Option (Bool)
 | 0, _, _, _, _ => none
 | k + 1, x4, x6, x8, x9 => if x9 < (x4.length : Int) then (if 0 ≤ x9 then ((impl_SealOk.f ((rd_T24 x4 x9).f0) ((rd_T24 x4 x9).f1) ((rd_T24 x4 x9).f2) ((rd_T24 x4 x9).f3) ((rd_T24 x4 x9).f4) ((rd_T24 x4 x9).f5) ((rd_T24 x4 x9).f6)).bind fun t608 => (if t608 = true then (if x8.length < 2513169434916 then (laws_FnKnowAll.l1 k x4 x6 (x8 ++ [(⟨(rd_T24 x4 x9).f0, (rd_T24 x4 x9).f1, (rd_T24 x4 x9).f2, (rd_T24 x4 x9).f3, (rd_T24 x4 x9).f4, (rd_T24 x4 x9).f5, (rd_T24 x4 x9).f6⟩ : S24)]) (wrap64 (x9 + 1))) else (none)) else (laws_FnKnowAll.l1 k x4 x6 x8 (wrap64 (x9 + 1))))) else (none)) else ((impl_KnowRead.f x6 x4).bind fun t613 => ((laws_lbSeals.f k t613 x8).bind fun t616 => (if t616 = true then ((impl_KnowRead.f ([] : List Int) x4).bind fun t617 => (some ((t617.length : Int) == 0))) else (some false))))
end
def laws_FnKnowAll.f (k : Nat) (l0 : List Int) : Option (Bool) := if (l0.length : Int) > 1048576 then (some true) else ((spec_DrawKnowRead.f k l0).bind fun bt585 => ((impl_KnowRead.f bt585.1 bt585.2).bind fun t591 => ((spec_KnowRead.f k bt585.1 bt585.2).bind fun t594 => ((laws_lbSeals.f k t591 t594).bind fun t597 => (if t597 = true then (laws_FnKnowAll.l0 k bt585.2 (([] : List Int)) 1) else (some false))))))
theorem laws_FnKnowAll.mono_l : ∀ k, (∀ y0 y1 y2, LeO (laws_FnKnowAll.l0 k y0 y1 y2) (laws_FnKnowAll.l0 (k + 1) y0 y1 y2)) ∧ (∀ y0 y1 y2 y3, LeO (laws_FnKnowAll.l1 k y0 y1 y2 y3) (laws_FnKnowAll.l1 (k + 1) y0 y1 y2 y3))
 | 0 => ⟨fun _ _ _ r h => by simp [laws_FnKnowAll.l0] at h, fun _ _ _ _ r h => by simp [laws_FnKnowAll.l1] at h⟩
 | k + 1 => by
  obtain ⟨ih0, ih1⟩ := laws_FnKnowAll.mono_l k
  refine ⟨?_, ?_⟩
  ·intro y0 y1 y2
   unfold laws_FnKnowAll.l0
   repeat' first
   | (with_reducible exact ih0 _ _ _)
   | (with_reducible exact ih1 _ _ _ _)
   | (with_reducible exact laws_lbSeals.mono _ _ _)
   | (with_reducible exact spec_DrawKnowRead.mono _ _)
   | (with_reducible exact spec_KnowRead.mono _ _ _)
   | (with_reducible exact LeO.refl _)
   | (with_reducible exact LeO.none _)
   | (with_reducible refine LeO.ite ?_ ?_)
   | (with_reducible refine LeO.bind ?_ (fun _ => ?_))
   | exact ih0 _ _ _
   | exact ih1 _ _ _ _
   | exact laws_lbSeals.mono _ _ _
   | exact spec_DrawKnowRead.mono _ _
   | exact spec_KnowRead.mono _ _ _
   | exact LeO.none _
   | refine LeO.ite ?_ ?_
   | refine LeO.bind ?_ (fun _ => ?_)
  ·intro y0 y1 y2 y3
   unfold laws_FnKnowAll.l1
   repeat' first
   | (with_reducible exact ih0 _ _ _)
   | (with_reducible exact ih1 _ _ _ _)
   | (with_reducible exact laws_lbSeals.mono _ _ _)
   | (with_reducible exact spec_DrawKnowRead.mono _ _)
   | (with_reducible exact spec_KnowRead.mono _ _ _)
   | (with_reducible exact LeO.refl _)
   | (with_reducible exact LeO.none _)
   | (with_reducible refine LeO.ite ?_ ?_)
   | (with_reducible refine LeO.bind ?_ (fun _ => ?_))
   | exact ih0 _ _ _
   | exact ih1 _ _ _ _
   | exact laws_lbSeals.mono _ _ _
   | exact spec_DrawKnowRead.mono _ _
   | exact spec_KnowRead.mono _ _ _
   | exact LeO.none _
   | refine LeO.ite ?_ ?_
   | refine LeO.bind ?_ (fun _ => ?_)
theorem laws_FnKnowAll.mono : ∀ a0 k, LeO (laws_FnKnowAll.f k a0) (laws_FnKnowAll.f (k + 1) a0) := by
 intro a0 k
 obtain ⟨ih0, ih1⟩ := laws_FnKnowAll.mono_l k
 unfold laws_FnKnowAll.f
 repeat' first
   | (with_reducible exact ih0 _ _ _)
   | (with_reducible exact ih1 _ _ _ _)
   | (with_reducible exact laws_lbSeals.mono _ _ _)
   | (with_reducible exact spec_DrawKnowRead.mono _ _)
   | (with_reducible exact spec_KnowRead.mono _ _ _)
   | (with_reducible exact LeO.refl _)
   | (with_reducible exact LeO.none _)
   | (with_reducible refine LeO.ite ?_ ?_)
   | (with_reducible refine LeO.bind ?_ (fun _ => ?_))
   | exact ih0 _ _ _
   | exact ih1 _ _ _ _
   | exact laws_lbSeals.mono _ _ _
   | exact spec_DrawKnowRead.mono _ _
   | exact spec_KnowRead.mono _ _ _
   | exact LeO.none _
   | refine LeO.ite ?_ ?_
   | refine LeO.bind ?_ (fun _ => ?_)
set_option maxHeartbeats 8000000 in
set_option maxRecDepth 100000 in
theorem laws_FnKnowAll.calls (k : Nat) (A0 : Option Addr) (c0 : Nat) (l0 : List Int) (r : Bool) (w : World) (hr0 : Kd.C (Kd.int .u8) w A0 l0.length l0) (hc0 : l0.length ≤ c0) (h : laws_FnKnowAll.f k l0 = some r) :
  Calls Try.prog 9 #[.slice A0 l0.length c0] w fun e w' => e = .returned (.bool r) ∧ Below w.heap.size w w' := by
 have hu24 := Try.underlying24
 have HR0 := Aside0.mk hr0
 have HC0 := Aside0.mk hc0
 clear hr0 hc0
 have HB := Aside0.mk (Below.refl w.heap.size w)
 have H : (if (l0.length : Int) > 1048576 then (some true) else ((spec_DrawKnowRead.f k l0).bind fun bt585 => ((impl_KnowRead.f bt585.1 bt585.2).bind fun t591 => ((spec_KnowRead.f k bt585.1 bt585.2).bind fun t594 => ((laws_lbSeals.f k t591 t594).bind fun t597 => (if t597 = true then (laws_FnKnowAll.l0 k bt585.2 (([] : List Int)) 1) else (some false))))))) = some r := h
 clear h
 by_cases c2 : (l0.length : Int) > 1048576
 ·rw [if_pos c2] at H
  have c2b0 : decide (1048576 < (l0.length : Int)) = true := decide_eq_true c2
  have c2b1 : decide (1048576 < l0.length) = true := decide_eq_true (by omega)
  clear c2
  obtain rfl := Option.some.inj H
  go_enter Try.func9, Try.ntmps9
  go_wp2
  go_ret
  exact ⟨by first | rfl | (simp [errW_none, errW_some] <;> rfl) | (simp [*, errW_none, errW_some] <;> rfl), by repeat (first | (with_reducible first | exact HB.out | apply below_alloc | apply pw_below_drewN | apply below_drew1) | exact HB.out)⟩
 ·rw [if_neg c2] at H
  have c2b0 : decide (1048576 < (l0.length : Int)) = false := decide_eq_false c2
  have c2b1 : decide (1048576 < l0.length) = false := decide_eq_false (by omega)
  clear c2
  replace H := Option.bind_eq_some_iff.mp H
  obtain ⟨⟨t585, t586⟩, A30, H⟩ := H
  replace H : ((impl_KnowRead.f t585 t586).bind fun t591 => ((spec_KnowRead.f k t585 t586).bind fun t594 => ((laws_lbSeals.f k t591 t594).bind fun t597 => (if t597 = true then (laws_FnKnowAll.l0 k t586 (([] : List Int)) 1) else (some false))))) = some r := H
  have A3 := Aside0.mk A30
  clear A30
  replace H := Option.bind_eq_some_iff.mp H
  obtain ⟨t591, A40, H⟩ := H
  replace H : ((spec_KnowRead.f k t585 t586).bind fun t594 => ((laws_lbSeals.f k t591 t594).bind fun t597 => (if t597 = true then (laws_FnKnowAll.l0 k t586 (([] : List Int)) 1) else (some false)))) = some r := H
  have A4 := Aside0.mk A40
  clear A40
  replace H := Option.bind_eq_some_iff.mp H
  obtain ⟨t594, A50, H⟩ := H
  replace H : ((laws_lbSeals.f k t591 t594).bind fun t597 => (if t597 = true then (laws_FnKnowAll.l0 k t586 (([] : List Int)) 1) else (some false))) = some r := H
  have A5 := Aside0.mk A50
  clear A50
  replace H := Option.bind_eq_some_iff.mp H
  obtain ⟨t597, A60, H⟩ := H
  replace H : (if t597 = true then (laws_FnKnowAll.l0 k t586 (([] : List Int)) 1) else (some false)) = some r := H
  have A6 := Aside0.mk A60
  clear A60
  by_cases c7 : t597 = true
  ·subst c7
   rw [if_pos rfl] at H
   obtain ⟨y598, hy598⟩ : ∃ y_ : List Int, y_ = (([] : List Int)) := ⟨_, rfl⟩
   replace H : (laws_FnKnowAll.l0 k t586 y598 1) = some r := by first | (rw [hy598]; with_reducible exact H) | (have H2_ := (Option.bind_some _ _).symm.trans H; rw [hy598]; with_reducible exact H2_) | (have H2_ := (Option.bind_some _ _).symm.trans H; with_reducible exact H2_) | with_reducible exact H | (rw [hy598]; exact H) | exact H
   have Ny598 := Aside0.mk hy598
   clear hy598
   have H' := Aside0.mk H
   clear H
   go_enter Try.func9, Try.ntmps9
   go_wp2_with (first | ((with_reducible refine gate_callee (f := 37) rfl ?_); refine goesL_ (some 15) rfl rfl Try.func37 (by kernel_rfl) rfl #[.slice A0 l0.length c0] rfl z44x0 ?_; (with_reducible refine (spec_DrawKnowRead.calls k _ _ l0 t585 t586 _ ?side1 ?side2 A3.out).mono ?_); (case side1 => repeat (first | exact HR0.out | (with_reducible refine Kd.C_alloc ?_ _) | (with_reducible refine Kd.C_drewN ?_ _) | (with_reducible refine Kd.C_drew ?_))); (case side2 => exact HC0.out); rintro e w8 ⟨v587, v589, rfl, ho0, ho1, hb⟩; refine ⟨_, rfl, ?_⟩; have n0_ := Aside0.mk (Kd.R_lower ho0 (below_size z44x1)); have n1_ := Aside0.mk (Kd.R_lower ho1 (below_size z44x1)); have n2_ := Aside0.mk (below_step z44x1 hb); clear HB; have HO588 := n0_; have HO590 := n1_; have HB := n2_; clear n0_ n1_ n2_; (try clear hb); (try clear hb2); (try clear hk); (try clear hi); (try clear ho0); (try clear ho1); obtain ⟨Ao9, co9, eo9⟩ := Kd.R_slice HO588.out; subst eo9; obtain ⟨Ao10, co10, eo10⟩ := Kd.R_slice HO590.out; subst eo10) | ((with_reducible refine gate_callee (f := 38) rfl ?_); refine goesL_ (some 20) rfl rfl Try.func38 (by kernel_rfl) rfl #[.slice Ao9 t585.length co9, .slice Ao10 t586.length co10] rfl z44x0 ?_; (with_reducible refine (impl_KnowRead.calls _ _ t585 _ _ t586 t591 _ ?side1 ?side2 ?side3 ?side4 A4.out).mono ?_); (case side1 => repeat (first | exact (Kd.R_reads' HO588.out).2.2 | (with_reducible refine Kd.C_alloc ?_ _) | (with_reducible refine Kd.C_drewN ?_ _) | (with_reducible refine Kd.C_drew ?_))); (case side2 => exact (Kd.R_reads' HO588.out).2.1); (case side3 => repeat (first | exact (Kd.R_reads' HO590.out).2.2 | (with_reducible refine Kd.C_alloc ?_ _) | (with_reducible refine Kd.C_drewN ?_ _) | (with_reducible refine Kd.C_drew ?_))); (case side4 => exact (Kd.R_reads' HO590.out).2.1); rintro e w11 ⟨v592, rfl, ho0, hb⟩; refine ⟨_, rfl, ?_⟩; have n0_ := Aside0.mk (Kd.R_below z44x2 hb); have n1_ := Aside0.mk (Kd.R_below z44x3 hb); have n2_ := Aside0.mk (Kd.V_lower (Kd.V_mono (ok' := fun k_ => some k_ ≠ (.slice Ao9 t585.length co9 : Value).ownBlock ∧ some k_ ≠ (.slice Ao10 t586.length co10 : Value).ownBlock) ho0 (fun k_ hk_ => ⟨(Kd.fresh' (Kd.R_lt z44x2) k_ hk_), (Kd.fresh' (Kd.R_lt z44x3) k_ hk_)⟩)) (below_size z44x1)); have n3_ := Aside0.mk (below_step z44x1 hb); clear HO588; clear HO590; clear HB; have HO588 := n0_; have HO590 := n1_; have HO593 := n2_; have HB := n3_; clear n0_ n1_ n2_ n3_; (try clear hb); (try clear hb2); (try clear hk); (try clear hi); (try clear ho0)) | ((with_reducible refine gate_callee (f := 40) rfl ?_); refine goesL_ (some 24) rfl rfl Try.func40 (by kernel_rfl) rfl #[.slice Ao9 t585.length co9, .slice Ao10 t586.length co10] rfl z44x0 ?_; (with_reducible refine (spec_KnowRead.calls k _ _ t585 _ _ t586 t594 _ ?side1 ?side2 ?side3 ?side4 A5.out).mono ?_); (case side1 => repeat (first | exact (Kd.R_reads' HO588.out).2.2 | (with_reducible refine Kd.C_alloc ?_ _) | (with_reducible refine Kd.C_drewN ?_ _) | (with_reducible refine Kd.C_drew ?_))); (case side2 => exact (Kd.R_reads' HO588.out).2.1); (case side3 => repeat (first | exact (Kd.R_reads' HO590.out).2.2 | (with_reducible refine Kd.C_alloc ?_ _) | (with_reducible refine Kd.C_drewN ?_ _) | (with_reducible refine Kd.C_drew ?_))); (case side4 => exact (Kd.R_reads' HO590.out).2.1); rintro e w12 ⟨v595, rfl, ho0, hb⟩; refine ⟨_, rfl, ?_⟩; have n0_ := Aside0.mk (Kd.R_below z44x2 hb); have n1_ := Aside0.mk (Kd.R_elder' z44x3 (Kd.R_base ho0) hb); have n2_ := Aside0.mk (Kd.V_elder' z44x4 (Kd.R_base ho0) hb); have n3_ := Aside0.mk (Kd.R_lower (Kd.R_new' ho0 (Kd.R_lt z44x3)) (below_size z44x1)); have n4_ := Aside0.mk (below_step z44x1 hb); clear HO588; clear HO590; clear HO593; clear HB; have HO588 := n0_; have HO590 := n1_; have HO593 := n2_; have HO596 := n3_; have HB := n4_; clear n0_ n1_ n2_ n3_ n4_; (try clear hb); (try clear hb2); (try clear hk); (try clear hi); (try clear ho0); obtain ⟨Ao13, co13, eo13⟩ := Kd.V_slice HO593.out; subst eo13; obtain ⟨Ao14, co14, eo14⟩ := Kd.R_slice HO596.out; subst eo14) | ((with_reducible refine gate_callee (f := 39) rfl ?_); refine goesL_ (some 25) rfl rfl Try.func39 (by kernel_rfl) rfl #[.slice Ao13 t591.length co13, .slice Ao14 t594.length co14] rfl z44x0 ?_; (with_reducible refine (laws_lbSeals.calls k _ _ t591 _ _ t594 true _ ?side1 ?side2 ?side3 ?side4 A6.out).mono ?_); (case side1 => repeat (first | exact (Kd.V_reads' HO593.out).2.2 | (with_reducible refine Kd.C_alloc ?_ _) | (with_reducible refine Kd.C_drewN ?_ _) | (with_reducible refine Kd.C_drew ?_))); (case side2 => exact (Kd.V_reads' HO593.out).2.1); (case side3 => repeat (first | exact (Kd.R_reads' HO596.out).2.2 | (with_reducible refine Kd.C_alloc ?_ _) | (with_reducible refine Kd.C_drewN ?_ _) | (with_reducible refine Kd.C_drew ?_))); (case side4 => exact (Kd.R_reads' HO596.out).2.1); rintro e w' ⟨rfl, ⟨nd, rfl⟩⟩; refine ⟨_, rfl, ?_⟩) | ((with_reducible refine gate_dst (N := 27) rfl ?_); refine Kd.R_lit (Kd.int .i64) _ 3 ?hg (N := 27) ?hd (xs := ([] : List Int)) (inner := []) (ok := fun _ => True) (okp := fun _ => True) ?hr ?hp (fun _ hk => hk) trivial (Below.refl _ _) (Nat.le_refl _) (by simp) ?_; (case hd => rfl); (case hg => rfl); (case hr => first | (go_simp; done) | (go_simp; rfl)); (case hp => exact (Reps.none _ _)); intro v599 w15 ho16 hb hg_ hnew_; clear hg_ hnew_; (first | rw [← Ny598.out] at ho16 | (simp only [Int.reduceToNat] at ho16; rw [← Ny598.out] at ho16)); have n0_ := Aside0.mk (Kd.R_elder' z44x2 (Kd.R_base ho16) hb); have n1_ := Aside0.mk (Kd.R_below z44x3 hb); have n2_ := Aside0.mk (Kd.V_elder' z44x4 (Kd.R_base ho16) hb); have n3_ := Aside0.mk (Kd.R_below (by (with_reducible repeat (first | apply Kd.R_alloc | apply Kd.R_drewN | apply Kd.R_drew)); exact HO596.out) hb); have n4_ := Aside0.mk (Kd.R_lower (Kd.R_new' ho16 (Kd.R_lt z44x2)) (below_size z44x1)); have n5_ := Aside0.mk (below_step z44x1 hb); clear HO588; clear HO590; clear HO593; clear HO596; clear HB; have HO588 := n0_; have HO590 := n1_; have HO593 := n2_; have HO596 := n3_; have HO600 := n4_; have HB := n5_; clear n0_ n1_ n2_ n3_ n4_ n5_; clear hb ho16))
   go_loopg [6, 7] k (fun kq v6 v7 w' => ∃ (x6_1 : List Int) (x7_1 : Int), v7 = .int .i64 x7_1 ∧ Aside0 (laws_FnKnowAll.l0 kq t586 x6_1 x7_1 = some r) ∧ Aside0 (kq ≤ k) ∧ Aside0 (Kd.R k24 24 w' w.heap.size (fun _ => True) (.slice Ao10 t586.length co10) t586) ∧ Aside0 (Kd.R (Kd.int .i64) 3 w' w.heap.size (fun _ => True) v6 x6_1) ∧ Aside0 (Below w.heap.size w w'))
   case atStart => exact ⟨(y598), (1), (by first | rfl | (simp; done) | (simp [*]; done)), H', ⟨Nat.le_refl _⟩, ⟨by (with_reducible repeat (first | apply Kd.R_alloc | apply Kd.R_drewN | apply Kd.R_drew)); exact Kd.R_mono HO590.out (fun _ hk => trivial)⟩, ⟨by (with_reducible repeat (first | apply Kd.R_alloc | apply Kd.R_drewN | apply Kd.R_drew)); exact Kd.R_mono HO600.out (fun _ hk => trivial)⟩, ⟨by repeat (first | (with_reducible first | exact HB.out | apply below_alloc | apply pw_below_drewN | apply below_drew1) | exact HB.out)⟩⟩
   case round =>
    clear H'
    try clear c2
    try clear c2b0
    try clear c2b1
    try clear p2
    try clear c3
    try clear c4
    try clear c7
    try clear c9
    obtain ⟨x6_1, x7_1, rfl, HA, HK1, HO_4, HO_6, HB⟩ := hrel
    cases gk with
    | zero => exact absurd HA.out (by simp [laws_FnKnowAll.l0])
    | succ k1 =>
     have H := HA.out
     clear HA
     simp only [laws_FnKnowAll.l0] at H
     by_cases c17 : x7_1 ≤ 60
     ·rw [if_pos c17] at H
      have c17b0 : decide (x7_1 ≤ 60) = true := decide_eq_true c17
      clear c17
      by_cases c18 : x6_1.length < 17592186044416
      ·rw [if_pos c18] at H
       have LMc18 := Aside0.mk c18
       clear c18
       obtain ⟨y601, hy601⟩ : ∃ y_ : List Int, y_ = (x6_1 ++ [x7_1]) := ⟨_, rfl⟩
       replace H : (laws_FnKnowAll.l0 k1 t586 y601 (wrap64 (x7_1 + 1))) = some r := by first | (rw [hy601]; with_reducible exact H) | (have H2_ := (Option.bind_some _ _).symm.trans H; rw [hy601]; with_reducible exact H2_) | (have H2_ := (Option.bind_some _ _).symm.trans H; with_reducible exact H2_) | with_reducible exact H | (rw [hy601]; exact H) | exact H
       have Ny601 := Aside0.mk hy601
       clear hy601
       have H' := Aside0.mk H
       clear H
       go_wp2_with (first | ((with_reducible refine gate_builtin (b := .append) (xs := #[.tmp 32, .tmp 34]) rfl ?_); at_builtin; refine Kd.R_append (Kd.int .i64) (w0 := w) w.heap.size rfl (.tmp 32) (.tmp 34) 41 3 (.int .i64 0) 8 rfl Try.underlying41 info3 rfl (by decide) (by omega) u6 x6_1 x7_1 [.int .i64 x7_1] (fun _ => True) (fun _ => False) rfl rfl ?aP (fun _ hk => hk.elim) ?aF ?aO ?aB ?aS ?aL ?_; (case aP => exact rfl); (case aB => exact z44x1); (case aF => exact (fun _ _ => trivial)); (case aO => exact z44x6); (case aS => exact (below_size z44x1)); (case aL => have := LMc18.out; omega); intro v602 w19 ho hb hg hat; rw [← Ny601.out] at ho; have n0_ := Aside0.mk (Kd.R_over' z44x5 (Kd.R_typed z44x6) (by decide) hg); have n1_ := Aside0.mk (hb); have n2_ := Aside0.mk (ho); clear HO_4; clear HB; clear HO_6; have HO_4 := n0_; have HB := n1_; have HO603 := n2_; clear n0_ n1_ n2_; clear ho hb hg hat))
       go_roundg k1
       case measure => have := HK1.out; omega
       case rel => exact ⟨(y601), (wrap64 (x7_1 + 1)), (by first | rfl | (simp; done) | (simp [*]; done)), H', ⟨by have := HK1.out; omega⟩, ⟨by (with_reducible repeat (first | apply Kd.R_alloc | apply Kd.R_drewN | apply Kd.R_drew)); exact HO_4.out⟩, ⟨by (with_reducible repeat (first | apply Kd.R_alloc | apply Kd.R_drewN | apply Kd.R_drew)); exact HO603.out⟩, ⟨by repeat (first | (with_reducible first | exact HB.out | apply below_alloc | apply pw_below_drewN | apply below_drew1) | exact HB.out)⟩⟩
      ·rw [if_neg c18] at H
       exact absurd H (by simp)
     ·rw [if_neg c17] at H
      have c17b0 : decide (x7_1 ≤ 60) = false := decide_eq_false c17
      clear c17
      obtain ⟨y604, hy604⟩ : ∃ y_ : List (S24), y_ = (([] : List (S24))) := ⟨_, rfl⟩
      replace H : (laws_FnKnowAll.l1 k1 t586 x6_1 y604 0) = some r := by first | (rw [hy604]; with_reducible exact H) | (have H2_ := (Option.bind_some _ _).symm.trans H; rw [hy604]; with_reducible exact H2_) | (have H2_ := (Option.bind_some _ _).symm.trans H; with_reducible exact H2_) | with_reducible exact H | (rw [hy604]; exact H) | exact H
      have Ny604 := Aside0.mk hy604
      clear hy604
      have H' := Aside0.mk H
      clear H
      go_wp2_with (first | ((with_reducible refine gate_dst (N := 36) rfl ?_); refine Kd.R_lit k24 _ 24 ?hg (N := 36) ?hd (xs := ([] : List (S24))) (inner := []) (ok := fun _ => True) (okp := fun _ => True) ?hr ?hp (fun _ hk => hk) trivial (Below.refl _ _) (Nat.le_refl _) (by simp) ?_; (case hd => rfl); (case hg => rfl); (case hr => first | (go_simp; done) | (go_simp; rfl)); (case hp => exact (Reps.none _ _)); intro v605 w20 ho21 hb hg_ hnew_; clear hg_ hnew_; (first | rw [← Ny604.out] at ho21 | (simp only [Int.reduceToNat] at ho21; rw [← Ny604.out] at ho21)); have n0_ := Aside0.mk (Kd.R_elder' z44x5 (Kd.R_base ho21) hb); have n1_ := Aside0.mk (Kd.R_below z44x6 hb); have n2_ := Aside0.mk (Kd.R_lower (Kd.R_new' ho21 (Kd.R_lt z44x5)) (below_size z44x1)); have n3_ := Aside0.mk (below_step z44x1 hb); clear HO_4; clear HO_6; clear HB; have HO_4 := n0_; have HO_6 := n1_; have HO606 := n2_; have HB := n3_; clear n0_ n1_ n2_ n3_; clear hb ho21))
      go_loopg [8, 9] k1 (fun kq v8 v9 w' => ∃ (x8_2 : List (S24)) (x9_2 : Int), v9 = .int .i64 x9_2 ∧ Aside0 (laws_FnKnowAll.l1 kq t586 x6_1 x8_2 x9_2 = some r) ∧ Aside0 (kq ≤ k1) ∧ Aside0 (Kd.R k24 24 w' w.heap.size (fun k_ => some k_ ≠ (v8 : Value).ownBlock) (.slice Ao10 t586.length co10) t586) ∧ Aside0 (Kd.R (Kd.int .i64) 3 w' w.heap.size (fun _ => True) u6 x6_1) ∧ Aside0 (Kd.R k24 24 w' w.heap.size (fun k_ => some k_ ≠ ((.slice Ao10 t586.length co10) : Value).ownBlock) v8 x8_2) ∧ Aside0 (Below w.heap.size w w'))
      case atStart => exact ⟨(y604), (0), (by first | rfl | (simp; done) | (simp [*]; done)), H', ⟨Nat.le_refl _⟩, ⟨by (with_reducible repeat (first | apply Kd.R_alloc | apply Kd.R_drewN | apply Kd.R_drew)); exact Kd.R_mono HO_4.out (fun _ hk => hk.2)⟩, ⟨by (with_reducible repeat (first | apply Kd.R_alloc | apply Kd.R_drewN | apply Kd.R_drew)); exact HO_6.out⟩, ⟨by (with_reducible repeat (first | apply Kd.R_alloc | apply Kd.R_drewN | apply Kd.R_drew)); exact Kd.R_mono HO606.out (fun _ hk => hk.2)⟩, ⟨by repeat (first | (with_reducible first | exact HB.out | apply below_alloc | apply pw_below_drewN | apply below_drew1) | exact HB.out)⟩⟩
      case round =>
       clear H'
       try clear c1
       try clear c2
       try clear c2b0
       try clear c2b1
       try clear p2
       try clear c3
       try clear c4
       try clear p6
       try clear c7
       try clear c9
       try clear c17
       try clear c17b0
       try clear c18
       try clear p2
       obtain ⟨x8_2, x9_2, rfl, HA, HK2, HO_4, HO_6, HO_8, HB⟩ := hrel
       cases gk with
       | zero => exact absurd HA.out (by simp [laws_FnKnowAll.l1])
       | succ k2 =>
        have H := HA.out
        clear HA
        simp only [laws_FnKnowAll.l1] at H
        by_cases c22 : x9_2 < (t586.length : Int)
        ·rw [if_pos c22] at H
         have c22b0 : decide (x9_2 < (t586.length : Int)) = true := decide_eq_true c22
         clear c22
         by_cases c23 : 0 ≤ x9_2
         ·rw [if_pos c23] at H
          have c23b0 : decide (0 ≤ x9_2) = true := decide_eq_true c23
          clear c23
          replace H := Option.bind_eq_some_iff.mp H
          obtain ⟨t608, A240, H⟩ := H
          replace H : (if t608 = true then (if x8_2.length < 2513169434916 then (laws_FnKnowAll.l1 k2 t586 x6_1 (x8_2 ++ [(⟨(rd_T24 t586 x9_2).f0, (rd_T24 t586 x9_2).f1, (rd_T24 t586 x9_2).f2, (rd_T24 t586 x9_2).f3, (rd_T24 t586 x9_2).f4, (rd_T24 t586 x9_2).f5, (rd_T24 t586 x9_2).f6⟩ : S24)]) (wrap64 (x9_2 + 1))) else (none)) else (laws_FnKnowAll.l1 k2 t586 x6_1 x8_2 (wrap64 (x9_2 + 1)))) = some r := H
          have A24 := Aside0.mk A240
          clear A240
          by_cases c25 : t608 = true
          ·subst c25
           rw [if_pos rfl] at H
           by_cases c26 : x8_2.length < 2513169434916
           ·rw [if_pos c26] at H
            have LMc26 := Aside0.mk c26
            clear c26
            obtain ⟨y610, hy610⟩ : ∃ y_ : List (S24), y_ = (x8_2 ++ [(⟨(rd_T24 t586 x9_2).f0, (rd_T24 t586 x9_2).f1, (rd_T24 t586 x9_2).f2, (rd_T24 t586 x9_2).f3, (rd_T24 t586 x9_2).f4, (rd_T24 t586 x9_2).f5, (rd_T24 t586 x9_2).f6⟩ : S24)]) := ⟨_, rfl⟩
            replace H : (laws_FnKnowAll.l1 k2 t586 x6_1 y610 (wrap64 (x9_2 + 1))) = some r := by first | (rw [hy610]; with_reducible exact H) | (have H2_ := (Option.bind_some _ _).symm.trans H; rw [hy610]; with_reducible exact H2_) | (have H2_ := (Option.bind_some _ _).symm.trans H; with_reducible exact H2_) | with_reducible exact H | (rw [hy610]; exact H) | exact H
            have Ny610 := Aside0.mk hy610
            clear hy610
            have H' := Aside0.mk H
            clear H
            have p607 : 0 ≤ (x9_2 : Int) := of_decide_eq_true (by first | (with_reducible assumption) | assumption)
            have q607 : x9_2 < (t586.length : Int) := of_decide_eq_true (by first | (with_reducible assumption) | assumption)
            obtain ⟨ad607, e607, hx607_0, hx607_1, hx607_2, hx607_3, hx607_4, hx607_5, hx607_6⟩ := at_T24 (Kd.R_reads' HO_4.out).2.2 x9_2 p607 q607
            cases e607
            replace p607 := eq_true p607
            replace q607 := eq_true q607
            go_wp2_with (first | ((with_reducible refine gate_callee (f := 25) rfl ?_); refine goesL_ (some 47) rfl rfl Try.func25 (by kernel_rfl) rfl #[.agg #[.int .i64 ((rd_T24 t586 x9_2).f0), .int .i64 ((rd_T24 t586 x9_2).f1), .int .i64 ((rd_T24 t586 x9_2).f2), .int .i64 ((rd_T24 t586 x9_2).f3), .int .i64 ((rd_T24 t586 x9_2).f4), .int .i64 ((rd_T24 t586 x9_2).f5), .int .i64 ((rd_T24 t586 x9_2).f6)]] rfl z44x0 ?_; (with_reducible refine (impl_SealOk.calls ((rd_T24 t586 x9_2).f0) ((rd_T24 t586 x9_2).f1) ((rd_T24 t586 x9_2).f2) ((rd_T24 t586 x9_2).f3) ((rd_T24 t586 x9_2).f4) ((rd_T24 t586 x9_2).f5) ((rd_T24 t586 x9_2).f6) true _ A24.out).mono ?_); rintro e w27 ⟨rfl, hb⟩; refine ⟨_, rfl, ?_⟩; have n0_ := Aside0.mk (Kd.R_below z44x5 hb); have n1_ := Aside0.mk (Kd.R_below z44x6 hb); have n2_ := Aside0.mk (Kd.R_below z44x7 hb); have n3_ := Aside0.mk (below_step z44x1 hb); clear HO_4; clear HO_6; clear HO_8; clear HB; have HO_4 := n0_; have HO_6 := n1_; have HO_8 := n2_; have HB := n3_; clear n0_ n1_ n2_ n3_; (try clear hb); (try clear hb2); (try clear hk); (try clear hi); have p609 : 0 ≤ (x9_2 : Int) := of_decide_eq_true (by first | (with_reducible assumption) | assumption); have q609 : x9_2 < (t586.length : Int) := of_decide_eq_true (by first | (with_reducible assumption) | assumption); obtain ⟨ad609, e609, hx609_0, hx609_1, hx609_2, hx609_3, hx609_4, hx609_5, hx609_6⟩ := at_T24 (Kd.R_reads' HO_4.out).2.2 x9_2 p609 q609; obtain rfl : ad607 = ad609 := (by injection e609); replace p609 := eq_true p609; replace q609 := eq_true q609) | ((with_reducible refine gate_builtin (b := .append) (xs := #[.tmp 48, .tmp 53]) rfl ?_); at_builtin; refine Kd.R_append k24 (w0 := w) w.heap.size rfl (.tmp 48) (.tmp 53) 34 24 (.agg #[(.int .i64 0), (.int .i64 0), (.int .i64 0), (.int .i64 0), (.int .i64 0), (.int .i64 0), (.int .i64 0)]) 56 rfl Try.underlying34 info24 rfl (by decide) (by omega) u8 x8_2 (⟨(rd_T24 t586 x9_2).f0, (rd_T24 t586 x9_2).f1, (rd_T24 t586 x9_2).f2, (rd_T24 t586 x9_2).f3, (rd_T24 t586 x9_2).f4, (rd_T24 t586 x9_2).f5, (rd_T24 t586 x9_2).f6⟩ : S24) [.int .i64 ((rd_T24 t586 x9_2).f0), .int .i64 ((rd_T24 t586 x9_2).f1), .int .i64 ((rd_T24 t586 x9_2).f2), .int .i64 ((rd_T24 t586 x9_2).f3), .int .i64 ((rd_T24 t586 x9_2).f4), .int .i64 ((rd_T24 t586 x9_2).f5), .int .i64 ((rd_T24 t586 x9_2).f6)] (fun k_ => some k_ ≠ (.slice (some ad607) t586.length co10 : Value).ownBlock) (fun _ => False) rfl rfl ?aP (fun _ hk => hk.elim) ?aF ?aO ?aB ?aS ?aL ?_; (case aP => exact k24_mkM _ _ _ (⟨(rd_T24 t586 x9_2).f0, (rd_T24 t586 x9_2).f1, (rd_T24 t586 x9_2).f2, (rd_T24 t586 x9_2).f3, (rd_T24 t586 x9_2).f4, (rd_T24 t586 x9_2).f5, (rd_T24 t586 x9_2).f6⟩ : S24)); (case aB => exact z44x1); (case aF => exact (fun k_ hk => Kd.fresh' (Kd.R_lt z44x5) k_ hk)); (case aO => exact z44x7); (case aS => exact (below_size z44x1)); (case aL => have := LMc26.out; omega); intro v611 w28 ho hb hg hat; rw [← Ny610.out] at ho; have n0_ := Aside0.mk (Kd.R_after (ok := (fun _ => True)) (by (with_reducible repeat (first | apply Kd.R_alloc | apply Kd.R_drewN | apply Kd.R_drew)); exact Kd.R_mono HO_4.out (fun _ hk => ⟨trivial, hk⟩)) hg hat); have n1_ := Aside0.mk (Kd.R_over' z44x6 (Kd.R_typed z44x7) (by decide) hg); have n2_ := Aside0.mk (hb); have n3_ := Aside0.mk (ho); clear HO_4; clear HO_6; clear HB; clear HO_8; have HO_4 := n0_; have HO_6 := n1_; have HB := n2_; have HO612 := n3_; clear n0_ n1_ n2_ n3_; clear ho hb hg hat))
            go_roundg k2
            case measure => have := HK1.out; have := HK2.out; omega
            case rel => exact ⟨(y610), (wrap64 (x9_2 + 1)), (by first | rfl | (simp; done) | (simp [*]; done)), H', ⟨by have := HK1.out; have := HK2.out; omega⟩, ⟨by (with_reducible repeat (first | apply Kd.R_alloc | apply Kd.R_drewN | apply Kd.R_drew)); exact Kd.R_mono HO_4.out (fun _ hk => hk.2)⟩, ⟨by (with_reducible repeat (first | apply Kd.R_alloc | apply Kd.R_drewN | apply Kd.R_drew)); exact HO_6.out⟩, ⟨by (with_reducible repeat (first | apply Kd.R_alloc | apply Kd.R_drewN | apply Kd.R_drew)); exact HO612.out⟩, ⟨by repeat (first | (with_reducible first | exact HB.out | apply below_alloc | apply pw_below_drewN | apply below_drew1) | exact HB.out)⟩⟩
           ·rw [if_neg c26] at H
            exact absurd H (by simp)
          ·replace c25 := Bool.eq_false_iff.mpr c25
           subst c25
           rw [if_neg (show ¬ (false = true) by decide)] at H
           have H' := Aside0.mk H
           clear H
           have p607 : 0 ≤ (x9_2 : Int) := of_decide_eq_true (by first | (with_reducible assumption) | assumption)
           have q607 : x9_2 < (t586.length : Int) := of_decide_eq_true (by first | (with_reducible assumption) | assumption)
           obtain ⟨ad607, e607, hx607_0, hx607_1, hx607_2, hx607_3, hx607_4, hx607_5, hx607_6⟩ := at_T24 (Kd.R_reads' HO_4.out).2.2 x9_2 p607 q607
           cases e607
           replace p607 := eq_true p607
           replace q607 := eq_true q607
           go_wp2_with (first | ((with_reducible refine gate_callee (f := 25) rfl ?_); refine goesL_ (some 47) rfl rfl Try.func25 (by kernel_rfl) rfl #[.agg #[.int .i64 ((rd_T24 t586 x9_2).f0), .int .i64 ((rd_T24 t586 x9_2).f1), .int .i64 ((rd_T24 t586 x9_2).f2), .int .i64 ((rd_T24 t586 x9_2).f3), .int .i64 ((rd_T24 t586 x9_2).f4), .int .i64 ((rd_T24 t586 x9_2).f5), .int .i64 ((rd_T24 t586 x9_2).f6)]] rfl z44x0 ?_; (with_reducible refine (impl_SealOk.calls ((rd_T24 t586 x9_2).f0) ((rd_T24 t586 x9_2).f1) ((rd_T24 t586 x9_2).f2) ((rd_T24 t586 x9_2).f3) ((rd_T24 t586 x9_2).f4) ((rd_T24 t586 x9_2).f5) ((rd_T24 t586 x9_2).f6) false _ A24.out).mono ?_); rintro e w29 ⟨rfl, hb⟩; refine ⟨_, rfl, ?_⟩; have n0_ := Aside0.mk (Kd.R_below z44x5 hb); have n1_ := Aside0.mk (Kd.R_below z44x6 hb); have n2_ := Aside0.mk (Kd.R_below z44x7 hb); have n3_ := Aside0.mk (below_step z44x1 hb); clear HO_4; clear HO_6; clear HO_8; clear HB; have HO_4 := n0_; have HO_6 := n1_; have HO_8 := n2_; have HB := n3_; clear n0_ n1_ n2_ n3_; (try clear hb); (try clear hb2); (try clear hk); (try clear hi)))
           go_roundg k2
           case measure => have := HK1.out; have := HK2.out; omega
           case rel => exact ⟨(x8_2), (wrap64 (x9_2 + 1)), (by first | rfl | (simp; done) | (simp [*]; done)), H', ⟨by have := HK1.out; have := HK2.out; omega⟩, ⟨by (with_reducible repeat (first | apply Kd.R_alloc | apply Kd.R_drewN | apply Kd.R_drew)); exact HO_4.out⟩, ⟨by (with_reducible repeat (first | apply Kd.R_alloc | apply Kd.R_drewN | apply Kd.R_drew)); exact HO_6.out⟩, ⟨by (with_reducible repeat (first | apply Kd.R_alloc | apply Kd.R_drewN | apply Kd.R_drew)); exact HO_8.out⟩, ⟨by repeat (first | (with_reducible first | exact HB.out | apply below_alloc | apply pw_below_drewN | apply below_drew1) | exact HB.out)⟩⟩
         ·rw [if_neg c23] at H
          exact absurd H (by simp)
        ·rw [if_neg c22] at H
         have c22b0 : decide (x9_2 < (t586.length : Int)) = false := decide_eq_false c22
         clear c22
         replace H := Option.bind_eq_some_iff.mp H
         obtain ⟨t613, A300, H⟩ := H
         replace H : ((laws_lbSeals.f k2 t613 x8_2).bind fun t616 => (if t616 = true then ((impl_KnowRead.f ([] : List Int) t586).bind fun t617 => (some ((t617.length : Int) == 0))) else (some false))) = some r := H
         have A30 := Aside0.mk A300
         clear A300
         replace H := Option.bind_eq_some_iff.mp H
         obtain ⟨t616, A310, H⟩ := H
         replace H : (if t616 = true then ((impl_KnowRead.f ([] : List Int) t586).bind fun t617 => (some ((t617.length : Int) == 0))) else (some false)) = some r := H
         have A31 := Aside0.mk A310
         clear A310
         by_cases c32 : t616 = true
         ·subst c32
          rw [if_pos rfl] at H
          replace H := Option.bind_eq_some_iff.mp H
          obtain ⟨t617, A330, H⟩ := H
          replace H : (some ((t617.length : Int) == 0)) = some r := H
          have A33 := Aside0.mk A330
          clear A330
          obtain rfl := Option.some.inj H
          obtain ⟨Ao34, co34, eo34⟩ := Kd.R_slice HO_6.out
          subst eo34
          go_wp2_with (first | ((with_reducible refine gate_callee (f := 38) rfl ?_); refine goesL_ (some 57) rfl rfl Try.func38 (by kernel_rfl) rfl #[.slice Ao34 x6_1.length co34, .slice Ao10 t586.length co10] rfl z44x0 ?_; (with_reducible refine (impl_KnowRead.calls _ _ x6_1 _ _ t586 t613 _ ?side1 ?side2 ?side3 ?side4 A30.out).mono ?_); (case side1 => repeat (first | exact (Kd.R_reads' HO_6.out).2.2 | (with_reducible refine Kd.C_alloc ?_ _) | (with_reducible refine Kd.C_drewN ?_ _) | (with_reducible refine Kd.C_drew ?_))); (case side2 => exact (Kd.R_reads' HO_6.out).2.1); (case side3 => repeat (first | exact (Kd.R_reads' HO_4.out).2.2 | (with_reducible refine Kd.C_alloc ?_ _) | (with_reducible refine Kd.C_drewN ?_ _) | (with_reducible refine Kd.C_drew ?_))); (case side4 => exact (Kd.R_reads' HO_4.out).2.1); rintro e w35 ⟨v614, rfl, ho0, hb⟩; refine ⟨_, rfl, ?_⟩; have n0_ := Aside0.mk (Kd.R_below z44x5 hb); have n1_ := Aside0.mk (Kd.R_below z44x6 hb); have n2_ := Aside0.mk (Kd.R_below z44x7 hb); have n3_ := Aside0.mk (Kd.V_lower (Kd.V_mono (ok' := fun k_ => some k_ ≠ (.slice Ao10 t586.length co10 : Value).ownBlock ∧ some k_ ≠ (.slice Ao34 x6_1.length co34 : Value).ownBlock ∧ some k_ ≠ (u8 : Value).ownBlock) ho0 (fun k_ hk_ => ⟨(Kd.fresh' (Kd.R_lt z44x5) k_ hk_), (Kd.fresh' (Kd.R_lt z44x6) k_ hk_), (Kd.fresh' (Kd.R_lt z44x7) k_ hk_)⟩)) (below_size z44x1)); have n4_ := Aside0.mk (below_step z44x1 hb); clear HO_4; clear HO_6; clear HO_8; clear HB; have HO_4 := n0_; have HO_6 := n1_; have HO_8 := n2_; have HO615 := n3_; have HB := n4_; clear n0_ n1_ n2_ n3_ n4_; (try clear hb); (try clear hb2); (try clear hk); (try clear hi); (try clear ho0); obtain ⟨Ao36, co36, eo36⟩ := Kd.V_slice HO615.out; subst eo36; obtain ⟨Ao37, co37, eo37⟩ := Kd.R_slice HO_8.out; subst eo37) | ((with_reducible refine gate_callee (f := 39) rfl ?_); refine goesL_ (some 59) rfl rfl Try.func39 (by kernel_rfl) rfl #[.slice Ao36 t613.length co36, .slice Ao37 x8_2.length co37] rfl z44x0 ?_; (with_reducible refine (laws_lbSeals.calls k2 _ _ t613 _ _ x8_2 true _ ?side1 ?side2 ?side3 ?side4 A31.out).mono ?_); (case side1 => repeat (first | exact (Kd.V_reads' HO615.out).2.2 | (with_reducible refine Kd.C_alloc ?_ _) | (with_reducible refine Kd.C_drewN ?_ _) | (with_reducible refine Kd.C_drew ?_))); (case side2 => exact (Kd.V_reads' HO615.out).2.1); (case side3 => repeat (first | exact (Kd.R_reads' HO_8.out).2.2 | (with_reducible refine Kd.C_alloc ?_ _) | (with_reducible refine Kd.C_drewN ?_ _) | (with_reducible refine Kd.C_drew ?_))); (case side4 => exact (Kd.R_reads' HO_8.out).2.1); rintro e w' ⟨rfl, ⟨nd, rfl⟩⟩; refine ⟨_, rfl, ?_⟩) | (go_at_call 38; (refine (impl_KnowRead.calls _ _ ([] : List Int) _ _ t586 t617 _ ?side1 ?side2 ?side3 ?side4 A33.out).mono ?_); (case side1 => exact Kd.C_nil _ _); (case side2 => exact Nat.le_refl _); (case side3 => repeat (first | exact (Kd.R_reads' HO_4.out).2.2 | (with_reducible refine Kd.C_alloc ?_ _) | (with_reducible refine Kd.C_drewN ?_ _) | (with_reducible refine Kd.C_drew ?_))); (case side4 => exact (Kd.R_reads' HO_4.out).2.1); rintro e w38 ⟨v618, rfl, ho0, hb⟩; have n0_ := Aside0.mk (Kd.R_below z44x5 hb); have n1_ := Aside0.mk (Kd.R_below z44x6 hb); have n2_ := Aside0.mk (Kd.R_below z44x7 hb); have n3_ := Aside0.mk (Kd.V_below (by (with_reducible repeat (first | apply Kd.V_alloc | apply Kd.V_drewN | apply Kd.V_drew)); exact HO615.out) hb); have n4_ := Aside0.mk (Kd.V_lower (Kd.V_mono (ok' := fun k_ => some k_ ≠ (.slice Ao10 t586.length co10 : Value).ownBlock ∧ some k_ ≠ (.slice Ao34 x6_1.length co34 : Value).ownBlock ∧ some k_ ≠ (.slice Ao37 x8_2.length co37 : Value).ownBlock) ho0 (fun k_ hk_ => ⟨(Kd.fresh' (Kd.R_lt z44x5) k_ hk_), (Kd.fresh' (Kd.R_lt z44x6) k_ hk_), (Kd.fresh' (Kd.R_lt z44x7) k_ hk_)⟩)) (below_size z44x1)); have n5_ := Aside0.mk (below_step z44x1 hb); clear HO_4; clear HO_6; clear HO_8; clear HO615; clear HB; have HO_4 := n0_; have HO_6 := n1_; have HO_8 := n2_; have HO615 := n3_; have HO619 := n4_; have HB := n5_; clear n0_ n1_ n2_ n3_ n4_ n5_; (try clear hb); (try clear hb2); (try clear hk); (try clear hi); (try clear ho0); obtain ⟨Ao39, co39, eo39⟩ := Kd.V_slice HO619.out; subst eo39))
          go_ret
          exact ⟨by first | rfl | (simp [errW_none, errW_some] <;> rfl) | (simp [*, errW_none, errW_some] <;> rfl), by repeat (first | (with_reducible first | exact HB.out | apply below_alloc | apply pw_below_drewN | apply below_drew1) | exact HB.out)⟩
         ·replace c32 := Bool.eq_false_iff.mpr c32
          subst c32
          rw [if_neg (show ¬ (false = true) by decide)] at H
          obtain rfl := Option.some.inj H
          obtain ⟨Ao40, co40, eo40⟩ := Kd.R_slice HO_6.out
          subst eo40
          go_wp2_with (first | ((with_reducible refine gate_callee (f := 38) rfl ?_); refine goesL_ (some 57) rfl rfl Try.func38 (by kernel_rfl) rfl #[.slice Ao40 x6_1.length co40, .slice Ao10 t586.length co10] rfl z44x0 ?_; (with_reducible refine (impl_KnowRead.calls _ _ x6_1 _ _ t586 t613 _ ?side1 ?side2 ?side3 ?side4 A30.out).mono ?_); (case side1 => repeat (first | exact (Kd.R_reads' HO_6.out).2.2 | (with_reducible refine Kd.C_alloc ?_ _) | (with_reducible refine Kd.C_drewN ?_ _) | (with_reducible refine Kd.C_drew ?_))); (case side2 => exact (Kd.R_reads' HO_6.out).2.1); (case side3 => repeat (first | exact (Kd.R_reads' HO_4.out).2.2 | (with_reducible refine Kd.C_alloc ?_ _) | (with_reducible refine Kd.C_drewN ?_ _) | (with_reducible refine Kd.C_drew ?_))); (case side4 => exact (Kd.R_reads' HO_4.out).2.1); rintro e w41 ⟨v614, rfl, ho0, hb⟩; refine ⟨_, rfl, ?_⟩; have n0_ := Aside0.mk (Kd.R_below z44x5 hb); have n1_ := Aside0.mk (Kd.R_below z44x6 hb); have n2_ := Aside0.mk (Kd.R_below z44x7 hb); have n3_ := Aside0.mk (Kd.V_lower (Kd.V_mono (ok' := fun k_ => some k_ ≠ (.slice Ao10 t586.length co10 : Value).ownBlock ∧ some k_ ≠ (.slice Ao40 x6_1.length co40 : Value).ownBlock ∧ some k_ ≠ (u8 : Value).ownBlock) ho0 (fun k_ hk_ => ⟨(Kd.fresh' (Kd.R_lt z44x5) k_ hk_), (Kd.fresh' (Kd.R_lt z44x6) k_ hk_), (Kd.fresh' (Kd.R_lt z44x7) k_ hk_)⟩)) (below_size z44x1)); have n4_ := Aside0.mk (below_step z44x1 hb); clear HO_4; clear HO_6; clear HO_8; clear HB; have HO_4 := n0_; have HO_6 := n1_; have HO_8 := n2_; have HO615 := n3_; have HB := n4_; clear n0_ n1_ n2_ n3_ n4_; (try clear hb); (try clear hb2); (try clear hk); (try clear hi); (try clear ho0); obtain ⟨Ao42, co42, eo42⟩ := Kd.V_slice HO615.out; subst eo42; obtain ⟨Ao43, co43, eo43⟩ := Kd.R_slice HO_8.out; subst eo43) | ((with_reducible refine gate_callee (f := 39) rfl ?_); refine goesL_ (some 59) rfl rfl Try.func39 (by kernel_rfl) rfl #[.slice Ao42 t613.length co42, .slice Ao43 x8_2.length co43] rfl z44x0 ?_; (with_reducible refine (laws_lbSeals.calls k2 _ _ t613 _ _ x8_2 false _ ?side1 ?side2 ?side3 ?side4 A31.out).mono ?_); (case side1 => repeat (first | exact (Kd.V_reads' HO615.out).2.2 | (with_reducible refine Kd.C_alloc ?_ _) | (with_reducible refine Kd.C_drewN ?_ _) | (with_reducible refine Kd.C_drew ?_))); (case side2 => exact (Kd.V_reads' HO615.out).2.1); (case side3 => repeat (first | exact (Kd.R_reads' HO_8.out).2.2 | (with_reducible refine Kd.C_alloc ?_ _) | (with_reducible refine Kd.C_drewN ?_ _) | (with_reducible refine Kd.C_drew ?_))); (case side4 => exact (Kd.R_reads' HO_8.out).2.1); rintro e w' ⟨rfl, ⟨nd, rfl⟩⟩; refine ⟨_, rfl, ?_⟩))
          go_ret
          exact ⟨by first | rfl | (simp [errW_none, errW_some] <;> rfl) | (simp [*, errW_none, errW_some] <;> rfl), by repeat (first | (with_reducible first | exact HB.out | apply below_alloc | apply pw_below_drewN | apply below_drew1) | exact HB.out)⟩
  ·replace c7 := Bool.eq_false_iff.mpr c7
   subst c7
   rw [if_neg (show ¬ (false = true) by decide)] at H
   obtain rfl := Option.some.inj H
   go_enter Try.func9, Try.ntmps9
   go_wp2_with (first | ((with_reducible refine gate_callee (f := 37) rfl ?_); refine goesL_ (some 15) rfl rfl Try.func37 (by kernel_rfl) rfl #[.slice A0 l0.length c0] rfl z44x0 ?_; (with_reducible refine (spec_DrawKnowRead.calls k _ _ l0 t585 t586 _ ?side1 ?side2 A3.out).mono ?_); (case side1 => repeat (first | exact HR0.out | (with_reducible refine Kd.C_alloc ?_ _) | (with_reducible refine Kd.C_drewN ?_ _) | (with_reducible refine Kd.C_drew ?_))); (case side2 => exact HC0.out); rintro e w44 ⟨v587, v589, rfl, ho0, ho1, hb⟩; refine ⟨_, rfl, ?_⟩; have n0_ := Aside0.mk (Kd.R_lower ho0 (below_size z44x1)); have n1_ := Aside0.mk (Kd.R_lower ho1 (below_size z44x1)); have n2_ := Aside0.mk (below_step z44x1 hb); clear HB; have HO588 := n0_; have HO590 := n1_; have HB := n2_; clear n0_ n1_ n2_; (try clear hb); (try clear hb2); (try clear hk); (try clear hi); (try clear ho0); (try clear ho1); obtain ⟨Ao45, co45, eo45⟩ := Kd.R_slice HO588.out; subst eo45; obtain ⟨Ao46, co46, eo46⟩ := Kd.R_slice HO590.out; subst eo46) | ((with_reducible refine gate_callee (f := 38) rfl ?_); refine goesL_ (some 20) rfl rfl Try.func38 (by kernel_rfl) rfl #[.slice Ao45 t585.length co45, .slice Ao46 t586.length co46] rfl z44x0 ?_; (with_reducible refine (impl_KnowRead.calls _ _ t585 _ _ t586 t591 _ ?side1 ?side2 ?side3 ?side4 A4.out).mono ?_); (case side1 => repeat (first | exact (Kd.R_reads' HO588.out).2.2 | (with_reducible refine Kd.C_alloc ?_ _) | (with_reducible refine Kd.C_drewN ?_ _) | (with_reducible refine Kd.C_drew ?_))); (case side2 => exact (Kd.R_reads' HO588.out).2.1); (case side3 => repeat (first | exact (Kd.R_reads' HO590.out).2.2 | (with_reducible refine Kd.C_alloc ?_ _) | (with_reducible refine Kd.C_drewN ?_ _) | (with_reducible refine Kd.C_drew ?_))); (case side4 => exact (Kd.R_reads' HO590.out).2.1); rintro e w47 ⟨v592, rfl, ho0, hb⟩; refine ⟨_, rfl, ?_⟩; have n0_ := Aside0.mk (Kd.R_below z44x2 hb); have n1_ := Aside0.mk (Kd.R_below z44x3 hb); have n2_ := Aside0.mk (Kd.V_lower (Kd.V_mono (ok' := fun k_ => some k_ ≠ (.slice Ao45 t585.length co45 : Value).ownBlock ∧ some k_ ≠ (.slice Ao46 t586.length co46 : Value).ownBlock) ho0 (fun k_ hk_ => ⟨(Kd.fresh' (Kd.R_lt z44x2) k_ hk_), (Kd.fresh' (Kd.R_lt z44x3) k_ hk_)⟩)) (below_size z44x1)); have n3_ := Aside0.mk (below_step z44x1 hb); clear HO588; clear HO590; clear HB; have HO588 := n0_; have HO590 := n1_; have HO593 := n2_; have HB := n3_; clear n0_ n1_ n2_ n3_; (try clear hb); (try clear hb2); (try clear hk); (try clear hi); (try clear ho0)) | ((with_reducible refine gate_callee (f := 40) rfl ?_); refine goesL_ (some 24) rfl rfl Try.func40 (by kernel_rfl) rfl #[.slice Ao45 t585.length co45, .slice Ao46 t586.length co46] rfl z44x0 ?_; (with_reducible refine (spec_KnowRead.calls k _ _ t585 _ _ t586 t594 _ ?side1 ?side2 ?side3 ?side4 A5.out).mono ?_); (case side1 => repeat (first | exact (Kd.R_reads' HO588.out).2.2 | (with_reducible refine Kd.C_alloc ?_ _) | (with_reducible refine Kd.C_drewN ?_ _) | (with_reducible refine Kd.C_drew ?_))); (case side2 => exact (Kd.R_reads' HO588.out).2.1); (case side3 => repeat (first | exact (Kd.R_reads' HO590.out).2.2 | (with_reducible refine Kd.C_alloc ?_ _) | (with_reducible refine Kd.C_drewN ?_ _) | (with_reducible refine Kd.C_drew ?_))); (case side4 => exact (Kd.R_reads' HO590.out).2.1); rintro e w48 ⟨v595, rfl, ho0, hb⟩; refine ⟨_, rfl, ?_⟩; have n0_ := Aside0.mk (Kd.R_below z44x2 hb); have n1_ := Aside0.mk (Kd.R_elder' z44x3 (Kd.R_base ho0) hb); have n2_ := Aside0.mk (Kd.V_elder' z44x4 (Kd.R_base ho0) hb); have n3_ := Aside0.mk (Kd.R_lower (Kd.R_new' ho0 (Kd.R_lt z44x3)) (below_size z44x1)); have n4_ := Aside0.mk (below_step z44x1 hb); clear HO588; clear HO590; clear HO593; clear HB; have HO588 := n0_; have HO590 := n1_; have HO593 := n2_; have HO596 := n3_; have HB := n4_; clear n0_ n1_ n2_ n3_ n4_; (try clear hb); (try clear hb2); (try clear hk); (try clear hi); (try clear ho0); obtain ⟨Ao49, co49, eo49⟩ := Kd.V_slice HO593.out; subst eo49; obtain ⟨Ao50, co50, eo50⟩ := Kd.R_slice HO596.out; subst eo50) | ((with_reducible refine gate_callee (f := 39) rfl ?_); refine goesL_ (some 25) rfl rfl Try.func39 (by kernel_rfl) rfl #[.slice Ao49 t591.length co49, .slice Ao50 t594.length co50] rfl z44x0 ?_; (with_reducible refine (laws_lbSeals.calls k _ _ t591 _ _ t594 false _ ?side1 ?side2 ?side3 ?side4 A6.out).mono ?_); (case side1 => repeat (first | exact (Kd.V_reads' HO593.out).2.2 | (with_reducible refine Kd.C_alloc ?_ _) | (with_reducible refine Kd.C_drewN ?_ _) | (with_reducible refine Kd.C_drew ?_))); (case side2 => exact (Kd.V_reads' HO593.out).2.1); (case side3 => repeat (first | exact (Kd.R_reads' HO596.out).2.2 | (with_reducible refine Kd.C_alloc ?_ _) | (with_reducible refine Kd.C_drewN ?_ _) | (with_reducible refine Kd.C_drew ?_))); (case side4 => exact (Kd.R_reads' HO596.out).2.1); rintro e w' ⟨rfl, ⟨nd, rfl⟩⟩; refine ⟨_, rfl, ?_⟩))
   go_ret
   exact ⟨by first | rfl | (simp [errW_none, errW_some] <;> rfl) | (simp [*, errW_none, errW_some] <;> rfl), by repeat (first | (with_reducible first | exact HB.out | apply below_alloc | apply pw_below_drewN | apply below_drew1) | exact HB.out)⟩

/-- THE ONE PURE STATEMENT of laws_FnKnowAll: yours. -/
def laws_FnKnowAll.Pure : Prop := ∀ (l0 : List Int), l0.length ≤ maxLen → l0.length * 1 ≤ 140737488351232 → (∀ x ∈ l0, (Lit.int .u8 x).wf = true) → ∃ k, laws_FnKnowAll.f k l0 = some true
theorem laws_FnKnowAll.walk (P : laws_FnKnowAll.Pure) (a0 : Option Addr) (len0 cap0 : Nat) (z0 : List Int) (w : World) (w0 : (a0 = none ∧ len0 = 0 ∧ cap0 = 0 ∧ z0 = []) ∨ ∃ x, a0 = some x ∧ len0 ≤ cap0 ∧ cap0 ≤ maxLen ∧ z0.length = cap0 ∧ (∀ i, i < z0.length → w.cell? (x.add i) = some (.int .u8 (z0.getD i 0))) ∧ ∀ n ∈ z0, (Lit.int .u8 n).wf = true) (y0 : len0 * 1 ≤ 140737488351232) :
  Calls Try.prog 9 #[.slice a0 len0 cap0] w fun e w' => e = .returned (.bool true) ∧ Below w.heap.size w w' := by
 obtain ⟨l0, rfl, hr0, hm0, hw0, hc0⟩ := ReadsInt.ofRowC w0
 obtain ⟨k, h⟩ := P l0 hm0 y0 hw0
 refine (laws_FnKnowAll.calls k _ _ l0 true w (Kd.C_of_reads (d := (0 : Int)) (h1 := fun _ => rfl) hr0) hc0 h).mono ?_
 rintro e w' ⟨rfl, hd⟩
 exact ⟨rfl, hd⟩

end Go.Proofs.Ytbiknbjcidlabaa.Hp
