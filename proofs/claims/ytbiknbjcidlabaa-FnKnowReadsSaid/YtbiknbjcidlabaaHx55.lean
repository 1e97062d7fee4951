-- Printed by wip/tools/hp.py of this session (the kit's print.py, with contracts typed by hand beside).
import Derived.Test.YtbiknbjcidlabaaHx0
import Derived.Test.YtbiknbjcidlabaaHx12
import Derived.Test.YtbiknbjcidlabaaHx35
import Derived.Test.YtbiknbjcidlabaaHx40
import Derived.Test.YtbiknbjcidlabaaHx41
import Derived.Test.YtbiknbjcidlabaaHx42
import Derived.Test.YtbiknbjcidlabaaHx43
import Derived.Test.YtbiknbjcidlabaaHx45
namespace Go.Proofs.Ytbiknbjcidlabaa.Hp
open Go.RowKit Go.Proofs.YtbiknbjcidlabaaW.PrintWords Go.Proofs.YtbiknbjcidlabaaW.PrintLast Go.Proofs.YtbiknbjcidlabaaW.PrintMore
attribute [local go_sem] max2_int min2_int max_two min_two max_three min_three max_four min_four   -- for this text's walks alone
set_option linter.unusedVariables false
set_option linter.unusedSimpArgs false
-- squeezed by wip/tools/squeeze.py
theorem z55x7 {P : Prop} (h : P := by (with_reducible repeat (first | apply Kd.V_alloc | apply Kd.V_drewN | apply Kd.V_drew)); exact HO_6.out) : P := h
theorem z55x6 {P : Prop} (h : P := by (with_reducible repeat (first | apply Kd.V_alloc | apply Kd.V_drewN | apply Kd.V_drew)); exact HO_5.out) : P := h
theorem z55x5 {P : Prop} (h : P := by (with_reducible repeat (first | apply Kd.R_alloc | apply Kd.R_drewN | apply Kd.R_drew)); exact HO_4.out) : P := h
theorem z55x4 {P : Prop} (h : P := by (with_reducible repeat (first | apply Kd.V_alloc | apply Kd.V_drewN | apply Kd.V_drew)); exact HO823.out) : P := h
theorem z55x3 {P : Prop} (h : P := by (with_reducible repeat (first | apply Kd.R_alloc | apply Kd.R_drewN | apply Kd.R_drew)); exact HO820.out) : P := h
theorem z55x2 {P : Prop} (h : P := by (with_reducible repeat (first | apply Kd.R_alloc | apply Kd.R_drewN | apply Kd.R_drew)); exact HO818.out) : P := h
theorem z55x1 {P : Prop} (h : P := by repeat (first | (with_reducible first | exact HB.out | apply below_alloc | apply pw_below_drewN | apply below_drew1) | exact HB.out)) : P := h
theorem z55x0 {P : Prop} (h : P := by (try simp only [List.map_toArray, List.map_cons, List.map_nil]); first | done | rfl | (simp only [List.length_drop, List.length_take]; rfl)) : P := h

/-! ### laws_FnKnowReads: function 15 -/
def laws_FnKnowReads.l0 : Nat → List (S24) → List (S24) → List Int → Int → Option (Bool)
 | 0, _, _, _, _ => none
 | k + 1, x4, x5, x6, x7 => if x7 < (x5.length : Int) then (if 0 ≤ x7 then ((impl_SealHolds.f ((rd_T24 x5 x7).f0) ((rd_T24 x5 x7).f1) ((rd_T24 x5 x7).f2) ((rd_T24 x5 x7).f3) ((rd_T24 x5 x7).f4) ((rd_T24 x5 x7).f5) ((rd_T24 x5 x7).f6)).bind fun t836 => (if t836 > 0 then ((laws_lbHas.f k x6 t836).bind fun t837 => (if t837 = true then (laws_FnKnowReads.l0 k x4 x5 x6 (wrap64 (x7 + 1))) else (some false))) else (laws_FnKnowReads.l0 k x4 x5 x6 (wrap64 (x7 + 1))))) else (none)) else ((impl_KnowRead.f x6 x4).bind fun t831 => ((laws_lbSeals.f k t831 x5).bind fun t834 => (some t834)))
def laws_FnKnowReads.f (k : Nat) (l0 : List Int) : Option (Bool) := if (l0.length : Int) > 1048576 then (some true) else ((spec_DrawKnowRead.f k l0).bind fun bt815 => ((impl_KnowRead.f bt815.1 bt815.2).bind fun t821 => ((spec_KnowRead.f k bt815.1 bt815.2).bind fun t824 => ((laws_lbSeals.f k t821 t824).bind fun t827 => (if t827 = true then ((impl_KnowKeys.f bt815.1 bt815.2).bind fun t828 => (laws_FnKnowReads.l0 k bt815.2 t821 t828 0)) else (some false))))))
theorem laws_FnKnowReads.mono_l : ∀ k, (∀ y0 y1 y2 y3, LeO (laws_FnKnowReads.l0 k y0 y1 y2 y3) (laws_FnKnowReads.l0 (k + 1) y0 y1 y2 y3))
 | 0 => fun _ _ _ _ r h => by simp [laws_FnKnowReads.l0] at h
 | k + 1 => by
  have ih0 := laws_FnKnowReads.mono_l k
  ·intro y0 y1 y2 y3
   unfold laws_FnKnowReads.l0
   repeat' first
   | (with_reducible exact ih0 _ _ _ _)
   | (with_reducible exact laws_lbHas.mono _ _ _)
   | (with_reducible exact laws_lbSeals.mono _ _ _)
   | (with_reducible exact spec_DrawKnowRead.mono _ _)
   | (with_reducible exact spec_KnowRead.mono _ _ _)
   | (with_reducible exact LeO.refl _)
   | (with_reducible exact LeO.none _)
   | (with_reducible refine LeO.ite ?_ ?_)
   | (with_reducible refine LeO.bind ?_ (fun _ => ?_))
   | exact ih0 _ _ _ _
   | exact laws_lbHas.mono _ _ _
   | exact laws_lbSeals.mono _ _ _
   | exact spec_DrawKnowRead.mono _ _
   | exact spec_KnowRead.mono _ _ _
   | exact LeO.none _
   | refine LeO.ite ?_ ?_
   | refine LeO.bind ?_ (fun _ => ?_)
theorem laws_FnKnowReads.mono : ∀ a0 k, LeO (laws_FnKnowReads.f k a0) (laws_FnKnowReads.f (k + 1) a0) := by
 intro a0 k
 have ih0 := laws_FnKnowReads.mono_l k
 unfold laws_FnKnowReads.f
 repeat' first
   | (with_reducible exact ih0 _ _ _ _)
   | (with_reducible exact laws_lbHas.mono _ _ _)
   | (with_reducible exact laws_lbSeals.mono _ _ _)
   | (with_reducible exact spec_DrawKnowRead.mono _ _)
   | (with_reducible exact spec_KnowRead.mono _ _ _)
   | (with_reducible exact LeO.refl _)
   | (with_reducible exact LeO.none _)
   | (with_reducible refine LeO.ite ?_ ?_)
   | (with_reducible refine LeO.bind ?_ (fun _ => ?_))
   | exact ih0 _ _ _ _
   | exact laws_lbHas.mono _ _ _
   | exact laws_lbSeals.mono _ _ _
   | exact spec_DrawKnowRead.mono _ _
   | exact spec_KnowRead.mono _ _ _
   | exact LeO.none _
   | refine LeO.ite ?_ ?_
   | refine LeO.bind ?_ (fun _ => ?_)
set_option maxHeartbeats 8000000 in
set_option maxRecDepth 100000 in
theorem laws_FnKnowReads.calls (k : Nat) (A0 : Option Addr) (c0 : Nat) (l0 : List Int) (r : Bool) (w : World) (hr0 : Kd.C (Kd.int .u8) w A0 l0.length l0) (hc0 : l0.length ≤ c0) (h : laws_FnKnowReads.f k l0 = some r) :
  Calls Try.prog 15 #[.slice A0 l0.length c0] w fun e w' => e = .returned (.bool r) ∧ Below w.heap.size w w' := by
 have hu24 := Try.underlying24
 have HR0 := Aside0.mk hr0
 have HC0 := Aside0.mk hc0
 clear hr0 hc0
 have HB := Aside0.mk (Below.refl w.heap.size w)
 have H : (if (l0.length : Int) > 1048576 then (some true) else ((spec_DrawKnowRead.f k l0).bind fun bt815 => ((impl_KnowRead.f bt815.1 bt815.2).bind fun t821 => ((spec_KnowRead.f k bt815.1 bt815.2).bind fun t824 => ((laws_lbSeals.f k t821 t824).bind fun t827 => (if t827 = true then ((impl_KnowKeys.f bt815.1 bt815.2).bind fun t828 => (laws_FnKnowReads.l0 k bt815.2 t821 t828 0)) else (some false))))))) = some r := h
 clear h
 by_cases c2 : (l0.length : Int) > 1048576
 ·rw [if_pos c2] at H
  have c2b0 : decide (1048576 < (l0.length : Int)) = true := decide_eq_true c2
  have c2b1 : decide (1048576 < l0.length) = true := decide_eq_true (by omega)
  clear c2
  obtain rfl := Option.some.inj H
  go_enter Try.func15, Try.ntmps15
  go_wp2
  go_ret
  exact ⟨by first | rfl | (simp [errW_none, errW_some] <;> rfl) | (simp [*, errW_none, errW_some] <;> rfl), by repeat (first | (with_reducible first | exact HB.out | apply below_alloc | apply pw_below_drewN | apply below_drew1) | exact HB.out)⟩
 ·rw [if_neg c2] at H
  have c2b0 : decide (1048576 < (l0.length : Int)) = false := decide_eq_false c2
  have c2b1 : decide (1048576 < l0.length) = false := decide_eq_false (by omega)
  clear c2
  replace H := Option.bind_eq_some_iff.mp H
  obtain ⟨⟨t815, t816⟩, A30, H⟩ := H
  replace H : ((impl_KnowRead.f t815 t816).bind fun t821 => ((spec_KnowRead.f k t815 t816).bind fun t824 => ((laws_lbSeals.f k t821 t824).bind fun t827 => (if t827 = true then ((impl_KnowKeys.f t815 t816).bind fun t828 => (laws_FnKnowReads.l0 k t816 t821 t828 0)) else (some false))))) = some r := H
  have A3 := Aside0.mk A30
  clear A30
  replace H := Option.bind_eq_some_iff.mp H
  obtain ⟨t821, A40, H⟩ := H
  replace H : ((spec_KnowRead.f k t815 t816).bind fun t824 => ((laws_lbSeals.f k t821 t824).bind fun t827 => (if t827 = true then ((impl_KnowKeys.f t815 t816).bind fun t828 => (laws_FnKnowReads.l0 k t816 t821 t828 0)) else (some false)))) = some r := H
  have A4 := Aside0.mk A40
  clear A40
  replace H := Option.bind_eq_some_iff.mp H
  obtain ⟨t824, A50, H⟩ := H
  replace H : ((laws_lbSeals.f k t821 t824).bind fun t827 => (if t827 = true then ((impl_KnowKeys.f t815 t816).bind fun t828 => (laws_FnKnowReads.l0 k t816 t821 t828 0)) else (some false))) = some r := H
  have A5 := Aside0.mk A50
  clear A50
  replace H := Option.bind_eq_some_iff.mp H
  obtain ⟨t827, A60, H⟩ := H
  replace H : (if t827 = true then ((impl_KnowKeys.f t815 t816).bind fun t828 => (laws_FnKnowReads.l0 k t816 t821 t828 0)) else (some false)) = some r := H
  have A6 := Aside0.mk A60
  clear A60
  by_cases c7 : t827 = true
  ·subst c7
   rw [if_pos rfl] at H
   replace H := Option.bind_eq_some_iff.mp H
   obtain ⟨t828, A80, H⟩ := H
   replace H : (laws_FnKnowReads.l0 k t816 t821 t828 0) = some r := H
   have A8 := Aside0.mk A80
   clear A80
   have H' := Aside0.mk H
   clear H
   go_enter Try.func15, Try.ntmps15
   go_wp2_with (first | ((with_reducible refine gate_callee (f := 37) rfl ?_); refine goesL_ (some 14) rfl rfl Try.func37 (by kernel_rfl) rfl #[.slice A0 l0.length c0] rfl z55x0 ?_; (with_reducible refine (spec_DrawKnowRead.calls k _ _ l0 t815 t816 _ ?side1 ?side2 A3.out).mono ?_); (case side1 => repeat (first | exact HR0.out | (with_reducible refine Kd.C_alloc ?_ _) | (with_reducible refine Kd.C_drewN ?_ _) | (with_reducible refine Kd.C_drew ?_))); (case side2 => exact HC0.out); rintro e w9 ⟨v817, v819, rfl, ho0, ho1, hb⟩; refine ⟨_, rfl, ?_⟩; have n0_ := Aside0.mk (Kd.R_lower ho0 (below_size z55x1)); have n1_ := Aside0.mk (Kd.R_lower ho1 (below_size z55x1)); have n2_ := Aside0.mk (below_step z55x1 hb); clear HB; have HO818 := n0_; have HO820 := n1_; have HB := n2_; clear n0_ n1_ n2_; (try clear hb); (try clear hb2); (try clear hk); (try clear hi); (try clear ho0); (try clear ho1); obtain ⟨Ao10, co10, eo10⟩ := Kd.R_slice HO818.out; subst eo10; obtain ⟨Ao11, co11, eo11⟩ := Kd.R_slice HO820.out; subst eo11) | ((with_reducible refine gate_callee (f := 38) rfl ?_); refine goesL_ (some 19) rfl rfl Try.func38 (by kernel_rfl) rfl #[.slice Ao10 t815.length co10, .slice Ao11 t816.length co11] rfl z55x0 ?_; (with_reducible refine (impl_KnowRead.calls _ _ t815 _ _ t816 t821 _ ?side1 ?side2 ?side3 ?side4 A4.out).mono ?_); (case side1 => repeat (first | exact (Kd.R_reads' HO818.out).2.2 | (with_reducible refine Kd.C_alloc ?_ _) | (with_reducible refine Kd.C_drewN ?_ _) | (with_reducible refine Kd.C_drew ?_))); (case side2 => exact (Kd.R_reads' HO818.out).2.1); (case side3 => repeat (first | exact (Kd.R_reads' HO820.out).2.2 | (with_reducible refine Kd.C_alloc ?_ _) | (with_reducible refine Kd.C_drewN ?_ _) | (with_reducible refine Kd.C_drew ?_))); (case side4 => exact (Kd.R_reads' HO820.out).2.1); rintro e w12 ⟨v822, rfl, ho0, hb⟩; refine ⟨_, rfl, ?_⟩; have n0_ := Aside0.mk (Kd.R_below z55x2 hb); have n1_ := Aside0.mk (Kd.R_below z55x3 hb); have n2_ := Aside0.mk (Kd.V_lower (Kd.V_mono (ok' := fun k_ => some k_ ≠ (.slice Ao10 t815.length co10 : Value).ownBlock ∧ some k_ ≠ (.slice Ao11 t816.length co11 : Value).ownBlock) ho0 (fun k_ hk_ => ⟨(Kd.fresh' (Kd.R_lt z55x2) k_ hk_), (Kd.fresh' (Kd.R_lt z55x3) k_ hk_)⟩)) (below_size z55x1)); have n3_ := Aside0.mk (below_step z55x1 hb); clear HO818; clear HO820; clear HB; have HO818 := n0_; have HO820 := n1_; have HO823 := n2_; have HB := n3_; clear n0_ n1_ n2_ n3_; (try clear hb); (try clear hb2); (try clear hk); (try clear hi); (try clear ho0)) | ((with_reducible refine gate_callee (f := 40) rfl ?_); refine goesL_ (some 23) rfl rfl Try.func40 (by kernel_rfl) rfl #[.slice Ao10 t815.length co10, .slice Ao11 t816.length co11] rfl z55x0 ?_; (with_reducible refine (spec_KnowRead.calls k _ _ t815 _ _ t816 t824 _ ?side1 ?side2 ?side3 ?side4 A5.out).mono ?_); (case side1 => repeat (first | exact (Kd.R_reads' HO818.out).2.2 | (with_reducible refine Kd.C_alloc ?_ _) | (with_reducible refine Kd.C_drewN ?_ _) | (with_reducible refine Kd.C_drew ?_))); (case side2 => exact (Kd.R_reads' HO818.out).2.1); (case side3 => repeat (first | exact (Kd.R_reads' HO820.out).2.2 | (with_reducible refine Kd.C_alloc ?_ _) | (with_reducible refine Kd.C_drewN ?_ _) | (with_reducible refine Kd.C_drew ?_))); (case side4 => exact (Kd.R_reads' HO820.out).2.1); rintro e w13 ⟨v825, rfl, ho0, hb⟩; refine ⟨_, rfl, ?_⟩; have n0_ := Aside0.mk (Kd.R_below z55x2 hb); have n1_ := Aside0.mk (Kd.R_elder' z55x3 (Kd.R_base ho0) hb); have n2_ := Aside0.mk (Kd.V_elder' z55x4 (Kd.R_base ho0) hb); have n3_ := Aside0.mk (Kd.R_lower (Kd.R_new' ho0 (Kd.R_lt z55x3)) (below_size z55x1)); have n4_ := Aside0.mk (below_step z55x1 hb); clear HO818; clear HO820; clear HO823; clear HB; have HO818 := n0_; have HO820 := n1_; have HO823 := n2_; have HO826 := n3_; have HB := n4_; clear n0_ n1_ n2_ n3_ n4_; (try clear hb); (try clear hb2); (try clear hk); (try clear hi); (try clear ho0); obtain ⟨Ao14, co14, eo14⟩ := Kd.V_slice HO823.out; subst eo14; obtain ⟨Ao15, co15, eo15⟩ := Kd.R_slice HO826.out; subst eo15) | ((with_reducible refine gate_callee (f := 39) rfl ?_); refine goesL_ (some 24) rfl rfl Try.func39 (by kernel_rfl) rfl #[.slice Ao14 t821.length co14, .slice Ao15 t824.length co15] rfl z55x0 ?_; (with_reducible refine (laws_lbSeals.calls k _ _ t821 _ _ t824 true _ ?side1 ?side2 ?side3 ?side4 A6.out).mono ?_); (case side1 => repeat (first | exact (Kd.V_reads' HO823.out).2.2 | (with_reducible refine Kd.C_alloc ?_ _) | (with_reducible refine Kd.C_drewN ?_ _) | (with_reducible refine Kd.C_drew ?_))); (case side2 => exact (Kd.V_reads' HO823.out).2.1); (case side3 => repeat (first | exact (Kd.R_reads' HO826.out).2.2 | (with_reducible refine Kd.C_alloc ?_ _) | (with_reducible refine Kd.C_drewN ?_ _) | (with_reducible refine Kd.C_drew ?_))); (case side4 => exact (Kd.R_reads' HO826.out).2.1); rintro e w' ⟨rfl, ⟨nd, rfl⟩⟩; refine ⟨_, rfl, ?_⟩) | ((with_reducible refine gate_callee (f := 34) rfl ?_); refine goesL_ (some 28) rfl rfl Try.func34 (by kernel_rfl) rfl #[.slice Ao10 t815.length co10, .slice Ao11 t816.length co11] rfl z55x0 ?_; (with_reducible refine (impl_KnowKeys.calls _ _ t815 _ _ t816 t828 _ ?side1 ?side2 ?side3 ?side4 A8.out).mono ?_); (case side1 => repeat (first | exact (Kd.R_reads' HO818.out).2.2 | (with_reducible refine Kd.C_alloc ?_ _) | (with_reducible refine Kd.C_drewN ?_ _) | (with_reducible refine Kd.C_drew ?_))); (case side2 => exact (Kd.R_reads' HO818.out).2.1); (case side3 => repeat (first | exact (Kd.R_reads' HO820.out).2.2 | (with_reducible refine Kd.C_alloc ?_ _) | (with_reducible refine Kd.C_drewN ?_ _) | (with_reducible refine Kd.C_drew ?_))); (case side4 => exact (Kd.R_reads' HO820.out).2.1); rintro e w16 ⟨v829, rfl, ho0, hb⟩; refine ⟨_, rfl, ?_⟩; have n0_ := Aside0.mk (Kd.R_below z55x2 hb); have n1_ := Aside0.mk (Kd.R_below z55x3 hb); have n2_ := Aside0.mk (Kd.V_below z55x4 hb); have n3_ := Aside0.mk (Kd.R_below (by (with_reducible repeat (first | apply Kd.R_alloc | apply Kd.R_drewN | apply Kd.R_drew)); exact HO826.out) hb); have n4_ := Aside0.mk (Kd.V_lower (Kd.V_mono (ok' := fun k_ => some k_ ≠ (.slice Ao10 t815.length co10 : Value).ownBlock ∧ some k_ ≠ (.slice Ao11 t816.length co11 : Value).ownBlock ∧ some k_ ≠ (.slice Ao15 t824.length co15 : Value).ownBlock) ho0 (fun k_ hk_ => ⟨(Kd.fresh' (Kd.R_lt z55x2) k_ hk_), (Kd.fresh' (Kd.R_lt z55x3) k_ hk_), (Kd.fresh' (Kd.R_lt (by (with_reducible repeat (first | apply Kd.R_alloc | apply Kd.R_drewN | apply Kd.R_drew)); exact HO826.out)) k_ hk_)⟩)) (below_size z55x1)); have n5_ := Aside0.mk (below_step z55x1 hb); clear HO818; clear HO820; clear HO823; clear HO826; clear HB; have HO818 := n0_; have HO820 := n1_; have HO823 := n2_; have HO826 := n3_; have HO830 := n4_; have HB := n5_; clear n0_ n1_ n2_ n3_ n4_ n5_; (try clear hb); (try clear hb2); (try clear hk); (try clear hi); (try clear ho0)))
   go_loopg [7] k (fun kq v7 w' => ∃ (x7_1 : Int), v7 = .int .i64 x7_1 ∧ Aside0 (laws_FnKnowReads.l0 kq t816 t821 t828 x7_1 = some r) ∧ Aside0 (kq ≤ k) ∧ Aside0 (Kd.R k24 24 w' w.heap.size (fun _ => True) (.slice Ao11 t816.length co11) t816) ∧ Aside0 (Kd.V k24 24 w' w.heap.size (fun k_ => some k_ ≠ ((.slice Ao11 t816.length co11) : Value).ownBlock) (.slice Ao14 t821.length co14) t821) ∧ Aside0 (Kd.V (Kd.int .i64) 3 w' w.heap.size (fun k_ => some k_ ≠ ((.slice Ao11 t816.length co11) : Value).ownBlock) v829 t828) ∧ Aside0 (Below w.heap.size w w'))
   case atStart => exact ⟨(0), (by first | rfl | (simp; done) | (simp [*]; done)), H', ⟨Nat.le_refl _⟩, ⟨by (with_reducible repeat (first | apply Kd.R_alloc | apply Kd.R_drewN | apply Kd.R_drew)); exact Kd.R_mono HO820.out (fun _ hk => trivial)⟩, ⟨by (with_reducible repeat (first | apply Kd.V_alloc | apply Kd.V_drewN | apply Kd.V_drew)); exact Kd.V_mono HO823.out (fun _ hk => hk.1.2)⟩, ⟨by (with_reducible repeat (first | apply Kd.V_alloc | apply Kd.V_drewN | apply Kd.V_drew)); exact Kd.V_mono HO830.out (fun _ hk => hk.2.1)⟩, ⟨by repeat (first | (with_reducible first | exact HB.out | apply below_alloc | apply pw_below_drewN | apply below_drew1) | exact HB.out)⟩⟩
   case round =>
    clear H'
    try clear c1
    try clear c2
    try clear c2b0
    try clear c2b1
    try clear p2
    try clear c3
    try clear c4
    try clear c7
    try clear c15
    obtain ⟨x7_1, rfl, HA, HK1, HO_4, HO_5, HO_6, HB⟩ := hrel
    cases gk with
    | zero => exact absurd HA.out (by simp [laws_FnKnowReads.l0])
    | succ k1 =>
     have H := HA.out
     clear HA
     simp only [laws_FnKnowReads.l0] at H
     by_cases c17 : x7_1 < (t821.length : Int)
     ·rw [if_pos c17] at H
      have c17b0 : decide (x7_1 < (t821.length : Int)) = true := decide_eq_true c17
      clear c17
      by_cases c18 : 0 ≤ x7_1
      ·rw [if_pos c18] at H
       have c18b0 : decide (0 ≤ x7_1) = true := decide_eq_true c18
       clear c18
       replace H := Option.bind_eq_some_iff.mp H
       obtain ⟨t836, A190, H⟩ := H
       replace H : (if t836 > 0 then ((laws_lbHas.f k1 t828 t836).bind fun t837 => (if t837 = true then (laws_FnKnowReads.l0 k1 t816 t821 t828 (wrap64 (x7_1 + 1))) else (some false))) else (laws_FnKnowReads.l0 k1 t816 t821 t828 (wrap64 (x7_1 + 1)))) = some r := H
       have A19 := Aside0.mk A190
       clear A190
       by_cases c20 : t836 > 0
       ·rw [if_pos c20] at H
        have c20b0 : decide (0 < t836) = true := decide_eq_true c20
        clear c20
        replace H := Option.bind_eq_some_iff.mp H
        obtain ⟨t837, A210, H⟩ := H
        replace H : (if t837 = true then (laws_FnKnowReads.l0 k1 t816 t821 t828 (wrap64 (x7_1 + 1))) else (some false)) = some r := H
        have A21 := Aside0.mk A210
        clear A210
        by_cases c22 : t837 = true
        ·subst c22
         rw [if_pos rfl] at H
         have H' := Aside0.mk H
         clear H
         have p835 : 0 ≤ (x7_1 : Int) := of_decide_eq_true (by first | (with_reducible assumption) | assumption)
         have q835 : x7_1 < (t821.length : Int) := of_decide_eq_true (by first | (with_reducible assumption) | assumption)
         obtain ⟨ad835, e835, hx835_0, hx835_1, hx835_2, hx835_3, hx835_4, hx835_5, hx835_6⟩ := at_T24 (Kd.V_reads' HO_5.out).2.2 x7_1 p835 q835
         cases e835
         replace p835 := eq_true p835
         replace q835 := eq_true q835
         go_wp2_with (first | ((with_reducible refine gate_callee (f := 23) rfl ?_); refine goesL_ (some 39) rfl rfl Try.func23 (by kernel_rfl) rfl #[.agg #[.int .i64 ((rd_T24 t821 x7_1).f0), .int .i64 ((rd_T24 t821 x7_1).f1), .int .i64 ((rd_T24 t821 x7_1).f2), .int .i64 ((rd_T24 t821 x7_1).f3), .int .i64 ((rd_T24 t821 x7_1).f4), .int .i64 ((rd_T24 t821 x7_1).f5), .int .i64 ((rd_T24 t821 x7_1).f6)]] rfl z55x0 ?_; (with_reducible refine (impl_SealHolds.calls ((rd_T24 t821 x7_1).f0) ((rd_T24 t821 x7_1).f1) ((rd_T24 t821 x7_1).f2) ((rd_T24 t821 x7_1).f3) ((rd_T24 t821 x7_1).f4) ((rd_T24 t821 x7_1).f5) ((rd_T24 t821 x7_1).f6) t836 _ A19.out).mono ?_); rintro e w23 ⟨rfl, hb⟩; refine ⟨_, rfl, ?_⟩; have n0_ := Aside0.mk (Kd.R_below z55x5 hb); have n1_ := Aside0.mk (Kd.V_below z55x6 hb); have n2_ := Aside0.mk (Kd.V_below z55x7 hb); have n3_ := Aside0.mk (below_step z55x1 hb); clear HO_4; clear HO_5; clear HO_6; clear HB; have HO_4 := n0_; have HO_5 := n1_; have HO_6 := n2_; have HB := n3_; clear n0_ n1_ n2_ n3_; (try clear hb); (try clear hb2); (try clear hk); (try clear hi); obtain ⟨Ao24, co24, eo24⟩ := Kd.V_slice HO_6.out; subst eo24) | (go_at_call 41; (with_reducible refine (laws_lbHas.calls k1 _ _ t828 t836 true _ ?side1 ?side2 A21.out).mono ?_); (case side1 => repeat (first | exact (Kd.V_reads' HO_6.out).2.2 | (with_reducible refine Kd.C_alloc ?_ _) | (with_reducible refine Kd.C_drewN ?_ _) | (with_reducible refine Kd.C_drew ?_))); (case side2 => exact (Kd.V_reads' HO_6.out).2.1); rintro e w' ⟨rfl, ⟨nd, rfl⟩⟩))
         go_roundg k1
         case measure => have := HK1.out; omega
         case rel => exact ⟨(wrap64 (x7_1 + 1)), (by first | rfl | (simp; done) | (simp [*]; done)), H', ⟨by have := HK1.out; omega⟩, ⟨by (with_reducible repeat (first | apply Kd.R_alloc | apply Kd.R_drewN | apply Kd.R_drew)); exact HO_4.out⟩, ⟨by (with_reducible repeat (first | apply Kd.V_alloc | apply Kd.V_drewN | apply Kd.V_drew)); exact HO_5.out⟩, ⟨by (with_reducible repeat (first | apply Kd.V_alloc | apply Kd.V_drewN | apply Kd.V_drew)); exact HO_6.out⟩, ⟨by repeat (first | (with_reducible first | exact HB.out | apply below_alloc | apply pw_below_drewN | apply below_drew1) | exact HB.out)⟩⟩
        ·replace c22 := Bool.eq_false_iff.mpr c22
         subst c22
         rw [if_neg (show ¬ (false = true) by decide)] at H
         obtain rfl := Option.some.inj H
         have p835 : 0 ≤ (x7_1 : Int) := of_decide_eq_true (by first | (with_reducible assumption) | assumption)
         have q835 : x7_1 < (t821.length : Int) := of_decide_eq_true (by first | (with_reducible assumption) | assumption)
         obtain ⟨ad835, e835, hx835_0, hx835_1, hx835_2, hx835_3, hx835_4, hx835_5, hx835_6⟩ := at_T24 (Kd.V_reads' HO_5.out).2.2 x7_1 p835 q835
         cases e835
         replace p835 := eq_true p835
         replace q835 := eq_true q835
         go_wp2_with (first | ((with_reducible refine gate_callee (f := 23) rfl ?_); refine goesL_ (some 39) rfl rfl Try.func23 (by kernel_rfl) rfl #[.agg #[.int .i64 ((rd_T24 t821 x7_1).f0), .int .i64 ((rd_T24 t821 x7_1).f1), .int .i64 ((rd_T24 t821 x7_1).f2), .int .i64 ((rd_T24 t821 x7_1).f3), .int .i64 ((rd_T24 t821 x7_1).f4), .int .i64 ((rd_T24 t821 x7_1).f5), .int .i64 ((rd_T24 t821 x7_1).f6)]] rfl z55x0 ?_; (with_reducible refine (impl_SealHolds.calls ((rd_T24 t821 x7_1).f0) ((rd_T24 t821 x7_1).f1) ((rd_T24 t821 x7_1).f2) ((rd_T24 t821 x7_1).f3) ((rd_T24 t821 x7_1).f4) ((rd_T24 t821 x7_1).f5) ((rd_T24 t821 x7_1).f6) t836 _ A19.out).mono ?_); rintro e w25 ⟨rfl, hb⟩; refine ⟨_, rfl, ?_⟩; have n0_ := Aside0.mk (Kd.R_below z55x5 hb); have n1_ := Aside0.mk (Kd.V_below z55x6 hb); have n2_ := Aside0.mk (Kd.V_below z55x7 hb); have n3_ := Aside0.mk (below_step z55x1 hb); clear HO_4; clear HO_5; clear HO_6; clear HB; have HO_4 := n0_; have HO_5 := n1_; have HO_6 := n2_; have HB := n3_; clear n0_ n1_ n2_ n3_; (try clear hb); (try clear hb2); (try clear hk); (try clear hi); obtain ⟨Ao26, co26, eo26⟩ := Kd.V_slice HO_6.out; subst eo26) | (go_at_call 41; (with_reducible refine (laws_lbHas.calls k1 _ _ t828 t836 false _ ?side1 ?side2 A21.out).mono ?_); (case side1 => repeat (first | exact (Kd.V_reads' HO_6.out).2.2 | (with_reducible refine Kd.C_alloc ?_ _) | (with_reducible refine Kd.C_drewN ?_ _) | (with_reducible refine Kd.C_drew ?_))); (case side2 => exact (Kd.V_reads' HO_6.out).2.1); rintro e w' ⟨rfl, ⟨nd, rfl⟩⟩))
         go_ret
         exact ⟨by first | rfl | (simp [errW_none, errW_some] <;> rfl) | (simp [*, errW_none, errW_some] <;> rfl), by repeat (first | (with_reducible first | exact HB.out | apply below_alloc | apply pw_below_drewN | apply below_drew1) | exact HB.out)⟩
       ·rw [if_neg c20] at H
        have c20b0 : decide (0 < t836) = false := decide_eq_false c20
        clear c20
        have H' := Aside0.mk H
        clear H
        have p835 : 0 ≤ (x7_1 : Int) := of_decide_eq_true (by first | (with_reducible assumption) | assumption)
        have q835 : x7_1 < (t821.length : Int) := of_decide_eq_true (by first | (with_reducible assumption) | assumption)
        obtain ⟨ad835, e835, hx835_0, hx835_1, hx835_2, hx835_3, hx835_4, hx835_5, hx835_6⟩ := at_T24 (Kd.V_reads' HO_5.out).2.2 x7_1 p835 q835
        cases e835
        replace p835 := eq_true p835
        replace q835 := eq_true q835
        go_wp2_with (first | ((with_reducible refine gate_callee (f := 23) rfl ?_); refine goesL_ (some 39) rfl rfl Try.func23 (by kernel_rfl) rfl #[.agg #[.int .i64 ((rd_T24 t821 x7_1).f0), .int .i64 ((rd_T24 t821 x7_1).f1), .int .i64 ((rd_T24 t821 x7_1).f2), .int .i64 ((rd_T24 t821 x7_1).f3), .int .i64 ((rd_T24 t821 x7_1).f4), .int .i64 ((rd_T24 t821 x7_1).f5), .int .i64 ((rd_T24 t821 x7_1).f6)]] rfl z55x0 ?_; (with_reducible refine (impl_SealHolds.calls ((rd_T24 t821 x7_1).f0) ((rd_T24 t821 x7_1).f1) ((rd_T24 t821 x7_1).f2) ((rd_T24 t821 x7_1).f3) ((rd_T24 t821 x7_1).f4) ((rd_T24 t821 x7_1).f5) ((rd_T24 t821 x7_1).f6) t836 _ A19.out).mono ?_); rintro e w27 ⟨rfl, hb⟩; refine ⟨_, rfl, ?_⟩; have n0_ := Aside0.mk (Kd.R_below z55x5 hb); have n1_ := Aside0.mk (Kd.V_below z55x6 hb); have n2_ := Aside0.mk (Kd.V_below z55x7 hb); have n3_ := Aside0.mk (below_step z55x1 hb); clear HO_4; clear HO_5; clear HO_6; clear HB; have HO_4 := n0_; have HO_5 := n1_; have HO_6 := n2_; have HB := n3_; clear n0_ n1_ n2_ n3_; (try clear hb); (try clear hb2); (try clear hk); (try clear hi)))
        go_roundg k1
        case measure => have := HK1.out; omega
        case rel => exact ⟨(wrap64 (x7_1 + 1)), (by first | rfl | (simp; done) | (simp [*]; done)), H', ⟨by have := HK1.out; omega⟩, ⟨by (with_reducible repeat (first | apply Kd.R_alloc | apply Kd.R_drewN | apply Kd.R_drew)); exact HO_4.out⟩, ⟨by (with_reducible repeat (first | apply Kd.V_alloc | apply Kd.V_drewN | apply Kd.V_drew)); exact HO_5.out⟩, ⟨by (with_reducible repeat (first | apply Kd.V_alloc | apply Kd.V_drewN | apply Kd.V_drew)); exact HO_6.out⟩, ⟨by repeat (first | (with_reducible first | exact HB.out | apply below_alloc | apply pw_below_drewN | apply below_drew1) | exact HB.out)⟩⟩
      ·rw [if_neg c18] at H
       exact absurd H (by simp)
     ·rw [if_neg c17] at H
      have c17b0 : decide (x7_1 < (t821.length : Int)) = false := decide_eq_false c17
      clear c17
      replace H := Option.bind_eq_some_iff.mp H
      obtain ⟨t831, A280, H⟩ := H
      replace H : ((laws_lbSeals.f k1 t831 t821).bind fun t834 => (some t834)) = some r := H
      have A28 := Aside0.mk A280
      clear A280
      replace H := Option.bind_eq_some_iff.mp H
      obtain ⟨t834, A290, H⟩ := H
      replace H : (some t834) = some r := H
      have A29 := Aside0.mk A290
      clear A290
      obtain rfl := Option.some.inj H
      obtain ⟨Ao30, co30, eo30⟩ := Kd.V_slice HO_6.out
      subst eo30
      go_wp2_with (first | ((with_reducible refine gate_callee (f := 38) rfl ?_); refine goesL_ (some 50) rfl rfl Try.func38 (by kernel_rfl) rfl #[.slice Ao30 t828.length co30, .slice Ao11 t816.length co11] rfl z55x0 ?_; (with_reducible refine (impl_KnowRead.calls _ _ t828 _ _ t816 t831 _ ?side1 ?side2 ?side3 ?side4 A28.out).mono ?_); (case side1 => repeat (first | exact (Kd.V_reads' HO_6.out).2.2 | (with_reducible refine Kd.C_alloc ?_ _) | (with_reducible refine Kd.C_drewN ?_ _) | (with_reducible refine Kd.C_drew ?_))); (case side2 => exact (Kd.V_reads' HO_6.out).2.1); (case side3 => repeat (first | exact (Kd.R_reads' HO_4.out).2.2 | (with_reducible refine Kd.C_alloc ?_ _) | (with_reducible refine Kd.C_drewN ?_ _) | (with_reducible refine Kd.C_drew ?_))); (case side4 => exact (Kd.R_reads' HO_4.out).2.1); rintro e w31 ⟨v832, rfl, ho0, hb⟩; refine ⟨_, rfl, ?_⟩; have n0_ := Aside0.mk (Kd.R_below z55x5 hb); have n1_ := Aside0.mk (Kd.V_below z55x6 hb); have n2_ := Aside0.mk (Kd.V_below z55x7 hb); have n3_ := Aside0.mk (Kd.V_lower (Kd.V_mono (ok' := fun k_ => some k_ ≠ (.slice Ao11 t816.length co11 : Value).ownBlock) ho0 (fun k_ hk_ => (Kd.fresh' (Kd.R_lt z55x5) k_ hk_))) (below_size z55x1)); have n4_ := Aside0.mk (below_step z55x1 hb); clear HO_4; clear HO_5; clear HO_6; clear HB; have HO_4 := n0_; have HO_5 := n1_; have HO_6 := n2_; have HO833 := n3_; have HB := n4_; clear n0_ n1_ n2_ n3_ n4_; (try clear hb); (try clear hb2); (try clear hk); (try clear hi); (try clear ho0); obtain ⟨Ao32, co32, eo32⟩ := Kd.V_slice HO833.out; subst eo32) | ((with_reducible refine gate_callee (f := 39) rfl ?_); refine goesL_ (some 52) rfl rfl Try.func39 (by kernel_rfl) rfl #[.slice Ao32 t831.length co32, .slice Ao14 t821.length co14] rfl z55x0 ?_; (with_reducible refine (laws_lbSeals.calls k1 _ _ t831 _ _ t821 t834 _ ?side1 ?side2 ?side3 ?side4 A29.out).mono ?_); (case side1 => repeat (first | exact (Kd.V_reads' HO833.out).2.2 | (with_reducible refine Kd.C_alloc ?_ _) | (with_reducible refine Kd.C_drewN ?_ _) | (with_reducible refine Kd.C_drew ?_))); (case side2 => exact (Kd.V_reads' HO833.out).2.1); (case side3 => repeat (first | exact (Kd.V_reads' HO_5.out).2.2 | (with_reducible refine Kd.C_alloc ?_ _) | (with_reducible refine Kd.C_drewN ?_ _) | (with_reducible refine Kd.C_drew ?_))); (case side4 => exact (Kd.V_reads' HO_5.out).2.1); rintro e w' ⟨rfl, ⟨nd, rfl⟩⟩; refine ⟨_, rfl, ?_⟩))
      go_ret
      exact ⟨by first | rfl | (simp [errW_none, errW_some] <;> rfl) | (simp [*, errW_none, errW_some] <;> rfl), by repeat (first | (with_reducible first | exact HB.out | apply below_alloc | apply pw_below_drewN | apply below_drew1) | exact HB.out)⟩
  ·replace c7 := Bool.eq_false_iff.mpr c7
   subst c7
   rw [if_neg (show ¬ (false = true) by decide)] at H
   obtain rfl := Option.some.inj H
   go_enter Try.func15, Try.ntmps15
   go_wp2_with (first | ((with_reducible refine gate_callee (f := 37) rfl ?_); refine goesL_ (some 14) rfl rfl Try.func37 (by kernel_rfl) rfl #[.slice A0 l0.length c0] rfl z55x0 ?_; (with_reducible refine (spec_DrawKnowRead.calls k _ _ l0 t815 t816 _ ?side1 ?side2 A3.out).mono ?_); (case side1 => repeat (first | exact HR0.out | (with_reducible refine Kd.C_alloc ?_ _) | (with_reducible refine Kd.C_drewN ?_ _) | (with_reducible refine Kd.C_drew ?_))); (case side2 => exact HC0.out); rintro e w33 ⟨v817, v819, rfl, ho0, ho1, hb⟩; refine ⟨_, rfl, ?_⟩; have n0_ := Aside0.mk (Kd.R_lower ho0 (below_size z55x1)); have n1_ := Aside0.mk (Kd.R_lower ho1 (below_size z55x1)); have n2_ := Aside0.mk (below_step z55x1 hb); clear HB; have HO818 := n0_; have HO820 := n1_; have HB := n2_; clear n0_ n1_ n2_; (try clear hb); (try clear hb2); (try clear hk); (try clear hi); (try clear ho0); (try clear ho1); obtain ⟨Ao34, co34, eo34⟩ := Kd.R_slice HO818.out; subst eo34; obtain ⟨Ao35, co35, eo35⟩ := Kd.R_slice HO820.out; subst eo35) | ((with_reducible refine gate_callee (f := 38) rfl ?_); refine goesL_ (some 19) rfl rfl Try.func38 (by kernel_rfl) rfl #[.slice Ao34 t815.length co34, .slice Ao35 t816.length co35] rfl z55x0 ?_; (with_reducible refine (impl_KnowRead.calls _ _ t815 _ _ t816 t821 _ ?side1 ?side2 ?side3 ?side4 A4.out).mono ?_); (case side1 => repeat (first | exact (Kd.R_reads' HO818.out).2.2 | (with_reducible refine Kd.C_alloc ?_ _) | (with_reducible refine Kd.C_drewN ?_ _) | (with_reducible refine Kd.C_drew ?_))); (case side2 => exact (Kd.R_reads' HO818.out).2.1); (case side3 => repeat (first | exact (Kd.R_reads' HO820.out).2.2 | (with_reducible refine Kd.C_alloc ?_ _) | (with_reducible refine Kd.C_drewN ?_ _) | (with_reducible refine Kd.C_drew ?_))); (case side4 => exact (Kd.R_reads' HO820.out).2.1); rintro e w36 ⟨v822, rfl, ho0, hb⟩; refine ⟨_, rfl, ?_⟩; have n0_ := Aside0.mk (Kd.R_below z55x2 hb); have n1_ := Aside0.mk (Kd.R_below z55x3 hb); have n2_ := Aside0.mk (Kd.V_lower (Kd.V_mono (ok' := fun k_ => some k_ ≠ (.slice Ao34 t815.length co34 : Value).ownBlock ∧ some k_ ≠ (.slice Ao35 t816.length co35 : Value).ownBlock) ho0 (fun k_ hk_ => ⟨(Kd.fresh' (Kd.R_lt z55x2) k_ hk_), (Kd.fresh' (Kd.R_lt z55x3) k_ hk_)⟩)) (below_size z55x1)); have n3_ := Aside0.mk (below_step z55x1 hb); clear HO818; clear HO820; clear HB; have HO818 := n0_; have HO820 := n1_; have HO823 := n2_; have HB := n3_; clear n0_ n1_ n2_ n3_; (try clear hb); (try clear hb2); (try clear hk); (try clear hi); (try clear ho0)) | ((with_reducible refine gate_callee (f := 40) rfl ?_); refine goesL_ (some 23) rfl rfl Try.func40 (by kernel_rfl) rfl #[.slice Ao34 t815.length co34, .slice Ao35 t816.length co35] rfl z55x0 ?_; (with_reducible refine (spec_KnowRead.calls k _ _ t815 _ _ t816 t824 _ ?side1 ?side2 ?side3 ?side4 A5.out).mono ?_); (case side1 => repeat (first | exact (Kd.R_reads' HO818.out).2.2 | (with_reducible refine Kd.C_alloc ?_ _) | (with_reducible refine Kd.C_drewN ?_ _) | (with_reducible refine Kd.C_drew ?_))); (case side2 => exact (Kd.R_reads' HO818.out).2.1); (case side3 => repeat (first | exact (Kd.R_reads' HO820.out).2.2 | (with_reducible refine Kd.C_alloc ?_ _) | (with_reducible refine Kd.C_drewN ?_ _) | (with_reducible refine Kd.C_drew ?_))); (case side4 => exact (Kd.R_reads' HO820.out).2.1); rintro e w37 ⟨v825, rfl, ho0, hb⟩; refine ⟨_, rfl, ?_⟩; have n0_ := Aside0.mk (Kd.R_below z55x2 hb); have n1_ := Aside0.mk (Kd.R_elder' z55x3 (Kd.R_base ho0) hb); have n2_ := Aside0.mk (Kd.V_elder' z55x4 (Kd.R_base ho0) hb); have n3_ := Aside0.mk (Kd.R_lower (Kd.R_new' ho0 (Kd.R_lt z55x3)) (below_size z55x1)); have n4_ := Aside0.mk (below_step z55x1 hb); clear HO818; clear HO820; clear HO823; clear HB; have HO818 := n0_; have HO820 := n1_; have HO823 := n2_; have HO826 := n3_; have HB := n4_; clear n0_ n1_ n2_ n3_ n4_; (try clear hb); (try clear hb2); (try clear hk); (try clear hi); (try clear ho0); obtain ⟨Ao38, co38, eo38⟩ := Kd.V_slice HO823.out; subst eo38; obtain ⟨Ao39, co39, eo39⟩ := Kd.R_slice HO826.out; subst eo39) | ((with_reducible refine gate_callee (f := 39) rfl ?_); refine goesL_ (some 24) rfl rfl Try.func39 (by kernel_rfl) rfl #[.slice Ao38 t821.length co38, .slice Ao39 t824.length co39] rfl z55x0 ?_; (with_reducible refine (laws_lbSeals.calls k _ _ t821 _ _ t824 false _ ?side1 ?side2 ?side3 ?side4 A6.out).mono ?_); (case side1 => repeat (first | exact (Kd.V_reads' HO823.out).2.2 | (with_reducible refine Kd.C_alloc ?_ _) | (with_reducible refine Kd.C_drewN ?_ _) | (with_reducible refine Kd.C_drew ?_))); (case side2 => exact (Kd.V_reads' HO823.out).2.1); (case side3 => repeat (first | exact (Kd.R_reads' HO826.out).2.2 | (with_reducible refine Kd.C_alloc ?_ _) | (with_reducible refine Kd.C_drewN ?_ _) | (with_reducible refine Kd.C_drew ?_))); (case side4 => exact (Kd.R_reads' HO826.out).2.1); rintro e w' ⟨rfl, ⟨nd, rfl⟩⟩; refine ⟨_, rfl, ?_⟩))
   go_ret
   exact ⟨by first | rfl | (simp [errW_none, errW_some] <;> rfl) | (simp [*, errW_none, errW_some] <;> rfl), by repeat (first | (with_reducible first | exact HB.out | apply below_alloc | apply pw_below_drewN | apply below_drew1) | exact HB.out)⟩

/-- THE ONE PURE STATEMENT of laws_FnKnowReads: yours. -/
def laws_FnKnowReads.Pure : Prop := ∀ (l0 : List Int), l0.length ≤ maxLen → l0.length * 1 ≤ 140737488351232 → (∀ x ∈ l0, (Lit.int .u8 x).wf = true) → ∃ k, laws_FnKnowReads.f k l0 = some true
theorem laws_FnKnowReads.walk (P : laws_FnKnowReads.Pure) (a0 : Option Addr) (len0 cap0 : Nat) (z0 : List Int) (w : World) (w0 : (a0 = none ∧ len0 = 0 ∧ cap0 = 0 ∧ z0 = []) ∨ ∃ x, a0 = some x ∧ len0 ≤ cap0 ∧ cap0 ≤ maxLen ∧ z0.length = cap0 ∧ (∀ i, i < z0.length → w.cell? (x.add i) = some (.int .u8 (z0.getD i 0))) ∧ ∀ n ∈ z0, (Lit.int .u8 n).wf = true) (y0 : len0 * 1 ≤ 140737488351232) :
  Calls Try.prog 15 #[.slice a0 len0 cap0] w fun e w' => e = .returned (.bool true) ∧ Below w.heap.size w w' := by
 obtain ⟨l0, rfl, hr0, hm0, hw0, hc0⟩ := ReadsInt.ofRowC w0
 obtain ⟨k, h⟩ := P l0 hm0 y0 hw0
 refine (laws_FnKnowReads.calls k _ _ l0 true w (Kd.C_of_reads (d := (0 : Int)) (h1 := fun _ => rfl) hr0) hc0 h).mono ?_
 rintro e w' ⟨rfl, hd⟩
 exact ⟨rfl, hd⟩

end Go.Proofs.Ytbiknbjcidlabaa.Hp
