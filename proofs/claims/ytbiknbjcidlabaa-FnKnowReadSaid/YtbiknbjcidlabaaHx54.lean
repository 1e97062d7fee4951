-- Printed by wip/tools/hp.py of this session (the kit's print.py, with contracts typed by hand beside).
import Derived.Test.YtbiknbjcidlabaaHx0
import Derived.Test.YtbiknbjcidlabaaHx1
import Derived.Test.YtbiknbjcidlabaaHx3
import Derived.Test.YtbiknbjcidlabaaHx35
import Derived.Test.YtbiknbjcidlabaaHx40
import Derived.Test.YtbiknbjcidlabaaHx41
import Derived.Test.YtbiknbjcidlabaaHx42
import Derived.Test.YtbiknbjcidlabaaHx43
import Derived.Test.YtbiknbjcidlabaaHx45
namespace Go.Proofs.Ytbiknbjcidlabaa.Hp
open Go.RowKit Go.Proofs.YtbiknbjcidlabaaW.PrintWords Go.Proofs.YtbiknbjcidlabaaW.PrintLast Go.Proofs.YtbiknbjcidlabaaW.PrintMore
attribute [local go_sem] max2_int min2_int max_two min_two max_three min_three max_four min_four   -- for this text's walks alone
set_option linter.unusedVariables false
set_option linter.unusedSimpArgs false

attribute [local go_sem high] eqA24
-- squeezed by wip/tools/squeeze.py
theorem z54x7 {P : Prop} (h : P := by (with_reducible repeat (first | apply Kd.V_alloc | apply Kd.V_drewN | apply Kd.V_drew)); exact HO_6.out) : P := h
theorem z54x6 {P : Prop} (h : P := by (with_reducible repeat (first | apply Kd.V_alloc | apply Kd.V_drewN | apply Kd.V_drew)); exact HO_5.out) : P := h
theorem z54x5 {P : Prop} (h : P := by (with_reducible repeat (first | apply Kd.R_alloc | apply Kd.R_drewN | apply Kd.R_drew)); exact HO_4.out) : P := h
theorem z54x4 {P : Prop} (h : P := by (with_reducible repeat (first | apply Kd.V_alloc | apply Kd.V_drewN | apply Kd.V_drew)); exact HO801.out) : P := h
theorem z54x3 {P : Prop} (h : P := by (with_reducible repeat (first | apply Kd.R_alloc | apply Kd.R_drewN | apply Kd.R_drew)); exact HO804.out) : P := h
theorem z54x2 {P : Prop} (h : P := by (with_reducible repeat (first | apply Kd.R_alloc | apply Kd.R_drewN | apply Kd.R_drew)); exact HO798.out) : P := h
theorem z54x1 {P : Prop} (h : P := by (with_reducible repeat (first | apply Kd.R_alloc | apply Kd.R_drewN | apply Kd.R_drew)); exact HO796.out) : P := h
theorem z54x0 {P : Prop} (h : P := by repeat (first | (with_reducible first | exact HB.out | apply below_alloc | apply pw_below_drewN | apply below_drew1) | exact HB.out)) : P := h
/-! ### laws_FnKnowRead: function 14 -/
mutual
def laws_FnKnowRead.l0 : Nat → List (S24) → List (S24) → List Int → Int → Int → Option (Bool)
 | 0, _, _, _, _, _ => none
 | k + 1, x4, x5, x6, x7, x8 => if x8 < (x4.length : Int) then (if 0 ≤ x8 then ((impl_SealOk.f ((rd_T24 x4 x8).f0) ((rd_T24 x4 x8).f1) ((rd_T24 x4 x8).f2) ((rd_T24 x4 x8).f3) ((rd_T24 x4 x8).f4) ((rd_T24 x4 x8).f5) ((rd_T24 x4 x8).f6)).bind fun t810 => (if t810 = true then ((laws_lbHas.f k x6 ((rd_T24 x4 x8).f0)).bind fun t812 => (laws_FnKnowRead.j1 k x4 x5 x6 x7 x8 t812)) else (laws_FnKnowRead.j1 k x4 x5 x6 x7 x8 false))) else (none)) else (some (x7 == (x5.length : Int)))
def laws_FnKnowRead.j1 : Nat → List (S24) → List (S24) → List Int → Int → Int → Bool → Option (Bool)
 | 0, _, _, _, _, _, _ => none
 | k + 1, x4, x5, x6, x7, x8, x48 => if x48 = true then (if x7 ≥ (x5.length : Int) then (some false) else (if 0 ≤ x7 then (if x7 < (x5.length : Int) then (if 0 ≤ x8 then (if x8 < (x4.length : Int) then (if (!(((rd_T24 x5 x7).f0) == ((rd_T24 x4 x8).f0)) || (!(((rd_T24 x5 x7).f1) == ((rd_T24 x4 x8).f1)) || (!(((rd_T24 x5 x7).f2) == ((rd_T24 x4 x8).f2)) || (!(((rd_T24 x5 x7).f3) == ((rd_T24 x4 x8).f3)) || (!(((rd_T24 x5 x7).f4) == ((rd_T24 x4 x8).f4)) || (!(((rd_T24 x5 x7).f5) == ((rd_T24 x4 x8).f5)) || (!(((rd_T24 x5 x7).f6) == ((rd_T24 x4 x8).f6))))))))) = true then (some false) else (laws_FnKnowRead.l0 k x4 x5 x6 (wrap64 (x7 + 1)) (wrap64 (x8 + 1)))) else (none)) else (none)) else (none)) else (none))) else (laws_FnKnowRead.l0 k x4 x5 x6 x7 (wrap64 (x8 + 1)))
end
def laws_FnKnowRead.f (k : Nat) (l0 : List Int) : Option (Bool) := if (l0.length : Int) > 1048576 then (some true) else ((spec_DrawKnowRead.f k l0).bind fun bt793 => ((impl_KnowRead.f bt793.1 bt793.2).bind fun t799 => ((spec_KnowRead.f k bt793.1 bt793.2).bind fun t802 => ((laws_lbSeals.f k t799 t802).bind fun t805 => (if t805 = true then ((impl_KnowKeys.f bt793.1 bt793.2).bind fun t806 => (laws_FnKnowRead.l0 k bt793.2 t799 t806 0 0)) else (some false))))))
theorem laws_FnKnowRead.mono_l : ∀ k, (∀ y0 y1 y2 y3 y4, LeO (laws_FnKnowRead.l0 k y0 y1 y2 y3 y4) (laws_FnKnowRead.l0 (k + 1) y0 y1 y2 y3 y4)) ∧ (∀ y0 y1 y2 y3 y4 y5, LeO (laws_FnKnowRead.j1 k y0 y1 y2 y3 y4 y5) (laws_FnKnowRead.j1 (k + 1) y0 y1 y2 y3 y4 y5))
 | 0 => ⟨fun _ _ _ _ _ r h => by simp [laws_FnKnowRead.l0] at h, fun _ _ _ _ _ _ r h => by simp [laws_FnKnowRead.j1] at h⟩
 | k + 1 => by
  obtain ⟨ih0, ih1⟩ := laws_FnKnowRead.mono_l k
  refine ⟨?_, ?_⟩
  ·intro y0 y1 y2 y3 y4
   unfold laws_FnKnowRead.l0
   repeat' first
   | (with_reducible exact ih0 _ _ _ _ _)
   | (with_reducible exact ih1 _ _ _ _ _ _)
   | (with_reducible exact laws_lbHas.mono _ _ _)
   | (with_reducible exact laws_lbSeals.mono _ _ _)
   | (with_reducible exact spec_DrawKnowRead.mono _ _)
   | (with_reducible exact spec_KnowRead.mono _ _ _)
   | (with_reducible exact LeO.refl _)
   | (with_reducible exact LeO.none _)
   | (with_reducible refine LeO.ite ?_ ?_)
   | (with_reducible refine LeO.bind ?_ (fun _ => ?_))
   | exact ih0 _ _ _ _ _
   | exact ih1 _ _ _ _ _ _
   | exact laws_lbHas.mono _ _ _
   | exact laws_lbSeals.mono _ _ _
   | exact spec_DrawKnowRead.mono _ _
   | exact spec_KnowRead.mono _ _ _
   | exact LeO.none _
   | refine LeO.ite ?_ ?_
   | refine LeO.bind ?_ (fun _ => ?_)
  ·intro y0 y1 y2 y3 y4 y5
   unfold laws_FnKnowRead.j1
   repeat' first
   | (with_reducible exact ih0 _ _ _ _ _)
   | (with_reducible exact ih1 _ _ _ _ _ _)
   | (with_reducible exact laws_lbHas.mono _ _ _)
   | (with_reducible exact laws_lbSeals.mono _ _ _)
   | (with_reducible exact spec_DrawKnowRead.mono _ _)
   | (with_reducible exact spec_KnowRead.mono _ _ _)
   | (with_reducible exact LeO.refl _)
   | (with_reducible exact LeO.none _)
   | (with_reducible refine LeO.ite ?_ ?_)
   | (with_reducible refine LeO.bind ?_ (fun _ => ?_))
   | exact ih0 _ _ _ _ _
   | exact ih1 _ _ _ _ _ _
   | exact laws_lbHas.mono _ _ _
   | exact laws_lbSeals.mono _ _ _
   | exact spec_DrawKnowRead.mono _ _
   | exact spec_KnowRead.mono _ _ _
   | exact LeO.none _
   | refine LeO.ite ?_ ?_
   | refine LeO.bind ?_ (fun _ => ?_)
theorem laws_FnKnowRead.mono : ∀ a0 k, LeO (laws_FnKnowRead.f k a0) (laws_FnKnowRead.f (k + 1) a0) := by
 intro a0 k
 obtain ⟨ih0, ih1⟩ := laws_FnKnowRead.mono_l k
 unfold laws_FnKnowRead.f
 repeat' first
   | (with_reducible exact ih0 _ _ _ _ _)
   | (with_reducible exact ih1 _ _ _ _ _ _)
   | (with_reducible exact laws_lbHas.mono _ _ _)
   | (with_reducible exact laws_lbSeals.mono _ _ _)
   | (with_reducible exact spec_DrawKnowRead.mono _ _)
   | (with_reducible exact spec_KnowRead.mono _ _ _)
   | (with_reducible exact LeO.refl _)
   | (with_reducible exact LeO.none _)
   | (with_reducible refine LeO.ite ?_ ?_)
   | (with_reducible refine LeO.bind ?_ (fun _ => ?_))
   | exact ih0 _ _ _ _ _
   | exact ih1 _ _ _ _ _ _
   | exact laws_lbHas.mono _ _ _
   | exact laws_lbSeals.mono _ _ _
   | exact spec_DrawKnowRead.mono _ _
   | exact spec_KnowRead.mono _ _ _
   | exact LeO.none _
   | refine LeO.ite ?_ ?_
   | refine LeO.bind ?_ (fun _ => ?_)
set_option maxHeartbeats 8000000 in
set_option maxRecDepth 100000 in
theorem laws_FnKnowRead.calls (k : Nat) (A0 : Option Addr) (c0 : Nat) (l0 : List Int) (r : Bool) (w : World) (hr0 : Kd.C (Kd.int .u8) w A0 l0.length l0) (hc0 : l0.length ≤ c0) (h : laws_FnKnowRead.f k l0 = some r) :
  Calls Try.prog 14 #[.slice A0 l0.length c0] w fun e w' => e = .returned (.bool r) ∧ Below w.heap.size w w' := by
 have hu24 := Try.underlying24
 have HR0 := Aside0.mk hr0
 have HC0 := Aside0.mk hc0
 clear hr0 hc0
 have HB := Aside0.mk (Below.refl w.heap.size w)
 have H : (if (l0.length : Int) > 1048576 then (some true) else ((spec_DrawKnowRead.f k l0).bind fun bt793 => ((impl_KnowRead.f bt793.1 bt793.2).bind fun t799 => ((spec_KnowRead.f k bt793.1 bt793.2).bind fun t802 => ((laws_lbSeals.f k t799 t802).bind fun t805 => (if t805 = true then ((impl_KnowKeys.f bt793.1 bt793.2).bind fun t806 => (laws_FnKnowRead.l0 k bt793.2 t799 t806 0 0)) else (some false))))))) = some r := h
 clear h
 by_cases c2 : (l0.length : Int) > 1048576
 ·rw [if_pos c2] at H
  have c2b0 : decide (1048576 < (l0.length : Int)) = true := decide_eq_true c2
  have c2b1 : decide (1048576 < l0.length) = true := decide_eq_true (by omega)
  clear c2
  obtain rfl := Option.some.inj H
  go_enter Try.func14, Try.ntmps14
  go_wp2
  repeat (go_quiet (fail); try go_wp2)
  go_ret
  exact ⟨by first | rfl | (simp [errW_none, errW_some] <;> rfl) | (simp [*, errW_none, errW_some] <;> rfl), by repeat (first | (with_reducible first | exact HB.out | apply below_alloc | apply pw_below_drewN | apply below_drew1) | exact HB.out)⟩
 ·rw [if_neg c2] at H
  have c2b0 : decide (1048576 < (l0.length : Int)) = false := decide_eq_false c2
  have c2b1 : decide (1048576 < l0.length) = false := decide_eq_false (by omega)
  clear c2
  replace H := Option.bind_eq_some_iff.mp H
  obtain ⟨⟨t793, t794⟩, A30, H⟩ := H
  replace H : ((impl_KnowRead.f t793 t794).bind fun t799 => ((spec_KnowRead.f k t793 t794).bind fun t802 => ((laws_lbSeals.f k t799 t802).bind fun t805 => (if t805 = true then ((impl_KnowKeys.f t793 t794).bind fun t806 => (laws_FnKnowRead.l0 k t794 t799 t806 0 0)) else (some false))))) = some r := H
  have A3 := Aside0.mk A30
  clear A30
  replace H := Option.bind_eq_some_iff.mp H
  obtain ⟨t799, A40, H⟩ := H
  replace H : ((spec_KnowRead.f k t793 t794).bind fun t802 => ((laws_lbSeals.f k t799 t802).bind fun t805 => (if t805 = true then ((impl_KnowKeys.f t793 t794).bind fun t806 => (laws_FnKnowRead.l0 k t794 t799 t806 0 0)) else (some false)))) = some r := H
  have A4 := Aside0.mk A40
  clear A40
  replace H := Option.bind_eq_some_iff.mp H
  obtain ⟨t802, A50, H⟩ := H
  replace H : ((laws_lbSeals.f k t799 t802).bind fun t805 => (if t805 = true then ((impl_KnowKeys.f t793 t794).bind fun t806 => (laws_FnKnowRead.l0 k t794 t799 t806 0 0)) else (some false))) = some r := H
  have A5 := Aside0.mk A50
  clear A50
  replace H := Option.bind_eq_some_iff.mp H
  obtain ⟨t805, A60, H⟩ := H
  replace H : (if t805 = true then ((impl_KnowKeys.f t793 t794).bind fun t806 => (laws_FnKnowRead.l0 k t794 t799 t806 0 0)) else (some false)) = some r := H
  have A6 := Aside0.mk A60
  clear A60
  by_cases c7 : t805 = true
  ·subst c7
   rw [if_pos rfl] at H
   replace H := Option.bind_eq_some_iff.mp H
   obtain ⟨t806, A80, H⟩ := H
   replace H : (laws_FnKnowRead.l0 k t794 t799 t806 0 0) = some r := H
   have A8 := Aside0.mk A80
   clear A80
   have H' := Aside0.mk H
   clear H
   go_enter Try.func14, Try.ntmps14
   go_wp2_with (first | (go_at_call 37; (with_reducible refine (spec_DrawKnowRead.calls k _ _ l0 t793 t794 _ ?side1 ?side2 A3.out).mono ?_); (case side1 => repeat (first | exact HR0.out | (with_reducible refine Kd.C_alloc ?_ _) | (with_reducible refine Kd.C_drewN ?_ _) | (with_reducible refine Kd.C_drew ?_))); (case side2 => exact HC0.out); rintro e w9 ⟨v795, v797, rfl, ho0, ho1, hb⟩; have n0_ := Aside0.mk (Kd.R_lower ho0 (below_size z54x0)); have n1_ := Aside0.mk (Kd.R_lower ho1 (below_size z54x0)); have n2_ := Aside0.mk (below_step z54x0 hb); clear HB; have HO796 := n0_; have HO798 := n1_; have HB := n2_; clear n0_ n1_ n2_; (try clear hb); (try clear hb2); (try clear hk); (try clear hi); (try clear ho0); (try clear ho1); obtain ⟨Ao10, co10, eo10⟩ := Kd.R_slice HO796.out; subst eo10; obtain ⟨Ao11, co11, eo11⟩ := Kd.R_slice HO798.out; subst eo11) | (go_at_call 38; (with_reducible refine (impl_KnowRead.calls _ _ t793 _ _ t794 t799 _ ?side1 ?side2 ?side3 ?side4 A4.out).mono ?_); (case side1 => repeat (first | exact (Kd.R_reads' HO796.out).2.2 | (with_reducible refine Kd.C_alloc ?_ _) | (with_reducible refine Kd.C_drewN ?_ _) | (with_reducible refine Kd.C_drew ?_))); (case side2 => exact (Kd.R_reads' HO796.out).2.1); (case side3 => repeat (first | exact (Kd.R_reads' HO798.out).2.2 | (with_reducible refine Kd.C_alloc ?_ _) | (with_reducible refine Kd.C_drewN ?_ _) | (with_reducible refine Kd.C_drew ?_))); (case side4 => exact (Kd.R_reads' HO798.out).2.1); rintro e w12 ⟨v800, rfl, ho0, hb⟩; have n0_ := Aside0.mk (Kd.R_below z54x1 hb); have n1_ := Aside0.mk (Kd.R_below z54x2 hb); have n2_ := Aside0.mk (Kd.V_lower (Kd.V_mono (ok' := fun k_ => some k_ ≠ (.slice Ao10 t793.length co10 : Value).ownBlock ∧ some k_ ≠ (.slice Ao11 t794.length co11 : Value).ownBlock) ho0 (fun k_ hk_ => ⟨(Kd.fresh' (Kd.R_lt z54x1) k_ hk_), (Kd.fresh' (Kd.R_lt z54x2) k_ hk_)⟩)) (below_size z54x0)); have n3_ := Aside0.mk (below_step z54x0 hb); clear HO796; clear HO798; clear HB; have HO796 := n0_; have HO798 := n1_; have HO801 := n2_; have HB := n3_; clear n0_ n1_ n2_ n3_; (try clear hb); (try clear hb2); (try clear hk); (try clear hi); (try clear ho0)) | (go_at_call 40; (with_reducible refine (spec_KnowRead.calls k _ _ t793 _ _ t794 t802 _ ?side1 ?side2 ?side3 ?side4 A5.out).mono ?_); (case side1 => repeat (first | exact (Kd.R_reads' HO796.out).2.2 | (with_reducible refine Kd.C_alloc ?_ _) | (with_reducible refine Kd.C_drewN ?_ _) | (with_reducible refine Kd.C_drew ?_))); (case side2 => exact (Kd.R_reads' HO796.out).2.1); (case side3 => repeat (first | exact (Kd.R_reads' HO798.out).2.2 | (with_reducible refine Kd.C_alloc ?_ _) | (with_reducible refine Kd.C_drewN ?_ _) | (with_reducible refine Kd.C_drew ?_))); (case side4 => exact (Kd.R_reads' HO798.out).2.1); rintro e w13 ⟨v803, rfl, ho0, hb⟩; have n0_ := Aside0.mk (Kd.R_below z54x1 hb); have n1_ := Aside0.mk (Kd.R_elder' z54x2 (Kd.R_base ho0) hb); have n2_ := Aside0.mk (Kd.V_elder' z54x4 (Kd.R_base ho0) hb); have n3_ := Aside0.mk (Kd.R_lower (Kd.R_new' ho0 (Kd.R_lt z54x2)) (below_size z54x0)); have n4_ := Aside0.mk (below_step z54x0 hb); clear HO796; clear HO798; clear HO801; clear HB; have HO796 := n0_; have HO798 := n1_; have HO801 := n2_; have HO804 := n3_; have HB := n4_; clear n0_ n1_ n2_ n3_ n4_; (try clear hb); (try clear hb2); (try clear hk); (try clear hi); (try clear ho0); obtain ⟨Ao14, co14, eo14⟩ := Kd.V_slice HO801.out; subst eo14; obtain ⟨Ao15, co15, eo15⟩ := Kd.R_slice HO804.out; subst eo15) | (go_at_call 39; (with_reducible refine (laws_lbSeals.calls k _ _ t799 _ _ t802 true _ ?side1 ?side2 ?side3 ?side4 A6.out).mono ?_); (case side1 => repeat (first | exact (Kd.V_reads' HO801.out).2.2 | (with_reducible refine Kd.C_alloc ?_ _) | (with_reducible refine Kd.C_drewN ?_ _) | (with_reducible refine Kd.C_drew ?_))); (case side2 => exact (Kd.V_reads' HO801.out).2.1); (case side3 => repeat (first | exact (Kd.R_reads' HO804.out).2.2 | (with_reducible refine Kd.C_alloc ?_ _) | (with_reducible refine Kd.C_drewN ?_ _) | (with_reducible refine Kd.C_drew ?_))); (case side4 => exact (Kd.R_reads' HO804.out).2.1); rintro e w' ⟨rfl, ⟨nd, rfl⟩⟩; (try first | exact ⟨rfl, _, World.drewN_drewN _ _ _⟩ | exact ⟨rfl, _, Eq.trans (World.drewN_drewN _ _ _) (congrArg (World.drewN _) (Nat.add_assoc _ _ _))⟩)) | (go_at_call 34; (with_reducible refine (impl_KnowKeys.calls _ _ t793 _ _ t794 t806 _ ?side1 ?side2 ?side3 ?side4 A8.out).mono ?_); (case side1 => repeat (first | exact (Kd.R_reads' HO796.out).2.2 | (with_reducible refine Kd.C_alloc ?_ _) | (with_reducible refine Kd.C_drewN ?_ _) | (with_reducible refine Kd.C_drew ?_))); (case side2 => exact (Kd.R_reads' HO796.out).2.1); (case side3 => repeat (first | exact (Kd.R_reads' HO798.out).2.2 | (with_reducible refine Kd.C_alloc ?_ _) | (with_reducible refine Kd.C_drewN ?_ _) | (with_reducible refine Kd.C_drew ?_))); (case side4 => exact (Kd.R_reads' HO798.out).2.1); rintro e w16 ⟨v807, rfl, ho0, hb⟩; have n0_ := Aside0.mk (Kd.R_below z54x1 hb); have n1_ := Aside0.mk (Kd.R_below z54x2 hb); have n2_ := Aside0.mk (Kd.V_below z54x4 hb); have n3_ := Aside0.mk (Kd.R_below z54x3 hb); have n4_ := Aside0.mk (Kd.V_lower (Kd.V_mono (ok' := fun k_ => some k_ ≠ (.slice Ao10 t793.length co10 : Value).ownBlock ∧ some k_ ≠ (.slice Ao11 t794.length co11 : Value).ownBlock ∧ some k_ ≠ (.slice Ao15 t802.length co15 : Value).ownBlock) ho0 (fun k_ hk_ => ⟨(Kd.fresh' (Kd.R_lt z54x1) k_ hk_), (Kd.fresh' (Kd.R_lt z54x2) k_ hk_), (Kd.fresh' (Kd.R_lt z54x3) k_ hk_)⟩)) (below_size z54x0)); have n5_ := Aside0.mk (below_step z54x0 hb); clear HO796; clear HO798; clear HO801; clear HO804; clear HB; have HO796 := n0_; have HO798 := n1_; have HO801 := n2_; have HO804 := n3_; have HO808 := n4_; have HB := n5_; clear n0_ n1_ n2_ n3_ n4_ n5_; (try clear hb); (try clear hb2); (try clear hk); (try clear hi); (try clear ho0)))
   repeat (go_quiet (first | (go_at_call 37; (with_reducible refine (spec_DrawKnowRead.calls k _ _ l0 t793 t794 _ ?side1 ?side2 A3.out).mono ?_); (case side1 => repeat (first | exact HR0.out | (with_reducible refine Kd.C_alloc ?_ _) | (with_reducible refine Kd.C_drewN ?_ _) | (with_reducible refine Kd.C_drew ?_))); (case side2 => exact HC0.out); rintro e w9 ⟨v795, v797, rfl, ho0, ho1, hb⟩; have n0_ := Aside0.mk (Kd.R_lower ho0 (below_size z54x0)); have n1_ := Aside0.mk (Kd.R_lower ho1 (below_size z54x0)); have n2_ := Aside0.mk (below_step z54x0 hb); clear HB; have HO796 := n0_; have HO798 := n1_; have HB := n2_; clear n0_ n1_ n2_; (try clear hb); (try clear hb2); (try clear hk); (try clear hi); (try clear ho0); (try clear ho1); obtain ⟨Ao10, co10, eo10⟩ := Kd.R_slice HO796.out; subst eo10; obtain ⟨Ao11, co11, eo11⟩ := Kd.R_slice HO798.out; subst eo11) | (go_at_call 38; (with_reducible refine (impl_KnowRead.calls _ _ t793 _ _ t794 t799 _ ?side1 ?side2 ?side3 ?side4 A4.out).mono ?_); (case side1 => repeat (first | exact (Kd.R_reads' HO796.out).2.2 | (with_reducible refine Kd.C_alloc ?_ _) | (with_reducible refine Kd.C_drewN ?_ _) | (with_reducible refine Kd.C_drew ?_))); (case side2 => exact (Kd.R_reads' HO796.out).2.1); (case side3 => repeat (first | exact (Kd.R_reads' HO798.out).2.2 | (with_reducible refine Kd.C_alloc ?_ _) | (with_reducible refine Kd.C_drewN ?_ _) | (with_reducible refine Kd.C_drew ?_))); (case side4 => exact (Kd.R_reads' HO798.out).2.1); rintro e w12 ⟨v800, rfl, ho0, hb⟩; have n0_ := Aside0.mk (Kd.R_below z54x1 hb); have n1_ := Aside0.mk (Kd.R_below z54x2 hb); have n2_ := Aside0.mk (Kd.V_lower (Kd.V_mono (ok' := fun k_ => some k_ ≠ (.slice Ao10 t793.length co10 : Value).ownBlock ∧ some k_ ≠ (.slice Ao11 t794.length co11 : Value).ownBlock) ho0 (fun k_ hk_ => ⟨(Kd.fresh' (Kd.R_lt z54x1) k_ hk_), (Kd.fresh' (Kd.R_lt z54x2) k_ hk_)⟩)) (below_size z54x0)); have n3_ := Aside0.mk (below_step z54x0 hb); clear HO796; clear HO798; clear HB; have HO796 := n0_; have HO798 := n1_; have HO801 := n2_; have HB := n3_; clear n0_ n1_ n2_ n3_; (try clear hb); (try clear hb2); (try clear hk); (try clear hi); (try clear ho0)) | (go_at_call 40; (with_reducible refine (spec_KnowRead.calls k _ _ t793 _ _ t794 t802 _ ?side1 ?side2 ?side3 ?side4 A5.out).mono ?_); (case side1 => repeat (first | exact (Kd.R_reads' HO796.out).2.2 | (with_reducible refine Kd.C_alloc ?_ _) | (with_reducible refine Kd.C_drewN ?_ _) | (with_reducible refine Kd.C_drew ?_))); (case side2 => exact (Kd.R_reads' HO796.out).2.1); (case side3 => repeat (first | exact (Kd.R_reads' HO798.out).2.2 | (with_reducible refine Kd.C_alloc ?_ _) | (with_reducible refine Kd.C_drewN ?_ _) | (with_reducible refine Kd.C_drew ?_))); (case side4 => exact (Kd.R_reads' HO798.out).2.1); rintro e w13 ⟨v803, rfl, ho0, hb⟩; have n0_ := Aside0.mk (Kd.R_below z54x1 hb); have n1_ := Aside0.mk (Kd.R_elder' z54x2 (Kd.R_base ho0) hb); have n2_ := Aside0.mk (Kd.V_elder' z54x4 (Kd.R_base ho0) hb); have n3_ := Aside0.mk (Kd.R_lower (Kd.R_new' ho0 (Kd.R_lt z54x2)) (below_size z54x0)); have n4_ := Aside0.mk (below_step z54x0 hb); clear HO796; clear HO798; clear HO801; clear HB; have HO796 := n0_; have HO798 := n1_; have HO801 := n2_; have HO804 := n3_; have HB := n4_; clear n0_ n1_ n2_ n3_ n4_; (try clear hb); (try clear hb2); (try clear hk); (try clear hi); (try clear ho0); obtain ⟨Ao14, co14, eo14⟩ := Kd.V_slice HO801.out; subst eo14; obtain ⟨Ao15, co15, eo15⟩ := Kd.R_slice HO804.out; subst eo15) | (go_at_call 39; (with_reducible refine (laws_lbSeals.calls k _ _ t799 _ _ t802 true _ ?side1 ?side2 ?side3 ?side4 A6.out).mono ?_); (case side1 => repeat (first | exact (Kd.V_reads' HO801.out).2.2 | (with_reducible refine Kd.C_alloc ?_ _) | (with_reducible refine Kd.C_drewN ?_ _) | (with_reducible refine Kd.C_drew ?_))); (case side2 => exact (Kd.V_reads' HO801.out).2.1); (case side3 => repeat (first | exact (Kd.R_reads' HO804.out).2.2 | (with_reducible refine Kd.C_alloc ?_ _) | (with_reducible refine Kd.C_drewN ?_ _) | (with_reducible refine Kd.C_drew ?_))); (case side4 => exact (Kd.R_reads' HO804.out).2.1); rintro e w' ⟨rfl, ⟨nd, rfl⟩⟩; (try first | exact ⟨rfl, _, World.drewN_drewN _ _ _⟩ | exact ⟨rfl, _, Eq.trans (World.drewN_drewN _ _ _) (congrArg (World.drewN _) (Nat.add_assoc _ _ _))⟩)) | (go_at_call 34; (with_reducible refine (impl_KnowKeys.calls _ _ t793 _ _ t794 t806 _ ?side1 ?side2 ?side3 ?side4 A8.out).mono ?_); (case side1 => repeat (first | exact (Kd.R_reads' HO796.out).2.2 | (with_reducible refine Kd.C_alloc ?_ _) | (with_reducible refine Kd.C_drewN ?_ _) | (with_reducible refine Kd.C_drew ?_))); (case side2 => exact (Kd.R_reads' HO796.out).2.1); (case side3 => repeat (first | exact (Kd.R_reads' HO798.out).2.2 | (with_reducible refine Kd.C_alloc ?_ _) | (with_reducible refine Kd.C_drewN ?_ _) | (with_reducible refine Kd.C_drew ?_))); (case side4 => exact (Kd.R_reads' HO798.out).2.1); rintro e w16 ⟨v807, rfl, ho0, hb⟩; have n0_ := Aside0.mk (Kd.R_below z54x1 hb); have n1_ := Aside0.mk (Kd.R_below z54x2 hb); have n2_ := Aside0.mk (Kd.V_below z54x4 hb); have n3_ := Aside0.mk (Kd.R_below z54x3 hb); have n4_ := Aside0.mk (Kd.V_lower (Kd.V_mono (ok' := fun k_ => some k_ ≠ (.slice Ao10 t793.length co10 : Value).ownBlock ∧ some k_ ≠ (.slice Ao11 t794.length co11 : Value).ownBlock ∧ some k_ ≠ (.slice Ao15 t802.length co15 : Value).ownBlock) ho0 (fun k_ hk_ => ⟨(Kd.fresh' (Kd.R_lt z54x1) k_ hk_), (Kd.fresh' (Kd.R_lt z54x2) k_ hk_), (Kd.fresh' (Kd.R_lt z54x3) k_ hk_)⟩)) (below_size z54x0)); have n5_ := Aside0.mk (below_step z54x0 hb); clear HO796; clear HO798; clear HO801; clear HO804; clear HB; have HO796 := n0_; have HO798 := n1_; have HO801 := n2_; have HO804 := n3_; have HO808 := n4_; have HB := n5_; clear n0_ n1_ n2_ n3_ n4_ n5_; (try clear hb); (try clear hb2); (try clear hk); (try clear hi); (try clear ho0))); try go_wp2_with (first | (go_at_call 37; (with_reducible refine (spec_DrawKnowRead.calls k _ _ l0 t793 t794 _ ?side1 ?side2 A3.out).mono ?_); (case side1 => repeat (first | exact HR0.out | (with_reducible refine Kd.C_alloc ?_ _) | (with_reducible refine Kd.C_drewN ?_ _) | (with_reducible refine Kd.C_drew ?_))); (case side2 => exact HC0.out); rintro e w9 ⟨v795, v797, rfl, ho0, ho1, hb⟩; have n0_ := Aside0.mk (Kd.R_lower ho0 (below_size z54x0)); have n1_ := Aside0.mk (Kd.R_lower ho1 (below_size z54x0)); have n2_ := Aside0.mk (below_step z54x0 hb); clear HB; have HO796 := n0_; have HO798 := n1_; have HB := n2_; clear n0_ n1_ n2_; (try clear hb); (try clear hb2); (try clear hk); (try clear hi); (try clear ho0); (try clear ho1); obtain ⟨Ao10, co10, eo10⟩ := Kd.R_slice HO796.out; subst eo10; obtain ⟨Ao11, co11, eo11⟩ := Kd.R_slice HO798.out; subst eo11) | (go_at_call 38; (with_reducible refine (impl_KnowRead.calls _ _ t793 _ _ t794 t799 _ ?side1 ?side2 ?side3 ?side4 A4.out).mono ?_); (case side1 => repeat (first | exact (Kd.R_reads' HO796.out).2.2 | (with_reducible refine Kd.C_alloc ?_ _) | (with_reducible refine Kd.C_drewN ?_ _) | (with_reducible refine Kd.C_drew ?_))); (case side2 => exact (Kd.R_reads' HO796.out).2.1); (case side3 => repeat (first | exact (Kd.R_reads' HO798.out).2.2 | (with_reducible refine Kd.C_alloc ?_ _) | (with_reducible refine Kd.C_drewN ?_ _) | (with_reducible refine Kd.C_drew ?_))); (case side4 => exact (Kd.R_reads' HO798.out).2.1); rintro e w12 ⟨v800, rfl, ho0, hb⟩; have n0_ := Aside0.mk (Kd.R_below z54x1 hb); have n1_ := Aside0.mk (Kd.R_below z54x2 hb); have n2_ := Aside0.mk (Kd.V_lower (Kd.V_mono (ok' := fun k_ => some k_ ≠ (.slice Ao10 t793.length co10 : Value).ownBlock ∧ some k_ ≠ (.slice Ao11 t794.length co11 : Value).ownBlock) ho0 (fun k_ hk_ => ⟨(Kd.fresh' (Kd.R_lt z54x1) k_ hk_), (Kd.fresh' (Kd.R_lt z54x2) k_ hk_)⟩)) (below_size z54x0)); have n3_ := Aside0.mk (below_step z54x0 hb); clear HO796; clear HO798; clear HB; have HO796 := n0_; have HO798 := n1_; have HO801 := n2_; have HB := n3_; clear n0_ n1_ n2_ n3_; (try clear hb); (try clear hb2); (try clear hk); (try clear hi); (try clear ho0)) | (go_at_call 40; (with_reducible refine (spec_KnowRead.calls k _ _ t793 _ _ t794 t802 _ ?side1 ?side2 ?side3 ?side4 A5.out).mono ?_); (case side1 => repeat (first | exact (Kd.R_reads' HO796.out).2.2 | (with_reducible refine Kd.C_alloc ?_ _) | (with_reducible refine Kd.C_drewN ?_ _) | (with_reducible refine Kd.C_drew ?_))); (case side2 => exact (Kd.R_reads' HO796.out).2.1); (case side3 => repeat (first | exact (Kd.R_reads' HO798.out).2.2 | (with_reducible refine Kd.C_alloc ?_ _) | (with_reducible refine Kd.C_drewN ?_ _) | (with_reducible refine Kd.C_drew ?_))); (case side4 => exact (Kd.R_reads' HO798.out).2.1); rintro e w13 ⟨v803, rfl, ho0, hb⟩; have n0_ := Aside0.mk (Kd.R_below z54x1 hb); have n1_ := Aside0.mk (Kd.R_elder' z54x2 (Kd.R_base ho0) hb); have n2_ := Aside0.mk (Kd.V_elder' z54x4 (Kd.R_base ho0) hb); have n3_ := Aside0.mk (Kd.R_lower (Kd.R_new' ho0 (Kd.R_lt z54x2)) (below_size z54x0)); have n4_ := Aside0.mk (below_step z54x0 hb); clear HO796; clear HO798; clear HO801; clear HB; have HO796 := n0_; have HO798 := n1_; have HO801 := n2_; have HO804 := n3_; have HB := n4_; clear n0_ n1_ n2_ n3_ n4_; (try clear hb); (try clear hb2); (try clear hk); (try clear hi); (try clear ho0); obtain ⟨Ao14, co14, eo14⟩ := Kd.V_slice HO801.out; subst eo14; obtain ⟨Ao15, co15, eo15⟩ := Kd.R_slice HO804.out; subst eo15) | (go_at_call 39; (with_reducible refine (laws_lbSeals.calls k _ _ t799 _ _ t802 true _ ?side1 ?side2 ?side3 ?side4 A6.out).mono ?_); (case side1 => repeat (first | exact (Kd.V_reads' HO801.out).2.2 | (with_reducible refine Kd.C_alloc ?_ _) | (with_reducible refine Kd.C_drewN ?_ _) | (with_reducible refine Kd.C_drew ?_))); (case side2 => exact (Kd.V_reads' HO801.out).2.1); (case side3 => repeat (first | exact (Kd.R_reads' HO804.out).2.2 | (with_reducible refine Kd.C_alloc ?_ _) | (with_reducible refine Kd.C_drewN ?_ _) | (with_reducible refine Kd.C_drew ?_))); (case side4 => exact (Kd.R_reads' HO804.out).2.1); rintro e w' ⟨rfl, ⟨nd, rfl⟩⟩; (try first | exact ⟨rfl, _, World.drewN_drewN _ _ _⟩ | exact ⟨rfl, _, Eq.trans (World.drewN_drewN _ _ _) (congrArg (World.drewN _) (Nat.add_assoc _ _ _))⟩)) | (go_at_call 34; (with_reducible refine (impl_KnowKeys.calls _ _ t793 _ _ t794 t806 _ ?side1 ?side2 ?side3 ?side4 A8.out).mono ?_); (case side1 => repeat (first | exact (Kd.R_reads' HO796.out).2.2 | (with_reducible refine Kd.C_alloc ?_ _) | (with_reducible refine Kd.C_drewN ?_ _) | (with_reducible refine Kd.C_drew ?_))); (case side2 => exact (Kd.R_reads' HO796.out).2.1); (case side3 => repeat (first | exact (Kd.R_reads' HO798.out).2.2 | (with_reducible refine Kd.C_alloc ?_ _) | (with_reducible refine Kd.C_drewN ?_ _) | (with_reducible refine Kd.C_drew ?_))); (case side4 => exact (Kd.R_reads' HO798.out).2.1); rintro e w16 ⟨v807, rfl, ho0, hb⟩; have n0_ := Aside0.mk (Kd.R_below z54x1 hb); have n1_ := Aside0.mk (Kd.R_below z54x2 hb); have n2_ := Aside0.mk (Kd.V_below z54x4 hb); have n3_ := Aside0.mk (Kd.R_below z54x3 hb); have n4_ := Aside0.mk (Kd.V_lower (Kd.V_mono (ok' := fun k_ => some k_ ≠ (.slice Ao10 t793.length co10 : Value).ownBlock ∧ some k_ ≠ (.slice Ao11 t794.length co11 : Value).ownBlock ∧ some k_ ≠ (.slice Ao15 t802.length co15 : Value).ownBlock) ho0 (fun k_ hk_ => ⟨(Kd.fresh' (Kd.R_lt z54x1) k_ hk_), (Kd.fresh' (Kd.R_lt z54x2) k_ hk_), (Kd.fresh' (Kd.R_lt z54x3) k_ hk_)⟩)) (below_size z54x0)); have n5_ := Aside0.mk (below_step z54x0 hb); clear HO796; clear HO798; clear HO801; clear HO804; clear HB; have HO796 := n0_; have HO798 := n1_; have HO801 := n2_; have HO804 := n3_; have HO808 := n4_; have HB := n5_; clear n0_ n1_ n2_ n3_ n4_ n5_; (try clear hb); (try clear hb2); (try clear hk); (try clear hi); (try clear ho0))))
   go_loopg [7, 8] k (fun kq v7 v8 w' => ∃ (x7_1 : Int) (x8_1 : Int), v7 = .int .i64 x7_1 ∧ v8 = .int .i64 x8_1 ∧ Aside0 (laws_FnKnowRead.l0 kq t794 t799 t806 x7_1 x8_1 = some r) ∧ Aside0 (kq ≤ k) ∧ Aside0 (Kd.R k24 24 w' w.heap.size (fun _ => True) (.slice Ao11 t794.length co11) t794) ∧ Aside0 (Kd.V k24 24 w' w.heap.size (fun k_ => some k_ ≠ ((.slice Ao11 t794.length co11) : Value).ownBlock) (.slice Ao14 t799.length co14) t799) ∧ Aside0 (Kd.V (Kd.int .i64) 3 w' w.heap.size (fun k_ => some k_ ≠ ((.slice Ao11 t794.length co11) : Value).ownBlock) v807 t806) ∧ Aside0 (Below w.heap.size w w'))
   case atStart => exact ⟨(0), (0), (by first | rfl | (simp; done) | (simp [*]; done)), (by first | rfl | (simp; done) | (simp [*]; done)), H', ⟨Nat.le_refl _⟩, ⟨by (with_reducible repeat (first | apply Kd.R_alloc | apply Kd.R_drewN | apply Kd.R_drew)); exact Kd.R_mono HO798.out (fun _ hk => trivial)⟩, ⟨by (with_reducible repeat (first | apply Kd.V_alloc | apply Kd.V_drewN | apply Kd.V_drew)); exact Kd.V_mono HO801.out (fun _ hk => hk.1.2)⟩, ⟨by (with_reducible repeat (first | apply Kd.V_alloc | apply Kd.V_drewN | apply Kd.V_drew)); exact Kd.V_mono HO808.out (fun _ hk => hk.2.1)⟩, ⟨by repeat (first | (with_reducible first | exact HB.out | apply below_alloc | apply pw_below_drewN | apply below_drew1) | exact HB.out)⟩⟩
   case round =>
    clear H'
    try clear c1
    try clear c2
    try clear c2b0
    try clear c2b1
    try clear p2
    try clear c7
    try clear c14
    obtain ⟨x7_1, x8_1, rfl, rfl, HA, HK1, HO_4, HO_5, HO_6, HB⟩ := hrel
    cases gk with
    | zero => exact absurd HA.out (by simp [laws_FnKnowRead.l0])
    | succ k1 =>
     have H := HA.out
     clear HA
     simp only [laws_FnKnowRead.l0] at H
     by_cases c17 : x8_1 < (t794.length : Int)
     ·rw [if_pos c17] at H
      have c17b0 : decide (x8_1 < (t794.length : Int)) = true := decide_eq_true c17
      clear c17
      have HC18 := Aside0.mk H
      clear H
      go_upto_region 12 with (fail)
      repeat (go_quiet (fail); go_upto_region 12 with (fail))
      go_cut [48] (fun v48 wc => ∃ (kq : Nat) (x48_17 : Bool), v48 = .bool x48_17 ∧ Aside0 (laws_FnKnowRead.j1 kq t794 t799 t806 x7_1 x8_1 x48_17 = some r) ∧ Aside0 (kq ≤ k1) ∧ Aside0 (Kd.R k24 24 wc w.heap.size (fun _ => True) (.slice Ao11 t794.length co11) t794) ∧ Aside0 (Kd.V k24 24 wc w.heap.size (fun k_ => some k_ ≠ ((.slice Ao11 t794.length co11) : Value).ownBlock) (.slice Ao14 t799.length co14) t799) ∧ Aside0 (Kd.V (Kd.int .i64) 3 wc w.heap.size (fun k_ => some k_ ≠ ((.slice Ao11 t794.length co11) : Value).ownBlock) v807 t806) ∧ Aside0 (Below w.heap.size w wc))
      case first =>
       have H := HC18.out
       clear HC18
       by_cases c19 : 0 ≤ x8_1
       ·rw [if_pos c19] at H
        have c19b0 : decide (0 ≤ x8_1) = true := decide_eq_true c19
        clear c19
        (first | rw [c19b0] | (simp only [i64_w, i32_w]; rw [c19b0]) | skip)
        replace H := Option.bind_eq_some_iff.mp H
        obtain ⟨t810, A200, H⟩ := H
        replace H : (if t810 = true then ((laws_lbHas.f k1 t806 ((rd_T24 t794 x8_1).f0)).bind fun t812 => (laws_FnKnowRead.j1 k1 t794 t799 t806 x7_1 x8_1 t812)) else (laws_FnKnowRead.j1 k1 t794 t799 t806 x7_1 x8_1 false)) = some r := H
        have A20 := Aside0.mk A200
        clear A200
        by_cases c21 : t810 = true
        ·subst c21
         rw [if_pos rfl] at H
         replace H := Option.bind_eq_some_iff.mp H
         obtain ⟨t812, A220, H⟩ := H
         replace H : (laws_FnKnowRead.j1 k1 t794 t799 t806 x7_1 x8_1 t812) = some r := H
         have A22 := Aside0.mk A220
         clear A220
         have H' := Aside0.mk H
         clear H
         have p809 : 0 ≤ (x8_1 : Int) := of_decide_eq_true (by first | (with_reducible assumption) | assumption)
         have q809 : x8_1 < (t794.length : Int) := of_decide_eq_true (by first | (with_reducible assumption) | assumption)
         obtain ⟨ad809, e809, hx809_0, hx809_1, hx809_2, hx809_3, hx809_4, hx809_5, hx809_6⟩ := at_T24 (Kd.R_reads' HO_4.out).2.2 x8_1 p809 q809
         cases e809
         replace p809 := eq_true p809
         replace q809 := eq_true q809
         go_wp2_with (first | (go_at_call 25; (with_reducible refine (impl_SealOk.calls ((rd_T24 t794 x8_1).f0) ((rd_T24 t794 x8_1).f1) ((rd_T24 t794 x8_1).f2) ((rd_T24 t794 x8_1).f3) ((rd_T24 t794 x8_1).f4) ((rd_T24 t794 x8_1).f5) ((rd_T24 t794 x8_1).f6) true _ A20.out).mono ?_); rintro e w23 ⟨rfl, hb⟩; have n0_ := Aside0.mk (Kd.R_below z54x5 hb); have n1_ := Aside0.mk (Kd.V_below z54x6 hb); have n2_ := Aside0.mk (Kd.V_below z54x7 hb); have n3_ := Aside0.mk (below_step z54x0 hb); clear HO_4; clear HO_5; clear HO_6; clear HB; have HO_4 := n0_; have HO_5 := n1_; have HO_6 := n2_; have HB := n3_; clear n0_ n1_ n2_ n3_; (try clear hb); (try clear hb2); (try clear hk); (try clear hi); have p811 : 0 ≤ (x8_1 : Int) := of_decide_eq_true (by first | (with_reducible assumption) | assumption); have q811 : x8_1 < (t794.length : Int) := of_decide_eq_true (by first | (with_reducible assumption) | assumption); obtain ⟨ad811, e811, hx811_0, hx811_1, hx811_2, hx811_3, hx811_4, hx811_5, hx811_6⟩ := at_T24 (Kd.R_reads' HO_4.out).2.2 x8_1 p811 q811; obtain rfl : ad809 = ad811 := (by injection e811); replace p811 := eq_true p811; replace q811 := eq_true q811; obtain ⟨Ao24, co24, eo24⟩ := Kd.V_slice HO_6.out; subst eo24) | (go_at_call 41; (with_reducible refine (laws_lbHas.calls k1 _ _ t806 ((rd_T24 t794 x8_1).f0) t812 _ ?side1 ?side2 A22.out).mono ?_); (case side1 => repeat (first | exact (Kd.V_reads' HO_6.out).2.2 | (with_reducible refine Kd.C_alloc ?_ _) | (with_reducible refine Kd.C_drewN ?_ _) | (with_reducible refine Kd.C_drew ?_))); (case side2 => exact (Kd.V_reads' HO_6.out).2.1); rintro e w' ⟨rfl, ⟨nd, rfl⟩⟩; (try first | exact ⟨rfl, _, World.drewN_drewN _ _ _⟩ | exact ⟨rfl, _, Eq.trans (World.drewN_drewN _ _ _) (congrArg (World.drewN _) (Nat.add_assoc _ _ _))⟩)))
         repeat (go_quiet (first | (go_at_call 25; (with_reducible refine (impl_SealOk.calls ((rd_T24 t794 x8_1).f0) ((rd_T24 t794 x8_1).f1) ((rd_T24 t794 x8_1).f2) ((rd_T24 t794 x8_1).f3) ((rd_T24 t794 x8_1).f4) ((rd_T24 t794 x8_1).f5) ((rd_T24 t794 x8_1).f6) true _ A20.out).mono ?_); rintro e w23 ⟨rfl, hb⟩; have n0_ := Aside0.mk (Kd.R_below z54x5 hb); have n1_ := Aside0.mk (Kd.V_below z54x6 hb); have n2_ := Aside0.mk (Kd.V_below z54x7 hb); have n3_ := Aside0.mk (below_step z54x0 hb); clear HO_4; clear HO_5; clear HO_6; clear HB; have HO_4 := n0_; have HO_5 := n1_; have HO_6 := n2_; have HB := n3_; clear n0_ n1_ n2_ n3_; (try clear hb); (try clear hb2); (try clear hk); (try clear hi); have p811 : 0 ≤ (x8_1 : Int) := of_decide_eq_true (by first | (with_reducible assumption) | assumption); have q811 : x8_1 < (t794.length : Int) := of_decide_eq_true (by first | (with_reducible assumption) | assumption); obtain ⟨ad811, e811, hx811_0, hx811_1, hx811_2, hx811_3, hx811_4, hx811_5, hx811_6⟩ := at_T24 (Kd.R_reads' HO_4.out).2.2 x8_1 p811 q811; obtain rfl : ad809 = ad811 := (by injection e811); replace p811 := eq_true p811; replace q811 := eq_true q811; obtain ⟨Ao24, co24, eo24⟩ := Kd.V_slice HO_6.out; subst eo24) | (go_at_call 41; (with_reducible refine (laws_lbHas.calls k1 _ _ t806 ((rd_T24 t794 x8_1).f0) t812 _ ?side1 ?side2 A22.out).mono ?_); (case side1 => repeat (first | exact (Kd.V_reads' HO_6.out).2.2 | (with_reducible refine Kd.C_alloc ?_ _) | (with_reducible refine Kd.C_drewN ?_ _) | (with_reducible refine Kd.C_drew ?_))); (case side2 => exact (Kd.V_reads' HO_6.out).2.1); rintro e w' ⟨rfl, ⟨nd, rfl⟩⟩; (try first | exact ⟨rfl, _, World.drewN_drewN _ _ _⟩ | exact ⟨rfl, _, Eq.trans (World.drewN_drewN _ _ _) (congrArg (World.drewN _) (Nat.add_assoc _ _ _))⟩))); try go_wp2_with (first | (go_at_call 25; (with_reducible refine (impl_SealOk.calls ((rd_T24 t794 x8_1).f0) ((rd_T24 t794 x8_1).f1) ((rd_T24 t794 x8_1).f2) ((rd_T24 t794 x8_1).f3) ((rd_T24 t794 x8_1).f4) ((rd_T24 t794 x8_1).f5) ((rd_T24 t794 x8_1).f6) true _ A20.out).mono ?_); rintro e w23 ⟨rfl, hb⟩; have n0_ := Aside0.mk (Kd.R_below z54x5 hb); have n1_ := Aside0.mk (Kd.V_below z54x6 hb); have n2_ := Aside0.mk (Kd.V_below z54x7 hb); have n3_ := Aside0.mk (below_step z54x0 hb); clear HO_4; clear HO_5; clear HO_6; clear HB; have HO_4 := n0_; have HO_5 := n1_; have HO_6 := n2_; have HB := n3_; clear n0_ n1_ n2_ n3_; (try clear hb); (try clear hb2); (try clear hk); (try clear hi); have p811 : 0 ≤ (x8_1 : Int) := of_decide_eq_true (by first | (with_reducible assumption) | assumption); have q811 : x8_1 < (t794.length : Int) := of_decide_eq_true (by first | (with_reducible assumption) | assumption); obtain ⟨ad811, e811, hx811_0, hx811_1, hx811_2, hx811_3, hx811_4, hx811_5, hx811_6⟩ := at_T24 (Kd.R_reads' HO_4.out).2.2 x8_1 p811 q811; obtain rfl : ad809 = ad811 := (by injection e811); replace p811 := eq_true p811; replace q811 := eq_true q811; obtain ⟨Ao24, co24, eo24⟩ := Kd.V_slice HO_6.out; subst eo24) | (go_at_call 41; (with_reducible refine (laws_lbHas.calls k1 _ _ t806 ((rd_T24 t794 x8_1).f0) t812 _ ?side1 ?side2 A22.out).mono ?_); (case side1 => repeat (first | exact (Kd.V_reads' HO_6.out).2.2 | (with_reducible refine Kd.C_alloc ?_ _) | (with_reducible refine Kd.C_drewN ?_ _) | (with_reducible refine Kd.C_drew ?_))); (case side2 => exact (Kd.V_reads' HO_6.out).2.1); rintro e w' ⟨rfl, ⟨nd, rfl⟩⟩; (try first | exact ⟨rfl, _, World.drewN_drewN _ _ _⟩ | exact ⟨rfl, _, Eq.trans (World.drewN_drewN _ _ _) (congrArg (World.drewN _) (Nat.add_assoc _ _ _))⟩))))
         go_meet
         case rel => exact ⟨_, (t812), (by first | rfl | (simp; done) | (simp [*]; done)), H', ⟨by have := HK1.out; first | omega | exact Nat.le_refl _⟩, ⟨by (with_reducible repeat (first | apply Kd.R_alloc | apply Kd.R_drewN | apply Kd.R_drew)); exact HO_4.out⟩, ⟨by (with_reducible repeat (first | apply Kd.V_alloc | apply Kd.V_drewN | apply Kd.V_drew)); exact HO_5.out⟩, ⟨by (with_reducible repeat (first | apply Kd.V_alloc | apply Kd.V_drewN | apply Kd.V_drew)); exact HO_6.out⟩, ⟨by repeat (first | (with_reducible first | exact HB.out | apply below_alloc | apply pw_below_drewN | apply below_drew1) | exact HB.out)⟩⟩
        ·replace c21 := Bool.eq_false_iff.mpr c21
         subst c21
         rw [if_neg (show ¬ (false = true) by decide)] at H
         have H' := Aside0.mk H
         clear H
         have p809 : 0 ≤ (x8_1 : Int) := of_decide_eq_true (by first | (with_reducible assumption) | assumption)
         have q809 : x8_1 < (t794.length : Int) := of_decide_eq_true (by first | (with_reducible assumption) | assumption)
         obtain ⟨ad809, e809, hx809_0, hx809_1, hx809_2, hx809_3, hx809_4, hx809_5, hx809_6⟩ := at_T24 (Kd.R_reads' HO_4.out).2.2 x8_1 p809 q809
         cases e809
         replace p809 := eq_true p809
         replace q809 := eq_true q809
         go_wp2_with (first | (go_at_call 25; (with_reducible refine (impl_SealOk.calls ((rd_T24 t794 x8_1).f0) ((rd_T24 t794 x8_1).f1) ((rd_T24 t794 x8_1).f2) ((rd_T24 t794 x8_1).f3) ((rd_T24 t794 x8_1).f4) ((rd_T24 t794 x8_1).f5) ((rd_T24 t794 x8_1).f6) false _ A20.out).mono ?_); rintro e w25 ⟨rfl, hb⟩; have n0_ := Aside0.mk (Kd.R_below z54x5 hb); have n1_ := Aside0.mk (Kd.V_below z54x6 hb); have n2_ := Aside0.mk (Kd.V_below z54x7 hb); have n3_ := Aside0.mk (below_step z54x0 hb); clear HO_4; clear HO_5; clear HO_6; clear HB; have HO_4 := n0_; have HO_5 := n1_; have HO_6 := n2_; have HB := n3_; clear n0_ n1_ n2_ n3_; (try clear hb); (try clear hb2); (try clear hk); (try clear hi)))
         repeat (go_quiet (first | (go_at_call 25; (with_reducible refine (impl_SealOk.calls ((rd_T24 t794 x8_1).f0) ((rd_T24 t794 x8_1).f1) ((rd_T24 t794 x8_1).f2) ((rd_T24 t794 x8_1).f3) ((rd_T24 t794 x8_1).f4) ((rd_T24 t794 x8_1).f5) ((rd_T24 t794 x8_1).f6) false _ A20.out).mono ?_); rintro e w25 ⟨rfl, hb⟩; have n0_ := Aside0.mk (Kd.R_below z54x5 hb); have n1_ := Aside0.mk (Kd.V_below z54x6 hb); have n2_ := Aside0.mk (Kd.V_below z54x7 hb); have n3_ := Aside0.mk (below_step z54x0 hb); clear HO_4; clear HO_5; clear HO_6; clear HB; have HO_4 := n0_; have HO_5 := n1_; have HO_6 := n2_; have HB := n3_; clear n0_ n1_ n2_ n3_; (try clear hb); (try clear hb2); (try clear hk); (try clear hi))); try go_wp2_with (first | (go_at_call 25; (with_reducible refine (impl_SealOk.calls ((rd_T24 t794 x8_1).f0) ((rd_T24 t794 x8_1).f1) ((rd_T24 t794 x8_1).f2) ((rd_T24 t794 x8_1).f3) ((rd_T24 t794 x8_1).f4) ((rd_T24 t794 x8_1).f5) ((rd_T24 t794 x8_1).f6) false _ A20.out).mono ?_); rintro e w25 ⟨rfl, hb⟩; have n0_ := Aside0.mk (Kd.R_below z54x5 hb); have n1_ := Aside0.mk (Kd.V_below z54x6 hb); have n2_ := Aside0.mk (Kd.V_below z54x7 hb); have n3_ := Aside0.mk (below_step z54x0 hb); clear HO_4; clear HO_5; clear HO_6; clear HB; have HO_4 := n0_; have HO_5 := n1_; have HO_6 := n2_; have HB := n3_; clear n0_ n1_ n2_ n3_; (try clear hb); (try clear hb2); (try clear hk); (try clear hi))))
         go_meet
         case rel => exact ⟨_, (false), (by first | rfl | (simp; done) | (simp [*]; done)), H', ⟨by have := HK1.out; first | omega | exact Nat.le_refl _⟩, ⟨by (with_reducible repeat (first | apply Kd.R_alloc | apply Kd.R_drewN | apply Kd.R_drew)); exact HO_4.out⟩, ⟨by (with_reducible repeat (first | apply Kd.V_alloc | apply Kd.V_drewN | apply Kd.V_drew)); exact HO_5.out⟩, ⟨by (with_reducible repeat (first | apply Kd.V_alloc | apply Kd.V_drewN | apply Kd.V_drew)); exact HO_6.out⟩, ⟨by repeat (first | (with_reducible first | exact HB.out | apply below_alloc | apply pw_below_drewN | apply below_drew1) | exact HB.out)⟩⟩
       ·rw [if_neg c19] at H
        exact absurd H (by simp)
      case rest =>
       clear HC18
       try clear c1
       try clear c2
       try clear c2b0
       try clear c2b1
       try clear p2
       try clear c7
       try clear p8
       try clear q8
       try clear hx8
       try clear c14
       try clear c17
       try clear c17b0
       try clear c19
       try clear c19b0
       try clear c21
       try clear hx809_0
       try clear hx809_1
       try clear hx809_2
       try clear hx809_3
       try clear hx809_4
       try clear hx809_5
       try clear hx809_6
       try clear hx811_0
       try clear hx811_1
       try clear hx811_2
       try clear hx811_3
       try clear hx811_4
       try clear hx811_5
       try clear hx811_6
       try clear p2
       try clear p809
       try clear p811
       try clear q809
       try clear q811
       obtain ⟨kq, x48_17, rfl, HA, HJ17, HO_4, HO_5, HO_6, HB⟩ := hcut
       cases kq with
       | zero => exact absurd HA.out (by simp [laws_FnKnowRead.j1])
       | succ kj17 =>
        have H := HA.out
        clear HA
        simp only [laws_FnKnowRead.j1] at H
        by_cases c26 : x48_17 = true
        ·subst c26
         rw [if_pos rfl] at H
         by_cases c27 : x7_1 ≥ (t799.length : Int)
         ·rw [if_pos c27] at H
          have c27b0 : decide ((t799.length : Int) ≤ x7_1) = true := decide_eq_true c27
          clear c27
          obtain rfl := Option.some.inj H
          go_wp2
          repeat (go_quiet (fail); try go_wp2)
          go_ret
          exact ⟨by first | rfl | (simp [errW_none, errW_some] <;> rfl) | (simp [*, errW_none, errW_some] <;> rfl), by repeat (first | (with_reducible first | exact HB.out | apply below_alloc | apply pw_below_drewN | apply below_drew1) | exact HB.out)⟩
         ·rw [if_neg c27] at H
          have c27b0 : decide ((t799.length : Int) ≤ x7_1) = false := decide_eq_false c27
          clear c27
          by_cases c28 : 0 ≤ x7_1
          ·rw [if_pos c28] at H
           have c28b0 : decide (0 ≤ x7_1) = true := decide_eq_true c28
           clear c28
           by_cases c29 : x7_1 < (t799.length : Int)
           ·rw [if_pos c29] at H
            have c29b0 : decide (x7_1 < (t799.length : Int)) = true := decide_eq_true c29
            clear c29
            by_cases c30 : 0 ≤ x8_1
            ·rw [if_pos c30] at H
             have c30b0 : decide (0 ≤ x8_1) = true := decide_eq_true c30
             clear c30
             by_cases c31 : x8_1 < (t794.length : Int)
             ·rw [if_pos c31] at H
              have c31b0 : decide (x8_1 < (t794.length : Int)) = true := decide_eq_true c31
              clear c31
              by_cases c32 : (!(((rd_T24 t799 x7_1).f0) == ((rd_T24 t794 x8_1).f0)) || (!(((rd_T24 t799 x7_1).f1) == ((rd_T24 t794 x8_1).f1)) || (!(((rd_T24 t799 x7_1).f2) == ((rd_T24 t794 x8_1).f2)) || (!(((rd_T24 t799 x7_1).f3) == ((rd_T24 t794 x8_1).f3)) || (!(((rd_T24 t799 x7_1).f4) == ((rd_T24 t794 x8_1).f4)) || (!(((rd_T24 t799 x7_1).f5) == ((rd_T24 t794 x8_1).f5)) || (!(((rd_T24 t799 x7_1).f6) == ((rd_T24 t794 x8_1).f6))))))))) = true
              ·rw [if_pos c32] at H
               have c32b0 : (!(((rd_T24 t799 x7_1).f0) == ((rd_T24 t794 x8_1).f0)) || (!(((rd_T24 t799 x7_1).f1) == ((rd_T24 t794 x8_1).f1)) || (!(((rd_T24 t799 x7_1).f2) == ((rd_T24 t794 x8_1).f2)) || (!(((rd_T24 t799 x7_1).f3) == ((rd_T24 t794 x8_1).f3)) || (!(((rd_T24 t799 x7_1).f4) == ((rd_T24 t794 x8_1).f4)) || (!(((rd_T24 t799 x7_1).f5) == ((rd_T24 t794 x8_1).f5)) || (!(((rd_T24 t799 x7_1).f6) == ((rd_T24 t794 x8_1).f6))))))))) = true := c32
               clear c32
               obtain rfl := Option.some.inj H
               have p813 : 0 ≤ (x7_1 : Int) := of_decide_eq_true (by first | (with_reducible assumption) | assumption)
               have q813 : x7_1 < (t799.length : Int) := of_decide_eq_true (by first | (with_reducible assumption) | assumption)
               obtain ⟨ad813, e813, hx813_0, hx813_1, hx813_2, hx813_3, hx813_4, hx813_5, hx813_6⟩ := at_T24 (Kd.V_reads' HO_5.out).2.2 x7_1 p813 q813
               cases e813
               replace p813 := eq_true p813
               replace q813 := eq_true q813
               have p814 : 0 ≤ (x8_1 : Int) := of_decide_eq_true (by first | (with_reducible assumption) | assumption)
               have q814 : x8_1 < (t794.length : Int) := of_decide_eq_true (by first | (with_reducible assumption) | assumption)
               obtain ⟨ad814, e814, hx814_0, hx814_1, hx814_2, hx814_3, hx814_4, hx814_5, hx814_6⟩ := at_T24 (Kd.R_reads' HO_4.out).2.2 x8_1 p814 q814
               cases e814
               replace p814 := eq_true p814
               replace q814 := eq_true q814
               go_wp2
               repeat (go_quiet (fail); try go_wp2)
               go_ret
               exact ⟨by first | rfl | (simp [errW_none, errW_some] <;> rfl) | (simp [*, errW_none, errW_some] <;> rfl), by repeat (first | (with_reducible first | exact HB.out | apply below_alloc | apply pw_below_drewN | apply below_drew1) | exact HB.out)⟩
              ·rw [if_neg c32] at H
               have c32b0 : (!(((rd_T24 t799 x7_1).f0) == ((rd_T24 t794 x8_1).f0)) || (!(((rd_T24 t799 x7_1).f1) == ((rd_T24 t794 x8_1).f1)) || (!(((rd_T24 t799 x7_1).f2) == ((rd_T24 t794 x8_1).f2)) || (!(((rd_T24 t799 x7_1).f3) == ((rd_T24 t794 x8_1).f3)) || (!(((rd_T24 t799 x7_1).f4) == ((rd_T24 t794 x8_1).f4)) || (!(((rd_T24 t799 x7_1).f5) == ((rd_T24 t794 x8_1).f5)) || (!(((rd_T24 t799 x7_1).f6) == ((rd_T24 t794 x8_1).f6))))))))) = false := by simpa using c32
               clear c32
               have H' := Aside0.mk H
               clear H
               have p813 : 0 ≤ (x7_1 : Int) := of_decide_eq_true (by first | (with_reducible assumption) | assumption)
               have q813 : x7_1 < (t799.length : Int) := of_decide_eq_true (by first | (with_reducible assumption) | assumption)
               obtain ⟨ad813, e813, hx813_0, hx813_1, hx813_2, hx813_3, hx813_4, hx813_5, hx813_6⟩ := at_T24 (Kd.V_reads' HO_5.out).2.2 x7_1 p813 q813
               cases e813
               replace p813 := eq_true p813
               replace q813 := eq_true q813
               have p814 : 0 ≤ (x8_1 : Int) := of_decide_eq_true (by first | (with_reducible assumption) | assumption)
               have q814 : x8_1 < (t794.length : Int) := of_decide_eq_true (by first | (with_reducible assumption) | assumption)
               obtain ⟨ad814, e814, hx814_0, hx814_1, hx814_2, hx814_3, hx814_4, hx814_5, hx814_6⟩ := at_T24 (Kd.R_reads' HO_4.out).2.2 x8_1 p814 q814
               cases e814
               replace p814 := eq_true p814
               replace q814 := eq_true q814
               go_wp2
               repeat (go_quiet (fail); try go_wp2)
               go_roundg kj17
               case measure => have := HK1.out; have := HJ17.out; omega
               case rel => exact ⟨(wrap64 (x7_1 + 1)), (wrap64 (x8_1 + 1)), (by first | rfl | (simp; done) | (simp [*]; done)), (by first | rfl | (simp; done) | (simp [*]; done)), H', ⟨by have := HK1.out; have := HJ17.out; omega⟩, ⟨by (with_reducible repeat (first | apply Kd.R_alloc | apply Kd.R_drewN | apply Kd.R_drew)); exact HO_4.out⟩, ⟨by (with_reducible repeat (first | apply Kd.V_alloc | apply Kd.V_drewN | apply Kd.V_drew)); exact HO_5.out⟩, ⟨by (with_reducible repeat (first | apply Kd.V_alloc | apply Kd.V_drewN | apply Kd.V_drew)); exact HO_6.out⟩, ⟨by repeat (first | (with_reducible first | exact HB.out | apply below_alloc | apply pw_below_drewN | apply below_drew1) | exact HB.out)⟩⟩
             ·rw [if_neg c31] at H
              exact absurd H (by simp)
            ·rw [if_neg c30] at H
             exact absurd H (by simp)
           ·rw [if_neg c29] at H
            exact absurd H (by simp)
          ·rw [if_neg c28] at H
           exact absurd H (by simp)
        ·replace c26 := Bool.eq_false_iff.mpr c26
         subst c26
         rw [if_neg (show ¬ (false = true) by decide)] at H
         have H' := Aside0.mk H
         clear H
         go_wp2
         repeat (go_quiet (fail); try go_wp2)
         go_roundg kj17
         case measure => have := HK1.out; have := HJ17.out; omega
         case rel => exact ⟨(x7_1), (wrap64 (x8_1 + 1)), (by first | rfl | (simp; done) | (simp [*]; done)), (by first | rfl | (simp; done) | (simp [*]; done)), H', ⟨by have := HK1.out; have := HJ17.out; omega⟩, ⟨by (with_reducible repeat (first | apply Kd.R_alloc | apply Kd.R_drewN | apply Kd.R_drew)); exact HO_4.out⟩, ⟨by (with_reducible repeat (first | apply Kd.V_alloc | apply Kd.V_drewN | apply Kd.V_drew)); exact HO_5.out⟩, ⟨by (with_reducible repeat (first | apply Kd.V_alloc | apply Kd.V_drewN | apply Kd.V_drew)); exact HO_6.out⟩, ⟨by repeat (first | (with_reducible first | exact HB.out | apply below_alloc | apply pw_below_drewN | apply below_drew1) | exact HB.out)⟩⟩
     ·rw [if_neg c17] at H
      have c17b0 : decide (x8_1 < (t794.length : Int)) = false := decide_eq_false c17
      clear c17
      obtain rfl := Option.some.inj H
      go_wp2
      repeat (go_quiet (fail); try go_wp2)
      go_ret
      exact ⟨by first | rfl | (simp [errW_none, errW_some] <;> rfl) | (simp [*, errW_none, errW_some] <;> rfl), by repeat (first | (with_reducible first | exact HB.out | apply below_alloc | apply pw_below_drewN | apply below_drew1) | exact HB.out)⟩
  ·replace c7 := Bool.eq_false_iff.mpr c7
   subst c7
   rw [if_neg (show ¬ (false = true) by decide)] at H
   obtain rfl := Option.some.inj H
   go_enter Try.func14, Try.ntmps14
   go_wp2_with (first | (go_at_call 37; (with_reducible refine (spec_DrawKnowRead.calls k _ _ l0 t793 t794 _ ?side1 ?side2 A3.out).mono ?_); (case side1 => repeat (first | exact HR0.out | (with_reducible refine Kd.C_alloc ?_ _) | (with_reducible refine Kd.C_drewN ?_ _) | (with_reducible refine Kd.C_drew ?_))); (case side2 => exact HC0.out); rintro e w33 ⟨v795, v797, rfl, ho0, ho1, hb⟩; have n0_ := Aside0.mk (Kd.R_lower ho0 (below_size z54x0)); have n1_ := Aside0.mk (Kd.R_lower ho1 (below_size z54x0)); have n2_ := Aside0.mk (below_step z54x0 hb); clear HB; have HO796 := n0_; have HO798 := n1_; have HB := n2_; clear n0_ n1_ n2_; (try clear hb); (try clear hb2); (try clear hk); (try clear hi); (try clear ho0); (try clear ho1); obtain ⟨Ao34, co34, eo34⟩ := Kd.R_slice HO796.out; subst eo34; obtain ⟨Ao35, co35, eo35⟩ := Kd.R_slice HO798.out; subst eo35) | (go_at_call 38; (with_reducible refine (impl_KnowRead.calls _ _ t793 _ _ t794 t799 _ ?side1 ?side2 ?side3 ?side4 A4.out).mono ?_); (case side1 => repeat (first | exact (Kd.R_reads' HO796.out).2.2 | (with_reducible refine Kd.C_alloc ?_ _) | (with_reducible refine Kd.C_drewN ?_ _) | (with_reducible refine Kd.C_drew ?_))); (case side2 => exact (Kd.R_reads' HO796.out).2.1); (case side3 => repeat (first | exact (Kd.R_reads' HO798.out).2.2 | (with_reducible refine Kd.C_alloc ?_ _) | (with_reducible refine Kd.C_drewN ?_ _) | (with_reducible refine Kd.C_drew ?_))); (case side4 => exact (Kd.R_reads' HO798.out).2.1); rintro e w36 ⟨v800, rfl, ho0, hb⟩; have n0_ := Aside0.mk (Kd.R_below z54x1 hb); have n1_ := Aside0.mk (Kd.R_below z54x2 hb); have n2_ := Aside0.mk (Kd.V_lower (Kd.V_mono (ok' := fun k_ => some k_ ≠ (.slice Ao34 t793.length co34 : Value).ownBlock ∧ some k_ ≠ (.slice Ao35 t794.length co35 : Value).ownBlock) ho0 (fun k_ hk_ => ⟨(Kd.fresh' (Kd.R_lt z54x1) k_ hk_), (Kd.fresh' (Kd.R_lt z54x2) k_ hk_)⟩)) (below_size z54x0)); have n3_ := Aside0.mk (below_step z54x0 hb); clear HO796; clear HO798; clear HB; have HO796 := n0_; have HO798 := n1_; have HO801 := n2_; have HB := n3_; clear n0_ n1_ n2_ n3_; (try clear hb); (try clear hb2); (try clear hk); (try clear hi); (try clear ho0)) | (go_at_call 40; (with_reducible refine (spec_KnowRead.calls k _ _ t793 _ _ t794 t802 _ ?side1 ?side2 ?side3 ?side4 A5.out).mono ?_); (case side1 => repeat (first | exact (Kd.R_reads' HO796.out).2.2 | (with_reducible refine Kd.C_alloc ?_ _) | (with_reducible refine Kd.C_drewN ?_ _) | (with_reducible refine Kd.C_drew ?_))); (case side2 => exact (Kd.R_reads' HO796.out).2.1); (case side3 => repeat (first | exact (Kd.R_reads' HO798.out).2.2 | (with_reducible refine Kd.C_alloc ?_ _) | (with_reducible refine Kd.C_drewN ?_ _) | (with_reducible refine Kd.C_drew ?_))); (case side4 => exact (Kd.R_reads' HO798.out).2.1); rintro e w37 ⟨v803, rfl, ho0, hb⟩; have n0_ := Aside0.mk (Kd.R_below z54x1 hb); have n1_ := Aside0.mk (Kd.R_elder' z54x2 (Kd.R_base ho0) hb); have n2_ := Aside0.mk (Kd.V_elder' z54x4 (Kd.R_base ho0) hb); have n3_ := Aside0.mk (Kd.R_lower (Kd.R_new' ho0 (Kd.R_lt z54x2)) (below_size z54x0)); have n4_ := Aside0.mk (below_step z54x0 hb); clear HO796; clear HO798; clear HO801; clear HB; have HO796 := n0_; have HO798 := n1_; have HO801 := n2_; have HO804 := n3_; have HB := n4_; clear n0_ n1_ n2_ n3_ n4_; (try clear hb); (try clear hb2); (try clear hk); (try clear hi); (try clear ho0); obtain ⟨Ao38, co38, eo38⟩ := Kd.V_slice HO801.out; subst eo38; obtain ⟨Ao39, co39, eo39⟩ := Kd.R_slice HO804.out; subst eo39) | (go_at_call 39; (with_reducible refine (laws_lbSeals.calls k _ _ t799 _ _ t802 false _ ?side1 ?side2 ?side3 ?side4 A6.out).mono ?_); (case side1 => repeat (first | exact (Kd.V_reads' HO801.out).2.2 | (with_reducible refine Kd.C_alloc ?_ _) | (with_reducible refine Kd.C_drewN ?_ _) | (with_reducible refine Kd.C_drew ?_))); (case side2 => exact (Kd.V_reads' HO801.out).2.1); (case side3 => repeat (first | exact (Kd.R_reads' HO804.out).2.2 | (with_reducible refine Kd.C_alloc ?_ _) | (with_reducible refine Kd.C_drewN ?_ _) | (with_reducible refine Kd.C_drew ?_))); (case side4 => exact (Kd.R_reads' HO804.out).2.1); rintro e w' ⟨rfl, ⟨nd, rfl⟩⟩; (try first | exact ⟨rfl, _, World.drewN_drewN _ _ _⟩ | exact ⟨rfl, _, Eq.trans (World.drewN_drewN _ _ _) (congrArg (World.drewN _) (Nat.add_assoc _ _ _))⟩)))
   repeat (go_quiet (first | (go_at_call 37; (with_reducible refine (spec_DrawKnowRead.calls k _ _ l0 t793 t794 _ ?side1 ?side2 A3.out).mono ?_); (case side1 => repeat (first | exact HR0.out | (with_reducible refine Kd.C_alloc ?_ _) | (with_reducible refine Kd.C_drewN ?_ _) | (with_reducible refine Kd.C_drew ?_))); (case side2 => exact HC0.out); rintro e w33 ⟨v795, v797, rfl, ho0, ho1, hb⟩; have n0_ := Aside0.mk (Kd.R_lower ho0 (below_size z54x0)); have n1_ := Aside0.mk (Kd.R_lower ho1 (below_size z54x0)); have n2_ := Aside0.mk (below_step z54x0 hb); clear HB; have HO796 := n0_; have HO798 := n1_; have HB := n2_; clear n0_ n1_ n2_; (try clear hb); (try clear hb2); (try clear hk); (try clear hi); (try clear ho0); (try clear ho1); obtain ⟨Ao34, co34, eo34⟩ := Kd.R_slice HO796.out; subst eo34; obtain ⟨Ao35, co35, eo35⟩ := Kd.R_slice HO798.out; subst eo35) | (go_at_call 38; (with_reducible refine (impl_KnowRead.calls _ _ t793 _ _ t794 t799 _ ?side1 ?side2 ?side3 ?side4 A4.out).mono ?_); (case side1 => repeat (first | exact (Kd.R_reads' HO796.out).2.2 | (with_reducible refine Kd.C_alloc ?_ _) | (with_reducible refine Kd.C_drewN ?_ _) | (with_reducible refine Kd.C_drew ?_))); (case side2 => exact (Kd.R_reads' HO796.out).2.1); (case side3 => repeat (first | exact (Kd.R_reads' HO798.out).2.2 | (with_reducible refine Kd.C_alloc ?_ _) | (with_reducible refine Kd.C_drewN ?_ _) | (with_reducible refine Kd.C_drew ?_))); (case side4 => exact (Kd.R_reads' HO798.out).2.1); rintro e w36 ⟨v800, rfl, ho0, hb⟩; have n0_ := Aside0.mk (Kd.R_below z54x1 hb); have n1_ := Aside0.mk (Kd.R_below z54x2 hb); have n2_ := Aside0.mk (Kd.V_lower (Kd.V_mono (ok' := fun k_ => some k_ ≠ (.slice Ao34 t793.length co34 : Value).ownBlock ∧ some k_ ≠ (.slice Ao35 t794.length co35 : Value).ownBlock) ho0 (fun k_ hk_ => ⟨(Kd.fresh' (Kd.R_lt z54x1) k_ hk_), (Kd.fresh' (Kd.R_lt z54x2) k_ hk_)⟩)) (below_size z54x0)); have n3_ := Aside0.mk (below_step z54x0 hb); clear HO796; clear HO798; clear HB; have HO796 := n0_; have HO798 := n1_; have HO801 := n2_; have HB := n3_; clear n0_ n1_ n2_ n3_; (try clear hb); (try clear hb2); (try clear hk); (try clear hi); (try clear ho0)) | (go_at_call 40; (with_reducible refine (spec_KnowRead.calls k _ _ t793 _ _ t794 t802 _ ?side1 ?side2 ?side3 ?side4 A5.out).mono ?_); (case side1 => repeat (first | exact (Kd.R_reads' HO796.out).2.2 | (with_reducible refine Kd.C_alloc ?_ _) | (with_reducible refine Kd.C_drewN ?_ _) | (with_reducible refine Kd.C_drew ?_))); (case side2 => exact (Kd.R_reads' HO796.out).2.1); (case side3 => repeat (first | exact (Kd.R_reads' HO798.out).2.2 | (with_reducible refine Kd.C_alloc ?_ _) | (with_reducible refine Kd.C_drewN ?_ _) | (with_reducible refine Kd.C_drew ?_))); (case side4 => exact (Kd.R_reads' HO798.out).2.1); rintro e w37 ⟨v803, rfl, ho0, hb⟩; have n0_ := Aside0.mk (Kd.R_below z54x1 hb); have n1_ := Aside0.mk (Kd.R_elder' z54x2 (Kd.R_base ho0) hb); have n2_ := Aside0.mk (Kd.V_elder' z54x4 (Kd.R_base ho0) hb); have n3_ := Aside0.mk (Kd.R_lower (Kd.R_new' ho0 (Kd.R_lt z54x2)) (below_size z54x0)); have n4_ := Aside0.mk (below_step z54x0 hb); clear HO796; clear HO798; clear HO801; clear HB; have HO796 := n0_; have HO798 := n1_; have HO801 := n2_; have HO804 := n3_; have HB := n4_; clear n0_ n1_ n2_ n3_ n4_; (try clear hb); (try clear hb2); (try clear hk); (try clear hi); (try clear ho0); obtain ⟨Ao38, co38, eo38⟩ := Kd.V_slice HO801.out; subst eo38; obtain ⟨Ao39, co39, eo39⟩ := Kd.R_slice HO804.out; subst eo39) | (go_at_call 39; (with_reducible refine (laws_lbSeals.calls k _ _ t799 _ _ t802 false _ ?side1 ?side2 ?side3 ?side4 A6.out).mono ?_); (case side1 => repeat (first | exact (Kd.V_reads' HO801.out).2.2 | (with_reducible refine Kd.C_alloc ?_ _) | (with_reducible refine Kd.C_drewN ?_ _) | (with_reducible refine Kd.C_drew ?_))); (case side2 => exact (Kd.V_reads' HO801.out).2.1); (case side3 => repeat (first | exact (Kd.R_reads' HO804.out).2.2 | (with_reducible refine Kd.C_alloc ?_ _) | (with_reducible refine Kd.C_drewN ?_ _) | (with_reducible refine Kd.C_drew ?_))); (case side4 => exact (Kd.R_reads' HO804.out).2.1); rintro e w' ⟨rfl, ⟨nd, rfl⟩⟩; (try first | exact ⟨rfl, _, World.drewN_drewN _ _ _⟩ | exact ⟨rfl, _, Eq.trans (World.drewN_drewN _ _ _) (congrArg (World.drewN _) (Nat.add_assoc _ _ _))⟩))); try go_wp2_with (first | (go_at_call 37; (with_reducible refine (spec_DrawKnowRead.calls k _ _ l0 t793 t794 _ ?side1 ?side2 A3.out).mono ?_); (case side1 => repeat (first | exact HR0.out | (with_reducible refine Kd.C_alloc ?_ _) | (with_reducible refine Kd.C_drewN ?_ _) | (with_reducible refine Kd.C_drew ?_))); (case side2 => exact HC0.out); rintro e w33 ⟨v795, v797, rfl, ho0, ho1, hb⟩; have n0_ := Aside0.mk (Kd.R_lower ho0 (below_size z54x0)); have n1_ := Aside0.mk (Kd.R_lower ho1 (below_size z54x0)); have n2_ := Aside0.mk (below_step z54x0 hb); clear HB; have HO796 := n0_; have HO798 := n1_; have HB := n2_; clear n0_ n1_ n2_; (try clear hb); (try clear hb2); (try clear hk); (try clear hi); (try clear ho0); (try clear ho1); obtain ⟨Ao34, co34, eo34⟩ := Kd.R_slice HO796.out; subst eo34; obtain ⟨Ao35, co35, eo35⟩ := Kd.R_slice HO798.out; subst eo35) | (go_at_call 38; (with_reducible refine (impl_KnowRead.calls _ _ t793 _ _ t794 t799 _ ?side1 ?side2 ?side3 ?side4 A4.out).mono ?_); (case side1 => repeat (first | exact (Kd.R_reads' HO796.out).2.2 | (with_reducible refine Kd.C_alloc ?_ _) | (with_reducible refine Kd.C_drewN ?_ _) | (with_reducible refine Kd.C_drew ?_))); (case side2 => exact (Kd.R_reads' HO796.out).2.1); (case side3 => repeat (first | exact (Kd.R_reads' HO798.out).2.2 | (with_reducible refine Kd.C_alloc ?_ _) | (with_reducible refine Kd.C_drewN ?_ _) | (with_reducible refine Kd.C_drew ?_))); (case side4 => exact (Kd.R_reads' HO798.out).2.1); rintro e w36 ⟨v800, rfl, ho0, hb⟩; have n0_ := Aside0.mk (Kd.R_below z54x1 hb); have n1_ := Aside0.mk (Kd.R_below z54x2 hb); have n2_ := Aside0.mk (Kd.V_lower (Kd.V_mono (ok' := fun k_ => some k_ ≠ (.slice Ao34 t793.length co34 : Value).ownBlock ∧ some k_ ≠ (.slice Ao35 t794.length co35 : Value).ownBlock) ho0 (fun k_ hk_ => ⟨(Kd.fresh' (Kd.R_lt z54x1) k_ hk_), (Kd.fresh' (Kd.R_lt z54x2) k_ hk_)⟩)) (below_size z54x0)); have n3_ := Aside0.mk (below_step z54x0 hb); clear HO796; clear HO798; clear HB; have HO796 := n0_; have HO798 := n1_; have HO801 := n2_; have HB := n3_; clear n0_ n1_ n2_ n3_; (try clear hb); (try clear hb2); (try clear hk); (try clear hi); (try clear ho0)) | (go_at_call 40; (with_reducible refine (spec_KnowRead.calls k _ _ t793 _ _ t794 t802 _ ?side1 ?side2 ?side3 ?side4 A5.out).mono ?_); (case side1 => repeat (first | exact (Kd.R_reads' HO796.out).2.2 | (with_reducible refine Kd.C_alloc ?_ _) | (with_reducible refine Kd.C_drewN ?_ _) | (with_reducible refine Kd.C_drew ?_))); (case side2 => exact (Kd.R_reads' HO796.out).2.1); (case side3 => repeat (first | exact (Kd.R_reads' HO798.out).2.2 | (with_reducible refine Kd.C_alloc ?_ _) | (with_reducible refine Kd.C_drewN ?_ _) | (with_reducible refine Kd.C_drew ?_))); (case side4 => exact (Kd.R_reads' HO798.out).2.1); rintro e w37 ⟨v803, rfl, ho0, hb⟩; have n0_ := Aside0.mk (Kd.R_below z54x1 hb); have n1_ := Aside0.mk (Kd.R_elder' z54x2 (Kd.R_base ho0) hb); have n2_ := Aside0.mk (Kd.V_elder' z54x4 (Kd.R_base ho0) hb); have n3_ := Aside0.mk (Kd.R_lower (Kd.R_new' ho0 (Kd.R_lt z54x2)) (below_size z54x0)); have n4_ := Aside0.mk (below_step z54x0 hb); clear HO796; clear HO798; clear HO801; clear HB; have HO796 := n0_; have HO798 := n1_; have HO801 := n2_; have HO804 := n3_; have HB := n4_; clear n0_ n1_ n2_ n3_ n4_; (try clear hb); (try clear hb2); (try clear hk); (try clear hi); (try clear ho0); obtain ⟨Ao38, co38, eo38⟩ := Kd.V_slice HO801.out; subst eo38; obtain ⟨Ao39, co39, eo39⟩ := Kd.R_slice HO804.out; subst eo39) | (go_at_call 39; (with_reducible refine (laws_lbSeals.calls k _ _ t799 _ _ t802 false _ ?side1 ?side2 ?side3 ?side4 A6.out).mono ?_); (case side1 => repeat (first | exact (Kd.V_reads' HO801.out).2.2 | (with_reducible refine Kd.C_alloc ?_ _) | (with_reducible refine Kd.C_drewN ?_ _) | (with_reducible refine Kd.C_drew ?_))); (case side2 => exact (Kd.V_reads' HO801.out).2.1); (case side3 => repeat (first | exact (Kd.R_reads' HO804.out).2.2 | (with_reducible refine Kd.C_alloc ?_ _) | (with_reducible refine Kd.C_drewN ?_ _) | (with_reducible refine Kd.C_drew ?_))); (case side4 => exact (Kd.R_reads' HO804.out).2.1); rintro e w' ⟨rfl, ⟨nd, rfl⟩⟩; (try first | exact ⟨rfl, _, World.drewN_drewN _ _ _⟩ | exact ⟨rfl, _, Eq.trans (World.drewN_drewN _ _ _) (congrArg (World.drewN _) (Nat.add_assoc _ _ _))⟩))))
   go_ret
   exact ⟨by first | rfl | (simp [errW_none, errW_some] <;> rfl) | (simp [*, errW_none, errW_some] <;> rfl), by repeat (first | (with_reducible first | exact HB.out | apply below_alloc | apply pw_below_drewN | apply below_drew1) | exact HB.out)⟩

/-- THE ONE PURE STATEMENT of laws_FnKnowRead: yours. -/
def laws_FnKnowRead.Pure : Prop := ∀ (l0 : List Int), l0.length ≤ maxLen → l0.length * 1 ≤ 140737488351232 → (∀ x ∈ l0, (Lit.int .u8 x).wf = true) → ∃ k, laws_FnKnowRead.f k l0 = some true
theorem laws_FnKnowRead.walk (P : laws_FnKnowRead.Pure) (a0 : Option Addr) (len0 cap0 : Nat) (z0 : List Int) (w : World) (w0 : (a0 = none ∧ len0 = 0 ∧ cap0 = 0 ∧ z0 = []) ∨ ∃ x, a0 = some x ∧ len0 ≤ cap0 ∧ cap0 ≤ maxLen ∧ z0.length = cap0 ∧ (∀ i, i < z0.length → w.cell? (x.add i) = some (.int .u8 (z0.getD i 0))) ∧ ∀ n ∈ z0, (Lit.int .u8 n).wf = true) (y0 : len0 * 1 ≤ 140737488351232) :
  Calls Try.prog 14 #[.slice a0 len0 cap0] w fun e w' => e = .returned (.bool true) ∧ Below w.heap.size w w' := by
 obtain ⟨l0, rfl, hr0, hm0, hw0, hc0⟩ := ReadsInt.ofRowC w0
 obtain ⟨k, h⟩ := P l0 hm0 y0 hw0
 refine (laws_FnKnowRead.calls k _ _ l0 true w (Kd.C_of_reads (d := (0 : Int)) (h1 := fun _ => rfl) hr0) hc0 h).mono ?_
 rintro e w' ⟨rfl, hd⟩
 exact ⟨rfl, hd⟩

end Go.Proofs.Ytbiknbjcidlabaa.Hp
