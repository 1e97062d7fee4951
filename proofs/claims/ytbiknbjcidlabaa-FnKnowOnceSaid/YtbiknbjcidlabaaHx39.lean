-- Printed by wip/tools/hp.py of this session (the kit's print.py, with contracts typed by hand beside).
import Derived.Test.YtbiknbjcidlabaaHx0
import Derived.Test.YtbiknbjcidlabaaHx33
import Derived.Test.YtbiknbjcidlabaaHx35
import Derived.Test.YtbiknbjcidlabaaHx36
import Derived.Test.YtbiknbjcidlabaaHx38
namespace Go.Proofs.Ytbiknbjcidlabaa.Hp
open Go.RowKit Go.Proofs.YtbiknbjcidlabaaW.PrintWords Go.Proofs.YtbiknbjcidlabaaW.PrintLast Go.Proofs.YtbiknbjcidlabaaW.PrintMore
attribute [local go_sem] max2_int min2_int max_two min_two max_three min_three max_four min_four   -- for this text's walks alone
set_option linter.unusedVariables false
set_option linter.unusedSimpArgs false
-- squeezed by wip/tools/squeeze.py
theorem z39x9 {P : Prop} (h : P := by (with_reducible repeat (first | apply Kd.V_alloc | apply Kd.V_drewN | apply Kd.V_drew)); exact HO_5.out) : P := h
theorem z39x8 {P : Prop} (h : P := by (with_reducible repeat (first | apply Kd.R_alloc | apply Kd.R_drewN | apply Kd.R_drew)); exact HO_6.out) : P := h
theorem z39x7 {P : Prop} (h : P := by (with_reducible repeat (first | apply Kd.R_alloc | apply Kd.R_drewN | apply Kd.R_drew)); exact HO_4.out) : P := h
theorem z39x6 {P : Prop} (h : P := by (with_reducible repeat (first | apply Kd.R_alloc | apply Kd.R_drewN | apply Kd.R_drew)); exact HO_3.out) : P := h
theorem z39x5 {P : Prop} (h : P := by (with_reducible repeat (first | apply Kd.V_alloc | apply Kd.V_drewN | apply Kd.V_drew)); exact HO541.out) : P := h
theorem z39x4 {P : Prop} (h : P := by (with_reducible repeat (first | apply Kd.V_alloc | apply Kd.V_drewN | apply Kd.V_drew)); exact HO527.out) : P := h
theorem z39x3 {P : Prop} (h : P := by (with_reducible repeat (first | apply Kd.R_alloc | apply Kd.R_drewN | apply Kd.R_drew)); exact HO524.out) : P := h
theorem z39x2 {P : Prop} (h : P := by (with_reducible repeat (first | apply Kd.R_alloc | apply Kd.R_drewN | apply Kd.R_drew)); exact HO522.out) : P := h
theorem z39x1 {P : Prop} (h : P := by repeat (first | (with_reducible first | exact HB.out | apply below_alloc | apply pw_below_drewN | apply below_drew1) | exact HB.out)) : P := h
theorem z39x0 {P : Prop} (h : P := by (try simp only [List.map_toArray, List.map_cons, List.map_nil]); first | done | rfl | (simp only [List.length_drop, List.length_take]; rfl)) : P := h

/-! ### laws_FnKnowOnce: function 8 -/
def laws_FnKnowOnce.l0 : Nat → List Int → List (S24) → List Int → List (S24) → Int → Option (Bool)
 | 0, _, _, _, _, _ => none
 | k + 1, x3, x4, x5, x6, x7 => if x7 ≥ 0 then (if 0 ≤ x7 then (if x7 < (x4.length : Int) then (if x6.length < 2513169434916 then (laws_FnKnowOnce.l0 k x3 x4 x5 (x6 ++ [(⟨(rd_T24 x4 x7).f0, (rd_T24 x4 x7).f1, (rd_T24 x4 x7).f2, (rd_T24 x4 x7).f3, (rd_T24 x4 x7).f4, (rd_T24 x4 x7).f5, (rd_T24 x4 x7).f6⟩ : S24)]) (wrap64 (x7 - 1))) else (none)) else (none)) else (none)) else ((impl_KnowKeys.f x5 x4).bind fun t539 => ((laws_lbInts.f k t539 x5).bind fun t542 => (if t542 = true then ((impl_KnowKeys.f x3 x6).bind fun t543 => ((laws_lbInts.f k t543 x5).bind fun t546 => (if t546 = true then ((impl_KnowKeys.f ([] : List Int) x4).bind fun t547 => (some ((t547.length : Int) == 0))) else (some false)))) else (some false))))
def laws_FnKnowOnce.f (k : Nat) (l0 : List Int) : Option (Bool) := if (l0.length : Int) > 1048576 then (some true) else ((spec_DrawKnowKeys.f k l0).bind fun bt519 => ((impl_KnowKeys.f bt519.1 bt519.2).bind fun t525 => ((spec_KnowKeys.f k bt519.1 bt519.2).bind fun t528 => ((laws_lbInts.f k t525 t528).bind fun t531 => (if t531 = true then (laws_FnKnowOnce.l0 k bt519.1 bt519.2 t525 (([] : List (S24))) (wrap64 ((bt519.2.length : Int) - 1))) else (some false))))))
theorem laws_FnKnowOnce.mono_l : ∀ k, (∀ y0 y1 y2 y3 y4, LeO (laws_FnKnowOnce.l0 k y0 y1 y2 y3 y4) (laws_FnKnowOnce.l0 (k + 1) y0 y1 y2 y3 y4))
 | 0 => fun _ _ _ _ _ r h => by simp [laws_FnKnowOnce.l0] at h
 | k + 1 => by
  have ih0 := laws_FnKnowOnce.mono_l k
  ·intro y0 y1 y2 y3 y4
   unfold laws_FnKnowOnce.l0
   repeat' first
   | (with_reducible exact ih0 _ _ _ _ _)
   | (with_reducible exact laws_lbInts.mono _ _ _)
   | (with_reducible exact spec_DrawKnowKeys.mono _ _)
   | (with_reducible exact spec_KnowKeys.mono _ _ _)
   | (with_reducible exact LeO.refl _)
   | (with_reducible exact LeO.none _)
   | (with_reducible refine LeO.ite ?_ ?_)
   | (with_reducible refine LeO.bind ?_ (fun _ => ?_))
   | exact ih0 _ _ _ _ _
   | exact laws_lbInts.mono _ _ _
   | exact spec_DrawKnowKeys.mono _ _
   | exact spec_KnowKeys.mono _ _ _
   | exact LeO.none _
   | refine LeO.ite ?_ ?_
   | refine LeO.bind ?_ (fun _ => ?_)
theorem laws_FnKnowOnce.mono : ∀ a0 k, LeO (laws_FnKnowOnce.f k a0) (laws_FnKnowOnce.f (k + 1) a0) := by
 intro a0 k
 have ih0 := laws_FnKnowOnce.mono_l k
 unfold laws_FnKnowOnce.f
 repeat' first
   | (with_reducible exact ih0 _ _ _ _ _)
   | (with_reducible exact laws_lbInts.mono _ _ _)
   | (with_reducible exact spec_DrawKnowKeys.mono _ _)
   | (with_reducible exact spec_KnowKeys.mono _ _ _)
   | (with_reducible exact LeO.refl _)
   | (with_reducible exact LeO.none _)
   | (with_reducible refine LeO.ite ?_ ?_)
   | (with_reducible refine LeO.bind ?_ (fun _ => ?_))
   | exact ih0 _ _ _ _ _
   | exact laws_lbInts.mono _ _ _
   | exact spec_DrawKnowKeys.mono _ _
   | exact spec_KnowKeys.mono _ _ _
   | exact LeO.none _
   | refine LeO.ite ?_ ?_
   | refine LeO.bind ?_ (fun _ => ?_)
set_option maxHeartbeats 8000000 in
set_option maxRecDepth 100000 in
theorem laws_FnKnowOnce.calls (k : Nat) (A0 : Option Addr) (c0 : Nat) (l0 : List Int) (r : Bool) (w : World) (hr0 : Kd.C (Kd.int .u8) w A0 l0.length l0) (hc0 : l0.length ≤ c0) (h : laws_FnKnowOnce.f k l0 = some r) :
  Calls Try.prog 8 #[.slice A0 l0.length c0] w fun e w' => e = .returned (.bool r) ∧ Below w.heap.size w w' := by
 have hu24 := Try.underlying24
 have HR0 := Aside0.mk hr0
 have HC0 := Aside0.mk hc0
 clear hr0 hc0
 have HB := Aside0.mk (Below.refl w.heap.size w)
 have H : (if (l0.length : Int) > 1048576 then (some true) else ((spec_DrawKnowKeys.f k l0).bind fun bt519 => ((impl_KnowKeys.f bt519.1 bt519.2).bind fun t525 => ((spec_KnowKeys.f k bt519.1 bt519.2).bind fun t528 => ((laws_lbInts.f k t525 t528).bind fun t531 => (if t531 = true then (laws_FnKnowOnce.l0 k bt519.1 bt519.2 t525 (([] : List (S24))) (wrap64 ((bt519.2.length : Int) - 1))) else (some false))))))) = some r := h
 clear h
 by_cases c2 : (l0.length : Int) > 1048576
 ·rw [if_pos c2] at H
  have c2b0 : decide (1048576 < (l0.length : Int)) = true := decide_eq_true c2
  have c2b1 : decide (1048576 < l0.length) = true := decide_eq_true (by omega)
  clear c2
  obtain rfl := Option.some.inj H
  go_enter Try.func8, Try.ntmps8
  go_wp2
  go_ret
  exact ⟨by first | rfl | (simp [errW_none, errW_some] <;> rfl) | (simp [*, errW_none, errW_some] <;> rfl), by repeat (first | (with_reducible first | exact HB.out | apply below_alloc | apply pw_below_drewN | apply below_drew1) | exact HB.out)⟩
 ·rw [if_neg c2] at H
  have c2b0 : decide (1048576 < (l0.length : Int)) = false := decide_eq_false c2
  have c2b1 : decide (1048576 < l0.length) = false := decide_eq_false (by omega)
  clear c2
  replace H := Option.bind_eq_some_iff.mp H
  obtain ⟨⟨t519, t520⟩, A30, H⟩ := H
  replace H : ((impl_KnowKeys.f t519 t520).bind fun t525 => ((spec_KnowKeys.f k t519 t520).bind fun t528 => ((laws_lbInts.f k t525 t528).bind fun t531 => (if t531 = true then (laws_FnKnowOnce.l0 k t519 t520 t525 (([] : List (S24))) (wrap64 ((t520.length : Int) - 1))) else (some false))))) = some r := H
  have A3 := Aside0.mk A30
  clear A30
  replace H := Option.bind_eq_some_iff.mp H
  obtain ⟨t525, A40, H⟩ := H
  replace H : ((spec_KnowKeys.f k t519 t520).bind fun t528 => ((laws_lbInts.f k t525 t528).bind fun t531 => (if t531 = true then (laws_FnKnowOnce.l0 k t519 t520 t525 (([] : List (S24))) (wrap64 ((t520.length : Int) - 1))) else (some false)))) = some r := H
  have A4 := Aside0.mk A40
  clear A40
  replace H := Option.bind_eq_some_iff.mp H
  obtain ⟨t528, A50, H⟩ := H
  replace H : ((laws_lbInts.f k t525 t528).bind fun t531 => (if t531 = true then (laws_FnKnowOnce.l0 k t519 t520 t525 (([] : List (S24))) (wrap64 ((t520.length : Int) - 1))) else (some false))) = some r := H
  have A5 := Aside0.mk A50
  clear A50
  replace H := Option.bind_eq_some_iff.mp H
  obtain ⟨t531, A60, H⟩ := H
  replace H : (if t531 = true then (laws_FnKnowOnce.l0 k t519 t520 t525 (([] : List (S24))) (wrap64 ((t520.length : Int) - 1))) else (some false)) = some r := H
  have A6 := Aside0.mk A60
  clear A60
  by_cases c7 : t531 = true
  ·subst c7
   rw [if_pos rfl] at H
   obtain ⟨y532, hy532⟩ : ∃ y_ : List (S24), y_ = (([] : List (S24))) := ⟨_, rfl⟩
   replace H : (laws_FnKnowOnce.l0 k t519 t520 t525 y532 (wrap64 ((t520.length : Int) - 1))) = some r := by first | (rw [hy532]; with_reducible exact H) | (have H2_ := (Option.bind_some _ _).symm.trans H; rw [hy532]; with_reducible exact H2_) | (have H2_ := (Option.bind_some _ _).symm.trans H; with_reducible exact H2_) | with_reducible exact H | (rw [hy532]; exact H) | exact H
   have Ny532 := Aside0.mk hy532
   clear hy532
   have H' := Aside0.mk H
   clear H
   go_enter Try.func8, Try.ntmps8
   go_wp2_with (first | ((with_reducible refine gate_callee (f := 33) rfl ?_); refine goesL_ (some 13) rfl rfl Try.func33 (by kernel_rfl) rfl #[.slice A0 l0.length c0] rfl z39x0 ?_; (with_reducible refine (spec_DrawKnowKeys.calls k _ _ l0 t519 t520 _ ?side1 ?side2 A3.out).mono ?_); (case side1 => repeat (first | exact HR0.out | (with_reducible refine Kd.C_alloc ?_ _) | (with_reducible refine Kd.C_drewN ?_ _) | (with_reducible refine Kd.C_drew ?_))); (case side2 => exact HC0.out); rintro e w8 ⟨v521, v523, rfl, ho0, ho1, hb⟩; refine ⟨_, rfl, ?_⟩; have n0_ := Aside0.mk (Kd.R_lower ho0 (below_size z39x1)); have n1_ := Aside0.mk (Kd.R_lower ho1 (below_size z39x1)); have n2_ := Aside0.mk (below_step z39x1 hb); clear HB; have HO522 := n0_; have HO524 := n1_; have HB := n2_; clear n0_ n1_ n2_; (try clear hb); (try clear hb2); (try clear hk); (try clear hi); (try clear ho0); (try clear ho1); obtain ⟨Ao9, co9, eo9⟩ := Kd.R_slice HO522.out; subst eo9; obtain ⟨Ao10, co10, eo10⟩ := Kd.R_slice HO524.out; subst eo10) | ((with_reducible refine gate_callee (f := 34) rfl ?_); refine goesL_ (some 18) rfl rfl Try.func34 (by kernel_rfl) rfl #[.slice Ao9 t519.length co9, .slice Ao10 t520.length co10] rfl z39x0 ?_; (with_reducible refine (impl_KnowKeys.calls _ _ t519 _ _ t520 t525 _ ?side1 ?side2 ?side3 ?side4 A4.out).mono ?_); (case side1 => repeat (first | exact (Kd.R_reads' HO522.out).2.2 | (with_reducible refine Kd.C_alloc ?_ _) | (with_reducible refine Kd.C_drewN ?_ _) | (with_reducible refine Kd.C_drew ?_))); (case side2 => exact (Kd.R_reads' HO522.out).2.1); (case side3 => repeat (first | exact (Kd.R_reads' HO524.out).2.2 | (with_reducible refine Kd.C_alloc ?_ _) | (with_reducible refine Kd.C_drewN ?_ _) | (with_reducible refine Kd.C_drew ?_))); (case side4 => exact (Kd.R_reads' HO524.out).2.1); rintro e w11 ⟨v526, rfl, ho0, hb⟩; refine ⟨_, rfl, ?_⟩; have n0_ := Aside0.mk (Kd.R_below z39x2 hb); have n1_ := Aside0.mk (Kd.R_below z39x3 hb); have n2_ := Aside0.mk (Kd.V_lower (Kd.V_mono (ok' := fun k_ => some k_ ≠ (.slice Ao9 t519.length co9 : Value).ownBlock ∧ some k_ ≠ (.slice Ao10 t520.length co10 : Value).ownBlock) ho0 (fun k_ hk_ => ⟨(Kd.fresh' (Kd.R_lt z39x2) k_ hk_), (Kd.fresh' (Kd.R_lt z39x3) k_ hk_)⟩)) (below_size z39x1)); have n3_ := Aside0.mk (below_step z39x1 hb); clear HO522; clear HO524; clear HB; have HO522 := n0_; have HO524 := n1_; have HO527 := n2_; have HB := n3_; clear n0_ n1_ n2_ n3_; (try clear hb); (try clear hb2); (try clear hk); (try clear hi); (try clear ho0)) | ((with_reducible refine gate_callee (f := 36) rfl ?_); refine goesL_ (some 22) rfl rfl Try.func36 (by kernel_rfl) rfl #[.slice Ao9 t519.length co9, .slice Ao10 t520.length co10] rfl z39x0 ?_; (with_reducible refine (spec_KnowKeys.calls k _ _ t519 _ _ t520 t528 _ ?side1 ?side2 ?side3 ?side4 A5.out).mono ?_); (case side1 => repeat (first | exact (Kd.R_reads' HO522.out).2.2 | (with_reducible refine Kd.C_alloc ?_ _) | (with_reducible refine Kd.C_drewN ?_ _) | (with_reducible refine Kd.C_drew ?_))); (case side2 => exact (Kd.R_reads' HO522.out).2.1); (case side3 => repeat (first | exact (Kd.R_reads' HO524.out).2.2 | (with_reducible refine Kd.C_alloc ?_ _) | (with_reducible refine Kd.C_drewN ?_ _) | (with_reducible refine Kd.C_drew ?_))); (case side4 => exact (Kd.R_reads' HO524.out).2.1); rintro e w12 ⟨v529, rfl, ho0, hb⟩; refine ⟨_, rfl, ?_⟩; have n0_ := Aside0.mk (Kd.R_elder' z39x2 (Kd.R_base ho0) hb); have n1_ := Aside0.mk (Kd.R_below z39x3 hb); have n2_ := Aside0.mk (Kd.V_elder' z39x4 (Kd.R_base ho0) hb); have n3_ := Aside0.mk (Kd.R_lower (Kd.R_new' ho0 (Kd.R_lt z39x2)) (below_size z39x1)); have n4_ := Aside0.mk (below_step z39x1 hb); clear HO522; clear HO524; clear HO527; clear HB; have HO522 := n0_; have HO524 := n1_; have HO527 := n2_; have HO530 := n3_; have HB := n4_; clear n0_ n1_ n2_ n3_ n4_; (try clear hb); (try clear hb2); (try clear hk); (try clear hi); (try clear ho0); obtain ⟨Ao13, co13, eo13⟩ := Kd.V_slice HO527.out; subst eo13; obtain ⟨Ao14, co14, eo14⟩ := Kd.R_slice HO530.out; subst eo14) | ((with_reducible refine gate_callee (f := 35) rfl ?_); refine goesL_ (some 23) rfl rfl Try.func35 (by kernel_rfl) rfl #[.slice Ao13 t525.length co13, .slice Ao14 t528.length co14] rfl z39x0 ?_; (with_reducible refine (laws_lbInts.calls k _ _ t525 _ _ t528 true _ ?side1 ?side2 ?side3 ?side4 A6.out).mono ?_); (case side1 => repeat (first | exact (Kd.V_reads' HO527.out).2.2 | (with_reducible refine Kd.C_alloc ?_ _) | (with_reducible refine Kd.C_drewN ?_ _) | (with_reducible refine Kd.C_drew ?_))); (case side2 => exact (Kd.V_reads' HO527.out).2.1); (case side3 => repeat (first | exact (Kd.R_reads' HO530.out).2.2 | (with_reducible refine Kd.C_alloc ?_ _) | (with_reducible refine Kd.C_drewN ?_ _) | (with_reducible refine Kd.C_drew ?_))); (case side4 => exact (Kd.R_reads' HO530.out).2.1); rintro e w' ⟨rfl, ⟨nd, rfl⟩⟩; refine ⟨_, rfl, ?_⟩) | ((with_reducible refine gate_dst (N := 25) rfl ?_); refine Kd.R_lit k24 _ 24 ?hg (N := 25) ?hd (xs := ([] : List (S24))) (inner := []) (ok := fun _ => True) (okp := fun _ => True) ?hr ?hp (fun _ hk => hk) trivial (Below.refl _ _) (Nat.le_refl _) (by simp) ?_; (case hd => rfl); (case hg => rfl); (case hr => first | (go_simp; done) | (go_simp; rfl)); (case hp => exact (Reps.none _ _)); intro v533 w15 ho16 hb hg_ hnew_; clear hg_ hnew_; (first | rw [← Ny532.out] at ho16 | (simp only [Int.reduceToNat] at ho16; rw [← Ny532.out] at ho16)); have n0_ := Aside0.mk (Kd.R_below z39x2 hb); have n1_ := Aside0.mk (Kd.R_elder' z39x3 (Kd.R_base ho16) hb); have n2_ := Aside0.mk (Kd.V_elder' z39x4 (Kd.R_base ho16) hb); have n3_ := Aside0.mk (Kd.R_below (by (with_reducible repeat (first | apply Kd.R_alloc | apply Kd.R_drewN | apply Kd.R_drew)); exact HO530.out) hb); have n4_ := Aside0.mk (Kd.R_lower (Kd.R_new' ho16 (Kd.R_lt z39x3)) (below_size z39x1)); have n5_ := Aside0.mk (below_step z39x1 hb); clear HO522; clear HO524; clear HO527; clear HO530; clear HB; have HO522 := n0_; have HO524 := n1_; have HO527 := n2_; have HO530 := n3_; have HO534 := n4_; have HB := n5_; clear n0_ n1_ n2_ n3_ n4_ n5_; clear hb ho16))
   go_loopg [6, 7] k (fun kq v6 v7 w' => ∃ (x6_1 : List (S24)) (x7_1 : Int), v7 = .int .i64 x7_1 ∧ Aside0 (laws_FnKnowOnce.l0 kq t519 t520 t525 x6_1 x7_1 = some r) ∧ Aside0 (kq ≤ k) ∧ Aside0 (Kd.R (Kd.int .i64) 3 w' w.heap.size (fun _ => True) (.slice Ao9 t519.length co9) t519) ∧ Aside0 (Kd.R k24 24 w' w.heap.size (fun k_ => some k_ ≠ (v6 : Value).ownBlock) (.slice Ao10 t520.length co10) t520) ∧ Aside0 (Kd.V (Kd.int .i64) 3 w' w.heap.size (fun k_ => some k_ ≠ ((.slice Ao9 t519.length co9) : Value).ownBlock ∧ some k_ ≠ ((.slice Ao10 t520.length co10) : Value).ownBlock ∧ some k_ ≠ (v6 : Value).ownBlock) (.slice Ao13 t525.length co13) t525) ∧ Aside0 (Kd.R k24 24 w' w.heap.size (fun k_ => some k_ ≠ ((.slice Ao10 t520.length co10) : Value).ownBlock) v6 x6_1) ∧ Aside0 (Below w.heap.size w w'))
   case atStart => exact ⟨(y532), (wrap64 ((t520.length : Int) - 1)), (by first | rfl | (simp; done) | (simp [*]; done)), H', ⟨Nat.le_refl _⟩, ⟨by (with_reducible repeat (first | apply Kd.R_alloc | apply Kd.R_drewN | apply Kd.R_drew)); exact Kd.R_mono HO522.out (fun _ hk => trivial)⟩, ⟨by (with_reducible repeat (first | apply Kd.R_alloc | apply Kd.R_drewN | apply Kd.R_drew)); exact Kd.R_mono HO524.out (fun _ hk => hk.2)⟩, ⟨by (with_reducible repeat (first | apply Kd.V_alloc | apply Kd.V_drewN | apply Kd.V_drew)); exact Kd.V_mono HO527.out (fun _ hk => ⟨hk.1.1.1, ⟨hk.1.1.2, hk.2⟩⟩)⟩, ⟨by (with_reducible repeat (first | apply Kd.R_alloc | apply Kd.R_drewN | apply Kd.R_drew)); exact Kd.R_mono HO534.out (fun _ hk => hk.2)⟩, ⟨by repeat (first | (with_reducible first | exact HB.out | apply below_alloc | apply pw_below_drewN | apply below_drew1) | exact HB.out)⟩⟩
   case round =>
    clear H'
    try clear c2
    try clear c2b0
    try clear c2b1
    try clear p2
    try clear c3
    try clear p6
    try clear c7
    try clear c8
    obtain ⟨x6_1, x7_1, rfl, HA, HK1, HO_3, HO_4, HO_5, HO_6, HB⟩ := hrel
    cases gk with
    | zero => exact absurd HA.out (by simp [laws_FnKnowOnce.l0])
    | succ k1 =>
     have H := HA.out
     clear HA
     simp only [laws_FnKnowOnce.l0] at H
     by_cases c17 : x7_1 ≥ 0
     ·rw [if_pos c17] at H
      have c17b0 : decide (0 ≤ x7_1) = true := decide_eq_true c17
      clear c17
      by_cases c18 : 0 ≤ x7_1
      ·rw [if_pos c18] at H
       have c18b0 : decide (0 ≤ x7_1) = true := decide_eq_true c18
       clear c18
       by_cases c19 : x7_1 < (t520.length : Int)
       ·rw [if_pos c19] at H
        have c19b0 : decide (x7_1 < (t520.length : Int)) = true := decide_eq_true c19
        clear c19
        by_cases c20 : x6_1.length < 2513169434916
        ·rw [if_pos c20] at H
         have LMc20 := Aside0.mk c20
         clear c20
         obtain ⟨y536, hy536⟩ : ∃ y_ : List (S24), y_ = (x6_1 ++ [(⟨(rd_T24 t520 x7_1).f0, (rd_T24 t520 x7_1).f1, (rd_T24 t520 x7_1).f2, (rd_T24 t520 x7_1).f3, (rd_T24 t520 x7_1).f4, (rd_T24 t520 x7_1).f5, (rd_T24 t520 x7_1).f6⟩ : S24)]) := ⟨_, rfl⟩
         replace H : (laws_FnKnowOnce.l0 k1 t519 t520 t525 y536 (wrap64 (x7_1 - 1))) = some r := by first | (rw [hy536]; with_reducible exact H) | (have H2_ := (Option.bind_some _ _).symm.trans H; rw [hy536]; with_reducible exact H2_) | (have H2_ := (Option.bind_some _ _).symm.trans H; with_reducible exact H2_) | with_reducible exact H | (rw [hy536]; exact H) | exact H
         have Ny536 := Aside0.mk hy536
         clear hy536
         have H' := Aside0.mk H
         clear H
         have p535 : 0 ≤ (x7_1 : Int) := of_decide_eq_true (by first | (with_reducible assumption) | assumption)
         have q535 : x7_1 < (t520.length : Int) := of_decide_eq_true (by first | (with_reducible assumption) | assumption)
         obtain ⟨ad535, e535, hx535_0, hx535_1, hx535_2, hx535_3, hx535_4, hx535_5, hx535_6⟩ := at_T24 (Kd.R_reads' HO_4.out).2.2 x7_1 p535 q535
         cases e535
         replace p535 := eq_true p535
         replace q535 := eq_true q535
         go_wp2_with (first | ((with_reducible refine gate_builtin (b := .append) (xs := #[.tmp 33, .tmp 38]) rfl ?_); at_builtin; refine Kd.R_append k24 (w0 := w) w.heap.size rfl (.tmp 33) (.tmp 38) 34 24 (.agg #[(.int .i64 0), (.int .i64 0), (.int .i64 0), (.int .i64 0), (.int .i64 0), (.int .i64 0), (.int .i64 0)]) 56 rfl Try.underlying34 info24 rfl (by decide) (by omega) u6 x6_1 (⟨(rd_T24 t520 x7_1).f0, (rd_T24 t520 x7_1).f1, (rd_T24 t520 x7_1).f2, (rd_T24 t520 x7_1).f3, (rd_T24 t520 x7_1).f4, (rd_T24 t520 x7_1).f5, (rd_T24 t520 x7_1).f6⟩ : S24) [.int .i64 ((rd_T24 t520 x7_1).f0), .int .i64 ((rd_T24 t520 x7_1).f1), .int .i64 ((rd_T24 t520 x7_1).f2), .int .i64 ((rd_T24 t520 x7_1).f3), .int .i64 ((rd_T24 t520 x7_1).f4), .int .i64 ((rd_T24 t520 x7_1).f5), .int .i64 ((rd_T24 t520 x7_1).f6)] (fun k_ => some k_ ≠ (.slice (some ad535) t520.length co10 : Value).ownBlock) (fun _ => False) rfl rfl ?aP (fun _ hk => hk.elim) ?aF ?aO ?aB ?aS ?aL ?_; (case aP => exact k24_mkM _ _ _ (⟨(rd_T24 t520 x7_1).f0, (rd_T24 t520 x7_1).f1, (rd_T24 t520 x7_1).f2, (rd_T24 t520 x7_1).f3, (rd_T24 t520 x7_1).f4, (rd_T24 t520 x7_1).f5, (rd_T24 t520 x7_1).f6⟩ : S24)); (case aB => exact z39x1); (case aF => exact (fun k_ hk => Kd.fresh' (Kd.R_lt z39x7) k_ hk)); (case aO => exact z39x8); (case aS => exact (below_size z39x1)); (case aL => have := LMc20.out; omega); intro v537 w21 ho hb hg hat; rw [← Ny536.out] at ho; have n0_ := Aside0.mk (Kd.R_over' z39x6 (Kd.R_typed z39x8) (by decide) hg); have n1_ := Aside0.mk (Kd.R_after (ok := (fun _ => True)) (by (with_reducible repeat (first | apply Kd.R_alloc | apply Kd.R_drewN | apply Kd.R_drew)); exact Kd.R_mono HO_4.out (fun _ hk => ⟨trivial, hk⟩)) hg hat); have n2_ := Aside0.mk (Kd.V_afterv (ok := (fun k_ => some k_ ≠ (.slice Ao9 t519.length co9 : Value).ownBlock ∧ some k_ ≠ (.slice (some ad535) t520.length co10 : Value).ownBlock)) (by (with_reducible repeat (first | apply Kd.V_alloc | apply Kd.V_drewN | apply Kd.V_drew)); exact Kd.V_mono HO_5.out (fun _ hk => ⟨⟨hk.1, hk.2.1⟩, hk.2.2⟩)) hg hat); have n3_ := Aside0.mk (hb); have n4_ := Aside0.mk (ho); clear HO_3; clear HO_4; clear HO_5; clear HB; clear HO_6; have HO_3 := n0_; have HO_4 := n1_; have HO_5 := n2_; have HB := n3_; have HO538 := n4_; clear n0_ n1_ n2_ n3_ n4_; clear ho hb hg hat))
         go_roundg k1
         case measure => have := HK1.out; omega
         case rel => exact ⟨(y536), (wrap64 (x7_1 - 1)), (by first | rfl | (simp; done) | (simp [*]; done)), H', ⟨by have := HK1.out; omega⟩, ⟨by (with_reducible repeat (first | apply Kd.R_alloc | apply Kd.R_drewN | apply Kd.R_drew)); exact HO_3.out⟩, ⟨by (with_reducible repeat (first | apply Kd.R_alloc | apply Kd.R_drewN | apply Kd.R_drew)); exact Kd.R_mono HO_4.out (fun _ hk => hk.2)⟩, ⟨by (with_reducible repeat (first | apply Kd.V_alloc | apply Kd.V_drewN | apply Kd.V_drew)); exact Kd.V_mono HO_5.out (fun _ hk => ⟨hk.1.1, ⟨hk.1.2, hk.2⟩⟩)⟩, ⟨by (with_reducible repeat (first | apply Kd.R_alloc | apply Kd.R_drewN | apply Kd.R_drew)); exact HO538.out⟩, ⟨by repeat (first | (with_reducible first | exact HB.out | apply below_alloc | apply pw_below_drewN | apply below_drew1) | exact HB.out)⟩⟩
        ·rw [if_neg c20] at H
         exact absurd H (by simp)
       ·rw [if_neg c19] at H
        exact absurd H (by simp)
      ·rw [if_neg c18] at H
       exact absurd H (by simp)
     ·rw [if_neg c17] at H
      have c17b0 : decide (0 ≤ x7_1) = false := decide_eq_false c17
      clear c17
      replace H := Option.bind_eq_some_iff.mp H
      obtain ⟨t539, A220, H⟩ := H
      replace H : ((laws_lbInts.f k1 t539 t525).bind fun t542 => (if t542 = true then ((impl_KnowKeys.f t519 x6_1).bind fun t543 => ((laws_lbInts.f k1 t543 t525).bind fun t546 => (if t546 = true then ((impl_KnowKeys.f ([] : List Int) t520).bind fun t547 => (some ((t547.length : Int) == 0))) else (some false)))) else (some false))) = some r := H
      have A22 := Aside0.mk A220
      clear A220
      replace H := Option.bind_eq_some_iff.mp H
      obtain ⟨t542, A230, H⟩ := H
      replace H : (if t542 = true then ((impl_KnowKeys.f t519 x6_1).bind fun t543 => ((laws_lbInts.f k1 t543 t525).bind fun t546 => (if t546 = true then ((impl_KnowKeys.f ([] : List Int) t520).bind fun t547 => (some ((t547.length : Int) == 0))) else (some false)))) else (some false)) = some r := H
      have A23 := Aside0.mk A230
      clear A230
      by_cases c24 : t542 = true
      ·subst c24
       rw [if_pos rfl] at H
       replace H := Option.bind_eq_some_iff.mp H
       obtain ⟨t543, A250, H⟩ := H
       replace H : ((laws_lbInts.f k1 t543 t525).bind fun t546 => (if t546 = true then ((impl_KnowKeys.f ([] : List Int) t520).bind fun t547 => (some ((t547.length : Int) == 0))) else (some false))) = some r := H
       have A25 := Aside0.mk A250
       clear A250
       replace H := Option.bind_eq_some_iff.mp H
       obtain ⟨t546, A260, H⟩ := H
       replace H : (if t546 = true then ((impl_KnowKeys.f ([] : List Int) t520).bind fun t547 => (some ((t547.length : Int) == 0))) else (some false)) = some r := H
       have A26 := Aside0.mk A260
       clear A260
       by_cases c27 : t546 = true
       ·subst c27
        rw [if_pos rfl] at H
        replace H := Option.bind_eq_some_iff.mp H
        obtain ⟨t547, A280, H⟩ := H
        replace H : (some ((t547.length : Int) == 0)) = some r := H
        have A28 := Aside0.mk A280
        clear A280
        obtain rfl := Option.some.inj H
        go_wp2_with (first | ((with_reducible refine gate_callee (f := 34) rfl ?_); refine goesL_ (some 42) rfl rfl Try.func34 (by kernel_rfl) rfl #[.slice Ao13 t525.length co13, .slice Ao10 t520.length co10] rfl z39x0 ?_; (with_reducible refine (impl_KnowKeys.calls _ _ t525 _ _ t520 t539 _ ?side1 ?side2 ?side3 ?side4 A22.out).mono ?_); (case side1 => repeat (first | exact (Kd.V_reads' HO_5.out).2.2 | (with_reducible refine Kd.C_alloc ?_ _) | (with_reducible refine Kd.C_drewN ?_ _) | (with_reducible refine Kd.C_drew ?_))); (case side2 => exact (Kd.V_reads' HO_5.out).2.1); (case side3 => repeat (first | exact (Kd.R_reads' HO_4.out).2.2 | (with_reducible refine Kd.C_alloc ?_ _) | (with_reducible refine Kd.C_drewN ?_ _) | (with_reducible refine Kd.C_drew ?_))); (case side4 => exact (Kd.R_reads' HO_4.out).2.1); rintro e w29 ⟨v540, rfl, ho0, hb⟩; refine ⟨_, rfl, ?_⟩; have n0_ := Aside0.mk (Kd.R_below z39x6 hb); have n1_ := Aside0.mk (Kd.R_below z39x7 hb); have n2_ := Aside0.mk (Kd.V_below z39x9 hb); have n3_ := Aside0.mk (Kd.R_below z39x8 hb); have n4_ := Aside0.mk (Kd.V_lower (Kd.V_mono (ok' := fun k_ => some k_ ≠ (.slice Ao9 t519.length co9 : Value).ownBlock ∧ some k_ ≠ (.slice Ao10 t520.length co10 : Value).ownBlock ∧ some k_ ≠ (u6 : Value).ownBlock) ho0 (fun k_ hk_ => ⟨(Kd.fresh' (Kd.R_lt z39x6) k_ hk_), (Kd.fresh' (Kd.R_lt z39x7) k_ hk_), (Kd.fresh' (Kd.R_lt z39x8) k_ hk_)⟩)) (below_size z39x1)); have n5_ := Aside0.mk (below_step z39x1 hb); clear HO_3; clear HO_4; clear HO_5; clear HO_6; clear HB; have HO_3 := n0_; have HO_4 := n1_; have HO_5 := n2_; have HO_6 := n3_; have HO541 := n4_; have HB := n5_; clear n0_ n1_ n2_ n3_ n4_ n5_; (try clear hb); (try clear hb2); (try clear hk); (try clear hi); (try clear ho0); obtain ⟨Ao30, co30, eo30⟩ := Kd.V_slice HO541.out; subst eo30) | ((with_reducible refine gate_callee (f := 35) rfl ?_); refine goesL_ (some 44) rfl rfl Try.func35 (by kernel_rfl) rfl #[.slice Ao30 t539.length co30, .slice Ao13 t525.length co13] rfl z39x0 ?_; (with_reducible refine (laws_lbInts.calls k1 _ _ t539 _ _ t525 true _ ?side1 ?side2 ?side3 ?side4 A23.out).mono ?_); (case side1 => repeat (first | exact (Kd.V_reads' HO541.out).2.2 | (with_reducible refine Kd.C_alloc ?_ _) | (with_reducible refine Kd.C_drewN ?_ _) | (with_reducible refine Kd.C_drew ?_))); (case side2 => exact (Kd.V_reads' HO541.out).2.1); (case side3 => repeat (first | exact (Kd.V_reads' HO_5.out).2.2 | (with_reducible refine Kd.C_alloc ?_ _) | (with_reducible refine Kd.C_drewN ?_ _) | (with_reducible refine Kd.C_drew ?_))); (case side4 => exact (Kd.V_reads' HO_5.out).2.1); rintro e w' ⟨rfl, ⟨nd, rfl⟩⟩; refine ⟨_, rfl, ?_⟩; obtain ⟨Ao31, co31, eo31⟩ := Kd.R_slice HO_6.out; subst eo31) | (go_at_call 34; (with_reducible refine (impl_KnowKeys.calls _ _ t519 _ _ x6_1 t543 _ ?side1 ?side2 ?side3 ?side4 A25.out).mono ?_); (case side1 => repeat (first | exact (Kd.R_reads' HO_3.out).2.2 | (with_reducible refine Kd.C_alloc ?_ _) | (with_reducible refine Kd.C_drewN ?_ _) | (with_reducible refine Kd.C_drew ?_))); (case side2 => exact (Kd.R_reads' HO_3.out).2.1); (case side3 => repeat (first | exact (Kd.R_reads' HO_6.out).2.2 | (with_reducible refine Kd.C_alloc ?_ _) | (with_reducible refine Kd.C_drewN ?_ _) | (with_reducible refine Kd.C_drew ?_))); (case side4 => exact (Kd.R_reads' HO_6.out).2.1); rintro e w32 ⟨v544, rfl, ho0, hb⟩; have n0_ := Aside0.mk (Kd.R_below z39x6 hb); have n1_ := Aside0.mk (Kd.R_below z39x7 hb); have n2_ := Aside0.mk (Kd.V_below z39x9 hb); have n3_ := Aside0.mk (Kd.R_below z39x8 hb); have n4_ := Aside0.mk (Kd.V_below z39x5 hb); have n5_ := Aside0.mk (Kd.V_lower (Kd.V_mono (ok' := fun k_ => some k_ ≠ (.slice Ao9 t519.length co9 : Value).ownBlock ∧ some k_ ≠ (.slice Ao10 t520.length co10 : Value).ownBlock ∧ some k_ ≠ (.slice Ao31 x6_1.length co31 : Value).ownBlock) ho0 (fun k_ hk_ => ⟨(Kd.fresh' (Kd.R_lt z39x6) k_ hk_), (Kd.fresh' (Kd.R_lt z39x7) k_ hk_), (Kd.fresh' (Kd.R_lt z39x8) k_ hk_)⟩)) (below_size z39x1)); have n6_ := Aside0.mk (below_step z39x1 hb); clear HO_3; clear HO_4; clear HO_5; clear HO_6; clear HO541; clear HB; have HO_3 := n0_; have HO_4 := n1_; have HO_5 := n2_; have HO_6 := n3_; have HO541 := n4_; have HO545 := n5_; have HB := n6_; clear n0_ n1_ n2_ n3_ n4_ n5_ n6_; (try clear hb); (try clear hb2); (try clear hk); (try clear hi); (try clear ho0); obtain ⟨Ao33, co33, eo33⟩ := Kd.V_slice HO545.out; subst eo33) | (go_at_call 35; (with_reducible refine (laws_lbInts.calls k1 _ _ t543 _ _ t525 true _ ?side1 ?side2 ?side3 ?side4 A26.out).mono ?_); (case side1 => repeat (first | exact (Kd.V_reads' HO545.out).2.2 | (with_reducible refine Kd.C_alloc ?_ _) | (with_reducible refine Kd.C_drewN ?_ _) | (with_reducible refine Kd.C_drew ?_))); (case side2 => exact (Kd.V_reads' HO545.out).2.1); (case side3 => repeat (first | exact (Kd.V_reads' HO_5.out).2.2 | (with_reducible refine Kd.C_alloc ?_ _) | (with_reducible refine Kd.C_drewN ?_ _) | (with_reducible refine Kd.C_drew ?_))); (case side4 => exact (Kd.V_reads' HO_5.out).2.1); rintro e w' ⟨rfl, ⟨nd, rfl⟩⟩) | (go_at_call 34; (refine (impl_KnowKeys.calls _ _ ([] : List Int) _ _ t520 t547 _ ?side1 ?side2 ?side3 ?side4 A28.out).mono ?_); (case side1 => exact Kd.C_nil _ _); (case side2 => exact Nat.le_refl _); (case side3 => repeat (first | exact (Kd.R_reads' HO_4.out).2.2 | (with_reducible refine Kd.C_alloc ?_ _) | (with_reducible refine Kd.C_drewN ?_ _) | (with_reducible refine Kd.C_drew ?_))); (case side4 => exact (Kd.R_reads' HO_4.out).2.1); rintro e w34 ⟨v548, rfl, ho0, hb⟩; have n0_ := Aside0.mk (Kd.R_below z39x6 hb); have n1_ := Aside0.mk (Kd.R_below z39x7 hb); have n2_ := Aside0.mk (Kd.V_below z39x9 hb); have n3_ := Aside0.mk (Kd.R_below z39x8 hb); have n4_ := Aside0.mk (Kd.V_below z39x5 hb); have n5_ := Aside0.mk (Kd.V_below (by (with_reducible repeat (first | apply Kd.V_alloc | apply Kd.V_drewN | apply Kd.V_drew)); exact HO545.out) hb); have n6_ := Aside0.mk (Kd.V_lower (Kd.V_mono (ok' := fun k_ => some k_ ≠ (.slice Ao9 t519.length co9 : Value).ownBlock ∧ some k_ ≠ (.slice Ao10 t520.length co10 : Value).ownBlock ∧ some k_ ≠ (.slice Ao31 x6_1.length co31 : Value).ownBlock) ho0 (fun k_ hk_ => ⟨(Kd.fresh' (Kd.R_lt z39x6) k_ hk_), (Kd.fresh' (Kd.R_lt z39x7) k_ hk_), (Kd.fresh' (Kd.R_lt z39x8) k_ hk_)⟩)) (below_size z39x1)); have n7_ := Aside0.mk (below_step z39x1 hb); clear HO_3; clear HO_4; clear HO_5; clear HO_6; clear HO541; clear HO545; clear HB; have HO_3 := n0_; have HO_4 := n1_; have HO_5 := n2_; have HO_6 := n3_; have HO541 := n4_; have HO545 := n5_; have HO549 := n6_; have HB := n7_; clear n0_ n1_ n2_ n3_ n4_ n5_ n6_ n7_; (try clear hb); (try clear hb2); (try clear hk); (try clear hi); (try clear ho0); obtain ⟨Ao35, co35, eo35⟩ := Kd.V_slice HO549.out; subst eo35))
        go_ret
        exact ⟨by first | rfl | (simp [errW_none, errW_some] <;> rfl) | (simp [*, errW_none, errW_some] <;> rfl), by repeat (first | (with_reducible first | exact HB.out | apply below_alloc | apply pw_below_drewN | apply below_drew1) | exact HB.out)⟩
       ·replace c27 := Bool.eq_false_iff.mpr c27
        subst c27
        rw [if_neg (show ¬ (false = true) by decide)] at H
        obtain rfl := Option.some.inj H
        go_wp2_with (first | ((with_reducible refine gate_callee (f := 34) rfl ?_); refine goesL_ (some 42) rfl rfl Try.func34 (by kernel_rfl) rfl #[.slice Ao13 t525.length co13, .slice Ao10 t520.length co10] rfl z39x0 ?_; (with_reducible refine (impl_KnowKeys.calls _ _ t525 _ _ t520 t539 _ ?side1 ?side2 ?side3 ?side4 A22.out).mono ?_); (case side1 => repeat (first | exact (Kd.V_reads' HO_5.out).2.2 | (with_reducible refine Kd.C_alloc ?_ _) | (with_reducible refine Kd.C_drewN ?_ _) | (with_reducible refine Kd.C_drew ?_))); (case side2 => exact (Kd.V_reads' HO_5.out).2.1); (case side3 => repeat (first | exact (Kd.R_reads' HO_4.out).2.2 | (with_reducible refine Kd.C_alloc ?_ _) | (with_reducible refine Kd.C_drewN ?_ _) | (with_reducible refine Kd.C_drew ?_))); (case side4 => exact (Kd.R_reads' HO_4.out).2.1); rintro e w36 ⟨v540, rfl, ho0, hb⟩; refine ⟨_, rfl, ?_⟩; have n0_ := Aside0.mk (Kd.R_below z39x6 hb); have n1_ := Aside0.mk (Kd.R_below z39x7 hb); have n2_ := Aside0.mk (Kd.V_below z39x9 hb); have n3_ := Aside0.mk (Kd.R_below z39x8 hb); have n4_ := Aside0.mk (Kd.V_lower (Kd.V_mono (ok' := fun k_ => some k_ ≠ (.slice Ao9 t519.length co9 : Value).ownBlock ∧ some k_ ≠ (.slice Ao10 t520.length co10 : Value).ownBlock ∧ some k_ ≠ (u6 : Value).ownBlock) ho0 (fun k_ hk_ => ⟨(Kd.fresh' (Kd.R_lt z39x6) k_ hk_), (Kd.fresh' (Kd.R_lt z39x7) k_ hk_), (Kd.fresh' (Kd.R_lt z39x8) k_ hk_)⟩)) (below_size z39x1)); have n5_ := Aside0.mk (below_step z39x1 hb); clear HO_3; clear HO_4; clear HO_5; clear HO_6; clear HB; have HO_3 := n0_; have HO_4 := n1_; have HO_5 := n2_; have HO_6 := n3_; have HO541 := n4_; have HB := n5_; clear n0_ n1_ n2_ n3_ n4_ n5_; (try clear hb); (try clear hb2); (try clear hk); (try clear hi); (try clear ho0); obtain ⟨Ao37, co37, eo37⟩ := Kd.V_slice HO541.out; subst eo37) | ((with_reducible refine gate_callee (f := 35) rfl ?_); refine goesL_ (some 44) rfl rfl Try.func35 (by kernel_rfl) rfl #[.slice Ao37 t539.length co37, .slice Ao13 t525.length co13] rfl z39x0 ?_; (with_reducible refine (laws_lbInts.calls k1 _ _ t539 _ _ t525 true _ ?side1 ?side2 ?side3 ?side4 A23.out).mono ?_); (case side1 => repeat (first | exact (Kd.V_reads' HO541.out).2.2 | (with_reducible refine Kd.C_alloc ?_ _) | (with_reducible refine Kd.C_drewN ?_ _) | (with_reducible refine Kd.C_drew ?_))); (case side2 => exact (Kd.V_reads' HO541.out).2.1); (case side3 => repeat (first | exact (Kd.V_reads' HO_5.out).2.2 | (with_reducible refine Kd.C_alloc ?_ _) | (with_reducible refine Kd.C_drewN ?_ _) | (with_reducible refine Kd.C_drew ?_))); (case side4 => exact (Kd.V_reads' HO_5.out).2.1); rintro e w' ⟨rfl, ⟨nd, rfl⟩⟩; refine ⟨_, rfl, ?_⟩; obtain ⟨Ao38, co38, eo38⟩ := Kd.R_slice HO_6.out; subst eo38) | (go_at_call 34; (with_reducible refine (impl_KnowKeys.calls _ _ t519 _ _ x6_1 t543 _ ?side1 ?side2 ?side3 ?side4 A25.out).mono ?_); (case side1 => repeat (first | exact (Kd.R_reads' HO_3.out).2.2 | (with_reducible refine Kd.C_alloc ?_ _) | (with_reducible refine Kd.C_drewN ?_ _) | (with_reducible refine Kd.C_drew ?_))); (case side2 => exact (Kd.R_reads' HO_3.out).2.1); (case side3 => repeat (first | exact (Kd.R_reads' HO_6.out).2.2 | (with_reducible refine Kd.C_alloc ?_ _) | (with_reducible refine Kd.C_drewN ?_ _) | (with_reducible refine Kd.C_drew ?_))); (case side4 => exact (Kd.R_reads' HO_6.out).2.1); rintro e w39 ⟨v544, rfl, ho0, hb⟩; have n0_ := Aside0.mk (Kd.R_below z39x6 hb); have n1_ := Aside0.mk (Kd.R_below z39x7 hb); have n2_ := Aside0.mk (Kd.V_below z39x9 hb); have n3_ := Aside0.mk (Kd.R_below z39x8 hb); have n4_ := Aside0.mk (Kd.V_below z39x5 hb); have n5_ := Aside0.mk (Kd.V_lower (Kd.V_mono (ok' := fun k_ => some k_ ≠ (.slice Ao9 t519.length co9 : Value).ownBlock ∧ some k_ ≠ (.slice Ao10 t520.length co10 : Value).ownBlock ∧ some k_ ≠ (.slice Ao38 x6_1.length co38 : Value).ownBlock) ho0 (fun k_ hk_ => ⟨(Kd.fresh' (Kd.R_lt z39x6) k_ hk_), (Kd.fresh' (Kd.R_lt z39x7) k_ hk_), (Kd.fresh' (Kd.R_lt z39x8) k_ hk_)⟩)) (below_size z39x1)); have n6_ := Aside0.mk (below_step z39x1 hb); clear HO_3; clear HO_4; clear HO_5; clear HO_6; clear HO541; clear HB; have HO_3 := n0_; have HO_4 := n1_; have HO_5 := n2_; have HO_6 := n3_; have HO541 := n4_; have HO545 := n5_; have HB := n6_; clear n0_ n1_ n2_ n3_ n4_ n5_ n6_; (try clear hb); (try clear hb2); (try clear hk); (try clear hi); (try clear ho0); obtain ⟨Ao40, co40, eo40⟩ := Kd.V_slice HO545.out; subst eo40) | (go_at_call 35; (with_reducible refine (laws_lbInts.calls k1 _ _ t543 _ _ t525 false _ ?side1 ?side2 ?side3 ?side4 A26.out).mono ?_); (case side1 => repeat (first | exact (Kd.V_reads' HO545.out).2.2 | (with_reducible refine Kd.C_alloc ?_ _) | (with_reducible refine Kd.C_drewN ?_ _) | (with_reducible refine Kd.C_drew ?_))); (case side2 => exact (Kd.V_reads' HO545.out).2.1); (case side3 => repeat (first | exact (Kd.V_reads' HO_5.out).2.2 | (with_reducible refine Kd.C_alloc ?_ _) | (with_reducible refine Kd.C_drewN ?_ _) | (with_reducible refine Kd.C_drew ?_))); (case side4 => exact (Kd.V_reads' HO_5.out).2.1); rintro e w' ⟨rfl, ⟨nd, rfl⟩⟩))
        go_ret
        exact ⟨by first | rfl | (simp [errW_none, errW_some] <;> rfl) | (simp [*, errW_none, errW_some] <;> rfl), by repeat (first | (with_reducible first | exact HB.out | apply below_alloc | apply pw_below_drewN | apply below_drew1) | exact HB.out)⟩
      ·replace c24 := Bool.eq_false_iff.mpr c24
       subst c24
       rw [if_neg (show ¬ (false = true) by decide)] at H
       obtain rfl := Option.some.inj H
       go_wp2_with (first | ((with_reducible refine gate_callee (f := 34) rfl ?_); refine goesL_ (some 42) rfl rfl Try.func34 (by kernel_rfl) rfl #[.slice Ao13 t525.length co13, .slice Ao10 t520.length co10] rfl z39x0 ?_; (with_reducible refine (impl_KnowKeys.calls _ _ t525 _ _ t520 t539 _ ?side1 ?side2 ?side3 ?side4 A22.out).mono ?_); (case side1 => repeat (first | exact (Kd.V_reads' HO_5.out).2.2 | (with_reducible refine Kd.C_alloc ?_ _) | (with_reducible refine Kd.C_drewN ?_ _) | (with_reducible refine Kd.C_drew ?_))); (case side2 => exact (Kd.V_reads' HO_5.out).2.1); (case side3 => repeat (first | exact (Kd.R_reads' HO_4.out).2.2 | (with_reducible refine Kd.C_alloc ?_ _) | (with_reducible refine Kd.C_drewN ?_ _) | (with_reducible refine Kd.C_drew ?_))); (case side4 => exact (Kd.R_reads' HO_4.out).2.1); rintro e w41 ⟨v540, rfl, ho0, hb⟩; refine ⟨_, rfl, ?_⟩; have n0_ := Aside0.mk (Kd.R_below z39x6 hb); have n1_ := Aside0.mk (Kd.R_below z39x7 hb); have n2_ := Aside0.mk (Kd.V_below z39x9 hb); have n3_ := Aside0.mk (Kd.R_below z39x8 hb); have n4_ := Aside0.mk (Kd.V_lower (Kd.V_mono (ok' := fun k_ => some k_ ≠ (.slice Ao9 t519.length co9 : Value).ownBlock ∧ some k_ ≠ (.slice Ao10 t520.length co10 : Value).ownBlock ∧ some k_ ≠ (u6 : Value).ownBlock) ho0 (fun k_ hk_ => ⟨(Kd.fresh' (Kd.R_lt z39x6) k_ hk_), (Kd.fresh' (Kd.R_lt z39x7) k_ hk_), (Kd.fresh' (Kd.R_lt z39x8) k_ hk_)⟩)) (below_size z39x1)); have n5_ := Aside0.mk (below_step z39x1 hb); clear HO_3; clear HO_4; clear HO_5; clear HO_6; clear HB; have HO_3 := n0_; have HO_4 := n1_; have HO_5 := n2_; have HO_6 := n3_; have HO541 := n4_; have HB := n5_; clear n0_ n1_ n2_ n3_ n4_ n5_; (try clear hb); (try clear hb2); (try clear hk); (try clear hi); (try clear ho0); obtain ⟨Ao42, co42, eo42⟩ := Kd.V_slice HO541.out; subst eo42) | ((with_reducible refine gate_callee (f := 35) rfl ?_); refine goesL_ (some 44) rfl rfl Try.func35 (by kernel_rfl) rfl #[.slice Ao42 t539.length co42, .slice Ao13 t525.length co13] rfl z39x0 ?_; (with_reducible refine (laws_lbInts.calls k1 _ _ t539 _ _ t525 false _ ?side1 ?side2 ?side3 ?side4 A23.out).mono ?_); (case side1 => repeat (first | exact (Kd.V_reads' HO541.out).2.2 | (with_reducible refine Kd.C_alloc ?_ _) | (with_reducible refine Kd.C_drewN ?_ _) | (with_reducible refine Kd.C_drew ?_))); (case side2 => exact (Kd.V_reads' HO541.out).2.1); (case side3 => repeat (first | exact (Kd.V_reads' HO_5.out).2.2 | (with_reducible refine Kd.C_alloc ?_ _) | (with_reducible refine Kd.C_drewN ?_ _) | (with_reducible refine Kd.C_drew ?_))); (case side4 => exact (Kd.V_reads' HO_5.out).2.1); rintro e w' ⟨rfl, ⟨nd, rfl⟩⟩; refine ⟨_, rfl, ?_⟩))
       go_ret
       exact ⟨by first | rfl | (simp [errW_none, errW_some] <;> rfl) | (simp [*, errW_none, errW_some] <;> rfl), by repeat (first | (with_reducible first | exact HB.out | apply below_alloc | apply pw_below_drewN | apply below_drew1) | exact HB.out)⟩
  ·replace c7 := Bool.eq_false_iff.mpr c7
   subst c7
   rw [if_neg (show ¬ (false = true) by decide)] at H
   obtain rfl := Option.some.inj H
   go_enter Try.func8, Try.ntmps8
   go_wp2_with (first | ((with_reducible refine gate_callee (f := 33) rfl ?_); refine goesL_ (some 13) rfl rfl Try.func33 (by kernel_rfl) rfl #[.slice A0 l0.length c0] rfl z39x0 ?_; (with_reducible refine (spec_DrawKnowKeys.calls k _ _ l0 t519 t520 _ ?side1 ?side2 A3.out).mono ?_); (case side1 => repeat (first | exact HR0.out | (with_reducible refine Kd.C_alloc ?_ _) | (with_reducible refine Kd.C_drewN ?_ _) | (with_reducible refine Kd.C_drew ?_))); (case side2 => exact HC0.out); rintro e w43 ⟨v521, v523, rfl, ho0, ho1, hb⟩; refine ⟨_, rfl, ?_⟩; have n0_ := Aside0.mk (Kd.R_lower ho0 (below_size z39x1)); have n1_ := Aside0.mk (Kd.R_lower ho1 (below_size z39x1)); have n2_ := Aside0.mk (below_step z39x1 hb); clear HB; have HO522 := n0_; have HO524 := n1_; have HB := n2_; clear n0_ n1_ n2_; (try clear hb); (try clear hb2); (try clear hk); (try clear hi); (try clear ho0); (try clear ho1); obtain ⟨Ao44, co44, eo44⟩ := Kd.R_slice HO522.out; subst eo44; obtain ⟨Ao45, co45, eo45⟩ := Kd.R_slice HO524.out; subst eo45) | ((with_reducible refine gate_callee (f := 34) rfl ?_); refine goesL_ (some 18) rfl rfl Try.func34 (by kernel_rfl) rfl #[.slice Ao44 t519.length co44, .slice Ao45 t520.length co45] rfl z39x0 ?_; (with_reducible refine (impl_KnowKeys.calls _ _ t519 _ _ t520 t525 _ ?side1 ?side2 ?side3 ?side4 A4.out).mono ?_); (case side1 => repeat (first | exact (Kd.R_reads' HO522.out).2.2 | (with_reducible refine Kd.C_alloc ?_ _) | (with_reducible refine Kd.C_drewN ?_ _) | (with_reducible refine Kd.C_drew ?_))); (case side2 => exact (Kd.R_reads' HO522.out).2.1); (case side3 => repeat (first | exact (Kd.R_reads' HO524.out).2.2 | (with_reducible refine Kd.C_alloc ?_ _) | (with_reducible refine Kd.C_drewN ?_ _) | (with_reducible refine Kd.C_drew ?_))); (case side4 => exact (Kd.R_reads' HO524.out).2.1); rintro e w46 ⟨v526, rfl, ho0, hb⟩; refine ⟨_, rfl, ?_⟩; have n0_ := Aside0.mk (Kd.R_below z39x2 hb); have n1_ := Aside0.mk (Kd.R_below z39x3 hb); have n2_ := Aside0.mk (Kd.V_lower (Kd.V_mono (ok' := fun k_ => some k_ ≠ (.slice Ao44 t519.length co44 : Value).ownBlock ∧ some k_ ≠ (.slice Ao45 t520.length co45 : Value).ownBlock) ho0 (fun k_ hk_ => ⟨(Kd.fresh' (Kd.R_lt z39x2) k_ hk_), (Kd.fresh' (Kd.R_lt z39x3) k_ hk_)⟩)) (below_size z39x1)); have n3_ := Aside0.mk (below_step z39x1 hb); clear HO522; clear HO524; clear HB; have HO522 := n0_; have HO524 := n1_; have HO527 := n2_; have HB := n3_; clear n0_ n1_ n2_ n3_; (try clear hb); (try clear hb2); (try clear hk); (try clear hi); (try clear ho0)) | ((with_reducible refine gate_callee (f := 36) rfl ?_); refine goesL_ (some 22) rfl rfl Try.func36 (by kernel_rfl) rfl #[.slice Ao44 t519.length co44, .slice Ao45 t520.length co45] rfl z39x0 ?_; (with_reducible refine (spec_KnowKeys.calls k _ _ t519 _ _ t520 t528 _ ?side1 ?side2 ?side3 ?side4 A5.out).mono ?_); (case side1 => repeat (first | exact (Kd.R_reads' HO522.out).2.2 | (with_reducible refine Kd.C_alloc ?_ _) | (with_reducible refine Kd.C_drewN ?_ _) | (with_reducible refine Kd.C_drew ?_))); (case side2 => exact (Kd.R_reads' HO522.out).2.1); (case side3 => repeat (first | exact (Kd.R_reads' HO524.out).2.2 | (with_reducible refine Kd.C_alloc ?_ _) | (with_reducible refine Kd.C_drewN ?_ _) | (with_reducible refine Kd.C_drew ?_))); (case side4 => exact (Kd.R_reads' HO524.out).2.1); rintro e w47 ⟨v529, rfl, ho0, hb⟩; refine ⟨_, rfl, ?_⟩; have n0_ := Aside0.mk (Kd.R_elder' z39x2 (Kd.R_base ho0) hb); have n1_ := Aside0.mk (Kd.R_below z39x3 hb); have n2_ := Aside0.mk (Kd.V_elder' z39x4 (Kd.R_base ho0) hb); have n3_ := Aside0.mk (Kd.R_lower (Kd.R_new' ho0 (Kd.R_lt z39x2)) (below_size z39x1)); have n4_ := Aside0.mk (below_step z39x1 hb); clear HO522; clear HO524; clear HO527; clear HB; have HO522 := n0_; have HO524 := n1_; have HO527 := n2_; have HO530 := n3_; have HB := n4_; clear n0_ n1_ n2_ n3_ n4_; (try clear hb); (try clear hb2); (try clear hk); (try clear hi); (try clear ho0); obtain ⟨Ao48, co48, eo48⟩ := Kd.V_slice HO527.out; subst eo48; obtain ⟨Ao49, co49, eo49⟩ := Kd.R_slice HO530.out; subst eo49) | ((with_reducible refine gate_callee (f := 35) rfl ?_); refine goesL_ (some 23) rfl rfl Try.func35 (by kernel_rfl) rfl #[.slice Ao48 t525.length co48, .slice Ao49 t528.length co49] rfl z39x0 ?_; (with_reducible refine (laws_lbInts.calls k _ _ t525 _ _ t528 false _ ?side1 ?side2 ?side3 ?side4 A6.out).mono ?_); (case side1 => repeat (first | exact (Kd.V_reads' HO527.out).2.2 | (with_reducible refine Kd.C_alloc ?_ _) | (with_reducible refine Kd.C_drewN ?_ _) | (with_reducible refine Kd.C_drew ?_))); (case side2 => exact (Kd.V_reads' HO527.out).2.1); (case side3 => repeat (first | exact (Kd.R_reads' HO530.out).2.2 | (with_reducible refine Kd.C_alloc ?_ _) | (with_reducible refine Kd.C_drewN ?_ _) | (with_reducible refine Kd.C_drew ?_))); (case side4 => exact (Kd.R_reads' HO530.out).2.1); rintro e w' ⟨rfl, ⟨nd, rfl⟩⟩; refine ⟨_, rfl, ?_⟩))
   go_ret
   exact ⟨by first | rfl | (simp [errW_none, errW_some] <;> rfl) | (simp [*, errW_none, errW_some] <;> rfl), by repeat (first | (with_reducible first | exact HB.out | apply below_alloc | apply pw_below_drewN | apply below_drew1) | exact HB.out)⟩

/-- THE ONE PURE STATEMENT of laws_FnKnowOnce: yours. -/
def laws_FnKnowOnce.Pure : Prop := ∀ (l0 : List Int), l0.length ≤ maxLen → l0.length * 1 ≤ 140737488351232 → (∀ x ∈ l0, (Lit.int .u8 x).wf = true) → ∃ k, laws_FnKnowOnce.f k l0 = some true
theorem laws_FnKnowOnce.walk (P : laws_FnKnowOnce.Pure) (a0 : Option Addr) (len0 cap0 : Nat) (z0 : List Int) (w : World) (w0 : (a0 = none ∧ len0 = 0 ∧ cap0 = 0 ∧ z0 = []) ∨ ∃ x, a0 = some x ∧ len0 ≤ cap0 ∧ cap0 ≤ maxLen ∧ z0.length = cap0 ∧ (∀ i, i < z0.length → w.cell? (x.add i) = some (.int .u8 (z0.getD i 0))) ∧ ∀ n ∈ z0, (Lit.int .u8 n).wf = true) (y0 : len0 * 1 ≤ 140737488351232) :
  Calls Try.prog 8 #[.slice a0 len0 cap0] w fun e w' => e = .returned (.bool true) ∧ Below w.heap.size w w' := by
 obtain ⟨l0, rfl, hr0, hm0, hw0, hc0⟩ := ReadsInt.ofRowC w0
 obtain ⟨k, h⟩ := P l0 hm0 y0 hw0
 refine (laws_FnKnowOnce.calls k _ _ l0 true w (Kd.C_of_reads (d := (0 : Int)) (h1 := fun _ => rfl) hr0) hc0 h).mono ?_
 rintro e w' ⟨rfl, hd⟩
 exact ⟨rfl, hd⟩

end Go.Proofs.Ytbiknbjcidlabaa.Hp
