-- hp.py
import Derived.Test.YtpdeincniaiajaaHx0
import Derived.Test.YtpdeincniaiajaaHx26
import Derived.Test.YtpdeincniaiajaaHx53
import Derived.Test.YtpdeincniaiajaaHx55
import Derived.Test.YtpdeincniaiajaaHx58
import Derived.Test.YtpdeincniaiajaaHx61
namespace Go.Proofs.Ytpdeincniaiajaa.Hp
open Go.RowKit Go.Proofs.YtpdeincniaiajaaW.PrintWords Go.Proofs.YtpdeincniaiajaaW.PrintLast Go.Proofs.YtpdeincniaiajaaW.PrintMore
attribute [local go_sem] max2_int min2_int max_two min_two max_three min_three max_four min_four   -- for this text's walks alone
set_option linter.unusedVariables false
set_option linter.unusedSimpArgs false
-- squeezed by wip/tools/squeeze.py
theorem z62x20 {P : Prop} (h : P := by (with_reducible repeat (first | apply Kd.R_alloc | apply Kd.R_drewN | apply Kd.R_drew)); exact HO655.out) : P := h
theorem z62x19 {P : Prop} (h : P := by (with_reducible repeat (first | apply Kd.R_alloc | apply Kd.R_drewN | apply Kd.R_drew)); exact HO652.out) : P := h
theorem z62x18 {P : Prop} (h : P := by (with_reducible repeat (first | apply Kd.R_alloc | apply Kd.R_drewN | apply Kd.R_drew)); exact HO646.out) : P := h
theorem z62x17 {P : Prop} (h : P := by (with_reducible repeat (first | apply Kd.R_alloc | apply Kd.R_drewN | apply Kd.R_drew)); exact HO643.out) : P := h
theorem z62x16 {P : Prop} (h : P := by (with_reducible repeat (first | refine blk_drewN ?_ _ | refine blk_drew ?_ | refine blk_alloc ?_ _)); exact BK656.out) : P := h
theorem z62x15 {P : Prop} (h : P := by (with_reducible repeat (first | refine blk_drewN ?_ _ | refine blk_drew ?_ | refine blk_alloc ?_ _)); exact BK637.out) : P := h
theorem z62x14 {P : Prop} (h : P := by repeat (first | (with_reducible first | exact HB.out | apply below_alloc | apply pw_below_drewN | apply below_drew1) | exact HB.out)) : P := h
theorem z62x13 {P : Prop} (h : P := by (try simp only [List.map_toArray, List.map_cons, List.map_nil]); first | done | rfl | (simp only [List.length_drop, List.length_take]; rfl)) : P := h
theorem z62x12 {P : Prop} (h : P := by rw [hg]; exact (below_size (by repeat (first | (with_reducible first | exact HB.out | apply below_alloc | apply pw_below_drewN | apply below_drew1) | exact HB.out)))) : P := h
theorem z62x11 {P : Prop} (h : P := by repeat (first | (with_reducible first | exact HB.out | apply below_alloc | apply pw_below_drewN | apply below_drew1 | refine below_set ?_ GE637.out) | exact HB.out)) : P := h
theorem z62x10 {P : Prop} (h : P := by rw [hg]; exact (below_size (by repeat (first | (with_reducible first | exact HB.out | apply below_alloc | apply pw_below_drewN | apply below_drew1 | refine below_set ?_ GE637.out) | exact HB.out)))) : P := h
theorem z62x9 {P : Prop} (h : P := by repeat (first | (with_reducible first | exact HB.out | apply below_alloc | apply pw_below_drewN | apply below_drew1 | refine below_set ?_ GE637.out | refine below_set ?_ GE656.out) | exact HB.out)) : P := h
theorem z62x8 {P : Prop} (h : P := by rw [hg]; exact Nat.ne_of_lt (blk_lt (g := gb637) (o := .cells #[.int .i64 a0_0, .int .i64 a0_1, .slice A0_2 l0_2.length c0_2, .slice A0_3 l0_3.length c0_3] 65 (0, 0)) (by (with_reducible repeat (first | refine blk_drewN ?_ _ | refine blk_drew ?_ | refine blk_alloc ?_ _)); exact BK637.out))) : P := h
theorem z62x7 {P : Prop} (h : P := by rw [hg]; exact Nat.ne_of_gt (blk_lt (g := gb637) (o := .cells #[.int .i64 a0_0, .int .i64 a0_1, .slice A0_2 l0_2.length c0_2, .slice A0_3 l0_3.length c0_3] 65 (0, 0)) (by (with_reducible repeat (first | refine blk_drewN ?_ _ | refine blk_drew ?_ | refine blk_alloc ?_ _)); exact BK637.out))) : P := h
theorem z62x6 {P : Prop} (h : P := by (with_reducible repeat (first | apply Kd.R_alloc | apply Kd.R_drewN | apply Kd.R_drew)); exact (Kd.R_mono (Kd.R_far (p := ⟨gb656, 3, none⟩) (Kd.R_far (p := ⟨gb656, 2, none⟩) (Kd.R_far (p := ⟨gb656, 1, none⟩) (Kd.R_far (p := ⟨gb656, 0, none⟩) (Kd.R_types HO655.out BK656.out (by decide)) (fun _ hk => hk.2) (.int .i64 t648)) (fun _ hk => hk.2) (.int .i64 t649)) (fun _ hk => hk.2) (.slice Ao65 t650.length co65)) (fun _ hk => hk.2) (.slice Ao66 t653.length co66)) (fun _ h_ => h_.1))) : P := h
theorem z62x5 {P : Prop} (h : P := by (with_reducible repeat (first | apply Kd.R_alloc | apply Kd.R_drewN | apply Kd.R_drew)); exact (Kd.R_mono (Kd.R_far (p := ⟨gb656, 3, none⟩) (Kd.R_far (p := ⟨gb656, 2, none⟩) (Kd.R_far (p := ⟨gb656, 1, none⟩) (Kd.R_far (p := ⟨gb656, 0, none⟩) (Kd.R_types HO655.out BK656.out (by decide)) (fun _ hk => hk.2) (.int .i64 t648)) (fun _ hk => hk.2) (.int .i64 t649)) (fun _ hk => hk.2) (.slice Ao44 t650.length co44)) (fun _ hk => hk.2) (.slice Ao45 t653.length co45)) (fun _ h_ => h_.1))) : P := h
theorem z62x4 {P : Prop} (h : P := by (with_reducible repeat (first | apply Kd.R_alloc | apply Kd.R_drewN | apply Kd.R_drew)); exact (Kd.R_mono (Kd.R_far (p := ⟨gb656, 3, none⟩) (Kd.R_far (p := ⟨gb656, 2, none⟩) (Kd.R_far (p := ⟨gb656, 1, none⟩) (Kd.R_far (p := ⟨gb656, 0, none⟩) (Kd.R_types HO655.out BK656.out (by decide)) (fun _ hk => hk.2) (.int .i64 t648)) (fun _ hk => hk.2) (.int .i64 t649)) (fun _ hk => hk.2) (.slice Ao25 t650.length co25)) (fun _ hk => hk.2) (.slice Ao26 t653.length co26)) (fun _ h_ => h_.1))) : P := h
theorem z62x3 {P : Prop} (h : P := by (with_reducible repeat (first | apply Kd.R_alloc | apply Kd.R_drewN | apply Kd.R_drew)); exact (Kd.R_mono (Kd.R_far (p := ⟨gb656, 3, none⟩) (Kd.R_far (p := ⟨gb656, 2, none⟩) (Kd.R_far (p := ⟨gb656, 1, none⟩) (Kd.R_far (p := ⟨gb656, 0, none⟩) (Kd.R_types HO652.out BK656.out (by decide)) (fun _ hk => hk.2) (.int .i64 t648)) (fun _ hk => hk.2) (.int .i64 t649)) (fun _ hk => hk.2) (.slice Ao65 t650.length co65)) (fun _ hk => hk.2) (.slice Ao66 t653.length co66)) (fun _ h_ => h_.1))) : P := h
theorem z62x2 {P : Prop} (h : P := by (with_reducible repeat (first | apply Kd.R_alloc | apply Kd.R_drewN | apply Kd.R_drew)); exact (Kd.R_mono (Kd.R_far (p := ⟨gb656, 3, none⟩) (Kd.R_far (p := ⟨gb656, 2, none⟩) (Kd.R_far (p := ⟨gb656, 1, none⟩) (Kd.R_far (p := ⟨gb656, 0, none⟩) (Kd.R_types HO652.out BK656.out (by decide)) (fun _ hk => hk.2) (.int .i64 t648)) (fun _ hk => hk.2) (.int .i64 t649)) (fun _ hk => hk.2) (.slice Ao44 t650.length co44)) (fun _ hk => hk.2) (.slice Ao45 t653.length co45)) (fun _ h_ => h_.1))) : P := h
theorem z62x1 {P : Prop} (h : P := by (with_reducible repeat (first | apply Kd.R_alloc | apply Kd.R_drewN | apply Kd.R_drew)); exact (Kd.R_mono (Kd.R_far (p := ⟨gb656, 3, none⟩) (Kd.R_far (p := ⟨gb656, 2, none⟩) (Kd.R_far (p := ⟨gb656, 1, none⟩) (Kd.R_far (p := ⟨gb656, 0, none⟩) (Kd.R_types HO652.out BK656.out (by decide)) (fun _ hk => hk.2) (.int .i64 t648)) (fun _ hk => hk.2) (.int .i64 t649)) (fun _ hk => hk.2) (.slice Ao25 t650.length co25)) (fun _ hk => hk.2) (.slice Ao26 t653.length co26)) (fun _ h_ => h_.1))) : P := h
theorem z62x0 {P : Prop} (h : P := by (with_reducible repeat (first | refine blk_drewN ?_ _ | refine blk_drew ?_ | refine blk_alloc ?_ _)); refine blk_far ?_ NB637_656.out _; (with_reducible repeat (first | refine blk_drewN ?_ _ | refine blk_drew ?_ | refine blk_alloc ?_ _)); refine blk_far ?_ NB637_656.out _; (with_reducible repeat (first | refine blk_drewN ?_ _ | refine blk_drew ?_ | refine blk_alloc ?_ _)); refine blk_far ?_ NB637_656.out _; (with_reducible repeat (first | refine blk_drewN ?_ _ | refine blk_drew ?_ | refine blk_alloc ?_ _)); refine blk_far ?_ NB637_656.out _; (with_reducible repeat (first | refine blk_drewN ?_ _ | refine blk_drew ?_ | refine blk_alloc ?_ _)); exact BK637.out) : P := h

/-! ### laws_FnExactServOk: function 8 -/
def laws_FnExactServOk.f (k : Nat) (a0_0 : Int) (a0_1 : Int) (l0_2 : List (S72)) (l0_3 : List (S168)) : Option (Bool) := (laws_szServ.f a0_0 a0_1 l0_2 l0_3 1048576).bind fun t638 => (if t638 < 0 then (some true) else ((laws_toServ.f k a0_0 a0_1 l0_2 l0_3).bind fun bt639 => ((spec_ServOk.f k bt639.1 bt639.2.1 bt639.2.2.1 bt639.2.2.2).bind fun t647 => ((laws_toServ.f k a0_0 a0_1 l0_2 l0_3).bind fun bt648 => ((impl_ServOk.f k bt648.1 bt648.2.1 bt648.2.2.1 bt648.2.2.2).bind fun t657 => (if (t657 != t647) = true then (some false) else ((laws_toServ.f k a0_0 a0_1 l0_2 l0_3).bind fun bt658 => ((laws_eqServ.f k bt648.1 bt648.2.1 bt648.2.2.1 bt648.2.2.2 bt658.1 bt658.2.1 bt658.2.2.1 bt658.2.2.2).bind fun t666 => (if t666 = true then (some true) else (some false))))))))))
theorem laws_FnExactServOk.mono : ∀ a0 a1 a2 a3 k, LeO (laws_FnExactServOk.f k a0 a1 a2 a3) (laws_FnExactServOk.f (k + 1) a0 a1 a2 a3) := by
 intro a0 a1 a2 a3 k
 unfold laws_FnExactServOk.f
 repeat' first
   | (with_reducible exact impl_ServOk.mono _ _ _ _ _)
   | (with_reducible exact laws_eqServ.mono _ _ _ _ _ _ _ _ _)
   | (with_reducible exact laws_toServ.mono _ _ _ _ _)
   | (with_reducible exact spec_ServOk.mono _ _ _ _ _)
   | (with_reducible exact LeO.refl _)
   | (with_reducible exact LeO.none _)
   | (with_reducible refine LeO.ite ?_ ?_)
   | (with_reducible refine LeO.bind ?_ (fun _ => ?_))
   | exact impl_ServOk.mono _ _ _ _ _
   | exact laws_eqServ.mono _ _ _ _ _ _ _ _ _
   | exact laws_toServ.mono _ _ _ _ _
   | exact spec_ServOk.mono _ _ _ _ _
   | exact LeO.none _
   | refine LeO.ite ?_ ?_
   | refine LeO.bind ?_ (fun _ => ?_)
set_option maxHeartbeats 8000000 in
set_option maxRecDepth 100000 in
theorem laws_FnExactServOk.calls (k : Nat) (a0_0 : Int) (a0_1 : Int) (A0_2 : Option Addr) (c0_2 : Nat) (l0_2 : List (S72)) (A0_3 : Option Addr) (c0_3 : Nat) (l0_3 : List (S168)) (r : Bool) (w : World) (hr0_2 : Kd.C k72 w A0_2 l0_2.length l0_2) (hc0_2 : l0_2.length ≤ c0_2) (hr0_3 : Kd.C k168 w A0_3 l0_3.length l0_3) (hc0_3 : l0_3.length ≤ c0_3) (h : laws_FnExactServOk.f k a0_0 a0_1 l0_2 l0_3 = some r) :
  Calls Try.prog 8 #[.agg #[.int .i64 a0_0, .int .i64 a0_1, .slice A0_2 l0_2.length c0_2, .slice A0_3 l0_3.length c0_3]] w fun e w' => e = .returned (.bool r) ∧ Below w.heap.size w w' := by
 have hu65 := Try.underlying65
 have hu35 := Try.underlying35
 have HR0_2 := Aside0.mk hr0_2
 have HC0_2 := Aside0.mk hc0_2
 clear hr0_2 hc0_2
 have HR0_3 := Aside0.mk hr0_3
 have HC0_3 := Aside0.mk hc0_3
 clear hr0_3 hc0_3
 have HB := Aside0.mk (Below.refl w.heap.size w)
 have H : ((laws_szServ.f a0_0 a0_1 l0_2 l0_3 1048576).bind fun t638 => (if t638 < 0 then (some true) else ((laws_toServ.f k a0_0 a0_1 l0_2 l0_3).bind fun bt639 => ((spec_ServOk.f k bt639.1 bt639.2.1 bt639.2.2.1 bt639.2.2.2).bind fun t647 => ((laws_toServ.f k a0_0 a0_1 l0_2 l0_3).bind fun bt648 => ((impl_ServOk.f k bt648.1 bt648.2.1 bt648.2.2.1 bt648.2.2.2).bind fun t657 => (if (t657 != t647) = true then (some false) else ((laws_toServ.f k a0_0 a0_1 l0_2 l0_3).bind fun bt658 => ((laws_eqServ.f k bt648.1 bt648.2.1 bt648.2.2.1 bt648.2.2.2 bt658.1 bt658.2.1 bt658.2.2.1 bt658.2.2.2).bind fun t666 => (if t666 = true then (some true) else (some false))))))))))) = some r := h
 clear h
 replace H := Option.bind_eq_some_iff.mp H
 obtain ⟨t638, A20, H⟩ := H
 replace H : (if t638 < 0 then (some true) else ((laws_toServ.f k a0_0 a0_1 l0_2 l0_3).bind fun bt639 => ((spec_ServOk.f k bt639.1 bt639.2.1 bt639.2.2.1 bt639.2.2.2).bind fun t647 => ((laws_toServ.f k a0_0 a0_1 l0_2 l0_3).bind fun bt648 => ((impl_ServOk.f k bt648.1 bt648.2.1 bt648.2.2.1 bt648.2.2.2).bind fun t657 => (if (t657 != t647) = true then (some false) else ((laws_toServ.f k a0_0 a0_1 l0_2 l0_3).bind fun bt658 => ((laws_eqServ.f k bt648.1 bt648.2.1 bt648.2.2.1 bt648.2.2.2 bt658.1 bt658.2.1 bt658.2.2.1 bt658.2.2.2).bind fun t666 => (if t666 = true then (some true) else (some false)))))))))) = some r := H
 have A2 := Aside0.mk A20
 clear A20
 by_cases c3 : t638 < 0
 ·rw [if_pos c3] at H
  have c3b0 : decide (t638 < 0) = true := decide_eq_true c3
  clear c3
  obtain rfl := Option.some.inj H
  go_enter Try.func8, Try.ntmps8
  go_wp2_with (first | ((with_reducible refine gate_dst (N := 1) rfl ?_); refine box_event ?hg (N := 1) ?hd (cs := #[.int .i64 a0_0, .int .i64 a0_1, .slice A0_2 l0_2.length c0_2, .slice A0_3 l0_3.length c0_3]) (t := 65) ?hr ?_; (case hd => rfl); (case hg => rfl); (case hr => first | (go_simp; done) | (go_simp; rfl)); intro gb637 hg w4 hbox hb; have n0_ := Aside0.mk (below_step z62x14 hb); have n1_ := Aside0.mk (hbox); have n2_ := Aside0.mk ((z62x12 : w.heap.size ≤ gb637)); have n3_ := Aside0.mk ((z62x12 : w.heap.size ≤ gb637)); clear HB; have HB := n0_; have BK637 := n1_; have GW637 := n2_; have GE637 := n3_; clear n0_ n1_ n2_ n3_; clear hb hbox hg; have hcz5_0 : w4.cell? ⟨gb637, 0, none⟩ = some (.int .i64 a0_0) := (blk_cell BK637.out 0).trans rfl; have hcz5_1 : w4.cell? ⟨gb637, 1, none⟩ = some (.int .i64 a0_1) := (blk_cell BK637.out 1).trans rfl; have hcz5_2 : w4.cell? ⟨gb637, 2, none⟩ = some (.slice A0_2 l0_2.length c0_2) := (blk_cell BK637.out 2).trans rfl; have hcz5_3 : w4.cell? ⟨gb637, 3, none⟩ = some (.slice A0_3 l0_3.length c0_3) := (blk_cell BK637.out 3).trans rfl; have hfz5_0 := blk_frozen BK637.out 0; have hfz5_1 := blk_frozen BK637.out 1; have hfz5_2 := blk_frozen BK637.out 2; have hfz5_3 := blk_frozen BK637.out 3) | ((with_reducible refine gate_callee (f := 40) rfl ?_); refine goesL_ (some 9) rfl rfl Try.func40 (by kernel_rfl) rfl #[.agg #[.int .i64 a0_0, .int .i64 a0_1, .slice A0_2 l0_2.length c0_2, .slice A0_3 l0_3.length c0_3], .int .i64 1048576] rfl z62x13 ?_; (with_reducible refine (laws_szServ.calls a0_0 a0_1 _ _ l0_2 _ _ l0_3 1048576 t638 _ ?side1 ?side2 ?side3 ?side4 A2.out).mono ?_); (case side1 => repeat (first | exact (Kd.C_below HR0_2.out HB.out) | (with_reducible refine Kd.C_alloc ?_ _) | (with_reducible refine Kd.C_drewN ?_ _) | (with_reducible refine Kd.C_drew ?_))); (case side2 => exact HC0_2.out); (case side3 => repeat (first | exact (Kd.C_below HR0_3.out HB.out) | (with_reducible refine Kd.C_alloc ?_ _) | (with_reducible refine Kd.C_drewN ?_ _) | (with_reducible refine Kd.C_drew ?_))); (case side4 => exact HC0_3.out); rintro e w6 ⟨rfl, hb⟩; refine ⟨_, rfl, ?_⟩; have n0_ := Aside0.mk (blk_below (g := gb637) (o := .cells #[.int .i64 a0_0, .int .i64 a0_1, .slice A0_2 l0_2.length c0_2, .slice A0_3 l0_3.length c0_3] 65 (0, 0)) z62x15 hb); have n1_ := Aside0.mk (below_step z62x11 hb); clear BK637; clear HB; have BK637 := n0_; have HB := n1_; clear n0_ n1_; (try clear hb); (try clear hb2); (try clear hk); (try clear hi)))
  go_ret
  exact ⟨by first | rfl | (simp [errW_none, errW_some] <;> rfl) | (simp [*, errW_none, errW_some] <;> rfl), by repeat (first | (with_reducible first | exact HB.out | apply below_alloc | apply pw_below_drewN | apply below_drew1 | refine below_set ?_ GE637.out) | exact HB.out)⟩
 ·rw [if_neg c3] at H
  have c3b0 : decide (t638 < 0) = false := decide_eq_false c3
  clear c3
  replace H := Option.bind_eq_some_iff.mp H
  obtain ⟨⟨t639, t640, t641, t644⟩, A70, H⟩ := H
  replace H : ((spec_ServOk.f k t639 t640 t641 t644).bind fun t647 => ((laws_toServ.f k a0_0 a0_1 l0_2 l0_3).bind fun bt648 => ((impl_ServOk.f k bt648.1 bt648.2.1 bt648.2.2.1 bt648.2.2.2).bind fun t657 => (if (t657 != t647) = true then (some false) else ((laws_toServ.f k a0_0 a0_1 l0_2 l0_3).bind fun bt658 => ((laws_eqServ.f k bt648.1 bt648.2.1 bt648.2.2.1 bt648.2.2.2 bt658.1 bt658.2.1 bt658.2.2.1 bt658.2.2.2).bind fun t666 => (if t666 = true then (some true) else (some false)))))))) = some r := H
  have A7 := Aside0.mk A70
  clear A70
  replace H := Option.bind_eq_some_iff.mp H
  obtain ⟨t647, A80, H⟩ := H
  replace H : ((laws_toServ.f k a0_0 a0_1 l0_2 l0_3).bind fun bt648 => ((impl_ServOk.f k bt648.1 bt648.2.1 bt648.2.2.1 bt648.2.2.2).bind fun t657 => (if (t657 != t647) = true then (some false) else ((laws_toServ.f k a0_0 a0_1 l0_2 l0_3).bind fun bt658 => ((laws_eqServ.f k bt648.1 bt648.2.1 bt648.2.2.1 bt648.2.2.2 bt658.1 bt658.2.1 bt658.2.2.1 bt658.2.2.2).bind fun t666 => (if t666 = true then (some true) else (some false))))))) = some r := H
  have A8 := Aside0.mk A80
  clear A80
  replace H := Option.bind_eq_some_iff.mp H
  obtain ⟨⟨t648, t649, t650, t653⟩, A90, H⟩ := H
  replace H : ((impl_ServOk.f k t648 t649 t650 t653).bind fun t657 => (if (t657 != t647) = true then (some false) else ((laws_toServ.f k a0_0 a0_1 l0_2 l0_3).bind fun bt658 => ((laws_eqServ.f k t648 t649 t650 t653 bt658.1 bt658.2.1 bt658.2.2.1 bt658.2.2.2).bind fun t666 => (if t666 = true then (some true) else (some false)))))) = some r := H
  have A9 := Aside0.mk A90
  clear A90
  replace H := Option.bind_eq_some_iff.mp H
  obtain ⟨t657, A100, H⟩ := H
  replace H : (if (t657 != t647) = true then (some false) else ((laws_toServ.f k a0_0 a0_1 l0_2 l0_3).bind fun bt658 => ((laws_eqServ.f k t648 t649 t650 t653 bt658.1 bt658.2.1 bt658.2.2.1 bt658.2.2.2).bind fun t666 => (if t666 = true then (some true) else (some false))))) = some r := H
  have A10 := Aside0.mk A100
  clear A100
  by_cases c11 : (t657 != t647) = true
  ·rw [if_pos c11] at H
   have c11b0 : (t657 != t647) = true := c11
   (try (have c11b1 : decide (t657 = t647) = false := by simpa using c11))
   (try (have c11b2 : (t657 == t647) = false := by simpa using c11))
   (try (have c11b3 : ¬ (t657 = t647) := by simpa using c11))
   clear c11
   obtain rfl := Option.some.inj H
   go_enter Try.func8, Try.ntmps8
   go_wp2_with (first | ((with_reducible refine gate_dst (N := 1) rfl ?_); refine box_event ?hg (N := 1) ?hd (cs := #[.int .i64 a0_0, .int .i64 a0_1, .slice A0_2 l0_2.length c0_2, .slice A0_3 l0_3.length c0_3]) (t := 65) ?hr ?_; (case hd => rfl); (case hg => rfl); (case hr => first | (go_simp; done) | (go_simp; rfl)); intro gb637 hg w12 hbox hb; have n0_ := Aside0.mk (below_step z62x14 hb); have n1_ := Aside0.mk (hbox); have n2_ := Aside0.mk ((z62x12 : w.heap.size ≤ gb637)); have n3_ := Aside0.mk ((z62x12 : w.heap.size ≤ gb637)); clear HB; have HB := n0_; have BK637 := n1_; have GW637 := n2_; have GE637 := n3_; clear n0_ n1_ n2_ n3_; clear hb hbox hg; have hcz13_0 : w12.cell? ⟨gb637, 0, none⟩ = some (.int .i64 a0_0) := (blk_cell BK637.out 0).trans rfl; have hcz13_1 : w12.cell? ⟨gb637, 1, none⟩ = some (.int .i64 a0_1) := (blk_cell BK637.out 1).trans rfl; have hcz13_2 : w12.cell? ⟨gb637, 2, none⟩ = some (.slice A0_2 l0_2.length c0_2) := (blk_cell BK637.out 2).trans rfl; have hcz13_3 : w12.cell? ⟨gb637, 3, none⟩ = some (.slice A0_3 l0_3.length c0_3) := (blk_cell BK637.out 3).trans rfl; have hfz13_0 := blk_frozen BK637.out 0; have hfz13_1 := blk_frozen BK637.out 1; have hfz13_2 := blk_frozen BK637.out 2; have hfz13_3 := blk_frozen BK637.out 3) | ((with_reducible refine gate_callee (f := 40) rfl ?_); refine goesL_ (some 9) rfl rfl Try.func40 (by kernel_rfl) rfl #[.agg #[.int .i64 a0_0, .int .i64 a0_1, .slice A0_2 l0_2.length c0_2, .slice A0_3 l0_3.length c0_3], .int .i64 1048576] rfl z62x13 ?_; (with_reducible refine (laws_szServ.calls a0_0 a0_1 _ _ l0_2 _ _ l0_3 1048576 t638 _ ?side1 ?side2 ?side3 ?side4 A2.out).mono ?_); (case side1 => repeat (first | exact (Kd.C_below HR0_2.out HB.out) | (with_reducible refine Kd.C_alloc ?_ _) | (with_reducible refine Kd.C_drewN ?_ _) | (with_reducible refine Kd.C_drew ?_))); (case side2 => exact HC0_2.out); (case side3 => repeat (first | exact (Kd.C_below HR0_3.out HB.out) | (with_reducible refine Kd.C_alloc ?_ _) | (with_reducible refine Kd.C_drewN ?_ _) | (with_reducible refine Kd.C_drew ?_))); (case side4 => exact HC0_3.out); rintro e w14 ⟨rfl, hb⟩; refine ⟨_, rfl, ?_⟩; have n0_ := Aside0.mk (blk_below (g := gb637) (o := .cells #[.int .i64 a0_0, .int .i64 a0_1, .slice A0_2 l0_2.length c0_2, .slice A0_3 l0_3.length c0_3] 65 (0, 0)) z62x15 hb); have n1_ := Aside0.mk (below_step z62x11 hb); clear BK637; clear HB; have BK637 := n0_; have HB := n1_; clear n0_ n1_; (try clear hb); (try clear hb2); (try clear hk); (try clear hi); have hcz15_0 : w14.cell? ⟨gb637, 0, none⟩ = some (.int .i64 a0_0) := (blk_cell BK637.out 0).trans rfl; have hcz15_1 : w14.cell? ⟨gb637, 1, none⟩ = some (.int .i64 a0_1) := (blk_cell BK637.out 1).trans rfl; have hcz15_2 : w14.cell? ⟨gb637, 2, none⟩ = some (.slice A0_2 l0_2.length c0_2) := (blk_cell BK637.out 2).trans rfl; have hcz15_3 : w14.cell? ⟨gb637, 3, none⟩ = some (.slice A0_3 l0_3.length c0_3) := (blk_cell BK637.out 3).trans rfl; have hfz15_0 := blk_frozen BK637.out 0; have hfz15_1 := blk_frozen BK637.out 1; have hfz15_2 := blk_frozen BK637.out 2; have hfz15_3 := blk_frozen BK637.out 3) | ((with_reducible refine gate_callee (f := 42) rfl ?_); refine goesL_ (some 13) rfl rfl Try.func42 (by kernel_rfl) rfl #[.agg #[.int .i64 a0_0, .int .i64 a0_1, .slice A0_2 l0_2.length c0_2, .slice A0_3 l0_3.length c0_3]] rfl z62x13 ?_; (with_reducible refine (laws_toServ.calls k a0_0 a0_1 _ _ l0_2 _ _ l0_3 t639 t640 t641 t644 _ ?side1 ?side2 ?side3 ?side4 A7.out).mono ?_); (case side1 => repeat (first | exact (Kd.C_below HR0_2.out HB.out) | (with_reducible refine Kd.C_alloc ?_ _) | (with_reducible refine Kd.C_drewN ?_ _) | (with_reducible refine Kd.C_drew ?_))); (case side2 => exact HC0_2.out); (case side3 => repeat (first | exact (Kd.C_below HR0_3.out HB.out) | (with_reducible refine Kd.C_alloc ?_ _) | (with_reducible refine Kd.C_drewN ?_ _) | (with_reducible refine Kd.C_drew ?_))); (case side4 => exact HC0_3.out); rintro e w16 ⟨v642, v645, rfl, ho0, ho1, hb⟩; refine ⟨_, rfl, ?_⟩; have n0_ := Aside0.mk (Kd.R_lower ho0 (below_size z62x11)); have n1_ := Aside0.mk (Kd.R_lower ho1 (below_size z62x11)); have n2_ := Aside0.mk (blk_below (g := gb637) (o := .cells #[.int .i64 a0_0, .int .i64 a0_1, .slice A0_2 l0_2.length c0_2, .slice A0_3 l0_3.length c0_3] 65 (0, 0)) z62x15 hb); have n3_ := Aside0.mk (below_step z62x11 hb); clear BK637; clear HB; have HO643 := n0_; have HO646 := n1_; have BK637 := n2_; have HB := n3_; clear n0_ n1_ n2_ n3_; (try clear hb); (try clear hb2); (try clear hk); (try clear hi); (try clear ho0); (try clear ho1); obtain ⟨Ao17, co17, eo17⟩ := Kd.R_slice HO643.out; subst eo17; obtain ⟨Ao18, co18, eo18⟩ := Kd.R_slice HO646.out; subst eo18) | ((with_reducible refine gate_callee (f := 41) rfl ?_); refine goesL_ (some 14) rfl rfl Try.func41 (by kernel_rfl) rfl #[.agg #[.int .i64 t639, .int .i64 t640, .slice Ao17 t641.length co17, .slice Ao18 t644.length co18]] rfl z62x13 ?_; (with_reducible refine (spec_ServOk.calls k t639 t640 _ _ t641 _ _ t644 t647 _ ?side1 ?side2 ?side3 ?side4 A8.out).mono ?_); (case side1 => repeat (first | exact (Kd.R_reads' HO643.out).2.2 | (with_reducible refine Kd.C_alloc ?_ _) | (with_reducible refine Kd.C_drewN ?_ _) | (with_reducible refine Kd.C_drew ?_))); (case side2 => exact (Kd.R_reads' HO643.out).2.1); (case side3 => repeat (first | exact (Kd.R_reads' HO646.out).2.2 | (with_reducible refine Kd.C_alloc ?_ _) | (with_reducible refine Kd.C_drewN ?_ _) | (with_reducible refine Kd.C_drew ?_))); (case side4 => exact (Kd.R_reads' HO646.out).2.1); rintro e w19 ⟨rfl, hb⟩; refine ⟨_, rfl, ?_⟩; have n0_ := Aside0.mk (Kd.R_below z62x17 hb); have n1_ := Aside0.mk (Kd.R_below z62x18 hb); have n2_ := Aside0.mk (blk_below (g := gb637) (o := .cells #[.int .i64 a0_0, .int .i64 a0_1, .slice A0_2 l0_2.length c0_2, .slice A0_3 l0_3.length c0_3] 65 (0, 0)) z62x15 hb); have n3_ := Aside0.mk (below_step z62x11 hb); clear HO643; clear HO646; clear BK637; clear HB; have HO643 := n0_; have HO646 := n1_; have BK637 := n2_; have HB := n3_; clear n0_ n1_ n2_ n3_; (try clear hb); (try clear hb2); (try clear hk); (try clear hi); have hcz20_0 : w19.cell? ⟨gb637, 0, none⟩ = some (.int .i64 a0_0) := (blk_cell BK637.out 0).trans rfl; have hcz20_1 : w19.cell? ⟨gb637, 1, none⟩ = some (.int .i64 a0_1) := (blk_cell BK637.out 1).trans rfl; have hcz20_2 : w19.cell? ⟨gb637, 2, none⟩ = some (.slice A0_2 l0_2.length c0_2) := (blk_cell BK637.out 2).trans rfl; have hcz20_3 : w19.cell? ⟨gb637, 3, none⟩ = some (.slice A0_3 l0_3.length c0_3) := (blk_cell BK637.out 3).trans rfl; have hfz20_0 := blk_frozen BK637.out 0; have hfz20_1 := blk_frozen BK637.out 1; have hfz20_2 := blk_frozen BK637.out 2; have hfz20_3 := blk_frozen BK637.out 3) | ((with_reducible refine gate_callee (f := 42) rfl ?_); refine goesL_ (some 16) rfl rfl Try.func42 (by kernel_rfl) rfl #[.agg #[.int .i64 a0_0, .int .i64 a0_1, .slice A0_2 l0_2.length c0_2, .slice A0_3 l0_3.length c0_3]] rfl z62x13 ?_; (with_reducible refine (laws_toServ.calls k a0_0 a0_1 _ _ l0_2 _ _ l0_3 t648 t649 t650 t653 _ ?side1 ?side2 ?side3 ?side4 A9.out).mono ?_); (case side1 => repeat (first | exact (Kd.C_below HR0_2.out HB.out) | (with_reducible refine Kd.C_alloc ?_ _) | (with_reducible refine Kd.C_drewN ?_ _) | (with_reducible refine Kd.C_drew ?_))); (case side2 => exact HC0_2.out); (case side3 => repeat (first | exact (Kd.C_below HR0_3.out HB.out) | (with_reducible refine Kd.C_alloc ?_ _) | (with_reducible refine Kd.C_drewN ?_ _) | (with_reducible refine Kd.C_drew ?_))); (case side4 => exact HC0_3.out); rintro e w21 ⟨v651, v654, rfl, ho0, ho1, hb⟩; refine ⟨_, rfl, ?_⟩; have n0_ := Aside0.mk (Kd.R_elder' z62x17 (Kd.R_base ho0) hb); have n1_ := Aside0.mk (Kd.R_elder' z62x18 (Kd.R_base ho1) hb); have n2_ := Aside0.mk (Kd.R_lower (Kd.R_new' ho0 (Kd.R_lt z62x17)) (below_size z62x11)); have n3_ := Aside0.mk (Kd.R_lower (Kd.R_new' ho1 (Kd.R_lt z62x18)) (below_size z62x11)); have n4_ := Aside0.mk (blk_below (g := gb637) (o := .cells #[.int .i64 a0_0, .int .i64 a0_1, .slice A0_2 l0_2.length c0_2, .slice A0_3 l0_3.length c0_3] 65 (0, 0)) z62x15 hb); have n5_ := Aside0.mk (below_step z62x11 hb); clear HO643; clear HO646; clear BK637; clear HB; have HO643 := n0_; have HO646 := n1_; have HO652 := n2_; have HO655 := n3_; have BK637 := n4_; have HB := n5_; clear n0_ n1_ n2_ n3_ n4_ n5_; (try clear hb); (try clear hb2); (try clear hk); (try clear hi); (try clear ho0); (try clear ho1)) | ((with_reducible refine gate_dst (N := 5) rfl ?_); refine box_event ?hg (N := 5) ?hd (cs := #[.int .i64 0, .int .i64 0, .slice none 0 0, .slice none 0 0]) (t := 35) ?hr ?_; (case hd => rfl); (case hg => rfl); (case hr => first | (go_simp; done) | (go_simp; rfl)); intro gb656 hg w22 hbox hb; have n0_ := Aside0.mk (Kd.R_below z62x17 hb); have n1_ := Aside0.mk (Kd.R_below z62x18 hb); have n2_ := Aside0.mk (Kd.R_below z62x19 hb); have n3_ := Aside0.mk (Kd.R_below z62x20 hb); have n4_ := Aside0.mk (blk_below (g := gb637) (o := .cells #[.int .i64 a0_0, .int .i64 a0_1, .slice A0_2 l0_2.length c0_2, .slice A0_3 l0_3.length c0_3] 65 (0, 0)) z62x15 hb); have n5_ := Aside0.mk (below_step z62x11 hb); have n6_ := Aside0.mk (hbox); have n7_ := Aside0.mk ((z62x10 : w.heap.size ≤ gb656)); have n8_ := Aside0.mk ((z62x10 : w.heap.size ≤ gb656)); have n9_ := Aside0.mk ((z62x8 : gb637 ≠ gb656)); have n10_ := Aside0.mk ((z62x7 : gb656 ≠ gb637)); clear HO643; clear HO646; clear HO652; clear HO655; clear BK637; clear HB; have HO643 := n0_; have HO646 := n1_; have HO652 := n2_; have HO655 := n3_; have BK637 := n4_; have HB := n5_; have BK656 := n6_; have GW656 := n7_; have GE656 := n8_; have NB637_656 := n9_; have NB656_637 := n10_; clear n0_ n1_ n2_ n3_ n4_ n5_ n6_ n7_ n8_ n9_ n10_; clear hb hbox hg; have hnb23 := NB656_637.out; have hnc23 := NB637_656.out; have hcz24_0 : w22.cell? ⟨gb656, 0, none⟩ = some (.int .i64 0) := (blk_cell BK656.out 0).trans rfl; have hcz24_1 : w22.cell? ⟨gb656, 1, none⟩ = some (.int .i64 0) := (blk_cell BK656.out 1).trans rfl; have hcz24_2 : w22.cell? ⟨gb656, 2, none⟩ = some (.slice none 0 0) := (blk_cell BK656.out 2).trans rfl; have hcz24_3 : w22.cell? ⟨gb656, 3, none⟩ = some (.slice none 0 0) := (blk_cell BK656.out 3).trans rfl; have hfz24_0 := blk_frozen BK656.out 0; have hfz24_1 := blk_frozen BK656.out 1; have hfz24_2 := blk_frozen BK656.out 2; have hfz24_3 := blk_frozen BK656.out 3; obtain ⟨Ao25, co25, eo25⟩ := Kd.R_slice HO652.out; subst eo25; obtain ⟨Ao26, co26, eo26⟩ := Kd.R_slice HO655.out; subst eo26) | ((with_reducible refine gate_callee (f := 43) rfl ?_); refine goesL_ (some 18) rfl rfl Try.func43 (by kernel_rfl) rfl #[.agg #[.int .i64 t648, .int .i64 t649, .slice Ao25 t650.length co25, .slice Ao26 t653.length co26]] rfl z62x13 ?_; (with_reducible refine (impl_ServOk.calls k t648 t649 _ _ t650 _ _ t653 t657 _ ?side1 ?side2 ?side3 ?side4 A10.out).mono ?_); (case side1 => refine (Kd.R_reads' (e := 57) (base := w.heap.size) (ok := fun k_ => (True ∧ some k_ ≠ (.slice Ao17 t641.length co17 : Value).ownBlock)) (n := t650.length) (c := co25) ?_).2.2; exact z62x1); (case side2 => exact (Kd.R_reads' HO652.out).2.1); (case side3 => refine (Kd.R_reads' (e := 125) (base := w.heap.size) (ok := fun k_ => (True ∧ some k_ ≠ (.slice Ao18 t644.length co18 : Value).ownBlock)) (n := t653.length) (c := co26) ?_).2.2; exact z62x4); (case side4 => exact (Kd.R_reads' HO655.out).2.1); rintro e w27 ⟨rfl, hb⟩; refine ⟨_, rfl, ?_⟩; have n0_ := Aside0.mk (Kd.R_below (by (with_reducible repeat (first | apply Kd.R_alloc | apply Kd.R_drewN | apply Kd.R_drew)); exact (Kd.R_mono (Kd.R_far (p := ⟨gb656, 3, none⟩) (Kd.R_far (p := ⟨gb656, 2, none⟩) (Kd.R_far (p := ⟨gb656, 1, none⟩) (Kd.R_far (p := ⟨gb656, 0, none⟩) (Kd.R_types HO643.out BK656.out (by decide)) (fun _ hk => hk.2) (.int .i64 t648)) (fun _ hk => hk.2) (.int .i64 t649)) (fun _ hk => hk.2) (.slice Ao25 t650.length co25)) (fun _ hk => hk.2) (.slice Ao26 t653.length co26)) (fun _ h_ => h_.1))) hb); have n1_ := Aside0.mk (Kd.R_below (by (with_reducible repeat (first | apply Kd.R_alloc | apply Kd.R_drewN | apply Kd.R_drew)); exact (Kd.R_mono (Kd.R_far (p := ⟨gb656, 3, none⟩) (Kd.R_far (p := ⟨gb656, 2, none⟩) (Kd.R_far (p := ⟨gb656, 1, none⟩) (Kd.R_far (p := ⟨gb656, 0, none⟩) (Kd.R_types HO646.out BK656.out (by decide)) (fun _ hk => hk.2) (.int .i64 t648)) (fun _ hk => hk.2) (.int .i64 t649)) (fun _ hk => hk.2) (.slice Ao25 t650.length co25)) (fun _ hk => hk.2) (.slice Ao26 t653.length co26)) (fun _ h_ => h_.1))) hb); have n2_ := Aside0.mk (Kd.R_below z62x1 hb); have n3_ := Aside0.mk (Kd.R_below z62x4 hb); have n4_ := Aside0.mk (blk_below (g := gb637) (o := .cells #[.int .i64 a0_0, .int .i64 a0_1, .slice A0_2 l0_2.length c0_2, .slice A0_3 l0_3.length c0_3] 65 (0, 0)) z62x0 hb); have n5_ := Aside0.mk (blk_below (g := gb656) (o := .cells #[.int .i64 t648, .int .i64 t649, .slice Ao25 t650.length co25, .slice Ao26 t653.length co26] 35 (0, 0)) (by (with_reducible repeat (first | refine blk_drewN ?_ _ | refine blk_drew ?_ | refine blk_alloc ?_ _)); refine blk_put (cs := #[.int .i64 t648, .int .i64 t649, .slice Ao25 t650.length co25, .slice none 0 0]) ?_ 3 _ rfl; (with_reducible repeat (first | refine blk_drewN ?_ _ | refine blk_drew ?_ | refine blk_alloc ?_ _)); refine blk_put (cs := #[.int .i64 t648, .int .i64 t649, .slice none 0 0, .slice none 0 0]) ?_ 2 _ rfl; (with_reducible repeat (first | refine blk_drewN ?_ _ | refine blk_drew ?_ | refine blk_alloc ?_ _)); refine blk_put (cs := #[.int .i64 t648, .int .i64 0, .slice none 0 0, .slice none 0 0]) ?_ 1 _ rfl; (with_reducible repeat (first | refine blk_drewN ?_ _ | refine blk_drew ?_ | refine blk_alloc ?_ _)); refine blk_put (cs := #[.int .i64 0, .int .i64 0, .slice none 0 0, .slice none 0 0]) ?_ 0 _ rfl; (with_reducible repeat (first | refine blk_drewN ?_ _ | refine blk_drew ?_ | refine blk_alloc ?_ _)); exact BK656.out) hb); have n6_ := Aside0.mk (below_step z62x9 hb); clear HO643; clear HO646; clear HO652; clear HO655; clear BK637; clear BK656; clear HB; have HO643 := n0_; have HO646 := n1_; have HO652 := n2_; have HO655 := n3_; have BK637 := n4_; have BK656 := n5_; have HB := n6_; clear n0_ n1_ n2_ n3_ n4_ n5_ n6_; (try clear hb); (try clear hb2); (try clear hk); (try clear hi)))
   go_ret
   exact ⟨by first | rfl | (simp [errW_none, errW_some] <;> rfl) | (simp [*, errW_none, errW_some] <;> rfl), by repeat (first | (with_reducible first | exact HB.out | apply below_alloc | apply pw_below_drewN | apply below_drew1 | refine below_set ?_ GE637.out | refine below_set ?_ GE656.out) | exact HB.out)⟩
  ·rw [if_neg c11] at H
   have c11b0 : (t657 != t647) = false := by simpa using c11
   (try (have c11b1 : decide (t657 = t647) = true := by simpa using c11))
   (try (have c11b2 : (t657 == t647) = true := by simpa using c11))
   clear c11
   replace H := Option.bind_eq_some_iff.mp H
   obtain ⟨⟨t658, t659, t660, t663⟩, A280, H⟩ := H
   replace H : ((laws_eqServ.f k t648 t649 t650 t653 t658 t659 t660 t663).bind fun t666 => (if t666 = true then (some true) else (some false))) = some r := H
   have A28 := Aside0.mk A280
   clear A280
   replace H := Option.bind_eq_some_iff.mp H
   obtain ⟨t666, A290, H⟩ := H
   replace H : (if t666 = true then (some true) else (some false)) = some r := H
   have A29 := Aside0.mk A290
   clear A290
   by_cases c30 : t666 = true
   ·subst c30
    rw [if_pos rfl] at H
    obtain rfl := Option.some.inj H
    go_enter Try.func8, Try.ntmps8
    try go_wp2_with (first | ((with_reducible refine gate_dst (N := 1) rfl ?_); refine box_event ?hg (N := 1) ?hd (cs := #[.int .i64 a0_0, .int .i64 a0_1, .slice A0_2 l0_2.length c0_2, .slice A0_3 l0_3.length c0_3]) (t := 65) ?hr ?_; (case hd => rfl); (case hg => rfl); (case hr => first | (go_simp; done) | (go_simp; rfl)); intro gb637 hg w31 hbox hb; have n0_ := Aside0.mk (below_step z62x14 hb); have n1_ := Aside0.mk (hbox); have n2_ := Aside0.mk ((z62x12 : w.heap.size ≤ gb637)); have n3_ := Aside0.mk ((z62x12 : w.heap.size ≤ gb637)); clear HB; have HB := n0_; have BK637 := n1_; have GW637 := n2_; have GE637 := n3_; clear n0_ n1_ n2_ n3_; clear hb hbox hg; have hcz32_0 : w31.cell? ⟨gb637, 0, none⟩ = some (.int .i64 a0_0) := (blk_cell BK637.out 0).trans rfl; have hcz32_1 : w31.cell? ⟨gb637, 1, none⟩ = some (.int .i64 a0_1) := (blk_cell BK637.out 1).trans rfl; have hcz32_2 : w31.cell? ⟨gb637, 2, none⟩ = some (.slice A0_2 l0_2.length c0_2) := (blk_cell BK637.out 2).trans rfl; have hcz32_3 : w31.cell? ⟨gb637, 3, none⟩ = some (.slice A0_3 l0_3.length c0_3) := (blk_cell BK637.out 3).trans rfl; have hfz32_0 := blk_frozen BK637.out 0; have hfz32_1 := blk_frozen BK637.out 1; have hfz32_2 := blk_frozen BK637.out 2; have hfz32_3 := blk_frozen BK637.out 3) | ((with_reducible refine gate_callee (f := 40) rfl ?_); refine goesL_ (some 9) rfl rfl Try.func40 (by kernel_rfl) rfl #[.agg #[.int .i64 a0_0, .int .i64 a0_1, .slice A0_2 l0_2.length c0_2, .slice A0_3 l0_3.length c0_3], .int .i64 1048576] rfl z62x13 ?_; (with_reducible refine (laws_szServ.calls a0_0 a0_1 _ _ l0_2 _ _ l0_3 1048576 t638 _ ?side1 ?side2 ?side3 ?side4 A2.out).mono ?_); (case side1 => repeat (first | exact (Kd.C_below HR0_2.out HB.out) | (with_reducible refine Kd.C_alloc ?_ _) | (with_reducible refine Kd.C_drewN ?_ _) | (with_reducible refine Kd.C_drew ?_))); (case side2 => exact HC0_2.out); (case side3 => repeat (first | exact (Kd.C_below HR0_3.out HB.out) | (with_reducible refine Kd.C_alloc ?_ _) | (with_reducible refine Kd.C_drewN ?_ _) | (with_reducible refine Kd.C_drew ?_))); (case side4 => exact HC0_3.out); rintro e w33 ⟨rfl, hb⟩; refine ⟨_, rfl, ?_⟩; have n0_ := Aside0.mk (blk_below (g := gb637) (o := .cells #[.int .i64 a0_0, .int .i64 a0_1, .slice A0_2 l0_2.length c0_2, .slice A0_3 l0_3.length c0_3] 65 (0, 0)) z62x15 hb); have n1_ := Aside0.mk (below_step z62x11 hb); clear BK637; clear HB; have BK637 := n0_; have HB := n1_; clear n0_ n1_; (try clear hb); (try clear hb2); (try clear hk); (try clear hi); have hcz34_0 : w33.cell? ⟨gb637, 0, none⟩ = some (.int .i64 a0_0) := (blk_cell BK637.out 0).trans rfl; have hcz34_1 : w33.cell? ⟨gb637, 1, none⟩ = some (.int .i64 a0_1) := (blk_cell BK637.out 1).trans rfl; have hcz34_2 : w33.cell? ⟨gb637, 2, none⟩ = some (.slice A0_2 l0_2.length c0_2) := (blk_cell BK637.out 2).trans rfl; have hcz34_3 : w33.cell? ⟨gb637, 3, none⟩ = some (.slice A0_3 l0_3.length c0_3) := (blk_cell BK637.out 3).trans rfl; have hfz34_0 := blk_frozen BK637.out 0; have hfz34_1 := blk_frozen BK637.out 1; have hfz34_2 := blk_frozen BK637.out 2; have hfz34_3 := blk_frozen BK637.out 3) | ((with_reducible refine gate_callee (f := 42) rfl ?_); refine goesL_ (some 13) rfl rfl Try.func42 (by kernel_rfl) rfl #[.agg #[.int .i64 a0_0, .int .i64 a0_1, .slice A0_2 l0_2.length c0_2, .slice A0_3 l0_3.length c0_3]] rfl z62x13 ?_; (with_reducible refine (laws_toServ.calls k a0_0 a0_1 _ _ l0_2 _ _ l0_3 t639 t640 t641 t644 _ ?side1 ?side2 ?side3 ?side4 A7.out).mono ?_); (case side1 => repeat (first | exact (Kd.C_below HR0_2.out HB.out) | (with_reducible refine Kd.C_alloc ?_ _) | (with_reducible refine Kd.C_drewN ?_ _) | (with_reducible refine Kd.C_drew ?_))); (case side2 => exact HC0_2.out); (case side3 => repeat (first | exact (Kd.C_below HR0_3.out HB.out) | (with_reducible refine Kd.C_alloc ?_ _) | (with_reducible refine Kd.C_drewN ?_ _) | (with_reducible refine Kd.C_drew ?_))); (case side4 => exact HC0_3.out); rintro e w35 ⟨v642, v645, rfl, ho0, ho1, hb⟩; refine ⟨_, rfl, ?_⟩; have n0_ := Aside0.mk (Kd.R_lower ho0 (below_size z62x11)); have n1_ := Aside0.mk (Kd.R_lower ho1 (below_size z62x11)); have n2_ := Aside0.mk (blk_below (g := gb637) (o := .cells #[.int .i64 a0_0, .int .i64 a0_1, .slice A0_2 l0_2.length c0_2, .slice A0_3 l0_3.length c0_3] 65 (0, 0)) z62x15 hb); have n3_ := Aside0.mk (below_step z62x11 hb); clear BK637; clear HB; have HO643 := n0_; have HO646 := n1_; have BK637 := n2_; have HB := n3_; clear n0_ n1_ n2_ n3_; (try clear hb); (try clear hb2); (try clear hk); (try clear hi); (try clear ho0); (try clear ho1); obtain ⟨Ao36, co36, eo36⟩ := Kd.R_slice HO643.out; subst eo36; obtain ⟨Ao37, co37, eo37⟩ := Kd.R_slice HO646.out; subst eo37) | ((with_reducible refine gate_callee (f := 41) rfl ?_); refine goesL_ (some 14) rfl rfl Try.func41 (by kernel_rfl) rfl #[.agg #[.int .i64 t639, .int .i64 t640, .slice Ao36 t641.length co36, .slice Ao37 t644.length co37]] rfl z62x13 ?_; (with_reducible refine (spec_ServOk.calls k t639 t640 _ _ t641 _ _ t644 t647 _ ?side1 ?side2 ?side3 ?side4 A8.out).mono ?_); (case side1 => repeat (first | exact (Kd.R_reads' HO643.out).2.2 | (with_reducible refine Kd.C_alloc ?_ _) | (with_reducible refine Kd.C_drewN ?_ _) | (with_reducible refine Kd.C_drew ?_))); (case side2 => exact (Kd.R_reads' HO643.out).2.1); (case side3 => repeat (first | exact (Kd.R_reads' HO646.out).2.2 | (with_reducible refine Kd.C_alloc ?_ _) | (with_reducible refine Kd.C_drewN ?_ _) | (with_reducible refine Kd.C_drew ?_))); (case side4 => exact (Kd.R_reads' HO646.out).2.1); rintro e w38 ⟨rfl, hb⟩; refine ⟨_, rfl, ?_⟩; have n0_ := Aside0.mk (Kd.R_below z62x17 hb); have n1_ := Aside0.mk (Kd.R_below z62x18 hb); have n2_ := Aside0.mk (blk_below (g := gb637) (o := .cells #[.int .i64 a0_0, .int .i64 a0_1, .slice A0_2 l0_2.length c0_2, .slice A0_3 l0_3.length c0_3] 65 (0, 0)) z62x15 hb); have n3_ := Aside0.mk (below_step z62x11 hb); clear HO643; clear HO646; clear BK637; clear HB; have HO643 := n0_; have HO646 := n1_; have BK637 := n2_; have HB := n3_; clear n0_ n1_ n2_ n3_; (try clear hb); (try clear hb2); (try clear hk); (try clear hi); have hcz39_0 : w38.cell? ⟨gb637, 0, none⟩ = some (.int .i64 a0_0) := (blk_cell BK637.out 0).trans rfl; have hcz39_1 : w38.cell? ⟨gb637, 1, none⟩ = some (.int .i64 a0_1) := (blk_cell BK637.out 1).trans rfl; have hcz39_2 : w38.cell? ⟨gb637, 2, none⟩ = some (.slice A0_2 l0_2.length c0_2) := (blk_cell BK637.out 2).trans rfl; have hcz39_3 : w38.cell? ⟨gb637, 3, none⟩ = some (.slice A0_3 l0_3.length c0_3) := (blk_cell BK637.out 3).trans rfl; have hfz39_0 := blk_frozen BK637.out 0; have hfz39_1 := blk_frozen BK637.out 1; have hfz39_2 := blk_frozen BK637.out 2; have hfz39_3 := blk_frozen BK637.out 3) | ((with_reducible refine gate_callee (f := 42) rfl ?_); refine goesL_ (some 16) rfl rfl Try.func42 (by kernel_rfl) rfl #[.agg #[.int .i64 a0_0, .int .i64 a0_1, .slice A0_2 l0_2.length c0_2, .slice A0_3 l0_3.length c0_3]] rfl z62x13 ?_; (with_reducible refine (laws_toServ.calls k a0_0 a0_1 _ _ l0_2 _ _ l0_3 t648 t649 t650 t653 _ ?side1 ?side2 ?side3 ?side4 A9.out).mono ?_); (case side1 => repeat (first | exact (Kd.C_below HR0_2.out HB.out) | (with_reducible refine Kd.C_alloc ?_ _) | (with_reducible refine Kd.C_drewN ?_ _) | (with_reducible refine Kd.C_drew ?_))); (case side2 => exact HC0_2.out); (case side3 => repeat (first | exact (Kd.C_below HR0_3.out HB.out) | (with_reducible refine Kd.C_alloc ?_ _) | (with_reducible refine Kd.C_drewN ?_ _) | (with_reducible refine Kd.C_drew ?_))); (case side4 => exact HC0_3.out); rintro e w40 ⟨v651, v654, rfl, ho0, ho1, hb⟩; refine ⟨_, rfl, ?_⟩; have n0_ := Aside0.mk (Kd.R_elder' z62x17 (Kd.R_base ho0) hb); have n1_ := Aside0.mk (Kd.R_elder' z62x18 (Kd.R_base ho1) hb); have n2_ := Aside0.mk (Kd.R_lower (Kd.R_new' ho0 (Kd.R_lt z62x17)) (below_size z62x11)); have n3_ := Aside0.mk (Kd.R_lower (Kd.R_new' ho1 (Kd.R_lt z62x18)) (below_size z62x11)); have n4_ := Aside0.mk (blk_below (g := gb637) (o := .cells #[.int .i64 a0_0, .int .i64 a0_1, .slice A0_2 l0_2.length c0_2, .slice A0_3 l0_3.length c0_3] 65 (0, 0)) z62x15 hb); have n5_ := Aside0.mk (below_step z62x11 hb); clear HO643; clear HO646; clear BK637; clear HB; have HO643 := n0_; have HO646 := n1_; have HO652 := n2_; have HO655 := n3_; have BK637 := n4_; have HB := n5_; clear n0_ n1_ n2_ n3_ n4_ n5_; (try clear hb); (try clear hb2); (try clear hk); (try clear hi); (try clear ho0); (try clear ho1)) | ((with_reducible refine gate_dst (N := 5) rfl ?_); refine box_event ?hg (N := 5) ?hd (cs := #[.int .i64 0, .int .i64 0, .slice none 0 0, .slice none 0 0]) (t := 35) ?hr ?_; (case hd => rfl); (case hg => rfl); (case hr => first | (go_simp; done) | (go_simp; rfl)); intro gb656 hg w41 hbox hb; have n0_ := Aside0.mk (Kd.R_below z62x17 hb); have n1_ := Aside0.mk (Kd.R_below z62x18 hb); have n2_ := Aside0.mk (Kd.R_below z62x19 hb); have n3_ := Aside0.mk (Kd.R_below z62x20 hb); have n4_ := Aside0.mk (blk_below (g := gb637) (o := .cells #[.int .i64 a0_0, .int .i64 a0_1, .slice A0_2 l0_2.length c0_2, .slice A0_3 l0_3.length c0_3] 65 (0, 0)) z62x15 hb); have n5_ := Aside0.mk (below_step z62x11 hb); have n6_ := Aside0.mk (hbox); have n7_ := Aside0.mk ((z62x10 : w.heap.size ≤ gb656)); have n8_ := Aside0.mk ((z62x10 : w.heap.size ≤ gb656)); have n9_ := Aside0.mk ((z62x8 : gb637 ≠ gb656)); have n10_ := Aside0.mk ((z62x7 : gb656 ≠ gb637)); clear HO643; clear HO646; clear HO652; clear HO655; clear BK637; clear HB; have HO643 := n0_; have HO646 := n1_; have HO652 := n2_; have HO655 := n3_; have BK637 := n4_; have HB := n5_; have BK656 := n6_; have GW656 := n7_; have GE656 := n8_; have NB637_656 := n9_; have NB656_637 := n10_; clear n0_ n1_ n2_ n3_ n4_ n5_ n6_ n7_ n8_ n9_ n10_; clear hb hbox hg; have hnb42 := NB656_637.out; have hnc42 := NB637_656.out; have hcz43_0 : w41.cell? ⟨gb656, 0, none⟩ = some (.int .i64 0) := (blk_cell BK656.out 0).trans rfl; have hcz43_1 : w41.cell? ⟨gb656, 1, none⟩ = some (.int .i64 0) := (blk_cell BK656.out 1).trans rfl; have hcz43_2 : w41.cell? ⟨gb656, 2, none⟩ = some (.slice none 0 0) := (blk_cell BK656.out 2).trans rfl; have hcz43_3 : w41.cell? ⟨gb656, 3, none⟩ = some (.slice none 0 0) := (blk_cell BK656.out 3).trans rfl; have hfz43_0 := blk_frozen BK656.out 0; have hfz43_1 := blk_frozen BK656.out 1; have hfz43_2 := blk_frozen BK656.out 2; have hfz43_3 := blk_frozen BK656.out 3; obtain ⟨Ao44, co44, eo44⟩ := Kd.R_slice HO652.out; subst eo44; obtain ⟨Ao45, co45, eo45⟩ := Kd.R_slice HO655.out; subst eo45) | ((with_reducible refine gate_callee (f := 43) rfl ?_); refine goesL_ (some 18) rfl rfl Try.func43 (by kernel_rfl) rfl #[.agg #[.int .i64 t648, .int .i64 t649, .slice Ao44 t650.length co44, .slice Ao45 t653.length co45]] rfl z62x13 ?_; (with_reducible refine (impl_ServOk.calls k t648 t649 _ _ t650 _ _ t653 t657 _ ?side1 ?side2 ?side3 ?side4 A10.out).mono ?_); (case side1 => refine (Kd.R_reads' (e := 57) (base := w.heap.size) (ok := fun k_ => (True ∧ some k_ ≠ (.slice Ao36 t641.length co36 : Value).ownBlock)) (n := t650.length) (c := co44) ?_).2.2; exact z62x2); (case side2 => exact (Kd.R_reads' HO652.out).2.1); (case side3 => refine (Kd.R_reads' (e := 125) (base := w.heap.size) (ok := fun k_ => (True ∧ some k_ ≠ (.slice Ao37 t644.length co37 : Value).ownBlock)) (n := t653.length) (c := co45) ?_).2.2; exact z62x5); (case side4 => exact (Kd.R_reads' HO655.out).2.1); rintro e w46 ⟨rfl, hb⟩; refine ⟨_, rfl, ?_⟩; have n0_ := Aside0.mk (Kd.R_below (by (with_reducible repeat (first | apply Kd.R_alloc | apply Kd.R_drewN | apply Kd.R_drew)); exact (Kd.R_mono (Kd.R_far (p := ⟨gb656, 3, none⟩) (Kd.R_far (p := ⟨gb656, 2, none⟩) (Kd.R_far (p := ⟨gb656, 1, none⟩) (Kd.R_far (p := ⟨gb656, 0, none⟩) (Kd.R_types HO643.out BK656.out (by decide)) (fun _ hk => hk.2) (.int .i64 t648)) (fun _ hk => hk.2) (.int .i64 t649)) (fun _ hk => hk.2) (.slice Ao44 t650.length co44)) (fun _ hk => hk.2) (.slice Ao45 t653.length co45)) (fun _ h_ => h_.1))) hb); have n1_ := Aside0.mk (Kd.R_below (by (with_reducible repeat (first | apply Kd.R_alloc | apply Kd.R_drewN | apply Kd.R_drew)); exact (Kd.R_mono (Kd.R_far (p := ⟨gb656, 3, none⟩) (Kd.R_far (p := ⟨gb656, 2, none⟩) (Kd.R_far (p := ⟨gb656, 1, none⟩) (Kd.R_far (p := ⟨gb656, 0, none⟩) (Kd.R_types HO646.out BK656.out (by decide)) (fun _ hk => hk.2) (.int .i64 t648)) (fun _ hk => hk.2) (.int .i64 t649)) (fun _ hk => hk.2) (.slice Ao44 t650.length co44)) (fun _ hk => hk.2) (.slice Ao45 t653.length co45)) (fun _ h_ => h_.1))) hb); have n2_ := Aside0.mk (Kd.R_below z62x2 hb); have n3_ := Aside0.mk (Kd.R_below z62x5 hb); have n4_ := Aside0.mk (blk_below (g := gb637) (o := .cells #[.int .i64 a0_0, .int .i64 a0_1, .slice A0_2 l0_2.length c0_2, .slice A0_3 l0_3.length c0_3] 65 (0, 0)) z62x0 hb); have n5_ := Aside0.mk (blk_below (g := gb656) (o := .cells #[.int .i64 t648, .int .i64 t649, .slice Ao44 t650.length co44, .slice Ao45 t653.length co45] 35 (0, 0)) (by (with_reducible repeat (first | refine blk_drewN ?_ _ | refine blk_drew ?_ | refine blk_alloc ?_ _)); refine blk_put (cs := #[.int .i64 t648, .int .i64 t649, .slice Ao44 t650.length co44, .slice none 0 0]) ?_ 3 _ rfl; (with_reducible repeat (first | refine blk_drewN ?_ _ | refine blk_drew ?_ | refine blk_alloc ?_ _)); refine blk_put (cs := #[.int .i64 t648, .int .i64 t649, .slice none 0 0, .slice none 0 0]) ?_ 2 _ rfl; (with_reducible repeat (first | refine blk_drewN ?_ _ | refine blk_drew ?_ | refine blk_alloc ?_ _)); refine blk_put (cs := #[.int .i64 t648, .int .i64 0, .slice none 0 0, .slice none 0 0]) ?_ 1 _ rfl; (with_reducible repeat (first | refine blk_drewN ?_ _ | refine blk_drew ?_ | refine blk_alloc ?_ _)); refine blk_put (cs := #[.int .i64 0, .int .i64 0, .slice none 0 0, .slice none 0 0]) ?_ 0 _ rfl; (with_reducible repeat (first | refine blk_drewN ?_ _ | refine blk_drew ?_ | refine blk_alloc ?_ _)); exact BK656.out) hb); have n6_ := Aside0.mk (below_step z62x9 hb); clear HO643; clear HO646; clear HO652; clear HO655; clear BK637; clear BK656; clear HB; have HO643 := n0_; have HO646 := n1_; have HO652 := n2_; have HO655 := n3_; have BK637 := n4_; have BK656 := n5_; have HB := n6_; clear n0_ n1_ n2_ n3_ n4_ n5_ n6_; (try clear hb); (try clear hb2); (try clear hk); (try clear hi)))
    have n0_ := Aside0.mk (Kd.R_drew HO643.out)
    have n1_ := Aside0.mk (Kd.R_drew HO646.out)
    have n2_ := Aside0.mk (Kd.R_drew HO652.out)
    have n3_ := Aside0.mk (Kd.R_drew HO655.out)
    have n4_ := Aside0.mk (blk_drew BK637.out)
    have n5_ := Aside0.mk (blk_drew BK656.out)
    have n6_ := Aside0.mk (below_drew1 HB.out)
    clear HO643
    clear HO646
    clear HO652
    clear HO655
    clear BK637
    clear BK656
    clear HB
    have HO643 := n0_
    have HO646 := n1_
    have HO652 := n2_
    have HO655 := n3_
    have BK637 := n4_
    have BK656 := n5_
    have HB := n6_
    clear n0_ n1_ n2_ n3_ n4_ n5_ n6_
    refine start_ (n := 5) (S := fun w' => w'.cell? ⟨gb656, 0, none⟩ = some (.int .i64 t648) ∧ w'.cell? ⟨gb656, 1, none⟩ = some (.int .i64 t649) ∧ w'.cell? ⟨gb656, 2, none⟩ = some (.slice Ao44 t650.length co44) ∧ w'.cell? ⟨gb656, 3, none⟩ = some (.slice Ao45 t653.length co45) ∧ w'.cell? ⟨gb637, 0, none⟩ = some (.int .i64 a0_0) ∧ w'.cell? ⟨gb637, 1, none⟩ = some (.int .i64 a0_1) ∧ w'.cell? ⟨gb637, 2, none⟩ = some (.slice A0_2 l0_2.length c0_2) ∧ w'.cell? ⟨gb637, 3, none⟩ = some (.slice A0_3 l0_3.length c0_3)) (ds := []) #[false, false, false, false, false] (by kernel_rfl) rfl rfl ⟨(blk_cell BK656.out 0).trans rfl, (blk_cell BK656.out 1).trans rfl, (blk_cell BK656.out 2).trans rfl, (blk_cell BK656.out 3).trans rfl, (blk_cell BK637.out 0).trans rfl, (blk_cell BK637.out 1).trans rfl, (blk_cell BK637.out 2).trans rfl, (blk_cell BK637.out 3).trans rfl⟩ (fun hHeld => ?_)
    generalize w46.drew = w47 at HO643 HO646 HO652 HO655 BK637 BK656 HB hHeld ⊢
    refine take_ (i := 0) (N := some 22) (v := ?_) (a' := ?_) #[true, false, false, false, false] rfl rfl (by kernel_rfl) (fun _ _ _ h => h) (Or.inl ⟨by rfl, ?_⟩) hHeld ?_ ?_
    rotate_left
    ·rintro w' ⟨s0, s1, s2, s3, s4, s5, s6, s7⟩
     go_simp
     with_reducible rfl
    rotate_left
    ·simp only [Act.put, List.setIfInBounds_toArray, List.set_cons_zero, List.set_cons_succ, i64_w, i32_w]
     rfl
    refine take_ (i := 1) (N := some 23) (v := ?_) (a' := ?_) #[true, true, false, false, false] rfl rfl (by kernel_rfl) (fun _ _ _ h => h) (Or.inl ⟨by rfl, ?_⟩) hHeld ?_ ?_
    rotate_left
    ·rintro w' ⟨s0, s1, s2, s3, s4, s5, s6, s7⟩
     go_simp
     with_reducible rfl
    rotate_left
    ·simp only [Act.put, List.setIfInBounds_toArray, List.set_cons_zero, List.set_cons_succ, i64_w, i32_w]
     rfl
    refine one_ (i := 2) (N := some 24) #[true, true, true, false, false] rfl rfl (by kernel_rfl) (by decide) (fun K hK => ?_)
    refine goes_ Try.func42 (by kernel_rfl) rfl #[.agg #[.int .i64 a0_0, .int .i64 a0_1, .slice A0_2 l0_2.length c0_2, .slice A0_3 l0_3.length c0_3]] (by rfl) rfl rfl z62x13 ?_
    with_reducible refine (laws_toServ.calls k a0_0 a0_1 _ _ l0_2 _ _ l0_3 t658 t659 t660 t663 _ ?side1 ?side2 ?side3 ?side4 A28.out).mono ?_
    (case side1 => repeat (first | exact (Kd.C_below HR0_2.out HB.out) | (with_reducible refine Kd.C_alloc ?_ _) | (with_reducible refine Kd.C_drewN ?_ _) | (with_reducible refine Kd.C_drew ?_)))
    (case side2 => exact HC0_2.out)
    (case side3 => repeat (first | exact (Kd.C_below HR0_3.out HB.out) | (with_reducible refine Kd.C_alloc ?_ _) | (with_reducible refine Kd.C_drewN ?_ _) | (with_reducible refine Kd.C_drew ?_)))
    (case side4 => exact HC0_3.out)
    rintro e w48 ⟨v661, v664, rfl, ho0, ho1, hb⟩
    refine ⟨_, rfl, ?_⟩
    have n0_ := Aside0.mk (Kd.R_elder' z62x17 (Kd.R_base ho0) hb)
    have n1_ := Aside0.mk (Kd.R_elder' z62x18 (Kd.R_base ho1) hb)
    have n2_ := Aside0.mk (Kd.R_elder' z62x19 (Kd.R_base ho0) hb)
    have n3_ := Aside0.mk (Kd.R_elder' z62x20 (Kd.R_base ho1) hb)
    have n4_ := Aside0.mk (Kd.R_lower (Kd.R_new' (Kd.R_new' ho0 (Kd.R_lt z62x17)) (Kd.R_lt z62x19)) (below_size z62x9))
    have n5_ := Aside0.mk (Kd.R_lower (Kd.R_new' (Kd.R_new' ho1 (Kd.R_lt z62x18)) (Kd.R_lt z62x20)) (below_size z62x9))
    have n6_ := Aside0.mk (blk_below (g := gb637) (o := .cells #[.int .i64 a0_0, .int .i64 a0_1, .slice A0_2 l0_2.length c0_2, .slice A0_3 l0_3.length c0_3] 65 (0, 0)) z62x15 hb)
    have n7_ := Aside0.mk (blk_below (g := gb656) (o := .cells #[.int .i64 t648, .int .i64 t649, .slice Ao44 t650.length co44, .slice Ao45 t653.length co45] 35 (0, 0)) z62x16 hb)
    have n8_ := Aside0.mk (below_step z62x9 hb)
    clear HO643
    clear HO646
    clear HO652
    clear HO655
    clear BK637
    clear BK656
    clear HB
    have HO643 := n0_
    have HO646 := n1_
    have HO652 := n2_
    have HO655 := n3_
    have HO662 := n4_
    have HO665 := n5_
    have BK637 := n6_
    have BK656 := n7_
    have HB := n8_
    clear n0_ n1_ n2_ n3_ n4_ n5_ n6_ n7_ n8_
    (try clear hb)
    (try clear hb2)
    (try clear hk)
    (try clear hi)
    (try clear ho0)
    (try clear ho1)
    obtain ⟨Ao49, co49, eo49⟩ := Kd.R_slice HO662.out
    (first | subst eo49 | (injection eo49 with f1_ f2_ f3_; have f4_ := f1_.symm; have f5_ := f3_.symm; clear f1_ f2_ f3_; subst f4_; subst f5_))
    obtain ⟨Ao50, co50, eo50⟩ := Kd.R_slice HO665.out
    (first | subst eo50 | (injection eo50 with f1_ f2_ f3_; have f4_ := f1_.symm; have f5_ := f3_.symm; clear f1_ f2_ f3_; subst f4_; subst f5_))
    refine hK.out _ _ ⟨(blk_cell BK656.out 0).trans rfl, (blk_cell BK656.out 1).trans rfl, (blk_cell BK656.out 2).trans rfl, (blk_cell BK656.out 3).trans rfl, (blk_cell BK637.out 0).trans rfl, (blk_cell BK637.out 1).trans rfl, (blk_cell BK637.out 2).trans rfl, (blk_cell BK637.out 3).trans rfl⟩ (fun hHeld => ?_)
    clear hK K
    refine norm_ (a' := ?_) ?_ ?_
    rotate_left
    ·show Act.put _ (some 24) _ = _
     simp only [Act.put, List.setIfInBounds_toArray, List.set_cons_zero, List.set_cons_succ, i64_w, i32_w]
     rfl
    refine one_ (i := 3) (N := some 25) #[true, true, true, true, false] rfl rfl (by kernel_rfl) (by decide) (fun K hK => ?_)
    refine goes_ Try.func26 (by kernel_rfl) rfl #[.agg #[.int .i64 t648, .int .i64 t649, .slice Ao44 t650.length co44, .slice Ao45 t653.length co45], .agg #[.int .i64 t658, .int .i64 t659, .slice Ao49 t660.length co49, .slice Ao50 t663.length co50]] (by rfl) rfl rfl z62x13 ?_
    with_reducible refine (laws_eqServ.calls k t648 t649 _ _ t650 _ _ t653 t658 t659 _ _ t660 _ _ t663 true _ ?side1 ?side2 ?side3 ?side4 ?side5 ?side6 ?side7 ?side8 A29.out).mono ?_
    (case side1 => repeat (first | exact (Kd.R_reads' HO652.out).2.2 | (with_reducible refine Kd.C_alloc ?_ _) | (with_reducible refine Kd.C_drewN ?_ _) | (with_reducible refine Kd.C_drew ?_)))
    (case side2 => exact (Kd.R_reads' HO652.out).2.1)
    (case side3 => repeat (first | exact (Kd.R_reads' HO655.out).2.2 | (with_reducible refine Kd.C_alloc ?_ _) | (with_reducible refine Kd.C_drewN ?_ _) | (with_reducible refine Kd.C_drew ?_)))
    (case side4 => exact (Kd.R_reads' HO655.out).2.1)
    (case side5 => repeat (first | exact (Kd.R_reads' HO662.out).2.2 | (with_reducible refine Kd.C_alloc ?_ _) | (with_reducible refine Kd.C_drewN ?_ _) | (with_reducible refine Kd.C_drew ?_)))
    (case side6 => exact (Kd.R_reads' HO662.out).2.1)
    (case side7 => repeat (first | exact (Kd.R_reads' HO665.out).2.2 | (with_reducible refine Kd.C_alloc ?_ _) | (with_reducible refine Kd.C_drewN ?_ _) | (with_reducible refine Kd.C_drew ?_)))
    (case side8 => exact (Kd.R_reads' HO665.out).2.1)
    rintro e w51 ⟨rfl, hb⟩
    refine ⟨_, rfl, ?_⟩
    have n0_ := Aside0.mk (Kd.R_below z62x17 hb)
    have n1_ := Aside0.mk (Kd.R_below z62x18 hb)
    have n2_ := Aside0.mk (Kd.R_below z62x19 hb)
    have n3_ := Aside0.mk (Kd.R_below z62x20 hb)
    have n4_ := Aside0.mk (Kd.R_below (by (with_reducible repeat (first | apply Kd.R_alloc | apply Kd.R_drewN | apply Kd.R_drew)); exact HO662.out) hb)
    have n5_ := Aside0.mk (Kd.R_below (by (with_reducible repeat (first | apply Kd.R_alloc | apply Kd.R_drewN | apply Kd.R_drew)); exact HO665.out) hb)
    have n6_ := Aside0.mk (blk_below (g := gb637) (o := .cells #[.int .i64 a0_0, .int .i64 a0_1, .slice A0_2 l0_2.length c0_2, .slice A0_3 l0_3.length c0_3] 65 (0, 0)) z62x15 hb)
    have n7_ := Aside0.mk (blk_below (g := gb656) (o := .cells #[.int .i64 t648, .int .i64 t649, .slice Ao44 t650.length co44, .slice Ao45 t653.length co45] 35 (0, 0)) z62x16 hb)
    have n8_ := Aside0.mk (below_step z62x9 hb)
    clear HO643
    clear HO646
    clear HO652
    clear HO655
    clear HO662
    clear HO665
    clear BK637
    clear BK656
    clear HB
    have HO643 := n0_
    have HO646 := n1_
    have HO652 := n2_
    have HO655 := n3_
    have HO662 := n4_
    have HO665 := n5_
    have BK637 := n6_
    have BK656 := n7_
    have HB := n8_
    clear n0_ n1_ n2_ n3_ n4_ n5_ n6_ n7_ n8_
    (try clear hb)
    (try clear hb2)
    (try clear hk)
    (try clear hi)
    refine hK.out _ _ ⟨(blk_cell BK656.out 0).trans rfl, (blk_cell BK656.out 1).trans rfl, (blk_cell BK656.out 2).trans rfl, (blk_cell BK656.out 3).trans rfl, (blk_cell BK637.out 0).trans rfl, (blk_cell BK637.out 1).trans rfl, (blk_cell BK637.out 2).trans rfl, (blk_cell BK637.out 3).trans rfl⟩ (fun hHeld => ?_)
    clear hK K
    refine norm_ (a' := ?_) ?_ ?_
    rotate_left
    ·show Act.put _ (some 25) _ = _
     simp only [Act.put, List.setIfInBounds_toArray, List.set_cons_zero, List.set_cons_succ, i64_w, i32_w]
     rfl
    refine pure_ (i := 4) (N := some 26) (v := ?_) (a' := ?_) #[true, true, true, true, true] rfl rfl (by kernel_rfl) (fun _ _ _ h => h) (Or.inl ⟨by rfl, ?_⟩) ?_ ?_
    rotate_left
    ·intro w'
     go_simp
     with_reducible rfl
    rotate_left
    ·simp only [Act.put, List.setIfInBounds_toArray, List.set_cons_zero, List.set_cons_succ, i64_w, i32_w]
     rfl
    refine done_ (by kernel_rfl) ?_
    try go_wp2
    go_ret
    exact ⟨by first | rfl | (simp [errW_none, errW_some] <;> rfl) | (simp [*, errW_none, errW_some] <;> rfl), by repeat (first | (with_reducible first | exact HB.out | apply below_alloc | apply pw_below_drewN | apply below_drew1 | refine below_set ?_ GE637.out | refine below_set ?_ GE656.out) | exact HB.out)⟩
   ·replace c30 := Bool.eq_false_iff.mpr c30
    subst c30
    rw [if_neg (show ¬ (false = true) by decide)] at H
    obtain rfl := Option.some.inj H
    go_enter Try.func8, Try.ntmps8
    try go_wp2_with (first | ((with_reducible refine gate_dst (N := 1) rfl ?_); refine box_event ?hg (N := 1) ?hd (cs := #[.int .i64 a0_0, .int .i64 a0_1, .slice A0_2 l0_2.length c0_2, .slice A0_3 l0_3.length c0_3]) (t := 65) ?hr ?_; (case hd => rfl); (case hg => rfl); (case hr => first | (go_simp; done) | (go_simp; rfl)); intro gb637 hg w52 hbox hb; have n0_ := Aside0.mk (below_step z62x14 hb); have n1_ := Aside0.mk (hbox); have n2_ := Aside0.mk ((z62x12 : w.heap.size ≤ gb637)); have n3_ := Aside0.mk ((z62x12 : w.heap.size ≤ gb637)); clear HB; have HB := n0_; have BK637 := n1_; have GW637 := n2_; have GE637 := n3_; clear n0_ n1_ n2_ n3_; clear hb hbox hg; have hcz53_0 : w52.cell? ⟨gb637, 0, none⟩ = some (.int .i64 a0_0) := (blk_cell BK637.out 0).trans rfl; have hcz53_1 : w52.cell? ⟨gb637, 1, none⟩ = some (.int .i64 a0_1) := (blk_cell BK637.out 1).trans rfl; have hcz53_2 : w52.cell? ⟨gb637, 2, none⟩ = some (.slice A0_2 l0_2.length c0_2) := (blk_cell BK637.out 2).trans rfl; have hcz53_3 : w52.cell? ⟨gb637, 3, none⟩ = some (.slice A0_3 l0_3.length c0_3) := (blk_cell BK637.out 3).trans rfl; have hfz53_0 := blk_frozen BK637.out 0; have hfz53_1 := blk_frozen BK637.out 1; have hfz53_2 := blk_frozen BK637.out 2; have hfz53_3 := blk_frozen BK637.out 3) | ((with_reducible refine gate_callee (f := 40) rfl ?_); refine goesL_ (some 9) rfl rfl Try.func40 (by kernel_rfl) rfl #[.agg #[.int .i64 a0_0, .int .i64 a0_1, .slice A0_2 l0_2.length c0_2, .slice A0_3 l0_3.length c0_3], .int .i64 1048576] rfl z62x13 ?_; (with_reducible refine (laws_szServ.calls a0_0 a0_1 _ _ l0_2 _ _ l0_3 1048576 t638 _ ?side1 ?side2 ?side3 ?side4 A2.out).mono ?_); (case side1 => repeat (first | exact (Kd.C_below HR0_2.out HB.out) | (with_reducible refine Kd.C_alloc ?_ _) | (with_reducible refine Kd.C_drewN ?_ _) | (with_reducible refine Kd.C_drew ?_))); (case side2 => exact HC0_2.out); (case side3 => repeat (first | exact (Kd.C_below HR0_3.out HB.out) | (with_reducible refine Kd.C_alloc ?_ _) | (with_reducible refine Kd.C_drewN ?_ _) | (with_reducible refine Kd.C_drew ?_))); (case side4 => exact HC0_3.out); rintro e w54 ⟨rfl, hb⟩; refine ⟨_, rfl, ?_⟩; have n0_ := Aside0.mk (blk_below (g := gb637) (o := .cells #[.int .i64 a0_0, .int .i64 a0_1, .slice A0_2 l0_2.length c0_2, .slice A0_3 l0_3.length c0_3] 65 (0, 0)) z62x15 hb); have n1_ := Aside0.mk (below_step z62x11 hb); clear BK637; clear HB; have BK637 := n0_; have HB := n1_; clear n0_ n1_; (try clear hb); (try clear hb2); (try clear hk); (try clear hi); have hcz55_0 : w54.cell? ⟨gb637, 0, none⟩ = some (.int .i64 a0_0) := (blk_cell BK637.out 0).trans rfl; have hcz55_1 : w54.cell? ⟨gb637, 1, none⟩ = some (.int .i64 a0_1) := (blk_cell BK637.out 1).trans rfl; have hcz55_2 : w54.cell? ⟨gb637, 2, none⟩ = some (.slice A0_2 l0_2.length c0_2) := (blk_cell BK637.out 2).trans rfl; have hcz55_3 : w54.cell? ⟨gb637, 3, none⟩ = some (.slice A0_3 l0_3.length c0_3) := (blk_cell BK637.out 3).trans rfl; have hfz55_0 := blk_frozen BK637.out 0; have hfz55_1 := blk_frozen BK637.out 1; have hfz55_2 := blk_frozen BK637.out 2; have hfz55_3 := blk_frozen BK637.out 3) | ((with_reducible refine gate_callee (f := 42) rfl ?_); refine goesL_ (some 13) rfl rfl Try.func42 (by kernel_rfl) rfl #[.agg #[.int .i64 a0_0, .int .i64 a0_1, .slice A0_2 l0_2.length c0_2, .slice A0_3 l0_3.length c0_3]] rfl z62x13 ?_; (with_reducible refine (laws_toServ.calls k a0_0 a0_1 _ _ l0_2 _ _ l0_3 t639 t640 t641 t644 _ ?side1 ?side2 ?side3 ?side4 A7.out).mono ?_); (case side1 => repeat (first | exact (Kd.C_below HR0_2.out HB.out) | (with_reducible refine Kd.C_alloc ?_ _) | (with_reducible refine Kd.C_drewN ?_ _) | (with_reducible refine Kd.C_drew ?_))); (case side2 => exact HC0_2.out); (case side3 => repeat (first | exact (Kd.C_below HR0_3.out HB.out) | (with_reducible refine Kd.C_alloc ?_ _) | (with_reducible refine Kd.C_drewN ?_ _) | (with_reducible refine Kd.C_drew ?_))); (case side4 => exact HC0_3.out); rintro e w56 ⟨v642, v645, rfl, ho0, ho1, hb⟩; refine ⟨_, rfl, ?_⟩; have n0_ := Aside0.mk (Kd.R_lower ho0 (below_size z62x11)); have n1_ := Aside0.mk (Kd.R_lower ho1 (below_size z62x11)); have n2_ := Aside0.mk (blk_below (g := gb637) (o := .cells #[.int .i64 a0_0, .int .i64 a0_1, .slice A0_2 l0_2.length c0_2, .slice A0_3 l0_3.length c0_3] 65 (0, 0)) z62x15 hb); have n3_ := Aside0.mk (below_step z62x11 hb); clear BK637; clear HB; have HO643 := n0_; have HO646 := n1_; have BK637 := n2_; have HB := n3_; clear n0_ n1_ n2_ n3_; (try clear hb); (try clear hb2); (try clear hk); (try clear hi); (try clear ho0); (try clear ho1); obtain ⟨Ao57, co57, eo57⟩ := Kd.R_slice HO643.out; subst eo57; obtain ⟨Ao58, co58, eo58⟩ := Kd.R_slice HO646.out; subst eo58) | ((with_reducible refine gate_callee (f := 41) rfl ?_); refine goesL_ (some 14) rfl rfl Try.func41 (by kernel_rfl) rfl #[.agg #[.int .i64 t639, .int .i64 t640, .slice Ao57 t641.length co57, .slice Ao58 t644.length co58]] rfl z62x13 ?_; (with_reducible refine (spec_ServOk.calls k t639 t640 _ _ t641 _ _ t644 t647 _ ?side1 ?side2 ?side3 ?side4 A8.out).mono ?_); (case side1 => repeat (first | exact (Kd.R_reads' HO643.out).2.2 | (with_reducible refine Kd.C_alloc ?_ _) | (with_reducible refine Kd.C_drewN ?_ _) | (with_reducible refine Kd.C_drew ?_))); (case side2 => exact (Kd.R_reads' HO643.out).2.1); (case side3 => repeat (first | exact (Kd.R_reads' HO646.out).2.2 | (with_reducible refine Kd.C_alloc ?_ _) | (with_reducible refine Kd.C_drewN ?_ _) | (with_reducible refine Kd.C_drew ?_))); (case side4 => exact (Kd.R_reads' HO646.out).2.1); rintro e w59 ⟨rfl, hb⟩; refine ⟨_, rfl, ?_⟩; have n0_ := Aside0.mk (Kd.R_below z62x17 hb); have n1_ := Aside0.mk (Kd.R_below z62x18 hb); have n2_ := Aside0.mk (blk_below (g := gb637) (o := .cells #[.int .i64 a0_0, .int .i64 a0_1, .slice A0_2 l0_2.length c0_2, .slice A0_3 l0_3.length c0_3] 65 (0, 0)) z62x15 hb); have n3_ := Aside0.mk (below_step z62x11 hb); clear HO643; clear HO646; clear BK637; clear HB; have HO643 := n0_; have HO646 := n1_; have BK637 := n2_; have HB := n3_; clear n0_ n1_ n2_ n3_; (try clear hb); (try clear hb2); (try clear hk); (try clear hi); have hcz60_0 : w59.cell? ⟨gb637, 0, none⟩ = some (.int .i64 a0_0) := (blk_cell BK637.out 0).trans rfl; have hcz60_1 : w59.cell? ⟨gb637, 1, none⟩ = some (.int .i64 a0_1) := (blk_cell BK637.out 1).trans rfl; have hcz60_2 : w59.cell? ⟨gb637, 2, none⟩ = some (.slice A0_2 l0_2.length c0_2) := (blk_cell BK637.out 2).trans rfl; have hcz60_3 : w59.cell? ⟨gb637, 3, none⟩ = some (.slice A0_3 l0_3.length c0_3) := (blk_cell BK637.out 3).trans rfl; have hfz60_0 := blk_frozen BK637.out 0; have hfz60_1 := blk_frozen BK637.out 1; have hfz60_2 := blk_frozen BK637.out 2; have hfz60_3 := blk_frozen BK637.out 3) | ((with_reducible refine gate_callee (f := 42) rfl ?_); refine goesL_ (some 16) rfl rfl Try.func42 (by kernel_rfl) rfl #[.agg #[.int .i64 a0_0, .int .i64 a0_1, .slice A0_2 l0_2.length c0_2, .slice A0_3 l0_3.length c0_3]] rfl z62x13 ?_; (with_reducible refine (laws_toServ.calls k a0_0 a0_1 _ _ l0_2 _ _ l0_3 t648 t649 t650 t653 _ ?side1 ?side2 ?side3 ?side4 A9.out).mono ?_); (case side1 => repeat (first | exact (Kd.C_below HR0_2.out HB.out) | (with_reducible refine Kd.C_alloc ?_ _) | (with_reducible refine Kd.C_drewN ?_ _) | (with_reducible refine Kd.C_drew ?_))); (case side2 => exact HC0_2.out); (case side3 => repeat (first | exact (Kd.C_below HR0_3.out HB.out) | (with_reducible refine Kd.C_alloc ?_ _) | (with_reducible refine Kd.C_drewN ?_ _) | (with_reducible refine Kd.C_drew ?_))); (case side4 => exact HC0_3.out); rintro e w61 ⟨v651, v654, rfl, ho0, ho1, hb⟩; refine ⟨_, rfl, ?_⟩; have n0_ := Aside0.mk (Kd.R_elder' z62x17 (Kd.R_base ho0) hb); have n1_ := Aside0.mk (Kd.R_elder' z62x18 (Kd.R_base ho1) hb); have n2_ := Aside0.mk (Kd.R_lower (Kd.R_new' ho0 (Kd.R_lt z62x17)) (below_size z62x11)); have n3_ := Aside0.mk (Kd.R_lower (Kd.R_new' ho1 (Kd.R_lt z62x18)) (below_size z62x11)); have n4_ := Aside0.mk (blk_below (g := gb637) (o := .cells #[.int .i64 a0_0, .int .i64 a0_1, .slice A0_2 l0_2.length c0_2, .slice A0_3 l0_3.length c0_3] 65 (0, 0)) z62x15 hb); have n5_ := Aside0.mk (below_step z62x11 hb); clear HO643; clear HO646; clear BK637; clear HB; have HO643 := n0_; have HO646 := n1_; have HO652 := n2_; have HO655 := n3_; have BK637 := n4_; have HB := n5_; clear n0_ n1_ n2_ n3_ n4_ n5_; (try clear hb); (try clear hb2); (try clear hk); (try clear hi); (try clear ho0); (try clear ho1)) | ((with_reducible refine gate_dst (N := 5) rfl ?_); refine box_event ?hg (N := 5) ?hd (cs := #[.int .i64 0, .int .i64 0, .slice none 0 0, .slice none 0 0]) (t := 35) ?hr ?_; (case hd => rfl); (case hg => rfl); (case hr => first | (go_simp; done) | (go_simp; rfl)); intro gb656 hg w62 hbox hb; have n0_ := Aside0.mk (Kd.R_below z62x17 hb); have n1_ := Aside0.mk (Kd.R_below z62x18 hb); have n2_ := Aside0.mk (Kd.R_below z62x19 hb); have n3_ := Aside0.mk (Kd.R_below z62x20 hb); have n4_ := Aside0.mk (blk_below (g := gb637) (o := .cells #[.int .i64 a0_0, .int .i64 a0_1, .slice A0_2 l0_2.length c0_2, .slice A0_3 l0_3.length c0_3] 65 (0, 0)) z62x15 hb); have n5_ := Aside0.mk (below_step z62x11 hb); have n6_ := Aside0.mk (hbox); have n7_ := Aside0.mk ((z62x10 : w.heap.size ≤ gb656)); have n8_ := Aside0.mk ((z62x10 : w.heap.size ≤ gb656)); have n9_ := Aside0.mk ((z62x8 : gb637 ≠ gb656)); have n10_ := Aside0.mk ((z62x7 : gb656 ≠ gb637)); clear HO643; clear HO646; clear HO652; clear HO655; clear BK637; clear HB; have HO643 := n0_; have HO646 := n1_; have HO652 := n2_; have HO655 := n3_; have BK637 := n4_; have HB := n5_; have BK656 := n6_; have GW656 := n7_; have GE656 := n8_; have NB637_656 := n9_; have NB656_637 := n10_; clear n0_ n1_ n2_ n3_ n4_ n5_ n6_ n7_ n8_ n9_ n10_; clear hb hbox hg; have hnb63 := NB656_637.out; have hnc63 := NB637_656.out; have hcz64_0 : w62.cell? ⟨gb656, 0, none⟩ = some (.int .i64 0) := (blk_cell BK656.out 0).trans rfl; have hcz64_1 : w62.cell? ⟨gb656, 1, none⟩ = some (.int .i64 0) := (blk_cell BK656.out 1).trans rfl; have hcz64_2 : w62.cell? ⟨gb656, 2, none⟩ = some (.slice none 0 0) := (blk_cell BK656.out 2).trans rfl; have hcz64_3 : w62.cell? ⟨gb656, 3, none⟩ = some (.slice none 0 0) := (blk_cell BK656.out 3).trans rfl; have hfz64_0 := blk_frozen BK656.out 0; have hfz64_1 := blk_frozen BK656.out 1; have hfz64_2 := blk_frozen BK656.out 2; have hfz64_3 := blk_frozen BK656.out 3; obtain ⟨Ao65, co65, eo65⟩ := Kd.R_slice HO652.out; subst eo65; obtain ⟨Ao66, co66, eo66⟩ := Kd.R_slice HO655.out; subst eo66) | ((with_reducible refine gate_callee (f := 43) rfl ?_); refine goesL_ (some 18) rfl rfl Try.func43 (by kernel_rfl) rfl #[.agg #[.int .i64 t648, .int .i64 t649, .slice Ao65 t650.length co65, .slice Ao66 t653.length co66]] rfl z62x13 ?_; (with_reducible refine (impl_ServOk.calls k t648 t649 _ _ t650 _ _ t653 t657 _ ?side1 ?side2 ?side3 ?side4 A10.out).mono ?_); (case side1 => refine (Kd.R_reads' (e := 57) (base := w.heap.size) (ok := fun k_ => (True ∧ some k_ ≠ (.slice Ao57 t641.length co57 : Value).ownBlock)) (n := t650.length) (c := co65) ?_).2.2; exact z62x3); (case side2 => exact (Kd.R_reads' HO652.out).2.1); (case side3 => refine (Kd.R_reads' (e := 125) (base := w.heap.size) (ok := fun k_ => (True ∧ some k_ ≠ (.slice Ao58 t644.length co58 : Value).ownBlock)) (n := t653.length) (c := co66) ?_).2.2; exact z62x6); (case side4 => exact (Kd.R_reads' HO655.out).2.1); rintro e w67 ⟨rfl, hb⟩; refine ⟨_, rfl, ?_⟩; have n0_ := Aside0.mk (Kd.R_below (by (with_reducible repeat (first | apply Kd.R_alloc | apply Kd.R_drewN | apply Kd.R_drew)); exact (Kd.R_mono (Kd.R_far (p := ⟨gb656, 3, none⟩) (Kd.R_far (p := ⟨gb656, 2, none⟩) (Kd.R_far (p := ⟨gb656, 1, none⟩) (Kd.R_far (p := ⟨gb656, 0, none⟩) (Kd.R_types HO643.out BK656.out (by decide)) (fun _ hk => hk.2) (.int .i64 t648)) (fun _ hk => hk.2) (.int .i64 t649)) (fun _ hk => hk.2) (.slice Ao65 t650.length co65)) (fun _ hk => hk.2) (.slice Ao66 t653.length co66)) (fun _ h_ => h_.1))) hb); have n1_ := Aside0.mk (Kd.R_below (by (with_reducible repeat (first | apply Kd.R_alloc | apply Kd.R_drewN | apply Kd.R_drew)); exact (Kd.R_mono (Kd.R_far (p := ⟨gb656, 3, none⟩) (Kd.R_far (p := ⟨gb656, 2, none⟩) (Kd.R_far (p := ⟨gb656, 1, none⟩) (Kd.R_far (p := ⟨gb656, 0, none⟩) (Kd.R_types HO646.out BK656.out (by decide)) (fun _ hk => hk.2) (.int .i64 t648)) (fun _ hk => hk.2) (.int .i64 t649)) (fun _ hk => hk.2) (.slice Ao65 t650.length co65)) (fun _ hk => hk.2) (.slice Ao66 t653.length co66)) (fun _ h_ => h_.1))) hb); have n2_ := Aside0.mk (Kd.R_below z62x3 hb); have n3_ := Aside0.mk (Kd.R_below z62x6 hb); have n4_ := Aside0.mk (blk_below (g := gb637) (o := .cells #[.int .i64 a0_0, .int .i64 a0_1, .slice A0_2 l0_2.length c0_2, .slice A0_3 l0_3.length c0_3] 65 (0, 0)) z62x0 hb); have n5_ := Aside0.mk (blk_below (g := gb656) (o := .cells #[.int .i64 t648, .int .i64 t649, .slice Ao65 t650.length co65, .slice Ao66 t653.length co66] 35 (0, 0)) (by (with_reducible repeat (first | refine blk_drewN ?_ _ | refine blk_drew ?_ | refine blk_alloc ?_ _)); refine blk_put (cs := #[.int .i64 t648, .int .i64 t649, .slice Ao65 t650.length co65, .slice none 0 0]) ?_ 3 _ rfl; (with_reducible repeat (first | refine blk_drewN ?_ _ | refine blk_drew ?_ | refine blk_alloc ?_ _)); refine blk_put (cs := #[.int .i64 t648, .int .i64 t649, .slice none 0 0, .slice none 0 0]) ?_ 2 _ rfl; (with_reducible repeat (first | refine blk_drewN ?_ _ | refine blk_drew ?_ | refine blk_alloc ?_ _)); refine blk_put (cs := #[.int .i64 t648, .int .i64 0, .slice none 0 0, .slice none 0 0]) ?_ 1 _ rfl; (with_reducible repeat (first | refine blk_drewN ?_ _ | refine blk_drew ?_ | refine blk_alloc ?_ _)); refine blk_put (cs := #[.int .i64 0, .int .i64 0, .slice none 0 0, .slice none 0 0]) ?_ 0 _ rfl; (with_reducible repeat (first | refine blk_drewN ?_ _ | refine blk_drew ?_ | refine blk_alloc ?_ _)); exact BK656.out) hb); have n6_ := Aside0.mk (below_step z62x9 hb); clear HO643; clear HO646; clear HO652; clear HO655; clear BK637; clear BK656; clear HB; have HO643 := n0_; have HO646 := n1_; have HO652 := n2_; have HO655 := n3_; have BK637 := n4_; have BK656 := n5_; have HB := n6_; clear n0_ n1_ n2_ n3_ n4_ n5_ n6_; (try clear hb); (try clear hb2); (try clear hk); (try clear hi)))
    have n0_ := Aside0.mk (Kd.R_drew HO643.out)
    have n1_ := Aside0.mk (Kd.R_drew HO646.out)
    have n2_ := Aside0.mk (Kd.R_drew HO652.out)
    have n3_ := Aside0.mk (Kd.R_drew HO655.out)
    have n4_ := Aside0.mk (blk_drew BK637.out)
    have n5_ := Aside0.mk (blk_drew BK656.out)
    have n6_ := Aside0.mk (below_drew1 HB.out)
    clear HO643
    clear HO646
    clear HO652
    clear HO655
    clear BK637
    clear BK656
    clear HB
    have HO643 := n0_
    have HO646 := n1_
    have HO652 := n2_
    have HO655 := n3_
    have BK637 := n4_
    have BK656 := n5_
    have HB := n6_
    clear n0_ n1_ n2_ n3_ n4_ n5_ n6_
    refine start_ (n := 5) (S := fun w' => w'.cell? ⟨gb656, 0, none⟩ = some (.int .i64 t648) ∧ w'.cell? ⟨gb656, 1, none⟩ = some (.int .i64 t649) ∧ w'.cell? ⟨gb656, 2, none⟩ = some (.slice Ao65 t650.length co65) ∧ w'.cell? ⟨gb656, 3, none⟩ = some (.slice Ao66 t653.length co66) ∧ w'.cell? ⟨gb637, 0, none⟩ = some (.int .i64 a0_0) ∧ w'.cell? ⟨gb637, 1, none⟩ = some (.int .i64 a0_1) ∧ w'.cell? ⟨gb637, 2, none⟩ = some (.slice A0_2 l0_2.length c0_2) ∧ w'.cell? ⟨gb637, 3, none⟩ = some (.slice A0_3 l0_3.length c0_3)) (ds := []) #[false, false, false, false, false] (by kernel_rfl) rfl rfl ⟨(blk_cell BK656.out 0).trans rfl, (blk_cell BK656.out 1).trans rfl, (blk_cell BK656.out 2).trans rfl, (blk_cell BK656.out 3).trans rfl, (blk_cell BK637.out 0).trans rfl, (blk_cell BK637.out 1).trans rfl, (blk_cell BK637.out 2).trans rfl, (blk_cell BK637.out 3).trans rfl⟩ (fun hHeld => ?_)
    generalize w67.drew = w68 at HO643 HO646 HO652 HO655 BK637 BK656 HB hHeld ⊢
    refine take_ (i := 0) (N := some 22) (v := ?_) (a' := ?_) #[true, false, false, false, false] rfl rfl (by kernel_rfl) (fun _ _ _ h => h) (Or.inl ⟨by rfl, ?_⟩) hHeld ?_ ?_
    rotate_left
    ·rintro w' ⟨s0, s1, s2, s3, s4, s5, s6, s7⟩
     go_simp
     with_reducible rfl
    rotate_left
    ·simp only [Act.put, List.setIfInBounds_toArray, List.set_cons_zero, List.set_cons_succ, i64_w, i32_w]
     rfl
    refine take_ (i := 1) (N := some 23) (v := ?_) (a' := ?_) #[true, true, false, false, false] rfl rfl (by kernel_rfl) (fun _ _ _ h => h) (Or.inl ⟨by rfl, ?_⟩) hHeld ?_ ?_
    rotate_left
    ·rintro w' ⟨s0, s1, s2, s3, s4, s5, s6, s7⟩
     go_simp
     with_reducible rfl
    rotate_left
    ·simp only [Act.put, List.setIfInBounds_toArray, List.set_cons_zero, List.set_cons_succ, i64_w, i32_w]
     rfl
    refine one_ (i := 2) (N := some 24) #[true, true, true, false, false] rfl rfl (by kernel_rfl) (by decide) (fun K hK => ?_)
    refine goes_ Try.func42 (by kernel_rfl) rfl #[.agg #[.int .i64 a0_0, .int .i64 a0_1, .slice A0_2 l0_2.length c0_2, .slice A0_3 l0_3.length c0_3]] (by rfl) rfl rfl z62x13 ?_
    with_reducible refine (laws_toServ.calls k a0_0 a0_1 _ _ l0_2 _ _ l0_3 t658 t659 t660 t663 _ ?side1 ?side2 ?side3 ?side4 A28.out).mono ?_
    (case side1 => repeat (first | exact (Kd.C_below HR0_2.out HB.out) | (with_reducible refine Kd.C_alloc ?_ _) | (with_reducible refine Kd.C_drewN ?_ _) | (with_reducible refine Kd.C_drew ?_)))
    (case side2 => exact HC0_2.out)
    (case side3 => repeat (first | exact (Kd.C_below HR0_3.out HB.out) | (with_reducible refine Kd.C_alloc ?_ _) | (with_reducible refine Kd.C_drewN ?_ _) | (with_reducible refine Kd.C_drew ?_)))
    (case side4 => exact HC0_3.out)
    rintro e w69 ⟨v661, v664, rfl, ho0, ho1, hb⟩
    refine ⟨_, rfl, ?_⟩
    have n0_ := Aside0.mk (Kd.R_elder' z62x17 (Kd.R_base ho0) hb)
    have n1_ := Aside0.mk (Kd.R_elder' z62x18 (Kd.R_base ho1) hb)
    have n2_ := Aside0.mk (Kd.R_elder' z62x19 (Kd.R_base ho0) hb)
    have n3_ := Aside0.mk (Kd.R_elder' z62x20 (Kd.R_base ho1) hb)
    have n4_ := Aside0.mk (Kd.R_lower (Kd.R_new' (Kd.R_new' ho0 (Kd.R_lt z62x17)) (Kd.R_lt z62x19)) (below_size z62x9))
    have n5_ := Aside0.mk (Kd.R_lower (Kd.R_new' (Kd.R_new' ho1 (Kd.R_lt z62x18)) (Kd.R_lt z62x20)) (below_size z62x9))
    have n6_ := Aside0.mk (blk_below (g := gb637) (o := .cells #[.int .i64 a0_0, .int .i64 a0_1, .slice A0_2 l0_2.length c0_2, .slice A0_3 l0_3.length c0_3] 65 (0, 0)) z62x15 hb)
    have n7_ := Aside0.mk (blk_below (g := gb656) (o := .cells #[.int .i64 t648, .int .i64 t649, .slice Ao65 t650.length co65, .slice Ao66 t653.length co66] 35 (0, 0)) z62x16 hb)
    have n8_ := Aside0.mk (below_step z62x9 hb)
    clear HO643
    clear HO646
    clear HO652
    clear HO655
    clear BK637
    clear BK656
    clear HB
    have HO643 := n0_
    have HO646 := n1_
    have HO652 := n2_
    have HO655 := n3_
    have HO662 := n4_
    have HO665 := n5_
    have BK637 := n6_
    have BK656 := n7_
    have HB := n8_
    clear n0_ n1_ n2_ n3_ n4_ n5_ n6_ n7_ n8_
    (try clear hb)
    (try clear hb2)
    (try clear hk)
    (try clear hi)
    (try clear ho0)
    (try clear ho1)
    obtain ⟨Ao70, co70, eo70⟩ := Kd.R_slice HO662.out
    (first | subst eo70 | (injection eo70 with f1_ f2_ f3_; have f4_ := f1_.symm; have f5_ := f3_.symm; clear f1_ f2_ f3_; subst f4_; subst f5_))
    obtain ⟨Ao71, co71, eo71⟩ := Kd.R_slice HO665.out
    (first | subst eo71 | (injection eo71 with f1_ f2_ f3_; have f4_ := f1_.symm; have f5_ := f3_.symm; clear f1_ f2_ f3_; subst f4_; subst f5_))
    refine hK.out _ _ ⟨(blk_cell BK656.out 0).trans rfl, (blk_cell BK656.out 1).trans rfl, (blk_cell BK656.out 2).trans rfl, (blk_cell BK656.out 3).trans rfl, (blk_cell BK637.out 0).trans rfl, (blk_cell BK637.out 1).trans rfl, (blk_cell BK637.out 2).trans rfl, (blk_cell BK637.out 3).trans rfl⟩ (fun hHeld => ?_)
    clear hK K
    refine norm_ (a' := ?_) ?_ ?_
    rotate_left
    ·show Act.put _ (some 24) _ = _
     simp only [Act.put, List.setIfInBounds_toArray, List.set_cons_zero, List.set_cons_succ, i64_w, i32_w]
     rfl
    refine one_ (i := 3) (N := some 25) #[true, true, true, true, false] rfl rfl (by kernel_rfl) (by decide) (fun K hK => ?_)
    refine goes_ Try.func26 (by kernel_rfl) rfl #[.agg #[.int .i64 t648, .int .i64 t649, .slice Ao65 t650.length co65, .slice Ao66 t653.length co66], .agg #[.int .i64 t658, .int .i64 t659, .slice Ao70 t660.length co70, .slice Ao71 t663.length co71]] (by rfl) rfl rfl z62x13 ?_
    with_reducible refine (laws_eqServ.calls k t648 t649 _ _ t650 _ _ t653 t658 t659 _ _ t660 _ _ t663 false _ ?side1 ?side2 ?side3 ?side4 ?side5 ?side6 ?side7 ?side8 A29.out).mono ?_
    (case side1 => repeat (first | exact (Kd.R_reads' HO652.out).2.2 | (with_reducible refine Kd.C_alloc ?_ _) | (with_reducible refine Kd.C_drewN ?_ _) | (with_reducible refine Kd.C_drew ?_)))
    (case side2 => exact (Kd.R_reads' HO652.out).2.1)
    (case side3 => repeat (first | exact (Kd.R_reads' HO655.out).2.2 | (with_reducible refine Kd.C_alloc ?_ _) | (with_reducible refine Kd.C_drewN ?_ _) | (with_reducible refine Kd.C_drew ?_)))
    (case side4 => exact (Kd.R_reads' HO655.out).2.1)
    (case side5 => repeat (first | exact (Kd.R_reads' HO662.out).2.2 | (with_reducible refine Kd.C_alloc ?_ _) | (with_reducible refine Kd.C_drewN ?_ _) | (with_reducible refine Kd.C_drew ?_)))
    (case side6 => exact (Kd.R_reads' HO662.out).2.1)
    (case side7 => repeat (first | exact (Kd.R_reads' HO665.out).2.2 | (with_reducible refine Kd.C_alloc ?_ _) | (with_reducible refine Kd.C_drewN ?_ _) | (with_reducible refine Kd.C_drew ?_)))
    (case side8 => exact (Kd.R_reads' HO665.out).2.1)
    rintro e w72 ⟨rfl, hb⟩
    refine ⟨_, rfl, ?_⟩
    have n0_ := Aside0.mk (Kd.R_below z62x17 hb)
    have n1_ := Aside0.mk (Kd.R_below z62x18 hb)
    have n2_ := Aside0.mk (Kd.R_below z62x19 hb)
    have n3_ := Aside0.mk (Kd.R_below z62x20 hb)
    have n4_ := Aside0.mk (Kd.R_below (by (with_reducible repeat (first | apply Kd.R_alloc | apply Kd.R_drewN | apply Kd.R_drew)); exact HO662.out) hb)
    have n5_ := Aside0.mk (Kd.R_below (by (with_reducible repeat (first | apply Kd.R_alloc | apply Kd.R_drewN | apply Kd.R_drew)); exact HO665.out) hb)
    have n6_ := Aside0.mk (blk_below (g := gb637) (o := .cells #[.int .i64 a0_0, .int .i64 a0_1, .slice A0_2 l0_2.length c0_2, .slice A0_3 l0_3.length c0_3] 65 (0, 0)) z62x15 hb)
    have n7_ := Aside0.mk (blk_below (g := gb656) (o := .cells #[.int .i64 t648, .int .i64 t649, .slice Ao65 t650.length co65, .slice Ao66 t653.length co66] 35 (0, 0)) z62x16 hb)
    have n8_ := Aside0.mk (below_step z62x9 hb)
    clear HO643
    clear HO646
    clear HO652
    clear HO655
    clear HO662
    clear HO665
    clear BK637
    clear BK656
    clear HB
    have HO643 := n0_
    have HO646 := n1_
    have HO652 := n2_
    have HO655 := n3_
    have HO662 := n4_
    have HO665 := n5_
    have BK637 := n6_
    have BK656 := n7_
    have HB := n8_
    clear n0_ n1_ n2_ n3_ n4_ n5_ n6_ n7_ n8_
    (try clear hb)
    (try clear hb2)
    (try clear hk)
    (try clear hi)
    refine hK.out _ _ ⟨(blk_cell BK656.out 0).trans rfl, (blk_cell BK656.out 1).trans rfl, (blk_cell BK656.out 2).trans rfl, (blk_cell BK656.out 3).trans rfl, (blk_cell BK637.out 0).trans rfl, (blk_cell BK637.out 1).trans rfl, (blk_cell BK637.out 2).trans rfl, (blk_cell BK637.out 3).trans rfl⟩ (fun hHeld => ?_)
    clear hK K
    refine norm_ (a' := ?_) ?_ ?_
    rotate_left
    ·show Act.put _ (some 25) _ = _
     simp only [Act.put, List.setIfInBounds_toArray, List.set_cons_zero, List.set_cons_succ, i64_w, i32_w]
     rfl
    refine pure_ (i := 4) (N := some 26) (v := ?_) (a' := ?_) #[true, true, true, true, true] rfl rfl (by kernel_rfl) (fun _ _ _ h => h) (Or.inl ⟨by rfl, ?_⟩) ?_ ?_
    rotate_left
    ·intro w'
     go_simp
     with_reducible rfl
    rotate_left
    ·simp only [Act.put, List.setIfInBounds_toArray, List.set_cons_zero, List.set_cons_succ, i64_w, i32_w]
     rfl
    refine done_ (by kernel_rfl) ?_
    try go_wp2
    go_ret
    exact ⟨by first | rfl | (simp [errW_none, errW_some] <;> rfl) | (simp [*, errW_none, errW_some] <;> rfl), by repeat (first | (with_reducible first | exact HB.out | apply below_alloc | apply pw_below_drewN | apply below_drew1 | refine below_set ?_ GE637.out | refine below_set ?_ GE656.out) | exact HB.out)⟩

end Go.Proofs.Ytpdeincniaiajaa.Hp
