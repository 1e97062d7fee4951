-- Printed by wip/tools/hp.py of this session (the kit's print.py, with contracts typed by hand beside).
import Derived.Test.YthjllmmocanhgaaHx0
import Derived.Test.YthjllmmocanhgaaHx4
import Derived.Test.YthjllmmocanhgaaHx6
import Derived.Test.YthjllmmocanhgaaHx16
namespace Go.Proofs.Ythjllmmocanhgaa.Hp
open Go.RowKit Go.Proofs.YthjllmmocanhgaaW.PrintWords Go.Proofs.YthjllmmocanhgaaW.PrintLast Go.Proofs.YthjllmmocanhgaaW.PrintMore
attribute [local go_sem] max2_int min2_int max_two min_two max_three min_three max_four min_four   -- for this text's walks alone
set_option linter.unusedVariables false
set_option linter.unusedSimpArgs false

/-! ### laws_FnSealKey: function 7 -/
mutual
def laws_FnSealKey.j0 : Nat → List Int → List Int → Bool → Option (Bool)
  | 0, _, _, _ => none
  | k + 1, x0, x1, x16 => if x16 = true then (some true) else ((spec_DrawSealOk.f k x0).bind fun bt337 => ((impl_SealOk.f bt337.1 bt337.2.1 bt337.2.2.1 bt337.2.2.2.1 bt337.2.2.2.2.1 bt337.2.2.2.2.2.1 bt337.2.2.2.2.2.2).bind fun t345 => ((spec_SealOk.f bt337.1 bt337.2.1 bt337.2.2.1 bt337.2.2.2.1 bt337.2.2.2.2.1 bt337.2.2.2.2.2.1 bt337.2.2.2.2.2.2).bind fun t346 => (if (t345 != t346) = true then (laws_FnSealKey.j1 k x1 t345 true bt337.1 bt337.2.1 bt337.2.2.1 bt337.2.2.2.1 bt337.2.2.2.2.1 bt337.2.2.2.2.2.1 bt337.2.2.2.2.2.2) else (laws_FnSealKey.j1 k x1 t345 (!t345) bt337.1 bt337.2.1 bt337.2.2.1 bt337.2.2.2.1 bt337.2.2.2.2.1 bt337.2.2.2.2.2.1 bt337.2.2.2.2.2.2)))))
def laws_FnSealKey.j1 : Nat → List Int → Bool → Bool → Int → Int → Int → Int → Int → Int → Int → Option (Bool)
  | 0, _, _, _, _, _, _, _, _, _, _ => none
  | k + 1, x1, x6, x28, x345000, x345001, x345002, x345003, x345004, x345005, x345006 => if x28 = true then ((spec_SealOk.f x345000 x345001 x345002 x345003 x345004 x345005 x345006).bind fun t347 => (some (x6 == t347))) else (if x345001 = 1 then ((impl_SealOk.f (1 + ((x1.length : Int) % 60)) x345001 x345002 x345003 x345004 x345005 x345006).bind fun t349 => (some (t349 == ((1 + ((x1.length : Int) % 60)) == x345000)))) else (if x345001 = 2 then ((impl_SealOk.f (1 + ((x1.length : Int) % 60)) x345001 x345002 x345003 x345004 x345005 x345006).bind fun t350 => (if (1 + ((x1.length : Int) % 60)) ≥ 10 then (some (t350 == true)) else (some (t350 == (decide ((1 + ((x1.length : Int) % 60)) ≤ 3)))))) else ((impl_SealOk.f (1 + ((x1.length : Int) % 60)) x345001 x345002 x345003 x345004 x345005 x345006).bind fun t351 => (some (t351 == (decide ((1 + ((x1.length : Int) % 60)) ≥ 10)))))))
end
def laws_FnSealKey.f (k : Nat) (l0 : List Int) (l1 : List Int) : Option (Bool) := if (l0.length : Int) > 1048576 then (laws_FnSealKey.j0 k l0 l1 true) else (laws_FnSealKey.j0 k l0 l1 (decide ((l1.length : Int) > 1048576)))
theorem laws_FnSealKey.mono_l : ∀ k, (∀ y0 y1 y2, LeO (laws_FnSealKey.j0 k y0 y1 y2) (laws_FnSealKey.j0 (k + 1) y0 y1 y2)) ∧ (∀ y0 y1 y2 y3 y4 y5 y6 y7 y8 y9, LeO (laws_FnSealKey.j1 k y0 y1 y2 y3 y4 y5 y6 y7 y8 y9) (laws_FnSealKey.j1 (k + 1) y0 y1 y2 y3 y4 y5 y6 y7 y8 y9))
  | 0 => ⟨fun _ _ _ r h => by simp [laws_FnSealKey.j0] at h, fun _ _ _ _ _ _ _ _ _ _ r h => by simp [laws_FnSealKey.j1] at h⟩
  | k + 1 => by
    obtain ⟨ih0, ih1⟩ := laws_FnSealKey.mono_l k
    refine ⟨?_, ?_⟩
    · intro y0 y1 y2
      unfold laws_FnSealKey.j0
      repeat' first
      | (with_reducible exact ih0 _ _ _)
      | (with_reducible exact ih1 _ _ _ _ _ _ _ _ _ _)
      | (with_reducible exact spec_DrawSealOk.mono _ _)
      | (with_reducible exact LeO.refl _)
      | (with_reducible exact LeO.none _)
      | (with_reducible refine LeO.ite ?_ ?_)
      | (with_reducible refine LeO.bind ?_ (fun _ => ?_))
      | exact ih0 _ _ _
      | exact ih1 _ _ _ _ _ _ _ _ _ _
      | exact spec_DrawSealOk.mono _ _
      | exact LeO.none _
      | refine LeO.ite ?_ ?_
      | refine LeO.bind ?_ (fun _ => ?_)
    · intro y0 y1 y2 y3 y4 y5 y6 y7 y8 y9
      unfold laws_FnSealKey.j1
      repeat' first
      | (with_reducible exact ih0 _ _ _)
      | (with_reducible exact ih1 _ _ _ _ _ _ _ _ _ _)
      | (with_reducible exact spec_DrawSealOk.mono _ _)
      | (with_reducible exact LeO.refl _)
      | (with_reducible exact LeO.none _)
      | (with_reducible refine LeO.ite ?_ ?_)
      | (with_reducible refine LeO.bind ?_ (fun _ => ?_))
      | exact ih0 _ _ _
      | exact ih1 _ _ _ _ _ _ _ _ _ _
      | exact spec_DrawSealOk.mono _ _
      | exact LeO.none _
      | refine LeO.ite ?_ ?_
      | refine LeO.bind ?_ (fun _ => ?_)
theorem laws_FnSealKey.mono : ∀ a0 a1 k, LeO (laws_FnSealKey.f k a0 a1) (laws_FnSealKey.f (k + 1) a0 a1) := by
  intro a0 a1 k
  obtain ⟨ih0, ih1⟩ := laws_FnSealKey.mono_l k
  unfold laws_FnSealKey.f
  repeat' first
      | (with_reducible exact ih0 _ _ _)
      | (with_reducible exact ih1 _ _ _ _ _ _ _ _ _ _)
      | (with_reducible exact spec_DrawSealOk.mono _ _)
      | (with_reducible exact LeO.refl _)
      | (with_reducible exact LeO.none _)
      | (with_reducible refine LeO.ite ?_ ?_)
      | (with_reducible refine LeO.bind ?_ (fun _ => ?_))
      | exact ih0 _ _ _
      | exact ih1 _ _ _ _ _ _ _ _ _ _
      | exact spec_DrawSealOk.mono _ _
      | exact LeO.none _
      | refine LeO.ite ?_ ?_
      | refine LeO.bind ?_ (fun _ => ?_)
def laws_FnSealKey.T12 : Bool × List (List Nat × List Nat) := (true, [([], []), ([0], [0]), ([], []), ([2], [2]), ([], []), ([4], [4]), ([3, 5], [3, 5]), ([1, 6], [1, 6]), ([7, 1, 0, 1, 2, 3, 4, 5, 6, 7], [7])])
def laws_FnSealKey.B12 : List Nat := [0, 1, 0, 4, 0, 16, 60, 127, 255]
theorem laws_FnSealKey.tab12 : rtab .any (opsOf Try.f7 12) = laws_FnSealKey.T12 := by kernel_rfl
theorem laws_FnSealKey.bits12 : waitsOk laws_FnSealKey.T12.2 laws_FnSealKey.B12 = true := by kernel_rfl
set_option maxHeartbeats 8000000 in
set_option maxRecDepth 100000 in
theorem laws_FnSealKey.calls (k : Nat) (A0 : Option Addr) (c0 : Nat) (l0 : List Int) (A1 : Option Addr) (c1 : Nat) (l1 : List Int) (r : Bool) (w : World) (hr0 : Kd.C (Kd.int .u8) w A0 l0.length l0) (hc0 : l0.length ≤ c0) (hr1 : Kd.C (Kd.int .u8) w A1 l1.length l1) (hc1 : l1.length ≤ c1) (h : laws_FnSealKey.f k l0 l1 = some r) :
    Calls Try.prog 7 #[.slice A0 l0.length c0, .slice A1 l1.length c1] w fun e w' => e = .returned (.bool r) ∧ Below w.heap.size w w' := by
  have hu26 := Try.underlying26
  have HR0 := Aside0.mk hr0
  have HC0 := Aside0.mk hc0
  clear hr0 hc0
  have HR1 := Aside0.mk hr1
  have HC1 := Aside0.mk hc1
  clear hr1 hc1
  have HB := Aside0.mk (Below.refl w.heap.size w)
  have H : (if (l0.length : Int) > 1048576 then (laws_FnSealKey.j0 k l0 l1 true) else (laws_FnSealKey.j0 k l0 l1 (decide ((l1.length : Int) > 1048576)))) = some r := h
  clear h
  have HC3 := Aside0.mk H
  clear H
  go_enter Try.func7, Try.ntmps7
  go_upto_region 1 with (fail)
  go_cut [16] (fun v16 wc => ∃ (kq : Nat) (x16_2 : Bool), v16 = .bool x16_2 ∧ Aside0 (laws_FnSealKey.j0 kq l0 l1 x16_2 = some r) ∧ Aside0 (kq ≤ k) ∧ Aside0 (Below w.heap.size w wc))
  case first =>
    have H := HC3.out
    clear HC3
    by_cases c4 : (l0.length : Int) > 1048576
    · rw [if_pos c4] at H
      have c4b0 : decide (1048576 < (l0.length : Int)) = true := decide_eq_true c4
      have c4b1 : decide (1048576 < l0.length) = true := decide_eq_true (by omega)
      clear c4
      (first | rw [c4b0] | (simp only [i64_w, i32_w]; rw [c4b0]) | skip)
      have H' := Aside0.mk H
      clear H
      go_wp2
      go_meet
      case rel => exact ⟨_, (true), (by first | rfl | (simp; done) | (simp [*]; done)), H', ⟨by first | omega | exact Nat.le_refl _⟩, ⟨by repeat (first | (with_reducible first | exact HB.out | apply below_alloc | apply pw_below_drewN | apply below_drew1) | exact HB.out)⟩⟩
    · rw [if_neg c4] at H
      have c4b0 : decide (1048576 < (l0.length : Int)) = false := decide_eq_false c4
      have c4b1 : decide (1048576 < l0.length) = false := decide_eq_false (by omega)
      clear c4
      (first | rw [c4b0] | (simp only [i64_w, i32_w]; rw [c4b0]) | skip)
      have H' := Aside0.mk H
      clear H
      go_wp2
      go_meet
      case rel => exact ⟨_, (decide ((l1.length : Int) > 1048576)), (by first | rfl | (simp; done) | (simp [*]; done)), H', ⟨by first | omega | exact Nat.le_refl _⟩, ⟨by repeat (first | (with_reducible first | exact HB.out | apply below_alloc | apply pw_below_drewN | apply below_drew1) | exact HB.out)⟩⟩
  case rest =>
    clear HC3
    try clear c1
    try clear p2
    try clear c4
    try clear c4b0
    try clear c4b1
    obtain ⟨kq, x16_2, rfl, HA, HJ2, HB⟩ := hcut
    cases kq with
    | zero => exact absurd HA.out (by simp [laws_FnSealKey.j0])
    | succ kj2 =>
      have H := HA.out
      clear HA
      simp only [laws_FnSealKey.j0] at H
      by_cases c5 : x16_2 = true
      · subst c5
        have H1 : (some true) = some r := by rw [if_pos rfl] at H; exact H
        clear H
        have H := H1
        clear H1
        obtain rfl := Option.some.inj H
        go_wp2
        go_ret
        exact ⟨by first | rfl | (simp [errW_none, errW_some] <;> rfl) | (simp [*, errW_none, errW_some] <;> rfl), by repeat (first | (with_reducible first | exact HB.out | apply below_alloc | apply pw_below_drewN | apply below_drew1) | exact HB.out)⟩
      · replace c5 := Bool.eq_false_iff.mpr c5
        subst c5
        have H1 : ((spec_DrawSealOk.f kj2 l0).bind fun bt337 => ((impl_SealOk.f bt337.1 bt337.2.1 bt337.2.2.1 bt337.2.2.2.1 bt337.2.2.2.2.1 bt337.2.2.2.2.2.1 bt337.2.2.2.2.2.2).bind fun t345 => ((spec_SealOk.f bt337.1 bt337.2.1 bt337.2.2.1 bt337.2.2.2.1 bt337.2.2.2.2.1 bt337.2.2.2.2.2.1 bt337.2.2.2.2.2.2).bind fun t346 => (if (t345 != t346) = true then (laws_FnSealKey.j1 kj2 l1 t345 true bt337.1 bt337.2.1 bt337.2.2.1 bt337.2.2.2.1 bt337.2.2.2.2.1 bt337.2.2.2.2.2.1 bt337.2.2.2.2.2.2) else (laws_FnSealKey.j1 kj2 l1 t345 (!t345) bt337.1 bt337.2.1 bt337.2.2.1 bt337.2.2.2.1 bt337.2.2.2.2.1 bt337.2.2.2.2.2.1 bt337.2.2.2.2.2.2))))) = some r := by rw [if_neg (show ¬ (false = true) by decide)] at H; exact H
        clear H
        have H := H1
        clear H1
        replace H := Option.bind_eq_some_iff.mp H
        obtain ⟨⟨t337, t338, t339, t340, t341, t342, t343⟩, A60, H⟩ := H
        replace H : ((impl_SealOk.f t337 t338 t339 t340 t341 t342 t343).bind fun t345 => ((spec_SealOk.f t337 t338 t339 t340 t341 t342 t343).bind fun t346 => (if (t345 != t346) = true then (laws_FnSealKey.j1 kj2 l1 t345 true t337 t338 t339 t340 t341 t342 t343) else (laws_FnSealKey.j1 kj2 l1 t345 (!t345) t337 t338 t339 t340 t341 t342 t343)))) = some r := H
        have A6 := Aside0.mk A60
        clear A60
        replace H := Option.bind_eq_some_iff.mp H
        obtain ⟨t345, A70, H⟩ := H
        replace H : ((spec_SealOk.f t337 t338 t339 t340 t341 t342 t343).bind fun t346 => (if (t345 != t346) = true then (laws_FnSealKey.j1 kj2 l1 t345 true t337 t338 t339 t340 t341 t342 t343) else (laws_FnSealKey.j1 kj2 l1 t345 (!t345) t337 t338 t339 t340 t341 t342 t343))) = some r := H
        have A7 := Aside0.mk A70
        clear A70
        have HC8 := Aside0.mk H
        clear H
        go_upto_region 5 with (first | ((with_reducible refine gate_callee (f := 20) rfl ?_); refine goesL_ (some 18) rfl rfl Try.func20 (by kernel_rfl) rfl #[.slice A0 l0.length c0] rfl (by (try simp only [List.map_toArray, List.map_cons, List.map_nil]); first | done | rfl | (simp only [List.length_drop, List.length_take]; rfl)) ?_; (with_reducible refine (spec_DrawSealOk.calls kj2 _ _ l0 t337 t338 t339 t340 t341 t342 t343 _ ?side1 ?side2 A6.out).mono ?_); (case side1 => repeat (first | exact (Kd.C_below HR0.out HB.out) | (with_reducible refine Kd.C_alloc ?_ _) | (with_reducible refine Kd.C_drewN ?_ _) | (with_reducible refine Kd.C_drew ?_))); (case side2 => exact HC0.out); rintro e w9 ⟨rfl, hb⟩; refine ⟨_, rfl, ?_⟩; have n0_ := Aside0.mk (below_step (by repeat (first | (with_reducible first | exact HB.out | apply below_alloc | apply pw_below_drewN | apply below_drew1) | exact HB.out)) hb); clear HB; have HB := n0_; clear n0_; (try clear hb); (try clear hb2); (try clear hk); (try clear hi)) | ((with_reducible refine gate_dst (N := 5) rfl ?_); refine box_event ?hg (N := 5) ?hd (cs := #[.int .i64 0, .int .i64 0, .int .i64 0, .int .i64 0, .int .i64 0, .int .i64 0, .int .i64 0]) (t := 26) ?hr ?_; (case hd => rfl); (case hg => rfl); (case hr => first | (go_simp; done) | (go_simp; rfl)); intro gb344 hg w10 hbox hb; have n0_ := Aside0.mk (below_step (by repeat (first | (with_reducible first | exact HB.out | apply below_alloc | apply pw_below_drewN | apply below_drew1) | exact HB.out)) hb); have n1_ := Aside0.mk (hbox); have n2_ := Aside0.mk ((by rw [hg]; exact (below_size (by repeat (first | (with_reducible first | exact HB.out | apply below_alloc | apply pw_below_drewN | apply below_drew1) | exact HB.out))) : w.heap.size ≤ gb344)); have n3_ := Aside0.mk ((by rw [hg]; exact (below_size (by repeat (first | (with_reducible first | exact HB.out | apply below_alloc | apply pw_below_drewN | apply below_drew1) | exact HB.out))) : w.heap.size ≤ gb344)); clear HB; have HB := n0_; have BK344 := n1_; have GW344 := n2_; have GE344 := n3_; clear n0_ n1_ n2_ n3_; clear hb hbox hg; have hcz11_0 : w10.cell? ⟨gb344, 0, none⟩ = some (.int .i64 0) := (blk_cell BK344.out 0).trans rfl; have hcz11_1 : w10.cell? ⟨gb344, 1, none⟩ = some (.int .i64 0) := (blk_cell BK344.out 1).trans rfl; have hcz11_2 : w10.cell? ⟨gb344, 2, none⟩ = some (.int .i64 0) := (blk_cell BK344.out 2).trans rfl; have hcz11_3 : w10.cell? ⟨gb344, 3, none⟩ = some (.int .i64 0) := (blk_cell BK344.out 3).trans rfl; have hcz11_4 : w10.cell? ⟨gb344, 4, none⟩ = some (.int .i64 0) := (blk_cell BK344.out 4).trans rfl; have hcz11_5 : w10.cell? ⟨gb344, 5, none⟩ = some (.int .i64 0) := (blk_cell BK344.out 5).trans rfl; have hcz11_6 : w10.cell? ⟨gb344, 6, none⟩ = some (.int .i64 0) := (blk_cell BK344.out 6).trans rfl; have hfz11_0 := blk_frozen BK344.out 0; have hfz11_1 := blk_frozen BK344.out 1; have hfz11_2 := blk_frozen BK344.out 2; have hfz11_3 := blk_frozen BK344.out 3; have hfz11_4 := blk_frozen BK344.out 4; have hfz11_5 := blk_frozen BK344.out 5; have hfz11_6 := blk_frozen BK344.out 6) | ((with_reducible refine gate_callee (f := 12) rfl ?_); refine goesL_ (some 20) rfl rfl Try.func12 (by kernel_rfl) rfl #[.agg #[.int .i64 t337, .int .i64 t338, .int .i64 t339, .int .i64 t340, .int .i64 t341, .int .i64 t342, .int .i64 t343]] rfl (by (try simp only [List.map_toArray, List.map_cons, List.map_nil]); first | done | rfl | (simp only [List.length_drop, List.length_take]; rfl)) ?_; (with_reducible refine (impl_SealOk.calls t337 t338 t339 t340 t341 t342 t343 t345 _ A7.out).mono ?_); rintro e w12 ⟨rfl, hb⟩; refine ⟨_, rfl, ?_⟩; have n0_ := Aside0.mk (blk_below (g := gb344) (o := .cells #[.int .i64 t337, .int .i64 t338, .int .i64 t339, .int .i64 t340, .int .i64 t341, .int .i64 t342, .int .i64 t343] 26 (0, 0)) (by (with_reducible repeat (first | refine blk_drewN ?_ _ | refine blk_drew ?_ | refine blk_alloc ?_ _)); refine blk_put (cs := #[.int .i64 t337, .int .i64 t338, .int .i64 t339, .int .i64 t340, .int .i64 t341, .int .i64 t342, .int .i64 0]) ?_ 6 _ rfl; (with_reducible repeat (first | refine blk_drewN ?_ _ | refine blk_drew ?_ | refine blk_alloc ?_ _)); refine blk_put (cs := #[.int .i64 t337, .int .i64 t338, .int .i64 t339, .int .i64 t340, .int .i64 t341, .int .i64 0, .int .i64 0]) ?_ 5 _ rfl; (with_reducible repeat (first | refine blk_drewN ?_ _ | refine blk_drew ?_ | refine blk_alloc ?_ _)); refine blk_put (cs := #[.int .i64 t337, .int .i64 t338, .int .i64 t339, .int .i64 t340, .int .i64 0, .int .i64 0, .int .i64 0]) ?_ 4 _ rfl; (with_reducible repeat (first | refine blk_drewN ?_ _ | refine blk_drew ?_ | refine blk_alloc ?_ _)); refine blk_put (cs := #[.int .i64 t337, .int .i64 t338, .int .i64 t339, .int .i64 0, .int .i64 0, .int .i64 0, .int .i64 0]) ?_ 3 _ rfl; (with_reducible repeat (first | refine blk_drewN ?_ _ | refine blk_drew ?_ | refine blk_alloc ?_ _)); refine blk_put (cs := #[.int .i64 t337, .int .i64 t338, .int .i64 0, .int .i64 0, .int .i64 0, .int .i64 0, .int .i64 0]) ?_ 2 _ rfl; (with_reducible repeat (first | refine blk_drewN ?_ _ | refine blk_drew ?_ | refine blk_alloc ?_ _)); refine blk_put (cs := #[.int .i64 t337, .int .i64 0, .int .i64 0, .int .i64 0, .int .i64 0, .int .i64 0, .int .i64 0]) ?_ 1 _ rfl; (with_reducible repeat (first | refine blk_drewN ?_ _ | refine blk_drew ?_ | refine blk_alloc ?_ _)); refine blk_put (cs := #[.int .i64 0, .int .i64 0, .int .i64 0, .int .i64 0, .int .i64 0, .int .i64 0, .int .i64 0]) ?_ 0 _ rfl; (with_reducible repeat (first | refine blk_drewN ?_ _ | refine blk_drew ?_ | refine blk_alloc ?_ _)); exact BK344.out) hb); have n1_ := Aside0.mk (below_step (by repeat (first | (with_reducible first | exact HB.out | apply below_alloc | apply pw_below_drewN | apply below_drew1 | refine below_set ?_ GE344.out) | exact HB.out)) hb); clear BK344; clear HB; have BK344 := n0_; have HB := n1_; clear n0_ n1_; (try clear hb); (try clear hb2); (try clear hk); (try clear hi)))
        (try simp only [Act.put, List.setIfInBounds_toArray, List.set_cons_zero, List.set_cons_succ])
        go_cut [28] (fun v28 wc => ∃ (kq : Nat) (x28_7 : Bool), v28 = .bool x28_7 ∧ Aside0 (laws_FnSealKey.j1 kq l1 t345 x28_7 t337 t338 t339 t340 t341 t342 t343 = some r) ∧ Aside0 (kq ≤ kj2) ∧ Aside0 (wc.heap[gb344]? = some (.cells #[.int .i64 t337, .int .i64 t338, .int .i64 t339, .int .i64 t340, .int .i64 t341, .int .i64 t342, .int .i64 t343] 26 (0, 0))) ∧ Aside0 (Below w.heap.size w wc))
        case first =>
          have H := HC8.out
          clear HC8
          replace H := Option.bind_eq_some_iff.mp H
          obtain ⟨t346, A130, H⟩ := H
          replace H : (if (t345 != t346) = true then (laws_FnSealKey.j1 kj2 l1 t345 true t337 t338 t339 t340 t341 t342 t343) else (laws_FnSealKey.j1 kj2 l1 t345 (!t345) t337 t338 t339 t340 t341 t342 t343)) = some r := H
          have A13 := Aside0.mk A130
          clear A130
          by_cases c14 : (t345 != t346) = true
          · rw [if_pos c14] at H
            have c14b0 : (t345 != t346) = true := c14
            (try (have c14b1 : decide (t345 = t346) = false := by simpa using c14))
            (try (have c14b2 : (t345 == t346) = false := by simpa using c14))
            (try (have c14b3 : ¬ (t345 = t346) := by simpa using c14))
            clear c14
            (first | rw [c14b0] | (simp only [i64_w, i32_w]; rw [c14b0]) | skip)
            have H' := Aside0.mk H
            clear H
            have hcz15_0 : w12.cell? ⟨gb344, 0, none⟩ = some (.int .i64 t337) := (blk_cell BK344.out 0).trans rfl
            have hcz15_1 : w12.cell? ⟨gb344, 1, none⟩ = some (.int .i64 t338) := (blk_cell BK344.out 1).trans rfl
            have hcz15_2 : w12.cell? ⟨gb344, 2, none⟩ = some (.int .i64 t339) := (blk_cell BK344.out 2).trans rfl
            have hcz15_3 : w12.cell? ⟨gb344, 3, none⟩ = some (.int .i64 t340) := (blk_cell BK344.out 3).trans rfl
            have hcz15_4 : w12.cell? ⟨gb344, 4, none⟩ = some (.int .i64 t341) := (blk_cell BK344.out 4).trans rfl
            have hcz15_5 : w12.cell? ⟨gb344, 5, none⟩ = some (.int .i64 t342) := (blk_cell BK344.out 5).trans rfl
            have hcz15_6 : w12.cell? ⟨gb344, 6, none⟩ = some (.int .i64 t343) := (blk_cell BK344.out 6).trans rfl
            have hfz15_0 := blk_frozen BK344.out 0
            have hfz15_1 := blk_frozen BK344.out 1
            have hfz15_2 := blk_frozen BK344.out 2
            have hfz15_3 := blk_frozen BK344.out 3
            have hfz15_4 := blk_frozen BK344.out 4
            have hfz15_5 := blk_frozen BK344.out 5
            have hfz15_6 := blk_frozen BK344.out 6
            go_wp2_with (first | ((with_reducible refine gate_callee (f := 10) rfl ?_); refine goesL_ (some 23) rfl rfl Try.func10 (by kernel_rfl) rfl #[.agg #[.int .i64 t337, .int .i64 t338, .int .i64 t339, .int .i64 t340, .int .i64 t341, .int .i64 t342, .int .i64 t343]] rfl (by (try simp only [List.map_toArray, List.map_cons, List.map_nil]); first | done | rfl | (simp only [List.length_drop, List.length_take]; rfl)) ?_; (with_reducible refine (spec_SealOk.calls t337 t338 t339 t340 t341 t342 t343 t346 _ A13.out).mono ?_); rintro e w16 ⟨rfl, hb⟩; refine ⟨_, rfl, ?_⟩; have n0_ := Aside0.mk (blk_below (g := gb344) (o := .cells #[.int .i64 t337, .int .i64 t338, .int .i64 t339, .int .i64 t340, .int .i64 t341, .int .i64 t342, .int .i64 t343] 26 (0, 0)) (by (with_reducible repeat (first | refine blk_drewN ?_ _ | refine blk_drew ?_ | refine blk_alloc ?_ _)); exact BK344.out) hb); have n1_ := Aside0.mk (below_step (by repeat (first | (with_reducible first | exact HB.out | apply below_alloc | apply pw_below_drewN | apply below_drew1 | refine below_set ?_ GE344.out) | exact HB.out)) hb); clear BK344; clear HB; have BK344 := n0_; have HB := n1_; clear n0_ n1_; (try clear hb); (try clear hb2); (try clear hk); (try clear hi)))
            go_meet
            case rel => exact ⟨_, (true), (by first | rfl | (simp; done) | (simp [*]; done)), H', ⟨by have := HJ2.out; first | omega | exact Nat.le_refl _⟩, ⟨by (with_reducible repeat (first | refine blk_drewN ?_ _ | refine blk_drew ?_ | refine blk_alloc ?_ _)); exact BK344.out⟩, ⟨by repeat (first | (with_reducible first | exact HB.out | apply below_alloc | apply pw_below_drewN | apply below_drew1 | refine below_set ?_ GE344.out) | exact HB.out)⟩⟩
          · rw [if_neg c14] at H
            have c14b0 : (t345 != t346) = false := by simpa using c14
            (try (have c14b1 : decide (t345 = t346) = true := by simpa using c14))
            (try (have c14b2 : (t345 == t346) = true := by simpa using c14))
            clear c14
            (first | rw [c14b0] | (simp only [i64_w, i32_w]; rw [c14b0]) | skip)
            have H' := Aside0.mk H
            clear H
            have hcz17_0 : w12.cell? ⟨gb344, 0, none⟩ = some (.int .i64 t337) := (blk_cell BK344.out 0).trans rfl
            have hcz17_1 : w12.cell? ⟨gb344, 1, none⟩ = some (.int .i64 t338) := (blk_cell BK344.out 1).trans rfl
            have hcz17_2 : w12.cell? ⟨gb344, 2, none⟩ = some (.int .i64 t339) := (blk_cell BK344.out 2).trans rfl
            have hcz17_3 : w12.cell? ⟨gb344, 3, none⟩ = some (.int .i64 t340) := (blk_cell BK344.out 3).trans rfl
            have hcz17_4 : w12.cell? ⟨gb344, 4, none⟩ = some (.int .i64 t341) := (blk_cell BK344.out 4).trans rfl
            have hcz17_5 : w12.cell? ⟨gb344, 5, none⟩ = some (.int .i64 t342) := (blk_cell BK344.out 5).trans rfl
            have hcz17_6 : w12.cell? ⟨gb344, 6, none⟩ = some (.int .i64 t343) := (blk_cell BK344.out 6).trans rfl
            have hfz17_0 := blk_frozen BK344.out 0
            have hfz17_1 := blk_frozen BK344.out 1
            have hfz17_2 := blk_frozen BK344.out 2
            have hfz17_3 := blk_frozen BK344.out 3
            have hfz17_4 := blk_frozen BK344.out 4
            have hfz17_5 := blk_frozen BK344.out 5
            have hfz17_6 := blk_frozen BK344.out 6
            go_wp2_with (first | ((with_reducible refine gate_callee (f := 10) rfl ?_); refine goesL_ (some 23) rfl rfl Try.func10 (by kernel_rfl) rfl #[.agg #[.int .i64 t337, .int .i64 t338, .int .i64 t339, .int .i64 t340, .int .i64 t341, .int .i64 t342, .int .i64 t343]] rfl (by (try simp only [List.map_toArray, List.map_cons, List.map_nil]); first | done | rfl | (simp only [List.length_drop, List.length_take]; rfl)) ?_; (with_reducible refine (spec_SealOk.calls t337 t338 t339 t340 t341 t342 t343 t346 _ A13.out).mono ?_); rintro e w18 ⟨rfl, hb⟩; refine ⟨_, rfl, ?_⟩; have n0_ := Aside0.mk (blk_below (g := gb344) (o := .cells #[.int .i64 t337, .int .i64 t338, .int .i64 t339, .int .i64 t340, .int .i64 t341, .int .i64 t342, .int .i64 t343] 26 (0, 0)) (by (with_reducible repeat (first | refine blk_drewN ?_ _ | refine blk_drew ?_ | refine blk_alloc ?_ _)); exact BK344.out) hb); have n1_ := Aside0.mk (below_step (by repeat (first | (with_reducible first | exact HB.out | apply below_alloc | apply pw_below_drewN | apply below_drew1 | refine below_set ?_ GE344.out) | exact HB.out)) hb); clear BK344; clear HB; have BK344 := n0_; have HB := n1_; clear n0_ n1_; (try clear hb); (try clear hb2); (try clear hk); (try clear hi)))
            go_meet
            case rel => exact ⟨_, (!t345), (by first | rfl | (simp; done) | (simp [*]; done)), H', ⟨by have := HJ2.out; first | omega | exact Nat.le_refl _⟩, ⟨by (with_reducible repeat (first | refine blk_drewN ?_ _ | refine blk_drew ?_ | refine blk_alloc ?_ _)); exact BK344.out⟩, ⟨by repeat (first | (with_reducible first | exact HB.out | apply below_alloc | apply pw_below_drewN | apply below_drew1 | refine below_set ?_ GE344.out) | exact HB.out)⟩⟩
        case rest =>
          clear HC8
          try clear c1
          try clear c2
          try clear p2
          try clear c4
          try clear c4b0
          try clear c4b1
          try clear c5
          try clear c7
          try clear c10
          try clear c12
          try clear c14
          try clear c14b0
          try clear c14b1
          try clear c14b2
          try clear hcz11_0
          try clear hcz11_1
          try clear hcz11_2
          try clear hcz11_3
          try clear hcz11_4
          try clear hcz11_5
          try clear hcz11_6
          try clear hcz15_0
          try clear hcz15_1
          try clear hcz15_2
          try clear hcz15_3
          try clear hcz15_4
          try clear hcz15_5
          try clear hcz15_6
          try clear hcz17_0
          try clear hcz17_1
          try clear hcz17_2
          try clear hcz17_3
          try clear hcz17_4
          try clear hcz17_5
          try clear hcz17_6
          try clear hfz11_0
          try clear hfz11_1
          try clear hfz11_2
          try clear hfz11_3
          try clear hfz11_4
          try clear hfz11_5
          try clear hfz11_6
          try clear hfz15_0
          try clear hfz15_1
          try clear hfz15_2
          try clear hfz15_3
          try clear hfz15_4
          try clear hfz15_5
          try clear hfz15_6
          try clear hfz17_0
          try clear hfz17_1
          try clear hfz17_2
          try clear hfz17_3
          try clear hfz17_4
          try clear hfz17_5
          try clear hfz17_6
          try clear p2
          obtain ⟨kq, x28_7, rfl, HA, HJ7, BK344, HB⟩ := hcut
          cases kq with
          | zero => exact absurd HA.out (by simp [laws_FnSealKey.j1])
          | succ kj7 =>
            have H := HA.out
            clear HA
            simp only [laws_FnSealKey.j1] at H
            by_cases c19 : x28_7 = true
            · subst c19
              have H1 : ((spec_SealOk.f t337 t338 t339 t340 t341 t342 t343).bind fun t347 => (some (t345 == t347))) = some r := by rw [if_pos rfl] at H; exact H
              clear H
              have H := H1
              clear H1
              replace H := Option.bind_eq_some_iff.mp H
              obtain ⟨t347, A200, H⟩ := H
              replace H : (some (t345 == t347)) = some r := H
              have A20 := Aside0.mk A200
              clear A200
              obtain rfl := Option.some.inj H
              have hcz21_0 : wc.cell? ⟨gb344, 0, none⟩ = some (.int .i64 t337) := (blk_cell BK344.out 0).trans rfl
              have hcz21_1 : wc.cell? ⟨gb344, 1, none⟩ = some (.int .i64 t338) := (blk_cell BK344.out 1).trans rfl
              have hcz21_2 : wc.cell? ⟨gb344, 2, none⟩ = some (.int .i64 t339) := (blk_cell BK344.out 2).trans rfl
              have hcz21_3 : wc.cell? ⟨gb344, 3, none⟩ = some (.int .i64 t340) := (blk_cell BK344.out 3).trans rfl
              have hcz21_4 : wc.cell? ⟨gb344, 4, none⟩ = some (.int .i64 t341) := (blk_cell BK344.out 4).trans rfl
              have hcz21_5 : wc.cell? ⟨gb344, 5, none⟩ = some (.int .i64 t342) := (blk_cell BK344.out 5).trans rfl
              have hcz21_6 : wc.cell? ⟨gb344, 6, none⟩ = some (.int .i64 t343) := (blk_cell BK344.out 6).trans rfl
              have hfz21_0 := blk_frozen BK344.out 0
              have hfz21_1 := blk_frozen BK344.out 1
              have hfz21_2 := blk_frozen BK344.out 2
              have hfz21_3 := blk_frozen BK344.out 3
              have hfz21_4 := blk_frozen BK344.out 4
              have hfz21_5 := blk_frozen BK344.out 5
              have hfz21_6 := blk_frozen BK344.out 6
              go_wp2_with (first | ((with_reducible refine gate_callee (f := 10) rfl ?_); refine goesL_ (some 31) rfl rfl Try.func10 (by kernel_rfl) rfl #[.agg #[.int .i64 t337, .int .i64 t338, .int .i64 t339, .int .i64 t340, .int .i64 t341, .int .i64 t342, .int .i64 t343]] rfl (by (try simp only [List.map_toArray, List.map_cons, List.map_nil]); first | done | rfl | (simp only [List.length_drop, List.length_take]; rfl)) ?_; (with_reducible refine (spec_SealOk.calls t337 t338 t339 t340 t341 t342 t343 t347 _ A20.out).mono ?_); rintro e w22 ⟨rfl, hb⟩; refine ⟨_, rfl, ?_⟩; have n0_ := Aside0.mk (blk_below (g := gb344) (o := .cells #[.int .i64 t337, .int .i64 t338, .int .i64 t339, .int .i64 t340, .int .i64 t341, .int .i64 t342, .int .i64 t343] 26 (0, 0)) (by (with_reducible repeat (first | refine blk_drewN ?_ _ | refine blk_drew ?_ | refine blk_alloc ?_ _)); exact BK344.out) hb); have n1_ := Aside0.mk (below_step (by repeat (first | (with_reducible first | exact HB.out | apply below_alloc | apply pw_below_drewN | apply below_drew1 | refine below_set ?_ GE344.out) | exact HB.out)) hb); clear BK344; clear HB; have BK344 := n0_; have HB := n1_; clear n0_ n1_; (try clear hb); (try clear hb2); (try clear hk); (try clear hi)))
              go_ret
              exact ⟨by first | rfl | (simp [errW_none, errW_some] <;> rfl) | (simp [*, errW_none, errW_some] <;> rfl), by repeat (first | (with_reducible first | exact HB.out | apply below_alloc | apply pw_below_drewN | apply below_drew1 | refine below_set ?_ GE344.out) | exact HB.out)⟩
            · replace c19 := Bool.eq_false_iff.mpr c19
              subst c19
              have H1 : (if t338 = 1 then ((impl_SealOk.f (1 + ((l1.length : Int) % 60)) t338 t339 t340 t341 t342 t343).bind fun t349 => (some (t349 == ((1 + ((l1.length : Int) % 60)) == t337)))) else (if t338 = 2 then ((impl_SealOk.f (1 + ((l1.length : Int) % 60)) t338 t339 t340 t341 t342 t343).bind fun t350 => (if (1 + ((l1.length : Int) % 60)) ≥ 10 then (some (t350 == true)) else (some (t350 == (decide ((1 + ((l1.length : Int) % 60)) ≤ 3)))))) else ((impl_SealOk.f (1 + ((l1.length : Int) % 60)) t338 t339 t340 t341 t342 t343).bind fun t351 => (some (t351 == (decide ((1 + ((l1.length : Int) % 60)) ≥ 10))))))) = some r := by rw [if_neg (show ¬ (false = true) by decide)] at H; exact H
              clear H
              have H := H1
              clear H1
              by_cases c23 : t338 = 1
              · rw [if_pos c23] at H
                have c23b0 : (t338 == 1) = true := beq_iff_eq.mpr c23
                have c23b1 : (t338 != 1) = false := bne_eq_false_iff_eq.mpr c23
                clear c23
                replace H := Option.bind_eq_some_iff.mp H
                obtain ⟨t349, A240, H⟩ := H
                replace H : (some (t349 == ((1 + ((l1.length : Int) % 60)) == t337))) = some r := H
                have A24 := Aside0.mk A240
                clear A240
                obtain rfl := Option.some.inj H
                have hcz25_0 : wc.cell? ⟨gb344, 0, none⟩ = some (.int .i64 t337) := (blk_cell BK344.out 0).trans rfl
                have hcz25_1 : wc.cell? ⟨gb344, 1, none⟩ = some (.int .i64 t338) := (blk_cell BK344.out 1).trans rfl
                have hcz25_2 : wc.cell? ⟨gb344, 2, none⟩ = some (.int .i64 t339) := (blk_cell BK344.out 2).trans rfl
                have hcz25_3 : wc.cell? ⟨gb344, 3, none⟩ = some (.int .i64 t340) := (blk_cell BK344.out 3).trans rfl
                have hcz25_4 : wc.cell? ⟨gb344, 4, none⟩ = some (.int .i64 t341) := (blk_cell BK344.out 4).trans rfl
                have hcz25_5 : wc.cell? ⟨gb344, 5, none⟩ = some (.int .i64 t342) := (blk_cell BK344.out 5).trans rfl
                have hcz25_6 : wc.cell? ⟨gb344, 6, none⟩ = some (.int .i64 t343) := (blk_cell BK344.out 6).trans rfl
                have hfz25_0 := blk_frozen BK344.out 0
                have hfz25_1 := blk_frozen BK344.out 1
                have hfz25_2 := blk_frozen BK344.out 2
                have hfz25_3 := blk_frozen BK344.out 3
                have hfz25_4 := blk_frozen BK344.out 4
                have hfz25_5 := blk_frozen BK344.out 5
                have hfz25_6 := blk_frozen BK344.out 6
                try go_wp2_with (first | ((with_reducible refine gate_dst (N := 7) rfl ?_); refine box_event ?hg (N := 7) ?hd (cs := #[.int .i64 0, .int .i64 0, .int .i64 0, .int .i64 0, .int .i64 0, .int .i64 0, .int .i64 0]) (t := 26) ?hr ?_; (case hd => rfl); (case hg => rfl); (case hr => first | (go_simp; done) | (go_simp; rfl)); intro gb348 hg w26 hbox hb; have n0_ := Aside0.mk (blk_below (g := gb344) (o := .cells #[.int .i64 t337, .int .i64 t338, .int .i64 t339, .int .i64 t340, .int .i64 t341, .int .i64 t342, .int .i64 t343] 26 (0, 0)) (by (with_reducible repeat (first | refine blk_drewN ?_ _ | refine blk_drew ?_ | refine blk_alloc ?_ _)); exact BK344.out) hb); have n1_ := Aside0.mk (below_step (by repeat (first | (with_reducible first | exact HB.out | apply below_alloc | apply pw_below_drewN | apply below_drew1 | refine below_set ?_ GE344.out) | exact HB.out)) hb); have n2_ := Aside0.mk (hbox); have n3_ := Aside0.mk ((by rw [hg]; exact (below_size (by repeat (first | (with_reducible first | exact HB.out | apply below_alloc | apply pw_below_drewN | apply below_drew1 | refine below_set ?_ GE344.out) | exact HB.out))) : w.heap.size ≤ gb348)); have n4_ := Aside0.mk ((by rw [hg]; exact (below_size (by repeat (first | (with_reducible first | exact HB.out | apply below_alloc | apply pw_below_drewN | apply below_drew1 | refine below_set ?_ GE344.out) | exact HB.out))) : w.heap.size ≤ gb348)); have n5_ := Aside0.mk ((by rw [hg]; exact Nat.ne_of_lt (blk_lt (g := gb344) (o := .cells #[.int .i64 t337, .int .i64 t338, .int .i64 t339, .int .i64 t340, .int .i64 t341, .int .i64 t342, .int .i64 t343] 26 (0, 0)) (by (with_reducible repeat (first | refine blk_drewN ?_ _ | refine blk_drew ?_ | refine blk_alloc ?_ _)); exact BK344.out)) : gb344 ≠ gb348)); have n6_ := Aside0.mk ((by rw [hg]; exact Nat.ne_of_gt (blk_lt (g := gb344) (o := .cells #[.int .i64 t337, .int .i64 t338, .int .i64 t339, .int .i64 t340, .int .i64 t341, .int .i64 t342, .int .i64 t343] 26 (0, 0)) (by (with_reducible repeat (first | refine blk_drewN ?_ _ | refine blk_drew ?_ | refine blk_alloc ?_ _)); exact BK344.out)) : gb348 ≠ gb344)); clear BK344; clear HB; have BK344 := n0_; have HB := n1_; have BK348 := n2_; have GW348 := n3_; have GE348 := n4_; have NB344_348 := n5_; have NB348_344 := n6_; clear n0_ n1_ n2_ n3_ n4_ n5_ n6_; clear hb hbox hg; have hnb27 := NB348_344.out; have hnc27 := NB344_348.out; have hcz28_0 : w26.cell? ⟨gb348, 0, none⟩ = some (.int .i64 0) := (blk_cell BK348.out 0).trans rfl; have hcz28_1 : w26.cell? ⟨gb348, 1, none⟩ = some (.int .i64 0) := (blk_cell BK348.out 1).trans rfl; have hcz28_2 : w26.cell? ⟨gb348, 2, none⟩ = some (.int .i64 0) := (blk_cell BK348.out 2).trans rfl; have hcz28_3 : w26.cell? ⟨gb348, 3, none⟩ = some (.int .i64 0) := (blk_cell BK348.out 3).trans rfl; have hcz28_4 : w26.cell? ⟨gb348, 4, none⟩ = some (.int .i64 0) := (blk_cell BK348.out 4).trans rfl; have hcz28_5 : w26.cell? ⟨gb348, 5, none⟩ = some (.int .i64 0) := (blk_cell BK348.out 5).trans rfl; have hcz28_6 : w26.cell? ⟨gb348, 6, none⟩ = some (.int .i64 0) := (blk_cell BK348.out 6).trans rfl; have hfz28_0 := blk_frozen BK348.out 0; have hfz28_1 := blk_frozen BK348.out 1; have hfz28_2 := blk_frozen BK348.out 2; have hfz28_3 := blk_frozen BK348.out 3; have hfz28_4 := blk_frozen BK348.out 4; have hfz28_5 := blk_frozen BK348.out 5; have hfz28_6 := blk_frozen BK348.out 6; have hcz29_0 : w26.cell? ⟨gb344, 0, none⟩ = some (.int .i64 t337) := (blk_cell BK344.out 0).trans rfl; have hcz29_1 : w26.cell? ⟨gb344, 1, none⟩ = some (.int .i64 t338) := (blk_cell BK344.out 1).trans rfl; have hcz29_2 : w26.cell? ⟨gb344, 2, none⟩ = some (.int .i64 t339) := (blk_cell BK344.out 2).trans rfl; have hcz29_3 : w26.cell? ⟨gb344, 3, none⟩ = some (.int .i64 t340) := (blk_cell BK344.out 3).trans rfl; have hcz29_4 : w26.cell? ⟨gb344, 4, none⟩ = some (.int .i64 t341) := (blk_cell BK344.out 4).trans rfl; have hcz29_5 : w26.cell? ⟨gb344, 5, none⟩ = some (.int .i64 t342) := (blk_cell BK344.out 5).trans rfl; have hcz29_6 : w26.cell? ⟨gb344, 6, none⟩ = some (.int .i64 t343) := (blk_cell BK344.out 6).trans rfl; have hfz29_0 := blk_frozen BK344.out 0; have hfz29_1 := blk_frozen BK344.out 1; have hfz29_2 := blk_frozen BK344.out 2; have hfz29_3 := blk_frozen BK344.out 3; have hfz29_4 := blk_frozen BK344.out 4; have hfz29_5 := blk_frozen BK344.out 5; have hfz29_6 := blk_frozen BK344.out 6))
                have n0_ : Aside0 (((((((((w26.setCell ⟨gb348, 0, none⟩ (.int .i64 t337)).setCell ⟨gb348, 1, none⟩ (.int .i64 t338)).setCell ⟨gb348, 2, none⟩ (.int .i64 t339)).setCell ⟨gb348, 3, none⟩ (.int .i64 t340)).setCell ⟨gb348, 4, none⟩ (.int .i64 t341)).setCell ⟨gb348, 5, none⟩ (.int .i64 t342)).setCell ⟨gb348, 6, none⟩ (.int .i64 t343)).setCell ⟨gb348, 0, none⟩ (.int .i64 (1 + ((l1.length : Int) % 60)))).heap[gb344]? = some (.cells #[.int .i64 t337, .int .i64 t338, .int .i64 t339, .int .i64 t340, .int .i64 t341, .int .i64 t342, .int .i64 t343] 26 (0, 0))) := ⟨by (with_reducible repeat (first | refine blk_drewN ?_ _ | refine blk_drew ?_ | refine blk_alloc ?_ _)); refine blk_far ?_ NB344_348.out _; (with_reducible repeat (first | refine blk_drewN ?_ _ | refine blk_drew ?_ | refine blk_alloc ?_ _)); refine blk_far ?_ NB344_348.out _; (with_reducible repeat (first | refine blk_drewN ?_ _ | refine blk_drew ?_ | refine blk_alloc ?_ _)); refine blk_far ?_ NB344_348.out _; (with_reducible repeat (first | refine blk_drewN ?_ _ | refine blk_drew ?_ | refine blk_alloc ?_ _)); refine blk_far ?_ NB344_348.out _; (with_reducible repeat (first | refine blk_drewN ?_ _ | refine blk_drew ?_ | refine blk_alloc ?_ _)); refine blk_far ?_ NB344_348.out _; (with_reducible repeat (first | refine blk_drewN ?_ _ | refine blk_drew ?_ | refine blk_alloc ?_ _)); refine blk_far ?_ NB344_348.out _; (with_reducible repeat (first | refine blk_drewN ?_ _ | refine blk_drew ?_ | refine blk_alloc ?_ _)); refine blk_far ?_ NB344_348.out _; (with_reducible repeat (first | refine blk_drewN ?_ _ | refine blk_drew ?_ | refine blk_alloc ?_ _)); refine blk_far ?_ NB344_348.out _; (with_reducible repeat (first | refine blk_drewN ?_ _ | refine blk_drew ?_ | refine blk_alloc ?_ _)); exact BK344.out⟩
                have n1_ : Aside0 (((((((((w26.setCell ⟨gb348, 0, none⟩ (.int .i64 t337)).setCell ⟨gb348, 1, none⟩ (.int .i64 t338)).setCell ⟨gb348, 2, none⟩ (.int .i64 t339)).setCell ⟨gb348, 3, none⟩ (.int .i64 t340)).setCell ⟨gb348, 4, none⟩ (.int .i64 t341)).setCell ⟨gb348, 5, none⟩ (.int .i64 t342)).setCell ⟨gb348, 6, none⟩ (.int .i64 t343)).setCell ⟨gb348, 0, none⟩ (.int .i64 (1 + ((l1.length : Int) % 60)))).heap[gb348]? = some (.cells #[.int .i64 (1 + ((l1.length : Int) % 60)), .int .i64 t338, .int .i64 t339, .int .i64 t340, .int .i64 t341, .int .i64 t342, .int .i64 t343] 26 (0, 0))) := ⟨by (with_reducible repeat (first | refine blk_drewN ?_ _ | refine blk_drew ?_ | refine blk_alloc ?_ _)); refine blk_put (cs := #[.int .i64 t337, .int .i64 t338, .int .i64 t339, .int .i64 t340, .int .i64 t341, .int .i64 t342, .int .i64 t343]) ?_ 0 _ rfl; (with_reducible repeat (first | refine blk_drewN ?_ _ | refine blk_drew ?_ | refine blk_alloc ?_ _)); refine blk_put (cs := #[.int .i64 t337, .int .i64 t338, .int .i64 t339, .int .i64 t340, .int .i64 t341, .int .i64 t342, .int .i64 0]) ?_ 6 _ rfl; (with_reducible repeat (first | refine blk_drewN ?_ _ | refine blk_drew ?_ | refine blk_alloc ?_ _)); refine blk_put (cs := #[.int .i64 t337, .int .i64 t338, .int .i64 t339, .int .i64 t340, .int .i64 t341, .int .i64 0, .int .i64 0]) ?_ 5 _ rfl; (with_reducible repeat (first | refine blk_drewN ?_ _ | refine blk_drew ?_ | refine blk_alloc ?_ _)); refine blk_put (cs := #[.int .i64 t337, .int .i64 t338, .int .i64 t339, .int .i64 t340, .int .i64 0, .int .i64 0, .int .i64 0]) ?_ 4 _ rfl; (with_reducible repeat (first | refine blk_drewN ?_ _ | refine blk_drew ?_ | refine blk_alloc ?_ _)); refine blk_put (cs := #[.int .i64 t337, .int .i64 t338, .int .i64 t339, .int .i64 0, .int .i64 0, .int .i64 0, .int .i64 0]) ?_ 3 _ rfl; (with_reducible repeat (first | refine blk_drewN ?_ _ | refine blk_drew ?_ | refine blk_alloc ?_ _)); refine blk_put (cs := #[.int .i64 t337, .int .i64 t338, .int .i64 0, .int .i64 0, .int .i64 0, .int .i64 0, .int .i64 0]) ?_ 2 _ rfl; (with_reducible repeat (first | refine blk_drewN ?_ _ | refine blk_drew ?_ | refine blk_alloc ?_ _)); refine blk_put (cs := #[.int .i64 t337, .int .i64 0, .int .i64 0, .int .i64 0, .int .i64 0, .int .i64 0, .int .i64 0]) ?_ 1 _ rfl; (with_reducible repeat (first | refine blk_drewN ?_ _ | refine blk_drew ?_ | refine blk_alloc ?_ _)); refine blk_put (cs := #[.int .i64 0, .int .i64 0, .int .i64 0, .int .i64 0, .int .i64 0, .int .i64 0, .int .i64 0]) ?_ 0 _ rfl; (with_reducible repeat (first | refine blk_drewN ?_ _ | refine blk_drew ?_ | refine blk_alloc ?_ _)); exact BK348.out⟩
                have n2_ : Aside0 (Below w.heap.size w ((((((((w26.setCell ⟨gb348, 0, none⟩ (.int .i64 t337)).setCell ⟨gb348, 1, none⟩ (.int .i64 t338)).setCell ⟨gb348, 2, none⟩ (.int .i64 t339)).setCell ⟨gb348, 3, none⟩ (.int .i64 t340)).setCell ⟨gb348, 4, none⟩ (.int .i64 t341)).setCell ⟨gb348, 5, none⟩ (.int .i64 t342)).setCell ⟨gb348, 6, none⟩ (.int .i64 t343)).setCell ⟨gb348, 0, none⟩ (.int .i64 (1 + ((l1.length : Int) % 60))))) := ⟨by repeat (first | (with_reducible first | exact HB.out | apply below_alloc | apply pw_below_drewN | apply below_drew1 | refine below_set ?_ GE344.out | refine below_set ?_ GE348.out) | exact HB.out)⟩
                (try clear BK344)
                (try clear BK348)
                (try clear HB)
                generalize ((((((((w26.setCell ⟨gb348, 0, none⟩ (.int .i64 t337)).setCell ⟨gb348, 1, none⟩ (.int .i64 t338)).setCell ⟨gb348, 2, none⟩ (.int .i64 t339)).setCell ⟨gb348, 3, none⟩ (.int .i64 t340)).setCell ⟨gb348, 4, none⟩ (.int .i64 t341)).setCell ⟨gb348, 5, none⟩ (.int .i64 t342)).setCell ⟨gb348, 6, none⟩ (.int .i64 t343)).setCell ⟨gb348, 0, none⟩ (.int .i64 (1 + ((l1.length : Int) % 60)))) = w30 at n0_ n1_ n2_ ⊢
                have BK344 := n0_
                have BK348 := n1_
                have HB := n2_
                clear n0_ n1_ n2_
                have n0_ := Aside0.mk (blk_drew BK344.out)
                have n1_ := Aside0.mk (blk_drew BK348.out)
                have n2_ := Aside0.mk (below_drew1 HB.out)
                clear BK344
                clear BK348
                clear HB
                have BK344 := n0_
                have BK348 := n1_
                have HB := n2_
                clear n0_ n1_ n2_
                refine start_ (n := 9) (S := fun w' => w'.cell? ⟨gb348, 0, none⟩ = some (.int .i64 (1 + ((l1.length : Int) % 60))) ∧ w'.cell? ⟨gb348, 1, none⟩ = some (.int .i64 t338) ∧ w'.cell? ⟨gb348, 2, none⟩ = some (.int .i64 t339) ∧ w'.cell? ⟨gb348, 3, none⟩ = some (.int .i64 t340) ∧ w'.cell? ⟨gb348, 4, none⟩ = some (.int .i64 t341) ∧ w'.cell? ⟨gb348, 5, none⟩ = some (.int .i64 t342) ∧ w'.cell? ⟨gb348, 6, none⟩ = some (.int .i64 t343) ∧ w'.cell? ⟨gb344, 0, none⟩ = some (.int .i64 t337) ∧ w'.cell? ⟨gb344, 1, none⟩ = some (.int .i64 t338) ∧ w'.cell? ⟨gb344, 2, none⟩ = some (.int .i64 t339) ∧ w'.cell? ⟨gb344, 3, none⟩ = some (.int .i64 t340) ∧ w'.cell? ⟨gb344, 4, none⟩ = some (.int .i64 t341) ∧ w'.cell? ⟨gb344, 5, none⟩ = some (.int .i64 t342) ∧ w'.cell? ⟨gb344, 6, none⟩ = some (.int .i64 t343)) (ds := []) #[false, false, false, false, false, false, false, false, false] (by kernel_rfl) rfl rfl ⟨(blk_cell BK348.out 0).trans rfl, (blk_cell BK348.out 1).trans rfl, (blk_cell BK348.out 2).trans rfl, (blk_cell BK348.out 3).trans rfl, (blk_cell BK348.out 4).trans rfl, (blk_cell BK348.out 5).trans rfl, (blk_cell BK348.out 6).trans rfl, (blk_cell BK344.out 0).trans rfl, (blk_cell BK344.out 1).trans rfl, (blk_cell BK344.out 2).trans rfl, (blk_cell BK344.out 3).trans rfl, (blk_cell BK344.out 4).trans rfl, (blk_cell BK344.out 5).trans rfl, (blk_cell BK344.out 6).trans rfl⟩ (fun hHeld => ?_); refine with_tabW laws_FnSealKey.tab12 laws_FnSealKey.bits12 (fun HT_ HW_ => ?_)
                generalize w30.drew = w31 at BK344 BK348 HB hHeld ⊢
                refine pure_ (i := 2) (N := some 48) (v := ?_) (a' := ?_) #[false, false, true, false, false, false, false, false, false] rfl rfl (any_of HT_.out (by kernel_rfl)) (fun _ _ _ h => h) (Or.inl ⟨by rfl, ?_⟩) ?_ ?_
                rotate_left
                · intro w'
                  go_simp
                  with_reducible rfl
                rotate_left
                · simp only [Act.put, List.setIfInBounds_toArray, List.set_cons_zero, List.set_cons_succ, i64_w, i32_w]
                  rfl
                refine pure_ (i := 4) (N := some 50) (v := ?_) (a' := ?_) #[false, false, true, false, true, false, false, false, false] rfl rfl (any_of HT_.out (by kernel_rfl)) (fun _ _ _ h => h) (Or.inl ⟨by rfl, ?_⟩) ?_ ?_
                rotate_left
                · intro w'
                  go_simp
                  with_reducible rfl
                rotate_left
                · simp only [Act.put, List.setIfInBounds_toArray, List.set_cons_zero, List.set_cons_succ, i64_w, i32_w]
                  rfl
                refine take_ (i := 0) (N := some 46) (v := ?_) (a' := ?_) #[true, false, true, false, true, false, false, false, false] rfl rfl (take_ofW HT_.out HW_.out (by kernel_rfl)) (fun _ _ _ h => h) (Or.inl ⟨by rfl, ?_⟩) hHeld ?_ ?_
                rotate_left
                · rintro w' ⟨s0, s1, s2, s3, s4, s5, s6, s7, s8, s9, s10, s11, s12, s13⟩
                  go_simp
                  with_reducible rfl
                rotate_left
                · simp only [Act.put, List.setIfInBounds_toArray, List.set_cons_zero, List.set_cons_succ, i64_w, i32_w]
                  rfl
                refine take_ (i := 3) (N := some 49) (v := ?_) (a' := ?_) #[true, false, true, true, true, false, false, false, false] rfl rfl (take_ofW HT_.out HW_.out (by kernel_rfl)) (fun _ _ _ h => h) (Or.inl ⟨by rfl, ?_⟩) hHeld ?_ ?_
                rotate_left
                · rintro w' ⟨s0, s1, s2, s3, s4, s5, s6, s7, s8, s9, s10, s11, s12, s13⟩
                  go_simp
                  with_reducible rfl
                rotate_left
                · simp only [Act.put, List.setIfInBounds_toArray, List.set_cons_zero, List.set_cons_succ, i64_w, i32_w]
                  rfl
                refine take_ (i := 5) (N := some 51) (v := ?_) (a' := ?_) #[true, false, true, true, true, true, false, false, false] rfl rfl (take_ofW HT_.out HW_.out (by kernel_rfl)) (fun _ _ _ h => h) (Or.inl ⟨by rfl, ?_⟩) hHeld ?_ ?_
                rotate_left
                · rintro w' ⟨s0, s1, s2, s3, s4, s5, s6, s7, s8, s9, s10, s11, s12, s13⟩
                  go_simp
                  with_reducible rfl
                rotate_left
                · simp only [Act.put, List.setIfInBounds_toArray, List.set_cons_zero, List.set_cons_succ, i64_w, i32_w]
                  rfl
                refine pure_ (i := 6) (N := some 52) (v := ?_) (a' := ?_) #[true, false, true, true, true, true, true, false, false] rfl rfl (any_of HT_.out (by kernel_rfl)) (fun _ _ _ h => h) (Or.inl ⟨by rfl, ?_⟩) ?_ ?_
                rotate_left
                · intro w'
                  go_simp
                  with_reducible rfl
                rotate_left
                · simp only [Act.put, List.setIfInBounds_toArray, List.set_cons_zero, List.set_cons_succ, i64_w, i32_w]
                  rfl
                refine one_ (i := 1) (N := some 47) #[true, true, true, true, true, true, true, false, false] rfl rfl (one_of HT_.out (by kernel_rfl)) (by decide) (fun K hK => ?_)
                refine goes_ Try.func12 (by kernel_rfl) rfl #[.agg #[.int .i64 (1 + ((l1.length : Int) % 60)), .int .i64 t338, .int .i64 t339, .int .i64 t340, .int .i64 t341, .int .i64 t342, .int .i64 t343]] (by rfl) rfl rfl (by (try simp only [List.map_toArray, List.map_cons, List.map_nil]); first | done | rfl | (simp only [List.length_drop, List.length_take]; rfl)) ?_
                with_reducible refine (impl_SealOk.calls (1 + ((l1.length : Int) % 60)) t338 t339 t340 t341 t342 t343 t349 _ A24.out).mono ?_
                rintro e w32 ⟨rfl, hb⟩
                refine ⟨_, rfl, ?_⟩
                have n0_ := Aside0.mk (blk_below (g := gb344) (o := .cells #[.int .i64 t337, .int .i64 t338, .int .i64 t339, .int .i64 t340, .int .i64 t341, .int .i64 t342, .int .i64 t343] 26 (0, 0)) (by (with_reducible repeat (first | refine blk_drewN ?_ _ | refine blk_drew ?_ | refine blk_alloc ?_ _)); exact BK344.out) hb)
                have n1_ := Aside0.mk (blk_below (g := gb348) (o := .cells #[.int .i64 (1 + ((l1.length : Int) % 60)), .int .i64 t338, .int .i64 t339, .int .i64 t340, .int .i64 t341, .int .i64 t342, .int .i64 t343] 26 (0, 0)) (by (with_reducible repeat (first | refine blk_drewN ?_ _ | refine blk_drew ?_ | refine blk_alloc ?_ _)); exact BK348.out) hb)
                have n2_ := Aside0.mk (below_step (by repeat (first | (with_reducible first | exact HB.out | apply below_alloc | apply pw_below_drewN | apply below_drew1 | refine below_set ?_ GE344.out | refine below_set ?_ GE348.out) | exact HB.out)) hb)
                clear BK344
                clear BK348
                clear HB
                have BK344 := n0_
                have BK348 := n1_
                have HB := n2_
                clear n0_ n1_ n2_
                (try clear hb)
                (try clear hb2)
                (try clear hk)
                (try clear hi)
                refine hK.out _ _ ⟨(blk_cell BK348.out 0).trans rfl, (blk_cell BK348.out 1).trans rfl, (blk_cell BK348.out 2).trans rfl, (blk_cell BK348.out 3).trans rfl, (blk_cell BK348.out 4).trans rfl, (blk_cell BK348.out 5).trans rfl, (blk_cell BK348.out 6).trans rfl, (blk_cell BK344.out 0).trans rfl, (blk_cell BK344.out 1).trans rfl, (blk_cell BK344.out 2).trans rfl, (blk_cell BK344.out 3).trans rfl, (blk_cell BK344.out 4).trans rfl, (blk_cell BK344.out 5).trans rfl, (blk_cell BK344.out 6).trans rfl⟩ (fun hHeld => ?_)
                clear hK K
                refine norm_ (a' := ?_) ?_ ?_
                rotate_left
                · show Act.put _ (some 47) _ = _
                  simp only [Act.put, List.setIfInBounds_toArray, List.set_cons_zero, List.set_cons_succ, i64_w, i32_w]
                  rfl
                refine pure_ (i := 7) (N := some 53) (v := ?_) (a' := ?_) #[true, true, true, true, true, true, true, true, false] rfl rfl (any_of HT_.out (by kernel_rfl)) (fun _ _ _ h => h) (Or.inl ⟨by rfl, ?_⟩) ?_ ?_
                rotate_left
                · intro w'
                  go_simp
                  with_reducible rfl
                rotate_left
                · simp only [Act.put, List.setIfInBounds_toArray, List.set_cons_zero, List.set_cons_succ, i64_w, i32_w]
                  rfl
                refine pure_ (i := 8) (N := some 4) (v := ?_) (a' := ?_) #[true, true, true, true, true, true, true, true, true] rfl rfl (any_of HT_.out (by kernel_rfl)) (fun _ _ _ h => h) (Or.inl ⟨by rfl, ?_⟩) ?_ ?_
                rotate_left
                · intro w'
                  go_simp
                  with_reducible rfl
                rotate_left
                · simp only [Act.put, List.setIfInBounds_toArray, List.set_cons_zero, List.set_cons_succ, i64_w, i32_w]
                  rfl
                refine done_ (done_of HT_.out (by kernel_rfl)) ?_
                try go_wp2
                go_ret
                exact ⟨by first | rfl | (simp [errW_none, errW_some] <;> rfl) | (simp [*, errW_none, errW_some] <;> rfl), by repeat (first | (with_reducible first | exact HB.out | apply below_alloc | apply pw_below_drewN | apply below_drew1 | refine below_set ?_ GE344.out | refine below_set ?_ GE348.out) | exact HB.out)⟩
              · rw [if_neg c23] at H
                have c23b0 : (t338 == 1) = false := beq_eq_false_iff_ne.mpr c23
                have c23b1 : (t338 != 1) = true := bne_iff_ne.mpr c23
                by_cases c33 : t338 = 2
                · rw [if_pos c33] at H
                  have c33b0 : (t338 == 2) = true := beq_iff_eq.mpr c33
                  have c33b1 : (t338 != 2) = false := bne_eq_false_iff_eq.mpr c33
                  clear c33
                  replace H := Option.bind_eq_some_iff.mp H
                  obtain ⟨t350, A340, H⟩ := H
                  replace H : (if (1 + ((l1.length : Int) % 60)) ≥ 10 then (some (t350 == true)) else (some (t350 == (decide ((1 + ((l1.length : Int) % 60)) ≤ 3))))) = some r := H
                  have A34 := Aside0.mk A340
                  clear A340
                  by_cases c35 : (1 + ((l1.length : Int) % 60)) ≥ 10
                  · rw [if_pos c35] at H
                    have c35b0 : decide (10 ≤ (1 + ((l1.length : Int) % 60))) = true := decide_eq_true c35
                    clear c35
                    obtain rfl := Option.some.inj H
                    have hcz36_0 : wc.cell? ⟨gb344, 0, none⟩ = some (.int .i64 t337) := (blk_cell BK344.out 0).trans rfl
                    have hcz36_1 : wc.cell? ⟨gb344, 1, none⟩ = some (.int .i64 t338) := (blk_cell BK344.out 1).trans rfl
                    have hcz36_2 : wc.cell? ⟨gb344, 2, none⟩ = some (.int .i64 t339) := (blk_cell BK344.out 2).trans rfl
                    have hcz36_3 : wc.cell? ⟨gb344, 3, none⟩ = some (.int .i64 t340) := (blk_cell BK344.out 3).trans rfl
                    have hcz36_4 : wc.cell? ⟨gb344, 4, none⟩ = some (.int .i64 t341) := (blk_cell BK344.out 4).trans rfl
                    have hcz36_5 : wc.cell? ⟨gb344, 5, none⟩ = some (.int .i64 t342) := (blk_cell BK344.out 5).trans rfl
                    have hcz36_6 : wc.cell? ⟨gb344, 6, none⟩ = some (.int .i64 t343) := (blk_cell BK344.out 6).trans rfl
                    have hfz36_0 := blk_frozen BK344.out 0
                    have hfz36_1 := blk_frozen BK344.out 1
                    have hfz36_2 := blk_frozen BK344.out 2
                    have hfz36_3 := blk_frozen BK344.out 3
                    have hfz36_4 := blk_frozen BK344.out 4
                    have hfz36_5 := blk_frozen BK344.out 5
                    have hfz36_6 := blk_frozen BK344.out 6
                    go_wp2_with (first | ((with_reducible refine gate_dst (N := 7) rfl ?_); refine box_event ?hg (N := 7) ?hd (cs := #[.int .i64 0, .int .i64 0, .int .i64 0, .int .i64 0, .int .i64 0, .int .i64 0, .int .i64 0]) (t := 26) ?hr ?_; (case hd => rfl); (case hg => rfl); (case hr => first | (go_simp; done) | (go_simp; rfl)); intro gb348 hg w37 hbox hb; have n0_ := Aside0.mk (blk_below (g := gb344) (o := .cells #[.int .i64 t337, .int .i64 t338, .int .i64 t339, .int .i64 t340, .int .i64 t341, .int .i64 t342, .int .i64 t343] 26 (0, 0)) (by (with_reducible repeat (first | refine blk_drewN ?_ _ | refine blk_drew ?_ | refine blk_alloc ?_ _)); exact BK344.out) hb); have n1_ := Aside0.mk (below_step (by repeat (first | (with_reducible first | exact HB.out | apply below_alloc | apply pw_below_drewN | apply below_drew1 | refine below_set ?_ GE344.out) | exact HB.out)) hb); have n2_ := Aside0.mk (hbox); have n3_ := Aside0.mk ((by rw [hg]; exact (below_size (by repeat (first | (with_reducible first | exact HB.out | apply below_alloc | apply pw_below_drewN | apply below_drew1 | refine below_set ?_ GE344.out) | exact HB.out))) : w.heap.size ≤ gb348)); have n4_ := Aside0.mk ((by rw [hg]; exact (below_size (by repeat (first | (with_reducible first | exact HB.out | apply below_alloc | apply pw_below_drewN | apply below_drew1 | refine below_set ?_ GE344.out) | exact HB.out))) : w.heap.size ≤ gb348)); have n5_ := Aside0.mk ((by rw [hg]; exact Nat.ne_of_lt (blk_lt (g := gb344) (o := .cells #[.int .i64 t337, .int .i64 t338, .int .i64 t339, .int .i64 t340, .int .i64 t341, .int .i64 t342, .int .i64 t343] 26 (0, 0)) (by (with_reducible repeat (first | refine blk_drewN ?_ _ | refine blk_drew ?_ | refine blk_alloc ?_ _)); exact BK344.out)) : gb344 ≠ gb348)); have n6_ := Aside0.mk ((by rw [hg]; exact Nat.ne_of_gt (blk_lt (g := gb344) (o := .cells #[.int .i64 t337, .int .i64 t338, .int .i64 t339, .int .i64 t340, .int .i64 t341, .int .i64 t342, .int .i64 t343] 26 (0, 0)) (by (with_reducible repeat (first | refine blk_drewN ?_ _ | refine blk_drew ?_ | refine blk_alloc ?_ _)); exact BK344.out)) : gb348 ≠ gb344)); clear BK344; clear HB; have BK344 := n0_; have HB := n1_; have BK348 := n2_; have GW348 := n3_; have GE348 := n4_; have NB344_348 := n5_; have NB348_344 := n6_; clear n0_ n1_ n2_ n3_ n4_ n5_ n6_; clear hb hbox hg; have hnb38 := NB348_344.out; have hnc38 := NB344_348.out; have hcz39_0 : w37.cell? ⟨gb348, 0, none⟩ = some (.int .i64 0) := (blk_cell BK348.out 0).trans rfl; have hcz39_1 : w37.cell? ⟨gb348, 1, none⟩ = some (.int .i64 0) := (blk_cell BK348.out 1).trans rfl; have hcz39_2 : w37.cell? ⟨gb348, 2, none⟩ = some (.int .i64 0) := (blk_cell BK348.out 2).trans rfl; have hcz39_3 : w37.cell? ⟨gb348, 3, none⟩ = some (.int .i64 0) := (blk_cell BK348.out 3).trans rfl; have hcz39_4 : w37.cell? ⟨gb348, 4, none⟩ = some (.int .i64 0) := (blk_cell BK348.out 4).trans rfl; have hcz39_5 : w37.cell? ⟨gb348, 5, none⟩ = some (.int .i64 0) := (blk_cell BK348.out 5).trans rfl; have hcz39_6 : w37.cell? ⟨gb348, 6, none⟩ = some (.int .i64 0) := (blk_cell BK348.out 6).trans rfl; have hfz39_0 := blk_frozen BK348.out 0; have hfz39_1 := blk_frozen BK348.out 1; have hfz39_2 := blk_frozen BK348.out 2; have hfz39_3 := blk_frozen BK348.out 3; have hfz39_4 := blk_frozen BK348.out 4; have hfz39_5 := blk_frozen BK348.out 5; have hfz39_6 := blk_frozen BK348.out 6; have hcz40_0 : w37.cell? ⟨gb344, 0, none⟩ = some (.int .i64 t337) := (blk_cell BK344.out 0).trans rfl; have hcz40_1 : w37.cell? ⟨gb344, 1, none⟩ = some (.int .i64 t338) := (blk_cell BK344.out 1).trans rfl; have hcz40_2 : w37.cell? ⟨gb344, 2, none⟩ = some (.int .i64 t339) := (blk_cell BK344.out 2).trans rfl; have hcz40_3 : w37.cell? ⟨gb344, 3, none⟩ = some (.int .i64 t340) := (blk_cell BK344.out 3).trans rfl; have hcz40_4 : w37.cell? ⟨gb344, 4, none⟩ = some (.int .i64 t341) := (blk_cell BK344.out 4).trans rfl; have hcz40_5 : w37.cell? ⟨gb344, 5, none⟩ = some (.int .i64 t342) := (blk_cell BK344.out 5).trans rfl; have hcz40_6 : w37.cell? ⟨gb344, 6, none⟩ = some (.int .i64 t343) := (blk_cell BK344.out 6).trans rfl; have hfz40_0 := blk_frozen BK344.out 0; have hfz40_1 := blk_frozen BK344.out 1; have hfz40_2 := blk_frozen BK344.out 2; have hfz40_3 := blk_frozen BK344.out 3; have hfz40_4 := blk_frozen BK344.out 4; have hfz40_5 := blk_frozen BK344.out 5; have hfz40_6 := blk_frozen BK344.out 6) | ((with_reducible refine gate_callee (f := 12) rfl ?_); refine goesL_ (some 57) rfl rfl Try.func12 (by kernel_rfl) rfl #[.agg #[.int .i64 (1 + ((l1.length : Int) % 60)), .int .i64 t338, .int .i64 t339, .int .i64 t340, .int .i64 t341, .int .i64 t342, .int .i64 t343]] rfl (by (try simp only [List.map_toArray, List.map_cons, List.map_nil]); first | done | rfl | (simp only [List.length_drop, List.length_take]; rfl)) ?_; (with_reducible refine (impl_SealOk.calls (1 + ((l1.length : Int) % 60)) t338 t339 t340 t341 t342 t343 t350 _ A34.out).mono ?_); rintro e w41 ⟨rfl, hb⟩; refine ⟨_, rfl, ?_⟩; have n0_ := Aside0.mk (blk_below (g := gb344) (o := .cells #[.int .i64 t337, .int .i64 t338, .int .i64 t339, .int .i64 t340, .int .i64 t341, .int .i64 t342, .int .i64 t343] 26 (0, 0)) (by (with_reducible repeat (first | refine blk_drewN ?_ _ | refine blk_drew ?_ | refine blk_alloc ?_ _)); refine blk_far ?_ NB344_348.out _; (with_reducible repeat (first | refine blk_drewN ?_ _ | refine blk_drew ?_ | refine blk_alloc ?_ _)); refine blk_far ?_ NB344_348.out _; (with_reducible repeat (first | refine blk_drewN ?_ _ | refine blk_drew ?_ | refine blk_alloc ?_ _)); refine blk_far ?_ NB344_348.out _; (with_reducible repeat (first | refine blk_drewN ?_ _ | refine blk_drew ?_ | refine blk_alloc ?_ _)); refine blk_far ?_ NB344_348.out _; (with_reducible repeat (first | refine blk_drewN ?_ _ | refine blk_drew ?_ | refine blk_alloc ?_ _)); refine blk_far ?_ NB344_348.out _; (with_reducible repeat (first | refine blk_drewN ?_ _ | refine blk_drew ?_ | refine blk_alloc ?_ _)); refine blk_far ?_ NB344_348.out _; (with_reducible repeat (first | refine blk_drewN ?_ _ | refine blk_drew ?_ | refine blk_alloc ?_ _)); refine blk_far ?_ NB344_348.out _; (with_reducible repeat (first | refine blk_drewN ?_ _ | refine blk_drew ?_ | refine blk_alloc ?_ _)); refine blk_far ?_ NB344_348.out _; (with_reducible repeat (first | refine blk_drewN ?_ _ | refine blk_drew ?_ | refine blk_alloc ?_ _)); exact BK344.out) hb); have n1_ := Aside0.mk (blk_below (g := gb348) (o := .cells #[.int .i64 (1 + ((l1.length : Int) % 60)), .int .i64 t338, .int .i64 t339, .int .i64 t340, .int .i64 t341, .int .i64 t342, .int .i64 t343] 26 (0, 0)) (by (with_reducible repeat (first | refine blk_drewN ?_ _ | refine blk_drew ?_ | refine blk_alloc ?_ _)); refine blk_put (cs := #[.int .i64 t337, .int .i64 t338, .int .i64 t339, .int .i64 t340, .int .i64 t341, .int .i64 t342, .int .i64 t343]) ?_ 0 _ rfl; (with_reducible repeat (first | refine blk_drewN ?_ _ | refine blk_drew ?_ | refine blk_alloc ?_ _)); refine blk_put (cs := #[.int .i64 t337, .int .i64 t338, .int .i64 t339, .int .i64 t340, .int .i64 t341, .int .i64 t342, .int .i64 0]) ?_ 6 _ rfl; (with_reducible repeat (first | refine blk_drewN ?_ _ | refine blk_drew ?_ | refine blk_alloc ?_ _)); refine blk_put (cs := #[.int .i64 t337, .int .i64 t338, .int .i64 t339, .int .i64 t340, .int .i64 t341, .int .i64 0, .int .i64 0]) ?_ 5 _ rfl; (with_reducible repeat (first | refine blk_drewN ?_ _ | refine blk_drew ?_ | refine blk_alloc ?_ _)); refine blk_put (cs := #[.int .i64 t337, .int .i64 t338, .int .i64 t339, .int .i64 t340, .int .i64 0, .int .i64 0, .int .i64 0]) ?_ 4 _ rfl; (with_reducible repeat (first | refine blk_drewN ?_ _ | refine blk_drew ?_ | refine blk_alloc ?_ _)); refine blk_put (cs := #[.int .i64 t337, .int .i64 t338, .int .i64 t339, .int .i64 0, .int .i64 0, .int .i64 0, .int .i64 0]) ?_ 3 _ rfl; (with_reducible repeat (first | refine blk_drewN ?_ _ | refine blk_drew ?_ | refine blk_alloc ?_ _)); refine blk_put (cs := #[.int .i64 t337, .int .i64 t338, .int .i64 0, .int .i64 0, .int .i64 0, .int .i64 0, .int .i64 0]) ?_ 2 _ rfl; (with_reducible repeat (first | refine blk_drewN ?_ _ | refine blk_drew ?_ | refine blk_alloc ?_ _)); refine blk_put (cs := #[.int .i64 t337, .int .i64 0, .int .i64 0, .int .i64 0, .int .i64 0, .int .i64 0, .int .i64 0]) ?_ 1 _ rfl; (with_reducible repeat (first | refine blk_drewN ?_ _ | refine blk_drew ?_ | refine blk_alloc ?_ _)); refine blk_put (cs := #[.int .i64 0, .int .i64 0, .int .i64 0, .int .i64 0, .int .i64 0, .int .i64 0, .int .i64 0]) ?_ 0 _ rfl; (with_reducible repeat (first | refine blk_drewN ?_ _ | refine blk_drew ?_ | refine blk_alloc ?_ _)); exact BK348.out) hb); have n2_ := Aside0.mk (below_step (by repeat (first | (with_reducible first | exact HB.out | apply below_alloc | apply pw_below_drewN | apply below_drew1 | refine below_set ?_ GE344.out | refine below_set ?_ GE348.out) | exact HB.out)) hb); clear BK344; clear BK348; clear HB; have BK344 := n0_; have BK348 := n1_; have HB := n2_; clear n0_ n1_ n2_; (try clear hb); (try clear hb2); (try clear hk); (try clear hi)))
                    go_ret
                    exact ⟨by first | rfl | (simp [errW_none, errW_some] <;> rfl) | (simp [*, errW_none, errW_some] <;> rfl), by repeat (first | (with_reducible first | exact HB.out | apply below_alloc | apply pw_below_drewN | apply below_drew1 | refine below_set ?_ GE344.out | refine below_set ?_ GE348.out) | exact HB.out)⟩
                  · rw [if_neg c35] at H
                    have c35b0 : decide (10 ≤ (1 + ((l1.length : Int) % 60))) = false := decide_eq_false c35
                    clear c35
                    obtain rfl := Option.some.inj H
                    have hcz42_0 : wc.cell? ⟨gb344, 0, none⟩ = some (.int .i64 t337) := (blk_cell BK344.out 0).trans rfl
                    have hcz42_1 : wc.cell? ⟨gb344, 1, none⟩ = some (.int .i64 t338) := (blk_cell BK344.out 1).trans rfl
                    have hcz42_2 : wc.cell? ⟨gb344, 2, none⟩ = some (.int .i64 t339) := (blk_cell BK344.out 2).trans rfl
                    have hcz42_3 : wc.cell? ⟨gb344, 3, none⟩ = some (.int .i64 t340) := (blk_cell BK344.out 3).trans rfl
                    have hcz42_4 : wc.cell? ⟨gb344, 4, none⟩ = some (.int .i64 t341) := (blk_cell BK344.out 4).trans rfl
                    have hcz42_5 : wc.cell? ⟨gb344, 5, none⟩ = some (.int .i64 t342) := (blk_cell BK344.out 5).trans rfl
                    have hcz42_6 : wc.cell? ⟨gb344, 6, none⟩ = some (.int .i64 t343) := (blk_cell BK344.out 6).trans rfl
                    have hfz42_0 := blk_frozen BK344.out 0
                    have hfz42_1 := blk_frozen BK344.out 1
                    have hfz42_2 := blk_frozen BK344.out 2
                    have hfz42_3 := blk_frozen BK344.out 3
                    have hfz42_4 := blk_frozen BK344.out 4
                    have hfz42_5 := blk_frozen BK344.out 5
                    have hfz42_6 := blk_frozen BK344.out 6
                    go_wp2_with (first | ((with_reducible refine gate_dst (N := 7) rfl ?_); refine box_event ?hg (N := 7) ?hd (cs := #[.int .i64 0, .int .i64 0, .int .i64 0, .int .i64 0, .int .i64 0, .int .i64 0, .int .i64 0]) (t := 26) ?hr ?_; (case hd => rfl); (case hg => rfl); (case hr => first | (go_simp; done) | (go_simp; rfl)); intro gb348 hg w43 hbox hb; have n0_ := Aside0.mk (blk_below (g := gb344) (o := .cells #[.int .i64 t337, .int .i64 t338, .int .i64 t339, .int .i64 t340, .int .i64 t341, .int .i64 t342, .int .i64 t343] 26 (0, 0)) (by (with_reducible repeat (first | refine blk_drewN ?_ _ | refine blk_drew ?_ | refine blk_alloc ?_ _)); exact BK344.out) hb); have n1_ := Aside0.mk (below_step (by repeat (first | (with_reducible first | exact HB.out | apply below_alloc | apply pw_below_drewN | apply below_drew1 | refine below_set ?_ GE344.out) | exact HB.out)) hb); have n2_ := Aside0.mk (hbox); have n3_ := Aside0.mk ((by rw [hg]; exact (below_size (by repeat (first | (with_reducible first | exact HB.out | apply below_alloc | apply pw_below_drewN | apply below_drew1 | refine below_set ?_ GE344.out) | exact HB.out))) : w.heap.size ≤ gb348)); have n4_ := Aside0.mk ((by rw [hg]; exact (below_size (by repeat (first | (with_reducible first | exact HB.out | apply below_alloc | apply pw_below_drewN | apply below_drew1 | refine below_set ?_ GE344.out) | exact HB.out))) : w.heap.size ≤ gb348)); have n5_ := Aside0.mk ((by rw [hg]; exact Nat.ne_of_lt (blk_lt (g := gb344) (o := .cells #[.int .i64 t337, .int .i64 t338, .int .i64 t339, .int .i64 t340, .int .i64 t341, .int .i64 t342, .int .i64 t343] 26 (0, 0)) (by (with_reducible repeat (first | refine blk_drewN ?_ _ | refine blk_drew ?_ | refine blk_alloc ?_ _)); exact BK344.out)) : gb344 ≠ gb348)); have n6_ := Aside0.mk ((by rw [hg]; exact Nat.ne_of_gt (blk_lt (g := gb344) (o := .cells #[.int .i64 t337, .int .i64 t338, .int .i64 t339, .int .i64 t340, .int .i64 t341, .int .i64 t342, .int .i64 t343] 26 (0, 0)) (by (with_reducible repeat (first | refine blk_drewN ?_ _ | refine blk_drew ?_ | refine blk_alloc ?_ _)); exact BK344.out)) : gb348 ≠ gb344)); clear BK344; clear HB; have BK344 := n0_; have HB := n1_; have BK348 := n2_; have GW348 := n3_; have GE348 := n4_; have NB344_348 := n5_; have NB348_344 := n6_; clear n0_ n1_ n2_ n3_ n4_ n5_ n6_; clear hb hbox hg; have hnb44 := NB348_344.out; have hnc44 := NB344_348.out; have hcz45_0 : w43.cell? ⟨gb348, 0, none⟩ = some (.int .i64 0) := (blk_cell BK348.out 0).trans rfl; have hcz45_1 : w43.cell? ⟨gb348, 1, none⟩ = some (.int .i64 0) := (blk_cell BK348.out 1).trans rfl; have hcz45_2 : w43.cell? ⟨gb348, 2, none⟩ = some (.int .i64 0) := (blk_cell BK348.out 2).trans rfl; have hcz45_3 : w43.cell? ⟨gb348, 3, none⟩ = some (.int .i64 0) := (blk_cell BK348.out 3).trans rfl; have hcz45_4 : w43.cell? ⟨gb348, 4, none⟩ = some (.int .i64 0) := (blk_cell BK348.out 4).trans rfl; have hcz45_5 : w43.cell? ⟨gb348, 5, none⟩ = some (.int .i64 0) := (blk_cell BK348.out 5).trans rfl; have hcz45_6 : w43.cell? ⟨gb348, 6, none⟩ = some (.int .i64 0) := (blk_cell BK348.out 6).trans rfl; have hfz45_0 := blk_frozen BK348.out 0; have hfz45_1 := blk_frozen BK348.out 1; have hfz45_2 := blk_frozen BK348.out 2; have hfz45_3 := blk_frozen BK348.out 3; have hfz45_4 := blk_frozen BK348.out 4; have hfz45_5 := blk_frozen BK348.out 5; have hfz45_6 := blk_frozen BK348.out 6; have hcz46_0 : w43.cell? ⟨gb344, 0, none⟩ = some (.int .i64 t337) := (blk_cell BK344.out 0).trans rfl; have hcz46_1 : w43.cell? ⟨gb344, 1, none⟩ = some (.int .i64 t338) := (blk_cell BK344.out 1).trans rfl; have hcz46_2 : w43.cell? ⟨gb344, 2, none⟩ = some (.int .i64 t339) := (blk_cell BK344.out 2).trans rfl; have hcz46_3 : w43.cell? ⟨gb344, 3, none⟩ = some (.int .i64 t340) := (blk_cell BK344.out 3).trans rfl; have hcz46_4 : w43.cell? ⟨gb344, 4, none⟩ = some (.int .i64 t341) := (blk_cell BK344.out 4).trans rfl; have hcz46_5 : w43.cell? ⟨gb344, 5, none⟩ = some (.int .i64 t342) := (blk_cell BK344.out 5).trans rfl; have hcz46_6 : w43.cell? ⟨gb344, 6, none⟩ = some (.int .i64 t343) := (blk_cell BK344.out 6).trans rfl; have hfz46_0 := blk_frozen BK344.out 0; have hfz46_1 := blk_frozen BK344.out 1; have hfz46_2 := blk_frozen BK344.out 2; have hfz46_3 := blk_frozen BK344.out 3; have hfz46_4 := blk_frozen BK344.out 4; have hfz46_5 := blk_frozen BK344.out 5; have hfz46_6 := blk_frozen BK344.out 6) | ((with_reducible refine gate_callee (f := 12) rfl ?_); refine goesL_ (some 57) rfl rfl Try.func12 (by kernel_rfl) rfl #[.agg #[.int .i64 (1 + ((l1.length : Int) % 60)), .int .i64 t338, .int .i64 t339, .int .i64 t340, .int .i64 t341, .int .i64 t342, .int .i64 t343]] rfl (by (try simp only [List.map_toArray, List.map_cons, List.map_nil]); first | done | rfl | (simp only [List.length_drop, List.length_take]; rfl)) ?_; (with_reducible refine (impl_SealOk.calls (1 + ((l1.length : Int) % 60)) t338 t339 t340 t341 t342 t343 t350 _ A34.out).mono ?_); rintro e w47 ⟨rfl, hb⟩; refine ⟨_, rfl, ?_⟩; have n0_ := Aside0.mk (blk_below (g := gb344) (o := .cells #[.int .i64 t337, .int .i64 t338, .int .i64 t339, .int .i64 t340, .int .i64 t341, .int .i64 t342, .int .i64 t343] 26 (0, 0)) (by (with_reducible repeat (first | refine blk_drewN ?_ _ | refine blk_drew ?_ | refine blk_alloc ?_ _)); refine blk_far ?_ NB344_348.out _; (with_reducible repeat (first | refine blk_drewN ?_ _ | refine blk_drew ?_ | refine blk_alloc ?_ _)); refine blk_far ?_ NB344_348.out _; (with_reducible repeat (first | refine blk_drewN ?_ _ | refine blk_drew ?_ | refine blk_alloc ?_ _)); refine blk_far ?_ NB344_348.out _; (with_reducible repeat (first | refine blk_drewN ?_ _ | refine blk_drew ?_ | refine blk_alloc ?_ _)); refine blk_far ?_ NB344_348.out _; (with_reducible repeat (first | refine blk_drewN ?_ _ | refine blk_drew ?_ | refine blk_alloc ?_ _)); refine blk_far ?_ NB344_348.out _; (with_reducible repeat (first | refine blk_drewN ?_ _ | refine blk_drew ?_ | refine blk_alloc ?_ _)); refine blk_far ?_ NB344_348.out _; (with_reducible repeat (first | refine blk_drewN ?_ _ | refine blk_drew ?_ | refine blk_alloc ?_ _)); refine blk_far ?_ NB344_348.out _; (with_reducible repeat (first | refine blk_drewN ?_ _ | refine blk_drew ?_ | refine blk_alloc ?_ _)); refine blk_far ?_ NB344_348.out _; (with_reducible repeat (first | refine blk_drewN ?_ _ | refine blk_drew ?_ | refine blk_alloc ?_ _)); exact BK344.out) hb); have n1_ := Aside0.mk (blk_below (g := gb348) (o := .cells #[.int .i64 (1 + ((l1.length : Int) % 60)), .int .i64 t338, .int .i64 t339, .int .i64 t340, .int .i64 t341, .int .i64 t342, .int .i64 t343] 26 (0, 0)) (by (with_reducible repeat (first | refine blk_drewN ?_ _ | refine blk_drew ?_ | refine blk_alloc ?_ _)); refine blk_put (cs := #[.int .i64 t337, .int .i64 t338, .int .i64 t339, .int .i64 t340, .int .i64 t341, .int .i64 t342, .int .i64 t343]) ?_ 0 _ rfl; (with_reducible repeat (first | refine blk_drewN ?_ _ | refine blk_drew ?_ | refine blk_alloc ?_ _)); refine blk_put (cs := #[.int .i64 t337, .int .i64 t338, .int .i64 t339, .int .i64 t340, .int .i64 t341, .int .i64 t342, .int .i64 0]) ?_ 6 _ rfl; (with_reducible repeat (first | refine blk_drewN ?_ _ | refine blk_drew ?_ | refine blk_alloc ?_ _)); refine blk_put (cs := #[.int .i64 t337, .int .i64 t338, .int .i64 t339, .int .i64 t340, .int .i64 t341, .int .i64 0, .int .i64 0]) ?_ 5 _ rfl; (with_reducible repeat (first | refine blk_drewN ?_ _ | refine blk_drew ?_ | refine blk_alloc ?_ _)); refine blk_put (cs := #[.int .i64 t337, .int .i64 t338, .int .i64 t339, .int .i64 t340, .int .i64 0, .int .i64 0, .int .i64 0]) ?_ 4 _ rfl; (with_reducible repeat (first | refine blk_drewN ?_ _ | refine blk_drew ?_ | refine blk_alloc ?_ _)); refine blk_put (cs := #[.int .i64 t337, .int .i64 t338, .int .i64 t339, .int .i64 0, .int .i64 0, .int .i64 0, .int .i64 0]) ?_ 3 _ rfl; (with_reducible repeat (first | refine blk_drewN ?_ _ | refine blk_drew ?_ | refine blk_alloc ?_ _)); refine blk_put (cs := #[.int .i64 t337, .int .i64 t338, .int .i64 0, .int .i64 0, .int .i64 0, .int .i64 0, .int .i64 0]) ?_ 2 _ rfl; (with_reducible repeat (first | refine blk_drewN ?_ _ | refine blk_drew ?_ | refine blk_alloc ?_ _)); refine blk_put (cs := #[.int .i64 t337, .int .i64 0, .int .i64 0, .int .i64 0, .int .i64 0, .int .i64 0, .int .i64 0]) ?_ 1 _ rfl; (with_reducible repeat (first | refine blk_drewN ?_ _ | refine blk_drew ?_ | refine blk_alloc ?_ _)); refine blk_put (cs := #[.int .i64 0, .int .i64 0, .int .i64 0, .int .i64 0, .int .i64 0, .int .i64 0, .int .i64 0]) ?_ 0 _ rfl; (with_reducible repeat (first | refine blk_drewN ?_ _ | refine blk_drew ?_ | refine blk_alloc ?_ _)); exact BK348.out) hb); have n2_ := Aside0.mk (below_step (by repeat (first | (with_reducible first | exact HB.out | apply below_alloc | apply pw_below_drewN | apply below_drew1 | refine below_set ?_ GE344.out | refine below_set ?_ GE348.out) | exact HB.out)) hb); clear BK344; clear BK348; clear HB; have BK344 := n0_; have BK348 := n1_; have HB := n2_; clear n0_ n1_ n2_; (try clear hb); (try clear hb2); (try clear hk); (try clear hi); have hcz48_0 : w47.cell? ⟨gb348, 0, none⟩ = some (.int .i64 (1 + ((l1.length : Int) % 60))) := (blk_cell BK348.out 0).trans rfl; have hcz48_1 : w47.cell? ⟨gb348, 1, none⟩ = some (.int .i64 t338) := (blk_cell BK348.out 1).trans rfl; have hcz48_2 : w47.cell? ⟨gb348, 2, none⟩ = some (.int .i64 t339) := (blk_cell BK348.out 2).trans rfl; have hcz48_3 : w47.cell? ⟨gb348, 3, none⟩ = some (.int .i64 t340) := (blk_cell BK348.out 3).trans rfl; have hcz48_4 : w47.cell? ⟨gb348, 4, none⟩ = some (.int .i64 t341) := (blk_cell BK348.out 4).trans rfl; have hcz48_5 : w47.cell? ⟨gb348, 5, none⟩ = some (.int .i64 t342) := (blk_cell BK348.out 5).trans rfl; have hcz48_6 : w47.cell? ⟨gb348, 6, none⟩ = some (.int .i64 t343) := (blk_cell BK348.out 6).trans rfl; have hfz48_0 := blk_frozen BK348.out 0; have hfz48_1 := blk_frozen BK348.out 1; have hfz48_2 := blk_frozen BK348.out 2; have hfz48_3 := blk_frozen BK348.out 3; have hfz48_4 := blk_frozen BK348.out 4; have hfz48_5 := blk_frozen BK348.out 5; have hfz48_6 := blk_frozen BK348.out 6))
                    go_ret
                    exact ⟨by first | rfl | (simp [errW_none, errW_some] <;> rfl) | (simp [*, errW_none, errW_some] <;> rfl), by repeat (first | (with_reducible first | exact HB.out | apply below_alloc | apply pw_below_drewN | apply below_drew1 | refine below_set ?_ GE344.out | refine below_set ?_ GE348.out) | exact HB.out)⟩
                · rw [if_neg c33] at H
                  have c33b0 : (t338 == 2) = false := beq_eq_false_iff_ne.mpr c33
                  have c33b1 : (t338 != 2) = true := bne_iff_ne.mpr c33
                  replace H := Option.bind_eq_some_iff.mp H
                  obtain ⟨t351, A490, H⟩ := H
                  replace H : (some (t351 == (decide ((1 + ((l1.length : Int) % 60)) ≥ 10)))) = some r := H
                  have A49 := Aside0.mk A490
                  clear A490
                  obtain rfl := Option.some.inj H
                  have hcz50_0 : wc.cell? ⟨gb344, 0, none⟩ = some (.int .i64 t337) := (blk_cell BK344.out 0).trans rfl
                  have hcz50_1 : wc.cell? ⟨gb344, 1, none⟩ = some (.int .i64 t338) := (blk_cell BK344.out 1).trans rfl
                  have hcz50_2 : wc.cell? ⟨gb344, 2, none⟩ = some (.int .i64 t339) := (blk_cell BK344.out 2).trans rfl
                  have hcz50_3 : wc.cell? ⟨gb344, 3, none⟩ = some (.int .i64 t340) := (blk_cell BK344.out 3).trans rfl
                  have hcz50_4 : wc.cell? ⟨gb344, 4, none⟩ = some (.int .i64 t341) := (blk_cell BK344.out 4).trans rfl
                  have hcz50_5 : wc.cell? ⟨gb344, 5, none⟩ = some (.int .i64 t342) := (blk_cell BK344.out 5).trans rfl
                  have hcz50_6 : wc.cell? ⟨gb344, 6, none⟩ = some (.int .i64 t343) := (blk_cell BK344.out 6).trans rfl
                  have hfz50_0 := blk_frozen BK344.out 0
                  have hfz50_1 := blk_frozen BK344.out 1
                  have hfz50_2 := blk_frozen BK344.out 2
                  have hfz50_3 := blk_frozen BK344.out 3
                  have hfz50_4 := blk_frozen BK344.out 4
                  have hfz50_5 := blk_frozen BK344.out 5
                  have hfz50_6 := blk_frozen BK344.out 6
                  go_wp2_with (first | ((with_reducible refine gate_dst (N := 7) rfl ?_); refine box_event ?hg (N := 7) ?hd (cs := #[.int .i64 0, .int .i64 0, .int .i64 0, .int .i64 0, .int .i64 0, .int .i64 0, .int .i64 0]) (t := 26) ?hr ?_; (case hd => rfl); (case hg => rfl); (case hr => first | (go_simp; done) | (go_simp; rfl)); intro gb348 hg w51 hbox hb; have n0_ := Aside0.mk (blk_below (g := gb344) (o := .cells #[.int .i64 t337, .int .i64 t338, .int .i64 t339, .int .i64 t340, .int .i64 t341, .int .i64 t342, .int .i64 t343] 26 (0, 0)) (by (with_reducible repeat (first | refine blk_drewN ?_ _ | refine blk_drew ?_ | refine blk_alloc ?_ _)); exact BK344.out) hb); have n1_ := Aside0.mk (below_step (by repeat (first | (with_reducible first | exact HB.out | apply below_alloc | apply pw_below_drewN | apply below_drew1 | refine below_set ?_ GE344.out) | exact HB.out)) hb); have n2_ := Aside0.mk (hbox); have n3_ := Aside0.mk ((by rw [hg]; exact (below_size (by repeat (first | (with_reducible first | exact HB.out | apply below_alloc | apply pw_below_drewN | apply below_drew1 | refine below_set ?_ GE344.out) | exact HB.out))) : w.heap.size ≤ gb348)); have n4_ := Aside0.mk ((by rw [hg]; exact (below_size (by repeat (first | (with_reducible first | exact HB.out | apply below_alloc | apply pw_below_drewN | apply below_drew1 | refine below_set ?_ GE344.out) | exact HB.out))) : w.heap.size ≤ gb348)); have n5_ := Aside0.mk ((by rw [hg]; exact Nat.ne_of_lt (blk_lt (g := gb344) (o := .cells #[.int .i64 t337, .int .i64 t338, .int .i64 t339, .int .i64 t340, .int .i64 t341, .int .i64 t342, .int .i64 t343] 26 (0, 0)) (by (with_reducible repeat (first | refine blk_drewN ?_ _ | refine blk_drew ?_ | refine blk_alloc ?_ _)); exact BK344.out)) : gb344 ≠ gb348)); have n6_ := Aside0.mk ((by rw [hg]; exact Nat.ne_of_gt (blk_lt (g := gb344) (o := .cells #[.int .i64 t337, .int .i64 t338, .int .i64 t339, .int .i64 t340, .int .i64 t341, .int .i64 t342, .int .i64 t343] 26 (0, 0)) (by (with_reducible repeat (first | refine blk_drewN ?_ _ | refine blk_drew ?_ | refine blk_alloc ?_ _)); exact BK344.out)) : gb348 ≠ gb344)); clear BK344; clear HB; have BK344 := n0_; have HB := n1_; have BK348 := n2_; have GW348 := n3_; have GE348 := n4_; have NB344_348 := n5_; have NB348_344 := n6_; clear n0_ n1_ n2_ n3_ n4_ n5_ n6_; clear hb hbox hg; have hnb52 := NB348_344.out; have hnc52 := NB344_348.out; have hcz53_0 : w51.cell? ⟨gb348, 0, none⟩ = some (.int .i64 0) := (blk_cell BK348.out 0).trans rfl; have hcz53_1 : w51.cell? ⟨gb348, 1, none⟩ = some (.int .i64 0) := (blk_cell BK348.out 1).trans rfl; have hcz53_2 : w51.cell? ⟨gb348, 2, none⟩ = some (.int .i64 0) := (blk_cell BK348.out 2).trans rfl; have hcz53_3 : w51.cell? ⟨gb348, 3, none⟩ = some (.int .i64 0) := (blk_cell BK348.out 3).trans rfl; have hcz53_4 : w51.cell? ⟨gb348, 4, none⟩ = some (.int .i64 0) := (blk_cell BK348.out 4).trans rfl; have hcz53_5 : w51.cell? ⟨gb348, 5, none⟩ = some (.int .i64 0) := (blk_cell BK348.out 5).trans rfl; have hcz53_6 : w51.cell? ⟨gb348, 6, none⟩ = some (.int .i64 0) := (blk_cell BK348.out 6).trans rfl; have hfz53_0 := blk_frozen BK348.out 0; have hfz53_1 := blk_frozen BK348.out 1; have hfz53_2 := blk_frozen BK348.out 2; have hfz53_3 := blk_frozen BK348.out 3; have hfz53_4 := blk_frozen BK348.out 4; have hfz53_5 := blk_frozen BK348.out 5; have hfz53_6 := blk_frozen BK348.out 6; have hcz54_0 : w51.cell? ⟨gb344, 0, none⟩ = some (.int .i64 t337) := (blk_cell BK344.out 0).trans rfl; have hcz54_1 : w51.cell? ⟨gb344, 1, none⟩ = some (.int .i64 t338) := (blk_cell BK344.out 1).trans rfl; have hcz54_2 : w51.cell? ⟨gb344, 2, none⟩ = some (.int .i64 t339) := (blk_cell BK344.out 2).trans rfl; have hcz54_3 : w51.cell? ⟨gb344, 3, none⟩ = some (.int .i64 t340) := (blk_cell BK344.out 3).trans rfl; have hcz54_4 : w51.cell? ⟨gb344, 4, none⟩ = some (.int .i64 t341) := (blk_cell BK344.out 4).trans rfl; have hcz54_5 : w51.cell? ⟨gb344, 5, none⟩ = some (.int .i64 t342) := (blk_cell BK344.out 5).trans rfl; have hcz54_6 : w51.cell? ⟨gb344, 6, none⟩ = some (.int .i64 t343) := (blk_cell BK344.out 6).trans rfl; have hfz54_0 := blk_frozen BK344.out 0; have hfz54_1 := blk_frozen BK344.out 1; have hfz54_2 := blk_frozen BK344.out 2; have hfz54_3 := blk_frozen BK344.out 3; have hfz54_4 := blk_frozen BK344.out 4; have hfz54_5 := blk_frozen BK344.out 5; have hfz54_6 := blk_frozen BK344.out 6) | ((with_reducible refine gate_callee (f := 12) rfl ?_); refine goesL_ (some 66) rfl rfl Try.func12 (by kernel_rfl) rfl #[.agg #[.int .i64 (1 + ((l1.length : Int) % 60)), .int .i64 t338, .int .i64 t339, .int .i64 t340, .int .i64 t341, .int .i64 t342, .int .i64 t343]] rfl (by (try simp only [List.map_toArray, List.map_cons, List.map_nil]); first | done | rfl | (simp only [List.length_drop, List.length_take]; rfl)) ?_; (with_reducible refine (impl_SealOk.calls (1 + ((l1.length : Int) % 60)) t338 t339 t340 t341 t342 t343 t351 _ A49.out).mono ?_); rintro e w55 ⟨rfl, hb⟩; refine ⟨_, rfl, ?_⟩; have n0_ := Aside0.mk (blk_below (g := gb344) (o := .cells #[.int .i64 t337, .int .i64 t338, .int .i64 t339, .int .i64 t340, .int .i64 t341, .int .i64 t342, .int .i64 t343] 26 (0, 0)) (by (with_reducible repeat (first | refine blk_drewN ?_ _ | refine blk_drew ?_ | refine blk_alloc ?_ _)); refine blk_far ?_ NB344_348.out _; (with_reducible repeat (first | refine blk_drewN ?_ _ | refine blk_drew ?_ | refine blk_alloc ?_ _)); refine blk_far ?_ NB344_348.out _; (with_reducible repeat (first | refine blk_drewN ?_ _ | refine blk_drew ?_ | refine blk_alloc ?_ _)); refine blk_far ?_ NB344_348.out _; (with_reducible repeat (first | refine blk_drewN ?_ _ | refine blk_drew ?_ | refine blk_alloc ?_ _)); refine blk_far ?_ NB344_348.out _; (with_reducible repeat (first | refine blk_drewN ?_ _ | refine blk_drew ?_ | refine blk_alloc ?_ _)); refine blk_far ?_ NB344_348.out _; (with_reducible repeat (first | refine blk_drewN ?_ _ | refine blk_drew ?_ | refine blk_alloc ?_ _)); refine blk_far ?_ NB344_348.out _; (with_reducible repeat (first | refine blk_drewN ?_ _ | refine blk_drew ?_ | refine blk_alloc ?_ _)); refine blk_far ?_ NB344_348.out _; (with_reducible repeat (first | refine blk_drewN ?_ _ | refine blk_drew ?_ | refine blk_alloc ?_ _)); refine blk_far ?_ NB344_348.out _; (with_reducible repeat (first | refine blk_drewN ?_ _ | refine blk_drew ?_ | refine blk_alloc ?_ _)); exact BK344.out) hb); have n1_ := Aside0.mk (blk_below (g := gb348) (o := .cells #[.int .i64 (1 + ((l1.length : Int) % 60)), .int .i64 t338, .int .i64 t339, .int .i64 t340, .int .i64 t341, .int .i64 t342, .int .i64 t343] 26 (0, 0)) (by (with_reducible repeat (first | refine blk_drewN ?_ _ | refine blk_drew ?_ | refine blk_alloc ?_ _)); refine blk_put (cs := #[.int .i64 t337, .int .i64 t338, .int .i64 t339, .int .i64 t340, .int .i64 t341, .int .i64 t342, .int .i64 t343]) ?_ 0 _ rfl; (with_reducible repeat (first | refine blk_drewN ?_ _ | refine blk_drew ?_ | refine blk_alloc ?_ _)); refine blk_put (cs := #[.int .i64 t337, .int .i64 t338, .int .i64 t339, .int .i64 t340, .int .i64 t341, .int .i64 t342, .int .i64 0]) ?_ 6 _ rfl; (with_reducible repeat (first | refine blk_drewN ?_ _ | refine blk_drew ?_ | refine blk_alloc ?_ _)); refine blk_put (cs := #[.int .i64 t337, .int .i64 t338, .int .i64 t339, .int .i64 t340, .int .i64 t341, .int .i64 0, .int .i64 0]) ?_ 5 _ rfl; (with_reducible repeat (first | refine blk_drewN ?_ _ | refine blk_drew ?_ | refine blk_alloc ?_ _)); refine blk_put (cs := #[.int .i64 t337, .int .i64 t338, .int .i64 t339, .int .i64 t340, .int .i64 0, .int .i64 0, .int .i64 0]) ?_ 4 _ rfl; (with_reducible repeat (first | refine blk_drewN ?_ _ | refine blk_drew ?_ | refine blk_alloc ?_ _)); refine blk_put (cs := #[.int .i64 t337, .int .i64 t338, .int .i64 t339, .int .i64 0, .int .i64 0, .int .i64 0, .int .i64 0]) ?_ 3 _ rfl; (with_reducible repeat (first | refine blk_drewN ?_ _ | refine blk_drew ?_ | refine blk_alloc ?_ _)); refine blk_put (cs := #[.int .i64 t337, .int .i64 t338, .int .i64 0, .int .i64 0, .int .i64 0, .int .i64 0, .int .i64 0]) ?_ 2 _ rfl; (with_reducible repeat (first | refine blk_drewN ?_ _ | refine blk_drew ?_ | refine blk_alloc ?_ _)); refine blk_put (cs := #[.int .i64 t337, .int .i64 0, .int .i64 0, .int .i64 0, .int .i64 0, .int .i64 0, .int .i64 0]) ?_ 1 _ rfl; (with_reducible repeat (first | refine blk_drewN ?_ _ | refine blk_drew ?_ | refine blk_alloc ?_ _)); refine blk_put (cs := #[.int .i64 0, .int .i64 0, .int .i64 0, .int .i64 0, .int .i64 0, .int .i64 0, .int .i64 0]) ?_ 0 _ rfl; (with_reducible repeat (first | refine blk_drewN ?_ _ | refine blk_drew ?_ | refine blk_alloc ?_ _)); exact BK348.out) hb); have n2_ := Aside0.mk (below_step (by repeat (first | (with_reducible first | exact HB.out | apply below_alloc | apply pw_below_drewN | apply below_drew1 | refine below_set ?_ GE344.out | refine below_set ?_ GE348.out) | exact HB.out)) hb); clear BK344; clear BK348; clear HB; have BK344 := n0_; have BK348 := n1_; have HB := n2_; clear n0_ n1_ n2_; (try clear hb); (try clear hb2); (try clear hk); (try clear hi)))
                  go_ret
                  exact ⟨by first | rfl | (simp [errW_none, errW_some] <;> rfl) | (simp [*, errW_none, errW_some] <;> rfl), by repeat (first | (with_reducible first | exact HB.out | apply below_alloc | apply pw_below_drewN | apply below_drew1 | refine below_set ?_ GE344.out | refine below_set ?_ GE348.out) | exact HB.out)⟩

/-- THE ONE PURE STATEMENT of laws_FnSealKey: yours. -/
def laws_FnSealKey.Pure : Prop := ∀ (l0 : List Int) (l1 : List Int), l0.length ≤ maxLen → l0.length * 1 ≤ 140737488351232 → (∀ x ∈ l0, (Lit.int .u8 x).wf = true) → l1.length ≤ maxLen → l1.length * 1 ≤ 140737488351232 → (∀ x ∈ l1, (Lit.int .u8 x).wf = true) → ∃ k, laws_FnSealKey.f k l0 l1 = some true
theorem laws_FnSealKey.walk (P : laws_FnSealKey.Pure) (a0 : Option Addr) (len0 cap0 : Nat) (z0 : List Int) (a1 : Option Addr) (len1 cap1 : Nat) (z1 : List Int) (w : World) (w0 : (a0 = none ∧ len0 = 0 ∧ cap0 = 0 ∧ z0 = []) ∨ ∃ x, a0 = some x ∧ len0 ≤ cap0 ∧ cap0 ≤ maxLen ∧ z0.length = cap0 ∧ (∀ i, i < z0.length → w.cell? (x.add i) = some (.int .u8 (z0.getD i 0))) ∧ ∀ n ∈ z0, (Lit.int .u8 n).wf = true) (y0 : len0 * 1 ≤ 140737488351232) (w1 : (a1 = none ∧ len1 = 0 ∧ cap1 = 0 ∧ z1 = []) ∨ ∃ x, a1 = some x ∧ len1 ≤ cap1 ∧ cap1 ≤ maxLen ∧ z1.length = cap1 ∧ (∀ i, i < z1.length → w.cell? (x.add i) = some (.int .u8 (z1.getD i 0))) ∧ ∀ n ∈ z1, (Lit.int .u8 n).wf = true) (y1 : len1 * 1 ≤ 140737488351232) :
    Calls Try.prog 7 #[.slice a0 len0 cap0, .slice a1 len1 cap1] w fun e w' => e = .returned (.bool true) ∧ Below w.heap.size w w' := by
  obtain ⟨l0, rfl, hr0, hm0, hw0, hc0⟩ := ReadsInt.ofRowC w0
  obtain ⟨l1, rfl, hr1, hm1, hw1, hc1⟩ := ReadsInt.ofRowC w1
  obtain ⟨k, h⟩ := P l0 l1 hm0 y0 hw0 hm1 y1 hw1
  refine (laws_FnSealKey.calls k _ _ l0 _ _ l1 true w (Kd.C_of_reads (d := (0 : Int)) (h1 := fun _ => rfl) hr0) hc0 (Kd.C_of_reads (d := (0 : Int)) (h1 := fun _ => rfl) hr1) hc1 h).mono ?_
  rintro e w' ⟨rfl, hd⟩
  exact ⟨rfl, hd⟩

end Go.Proofs.Ythjllmmocanhgaa.Hp
