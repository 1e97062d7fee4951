-- hp.py
import Derived.Test.YtpdeincniaiajaaHx0
import Derived.Test.YtpdeincniaiajaaHx5
import Derived.Test.YtpdeincniaiajaaHx11
import Derived.Test.YtpdeincniaiajaaHx23
import Derived.Test.YtpdeincniaiajaaHx54
namespace Go.Proofs.Ytpdeincniaiajaa.Hp
open Go.RowKit Go.Proofs.YtpdeincniaiajaaW.PrintWords Go.Proofs.YtpdeincniaiajaaW.PrintLast Go.Proofs.YtpdeincniaiajaaW.PrintMore
attribute [local go_sem] max2_int min2_int max_two min_two max_three min_three max_four min_four   -- for this text's walks alone
set_option linter.unusedVariables false
set_option linter.unusedSimpArgs false
-- squeezed by wip/tools/squeeze.py
theorem z55x3 {P : Prop} (h : P := by (with_reducible repeat (first | refine blk_drewN ?_ _ | refine blk_drew ?_ | refine blk_alloc ?_ _)); exact BK600.out) : P := h
theorem z55x2 {P : Prop} (h : P := by repeat (first | (with_reducible first | exact HB.out | apply below_alloc | apply pw_below_drewN | apply below_drew1) | exact HB.out)) : P := h
theorem z55x1 {P : Prop} (h : P := by (try simp only [List.map_toArray, List.map_cons, List.map_nil]); first | done | rfl | (simp only [List.length_drop, List.length_take]; rfl)) : P := h
theorem z55x0 {P : Prop} (h : P := by repeat (first | (with_reducible first | exact HB.out | apply below_alloc | apply pw_below_drewN | apply below_drew1 | refine below_set ?_ GE600.out) | exact HB.out)) : P := h

/-! ### spec_ServOk: function 41 -/
mutual
def spec_ServOk.j0 : Nat → Bool → Int → Int → List (S57) → List (S125) → Option (Bool)
 | 0, _, _, _, _, _ => none
 | k + 1, x19, x601000, x601001, x601002, x601003 => if x19 = true then (some false) else (spec_ServOk.l0 k 0 x601000 x601001 x601002 x601003)
def spec_ServOk.l0 : Nat → Int → Int → Int → List (S57) → List (S125) → Option (Bool)
 | 0, _, _, _, _, _ => none
 | k + 1, x3, x601000, x601001, x601002, x601003 => if x3 < (x601003.length : Int) then (if 0 ≤ x3 then ((spec_l13Took.f ((rd_T125 x601003 x3).f0) ((rd_T125 x601003 x3).f1) ((rd_T125 x601003 x3).f2) ((rd_T125 x601003 x3).f3)).bind fun t605 => (if t605 = true then (spec_ServOk.l0 k (wrap64 (x3 + 1)) x601000 x601001 x601002 x601003) else (some false))) else (none)) else (some true)
end
def spec_ServOk.f (k : Nat) (a0_0 : Int) (a0_1 : Int) (l0_2 : List (S57)) (l0_3 : List (S125)) : Option (Bool) := (spec_l1Serv.f a0_0).bind fun t601 => (if t601 = true then ((spec_l6In.f a0_1 (-1) 100).bind fun t602 => (if t602 = true then ((spec_l11Cache.f k l0_2).bind fun t603 => (spec_ServOk.j0 k (!t603) a0_0 a0_1 l0_2 l0_3)) else (spec_ServOk.j0 k true a0_0 a0_1 l0_2 l0_3))) else (spec_ServOk.j0 k true a0_0 a0_1 l0_2 l0_3))
theorem spec_ServOk.mono_l : ∀ k, (∀ y0 y1 y2 y3 y4, LeO (spec_ServOk.j0 k y0 y1 y2 y3 y4) (spec_ServOk.j0 (k + 1) y0 y1 y2 y3 y4)) ∧ (∀ y0 y1 y2 y3 y4, LeO (spec_ServOk.l0 k y0 y1 y2 y3 y4) (spec_ServOk.l0 (k + 1) y0 y1 y2 y3 y4))
 | 0 => ⟨fun _ _ _ _ _ r h => by simp [spec_ServOk.j0] at h, fun _ _ _ _ _ r h => by simp [spec_ServOk.l0] at h⟩
 | k + 1 => by
  obtain ⟨ih0, ih1⟩ := spec_ServOk.mono_l k
  refine ⟨?_, ?_⟩
  ·intro y0 y1 y2 y3 y4
   unfold spec_ServOk.j0
   repeat' first
   | (with_reducible exact ih0 _ _ _ _ _)
   | (with_reducible exact ih1 _ _ _ _ _)
   | (with_reducible exact spec_l11Cache.mono _ _)
   | (with_reducible exact LeO.refl _)
   | (with_reducible exact LeO.none _)
   | (with_reducible refine LeO.ite ?_ ?_)
   | (with_reducible refine LeO.bind ?_ (fun _ => ?_))
   | exact ih0 _ _ _ _ _
   | exact ih1 _ _ _ _ _
   | exact spec_l11Cache.mono _ _
   | exact LeO.none _
   | refine LeO.ite ?_ ?_
   | refine LeO.bind ?_ (fun _ => ?_)
  ·intro y0 y1 y2 y3 y4
   unfold spec_ServOk.l0
   repeat' first
   | (with_reducible exact ih0 _ _ _ _ _)
   | (with_reducible exact ih1 _ _ _ _ _)
   | (with_reducible exact spec_l11Cache.mono _ _)
   | (with_reducible exact LeO.refl _)
   | (with_reducible exact LeO.none _)
   | (with_reducible refine LeO.ite ?_ ?_)
   | (with_reducible refine LeO.bind ?_ (fun _ => ?_))
   | exact ih0 _ _ _ _ _
   | exact ih1 _ _ _ _ _
   | exact spec_l11Cache.mono _ _
   | exact LeO.none _
   | refine LeO.ite ?_ ?_
   | refine LeO.bind ?_ (fun _ => ?_)
theorem spec_ServOk.mono : ∀ a0 a1 a2 a3 k, LeO (spec_ServOk.f k a0 a1 a2 a3) (spec_ServOk.f (k + 1) a0 a1 a2 a3) := by
 intro a0 a1 a2 a3 k
 obtain ⟨ih0, ih1⟩ := spec_ServOk.mono_l k
 unfold spec_ServOk.f
 repeat' first
   | (with_reducible exact ih0 _ _ _ _ _)
   | (with_reducible exact ih1 _ _ _ _ _)
   | (with_reducible exact spec_l11Cache.mono _ _)
   | (with_reducible exact LeO.refl _)
   | (with_reducible exact LeO.none _)
   | (with_reducible refine LeO.ite ?_ ?_)
   | (with_reducible refine LeO.bind ?_ (fun _ => ?_))
   | exact ih0 _ _ _ _ _
   | exact ih1 _ _ _ _ _
   | exact spec_l11Cache.mono _ _
   | exact LeO.none _
   | refine LeO.ite ?_ ?_
   | refine LeO.bind ?_ (fun _ => ?_)
set_option maxHeartbeats 8000000 in
set_option maxRecDepth 100000 in
theorem spec_ServOk.calls (k : Nat) (a0_0 : Int) (a0_1 : Int) (A0_2 : Option Addr) (c0_2 : Nat) (l0_2 : List (S57)) (A0_3 : Option Addr) (c0_3 : Nat) (l0_3 : List (S125)) (r : Bool) (w : World) (hr0_2 : Kd.C k57 w A0_2 l0_2.length l0_2) (hc0_2 : l0_2.length ≤ c0_2) (hr0_3 : Kd.C k125 w A0_3 l0_3.length l0_3) (hc0_3 : l0_3.length ≤ c0_3) (h : spec_ServOk.f k a0_0 a0_1 l0_2 l0_3 = some r) :
  Calls Try.prog 41 #[.agg #[.int .i64 a0_0, .int .i64 a0_1, .slice A0_2 l0_2.length c0_2, .slice A0_3 l0_3.length c0_3]] w fun e w' => e = .returned (.bool r) ∧ Below w.heap.size w w' := by
 have hu35 := Try.underlying35
 have hu125 := Try.underlying125
 have HR0_2 := Aside0.mk hr0_2
 have HC0_2 := Aside0.mk hc0_2
 clear hr0_2 hc0_2
 have HR0_3 := Aside0.mk hr0_3
 have HC0_3 := Aside0.mk hc0_3
 clear hr0_3 hc0_3
 have HB := Aside0.mk (Below.refl w.heap.size w)
 have H : ((spec_l1Serv.f a0_0).bind fun t601 => (if t601 = true then ((spec_l6In.f a0_1 (-1) 100).bind fun t602 => (if t602 = true then ((spec_l11Cache.f k l0_2).bind fun t603 => (spec_ServOk.j0 k (!t603) a0_0 a0_1 l0_2 l0_3)) else (spec_ServOk.j0 k true a0_0 a0_1 l0_2 l0_3))) else (spec_ServOk.j0 k true a0_0 a0_1 l0_2 l0_3))) = some r := h
 clear h
 have HC2 := Aside0.mk H
 clear H
 go_enter Try.func41, Try.ntmps41
 go_upto_region 1 with (first | ((with_reducible refine gate_dst (N := 1) rfl ?_); refine box_event ?hg (N := 1) ?hd (cs := #[.int .i64 a0_0, .int .i64 a0_1, .slice A0_2 l0_2.length c0_2, .slice A0_3 l0_3.length c0_3]) (t := 35) ?hr ?_; (case hd => rfl); (case hg => rfl); (case hr => first | (go_simp; done) | (go_simp; rfl)); intro gb600 hg w3 hbox hb; have n0_ := Aside0.mk (below_step z55x2 hb); have n1_ := Aside0.mk (hbox); have n2_ := Aside0.mk ((by rw [hg]; exact (below_size z55x2) : w.heap.size ≤ gb600)); have n3_ := Aside0.mk ((by rw [hg]; exact (below_size z55x2) : w.heap.size ≤ gb600)); clear HB; have HB := n0_; have BK600 := n1_; have GW600 := n2_; have GE600 := n3_; clear n0_ n1_ n2_ n3_; clear hb hbox hg))
 (try simp only [Act.put, List.setIfInBounds_toArray, List.set_cons_zero, List.set_cons_succ])
 go_cut [19] (fun v19 wc => ∃ (kq : Nat) (x19_1 : Bool), v19 = .bool x19_1 ∧ Aside0 (spec_ServOk.j0 kq x19_1 a0_0 a0_1 l0_2 l0_3 = some r) ∧ Aside0 (kq ≤ k) ∧ Aside0 (wc.heap[gb600]? = some (.cells #[.int .i64 a0_0, .int .i64 a0_1, (.slice A0_2 l0_2.length c0_2), (.slice A0_3 l0_3.length c0_3)] 35 (0, 0))) ∧ Aside0 (Below w.heap.size w wc))
 case first =>
  have H := HC2.out
  clear HC2
  replace H := Option.bind_eq_some_iff.mp H
  obtain ⟨t601, A40, H⟩ := H
  replace H : (if t601 = true then ((spec_l6In.f a0_1 (-1) 100).bind fun t602 => (if t602 = true then ((spec_l11Cache.f k l0_2).bind fun t603 => (spec_ServOk.j0 k (!t603) a0_0 a0_1 l0_2 l0_3)) else (spec_ServOk.j0 k true a0_0 a0_1 l0_2 l0_3))) else (spec_ServOk.j0 k true a0_0 a0_1 l0_2 l0_3)) = some r := H
  have A4 := Aside0.mk A40
  clear A40
  by_cases c5 : t601 = true
  ·subst c5
   rw [if_pos rfl] at H
   replace H := Option.bind_eq_some_iff.mp H
   obtain ⟨t602, A60, H⟩ := H
   replace H : (if t602 = true then ((spec_l11Cache.f k l0_2).bind fun t603 => (spec_ServOk.j0 k (!t603) a0_0 a0_1 l0_2 l0_3)) else (spec_ServOk.j0 k true a0_0 a0_1 l0_2 l0_3)) = some r := H
   have A6 := Aside0.mk A60
   clear A60
   by_cases c7 : t602 = true
   ·subst c7
    rw [if_pos rfl] at H
    replace H := Option.bind_eq_some_iff.mp H
    obtain ⟨t603, A80, H⟩ := H
    replace H : (spec_ServOk.j0 k (!t603) a0_0 a0_1 l0_2 l0_3) = some r := H
    have A8 := Aside0.mk A80
    clear A80
    have H' := Aside0.mk H
    clear H
    have hcz9_0 : w3.cell? ⟨gb600, 0, none⟩ = some (.int .i64 a0_0) := (blk_cell BK600.out 0).trans rfl
    have hcz9_1 : w3.cell? ⟨gb600, 1, none⟩ = some (.int .i64 a0_1) := (blk_cell BK600.out 1).trans rfl
    have hcz9_2 : w3.cell? ⟨gb600, 2, none⟩ = some (.slice A0_2 l0_2.length c0_2) := (blk_cell BK600.out 2).trans rfl
    have hcz9_3 : w3.cell? ⟨gb600, 3, none⟩ = some (.slice A0_3 l0_3.length c0_3) := (blk_cell BK600.out 3).trans rfl
    have hfz9_0 := blk_frozen BK600.out 0
    have hfz9_1 := blk_frozen BK600.out 1
    have hfz9_2 := blk_frozen BK600.out 2
    have hfz9_3 := blk_frozen BK600.out 3
    go_wp2_with (first | ((with_reducible refine gate_callee (f := 80) rfl ?_); refine goesL_ (some 6) rfl rfl Try.func80 (by kernel_rfl) rfl #[.int .i64 a0_0] rfl z55x1 ?_; (with_reducible refine (spec_l1Serv.calls a0_0 true _ A4.out).mono ?_); rintro e w' ⟨rfl, ⟨nd, rfl⟩⟩; refine ⟨_, rfl, ?_⟩) | (go_at_call 76; (with_reducible refine (spec_l6In.calls a0_1 (-1) 100 true _ A6.out).mono ?_); rintro e w' ⟨rfl, ⟨nd, rfl⟩⟩) | (go_at_call 77; (with_reducible refine (spec_l11Cache.calls k _ _ l0_2 t603 _ ?side1 ?side2 A8.out).mono ?_); (case side1 => repeat (first | exact (Kd.C_below HR0_2.out z55x0) | (with_reducible refine Kd.C_alloc ?_ _) | (with_reducible refine Kd.C_drewN ?_ _) | (with_reducible refine Kd.C_drew ?_))); (case side2 => exact HC0_2.out); rintro e w10 ⟨rfl, hb⟩; have n0_ := Aside0.mk (blk_below (g := gb600) (o := .cells #[.int .i64 a0_0, .int .i64 a0_1, .slice A0_2 l0_2.length c0_2, .slice A0_3 l0_3.length c0_3] 35 (0, 0)) z55x3 hb); have n1_ := Aside0.mk (below_step z55x0 hb); clear BK600; clear HB; have BK600 := n0_; have HB := n1_; clear n0_ n1_; (try clear hb); (try clear hb2); (try clear hk); (try clear hi)))
    go_meet
    case rel => exact ⟨_, (!t603), (by first | rfl | (simp; done) | (simp [*]; done)), H', ⟨by first | omega | exact Nat.le_refl _⟩, ⟨by (with_reducible repeat (first | refine blk_drewN ?_ _ | refine blk_drew ?_ | refine blk_alloc ?_ _)); exact BK600.out⟩, ⟨by repeat (first | (with_reducible first | exact HB.out | apply below_alloc | apply pw_below_drewN | apply below_drew1 | refine below_set ?_ GE600.out) | exact HB.out)⟩⟩
   ·replace c7 := Bool.eq_false_iff.mpr c7
    subst c7
    rw [if_neg (show ¬ (false = true) by decide)] at H
    have H' := Aside0.mk H
    clear H
    have hcz11_0 : w3.cell? ⟨gb600, 0, none⟩ = some (.int .i64 a0_0) := (blk_cell BK600.out 0).trans rfl
    have hcz11_1 : w3.cell? ⟨gb600, 1, none⟩ = some (.int .i64 a0_1) := (blk_cell BK600.out 1).trans rfl
    have hcz11_2 : w3.cell? ⟨gb600, 2, none⟩ = some (.slice A0_2 l0_2.length c0_2) := (blk_cell BK600.out 2).trans rfl
    have hcz11_3 : w3.cell? ⟨gb600, 3, none⟩ = some (.slice A0_3 l0_3.length c0_3) := (blk_cell BK600.out 3).trans rfl
    have hfz11_0 := blk_frozen BK600.out 0
    have hfz11_1 := blk_frozen BK600.out 1
    have hfz11_2 := blk_frozen BK600.out 2
    have hfz11_3 := blk_frozen BK600.out 3
    go_wp2_with (first | ((with_reducible refine gate_callee (f := 80) rfl ?_); refine goesL_ (some 6) rfl rfl Try.func80 (by kernel_rfl) rfl #[.int .i64 a0_0] rfl z55x1 ?_; (with_reducible refine (spec_l1Serv.calls a0_0 true _ A4.out).mono ?_); rintro e w' ⟨rfl, ⟨nd, rfl⟩⟩; refine ⟨_, rfl, ?_⟩) | (go_at_call 76; (with_reducible refine (spec_l6In.calls a0_1 (-1) 100 false _ A6.out).mono ?_); rintro e w' ⟨rfl, ⟨nd, rfl⟩⟩))
    go_meet
    case rel => exact ⟨_, (true), (by first | rfl | (simp; done) | (simp [*]; done)), H', ⟨by first | omega | exact Nat.le_refl _⟩, ⟨by (with_reducible repeat (first | refine blk_drewN ?_ _ | refine blk_drew ?_ | refine blk_alloc ?_ _)); exact BK600.out⟩, ⟨by repeat (first | (with_reducible first | exact HB.out | apply below_alloc | apply pw_below_drewN | apply below_drew1 | refine below_set ?_ GE600.out) | exact HB.out)⟩⟩
  ·replace c5 := Bool.eq_false_iff.mpr c5
   subst c5
   rw [if_neg (show ¬ (false = true) by decide)] at H
   have H' := Aside0.mk H
   clear H
   have hcz12_0 : w3.cell? ⟨gb600, 0, none⟩ = some (.int .i64 a0_0) := (blk_cell BK600.out 0).trans rfl
   have hcz12_1 : w3.cell? ⟨gb600, 1, none⟩ = some (.int .i64 a0_1) := (blk_cell BK600.out 1).trans rfl
   have hcz12_2 : w3.cell? ⟨gb600, 2, none⟩ = some (.slice A0_2 l0_2.length c0_2) := (blk_cell BK600.out 2).trans rfl
   have hcz12_3 : w3.cell? ⟨gb600, 3, none⟩ = some (.slice A0_3 l0_3.length c0_3) := (blk_cell BK600.out 3).trans rfl
   have hfz12_0 := blk_frozen BK600.out 0
   have hfz12_1 := blk_frozen BK600.out 1
   have hfz12_2 := blk_frozen BK600.out 2
   have hfz12_3 := blk_frozen BK600.out 3
   go_wp2_with (first | ((with_reducible refine gate_callee (f := 80) rfl ?_); refine goesL_ (some 6) rfl rfl Try.func80 (by kernel_rfl) rfl #[.int .i64 a0_0] rfl z55x1 ?_; (with_reducible refine (spec_l1Serv.calls a0_0 false _ A4.out).mono ?_); rintro e w' ⟨rfl, ⟨nd, rfl⟩⟩; refine ⟨_, rfl, ?_⟩))
   go_meet
   case rel => exact ⟨_, (true), (by first | rfl | (simp; done) | (simp [*]; done)), H', ⟨by first | omega | exact Nat.le_refl _⟩, ⟨by (with_reducible repeat (first | refine blk_drewN ?_ _ | refine blk_drew ?_ | refine blk_alloc ?_ _)); exact BK600.out⟩, ⟨by repeat (first | (with_reducible first | exact HB.out | apply below_alloc | apply pw_below_drewN | apply below_drew1 | refine below_set ?_ GE600.out) | exact HB.out)⟩⟩
 case rest =>
  clear HC2
  try clear p2
  try clear c4
  try clear c5
  try clear c7
  try clear c8
  try clear hcz11_0
  try clear hcz11_1
  try clear hcz11_2
  try clear hcz11_3
  try clear hcz12_0
  try clear hcz12_1
  try clear hcz12_2
  try clear hcz12_3
  try clear hcz9_0
  try clear hcz9_1
  try clear hcz9_2
  try clear hcz9_3
  try clear hfz11_0
  try clear hfz11_1
  try clear hfz11_2
  try clear hfz11_3
  try clear hfz12_0
  try clear hfz12_1
  try clear hfz12_2
  try clear hfz12_3
  try clear hfz9_0
  try clear hfz9_1
  try clear hfz9_2
  try clear hfz9_3
  obtain ⟨kq, x19_1, rfl, HA, HJ1, BK600, HB⟩ := hcut
  cases kq with
  | zero => exact absurd HA.out (by simp [spec_ServOk.j0])
  | succ kj1 =>
   have H := HA.out
   clear HA
   simp only [spec_ServOk.j0] at H
   by_cases c13 : x19_1 = true
   ·subst c13
    rw [if_pos rfl] at H
    obtain rfl := Option.some.inj H
    go_wp2
    go_ret
    exact ⟨by first | rfl | (simp [errW_none, errW_some] <;> rfl) | (simp [*, errW_none, errW_some] <;> rfl), by repeat (first | (with_reducible first | exact HB.out | apply below_alloc | apply pw_below_drewN | apply below_drew1 | refine below_set ?_ GE600.out) | exact HB.out)⟩
   ·replace c13 := Bool.eq_false_iff.mpr c13
    subst c13
    rw [if_neg (show ¬ (false = true) by decide)] at H
    have H' := Aside0.mk H
    clear H
    go_wp2
    go_loopg [3] kj1 (fun kq v3 w' => ∃ (x3_2 : Int), v3 = .int .i64 x3_2 ∧ Aside0 (spec_ServOk.l0 kq x3_2 a0_0 a0_1 l0_2 l0_3 = some r) ∧ Aside0 (kq ≤ kj1) ∧ Aside0 (w'.heap[gb600]? = some (.cells #[.int .i64 a0_0, .int .i64 a0_1, (.slice A0_2 l0_2.length c0_2), (.slice A0_3 l0_3.length c0_3)] 35 (0, 0))) ∧ Aside0 (Below w.heap.size w w'))
    case atStart => exact ⟨(0), (by first | rfl | (simp; done) | (simp [*]; done)), H', ⟨Nat.le_refl _⟩, ⟨by (with_reducible repeat (first | refine blk_drewN ?_ _ | refine blk_drew ?_ | refine blk_alloc ?_ _)); exact BK600.out⟩, ⟨by repeat (first | (with_reducible first | exact HB.out | apply below_alloc | apply pw_below_drewN | apply below_drew1 | refine below_set ?_ GE600.out) | exact HB.out)⟩⟩
    case round =>
     clear H'
     try clear c1
     try clear p2
     try clear c4
     try clear c5
     try clear c7
     try clear c8
     try clear c13
     try clear hcz11_0
     try clear hcz11_1
     try clear hcz11_2
     try clear hcz11_3
     try clear hcz12_0
     try clear hcz12_1
     try clear hcz12_2
     try clear hcz12_3
     try clear hcz9_0
     try clear hcz9_1
     try clear hcz9_2
     try clear hcz9_3
     try clear hfz11_0
     try clear hfz11_1
     try clear hfz11_2
     try clear hfz11_3
     try clear hfz12_0
     try clear hfz12_1
     try clear hfz12_2
     try clear hfz12_3
     try clear hfz9_0
     try clear hfz9_1
     try clear hfz9_2
     try clear hfz9_3
     try clear p2
     obtain ⟨x3_2, rfl, HA, HK2, BK600, HB⟩ := hrel
     cases gk with
     | zero => exact absurd HA.out (by simp [spec_ServOk.l0])
     | succ k2 =>
      have H := HA.out
      clear HA
      simp only [spec_ServOk.l0] at H
      by_cases c14 : x3_2 < (l0_3.length : Int)
      ·rw [if_pos c14] at H
       have c14b0 : decide (x3_2 < (l0_3.length : Int)) = true := decide_eq_true c14
       clear c14
       by_cases c15 : 0 ≤ x3_2
       ·rw [if_pos c15] at H
        have c15b0 : decide (0 ≤ x3_2) = true := decide_eq_true c15
        clear c15
        replace H := Option.bind_eq_some_iff.mp H
        obtain ⟨t605, A160, H⟩ := H
        replace H : (if t605 = true then (spec_ServOk.l0 k2 (wrap64 (x3_2 + 1)) a0_0 a0_1 l0_2 l0_3) else (some false)) = some r := H
        have A16 := Aside0.mk A160
        clear A160
        by_cases c17 : t605 = true
        ·subst c17
         rw [if_pos rfl] at H
         have H' := Aside0.mk H
         clear H
         have hcz18_0 : wr.cell? ⟨gb600, 0, none⟩ = some (.int .i64 a0_0) := (blk_cell BK600.out 0).trans rfl
         have hcz18_1 : wr.cell? ⟨gb600, 1, none⟩ = some (.int .i64 a0_1) := (blk_cell BK600.out 1).trans rfl
         have hcz18_2 : wr.cell? ⟨gb600, 2, none⟩ = some (.slice A0_2 l0_2.length c0_2) := (blk_cell BK600.out 2).trans rfl
         have hcz18_3 : wr.cell? ⟨gb600, 3, none⟩ = some (.slice A0_3 l0_3.length c0_3) := (blk_cell BK600.out 3).trans rfl
         have hfz18_0 := blk_frozen BK600.out 0
         have hfz18_1 := blk_frozen BK600.out 1
         have hfz18_2 := blk_frozen BK600.out 2
         have hfz18_3 := blk_frozen BK600.out 3
         have p604 : 0 ≤ (x3_2 : Int) := of_decide_eq_true (by first | (with_reducible assumption) | assumption)
         have q604 : x3_2 < (l0_3.length : Int) := of_decide_eq_true (by first | (with_reducible assumption) | assumption)
         obtain ⟨ad604, e604, hx604_0, hx604_1, hx604_2, hx604_3⟩ := at_T125 HR0_3.out x3_2 p604 q604
         cases e604
         replace hx604_0 := (HB.out.cell (World.block_lt_of_cell? w _ hx604_0)).trans hx604_0
         replace hx604_1 := (HB.out.cell (World.block_lt_of_cell? w _ hx604_1)).trans hx604_1
         replace hx604_2 := (HB.out.cell (World.block_lt_of_cell? w _ hx604_2)).trans hx604_2
         replace hx604_3 := (HB.out.cell (World.block_lt_of_cell? w _ hx604_3)).trans hx604_3
         replace p604 := eq_true p604
         replace q604 := eq_true q604
         go_wp2_with (first | ((with_reducible refine gate_callee (f := 108) rfl ?_); refine goesL_ (some 32) rfl rfl Try.func108 (by kernel_rfl) rfl #[.agg #[.int .i64 ((rd_T125 l0_3 x3_2).f0), .int .i64 ((rd_T125 l0_3 x3_2).f1), .int .i64 ((rd_T125 l0_3 x3_2).f2), .int .i64 ((rd_T125 l0_3 x3_2).f3)]] rfl z55x1 ?_; (with_reducible refine (spec_l13Took.calls ((rd_T125 l0_3 x3_2).f0) ((rd_T125 l0_3 x3_2).f1) ((rd_T125 l0_3 x3_2).f2) ((rd_T125 l0_3 x3_2).f3) true _ A16.out).mono ?_); rintro e w19 ⟨rfl, hb⟩; refine ⟨_, rfl, ?_⟩; have n0_ := Aside0.mk (blk_below (g := gb600) (o := .cells #[.int .i64 a0_0, .int .i64 a0_1, .slice A0_2 l0_2.length c0_2, .slice (some ad604) l0_3.length c0_3] 35 (0, 0)) z55x3 hb); have n1_ := Aside0.mk (below_step z55x0 hb); clear BK600; clear HB; have BK600 := n0_; have HB := n1_; clear n0_ n1_; (try clear hb); (try clear hb2); (try clear hk); (try clear hi)))
         go_roundg k2
         case measure => have := HJ1.out; have := HK2.out; omega
         case rel => exact ⟨(wrap64 (x3_2 + 1)), (by first | rfl | (simp; done) | (simp [*]; done)), H', ⟨by have := HJ1.out; have := HK2.out; omega⟩, ⟨by (with_reducible repeat (first | refine blk_drewN ?_ _ | refine blk_drew ?_ | refine blk_alloc ?_ _)); exact BK600.out⟩, ⟨by repeat (first | (with_reducible first | exact HB.out | apply below_alloc | apply pw_below_drewN | apply below_drew1 | refine below_set ?_ GE600.out) | exact HB.out)⟩⟩
        ·replace c17 := Bool.eq_false_iff.mpr c17
         subst c17
         rw [if_neg (show ¬ (false = true) by decide)] at H
         obtain rfl := Option.some.inj H
         have hcz20_0 : wr.cell? ⟨gb600, 0, none⟩ = some (.int .i64 a0_0) := (blk_cell BK600.out 0).trans rfl
         have hcz20_1 : wr.cell? ⟨gb600, 1, none⟩ = some (.int .i64 a0_1) := (blk_cell BK600.out 1).trans rfl
         have hcz20_2 : wr.cell? ⟨gb600, 2, none⟩ = some (.slice A0_2 l0_2.length c0_2) := (blk_cell BK600.out 2).trans rfl
         have hcz20_3 : wr.cell? ⟨gb600, 3, none⟩ = some (.slice A0_3 l0_3.length c0_3) := (blk_cell BK600.out 3).trans rfl
         have hfz20_0 := blk_frozen BK600.out 0
         have hfz20_1 := blk_frozen BK600.out 1
         have hfz20_2 := blk_frozen BK600.out 2
         have hfz20_3 := blk_frozen BK600.out 3
         have p604 : 0 ≤ (x3_2 : Int) := of_decide_eq_true (by first | (with_reducible assumption) | assumption)
         have q604 : x3_2 < (l0_3.length : Int) := of_decide_eq_true (by first | (with_reducible assumption) | assumption)
         obtain ⟨ad604, e604, hx604_0, hx604_1, hx604_2, hx604_3⟩ := at_T125 HR0_3.out x3_2 p604 q604
         cases e604
         replace hx604_0 := (HB.out.cell (World.block_lt_of_cell? w _ hx604_0)).trans hx604_0
         replace hx604_1 := (HB.out.cell (World.block_lt_of_cell? w _ hx604_1)).trans hx604_1
         replace hx604_2 := (HB.out.cell (World.block_lt_of_cell? w _ hx604_2)).trans hx604_2
         replace hx604_3 := (HB.out.cell (World.block_lt_of_cell? w _ hx604_3)).trans hx604_3
         replace p604 := eq_true p604
         replace q604 := eq_true q604
         go_wp2_with (first | ((with_reducible refine gate_callee (f := 108) rfl ?_); refine goesL_ (some 32) rfl rfl Try.func108 (by kernel_rfl) rfl #[.agg #[.int .i64 ((rd_T125 l0_3 x3_2).f0), .int .i64 ((rd_T125 l0_3 x3_2).f1), .int .i64 ((rd_T125 l0_3 x3_2).f2), .int .i64 ((rd_T125 l0_3 x3_2).f3)]] rfl z55x1 ?_; (with_reducible refine (spec_l13Took.calls ((rd_T125 l0_3 x3_2).f0) ((rd_T125 l0_3 x3_2).f1) ((rd_T125 l0_3 x3_2).f2) ((rd_T125 l0_3 x3_2).f3) false _ A16.out).mono ?_); rintro e w21 ⟨rfl, hb⟩; refine ⟨_, rfl, ?_⟩; have n0_ := Aside0.mk (blk_below (g := gb600) (o := .cells #[.int .i64 a0_0, .int .i64 a0_1, .slice A0_2 l0_2.length c0_2, .slice (some ad604) l0_3.length c0_3] 35 (0, 0)) z55x3 hb); have n1_ := Aside0.mk (below_step z55x0 hb); clear BK600; clear HB; have BK600 := n0_; have HB := n1_; clear n0_ n1_; (try clear hb); (try clear hb2); (try clear hk); (try clear hi)))
         go_ret
         exact ⟨by first | rfl | (simp [errW_none, errW_some] <;> rfl) | (simp [*, errW_none, errW_some] <;> rfl), by repeat (first | (with_reducible first | exact HB.out | apply below_alloc | apply pw_below_drewN | apply below_drew1 | refine below_set ?_ GE600.out) | exact HB.out)⟩
       ·rw [if_neg c15] at H
        exact absurd H (by simp)
      ·rw [if_neg c14] at H
       have c14b0 : decide (x3_2 < (l0_3.length : Int)) = false := decide_eq_false c14
       clear c14
       obtain rfl := Option.some.inj H
       have hcz22_0 : wr.cell? ⟨gb600, 0, none⟩ = some (.int .i64 a0_0) := (blk_cell BK600.out 0).trans rfl
       have hcz22_1 : wr.cell? ⟨gb600, 1, none⟩ = some (.int .i64 a0_1) := (blk_cell BK600.out 1).trans rfl
       have hcz22_2 : wr.cell? ⟨gb600, 2, none⟩ = some (.slice A0_2 l0_2.length c0_2) := (blk_cell BK600.out 2).trans rfl
       have hcz22_3 : wr.cell? ⟨gb600, 3, none⟩ = some (.slice A0_3 l0_3.length c0_3) := (blk_cell BK600.out 3).trans rfl
       have hfz22_0 := blk_frozen BK600.out 0
       have hfz22_1 := blk_frozen BK600.out 1
       have hfz22_2 := blk_frozen BK600.out 2
       have hfz22_3 := blk_frozen BK600.out 3
       go_wp2
       go_ret
       exact ⟨by first | rfl | (simp [errW_none, errW_some] <;> rfl) | (simp [*, errW_none, errW_some] <;> rfl), by repeat (first | (with_reducible first | exact HB.out | apply below_alloc | apply pw_below_drewN | apply below_drew1 | refine below_set ?_ GE600.out) | exact HB.out)⟩

end Go.Proofs.Ytpdeincniaiajaa.Hp
