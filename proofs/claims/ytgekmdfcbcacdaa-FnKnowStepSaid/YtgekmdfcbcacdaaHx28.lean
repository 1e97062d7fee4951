-- hp.py
import Derived.Test.YtgekmdfcbcacdaaHx0
import Derived.Test.YtgekmdfcbcacdaaHx5
import Derived.Test.YtgekmdfcbcacdaaHx8
import Derived.Test.YtgekmdfcbcacdaaHx26
import Derived.Test.YtgekmdfcbcacdaaHx27
namespace Go.Proofs.Ytgekmdfcbcacdaa.Hp
open Go.RowKit Go.Proofs.YtgekmdfcbcacdaaW.PrintWords Go.Proofs.YtgekmdfcbcacdaaW.PrintLast Go.Proofs.YtgekmdfcbcacdaaW.PrintMore
attribute [local go_sem] max2_int min2_int max_two min_two max_three min_three max_four min_four   -- for this text's walks alone
set_option linter.unusedVariables false
set_option linter.unusedSimpArgs false
-- squeezed by wip/tools/squeeze.py
theorem z28x1 {P : Prop} (h : P := by (try simp only [List.map_toArray, List.map_cons, List.map_nil]); first | done | rfl | (simp only [List.length_drop, List.length_take]; rfl)) : P := h
theorem z28x0 {P : Prop} (h : P := by repeat (first | (with_reducible first | exact HB.out | apply below_alloc | apply pw_below_drewN | apply below_drew1 | refine below_set ?_ (IsS158.ge HI449.out)) | exact HB.out)) : P := h

/-! ### spec_DrawKnowKeys: function 26 -/
def spec_DrawKnowKeys.f (k : Nat) (l0 : List Int) : Option (List Int × (List (S41))) := (spec_l6Open.f l0).bind fun bt447 => ((spec_l71Keys.f k bt447.1 bt447.2).bind fun bt450 => ((spec_l71Seals.f k bt447.1 bt450.2).bind fun bt454 => (some (bt450.1, bt454.1))))
theorem spec_DrawKnowKeys.mono : ∀ a0 k, LeO (spec_DrawKnowKeys.f k a0) (spec_DrawKnowKeys.f (k + 1) a0) := by
 intro a0 k
 unfold spec_DrawKnowKeys.f
 repeat' first
   | (with_reducible exact spec_l71Keys.mono _ _ _)
   | (with_reducible exact spec_l71Seals.mono _ _ _)
   | (with_reducible exact LeO.refl _)
   | (with_reducible exact LeO.none _)
   | (with_reducible refine LeO.ite ?_ ?_)
   | (with_reducible refine LeO.bind ?_ (fun _ => ?_))
   | exact spec_l71Keys.mono _ _ _
   | exact spec_l71Seals.mono _ _ _
   | exact LeO.none _
   | refine LeO.ite ?_ ?_
   | refine LeO.bind ?_ (fun _ => ?_)
set_option maxHeartbeats 8000000 in
set_option maxRecDepth 100000 in
theorem spec_DrawKnowKeys.calls (k : Nat) (A0 : Option Addr) (c0 : Nat) (l0 : List Int) (r1 : List Int) (r2 : List (S41)) (w : World) (hr0 : Kd.C (Kd.int .u8) w A0 l0.length l0) (hc0 : l0.length ≤ c0) (h : spec_DrawKnowKeys.f k l0 = some (r1, r2)) :
  Calls Try.prog 26 #[.slice A0 l0.length c0] w fun e w' => ∃ v0_ v1_ : Value, e = .returned (.tuple #[v0_, v1_]) ∧ Kd.R (Kd.int .i64) 3 w' w.heap.size (fun _ => True) v0_ r1 ∧ Kd.R k41 41 w' w.heap.size (fun _ => True) v1_ r2 ∧ Below w.heap.size w w' := by
 have HR0 := Aside0.mk hr0
 have HC0 := Aside0.mk hc0
 clear hr0 hc0
 have HB := Aside0.mk (Below.refl w.heap.size w)
 have H : ((spec_l6Open.f l0).bind fun bt447 => ((spec_l71Keys.f k bt447.1 bt447.2).bind fun bt450 => ((spec_l71Seals.f k bt447.1 bt450.2).bind fun bt454 => (some (bt450.1, bt454.1))))) = some (r1, r2) := h
 clear h
 replace H := Option.bind_eq_some_iff.mp H
 obtain ⟨⟨t447, t448⟩, A20, H⟩ := H
 replace H : ((spec_l71Keys.f k t447 t448).bind fun bt450 => ((spec_l71Seals.f k t447 bt450.2).bind fun bt454 => (some (bt450.1, bt454.1)))) = some (r1, r2) := H
 have A2 := Aside0.mk A20
 clear A20
 replace H := Option.bind_eq_some_iff.mp H
 obtain ⟨⟨t450, t453⟩, A30, H⟩ := H
 replace H : ((spec_l71Seals.f k t447 t453).bind fun bt454 => (some (t450, bt454.1))) = some (r1, r2) := H
 have A3 := Aside0.mk A30
 clear A30
 replace H := Option.bind_eq_some_iff.mp H
 obtain ⟨⟨t454, t457⟩, A40, H⟩ := H
 replace H : (some (t450, t454)) = some (r1, r2) := H
 have A4 := Aside0.mk A40
 clear A40
 simp only [Option.some.injEq, Prod.mk.injEq] at H
 obtain ⟨rfl, rfl⟩ := H
 go_enter Try.func26, Try.ntmps26
 go_wp2_with (first | ((with_reducible refine gate_callee (f := 69) rfl ?_); refine goesL_ (some 6) rfl rfl Try.func69 (by kernel_rfl) rfl #[.slice A0 l0.length c0] rfl z28x1 ?_; (with_reducible refine (spec_l6Open.calls _ _ l0 t447 t448 w _ ?side1 ?side2 ?side3 A2.out).mono ?_); (case side1 => repeat (first | (with_reducible first | exact HB.out | apply below_alloc | apply pw_below_drewN | apply below_drew1) | exact HB.out)); (case side2 => exact HR0.out); (case side3 => exact HC0.out); rintro e w5 ⟨g449, rfl, hi, hb, hb2⟩; refine ⟨_, rfl, ?_⟩; have n0_ := Aside0.mk (hb); have n1_ := Aside0.mk (hi); clear HB; have HB := n0_; have HI449 := n1_; clear n0_ n1_; (try clear hb); (try clear hb2); (try clear hk); (try clear hi)) | ((with_reducible refine gate_callee (f := 93) rfl ?_); refine goesL_ (some 8) rfl rfl Try.func93 (by kernel_rfl) rfl #[.pointer (some ⟨g449, 0, none⟩)] rfl z28x1 ?_; (with_reducible refine (spec_l71Keys.calls k g449 t447 t448 t450 t453 w _ ?side1 ?side2 A3.out).mono ?_); (case side1 => repeat (first | (with_reducible first | exact HI449.out | apply IsS158.alloc | apply IsS158.drewN | apply IsS158.drew | apply IsS158.set_1) | exact HI449.out)); (case side2 => repeat (first | (with_reducible first | exact HB.out | apply below_alloc | apply pw_below_drewN | apply below_drew1 | refine below_set ?_ (IsS158.ge HI449.out)) | exact HB.out)); rintro e w6 ⟨v451, rfl, ho0, hi, hb, hk⟩; refine ⟨_, rfl, ?_⟩; have n0_ := Aside0.mk (Kd.R_lower ho0 (below_size z28x0)); have n1_ := Aside0.mk (hb); have n2_ := Aside0.mk (hi); clear HB; clear HI449; have HO452 := n0_; have HB := n1_; have HI449 := n2_; clear n0_ n1_ n2_; (try clear hb); (try clear hb2); (try clear hk); (try clear hi); (try clear ho0)) | ((with_reducible refine gate_callee (f := 94) rfl ?_); refine goesL_ (some 10) rfl rfl Try.func94 (by kernel_rfl) rfl #[.pointer (some ⟨g449, 0, none⟩)] rfl z28x1 ?_; (with_reducible refine (spec_l71Seals.calls k g449 t447 t453 t454 t457 w _ ?side1 ?side2 A4.out).mono ?_); (case side1 => repeat (first | (with_reducible first | exact HI449.out | apply IsS158.alloc | apply IsS158.drewN | apply IsS158.drew | apply IsS158.set_1) | exact HI449.out)); (case side2 => repeat (first | (with_reducible first | exact HB.out | apply below_alloc | apply pw_below_drewN | apply below_drew1 | refine below_set ?_ (IsS158.ge HI449.out)) | exact HB.out)); rintro e w7 ⟨v455, rfl, ho0, hi, hb, hk⟩; refine ⟨_, rfl, ?_⟩; have n0_ := Aside0.mk (Kd.R_mono (Kd.R_keep (IsS158.apart (show IsS158 w _ g449 t447 t453 from by repeat (first | (with_reducible first | exact HI449.out | apply IsS158.alloc | apply IsS158.drewN | apply IsS158.drew | apply IsS158.set_1) | exact HI449.out)) (by (with_reducible repeat (first | apply Kd.R_alloc | apply Kd.R_drewN | apply Kd.R_drew)); exact HO452.out) (by decide)) hk (fun _ h => h.2)) (fun _ h => h.1)); have n1_ := Aside0.mk (Kd.R_lower ho0 (below_size z28x0)); have n2_ := Aside0.mk (hb); have n3_ := Aside0.mk (hi); clear HO452; clear HB; clear HI449; have HO452 := n0_; have HO456 := n1_; have HB := n2_; have HI449 := n3_; clear n0_ n1_ n2_ n3_; (try clear hb); (try clear hb2); (try clear hk); (try clear hi); (try clear ho0)))
 go_ret2
 exact ⟨_, _, by first | rfl | (simp [errW_none, errW_some] <;> rfl) | (simp [*, errW_none, errW_some] <;> rfl), by (with_reducible repeat (first | apply Kd.R_alloc | apply Kd.R_drewN | apply Kd.R_drew)); exact HO452.out, by (with_reducible repeat (first | apply Kd.R_alloc | apply Kd.R_drewN | apply Kd.R_drew)); exact HO456.out, by repeat (first | (with_reducible first | exact HB.out | apply below_alloc | apply pw_below_drewN | apply below_drew1 | refine below_set ?_ (IsS158.ge HI449.out)) | exact HB.out)⟩

/-! ### impl_ring_has: function 97 -/
/-- Block g is a ring: which keys one has. -/
structure Ring (w : World) (g : Nat) (bs : List Bool) : Prop where
  blk : w.heap[g]? = some (.cells (bs.map Value.bool).toArray 171 (0, 0))
  len : bs.length = 61
theorem Ring.below {w w' : World} {g : Nat} {bs : List Bool} (h : Ring w g bs) (hb : Below w.heap.size w w') : Ring w' g bs :=
  ⟨(hb.block g (Array.getElem?_eq_some_iff.1 h.blk).1).trans h.blk, h.len⟩
theorem Ring.cell {w : World} {g : Nat} {bs : List Bool} (h : Ring w g bs) (i : Nat) (hi : i < 61) : w.cell? ⟨g, i, none⟩ = some (.bool (bs.getD i false)) := by
  rw [blk_cell h.blk i]
  have hl : i < bs.length := by have := h.len; omega
  simp [List.getD_eq_getElem?_getD, List.getElem?_eq_getElem hl]
theorem Ring.frozen {w : World} {g : Nat} {bs : List Bool} (h : Ring w g bs) (i : Nat) : w.frozen? ⟨g, i, none⟩ = false := blk_frozen h.blk i
/-- Is a key there? -/
def ringHas (bs : List Bool) (key : Int) : Bool := decide (1 ≤ key ∧ key ≤ 60) && bs.getD key.toNat false
theorem within_is (n lo hi : Int) : impl_within.f n lo hi = some (decide (lo ≤ n ∧ n ≤ hi)) := by
  unfold impl_within.f
  split
  · simp; omega
  · simp; omega
set_option maxHeartbeats 8000000 in
set_option maxRecDepth 100000 in
theorem impl_ring_has.calls (g : Nat) (bs : List Bool) (key : Int) (w : World) (hR : Ring w g bs) :
    Calls Try.prog 97 #[.pointer (some ⟨g, 0, none⟩), .int .i64 key] w fun e w' => e = .returned (.bool (ringHas bs key)) ∧ Drawn0 w w' := by
  by_cases h : 1 ≤ key ∧ key ≤ 60
  · have HW := Aside0.mk ((within_is key 1 60).trans (by rw [decide_eq_true h]))
    have HH := Aside0.mk (show ringHas bs key = bs.getD key.toNat false by unfold ringHas; rw [decide_eq_true h]; rfl)
    have hc := hR.cell key.toNat (by omega)
    have h1 : 0 ≤ key := by omega
    have h2 : key < 61 := by omega
    clear hR h
    go_enter Try.func97, Try.ntmps97
    go_wp2_with (first | (go_at_call 78; refine (impl_within.calls _ _ _ true _ HW.out).mono ?_; rintro e w1 ⟨rfl, hd⟩; obtain ⟨m, rfl⟩ := hd.out; clear hd))
    go_ret
    exact ⟨by rw [HH.out]; simp, ⟨⟨m, rfl⟩⟩⟩
  · have HW := Aside0.mk ((within_is key 1 60).trans (by rw [decide_eq_false h]))
    have HH := Aside0.mk (show ringHas bs key = false by unfold ringHas; rw [decide_eq_false h]; rfl)
    clear hR h
    go_enter Try.func97, Try.ntmps97
    go_wp2_with (first | (go_at_call 78; refine (impl_within.calls _ _ _ false _ HW.out).mono ?_; rintro e w1 ⟨rfl, hd⟩))
    go_ret
    exact ⟨by rw [HH.out]; rfl, hd⟩

end Go.Proofs.Ytgekmdfcbcacdaa.Hp
