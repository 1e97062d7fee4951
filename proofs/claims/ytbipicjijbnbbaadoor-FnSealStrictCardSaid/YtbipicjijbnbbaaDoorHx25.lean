-- hp.py
import Derived.Test.YtbipicjijbnbbaaDoorHx0
import Derived.Test.YtbipicjijbnbbaaDoorHx2
import Derived.Test.YtbipicjijbnbbaaDoorHx5
import Derived.Test.YtbipicjijbnbbaaDoorHx6
import Derived.Test.YtbipicjijbnbbaaDoorHx15
import Derived.Test.YtbipicjijbnbbaaDoorHx24
namespace Go.Proofs.YtbipicjijbnbbaaDoor.Hp
open Go.RowKit Go.Proofs.YtbipicjijbnbbaaDoorW.PrintWords Go.Proofs.YtbipicjijbnbbaaDoorW.PrintLast Go.Proofs.YtbipicjijbnbbaaDoorW.PrintMore
attribute [local go_sem] max2_int min2_int max_two min_two max_three min_three max_four min_four   -- for this text's walks alone
set_option linter.unusedVariables false
set_option linter.unusedSimpArgs false
-- squeezed by wip/tools/squeeze.py
theorem z25x2 {P : Prop} (h : P := by (try simp only [List.map_toArray, List.map_cons, List.map_nil]); first | done | rfl | (simp only [List.length_drop, List.length_take]; rfl)) : P := h
theorem z25x1 {P : Prop} (h : P := by repeat (first | (with_reducible first | exact HI301.out | apply IsS53.alloc | apply IsS53.drewN | apply IsS53.drew | apply IsS53.set_1) | exact HI301.out)) : P := h
theorem z25x0 {P : Prop} (h : P := by repeat (first | (with_reducible first | exact HB.out | apply below_alloc | apply pw_below_drewN | apply below_drew1 | refine below_set ?_ (IsS53.ge HI301.out)) | exact HB.out)) : P := h

theorem sp1_25 : (⟨#[32]⟩ : ByteArray).size = 1 := rfl
theorem nl1_25 : (⟨#[10]⟩ : ByteArray).size = 1 := rfl
/-! ### spec_DrawSealRead: function 13 -/
def spec_DrawSealRead.f (k : Nat) (l0 : List Int) : Option (ByteArray) := (spec_l6Open.f l0).bind fun bt299 => ((spec_l71Seal.f k bt299.1 bt299.2).bind fun bt302 => ((spec_SealText.f k bt302.1 bt302.2.1 bt302.2.2.1 bt302.2.2.2.1 bt302.2.2.2.2.1 bt302.2.2.2.2.2.1 bt302.2.2.2.2.2.2.1).bind fun t310 => ((spec_l6Rd_pick.f k bt299.1 bt302.2.2.2.2.2.2.2 (wrap64 ((t310.size : Int) + 1))).bind fun bt311 => ((spec_l6Rd_pick.f k bt299.1 bt311.2 7).bind fun bt313 => (if bt313.1 = 0 then (if 0 ≤ bt311.1 then (if bt311.1 ≤ (t310.size : Int) then (some (t310.extract 0 (bt311.1 : Int).toNat)) else (none)) else (none)) else (if bt313.1 = 1 then (if 0 ≤ bt311.1 then (if bt311.1 ≤ (t310.size : Int) then ((spec_l6Rd_of.f k bt299.1 bt313.2 (([(⟨#[48]⟩ : ByteArray), (⟨#[32]⟩ : ByteArray), (⟨#[10]⟩ : ByteArray), (⟨#[57]⟩ : ByteArray), (⟨#[120]⟩ : ByteArray), (⟨#[32, 49]⟩ : ByteArray)] : List ByteArray))).bind fun bt318 => (if (t310.extract 0 (bt311.1 : Int).toNat).size + bt318.1.size ≤ 9223372036854775807 then (if ((t310.extract 0 (bt311.1 : Int).toNat) ++ bt318.1).size + (t310.extract (bt311.1 : Int).toNat t310.size).size ≤ 9223372036854775807 then (some (((t310.extract 0 (bt311.1 : Int).toNat) ++ bt318.1) ++ (t310.extract (bt311.1 : Int).toNat t310.size))) else (none)) else (none))) else (none)) else (none)) else (some t310)))))))
theorem spec_DrawSealRead.mono : ∀ a0 k, LeO (spec_DrawSealRead.f k a0) (spec_DrawSealRead.f (k + 1) a0) := by
 intro a0 k
 unfold spec_DrawSealRead.f
 repeat' first
   | (with_reducible exact spec_SealText.mono _ _ _ _ _ _ _ _)
   | (with_reducible exact spec_l6Rd_of.mono _ _ _ _)
   | (with_reducible exact spec_l6Rd_pick.mono _ _ _ _)
   | (with_reducible exact spec_l71Seal.mono _ _ _)
   | (with_reducible exact LeO.refl _)
   | (with_reducible exact LeO.none _)
   | (with_reducible refine LeO.ite ?_ ?_)
   | (with_reducible refine LeO.bind ?_ (fun _ => ?_))
   | exact spec_SealText.mono _ _ _ _ _ _ _ _
   | exact spec_l6Rd_of.mono _ _ _ _
   | exact spec_l6Rd_pick.mono _ _ _ _
   | exact spec_l71Seal.mono _ _ _
   | exact LeO.none _
   | refine LeO.ite ?_ ?_
   | refine LeO.bind ?_ (fun _ => ?_)
def spec_DrawSealRead.T8 : Bool × List (List Nat × List Nat) := (true, [([], []), ([], []), ([0, 1], [0, 1]), ([], []), ([], []), ([3, 4], [3, 4]), ([2, 5], [2, 5]), ([], []), ([], []), ([7, 8], [7, 8]), ([6, 9], [6, 9]), ([10, 5, 0, 1, 2, 3, 4, 5, 6, 7, 8, 9, 10], [10])])
def spec_DrawSealRead.B8 : List Nat := [0, 0, 3, 0, 0, 24, 63, 0, 0, 384, 1023, 2047]
theorem spec_DrawSealRead.tab8 : rtab .any (opsOf Tryd.f13 8) = spec_DrawSealRead.T8 := by kernel_rfl
theorem spec_DrawSealRead.bits8 : waitsOk spec_DrawSealRead.T8.2 spec_DrawSealRead.B8 = true := by kernel_rfl
set_option maxHeartbeats 8000000 in
set_option maxRecDepth 100000 in
theorem spec_DrawSealRead.calls (k : Nat) (A0 : Option Addr) (c0 : Nat) (l0 : List Int) (r : ByteArray) (w : World) (hr0 : Kd.C (Kd.int .u8) w A0 l0.length l0) (hc0 : l0.length ≤ c0) (h : spec_DrawSealRead.f k l0 = some r) :
  Calls Tryd.prog 13 #[.slice A0 l0.length c0] w fun e w' => e = .returned (.string r) ∧ Below w.heap.size w w' := by
 have HR0 := Aside0.mk hr0
 have HC0 := Aside0.mk hc0
 clear hr0 hc0
 have HB := Aside0.mk (Below.refl w.heap.size w)
 have H : ((spec_l6Open.f l0).bind fun bt299 => ((spec_l71Seal.f k bt299.1 bt299.2).bind fun bt302 => ((spec_SealText.f k bt302.1 bt302.2.1 bt302.2.2.1 bt302.2.2.2.1 bt302.2.2.2.2.1 bt302.2.2.2.2.2.1 bt302.2.2.2.2.2.2.1).bind fun t310 => ((spec_l6Rd_pick.f k bt299.1 bt302.2.2.2.2.2.2.2 (wrap64 ((t310.size : Int) + 1))).bind fun bt311 => ((spec_l6Rd_pick.f k bt299.1 bt311.2 7).bind fun bt313 => (if bt313.1 = 0 then (if 0 ≤ bt311.1 then (if bt311.1 ≤ (t310.size : Int) then (some (t310.extract 0 (bt311.1 : Int).toNat)) else (none)) else (none)) else (if bt313.1 = 1 then (if 0 ≤ bt311.1 then (if bt311.1 ≤ (t310.size : Int) then ((spec_l6Rd_of.f k bt299.1 bt313.2 (([(⟨#[48]⟩ : ByteArray), (⟨#[32]⟩ : ByteArray), (⟨#[10]⟩ : ByteArray), (⟨#[57]⟩ : ByteArray), (⟨#[120]⟩ : ByteArray), (⟨#[32, 49]⟩ : ByteArray)] : List ByteArray))).bind fun bt318 => (if (t310.extract 0 (bt311.1 : Int).toNat).size + bt318.1.size ≤ 9223372036854775807 then (if ((t310.extract 0 (bt311.1 : Int).toNat) ++ bt318.1).size + (t310.extract (bt311.1 : Int).toNat t310.size).size ≤ 9223372036854775807 then (some (((t310.extract 0 (bt311.1 : Int).toNat) ++ bt318.1) ++ (t310.extract (bt311.1 : Int).toNat t310.size))) else (none)) else (none))) else (none)) else (none)) else (some t310)))))))) = some r := h
 clear h
 replace H := Option.bind_eq_some_iff.mp H
 obtain ⟨⟨t299, t300⟩, A20, H⟩ := H
 replace H : ((spec_l71Seal.f k t299 t300).bind fun bt302 => ((spec_SealText.f k bt302.1 bt302.2.1 bt302.2.2.1 bt302.2.2.2.1 bt302.2.2.2.2.1 bt302.2.2.2.2.2.1 bt302.2.2.2.2.2.2.1).bind fun t310 => ((spec_l6Rd_pick.f k t299 bt302.2.2.2.2.2.2.2 (wrap64 ((t310.size : Int) + 1))).bind fun bt311 => ((spec_l6Rd_pick.f k t299 bt311.2 7).bind fun bt313 => (if bt313.1 = 0 then (if 0 ≤ bt311.1 then (if bt311.1 ≤ (t310.size : Int) then (some (t310.extract 0 (bt311.1 : Int).toNat)) else (none)) else (none)) else (if bt313.1 = 1 then (if 0 ≤ bt311.1 then (if bt311.1 ≤ (t310.size : Int) then ((spec_l6Rd_of.f k t299 bt313.2 (([(⟨#[48]⟩ : ByteArray), (⟨#[32]⟩ : ByteArray), (⟨#[10]⟩ : ByteArray), (⟨#[57]⟩ : ByteArray), (⟨#[120]⟩ : ByteArray), (⟨#[32, 49]⟩ : ByteArray)] : List ByteArray))).bind fun bt318 => (if (t310.extract 0 (bt311.1 : Int).toNat).size + bt318.1.size ≤ 9223372036854775807 then (if ((t310.extract 0 (bt311.1 : Int).toNat) ++ bt318.1).size + (t310.extract (bt311.1 : Int).toNat t310.size).size ≤ 9223372036854775807 then (some (((t310.extract 0 (bt311.1 : Int).toNat) ++ bt318.1) ++ (t310.extract (bt311.1 : Int).toNat t310.size))) else (none)) else (none))) else (none)) else (none)) else (some t310))))))) = some r := H
 have A2 := Aside0.mk A20
 clear A20
 replace H := Option.bind_eq_some_iff.mp H
 obtain ⟨⟨t302, t303, t304, t305, t306, t307, t308, t309⟩, A30, H⟩ := H
 replace H : ((spec_SealText.f k t302 t303 t304 t305 t306 t307 t308).bind fun t310 => ((spec_l6Rd_pick.f k t299 t309 (wrap64 ((t310.size : Int) + 1))).bind fun bt311 => ((spec_l6Rd_pick.f k t299 bt311.2 7).bind fun bt313 => (if bt313.1 = 0 then (if 0 ≤ bt311.1 then (if bt311.1 ≤ (t310.size : Int) then (some (t310.extract 0 (bt311.1 : Int).toNat)) else (none)) else (none)) else (if bt313.1 = 1 then (if 0 ≤ bt311.1 then (if bt311.1 ≤ (t310.size : Int) then ((spec_l6Rd_of.f k t299 bt313.2 (([(⟨#[48]⟩ : ByteArray), (⟨#[32]⟩ : ByteArray), (⟨#[10]⟩ : ByteArray), (⟨#[57]⟩ : ByteArray), (⟨#[120]⟩ : ByteArray), (⟨#[32, 49]⟩ : ByteArray)] : List ByteArray))).bind fun bt318 => (if (t310.extract 0 (bt311.1 : Int).toNat).size + bt318.1.size ≤ 9223372036854775807 then (if ((t310.extract 0 (bt311.1 : Int).toNat) ++ bt318.1).size + (t310.extract (bt311.1 : Int).toNat t310.size).size ≤ 9223372036854775807 then (some (((t310.extract 0 (bt311.1 : Int).toNat) ++ bt318.1) ++ (t310.extract (bt311.1 : Int).toNat t310.size))) else (none)) else (none))) else (none)) else (none)) else (some t310)))))) = some r := H
 have A3 := Aside0.mk A30
 clear A30
 replace H := Option.bind_eq_some_iff.mp H
 obtain ⟨t310, A40, H⟩ := H
 replace H : ((spec_l6Rd_pick.f k t299 t309 (wrap64 ((t310.size : Int) + 1))).bind fun bt311 => ((spec_l6Rd_pick.f k t299 bt311.2 7).bind fun bt313 => (if bt313.1 = 0 then (if 0 ≤ bt311.1 then (if bt311.1 ≤ (t310.size : Int) then (some (t310.extract 0 (bt311.1 : Int).toNat)) else (none)) else (none)) else (if bt313.1 = 1 then (if 0 ≤ bt311.1 then (if bt311.1 ≤ (t310.size : Int) then ((spec_l6Rd_of.f k t299 bt313.2 (([(⟨#[48]⟩ : ByteArray), (⟨#[32]⟩ : ByteArray), (⟨#[10]⟩ : ByteArray), (⟨#[57]⟩ : ByteArray), (⟨#[120]⟩ : ByteArray), (⟨#[32, 49]⟩ : ByteArray)] : List ByteArray))).bind fun bt318 => (if (t310.extract 0 (bt311.1 : Int).toNat).size + bt318.1.size ≤ 9223372036854775807 then (if ((t310.extract 0 (bt311.1 : Int).toNat) ++ bt318.1).size + (t310.extract (bt311.1 : Int).toNat t310.size).size ≤ 9223372036854775807 then (some (((t310.extract 0 (bt311.1 : Int).toNat) ++ bt318.1) ++ (t310.extract (bt311.1 : Int).toNat t310.size))) else (none)) else (none))) else (none)) else (none)) else (some t310))))) = some r := H
 have A4 := Aside0.mk A40
 clear A40
 replace H := Option.bind_eq_some_iff.mp H
 obtain ⟨⟨t311, t312⟩, A50, H⟩ := H
 replace H : ((spec_l6Rd_pick.f k t299 t312 7).bind fun bt313 => (if bt313.1 = 0 then (if 0 ≤ t311 then (if t311 ≤ (t310.size : Int) then (some (t310.extract 0 (t311 : Int).toNat)) else (none)) else (none)) else (if bt313.1 = 1 then (if 0 ≤ t311 then (if t311 ≤ (t310.size : Int) then ((spec_l6Rd_of.f k t299 bt313.2 (([(⟨#[48]⟩ : ByteArray), (⟨#[32]⟩ : ByteArray), (⟨#[10]⟩ : ByteArray), (⟨#[57]⟩ : ByteArray), (⟨#[120]⟩ : ByteArray), (⟨#[32, 49]⟩ : ByteArray)] : List ByteArray))).bind fun bt318 => (if (t310.extract 0 (t311 : Int).toNat).size + bt318.1.size ≤ 9223372036854775807 then (if ((t310.extract 0 (t311 : Int).toNat) ++ bt318.1).size + (t310.extract (t311 : Int).toNat t310.size).size ≤ 9223372036854775807 then (some (((t310.extract 0 (t311 : Int).toNat) ++ bt318.1) ++ (t310.extract (t311 : Int).toNat t310.size))) else (none)) else (none))) else (none)) else (none)) else (some t310)))) = some r := H
 have A5 := Aside0.mk A50
 clear A50
 replace H := Option.bind_eq_some_iff.mp H
 obtain ⟨⟨t313, t314⟩, A60, H⟩ := H
 replace H : (if t313 = 0 then (if 0 ≤ t311 then (if t311 ≤ (t310.size : Int) then (some (t310.extract 0 (t311 : Int).toNat)) else (none)) else (none)) else (if t313 = 1 then (if 0 ≤ t311 then (if t311 ≤ (t310.size : Int) then ((spec_l6Rd_of.f k t299 t314 (([(⟨#[48]⟩ : ByteArray), (⟨#[32]⟩ : ByteArray), (⟨#[10]⟩ : ByteArray), (⟨#[57]⟩ : ByteArray), (⟨#[120]⟩ : ByteArray), (⟨#[32, 49]⟩ : ByteArray)] : List ByteArray))).bind fun bt318 => (if (t310.extract 0 (t311 : Int).toNat).size + bt318.1.size ≤ 9223372036854775807 then (if ((t310.extract 0 (t311 : Int).toNat) ++ bt318.1).size + (t310.extract (t311 : Int).toNat t310.size).size ≤ 9223372036854775807 then (some (((t310.extract 0 (t311 : Int).toNat) ++ bt318.1) ++ (t310.extract (t311 : Int).toNat t310.size))) else (none)) else (none))) else (none)) else (none)) else (some t310))) = some r := H
 have A6 := Aside0.mk A60
 clear A60
 by_cases c7 : t313 = 0
 ·rw [if_pos c7] at H
  have c7b0 : (t313 == 0) = true := beq_iff_eq.mpr c7
  have c7b1 : (t313 != 0) = false := bne_eq_false_iff_eq.mpr c7
  clear c7
  by_cases c8 : 0 ≤ t311
  ·rw [if_pos c8] at H
   have c8b0 := eq_true c8
   have c8b1 : decide (0 ≤ t311) = true := decide_eq_true c8
   clear c8
   by_cases c9 : t311 ≤ (t310.size : Int)
   ·rw [if_pos c9] at H
    have c9b0 := eq_true c9
    have c9b1 : decide (t311 ≤ (t310.size : Int)) = true := decide_eq_true c9
    clear c9
    obtain rfl := Option.some.inj H
    go_enter Tryd.func13, Tryd.ntmps13
    go_wp2_with (first | ((with_reducible refine gate_callee (f := 16) rfl ?_); refine goesL_ (some 7) rfl rfl Tryd.func16 (by kernel_rfl) rfl #[.slice A0 l0.length c0] rfl z25x2 ?_; (with_reducible refine (spec_l6Open.calls _ _ l0 t299 t300 w _ ?side1 ?side2 ?side3 A2.out).mono ?_); (case side1 => repeat (first | (with_reducible first | exact HB.out | apply below_alloc | apply pw_below_drewN | apply below_drew1) | exact HB.out)); (case side2 => exact HR0.out); (case side3 => exact HC0.out); rintro e w10 ⟨g301, rfl, hi, hb, hb2⟩; refine ⟨_, rfl, ?_⟩; have n0_ := Aside0.mk (hb); have n1_ := Aside0.mk (hi); clear HB; have HB := n0_; have HI301 := n1_; clear n0_ n1_; (try clear hb); (try clear hb2); (try clear hk); (try clear hi)) | ((with_reducible refine gate_callee (f := 15) rfl ?_); refine goesL_ (some 9) rfl rfl Tryd.func15 (by kernel_rfl) rfl #[.pointer (some ⟨g301, 0, none⟩)] rfl z25x2 ?_; (with_reducible refine (spec_l71Seal.calls k g301 t299 t300 t302 t303 t304 t305 t306 t307 t308 t309 w _ ?side1 ?side2 A3.out).mono ?_); (case side1 => repeat (first | (with_reducible first | exact HI301.out | apply IsS53.alloc | apply IsS53.drewN | apply IsS53.drew | apply IsS53.set_1) | exact HI301.out)); (case side2 => repeat (first | (with_reducible first | exact HB.out | apply below_alloc | apply pw_below_drewN | apply below_drew1 | refine below_set ?_ (IsS53.ge HI301.out)) | exact HB.out)); rintro e w11 ⟨rfl, hi, hb, hk⟩; refine ⟨_, rfl, ?_⟩; have n0_ := Aside0.mk (hb); have n1_ := Aside0.mk (hi); clear HB; clear HI301; have HB := n0_; have HI301 := n1_; clear n0_ n1_; (try clear hb); (try clear hb2); (try clear hk); (try clear hi)) | ((with_reducible refine gate_callee (f := 9) rfl ?_); refine goesL_ (some 10) rfl rfl Tryd.func9 (by kernel_rfl) rfl #[.agg #[.int .i64 t302, .int .i64 t303, .int .i64 t304, .int .i64 t305, .int .i64 t306, .int .i64 t307, .int .i64 t308]] rfl z25x2 ?_; (with_reducible refine (spec_SealText.calls k t302 t303 t304 t305 t306 t307 t308 t310 _ A4.out).mono ?_); rintro e w12 ⟨rfl, hb⟩; refine ⟨_, rfl, ?_⟩; have n0_ := Aside0.mk (IsS53.below z25x1 hb); have n1_ := Aside0.mk (below_step z25x0 hb); clear HI301; clear HB; have HI301 := n0_; have HB := n1_; clear n0_ n1_; (try clear hb); (try clear hb2); (try clear hk); (try clear hi)) | ((with_reducible refine gate_callee (f := 26) rfl ?_); refine goesL_ (some 15) rfl rfl Tryd.func26 (by kernel_rfl) rfl #[.pointer (some ⟨g301, 0, none⟩), .int .i64 (wrap64 ((t310.size : Int) + 1))] rfl z25x2 ?_; (with_reducible refine (spec_l6Rd_pick.calls k g301 t299 t309 (wrap64 ((t310.size : Int) + 1)) t311 t312 w _ ?side1 ?side2 A5.out).mono ?_); (case side1 => repeat (first | (with_reducible first | exact HI301.out | apply IsS53.alloc | apply IsS53.drewN | apply IsS53.drew | apply IsS53.set_1) | exact HI301.out)); (case side2 => repeat (first | (with_reducible first | exact HB.out | apply below_alloc | apply pw_below_drewN | apply below_drew1 | refine below_set ?_ (IsS53.ge HI301.out)) | exact HB.out)); rintro e w13 ⟨rfl, hi, hb, hk⟩; refine ⟨_, rfl, ?_⟩; have n0_ := Aside0.mk (hb); have n1_ := Aside0.mk (hi); clear HB; clear HI301; have HB := n0_; have HI301 := n1_; clear n0_ n1_; (try clear hb); (try clear hb2); (try clear hk); (try clear hi)) | ((with_reducible refine gate_callee (f := 26) rfl ?_); refine goesL_ (some 17) rfl rfl Tryd.func26 (by kernel_rfl) rfl #[.pointer (some ⟨g301, 0, none⟩), .int .i64 7] rfl z25x2 ?_; (with_reducible refine (spec_l6Rd_pick.calls k g301 t299 t312 7 t313 t314 w _ ?side1 ?side2 A6.out).mono ?_); (case side1 => repeat (first | (with_reducible first | exact HI301.out | apply IsS53.alloc | apply IsS53.drewN | apply IsS53.drew | apply IsS53.set_1) | exact HI301.out)); (case side2 => repeat (first | (with_reducible first | exact HB.out | apply below_alloc | apply pw_below_drewN | apply below_drew1 | refine below_set ?_ (IsS53.ge HI301.out)) | exact HB.out)); rintro e w14 ⟨rfl, hi, hb, hk⟩; refine ⟨_, rfl, ?_⟩; have n0_ := Aside0.mk (hb); have n1_ := Aside0.mk (hi); clear HB; clear HI301; have HB := n0_; have HI301 := n1_; clear n0_ n1_; (try clear hb); (try clear hb2); (try clear hk); (try clear hi)))
    go_ret
    exact ⟨by first | rfl | (simp [errW_none, errW_some] <;> rfl) | (simp [*, errW_none, errW_some] <;> rfl), by repeat (first | (with_reducible first | exact HB.out | apply below_alloc | apply pw_below_drewN | apply below_drew1 | refine below_set ?_ (IsS53.ge HI301.out)) | exact HB.out)⟩
   ·rw [if_neg c9] at H
    exact absurd H (by simp)
  ·rw [if_neg c8] at H
   exact absurd H (by simp)
 ·rw [if_neg c7] at H
  have c7b0 : (t313 == 0) = false := beq_eq_false_iff_ne.mpr c7
  have c7b1 : (t313 != 0) = true := bne_iff_ne.mpr c7
  by_cases c15 : t313 = 1
  ·rw [if_pos c15] at H
   have c15b0 : (t313 == 1) = true := beq_iff_eq.mpr c15
   have c15b1 : (t313 != 1) = false := bne_eq_false_iff_eq.mpr c15
   clear c15
   by_cases c16 : 0 ≤ t311
   ·rw [if_pos c16] at H
    have c16b0 := eq_true c16
    have c16b1 : decide (0 ≤ t311) = true := decide_eq_true c16
    clear c16
    by_cases c17 : t311 ≤ (t310.size : Int)
    ·rw [if_pos c17] at H
     have c17b0 := eq_true c17
     have c17b1 : decide (t311 ≤ (t310.size : Int)) = true := decide_eq_true c17
     clear c17
     obtain ⟨y315, hy315⟩ : ∃ y_ : List ByteArray, y_ = (([(⟨#[48]⟩ : ByteArray), (⟨#[32]⟩ : ByteArray), (⟨#[10]⟩ : ByteArray), (⟨#[57]⟩ : ByteArray), (⟨#[120]⟩ : ByteArray), (⟨#[32, 49]⟩ : ByteArray)] : List ByteArray)) := ⟨_, rfl⟩
     replace H : ((spec_l6Rd_of.f k t299 t314 y315).bind fun bt318 => (if (t310.extract 0 (t311 : Int).toNat).size + bt318.1.size ≤ 9223372036854775807 then (if ((t310.extract 0 (t311 : Int).toNat) ++ bt318.1).size + (t310.extract (t311 : Int).toNat t310.size).size ≤ 9223372036854775807 then (some (((t310.extract 0 (t311 : Int).toNat) ++ bt318.1) ++ (t310.extract (t311 : Int).toNat t310.size))) else (none)) else (none))) = some r := by first | (rw [hy315]; with_reducible exact H) | (have H2_ := (Option.bind_some _ _).symm.trans H; rw [hy315]; with_reducible exact H2_) | (have H2_ := (Option.bind_some _ _).symm.trans H; with_reducible exact H2_) | with_reducible exact H | (rw [hy315]; exact H) | exact H
     have Ny315 := Aside0.mk hy315
     clear hy315
     replace H := Option.bind_eq_some_iff.mp H
     obtain ⟨⟨t318, t319⟩, A180, H⟩ := H
     replace H : (if (t310.extract 0 (t311 : Int).toNat).size + t318.size ≤ 9223372036854775807 then (if ((t310.extract 0 (t311 : Int).toNat) ++ t318).size + (t310.extract (t311 : Int).toNat t310.size).size ≤ 9223372036854775807 then (some (((t310.extract 0 (t311 : Int).toNat) ++ t318) ++ (t310.extract (t311 : Int).toNat t310.size))) else (none)) else (none)) = some r := H
     have A18 := Aside0.mk A180
     clear A180
     by_cases c19 : (t310.extract 0 (t311 : Int).toNat).size + t318.size ≤ 9223372036854775807
     ·rw [if_pos c19] at H
      have c19b0 := eq_true c19
      have c19b1 : decide ((t310.extract 0 (t311 : Int).toNat).size + t318.size ≤ 9223372036854775807) = true := decide_eq_true c19
      try have c19b2 : (9223372036854775807 < (t310.extract 0 (t311 : Int).toNat).size + t318.size) = False := eq_false (Nat.not_lt.2 c19)
      try (have c19b5_ : (9223372036854775807 < t311.toNat + t318.size) = False := eq_false (by have h1_ := c19; have h2_ := of_decide_eq_true (show decide (t311 ≤ (t310.size : Int)) = true by assumption); rw [ByteArray.size_extract] at h1_; omega))
      try (have c19b3 := c19b2; simp only [ByteArray.size_append, sp1_25, nl1_25] at c19b3)
      have c20b0 := eq_true (of_decide_eq_true (by first | (with_reducible assumption) | assumption) : 0 ≤ t311)
      have c21b0 := eq_true (of_decide_eq_true (by first | (with_reducible assumption) | assumption) : t311 ≤ (t310.size : Int))
      by_cases c22 : ((t310.extract 0 (t311 : Int).toNat) ++ t318).size + (t310.extract (t311 : Int).toNat t310.size).size ≤ 9223372036854775807
      ·rw [if_pos c22] at H
       have c22b0 := eq_true c22
       have c22b1 : decide (((t310.extract 0 (t311 : Int).toNat) ++ t318).size + (t310.extract (t311 : Int).toNat t310.size).size ≤ 9223372036854775807) = true := decide_eq_true c22
       try have c22b2 : (9223372036854775807 < ((t310.extract 0 (t311 : Int).toNat) ++ t318).size + (t310.extract (t311 : Int).toNat t310.size).size) = False := eq_false (Nat.not_lt.2 c22)
       try (have c22b5_ : (9223372036854775807 < t311.toNat + t318.size + (t310.size - t311.toNat)) = False := eq_false (by have h1_ := c22; have h2_ := of_decide_eq_true (show decide (t311 ≤ (t310.size : Int)) = true by assumption); rw [ByteArray.size_append, ByteArray.size_extract, ByteArray.size_extract] at h1_; omega))
       try (have c22b3 := c22b2; simp only [ByteArray.size_append, sp1_25, nl1_25] at c22b3)
       obtain rfl := Option.some.inj H
       go_enter Tryd.func13, Tryd.ntmps13
       try go_wp2_with (first | ((with_reducible refine gate_callee (f := 16) rfl ?_); refine goesL_ (some 7) rfl rfl Tryd.func16 (by kernel_rfl) rfl #[.slice A0 l0.length c0] rfl z25x2 ?_; (with_reducible refine (spec_l6Open.calls _ _ l0 t299 t300 w _ ?side1 ?side2 ?side3 A2.out).mono ?_); (case side1 => repeat (first | (with_reducible first | exact HB.out | apply below_alloc | apply pw_below_drewN | apply below_drew1) | exact HB.out)); (case side2 => exact HR0.out); (case side3 => exact HC0.out); rintro e w23 ⟨g301, rfl, hi, hb, hb2⟩; refine ⟨_, rfl, ?_⟩; have n0_ := Aside0.mk (hb); have n1_ := Aside0.mk (hi); clear HB; have HB := n0_; have HI301 := n1_; clear n0_ n1_; (try clear hb); (try clear hb2); (try clear hk); (try clear hi)) | ((with_reducible refine gate_callee (f := 15) rfl ?_); refine goesL_ (some 9) rfl rfl Tryd.func15 (by kernel_rfl) rfl #[.pointer (some ⟨g301, 0, none⟩)] rfl z25x2 ?_; (with_reducible refine (spec_l71Seal.calls k g301 t299 t300 t302 t303 t304 t305 t306 t307 t308 t309 w _ ?side1 ?side2 A3.out).mono ?_); (case side1 => repeat (first | (with_reducible first | exact HI301.out | apply IsS53.alloc | apply IsS53.drewN | apply IsS53.drew | apply IsS53.set_1) | exact HI301.out)); (case side2 => repeat (first | (with_reducible first | exact HB.out | apply below_alloc | apply pw_below_drewN | apply below_drew1 | refine below_set ?_ (IsS53.ge HI301.out)) | exact HB.out)); rintro e w24 ⟨rfl, hi, hb, hk⟩; refine ⟨_, rfl, ?_⟩; have n0_ := Aside0.mk (hb); have n1_ := Aside0.mk (hi); clear HB; clear HI301; have HB := n0_; have HI301 := n1_; clear n0_ n1_; (try clear hb); (try clear hb2); (try clear hk); (try clear hi)) | ((with_reducible refine gate_callee (f := 9) rfl ?_); refine goesL_ (some 10) rfl rfl Tryd.func9 (by kernel_rfl) rfl #[.agg #[.int .i64 t302, .int .i64 t303, .int .i64 t304, .int .i64 t305, .int .i64 t306, .int .i64 t307, .int .i64 t308]] rfl z25x2 ?_; (with_reducible refine (spec_SealText.calls k t302 t303 t304 t305 t306 t307 t308 t310 _ A4.out).mono ?_); rintro e w25 ⟨rfl, hb⟩; refine ⟨_, rfl, ?_⟩; have n0_ := Aside0.mk (IsS53.below z25x1 hb); have n1_ := Aside0.mk (below_step z25x0 hb); clear HI301; clear HB; have HI301 := n0_; have HB := n1_; clear n0_ n1_; (try clear hb); (try clear hb2); (try clear hk); (try clear hi)) | ((with_reducible refine gate_callee (f := 26) rfl ?_); refine goesL_ (some 15) rfl rfl Tryd.func26 (by kernel_rfl) rfl #[.pointer (some ⟨g301, 0, none⟩), .int .i64 (wrap64 ((t310.size : Int) + 1))] rfl z25x2 ?_; (with_reducible refine (spec_l6Rd_pick.calls k g301 t299 t309 (wrap64 ((t310.size : Int) + 1)) t311 t312 w _ ?side1 ?side2 A5.out).mono ?_); (case side1 => repeat (first | (with_reducible first | exact HI301.out | apply IsS53.alloc | apply IsS53.drewN | apply IsS53.drew | apply IsS53.set_1) | exact HI301.out)); (case side2 => repeat (first | (with_reducible first | exact HB.out | apply below_alloc | apply pw_below_drewN | apply below_drew1 | refine below_set ?_ (IsS53.ge HI301.out)) | exact HB.out)); rintro e w26 ⟨rfl, hi, hb, hk⟩; refine ⟨_, rfl, ?_⟩; have n0_ := Aside0.mk (hb); have n1_ := Aside0.mk (hi); clear HB; clear HI301; have HB := n0_; have HI301 := n1_; clear n0_ n1_; (try clear hb); (try clear hb2); (try clear hk); (try clear hi)) | ((with_reducible refine gate_callee (f := 26) rfl ?_); refine goesL_ (some 17) rfl rfl Tryd.func26 (by kernel_rfl) rfl #[.pointer (some ⟨g301, 0, none⟩), .int .i64 7] rfl z25x2 ?_; (with_reducible refine (spec_l6Rd_pick.calls k g301 t299 t312 7 t313 t314 w _ ?side1 ?side2 A6.out).mono ?_); (case side1 => repeat (first | (with_reducible first | exact HI301.out | apply IsS53.alloc | apply IsS53.drewN | apply IsS53.drew | apply IsS53.set_1) | exact HI301.out)); (case side2 => repeat (first | (with_reducible first | exact HB.out | apply below_alloc | apply pw_below_drewN | apply below_drew1 | refine below_set ?_ (IsS53.ge HI301.out)) | exact HB.out)); rintro e w27 ⟨rfl, hi, hb, hk⟩; refine ⟨_, rfl, ?_⟩; have n0_ := Aside0.mk (hb); have n1_ := Aside0.mk (hi); clear HB; clear HI301; have HB := n0_; have HI301 := n1_; clear n0_ n1_; (try clear hb); (try clear hb2); (try clear hk); (try clear hi)))
       have n0_ := Aside0.mk (IsS53.drew HI301.out)
       have n1_ := Aside0.mk (below_drew1 HB.out)
       clear HI301
       clear HB
       have HI301 := n0_
       have HB := n1_
       clear n0_ n1_
       refine start_ (n := 12) (S := fun w' => True) (ds := []) #[false, false, false, false, false, false, false, false, false, false, false, false] (by kernel_rfl) rfl rfl trivial (fun hHeld => ?_); refine with_tabW spec_DrawSealRead.tab8 spec_DrawSealRead.bits8 (fun HT_ HW_ => ?_)
       generalize w27.drew = w28 at HI301 HB hHeld ⊢
       refine pure_ (i := 0) (N := some 25) (v := ?_) (a' := ?_) #[true, false, false, false, false, false, false, false, false, false, false, false] rfl rfl (any_of HT_.out (by kernel_rfl)) (fun _ _ _ h => h) (Or.inl ⟨by rfl, ?_⟩) ?_ ?_
       rotate_left
       ·intro w'
        go_simp
        with_reducible rfl
       rotate_left
       ·simp only [Act.put, List.setIfInBounds_toArray, List.set_cons_zero, List.set_cons_succ, i64_w, i32_w]
        rfl
       refine pure_ (i := 1) (N := some 26) (v := ?_) (a' := ?_) #[true, true, false, false, false, false, false, false, false, false, false, false] rfl rfl (any_of HT_.out (by kernel_rfl)) (fun _ _ _ h => h) (Or.inl ⟨by rfl, ?_⟩) ?_ ?_
       rotate_left
       ·intro w'
        go_simp
        with_reducible rfl
       rotate_left
       ·simp only [Act.put, List.setIfInBounds_toArray, List.set_cons_zero, List.set_cons_succ, i64_w, i32_w]
        rfl
       refine pure_ (i := 2) (N := some 27) (v := ?_) (a' := ?_) #[true, true, true, false, false, false, false, false, false, false, false, false] rfl rfl (any_of HT_.out (by kernel_rfl)) (fun _ _ _ h => h) (Or.inl ⟨by rfl, ?_⟩) ?_ ?_
       rotate_left
       ·intro w'
        go_simp
        with_reducible rfl
       rotate_left
       ·simp only [Act.put, List.setIfInBounds_toArray, List.set_cons_zero, List.set_cons_succ, i64_w, i32_w]
        rfl
       refine pure_ (i := 3) (N := some 28) (v := ?_) (a' := ?_) #[true, true, true, true, false, false, false, false, false, false, false, false] rfl rfl (any_of HT_.out (by kernel_rfl)) (fun _ _ _ h => h) (Or.inl ⟨by rfl, ?_⟩) ?_ ?_
       rotate_left
       ·intro w'
        go_simp
        with_reducible rfl
       rotate_left
       ·simp only [Act.put, List.setIfInBounds_toArray, List.set_cons_zero, List.set_cons_succ, i64_w, i32_w]
        rfl
       refine pure_ (i := 7) (N := some 32) (v := ?_) (a' := ?_) #[true, true, true, true, false, false, false, true, false, false, false, false] rfl rfl (any_of HT_.out (by kernel_rfl)) (fun _ _ _ h => h) (Or.inl ⟨by rfl, ?_⟩) ?_ ?_
       rotate_left
       ·intro w'
        go_simp
        with_reducible rfl
       rotate_left
       ·simp only [Act.put, List.setIfInBounds_toArray, List.set_cons_zero, List.set_cons_succ, i64_w, i32_w]
        rfl
       refine pure_ (i := 8) (N := some 33) (v := ?_) (a' := ?_) #[true, true, true, true, false, false, false, true, true, false, false, false] rfl rfl (any_of HT_.out (by kernel_rfl)) (fun _ _ _ h => h) (Or.inl ⟨by rfl, ?_⟩) ?_ ?_
       rotate_left
       ·intro w'
        go_simp
        with_reducible rfl
       rotate_left
       ·simp only [Act.put, List.setIfInBounds_toArray, List.set_cons_zero, List.set_cons_succ, i64_w, i32_w]
        rfl
       refine pure_ (i := 9) (N := some 34) (v := ?_) (a' := ?_) #[true, true, true, true, false, false, false, true, true, true, false, false] rfl rfl (any_of HT_.out (by kernel_rfl)) (fun _ _ _ h => h) (Or.inl ⟨by rfl, ?_⟩) ?_ ?_
       rotate_left
       ·intro w'
        go_simp
        with_reducible rfl
       rotate_left
       ·simp only [Act.put, List.setIfInBounds_toArray, List.set_cons_zero, List.set_cons_succ, i64_w, i32_w]
        rfl
       refine one_ (i := 4) (N := some 29) #[true, true, true, true, true, false, false, true, true, true, false, false] rfl rfl (one_of HT_.out (by kernel_rfl)) (by decide) (fun K hK => ?_)
       refine Kd.R_lit_step Kd.string _ 9 ?hg (N := 29) ?hd (xs := ([(⟨#[48]⟩ : ByteArray), (⟨#[32]⟩ : ByteArray), (⟨#[10]⟩ : ByteArray), (⟨#[57]⟩ : ByteArray), (⟨#[120]⟩ : ByteArray), (⟨#[32, 49]⟩ : ByteArray)] : List ByteArray)) (inner := [.string (⟨#[48]⟩ : ByteArray), .string (⟨#[32]⟩ : ByteArray), .string (⟨#[10]⟩ : ByteArray), .string (⟨#[57]⟩ : ByteArray), .string (⟨#[120]⟩ : ByteArray), .string (⟨#[32, 49]⟩ : ByteArray)]) (ok := fun _ => True) (okp := fun _ => True) ?hr ?hp (fun _ hk => hk) trivial (Below.refl _ _) (Nat.le_refl _) (by simp) ?_; (case hd => rfl); (case hg => rfl); (case hr => first | (go_simp; done) | (go_simp; rfl)); (case hp => exact (Reps.one (show Kd.M Kd.string _ _ _ (⟨#[48]⟩ : ByteArray) [.string (⟨#[48]⟩ : ByteArray)] from rfl) (Reps.one (show Kd.M Kd.string _ _ _ (⟨#[32]⟩ : ByteArray) [.string (⟨#[32]⟩ : ByteArray)] from rfl) (Reps.one (show Kd.M Kd.string _ _ _ (⟨#[10]⟩ : ByteArray) [.string (⟨#[10]⟩ : ByteArray)] from rfl) (Reps.one (show Kd.M Kd.string _ _ _ (⟨#[57]⟩ : ByteArray) [.string (⟨#[57]⟩ : ByteArray)] from rfl) (Reps.one (show Kd.M Kd.string _ _ _ (⟨#[120]⟩ : ByteArray) [.string (⟨#[120]⟩ : ByteArray)] from rfl) (Reps.one (show Kd.M Kd.string _ _ _ (⟨#[32, 49]⟩ : ByteArray) [.string (⟨#[32, 49]⟩ : ByteArray)] from rfl) (Reps.none _ _))))))))
       intro v316 w29 ho30 hb hg_ hnew_
       clear hg_ hnew_
       (first | rw [← Ny315.out] at ho30 | (simp only [Int.reduceToNat] at ho30; rw [← Ny315.out] at ho30))
       have n0_ := Aside0.mk (Kd.R_lower ho30 (below_size z25x0))
       have n1_ := Aside0.mk (IsS53.below z25x1 hb)
       have n2_ := Aside0.mk (below_step z25x0 hb)
       clear HI301
       clear HB
       have HO317 := n0_
       have HI301 := n1_
       have HB := n2_
       clear n0_ n1_ n2_
       clear hb ho30
       obtain ⟨Ao31, co31, eo31⟩ := Kd.R_slice HO317.out
       (first | subst eo31 | (injection eo31 with f1_ f2_ f3_; have f4_ := f1_.symm; have f5_ := f3_.symm; clear f1_ f2_ f3_; subst f4_; subst f5_))
       refine hK.out _ _ trivial (fun hHeld => ?_)
       clear hK K
       refine norm_ (a' := ?_) ?_ ?_
       rotate_left
       ·show Act.put _ (some 29) _ = _
        simp only [Act.put, List.setIfInBounds_toArray, List.set_cons_zero, List.set_cons_succ, i64_w, i32_w]
        rfl
       refine one_ (i := 5) (N := some 30) #[true, true, true, true, true, true, false, true, true, true, false, false] rfl rfl (one_of HT_.out (by kernel_rfl)) (by decide) (fun K hK => ?_)
       refine goes_ Tryd.func27 (by kernel_rfl) rfl #[.pointer (some ⟨g301, 0, none⟩), .slice Ao31 y315.length co31] (by rfl) rfl rfl z25x2 ?_
       with_reducible refine (spec_l6Rd_of.calls k g301 t299 t314 _ _ y315 t318 t319 w _ ?side1 ?side2 ?side3 ?side4 ?side5 A18.out).mono ?_
       (case side1 => repeat (first | (with_reducible first | exact HI301.out | apply IsS53.alloc | apply IsS53.drewN | apply IsS53.drew | apply IsS53.set_1) | exact HI301.out))
       (case side2 => repeat (first | (with_reducible first | exact HB.out | apply below_alloc | apply pw_below_drewN | apply below_drew1 | refine below_set ?_ (IsS53.ge HI301.out)) | exact HB.out))
       (case side3 => repeat (first | exact (Kd.R_reads' HO317.out).2.2 | (with_reducible refine Kd.C_alloc ?_ _) | (with_reducible refine Kd.C_drewN ?_ _) | (with_reducible refine Kd.C_drew ?_)))
       (case side4 => exact (Kd.R_reads' HO317.out).2.1)
       (case side5 => exact far_slice (IsS53.own_ne HI301.out HO317.out (by decide)))
       rintro e w32 ⟨rfl, hi, hb, hk⟩
       refine ⟨_, rfl, ?_⟩
       have n0_ := Aside0.mk (Kd.R_mono (Kd.R_keep (IsS53.apart (show IsS53 w _ g301 t299 t314 from by repeat (first | (with_reducible first | exact HI301.out | apply IsS53.alloc | apply IsS53.drewN | apply IsS53.drew | apply IsS53.set_1) | exact HI301.out)) (by (with_reducible repeat (first | apply Kd.R_alloc | apply Kd.R_drewN | apply Kd.R_drew)); exact HO317.out) (by decide)) hk (fun _ h => h.2)) (fun _ h => h.1))
       have n1_ := Aside0.mk (hb)
       have n2_ := Aside0.mk (hi)
       clear HO317
       clear HB
       clear HI301
       have HO317 := n0_
       have HB := n1_
       have HI301 := n2_
       clear n0_ n1_ n2_
       (try clear hb)
       (try clear hb2)
       (try clear hk)
       (try clear hi)
       refine hK.out _ _ trivial (fun hHeld => ?_)
       clear hK K
       refine norm_ (a' := ?_) ?_ ?_
       rotate_left
       ·show Act.put _ (some 30) _ = _
        simp only [Act.put, List.setIfInBounds_toArray, List.set_cons_zero, List.set_cons_succ, i64_w, i32_w]
        rfl
       refine pure_ (i := 6) (N := some 31) (v := ?_) (a' := ?_) #[true, true, true, true, true, true, true, true, true, true, false, false] rfl rfl (any_of HT_.out (by kernel_rfl)) (fun _ _ _ h => h) (Or.inl ⟨by rfl, ?_⟩) ?_ ?_
       rotate_left
       ·intro w'
        go_simp
        with_reducible rfl
       rotate_left
       ·simp only [Act.put, List.setIfInBounds_toArray, List.set_cons_zero, List.set_cons_succ, i64_w, i32_w]
        rfl
       refine pure_ (i := 10) (N := some 35) (v := ?_) (a' := ?_) #[true, true, true, true, true, true, true, true, true, true, true, false] rfl rfl (any_of HT_.out (by kernel_rfl)) (fun _ _ _ h => h) (Or.inl ⟨by rfl, ?_⟩) ?_ ?_
       rotate_left
       ·intro w'
        go_simp
        with_reducible rfl
       rotate_left
       ·simp only [Act.put, List.setIfInBounds_toArray, List.set_cons_zero, List.set_cons_succ, i64_w, i32_w]
        rfl
       refine pure_ (i := 11) (N := some 2) (v := ?_) (a' := ?_) #[true, true, true, true, true, true, true, true, true, true, true, true] rfl rfl (any_of HT_.out (by kernel_rfl)) (fun _ _ _ h => h) (Or.inl ⟨by rfl, ?_⟩) ?_ ?_
       rotate_left
       ·intro w'
        go_simp
        with_reducible rfl
       rotate_left
       ·simp only [Act.put, List.setIfInBounds_toArray, List.set_cons_zero, List.set_cons_succ, i64_w, i32_w]
        rfl
       refine done_ (done_of HT_.out (by kernel_rfl)) ?_
       try go_wp2
       go_ret
       exact ⟨by first | rfl | (simp [errW_none, errW_some] <;> rfl) | (simp [*, errW_none, errW_some] <;> rfl), by repeat (first | (with_reducible first | exact HB.out | apply below_alloc | apply pw_below_drewN | apply below_drew1 | refine below_set ?_ (IsS53.ge HI301.out)) | exact HB.out)⟩
      ·rw [if_neg c22] at H
       exact absurd H (by simp)
     ·rw [if_neg c19] at H
      exact absurd H (by simp)
    ·rw [if_neg c17] at H
     exact absurd H (by simp)
   ·rw [if_neg c16] at H
    exact absurd H (by simp)
  ·rw [if_neg c15] at H
   have c15b0 : (t313 == 1) = false := beq_eq_false_iff_ne.mpr c15
   have c15b1 : (t313 != 1) = true := bne_iff_ne.mpr c15
   obtain rfl := Option.some.inj H
   go_enter Tryd.func13, Tryd.ntmps13
   go_wp2_with (first | ((with_reducible refine gate_callee (f := 16) rfl ?_); refine goesL_ (some 7) rfl rfl Tryd.func16 (by kernel_rfl) rfl #[.slice A0 l0.length c0] rfl z25x2 ?_; (with_reducible refine (spec_l6Open.calls _ _ l0 t299 t300 w _ ?side1 ?side2 ?side3 A2.out).mono ?_); (case side1 => repeat (first | (with_reducible first | exact HB.out | apply below_alloc | apply pw_below_drewN | apply below_drew1) | exact HB.out)); (case side2 => exact HR0.out); (case side3 => exact HC0.out); rintro e w33 ⟨g301, rfl, hi, hb, hb2⟩; refine ⟨_, rfl, ?_⟩; have n0_ := Aside0.mk (hb); have n1_ := Aside0.mk (hi); clear HB; have HB := n0_; have HI301 := n1_; clear n0_ n1_; (try clear hb); (try clear hb2); (try clear hk); (try clear hi)) | ((with_reducible refine gate_callee (f := 15) rfl ?_); refine goesL_ (some 9) rfl rfl Tryd.func15 (by kernel_rfl) rfl #[.pointer (some ⟨g301, 0, none⟩)] rfl z25x2 ?_; (with_reducible refine (spec_l71Seal.calls k g301 t299 t300 t302 t303 t304 t305 t306 t307 t308 t309 w _ ?side1 ?side2 A3.out).mono ?_); (case side1 => repeat (first | (with_reducible first | exact HI301.out | apply IsS53.alloc | apply IsS53.drewN | apply IsS53.drew | apply IsS53.set_1) | exact HI301.out)); (case side2 => repeat (first | (with_reducible first | exact HB.out | apply below_alloc | apply pw_below_drewN | apply below_drew1 | refine below_set ?_ (IsS53.ge HI301.out)) | exact HB.out)); rintro e w34 ⟨rfl, hi, hb, hk⟩; refine ⟨_, rfl, ?_⟩; have n0_ := Aside0.mk (hb); have n1_ := Aside0.mk (hi); clear HB; clear HI301; have HB := n0_; have HI301 := n1_; clear n0_ n1_; (try clear hb); (try clear hb2); (try clear hk); (try clear hi)) | ((with_reducible refine gate_callee (f := 9) rfl ?_); refine goesL_ (some 10) rfl rfl Tryd.func9 (by kernel_rfl) rfl #[.agg #[.int .i64 t302, .int .i64 t303, .int .i64 t304, .int .i64 t305, .int .i64 t306, .int .i64 t307, .int .i64 t308]] rfl z25x2 ?_; (with_reducible refine (spec_SealText.calls k t302 t303 t304 t305 t306 t307 t308 t310 _ A4.out).mono ?_); rintro e w35 ⟨rfl, hb⟩; refine ⟨_, rfl, ?_⟩; have n0_ := Aside0.mk (IsS53.below z25x1 hb); have n1_ := Aside0.mk (below_step z25x0 hb); clear HI301; clear HB; have HI301 := n0_; have HB := n1_; clear n0_ n1_; (try clear hb); (try clear hb2); (try clear hk); (try clear hi)) | ((with_reducible refine gate_callee (f := 26) rfl ?_); refine goesL_ (some 15) rfl rfl Tryd.func26 (by kernel_rfl) rfl #[.pointer (some ⟨g301, 0, none⟩), .int .i64 (wrap64 ((t310.size : Int) + 1))] rfl z25x2 ?_; (with_reducible refine (spec_l6Rd_pick.calls k g301 t299 t309 (wrap64 ((t310.size : Int) + 1)) t311 t312 w _ ?side1 ?side2 A5.out).mono ?_); (case side1 => repeat (first | (with_reducible first | exact HI301.out | apply IsS53.alloc | apply IsS53.drewN | apply IsS53.drew | apply IsS53.set_1) | exact HI301.out)); (case side2 => repeat (first | (with_reducible first | exact HB.out | apply below_alloc | apply pw_below_drewN | apply below_drew1 | refine below_set ?_ (IsS53.ge HI301.out)) | exact HB.out)); rintro e w36 ⟨rfl, hi, hb, hk⟩; refine ⟨_, rfl, ?_⟩; have n0_ := Aside0.mk (hb); have n1_ := Aside0.mk (hi); clear HB; clear HI301; have HB := n0_; have HI301 := n1_; clear n0_ n1_; (try clear hb); (try clear hb2); (try clear hk); (try clear hi)) | ((with_reducible refine gate_callee (f := 26) rfl ?_); refine goesL_ (some 17) rfl rfl Tryd.func26 (by kernel_rfl) rfl #[.pointer (some ⟨g301, 0, none⟩), .int .i64 7] rfl z25x2 ?_; (with_reducible refine (spec_l6Rd_pick.calls k g301 t299 t312 7 t313 t314 w _ ?side1 ?side2 A6.out).mono ?_); (case side1 => repeat (first | (with_reducible first | exact HI301.out | apply IsS53.alloc | apply IsS53.drewN | apply IsS53.drew | apply IsS53.set_1) | exact HI301.out)); (case side2 => repeat (first | (with_reducible first | exact HB.out | apply below_alloc | apply pw_below_drewN | apply below_drew1 | refine below_set ?_ (IsS53.ge HI301.out)) | exact HB.out)); rintro e w37 ⟨rfl, hi, hb, hk⟩; refine ⟨_, rfl, ?_⟩; have n0_ := Aside0.mk (hb); have n1_ := Aside0.mk (hi); clear HB; clear HI301; have HB := n0_; have HI301 := n1_; clear n0_ n1_; (try clear hb); (try clear hb2); (try clear hk); (try clear hi)))
   go_ret
   exact ⟨by first | rfl | (simp [errW_none, errW_some] <;> rfl) | (simp [*, errW_none, errW_some] <;> rfl), by repeat (first | (with_reducible first | exact HB.out | apply below_alloc | apply pw_below_drewN | apply below_drew1 | refine below_set ?_ (IsS53.ge HI301.out)) | exact HB.out)⟩

end Go.Proofs.YtbipicjijbnbbaaDoor.Hp
