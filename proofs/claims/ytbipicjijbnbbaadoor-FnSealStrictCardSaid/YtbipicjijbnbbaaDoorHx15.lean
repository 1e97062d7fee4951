-- hp.py
import Derived.Test.YtbipicjijbnbbaaDoorHx0
import Derived.Test.YtbipicjijbnbbaaDoorHx11
import Derived.Test.YtbipicjijbnbbaaDoorHx13
import Derived.Test.YtbipicjijbnbbaaDoorHx14
namespace Go.Proofs.YtbipicjijbnbbaaDoor.Hp
open Go.RowKit Go.Proofs.YtbipicjijbnbbaaDoorW.PrintWords Go.Proofs.YtbipicjijbnbbaaDoorW.PrintLast Go.Proofs.YtbipicjijbnbbaaDoorW.PrintMore
attribute [local go_sem] max2_int min2_int max_two min_two max_three min_three max_four min_four   -- for this text's walks alone
set_option linter.unusedVariables false
set_option linter.unusedSimpArgs false
-- squeezed by wip/tools/squeeze.py
theorem z15x4 {P : Prop} (h : P := by (with_reducible repeat (first | apply Kd.R_alloc | apply Kd.R_drewN | apply Kd.R_drew)); exact HO205.out) : P := h
theorem z15x3 {P : Prop} (h : P := by (with_reducible repeat (first | refine blk_drewN ?_ _ | refine blk_drew ?_ | refine blk_alloc ?_ _)); exact BK201.out) : P := h
theorem z15x2 {P : Prop} (h : P := by (try simp only [List.map_toArray, List.map_cons, List.map_nil]); first | done | rfl | (simp only [List.length_drop, List.length_take]; rfl)) : P := h
theorem z15x1 {P : Prop} (h : P := by rw [hg]; exact (below_size (by repeat (first | (with_reducible first | exact HB.out | apply below_alloc | apply pw_below_drewN | apply below_drew1) | exact HB.out)))) : P := h
theorem z15x0 {P : Prop} (h : P := by repeat (first | (with_reducible first | exact HB.out | apply below_alloc | apply pw_below_drewN | apply below_drew1 | refine below_set ?_ GE201.out) | exact HB.out)) : P := h

section
variable {P : Program} {md : Region.Mode} {ops : Array Oper} {Q : Exit → Act → World → Prop} {S S' : World → Prop}
theorem last_up (hS : ∀ w, S' w → S w) : ∀ (fuel : Nat) (l : Array Bool) (a : Act) (w : World), S' w → wpAnyLast P md ops Q S' [] fuel l a w → wpAnyLast P md ops Q S [] fuel l a w
  | 0, _, _, _, _, h => h
  | fuel + 1, _, _, _, hw, h => ⟨h.1, fun i hi => wpOp_mono (fun a' w' h' => ⟨fun hd _ => hS _ (h'.1 hd hw), last_up hS fuel _ a' w' (h'.1 (by simp) hw) h'.2⟩) (h.2 i hi)⟩
end
theorem sp1_15 : (⟨#[32]⟩ : ByteArray).size = 1 := rfl
theorem nl1_15 : (⟨#[10]⟩ : ByteArray).size = 1 := rfl
/-! ### spec_SealText: function 9 -/
def spec_SealText.f (k : Nat) (a0_0 : Int) (a0_1 : Int) (a0_2 : Int) (a0_3 : Int) (a0_4 : Int) (a0_5 : Int) (a0_6 : Int) : Option (ByteArray) := (spec_SealOk.f a0_0 a0_1 a0_2 a0_3 a0_4 a0_5 a0_6).bind fun t202 => (if t202 = true then ((spec_l1Names.f).bind fun t203 => (if 0 ≤ a0_1 then (if a0_1 < (t203.length : Int) then (if (rdOf ByteArray.empty t203 a0_1).size + 1 ≤ 9223372036854775807 then ((spec_l6Dec.f k a0_0).bind fun t207 => (if ((rdOf ByteArray.empty t203 a0_1) ++ (⟨#[32]⟩ : ByteArray)).size + t207.size ≤ 9223372036854775807 then (if (((rdOf ByteArray.empty t203 a0_1) ++ (⟨#[32]⟩ : ByteArray)) ++ t207).size + 1 ≤ 9223372036854775807 then ((spec_l6Dec.f k a0_2).bind fun t208 => (if ((((rdOf ByteArray.empty t203 a0_1) ++ (⟨#[32]⟩ : ByteArray)) ++ t207) ++ (⟨#[32]⟩ : ByteArray)).size + t208.size ≤ 9223372036854775807 then (if (((((rdOf ByteArray.empty t203 a0_1) ++ (⟨#[32]⟩ : ByteArray)) ++ t207) ++ (⟨#[32]⟩ : ByteArray)) ++ t208).size + 1 ≤ 9223372036854775807 then ((spec_l6Dec.f k a0_3).bind fun t209 => (if ((((((rdOf ByteArray.empty t203 a0_1) ++ (⟨#[32]⟩ : ByteArray)) ++ t207) ++ (⟨#[32]⟩ : ByteArray)) ++ t208) ++ (⟨#[32]⟩ : ByteArray)).size + t209.size ≤ 9223372036854775807 then (if (((((((rdOf ByteArray.empty t203 a0_1) ++ (⟨#[32]⟩ : ByteArray)) ++ t207) ++ (⟨#[32]⟩ : ByteArray)) ++ t208) ++ (⟨#[32]⟩ : ByteArray)) ++ t209).size + 1 ≤ 9223372036854775807 then ((spec_l6Dec.f k a0_4).bind fun t210 => (if ((((((((rdOf ByteArray.empty t203 a0_1) ++ (⟨#[32]⟩ : ByteArray)) ++ t207) ++ (⟨#[32]⟩ : ByteArray)) ++ t208) ++ (⟨#[32]⟩ : ByteArray)) ++ t209) ++ (⟨#[32]⟩ : ByteArray)).size + t210.size ≤ 9223372036854775807 then (if (((((((((rdOf ByteArray.empty t203 a0_1) ++ (⟨#[32]⟩ : ByteArray)) ++ t207) ++ (⟨#[32]⟩ : ByteArray)) ++ t208) ++ (⟨#[32]⟩ : ByteArray)) ++ t209) ++ (⟨#[32]⟩ : ByteArray)) ++ t210).size + 1 ≤ 9223372036854775807 then ((spec_l6Dec.f k a0_5).bind fun t211 => (if ((((((((((rdOf ByteArray.empty t203 a0_1) ++ (⟨#[32]⟩ : ByteArray)) ++ t207) ++ (⟨#[32]⟩ : ByteArray)) ++ t208) ++ (⟨#[32]⟩ : ByteArray)) ++ t209) ++ (⟨#[32]⟩ : ByteArray)) ++ t210) ++ (⟨#[32]⟩ : ByteArray)).size + t211.size ≤ 9223372036854775807 then (if (((((((((((rdOf ByteArray.empty t203 a0_1) ++ (⟨#[32]⟩ : ByteArray)) ++ t207) ++ (⟨#[32]⟩ : ByteArray)) ++ t208) ++ (⟨#[32]⟩ : ByteArray)) ++ t209) ++ (⟨#[32]⟩ : ByteArray)) ++ t210) ++ (⟨#[32]⟩ : ByteArray)) ++ t211).size + 1 ≤ 9223372036854775807 then ((spec_l6Dec.f k a0_6).bind fun t212 => (if ((((((((((((rdOf ByteArray.empty t203 a0_1) ++ (⟨#[32]⟩ : ByteArray)) ++ t207) ++ (⟨#[32]⟩ : ByteArray)) ++ t208) ++ (⟨#[32]⟩ : ByteArray)) ++ t209) ++ (⟨#[32]⟩ : ByteArray)) ++ t210) ++ (⟨#[32]⟩ : ByteArray)) ++ t211) ++ (⟨#[32]⟩ : ByteArray)).size + t212.size ≤ 9223372036854775807 then (some (((((((((((((rdOf ByteArray.empty t203 a0_1) ++ (⟨#[32]⟩ : ByteArray)) ++ t207) ++ (⟨#[32]⟩ : ByteArray)) ++ t208) ++ (⟨#[32]⟩ : ByteArray)) ++ t209) ++ (⟨#[32]⟩ : ByteArray)) ++ t210) ++ (⟨#[32]⟩ : ByteArray)) ++ t211) ++ (⟨#[32]⟩ : ByteArray)) ++ t212)) else (none))) else (none)) else (none))) else (none)) else (none))) else (none)) else (none))) else (none)) else (none))) else (none)) else (none))) else (none)) else (none)) else (none))) else (some (⟨#[]⟩ : ByteArray)))
theorem spec_SealText.mono : ∀ a0 a1 a2 a3 a4 a5 a6 k, LeO (spec_SealText.f k a0 a1 a2 a3 a4 a5 a6) (spec_SealText.f (k + 1) a0 a1 a2 a3 a4 a5 a6) := by
 intro a0 a1 a2 a3 a4 a5 a6 k
 unfold spec_SealText.f
 repeat' first
   | (with_reducible exact spec_l6Dec.mono _ _)
   | (with_reducible exact LeO.refl _)
   | (with_reducible exact LeO.none _)
   | (with_reducible refine LeO.ite ?_ ?_)
   | (with_reducible refine LeO.bind ?_ (fun _ => ?_))
   | exact spec_l6Dec.mono _ _
   | exact LeO.none _
   | refine LeO.ite ?_ ?_
   | refine LeO.bind ?_ (fun _ => ?_)
def spec_SealText.T3 : Bool × List (List Nat × List Nat) := (true, [([], []), ([], []), ([1], [1]), ([0, 2], [0, 2]), ([3], [3]), ([4], [4]), ([], []), ([6], [6]), ([7, 0], [7]), ([5, 8], [5, 8]), ([9], [9]), ([], []), ([11], [11]), ([12, 8], [12]), ([10, 13], [10, 13]), ([14], [14]), ([], []), ([16], [16]), ([17, 13], [17]), ([15, 18], [15, 18]), ([19], [19]), ([], []), ([21], [21]), ([22, 18], [22]), ([20, 23], [20, 23]), ([24], [24]), ([], []), ([26], [26]), ([27, 23], [27]), ([25, 28], [25, 28]), ([29], [29]), ([], []), ([31], [31]), ([32, 28], [32]), ([30, 33], [30, 33]), ([34, 33, 0, 1, 2, 3, 4, 5, 6, 7, 8, 9, 10, 11, 12, 13, 14, 15, 16, 17, 18, 19, 20, 21, 22, 23, 24, 25, 26, 27, 28, 29, 30, 31, 32, 33, 34], [34])])
def spec_SealText.B3 : List Nat := [0, 0, 2, 7, 15, 31, 0, 64, 193, 511, 1023, 0, 2048, 6593, 16383, 32767, 0, 65536, 211393, 524287, 1048575, 0, 2097152, 6764993, 16777215, 33554431, 0, 67108864, 216480193, 536870911, 1073741823, 0, 2147483648, 6927366593, 17179869183, 34359738367]
theorem spec_SealText.tab3 : rtab .any (opsOf Tryd.f9 3) = spec_SealText.T3 := by kernel_rfl
theorem spec_SealText.bits3 : waitsOk spec_SealText.T3.2 spec_SealText.B3 = true := by kernel_rfl
set_option maxHeartbeats 8000000 in
set_option maxRecDepth 100000 in
theorem spec_SealText.calls (k : Nat) (a0_0 : Int) (a0_1 : Int) (a0_2 : Int) (a0_3 : Int) (a0_4 : Int) (a0_5 : Int) (a0_6 : Int) (r : ByteArray) (w : World) (h : spec_SealText.f k a0_0 a0_1 a0_2 a0_3 a0_4 a0_5 a0_6 = some r) :
  Calls Tryd.prog 9 #[.agg #[.int .i64 a0_0, .int .i64 a0_1, .int .i64 a0_2, .int .i64 a0_3, .int .i64 a0_4, .int .i64 a0_5, .int .i64 a0_6]] w fun e w' => e = .returned (.string r) ∧ Below w.heap.size w w' := by
 have hu24 := Tryd.underlying24
 have HB := Aside0.mk (Below.refl w.heap.size w)
 have H : ((spec_SealOk.f a0_0 a0_1 a0_2 a0_3 a0_4 a0_5 a0_6).bind fun t202 => (if t202 = true then ((spec_l1Names.f).bind fun t203 => (if 0 ≤ a0_1 then (if a0_1 < (t203.length : Int) then (if (rdOf ByteArray.empty t203 a0_1).size + 1 ≤ 9223372036854775807 then ((spec_l6Dec.f k a0_0).bind fun t207 => (if ((rdOf ByteArray.empty t203 a0_1) ++ (⟨#[32]⟩ : ByteArray)).size + t207.size ≤ 9223372036854775807 then (if (((rdOf ByteArray.empty t203 a0_1) ++ (⟨#[32]⟩ : ByteArray)) ++ t207).size + 1 ≤ 9223372036854775807 then ((spec_l6Dec.f k a0_2).bind fun t208 => (if ((((rdOf ByteArray.empty t203 a0_1) ++ (⟨#[32]⟩ : ByteArray)) ++ t207) ++ (⟨#[32]⟩ : ByteArray)).size + t208.size ≤ 9223372036854775807 then (if (((((rdOf ByteArray.empty t203 a0_1) ++ (⟨#[32]⟩ : ByteArray)) ++ t207) ++ (⟨#[32]⟩ : ByteArray)) ++ t208).size + 1 ≤ 9223372036854775807 then ((spec_l6Dec.f k a0_3).bind fun t209 => (if ((((((rdOf ByteArray.empty t203 a0_1) ++ (⟨#[32]⟩ : ByteArray)) ++ t207) ++ (⟨#[32]⟩ : ByteArray)) ++ t208) ++ (⟨#[32]⟩ : ByteArray)).size + t209.size ≤ 9223372036854775807 then (if (((((((rdOf ByteArray.empty t203 a0_1) ++ (⟨#[32]⟩ : ByteArray)) ++ t207) ++ (⟨#[32]⟩ : ByteArray)) ++ t208) ++ (⟨#[32]⟩ : ByteArray)) ++ t209).size + 1 ≤ 9223372036854775807 then ((spec_l6Dec.f k a0_4).bind fun t210 => (if ((((((((rdOf ByteArray.empty t203 a0_1) ++ (⟨#[32]⟩ : ByteArray)) ++ t207) ++ (⟨#[32]⟩ : ByteArray)) ++ t208) ++ (⟨#[32]⟩ : ByteArray)) ++ t209) ++ (⟨#[32]⟩ : ByteArray)).size + t210.size ≤ 9223372036854775807 then (if (((((((((rdOf ByteArray.empty t203 a0_1) ++ (⟨#[32]⟩ : ByteArray)) ++ t207) ++ (⟨#[32]⟩ : ByteArray)) ++ t208) ++ (⟨#[32]⟩ : ByteArray)) ++ t209) ++ (⟨#[32]⟩ : ByteArray)) ++ t210).size + 1 ≤ 9223372036854775807 then ((spec_l6Dec.f k a0_5).bind fun t211 => (if ((((((((((rdOf ByteArray.empty t203 a0_1) ++ (⟨#[32]⟩ : ByteArray)) ++ t207) ++ (⟨#[32]⟩ : ByteArray)) ++ t208) ++ (⟨#[32]⟩ : ByteArray)) ++ t209) ++ (⟨#[32]⟩ : ByteArray)) ++ t210) ++ (⟨#[32]⟩ : ByteArray)).size + t211.size ≤ 9223372036854775807 then (if (((((((((((rdOf ByteArray.empty t203 a0_1) ++ (⟨#[32]⟩ : ByteArray)) ++ t207) ++ (⟨#[32]⟩ : ByteArray)) ++ t208) ++ (⟨#[32]⟩ : ByteArray)) ++ t209) ++ (⟨#[32]⟩ : ByteArray)) ++ t210) ++ (⟨#[32]⟩ : ByteArray)) ++ t211).size + 1 ≤ 9223372036854775807 then ((spec_l6Dec.f k a0_6).bind fun t212 => (if ((((((((((((rdOf ByteArray.empty t203 a0_1) ++ (⟨#[32]⟩ : ByteArray)) ++ t207) ++ (⟨#[32]⟩ : ByteArray)) ++ t208) ++ (⟨#[32]⟩ : ByteArray)) ++ t209) ++ (⟨#[32]⟩ : ByteArray)) ++ t210) ++ (⟨#[32]⟩ : ByteArray)) ++ t211) ++ (⟨#[32]⟩ : ByteArray)).size + t212.size ≤ 9223372036854775807 then (some (((((((((((((rdOf ByteArray.empty t203 a0_1) ++ (⟨#[32]⟩ : ByteArray)) ++ t207) ++ (⟨#[32]⟩ : ByteArray)) ++ t208) ++ (⟨#[32]⟩ : ByteArray)) ++ t209) ++ (⟨#[32]⟩ : ByteArray)) ++ t210) ++ (⟨#[32]⟩ : ByteArray)) ++ t211) ++ (⟨#[32]⟩ : ByteArray)) ++ t212)) else (none))) else (none)) else (none))) else (none)) else (none))) else (none)) else (none))) else (none)) else (none))) else (none)) else (none))) else (none)) else (none)) else (none))) else (some (⟨#[]⟩ : ByteArray)))) = some r := h
 clear h
 replace H := Option.bind_eq_some_iff.mp H
 obtain ⟨t202, A20, H⟩ := H
 replace H : (if t202 = true then ((spec_l1Names.f).bind fun t203 => (if 0 ≤ a0_1 then (if a0_1 < (t203.length : Int) then (if (rdOf ByteArray.empty t203 a0_1).size + 1 ≤ 9223372036854775807 then ((spec_l6Dec.f k a0_0).bind fun t207 => (if ((rdOf ByteArray.empty t203 a0_1) ++ (⟨#[32]⟩ : ByteArray)).size + t207.size ≤ 9223372036854775807 then (if (((rdOf ByteArray.empty t203 a0_1) ++ (⟨#[32]⟩ : ByteArray)) ++ t207).size + 1 ≤ 9223372036854775807 then ((spec_l6Dec.f k a0_2).bind fun t208 => (if ((((rdOf ByteArray.empty t203 a0_1) ++ (⟨#[32]⟩ : ByteArray)) ++ t207) ++ (⟨#[32]⟩ : ByteArray)).size + t208.size ≤ 9223372036854775807 then (if (((((rdOf ByteArray.empty t203 a0_1) ++ (⟨#[32]⟩ : ByteArray)) ++ t207) ++ (⟨#[32]⟩ : ByteArray)) ++ t208).size + 1 ≤ 9223372036854775807 then ((spec_l6Dec.f k a0_3).bind fun t209 => (if ((((((rdOf ByteArray.empty t203 a0_1) ++ (⟨#[32]⟩ : ByteArray)) ++ t207) ++ (⟨#[32]⟩ : ByteArray)) ++ t208) ++ (⟨#[32]⟩ : ByteArray)).size + t209.size ≤ 9223372036854775807 then (if (((((((rdOf ByteArray.empty t203 a0_1) ++ (⟨#[32]⟩ : ByteArray)) ++ t207) ++ (⟨#[32]⟩ : ByteArray)) ++ t208) ++ (⟨#[32]⟩ : ByteArray)) ++ t209).size + 1 ≤ 9223372036854775807 then ((spec_l6Dec.f k a0_4).bind fun t210 => (if ((((((((rdOf ByteArray.empty t203 a0_1) ++ (⟨#[32]⟩ : ByteArray)) ++ t207) ++ (⟨#[32]⟩ : ByteArray)) ++ t208) ++ (⟨#[32]⟩ : ByteArray)) ++ t209) ++ (⟨#[32]⟩ : ByteArray)).size + t210.size ≤ 9223372036854775807 then (if (((((((((rdOf ByteArray.empty t203 a0_1) ++ (⟨#[32]⟩ : ByteArray)) ++ t207) ++ (⟨#[32]⟩ : ByteArray)) ++ t208) ++ (⟨#[32]⟩ : ByteArray)) ++ t209) ++ (⟨#[32]⟩ : ByteArray)) ++ t210).size + 1 ≤ 9223372036854775807 then ((spec_l6Dec.f k a0_5).bind fun t211 => (if ((((((((((rdOf ByteArray.empty t203 a0_1) ++ (⟨#[32]⟩ : ByteArray)) ++ t207) ++ (⟨#[32]⟩ : ByteArray)) ++ t208) ++ (⟨#[32]⟩ : ByteArray)) ++ t209) ++ (⟨#[32]⟩ : ByteArray)) ++ t210) ++ (⟨#[32]⟩ : ByteArray)).size + t211.size ≤ 9223372036854775807 then (if (((((((((((rdOf ByteArray.empty t203 a0_1) ++ (⟨#[32]⟩ : ByteArray)) ++ t207) ++ (⟨#[32]⟩ : ByteArray)) ++ t208) ++ (⟨#[32]⟩ : ByteArray)) ++ t209) ++ (⟨#[32]⟩ : ByteArray)) ++ t210) ++ (⟨#[32]⟩ : ByteArray)) ++ t211).size + 1 ≤ 9223372036854775807 then ((spec_l6Dec.f k a0_6).bind fun t212 => (if ((((((((((((rdOf ByteArray.empty t203 a0_1) ++ (⟨#[32]⟩ : ByteArray)) ++ t207) ++ (⟨#[32]⟩ : ByteArray)) ++ t208) ++ (⟨#[32]⟩ : ByteArray)) ++ t209) ++ (⟨#[32]⟩ : ByteArray)) ++ t210) ++ (⟨#[32]⟩ : ByteArray)) ++ t211) ++ (⟨#[32]⟩ : ByteArray)).size + t212.size ≤ 9223372036854775807 then (some (((((((((((((rdOf ByteArray.empty t203 a0_1) ++ (⟨#[32]⟩ : ByteArray)) ++ t207) ++ (⟨#[32]⟩ : ByteArray)) ++ t208) ++ (⟨#[32]⟩ : ByteArray)) ++ t209) ++ (⟨#[32]⟩ : ByteArray)) ++ t210) ++ (⟨#[32]⟩ : ByteArray)) ++ t211) ++ (⟨#[32]⟩ : ByteArray)) ++ t212)) else (none))) else (none)) else (none))) else (none)) else (none))) else (none)) else (none))) else (none)) else (none))) else (none)) else (none))) else (none)) else (none)) else (none))) else (some (⟨#[]⟩ : ByteArray))) = some r := H
 have A2 := Aside0.mk A20
 clear A20
 by_cases c3 : t202 = true
 ·subst c3
  rw [if_pos rfl] at H
  replace H := Option.bind_eq_some_iff.mp H
  obtain ⟨t203, A40, H⟩ := H
  replace H : (if 0 ≤ a0_1 then (if a0_1 < (t203.length : Int) then (if (rdOf ByteArray.empty t203 a0_1).size + 1 ≤ 9223372036854775807 then ((spec_l6Dec.f k a0_0).bind fun t207 => (if ((rdOf ByteArray.empty t203 a0_1) ++ (⟨#[32]⟩ : ByteArray)).size + t207.size ≤ 9223372036854775807 then (if (((rdOf ByteArray.empty t203 a0_1) ++ (⟨#[32]⟩ : ByteArray)) ++ t207).size + 1 ≤ 9223372036854775807 then ((spec_l6Dec.f k a0_2).bind fun t208 => (if ((((rdOf ByteArray.empty t203 a0_1) ++ (⟨#[32]⟩ : ByteArray)) ++ t207) ++ (⟨#[32]⟩ : ByteArray)).size + t208.size ≤ 9223372036854775807 then (if (((((rdOf ByteArray.empty t203 a0_1) ++ (⟨#[32]⟩ : ByteArray)) ++ t207) ++ (⟨#[32]⟩ : ByteArray)) ++ t208).size + 1 ≤ 9223372036854775807 then ((spec_l6Dec.f k a0_3).bind fun t209 => (if ((((((rdOf ByteArray.empty t203 a0_1) ++ (⟨#[32]⟩ : ByteArray)) ++ t207) ++ (⟨#[32]⟩ : ByteArray)) ++ t208) ++ (⟨#[32]⟩ : ByteArray)).size + t209.size ≤ 9223372036854775807 then (if (((((((rdOf ByteArray.empty t203 a0_1) ++ (⟨#[32]⟩ : ByteArray)) ++ t207) ++ (⟨#[32]⟩ : ByteArray)) ++ t208) ++ (⟨#[32]⟩ : ByteArray)) ++ t209).size + 1 ≤ 9223372036854775807 then ((spec_l6Dec.f k a0_4).bind fun t210 => (if ((((((((rdOf ByteArray.empty t203 a0_1) ++ (⟨#[32]⟩ : ByteArray)) ++ t207) ++ (⟨#[32]⟩ : ByteArray)) ++ t208) ++ (⟨#[32]⟩ : ByteArray)) ++ t209) ++ (⟨#[32]⟩ : ByteArray)).size + t210.size ≤ 9223372036854775807 then (if (((((((((rdOf ByteArray.empty t203 a0_1) ++ (⟨#[32]⟩ : ByteArray)) ++ t207) ++ (⟨#[32]⟩ : ByteArray)) ++ t208) ++ (⟨#[32]⟩ : ByteArray)) ++ t209) ++ (⟨#[32]⟩ : ByteArray)) ++ t210).size + 1 ≤ 9223372036854775807 then ((spec_l6Dec.f k a0_5).bind fun t211 => (if ((((((((((rdOf ByteArray.empty t203 a0_1) ++ (⟨#[32]⟩ : ByteArray)) ++ t207) ++ (⟨#[32]⟩ : ByteArray)) ++ t208) ++ (⟨#[32]⟩ : ByteArray)) ++ t209) ++ (⟨#[32]⟩ : ByteArray)) ++ t210) ++ (⟨#[32]⟩ : ByteArray)).size + t211.size ≤ 9223372036854775807 then (if (((((((((((rdOf ByteArray.empty t203 a0_1) ++ (⟨#[32]⟩ : ByteArray)) ++ t207) ++ (⟨#[32]⟩ : ByteArray)) ++ t208) ++ (⟨#[32]⟩ : ByteArray)) ++ t209) ++ (⟨#[32]⟩ : ByteArray)) ++ t210) ++ (⟨#[32]⟩ : ByteArray)) ++ t211).size + 1 ≤ 9223372036854775807 then ((spec_l6Dec.f k a0_6).bind fun t212 => (if ((((((((((((rdOf ByteArray.empty t203 a0_1) ++ (⟨#[32]⟩ : ByteArray)) ++ t207) ++ (⟨#[32]⟩ : ByteArray)) ++ t208) ++ (⟨#[32]⟩ : ByteArray)) ++ t209) ++ (⟨#[32]⟩ : ByteArray)) ++ t210) ++ (⟨#[32]⟩ : ByteArray)) ++ t211) ++ (⟨#[32]⟩ : ByteArray)).size + t212.size ≤ 9223372036854775807 then (some (((((((((((((rdOf ByteArray.empty t203 a0_1) ++ (⟨#[32]⟩ : ByteArray)) ++ t207) ++ (⟨#[32]⟩ : ByteArray)) ++ t208) ++ (⟨#[32]⟩ : ByteArray)) ++ t209) ++ (⟨#[32]⟩ : ByteArray)) ++ t210) ++ (⟨#[32]⟩ : ByteArray)) ++ t211) ++ (⟨#[32]⟩ : ByteArray)) ++ t212)) else (none))) else (none)) else (none))) else (none)) else (none))) else (none)) else (none))) else (none)) else (none))) else (none)) else (none))) else (none)) else (none)) else (none)) = some r := H
  have A4 := Aside0.mk A40
  clear A40
  by_cases c5 : 0 ≤ a0_1
  ·rw [if_pos c5] at H
   have c5b0 : decide (0 ≤ a0_1) = true := decide_eq_true c5
   clear c5
   by_cases c6 : a0_1 < (t203.length : Int)
   ·rw [if_pos c6] at H
    have c6b0 : decide (a0_1 < (t203.length : Int)) = true := decide_eq_true c6
    clear c6
    by_cases c7 : (rdOf ByteArray.empty t203 a0_1).size + 1 ≤ 9223372036854775807
    ·rw [if_pos c7] at H
     have c7b0 := eq_true c7
     have c7b1 : decide ((rdOf ByteArray.empty t203 a0_1).size + 1 ≤ 9223372036854775807) = true := decide_eq_true c7
     try have c7b2 : (9223372036854775807 < (rdOf ByteArray.empty t203 a0_1).size + 1) = False := eq_false (Nat.not_lt.2 c7)
     try (have c7b3 := c7b2; simp only [ByteArray.size_append, sp1_15, nl1_15] at c7b3)
     replace H := Option.bind_eq_some_iff.mp H
     obtain ⟨t207, A80, H⟩ := H
     replace H : (if ((rdOf ByteArray.empty t203 a0_1) ++ (⟨#[32]⟩ : ByteArray)).size + t207.size ≤ 9223372036854775807 then (if (((rdOf ByteArray.empty t203 a0_1) ++ (⟨#[32]⟩ : ByteArray)) ++ t207).size + 1 ≤ 9223372036854775807 then ((spec_l6Dec.f k a0_2).bind fun t208 => (if ((((rdOf ByteArray.empty t203 a0_1) ++ (⟨#[32]⟩ : ByteArray)) ++ t207) ++ (⟨#[32]⟩ : ByteArray)).size + t208.size ≤ 9223372036854775807 then (if (((((rdOf ByteArray.empty t203 a0_1) ++ (⟨#[32]⟩ : ByteArray)) ++ t207) ++ (⟨#[32]⟩ : ByteArray)) ++ t208).size + 1 ≤ 9223372036854775807 then ((spec_l6Dec.f k a0_3).bind fun t209 => (if ((((((rdOf ByteArray.empty t203 a0_1) ++ (⟨#[32]⟩ : ByteArray)) ++ t207) ++ (⟨#[32]⟩ : ByteArray)) ++ t208) ++ (⟨#[32]⟩ : ByteArray)).size + t209.size ≤ 9223372036854775807 then (if (((((((rdOf ByteArray.empty t203 a0_1) ++ (⟨#[32]⟩ : ByteArray)) ++ t207) ++ (⟨#[32]⟩ : ByteArray)) ++ t208) ++ (⟨#[32]⟩ : ByteArray)) ++ t209).size + 1 ≤ 9223372036854775807 then ((spec_l6Dec.f k a0_4).bind fun t210 => (if ((((((((rdOf ByteArray.empty t203 a0_1) ++ (⟨#[32]⟩ : ByteArray)) ++ t207) ++ (⟨#[32]⟩ : ByteArray)) ++ t208) ++ (⟨#[32]⟩ : ByteArray)) ++ t209) ++ (⟨#[32]⟩ : ByteArray)).size + t210.size ≤ 9223372036854775807 then (if (((((((((rdOf ByteArray.empty t203 a0_1) ++ (⟨#[32]⟩ : ByteArray)) ++ t207) ++ (⟨#[32]⟩ : ByteArray)) ++ t208) ++ (⟨#[32]⟩ : ByteArray)) ++ t209) ++ (⟨#[32]⟩ : ByteArray)) ++ t210).size + 1 ≤ 9223372036854775807 then ((spec_l6Dec.f k a0_5).bind fun t211 => (if ((((((((((rdOf ByteArray.empty t203 a0_1) ++ (⟨#[32]⟩ : ByteArray)) ++ t207) ++ (⟨#[32]⟩ : ByteArray)) ++ t208) ++ (⟨#[32]⟩ : ByteArray)) ++ t209) ++ (⟨#[32]⟩ : ByteArray)) ++ t210) ++ (⟨#[32]⟩ : ByteArray)).size + t211.size ≤ 9223372036854775807 then (if (((((((((((rdOf ByteArray.empty t203 a0_1) ++ (⟨#[32]⟩ : ByteArray)) ++ t207) ++ (⟨#[32]⟩ : ByteArray)) ++ t208) ++ (⟨#[32]⟩ : ByteArray)) ++ t209) ++ (⟨#[32]⟩ : ByteArray)) ++ t210) ++ (⟨#[32]⟩ : ByteArray)) ++ t211).size + 1 ≤ 9223372036854775807 then ((spec_l6Dec.f k a0_6).bind fun t212 => (if ((((((((((((rdOf ByteArray.empty t203 a0_1) ++ (⟨#[32]⟩ : ByteArray)) ++ t207) ++ (⟨#[32]⟩ : ByteArray)) ++ t208) ++ (⟨#[32]⟩ : ByteArray)) ++ t209) ++ (⟨#[32]⟩ : ByteArray)) ++ t210) ++ (⟨#[32]⟩ : ByteArray)) ++ t211) ++ (⟨#[32]⟩ : ByteArray)).size + t212.size ≤ 9223372036854775807 then (some (((((((((((((rdOf ByteArray.empty t203 a0_1) ++ (⟨#[32]⟩ : ByteArray)) ++ t207) ++ (⟨#[32]⟩ : ByteArray)) ++ t208) ++ (⟨#[32]⟩ : ByteArray)) ++ t209) ++ (⟨#[32]⟩ : ByteArray)) ++ t210) ++ (⟨#[32]⟩ : ByteArray)) ++ t211) ++ (⟨#[32]⟩ : ByteArray)) ++ t212)) else (none))) else (none)) else (none))) else (none)) else (none))) else (none)) else (none))) else (none)) else (none))) else (none)) else (none)) = some r := H
     have A8 := Aside0.mk A80
     clear A80
     by_cases c9 : ((rdOf ByteArray.empty t203 a0_1) ++ (⟨#[32]⟩ : ByteArray)).size + t207.size ≤ 9223372036854775807
     ·rw [if_pos c9] at H
      have c9b0 := eq_true c9
      have c9b1 : decide (((rdOf ByteArray.empty t203 a0_1) ++ (⟨#[32]⟩ : ByteArray)).size + t207.size ≤ 9223372036854775807) = true := decide_eq_true c9
      try have c9b2 : (9223372036854775807 < ((rdOf ByteArray.empty t203 a0_1) ++ (⟨#[32]⟩ : ByteArray)).size + t207.size) = False := eq_false (Nat.not_lt.2 c9)
      try (have c9b3 := c9b2; simp only [ByteArray.size_append, sp1_15, nl1_15] at c9b3)
      by_cases c10 : (((rdOf ByteArray.empty t203 a0_1) ++ (⟨#[32]⟩ : ByteArray)) ++ t207).size + 1 ≤ 9223372036854775807
      ·rw [if_pos c10] at H
       have c10b0 := eq_true c10
       have c10b1 : decide ((((rdOf ByteArray.empty t203 a0_1) ++ (⟨#[32]⟩ : ByteArray)) ++ t207).size + 1 ≤ 9223372036854775807) = true := decide_eq_true c10
       try have c10b2 : (9223372036854775807 < (((rdOf ByteArray.empty t203 a0_1) ++ (⟨#[32]⟩ : ByteArray)) ++ t207).size + 1) = False := eq_false (Nat.not_lt.2 c10)
       try (have c10b3 := c10b2; simp only [ByteArray.size_append, sp1_15, nl1_15] at c10b3)
       replace H := Option.bind_eq_some_iff.mp H
       obtain ⟨t208, A110, H⟩ := H
       replace H : (if ((((rdOf ByteArray.empty t203 a0_1) ++ (⟨#[32]⟩ : ByteArray)) ++ t207) ++ (⟨#[32]⟩ : ByteArray)).size + t208.size ≤ 9223372036854775807 then (if (((((rdOf ByteArray.empty t203 a0_1) ++ (⟨#[32]⟩ : ByteArray)) ++ t207) ++ (⟨#[32]⟩ : ByteArray)) ++ t208).size + 1 ≤ 9223372036854775807 then ((spec_l6Dec.f k a0_3).bind fun t209 => (if ((((((rdOf ByteArray.empty t203 a0_1) ++ (⟨#[32]⟩ : ByteArray)) ++ t207) ++ (⟨#[32]⟩ : ByteArray)) ++ t208) ++ (⟨#[32]⟩ : ByteArray)).size + t209.size ≤ 9223372036854775807 then (if (((((((rdOf ByteArray.empty t203 a0_1) ++ (⟨#[32]⟩ : ByteArray)) ++ t207) ++ (⟨#[32]⟩ : ByteArray)) ++ t208) ++ (⟨#[32]⟩ : ByteArray)) ++ t209).size + 1 ≤ 9223372036854775807 then ((spec_l6Dec.f k a0_4).bind fun t210 => (if ((((((((rdOf ByteArray.empty t203 a0_1) ++ (⟨#[32]⟩ : ByteArray)) ++ t207) ++ (⟨#[32]⟩ : ByteArray)) ++ t208) ++ (⟨#[32]⟩ : ByteArray)) ++ t209) ++ (⟨#[32]⟩ : ByteArray)).size + t210.size ≤ 9223372036854775807 then (if (((((((((rdOf ByteArray.empty t203 a0_1) ++ (⟨#[32]⟩ : ByteArray)) ++ t207) ++ (⟨#[32]⟩ : ByteArray)) ++ t208) ++ (⟨#[32]⟩ : ByteArray)) ++ t209) ++ (⟨#[32]⟩ : ByteArray)) ++ t210).size + 1 ≤ 9223372036854775807 then ((spec_l6Dec.f k a0_5).bind fun t211 => (if ((((((((((rdOf ByteArray.empty t203 a0_1) ++ (⟨#[32]⟩ : ByteArray)) ++ t207) ++ (⟨#[32]⟩ : ByteArray)) ++ t208) ++ (⟨#[32]⟩ : ByteArray)) ++ t209) ++ (⟨#[32]⟩ : ByteArray)) ++ t210) ++ (⟨#[32]⟩ : ByteArray)).size + t211.size ≤ 9223372036854775807 then (if (((((((((((rdOf ByteArray.empty t203 a0_1) ++ (⟨#[32]⟩ : ByteArray)) ++ t207) ++ (⟨#[32]⟩ : ByteArray)) ++ t208) ++ (⟨#[32]⟩ : ByteArray)) ++ t209) ++ (⟨#[32]⟩ : ByteArray)) ++ t210) ++ (⟨#[32]⟩ : ByteArray)) ++ t211).size + 1 ≤ 9223372036854775807 then ((spec_l6Dec.f k a0_6).bind fun t212 => (if ((((((((((((rdOf ByteArray.empty t203 a0_1) ++ (⟨#[32]⟩ : ByteArray)) ++ t207) ++ (⟨#[32]⟩ : ByteArray)) ++ t208) ++ (⟨#[32]⟩ : ByteArray)) ++ t209) ++ (⟨#[32]⟩ : ByteArray)) ++ t210) ++ (⟨#[32]⟩ : ByteArray)) ++ t211) ++ (⟨#[32]⟩ : ByteArray)).size + t212.size ≤ 9223372036854775807 then (some (((((((((((((rdOf ByteArray.empty t203 a0_1) ++ (⟨#[32]⟩ : ByteArray)) ++ t207) ++ (⟨#[32]⟩ : ByteArray)) ++ t208) ++ (⟨#[32]⟩ : ByteArray)) ++ t209) ++ (⟨#[32]⟩ : ByteArray)) ++ t210) ++ (⟨#[32]⟩ : ByteArray)) ++ t211) ++ (⟨#[32]⟩ : ByteArray)) ++ t212)) else (none))) else (none)) else (none))) else (none)) else (none))) else (none)) else (none))) else (none)) else (none)) = some r := H
       have A11 := Aside0.mk A110
       clear A110
       by_cases c12 : ((((rdOf ByteArray.empty t203 a0_1) ++ (⟨#[32]⟩ : ByteArray)) ++ t207) ++ (⟨#[32]⟩ : ByteArray)).size + t208.size ≤ 9223372036854775807
       ·rw [if_pos c12] at H
        have c12b0 := eq_true c12
        have c12b1 : decide (((((rdOf ByteArray.empty t203 a0_1) ++ (⟨#[32]⟩ : ByteArray)) ++ t207) ++ (⟨#[32]⟩ : ByteArray)).size + t208.size ≤ 9223372036854775807) = true := decide_eq_true c12
        try have c12b2 : (9223372036854775807 < ((((rdOf ByteArray.empty t203 a0_1) ++ (⟨#[32]⟩ : ByteArray)) ++ t207) ++ (⟨#[32]⟩ : ByteArray)).size + t208.size) = False := eq_false (Nat.not_lt.2 c12)
        try (have c12b3 := c12b2; simp only [ByteArray.size_append, sp1_15, nl1_15] at c12b3)
        by_cases c13 : (((((rdOf ByteArray.empty t203 a0_1) ++ (⟨#[32]⟩ : ByteArray)) ++ t207) ++ (⟨#[32]⟩ : ByteArray)) ++ t208).size + 1 ≤ 9223372036854775807
        ·rw [if_pos c13] at H
         have c13b0 := eq_true c13
         have c13b1 : decide ((((((rdOf ByteArray.empty t203 a0_1) ++ (⟨#[32]⟩ : ByteArray)) ++ t207) ++ (⟨#[32]⟩ : ByteArray)) ++ t208).size + 1 ≤ 9223372036854775807) = true := decide_eq_true c13
         try have c13b2 : (9223372036854775807 < (((((rdOf ByteArray.empty t203 a0_1) ++ (⟨#[32]⟩ : ByteArray)) ++ t207) ++ (⟨#[32]⟩ : ByteArray)) ++ t208).size + 1) = False := eq_false (Nat.not_lt.2 c13)
         try (have c13b3 := c13b2; simp only [ByteArray.size_append, sp1_15, nl1_15] at c13b3)
         replace H := Option.bind_eq_some_iff.mp H
         obtain ⟨t209, A140, H⟩ := H
         replace H : (if ((((((rdOf ByteArray.empty t203 a0_1) ++ (⟨#[32]⟩ : ByteArray)) ++ t207) ++ (⟨#[32]⟩ : ByteArray)) ++ t208) ++ (⟨#[32]⟩ : ByteArray)).size + t209.size ≤ 9223372036854775807 then (if (((((((rdOf ByteArray.empty t203 a0_1) ++ (⟨#[32]⟩ : ByteArray)) ++ t207) ++ (⟨#[32]⟩ : ByteArray)) ++ t208) ++ (⟨#[32]⟩ : ByteArray)) ++ t209).size + 1 ≤ 9223372036854775807 then ((spec_l6Dec.f k a0_4).bind fun t210 => (if ((((((((rdOf ByteArray.empty t203 a0_1) ++ (⟨#[32]⟩ : ByteArray)) ++ t207) ++ (⟨#[32]⟩ : ByteArray)) ++ t208) ++ (⟨#[32]⟩ : ByteArray)) ++ t209) ++ (⟨#[32]⟩ : ByteArray)).size + t210.size ≤ 9223372036854775807 then (if (((((((((rdOf ByteArray.empty t203 a0_1) ++ (⟨#[32]⟩ : ByteArray)) ++ t207) ++ (⟨#[32]⟩ : ByteArray)) ++ t208) ++ (⟨#[32]⟩ : ByteArray)) ++ t209) ++ (⟨#[32]⟩ : ByteArray)) ++ t210).size + 1 ≤ 9223372036854775807 then ((spec_l6Dec.f k a0_5).bind fun t211 => (if ((((((((((rdOf ByteArray.empty t203 a0_1) ++ (⟨#[32]⟩ : ByteArray)) ++ t207) ++ (⟨#[32]⟩ : ByteArray)) ++ t208) ++ (⟨#[32]⟩ : ByteArray)) ++ t209) ++ (⟨#[32]⟩ : ByteArray)) ++ t210) ++ (⟨#[32]⟩ : ByteArray)).size + t211.size ≤ 9223372036854775807 then (if (((((((((((rdOf ByteArray.empty t203 a0_1) ++ (⟨#[32]⟩ : ByteArray)) ++ t207) ++ (⟨#[32]⟩ : ByteArray)) ++ t208) ++ (⟨#[32]⟩ : ByteArray)) ++ t209) ++ (⟨#[32]⟩ : ByteArray)) ++ t210) ++ (⟨#[32]⟩ : ByteArray)) ++ t211).size + 1 ≤ 9223372036854775807 then ((spec_l6Dec.f k a0_6).bind fun t212 => (if ((((((((((((rdOf ByteArray.empty t203 a0_1) ++ (⟨#[32]⟩ : ByteArray)) ++ t207) ++ (⟨#[32]⟩ : ByteArray)) ++ t208) ++ (⟨#[32]⟩ : ByteArray)) ++ t209) ++ (⟨#[32]⟩ : ByteArray)) ++ t210) ++ (⟨#[32]⟩ : ByteArray)) ++ t211) ++ (⟨#[32]⟩ : ByteArray)).size + t212.size ≤ 9223372036854775807 then (some (((((((((((((rdOf ByteArray.empty t203 a0_1) ++ (⟨#[32]⟩ : ByteArray)) ++ t207) ++ (⟨#[32]⟩ : ByteArray)) ++ t208) ++ (⟨#[32]⟩ : ByteArray)) ++ t209) ++ (⟨#[32]⟩ : ByteArray)) ++ t210) ++ (⟨#[32]⟩ : ByteArray)) ++ t211) ++ (⟨#[32]⟩ : ByteArray)) ++ t212)) else (none))) else (none)) else (none))) else (none)) else (none))) else (none)) else (none)) = some r := H
         have A14 := Aside0.mk A140
         clear A140
         by_cases c15 : ((((((rdOf ByteArray.empty t203 a0_1) ++ (⟨#[32]⟩ : ByteArray)) ++ t207) ++ (⟨#[32]⟩ : ByteArray)) ++ t208) ++ (⟨#[32]⟩ : ByteArray)).size + t209.size ≤ 9223372036854775807
         ·rw [if_pos c15] at H
          have c15b0 := eq_true c15
          have c15b1 : decide (((((((rdOf ByteArray.empty t203 a0_1) ++ (⟨#[32]⟩ : ByteArray)) ++ t207) ++ (⟨#[32]⟩ : ByteArray)) ++ t208) ++ (⟨#[32]⟩ : ByteArray)).size + t209.size ≤ 9223372036854775807) = true := decide_eq_true c15
          try have c15b2 : (9223372036854775807 < ((((((rdOf ByteArray.empty t203 a0_1) ++ (⟨#[32]⟩ : ByteArray)) ++ t207) ++ (⟨#[32]⟩ : ByteArray)) ++ t208) ++ (⟨#[32]⟩ : ByteArray)).size + t209.size) = False := eq_false (Nat.not_lt.2 c15)
          try (have c15b3 := c15b2; simp only [ByteArray.size_append, sp1_15, nl1_15] at c15b3)
          by_cases c16 : (((((((rdOf ByteArray.empty t203 a0_1) ++ (⟨#[32]⟩ : ByteArray)) ++ t207) ++ (⟨#[32]⟩ : ByteArray)) ++ t208) ++ (⟨#[32]⟩ : ByteArray)) ++ t209).size + 1 ≤ 9223372036854775807
          ·rw [if_pos c16] at H
           have c16b0 := eq_true c16
           have c16b1 : decide ((((((((rdOf ByteArray.empty t203 a0_1) ++ (⟨#[32]⟩ : ByteArray)) ++ t207) ++ (⟨#[32]⟩ : ByteArray)) ++ t208) ++ (⟨#[32]⟩ : ByteArray)) ++ t209).size + 1 ≤ 9223372036854775807) = true := decide_eq_true c16
           try have c16b2 : (9223372036854775807 < (((((((rdOf ByteArray.empty t203 a0_1) ++ (⟨#[32]⟩ : ByteArray)) ++ t207) ++ (⟨#[32]⟩ : ByteArray)) ++ t208) ++ (⟨#[32]⟩ : ByteArray)) ++ t209).size + 1) = False := eq_false (Nat.not_lt.2 c16)
           try (have c16b3 := c16b2; simp only [ByteArray.size_append, sp1_15, nl1_15] at c16b3)
           replace H := Option.bind_eq_some_iff.mp H
           obtain ⟨t210, A170, H⟩ := H
           replace H : (if ((((((((rdOf ByteArray.empty t203 a0_1) ++ (⟨#[32]⟩ : ByteArray)) ++ t207) ++ (⟨#[32]⟩ : ByteArray)) ++ t208) ++ (⟨#[32]⟩ : ByteArray)) ++ t209) ++ (⟨#[32]⟩ : ByteArray)).size + t210.size ≤ 9223372036854775807 then (if (((((((((rdOf ByteArray.empty t203 a0_1) ++ (⟨#[32]⟩ : ByteArray)) ++ t207) ++ (⟨#[32]⟩ : ByteArray)) ++ t208) ++ (⟨#[32]⟩ : ByteArray)) ++ t209) ++ (⟨#[32]⟩ : ByteArray)) ++ t210).size + 1 ≤ 9223372036854775807 then ((spec_l6Dec.f k a0_5).bind fun t211 => (if ((((((((((rdOf ByteArray.empty t203 a0_1) ++ (⟨#[32]⟩ : ByteArray)) ++ t207) ++ (⟨#[32]⟩ : ByteArray)) ++ t208) ++ (⟨#[32]⟩ : ByteArray)) ++ t209) ++ (⟨#[32]⟩ : ByteArray)) ++ t210) ++ (⟨#[32]⟩ : ByteArray)).size + t211.size ≤ 9223372036854775807 then (if (((((((((((rdOf ByteArray.empty t203 a0_1) ++ (⟨#[32]⟩ : ByteArray)) ++ t207) ++ (⟨#[32]⟩ : ByteArray)) ++ t208) ++ (⟨#[32]⟩ : ByteArray)) ++ t209) ++ (⟨#[32]⟩ : ByteArray)) ++ t210) ++ (⟨#[32]⟩ : ByteArray)) ++ t211).size + 1 ≤ 9223372036854775807 then ((spec_l6Dec.f k a0_6).bind fun t212 => (if ((((((((((((rdOf ByteArray.empty t203 a0_1) ++ (⟨#[32]⟩ : ByteArray)) ++ t207) ++ (⟨#[32]⟩ : ByteArray)) ++ t208) ++ (⟨#[32]⟩ : ByteArray)) ++ t209) ++ (⟨#[32]⟩ : ByteArray)) ++ t210) ++ (⟨#[32]⟩ : ByteArray)) ++ t211) ++ (⟨#[32]⟩ : ByteArray)).size + t212.size ≤ 9223372036854775807 then (some (((((((((((((rdOf ByteArray.empty t203 a0_1) ++ (⟨#[32]⟩ : ByteArray)) ++ t207) ++ (⟨#[32]⟩ : ByteArray)) ++ t208) ++ (⟨#[32]⟩ : ByteArray)) ++ t209) ++ (⟨#[32]⟩ : ByteArray)) ++ t210) ++ (⟨#[32]⟩ : ByteArray)) ++ t211) ++ (⟨#[32]⟩ : ByteArray)) ++ t212)) else (none))) else (none)) else (none))) else (none)) else (none)) = some r := H
           have A17 := Aside0.mk A170
           clear A170
           by_cases c18 : ((((((((rdOf ByteArray.empty t203 a0_1) ++ (⟨#[32]⟩ : ByteArray)) ++ t207) ++ (⟨#[32]⟩ : ByteArray)) ++ t208) ++ (⟨#[32]⟩ : ByteArray)) ++ t209) ++ (⟨#[32]⟩ : ByteArray)).size + t210.size ≤ 9223372036854775807
           ·rw [if_pos c18] at H
            have c18b0 := eq_true c18
            have c18b1 : decide (((((((((rdOf ByteArray.empty t203 a0_1) ++ (⟨#[32]⟩ : ByteArray)) ++ t207) ++ (⟨#[32]⟩ : ByteArray)) ++ t208) ++ (⟨#[32]⟩ : ByteArray)) ++ t209) ++ (⟨#[32]⟩ : ByteArray)).size + t210.size ≤ 9223372036854775807) = true := decide_eq_true c18
            try have c18b2 : (9223372036854775807 < ((((((((rdOf ByteArray.empty t203 a0_1) ++ (⟨#[32]⟩ : ByteArray)) ++ t207) ++ (⟨#[32]⟩ : ByteArray)) ++ t208) ++ (⟨#[32]⟩ : ByteArray)) ++ t209) ++ (⟨#[32]⟩ : ByteArray)).size + t210.size) = False := eq_false (Nat.not_lt.2 c18)
            try (have c18b3 := c18b2; simp only [ByteArray.size_append, sp1_15, nl1_15] at c18b3)
            by_cases c19 : (((((((((rdOf ByteArray.empty t203 a0_1) ++ (⟨#[32]⟩ : ByteArray)) ++ t207) ++ (⟨#[32]⟩ : ByteArray)) ++ t208) ++ (⟨#[32]⟩ : ByteArray)) ++ t209) ++ (⟨#[32]⟩ : ByteArray)) ++ t210).size + 1 ≤ 9223372036854775807
            ·rw [if_pos c19] at H
             have c19b0 := eq_true c19
             have c19b1 : decide ((((((((((rdOf ByteArray.empty t203 a0_1) ++ (⟨#[32]⟩ : ByteArray)) ++ t207) ++ (⟨#[32]⟩ : ByteArray)) ++ t208) ++ (⟨#[32]⟩ : ByteArray)) ++ t209) ++ (⟨#[32]⟩ : ByteArray)) ++ t210).size + 1 ≤ 9223372036854775807) = true := decide_eq_true c19
             try have c19b2 : (9223372036854775807 < (((((((((rdOf ByteArray.empty t203 a0_1) ++ (⟨#[32]⟩ : ByteArray)) ++ t207) ++ (⟨#[32]⟩ : ByteArray)) ++ t208) ++ (⟨#[32]⟩ : ByteArray)) ++ t209) ++ (⟨#[32]⟩ : ByteArray)) ++ t210).size + 1) = False := eq_false (Nat.not_lt.2 c19)
             try (have c19b3 := c19b2; simp only [ByteArray.size_append, sp1_15, nl1_15] at c19b3)
             replace H := Option.bind_eq_some_iff.mp H
             obtain ⟨t211, A200, H⟩ := H
             replace H : (if ((((((((((rdOf ByteArray.empty t203 a0_1) ++ (⟨#[32]⟩ : ByteArray)) ++ t207) ++ (⟨#[32]⟩ : ByteArray)) ++ t208) ++ (⟨#[32]⟩ : ByteArray)) ++ t209) ++ (⟨#[32]⟩ : ByteArray)) ++ t210) ++ (⟨#[32]⟩ : ByteArray)).size + t211.size ≤ 9223372036854775807 then (if (((((((((((rdOf ByteArray.empty t203 a0_1) ++ (⟨#[32]⟩ : ByteArray)) ++ t207) ++ (⟨#[32]⟩ : ByteArray)) ++ t208) ++ (⟨#[32]⟩ : ByteArray)) ++ t209) ++ (⟨#[32]⟩ : ByteArray)) ++ t210) ++ (⟨#[32]⟩ : ByteArray)) ++ t211).size + 1 ≤ 9223372036854775807 then ((spec_l6Dec.f k a0_6).bind fun t212 => (if ((((((((((((rdOf ByteArray.empty t203 a0_1) ++ (⟨#[32]⟩ : ByteArray)) ++ t207) ++ (⟨#[32]⟩ : ByteArray)) ++ t208) ++ (⟨#[32]⟩ : ByteArray)) ++ t209) ++ (⟨#[32]⟩ : ByteArray)) ++ t210) ++ (⟨#[32]⟩ : ByteArray)) ++ t211) ++ (⟨#[32]⟩ : ByteArray)).size + t212.size ≤ 9223372036854775807 then (some (((((((((((((rdOf ByteArray.empty t203 a0_1) ++ (⟨#[32]⟩ : ByteArray)) ++ t207) ++ (⟨#[32]⟩ : ByteArray)) ++ t208) ++ (⟨#[32]⟩ : ByteArray)) ++ t209) ++ (⟨#[32]⟩ : ByteArray)) ++ t210) ++ (⟨#[32]⟩ : ByteArray)) ++ t211) ++ (⟨#[32]⟩ : ByteArray)) ++ t212)) else (none))) else (none)) else (none)) = some r := H
             have A20 := Aside0.mk A200
             clear A200
             by_cases c21 : ((((((((((rdOf ByteArray.empty t203 a0_1) ++ (⟨#[32]⟩ : ByteArray)) ++ t207) ++ (⟨#[32]⟩ : ByteArray)) ++ t208) ++ (⟨#[32]⟩ : ByteArray)) ++ t209) ++ (⟨#[32]⟩ : ByteArray)) ++ t210) ++ (⟨#[32]⟩ : ByteArray)).size + t211.size ≤ 9223372036854775807
             ·rw [if_pos c21] at H
              have c21b0 := eq_true c21
              have c21b1 : decide (((((((((((rdOf ByteArray.empty t203 a0_1) ++ (⟨#[32]⟩ : ByteArray)) ++ t207) ++ (⟨#[32]⟩ : ByteArray)) ++ t208) ++ (⟨#[32]⟩ : ByteArray)) ++ t209) ++ (⟨#[32]⟩ : ByteArray)) ++ t210) ++ (⟨#[32]⟩ : ByteArray)).size + t211.size ≤ 9223372036854775807) = true := decide_eq_true c21
              try have c21b2 : (9223372036854775807 < ((((((((((rdOf ByteArray.empty t203 a0_1) ++ (⟨#[32]⟩ : ByteArray)) ++ t207) ++ (⟨#[32]⟩ : ByteArray)) ++ t208) ++ (⟨#[32]⟩ : ByteArray)) ++ t209) ++ (⟨#[32]⟩ : ByteArray)) ++ t210) ++ (⟨#[32]⟩ : ByteArray)).size + t211.size) = False := eq_false (Nat.not_lt.2 c21)
              try (have c21b3 := c21b2; simp only [ByteArray.size_append, sp1_15, nl1_15] at c21b3)
              by_cases c22 : (((((((((((rdOf ByteArray.empty t203 a0_1) ++ (⟨#[32]⟩ : ByteArray)) ++ t207) ++ (⟨#[32]⟩ : ByteArray)) ++ t208) ++ (⟨#[32]⟩ : ByteArray)) ++ t209) ++ (⟨#[32]⟩ : ByteArray)) ++ t210) ++ (⟨#[32]⟩ : ByteArray)) ++ t211).size + 1 ≤ 9223372036854775807
              ·rw [if_pos c22] at H
               have c22b0 := eq_true c22
               have c22b1 : decide ((((((((((((rdOf ByteArray.empty t203 a0_1) ++ (⟨#[32]⟩ : ByteArray)) ++ t207) ++ (⟨#[32]⟩ : ByteArray)) ++ t208) ++ (⟨#[32]⟩ : ByteArray)) ++ t209) ++ (⟨#[32]⟩ : ByteArray)) ++ t210) ++ (⟨#[32]⟩ : ByteArray)) ++ t211).size + 1 ≤ 9223372036854775807) = true := decide_eq_true c22
               try have c22b2 : (9223372036854775807 < (((((((((((rdOf ByteArray.empty t203 a0_1) ++ (⟨#[32]⟩ : ByteArray)) ++ t207) ++ (⟨#[32]⟩ : ByteArray)) ++ t208) ++ (⟨#[32]⟩ : ByteArray)) ++ t209) ++ (⟨#[32]⟩ : ByteArray)) ++ t210) ++ (⟨#[32]⟩ : ByteArray)) ++ t211).size + 1) = False := eq_false (Nat.not_lt.2 c22)
               try (have c22b3 := c22b2; simp only [ByteArray.size_append, sp1_15, nl1_15] at c22b3)
               replace H := Option.bind_eq_some_iff.mp H
               obtain ⟨t212, A230, H⟩ := H
               replace H : (if ((((((((((((rdOf ByteArray.empty t203 a0_1) ++ (⟨#[32]⟩ : ByteArray)) ++ t207) ++ (⟨#[32]⟩ : ByteArray)) ++ t208) ++ (⟨#[32]⟩ : ByteArray)) ++ t209) ++ (⟨#[32]⟩ : ByteArray)) ++ t210) ++ (⟨#[32]⟩ : ByteArray)) ++ t211) ++ (⟨#[32]⟩ : ByteArray)).size + t212.size ≤ 9223372036854775807 then (some (((((((((((((rdOf ByteArray.empty t203 a0_1) ++ (⟨#[32]⟩ : ByteArray)) ++ t207) ++ (⟨#[32]⟩ : ByteArray)) ++ t208) ++ (⟨#[32]⟩ : ByteArray)) ++ t209) ++ (⟨#[32]⟩ : ByteArray)) ++ t210) ++ (⟨#[32]⟩ : ByteArray)) ++ t211) ++ (⟨#[32]⟩ : ByteArray)) ++ t212)) else (none)) = some r := H
               have A23 := Aside0.mk A230
               clear A230
               by_cases c24 : ((((((((((((rdOf ByteArray.empty t203 a0_1) ++ (⟨#[32]⟩ : ByteArray)) ++ t207) ++ (⟨#[32]⟩ : ByteArray)) ++ t208) ++ (⟨#[32]⟩ : ByteArray)) ++ t209) ++ (⟨#[32]⟩ : ByteArray)) ++ t210) ++ (⟨#[32]⟩ : ByteArray)) ++ t211) ++ (⟨#[32]⟩ : ByteArray)).size + t212.size ≤ 9223372036854775807
               ·rw [if_pos c24] at H
                have c24b0 := eq_true c24
                have c24b1 : decide (((((((((((((rdOf ByteArray.empty t203 a0_1) ++ (⟨#[32]⟩ : ByteArray)) ++ t207) ++ (⟨#[32]⟩ : ByteArray)) ++ t208) ++ (⟨#[32]⟩ : ByteArray)) ++ t209) ++ (⟨#[32]⟩ : ByteArray)) ++ t210) ++ (⟨#[32]⟩ : ByteArray)) ++ t211) ++ (⟨#[32]⟩ : ByteArray)).size + t212.size ≤ 9223372036854775807) = true := decide_eq_true c24
                try have c24b2 : (9223372036854775807 < ((((((((((((rdOf ByteArray.empty t203 a0_1) ++ (⟨#[32]⟩ : ByteArray)) ++ t207) ++ (⟨#[32]⟩ : ByteArray)) ++ t208) ++ (⟨#[32]⟩ : ByteArray)) ++ t209) ++ (⟨#[32]⟩ : ByteArray)) ++ t210) ++ (⟨#[32]⟩ : ByteArray)) ++ t211) ++ (⟨#[32]⟩ : ByteArray)).size + t212.size) = False := eq_false (Nat.not_lt.2 c24)
                try (have c24b3 := c24b2; simp only [ByteArray.size_append, sp1_15, nl1_15] at c24b3)
                obtain rfl := Option.some.inj H
                go_enter Tryd.func9, Tryd.ntmps9
                try go_wp2_with (first | ((with_reducible refine gate_dst (N := 1) rfl ?_); refine box_event ?hg (N := 1) ?hd (cs := #[.int .i64 a0_0, .int .i64 a0_1, .int .i64 a0_2, .int .i64 a0_3, .int .i64 a0_4, .int .i64 a0_5, .int .i64 a0_6]) (t := 24) ?hr ?_; (case hd => rfl); (case hg => rfl); (case hr => first | (go_simp; done) | (go_simp; rfl)); intro gb201 hg w25 hbox hb; have n0_ := Aside0.mk (below_step (by repeat (first | (with_reducible first | exact HB.out | apply below_alloc | apply pw_below_drewN | apply below_drew1) | exact HB.out)) hb); have n1_ := Aside0.mk (hbox); have n2_ := Aside0.mk ((z15x1 : w.heap.size ≤ gb201)); have n3_ := Aside0.mk ((z15x1 : w.heap.size ≤ gb201)); clear HB; have HB := n0_; have BK201 := n1_; have GW201 := n2_; have GE201 := n3_; clear n0_ n1_ n2_ n3_; clear hb hbox hg; have hcz26_0 : w25.cell? ⟨gb201, 0, none⟩ = some (.int .i64 a0_0) := (blk_cell BK201.out 0).trans rfl; have hcz26_1 : w25.cell? ⟨gb201, 1, none⟩ = some (.int .i64 a0_1) := (blk_cell BK201.out 1).trans rfl; have hcz26_2 : w25.cell? ⟨gb201, 2, none⟩ = some (.int .i64 a0_2) := (blk_cell BK201.out 2).trans rfl; have hcz26_3 : w25.cell? ⟨gb201, 3, none⟩ = some (.int .i64 a0_3) := (blk_cell BK201.out 3).trans rfl; have hcz26_4 : w25.cell? ⟨gb201, 4, none⟩ = some (.int .i64 a0_4) := (blk_cell BK201.out 4).trans rfl; have hcz26_5 : w25.cell? ⟨gb201, 5, none⟩ = some (.int .i64 a0_5) := (blk_cell BK201.out 5).trans rfl; have hcz26_6 : w25.cell? ⟨gb201, 6, none⟩ = some (.int .i64 a0_6) := (blk_cell BK201.out 6).trans rfl; have hfz26_0 := blk_frozen BK201.out 0; have hfz26_1 := blk_frozen BK201.out 1; have hfz26_2 := blk_frozen BK201.out 2; have hfz26_3 := blk_frozen BK201.out 3; have hfz26_4 := blk_frozen BK201.out 4; have hfz26_5 := blk_frozen BK201.out 5; have hfz26_6 := blk_frozen BK201.out 6) | ((with_reducible refine gate_callee (f := 19) rfl ?_); refine goesL_ (some 4) rfl rfl Tryd.func19 (by kernel_rfl) rfl #[.agg #[.int .i64 a0_0, .int .i64 a0_1, .int .i64 a0_2, .int .i64 a0_3, .int .i64 a0_4, .int .i64 a0_5, .int .i64 a0_6]] rfl z15x2 ?_; (with_reducible refine (spec_SealOk.calls a0_0 a0_1 a0_2 a0_3 a0_4 a0_5 a0_6 true _ A2.out).mono ?_); rintro e w27 ⟨rfl, hb⟩; refine ⟨_, rfl, ?_⟩; have n0_ := Aside0.mk (blk_below (g := gb201) (o := .cells #[.int .i64 a0_0, .int .i64 a0_1, .int .i64 a0_2, .int .i64 a0_3, .int .i64 a0_4, .int .i64 a0_5, .int .i64 a0_6] 24 (0, 0)) z15x3 hb); have n1_ := Aside0.mk (below_step z15x0 hb); clear BK201; clear HB; have BK201 := n0_; have HB := n1_; clear n0_ n1_; (try clear hb); (try clear hb2); (try clear hk); (try clear hi)))
                have n0_ := Aside0.mk (blk_drew BK201.out)
                have n1_ := Aside0.mk (below_drew1 HB.out)
                clear BK201
                clear HB
                have BK201 := n0_
                have HB := n1_
                clear n0_ n1_
                refine start_ (n := 36) (S := fun w' => w'.cell? ⟨gb201, 0, none⟩ = some (.int .i64 a0_0) ∧ w'.cell? ⟨gb201, 1, none⟩ = some (.int .i64 a0_1) ∧ w'.cell? ⟨gb201, 2, none⟩ = some (.int .i64 a0_2) ∧ w'.cell? ⟨gb201, 3, none⟩ = some (.int .i64 a0_3) ∧ w'.cell? ⟨gb201, 4, none⟩ = some (.int .i64 a0_4) ∧ w'.cell? ⟨gb201, 5, none⟩ = some (.int .i64 a0_5) ∧ w'.cell? ⟨gb201, 6, none⟩ = some (.int .i64 a0_6)) (ds := []) #[false, false, false, false, false, false, false, false, false, false, false, false, false, false, false, false, false, false, false, false, false, false, false, false, false, false, false, false, false, false, false, false, false, false, false, false] (by kernel_rfl) rfl rfl ⟨(blk_cell BK201.out 0).trans rfl, (blk_cell BK201.out 1).trans rfl, (blk_cell BK201.out 2).trans rfl, (blk_cell BK201.out 3).trans rfl, (blk_cell BK201.out 4).trans rfl, (blk_cell BK201.out 5).trans rfl, (blk_cell BK201.out 6).trans rfl⟩ (fun hHeld => ?_); refine with_tabW spec_SealText.tab3 spec_SealText.bits3 (fun HT_ HW_ => ?_)
                generalize w27.drew = w28 at BK201 HB hHeld ⊢
                refine pure_ (i := 1) (N := some 7) (v := ?_) (a' := ?_) #[false, true, false, false, false, false, false, false, false, false, false, false, false, false, false, false, false, false, false, false, false, false, false, false, false, false, false, false, false, false, false, false, false, false, false, false] rfl rfl (any_of HT_.out (by kernel_rfl)) (fun _ _ _ h => h) (Or.inl ⟨by rfl, ?_⟩) ?_ ?_
                rotate_left
                ·intro w'
                 go_simp
                 with_reducible rfl
                rotate_left
                ·simp only [Act.put, List.setIfInBounds_toArray, List.set_cons_zero, List.set_cons_succ, i64_w, i32_w]
                 rfl
                refine pure_ (i := 6) (N := some 12) (v := ?_) (a' := ?_) #[false, true, false, false, false, false, true, false, false, false, false, false, false, false, false, false, false, false, false, false, false, false, false, false, false, false, false, false, false, false, false, false, false, false, false, false] rfl rfl (any_of HT_.out (by kernel_rfl)) (fun _ _ _ h => h) (Or.inl ⟨by rfl, ?_⟩) ?_ ?_
                rotate_left
                ·intro w'
                 go_simp
                 with_reducible rfl
                rotate_left
                ·simp only [Act.put, List.setIfInBounds_toArray, List.set_cons_zero, List.set_cons_succ, i64_w, i32_w]
                 rfl
                refine pure_ (i := 11) (N := some 17) (v := ?_) (a' := ?_) #[false, true, false, false, false, false, true, false, false, false, false, true, false, false, false, false, false, false, false, false, false, false, false, false, false, false, false, false, false, false, false, false, false, false, false, false] rfl rfl (any_of HT_.out (by kernel_rfl)) (fun _ _ _ h => h) (Or.inl ⟨by rfl, ?_⟩) ?_ ?_
                rotate_left
                ·intro w'
                 go_simp
                 with_reducible rfl
                rotate_left
                ·simp only [Act.put, List.setIfInBounds_toArray, List.set_cons_zero, List.set_cons_succ, i64_w, i32_w]
                 rfl
                refine pure_ (i := 16) (N := some 22) (v := ?_) (a' := ?_) #[false, true, false, false, false, false, true, false, false, false, false, true, false, false, false, false, true, false, false, false, false, false, false, false, false, false, false, false, false, false, false, false, false, false, false, false] rfl rfl (any_of HT_.out (by kernel_rfl)) (fun _ _ _ h => h) (Or.inl ⟨by rfl, ?_⟩) ?_ ?_
                rotate_left
                ·intro w'
                 go_simp
                 with_reducible rfl
                rotate_left
                ·simp only [Act.put, List.setIfInBounds_toArray, List.set_cons_zero, List.set_cons_succ, i64_w, i32_w]
                 rfl
                refine pure_ (i := 21) (N := some 27) (v := ?_) (a' := ?_) #[false, true, false, false, false, false, true, false, false, false, false, true, false, false, false, false, true, false, false, false, false, true, false, false, false, false, false, false, false, false, false, false, false, false, false, false] rfl rfl (any_of HT_.out (by kernel_rfl)) (fun _ _ _ h => h) (Or.inl ⟨by rfl, ?_⟩) ?_ ?_
                rotate_left
                ·intro w'
                 go_simp
                 with_reducible rfl
                rotate_left
                ·simp only [Act.put, List.setIfInBounds_toArray, List.set_cons_zero, List.set_cons_succ, i64_w, i32_w]
                 rfl
                refine pure_ (i := 26) (N := some 32) (v := ?_) (a' := ?_) #[false, true, false, false, false, false, true, false, false, false, false, true, false, false, false, false, true, false, false, false, false, true, false, false, false, false, true, false, false, false, false, false, false, false, false, false] rfl rfl (any_of HT_.out (by kernel_rfl)) (fun _ _ _ h => h) (Or.inl ⟨by rfl, ?_⟩) ?_ ?_
                rotate_left
                ·intro w'
                 go_simp
                 with_reducible rfl
                rotate_left
                ·simp only [Act.put, List.setIfInBounds_toArray, List.set_cons_zero, List.set_cons_succ, i64_w, i32_w]
                 rfl
                refine pure_ (i := 31) (N := some 37) (v := ?_) (a' := ?_) #[false, true, false, false, false, false, true, false, false, false, false, true, false, false, false, false, true, false, false, false, false, true, false, false, false, false, true, false, false, false, false, true, false, false, false, false] rfl rfl (any_of HT_.out (by kernel_rfl)) (fun _ _ _ h => h) (Or.inl ⟨by rfl, ?_⟩) ?_ ?_
                rotate_left
                ·intro w'
                 go_simp
                 with_reducible rfl
                rotate_left
                ·simp only [Act.put, List.setIfInBounds_toArray, List.set_cons_zero, List.set_cons_succ, i64_w, i32_w]
                 rfl
                refine take_ (i := 2) (N := some 8) (v := ?_) (a' := ?_) #[false, true, true, false, false, false, true, false, false, false, false, true, false, false, false, false, true, false, false, false, false, true, false, false, false, false, true, false, false, false, false, true, false, false, false, false] rfl rfl (take_ofW HT_.out HW_.out (by kernel_rfl)) (fun _ _ _ h => h) (Or.inl ⟨by rfl, ?_⟩) hHeld ?_ ?_
                rotate_left
                ·rintro w' ⟨s0, s1, s2, s3, s4, s5, s6⟩
                 go_simp
                 with_reducible rfl
                rotate_left
                ·simp only [Act.put, List.setIfInBounds_toArray, List.set_cons_zero, List.set_cons_succ, i64_w, i32_w]
                 rfl
                refine take_ (i := 7) (N := some 13) (v := ?_) (a' := ?_) #[false, true, true, false, false, false, true, true, false, false, false, true, false, false, false, false, true, false, false, false, false, true, false, false, false, false, true, false, false, false, false, true, false, false, false, false] rfl rfl (take_ofW HT_.out HW_.out (by kernel_rfl)) (fun _ _ _ h => h) (Or.inl ⟨by rfl, ?_⟩) hHeld ?_ ?_
                rotate_left
                ·rintro w' ⟨s0, s1, s2, s3, s4, s5, s6⟩
                 go_simp
                 with_reducible rfl
                rotate_left
                ·simp only [Act.put, List.setIfInBounds_toArray, List.set_cons_zero, List.set_cons_succ, i64_w, i32_w]
                 rfl
                refine take_ (i := 12) (N := some 18) (v := ?_) (a' := ?_) #[false, true, true, false, false, false, true, true, false, false, false, true, true, false, false, false, true, false, false, false, false, true, false, false, false, false, true, false, false, false, false, true, false, false, false, false] rfl rfl (take_ofW HT_.out HW_.out (by kernel_rfl)) (fun _ _ _ h => h) (Or.inl ⟨by rfl, ?_⟩) hHeld ?_ ?_
                rotate_left
                ·rintro w' ⟨s0, s1, s2, s3, s4, s5, s6⟩
                 go_simp
                 with_reducible rfl
                rotate_left
                ·simp only [Act.put, List.setIfInBounds_toArray, List.set_cons_zero, List.set_cons_succ, i64_w, i32_w]
                 rfl
                refine take_ (i := 17) (N := some 23) (v := ?_) (a' := ?_) #[false, true, true, false, false, false, true, true, false, false, false, true, true, false, false, false, true, true, false, false, false, true, false, false, false, false, true, false, false, false, false, true, false, false, false, false] rfl rfl (take_ofW HT_.out HW_.out (by kernel_rfl)) (fun _ _ _ h => h) (Or.inl ⟨by rfl, ?_⟩) hHeld ?_ ?_
                rotate_left
                ·rintro w' ⟨s0, s1, s2, s3, s4, s5, s6⟩
                 go_simp
                 with_reducible rfl
                rotate_left
                ·simp only [Act.put, List.setIfInBounds_toArray, List.set_cons_zero, List.set_cons_succ, i64_w, i32_w]
                 rfl
                refine take_ (i := 22) (N := some 28) (v := ?_) (a' := ?_) #[false, true, true, false, false, false, true, true, false, false, false, true, true, false, false, false, true, true, false, false, false, true, true, false, false, false, true, false, false, false, false, true, false, false, false, false] rfl rfl (take_ofW HT_.out HW_.out (by kernel_rfl)) (fun _ _ _ h => h) (Or.inl ⟨by rfl, ?_⟩) hHeld ?_ ?_
                rotate_left
                ·rintro w' ⟨s0, s1, s2, s3, s4, s5, s6⟩
                 go_simp
                 with_reducible rfl
                rotate_left
                ·simp only [Act.put, List.setIfInBounds_toArray, List.set_cons_zero, List.set_cons_succ, i64_w, i32_w]
                 rfl
                refine take_ (i := 27) (N := some 33) (v := ?_) (a' := ?_) #[false, true, true, false, false, false, true, true, false, false, false, true, true, false, false, false, true, true, false, false, false, true, true, false, false, false, true, true, false, false, false, true, false, false, false, false] rfl rfl (take_ofW HT_.out HW_.out (by kernel_rfl)) (fun _ _ _ h => h) (Or.inl ⟨by rfl, ?_⟩) hHeld ?_ ?_
                rotate_left
                ·rintro w' ⟨s0, s1, s2, s3, s4, s5, s6⟩
                 go_simp
                 with_reducible rfl
                rotate_left
                ·simp only [Act.put, List.setIfInBounds_toArray, List.set_cons_zero, List.set_cons_succ, i64_w, i32_w]
                 rfl
                refine take_ (i := 32) (N := some 38) (v := ?_) (a' := ?_) #[false, true, true, false, false, false, true, true, false, false, false, true, true, false, false, false, true, true, false, false, false, true, true, false, false, false, true, true, false, false, false, true, true, false, false, false] rfl rfl (take_ofW HT_.out HW_.out (by kernel_rfl)) (fun _ _ _ h => h) (Or.inl ⟨by rfl, ?_⟩) hHeld ?_ ?_
                rotate_left
                ·rintro w' ⟨s0, s1, s2, s3, s4, s5, s6⟩
                 go_simp
                 with_reducible rfl
                rotate_left
                ·simp only [Act.put, List.setIfInBounds_toArray, List.set_cons_zero, List.set_cons_succ, i64_w, i32_w]
                 rfl
                refine one_ (i := 0) (N := some 6) #[true, true, true, false, false, false, true, true, false, false, false, true, true, false, false, false, true, true, false, false, false, true, true, false, false, false, true, true, false, false, false, true, true, false, false, false] rfl rfl (one_of HT_.out (by kernel_rfl)) (by decide) (fun K hK => ?_)
                refine goes_ Tryd.func20 (by kernel_rfl) rfl #[] (by rfl) rfl rfl z15x2 ?_
                with_reducible refine (spec_l1Names.calls  t203 _ A4.out).mono ?_
                rintro e w29 ⟨v204, rfl, ho0, hb⟩
                refine ⟨_, rfl, ?_⟩
                have n0_ := Aside0.mk (Kd.R_lower ho0 (below_size z15x0))
                have n1_ := Aside0.mk (blk_below (g := gb201) (o := .cells #[.int .i64 a0_0, .int .i64 a0_1, .int .i64 a0_2, .int .i64 a0_3, .int .i64 a0_4, .int .i64 a0_5, .int .i64 a0_6] 24 (0, 0)) z15x3 hb)
                have n2_ := Aside0.mk (below_step z15x0 hb)
                clear BK201
                clear HB
                have HO205 := n0_
                have BK201 := n1_
                have HB := n2_
                clear n0_ n1_ n2_
                (try clear hb)
                (try clear hb2)
                (try clear hk)
                (try clear hi)
                (try clear ho0)
                obtain ⟨Ao30, co30, eo30⟩ := Kd.R_slice HO205.out
                (first | subst eo30 | (injection eo30 with f1_ f2_ f3_; have f4_ := f1_.symm; have f5_ := f3_.symm; clear f1_ f2_ f3_; subst f4_; subst f5_))
                have p206 : 0 ≤ (a0_1 : Int) := of_decide_eq_true (by first | (with_reducible assumption) | assumption)
                have q206 : a0_1 < (t203.length : Int) := of_decide_eq_true (by first | (with_reducible assumption) | assumption)
                obtain ⟨ad206, e206, hx206_0⟩ := Kd.at_string (Kd.R_reads' HO205.out).2.2 a0_1 p206 q206
                cases e206
                replace p206 := eq_true p206
                replace q206 := eq_true q206
                refine hK.out _ _ ⟨(blk_cell BK201.out 0).trans rfl, (blk_cell BK201.out 1).trans rfl, (blk_cell BK201.out 2).trans rfl, (blk_cell BK201.out 3).trans rfl, (blk_cell BK201.out 4).trans rfl, (blk_cell BK201.out 5).trans rfl, (blk_cell BK201.out 6).trans rfl⟩ (fun hHeld7 => ?_)
                refine last_up (S' := fun w' => w'.cell? ⟨gb201, 0, none⟩ = some (.int .i64 a0_0) ∧ w'.cell? ⟨gb201, 1, none⟩ = some (.int .i64 a0_1) ∧ w'.cell? ⟨gb201, 2, none⟩ = some (.int .i64 a0_2) ∧ w'.cell? ⟨gb201, 3, none⟩ = some (.int .i64 a0_3) ∧ w'.cell? ⟨gb201, 4, none⟩ = some (.int .i64 a0_4) ∧ w'.cell? ⟨gb201, 5, none⟩ = some (.int .i64 a0_5) ∧ w'.cell? ⟨gb201, 6, none⟩ = some (.int .i64 a0_6) ∧ w'.cell? (ad206.add (a0_1).toNat) = some (.string (rdOf ByteArray.empty t203 a0_1))) (fun w' h => ⟨h.1, h.2.1, h.2.2.1, h.2.2.2.1, h.2.2.2.2.1, h.2.2.2.2.2.1, h.2.2.2.2.2.2.1⟩) _ _ _ _ ⟨(blk_cell BK201.out 0).trans rfl, (blk_cell BK201.out 1).trans rfl, (blk_cell BK201.out 2).trans rfl, (blk_cell BK201.out 3).trans rfl, (blk_cell BK201.out 4).trans rfl, (blk_cell BK201.out 5).trans rfl, (blk_cell BK201.out 6).trans rfl, hx206_0⟩ ?_
                have hHeld : w29.cell? ⟨gb201, 0, none⟩ = some (.int .i64 a0_0) ∧ w29.cell? ⟨gb201, 1, none⟩ = some (.int .i64 a0_1) ∧ w29.cell? ⟨gb201, 2, none⟩ = some (.int .i64 a0_2) ∧ w29.cell? ⟨gb201, 3, none⟩ = some (.int .i64 a0_3) ∧ w29.cell? ⟨gb201, 4, none⟩ = some (.int .i64 a0_4) ∧ w29.cell? ⟨gb201, 5, none⟩ = some (.int .i64 a0_5) ∧ w29.cell? ⟨gb201, 6, none⟩ = some (.int .i64 a0_6) ∧ w29.cell? (ad206.add (a0_1).toNat) = some (.string (rdOf ByteArray.empty t203 a0_1)) := ⟨(blk_cell BK201.out 0).trans rfl, (blk_cell BK201.out 1).trans rfl, (blk_cell BK201.out 2).trans rfl, (blk_cell BK201.out 3).trans rfl, (blk_cell BK201.out 4).trans rfl, (blk_cell BK201.out 5).trans rfl, (blk_cell BK201.out 6).trans rfl, hx206_0⟩
                clear hK K
                refine norm_ (a' := ?_) ?_ ?_
                rotate_left
                ·show Act.put _ (some 6) _ = _
                 simp only [Act.put, List.setIfInBounds_toArray, List.set_cons_zero, List.set_cons_succ, i64_w, i32_w]
                 rfl
                refine pure_ (i := 3) (N := some 9) (v := ?_) (a' := ?_) #[true, true, true, true, false, false, true, true, false, false, false, true, true, false, false, false, true, true, false, false, false, true, true, false, false, false, true, true, false, false, false, true, true, false, false, false] rfl rfl (any_of HT_.out (by kernel_rfl)) (fun _ _ _ h => h) (Or.inl ⟨by rfl, ?_⟩) ?_ ?_
                rotate_left
                ·intro w'
                 go_simp
                 with_reducible rfl
                rotate_left
                ·simp only [Act.put, List.setIfInBounds_toArray, List.set_cons_zero, List.set_cons_succ, i64_w, i32_w]
                 rfl
                refine take_ (i := 4) (N := some 10) (v := ?_) (a' := ?_) #[true, true, true, true, true, false, true, true, false, false, false, true, true, false, false, false, true, true, false, false, false, true, true, false, false, false, true, true, false, false, false, true, true, false, false, false] rfl rfl (take_ofW HT_.out HW_.out (by kernel_rfl)) (fun _ _ _ h => h) (Or.inl ⟨by rfl, ?_⟩) hHeld ?_ ?_
                rotate_left
                ·rintro w' ⟨s0, s1, s2, s3, s4, s5, s6, s7⟩
                 go_simp
                 with_reducible rfl
                rotate_left
                ·simp only [Act.put, List.setIfInBounds_toArray, List.set_cons_zero, List.set_cons_succ, i64_w, i32_w]
                 rfl
                refine pure_ (i := 5) (N := some 11) (v := ?_) (a' := ?_) #[true, true, true, true, true, true, true, true, false, false, false, true, true, false, false, false, true, true, false, false, false, true, true, false, false, false, true, true, false, false, false, true, true, false, false, false] rfl rfl (any_of HT_.out (by kernel_rfl)) (fun _ _ _ h => h) (Or.inl ⟨by rfl, ?_⟩) ?_ ?_
                rotate_left
                ·intro w'
                 go_simp
                 with_reducible rfl
                rotate_left
                ·simp only [Act.put, List.setIfInBounds_toArray, List.set_cons_zero, List.set_cons_succ, i64_w, i32_w]
                 rfl
                refine one_ (i := 8) (N := some 14) #[true, true, true, true, true, true, true, true, true, false, false, true, true, false, false, false, true, true, false, false, false, true, true, false, false, false, true, true, false, false, false, true, true, false, false, false] rfl rfl (one_of HT_.out (by kernel_rfl)) (by decide) (fun K hK => ?_)
                refine goes_ Tryd.func21 (by kernel_rfl) rfl #[.int .i64 a0_0] (by rfl) rfl rfl z15x2 ?_
                with_reducible refine (spec_l6Dec.calls k a0_0 t207 _ A8.out).mono ?_
                rintro e w31 ⟨rfl, hb⟩
                have HS7_ := (hb.cell (World.block_lt_of_cell? _ _ (hHeld.2.2.2.2.2.2.2))).trans (hHeld.2.2.2.2.2.2.2)
                refine ⟨_, rfl, ?_⟩
                have n0_ := Aside0.mk (Kd.R_below z15x4 hb)
                have n1_ := Aside0.mk (blk_below (g := gb201) (o := .cells #[.int .i64 a0_0, .int .i64 a0_1, .int .i64 a0_2, .int .i64 a0_3, .int .i64 a0_4, .int .i64 a0_5, .int .i64 a0_6] 24 (0, 0)) z15x3 hb)
                have n2_ := Aside0.mk (below_step z15x0 hb)
                clear HO205
                clear BK201
                clear HB
                have HO205 := n0_
                have BK201 := n1_
                have HB := n2_
                clear n0_ n1_ n2_
                (try clear hb)
                (try clear hb2)
                (try clear hk)
                (try clear hi)
                refine hK.out _ _ ⟨(blk_cell BK201.out 0).trans rfl, (blk_cell BK201.out 1).trans rfl, (blk_cell BK201.out 2).trans rfl, (blk_cell BK201.out 3).trans rfl, (blk_cell BK201.out 4).trans rfl, (blk_cell BK201.out 5).trans rfl, (blk_cell BK201.out 6).trans rfl, HS7_⟩ (fun hHeld => ?_)
                clear hK K
                refine norm_ (a' := ?_) ?_ ?_
                rotate_left
                ·show Act.put _ (some 14) _ = _
                 simp only [Act.put, List.setIfInBounds_toArray, List.set_cons_zero, List.set_cons_succ, i64_w, i32_w]
                 rfl
                refine pure_ (i := 9) (N := some 15) (v := ?_) (a' := ?_) #[true, true, true, true, true, true, true, true, true, true, false, true, true, false, false, false, true, true, false, false, false, true, true, false, false, false, true, true, false, false, false, true, true, false, false, false] rfl rfl (any_of HT_.out (by kernel_rfl)) (fun _ _ _ h => h) (Or.inl ⟨by rfl, ?_⟩) ?_ ?_
                rotate_left
                ·intro w'
                 go_simp
                 with_reducible rfl
                rotate_left
                ·simp only [Act.put, List.setIfInBounds_toArray, List.set_cons_zero, List.set_cons_succ, i64_w, i32_w]
                 rfl
                refine pure_ (i := 10) (N := some 16) (v := ?_) (a' := ?_) #[true, true, true, true, true, true, true, true, true, true, true, true, true, false, false, false, true, true, false, false, false, true, true, false, false, false, true, true, false, false, false, true, true, false, false, false] rfl rfl (any_of HT_.out (by kernel_rfl)) (fun _ _ _ h => h) (Or.inl ⟨by rfl, ?_⟩) ?_ ?_
                rotate_left
                ·intro w'
                 go_simp
                 with_reducible rfl
                rotate_left
                ·simp only [Act.put, List.setIfInBounds_toArray, List.set_cons_zero, List.set_cons_succ, i64_w, i32_w]
                 rfl
                refine one_ (i := 13) (N := some 19) #[true, true, true, true, true, true, true, true, true, true, true, true, true, true, false, false, true, true, false, false, false, true, true, false, false, false, true, true, false, false, false, true, true, false, false, false] rfl rfl (one_of HT_.out (by kernel_rfl)) (by decide) (fun K hK => ?_)
                refine goes_ Tryd.func21 (by kernel_rfl) rfl #[.int .i64 a0_2] (by rfl) rfl rfl z15x2 ?_
                with_reducible refine (spec_l6Dec.calls k a0_2 t208 _ A11.out).mono ?_
                rintro e w32 ⟨rfl, hb⟩
                have HS7_ := (hb.cell (World.block_lt_of_cell? _ _ (hHeld.2.2.2.2.2.2.2))).trans (hHeld.2.2.2.2.2.2.2)
                refine ⟨_, rfl, ?_⟩
                have n0_ := Aside0.mk (Kd.R_below z15x4 hb)
                have n1_ := Aside0.mk (blk_below (g := gb201) (o := .cells #[.int .i64 a0_0, .int .i64 a0_1, .int .i64 a0_2, .int .i64 a0_3, .int .i64 a0_4, .int .i64 a0_5, .int .i64 a0_6] 24 (0, 0)) z15x3 hb)
                have n2_ := Aside0.mk (below_step z15x0 hb)
                clear HO205
                clear BK201
                clear HB
                have HO205 := n0_
                have BK201 := n1_
                have HB := n2_
                clear n0_ n1_ n2_
                (try clear hb)
                (try clear hb2)
                (try clear hk)
                (try clear hi)
                refine hK.out _ _ ⟨(blk_cell BK201.out 0).trans rfl, (blk_cell BK201.out 1).trans rfl, (blk_cell BK201.out 2).trans rfl, (blk_cell BK201.out 3).trans rfl, (blk_cell BK201.out 4).trans rfl, (blk_cell BK201.out 5).trans rfl, (blk_cell BK201.out 6).trans rfl, HS7_⟩ (fun hHeld => ?_)
                clear hK K
                refine norm_ (a' := ?_) ?_ ?_
                rotate_left
                ·show Act.put _ (some 19) _ = _
                 simp only [Act.put, List.setIfInBounds_toArray, List.set_cons_zero, List.set_cons_succ, i64_w, i32_w]
                 rfl
                refine pure_ (i := 14) (N := some 20) (v := ?_) (a' := ?_) #[true, true, true, true, true, true, true, true, true, true, true, true, true, true, true, false, true, true, false, false, false, true, true, false, false, false, true, true, false, false, false, true, true, false, false, false] rfl rfl (any_of HT_.out (by kernel_rfl)) (fun _ _ _ h => h) (Or.inl ⟨by rfl, ?_⟩) ?_ ?_
                rotate_left
                ·intro w'
                 go_simp
                 with_reducible rfl
                rotate_left
                ·simp only [Act.put, List.setIfInBounds_toArray, List.set_cons_zero, List.set_cons_succ, i64_w, i32_w]
                 rfl
                refine pure_ (i := 15) (N := some 21) (v := ?_) (a' := ?_) #[true, true, true, true, true, true, true, true, true, true, true, true, true, true, true, true, true, true, false, false, false, true, true, false, false, false, true, true, false, false, false, true, true, false, false, false] rfl rfl (any_of HT_.out (by kernel_rfl)) (fun _ _ _ h => h) (Or.inl ⟨by rfl, ?_⟩) ?_ ?_
                rotate_left
                ·intro w'
                 go_simp
                 with_reducible rfl
                rotate_left
                ·simp only [Act.put, List.setIfInBounds_toArray, List.set_cons_zero, List.set_cons_succ, i64_w, i32_w]
                 rfl
                refine one_ (i := 18) (N := some 24) #[true, true, true, true, true, true, true, true, true, true, true, true, true, true, true, true, true, true, true, false, false, true, true, false, false, false, true, true, false, false, false, true, true, false, false, false] rfl rfl (one_of HT_.out (by kernel_rfl)) (by decide) (fun K hK => ?_)
                refine goes_ Tryd.func21 (by kernel_rfl) rfl #[.int .i64 a0_3] (by rfl) rfl rfl z15x2 ?_
                with_reducible refine (spec_l6Dec.calls k a0_3 t209 _ A14.out).mono ?_
                rintro e w33 ⟨rfl, hb⟩
                have HS7_ := (hb.cell (World.block_lt_of_cell? _ _ (hHeld.2.2.2.2.2.2.2))).trans (hHeld.2.2.2.2.2.2.2)
                refine ⟨_, rfl, ?_⟩
                have n0_ := Aside0.mk (Kd.R_below z15x4 hb)
                have n1_ := Aside0.mk (blk_below (g := gb201) (o := .cells #[.int .i64 a0_0, .int .i64 a0_1, .int .i64 a0_2, .int .i64 a0_3, .int .i64 a0_4, .int .i64 a0_5, .int .i64 a0_6] 24 (0, 0)) z15x3 hb)
                have n2_ := Aside0.mk (below_step z15x0 hb)
                clear HO205
                clear BK201
                clear HB
                have HO205 := n0_
                have BK201 := n1_
                have HB := n2_
                clear n0_ n1_ n2_
                (try clear hb)
                (try clear hb2)
                (try clear hk)
                (try clear hi)
                refine hK.out _ _ ⟨(blk_cell BK201.out 0).trans rfl, (blk_cell BK201.out 1).trans rfl, (blk_cell BK201.out 2).trans rfl, (blk_cell BK201.out 3).trans rfl, (blk_cell BK201.out 4).trans rfl, (blk_cell BK201.out 5).trans rfl, (blk_cell BK201.out 6).trans rfl, HS7_⟩ (fun hHeld => ?_)
                clear hK K
                refine norm_ (a' := ?_) ?_ ?_
                rotate_left
                ·show Act.put _ (some 24) _ = _
                 simp only [Act.put, List.setIfInBounds_toArray, List.set_cons_zero, List.set_cons_succ, i64_w, i32_w]
                 rfl
                refine pure_ (i := 19) (N := some 25) (v := ?_) (a' := ?_) #[true, true, true, true, true, true, true, true, true, true, true, true, true, true, true, true, true, true, true, true, false, true, true, false, false, false, true, true, false, false, false, true, true, false, false, false] rfl rfl (any_of HT_.out (by kernel_rfl)) (fun _ _ _ h => h) (Or.inl ⟨by rfl, ?_⟩) ?_ ?_
                rotate_left
                ·intro w'
                 go_simp
                 with_reducible rfl
                rotate_left
                ·simp only [Act.put, List.setIfInBounds_toArray, List.set_cons_zero, List.set_cons_succ, i64_w, i32_w]
                 rfl
                refine pure_ (i := 20) (N := some 26) (v := ?_) (a' := ?_) #[true, true, true, true, true, true, true, true, true, true, true, true, true, true, true, true, true, true, true, true, true, true, true, false, false, false, true, true, false, false, false, true, true, false, false, false] rfl rfl (any_of HT_.out (by kernel_rfl)) (fun _ _ _ h => h) (Or.inl ⟨by rfl, ?_⟩) ?_ ?_
                rotate_left
                ·intro w'
                 go_simp
                 with_reducible rfl
                rotate_left
                ·simp only [Act.put, List.setIfInBounds_toArray, List.set_cons_zero, List.set_cons_succ, i64_w, i32_w]
                 rfl
                refine one_ (i := 23) (N := some 29) #[true, true, true, true, true, true, true, true, true, true, true, true, true, true, true, true, true, true, true, true, true, true, true, true, false, false, true, true, false, false, false, true, true, false, false, false] rfl rfl (one_of HT_.out (by kernel_rfl)) (by decide) (fun K hK => ?_)
                refine goes_ Tryd.func21 (by kernel_rfl) rfl #[.int .i64 a0_4] (by rfl) rfl rfl z15x2 ?_
                with_reducible refine (spec_l6Dec.calls k a0_4 t210 _ A17.out).mono ?_
                rintro e w34 ⟨rfl, hb⟩
                have HS7_ := (hb.cell (World.block_lt_of_cell? _ _ (hHeld.2.2.2.2.2.2.2))).trans (hHeld.2.2.2.2.2.2.2)
                refine ⟨_, rfl, ?_⟩
                have n0_ := Aside0.mk (Kd.R_below z15x4 hb)
                have n1_ := Aside0.mk (blk_below (g := gb201) (o := .cells #[.int .i64 a0_0, .int .i64 a0_1, .int .i64 a0_2, .int .i64 a0_3, .int .i64 a0_4, .int .i64 a0_5, .int .i64 a0_6] 24 (0, 0)) z15x3 hb)
                have n2_ := Aside0.mk (below_step z15x0 hb)
                clear HO205
                clear BK201
                clear HB
                have HO205 := n0_
                have BK201 := n1_
                have HB := n2_
                clear n0_ n1_ n2_
                (try clear hb)
                (try clear hb2)
                (try clear hk)
                (try clear hi)
                refine hK.out _ _ ⟨(blk_cell BK201.out 0).trans rfl, (blk_cell BK201.out 1).trans rfl, (blk_cell BK201.out 2).trans rfl, (blk_cell BK201.out 3).trans rfl, (blk_cell BK201.out 4).trans rfl, (blk_cell BK201.out 5).trans rfl, (blk_cell BK201.out 6).trans rfl, HS7_⟩ (fun hHeld => ?_)
                clear hK K
                refine norm_ (a' := ?_) ?_ ?_
                rotate_left
                ·show Act.put _ (some 29) _ = _
                 simp only [Act.put, List.setIfInBounds_toArray, List.set_cons_zero, List.set_cons_succ, i64_w, i32_w]
                 rfl
                refine pure_ (i := 24) (N := some 30) (v := ?_) (a' := ?_) #[true, true, true, true, true, true, true, true, true, true, true, true, true, true, true, true, true, true, true, true, true, true, true, true, true, false, true, true, false, false, false, true, true, false, false, false] rfl rfl (any_of HT_.out (by kernel_rfl)) (fun _ _ _ h => h) (Or.inl ⟨by rfl, ?_⟩) ?_ ?_
                rotate_left
                ·intro w'
                 go_simp
                 with_reducible rfl
                rotate_left
                ·simp only [Act.put, List.setIfInBounds_toArray, List.set_cons_zero, List.set_cons_succ, i64_w, i32_w]
                 rfl
                refine pure_ (i := 25) (N := some 31) (v := ?_) (a' := ?_) #[true, true, true, true, true, true, true, true, true, true, true, true, true, true, true, true, true, true, true, true, true, true, true, true, true, true, true, true, false, false, false, true, true, false, false, false] rfl rfl (any_of HT_.out (by kernel_rfl)) (fun _ _ _ h => h) (Or.inl ⟨by rfl, ?_⟩) ?_ ?_
                rotate_left
                ·intro w'
                 go_simp
                 with_reducible rfl
                rotate_left
                ·simp only [Act.put, List.setIfInBounds_toArray, List.set_cons_zero, List.set_cons_succ, i64_w, i32_w]
                 rfl
                refine one_ (i := 28) (N := some 34) #[true, true, true, true, true, true, true, true, true, true, true, true, true, true, true, true, true, true, true, true, true, true, true, true, true, true, true, true, true, false, false, true, true, false, false, false] rfl rfl (one_of HT_.out (by kernel_rfl)) (by decide) (fun K hK => ?_)
                refine goes_ Tryd.func21 (by kernel_rfl) rfl #[.int .i64 a0_5] (by rfl) rfl rfl z15x2 ?_
                with_reducible refine (spec_l6Dec.calls k a0_5 t211 _ A20.out).mono ?_
                rintro e w35 ⟨rfl, hb⟩
                have HS7_ := (hb.cell (World.block_lt_of_cell? _ _ (hHeld.2.2.2.2.2.2.2))).trans (hHeld.2.2.2.2.2.2.2)
                refine ⟨_, rfl, ?_⟩
                have n0_ := Aside0.mk (Kd.R_below z15x4 hb)
                have n1_ := Aside0.mk (blk_below (g := gb201) (o := .cells #[.int .i64 a0_0, .int .i64 a0_1, .int .i64 a0_2, .int .i64 a0_3, .int .i64 a0_4, .int .i64 a0_5, .int .i64 a0_6] 24 (0, 0)) z15x3 hb)
                have n2_ := Aside0.mk (below_step z15x0 hb)
                clear HO205
                clear BK201
                clear HB
                have HO205 := n0_
                have BK201 := n1_
                have HB := n2_
                clear n0_ n1_ n2_
                (try clear hb)
                (try clear hb2)
                (try clear hk)
                (try clear hi)
                refine hK.out _ _ ⟨(blk_cell BK201.out 0).trans rfl, (blk_cell BK201.out 1).trans rfl, (blk_cell BK201.out 2).trans rfl, (blk_cell BK201.out 3).trans rfl, (blk_cell BK201.out 4).trans rfl, (blk_cell BK201.out 5).trans rfl, (blk_cell BK201.out 6).trans rfl, HS7_⟩ (fun hHeld => ?_)
                clear hK K
                refine norm_ (a' := ?_) ?_ ?_
                rotate_left
                ·show Act.put _ (some 34) _ = _
                 simp only [Act.put, List.setIfInBounds_toArray, List.set_cons_zero, List.set_cons_succ, i64_w, i32_w]
                 rfl
                refine pure_ (i := 29) (N := some 35) (v := ?_) (a' := ?_) #[true, true, true, true, true, true, true, true, true, true, true, true, true, true, true, true, true, true, true, true, true, true, true, true, true, true, true, true, true, true, false, true, true, false, false, false] rfl rfl (any_of HT_.out (by kernel_rfl)) (fun _ _ _ h => h) (Or.inl ⟨by rfl, ?_⟩) ?_ ?_
                rotate_left
                ·intro w'
                 go_simp
                 with_reducible rfl
                rotate_left
                ·simp only [Act.put, List.setIfInBounds_toArray, List.set_cons_zero, List.set_cons_succ, i64_w, i32_w]
                 rfl
                refine pure_ (i := 30) (N := some 36) (v := ?_) (a' := ?_) #[true, true, true, true, true, true, true, true, true, true, true, true, true, true, true, true, true, true, true, true, true, true, true, true, true, true, true, true, true, true, true, true, true, false, false, false] rfl rfl (any_of HT_.out (by kernel_rfl)) (fun _ _ _ h => h) (Or.inl ⟨by rfl, ?_⟩) ?_ ?_
                rotate_left
                ·intro w'
                 go_simp
                 with_reducible rfl
                rotate_left
                ·simp only [Act.put, List.setIfInBounds_toArray, List.set_cons_zero, List.set_cons_succ, i64_w, i32_w]
                 rfl
                refine one_ (i := 33) (N := some 39) #[true, true, true, true, true, true, true, true, true, true, true, true, true, true, true, true, true, true, true, true, true, true, true, true, true, true, true, true, true, true, true, true, true, true, false, false] rfl rfl (one_of HT_.out (by kernel_rfl)) (by decide) (fun K hK => ?_)
                refine goes_ Tryd.func21 (by kernel_rfl) rfl #[.int .i64 a0_6] (by rfl) rfl rfl z15x2 ?_
                with_reducible refine (spec_l6Dec.calls k a0_6 t212 _ A23.out).mono ?_
                rintro e w36 ⟨rfl, hb⟩
                have HS7_ := (hb.cell (World.block_lt_of_cell? _ _ (hHeld.2.2.2.2.2.2.2))).trans (hHeld.2.2.2.2.2.2.2)
                refine ⟨_, rfl, ?_⟩
                have n0_ := Aside0.mk (Kd.R_below z15x4 hb)
                have n1_ := Aside0.mk (blk_below (g := gb201) (o := .cells #[.int .i64 a0_0, .int .i64 a0_1, .int .i64 a0_2, .int .i64 a0_3, .int .i64 a0_4, .int .i64 a0_5, .int .i64 a0_6] 24 (0, 0)) z15x3 hb)
                have n2_ := Aside0.mk (below_step z15x0 hb)
                clear HO205
                clear BK201
                clear HB
                have HO205 := n0_
                have BK201 := n1_
                have HB := n2_
                clear n0_ n1_ n2_
                (try clear hb)
                (try clear hb2)
                (try clear hk)
                (try clear hi)
                refine hK.out _ _ ⟨(blk_cell BK201.out 0).trans rfl, (blk_cell BK201.out 1).trans rfl, (blk_cell BK201.out 2).trans rfl, (blk_cell BK201.out 3).trans rfl, (blk_cell BK201.out 4).trans rfl, (blk_cell BK201.out 5).trans rfl, (blk_cell BK201.out 6).trans rfl, HS7_⟩ (fun hHeld => ?_)
                clear hK K
                refine norm_ (a' := ?_) ?_ ?_
                rotate_left
                ·show Act.put _ (some 39) _ = _
                 simp only [Act.put, List.setIfInBounds_toArray, List.set_cons_zero, List.set_cons_succ, i64_w, i32_w]
                 rfl
                refine pure_ (i := 34) (N := some 40) (v := ?_) (a' := ?_) #[true, true, true, true, true, true, true, true, true, true, true, true, true, true, true, true, true, true, true, true, true, true, true, true, true, true, true, true, true, true, true, true, true, true, true, false] rfl rfl (any_of HT_.out (by kernel_rfl)) (fun _ _ _ h => h) (Or.inl ⟨by rfl, ?_⟩) ?_ ?_
                rotate_left
                ·intro w'
                 go_simp
                 with_reducible rfl
                rotate_left
                ·simp only [Act.put, List.setIfInBounds_toArray, List.set_cons_zero, List.set_cons_succ, i64_w, i32_w]
                 rfl
                refine pure_ (i := 35) (N := some 2) (v := ?_) (a' := ?_) #[true, true, true, true, true, true, true, true, true, true, true, true, true, true, true, true, true, true, true, true, true, true, true, true, true, true, true, true, true, true, true, true, true, true, true, true] rfl rfl (any_of HT_.out (by kernel_rfl)) (fun _ _ _ h => h) (Or.inl ⟨by rfl, ?_⟩) ?_ ?_
                rotate_left
                ·intro w'
                 go_simp
                 with_reducible rfl
                rotate_left
                ·simp only [Act.put, List.setIfInBounds_toArray, List.set_cons_zero, List.set_cons_succ, i64_w, i32_w]
                 rfl
                refine done_ (done_of HT_.out (by kernel_rfl)) ?_
                try go_wp2
                go_ret
                exact ⟨by first | rfl | (simp [errW_none, errW_some] <;> rfl) | (simp [*, errW_none, errW_some] <;> rfl), by repeat (first | (with_reducible first | exact HB.out | apply below_alloc | apply pw_below_drewN | apply below_drew1 | refine below_set ?_ GE201.out) | exact HB.out)⟩
               ·rw [if_neg c24] at H
                exact absurd H (by simp)
              ·rw [if_neg c22] at H
               exact absurd H (by simp)
             ·rw [if_neg c21] at H
              exact absurd H (by simp)
            ·rw [if_neg c19] at H
             exact absurd H (by simp)
           ·rw [if_neg c18] at H
            exact absurd H (by simp)
          ·rw [if_neg c16] at H
           exact absurd H (by simp)
         ·rw [if_neg c15] at H
          exact absurd H (by simp)
        ·rw [if_neg c13] at H
         exact absurd H (by simp)
       ·rw [if_neg c12] at H
        exact absurd H (by simp)
      ·rw [if_neg c10] at H
       exact absurd H (by simp)
     ·rw [if_neg c9] at H
      exact absurd H (by simp)
    ·rw [if_neg c7] at H
     exact absurd H (by simp)
   ·rw [if_neg c6] at H
    exact absurd H (by simp)
  ·rw [if_neg c5] at H
   exact absurd H (by simp)
 ·replace c3 := Bool.eq_false_iff.mpr c3
  subst c3
  rw [if_neg (show ¬ (false = true) by decide)] at H
  obtain rfl := Option.some.inj H
  go_enter Tryd.func9, Tryd.ntmps9
  go_wp2_with (first | ((with_reducible refine gate_dst (N := 1) rfl ?_); refine box_event ?hg (N := 1) ?hd (cs := #[.int .i64 a0_0, .int .i64 a0_1, .int .i64 a0_2, .int .i64 a0_3, .int .i64 a0_4, .int .i64 a0_5, .int .i64 a0_6]) (t := 24) ?hr ?_; (case hd => rfl); (case hg => rfl); (case hr => first | (go_simp; done) | (go_simp; rfl)); intro gb201 hg w37 hbox hb; have n0_ := Aside0.mk (below_step (by repeat (first | (with_reducible first | exact HB.out | apply below_alloc | apply pw_below_drewN | apply below_drew1) | exact HB.out)) hb); have n1_ := Aside0.mk (hbox); have n2_ := Aside0.mk ((z15x1 : w.heap.size ≤ gb201)); have n3_ := Aside0.mk ((z15x1 : w.heap.size ≤ gb201)); clear HB; have HB := n0_; have BK201 := n1_; have GW201 := n2_; have GE201 := n3_; clear n0_ n1_ n2_ n3_; clear hb hbox hg; have hcz38_0 : w37.cell? ⟨gb201, 0, none⟩ = some (.int .i64 a0_0) := (blk_cell BK201.out 0).trans rfl; have hcz38_1 : w37.cell? ⟨gb201, 1, none⟩ = some (.int .i64 a0_1) := (blk_cell BK201.out 1).trans rfl; have hcz38_2 : w37.cell? ⟨gb201, 2, none⟩ = some (.int .i64 a0_2) := (blk_cell BK201.out 2).trans rfl; have hcz38_3 : w37.cell? ⟨gb201, 3, none⟩ = some (.int .i64 a0_3) := (blk_cell BK201.out 3).trans rfl; have hcz38_4 : w37.cell? ⟨gb201, 4, none⟩ = some (.int .i64 a0_4) := (blk_cell BK201.out 4).trans rfl; have hcz38_5 : w37.cell? ⟨gb201, 5, none⟩ = some (.int .i64 a0_5) := (blk_cell BK201.out 5).trans rfl; have hcz38_6 : w37.cell? ⟨gb201, 6, none⟩ = some (.int .i64 a0_6) := (blk_cell BK201.out 6).trans rfl; have hfz38_0 := blk_frozen BK201.out 0; have hfz38_1 := blk_frozen BK201.out 1; have hfz38_2 := blk_frozen BK201.out 2; have hfz38_3 := blk_frozen BK201.out 3; have hfz38_4 := blk_frozen BK201.out 4; have hfz38_5 := blk_frozen BK201.out 5; have hfz38_6 := blk_frozen BK201.out 6) | ((with_reducible refine gate_callee (f := 19) rfl ?_); refine goesL_ (some 4) rfl rfl Tryd.func19 (by kernel_rfl) rfl #[.agg #[.int .i64 a0_0, .int .i64 a0_1, .int .i64 a0_2, .int .i64 a0_3, .int .i64 a0_4, .int .i64 a0_5, .int .i64 a0_6]] rfl z15x2 ?_; (with_reducible refine (spec_SealOk.calls a0_0 a0_1 a0_2 a0_3 a0_4 a0_5 a0_6 false _ A2.out).mono ?_); rintro e w39 ⟨rfl, hb⟩; refine ⟨_, rfl, ?_⟩; have n0_ := Aside0.mk (blk_below (g := gb201) (o := .cells #[.int .i64 a0_0, .int .i64 a0_1, .int .i64 a0_2, .int .i64 a0_3, .int .i64 a0_4, .int .i64 a0_5, .int .i64 a0_6] 24 (0, 0)) z15x3 hb); have n1_ := Aside0.mk (below_step z15x0 hb); clear BK201; clear HB; have BK201 := n0_; have HB := n1_; clear n0_ n1_; (try clear hb); (try clear hb2); (try clear hk); (try clear hi)))
  go_ret
  exact ⟨by first | rfl | (simp [errW_none, errW_some] <;> rfl) | (simp [*, errW_none, errW_some] <;> rfl), by repeat (first | (with_reducible first | exact HB.out | apply below_alloc | apply pw_below_drewN | apply below_drew1 | refine below_set ?_ GE201.out) | exact HB.out)⟩

end Go.Proofs.YtbipicjijbnbbaaDoor.Hp
