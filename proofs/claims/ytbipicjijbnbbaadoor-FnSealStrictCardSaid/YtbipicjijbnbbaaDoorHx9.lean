-- hp.py
import Derived.Test.YtbipicjijbnbbaaDoorHx0
import Derived.Test.YtbipicjijbnbbaaDoorSh
import Derived.Lib.AppendIntMem
import Derived.Lib.ItoaLen
namespace Go.Proofs.YtbipicjijbnbbaaDoor.Hp
open Go.RowKit Go.Proofs.YtbipicjijbnbbaaDoorW.PrintWords Go.Proofs.YtbipicjijbnbbaaDoorW.PrintLast Go.Proofs.YtbipicjijbnbbaaDoorW.PrintMore
attribute [local go_sem] max2_int min2_int max_two min_two max_three min_three max_four min_four   -- for this text's walks alone
set_option linter.unusedVariables false
set_option linter.unusedSimpArgs false
-- squeezed by wip/tools/squeeze.py
theorem z9x0 {P : Prop} (h : P := by repeat (first | (with_reducible first | exact HB.out | apply below_alloc | apply pw_below_drewN | apply below_drew1) | exact HB.out)) : P := h

/-! ### impl_numbers: function 18 -/
-- IMPORT Derived.Test.YtbipicjijbnbbaaDoorSh
-- IMPORT Derived.Lib.AppendIntMem
-- IMPORT Derived.Lib.ItoaLen
/-- The library's table of tens lies as the program's text lays it. -/
abbrev Tens (w : World) : Prop := Lib.TabIs Tryd.prog w "internal/strconv.uint64pow10" .u64 Lib.pow10Tab
theorem Tens.on {w w' : World} (h : Tens w) (hb : Below w.heap.size w w') : Tens w' := Lib.tabBelow_of_tabIs h w' hb
/-- A number's text. -/
def decOf (x : Int) : ByteArray := ⟨(Lib.itoa x).toArray⟩
/-- Numbers with blanks between. -/
def numsText (l : List Int) : ByteArray := ⟨(Lib.join ((l.map decOf).map (·.data.toList)) [32]).toArray⟩
theorem decLen (x : Int) (h0 : 0 ≤ x) (h1 : x ≤ 100) : (Lib.itoa x).length ≤ 21 := Lib.itoa_length_le x (by omega) (by omega)
theorem tailLen (y : List UInt8) (r : List (List UInt8)) : (Lib.joinTail [32] (y :: r)).length = 1 + y.length + (Lib.joinTail [32] r).length := by
  simp [Lib.joinTail]
  omega
theorem joinTailLen : ∀ l : List Int, (∀ x ∈ l, 0 ≤ x ∧ x ≤ 100) → (Lib.joinTail [32] ((l.map decOf).map (·.data.toList))).length ≤ 22 * l.length
  | [], _ => by simp [Lib.joinTail]
  | x :: r, h => by
    have h1 := decLen x (h x (by simp)).1 (h x (by simp)).2
    have h2 := joinTailLen r (fun z hz => h z (List.mem_cons_of_mem _ hz))
    rw [List.map_cons, List.map_cons, tailLen, List.length_cons]
    have h3 : (decOf x).data.toList.length = (Lib.itoa x).length := rfl
    omega
theorem joinLen : ∀ l : List Int, (∀ x ∈ l, 0 ≤ x ∧ x ≤ 100) → (Lib.join ((l.map decOf).map (·.data.toList)) [32]).length ≤ 22 * l.length
  | [], _ => by simp [Lib.join_nil]
  | x :: r, h => by
    have h1 := decLen x (h x (by simp)).1 (h x (by simp)).2
    have h2 := joinTailLen r (fun z hz => h z (List.mem_cons_of_mem _ hz))
    rw [List.map_cons, List.map_cons, Lib.join_cons, List.length_append, List.length_cons]
    have h3 : (decOf x).data.toList.length = (Lib.itoa x).length := rfl
    omega
theorem numsSize (l : List Int) (h : ∀ x ∈ l, 0 ≤ x ∧ x ≤ 100) (hl : l.length ≤ 6) : (numsText l).size ≤ 1000 := by
  have := joinLen l h
  show (Lib.join ((l.map decOf).map (·.data.toList)) [32]).toArray.size ≤ 1000
  rw [List.size_toArray]
  omega
theorem itoaCalls (x : Int) (h0 : 0 ≤ x) (h1 : x ≤ 100) (w : World) (ht : Tens w) : Calls Tryd.prog 34 #[.int .i64 x] w fun e w' => e = .returned (.string (decOf x)) ∧ Below w.heap.size w w' :=
  (Tryd.strconv_Itoa x (by omega) (by omega) w ht).mono (by rintro e w' ⟨he, k, os, rfl⟩; exact ⟨he, Lib.below_grow _ _ (Nat.le_refl _) _ _⟩)
theorem strsMade (w : World) (c : Nat) (hc : c ≤ maxLen) (ok : Nat → Prop) (hok : ok w.heap.size) : Kd.R Kd.string 9 (w.alloc (.cells (Array.replicate c (.string ⟨#[]⟩)) 9)) w.heap.size ok (.slice (some ⟨w.heap.size, 0, none⟩) 0 c) [] := by
  refine ⟨fun k hk => ?_, [], ⟨rfl, .inr ⟨w.heap.size, c, _, rfl, Nat.le_refl _, by simpa using heap_alloc_new w _, Nat.zero_le _, hc, ?_, ?_⟩⟩, Reps.none _ _⟩
  · have : w.heap.size = k := by simpa [Value.ownBlock] using hk
    exact this ▸ hok
  · show _ = c * 1; simp
  · simp
theorem takeDec (l : List Int) (x : Int) (h0 : 0 ≤ x) (h : x < (l.length : Int)) : (l.take (x + 1).toNat).map decOf = (l.take x.toNat).map decOf ++ [decOf (rd l x)] := by
  obtain ⟨i, rfl⟩ : ∃ i : Nat, x = (i : Int) := ⟨x.toNat, by omega⟩
  have hi : i < l.length := by omega
  rw [show ((i : Int) + 1).toNat = i + 1 from by omega, Int.toNat_natCast, List.take_add_one, List.getElem?_eq_getElem hi, List.map_append]
  simp [rd, List.getD_eq_getElem?_getD, List.getElem?_eq_getElem hi]
theorem rdIn (l : List Int) (P : Int → Prop) (hp : ∀ x ∈ l, P x) (x : Int) (h0 : 0 ≤ x) (h : x < (l.length : Int)) : P (rd l x) := by
  obtain ⟨i, rfl⟩ : ∃ i : Nat, x = (i : Int) := ⟨x.toNat, by omega⟩
  have hi : i < l.length := by omega
  have : rd l (i : Int) = l[i] := by simp [rd, List.getD_eq_getElem?_getD, List.getElem?_eq_getElem hi]
  rw [this]
  exact hp _ (List.getElem_mem hi)
set_option maxHeartbeats 16000000 in
set_option maxRecDepth 100000 in
theorem numbersCalls (n : Nat) (hn : n = 4 ∨ n = 6) (A : Option Addr) (c : Nat) (l : List Int) (w : World) (hr : Kd.C (Kd.int .i64) w A l.length l) (hl : l.length = n) (hb : ∀ x ∈ l, 0 ≤ x ∧ x ≤ 100) (ht : Tens w) :
    Calls Tryd.prog 18 #[.slice A l.length c] w fun e w' => e = .returned (.string (numsText l)) ∧ Below w.heap.size w w' := by
  have hmk : ∀ w : World, (Instr.makeSlice 40 (.int .i64 0) (.int .i64 (l.length : Int))).run Tryd.prog w = .ok (.slice (some ⟨w.heap.size, 0, none⟩) 0 l.length) (w.alloc (.cells (Array.replicate l.length (.string ⟨#[]⟩)) 9)) := by
    rw [hl]
    have h4 : ∀ w : World, (Instr.makeSlice 40 (.int .i64 0) (.int .i64 4)).run Tryd.prog w = .ok (.slice (some ⟨w.heap.size, 0, none⟩) 0 4) (w.alloc (.cells (Array.replicate 4 (.string ⟨#[]⟩)) 9)) := fun _ => by kernel_rfl
    have h6 : ∀ w : World, (Instr.makeSlice 40 (.int .i64 0) (.int .i64 6)).run Tryd.prog w = .ok (.slice (some ⟨w.heap.size, 0, none⟩) 0 6) (w.alloc (.cells (Array.replicate 6 (.string ⟨#[]⟩)) 9)) := fun _ => by kernel_rfl
    rcases hn with rfl | rfl
    · exact h4
    · exact h6
  have HL := Aside0.mk (show 0 < l.length ∧ l.length ≤ 6 by omega)
  have HR := Aside0.mk hr
  have HT := Aside0.mk ht
  have HN := Aside0.mk hb
  clear hr ht hb hl hn
  have HM := Aside0.mk (strsMade w l.length (by have := HL.out; show _ ≤ 9223372036854775807; omega) (fun _ => True) trivial)
  have HB := Aside0.mk (Below.refl w.heap.size w)
  go_enter Tryd.func18, Tryd.ntmps18
  go_wp2_with fail
  go_loopg [3, 11] (l.length + 1) (fun kq v3 v11 w' => ∃ (x11 : Int), v11 = .int .i64 x11 ∧ Aside0 (0 ≤ x11 ∧ x11 + kq = l.length + 1) ∧ Aside0 (Kd.R Kd.string 9 w' w.heap.size (fun _ => True) v3 ((l.take x11.toNat).map decOf)) ∧ Aside0 (Below w.heap.size w w'))
  case atStart => exact ⟨0, by first | rfl | (simp; done) | (simp [*]; done), ⟨by omega⟩, HM, ⟨below_alloc HB.out _⟩⟩
  case round =>
    clear HM HB
    obtain ⟨x11, rfl, HX, HO, HB⟩ := hrel
    by_cases hlt : x11 < (l.length : Int)
    · have d1 : decide (x11 < (l.length : Int)) = true := decide_eq_true hlt
      have p0 : 0 ≤ x11 := HX.out.1
      have hw1 : x11 + 1 ≤ 9223372036854775807 := by have := HL.out; omega
      obtain ⟨ad, e0, hx⟩ := Kd.at_int HR.out x11 p0 hlt
      cases e0
      replace hx := (HB.out.cell (World.block_lt_of_cell? w _ hx)).trans hx
      have HD := Aside0.mk (rdIn l _ HN.out x11 p0 hlt)
      have HTK := Aside0.mk (takeDec l x11 p0 hlt)
      have HQ := Aside0.mk (show ((l.take x11.toNat).map decOf).length ≤ 6 from by rw [List.length_map]; exact Nat.le_trans (List.length_take_le _ _) (by have := HL.out; omega))
      generalize (l.take x11.toNat).map decOf = ys at HO HTK HQ
      obtain ⟨Ao, co, eo⟩ := Kd.R_slice HO.out
      subst eo
      go_wp2_with (first | (go_at_call 34; refine (itoaCalls _ HD.out.1 HD.out.2 _ (HT.out.on z9x0)).mono ?_; rintro e w1 ⟨rfl, hb1⟩; have n0_ := Aside0.mk (Kd.R_below HO.out hb1); have n1_ := Aside0.mk (below_step HB.out hb1); clear HO HB hb1; have HO := n0_; have HB := n1_; clear n0_ n1_) | ((with_reducible refine gate_builtin (b := .append) (xs := #[.tmp 15, .tmp 18]) rfl ?_); at_builtin; refine Kd.R_append Kd.string (w0 := w) w.heap.size rfl (.tmp 15) (.tmp 18) 40 9 (.string ⟨#[]⟩) 16 rfl Tryd.underlying40 info9 rfl (by decide) (by omega) _ ys (decOf (rd l x11)) [.string (decOf (rd l x11))] (fun _ => True) (fun _ => False) rfl rfl ?aP (fun _ hk => hk.elim) ?aF ?aO ?aB ?aS ?aL ?_; (case aP => exact rfl); (case aB => exact z9x0); (case aF => exact (fun _ _ => trivial)); (case aO => exact (by (with_reducible repeat (first | apply Kd.R_alloc | apply Kd.R_drewN | apply Kd.R_drew)); exact HO.out)); (case aS => exact (below_size z9x0)); (case aL => have := HQ.out; omega); intro v9 w13 ho hb hg hat; have n1_ := Aside0.mk hb; have n2_ := Aside0.mk ho; clear HO HB; have HB := n1_; have HO := n2_; clear n1_ n2_ ho hb hg hat))
      go_roundg (gk - 1)
      case measure => have := HX.out.2; omega
      case rel => exact ⟨x11 + 1, by first | rfl | (simp; done) | (simp [*]; done), ⟨by have := HX.out; omega⟩, ⟨by rw [HTK.out]; exact HO.out⟩, HB⟩
    · have d1 : decide (x11 < (l.length : Int)) = false := decide_eq_false hlt
      have HE := Aside0.mk (show (l.take x11.toNat).map decOf = l.map decOf by rw [List.take_of_length_le (by have := HX.out; omega)])
      rw [HE.out] at HO
      have HJ := Aside0.mk (joinLen l HN.out)
      have HZ := Aside0.mk (show numsText l = ⟨(Lib.join ((l.map decOf).map (·.data.toList)) (⟨#[32]⟩ : ByteArray).data.toList).toArray⟩ from rfl)
      have HY := Aside0.mk (show (l.map decOf).length = l.length by rw [List.length_map])
      clear HE
      generalize l.map decOf = ys at HO HJ HZ HY
      have hne : ys.length ≠ 0 := by have := HY.out; have := HL.out; omega
      obtain ⟨_, inner, ⟨_, hcases⟩, _⟩ := HO.out
      rcases hcases with ⟨_, h0⟩ | ⟨g, cap, cur, hv, hge, hblk, hle, _, _, _⟩
      · exact absurd h0 hne
      subst hv
      have HC := Aside0.mk (show ∀ (j : Nat) (y : ByteArray), ys[j]? = some y → wr.cell? ⟨g, 0 + j, none⟩ = some (.string y) from by
        intro j y hj
        obtain ⟨hj', hy⟩ := List.getElem?_eq_some_iff.1 hj
        obtain ⟨ad, he, hx⟩ := Kd.at_string (Kd.R_reads' HO.out).2.2 (j : Int) (by omega) (by omega)
        cases he
        rw [Int.toNat_natCast] at hx
        have hz : rdOf ByteArray.empty ys (j : Int) = y := by simp [rdOf, hj]
        rw [hz] at hx
        have he : (⟨g, 0, none⟩ : Addr).add j = ⟨g, 0 + j, none⟩ := by cases j <;> simp [Addr.add]
        rw [← he]
        exact hx)
      have HG := Aside0.mk (And.intro (blk_lt hblk) hle)
      have HV := Aside0.mk (show ys.length ≤ 140737488355328 from by have := HY.out; have := HL.out; omega)
      have HU := Aside0.mk (show (Lib.join (ys.map (·.data.toList)) (⟨#[32]⟩ : ByteArray).data.toList).length ≤ 140737488355328 from Nat.le_trans HJ.out (by have := HL.out; omega))
      clear hge hblk hle hne
      go_wp2_with (first | (go_at_call 35; refine (Tryd.strings_Join g 0 cap ys _ _ HC.out HG.out.1 HV.out HG.out.2 HU.out).mono ?_; rintro e w2 ⟨rfl, hb2⟩; have HB2 := Aside0.mk (below_step HB.out hb2); clear hb2))
      go_ret
      exact ⟨by first | (rw [HZ.out]; done) | (rw [HZ.out]; rfl), HB2.out⟩
def impl_numbers.f (l0 : List Int) : Option ByteArray := if (l0.length = 4 ∨ l0.length = 6) ∧ (l0.all fun x => decide (0 ≤ x ∧ x ≤ 100)) = true then some (numsText l0) else none
theorem impl_numbers.calls (A0 : Option Addr) (c0 : Nat) (l0 : List Int) (r : ByteArray) (w : World) (hr0 : Kd.C (Kd.int .i64) w A0 l0.length l0) (hc0 : l0.length ≤ c0) (h : impl_numbers.f l0 = some r) (ht : Tens w) :
    Calls Tryd.prog 18 #[.slice A0 l0.length c0] w fun e w' => e = .returned (.string r) ∧ Below w.heap.size w w' := by
  unfold impl_numbers.f at h
  split at h
  · rename_i hh
    obtain rfl := Option.some.inj h
    exact numbersCalls l0.length hh.1 A0 c0 l0 w hr0 rfl (fun x hx => of_decide_eq_true (List.all_eq_true.1 hh.2 x hx)) ht
  · cases h

end Go.Proofs.YtbipicjijbnbbaaDoor.Hp
