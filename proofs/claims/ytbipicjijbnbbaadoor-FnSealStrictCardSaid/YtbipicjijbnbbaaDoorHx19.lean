-- hp.py
import Derived.Test.YtbipicjijbnbbaaDoorHx0
import Derived.Deep.RegionHeld3
namespace Go.Proofs.YtbipicjijbnbbaaDoor.Hp
open Go.RowKit Go.Proofs.YtbipicjijbnbbaaDoorW.PrintWords Go.Proofs.YtbipicjijbnbbaaDoorW.PrintLast Go.Proofs.YtbipicjijbnbbaaDoorW.PrintMore
attribute [local go_sem] max2_int min2_int max_two min_two max_three min_three max_four min_four   -- for this text's walks alone
set_option linter.unusedVariables false
set_option linter.unusedSimpArgs false
-- squeezed by wip/tools/squeeze.py
theorem z19x0 {P : Prop} (h : P := by repeat (first | (with_reducible first | exact HB.out | apply below_alloc | apply pw_below_drewN | apply below_drew1) | exact HB.out)) : P := h

/-! ### spec_l1Cut: function 24 -/
-- IMPORT Derived.Deep.RegionHeld3
/-- A text cut at its blanks: what is done, and what is under way. -/
def cutStep (p : List ByteArray × ByteArray) (b : UInt8) : List ByteArray × ByteArray := if b = 32 then (p.1 ++ [p.2], ⟨#[]⟩) else (p.1, p.2 ++ ⟨#[b]⟩)
def cutAt (l : List UInt8) : List ByteArray × ByteArray := l.foldl cutStep ([], ⟨#[]⟩)
/-- The words of a text. -/
def cutF (s : ByteArray) : List ByteArray := (cutAt s.data.toList).1 ++ [(cutAt s.data.toList).2]
theorem cut_snoc (s : ByteArray) (x : Int) (h0 : 0 ≤ x) (h : x < (s.size : Int)) : ∃ b : UInt8, bt s x = (b.toNat : Int) ∧ cutAt (s.data.toList.take (x + 1).toNat) = cutStep (cutAt (s.data.toList.take x.toNat)) b := by
  obtain ⟨i, rfl⟩ : ∃ i : Nat, x = (i : Int) := ⟨x.toNat, by omega⟩
  have hi : i < s.size := by omega
  have hl : i < s.data.toList.length := by simpa using hi
  refine ⟨s[i]'hi, (bt_at s i (by simpa using hi)).symm, ?_⟩
  rw [show ((i : Int) + 1).toNat = i + 1 from by omega, Int.toNat_natCast, List.take_add_one, List.getElem?_eq_getElem hl]
  unfold cutAt
  rw [Option.toList_some, List.foldl_append]
  rfl
theorem cut_len : ∀ (l : List UInt8), (cutAt l).1.length ≤ l.length ∧ (cutAt l).2.size ≤ l.length := by
  have h : ∀ (l : List UInt8) (p : List ByteArray × ByteArray), (l.foldl cutStep p).1.length ≤ p.1.length + l.length ∧ (l.foldl cutStep p).2.size ≤ p.2.size + l.length := by
    intro l
    induction l with
    | nil => intro p; simp
    | cons b r ih =>
      intro p
      rw [List.foldl_cons]
      have h1 := ih (cutStep p b)
      have h2 : (cutStep p b).1.length ≤ p.1.length + 1 ∧ (cutStep p b).2.size ≤ p.2.size + 1 := by
        unfold cutStep
        split
        · simp; exact Nat.zero_le _
        · simp [ByteArray.size_append]; exact Nat.le_refl _
      rw [List.length_cons]
      omega
  intro l
  have h1 := h l ([], ⟨#[]⟩)
  have h2 : (⟨#[]⟩ : ByteArray).size = 0 := rfl
  rw [show cutAt l = l.foldl cutStep ([], ⟨#[]⟩) from rfl]
  rw [List.length_nil, h2] at h1
  omega
theorem strOne (b : UInt8) : strOfNums [(b.toNat : Int)] = ⟨#[b]⟩ := by simp [strOfNums]
theorem oneByte (w : World) (b : Int) : Kd.C (Kd.int .u8) (w.alloc (.cells #[.int .u8 b] 5)) (some ⟨w.heap.size, 0, none⟩) 1 [b] := by
  refine Kd.C_of_reads (d := (0 : Int)) (h1 := fun _ => rfl) ⟨rfl, by decide, fun _ => ⟨_, rfl, fun j hj => ?_⟩⟩
  obtain rfl : j = 0 := by omega
  exact (blk_cell (blk_new w _) 0).trans rfl
def spec_l1Cut.f (a0 : ByteArray) (a1 : Int) : Option (List ByteArray) := if a1 = 32 ∧ a0.size ≤ 1048576 then some (cutF a0) else none
set_option maxHeartbeats 16000000 in
set_option maxRecDepth 100000 in
theorem spec_l1Cut.calls (a0 : ByteArray) (a1 : Int) (r : List ByteArray) (w : World) (h : spec_l1Cut.f a0 a1 = some r) :
    Calls Tryd.prog 24 #[.string a0, .int .u8 a1] w fun e w' => ∃ v0_ : Value, e = .returned (v0_) ∧ Kd.R Kd.string 9 w' w.heap.size (fun _ => True) v0_ r ∧ Below w.heap.size w w' := by
  unfold spec_l1Cut.f at h
  split at h
  case isFalse => cases h
  rename_i hh
  obtain ⟨rfl, hz⟩ := hh
  obtain rfl := Option.some.inj h
  clear h
  have HZ := Aside0.mk hz
  have HB := Aside0.mk (Below.refl w.heap.size w)
  clear hz
  go_enter Tryd.func24, Tryd.ntmps24
  go_wp2_with (first | ((with_reducible refine gate_dst (N := 7) rfl ?_); refine Kd.R_lit Kd.string _ 9 ?hg (N := 7) ?hd (xs := ([(⟨#[]⟩ : ByteArray)] : List ByteArray)) (inner := [.string (⟨#[]⟩ : ByteArray)]) (ok := fun _ => True) (okp := fun _ => True) ?hr ?hp (fun _ hk => hk) trivial (Below.refl _ _) (Nat.le_refl _) (by simp) ?_; (case hd => rfl); (case hg => rfl); (case hr => first | (go_simp; done) | (go_simp; rfl)); (case hp => exact (Reps.one (show Kd.M Kd.string _ _ _ (⟨#[]⟩ : ByteArray) [.string (⟨#[]⟩ : ByteArray)] from rfl) (Reps.none _ _))); intro v191 w1 ho2 hb hg_ hnew_; clear hg_ hnew_; have n0_ := Aside0.mk (Kd.R_lower ho2 (below_size z19x0)); have n1_ := Aside0.mk (below_step z19x0 hb); clear HB; have HO := n0_; have HB := n1_; clear n0_ n1_; clear hb ho2))
  go_loopg [5, 6] (a0.size + 1) (fun kq v5 v6 w' => ∃ (x6 : Int), v6 = .int .i64 x6 ∧ Aside0 (0 ≤ x6 ∧ x6 + kq = a0.size + 1) ∧ Aside0 (Kd.R Kd.string 9 w' w.heap.size (fun _ => True) v5 ((cutAt (a0.data.toList.take x6.toNat)).1 ++ [(cutAt (a0.data.toList.take x6.toNat)).2])) ∧ Aside0 (Below w.heap.size w w'))
  case atStart => exact ⟨0, by first | rfl | (simp; done) | (simp [*]; done), ⟨by omega⟩, HO, HB⟩
  case round =>
    clear HO HB
    obtain ⟨x6, rfl, HX, HO, HB⟩ := hrel
    by_cases hlt : x6 < (a0.size : Int)
    · have d1 : decide (x6 < (a0.size : Int)) = true := decide_eq_true hlt
      have p0 : 0 ≤ x6 := HX.out.1
      have hw1 : x6 + 1 ≤ 9223372036854775807 := by have := HZ.out; omega
      obtain ⟨b, hb, hs⟩ := cut_snoc a0 x6 p0 hlt
      have HS := Aside0.mk hs
      have HQ := Aside0.mk (cut_len (a0.data.toList.take x6.toNat))
      have HY := Aside0.mk (show (a0.data.toList.take x6.toNat).length ≤ 1048576 from Nat.le_trans (List.length_take_le _ _) (by have := HZ.out; omega))
      clear hs
      generalize cutAt (a0.data.toList.take x6.toNat) = P at HO HS HQ
      obtain ⟨ds, c⟩ := P
      have HQ' := Aside0.mk (show ds.length ≤ 1048576 ∧ c.size ≤ 1048576 from ⟨Nat.le_trans HQ.out.1 HY.out, Nat.le_trans HQ.out.2 HY.out⟩)
      clear HQ HY
      have hx6 := bt_at a0 x6
      by_cases h32 : b = 32
      · subst h32
        have hb' : bt a0 x6 = 32 := hb
        have d2 : decide (bt a0 x6 = 32) = true := decide_eq_true hb'
        have d3 : (bt a0 x6 == 32) = true := beq_iff_eq.2 hb'
        have HT := Aside0.mk (show cutAt (a0.data.toList.take (x6 + 1).toNat) = (ds ++ [c], ⟨#[]⟩) by rw [HS.out]; rfl)
        have HL := Aside0.mk (show (ds ++ [c]).length ≤ 1048577 by simp; exact HQ'.out.1)
        generalize ds ++ [c] = ys at HO HT HL
        obtain ⟨Ao, co, eo⟩ := Kd.R_slice HO.out
        subst eo
        go_wp2_with (first | ((with_reducible refine gate_builtin (b := .append) (xs := #[.tmp 19, .tmp 20]) rfl ?_); at_builtin; refine Kd.R_append Kd.string (w0 := w) w.heap.size rfl (.tmp 19) (.tmp 20) 40 9 (.string ⟨#[]⟩) 16 rfl Tryd.underlying40 info9 rfl (by decide) (by omega) _ ys (⟨#[]⟩ : ByteArray) [.string (⟨#[]⟩ : ByteArray)] (fun _ => True) (fun _ => False) rfl rfl ?aP (fun _ hk => hk.elim) ?aF ?aO ?aB ?aS ?aL ?_; (case aP => exact rfl); (case aB => exact z19x0); (case aF => exact (fun _ _ => trivial)); (case aO => exact (by (with_reducible repeat (first | apply Kd.R_alloc | apply Kd.R_drewN | apply Kd.R_drew)); exact HO.out)); (case aS => exact (below_size z19x0)); (case aL => have := HL.out; omega); intro v9 w13 ho hb hg hat; have n1_ := Aside0.mk hb; have n2_ := Aside0.mk ho; clear HO HB; have HB := n1_; have HO := n2_; clear n1_ n2_ ho hb hg hat))
        go_roundg (gk - 1)
        case measure => have := HX.out.2; omega
        case rel => exact ⟨x6 + 1, by first | rfl | (simp; done) | (simp [*]; done), ⟨by have := HX.out; omega⟩, ⟨by rw [HT.out]; exact HO.out⟩, HB⟩
      · have hb' : ¬ bt a0 x6 = 32 := fun e => h32 (by rw [hb] at e; exact UInt8.toNat_inj.1 (by simpa using (by exact_mod_cast e : b.toNat = 32)))
        have d2 : decide (bt a0 x6 = 32) = false := decide_eq_false hb'
        have d3 : (bt a0 x6 == 32) = false := beq_eq_false_iff_ne.2 hb'
        have HT := Aside0.mk (show cutAt (a0.data.toList.take (x6 + 1).toNat) = (ds, c ++ ⟨#[b]⟩) by rw [HS.out]; exact if_neg h32)
        have HB1 := Aside0.mk hb
        clear h32 HS hb
        obtain ⟨L, hL⟩ : ∃ L, (ds ++ [c]).length = L := ⟨_, rfl⟩
        have hL' : L = ds.length + 1 := by rw [← hL]; simp
        have HL := Aside0.mk hL'
        obtain ⟨go, co, eo, gb, gl, cl, HG⟩ := Kd.R_form HO.out (by simp)
        rw [hL] at eo
        subst eo
        obtain ⟨J, hJ⟩ : ∃ J : Int, (L : Int) - 1 = J := ⟨_, rfl⟩
        have p5 : 0 ≤ J := by omega
        have q5 : J < (L : Int) := by omega
        have hJn : J.toNat = ds.length := by omega
        obtain ⟨hx, hf⟩ := Kd.R_celln (⟨#[]⟩ : ByteArray) HO.out J p5 q5
        have hrd : rdOf (⟨#[]⟩ : ByteArray) (ds ++ [c]) J = c := by simp [rdOf, hJn]
        rw [hrd] at hx
        have HGB := Aside0.mk gb
        have HP := Kd.R_putg HO.out J (c ++ strOfNums [bt a0 x6])
        have hput : (ds ++ [c]).set J.toNat (c ++ strOfNums [bt a0 x6]) = ds ++ [c ++ ⟨#[b]⟩] := by
          rw [hJn, HB1.out, strOne, List.set_append_right _ _ (Nat.le_refl _)]
          simp
        have HP1 := Aside0.mk HP.1
        have HPT := Aside0.mk hput
        have hw3 : J ≤ 9223372036854775807 := by have := HQ'.out.1; omega
        have hw4 : IntKind.i64.wrap ((L : Int) - 1) = J := by rw [hJ, IntKind.wrap_i64]; omega
        have hcs : c.size ≤ 1048576 := HQ'.out.2
        have hss : (strOfNums [bt a0 x6]).size = 1 := by rw [HB1.out, strOne]; rfl
        have f00 : c.size + (strOfNums [bt a0 x6]).size ≤ 9223372036854775807 := by omega
        have f01 := eq_true f00
        have f02 : decide (c.size + (strOfNums [bt a0 x6]).size ≤ 9223372036854775807) = true := decide_eq_true f00
        have f03 : (9223372036854775807 < c.size + (strOfNums [bt a0 x6]).size) = False := eq_false (Nat.not_lt.2 f00)
        have f10 : c.size + 1 ≤ 9223372036854775807 := by omega
        have f11 := eq_true f10
        have f12 : decide (c.size + 1 ≤ 9223372036854775807) = true := decide_eq_true f10
        have f13 : (9223372036854775807 < c.size + 1) = False := eq_false (Nat.not_lt.2 f10)
        clear hput HP hrd gb HG gl cl hcs hL hL' hb' hJ hJn
        have hx2 : ∀ (X : Array Value) (T : TypeId), (wr.alloc (.cells X T)).cell? ⟨go, J.toNat, none⟩ = some (.string c) := fun X T => ((below_alloc (Below.refl wr.heap.size wr) (.cells X T)).cell (World.block_lt_of_cell? wr _ hx)).trans hx
        have hf2 : ∀ (X : Array Value) (T : TypeId), (wr.alloc (.cells X T)).frozen? ⟨go, J.toNat, none⟩ = false := fun X T => (frozen?_alloc_cells wr X T _).trans hf
        have hcv := Kd.C_string (P := Tryd.prog) Tryd.underlying22 Tryd.underlying5 Tryd.underlying9 (c := 1) (Kd.C_drew (oneByte wr (bt a0 x6)))
        go_wp2
        go_region_with fail
        all_goals
          have HO2 := Aside0.mk (show Kd.R Kd.string 9 (((wr.alloc (.cells #[.int .u8 (bt a0 x6)] 5)).setCell ⟨go, J.toNat, none⟩ (.string (c ++ strOfNums [bt a0 x6]))).drew) w.heap.size (fun _ => True) (.slice (some ⟨go, 0, none⟩) L co) (ds ++ [c ++ ⟨#[b]⟩]) from by
            rw [← HPT.out]
            exact Kd.R_drew (Kd.R_putg (Kd.R_alloc HO.out _) J (c ++ strOfNums [bt a0 x6])).1)
          have HB2 := Aside0.mk (show Below w.heap.size w (((wr.alloc (.cells #[.int .u8 (bt a0 x6)] 5)).setCell ⟨go, J.toNat, none⟩ (.string (c ++ strOfNums [bt a0 x6]))).drew) from below_drew1 (below_set (below_alloc HB.out _) HGB.out))
          clear HO HB hx hf hx2 hf2 hcv HP1
          go_wp2
          go_roundg (gk - 1)
          case measure => have := HX.out.2; omega
          case rel => exact ⟨x6 + 1, by first | rfl | (simp; done) | (simp [*]; done), ⟨by have := HX.out; omega⟩, ⟨by rw [HT.out]; exact HO2.out⟩, HB2⟩
    · have d1 : decide (x6 < (a0.size : Int)) = false := decide_eq_false hlt
      have HE := Aside0.mk (show a0.data.toList.take x6.toNat = a0.data.toList by rw [List.take_of_length_le (by have := HX.out; simp; show a0.size ≤ _; omega)])
      rw [HE.out] at HO
      go_wp2
      go_ret
      exact ⟨_, rfl, HO.out, HB.out⟩

end Go.Proofs.YtbipicjijbnbbaaDoor.Hp
