/- What becomes of a seal's text when it is cut and read: the program's cutter and numbers. Plain lists of bytes. -/
import Derived.Test.YtbipicjijbnbbaaDoorHx17
import Derived.Test.YtbipicjijbnbbaaDoorSi
import Derived.Lib.AtoiTie
import Derived.Lib.SplitLaws
import Derived.Lib.IndexBytes
set_option linter.unusedVariables false
set_option linter.unusedSimpArgs false
namespace Go.Proofs.YtbipicjijbnbbaaDoor.Rw
open Go.RowKit Go.Proofs.YtbipicjijbnbbaaDoor.Hp Go.Proofs.YtbipicjijbnbbaaDoorW.PrintWords Go.Proofs.YtbipicjijbnbbaaDoor.Dr Go.Proofs.YtbipicjijbnbbaaDoor.Dc Go.Proofs.YtbipicjijbnbbaaDoor.St Go.Proofs.YtbipicjijbnbbaaDoor.Si

theorem ix_hit : ∀ {a r : List UInt8}, (32 : UInt8) ∉ a → Lib.indexByte (a ++ 32 :: r) 32 = a.length
  | [], r, _ => by simp [Lib.indexByte]
  | b :: l, r, h => by
    have hb : ¬ (b == 32) = true := fun e => h (by rw [beq_iff_eq.1 e]; exact List.mem_cons_self)
    have ih := ix_hit (r := r) fun q => h (List.mem_cons_of_mem b q)
    rw [List.cons_append]
    unfold Lib.indexByte
    rw [if_neg hb, ih, if_neg (by rw [beq_iff_eq]; omega), List.length_cons]
    omega
theorem ix_miss : ∀ {a : List UInt8}, (32 : UInt8) ∉ a → Lib.indexByte a 32 = -1
  | [], _ => rfl
  | b :: l, h => by
    have hb : ¬ (b == 32) = true := fun e => h (by rw [beq_iff_eq.1 e]; exact List.mem_cons_self)
    have ih := ix_miss fun q => h (List.mem_cons_of_mem b q)
    unfold Lib.indexByte
    rw [if_neg hb, ih, if_pos (by decide)]
theorem split_hit {a r : List UInt8} {k : Nat} (h : (32 : UInt8) ∉ a) : Lib.splitK [32] 0 (k + 1) (a ++ 32 :: r) = a :: Lib.splitK [32] 0 k r := by
  have e := ix_hit (r := r) h
  rw [Lib.splitK, Lib.index_one, e, if_neg (by rw [beq_iff_eq]; omega)]
  congr 1
  · simp
  · rw [show ((a.length : Int)).toNat + [(32 : UInt8)].length = a.length + 1 from by simp, List.drop_append, List.drop_of_length_le (by omega), show a.length + 1 - a.length = 1 from by omega]
    rfl
theorem split_miss {a : List UInt8} {k : Nat} (h : (32 : UInt8) ∉ a) : Lib.splitK [32] 0 k a = [a] := by
  cases k with
  | zero => rfl
  | succ k => rw [Lib.splitK, Lib.index_one, ix_miss h, if_pos (by decide)]
theorem map_inj : ∀ {a b : List ByteArray}, a.map bs = b.map bs → a = b
  | [], [], _ => rfl
  | [], _ :: _, h => by simp at h
  | _ :: _, [], h => by simp at h
  | x :: a, y :: b, h => by
    simp only [List.map_cons, List.cons.injEq] at h
    rw [bs_inj h.1, map_inj h.2]
theorem words_text {key kind a b c d e : Int} (h : Sl.ok key kind a b c d e = true) : wordsOf (sealText key kind a b c d e) = [kindWord kind, decOf key, decOf a, decOf b, decOf c, decOf d, decOf e] := by
  obtain ⟨hk, hn⟩ := nums h
  have hw := (word_no hk).1
  have h0 := (no_dec (hn key (by simp))).1
  have h1 := (no_dec (hn a (by simp))).1
  have h2 := (no_dec (hn b (by simp))).1
  have h3 := (no_dec (hn c (by simp))).1
  have h4 := (no_dec (hn d (by simp))).1
  have h5 := (no_dec (hn e (by simp))).1
  refine map_inj ?_
  have hs := Lib.splitB_data ⟨#[32]⟩ 0 (Lib.countB (sealText key kind a b c d e) ⟨#[32]⟩) (sealText key kind a b c d e)
  show List.map (fun x => x.data.toList) (Lib.splitB ⟨#[32]⟩ 0 (Lib.countB (sealText key kind a b c d e) ⟨#[32]⟩) (sealText key kind a b c d e)) = _
  rw [hs]
  have hc : Lib.countB (sealText key kind a b c d e) ⟨#[32]⟩ = 6 := by
    show Lib.count (bs (sealText key kind a b c d e)) [32] = 6
    rw [Lib.count_one, bs_text]
    simp only [List.count_append, List.count_cons, List.count_eq_zero.2 hw, List.count_eq_zero.2 h0, List.count_eq_zero.2 h1, List.count_eq_zero.2 h2, List.count_eq_zero.2 h3, List.count_eq_zero.2 h4, List.count_eq_zero.2 h5, beq_self_eq_true, if_true]
  rw [hc]
  show Lib.splitK [32] 0 6 (bs (sealText key kind a b c d e)) = _
  rw [bs_text, split_hit hw, split_hit h0, split_hit h1, split_hit h2, split_hit h3, split_hit h4, split_miss h5]
  rfl
theorem dec_two {u : Nat} (h : ¬ u < 10) (h' : u < 100) : Lib.decDigits u = [UInt8.ofNat (48 + u / 10), UInt8.ofNat (48 + u % 10)] := by
  rw [digits_more h, digits_one (by omega)]
  rfl
theorem dec_hundred : Lib.decDigits 100 = [49, 48, 48] := by
  rw [digits_more (by omega), dec_two (by omega) (by omega)]
  decide
theorem atoi_one : ∀ u : Fin 10, Lib.atoiAll [UInt8.ofNat (48 + u.val)] = .ok (u.val : Int) := by decide +kernel
theorem atoi_two : ∀ u : Fin 100, Lib.atoiAll [UInt8.ofNat (48 + u.val / 10), UInt8.ofNat (48 + u.val % 10)] = .ok (u.val : Int) := by decide +kernel
theorem atoi_hundred : Lib.atoiAll [49, 48, 48] = .ok 100 := by decide +kernel
theorem num_dec {x : Int} (h : 0 ≤ x ∧ x ≤ 100) : numOf (decOf x) = some x := by
  obtain ⟨u, rfl⟩ := Int.eq_ofNat_of_zero_le h.1
  have e : Lib.atoiAll (decOf (u : Int)).data.toList = .ok (u : Int) := by
    show Lib.atoiAll (bs (decOf (u : Int))) = _
    rw [bs_dec]
    by_cases h1 : u < 10
    · rw [digits_one h1]
      exact atoi_one ⟨u, h1⟩
    · by_cases h2 : u < 100
      · rw [dec_two h1 h2]
        exact atoi_two ⟨u, h2⟩
      · obtain rfl : u = 100 := by omega
        rw [dec_hundred]
        exact atoi_hundred
  unfold numOf
  rw [e]
theorem read_dec {key kind a b c d e : Int} (h : Sl.ok key kind a b c d e = true) : readF [decOf key, decOf a, decOf b, decOf c, decOf d, decOf e] = some [key, a, b, c, d, e] := by
  obtain ⟨_, hn⟩ := nums h
  unfold readF
  rw [if_pos (show [decOf key, decOf a, decOf b, decOf c, decOf d, decOf e].length = 6 from rfl)]
  simp only [numsOf, num_dec (hn key (by simp)), num_dec (hn a (by simp)), num_dec (hn b (by simp)), num_dec (hn c (by simp)), num_dec (hn d (by simp)), num_dec (hn e (by simp)), Option.bind_some]
abbrev R8 := Int × Int × Int × Int × Int × Int × Int × Bool
/-- What is read of a text: the seal whose text it is, if there is one. -/
def Rd (t : ByteArray) (r : R8) : Prop :=
  (∃ key kind a b c d e, Sl.ok key kind a b c d e = true ∧ sealText key kind a b c d e = t ∧ r = (key, kind, a, b, c, d, e, true)) ∨
  ((∀ key kind a b c d e, Sl.ok key kind a b c d e = true → sealText key kind a b c d e ≠ t) ∧ r = (0, 0, 0, 0, 0, 0, 0, false))
theorem Rd.unique {t : ByteArray} {r q : R8} (h : Rd t r) (g : Rd t q) : r = q := by
  rcases h with ⟨key, kind, a, b, c, d, e, o, ht, rfl⟩ | ⟨hn, rfl⟩
  · rcases g with ⟨key', kind', a', b', c', d', e', o', ht', rfl⟩ | ⟨gn, rfl⟩
    · obtain ⟨rfl, rfl, rfl, rfl, rfl, rfl, rfl⟩ := text_inj o o' (ht.trans ht'.symm)
      rfl
    · exact absurd ht (gn _ _ _ _ _ _ _ o)
  · rcases g with ⟨key', kind', a', b', c', d', e', o', ht', rfl⟩ | ⟨gn, rfl⟩
    · exact absurd ht' (hn _ _ _ _ _ _ _ o')
    · rfl
theorem name_kind {k : Int} (h : k = 1 ∨ k = 2 ∨ k = 3 ∨ k = 4) : nameK k = kindWord k := by rcases h with rfl | rfl | rfl | rfl <;> rfl
theorem impl_read (t : ByteArray) (hs : t.size ≤ 1048576) : ∃ r, impl_SealRead.f t = some r ∧ Rd t r := by
  unfold impl_SealRead.f
  rw [if_pos hs]
  refine ⟨_, rfl, ?_⟩
  cases hw : wordsOf t with
  | nil =>
    refine .inr ⟨fun key kind a b c d e o ht => ?_, rfl⟩
    subst ht
    rw [words_text o] at hw
    cases hw
  | cons W l =>
    dsimp only
    cases hr : readF l with
    | none =>
      refine .inr ⟨fun key kind a b c d e o ht => ?_, rfl⟩
      subst ht
      rw [words_text o] at hw
      obtain ⟨rfl, rfl⟩ := List.cons.inj hw
      rw [read_dec o] at hr
      cases hr
    | some xs =>
      obtain ⟨n0, n1, n2, n3, n4, n5, rfl⟩ := readF_six hr
      dsimp only
      cases hf : ([0, 1, 2, 3, 4] : List Int).find? (hitK t W n0 n1 n2 n3 n4 n5) with
      | none =>
        refine .inr ⟨fun key kind a b c d e o ht => ?_, rfl⟩
        have ht' := ht
        subst ht
        rw [words_text o] at hw
        obtain ⟨rfl, rfl⟩ := List.cons.inj hw
        rw [read_dec o] at hr
        simp only [Option.some.injEq, List.cons.injEq, and_true] at hr
        obtain ⟨rfl, rfl, rfl, rfl, rfl, rfl⟩ := hr
        have hk := (nums o).1
        have := List.find?_eq_none.1 hf kind (by rcases hk with rfl | rfl | rfl | rfl <;> simp)
        refine this ?_
        unfold hitK
        rw [if_pos (by rw [name_kind hk]), if_pos (by rw [Sl.sealOk_is]; exact o)]
        exact decide_eq_true rfl
      | some x =>
        have hh := List.find?_some hf
        unfold hitK at hh
        split at hh
        · split at hh
          · rename_i ho
            exact .inl ⟨n0, x, n1, n2, n3, n4, n5, by rw [← Sl.sealOk_is]; exact ho, toList_inj.1 (of_decide_eq_true hh), rfl⟩
          · cases hh
        · cases hh
end Go.Proofs.YtbipicjijbnbbaaDoor.Rw
