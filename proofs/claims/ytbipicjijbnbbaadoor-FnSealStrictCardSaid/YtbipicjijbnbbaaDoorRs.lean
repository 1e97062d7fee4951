/- What the reference reads of a text: the seal whose text it is, if there is one. Plain lists of bytes. -/
import Derived.Test.YtbipicjijbnbbaaDoorHx21
import Derived.Test.YtbipicjijbnbbaaDoorRw
set_option linter.unusedVariables false
set_option linter.unusedSimpArgs false
namespace Go.Proofs.YtbipicjijbnbbaaDoor.Rw
open Go.RowKit Go.Proofs.YtbipicjijbnbbaaDoor.Hp Go.Proofs.YtbipicjijbnbbaaDoorW.PrintWords Go.Proofs.YtbipicjijbnbbaaDoor.Dr Go.Proofs.YtbipicjijbnbbaaDoor.Dc Go.Proofs.YtbipicjijbnbbaaDoor.St Go.Proofs.YtbipicjijbnbbaaDoor.Si

theorem cut_word : ∀ (a : List UInt8), (32 : UInt8) ∉ a → ∀ (p : List ByteArray × ByteArray) (r : List UInt8), (a ++ r).foldl cutStep p = r.foldl cutStep (p.1, p.2 ++ ⟨a.toArray⟩)
  | [], _, p, r => by
    have e : p.2 ++ (⟨([] : List UInt8).toArray⟩ : ByteArray) = p.2 := bs_inj (by rw [bs_append]; exact List.append_nil _)
    rw [List.nil_append, e]
  | b :: a, h, p, r => by
    have hb : ¬ b = 32 := fun e => h (by rw [e]; exact List.mem_cons_self)
    have ih := cut_word a (fun q => h (List.mem_cons_of_mem b q)) (p.1, p.2 ++ ⟨#[b]⟩) r
    have e : p.2 ++ (⟨#[b]⟩ : ByteArray) ++ (⟨a.toArray⟩ : ByteArray) = p.2 ++ (⟨(b :: a).toArray⟩ : ByteArray) := bs_inj (by
      rw [bs_append, bs_append, bs_append]
      show _ ++ [b] ++ a = _ ++ (b :: a)
      simp)
    rw [List.cons_append, List.foldl_cons, show cutStep p b = (p.1, p.2 ++ ⟨#[b]⟩) from if_neg hb, ih]
    dsimp only
    rw [e]
theorem cut_one {a : ByteArray} (h : (32 : UInt8) ∉ bs a) (ds : List ByteArray) (r : List UInt8) : (bs a ++ 32 :: r).foldl cutStep (ds, ⟨#[]⟩) = r.foldl cutStep (ds ++ [a], ⟨#[]⟩) := by
  have e : (⟨#[]⟩ : ByteArray) ++ (⟨(bs a).toArray⟩ : ByteArray) = a := bs_inj (by rw [bs_append]; show [] ++ bs a = bs a; rfl)
  rw [cut_word (bs a) h, List.foldl_cons]
  dsimp only
  rw [e]
  rfl
theorem cut_last {a : ByteArray} (h : (32 : UInt8) ∉ bs a) (ds : List ByteArray) : (bs a).foldl cutStep (ds, ⟨#[]⟩) = (ds, a) := by
  have e : (⟨#[]⟩ : ByteArray) ++ (⟨(bs a).toArray⟩ : ByteArray) = a := bs_inj (by rw [bs_append]; show [] ++ bs a = bs a; rfl)
  have := cut_word (bs a) h (ds, ⟨#[]⟩) []
  rw [List.append_nil] at this
  rw [this]
  dsimp only
  rw [e]
  rfl
theorem cut_text {key kind a b c d e : Int} (h : Sl.ok key kind a b c d e = true) : cutF (sealText key kind a b c d e) = [kindWord kind, decOf key, decOf a, decOf b, decOf c, decOf d, decOf e] := by
  obtain ⟨hk, hn⟩ := nums h
  have hw := (word_no hk).1
  have h0 := (no_dec (hn key (by simp))).1
  have h1 := (no_dec (hn a (by simp))).1
  have h2 := (no_dec (hn b (by simp))).1
  have h3 := (no_dec (hn c (by simp))).1
  have h4 := (no_dec (hn d (by simp))).1
  have h5 := (no_dec (hn e (by simp))).1
  have hc : cutAt (sealText key kind a b c d e).data.toList = ([kindWord kind, decOf key, decOf a, decOf b, decOf c, decOf d], decOf e) := by
    show (bs (sealText key kind a b c d e)).foldl cutStep ([], ⟨#[]⟩) = _
    rw [bs_text, cut_one hw, cut_one h0, cut_one h1, cut_one h2, cut_one h3, cut_one h4, cut_last h5]
    rfl
  unfold cutF
  rw [hc]
  rfl
/-- What the reference makes of a word's figures. -/
def decG (n : Int) : List UInt8 → Int
  | [] => n
  | b :: r => if (b.toNat : Int) < 48 then -1 else if (b.toNat : Int) > 57 then -1 else decG (10 * n + ((b.toNat : Int) - 48)) r
def decV (w : ByteArray) : Int := if 1 ≤ w.size ∧ w.size ≤ 3 then decG 0 (bs w) else -1
theorem bt_is {w : ByteArray} {i : Nat} {b : UInt8} (h : (bs w)[i]? = some b) : bt w (i : Int) = (b.toNat : Int) := by
  obtain ⟨hi, hb⟩ := List.getElem?_eq_some_iff.1 h
  have hs : i < w.size := by simpa [bs] using hi
  rw [← bt_at w (i : Int) (by simpa using hs)]
  have e : w[(i : Int).toNat]'(by simpa using hs) = b := by
    rw [← hb]
    rfl
  rw [e]
theorem decLoop_ev (w : ByteArray) (hw : w.size ≤ 3) : ∀ (d i : Nat) (n : Int), i + d = w.size → 0 ≤ n → ((i = 0 → n ≤ 0) ∧ (i = 1 → n ≤ 9) ∧ (i = 2 → n ≤ 99)) → Evs (fun k => spec_l1Dec.l0 k w n (i : Int)) (· = decG n ((bs w).drop i)) := by
  intro d
  induction d with
  | zero =>
    intro i n hi h0 h1
    refine Evs.step (fun k => by simp only [spec_l1Dec.l0]; rfl) (Evs.else_ (by omega) (Evs.now ?_))
    rw [List.drop_of_length_le (by show w.data.toList.length ≤ i; rw [Array.length_toList]; show w.size ≤ i; omega)]
    rfl
  | succ d ih =>
    intro i n hi h0 h1
    have hlt : i < (bs w).length := by show i < w.data.toList.length; rw [Array.length_toList]; show i < w.size; omega
    have hb := bt_is (List.getElem?_eq_getElem hlt)
    have hb0 : ((bs w)[i]).toNat < 256 := UInt8.toNat_lt _
    refine Evs.step (fun k => by simp only [spec_l1Dec.l0]; rfl) (Evs.then_ (by omega) (Evs.then_ (by omega) ?_))
    rw [hb, List.drop_eq_getElem_cons hlt]
    have hc : i = 0 ∨ i = 1 ∨ i = 2 := by omega
    have hn : n ≤ 8000 := by rcases hc with rfl | rfl | rfl <;> omega
    unfold decG
    refine Evs.ite (fun h => Evs.now (by rw [if_pos h])) (fun h => Evs.ite (fun g => Evs.now (by rw [if_neg h, if_pos g])) (fun g => ?_))
    rw [if_neg h, if_neg g]
    rw [w64 (x := 10 * n) (by omega) (by omega), show (((bs w)[i].toNat : Int) - 48) % 256 = ((bs w)[i].toNat : Int) - 48 from by omega, w64 (x := 10 * n + (((bs w)[i].toNat : Int) - 48)) (by omega) (by omega), w64 (x := (i : Int) + 1) (by omega) (by omega)]
    exact ih (i + 1) _ (by omega) (by omega) ⟨fun q => by omega, fun q => by omega, fun q => by omega⟩
theorem l1Dec_ev (w : ByteArray) : Evs (fun k => spec_l1Dec.f k w) (· = decV w) := by
  unfold spec_l1Dec.f decV
  rw [Sl.l6In]
  simp only [Option.bind_some, decide_eq_true_eq]
  by_cases h : 1 ≤ w.size ∧ w.size ≤ 3
  · rw [if_pos h]
    refine Evs.then_ (by omega) ?_
    have := decLoop_ev w h.2 w.size 0 0 (by omega) (by omega) ⟨fun _ => by omega, fun _ => by omega, fun _ => by omega⟩
    rwa [List.drop_zero] at this
  · rw [if_neg h]
    exact Evs.else_ (by omega) (Evs.now rfl)
theorem g_one : ∀ u : Fin 10, decG 0 [UInt8.ofNat (48 + u.val)] = (u.val : Int) := by decide +kernel
theorem g_two : ∀ u : Fin 100, decG 0 [UInt8.ofNat (48 + u.val / 10), UInt8.ofNat (48 + u.val % 10)] = (u.val : Int) := by decide +kernel
theorem g_hundred : decG 0 [49, 48, 48] = 100 := by decide +kernel
theorem decV_dec {x : Int} (h : 0 ≤ x ∧ x ≤ 100) : decV (decOf x) = x := by
  obtain ⟨u, rfl⟩ := Int.eq_ofNat_of_zero_le h.1
  have hz : (decOf (u : Int)).size = (bs (decOf (u : Int))).length := by show _ = (decOf (u : Int)).data.toList.length; first | (simp; done) | (simp; rfl)
  unfold decV
  rw [hz, bs_dec]
  by_cases h1 : u < 10
  · rw [digits_one h1, if_pos ⟨by simp, by simp⟩]
    exact g_one ⟨u, h1⟩
  · by_cases h2 : u < 100
    · rw [dec_two h1 h2, if_pos ⟨by simp, by simp⟩]
      exact g_two ⟨u, h2⟩
    · obtain rfl : u = 100 := by omega
      rw [dec_hundred, if_pos ⟨by simp, by simp⟩]
      exact g_hundred
def names : List ByteArray := [⟨#[]⟩, ⟨#[116, 105, 99, 107, 101, 116]⟩, ⟨#[112, 97, 114, 116]⟩, ⟨#[97, 117, 116, 104]⟩, ⟨#[98, 97, 99, 107]⟩]
theorem rd_names {x : Int} (h0 : 1 ≤ x) (h1 : x < 5) : rdOf ByteArray.empty names x = kindWord x := by
  have hc : x = 1 ∨ x = 2 ∨ x = 3 ∨ x = 4 := by omega
  rcases hc with rfl | rfl | rfl | rfl <;> rfl
theorem size_text {key kind a b c d e : Int} (h : Sl.ok key kind a b c d e = true) : (sealText key kind a b c d e).size ≤ 60 := by
  obtain ⟨hk, hn⟩ := nums h
  have hd : ∀ x : Int, 0 ≤ x ∧ x ≤ 100 → (bs (decOf x)).length ≤ 3 := by
    intro x hx
    obtain ⟨u, rfl⟩ := Int.eq_ofNat_of_zero_le hx.1
    rw [bs_dec]
    by_cases h1 : u < 10
    · rw [digits_one h1]; simp
    · by_cases h2 : u < 100
      · rw [dec_two h1 h2]; simp
      · obtain rfl : u = 100 := by omega
        rw [dec_hundred]; simp
  have es : (sealText key kind a b c d e).size = (bs (sealText key kind a b c d e)).length := by show _ = (sealText key kind a b c d e).data.toList.length; first | (simp; done) | (simp; rfl)
  have hw : (bs (kindWord kind)).length ≤ 6 := by rcases hk with rfl | rfl | rfl | rfl <;> decide
  have h0 := hd key (hn key (by simp))
  have h1 := hd a (hn a (by simp))
  have h2 := hd b (hn b (by simp))
  have h3 := hd c (hn c (by simp))
  have h4 := hd d (hn d (by simp))
  have h5 := hd e (hn e (by simp))
  rw [es, bs_text]
  simp only [List.length_append, List.length_cons]
  omega
theorem readLoop_ev (t W : ByteArray) (ws : List ByteArray) (hws : 0 < ws.length) (hW : rdOf ByteArray.empty ws 0 = W) (n0 n1 n2 n3 n4 n5 : Int) (ht : t ≠ ⟨#[]⟩)
    (hT : ∀ key kind a b c d e, Sl.ok key kind a b c d e = true → sealText key kind a b c d e = t → W = kindWord kind ∧ n0 = key ∧ n1 = a ∧ n2 = b ∧ n3 = c ∧ n4 = d ∧ n5 = e) : ∀ (d : Nat) (x kd : Int), x + d = 5 → 1 ≤ x → (∀ j : Int, 1 ≤ j → j < x → W = kindWord j → kd = j) →
    Evs (fun k => spec_SealRead.l0 k t ws names x n0 kd n1 n2 n3 n4 n5) (Rd t) := by
  intro d
  induction d with
  | zero =>
    intro x kd hx h1 hK
    refine Evs.step (fun k => by simp only [spec_SealRead.l0]; rfl) (Evs.else_ (by show ¬ x < 5; omega) ((spec_text n0 kd n1 n2 n3 n4 n5).bind ?_))
    rintro _ rfl
    refine Evs.ite (fun h => Evs.now ?_) (fun h => Evs.now ?_)
    · have h := toList_inj.1 h
      unfold txt at h
      split at h
      · rename_i ho
        exact .inl ⟨n0, kd, n1, n2, n3, n4, n5, ho, h, rfl⟩
      · exact absurd h.symm ht
    · refine .inr ⟨fun key kind a b c d e o g => h (toList_inj.2 ?_), rfl⟩
      obtain ⟨hw, rfl, rfl, rfl, rfl, rfl, rfl⟩ := hT _ _ _ _ _ _ _ o g
      have hk := (nums o).1
      obtain rfl := hK kind (by omega) (by omega) hw
      unfold txt
      rw [if_pos o]
      exact g
  | succ d ih =>
    intro x kd hx h1 hK
    refine Evs.step (fun k => by simp only [spec_SealRead.l0]; rfl) (Evs.then_ (by show x < 5; omega) (Evs.then_ (by omega) (Evs.then_ (by omega) ?_)))
    rw [hW, rd_names h1 (by omega), w64 (by omega) (by omega)]
    refine Evs.ite (fun h => ih (x + 1) x (by omega) (by omega) ?_) (fun h => ih (x + 1) kd (by omega) (by omega) ?_)
    · intro j j1 j2 hj
      have h := toList_inj.1 h
      exact word_inj (by omega) (by omega) (by rw [h, hj])
    · intro j j1 j2 hj
      by_cases e : j < x
      · exact hK j j1 e hj
      · obtain rfl : j = x := by omega
        exact absurd (toList_inj.2 hj.symm) h
theorem spec_read (t : ByteArray) : Evs (fun k => spec_SealRead.f k t) (Rd t) := by
  unfold spec_SealRead.f
  refine Evs.ite (fun h => Evs.now ?_) (fun h => ?_)
  · refine .inr ⟨fun key kind a b c d e o g => ?_, rfl⟩
    have := size_text o
    rw [g] at this
    omega
  have hc : spec_l1Cut.f t 32 = some (cutF t) := by
    unfold spec_l1Cut.f
    rw [if_pos ⟨rfl, by omega⟩]
  rw [hc]
  simp only [Option.bind_some]
  by_cases h7 : (cutF t).length = 7
  · obtain ⟨ws, hws⟩ : ∃ ws, cutF t = ws := ⟨_, rfl⟩
    have ht : t ≠ ⟨#[]⟩ := by
      rintro rfl
      have : (cutF (⟨#[]⟩ : ByteArray)).length = 1 := rfl
      omega
    have hT : ∀ key kind a b c d e, Sl.ok key kind a b c d e = true → sealText key kind a b c d e = t → ws = [kindWord kind, decOf key, decOf a, decOf b, decOf c, decOf d, decOf e] := by
      rintro key kind a b c d e o rfl
      rw [← hws, cut_text o]
    rw [hws] at h7 ⊢
    clear hws
    match ws, h7 with
    | [w0, w1, w2, w3, w4, w5, w6], _ =>
      refine Evs.then_ (by simp) (Evs.then_ (by simp) ((l1Dec_ev w1).bind ?_))
      rintro _ rfl
      refine Evs.then_ (by simp) ((l1Dec_ev w2).bind ?_)
      rintro _ rfl
      refine Evs.then_ (by simp) ((l1Dec_ev w3).bind ?_)
      rintro _ rfl
      refine Evs.then_ (by simp) ((l1Dec_ev w4).bind ?_)
      rintro _ rfl
      refine Evs.then_ (by simp) ((l1Dec_ev w5).bind ?_)
      rintro _ rfl
      refine Evs.then_ (by simp) ((l1Dec_ev w6).bind ?_)
      rintro _ rfl
      simp only [spec_l1Names.f, Option.bind_some]
      refine readLoop_ev t w0 _ (by simp) rfl _ _ _ _ _ _ ht ?_ 4 1 0 (by omega) (by omega) (fun j j1 j2 => by omega)
      intro key kind a b c d e o g
      have hh := hT _ _ _ _ _ _ _ o g
      simp only [List.cons.injEq, and_true] at hh
      obtain ⟨rfl, rfl, rfl, rfl, rfl, rfl, rfl⟩ := hh
      obtain ⟨_, hn⟩ := nums o
      exact ⟨rfl, decV_dec (hn _ (by simp)), decV_dec (hn _ (by simp)), decV_dec (hn _ (by simp)), decV_dec (hn _ (by simp)), decV_dec (hn _ (by simp)), decV_dec (hn _ (by simp))⟩
  · refine Evs.else_ (by omega) (Evs.now (.inr ⟨fun key kind a b c d e o g => h7 ?_, rfl⟩))
    subst g
    rw [cut_text o]
    rfl
end Go.Proofs.YtbipicjijbnbbaaDoor.Rw
