/- A word's text tells the word; what the laws' own look at two words comes to. Plain lists of bytes. -/
import Derived.Test.YtgekmdfcbcacdaaDoorMt
import Derived.Test.YtgekmdfcbcacdaaDoorSi
import Derived.Test.YtgekmdfcbcacdaaDoorHx37
import Derived.Test.YtgekmdfcbcacdaaDoorHx36
set_option linter.unusedVariables false
set_option linter.unusedSimpArgs false
namespace Go.Proofs.YtgekmdfcbcacdaaDoor.Mi
open Go.RowKit Go.Proofs.YtgekmdfcbcacdaaDoor.Hp Go.Proofs.YtgekmdfcbcacdaaDoorW.PrintWords Go.Proofs.YtgekmdfcbcacdaaDoor.Dr Go.Proofs.YtgekmdfcbcacdaaDoor.Dc Go.Proofs.YtgekmdfcbcacdaaDoor.St Go.Proofs.YtgekmdfcbcacdaaDoor.Mt Go.Proofs.YtgekmdfcbcacdaaDoor.Si

def okS (s : S) : Prop := Sl.ok s.f0 s.f1 s.f2 s.f3 s.f4 s.f5 s.f6 = true
def sText (s : S) : List UInt8 := bs (sealText s.f0 s.f1 s.f2 s.f3 s.f4 s.f5 s.f6)
def lbs (l : List S) : List UInt8 := (l.map fun s => sText s ++ [10]).flatten
theorem bs_lines : ∀ (l : List S) (acc : ByteArray), (∀ s ∈ l, okS s) → bs (lines l acc) = bs acc ++ lbs l
  | [], acc, _ => by simp [lines, lbs]
  | s :: l, acc, h => by
    have h1 : okS s := h s List.mem_cons_self
    have h2 := bs_lines l (acc ++ line s) (fun t ht => h t (List.mem_cons_of_mem _ ht))
    have h3 : bs (line s) = sText s ++ [10] := by
      unfold line sText txt
      rw [if_pos (show Sl.ok s.f0 s.f1 s.f2 s.f3 s.f4 s.f5 s.f6 = true from h1), bs_append]
      rfl
    show bs (lines l (acc ++ line s)) = _
    rw [h2, bs_append, h3]
    simp [lbs]
theorem no_nl {s : S} (h : okS s) : (10 : UInt8) ∉ sText s := by
  obtain ⟨hk, hn⟩ := nums h
  unfold sText
  rw [bs_text]
  have hw := (word_no hk).2
  have n0 := (no_dec (hn s.f0 (by simp))).2
  have n1 := (no_dec (hn s.f2 (by simp))).2
  have n2 := (no_dec (hn s.f3 (by simp))).2
  have n3 := (no_dec (hn s.f4 (by simp))).2
  have n4 := (no_dec (hn s.f5 (by simp))).2
  have n5 := (no_dec (hn s.f6 (by simp))).2
  simp only [List.mem_append, List.mem_cons, not_or]
  exact ⟨hw, by decide, n0, by decide, n1, by decide, n2, by decide, n3, by decide, n4, by decide, n5⟩
theorem lbs_inj : ∀ (l m : List S), (∀ s ∈ l, okS s) → (∀ s ∈ m, okS s) → lbs l = lbs m → l = m
  | [], [], _, _, _ => rfl
  | [], t :: m, _, _, h => by
    have := congrArg List.length h
    simp [lbs] at this
  | s :: l, [], _, _, h => by
    have := congrArg List.length h
    simp [lbs] at this
  | s :: l, t :: m, hl, hm, h => by
    have h1 : okS s := hl s List.mem_cons_self
    have h2 : okS t := hm t List.mem_cons_self
    have e : sText s ++ 10 :: lbs l = sText t ++ 10 :: lbs m := by simpa [lbs] using h
    obtain ⟨q, r⟩ := split_at (no_nl h1) (no_nl h2) e
    have hs : s = t := by
      obtain ⟨e0, e1, e2, e3, e4, e5, e6⟩ := text_inj h1 h2 (bs_inj q)
      cases s; cases t
      simp only at e0 e1 e2 e3 e4 e5 e6
      subst e0 e1 e2 e3 e4 e5 e6
      rfl
    rw [hs, lbs_inj l m (fun x hx => hl x (List.mem_cons_of_mem _ hx)) (fun x hx => hm x (List.mem_cons_of_mem _ hx)) r]
theorem bs_head (kind client serv nonce : Int) : bs (numsText [kind, client, serv, nonce]) = bs (decOf kind) ++ 32 :: (bs (decOf client) ++ 32 :: (bs (decOf serv) ++ 32 :: bs (decOf nonce))) := by
  simp only [bs_nums, List.map_cons, List.map_nil, Lib.join_cons, Lib.joinTail, List.flatten_cons, List.flatten_nil, List.append_assoc, List.append_nil, List.cons_append, List.nil_append]
theorem msg_inj {kind client serv nonce kind' client' serv' nonce' : Int} {l l' : List S} (h : Ms.msgOk kind client serv nonce l = true) (g : Ms.msgOk kind' client' serv' nonce' l' = true) (q : msgTxt kind client serv nonce l = msgTxt kind' client' serv' nonce' l') :
    kind = kind' ∧ client = client' ∧ serv = serv' ∧ nonce = nonce' ∧ l = l' := by
  obtain ⟨hn, _, hs⟩ := ok_nums h
  obtain ⟨gn, _, gs⟩ := ok_nums g
  have q0 := congrArg bs q
  unfold msgTxt at q0
  rw [if_pos h, if_pos g, bs_lines _ _ hs, bs_lines _ _ gs, bs_append, bs_append, bs_nl, List.append_assoc, List.append_assoc, List.cons_append, List.cons_append, List.nil_append, List.nil_append] at q0
  have nh : ∀ {k c s n : Int}, (∀ x ∈ [k, c, s, n], 0 ≤ x ∧ x ≤ 100) → (10 : UInt8) ∉ bs (numsText [k, c, s, n]) := by
    intro k c s n hx
    rw [bs_head]
    simp only [List.mem_append, List.mem_cons, not_or]
    exact ⟨(no_dec (hx k (by simp))).2, by decide, (no_dec (hx c (by simp))).2, by decide, (no_dec (hx s (by simp))).2, by decide, (no_dec (hx n (by simp))).2⟩
  obtain ⟨q1, q2⟩ := split_at (nh hn) (nh gn) q0
  rw [bs_head, bs_head] at q1
  obtain ⟨e0, q1⟩ := split_at (no_dec (hn kind (by simp))).1 (no_dec (gn kind' (by simp))).1 q1
  obtain ⟨e1, q1⟩ := split_at (no_dec (hn client (by simp))).1 (no_dec (gn client' (by simp))).1 q1
  obtain ⟨e2, e3⟩ := split_at (no_dec (hn serv (by simp))).1 (no_dec (gn serv' (by simp))).1 q1
  exact ⟨dec_inj (hn kind (by simp)) (gn kind' (by simp)) e0, dec_inj (hn client (by simp)) (gn client' (by simp)) e1, dec_inj (hn serv (by simp)) (gn serv' (by simp)) e2, dec_inj (hn nonce (by simp)) (gn nonce' (by simp)) e3, lbs_inj l l' hs gs q2⟩
theorem cmp_loop (a b : List S) (hl : a.length ≤ 9223372036854775807) (he : a.length = b.length) : ∀ (d i : Nat), i + d = a.length → Evs (fun k => laws_lbSeals.l0 k a b (i : Int)) (fun r => r = true ↔ a.drop i = b.drop i) := by
  intro d
  induction d with
  | zero =>
    intro i hi
    refine Evs.step (fun k => by simp only [laws_lbSeals.l0]; rfl) (Evs.else_ (by omega) (Evs.now ?_))
    rw [List.drop_of_length_le (by omega), List.drop_of_length_le (by omega)]
    simp
  | succ d ih =>
    intro i hi
    have h1 : i < a.length := by omega
    have h2 : i < b.length := by omega
    refine Evs.step (fun k => by simp only [laws_lbSeals.l0]; rfl) (Evs.then_ (by omega) (Evs.then_ (by omega) (Evs.then_ (by omega) ?_)))
    rw [Ms.rdS a i h1, Ms.rdS b i h2, Ms.nextN h1 hl, List.drop_eq_getElem_cons h1, List.drop_eq_getElem_cons h2]
    generalize a[i] = x
    generalize b[i] = y
    have hx : (x = y) ↔ (x.f0 = y.f0 ∧ x.f1 = y.f1 ∧ x.f2 = y.f2 ∧ x.f3 = y.f3 ∧ x.f4 = y.f4 ∧ x.f5 = y.f5 ∧ x.f6 = y.f6) := by
      cases x; cases y
      simp
    refine Evs.ite (fun h => Evs.now ?_) (fun h => (ih (i + 1) (by omega)).imp fun r hr => ?_)
    · have hne : ¬ x = y := by
        rw [hx]
        simp only [Bool.or_eq_true, Bool.not_eq_true', beq_eq_false_iff_ne, ne_eq] at h
        omega
      simp [hne]
    · have heq : x = y := by
        rw [hx]
        simp only [Bool.or_eq_true, Bool.not_eq_true', beq_eq_false_iff_ne, ne_eq] at h
        omega
      rw [hr, heq]
      simp
theorem cmp_seals (a b : List S) (hl : a.length ≤ 9223372036854775807) : Evs (fun k => laws_lbSeals.f k a b) (fun r => r = true ↔ a = b) := by
  unfold laws_lbSeals.f
  by_cases he : a.length = b.length
  · refine Evs.then_ (by omega) ((cmp_loop a b hl he a.length 0 (by omega)).imp fun r hr => ?_)
    rw [List.drop_zero, List.drop_zero] at hr
    exact hr
  · refine Evs.else_ (by omega) (Evs.now ?_)
    exact ⟨fun q => (by cases q), fun q => absurd (congrArg List.length q) he⟩
theorem cmp_msg (k0 c0 s0 n0 k1 c1 s1 n1 : Int) (l l' : List S) (hl : l.length ≤ 9223372036854775807) : Evs (fun k => laws_lbMsg.f k k0 c0 s0 n0 l k1 c1 s1 n1 l') (fun r => r = true ↔ (k0 = k1 ∧ c0 = c1 ∧ s0 = s1 ∧ n0 = n1 ∧ l = l')) := by
  unfold laws_lbMsg.f
  refine Evs.ite (fun h0 => Evs.ite (fun h1 => Evs.ite (fun h2 => Evs.ite (fun h3 => ?_) (fun h3 => Evs.now ?_)) (fun h2 => Evs.now ?_)) (fun h1 => Evs.now ?_)) (fun h0 => Evs.now ?_)
  · refine (cmp_seals l l' hl).bind ?_
    intro t ht
    refine Evs.now ?_
    simp [h0, h1, h2, h3, ht]
  · simp [h3]
  · simp [h2]
  · simp [h1]
  · simp [h0]
end Go.Proofs.YtgekmdfcbcacdaaDoor.Mi
