-- hp.py
import Derived.Test.YtbipicjijbnbbaaDoorHx0
import Derived.Test.YtbipicjijbnbbaaDoorHx8
import Derived.Test.YtbipicjijbnbbaaDoorHx9
import Derived.Test.YtbipicjijbnbbaaDoorHx12
import Derived.Test.YtbipicjijbnbbaaDoorSr
import Derived.Deep.RegionHeld3
namespace Go.Proofs.YtbipicjijbnbbaaDoor.Hp
open Go.RowKit Go.Proofs.YtbipicjijbnbbaaDoorW.PrintWords Go.Proofs.YtbipicjijbnbbaaDoorW.PrintLast Go.Proofs.YtbipicjijbnbbaaDoorW.PrintMore
attribute [local go_sem] max2_int min2_int max_two min_two max_three min_three max_four min_four   -- for this text's walks alone
set_option linter.unusedVariables false
set_option linter.unusedSimpArgs false
-- squeezed by wip/tools/squeeze.py

/-! ### impl_SealRead: function 10 -/
-- IMPORT Derived.Test.YtbipicjijbnbbaaDoorSr
-- IMPORT Derived.Deep.RegionHeld3
/-- What the library's own variables hold: the table of tens; some length; the two errors. -/
structure Door (w : World) : Prop where
  tens : Tens w
  len : ∃ m, w.cell? ⟨0, 0, none⟩ = some (.int .i64 m)
  syn : ∃ te pe, w.cell? ⟨1, 0, none⟩ = some (.iface te pe)
  rng : ∃ te pe, w.cell? ⟨2, 0, none⟩ = some (.iface te pe)
theorem cellOn {w w' : World} {a : Addr} {v : Value} (h : w.cell? a = some v) (hb : Below w.heap.size w w') : w'.cell? a = some v := (hb.cell (World.block_lt_of_cell? w _ h)).trans h
theorem Door.on {w w' : World} (h : Door w) (hb : Below w.heap.size w w') : Door w' := by
  obtain ⟨h1, ⟨m, h2⟩, ⟨te, pe, h3⟩, ⟨tr, pr, h4⟩⟩ := h
  exact ⟨h1.on hb, ⟨m, cellOn h2 hb⟩, ⟨te, pe, cellOn h3 hb⟩, ⟨tr, pr, cellOn h4 hb⟩⟩
/-- The words of a text. -/
def wordsOf (s : ByteArray) : List ByteArray := Lib.splitB ⟨#[32]⟩ 0 (Lib.countB s ⟨#[32]⟩) s
/-- The number of a word, if it is one. -/
def numOf (w : ByteArray) : Option Int := match Lib.atoiAll w.data.toList with | .ok v => some v | _ => none
/-- The numbers of words, if all are. -/
def numsOf : List ByteArray → Option (List Int)
  | [] => some []
  | w :: r => (numOf w).bind fun x => (numsOf r).bind fun l => some (x :: l)
theorem words_len (s : ByteArray) : (wordsOf s).length = Lib.countB s ⟨#[32]⟩ + 1 := Lib.splitB_all _ (by decide) 0 _ s rfl
/-- strconv.Atoi at a text that is no longer than the model's bound: the number and no error, or an error. -/
theorem atoiCalls (s : ByteArray) (hs : s.size ≤ 281474976710656) (w : World) (hd : Door w) :
    Calls Tryd.prog 42 #[.string s] w fun e w' => Below w.heap.size w w' ∧ ((∃ v, numOf s = some v ∧ e = .returned (.tuple #[.int .i64 v, .nilIface])) ∨ (numOf s = none ∧ ∃ v te N, e = .returned (.tuple #[.int .i64 v, .iface te (.pointer (some ⟨N, 0, none⟩))]))) := by
  unfold numOf
  cases hc : Lib.atoiAll s.data.toList
  case ok v =>
    refine (Tryd.strconv_Atoi_ok s (by omega) v hc w).mono ?_
    rintro e w' ⟨rfl, hw⟩
    refine ⟨?_, .inl ⟨v, rfl, rfl⟩⟩
    rcases hw with rfl | ⟨t, rfl⟩
    · exact Below.refl _ _
    · exact Lib.bytesWorld_below _ _ _
  case range =>
    obtain ⟨te, pe, hv⟩ := hd.rng
    refine (Tryd.strconv_Atoi_range s hs hc _ w hv (.inr ⟨te, pe, rfl⟩)).mono ?_
    rintro e w' ⟨N, rfl, _, _, hb⟩
    exact ⟨hb, .inr ⟨rfl, _, _, N, rfl⟩⟩
  obtain ⟨te, pe, hv⟩ := hd.syn
  refine (Any.strconv_Atoi_syntax Tryd.laysC172 s hs hc _ w hv (.inr ⟨te, pe, rfl⟩)).mono ?_
  rintro e w' ⟨N, rfl, _, _, hb⟩
  exact ⟨hb, .inr ⟨rfl, _, _, N, rfl⟩⟩
theorem intsMade (w : World) (c : Nat) (hc : c ≤ maxLen) (ok : Nat → Prop) (hok : ok w.heap.size) : Kd.R (Kd.int .i64) 3 (w.alloc (.cells (Array.replicate c (.int .i64 0)) 3)) w.heap.size ok (.slice (some ⟨w.heap.size, 0, none⟩) 0 c) [] := by
  refine ⟨fun k hk => ?_, [], ⟨rfl, .inr ⟨w.heap.size, c, _, rfl, Nat.le_refl _, by simpa using heap_alloc_new w _, Nat.zero_le _, hc, ?_, ?_⟩⟩, Reps.none _ _⟩
  · have : w.heap.size = k := by simpa [Value.ownBlock] using hk
    exact this ▸ hok
  · show _ = c * 1; simp
  · simp
theorem numsOf_snoc : ∀ (l : List ByteArray) (w : ByteArray), numsOf (l ++ [w]) = (numsOf l).bind fun xs => (numOf w).bind fun x => some (xs ++ [x])
  | [], w => by cases h : numOf w <;> simp [numsOf, h]
  | a :: l, w => by
    rw [List.cons_append]
    simp only [numsOf]
    rw [numsOf_snoc l w]
    cases numOf a <;> cases numsOf l <;> cases numOf w <;> simp
theorem numsOf_len : ∀ (l : List ByteArray) (xs : List Int), numsOf l = some xs → xs.length = l.length
  | [], xs, h => by simp [numsOf] at h; subst h; rfl
  | a :: l, xs, h => by
    simp only [numsOf] at h
    obtain ⟨x, _, h⟩ := Option.bind_eq_some_iff.1 h
    obtain ⟨ys, hy, h⟩ := Option.bind_eq_some_iff.1 h
    obtain rfl := Option.some.inj h
    rw [List.length_cons, List.length_cons, numsOf_len l ys hy]
theorem numsOf_none : ∀ (l : List ByteArray) (i : Nat) (h : i < l.length), numOf l[i] = none → numsOf l = none
  | a :: l, 0, _, h => by simp only [numsOf]; rw [show numOf a = none from h]; rfl
  | a :: l, i + 1, hi, h => by
    simp only [numsOf]
    rw [numsOf_none l i (by simpa using hi) (by simpa using h)]
    cases numOf a <;> rfl
theorem numsOf_take (l : List ByteArray) (i : Nat) (h : i < l.length) (xs : List Int) (hx : numsOf (l.take i) = some xs) : numsOf (l.take (i + 1)) = (numOf l[i]).bind fun x => some (xs ++ [x]) := by
  rw [List.take_add_one, List.getElem?_eq_getElem h, Option.toList_some, numsOf_snoc, hx]
  rfl
/-- Just six numbers of words, or none. -/
def readF (l : List ByteArray) : Option (List Int) := if l.length = 6 then numsOf l else none
set_option maxHeartbeats 16000000 in
set_option maxRecDepth 100000 in
theorem readNumbers.calls (A0 : Option Addr) (c0 : Nat) (l : List ByteArray) (w : World) (hr : Kd.C Kd.string w A0 l.length l) (hz : ∀ x ∈ l, x.size ≤ 1048576) (hl : l.length ≤ 1048577) (hd : Door w) :
    Calls Tryd.prog 23 #[.slice A0 l.length c0, .int .i64 6] w fun e w' => Below w.heap.size w w' ∧ ((∃ v, readF l = none ∧ e = .returned (.tuple #[v, .bool false])) ∨ (∃ v xs, readF l = some xs ∧ e = .returned (.tuple #[v, .bool true]) ∧ Kd.R (Kd.int .i64) 3 w' w.heap.size (fun _ => True) v xs)) := by
  have HR := Aside0.mk hr
  have HZ := Aside0.mk hz
  have HD := Aside0.mk hd
  have HL := Aside0.mk hl
  clear hr hz hd
  by_cases h6 : l.length = 6
  · have d1 : ((l.length : Int) == 6) = true := beq_iff_eq.2 (by omega)
    have d2 : decide ((l.length : Int) = 6) = true := decide_eq_true (by omega)
    have d3 : (l.length : Int) = 6 := by omega
    have hF : readF l = numsOf l := if_pos h6
    have HF := Aside0.mk hF
    have hmk : ∀ w : World, (Instr.makeSlice 44 (.int .i64 0) (.int .i64 6)).run Tryd.prog w = .ok (.slice (some ⟨w.heap.size, 0, none⟩) 0 6) (w.alloc (.cells (Array.replicate 6 (.int .i64 0)) 3)) := fun _ => by kernel_rfl
    have HB := Aside0.mk (Below.refl w.heap.size w)
    have HM := Aside0.mk (intsMade w 6 (by decide) (fun _ => True) trivial)
    have H6 := Aside0.mk h6
    clear hF h6
    go_enter Tryd.func23, Tryd.ntmps23
    go_wp2_with fail
    go_loopg [6, 19] 7 (fun kq v6 v19 w' => ∃ (x : Int) (xs : List Int), v19 = .int .i64 x ∧ Aside0 (0 ≤ x ∧ x + kq = 7) ∧ Aside0 (numsOf (l.take x.toNat) = some xs ∧ xs.length ≤ 6) ∧ Aside0 (Kd.R (Kd.int .i64) 3 w' w.heap.size (fun _ => True) v6 xs) ∧ Aside0 (Below w.heap.size w w'))
    case atStart => exact ⟨0, [], by first | rfl | (simp; done) | (simp [*]; done), ⟨by omega⟩, ⟨rfl, by simp⟩, HM, ⟨below_alloc HB.out _⟩⟩
    case round =>
      clear HB HM
      obtain ⟨x, xs, rfl, HX, HN, HO, HB⟩ := hrel
      by_cases hlt : x < 6
      · have d4 : decide (x < 6) = true := decide_eq_true hlt
        have p0 : 0 ≤ x := HX.out.1
        have p1 : x < (l.length : Int) := by omega
        have hin : x.toNat < l.length := by omega
        obtain ⟨ad, e0, hx⟩ := Kd.at_string HR.out x p0 p1
        cases e0
        have hrd : rdOf ByteArray.empty l x = l[x.toNat] := by simp [rdOf, hin]
        rw [hrd] at hx
        have hx := cellOn hx HB.out
        have HS := Aside0.mk (HZ.out _ (List.getElem_mem hin))
        have HT := Aside0.mk (numsOf_take l x.toNat hin xs HN.out.1)
        have HE := Aside0.mk (numsOf_none l x.toNat hin)
        generalize l[x.toNat] = y at *
        obtain ⟨Ao, co, eo⟩ := Kd.R_slice HO.out
        subst eo
        go_wp2_with (first | (go_at_call 42; refine (atoiCalls y (Nat.le_trans HS.out (by decide)) _ (HD.out.on HB.out)).mono ?_; rintro e w1 ⟨hb1, hcs⟩; refine Classical.byContradiction (fun HX_ => ?_)))
        have HO1 := Aside0.mk (Kd.R_below HO.out hb1)
        have HB1 := Aside0.mk (below_step HB.out hb1)
        clear HO HB hb1
        rcases hcs with ⟨v, hv, rfl⟩ | ⟨hv, v, te, M, rfl⟩
        · have HT' := Aside0.mk (show numsOf (l.take (x + 1).toNat) = some (xs ++ [v]) by rw [show (x + 1).toNat = x.toNat + 1 from by omega, HT.out, hv]; rfl)
          have HQ := Aside0.mk (show xs.length ≤ 5 by have h1 := numsOf_len _ _ HN.out.1; rw [h1]; exact Nat.le_trans (List.length_take_le _ _) (by omega))
          have hw1 : x + 1 ≤ 9223372036854775807 := by omega
          clear HT HE HN hx hv
          refine HX_ ?_
          clear HX_
          go_wp2_with (first | ((with_reducible refine gate_builtin (b := .append) (xs := #[.tmp 30, .tmp 32]) rfl ?_); at_builtin; refine Kd.R_append (Kd.int .i64) (w0 := w) w.heap.size rfl (.tmp 30) (.tmp 32) 44 3 (.int .i64 0) 8 rfl Tryd.underlying44 info3 rfl (by decide) (by omega) _ xs v [.int .i64 v] (fun _ => True) (fun _ => False) rfl rfl ?aP (fun _ hk => hk.elim) ?aF ?aO ?aB ?aS ?aL ?_; (case aP => exact rfl); (case aB => exact (by repeat (first | (with_reducible first | exact HB1.out | apply below_alloc | apply pw_below_drewN | apply below_drew1) | exact HB1.out))); (case aF => exact (fun _ _ => trivial)); (case aO => exact (by (with_reducible repeat (first | apply Kd.R_alloc | apply Kd.R_drewN | apply Kd.R_drew)); exact HO1.out)); (case aS => exact (below_size (by repeat (first | (with_reducible first | exact HB1.out | apply below_alloc | apply pw_below_drewN | apply below_drew1) | exact HB1.out)))); (case aL => have := HQ.out; omega); intro v9 w13 ho hb hg hat; have n1_ := Aside0.mk hb; have n2_ := Aside0.mk ho; clear HO1 HB1; have HB := n1_; have HO := n2_; clear n1_ n2_ ho hb hg hat))
          go_roundg (gk - 1)
          case measure => have := HX.out.2; omega
          case rel => exact ⟨x + 1, xs ++ [v], by first | rfl | (simp; done) | (simp [*]; done), ⟨by have := HX.out; omega⟩, ⟨HT'.out, by have := HQ.out; simp; omega⟩, HO, HB⟩
        · have HF' := Aside0.mk (show readF l = none by rw [HF.out]; exact HE.out hv)
          clear HT HE HN hx hv HF
          refine HX_ ?_
          clear HX_
          go_wp2_with fail
          go_ret2
          exact ⟨HB1.out, .inl ⟨_, HF'.out, rfl⟩⟩
      · have d4 : decide (x < 6) = false := decide_eq_false hlt
        have HF' := Aside0.mk (show readF l = some xs by
          rw [HF.out]
          have e : l.take x.toNat = l := List.take_of_length_le (by omega)
          have h := HN.out.1
          rwa [e] at h)
        go_wp2_with fail
        go_ret2
        exact ⟨HB.out, .inr ⟨_, _, HF'.out, rfl, HO.out⟩⟩
  · have d1 : ((l.length : Int) == 6) = false := beq_eq_false_iff_ne.2 (by omega)
    have d2 : decide ((l.length : Int) = 6) = false := decide_eq_false (by omega)
    have d3 : ¬ (l.length : Int) = 6 := by omega
    have hF : readF l = none := if_neg h6
    have HB := Aside0.mk (Below.refl w.heap.size w)
    have HF := Aside0.mk hF
    clear hF
    go_enter Tryd.func23, Tryd.ntmps23
    go_wp2_with fail
    go_ret2
    exact ⟨HB.out, .inl ⟨_, HF.out, rfl⟩⟩
theorem split_size (sep : ByteArray) : ∀ (k : Nat) (s : ByteArray), ∀ x ∈ Lib.splitB sep 0 k s, x.size ≤ s.size
  | 0, s, x, h => by
    rw [Lib.splitB_zero] at h
    rw [List.mem_singleton.1 h]
    exact Nat.le_refl _
  | k + 1, s, x, h => by
    unfold Lib.splitB at h
    split at h
    · rw [List.mem_singleton.1 h]
      exact Nat.le_refl _
    · rcases List.mem_cons.1 h with h | h
      · rw [h, ByteArray.size_extract]
        omega
      · have := split_size sep k _ x h
        rw [ByteArray.size_extract] at this
        omega
theorem words_size (s : ByteArray) : (∀ x ∈ wordsOf s, x.size ≤ s.size) ∧ (wordsOf s).length ≤ s.size + 1 := by
  refine ⟨split_size _ _ s, ?_⟩
  have := Lib.countB_le ⟨#[32]⟩ (by decide) s.size s (Nat.le_refl _)
  rw [words_len]
  omega
theorem strsC (w : World) (W : ByteArray) (l : List ByteArray) (hl : l.length ≤ 1048577) : Kd.C Kd.string (w.alloc (.cells ((W :: l).map Value.string).toArray 9)) (some ⟨w.heap.size, 1, none⟩) l.length l := by
  refine Kd.C_of_reads (d := ByteArray.empty) (h1 := fun _ => rfl) ⟨rfl, by show _ ≤ 9223372036854775807; omega, fun _ => ⟨_, rfl, fun j hj => ?_⟩⟩
  have h := blk_cell (blk_new w (.cells ((W :: l).map Value.string).toArray 9)) (1 + j)
  have e : (⟨w.heap.size, 1, none⟩ : Addr).add j = ⟨w.heap.size, 1 + j, none⟩ := by cases j <;> simp [Addr.add]
  rw [e, h]
  simp [List.getElem?_cons, List.getD_eq_getElem?_getD, hj, Nat.add_comm 1 j]
theorem splitCalls (s : ByteArray) (hs : s.size ≤ 1048576) (w : World) (hd : Door w) (W : ByteArray) (l : List ByteArray) (hw : wordsOf s = W :: l) :
    Calls Tryd.prog 22 #[.string s, .string ⟨#[32]⟩] w fun e w' => ∃ g, e = .returned (.slice (some ⟨g, 0, none⟩) (l.length + 1) (l.length + 1)) ∧ Below w.heap.size w w' ∧ w.heap.size ≤ g ∧ w'.cell? ⟨g, 0, none⟩ = some (.string W) ∧ ∀ A, (l = [] ∨ A = some ⟨g, 1, none⟩) → Kd.C Kd.string w' A l.length l := by
  obtain ⟨m, hm⟩ := hd.len
  have hc : Lib.countB s ⟨#[32]⟩ = l.length := by
    have := words_len s
    rw [hw, List.length_cons] at this
    omega
  have hl : l.length ≤ 1048577 := by
    have := (words_size s).2
    rw [hw, List.length_cons] at this
    omega
  refine (Tryd.strings_Split s ⟨#[32]⟩ m w (by omega) hm (by decide)).mono ?_
  rintro e w' ⟨rfl, rfl⟩
  have hw' : Lib.splitB ⟨#[32]⟩ 0 (Lib.countB s ⟨#[32]⟩) s = W :: l := hw
  rw [hw', hc]
  refine ⟨_, rfl, below_alloc (Below.refl _ _) _, Nat.le_refl _, (blk_cell (blk_new w _) 0).trans (by simp), ?_⟩
  intro A hA
  by_cases hn : l = []
  · subst hn
    exact Kd.C_of_reads (d := ByteArray.empty) (h1 := fun _ => rfl) ⟨rfl, by decide, fun h => absurd h (by decide)⟩
  · obtain rfl := hA.resolve_left hn
    exact strsC w W l hl
/-- The word of a kind. -/
def nameK (x : Int) : ByteArray := if x = 1 then ⟨#[116, 105, 99, 107, 101, 116]⟩ else if x = 2 then ⟨#[112, 97, 114, 116]⟩ else if x = 3 then ⟨#[97, 117, 116, 104]⟩ else if x = 4 then ⟨#[98, 97, 99, 107]⟩ else ⟨#[]⟩
/-- Whether the words are of that kind. -/
def hitK (text W : ByteArray) (n0 n1 n2 n3 n4 n5 x : Int) : Bool := if (nameK x).toList = W.toList then (if sealOk n0 x n1 n2 n3 n4 n5 = true then decide ((sealText n0 x n1 n2 n3 n4 n5).toList = text.toList) else false) else false
def impl_SealRead.f (a0 : ByteArray) : Option (Int × Int × Int × Int × Int × Int × Int × Bool) :=
  if a0.size ≤ 1048576 then some (match wordsOf a0 with
    | [] => (0, 0, 0, 0, 0, 0, 0, false)
    | W :: l => match readF l with
      | some [n0, n1, n2, n3, n4, n5] => match ([0, 1, 2, 3, 4] : List Int).find? (hitK a0 W n0 n1 n2 n3 n4 n5) with
        | some x => (n0, x, n1, n2, n3, n4, n5, true)
        | none => (0, 0, 0, 0, 0, 0, 0, false)
      | _ => (0, 0, 0, 0, 0, 0, 0, false)) else none
theorem readF_six {l : List ByteArray} {xs : List Int} (h : readF l = some xs) : ∃ n0 n1 n2 n3 n4 n5, xs = [n0, n1, n2, n3, n4, n5] := by
  unfold readF at h
  split at h
  · rename_i h6
    have h := numsOf_len l xs h
    rw [h6] at h
    match xs, h with
    | [n0, n1, n2, n3, n4, n5], _ => exact ⟨n0, n1, n2, n3, n4, n5, rfl⟩
  · cases h
/-- How the loop over the kinds goes on from a kind. -/
theorem find_from (p : Int → Bool) : ∀ x : Int, 0 ≤ x → x < 5 → (∀ j : Int, 0 ≤ j → j < x → p j = false) → p x = true → ([0, 1, 2, 3, 4] : List Int).find? p = some x := by
  intro x h0 h5 hn hx
  have hc : x = 0 ∨ x = 1 ∨ x = 2 ∨ x = 3 ∨ x = 4 := by omega
  rcases hc with rfl | rfl | rfl | rfl | rfl
  · simp [List.find?_cons, hx]
  · simp [List.find?_cons, hx, hn 0 (by omega) (by omega)]
  · simp [List.find?_cons, hx, hn 0 (by omega) (by omega), hn 1 (by omega) (by omega)]
  · simp [List.find?_cons, hx, hn 0 (by omega) (by omega), hn 1 (by omega) (by omega), hn 2 (by omega) (by omega)]
  · simp [List.find?_cons, hx, hn 0 (by omega) (by omega), hn 1 (by omega) (by omega), hn 2 (by omega) (by omega), hn 3 (by omega) (by omega)]
theorem find_no (p : Int → Bool) (h : ∀ j : Int, 0 ≤ j → j < 5 → p j = false) : ([0, 1, 2, 3, 4] : List Int).find? p = none := by
  simp [List.find?_cons, h 0 (by omega) (by omega), h 1 (by omega) (by omega), h 2 (by omega) (by omega), h 3 (by omega) (by omega), h 4 (by omega) (by omega)]
theorem sealPut {w : World} {g : Nat} {T : TypeId} {a0 a1 a2 a3 a4 a5 a6 : Value} (h : w.heap[g]? = some (.cells #[a0, a1, a2, a3, a4, a5, a6] T (0, 0))) (b0 b1 b2 b3 b4 b5 b6 : Value) :
    (((((((w.setCell ⟨g, 0, none⟩ b0).setCell ⟨g, 1, none⟩ b1).setCell ⟨g, 2, none⟩ b2).setCell ⟨g, 3, none⟩ b3).setCell ⟨g, 4, none⟩ b4).setCell ⟨g, 5, none⟩ b5).setCell ⟨g, 6, none⟩ b6).heap[g]? = some (.cells #[b0, b1, b2, b3, b4, b5, b6] T (0, 0)) :=
  blk_put (cs := #[b0, b1, b2, b3, b4, b5, a6]) (blk_put (cs := #[b0, b1, b2, b3, b4, a5, a6]) (blk_put (cs := #[b0, b1, b2, b3, a4, a5, a6]) (blk_put (cs := #[b0, b1, b2, a3, a4, a5, a6]) (blk_put (cs := #[b0, b1, a2, a3, a4, a5, a6]) (blk_put (cs := #[b0, a1, a2, a3, a4, a5, a6]) (blk_put h 0 b0 rfl) 1 b1 rfl) 2 b2 rfl) 3 b3 rfl) 4 b4 rfl) 5 b5 rfl) 6 b6 rfl
theorem sealPutB {w0 w : World} {g : Nat} (h : Below w0.heap.size w0 w) (hg : w0.heap.size ≤ g) (b0 b1 b2 b3 b4 b5 b6 : Value) :
    Below w0.heap.size w0 (((((((w.setCell ⟨g, 0, none⟩ b0).setCell ⟨g, 1, none⟩ b1).setCell ⟨g, 2, none⟩ b2).setCell ⟨g, 3, none⟩ b3).setCell ⟨g, 4, none⟩ b4).setCell ⟨g, 5, none⟩ b5).setCell ⟨g, 6, none⟩ b6) :=
  below_set (below_set (below_set (below_set (below_set (below_set (below_set h hg) hg) hg) hg) hg) hg) hg
set_option maxHeartbeats 16000000 in
set_option maxRecDepth 100000 in
theorem impl_SealRead.calls (a0 : ByteArray) (r1 r2 r3 r4 r5 r6 r7 : Int) (r8 : Bool) (w : World) (h : impl_SealRead.f a0 = some (r1, r2, r3, r4, r5, r6, r7, r8)) (ht : Door w) :
    Calls Tryd.prog 10 #[.string a0] w fun e w' => e = .returned (.tuple #[.agg #[.int .i64 r1, .int .i64 r2, .int .i64 r3, .int .i64 r4, .int .i64 r5, .int .i64 r6, .int .i64 r7], .bool r8]) ∧ Below w.heap.size w w' := by
  unfold impl_SealRead.f at h
  split at h
  case isFalse => cases h
  rename_i hz
  have h := Option.some.inj h
  obtain ⟨W, l, hw⟩ : ∃ W l, wordsOf a0 = W :: l := by
    cases hw : wordsOf a0 with
    | nil => have := words_len a0; rw [hw] at this; simp at this
    | cons W l => exact ⟨W, l, rfl⟩
  rw [hw] at h
  have HZ := Aside0.mk hz
  have HT := Aside0.mk ht
  have HW := Aside0.mk hw
  have HWS := Aside0.mk (words_size a0)
  rw [hw] at HWS
  have HB := Aside0.mk (Below.refl w.heap.size w)
  have hu24 := Tryd.underlying24
  clear ht hz hw
  dsimp only at h
  have H := Aside0.mk h
  clear h
  go_enter Tryd.func10, Tryd.ntmps10
  go_wp2_with (first | ((with_reducible refine gate_dst (N := 2) rfl ?_); refine box_event ?hg (N := 2) ?hd (cs := #[.int .i64 0, .int .i64 0, .int .i64 0, .int .i64 0, .int .i64 0, .int .i64 0, .int .i64 0]) (t := 24) ?hr ?_; (case hd => rfl); (case hg => rfl); (case hr => first | (go_simp; done) | (go_simp; rfl)); intro gb hg w3 hbox hb; have n0_ := Aside0.mk (below_step (by repeat (first | (with_reducible first | exact HB.out | apply below_alloc | apply pw_below_drewN | apply below_drew1) | exact HB.out)) hb); have BK := Aside0.mk (hbox); have GE := Aside0.mk (show w.heap.size ≤ gb from by rw [hg]; exact (below_size (by repeat (first | (with_reducible first | exact HB.out | apply below_alloc | apply pw_below_drewN | apply below_drew1) | exact HB.out)))); clear HB; have HB := n0_; clear n0_; clear hb hbox hg) | (go_at_call 22; refine (splitCalls a0 HZ.out _ (HT.out.on HB.out) W l HW.out).mono ?_; rintro e w4 ⟨g, rfl, hb4, hge, hW, hC⟩; have n0_ := Aside0.mk (below_step HB.out hb4); have n1_ := Aside0.mk (blk_below BK.out hb4); have HC := Aside0.mk hC; have HWc := Aside0.mk hW; clear HB BK hb4 hge hW hC; have HB := n0_; have BK := n1_; clear n0_ n1_) | (go_at_call 23; refine (readNumbers.calls _ _ l _ (HC.out _ (by split <;> simp_all)) (fun x hx => Nat.le_trans (HWS.out.1 x (List.mem_cons_of_mem _ hx)) HZ.out) (by have h1 := HWS.out.2; have h2 := HZ.out; rw [List.length_cons] at h1; omega) (HT.out.on HB.out)).mono ?_; rintro e w5 ⟨hb5, hcs⟩; refine Classical.byContradiction (fun HX_ => ?_)))
  have n0_ := Aside0.mk (below_step HB.out hb5)
  have n1_ := Aside0.mk (blk_below BK.out hb5)
  have n2_ := Aside0.mk (cellOn HWc.out hb5)
  clear HC
  rcases hcs with ⟨v, hv, rfl⟩ | ⟨v, xs, hv, rfl, ho⟩
  · rw [hv] at H
    have H0 := H.out
    simp only [Prod.mk.injEq] at H0
    obtain ⟨rfl, rfl, rfl, rfl, rfl, rfl, rfl, rfl⟩ := H0
    clear H HWc HB BK hb5
    have HB := n0_
    have BK := n1_
    clear n0_ n1_ n2_ h
    have hcz := fun i : Nat => blk_cell BK.out i
    have hc0 : w5.cell? ⟨gb, 0, none⟩ = some (.int .i64 0) := (blk_cell BK.out 0).trans rfl
    have hc1 : w5.cell? ⟨gb, 1, none⟩ = some (.int .i64 0) := (blk_cell BK.out 1).trans rfl
    have hc2 : w5.cell? ⟨gb, 2, none⟩ = some (.int .i64 0) := (blk_cell BK.out 2).trans rfl
    have hc3 : w5.cell? ⟨gb, 3, none⟩ = some (.int .i64 0) := (blk_cell BK.out 3).trans rfl
    have hc4 : w5.cell? ⟨gb, 4, none⟩ = some (.int .i64 0) := (blk_cell BK.out 4).trans rfl
    have hc5 : w5.cell? ⟨gb, 5, none⟩ = some (.int .i64 0) := (blk_cell BK.out 5).trans rfl
    have hc6 : w5.cell? ⟨gb, 6, none⟩ = some (.int .i64 0) := (blk_cell BK.out 6).trans rfl
    have hf0 := blk_frozen BK.out 0
    have hf1 := blk_frozen BK.out 1
    have hf2 := blk_frozen BK.out 2
    have hf3 := blk_frozen BK.out 3
    have hf4 := blk_frozen BK.out 4
    have hf5 := blk_frozen BK.out 5
    have hf6 := blk_frozen BK.out 6
    clear hcz
    refine HX_ ?_
    clear HX_
    go_wp2_with fail
    all_goals
      refine bodyPost_ret (results_ct rfl _ _ gb 24 #[.int .i64 0, .int .i64 0, .int .i64 0, .int .i64 0, .int .i64 0, .int .i64 0, .int .i64 0] (0, 0) _ rfl (sealPut BK.out _ _ _ _ _ _ _) Tryd.underlying24 rfl (by kernel_rfl)) rfl ?_
      exact ⟨rfl, sealPutB HB.out GE.out _ _ _ _ _ _ _⟩
  · obtain ⟨n0, n1, n2, n3, n4, n5, rfl⟩ := readF_six hv
    rw [hv] at H
    dsimp only at H
    have hne : ¬ l = [] := by
      rintro rfl
      simp [readF] at hv
    have H4 := Aside0.mk hv
    have n3_ := Aside0.mk (Kd.R_lower ho (below_size HB.out))
    clear HWc HB BK hb5 hv h ho
    have HB := n0_
    have BK := n1_
    have HWc := n2_
    have HO := n3_
    clear n0_ n1_ n2_ n3_
    obtain ⟨gn, cn, ev, hgn, hgl, cl, hcl⟩ := Kd.R_form HO.out (by simp)
    subst ev
    clear hgn hgl hcl
    refine HX_ ?_
    clear HX_
    go_wp2_with (first | (go_at_call 17; refine (sealWords.calls _).mono ?_; rintro e w6 ⟨rfl, hb6⟩; have n0_ := Aside0.mk (below_step HB.out hb6); have n1_ := Aside0.mk (blk_below BK.out hb6); have n2_ := Aside0.mk (cellOn HWc.out hb6); have n3_ := Aside0.mk (Kd.R_below HO.out hb6); clear HB BK HWc HO hb6; have HB := n0_; have BK := n1_; have HWc := n2_; have HO := n3_; clear n0_ n1_ n2_ n3_))
    go_loopg [22] 5 (fun kq v22 w' => ∃ (x : Int), v22 = .int .i64 x ∧ Aside0 (0 ≤ x ∧ x + kq = 5) ∧ Aside0 (∀ j : Int, 0 ≤ j → j < x → hitK a0 W n0 n1 n2 n3 n4 n5 j = false) ∧ Aside0 (w'.heap[gb]? = some (.cells #[.int .i64 0, .int .i64 0, .int .i64 0, .int .i64 0, .int .i64 0, .int .i64 0, .int .i64 0] 24 (0, 0))) ∧ Aside0 (w'.cell? ⟨g, 0, none⟩ = some (.string W)) ∧ Aside0 (Kd.R (Kd.int .i64) 3 w' w.heap.size (fun _ => True) (.slice (some ⟨gn, 0, none⟩) ([n0, n1, n2, n3, n4, n5] : List Int).length cn) [n0, n1, n2, n3, n4, n5]) ∧ Aside0 (Below w.heap.size w w'))
    case atStart => exact ⟨0, by first | rfl | (simp; done) | (simp [*]; done), ⟨by omega⟩, ⟨fun j h0 h1 => by omega⟩, BK, HWc, HO, HB⟩
    case round =>
      clear HB BK HWc HO
      obtain ⟨x, rfl, HX, HN, BK, HWc, HO, HB⟩ := hrel
      by_cases hlt : x < 5
      · have d1 : decide (x < 5) = true := decide_eq_true hlt
        have p0 : 0 ≤ x := HX.out.1
        have hix : ∀ w : World, (Instr.index 37 (.agg #[.string ⟨#[]⟩, .string ⟨#[116, 105, 99, 107, 101, 116]⟩, .string ⟨#[112, 97, 114, 116]⟩, .string ⟨#[97, 117, 116, 104]⟩, .string ⟨#[98, 97, 99, 107]⟩]) (.int .i64 x)).run Tryd.prog w = .ok (.string (nameK x)) w := by
          have hc : x = 0 ∨ x = 1 ∨ x = 2 ∨ x = 3 ∨ x = 4 := by omega
          rcases hc with rfl | rfl | rfl | rfl | rfl <;> exact fun _ => by kernel_rfl
        have k0 : wr.cell? ⟨gn, 0, none⟩ = some (.int .i64 n0) := (Kd.R_celln 0 HO.out 0 (by decide) (by simp)).1
        have k1 : wr.cell? ⟨gn, 1, none⟩ = some (.int .i64 n1) := (Kd.R_celln 0 HO.out 1 (by decide) (by simp)).1
        have k2 : wr.cell? ⟨gn, 2, none⟩ = some (.int .i64 n2) := (Kd.R_celln 0 HO.out 2 (by decide) (by simp)).1
        have k3 : wr.cell? ⟨gn, 3, none⟩ = some (.int .i64 n3) := (Kd.R_celln 0 HO.out 3 (by decide) (by simp)).1
        have k4 : wr.cell? ⟨gn, 4, none⟩ = some (.int .i64 n4) := (Kd.R_celln 0 HO.out 4 (by decide) (by simp)).1
        have k5 : wr.cell? ⟨gn, 5, none⟩ = some (.int .i64 n5) := (Kd.R_celln 0 HO.out 5 (by decide) (by simp)).1
        have j0 := World.new_ne wr _ k0
        have hw1 : x + 1 ≤ 9223372036854775807 := by omega
        go_wp2_with fail
        go_region_held3 (fun w' => w'.cell? ⟨gn, 0, none⟩ = some (.int .i64 n0) ∧ w'.cell? ⟨gn, 1, none⟩ = some (.int .i64 n1) ∧ w'.cell? ⟨gn, 2, none⟩ = some (.int .i64 n2) ∧ w'.cell? ⟨gn, 3, none⟩ = some (.int .i64 n3) ∧ w'.cell? ⟨gn, 4, none⟩ = some (.int .i64 n4) ∧ w'.cell? ⟨gn, 5, none⟩ = some (.int .i64 n5)) (first | exact ⟨k0, k1, k2, k3, k4, k5⟩ | go_keep) (first | fail)
        have hb8 : Below wr.heap.size wr (wr.alloc (.cells #[.int .i64 n0, .int .i64 x, .int .i64 n1, .int .i64 n2, .int .i64 n3, .int .i64 n4, .int .i64 n5] 24)).drew := below_drew1 (below_alloc (Below.refl _ _) _)
        have BX := Aside0.mk (show (wr.alloc (.cells #[.int .i64 n0, .int .i64 x, .int .i64 n1, .int .i64 n2, .int .i64 n3, .int .i64 n4, .int .i64 n5] 24)).drew.heap[wr.heap.size]? = some (.cells #[.int .i64 n0, .int .i64 x, .int .i64 n1, .int .i64 n2, .int .i64 n3, .int .i64 n4, .int .i64 n5] 24 (0, 0)) from blk_new wr _)
        have n0_ := Aside0.mk (below_step HB.out hb8)
        have n1_ := Aside0.mk (blk_below BK.out hb8)
        have n2_ := Aside0.mk (cellOn HWc.out hb8)
        have n3_ := Aside0.mk (Kd.R_below HO.out hb8)
        have hWa : (wr.alloc (.cells #[.int .i64 n0, .int .i64 x, .int .i64 n1, .int .i64 n2, .int .i64 n3, .int .i64 n4, .int .i64 n5] 24)).cell? ⟨g, 0, none⟩ = some (.string W) := n2_.out
        have GW := Aside0.mk (show w.heap.size ≤ wr.heap.size from below_size HB.out)
        clear HB BK HWc HO hb8 k0 k1 k2 k3 k4 k5 j0
        have HB := n0_
        have BK := n1_
        have HWc := n2_
        have HO := n3_
        clear n0_ n1_ n2_ n3_
        by_cases e1 : (nameK x).toList = W.toList
        · have e1b : ((nameK x).toList == W.toList) = true := beq_iff_eq.mpr e1
          have e1c : ((nameK x).toList != W.toList) = false := bne_eq_false_iff_eq.mpr e1
          cases e2 : sealOk n0 x n1 n2 n3 n4 n5 with
          | false =>
            have HC2 := Aside0.mk (fun w => impl_SealOk.calls n0 x n1 n2 n3 n4 n5 false w (congrArg some e2))
            have HN' := Aside0.mk (show ∀ j : Int, 0 ≤ j → j < x + 1 → hitK a0 W n0 n1 n2 n3 n4 n5 j = false from fun j h0 h1 => by
              by_cases hj : j < x
              · exact HN.out j h0 hj
              · obtain rfl : j = x := by omega
                unfold hitK
                rw [if_pos e1, e2]
                rfl)
            clear HN e1 e2
            go_wp2_with (first | (go_at_call 14; refine (HC2.out _).mono ?_; rintro e w7 ⟨rfl, hb_⟩; have n0_ := Aside0.mk (below_step HB.out hb_); have n1_ := Aside0.mk (blk_below BK.out hb_); have n2_ := Aside0.mk (cellOn HWc.out hb_); have n3_ := Aside0.mk (Kd.R_below HO.out hb_); have n4_ := Aside0.mk (blk_below BX.out hb_); clear HB BK HWc HO BX; have HB := n0_; have BK := n1_; have HWc := n2_; have HO := n3_; have BX := n4_; clear n0_ n1_ n2_ n3_ n4_ hb_; have yw70 : w7.cell? ⟨wr.heap.size, 0, none⟩ = some (.int .i64 n0) := (blk_cell BX.out 0).trans rfl; have yw71 : w7.cell? ⟨wr.heap.size, 1, none⟩ = some (.int .i64 x) := (blk_cell BX.out 1).trans rfl; have yw72 : w7.cell? ⟨wr.heap.size, 2, none⟩ = some (.int .i64 n1) := (blk_cell BX.out 2).trans rfl; have yw73 : w7.cell? ⟨wr.heap.size, 3, none⟩ = some (.int .i64 n2) := (blk_cell BX.out 3).trans rfl; have yw74 : w7.cell? ⟨wr.heap.size, 4, none⟩ = some (.int .i64 n3) := (blk_cell BX.out 4).trans rfl; have yw75 : w7.cell? ⟨wr.heap.size, 5, none⟩ = some (.int .i64 n4) := (blk_cell BX.out 5).trans rfl; have yw76 : w7.cell? ⟨wr.heap.size, 6, none⟩ = some (.int .i64 n5) := (blk_cell BX.out 6).trans rfl))
            go_roundg (gk - 1)
            case measure => have := HX.out.2; omega
            case rel => exact ⟨x + 1, by first | rfl | (simp; done) | (simp [*]; done), ⟨by have := HX.out; omega⟩, HN', BK, HWc, HO, HB⟩
          | true =>
            have HC2 := Aside0.mk (fun w => impl_SealOk.calls n0 x n1 n2 n3 n4 n5 true w (congrArg some e2))
            have HTX := Aside0.mk (show impl_SealText.f n0 x n1 n2 n3 n4 n5 = some (sealText n0 x n1 n2 n3 n4 n5) by unfold impl_SealText.f; rw [e2]; rfl)
            by_cases e3 : (sealText n0 x n1 n2 n3 n4 n5).toList = a0.toList
            · have e3b : ((sealText n0 x n1 n2 n3 n4 n5).toList == a0.toList) = true := beq_iff_eq.mpr e3
              have e3c : ((sealText n0 x n1 n2 n3 n4 n5).toList != a0.toList) = false := bne_eq_false_iff_eq.mpr e3
              have hH := find_from (hitK a0 W n0 n1 n2 n3 n4 n5) x p0 hlt HN.out (by unfold hitK; rw [if_pos e1, if_pos e2]; exact decide_eq_true e3)
              have H0 := H.out
              rw [hH] at H0
              simp only [Prod.mk.injEq] at H0
              obtain ⟨rfl, rfl, rfl, rfl, rfl, rfl, rfl, rfl⟩ := H0
              clear H HN hH e1 e2 e3
              go_wp2_with (first | (go_at_call 14; refine (HC2.out _).mono ?_; rintro e w7 ⟨rfl, hb_⟩; have n0_ := Aside0.mk (below_step HB.out hb_); have n1_ := Aside0.mk (blk_below BK.out hb_); have n2_ := Aside0.mk (cellOn HWc.out hb_); have n3_ := Aside0.mk (Kd.R_below HO.out hb_); have n4_ := Aside0.mk (blk_below BX.out hb_); clear HB BK HWc HO BX; have HB := n0_; have BK := n1_; have HWc := n2_; have HO := n3_; have BX := n4_; clear n0_ n1_ n2_ n3_ n4_ hb_; have yw70 : w7.cell? ⟨wr.heap.size, 0, none⟩ = some (.int .i64 n0) := (blk_cell BX.out 0).trans rfl; have yw71 : w7.cell? ⟨wr.heap.size, 1, none⟩ = some (.int .i64 x) := (blk_cell BX.out 1).trans rfl; have yw72 : w7.cell? ⟨wr.heap.size, 2, none⟩ = some (.int .i64 n1) := (blk_cell BX.out 2).trans rfl; have yw73 : w7.cell? ⟨wr.heap.size, 3, none⟩ = some (.int .i64 n2) := (blk_cell BX.out 3).trans rfl; have yw74 : w7.cell? ⟨wr.heap.size, 4, none⟩ = some (.int .i64 n3) := (blk_cell BX.out 4).trans rfl; have yw75 : w7.cell? ⟨wr.heap.size, 5, none⟩ = some (.int .i64 n4) := (blk_cell BX.out 5).trans rfl; have yw76 : w7.cell? ⟨wr.heap.size, 6, none⟩ = some (.int .i64 n5) := (blk_cell BX.out 6).trans rfl) | (go_at_call 8; refine Classical.byContradiction (fun HX_ => ?_)))
              refine HX_ ?_
              clear HX_
              refine (impl_SealText.calls _ _ _ _ _ _ _ _ _ HTX.out (HT.out.on HB.out).tens).mono ?_
              rintro e w9 ⟨rfl, hb_⟩
              have n0_ := Aside0.mk (below_step HB.out hb_)
              have n1_ := Aside0.mk (blk_below BK.out hb_)
              have n2_ := Aside0.mk (cellOn HWc.out hb_)
              have n3_ := Aside0.mk (Kd.R_below HO.out hb_)
              have n4_ := Aside0.mk (blk_below BX.out hb_)
              clear HB BK HWc HO BX
              have HB := n0_
              have BK := n1_
              have HWc := n2_
              have HO := n3_
              have BX := n4_
              clear n0_ n1_ n2_ n3_ n4_ hb_
              have yw90 : w9.cell? ⟨wr.heap.size, 0, none⟩ = some (.int .i64 n0) := (blk_cell BX.out 0).trans rfl
              have yw91 : w9.cell? ⟨wr.heap.size, 1, none⟩ = some (.int .i64 x) := (blk_cell BX.out 1).trans rfl
              have yw92 : w9.cell? ⟨wr.heap.size, 2, none⟩ = some (.int .i64 n1) := (blk_cell BX.out 2).trans rfl
              have yw93 : w9.cell? ⟨wr.heap.size, 3, none⟩ = some (.int .i64 n2) := (blk_cell BX.out 3).trans rfl
              have yw94 : w9.cell? ⟨wr.heap.size, 4, none⟩ = some (.int .i64 n3) := (blk_cell BX.out 4).trans rfl
              have yw95 : w9.cell? ⟨wr.heap.size, 5, none⟩ = some (.int .i64 n4) := (blk_cell BX.out 5).trans rfl
              have yw96 : w9.cell? ⟨wr.heap.size, 6, none⟩ = some (.int .i64 n5) := (blk_cell BX.out 6).trans rfl
              have hc0 : w9.cell? ⟨gb, 0, none⟩ = some (.int .i64 0) := (blk_cell BK.out 0).trans rfl
              have hc1 : w9.cell? ⟨gb, 1, none⟩ = some (.int .i64 0) := (blk_cell BK.out 1).trans rfl
              have hc2 : w9.cell? ⟨gb, 2, none⟩ = some (.int .i64 0) := (blk_cell BK.out 2).trans rfl
              have hc3 : w9.cell? ⟨gb, 3, none⟩ = some (.int .i64 0) := (blk_cell BK.out 3).trans rfl
              have hc4 : w9.cell? ⟨gb, 4, none⟩ = some (.int .i64 0) := (blk_cell BK.out 4).trans rfl
              have hc5 : w9.cell? ⟨gb, 5, none⟩ = some (.int .i64 0) := (blk_cell BK.out 5).trans rfl
              have hc6 : w9.cell? ⟨gb, 6, none⟩ = some (.int .i64 0) := (blk_cell BK.out 6).trans rfl
              have hf0 := blk_frozen BK.out 0
              have hf1 := blk_frozen BK.out 1
              have hf2 := blk_frozen BK.out 2
              have hf3 := blk_frozen BK.out 3
              have hf4 := blk_frozen BK.out 4
              have hf5 := blk_frozen BK.out 5
              have hf6 := blk_frozen BK.out 6
              go_wp2_with fail
              refine bodyPost_ret (results_ct rfl _ _ gb 24 #[.int .i64 n0, .int .i64 x, .int .i64 n1, .int .i64 n2, .int .i64 n3, .int .i64 n4, .int .i64 n5] (0, 0) _ rfl (sealPut BK.out _ _ _ _ _ _ _) Tryd.underlying24 rfl (by kernel_rfl)) rfl ?_
              exact ⟨rfl, sealPutB HB.out GE.out _ _ _ _ _ _ _⟩
            · have e3b : ((sealText n0 x n1 n2 n3 n4 n5).toList == a0.toList) = false := beq_eq_false_iff_ne.mpr e3
              have e3c : ((sealText n0 x n1 n2 n3 n4 n5).toList != a0.toList) = true := bne_iff_ne.mpr e3
              have HN' := Aside0.mk (show ∀ j : Int, 0 ≤ j → j < x + 1 → hitK a0 W n0 n1 n2 n3 n4 n5 j = false from fun j h0 h1 => by
                by_cases hj : j < x
                · exact HN.out j h0 hj
                · obtain rfl : j = x := by omega
                  unfold hitK
                  rw [if_pos e1, if_pos e2]
                  exact decide_eq_false e3)
              clear HN e1 e2 e3
              go_wp2_with (first | (go_at_call 14; refine (HC2.out _).mono ?_; rintro e w7 ⟨rfl, hb_⟩; have n0_ := Aside0.mk (below_step HB.out hb_); have n1_ := Aside0.mk (blk_below BK.out hb_); have n2_ := Aside0.mk (cellOn HWc.out hb_); have n3_ := Aside0.mk (Kd.R_below HO.out hb_); have n4_ := Aside0.mk (blk_below BX.out hb_); clear HB BK HWc HO BX; have HB := n0_; have BK := n1_; have HWc := n2_; have HO := n3_; have BX := n4_; clear n0_ n1_ n2_ n3_ n4_ hb_; have yw70 : w7.cell? ⟨wr.heap.size, 0, none⟩ = some (.int .i64 n0) := (blk_cell BX.out 0).trans rfl; have yw71 : w7.cell? ⟨wr.heap.size, 1, none⟩ = some (.int .i64 x) := (blk_cell BX.out 1).trans rfl; have yw72 : w7.cell? ⟨wr.heap.size, 2, none⟩ = some (.int .i64 n1) := (blk_cell BX.out 2).trans rfl; have yw73 : w7.cell? ⟨wr.heap.size, 3, none⟩ = some (.int .i64 n2) := (blk_cell BX.out 3).trans rfl; have yw74 : w7.cell? ⟨wr.heap.size, 4, none⟩ = some (.int .i64 n3) := (blk_cell BX.out 4).trans rfl; have yw75 : w7.cell? ⟨wr.heap.size, 5, none⟩ = some (.int .i64 n4) := (blk_cell BX.out 5).trans rfl; have yw76 : w7.cell? ⟨wr.heap.size, 6, none⟩ = some (.int .i64 n5) := (blk_cell BX.out 6).trans rfl) | (go_at_call 8; refine (impl_SealText.calls n0 x n1 n2 n3 n4 n5 _ _ HTX.out (HT.out.on HB.out).tens).mono ?_; rintro e w9 ⟨rfl, hb_⟩; have n0_ := Aside0.mk (below_step HB.out hb_); have n1_ := Aside0.mk (blk_below BK.out hb_); have n2_ := Aside0.mk (cellOn HWc.out hb_); have n3_ := Aside0.mk (Kd.R_below HO.out hb_); have n4_ := Aside0.mk (blk_below BX.out hb_); clear HB BK HWc HO BX; have HB := n0_; have BK := n1_; have HWc := n2_; have HO := n3_; have BX := n4_; clear n0_ n1_ n2_ n3_ n4_ hb_; have yw90 : w9.cell? ⟨wr.heap.size, 0, none⟩ = some (.int .i64 n0) := (blk_cell BX.out 0).trans rfl; have yw91 : w9.cell? ⟨wr.heap.size, 1, none⟩ = some (.int .i64 x) := (blk_cell BX.out 1).trans rfl; have yw92 : w9.cell? ⟨wr.heap.size, 2, none⟩ = some (.int .i64 n1) := (blk_cell BX.out 2).trans rfl; have yw93 : w9.cell? ⟨wr.heap.size, 3, none⟩ = some (.int .i64 n2) := (blk_cell BX.out 3).trans rfl; have yw94 : w9.cell? ⟨wr.heap.size, 4, none⟩ = some (.int .i64 n3) := (blk_cell BX.out 4).trans rfl; have yw95 : w9.cell? ⟨wr.heap.size, 5, none⟩ = some (.int .i64 n4) := (blk_cell BX.out 5).trans rfl; have yw96 : w9.cell? ⟨wr.heap.size, 6, none⟩ = some (.int .i64 n5) := (blk_cell BX.out 6).trans rfl))
              go_roundg (gk - 1)
              case measure => have := HX.out.2; omega
              case rel => exact ⟨x + 1, by first | rfl | (simp; done) | (simp [*]; done), ⟨by have := HX.out; omega⟩, HN', BK, HWc, HO, HB⟩
        · have e1b : ((nameK x).toList == W.toList) = false := beq_eq_false_iff_ne.mpr e1
          have e1c : ((nameK x).toList != W.toList) = true := bne_iff_ne.mpr e1
          have HN' := Aside0.mk (show ∀ j : Int, 0 ≤ j → j < x + 1 → hitK a0 W n0 n1 n2 n3 n4 n5 j = false from fun j h0 h1 => by
            by_cases hj : j < x
            · exact HN.out j h0 hj
            · obtain rfl : j = x := by omega
              unfold hitK
              rw [if_neg e1])
          clear HN e1
          go_wp2_with fail
          go_roundg (gk - 1)
          case measure => have := HX.out.2; omega
          case rel => exact ⟨x + 1, by first | rfl | (simp; done) | (simp [*]; done), ⟨by have := HX.out; omega⟩, HN', BK, HWc, HO, HB⟩
      · have d1 : decide (x < 5) = false := decide_eq_false hlt
        have hH := find_no (hitK a0 W n0 n1 n2 n3 n4 n5) (fun j h0 h1 => HN.out j h0 (by omega))
        have H0 := H.out
        rw [hH] at H0
        simp only [Prod.mk.injEq] at H0
        obtain ⟨rfl, rfl, rfl, rfl, rfl, rfl, rfl, rfl⟩ := H0
        clear H HN HWc HO hH
        have hc0 : wr.cell? ⟨gb, 0, none⟩ = some (.int .i64 0) := (blk_cell BK.out 0).trans rfl
        have hc1 : wr.cell? ⟨gb, 1, none⟩ = some (.int .i64 0) := (blk_cell BK.out 1).trans rfl
        have hc2 : wr.cell? ⟨gb, 2, none⟩ = some (.int .i64 0) := (blk_cell BK.out 2).trans rfl
        have hc3 : wr.cell? ⟨gb, 3, none⟩ = some (.int .i64 0) := (blk_cell BK.out 3).trans rfl
        have hc4 : wr.cell? ⟨gb, 4, none⟩ = some (.int .i64 0) := (blk_cell BK.out 4).trans rfl
        have hc5 : wr.cell? ⟨gb, 5, none⟩ = some (.int .i64 0) := (blk_cell BK.out 5).trans rfl
        have hc6 : wr.cell? ⟨gb, 6, none⟩ = some (.int .i64 0) := (blk_cell BK.out 6).trans rfl
        have hf0 := blk_frozen BK.out 0
        have hf1 := blk_frozen BK.out 1
        have hf2 := blk_frozen BK.out 2
        have hf3 := blk_frozen BK.out 3
        have hf4 := blk_frozen BK.out 4
        have hf5 := blk_frozen BK.out 5
        have hf6 := blk_frozen BK.out 6
        go_wp2_with fail
        refine bodyPost_ret (results_ct rfl _ _ gb 24 #[.int .i64 0, .int .i64 0, .int .i64 0, .int .i64 0, .int .i64 0, .int .i64 0, .int .i64 0] (0, 0) _ rfl (sealPut BK.out _ _ _ _ _ _ _) Tryd.underlying24 rfl (by kernel_rfl)) rfl ?_
        exact ⟨rfl, sealPutB HB.out GE.out _ _ _ _ _ _ _⟩

end Go.Proofs.YtbipicjijbnbbaaDoor.Hp
