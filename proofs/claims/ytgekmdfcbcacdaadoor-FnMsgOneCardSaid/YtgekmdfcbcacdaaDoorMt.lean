/- What the texts of words are, the program's and the reference's alike. No condition but that a list is no longer than a list can be. -/
import Derived.Test.YtgekmdfcbcacdaaDoorHx29
import Derived.Test.YtgekmdfcbcacdaaDoorHx24
import Derived.Test.YtgekmdfcbcacdaaDoorSt
import Derived.Test.YtgekmdfcbcacdaaDoorMs
set_option linter.unusedVariables false
set_option linter.unusedSimpArgs false
namespace Go.Proofs.YtgekmdfcbcacdaaDoor.Mt
open Go.RowKit Go.Proofs.YtgekmdfcbcacdaaDoor.Hp Go.Proofs.YtgekmdfcbcacdaaDoorW.PrintWords Go.Proofs.YtgekmdfcbcacdaaDoor.Dr Go.Proofs.YtgekmdfcbcacdaaDoor.Dc Go.Proofs.YtgekmdfcbcacdaaDoor.St

abbrev S := S24
theorem nl_size : (⟨#[10]⟩ : ByteArray).size = 1 := rfl
theorem bs_nl : bs (⟨#[10]⟩ : ByteArray) = [10] := rfl
/-- A seal's line. -/
def line (s : S) : ByteArray := txt s.f0 s.f1 s.f2 s.f3 s.f4 s.f5 s.f6 ++ ⟨#[10]⟩
def lines (l : List S) (acc : ByteArray) : ByteArray := l.foldl (fun a s => a ++ line s) acc
/-- A word's text; the empty one, if the word is not in form. -/
def msgTxt (kind client serv nonce : Int) (l : List S) : ByteArray := if Ms.msgOk kind client serv nonce l = true then lines l (numsText [kind, client, serv, nonce] ++ ⟨#[10]⟩) else ⟨#[]⟩
theorem txt_size (key kind a b c d e : Int) : (txt key kind a b c d e).size ≤ 1100 := by
  unfold txt
  by_cases h : Sl.ok key kind a b c d e = true
  · rw [if_pos h]
    have h1 := word_size kind
    have h2 := numsSize [key, a, b, c, d, e] (nums h).2 (by simp)
    unfold sealText
    simp only [ByteArray.size_append, sp_size]
    omega
  · rw [if_neg h]
    exact Nat.zero_le _
theorem ok_nums {kind client serv nonce : Int} {l : List S} (h : Ms.msgOk kind client serv nonce l = true) : (∀ x ∈ [kind, client, serv, nonce], 0 ≤ x ∧ x ≤ 100) ∧ l.length ≤ 2 ∧ ∀ s ∈ l, Sl.ok s.f0 s.f1 s.f2 s.f3 s.f4 s.f5 s.f6 = true := by
  unfold Ms.msgOk at h
  rw [Bool.and_eq_true, decide_eq_true_eq, List.all_eq_true] at h
  obtain ⟨hs, ha⟩ := h
  unfold Ms.Shape at hs
  refine ⟨?_, by omega, fun s hm => ha s hm⟩
  simp only [List.mem_cons, List.not_mem_nil, or_false, forall_eq_or_imp, forall_eq]
  omega
theorem impl_loop (l : List S) (hl : l.length ≤ 2) : ∀ (d i : Nat) (acc : ByteArray), i + d = l.length → acc.size ≤ 2000 * (i + 1) → Evs (fun k => impl_MsgText.l0 k acc l (l.length : Int) (i : Int)) (· = lines (l.drop i) acc) := by
  intro d
  induction d with
  | zero =>
    intro i acc hi ha
    refine Evs.step (fun k => by simp only [impl_MsgText.l0]; rfl) (Evs.else_ (by omega) (Evs.now ?_))
    rw [List.drop_of_length_le (by omega)]
    rfl
  | succ d ih =>
    intro i acc hi ha
    have hlt : i < l.length := by omega
    refine Evs.step (fun k => by simp only [impl_MsgText.l0]; rfl) (Evs.then_ (by omega) (Evs.then_ (by omega) (Evs.then_ (by omega) ?_)))
    rw [Ms.rdS l i hlt, Ms.nextN hlt (by omega)]
    simp only [impl_text, Option.bind_some]
    have hz := txt_size l[i].f0 l[i].f1 l[i].f2 l[i].f3 l[i].f4 l[i].f5 l[i].f6
    refine Evs.then_ (by omega) (Evs.then_ (by simp only [ByteArray.size_append, nl_size]; omega) ?_)
    refine (ih (i + 1) _ (by omega) (by simp only [ByteArray.size_append, nl_size]; omega)).imp fun r hr => ?_
    rw [hr, List.drop_eq_getElem_cons hlt]
    rfl
theorem spec_loop (kind client serv nonce : Int) (l : List S) (hl : l.length ≤ 2) : ∀ (d i : Nat) (acc : ByteArray), i + d = l.length → acc.size ≤ 2000 * (i + 1) → Evs (fun k => spec_MsgText.l0 k acc (i : Int) kind client serv nonce l) (· = lines (l.drop i) acc) := by
  intro d
  induction d with
  | zero =>
    intro i acc hi ha
    refine Evs.step (fun k => by simp only [spec_MsgText.l0]; rfl) (Evs.else_ (by omega) (Evs.now ?_))
    rw [List.drop_of_length_le (by omega)]
    rfl
  | succ d ih =>
    intro i acc hi ha
    have hlt : i < l.length := by omega
    refine Evs.step (fun k => by simp only [spec_MsgText.l0]; rfl) (Evs.then_ (by omega) (Evs.then_ (by omega) ?_))
    rw [Ms.rdS l i hlt, Ms.nextN hlt (by omega)]
    have hz := txt_size l[i].f0 l[i].f1 l[i].f2 l[i].f3 l[i].f4 l[i].f5 l[i].f6
    refine (spec_text l[i].f0 l[i].f1 l[i].f2 l[i].f3 l[i].f4 l[i].f5 l[i].f6).bind ?_
    rintro _ rfl
    refine Evs.then_ (by omega) (Evs.then_ (by simp only [ByteArray.size_append]; omega) ?_)
    refine (ih (i + 1) _ (by omega) (by simp only [ByteArray.size_append, nl_size]; omega)).imp fun r hr => ?_
    rw [hr, List.drop_eq_getElem_cons hlt]
    show lines _ _ = lines _ (acc ++ line l[i])
    unfold line
    rw [ByteArray.append_assoc]
theorem impl_msg (kind client serv nonce : Int) (l : List S) : Evs (fun k => impl_MsgText.f k kind client serv nonce l) (· = msgTxt kind client serv nonce l) := by
  unfold impl_MsgText.f msgTxt
  simp only [Ms.impl_is, Option.bind_some]
  cases ho : Ms.msgOk kind client serv nonce l with
  | false => exact Evs.else_ (by simp) (Evs.now (by simp))
  | true =>
    obtain ⟨hn, hl, _⟩ := ok_nums ho
    have hz := numsSize [kind, client, serv, nonce] hn (by simp)
    have hf : impl_numbers.f [kind, client, serv, nonce] = some (numsText [kind, client, serv, nonce]) := by
      unfold impl_numbers.f
      rw [if_pos ⟨.inl rfl, List.all_eq_true.2 fun x hx => decide_eq_true (hn x hx)⟩]
    simp only [hf, Option.bind_some]
    refine Evs.then_ (by first | rfl | trivial) (Evs.then_ (by omega) ?_)
    refine (impl_loop l hl l.length 0 _ (by omega) (by simp only [ByteArray.size_append, nl_size]; omega)).imp fun r hr => ?_
    rw [hr, List.drop_zero]
    simp only [if_true]
theorem spec_msg (kind client serv nonce : Int) (l : List S) : Evs (fun k => spec_MsgText.f k kind client serv nonce l) (· = msgTxt kind client serv nonce l) := by
  unfold spec_MsgText.f msgTxt
  have hs : spec_MsgOk.f kind client serv nonce l = some (Ms.msgOk kind client serv nonce l) := by unfold spec_MsgOk.f; rw [Ms.msgOkB_is]
  simp only [hs, Option.bind_some]
  cases ho : Ms.msgOk kind client serv nonce l with
  | false => exact Evs.else_ (by simp) (Evs.now (by simp))
  | true =>
    obtain ⟨hn, hl, _⟩ := ok_nums ho
    have n0 := hn kind (by simp)
    have n1 := hn client (by simp)
    have n2 := hn serv (by simp)
    have n3 := hn nonce (by simp)
    have s0 := dec_size n0.1 n0.2
    have s1 := dec_size n1.1 n1.2
    have s2 := dec_size n2.1 n2.2
    have s3 := dec_size n3.1 n3.2
    refine Evs.then_ (by first | rfl | trivial) ((dec_ev n0).bind ?_)
    rintro _ rfl
    refine Evs.then_ (by omega) ((dec_ev n1).bind ?_)
    rintro _ rfl
    refine Evs.then_ (by simp only [ByteArray.size_append, sp_size]; omega) (Evs.then_ (by simp only [ByteArray.size_append, sp_size]; omega) ((dec_ev n2).bind ?_))
    rintro _ rfl
    refine Evs.then_ (by simp only [ByteArray.size_append, sp_size]; omega) (Evs.then_ (by simp only [ByteArray.size_append, sp_size]; omega) ((dec_ev n3).bind ?_))
    rintro _ rfl
    refine Evs.then_ (by simp only [ByteArray.size_append, sp_size]; omega) (Evs.then_ (by simp only [ByteArray.size_append, sp_size]; omega) ?_)
    refine (spec_loop kind client serv nonce l hl l.length 0 _ (by omega) (by simp only [ByteArray.size_append, sp_size, nl_size]; omega)).imp fun r hr => ?_
    rw [hr, List.drop_zero]
    simp only [if_true]
    refine congrArg (lines l) (bs_inj ?_)
    simp only [bs_append, bs_nums, bs_sp, List.map_cons, List.map_nil, Lib.join_cons, Lib.joinTail, List.flatten_cons, List.flatten_nil, List.append_assoc, List.append_nil]
end Go.Proofs.YtgekmdfcbcacdaaDoor.Mt
