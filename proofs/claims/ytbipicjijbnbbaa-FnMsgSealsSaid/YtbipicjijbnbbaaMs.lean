/- What MsgOk comes to, the program's and the reference's alike: one plain test on the four numbers and the seals. No condition. -/
import Derived.Test.YtbipicjijbnbbaaHx14
import Derived.Test.YtbipicjijbnbbaaHx16
import Derived.Test.YtbipicjijbnbbaaDr0
import Derived.Test.YtbipicjijbnbbaaSl
set_option linter.unusedVariables false
set_option linter.unusedSimpArgs false
namespace Go.Proofs.Ytbipicjijbnbbaa.Ms
open Go.RowKit Go.Proofs.Ytbipicjijbnbbaa.Hp Go.Proofs.YtbipicjijbnbbaaW.PrintWords Go.Proofs.Ytbipicjijbnbbaa.Dr

def okS (s : S41) : Bool := Sl.ok s.f0 s.f1 s.f2 s.f3 s.f4 s.f5 s.f6
/-- A word is of its kind, but for its seals. -/
def Shape (kind client serv nonce n : Int) : Prop :=
  (kind = 1 ∧ (1 ≤ client ∧ client ≤ 3) ∧ serv = 0 ∧ (1 ≤ nonce ∧ nonce ≤ 60) ∧ n = 0) ∨ ((kind = 2 ∨ kind = 4) ∧ (1 ≤ client ∧ client ≤ 3) ∧ serv = 0 ∧ nonce = 0 ∧ n = 2) ∨
  (kind = 3 ∧ client = 0 ∧ (4 ≤ serv ∧ serv ≤ 5) ∧ (1 ≤ nonce ∧ nonce ≤ 60) ∧ n = 2) ∨ (kind = 5 ∧ client = 0 ∧ (4 ≤ serv ∧ serv ≤ 5) ∧ nonce = 0 ∧ n = 2) ∨ (kind = 6 ∧ (1 ≤ client ∧ client ≤ 3) ∧ serv = 0 ∧ nonce = 0 ∧ n = 1)
instance (kind client serv nonce n : Int) : Decidable (Shape kind client serv nonce n) := by unfold Shape; infer_instance
def msgOk (kind client serv nonce : Int) (l : List S41) : Bool := decide (Shape kind client serv nonce l.length) && l.all okS

theorem shape_is (kind client serv nonce : Int) (n : Nat) : shapeB kind client serv nonce n = decide (Shape kind client serv nonce n) := by
  rw [Bool.eq_iff_iff, decide_eq_true_eq]
  unfold shapeB Shape
  repeat' split
  all_goals simp only [rng, Bool.and_eq_true, decide_eq_true_eq, beq_iff_eq, Bool.false_eq_true, false_iff] <;> omega
theorem shaped_is (kind client serv nonce : Int) (l : List S41) : impl_Msg_shaped.f kind client serv nonce l = some (decide (Shape kind client serv nonce l.length)) := by
  unfold impl_Msg_shaped.f
  rw [shape_is]
theorem b_is (s : S41) : impl_MsgOk_1.b s = !okS s := by
  unfold impl_MsgOk_1.b okS
  simp only [impl_MsgOk_1.f, Sl.impl_ok, Option.bind_some, Option.getD_some]
theorem impl_is (kind client serv nonce : Int) (l : List S41) : impl_MsgOk.f kind client serv nonce l = some (msgOk kind client serv nonce l) := by
  have hb : impl_MsgOk_1.b = fun s => !okS s := funext b_is
  simp only [impl_MsgOk.f, shaped_is, Option.bind_some, impl_Seal_81.f, hb, msgOk]
  split
  · rename_i h
    rw [h, Bool.true_and, Option.some.injEq, List.all_eq_not_any_not]
  · rename_i h
    rw [Bool.not_eq_true] at h
    rw [h]; rfl
theorem impl_ev (kind client serv nonce : Int) (l : List S41) : Evs (fun _ => impl_MsgOk.f kind client serv nonce l) (· = msgOk kind client serv nonce l) := Evs.always (impl_is _ _ _ _ _) rfl
theorem rdS (l : List S41) (i : Nat) (h : i < l.length) : rd_T41 l (i : Int) = l[i] := by
  simp [rd_T41, List.getD_eq_getElem?_getD, List.getElem?_eq_getElem h]
theorem nextN {n i : Nat} (h : i < n) (hn : n ≤ 9223372036854775807) : wrap64 ((i : Int) + 1) = ((i + 1 : Nat) : Int) := by rw [w64 (by omega) (by omega)]; rfl
theorem okSealB_is (s : S41) : okSealB s = okS s := Sl.sealOk_is _ _ _ _ _ _ _
theorem msgOkB_is (kind client serv nonce : Int) (l : List S41) : msgOkB kind client serv nonce l = msgOk kind client serv nonce l := by
  unfold msgOkB msgOk
  rw [shape_is, show okSealB = okS from funext okSealB_is]
theorem spec_ev (kind client serv nonce : Int) (l : List S41) (hl : l.length ≤ 9223372036854775807) : Evs (fun _ => spec_MsgOk.f kind client serv nonce l) (· = msgOk kind client serv nonce l) :=
  Evs.always (by unfold spec_MsgOk.f; rw [msgOkB_is]) rfl
end Go.Proofs.Ytbipicjijbnbbaa.Ms
