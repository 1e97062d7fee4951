-- Printed by wip/tools/hp.py of this session (the kit's print.py, with contracts typed by hand beside).
import Derived.Test.YtbiknbjcidlabaaRows
import Derived.Test.YtbiknbjcidlabaaInit
import Derived.Test.YtbiknbjcidlabaaHx25
import Derived.Test.YtbiknbjcidlabaaPureFnExactMsgOk
import Derived.Test.YtbiknbjcidlabaaOp
import Derived.WalkKit
import Derived.ProofKit
import Derived.OpenShut
import Derived.ShutString
import Derived.ChangeOld
import Derived.Below
import Derived.SizedLaws
import Derived.Carry
namespace Go.Proofs.Ytbiknbjcidlabaa.fnExactMsgOk
open Go.ChangeShapes Go.WideShapes Go.ChangeAt Go.RowKit Go.Proofs.Ytbiknbjcidlabaa Go.Proofs.Ytbiknbjcidlabaa.Hp Go.Proofs.YtbiknbjcidlabaaW.PrintWords
open Go.ChangeMaps (open_string shut_string)
set_option linter.unusedVariables false
set_option linter.unusedSimpArgs false
theorem own : ownKnob Try.prog.godebug = none := by kernel_rfl
theorem laidOut : laidOutB Try.prog = true := by kernel_rfl
theorem o77 : Op.Opens Try.prog 77 k77 := by
  unfold k77
  exact Op.opens_iso (g := fun p => ⟨p.1, p.2.1, p.2.2.1, p.2.2.2.1, p.2.2.2.2.1, p.2.2.2.2.2.1, p.2.2.2.2.2.2⟩) (fun _ => rfl) (Op.opens_struct Try.underlying77 (by kernel_rfl) (Op.fields_cons rfl (Op.opens_int Try.underlying3 (by kernel_rfl)) (Op.fields_cons rfl (Op.opens_int Try.underlying3 (by kernel_rfl)) (Op.fields_cons rfl (Op.opens_int Try.underlying3 (by kernel_rfl)) (Op.fields_cons rfl (Op.opens_int Try.underlying3 (by kernel_rfl)) (Op.fields_cons rfl (Op.opens_int Try.underlying3 (by kernel_rfl)) (Op.fields_cons rfl (Op.opens_int Try.underlying3 (by kernel_rfl)) (Op.fields_last rfl (Op.opens_int Try.underlying3 (by kernel_rfl))))))))))
set_option maxRecDepth 100000 in
theorem lifted (os : Os) (started : os.Started) (H : Type) (enc : TypeId × Value → H) :
    ReturnsInHanded {} Try.checked os 4 .any (Rows.fnExactMsgOkSpec.pre6 enc Try.prog Try.f4 Rows.fnExactMsgOkRow.domain false) (Rows.fnExactMsgOkSpec.post enc Try.prog Try.f4 false true false false) := by
  refine returnsInHanded_of_change_sized (C := Try.checked) own started (by kernel_rfl) Try.func4
    (ChangeSpec.witness6 (enc := enc) (C := Try.checked) false ⟨#[], #[.agg #[.int .i64 0, .int .i64 0, .int .i64 0, .int .i64 0, .slice none 0 0]], []⟩ 8 (by kernel_rfl) (by kernel_rfl) (by kernel_rfl) (by kernel_rfl)) ?_
  intro W base args ds gs before hval0 hW hcnd hsz0 _
  have hval : ∀ (j : Nat) t v, Try.f4.params[j]? = some t → args[j]? = some v → Value.okWide Try.prog W .any base t v := hval0
  have hW' := hW
  obtain ⟨p, q, hA0, hV, rfl, hfz, hnd⟩ := hW
  have hA : DataW.TrodAll enc Try.prog W 0 (fun _ => true) true Try.f4.params.toList args.toList ds p := hA0
  rw [Try.params4] at hA hval
  obtain ⟨v0, vs0, d0, ds0, p0, q0, hargs, rfl, rfl, h0, r0⟩ := trodAll_cons hA
  obtain ⟨rfl, rfl, rfl⟩ := trodAll_nil r0
  obtain rfl : args = #[v0] := by cases args; simp_all
  obtain ⟨rfl, rfl⟩ := trodVars_none hV
  have k0 := h0
  have lt0 : ∀ x ∈ p0, x.block < W.heap.size := by obtain ⟨m, hm⟩ := k0; exact DataW.trod_lt m _ _ _ hm
  obtain ⟨b0, rfl, _⟩ := okWide_struct Try.underlying31 (hval 0 31 v0 rfl rfl)
  obtain ⟨a0_0, a0_1, a0_2, a0_3, A0_4, c0_4, l0_4, hcs, hc0_4, hr0_4⟩ : ∃ (a0_0 : Int) (a0_1 : Int) (a0_2 : Int) (a0_3 : Int) (A0_4 : Option Addr) (c0_4 : Nat) (l0_4 : List (S77)), b0.toList = [.int .i64 a0_0, .int .i64 a0_1, .int .i64 a0_2, .int .i64 a0_3, .slice A0_4 l0_4.length c0_4] ∧ l0_4.length ≤ c0_4 ∧ Kd.C k77 W A0_4 l0_4.length l0_4 := by
    obtain ⟨fuel, hf⟩ := h0
    obtain ⟨x, hx⟩ := (Op.opens_struct Try.underlying31 (by kernel_rfl) (Op.fields_cons rfl (Op.opens_int Try.underlying3 (by kernel_rfl)) (Op.fields_cons rfl (Op.opens_int Try.underlying3 (by kernel_rfl)) (Op.fields_cons rfl (Op.opens_int Try.underlying3 (by kernel_rfl)) (Op.fields_cons rfl (Op.opens_int Try.underlying3 (by kernel_rfl)) (Op.fields_last rfl (Op.opens_slice Try.underlying29 (by kernel_rfl) o77))))))).2 enc W 0 _ _ fuel _ _ hf
    obtain ⟨_, _, hcs0, rfl, ⟨_, _, rfl, rfl, ⟨_, _, rfl, rfl, ⟨_, _, rfl, rfl, ⟨A4, c4, rfl, e4, f4⟩⟩⟩⟩⟩ := hx
    exact ⟨x.1, x.2.1, x.2.2.1, x.2.2.2.1, A4, c4, x.2.2.2.2, hcs0, e4, f4⟩
  obtain rfl : b0 = #[.int .i64 a0_0, .int .i64 a0_1, .int .i64 a0_2, .int .i64 a0_3, .slice A0_4 l0_4.length c0_4] := by apply Array.ext'; rw [hcs]
  clear hcs
  clear hA0 hval0 hsz0
  obtain ⟨k, hk⟩ := Pure.FnExactMsgOk a0_0 a0_1 a0_2 a0_3 l0_4 hr0_4.2.1
  refine (Hp.laws_FnExactMsgOk.calls k a0_0 a0_1 a0_2 a0_3 A0_4 c0_4 l0_4 true W hr0_4 hc0_4 hk).mono fun e W' ⟨he, bel0⟩ => ?_
  have bel : Below W.heap.size W W' := by first | exact bel0 | exact bel0.below
  subst he
  exact ⟨_, rfl, _, _, _, [], _, [], hW', trodAll_mk1 (shut_bool Try.underlying4 _), (trodAll_cons_mk (Below.trod laidOut (by kernel_rfl) (of_decide_eq_true (by kernel_rfl)) k0 bel lt0) trodAll_mk0), rfl, bel.frame _, fun h => by cases h⟩
set_option maxRecDepth 100000 in
theorem closed : joinedFacts Try.pinned.checked.prog 4 Try.f4 Rows.fnExactMsgOkSpec Rows.fnExactMsgOkRow = true := by
  unfold joinedFacts
  repeat' (with_reducible refine Bool.and_eq_true_iff.2 ⟨?_, ?_⟩)
  all_goals first
    | with_reducible exact Init.enters
    | (rw [Init.lifts]; as_aux_lemma => kernel_rfl)
    | (rw [Init.make]; as_aux_lemma => kernel_rfl)
    | (as_aux_lemma => kernel_rfl)
theorem over : Rows.fnExactMsgOkRow.holds Try.pinned (OpenSpec.ofChange Rows.fnExactMsgOkSpec) :=
  OpenClaim.holds_of_wide 4 Try.f4 rfl rfl rfl rfl rfl rfl rfl ⟨rfl, rfl, rfl, rfl, rfl⟩ rfl rfl rfl rfl rfl (by kernel_rfl) Try.func4 closed
    (of_decide_eq_true (by kernel_rfl)) (by unfold Func.isWrapper; first | (rw [if_pos (by decide +kernel)]; kernel_rfl) | (rw [if_neg (by decide +kernel)]; exact ⟨rfl, rfl⟩))
    (fun os started H enc _ => lifted os started H enc)
theorem proved : Rows.FnExactMsgOkSaid := over
#print axioms proved
end Go.Proofs.Ytbiknbjcidlabaa.fnExactMsgOk
namespace Go.Proofs.Ytbiknbjcidlabaa
/-- The row, under a short name, for the claim. -/
theorem fnExactMsgOk_holds : Rows.FnExactMsgOkSaid := fnExactMsgOk.proved
end Go.Proofs.Ytbiknbjcidlabaa
