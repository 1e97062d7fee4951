-- hp.py
import Derived.Test.YtbipicjijbnbbaaRows
import Derived.Test.YtbipicjijbnbbaaInit
import Derived.Test.YtbipicjijbnbbaaHx41
import Derived.Test.YtbipicjijbnbbaaPureFnExactKnowKeys
import Derived.Test.YtbipicjijbnbbaaOp
import Derived.WalkKit
import Derived.ProofKit
import Derived.OpenShut
import Derived.ShutString
import Derived.ChangeOld
import Derived.Below
import Derived.SizedLaws
import Derived.Carry
namespace Go.Proofs.Ytbipicjijbnbbaa.fnExactKnowKeys
open Go.ChangeShapes Go.WideShapes Go.ChangeAt Go.RowKit Go.Proofs.Ytbipicjijbnbbaa Go.Proofs.Ytbipicjijbnbbaa.Hp Go.Proofs.YtbipicjijbnbbaaW.PrintWords
open Go.ChangeMaps (open_string shut_string)
set_option linter.unusedVariables false
set_option linter.unusedSimpArgs false
theorem own : ownKnob Try.prog.godebug = none := by kernel_rfl
theorem laidOut : laidOutB Try.prog = true := by kernel_rfl
theorem o58 : Op.Opens Try.prog 58 k58 := by
  unfold k58
  exact Op.opens_iso (g := fun p => ⟨p.1, p.2.1, p.2.2.1, p.2.2.2.1, p.2.2.2.2.1, p.2.2.2.2.2.1, p.2.2.2.2.2.2⟩) (fun _ => rfl) (Op.opens_struct Try.underlying58 (by kernel_rfl) (Op.fields_cons rfl (Op.opens_int Try.underlying3 (by kernel_rfl)) (Op.fields_cons rfl (Op.opens_int Try.underlying3 (by kernel_rfl)) (Op.fields_cons rfl (Op.opens_int Try.underlying3 (by kernel_rfl)) (Op.fields_cons rfl (Op.opens_int Try.underlying3 (by kernel_rfl)) (Op.fields_cons rfl (Op.opens_int Try.underlying3 (by kernel_rfl)) (Op.fields_cons rfl (Op.opens_int Try.underlying3 (by kernel_rfl)) (Op.fields_last rfl (Op.opens_int Try.underlying3 (by kernel_rfl))))))))))
set_option maxRecDepth 100000 in
theorem lifted (os : Os) (started : os.Started) (H : Type) (enc : TypeId × Value → H) :
    ReturnsInHanded {} Try.checked os 5 .any (Rows.fnExactKnowKeysSpec.pre6 enc Try.prog Try.f5 Rows.fnExactKnowKeysRow.domain false) (Rows.fnExactKnowKeysSpec.post enc Try.prog Try.f5 false true false false) := by
  refine returnsInHanded_of_change_sized (C := Try.checked) own started (by kernel_rfl) Try.func5
    (ChangeSpec.witness6 (enc := enc) (C := Try.checked) false ⟨#[], #[.slice none 0 0, .slice none 0 0], []⟩ 8 (by kernel_rfl) (by kernel_rfl) (by kernel_rfl) (by kernel_rfl)) ?_
  intro W base args ds gs before hval0 hW hcnd hsz0 _
  have hval : ∀ (j : Nat) t v, Try.f5.params[j]? = some t → args[j]? = some v → Value.okWide Try.prog W .any base t v := hval0
  have hW' := hW
  obtain ⟨p, q, hA0, hV, rfl, hfz, hnd⟩ := hW
  have hA : DataW.TrodAll enc Try.prog W 0 (fun _ => true) true Try.f5.params.toList args.toList ds p := hA0
  rw [Try.params5] at hA hval
  obtain ⟨v0, vs0, d0, ds0, p0, q0, hargs, rfl, rfl, h0, r0⟩ := trodAll_cons hA
  obtain ⟨v1, vs1, d1, ds1, p1, q1, rfl, rfl, rfl, h1, r1⟩ := trodAll_cons r0
  obtain ⟨rfl, rfl, rfl⟩ := trodAll_nil r1
  obtain rfl : args = #[v0, v1] := by cases args; simp_all
  obtain ⟨rfl, rfl⟩ := trodVars_none hV
  have k0 := h0
  have lt0 : ∀ x ∈ p0, x.block < W.heap.size := by obtain ⟨m, hm⟩ := k0; exact DataW.trod_lt m _ _ _ hm
  obtain ⟨b0, b1, b2, rfl⟩ := okWide_slice Try.underlying46 (hval 0 46 v0 rfl rfl)
  obtain ⟨l0, A0, c0, hcs, hc0, hr0⟩ : ∃ (l : List _) (A : Option Addr) (c : Nat), (Value.slice b0 b1 b2).cells.toList = [.slice A l.length c] ∧ l.length ≤ c ∧ Kd.C (Kd.int .i64) W A l.length l := by
    obtain ⟨fuel, hf⟩ := h0
    obtain ⟨x, A, c, e1, e2, e3⟩ := ((Op.opens_slice Try.underlying46 (by kernel_rfl) (Op.opens_int Try.underlying3 (by kernel_rfl)))).2 enc W 0 _ _ fuel _ _ hf
    exact ⟨x, A, c, e1, e2, e3⟩
  simp [Value.cells] at hcs
  obtain ⟨e0_, e1_, e2_⟩ := hcs
  replace e0_ := e0_.symm
  replace e2_ := e2_.symm
  subst e0_ e1_ e2_
  have k1 := h1
  have lt1 : ∀ x ∈ p1, x.block < W.heap.size := by obtain ⟨m, hm⟩ := k1; exact DataW.trod_lt m _ _ _ hm
  obtain ⟨b0, b1, b2, rfl⟩ := okWide_slice Try.underlying47 (hval 1 47 v1 rfl rfl)
  obtain ⟨l1, A1, c1, hcs, hc1, hr1⟩ : ∃ (l : List _) (A : Option Addr) (c : Nat), (Value.slice b0 b1 b2).cells.toList = [.slice A l.length c] ∧ l.length ≤ c ∧ Kd.C k58 W A l.length l := by
    obtain ⟨fuel, hf⟩ := h1
    obtain ⟨x, A, c, e1, e2, e3⟩ := ((Op.opens_slice Try.underlying47 (by kernel_rfl) o58)).2 enc W 0 _ _ fuel _ _ hf
    exact ⟨x, A, c, e1, e2, e3⟩
  simp [Value.cells] at hcs
  obtain ⟨e0_, e1_, e2_⟩ := hcs
  replace e0_ := e0_.symm
  replace e2_ := e2_.symm
  subst e0_ e1_ e2_
  clear hA0 hval0 hsz0
  obtain ⟨k, hk⟩ := Pure.FnExactKnowKeys l0 l1 hr0.2.1 hr1.2.1
  refine (Hp.laws_FnExactKnowKeys.calls k A0 c0 l0 A1 c1 l1 true W hr0 hc0 hr1 hc1 hk).mono fun e W' ⟨he, bel0⟩ => ?_
  have bel : Below W.heap.size W W' := by first | exact bel0 | exact bel0.below
  subst he
  exact ⟨_, rfl, _, _, _, [], _, [], hW', trodAll_mk1 (shut_bool Try.underlying4 _), (trodAll_cons_mk (Below.trod laidOut (by kernel_rfl) (of_decide_eq_true (by kernel_rfl)) k0 bel lt0) (trodAll_cons_mk (Below.trod laidOut (by kernel_rfl) (of_decide_eq_true (by kernel_rfl)) k1 bel lt1) trodAll_mk0)), rfl, bel.frame _, fun h => by cases h⟩
set_option maxHeartbeats 4000000 in
set_option maxRecDepth 100000 in
theorem closed : joinedFacts Try.pinned.checked.prog 5 Try.f5 Rows.fnExactKnowKeysSpec Rows.fnExactKnowKeysRow = true := by
  unfold joinedFacts
  repeat' (with_reducible refine Bool.and_eq_true_iff.2 ⟨?_, ?_⟩)
  all_goals first
    | with_reducible exact Init.enters
    | (rw [Init.lifts]; as_aux_lemma => kernel_rfl)
    | (rw [Init.make]; as_aux_lemma => kernel_rfl)
    | (as_aux_lemma => kernel_rfl)
theorem over : Rows.fnExactKnowKeysRow.holds Try.pinned (OpenSpec.ofChange Rows.fnExactKnowKeysSpec) :=
  OpenClaim.holds_of_wide 5 Try.f5 rfl rfl rfl rfl rfl rfl rfl ⟨rfl, rfl, rfl, rfl, rfl⟩ rfl rfl rfl rfl rfl (by kernel_rfl) Try.func5 closed
    (of_decide_eq_true (by kernel_rfl)) (by unfold Func.isWrapper; first | (rw [if_pos (by decide +kernel)]; kernel_rfl) | (rw [if_neg (by decide +kernel)]; exact ⟨rfl, rfl⟩))
    (fun os started H enc _ => lifted os started H enc)
theorem proved : Rows.FnExactKnowKeysSaid := over
#print axioms proved
end Go.Proofs.Ytbipicjijbnbbaa.fnExactKnowKeys
namespace Go.Proofs.Ytbipicjijbnbbaa
/-- The row, under a short name, for the claim. -/
theorem fnExactKnowKeys_holds : Rows.FnExactKnowKeysSaid := fnExactKnowKeys.proved
end Go.Proofs.Ytbipicjijbnbbaa
