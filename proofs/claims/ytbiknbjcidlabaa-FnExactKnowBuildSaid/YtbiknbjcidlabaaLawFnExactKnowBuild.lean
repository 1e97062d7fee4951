-- Printed by wip/tools/hp.py of this session (the kit's print.py, with contracts typed by hand beside).
import Derived.Test.YtbiknbjcidlabaaRows
import Derived.Test.YtbiknbjcidlabaaInit
import Derived.Test.YtbiknbjcidlabaaHx61
import Derived.Test.YtbiknbjcidlabaaPureFnExactKnowBuild
import Derived.Test.YtbiknbjcidlabaaOp
import Derived.WalkKit
import Derived.ProofKit
import Derived.OpenShut
import Derived.ShutString
import Derived.ChangeOld
import Derived.Below
import Derived.SizedLaws
import Derived.Carry
namespace Go.Proofs.Ytbiknbjcidlabaa.fnExactKnowBuild
open Go.ChangeShapes Go.WideShapes Go.ChangeAt Go.RowKit Go.Proofs.Ytbiknbjcidlabaa Go.Proofs.Ytbiknbjcidlabaa.Hp Go.Proofs.YtbiknbjcidlabaaW.PrintWords
open Go.ChangeMaps (open_string shut_string)
set_option linter.unusedVariables false
set_option linter.unusedSimpArgs false
theorem own : ownKnob Try.prog.godebug = none := by kernel_rfl
theorem laidOut : laidOutB Try.prog = true := by kernel_rfl
theorem o77 : Op.Opens Try.prog 77 k77 := by
  unfold k77
  exact Op.opens_iso (g := fun p => ⟨p.1, p.2.1, p.2.2.1, p.2.2.2.1, p.2.2.2.2.1, p.2.2.2.2.2.1, p.2.2.2.2.2.2⟩) (fun _ => rfl) (Op.opens_struct Try.underlying77 (by kernel_rfl) (Op.fields_cons rfl (Op.opens_int Try.underlying3 (by kernel_rfl)) (Op.fields_cons rfl (Op.opens_int Try.underlying3 (by kernel_rfl)) (Op.fields_cons rfl (Op.opens_int Try.underlying3 (by kernel_rfl)) (Op.fields_cons rfl (Op.opens_int Try.underlying3 (by kernel_rfl)) (Op.fields_cons rfl (Op.opens_int Try.underlying3 (by kernel_rfl)) (Op.fields_cons rfl (Op.opens_int Try.underlying3 (by kernel_rfl)) (Op.fields_last rfl (Op.opens_int Try.underlying3 (by kernel_rfl))))))))))
set_option maxRecDepth 100000 in
theorem lifted (os : Os) (started : os.Started) (H : Type) (enc : TypeId × Value → H) :
    ReturnsInHanded {} Try.checked os 17 .any (Rows.fnExactKnowBuildSpec.pre6 enc Try.prog Try.f17 Rows.fnExactKnowBuildRow.domain false) (Rows.fnExactKnowBuildSpec.post enc Try.prog Try.f17 false true false false) := by
  refine returnsInHanded_of_change_sized (C := Try.checked) own started (by kernel_rfl) Try.func17
    (ChangeSpec.witness6 (enc := enc) (C := Try.checked) false ⟨#[], #[.slice none 0 0, .slice none 0 0, .agg #[.int .i64 0, .int .i64 0, .int .i64 0, .int .i64 0, .slice none 0 0]], []⟩ 8 (by kernel_rfl) (by kernel_rfl) (by kernel_rfl) (by kernel_rfl)) ?_
  intro W base args ds gs before hval0 hW hcnd hsz0 _
  have hval : ∀ (j : Nat) t v, Try.f17.params[j]? = some t → args[j]? = some v → Value.okWide Try.prog W .any base t v := hval0
  have hW' := hW
  obtain ⟨p, q, hA0, hV, rfl, hfz, hnd⟩ := hW
  have hA : DataW.TrodAll enc Try.prog W 0 (fun _ => true) true Try.f17.params.toList args.toList ds p := hA0
  rw [Try.params17] at hA hval
  obtain ⟨v0, vs0, d0, ds0, p0, q0, hargs, rfl, rfl, h0, r0⟩ := trodAll_cons hA
  obtain ⟨v1, vs1, d1, ds1, p1, q1, rfl, rfl, rfl, h1, r1⟩ := trodAll_cons r0
  obtain ⟨v2, vs2, d2, ds2, p2, q2, rfl, rfl, rfl, h2, r2⟩ := trodAll_cons r1
  obtain ⟨rfl, rfl, rfl⟩ := trodAll_nil r2
  obtain rfl : args = #[v0, v1, v2] := by cases args; simp_all
  obtain ⟨rfl, rfl⟩ := trodVars_none hV
  have k0 := h0
  have lt0 : ∀ x ∈ p0, x.block < W.heap.size := by obtain ⟨m, hm⟩ := k0; exact DataW.trod_lt m _ _ _ hm
  obtain ⟨b0, b1, b2, rfl⟩ := okWide_slice Try.underlying41 (hval 0 41 v0 rfl rfl)
  obtain ⟨l0, A0, c0, hcs, hc0, hr0⟩ : ∃ (l : List _) (A : Option Addr) (c : Nat), (Value.slice b0 b1 b2).cells.toList = [.slice A l.length c] ∧ l.length ≤ c ∧ Kd.C (Kd.int .i64) W A l.length l := by
    obtain ⟨fuel, hf⟩ := h0
    obtain ⟨x, A, c, e1, e2, e3⟩ := ((Op.opens_slice Try.underlying41 (by kernel_rfl) (Op.opens_int Try.underlying3 (by kernel_rfl)))).2 enc W 0 _ _ fuel _ _ hf
    exact ⟨x, A, c, e1, e2, e3⟩
  simp [Value.cells] at hcs
  obtain ⟨e0_, e1_, e2_⟩ := hcs
  replace e0_ := e0_.symm
  replace e2_ := e2_.symm
  subst e0_ e1_ e2_
  have k1 := h1
  have lt1 : ∀ x ∈ p1, x.block < W.heap.size := by obtain ⟨m, hm⟩ := k1; exact DataW.trod_lt m _ _ _ hm
  obtain ⟨b0, b1, b2, rfl⟩ := okWide_slice Try.underlying29 (hval 1 29 v1 rfl rfl)
  obtain ⟨l1, A1, c1, hcs, hc1, hr1⟩ : ∃ (l : List _) (A : Option Addr) (c : Nat), (Value.slice b0 b1 b2).cells.toList = [.slice A l.length c] ∧ l.length ≤ c ∧ Kd.C k77 W A l.length l := by
    obtain ⟨fuel, hf⟩ := h1
    obtain ⟨x, A, c, e1, e2, e3⟩ := ((Op.opens_slice Try.underlying29 (by kernel_rfl) o77)).2 enc W 0 _ _ fuel _ _ hf
    exact ⟨x, A, c, e1, e2, e3⟩
  simp [Value.cells] at hcs
  obtain ⟨e0_, e1_, e2_⟩ := hcs
  replace e0_ := e0_.symm
  replace e2_ := e2_.symm
  subst e0_ e1_ e2_
  have k2 := h2
  have lt2 : ∀ x ∈ p2, x.block < W.heap.size := by obtain ⟨m, hm⟩ := k2; exact DataW.trod_lt m _ _ _ hm
  obtain ⟨b0, rfl, _⟩ := okWide_struct Try.underlying31 (hval 2 31 v2 rfl rfl)
  obtain ⟨a2_0, a2_1, a2_2, a2_3, A2_4, c2_4, l2_4, hcs, hc2_4, hr2_4⟩ : ∃ (a2_0 : Int) (a2_1 : Int) (a2_2 : Int) (a2_3 : Int) (A2_4 : Option Addr) (c2_4 : Nat) (l2_4 : List (S77)), b0.toList = [.int .i64 a2_0, .int .i64 a2_1, .int .i64 a2_2, .int .i64 a2_3, .slice A2_4 l2_4.length c2_4] ∧ l2_4.length ≤ c2_4 ∧ Kd.C k77 W A2_4 l2_4.length l2_4 := by
    obtain ⟨fuel, hf⟩ := h2
    obtain ⟨x, hx⟩ := (Op.opens_struct Try.underlying31 (by kernel_rfl) (Op.fields_cons rfl (Op.opens_int Try.underlying3 (by kernel_rfl)) (Op.fields_cons rfl (Op.opens_int Try.underlying3 (by kernel_rfl)) (Op.fields_cons rfl (Op.opens_int Try.underlying3 (by kernel_rfl)) (Op.fields_cons rfl (Op.opens_int Try.underlying3 (by kernel_rfl)) (Op.fields_last rfl (Op.opens_slice Try.underlying29 (by kernel_rfl) o77))))))).2 enc W 0 _ _ fuel _ _ hf
    obtain ⟨_, _, hcs0, rfl, ⟨_, _, rfl, rfl, ⟨_, _, rfl, rfl, ⟨_, _, rfl, rfl, ⟨A4, c4, rfl, e4, f4⟩⟩⟩⟩⟩ := hx
    exact ⟨x.1, x.2.1, x.2.2.1, x.2.2.2.1, A4, c4, x.2.2.2.2, hcs0, e4, f4⟩
  obtain rfl : b0 = #[.int .i64 a2_0, .int .i64 a2_1, .int .i64 a2_2, .int .i64 a2_3, .slice A2_4 l2_4.length c2_4] := by apply Array.ext'; rw [hcs]
  clear hcs
  clear hA0 hval0 hsz0
  obtain ⟨k, hk⟩ := Pure.FnExactKnowBuild l0 l1 a2_0 a2_1 a2_2 a2_3 l2_4 hr0.2.1 hr1.2.1 hr2_4.2.1
  refine (Hp.laws_FnExactKnowBuild.calls k A0 c0 l0 A1 c1 l1 a2_0 a2_1 a2_2 a2_3 A2_4 c2_4 l2_4 true W hr0 hc0 hr1 hc1 hr2_4 hc2_4 hk).mono fun e W' ⟨he, bel0⟩ => ?_
  have bel : Below W.heap.size W W' := by first | exact bel0 | exact bel0.below
  subst he
  exact ⟨_, rfl, _, _, _, [], _, [], hW', trodAll_mk1 (shut_bool Try.underlying4 _), (trodAll_cons_mk (Below.trod laidOut (by kernel_rfl) (of_decide_eq_true (by kernel_rfl)) k0 bel lt0) (trodAll_cons_mk (Below.trod laidOut (by kernel_rfl) (of_decide_eq_true (by kernel_rfl)) k1 bel lt1) (trodAll_cons_mk (Below.trod laidOut (by kernel_rfl) (of_decide_eq_true (by kernel_rfl)) k2 bel lt2) trodAll_mk0))), rfl, bel.frame _, fun h => by cases h⟩
set_option maxRecDepth 100000 in
theorem closed : joinedFacts Try.pinned.checked.prog 17 Try.f17 Rows.fnExactKnowBuildSpec Rows.fnExactKnowBuildRow = true := by
  unfold joinedFacts
  repeat' (with_reducible refine Bool.and_eq_true_iff.2 ⟨?_, ?_⟩)
  all_goals first
    | with_reducible exact Init.enters
    | (rw [Init.lifts]; as_aux_lemma => kernel_rfl)
    | (rw [Init.make]; as_aux_lemma => kernel_rfl)
    | (as_aux_lemma => kernel_rfl)
theorem over : Rows.fnExactKnowBuildRow.holds Try.pinned (OpenSpec.ofChange Rows.fnExactKnowBuildSpec) :=
  OpenClaim.holds_of_wide 17 Try.f17 rfl rfl rfl rfl rfl rfl rfl ⟨rfl, rfl, rfl, rfl, rfl⟩ rfl rfl rfl rfl rfl (by kernel_rfl) Try.func17 closed
    (of_decide_eq_true (by kernel_rfl)) (by unfold Func.isWrapper; first | (rw [if_pos (by decide +kernel)]; kernel_rfl) | (rw [if_neg (by decide +kernel)]; exact ⟨rfl, rfl⟩))
    (fun os started H enc _ => lifted os started H enc)
theorem proved : Rows.FnExactKnowBuildSaid := over
#print axioms proved
end Go.Proofs.Ytbiknbjcidlabaa.fnExactKnowBuild
namespace Go.Proofs.Ytbiknbjcidlabaa
/-- The row, under a short name, for the claim. -/
theorem fnExactKnowBuild_holds : Rows.FnExactKnowBuildSaid := fnExactKnowBuild.proved
end Go.Proofs.Ytbiknbjcidlabaa
