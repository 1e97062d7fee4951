-- hp.py
import Derived.Test.YtbipicjijbnbbaaRows
import Derived.Test.YtbipicjijbnbbaaInit
import Derived.Test.YtbipicjijbnbbaaHx38
import Derived.Test.YtbipicjijbnbbaaPureFnExactKdcAs
import Derived.Test.YtbipicjijbnbbaaOp
import Derived.WalkKit
import Derived.ProofKit
import Derived.OpenShut
import Derived.ShutString
import Derived.ChangeOld
import Derived.Below
import Derived.SizedLaws
import Derived.Carry
namespace Go.Proofs.Ytbipicjijbnbbaa.fnExactKdcAs
open Go.ChangeShapes Go.WideShapes Go.ChangeAt Go.RowKit Go.Proofs.Ytbipicjijbnbbaa Go.Proofs.Ytbipicjijbnbbaa.Hp Go.Proofs.YtbipicjijbnbbaaW.PrintWords
open Go.ChangeMaps (open_string shut_string)
set_option linter.unusedVariables false
set_option linter.unusedSimpArgs false
theorem own : ownKnob Try.prog.godebug = none := by kernel_rfl
theorem laidOut : laidOutB Try.prog = true := by kernel_rfl
theorem o58 : Op.Opens Try.prog 58 k58 := by
  unfold k58
  exact Op.opens_iso (g := fun p => ⟨p.1, p.2.1, p.2.2.1, p.2.2.2.1, p.2.2.2.2.1, p.2.2.2.2.2.1, p.2.2.2.2.2.2⟩) (fun _ => rfl) (Op.opens_struct Try.underlying58 (by kernel_rfl) (Op.fields_cons rfl (Op.opens_int Try.underlying3 (by kernel_rfl)) (Op.fields_cons rfl (Op.opens_int Try.underlying3 (by kernel_rfl)) (Op.fields_cons rfl (Op.opens_int Try.underlying3 (by kernel_rfl)) (Op.fields_cons rfl (Op.opens_int Try.underlying3 (by kernel_rfl)) (Op.fields_cons rfl (Op.opens_int Try.underlying3 (by kernel_rfl)) (Op.fields_cons rfl (Op.opens_int Try.underlying3 (by kernel_rfl)) (Op.fields_last rfl (Op.opens_int Try.underlying3 (by kernel_rfl))))))))))
set_option maxRecDepth 100000 in
theorem lifted (os : Os) (started : os.Started) (H : Type) (enc : TypeId × Value → H) :
    ReturnsInHanded {} Try.checked os 10 .any (Rows.fnExactKdcAsSpec.pre6 enc Try.prog Try.f10 Rows.fnExactKdcAsRow.domain false) (Rows.fnExactKdcAsSpec.post enc Try.prog Try.f10 false true false false) := by
  refine returnsInHanded_of_change_sized (C := Try.checked) own started (by kernel_rfl) Try.func10
    (ChangeSpec.witness6 (enc := enc) (C := Try.checked) false ⟨#[], #[.agg #[.int .i64 0, .slice none 0 0], .agg #[.int .i64 0, .int .i64 0, .int .i64 0, .int .i64 0, .slice none 0 0], .int .i64 0], []⟩ 8 (by kernel_rfl) (by kernel_rfl) (by kernel_rfl) (by kernel_rfl)) ?_
  intro W base args ds gs before hval0 hW hcnd hsz0 _
  have hval : ∀ (j : Nat) t v, Try.f10.params[j]? = some t → args[j]? = some v → Value.okWide Try.prog W .any base t v := hval0
  have hW' := hW
  obtain ⟨p, q, hA0, hV, rfl, hfz, hnd⟩ := hW
  have hA : DataW.TrodAll enc Try.prog W 0 (fun _ => true) true Try.f10.params.toList args.toList ds p := hA0
  rw [Try.params10] at hA hval
  obtain ⟨v0, vs0, d0, ds0, p0, q0, hargs, rfl, rfl, h0, r0⟩ := trodAll_cons hA
  obtain ⟨v1, vs1, d1, ds1, p1, q1, rfl, rfl, rfl, h1, r1⟩ := trodAll_cons r0
  obtain ⟨v2, vs2, d2, ds2, p2, q2, rfl, rfl, rfl, h2, r2⟩ := trodAll_cons r1
  obtain ⟨rfl, rfl, rfl⟩ := trodAll_nil r2
  obtain rfl : args = #[v0, v1, v2] := by cases args; simp_all
  obtain ⟨rfl, rfl⟩ := trodVars_none hV
  have k0 := h0
  have lt0 : ∀ x ∈ p0, x.block < W.heap.size := by obtain ⟨m, hm⟩ := k0; exact DataW.trod_lt m _ _ _ hm
  obtain ⟨b0, rfl, _⟩ := okWide_struct Try.underlying85 (hval 0 85 v0 rfl rfl)
  obtain ⟨a0_0, A0_1, c0_1, l0_1, hcs, hc0_1, hr0_1⟩ : ∃ (a0_0 : Int) (A0_1 : Option Addr) (c0_1 : Nat) (l0_1 : List (S58)), b0.toList = [.int .i64 a0_0, .slice A0_1 l0_1.length c0_1] ∧ l0_1.length ≤ c0_1 ∧ Kd.C k58 W A0_1 l0_1.length l0_1 := by
    obtain ⟨fuel, hf⟩ := h0
    obtain ⟨x, hx⟩ := (Op.opens_struct Try.underlying85 (by kernel_rfl) (Op.fields_cons rfl (Op.opens_int Try.underlying3 (by kernel_rfl)) (Op.fields_last rfl (Op.opens_slice Try.underlying47 (by kernel_rfl) o58)))).2 enc W 0 _ _ fuel _ _ hf
    obtain ⟨_, _, hcs0, rfl, ⟨A1, c1, rfl, e1, f1⟩⟩ := hx
    exact ⟨x.1, A1, c1, x.2, hcs0, e1, f1⟩
  obtain rfl : b0 = #[.int .i64 a0_0, .slice A0_1 l0_1.length c0_1] := by apply Array.ext'; rw [hcs]
  clear hcs
  have k1 := h1
  have lt1 : ∀ x ∈ p1, x.block < W.heap.size := by obtain ⟨m, hm⟩ := k1; exact DataW.trod_lt m _ _ _ hm
  obtain ⟨b0, rfl, _⟩ := okWide_struct Try.underlying87 (hval 1 87 v1 rfl rfl)
  obtain ⟨a1_0, a1_1, a1_2, a1_3, A1_4, c1_4, l1_4, hcs, hc1_4, hr1_4⟩ : ∃ (a1_0 : Int) (a1_1 : Int) (a1_2 : Int) (a1_3 : Int) (A1_4 : Option Addr) (c1_4 : Nat) (l1_4 : List (S58)), b0.toList = [.int .i64 a1_0, .int .i64 a1_1, .int .i64 a1_2, .int .i64 a1_3, .slice A1_4 l1_4.length c1_4] ∧ l1_4.length ≤ c1_4 ∧ Kd.C k58 W A1_4 l1_4.length l1_4 := by
    obtain ⟨fuel, hf⟩ := h1
    obtain ⟨x, hx⟩ := (Op.opens_struct Try.underlying87 (by kernel_rfl) (Op.fields_cons rfl (Op.opens_int Try.underlying3 (by kernel_rfl)) (Op.fields_cons rfl (Op.opens_int Try.underlying3 (by kernel_rfl)) (Op.fields_cons rfl (Op.opens_int Try.underlying3 (by kernel_rfl)) (Op.fields_cons rfl (Op.opens_int Try.underlying3 (by kernel_rfl)) (Op.fields_last rfl (Op.opens_slice Try.underlying47 (by kernel_rfl) o58))))))).2 enc W 0 _ _ fuel _ _ hf
    obtain ⟨_, _, hcs0, rfl, ⟨_, _, rfl, rfl, ⟨_, _, rfl, rfl, ⟨_, _, rfl, rfl, ⟨A4, c4, rfl, e4, f4⟩⟩⟩⟩⟩ := hx
    exact ⟨x.1, x.2.1, x.2.2.1, x.2.2.2.1, A4, c4, x.2.2.2.2, hcs0, e4, f4⟩
  obtain rfl : b0 = #[.int .i64 a1_0, .int .i64 a1_1, .int .i64 a1_2, .int .i64 a1_3, .slice A1_4 l1_4.length c1_4] := by apply Array.ext'; rw [hcs]
  clear hcs
  obtain ⟨a2, rfl, rfl, rfl, w2⟩ := open_int Try.underlying3 (hval 2 3 v2 rfl rfl) h2
  clear hA0 hval0 hsz0
  have hk := Pure.FnExactKdcAs a0_0 l0_1 a1_0 a1_1 a1_2 a1_3 l1_4 a2 hr0_1.2.1 hr1_4.2.1 w2
  refine (Hp.laws_FnExactKdcAs.calls a0_0 A0_1 c0_1 l0_1 a1_0 a1_1 a1_2 a1_3 A1_4 c1_4 l1_4 a2 true W hr0_1 hc0_1 hr1_4 hc1_4 hk).mono fun e W' ⟨he, bel0⟩ => ?_
  have bel : Below W.heap.size W W' := by first | exact bel0 | exact bel0.below
  subst he
  exact ⟨_, rfl, _, _, _, [], _, [], hW', trodAll_mk1 (shut_bool Try.underlying4 _), (trodAll_cons_mk (Below.trod laidOut (by kernel_rfl) (of_decide_eq_true (by kernel_rfl)) k0 bel lt0) (trodAll_cons_mk (Below.trod laidOut (by kernel_rfl) (of_decide_eq_true (by kernel_rfl)) k1 bel lt1) (trodAll_cons_mk (shut_int Try.underlying3 w2) trodAll_mk0))), rfl, bel.frame _, fun h => by cases h⟩
set_option maxHeartbeats 4000000 in
set_option maxRecDepth 100000 in
theorem closed : joinedFacts Try.pinned.checked.prog 10 Try.f10 Rows.fnExactKdcAsSpec Rows.fnExactKdcAsRow = true := by
  unfold joinedFacts
  repeat' (with_reducible refine Bool.and_eq_true_iff.2 ⟨?_, ?_⟩)
  all_goals first
    | with_reducible exact Init.enters
    | (rw [Init.lifts]; as_aux_lemma => kernel_rfl)
    | (rw [Init.make]; as_aux_lemma => kernel_rfl)
    | (as_aux_lemma => kernel_rfl)
theorem over : Rows.fnExactKdcAsRow.holds Try.pinned (OpenSpec.ofChange Rows.fnExactKdcAsSpec) :=
  OpenClaim.holds_of_wide 10 Try.f10 rfl rfl rfl rfl rfl rfl rfl ⟨rfl, rfl, rfl, rfl, rfl⟩ rfl rfl rfl rfl rfl (by kernel_rfl) Try.func10 closed
    (of_decide_eq_true (by kernel_rfl)) (by unfold Func.isWrapper; first | (rw [if_pos (by decide +kernel)]; kernel_rfl) | (rw [if_neg (by decide +kernel)]; exact ⟨rfl, rfl⟩))
    (fun os started H enc _ => lifted os started H enc)
theorem proved : Rows.FnExactKdcAsSaid := over
#print axioms proved
end Go.Proofs.Ytbipicjijbnbbaa.fnExactKdcAs
namespace Go.Proofs.Ytbipicjijbnbbaa
/-- The row, under a short name, for the claim. -/
theorem fnExactKdcAs_holds : Rows.FnExactKdcAsSaid := fnExactKdcAs.proved
end Go.Proofs.Ytbipicjijbnbbaa
