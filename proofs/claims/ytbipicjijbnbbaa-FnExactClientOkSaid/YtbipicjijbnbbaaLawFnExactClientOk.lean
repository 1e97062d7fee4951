-- hp.py
import Derived.Test.YtbipicjijbnbbaaRows
import Derived.Test.YtbipicjijbnbbaaInit
import Derived.Test.YtbipicjijbnbbaaHx28
import Derived.Test.YtbipicjijbnbbaaPureFnExactClientOk
import Derived.Test.YtbipicjijbnbbaaOp
import Derived.WalkKit
import Derived.ProofKit
import Derived.OpenShut
import Derived.ShutString
import Derived.ChangeOld
import Derived.Below
import Derived.SizedLaws
import Derived.Carry
namespace Go.Proofs.Ytbipicjijbnbbaa.fnExactClientOk
open Go.ChangeShapes Go.WideShapes Go.ChangeAt Go.RowKit Go.Proofs.Ytbipicjijbnbbaa Go.Proofs.Ytbipicjijbnbbaa.Hp Go.Proofs.YtbipicjijbnbbaaW.PrintWords
open Go.ChangeMaps (open_string shut_string)
set_option linter.unusedVariables false
set_option linter.unusedSimpArgs false
theorem own : ownKnob Try.prog.godebug = none := by kernel_rfl
theorem laidOut : laidOutB Try.prog = true := by kernel_rfl
theorem o58 : Op.Opens Try.prog 58 k58 := by
  unfold k58
  exact Op.opens_iso (g := fun p => ⟨p.1, p.2.1, p.2.2.1, p.2.2.2.1, p.2.2.2.2.1, p.2.2.2.2.2.1, p.2.2.2.2.2.2⟩) (fun _ => rfl) (Op.opens_struct Try.underlying58 (by kernel_rfl) (Op.fields_cons rfl (Op.opens_int Try.underlying3 (by kernel_rfl)) (Op.fields_cons rfl (Op.opens_int Try.underlying3 (by kernel_rfl)) (Op.fields_cons rfl (Op.opens_int Try.underlying3 (by kernel_rfl)) (Op.fields_cons rfl (Op.opens_int Try.underlying3 (by kernel_rfl)) (Op.fields_cons rfl (Op.opens_int Try.underlying3 (by kernel_rfl)) (Op.fields_cons rfl (Op.opens_int Try.underlying3 (by kernel_rfl)) (Op.fields_last rfl (Op.opens_int Try.underlying3 (by kernel_rfl))))))))))
theorem o179 : Op.Opens Try.prog 179 k179 := by
  unfold k179
  exact Op.opens_iso (g := fun p => ⟨p.1, p.2.1, p.2.2.1, p.2.2.2⟩) (fun _ => rfl) (Op.opens_struct Try.underlying179 (by kernel_rfl) (Op.fields_cons rfl (Op.opens_int Try.underlying3 (by kernel_rfl)) (Op.fields_cons rfl (Op.opens_int Try.underlying3 (by kernel_rfl)) (Op.fields_cons rfl (Op.opens_int Try.underlying3 (by kernel_rfl)) (Op.fields_last rfl (Op.opens_int Try.underlying3 (by kernel_rfl)))))))
theorem o177 : Op.Opens Try.prog 177 k177 := by
  unfold k177
  exact Op.opens_iso (g := fun p => ⟨p.1, p.2.1, p.2.2.1, p.2.2.2⟩) (fun _ => rfl) (Op.opens_struct Try.underlying177 (by kernel_rfl) (Op.fields_cons rfl (Op.opens_int Try.underlying3 (by kernel_rfl)) (Op.fields_cons rfl (Op.opens_int Try.underlying3 (by kernel_rfl)) (Op.fields_cons rfl (Op.opens_int Try.underlying3 (by kernel_rfl)) (Op.fields_last rfl o58)))))
theorem o174 : Op.Opens Try.prog 174 k174 := by
  unfold k174
  exact Op.opens_iso (g := fun p => ⟨p.1, p.2⟩) (fun _ => rfl) (Op.opens_struct Try.underlying174 (by kernel_rfl) (Op.fields_cons rfl (Op.opens_int Try.underlying3 (by kernel_rfl)) (Op.fields_last rfl (Op.opens_int Try.underlying3 (by kernel_rfl)))))
set_option maxRecDepth 100000 in
theorem lifted (os : Os) (started : os.Started) (H : Type) (enc : TypeId × Value → H) :
    ReturnsInHanded {} Try.checked os 9 .any (Rows.fnExactClientOkSpec.pre6 enc Try.prog Try.f9 Rows.fnExactClientOkRow.domain false) (Rows.fnExactClientOkSpec.post enc Try.prog Try.f9 false true false false) := by
  refine returnsInHanded_of_change_sized (C := Try.checked) own started (by kernel_rfl) Try.func9
    (ChangeSpec.witness6 (enc := enc) (C := Try.checked) false ⟨#[], #[.agg #[.int .i64 0, .int .i64 0, .slice none 0 0, .slice none 0 0, .slice none 0 0, .slice none 0 0]], []⟩ 8 (by kernel_rfl) (by kernel_rfl) (by kernel_rfl) (by kernel_rfl)) ?_
  intro W base args ds gs before hval0 hW hcnd hsz0 _
  have hval : ∀ (j : Nat) t v, Try.f9.params[j]? = some t → args[j]? = some v → Value.okWide Try.prog W .any base t v := hval0
  have hW' := hW
  obtain ⟨p, q, hA0, hV, rfl, hfz, hnd⟩ := hW
  have hA : DataW.TrodAll enc Try.prog W 0 (fun _ => true) true Try.f9.params.toList args.toList ds p := hA0
  rw [Try.params9] at hA hval
  obtain ⟨v0, vs0, d0, ds0, p0, q0, hargs, rfl, rfl, h0, r0⟩ := trodAll_cons hA
  obtain ⟨rfl, rfl, rfl⟩ := trodAll_nil r0
  obtain rfl : args = #[v0] := by cases args; simp_all
  obtain ⟨rfl, rfl⟩ := trodVars_none hV
  have k0 := h0
  have lt0 : ∀ x ∈ p0, x.block < W.heap.size := by obtain ⟨m, hm⟩ := k0; exact DataW.trod_lt m _ _ _ hm
  obtain ⟨b0, rfl, _⟩ := okWide_struct Try.underlying80 (hval 0 80 v0 rfl rfl)
  obtain ⟨a0_0, a0_1, A0_2, c0_2, l0_2, A0_3, c0_3, l0_3, A0_4, c0_4, l0_4, A0_5, c0_5, l0_5, hcs, hc0_2, hr0_2, hc0_3, hr0_3, hc0_4, hr0_4, hc0_5, hr0_5⟩ : ∃ (a0_0 : Int) (a0_1 : Int) (A0_2 : Option Addr) (c0_2 : Nat) (l0_2 : List (S174)) (A0_3 : Option Addr) (c0_3 : Nat) (l0_3 : List (S177)) (A0_4 : Option Addr) (c0_4 : Nat) (l0_4 : List (S179)) (A0_5 : Option Addr) (c0_5 : Nat) (l0_5 : List (S179)), b0.toList = [.int .i64 a0_0, .int .i64 a0_1, .slice A0_2 l0_2.length c0_2, .slice A0_3 l0_3.length c0_3, .slice A0_4 l0_4.length c0_4, .slice A0_5 l0_5.length c0_5] ∧ l0_2.length ≤ c0_2 ∧ Kd.C k174 W A0_2 l0_2.length l0_2 ∧ l0_3.length ≤ c0_3 ∧ Kd.C k177 W A0_3 l0_3.length l0_3 ∧ l0_4.length ≤ c0_4 ∧ Kd.C k179 W A0_4 l0_4.length l0_4 ∧ l0_5.length ≤ c0_5 ∧ Kd.C k179 W A0_5 l0_5.length l0_5 := by
    obtain ⟨fuel, hf⟩ := h0
    obtain ⟨x, hx⟩ := (Op.opens_struct Try.underlying80 (by kernel_rfl) (Op.fields_cons rfl (Op.opens_int Try.underlying3 (by kernel_rfl)) (Op.fields_cons rfl (Op.opens_int Try.underlying3 (by kernel_rfl)) (Op.fields_cons rfl (Op.opens_slice Try.underlying76 (by kernel_rfl) o174) (Op.fields_cons rfl (Op.opens_slice Try.underlying77 (by kernel_rfl) o177) (Op.fields_cons rfl (Op.opens_slice Try.underlying78 (by kernel_rfl) o179) (Op.fields_last rfl (Op.opens_slice Try.underlying78 (by kernel_rfl) o179)))))))).2 enc W 0 _ _ fuel _ _ hf
    obtain ⟨_, _, hcs0, rfl, ⟨_, _, rfl, rfl, ⟨_, _, rfl, ⟨A2, c2, rfl, e2, f2⟩, ⟨_, _, rfl, ⟨A3, c3, rfl, e3, f3⟩, ⟨_, _, rfl, ⟨A4, c4, rfl, e4, f4⟩, ⟨A5, c5, rfl, e5, f5⟩⟩⟩⟩⟩⟩ := hx
    exact ⟨x.1, x.2.1, A2, c2, x.2.2.1, A3, c3, x.2.2.2.1, A4, c4, x.2.2.2.2.1, A5, c5, x.2.2.2.2.2, hcs0, e2, f2, e3, f3, e4, f4, e5, f5⟩
  obtain rfl : b0 = #[.int .i64 a0_0, .int .i64 a0_1, .slice A0_2 l0_2.length c0_2, .slice A0_3 l0_3.length c0_3, .slice A0_4 l0_4.length c0_4, .slice A0_5 l0_5.length c0_5] := by apply Array.ext'; rw [hcs]
  clear hcs
  clear hA0 hval0 hsz0
  obtain ⟨k, hk⟩ := Pure.FnExactClientOk a0_0 a0_1 l0_2 l0_3 l0_4 l0_5 hr0_2.2.1 hr0_3.2.1 hr0_4.2.1 hr0_5.2.1
  refine (Hp.laws_FnExactClientOk.calls k a0_0 a0_1 A0_2 c0_2 l0_2 A0_3 c0_3 l0_3 A0_4 c0_4 l0_4 A0_5 c0_5 l0_5 true W hr0_2 hc0_2 hr0_3 hc0_3 hr0_4 hc0_4 hr0_5 hc0_5 hk).mono fun e W' ⟨he, bel0⟩ => ?_
  have bel : Below W.heap.size W W' := by first | exact bel0 | exact bel0.below
  subst he
  exact ⟨_, rfl, _, _, _, [], _, [], hW', trodAll_mk1 (shut_bool Try.underlying4 _), (trodAll_cons_mk (Below.trod laidOut (by kernel_rfl) (of_decide_eq_true (by kernel_rfl)) k0 bel lt0) trodAll_mk0), rfl, bel.frame _, fun h => by cases h⟩
set_option maxHeartbeats 4000000 in
set_option maxRecDepth 100000 in
theorem closed : joinedFacts Try.pinned.checked.prog 9 Try.f9 Rows.fnExactClientOkSpec Rows.fnExactClientOkRow = true := by
  unfold joinedFacts
  repeat' (with_reducible refine Bool.and_eq_true_iff.2 ⟨?_, ?_⟩)
  all_goals first
    | with_reducible exact Init.enters
    | (rw [Init.lifts]; as_aux_lemma => kernel_rfl)
    | (rw [Init.make]; as_aux_lemma => kernel_rfl)
    | (as_aux_lemma => kernel_rfl)
theorem over : Rows.fnExactClientOkRow.holds Try.pinned (OpenSpec.ofChange Rows.fnExactClientOkSpec) :=
  OpenClaim.holds_of_wide 9 Try.f9 rfl rfl rfl rfl rfl rfl rfl ⟨rfl, rfl, rfl, rfl, rfl⟩ rfl rfl rfl rfl rfl (by kernel_rfl) Try.func9 closed
    (of_decide_eq_true (by kernel_rfl)) (by unfold Func.isWrapper; first | (rw [if_pos (by decide +kernel)]; kernel_rfl) | (rw [if_neg (by decide +kernel)]; exact ⟨rfl, rfl⟩))
    (fun os started H enc _ => lifted os started H enc)
theorem proved : Rows.FnExactClientOkSaid := over
#print axioms proved
end Go.Proofs.Ytbipicjijbnbbaa.fnExactClientOk
namespace Go.Proofs.Ytbipicjijbnbbaa
/-- The row, under a short name, for the claim. -/
theorem fnExactClientOk_holds : Rows.FnExactClientOkSaid := fnExactClientOk.proved
end Go.Proofs.Ytbipicjijbnbbaa
