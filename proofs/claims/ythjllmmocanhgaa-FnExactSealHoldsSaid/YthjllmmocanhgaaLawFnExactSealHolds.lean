-- Printed by wip/tools/hp.py of this session (the kit's print.py, with contracts typed by hand beside).
import Derived.Test.YthjllmmocanhgaaRows
import Derived.Test.YthjllmmocanhgaaHx7
import Derived.Test.YthjllmmocanhgaaPureFnExactSealHolds
import Derived.Test.YthjllmmocanhgaaOp
import Derived.WalkKit
import Derived.ProofKit
import Derived.OpenShut
import Derived.ShutString
import Derived.ChangeOld
import Derived.Below
import Derived.SizedLaws
import Derived.Carry
namespace Go.Proofs.Ythjllmmocanhgaa.fnExactSealHolds
open Go.ChangeShapes Go.WideShapes Go.ChangeAt Go.RowKit Go.Proofs.Ythjllmmocanhgaa Go.Proofs.Ythjllmmocanhgaa.Hp Go.Proofs.YthjllmmocanhgaaW.PrintWords
open Go.ChangeMaps (open_string shut_string)
set_option linter.unusedVariables false
set_option linter.unusedSimpArgs false
theorem own : ownKnob Try.prog.godebug = none := by kernel_rfl
theorem laidOut : laidOutB Try.prog = true := by kernel_rfl
set_option maxRecDepth 100000 in
theorem lifted (os : Os) (started : os.Started) (H : Type) (enc : TypeId × Value → H) :
    ReturnsInHanded {} Try.checked os 5 .any (Rows.fnExactSealHoldsSpec.pre6 enc Try.prog Try.f5 Rows.fnExactSealHoldsRow.domain false) (Rows.fnExactSealHoldsSpec.post enc Try.prog Try.f5 false true false false) := by
  refine returnsInHanded_of_change_sized (C := Try.checked) own started (by kernel_rfl) Try.func5
    (ChangeSpec.witness6 (enc := enc) (C := Try.checked) false ⟨#[], #[.agg #[.int .i64 0, .int .i64 0, .int .i64 0, .int .i64 0, .int .i64 0, .int .i64 0, .int .i64 0]], []⟩ 8 (by kernel_rfl) (by kernel_rfl) (by kernel_rfl) (by kernel_rfl)) ?_
  intro W base args ds gs before hval0 hW hcnd hsz0 _
  have hval : ∀ (j : Nat) t v, Try.f5.params[j]? = some t → args[j]? = some v → Value.okWide Try.prog W .any base t v := hval0
  have hW' := hW
  obtain ⟨p, q, hA0, hV, rfl, hfz, hnd⟩ := hW
  have hA : DataW.TrodAll enc Try.prog W 0 (fun _ => true) true Try.f5.params.toList args.toList ds p := hA0
  rw [Try.params5] at hA hval
  obtain ⟨v0, vs0, d0, ds0, p0, q0, hargs, rfl, rfl, h0, r0⟩ := trodAll_cons hA
  obtain ⟨rfl, rfl, rfl⟩ := trodAll_nil r0
  obtain rfl : args = #[v0] := by cases args; simp_all
  obtain ⟨rfl, rfl⟩ := trodVars_none hV
  have k0 := h0
  have lt0 : ∀ x ∈ p0, x.block < W.heap.size := by obtain ⟨m, hm⟩ := k0; exact DataW.trod_lt m _ _ _ hm
  obtain ⟨b0, rfl, _⟩ := okWide_struct Try.underlying24 (hval 0 24 v0 rfl rfl)
  obtain ⟨a0_0, a0_1, a0_2, a0_3, a0_4, a0_5, a0_6, hcs⟩ : ∃ (a0_0 : Int) (a0_1 : Int) (a0_2 : Int) (a0_3 : Int) (a0_4 : Int) (a0_5 : Int) (a0_6 : Int), b0.toList = [.int .i64 a0_0, .int .i64 a0_1, .int .i64 a0_2, .int .i64 a0_3, .int .i64 a0_4, .int .i64 a0_5, .int .i64 a0_6] := by
    obtain ⟨fuel, hf⟩ := h0
    obtain ⟨x, hx⟩ := (Op.opens_struct Try.underlying24 (by kernel_rfl) (Op.fields_cons rfl (Op.opens_int Try.underlying3 (by kernel_rfl)) (Op.fields_cons rfl (Op.opens_int Try.underlying3 (by kernel_rfl)) (Op.fields_cons rfl (Op.opens_int Try.underlying3 (by kernel_rfl)) (Op.fields_cons rfl (Op.opens_int Try.underlying3 (by kernel_rfl)) (Op.fields_cons rfl (Op.opens_int Try.underlying3 (by kernel_rfl)) (Op.fields_cons rfl (Op.opens_int Try.underlying3 (by kernel_rfl)) (Op.fields_last rfl (Op.opens_int Try.underlying3 (by kernel_rfl)))))))))).2 enc W 0 _ _ fuel _ _ hf
    obtain ⟨_, _, hcs0, rfl, ⟨_, _, rfl, rfl, ⟨_, _, rfl, rfl, ⟨_, _, rfl, rfl, ⟨_, _, rfl, rfl, ⟨_, _, rfl, rfl, rfl⟩⟩⟩⟩⟩⟩ := hx
    exact ⟨x.1, x.2.1, x.2.2.1, x.2.2.2.1, x.2.2.2.2.1, x.2.2.2.2.2.1, x.2.2.2.2.2.2, hcs0⟩
  obtain rfl : b0 = #[.int .i64 a0_0, .int .i64 a0_1, .int .i64 a0_2, .int .i64 a0_3, .int .i64 a0_4, .int .i64 a0_5, .int .i64 a0_6] := by apply Array.ext'; rw [hcs]
  clear hcs
  clear hA0 hval0 hsz0
  have hk := Pure.FnExactSealHolds a0_0 a0_1 a0_2 a0_3 a0_4 a0_5 a0_6 
  refine (Hp.laws_FnExactSealHolds.calls a0_0 a0_1 a0_2 a0_3 a0_4 a0_5 a0_6 true W  hk).mono fun e W' ⟨he, bel0⟩ => ?_
  have bel : Below W.heap.size W W' := by first | exact bel0 | exact bel0.below
  subst he
  exact ⟨_, rfl, _, _, _, [], _, [], hW', trodAll_mk1 (shut_bool Try.underlying4 _), (trodAll_cons_mk (Below.trod laidOut (by kernel_rfl) (of_decide_eq_true (by kernel_rfl)) k0 bel lt0) trodAll_mk0), rfl, bel.frame _, fun h => by cases h⟩
theorem over : Rows.fnExactSealHoldsRow.holds Try.pinned (OpenSpec.ofChange Rows.fnExactSealHoldsSpec) :=
  OpenClaim.holds_of_wide 5 Try.f5 rfl rfl rfl rfl rfl rfl rfl ⟨rfl, rfl, rfl, rfl, rfl⟩ rfl rfl rfl rfl rfl (by kernel_rfl) Try.func5 (by kernel_rfl)
    (of_decide_eq_true (by kernel_rfl)) (by unfold Func.isWrapper; first | (rw [if_pos (by decide +kernel)]; kernel_rfl) | (rw [if_neg (by decide +kernel)]; exact ⟨rfl, rfl⟩))
    (fun os started H enc _ => lifted os started H enc)
theorem proved : Rows.FnExactSealHoldsSaid := over
#print axioms proved
end Go.Proofs.Ythjllmmocanhgaa.fnExactSealHolds
namespace Go.Proofs.Ythjllmmocanhgaa
/-- The row, under a short name, for the claim. -/
theorem fnExactSealHolds_holds : Rows.FnExactSealHoldsSaid := fnExactSealHolds.proved
end Go.Proofs.Ythjllmmocanhgaa
