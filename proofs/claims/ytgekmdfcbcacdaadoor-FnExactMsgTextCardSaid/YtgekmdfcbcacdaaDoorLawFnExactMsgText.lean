-- hp.py
import Derived.Test.YtgekmdfcbcacdaaDoorRows
import Derived.Test.YtgekmdfcbcacdaaDoorInit
import Derived.Test.YtgekmdfcbcacdaaDoorHx33
import Derived.Test.YtgekmdfcbcacdaaDoorPureFnExactMsgText
import Derived.Test.YtgekmdfcbcacdaaDoorOp
import Derived.WalkKit
import Derived.ProofKit
import Derived.OpenShut
import Derived.ShutString
import Derived.ChangeOld
import Derived.Below
import Derived.SizedLaws
import Derived.Carry
import Derived.Test.YtgekmdfcbcacdaaDoorCards
import Derived.Test.YtgekmdfcbcacdaaDoorTie
import Derived.Test.YtgekmdfcbcacdaaDoorLd
import Derived.SevenTiedAt
import Derived.Handed
import Derived.LaidLaws
import Derived.LaidMore
namespace Go.Proofs.YtgekmdfcbcacdaaDoor.fnExactMsgText
open Go.ChangeShapes Go.WideShapes Go.ChangeAt Go.RowKit Go.Proofs.YtgekmdfcbcacdaaDoor Go.Proofs.YtgekmdfcbcacdaaDoor.Hp Go.Proofs.YtgekmdfcbcacdaaDoorW.PrintWords
open Go.ChangeMaps (open_string shut_string)
set_option linter.unusedVariables false
set_option linter.unusedSimpArgs false
theorem own : ownKnob Tryd.prog.godebug = none := by kernel_rfl
theorem laidOut : laidOutB Tryd.prog = true := by kernel_rfl
theorem o34 : Op.Opens Tryd.prog 34 k34 := by
  unfold k34
  exact Op.opens_iso (g := fun p => ⟨p.1, p.2.1, p.2.2.1, p.2.2.2.1, p.2.2.2.2.1, p.2.2.2.2.2.1, p.2.2.2.2.2.2⟩) (fun _ => rfl) (Op.opens_struct Tryd.underlying34 (by kernel_rfl) (Op.fields_cons rfl (Op.opens_int Tryd.underlying3 (by kernel_rfl)) (Op.fields_cons rfl (Op.opens_int Tryd.underlying3 (by kernel_rfl)) (Op.fields_cons rfl (Op.opens_int Tryd.underlying3 (by kernel_rfl)) (Op.fields_cons rfl (Op.opens_int Tryd.underlying3 (by kernel_rfl)) (Op.fields_cons rfl (Op.opens_int Tryd.underlying3 (by kernel_rfl)) (Op.fields_cons rfl (Op.opens_int Tryd.underlying3 (by kernel_rfl)) (Op.fields_last rfl (Op.opens_int Tryd.underlying3 (by kernel_rfl))))))))))
set_option maxRecDepth 100000 in
theorem lifted (os : Os) (started : os.Started) (H : Type) (enc : TypeId × Value → H) :
    ReturnsInHanded {} Tryd.checked os 9 .any (fun w args => (Rows.fnExactMsgTextSpec.pre enc Tryd.prog Tryd.f9 Rows.fnExactMsgTextRow.domain false w args ∧ laidMetH Tryd.prog Rows.fnExactMsgTextRow.laid w) ∧ sizedMet enc Tryd.prog Tryd.f9 (OpenSpec.ofChange Rows.fnExactMsgTextSpec) false w args) (Rows.fnExactMsgTextSpec.post enc Tryd.prog Tryd.f9 false true false false) := by
  refine returnsInHanded_of_change_and (C := Tryd.checked) (X := fun w _ => laidMetH Tryd.prog Rows.fnExactMsgTextRow.laid w) (fun _ _ _ hh h => h.of_heap hh) own started (by kernel_rfl) Tryd.func9
    (ChangeSpec.witness_shaped (enc := enc) (C := Tryd.checked) (os := os) (X := fun w _ => laidMetH Tryd.prog Rows.fnExactMsgTextRow.laid w) false (World.doorLaid Tryd.prog 72 os) #[.agg #[.int .i64 0, .int .i64 0, .int .i64 0, .int .i64 0, .slice none 0 0]] 8 rfl (World.shaped_of_RefB (by kernel_rfl) (by kernel_rfl)) (by kernel_rfl) (by kernel_rfl) (by kernel_rfl) (Ld.door_met os _)) ?_
  intro W base args ds gs before hval0 hW hcnd hsz0 hL _
  have ht : Hp.Tens W := Ld.tens hL
  have hval : ∀ (j : Nat) t v, Tryd.f9.params[j]? = some t → args[j]? = some v → Value.okWide Tryd.prog W .any base t v := hval0
  have hW' := hW
  obtain ⟨p, q, hA0, hV, rfl, hfz, hnd⟩ := hW
  have hA : DataW.TrodAll enc Tryd.prog W 0 (fun _ => true) true Tryd.f9.params.toList args.toList ds p := hA0
  rw [Tryd.params9] at hA hval
  obtain ⟨v0, vs0, d0, ds0, p0, q0, hargs, rfl, rfl, h0, r0⟩ := trodAll_cons hA
  obtain ⟨rfl, rfl, rfl⟩ := trodAll_nil r0
  obtain rfl : args = #[v0] := by cases args; simp_all
  obtain ⟨rfl, rfl⟩ := trodVars_none hV
  have k0 := h0
  have lt0 : ∀ x ∈ p0, x.block < W.heap.size := by obtain ⟨m, hm⟩ := k0; exact DataW.trod_lt m _ _ _ hm
  obtain ⟨b0, rfl, _⟩ := okWide_struct Tryd.underlying41 (hval 0 41 v0 rfl rfl)
  obtain ⟨a0_0, a0_1, a0_2, a0_3, A0_4, c0_4, l0_4, hcs, hc0_4, hr0_4⟩ : ∃ (a0_0 : Int) (a0_1 : Int) (a0_2 : Int) (a0_3 : Int) (A0_4 : Option Addr) (c0_4 : Nat) (l0_4 : List (S34)), b0.toList = [.int .i64 a0_0, .int .i64 a0_1, .int .i64 a0_2, .int .i64 a0_3, .slice A0_4 l0_4.length c0_4] ∧ l0_4.length ≤ c0_4 ∧ Kd.C k34 W A0_4 l0_4.length l0_4 := by
    obtain ⟨fuel, hf⟩ := h0
    obtain ⟨x, hx⟩ := (Op.opens_struct Tryd.underlying41 (by kernel_rfl) (Op.fields_cons rfl (Op.opens_int Tryd.underlying3 (by kernel_rfl)) (Op.fields_cons rfl (Op.opens_int Tryd.underlying3 (by kernel_rfl)) (Op.fields_cons rfl (Op.opens_int Tryd.underlying3 (by kernel_rfl)) (Op.fields_cons rfl (Op.opens_int Tryd.underlying3 (by kernel_rfl)) (Op.fields_last rfl (Op.opens_slice Tryd.underlying39 (by kernel_rfl) o34))))))).2 enc W 0 _ _ fuel _ _ hf
    obtain ⟨_, _, hcs0, rfl, ⟨_, _, rfl, rfl, ⟨_, _, rfl, rfl, ⟨_, _, rfl, rfl, ⟨A4, c4, rfl, e4, f4⟩⟩⟩⟩⟩ := hx
    exact ⟨x.1, x.2.1, x.2.2.1, x.2.2.2.1, A4, c4, x.2.2.2.2, hcs0, e4, f4⟩
  obtain rfl : b0 = #[.int .i64 a0_0, .int .i64 a0_1, .int .i64 a0_2, .int .i64 a0_3, .slice A0_4 l0_4.length c0_4] := by apply Array.ext'; rw [hcs]
  clear hcs
  clear hA0 hval0 hsz0
  obtain ⟨k, hk⟩ := Pure.FnExactMsgText a0_0 a0_1 a0_2 a0_3 l0_4 hr0_4.2.1
  refine (Hp.laws_FnExactMsgText.calls k a0_0 a0_1 a0_2 a0_3 A0_4 c0_4 l0_4 true W hr0_4 hc0_4 hk ht).mono fun e W' ⟨he, bel0⟩ => ?_
  have bel : Below W.heap.size W W' := by first | exact bel0 | exact bel0.below
  subst he
  exact ⟨_, rfl, _, _, _, [], _, [], hW', trodAll_mk1 (shut_bool Tryd.underlying4 _), (trodAll_cons_mk (Below.trod laidOut (by kernel_rfl) (of_decide_eq_true (by kernel_rfl)) k0 bel lt0) trodAll_mk0), rfl, bel.frame _, fun h => by cases h⟩
set_option maxHeartbeats 4000000 in
set_option maxRecDepth 100000 in
theorem closed : joinedFacts Tryd.pinned.checked.prog 9 Tryd.f9 Rows.fnExactMsgTextSpec Rows.fnExactMsgTextRow = true := by
  unfold joinedFacts
  repeat' (with_reducible refine Bool.and_eq_true_iff.2 ⟨?_, ?_⟩)
  all_goals first
    | with_reducible exact Init.enters
    | (rw [Init.lifts]; as_aux_lemma => kernel_rfl)
    | (rw [Init.make]; as_aux_lemma => kernel_rfl)
    | (as_aux_lemma => kernel_rfl)
theorem over : Rows.fnExactMsgTextRow.holds Tryd.pinned (OpenSpec.ofChange Rows.fnExactMsgTextSpec) :=
  OpenClaim.holds_of_wide 9 Tryd.f9 rfl rfl rfl rfl rfl rfl rfl ⟨rfl, rfl, rfl, rfl, rfl⟩ rfl rfl rfl rfl rfl (by kernel_rfl) Tryd.func9 closed
    (of_decide_eq_true (by kernel_rfl)) (by unfold Func.isWrapper; first | (rw [if_pos (by decide +kernel)]; kernel_rfl) | (rw [if_neg (by decide +kernel)]; exact ⟨rfl, rfl⟩))
    (fun os started H enc _ => lifted os started H enc)
theorem card_holds : Rows.FnExactMsgTextCardSaid :=
  Claim7.holds_tied_plain_at .later [] [.data, .data, .data] true (true, "c62ee5cfbefa28cce646c722e85fbe5398258a8900df4010ea66be153e399c6b") true
    over (fun _ h => by cases h) (by kernel_rfl) (fun _ h => by cases h) fnExactMsgText_row_tie rfl ⟨rfl, rfl⟩ (by kernel_rfl) rfl
    (fun f fn hf hfn => by
      obtain rfl : f = 9 := Option.some.inj ((show Tryd.prog.funcNamed "loop.example/cerberus/laws.FnExactMsgText" = some 9 by kernel_rfl).symm.trans hf) |>.symm
      obtain rfl : fn = Tryd.f9 := (Option.some.inj (Tryd.func9.symm.trans hfn)).symm
      exact ⟨by kernel_rfl, fun j t ht => by
        rw [Tryd.params9] at ht
        have hm : t ∈ [41] := by simpa using Array.mem_of_getElem? ht
        have hall : ([41].all fun u => !Tryd.prog.wantsStandIn u) = true := by kernel_rfl
        exact (show Tryd.prog.wantsStandIn t = false by simpa using List.all_eq_true.1 hall t hm)⟩)
    (by kernel_rfl)
#print axioms card_holds
end Go.Proofs.YtgekmdfcbcacdaaDoor.fnExactMsgText
namespace Go.Proofs.YtgekmdfcbcacdaaDoor
/-- The tied card, under a short name, for the claim. -/
theorem fnExactMsgText_holds : Rows.FnExactMsgTextCardSaid := fnExactMsgText.card_holds
end Go.Proofs.YtgekmdfcbcacdaaDoor
