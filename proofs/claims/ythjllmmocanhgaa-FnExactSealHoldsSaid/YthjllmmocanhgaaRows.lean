/-
  No cell of these rows narrows 'for every input' (looked for: loops, veiled, ifaces, maps, wideKeys, modest, calm, conditions, laid).
  DERIVED. THE GIVEN ROWS OF THIS SEAT. 7 by the template 'for every input the law returns true; each argument reads behind the call as it read before'; 0 by the template 'total and deterministic' (their statements: YthjllmmocanhgaaTotals.lean).
  GIVEN WITH THE SEED: the statements are not yours to turn. If you find one false, say at which input.
  Laid BY PROGRAM, IN A SANDBOX (cutbox-rows.mjs): the forced cells as the released guide's own fill.sh prints them over the translation 5290404366a1f30d… (all of the seat's roots in one cut). By AI agents, Wed Nov 11 2026. No macro, syntax, notation, axiom, sorry.
-/
import Derived.Test.YthjllmmocanhgaaChecked
import GoSem.Claim
import GoSem.ClaimJoined
import GoSem.ClaimMapViews
import Derived.JoinedTies
import Derived.KernelRfl
namespace Go.Proofs.Ythjllmmocanhgaa
/- THE CELL 'sum', in the pinned program and in every row, IS THE sha256 OF THE DUMP (.gsa) THAT YthjllmmocanhgaaProg.lean LOADS. Nothing in Lean hashes anything: it is a label: what it is worth is what the hold of that sum in a sandbox is worth. -/
noncomputable def Try.pinned : Pinned := { name := "ythjllmmocanhgaa", sum := "5290404366a1f30d9469d553b80bbba34adb77448ef251c10e3f79aa53914b20", checked := Try.checked }
namespace Rows
def none {H : Type} : Left H := { results := [], args := [] }

/-- 'laws.FnExactConstants': WHATEVER THE INPUT: true; the input reads as it did. -/
def fnExactConstantsSpec : ChangeSpec := { name := "fnExactConstants", fn := fun _ => fun
  | [] => { results := [.lit (.bool true)], args := [] }
  | _ => none }
def fnExactConstantsRow : OpenClaim := { program := "ythjllmmocanhgaa", sum := "5290404366a1f30d9469d553b80bbba34adb77448ef251c10e3f79aa53914b20", func := "loop.example/cerberus/laws.FnExactConstants", spec := "fnExactConstants", apart := false }
def FnExactConstantsSaid : Prop := fnExactConstantsRow.holds Try.pinned (OpenSpec.ofChange fnExactConstantsSpec)

/-- ITS FALSE NEIGHBOUR: 'it returns false'. Refute it at one input. -/
def fnExactConstantsWrong : ChangeSpec := { name := "fnExactConstants", fn := fun _ => fun
  | [] => { results := [.lit (.bool false)], args := [] }
  | _ => none }
def FnExactConstantsWrongFalsely : Prop := fnExactConstantsRow.holds Try.pinned (OpenSpec.ofChange fnExactConstantsWrong)

/-- 'laws.FnExactSealOk': WHATEVER THE INPUT: true; the input reads as it did. -/
def fnExactSealOkSpec : ChangeSpec := { name := "fnExactSealOk", fn := fun _ => fun
  | [d] => { results := [.lit (.bool true)], args := [d] }
  | _ => none }
def fnExactSealOkRow : OpenClaim := { program := "ythjllmmocanhgaa", sum := "5290404366a1f30d9469d553b80bbba34adb77448ef251c10e3f79aa53914b20", func := "loop.example/cerberus/laws.FnExactSealOk", spec := "fnExactSealOk", apart := false }
def FnExactSealOkSaid : Prop := fnExactSealOkRow.holds Try.pinned (OpenSpec.ofChange fnExactSealOkSpec)

/-- ITS FALSE NEIGHBOUR: 'it returns false'. Refute it at one input. -/
def fnExactSealOkWrong : ChangeSpec := { name := "fnExactSealOk", fn := fun _ => fun
  | [d] => { results := [.lit (.bool false)], args := [d] }
  | _ => none }
def FnExactSealOkWrongFalsely : Prop := fnExactSealOkRow.holds Try.pinned (OpenSpec.ofChange fnExactSealOkWrong)

/-- 'laws.FnExactSealHolds': WHATEVER THE INPUT: true; the input reads as it did. -/
def fnExactSealHoldsSpec : ChangeSpec := { name := "fnExactSealHolds", fn := fun _ => fun
  | [d] => { results := [.lit (.bool true)], args := [d] }
  | _ => none }
def fnExactSealHoldsRow : OpenClaim := { program := "ythjllmmocanhgaa", sum := "5290404366a1f30d9469d553b80bbba34adb77448ef251c10e3f79aa53914b20", func := "loop.example/cerberus/laws.FnExactSealHolds", spec := "fnExactSealHolds", apart := false }
def FnExactSealHoldsSaid : Prop := fnExactSealHoldsRow.holds Try.pinned (OpenSpec.ofChange fnExactSealHoldsSpec)

/-- ITS FALSE NEIGHBOUR: 'it returns false'. Refute it at one input. -/
def fnExactSealHoldsWrong : ChangeSpec := { name := "fnExactSealHolds", fn := fun _ => fun
  | [d] => { results := [.lit (.bool false)], args := [d] }
  | _ => none }
def FnExactSealHoldsWrongFalsely : Prop := fnExactSealHoldsRow.holds Try.pinned (OpenSpec.ofChange fnExactSealHoldsWrong)

/-- 'laws.FnExactKdcNew': WHATEVER THE INPUT: true; the input reads as it did. -/
def fnExactKdcNewSpec : ChangeSpec := { name := "fnExactKdcNew", fn := fun _ => fun
  | [] => { results := [.lit (.bool true)], args := [] }
  | _ => none }
def fnExactKdcNewRow : OpenClaim := { program := "ythjllmmocanhgaa", sum := "5290404366a1f30d9469d553b80bbba34adb77448ef251c10e3f79aa53914b20", func := "loop.example/cerberus/laws.FnExactKdcNew", spec := "fnExactKdcNew", apart := false }
def FnExactKdcNewSaid : Prop := fnExactKdcNewRow.holds Try.pinned (OpenSpec.ofChange fnExactKdcNewSpec)

/-- ITS FALSE NEIGHBOUR: 'it returns false'. Refute it at one input. -/
def fnExactKdcNewWrong : ChangeSpec := { name := "fnExactKdcNew", fn := fun _ => fun
  | [] => { results := [.lit (.bool false)], args := [] }
  | _ => none }
def FnExactKdcNewWrongFalsely : Prop := fnExactKdcNewRow.holds Try.pinned (OpenSpec.ofChange fnExactKdcNewWrong)

/-- 'laws.FnSealKey': WHATEVER THE INPUT: true; the input reads as it did. -/
def fnSealKeySpec : ChangeSpec := { name := "fnSealKey", fn := fun _ => fun
  | [d1, d2] => { results := [.lit (.bool true)], args := [d1, d2] }
  | _ => none }
def fnSealKeyRow : OpenClaim := { program := "ythjllmmocanhgaa", sum := "5290404366a1f30d9469d553b80bbba34adb77448ef251c10e3f79aa53914b20", func := "loop.example/cerberus/laws.FnSealKey", spec := "fnSealKey", apart := false }
def FnSealKeySaid : Prop := fnSealKeyRow.holds Try.pinned (OpenSpec.ofChange fnSealKeySpec)

/-- ITS FALSE NEIGHBOUR: 'it returns false'. Refute it at one input. -/
def fnSealKeyWrong : ChangeSpec := { name := "fnSealKey", fn := fun _ => fun
  | [d1, d2] => { results := [.lit (.bool false)], args := [d1, d2] }
  | _ => none }
def FnSealKeyWrongFalsely : Prop := fnSealKeyRow.holds Try.pinned (OpenSpec.ofChange fnSealKeyWrong)

/-- 'laws.FnServNew': WHATEVER THE INPUT: true; the input reads as it did. -/
def fnServNewSpec : ChangeSpec := { name := "fnServNew", fn := fun _ => fun
  | [d] => { results := [.lit (.bool true)], args := [d] }
  | _ => none }
def fnServNewRow : OpenClaim := { program := "ythjllmmocanhgaa", sum := "5290404366a1f30d9469d553b80bbba34adb77448ef251c10e3f79aa53914b20", func := "loop.example/cerberus/laws.FnServNew", spec := "fnServNew", unfollowed := true, recurses := true, apart := false }
def FnServNewSaid : Prop := fnServNewRow.holds Try.pinned (OpenSpec.ofChange fnServNewSpec)

/-- ITS FALSE NEIGHBOUR: 'it returns false'. Refute it at one input. -/
def fnServNewWrong : ChangeSpec := { name := "fnServNew", fn := fun _ => fun
  | [d] => { results := [.lit (.bool false)], args := [d] }
  | _ => none }
def FnServNewWrongFalsely : Prop := fnServNewRow.holds Try.pinned (OpenSpec.ofChange fnServNewWrong)

/-- 'laws.FnSealForm': WHATEVER THE INPUT: true; the input reads as it did. -/
def fnSealFormSpec : ChangeSpec := { name := "fnSealForm", fn := fun _ => fun
  | [d] => { results := [.lit (.bool true)], args := [d] }
  | _ => none }
def fnSealFormRow : OpenClaim := { program := "ythjllmmocanhgaa", sum := "5290404366a1f30d9469d553b80bbba34adb77448ef251c10e3f79aa53914b20", func := "loop.example/cerberus/laws.FnSealForm", spec := "fnSealForm", apart := false }
def FnSealFormSaid : Prop := fnSealFormRow.holds Try.pinned (OpenSpec.ofChange fnSealFormSpec)

/-- ITS FALSE NEIGHBOUR: 'it returns false'. Refute it at one input. -/
def fnSealFormWrong : ChangeSpec := { name := "fnSealForm", fn := fun _ => fun
  | [d] => { results := [.lit (.bool false)], args := [d] }
  | _ => none }
def FnSealFormWrongFalsely : Prop := fnSealFormRow.holds Try.pinned (OpenSpec.ofChange fnSealFormWrong)

/- THE SECOND FORM. 'bulk': how many values and letters a reading holds, each counted each time it is reached (what is shared counts as often as it is met; a slice's spare places count too). A statement '..UptoSaid' is the law's where the arguments, and the package variables that the reading takes, are together of bulk at most 1048576: NARROWER than '..Said'. Prove '..Said' where nothing that the law and all that it calls make is longer than what came in: it says more and counts as full. Else prove '..UptoSaid'. A law counts once. -/
mutual
def uptoBulk {H : Type} : DataW H → Nat
  | .lit (.string bytes) => bytes.length + 1
  | .lit _ => 1
  | .nil => 1
  | .ptr d => uptoBulk d + 1
  | .slice elems spare => uptoBulkAll elems + uptoBulkAll spare + 1
  | .agg parts => uptoBulkAll parts + 1
  | .iface _ d => uptoBulk d + 1
  | .map entries => uptoBulkEntries entries + 1
  | .held _ => 1
def uptoBulkAll {H : Type} : List (DataW H) → Nat
  | [] => 0
  | d :: r => uptoBulk d + uptoBulkAll r
def uptoBulkEntries {H : Type} : List (Lit × DataW H) → Nat
  | [] => 0
  | x :: r => uptoBulkEntry x + uptoBulkEntries r
def uptoBulkEntry {H : Type} : Lit × DataW H → Nat
  | (.string bytes, d) => bytes.length + uptoBulk d + 1
  | (_, d) => uptoBulk d + 1
 end
def uptoSmall : (H : Type) → List (DataW H) → Bool := fun _ ds => decide (uptoBulkAll ds ≤ 1048576)
def OpenSpec.upto (s : _root_.Go.ChangeSpec) : _root_.Go.OpenSpec := { _root_.Go.OpenSpec.ofChange s with cond := some uptoSmall }

/-- 'laws.FnExactConstants', WHERE WHAT IT READS IS OF BULK AT MOST 1048576: true; the input reads as it did. -/
def fnExactConstantsUptoRow : OpenClaim := { program := "ythjllmmocanhgaa", sum := "5290404366a1f30d9469d553b80bbba34adb77448ef251c10e3f79aa53914b20", func := "loop.example/cerberus/laws.FnExactConstants", spec := "fnExactConstants", apart := false, narrowed := true }
def FnExactConstantsUptoSaid : Prop := fnExactConstantsUptoRow.holds Try.pinned (OpenSpec.upto fnExactConstantsSpec)

/-- 'laws.FnExactSealOk', WHERE WHAT IT READS IS OF BULK AT MOST 1048576: true; the input reads as it did. -/
def fnExactSealOkUptoRow : OpenClaim := { program := "ythjllmmocanhgaa", sum := "5290404366a1f30d9469d553b80bbba34adb77448ef251c10e3f79aa53914b20", func := "loop.example/cerberus/laws.FnExactSealOk", spec := "fnExactSealOk", apart := false, narrowed := true }
def FnExactSealOkUptoSaid : Prop := fnExactSealOkUptoRow.holds Try.pinned (OpenSpec.upto fnExactSealOkSpec)

/-- 'laws.FnExactSealHolds', WHERE WHAT IT READS IS OF BULK AT MOST 1048576: true; the input reads as it did. -/
def fnExactSealHoldsUptoRow : OpenClaim := { program := "ythjllmmocanhgaa", sum := "5290404366a1f30d9469d553b80bbba34adb77448ef251c10e3f79aa53914b20", func := "loop.example/cerberus/laws.FnExactSealHolds", spec := "fnExactSealHolds", apart := false, narrowed := true }
def FnExactSealHoldsUptoSaid : Prop := fnExactSealHoldsUptoRow.holds Try.pinned (OpenSpec.upto fnExactSealHoldsSpec)

/-- 'laws.FnExactKdcNew', WHERE WHAT IT READS IS OF BULK AT MOST 1048576: true; the input reads as it did. -/
def fnExactKdcNewUptoRow : OpenClaim := { program := "ythjllmmocanhgaa", sum := "5290404366a1f30d9469d553b80bbba34adb77448ef251c10e3f79aa53914b20", func := "loop.example/cerberus/laws.FnExactKdcNew", spec := "fnExactKdcNew", apart := false, narrowed := true }
def FnExactKdcNewUptoSaid : Prop := fnExactKdcNewUptoRow.holds Try.pinned (OpenSpec.upto fnExactKdcNewSpec)

/-- 'laws.FnSealKey', WHERE WHAT IT READS IS OF BULK AT MOST 1048576: true; the input reads as it did. -/
def fnSealKeyUptoRow : OpenClaim := { program := "ythjllmmocanhgaa", sum := "5290404366a1f30d9469d553b80bbba34adb77448ef251c10e3f79aa53914b20", func := "loop.example/cerberus/laws.FnSealKey", spec := "fnSealKey", apart := false, narrowed := true }
def FnSealKeyUptoSaid : Prop := fnSealKeyUptoRow.holds Try.pinned (OpenSpec.upto fnSealKeySpec)

/-- 'laws.FnServNew', WHERE WHAT IT READS IS OF BULK AT MOST 1048576: true; the input reads as it did. -/
def fnServNewUptoRow : OpenClaim := { program := "ythjllmmocanhgaa", sum := "5290404366a1f30d9469d553b80bbba34adb77448ef251c10e3f79aa53914b20", func := "loop.example/cerberus/laws.FnServNew", spec := "fnServNew", unfollowed := true, recurses := true, apart := false, narrowed := true }
def FnServNewUptoSaid : Prop := fnServNewUptoRow.holds Try.pinned (OpenSpec.upto fnServNewSpec)

/-- 'laws.FnSealForm', WHERE WHAT IT READS IS OF BULK AT MOST 1048576: true; the input reads as it did. -/
def fnSealFormUptoRow : OpenClaim := { program := "ythjllmmocanhgaa", sum := "5290404366a1f30d9469d553b80bbba34adb77448ef251c10e3f79aa53914b20", func := "loop.example/cerberus/laws.FnSealForm", spec := "fnSealForm", apart := false, narrowed := true }
def FnSealFormUptoSaid : Prop := fnSealFormUptoRow.holds Try.pinned (OpenSpec.upto fnSealFormSpec)

end Rows
end Go.Proofs.Ythjllmmocanhgaa
