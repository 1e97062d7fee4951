/-
  No cell of these rows narrows 'for every input' (looked for: loops, veiled, ifaces, maps, wideKeys, modest, calm, conditions, laid).
  DERIVED. THE GIVEN ROWS OF THIS SEAT. 8 by the template 'for every input the law returns true; each argument reads behind the call as it read before'; 0 by the template 'total and deterministic' (their statements: YtbipicjijbnbbaaTotals.lean).
  GIVEN WITH THE SEED: the statements are not yours to turn. If you find one false, say at which input.
  Laid BY PROGRAM, IN A SANDBOX (cutbox-rows.mjs): the forced cells as the released guide's own fill.sh prints them over the translation e401c7e4b3fbd019… (all of the seat's roots in one cut). By AI agents, Wed Nov 11 2026. No macro, syntax, notation, axiom, sorry.
-/
import Derived.Test.YtbipicjijbnbbaaChecked
import GoSem.Claim
import GoSem.ClaimJoined
import GoSem.ClaimMapViews
import Derived.JoinedTies
import Derived.KernelRfl
namespace Go.Proofs.Ytbipicjijbnbbaa
/- THE CELL 'sum', in the pinned program and in every row, IS THE sha256 OF THE DUMP (.gsa) THAT YtbipicjijbnbbaaProg.lean LOADS. Nothing in Lean hashes anything: it is a label: what it is worth is what the hold of that sum in a sandbox is worth. -/
noncomputable def Try.pinned : Pinned := { name := "ytbipicjijbnbbaa", sum := "e401c7e4b3fbd0199a5e4c1a4b2a68548398655e4a7a00bf5a8c25c87e49da90", checked := Try.checked }
namespace Rows
def none {H : Type} : Left H := { results := [], args := [] }

/-- 'laws.FnClientNew': WHATEVER THE INPUT: true; the input reads as it did. -/
def fnClientNewSpec : ChangeSpec := { name := "fnClientNew", fn := fun _ => fun
  | [d] => { results := [.lit (.bool true)], args := [d] }
  | _ => none }
def fnClientNewRow : OpenClaim := { program := "ytbipicjijbnbbaa", sum := "e401c7e4b3fbd0199a5e4c1a4b2a68548398655e4a7a00bf5a8c25c87e49da90", func := "loop.example/cerberus/laws.FnClientNew", spec := "fnClientNew", unfollowed := true, recurses := true, apart := false }
def FnClientNewSaid : Prop := fnClientNewRow.holds Try.pinned (OpenSpec.ofChange fnClientNewSpec)

/-- ITS FALSE NEIGHBOUR: 'it returns false'. Refute it at one input. -/
def fnClientNewWrong : ChangeSpec := { name := "fnClientNew", fn := fun _ => fun
  | [d] => { results := [.lit (.bool false)], args := [d] }
  | _ => none }
def FnClientNewWrongFalsely : Prop := fnClientNewRow.holds Try.pinned (OpenSpec.ofChange fnClientNewWrong)

/-- 'laws.FnMsgSeals': WHATEVER THE INPUT: true; the input reads as it did. -/
def fnMsgSealsSpec : ChangeSpec := { name := "fnMsgSeals", fn := fun _ => fun
  | [d1, d2] => { results := [.lit (.bool true)], args := [d1, d2] }
  | _ => none }
def fnMsgSealsRow : OpenClaim := { program := "ytbipicjijbnbbaa", sum := "e401c7e4b3fbd0199a5e4c1a4b2a68548398655e4a7a00bf5a8c25c87e49da90", func := "loop.example/cerberus/laws.FnMsgSeals", spec := "fnMsgSeals", unfollowed := true, recurses := true, apart := false }
def FnMsgSealsSaid : Prop := fnMsgSealsRow.holds Try.pinned (OpenSpec.ofChange fnMsgSealsSpec)

/-- ITS FALSE NEIGHBOUR: 'it returns false'. Refute it at one input. -/
def fnMsgSealsWrong : ChangeSpec := { name := "fnMsgSeals", fn := fun _ => fun
  | [d1, d2] => { results := [.lit (.bool false)], args := [d1, d2] }
  | _ => none }
def FnMsgSealsWrongFalsely : Prop := fnMsgSealsRow.holds Try.pinned (OpenSpec.ofChange fnMsgSealsWrong)

/-- 'laws.FnExactKnowKeys': WHATEVER THE INPUT: true; the input reads as it did. -/
def fnExactKnowKeysSpec : ChangeSpec := { name := "fnExactKnowKeys", fn := fun _ => fun
  | [d1, d2] => { results := [.lit (.bool true)], args := [d1, d2] }
  | _ => none }
def fnExactKnowKeysRow : OpenClaim := { program := "ytbipicjijbnbbaa", sum := "e401c7e4b3fbd0199a5e4c1a4b2a68548398655e4a7a00bf5a8c25c87e49da90", func := "loop.example/cerberus/laws.FnExactKnowKeys", spec := "fnExactKnowKeys", apart := false }
def FnExactKnowKeysSaid : Prop := fnExactKnowKeysRow.holds Try.pinned (OpenSpec.ofChange fnExactKnowKeysSpec)

/-- ITS FALSE NEIGHBOUR: 'it returns false'. Refute it at one input. -/
def fnExactKnowKeysWrong : ChangeSpec := { name := "fnExactKnowKeys", fn := fun _ => fun
  | [d1, d2] => { results := [.lit (.bool false)], args := [d1, d2] }
  | _ => none }
def FnExactKnowKeysWrongFalsely : Prop := fnExactKnowKeysRow.holds Try.pinned (OpenSpec.ofChange fnExactKnowKeysWrong)

/-- 'laws.FnExactKnowRead': WHATEVER THE INPUT: true; the input reads as it did. -/
def fnExactKnowReadSpec : ChangeSpec := { name := "fnExactKnowRead", fn := fun _ => fun
  | [d1, d2] => { results := [.lit (.bool true)], args := [d1, d2] }
  | _ => none }
def fnExactKnowReadRow : OpenClaim := { program := "ytbipicjijbnbbaa", sum := "e401c7e4b3fbd0199a5e4c1a4b2a68548398655e4a7a00bf5a8c25c87e49da90", func := "loop.example/cerberus/laws.FnExactKnowRead", spec := "fnExactKnowRead", apart := false }
def FnExactKnowReadSaid : Prop := fnExactKnowReadRow.holds Try.pinned (OpenSpec.ofChange fnExactKnowReadSpec)

/-- ITS FALSE NEIGHBOUR: 'it returns false'. Refute it at one input. -/
def fnExactKnowReadWrong : ChangeSpec := { name := "fnExactKnowRead", fn := fun _ => fun
  | [d1, d2] => { results := [.lit (.bool false)], args := [d1, d2] }
  | _ => none }
def FnExactKnowReadWrongFalsely : Prop := fnExactKnowReadRow.holds Try.pinned (OpenSpec.ofChange fnExactKnowReadWrong)

/-- 'laws.FnExactCacheWith': WHATEVER THE INPUT: true; the input reads as it did. -/
def fnExactCacheWithSpec : ChangeSpec := { name := "fnExactCacheWith", fn := fun _ => fun
  | [d1, d2, d3] => { results := [.lit (.bool true)], args := [d1, d2, d3] }
  | _ => none }
def fnExactCacheWithRow : OpenClaim := { program := "ytbipicjijbnbbaa", sum := "e401c7e4b3fbd0199a5e4c1a4b2a68548398655e4a7a00bf5a8c25c87e49da90", func := "loop.example/cerberus/laws.FnExactCacheWith", spec := "fnExactCacheWith", unfollowed := true, recurses := true, apart := false }
def FnExactCacheWithSaid : Prop := fnExactCacheWithRow.holds Try.pinned (OpenSpec.ofChange fnExactCacheWithSpec)

/-- ITS FALSE NEIGHBOUR: 'it returns false'. Refute it at one input. -/
def fnExactCacheWithWrong : ChangeSpec := { name := "fnExactCacheWith", fn := fun _ => fun
  | [d1, d2, d3] => { results := [.lit (.bool false)], args := [d1, d2, d3] }
  | _ => none }
def FnExactCacheWithWrongFalsely : Prop := fnExactCacheWithRow.holds Try.pinned (OpenSpec.ofChange fnExactCacheWithWrong)

/-- 'laws.FnWorldNew': WHATEVER THE INPUT: true; the input reads as it did. -/
def fnWorldNewSpec : ChangeSpec := { name := "fnWorldNew", fn := fun _ => fun
  | [d] => { results := [.lit (.bool true)], args := [d] }
  | _ => none }
def fnWorldNewRow : OpenClaim := { program := "ytbipicjijbnbbaa", sum := "e401c7e4b3fbd0199a5e4c1a4b2a68548398655e4a7a00bf5a8c25c87e49da90", func := "loop.example/cerberus/laws.FnWorldNew", spec := "fnWorldNew", unfollowed := true, recurses := true, apart := false }
def FnWorldNewSaid : Prop := fnWorldNewRow.holds Try.pinned (OpenSpec.ofChange fnWorldNewSpec)

/-- ITS FALSE NEIGHBOUR: 'it returns false'. Refute it at one input. -/
def fnWorldNewWrong : ChangeSpec := { name := "fnWorldNew", fn := fun _ => fun
  | [d] => { results := [.lit (.bool false)], args := [d] }
  | _ => none }
def FnWorldNewWrongFalsely : Prop := fnWorldNewRow.holds Try.pinned (OpenSpec.ofChange fnWorldNewWrong)

/-- 'laws.FnExactClientOk': WHATEVER THE INPUT: true; the input reads as it did. -/
def fnExactClientOkSpec : ChangeSpec := { name := "fnExactClientOk", fn := fun _ => fun
  | [d] => { results := [.lit (.bool true)], args := [d] }
  | _ => none }
def fnExactClientOkRow : OpenClaim := { program := "ytbipicjijbnbbaa", sum := "e401c7e4b3fbd0199a5e4c1a4b2a68548398655e4a7a00bf5a8c25c87e49da90", func := "loop.example/cerberus/laws.FnExactClientOk", spec := "fnExactClientOk", unfollowed := true, recurses := true, apart := false }
def FnExactClientOkSaid : Prop := fnExactClientOkRow.holds Try.pinned (OpenSpec.ofChange fnExactClientOkSpec)

/-- ITS FALSE NEIGHBOUR: 'it returns false'. Refute it at one input. -/
def fnExactClientOkWrong : ChangeSpec := { name := "fnExactClientOk", fn := fun _ => fun
  | [d] => { results := [.lit (.bool false)], args := [d] }
  | _ => none }
def FnExactClientOkWrongFalsely : Prop := fnExactClientOkRow.holds Try.pinned (OpenSpec.ofChange fnExactClientOkWrong)

/-- 'laws.FnExactKdcAs': WHATEVER THE INPUT: true; the input reads as it did. -/
def fnExactKdcAsSpec : ChangeSpec := { name := "fnExactKdcAs", fn := fun _ => fun
  | [d1, d2, d3] => { results := [.lit (.bool true)], args := [d1, d2, d3] }
  | _ => none }
def fnExactKdcAsRow : OpenClaim := { program := "ytbipicjijbnbbaa", sum := "e401c7e4b3fbd0199a5e4c1a4b2a68548398655e4a7a00bf5a8c25c87e49da90", func := "loop.example/cerberus/laws.FnExactKdcAs", spec := "fnExactKdcAs", unfollowed := true, recurses := true, apart := false }
def FnExactKdcAsSaid : Prop := fnExactKdcAsRow.holds Try.pinned (OpenSpec.ofChange fnExactKdcAsSpec)

/-- ITS FALSE NEIGHBOUR: 'it returns false'. Refute it at one input. -/
def fnExactKdcAsWrong : ChangeSpec := { name := "fnExactKdcAs", fn := fun _ => fun
  | [d1, d2, d3] => { results := [.lit (.bool false)], args := [d1, d2, d3] }
  | _ => none }
def FnExactKdcAsWrongFalsely : Prop := fnExactKdcAsRow.holds Try.pinned (OpenSpec.ofChange fnExactKdcAsWrong)

/- THE SECOND FORM. 'bulk': how many values and letters a reading holds, each counted each time it is reached (what is shared counts as often as it is met; a slice's spare places count too). A statement '..UptoSaid' is the law's where the arguments, and the package variables that the reading takes, are together of bulk at most 1048576: NARROWER than '..Said'. Prove '..Said' where nothing that the law and all that it calls make is longer than what came in: it says more and counts as full. Else prove '..UptoSaid'. A law counts once. -/
mutual
def uptoBulk {H : Type} : DataW H → Nat
  | .lit (.string bytes) => bytes.length + 1
  | .lit _ => 1
  | .nil => 1
  | .ptr d => uptoBulk d + 1
  | .slice elems spare => uptoBulkAll elems + uptoBulkAll spare + 1
  | .agg parts => uptoBulkAll parts + 1
  | .iface _ d => uptoBulk d + 1
  | .map entries => uptoBulkEntries entries + 1
  | .held _ => 1
def uptoBulkAll {H : Type} : List (DataW H) → Nat
  | [] => 0
  | d :: r => uptoBulk d + uptoBulkAll r
def uptoBulkEntries {H : Type} : List (Lit × DataW H) → Nat
  | [] => 0
  | x :: r => uptoBulkEntry x + uptoBulkEntries r
def uptoBulkEntry {H : Type} : Lit × DataW H → Nat
  | (.string bytes, d) => bytes.length + uptoBulk d + 1
  | (_, d) => uptoBulk d + 1
 end
def uptoSmall : (H : Type) → List (DataW H) → Bool := fun _ ds => decide (uptoBulkAll ds ≤ 1048576)
def OpenSpec.upto (s : _root_.Go.ChangeSpec) : _root_.Go.OpenSpec := { _root_.Go.OpenSpec.ofChange s with cond := some uptoSmall }

/-- 'laws.FnClientNew', WHERE WHAT IT READS IS OF BULK AT MOST 1048576: true; the input reads as it did. -/
def fnClientNewUptoRow : OpenClaim := { program := "ytbipicjijbnbbaa", sum := "e401c7e4b3fbd0199a5e4c1a4b2a68548398655e4a7a00bf5a8c25c87e49da90", func := "loop.example/cerberus/laws.FnClientNew", spec := "fnClientNew", unfollowed := true, recurses := true, apart := false, narrowed := true }
def FnClientNewUptoSaid : Prop := fnClientNewUptoRow.holds Try.pinned (OpenSpec.upto fnClientNewSpec)

/-- 'laws.FnMsgSeals', WHERE WHAT IT READS IS OF BULK AT MOST 1048576: true; the input reads as it did. -/
def fnMsgSealsUptoRow : OpenClaim := { program := "ytbipicjijbnbbaa", sum := "e401c7e4b3fbd0199a5e4c1a4b2a68548398655e4a7a00bf5a8c25c87e49da90", func := "loop.example/cerberus/laws.FnMsgSeals", spec := "fnMsgSeals", unfollowed := true, recurses := true, apart := false, narrowed := true }
def FnMsgSealsUptoSaid : Prop := fnMsgSealsUptoRow.holds Try.pinned (OpenSpec.upto fnMsgSealsSpec)

/-- 'laws.FnExactKnowKeys', WHERE WHAT IT READS IS OF BULK AT MOST 1048576: true; the input reads as it did. -/
def fnExactKnowKeysUptoRow : OpenClaim := { program := "ytbipicjijbnbbaa", sum := "e401c7e4b3fbd0199a5e4c1a4b2a68548398655e4a7a00bf5a8c25c87e49da90", func := "loop.example/cerberus/laws.FnExactKnowKeys", spec := "fnExactKnowKeys", apart := false, narrowed := true }
def FnExactKnowKeysUptoSaid : Prop := fnExactKnowKeysUptoRow.holds Try.pinned (OpenSpec.upto fnExactKnowKeysSpec)

/-- 'laws.FnExactKnowRead', WHERE WHAT IT READS IS OF BULK AT MOST 1048576: true; the input reads as it did. -/
def fnExactKnowReadUptoRow : OpenClaim := { program := "ytbipicjijbnbbaa", sum := "e401c7e4b3fbd0199a5e4c1a4b2a68548398655e4a7a00bf5a8c25c87e49da90", func := "loop.example/cerberus/laws.FnExactKnowRead", spec := "fnExactKnowRead", apart := false, narrowed := true }
def FnExactKnowReadUptoSaid : Prop := fnExactKnowReadUptoRow.holds Try.pinned (OpenSpec.upto fnExactKnowReadSpec)

/-- 'laws.FnExactCacheWith', WHERE WHAT IT READS IS OF BULK AT MOST 1048576: true; the input reads as it did. -/
def fnExactCacheWithUptoRow : OpenClaim := { program := "ytbipicjijbnbbaa", sum := "e401c7e4b3fbd0199a5e4c1a4b2a68548398655e4a7a00bf5a8c25c87e49da90", func := "loop.example/cerberus/laws.FnExactCacheWith", spec := "fnExactCacheWith", unfollowed := true, recurses := true, apart := false, narrowed := true }
def FnExactCacheWithUptoSaid : Prop := fnExactCacheWithUptoRow.holds Try.pinned (OpenSpec.upto fnExactCacheWithSpec)

/-- 'laws.FnWorldNew', WHERE WHAT IT READS IS OF BULK AT MOST 1048576: true; the input reads as it did. -/
def fnWorldNewUptoRow : OpenClaim := { program := "ytbipicjijbnbbaa", sum := "e401c7e4b3fbd0199a5e4c1a4b2a68548398655e4a7a00bf5a8c25c87e49da90", func := "loop.example/cerberus/laws.FnWorldNew", spec := "fnWorldNew", unfollowed := true, recurses := true, apart := false, narrowed := true }
def FnWorldNewUptoSaid : Prop := fnWorldNewUptoRow.holds Try.pinned (OpenSpec.upto fnWorldNewSpec)

/-- 'laws.FnExactClientOk', WHERE WHAT IT READS IS OF BULK AT MOST 1048576: true; the input reads as it did. -/
def fnExactClientOkUptoRow : OpenClaim := { program := "ytbipicjijbnbbaa", sum := "e401c7e4b3fbd0199a5e4c1a4b2a68548398655e4a7a00bf5a8c25c87e49da90", func := "loop.example/cerberus/laws.FnExactClientOk", spec := "fnExactClientOk", unfollowed := true, recurses := true, apart := false, narrowed := true }
def FnExactClientOkUptoSaid : Prop := fnExactClientOkUptoRow.holds Try.pinned (OpenSpec.upto fnExactClientOkSpec)

/-- 'laws.FnExactKdcAs', WHERE WHAT IT READS IS OF BULK AT MOST 1048576: true; the input reads as it did. -/
def fnExactKdcAsUptoRow : OpenClaim := { program := "ytbipicjijbnbbaa", sum := "e401c7e4b3fbd0199a5e4c1a4b2a68548398655e4a7a00bf5a8c25c87e49da90", func := "loop.example/cerberus/laws.FnExactKdcAs", spec := "fnExactKdcAs", unfollowed := true, recurses := true, apart := false, narrowed := true }
def FnExactKdcAsUptoSaid : Prop := fnExactKdcAsUptoRow.holds Try.pinned (OpenSpec.upto fnExactKdcAsSpec)

end Rows
end Go.Proofs.Ytbipicjijbnbbaa
