/-
  No cell of these rows narrows 'for every input' (looked for: loops, veiled, ifaces, maps, wideKeys, modest, calm, conditions, laid).
  DERIVED. THE GIVEN ROWS OF THIS SEAT. 19 by the template 'for every input the law returns true; each argument reads behind the call as it read before'; 0 by the template 'total and deterministic' (their statements: YtbiknbjcidlabaaTotals.lean).
  GIVEN WITH THE SEED: the statements are not yours to turn. If you find one false, say at which input.
  Laid BY PROGRAM, IN A SANDBOX (cutbox-rows.mjs): the forced cells as the released guide's own fill.sh prints them over the translation ecfb5276ea393b6f… (all of the seat's roots in one cut). By AI agents, Wed Nov 11 2026. No macro, syntax, notation, axiom, sorry.
-/
import Derived.Test.YtbiknbjcidlabaaChecked
import GoSem.Claim
import GoSem.ClaimJoined
import GoSem.ClaimMapViews
import Derived.JoinedTies
import Derived.KernelRfl
namespace Go.Proofs.Ytbiknbjcidlabaa
/- THE CELL 'sum', in the pinned program and in every row, IS THE sha256 OF THE DUMP (.gsa) THAT YtbiknbjcidlabaaProg.lean LOADS. Nothing in Lean hashes anything: it is a label: what it is worth is what the hold of that sum in a sandbox is worth. -/
noncomputable def Try.pinned : Pinned := { name := "ytbiknbjcidlabaa", sum := "ecfb5276ea393b6f65dc2fed32e5fdc5124f221871a1441f4a42c72b4fc55337", checked := Try.checked }
namespace Rows
def none {H : Type} : Left H := { results := [], args := [] }

/-- 'laws.FnSealHolds': WHATEVER THE INPUT: true; the input reads as it did. -/
def fnSealHoldsSpec : ChangeSpec := { name := "fnSealHolds", fn := fun _ => fun
  | [d] => { results := [.lit (.bool true)], args := [d] }
  | _ => none }
def fnSealHoldsRow : OpenClaim := { program := "ytbiknbjcidlabaa", sum := "ecfb5276ea393b6f65dc2fed32e5fdc5124f221871a1441f4a42c72b4fc55337", func := "loop.example/cerberus/laws.FnSealHolds", spec := "fnSealHolds", apart := false }
def FnSealHoldsSaid : Prop := fnSealHoldsRow.holds Try.pinned (OpenSpec.ofChange fnSealHoldsSpec)

/-- ITS FALSE NEIGHBOUR: 'it returns false'. Refute it at one input. -/
def fnSealHoldsWrong : ChangeSpec := { name := "fnSealHolds", fn := fun _ => fun
  | [d] => { results := [.lit (.bool false)], args := [d] }
  | _ => none }
def FnSealHoldsWrongFalsely : Prop := fnSealHoldsRow.holds Try.pinned (OpenSpec.ofChange fnSealHoldsWrong)

/-- 'laws.FnExactMsgOk': WHATEVER THE INPUT: true; the input reads as it did. -/
def fnExactMsgOkSpec : ChangeSpec := { name := "fnExactMsgOk", fn := fun _ => fun
  | [d] => { results := [.lit (.bool true)], args := [d] }
  | _ => none }
def fnExactMsgOkRow : OpenClaim := { program := "ytbiknbjcidlabaa", sum := "ecfb5276ea393b6f65dc2fed32e5fdc5124f221871a1441f4a42c72b4fc55337", func := "loop.example/cerberus/laws.FnExactMsgOk", spec := "fnExactMsgOk", unfollowed := true, recurses := true, apart := false }
def FnExactMsgOkSaid : Prop := fnExactMsgOkRow.holds Try.pinned (OpenSpec.ofChange fnExactMsgOkSpec)

/-- ITS FALSE NEIGHBOUR: 'it returns false'. Refute it at one input. -/
def fnExactMsgOkWrong : ChangeSpec := { name := "fnExactMsgOk", fn := fun _ => fun
  | [d] => { results := [.lit (.bool false)], args := [d] }
  | _ => none }
def FnExactMsgOkWrongFalsely : Prop := fnExactMsgOkRow.holds Try.pinned (OpenSpec.ofChange fnExactMsgOkWrong)

/-- 'laws.FnMsgForm': WHATEVER THE INPUT: true; the input reads as it did. -/
def fnMsgFormSpec : ChangeSpec := { name := "fnMsgForm", fn := fun _ => fun
  | [d] => { results := [.lit (.bool true)], args := [d] }
  | _ => none }
def fnMsgFormRow : OpenClaim := { program := "ytbiknbjcidlabaa", sum := "ecfb5276ea393b6f65dc2fed32e5fdc5124f221871a1441f4a42c72b4fc55337", func := "loop.example/cerberus/laws.FnMsgForm", spec := "fnMsgForm", unfollowed := true, recurses := true, apart := false }
def FnMsgFormSaid : Prop := fnMsgFormRow.holds Try.pinned (OpenSpec.ofChange fnMsgFormSpec)

/-- ITS FALSE NEIGHBOUR: 'it returns false'. Refute it at one input. -/
def fnMsgFormWrong : ChangeSpec := { name := "fnMsgForm", fn := fun _ => fun
  | [d] => { results := [.lit (.bool false)], args := [d] }
  | _ => none }
def FnMsgFormWrongFalsely : Prop := fnMsgFormRow.holds Try.pinned (OpenSpec.ofChange fnMsgFormWrong)

/-- 'laws.FnMsgKinds': WHATEVER THE INPUT: true; the input reads as it did. -/
def fnMsgKindsSpec : ChangeSpec := { name := "fnMsgKinds", fn := fun _ => fun
  | [d1, d2] => { results := [.lit (.bool true)], args := [d1, d2] }
  | _ => none }
def fnMsgKindsRow : OpenClaim := { program := "ytbiknbjcidlabaa", sum := "ecfb5276ea393b6f65dc2fed32e5fdc5124f221871a1441f4a42c72b4fc55337", func := "loop.example/cerberus/laws.FnMsgKinds", spec := "fnMsgKinds", unfollowed := true, recurses := true, apart := false }
def FnMsgKindsSaid : Prop := fnMsgKindsRow.holds Try.pinned (OpenSpec.ofChange fnMsgKindsSpec)

/-- ITS FALSE NEIGHBOUR: 'it returns false'. Refute it at one input. -/
def fnMsgKindsWrong : ChangeSpec := { name := "fnMsgKinds", fn := fun _ => fun
  | [d1, d2] => { results := [.lit (.bool false)], args := [d1, d2] }
  | _ => none }
def FnMsgKindsWrongFalsely : Prop := fnMsgKindsRow.holds Try.pinned (OpenSpec.ofChange fnMsgKindsWrong)

/-- 'laws.FnMsgSeals': WHATEVER THE INPUT: true; the input reads as it did. -/
def fnMsgSealsSpec : ChangeSpec := { name := "fnMsgSeals", fn := fun _ => fun
  | [d1, d2] => { results := [.lit (.bool true)], args := [d1, d2] }
  | _ => none }
def fnMsgSealsRow : OpenClaim := { program := "ytbiknbjcidlabaa", sum := "ecfb5276ea393b6f65dc2fed32e5fdc5124f221871a1441f4a42c72b4fc55337", func := "loop.example/cerberus/laws.FnMsgSeals", spec := "fnMsgSeals", unfollowed := true, recurses := true, apart := false }
def FnMsgSealsSaid : Prop := fnMsgSealsRow.holds Try.pinned (OpenSpec.ofChange fnMsgSealsSpec)

/-- ITS FALSE NEIGHBOUR: 'it returns false'. Refute it at one input. -/
def fnMsgSealsWrong : ChangeSpec := { name := "fnMsgSeals", fn := fun _ => fun
  | [d1, d2] => { results := [.lit (.bool false)], args := [d1, d2] }
  | _ => none }
def FnMsgSealsWrongFalsely : Prop := fnMsgSealsRow.holds Try.pinned (OpenSpec.ofChange fnMsgSealsWrong)

/-- 'laws.FnKnowOnce': WHATEVER THE INPUT: true; the input reads as it did. -/
def fnKnowOnceSpec : ChangeSpec := { name := "fnKnowOnce", fn := fun _ => fun
  | [d] => { results := [.lit (.bool true)], args := [d] }
  | _ => none }
def fnKnowOnceRow : OpenClaim := { program := "ytbiknbjcidlabaa", sum := "ecfb5276ea393b6f65dc2fed32e5fdc5124f221871a1441f4a42c72b4fc55337", func := "loop.example/cerberus/laws.FnKnowOnce", spec := "fnKnowOnce", apart := false }
def FnKnowOnceSaid : Prop := fnKnowOnceRow.holds Try.pinned (OpenSpec.ofChange fnKnowOnceSpec)

/-- ITS FALSE NEIGHBOUR: 'it returns false'. Refute it at one input. -/
def fnKnowOnceWrong : ChangeSpec := { name := "fnKnowOnce", fn := fun _ => fun
  | [d] => { results := [.lit (.bool false)], args := [d] }
  | _ => none }
def FnKnowOnceWrongFalsely : Prop := fnKnowOnceRow.holds Try.pinned (OpenSpec.ofChange fnKnowOnceWrong)

/-- 'laws.FnKnowAll': WHATEVER THE INPUT: true; the input reads as it did. -/
def fnKnowAllSpec : ChangeSpec := { name := "fnKnowAll", fn := fun _ => fun
  | [d] => { results := [.lit (.bool true)], args := [d] }
  | _ => none }
def fnKnowAllRow : OpenClaim := { program := "ytbiknbjcidlabaa", sum := "ecfb5276ea393b6f65dc2fed32e5fdc5124f221871a1441f4a42c72b4fc55337", func := "loop.example/cerberus/laws.FnKnowAll", spec := "fnKnowAll", apart := false }
def FnKnowAllSaid : Prop := fnKnowAllRow.holds Try.pinned (OpenSpec.ofChange fnKnowAllSpec)

/-- ITS FALSE NEIGHBOUR: 'it returns false'. Refute it at one input. -/
def fnKnowAllWrong : ChangeSpec := { name := "fnKnowAll", fn := fun _ => fun
  | [d] => { results := [.lit (.bool false)], args := [d] }
  | _ => none }
def FnKnowAllWrongFalsely : Prop := fnKnowAllRow.holds Try.pinned (OpenSpec.ofChange fnKnowAllWrong)

/-- 'laws.FnKnowFrom': WHATEVER THE INPUT: true; the input reads as it did. -/
def fnKnowFromSpec : ChangeSpec := { name := "fnKnowFrom", fn := fun _ => fun
  | [d] => { results := [.lit (.bool true)], args := [d] }
  | _ => none }
def fnKnowFromRow : OpenClaim := { program := "ytbiknbjcidlabaa", sum := "ecfb5276ea393b6f65dc2fed32e5fdc5124f221871a1441f4a42c72b4fc55337", func := "loop.example/cerberus/laws.FnKnowFrom", spec := "fnKnowFrom", apart := false }
def FnKnowFromSaid : Prop := fnKnowFromRow.holds Try.pinned (OpenSpec.ofChange fnKnowFromSpec)

/-- ITS FALSE NEIGHBOUR: 'it returns false'. Refute it at one input. -/
def fnKnowFromWrong : ChangeSpec := { name := "fnKnowFrom", fn := fun _ => fun
  | [d] => { results := [.lit (.bool false)], args := [d] }
  | _ => none }
def FnKnowFromWrongFalsely : Prop := fnKnowFromRow.holds Try.pinned (OpenSpec.ofChange fnKnowFromWrong)

/-- 'laws.FnKnowMore': WHATEVER THE INPUT: true; the input reads as it did. -/
def fnKnowMoreSpec : ChangeSpec := { name := "fnKnowMore", fn := fun _ => fun
  | [d1, d2] => { results := [.lit (.bool true)], args := [d1, d2] }
  | _ => none }
def fnKnowMoreRow : OpenClaim := { program := "ytbiknbjcidlabaa", sum := "ecfb5276ea393b6f65dc2fed32e5fdc5124f221871a1441f4a42c72b4fc55337", func := "loop.example/cerberus/laws.FnKnowMore", spec := "fnKnowMore", apart := false }
def FnKnowMoreSaid : Prop := fnKnowMoreRow.holds Try.pinned (OpenSpec.ofChange fnKnowMoreSpec)

/-- ITS FALSE NEIGHBOUR: 'it returns false'. Refute it at one input. -/
def fnKnowMoreWrong : ChangeSpec := { name := "fnKnowMore", fn := fun _ => fun
  | [d1, d2] => { results := [.lit (.bool false)], args := [d1, d2] }
  | _ => none }
def FnKnowMoreWrongFalsely : Prop := fnKnowMoreRow.holds Try.pinned (OpenSpec.ofChange fnKnowMoreWrong)

/-- 'laws.FnKnowStep': WHATEVER THE INPUT: true; the input reads as it did. -/
def fnKnowStepSpec : ChangeSpec := { name := "fnKnowStep", fn := fun _ => fun
  | [d1, d2] => { results := [.lit (.bool true)], args := [d1, d2] }
  | _ => none }
def fnKnowStepRow : OpenClaim := { program := "ytbiknbjcidlabaa", sum := "ecfb5276ea393b6f65dc2fed32e5fdc5124f221871a1441f4a42c72b4fc55337", func := "loop.example/cerberus/laws.FnKnowStep", spec := "fnKnowStep", apart := false }
def FnKnowStepSaid : Prop := fnKnowStepRow.holds Try.pinned (OpenSpec.ofChange fnKnowStepSpec)

/-- ITS FALSE NEIGHBOUR: 'it returns false'. Refute it at one input. -/
def fnKnowStepWrong : ChangeSpec := { name := "fnKnowStep", fn := fun _ => fun
  | [d1, d2] => { results := [.lit (.bool false)], args := [d1, d2] }
  | _ => none }
def FnKnowStepWrongFalsely : Prop := fnKnowStepRow.holds Try.pinned (OpenSpec.ofChange fnKnowStepWrong)

/-- 'laws.FnExactKnowKeys': WHATEVER THE INPUT: true; the input reads as it did. -/
def fnExactKnowKeysSpec : ChangeSpec := { name := "fnExactKnowKeys", fn := fun _ => fun
  | [d1, d2] => { results := [.lit (.bool true)], args := [d1, d2] }
  | _ => none }
def fnExactKnowKeysRow : OpenClaim := { program := "ytbiknbjcidlabaa", sum := "ecfb5276ea393b6f65dc2fed32e5fdc5124f221871a1441f4a42c72b4fc55337", func := "loop.example/cerberus/laws.FnExactKnowKeys", spec := "fnExactKnowKeys", apart := false }
def FnExactKnowKeysSaid : Prop := fnExactKnowKeysRow.holds Try.pinned (OpenSpec.ofChange fnExactKnowKeysSpec)

/-- ITS FALSE NEIGHBOUR: 'it returns false'. Refute it at one input. -/
def fnExactKnowKeysWrong : ChangeSpec := { name := "fnExactKnowKeys", fn := fun _ => fun
  | [d1, d2] => { results := [.lit (.bool false)], args := [d1, d2] }
  | _ => none }
def FnExactKnowKeysWrongFalsely : Prop := fnExactKnowKeysRow.holds Try.pinned (OpenSpec.ofChange fnExactKnowKeysWrong)

/-- 'laws.FnKnowRead': WHATEVER THE INPUT: true; the input reads as it did. -/
def fnKnowReadSpec : ChangeSpec := { name := "fnKnowRead", fn := fun _ => fun
  | [d] => { results := [.lit (.bool true)], args := [d] }
  | _ => none }
def fnKnowReadRow : OpenClaim := { program := "ytbiknbjcidlabaa", sum := "ecfb5276ea393b6f65dc2fed32e5fdc5124f221871a1441f4a42c72b4fc55337", func := "loop.example/cerberus/laws.FnKnowRead", spec := "fnKnowRead", apart := false }
def FnKnowReadSaid : Prop := fnKnowReadRow.holds Try.pinned (OpenSpec.ofChange fnKnowReadSpec)

/-- ITS FALSE NEIGHBOUR: 'it returns false'. Refute it at one input. -/
def fnKnowReadWrong : ChangeSpec := { name := "fnKnowRead", fn := fun _ => fun
  | [d] => { results := [.lit (.bool false)], args := [d] }
  | _ => none }
def FnKnowReadWrongFalsely : Prop := fnKnowReadRow.holds Try.pinned (OpenSpec.ofChange fnKnowReadWrong)

/-- 'laws.FnKnowReads': WHATEVER THE INPUT: true; the input reads as it did. -/
def fnKnowReadsSpec : ChangeSpec := { name := "fnKnowReads", fn := fun _ => fun
  | [d] => { results := [.lit (.bool true)], args := [d] }
  | _ => none }
def fnKnowReadsRow : OpenClaim := { program := "ytbiknbjcidlabaa", sum := "ecfb5276ea393b6f65dc2fed32e5fdc5124f221871a1441f4a42c72b4fc55337", func := "loop.example/cerberus/laws.FnKnowReads", spec := "fnKnowReads", apart := false }
def FnKnowReadsSaid : Prop := fnKnowReadsRow.holds Try.pinned (OpenSpec.ofChange fnKnowReadsSpec)

/-- ITS FALSE NEIGHBOUR: 'it returns false'. Refute it at one input. -/
def fnKnowReadsWrong : ChangeSpec := { name := "fnKnowReads", fn := fun _ => fun
  | [d] => { results := [.lit (.bool false)], args := [d] }
  | _ => none }
def FnKnowReadsWrongFalsely : Prop := fnKnowReadsRow.holds Try.pinned (OpenSpec.ofChange fnKnowReadsWrong)

/-- 'laws.FnExactKnowRead': WHATEVER THE INPUT: true; the input reads as it did. -/
def fnExactKnowReadSpec : ChangeSpec := { name := "fnExactKnowRead", fn := fun _ => fun
  | [d1, d2] => { results := [.lit (.bool true)], args := [d1, d2] }
  | _ => none }
def fnExactKnowReadRow : OpenClaim := { program := "ytbiknbjcidlabaa", sum := "ecfb5276ea393b6f65dc2fed32e5fdc5124f221871a1441f4a42c72b4fc55337", func := "loop.example/cerberus/laws.FnExactKnowRead", spec := "fnExactKnowRead", apart := false }
def FnExactKnowReadSaid : Prop := fnExactKnowReadRow.holds Try.pinned (OpenSpec.ofChange fnExactKnowReadSpec)

/-- ITS FALSE NEIGHBOUR: 'it returns false'. Refute it at one input. -/
def fnExactKnowReadWrong : ChangeSpec := { name := "fnExactKnowRead", fn := fun _ => fun
  | [d1, d2] => { results := [.lit (.bool false)], args := [d1, d2] }
  | _ => none }
def FnExactKnowReadWrongFalsely : Prop := fnExactKnowReadRow.holds Try.pinned (OpenSpec.ofChange fnExactKnowReadWrong)

/-- 'laws.FnExactKnowBuild': WHATEVER THE INPUT: true; the input reads as it did. -/
def fnExactKnowBuildSpec : ChangeSpec := { name := "fnExactKnowBuild", fn := fun _ => fun
  | [d1, d2, d3] => { results := [.lit (.bool true)], args := [d1, d2, d3] }
  | _ => none }
def fnExactKnowBuildRow : OpenClaim := { program := "ytbiknbjcidlabaa", sum := "ecfb5276ea393b6f65dc2fed32e5fdc5124f221871a1441f4a42c72b4fc55337", func := "loop.example/cerberus/laws.FnExactKnowBuild", spec := "fnExactKnowBuild", unfollowed := true, recurses := true, apart := false }
def FnExactKnowBuildSaid : Prop := fnExactKnowBuildRow.holds Try.pinned (OpenSpec.ofChange fnExactKnowBuildSpec)

/-- ITS FALSE NEIGHBOUR: 'it returns false'. Refute it at one input. -/
def fnExactKnowBuildWrong : ChangeSpec := { name := "fnExactKnowBuild", fn := fun _ => fun
  | [d1, d2, d3] => { results := [.lit (.bool false)], args := [d1, d2, d3] }
  | _ => none }
def FnExactKnowBuildWrongFalsely : Prop := fnExactKnowBuildRow.holds Try.pinned (OpenSpec.ofChange fnExactKnowBuildWrong)

/-- 'laws.FnBuildMore': WHATEVER THE INPUT: true; the input reads as it did. -/
def fnBuildMoreSpec : ChangeSpec := { name := "fnBuildMore", fn := fun _ => fun
  | [d1, d2] => { results := [.lit (.bool true)], args := [d1, d2] }
  | _ => none }
def fnBuildMoreRow : OpenClaim := { program := "ytbiknbjcidlabaa", sum := "ecfb5276ea393b6f65dc2fed32e5fdc5124f221871a1441f4a42c72b4fc55337", func := "loop.example/cerberus/laws.FnBuildMore", spec := "fnBuildMore", unfollowed := true, recurses := true, apart := false }
def FnBuildMoreSaid : Prop := fnBuildMoreRow.holds Try.pinned (OpenSpec.ofChange fnBuildMoreSpec)

/-- ITS FALSE NEIGHBOUR: 'it returns false'. Refute it at one input. -/
def fnBuildMoreWrong : ChangeSpec := { name := "fnBuildMore", fn := fun _ => fun
  | [d1, d2] => { results := [.lit (.bool false)], args := [d1, d2] }
  | _ => none }
def FnBuildMoreWrongFalsely : Prop := fnBuildMoreRow.holds Try.pinned (OpenSpec.ofChange fnBuildMoreWrong)

/-- 'laws.FnKnowNothing': WHATEVER THE INPUT: true; the input reads as it did. -/
def fnKnowNothingSpec : ChangeSpec := { name := "fnKnowNothing", fn := fun _ => fun
  | [d] => { results := [.lit (.bool true)], args := [d] }
  | _ => none }
def fnKnowNothingRow : OpenClaim := { program := "ytbiknbjcidlabaa", sum := "ecfb5276ea393b6f65dc2fed32e5fdc5124f221871a1441f4a42c72b4fc55337", func := "loop.example/cerberus/laws.FnKnowNothing", spec := "fnKnowNothing", unfollowed := true, recurses := true, apart := false }
def FnKnowNothingSaid : Prop := fnKnowNothingRow.holds Try.pinned (OpenSpec.ofChange fnKnowNothingSpec)

/-- ITS FALSE NEIGHBOUR: 'it returns false'. Refute it at one input. -/
def fnKnowNothingWrong : ChangeSpec := { name := "fnKnowNothing", fn := fun _ => fun
  | [d] => { results := [.lit (.bool false)], args := [d] }
  | _ => none }
def FnKnowNothingWrongFalsely : Prop := fnKnowNothingRow.holds Try.pinned (OpenSpec.ofChange fnKnowNothingWrong)

/-- 'laws.FnBuildNot': WHATEVER THE INPUT: true; the input reads as it did. -/
def fnBuildNotSpec : ChangeSpec := { name := "fnBuildNot", fn := fun _ => fun
  | [d] => { results := [.lit (.bool true)], args := [d] }
  | _ => none }
def fnBuildNotRow : OpenClaim := { program := "ytbiknbjcidlabaa", sum := "ecfb5276ea393b6f65dc2fed32e5fdc5124f221871a1441f4a42c72b4fc55337", func := "loop.example/cerberus/laws.FnBuildNot", spec := "fnBuildNot", unfollowed := true, recurses := true, apart := false }
def FnBuildNotSaid : Prop := fnBuildNotRow.holds Try.pinned (OpenSpec.ofChange fnBuildNotSpec)

/-- ITS FALSE NEIGHBOUR: 'it returns false'. Refute it at one input. -/
def fnBuildNotWrong : ChangeSpec := { name := "fnBuildNot", fn := fun _ => fun
  | [d] => { results := [.lit (.bool false)], args := [d] }
  | _ => none }
def FnBuildNotWrongFalsely : Prop := fnBuildNotRow.holds Try.pinned (OpenSpec.ofChange fnBuildNotWrong)

/-- 'laws.FnKnowBuild': WHATEVER THE INPUT: true; the input reads as it did. -/
def fnKnowBuildSpec : ChangeSpec := { name := "fnKnowBuild", fn := fun _ => fun
  | [d] => { results := [.lit (.bool true)], args := [d] }
  | _ => none }
def fnKnowBuildRow : OpenClaim := { program := "ytbiknbjcidlabaa", sum := "ecfb5276ea393b6f65dc2fed32e5fdc5124f221871a1441f4a42c72b4fc55337", func := "loop.example/cerberus/laws.FnKnowBuild", spec := "fnKnowBuild", unfollowed := true, recurses := true, apart := false }
def FnKnowBuildSaid : Prop := fnKnowBuildRow.holds Try.pinned (OpenSpec.ofChange fnKnowBuildSpec)

/-- ITS FALSE NEIGHBOUR: 'it returns false'. Refute it at one input. -/
def fnKnowBuildWrong : ChangeSpec := { name := "fnKnowBuild", fn := fun _ => fun
  | [d] => { results := [.lit (.bool false)], args := [d] }
  | _ => none }
def FnKnowBuildWrongFalsely : Prop := fnKnowBuildRow.holds Try.pinned (OpenSpec.ofChange fnKnowBuildWrong)

/- THE SECOND FORM. 'bulk': how many values and letters a reading holds, each counted each time it is reached (what is shared counts as often as it is met; a slice's spare places count too). A statement '..UptoSaid' is the law's where the arguments, and the package variables that the reading takes, are together of bulk at most 1048576: NARROWER than '..Said'. Prove '..Said' where nothing that the law and all that it calls make is longer than what came in: it says more and counts as full. Else prove '..UptoSaid'. A law counts once. -/
mutual
def uptoBulk {H : Type} : DataW H → Nat
  | .lit (.string bytes) => bytes.length + 1
  | .lit _ => 1
  | .nil => 1
  | .ptr d => uptoBulk d + 1
  | .slice elems spare => uptoBulkAll elems + uptoBulkAll spare + 1
  | .agg parts => uptoBulkAll parts + 1
  | .iface _ d => uptoBulk d + 1
  | .map entries => uptoBulkEntries entries + 1
  | .held _ => 1
def uptoBulkAll {H : Type} : List (DataW H) → Nat
  | [] => 0
  | d :: r => uptoBulk d + uptoBulkAll r
def uptoBulkEntries {H : Type} : List (Lit × DataW H) → Nat
  | [] => 0
  | x :: r => uptoBulkEntry x + uptoBulkEntries r
def uptoBulkEntry {H : Type} : Lit × DataW H → Nat
  | (.string bytes, d) => bytes.length + uptoBulk d + 1
  | (_, d) => uptoBulk d + 1
 end
def uptoSmall : (H : Type) → List (DataW H) → Bool := fun _ ds => decide (uptoBulkAll ds ≤ 1048576)
def OpenSpec.upto (s : _root_.Go.ChangeSpec) : _root_.Go.OpenSpec := { _root_.Go.OpenSpec.ofChange s with cond := some uptoSmall }

/-- 'laws.FnSealHolds', WHERE WHAT IT READS IS OF BULK AT MOST 1048576: true; the input reads as it did. -/
def fnSealHoldsUptoRow : OpenClaim := { program := "ytbiknbjcidlabaa", sum := "ecfb5276ea393b6f65dc2fed32e5fdc5124f221871a1441f4a42c72b4fc55337", func := "loop.example/cerberus/laws.FnSealHolds", spec := "fnSealHolds", apart := false, narrowed := true }
def FnSealHoldsUptoSaid : Prop := fnSealHoldsUptoRow.holds Try.pinned (OpenSpec.upto fnSealHoldsSpec)

/-- 'laws.FnExactMsgOk', WHERE WHAT IT READS IS OF BULK AT MOST 1048576: true; the input reads as it did. -/
def fnExactMsgOkUptoRow : OpenClaim := { program := "ytbiknbjcidlabaa", sum := "ecfb5276ea393b6f65dc2fed32e5fdc5124f221871a1441f4a42c72b4fc55337", func := "loop.example/cerberus/laws.FnExactMsgOk", spec := "fnExactMsgOk", unfollowed := true, recurses := true, apart := false, narrowed := true }
def FnExactMsgOkUptoSaid : Prop := fnExactMsgOkUptoRow.holds Try.pinned (OpenSpec.upto fnExactMsgOkSpec)

/-- 'laws.FnMsgForm', WHERE WHAT IT READS IS OF BULK AT MOST 1048576: true; the input reads as it did. -/
def fnMsgFormUptoRow : OpenClaim := { program := "ytbiknbjcidlabaa", sum := "ecfb5276ea393b6f65dc2fed32e5fdc5124f221871a1441f4a42c72b4fc55337", func := "loop.example/cerberus/laws.FnMsgForm", spec := "fnMsgForm", unfollowed := true, recurses := true, apart := false, narrowed := true }
def FnMsgFormUptoSaid : Prop := fnMsgFormUptoRow.holds Try.pinned (OpenSpec.upto fnMsgFormSpec)

/-- 'laws.FnMsgKinds', WHERE WHAT IT READS IS OF BULK AT MOST 1048576: true; the input reads as it did. -/
def fnMsgKindsUptoRow : OpenClaim := { program := "ytbiknbjcidlabaa", sum := "ecfb5276ea393b6f65dc2fed32e5fdc5124f221871a1441f4a42c72b4fc55337", func := "loop.example/cerberus/laws.FnMsgKinds", spec := "fnMsgKinds", unfollowed := true, recurses := true, apart := false, narrowed := true }
def FnMsgKindsUptoSaid : Prop := fnMsgKindsUptoRow.holds Try.pinned (OpenSpec.upto fnMsgKindsSpec)

/-- 'laws.FnMsgSeals', WHERE WHAT IT READS IS OF BULK AT MOST 1048576: true; the input reads as it did. -/
def fnMsgSealsUptoRow : OpenClaim := { program := "ytbiknbjcidlabaa", sum := "ecfb5276ea393b6f65dc2fed32e5fdc5124f221871a1441f4a42c72b4fc55337", func := "loop.example/cerberus/laws.FnMsgSeals", spec := "fnMsgSeals", unfollowed := true, recurses := true, apart := false, narrowed := true }
def FnMsgSealsUptoSaid : Prop := fnMsgSealsUptoRow.holds Try.pinned (OpenSpec.upto fnMsgSealsSpec)

/-- 'laws.FnKnowOnce', WHERE WHAT IT READS IS OF BULK AT MOST 1048576: true; the input reads as it did. -/
def fnKnowOnceUptoRow : OpenClaim := { program := "ytbiknbjcidlabaa", sum := "ecfb5276ea393b6f65dc2fed32e5fdc5124f221871a1441f4a42c72b4fc55337", func := "loop.example/cerberus/laws.FnKnowOnce", spec := "fnKnowOnce", apart := false, narrowed := true }
def FnKnowOnceUptoSaid : Prop := fnKnowOnceUptoRow.holds Try.pinned (OpenSpec.upto fnKnowOnceSpec)

/-- 'laws.FnKnowAll', WHERE WHAT IT READS IS OF BULK AT MOST 1048576: true; the input reads as it did. -/
def fnKnowAllUptoRow : OpenClaim := { program := "ytbiknbjcidlabaa", sum := "ecfb5276ea393b6f65dc2fed32e5fdc5124f221871a1441f4a42c72b4fc55337", func := "loop.example/cerberus/laws.FnKnowAll", spec := "fnKnowAll", apart := false, narrowed := true }
def FnKnowAllUptoSaid : Prop := fnKnowAllUptoRow.holds Try.pinned (OpenSpec.upto fnKnowAllSpec)

/-- 'laws.FnKnowFrom', WHERE WHAT IT READS IS OF BULK AT MOST 1048576: true; the input reads as it did. -/
def fnKnowFromUptoRow : OpenClaim := { program := "ytbiknbjcidlabaa", sum := "ecfb5276ea393b6f65dc2fed32e5fdc5124f221871a1441f4a42c72b4fc55337", func := "loop.example/cerberus/laws.FnKnowFrom", spec := "fnKnowFrom", apart := false, narrowed := true }
def FnKnowFromUptoSaid : Prop := fnKnowFromUptoRow.holds Try.pinned (OpenSpec.upto fnKnowFromSpec)

/-- 'laws.FnKnowMore', WHERE WHAT IT READS IS OF BULK AT MOST 1048576: true; the input reads as it did. -/
def fnKnowMoreUptoRow : OpenClaim := { program := "ytbiknbjcidlabaa", sum := "ecfb5276ea393b6f65dc2fed32e5fdc5124f221871a1441f4a42c72b4fc55337", func := "loop.example/cerberus/laws.FnKnowMore", spec := "fnKnowMore", apart := false, narrowed := true }
def FnKnowMoreUptoSaid : Prop := fnKnowMoreUptoRow.holds Try.pinned (OpenSpec.upto fnKnowMoreSpec)

/-- 'laws.FnKnowStep', WHERE WHAT IT READS IS OF BULK AT MOST 1048576: true; the input reads as it did. -/
def fnKnowStepUptoRow : OpenClaim := { program := "ytbiknbjcidlabaa", sum := "ecfb5276ea393b6f65dc2fed32e5fdc5124f221871a1441f4a42c72b4fc55337", func := "loop.example/cerberus/laws.FnKnowStep", spec := "fnKnowStep", apart := false, narrowed := true }
def FnKnowStepUptoSaid : Prop := fnKnowStepUptoRow.holds Try.pinned (OpenSpec.upto fnKnowStepSpec)

/-- 'laws.FnExactKnowKeys', WHERE WHAT IT READS IS OF BULK AT MOST 1048576: true; the input reads as it did. -/
def fnExactKnowKeysUptoRow : OpenClaim := { program := "ytbiknbjcidlabaa", sum := "ecfb5276ea393b6f65dc2fed32e5fdc5124f221871a1441f4a42c72b4fc55337", func := "loop.example/cerberus/laws.FnExactKnowKeys", spec := "fnExactKnowKeys", apart := false, narrowed := true }
def FnExactKnowKeysUptoSaid : Prop := fnExactKnowKeysUptoRow.holds Try.pinned (OpenSpec.upto fnExactKnowKeysSpec)

/-- 'laws.FnKnowRead', WHERE WHAT IT READS IS OF BULK AT MOST 1048576: true; the input reads as it did. -/
def fnKnowReadUptoRow : OpenClaim := { program := "ytbiknbjcidlabaa", sum := "ecfb5276ea393b6f65dc2fed32e5fdc5124f221871a1441f4a42c72b4fc55337", func := "loop.example/cerberus/laws.FnKnowRead", spec := "fnKnowRead", apart := false, narrowed := true }
def FnKnowReadUptoSaid : Prop := fnKnowReadUptoRow.holds Try.pinned (OpenSpec.upto fnKnowReadSpec)

/-- 'laws.FnKnowReads', WHERE WHAT IT READS IS OF BULK AT MOST 1048576: true; the input reads as it did. -/
def fnKnowReadsUptoRow : OpenClaim := { program := "ytbiknbjcidlabaa", sum := "ecfb5276ea393b6f65dc2fed32e5fdc5124f221871a1441f4a42c72b4fc55337", func := "loop.example/cerberus/laws.FnKnowReads", spec := "fnKnowReads", apart := false, narrowed := true }
def FnKnowReadsUptoSaid : Prop := fnKnowReadsUptoRow.holds Try.pinned (OpenSpec.upto fnKnowReadsSpec)

/-- 'laws.FnExactKnowRead', WHERE WHAT IT READS IS OF BULK AT MOST 1048576: true; the input reads as it did. -/
def fnExactKnowReadUptoRow : OpenClaim := { program := "ytbiknbjcidlabaa", sum := "ecfb5276ea393b6f65dc2fed32e5fdc5124f221871a1441f4a42c72b4fc55337", func := "loop.example/cerberus/laws.FnExactKnowRead", spec := "fnExactKnowRead", apart := false, narrowed := true }
def FnExactKnowReadUptoSaid : Prop := fnExactKnowReadUptoRow.holds Try.pinned (OpenSpec.upto fnExactKnowReadSpec)

/-- 'laws.FnExactKnowBuild', WHERE WHAT IT READS IS OF BULK AT MOST 1048576: true; the input reads as it did. -/
def fnExactKnowBuildUptoRow : OpenClaim := { program := "ytbiknbjcidlabaa", sum := "ecfb5276ea393b6f65dc2fed32e5fdc5124f221871a1441f4a42c72b4fc55337", func := "loop.example/cerberus/laws.FnExactKnowBuild", spec := "fnExactKnowBuild", unfollowed := true, recurses := true, apart := false, narrowed := true }
def FnExactKnowBuildUptoSaid : Prop := fnExactKnowBuildUptoRow.holds Try.pinned (OpenSpec.upto fnExactKnowBuildSpec)

/-- 'laws.FnBuildMore', WHERE WHAT IT READS IS OF BULK AT MOST 1048576: true; the input reads as it did. -/
def fnBuildMoreUptoRow : OpenClaim := { program := "ytbiknbjcidlabaa", sum := "ecfb5276ea393b6f65dc2fed32e5fdc5124f221871a1441f4a42c72b4fc55337", func := "loop.example/cerberus/laws.FnBuildMore", spec := "fnBuildMore", unfollowed := true, recurses := true, apart := false, narrowed := true }
def FnBuildMoreUptoSaid : Prop := fnBuildMoreUptoRow.holds Try.pinned (OpenSpec.upto fnBuildMoreSpec)

/-- 'laws.FnKnowNothing', WHERE WHAT IT READS IS OF BULK AT MOST 1048576: true; the input reads as it did. -/
def fnKnowNothingUptoRow : OpenClaim := { program := "ytbiknbjcidlabaa", sum := "ecfb5276ea393b6f65dc2fed32e5fdc5124f221871a1441f4a42c72b4fc55337", func := "loop.example/cerberus/laws.FnKnowNothing", spec := "fnKnowNothing", unfollowed := true, recurses := true, apart := false, narrowed := true }
def FnKnowNothingUptoSaid : Prop := fnKnowNothingUptoRow.holds Try.pinned (OpenSpec.upto fnKnowNothingSpec)

/-- 'laws.FnBuildNot', WHERE WHAT IT READS IS OF BULK AT MOST 1048576: true; the input reads as it did. -/
def fnBuildNotUptoRow : OpenClaim := { program := "ytbiknbjcidlabaa", sum := "ecfb5276ea393b6f65dc2fed32e5fdc5124f221871a1441f4a42c72b4fc55337", func := "loop.example/cerberus/laws.FnBuildNot", spec := "fnBuildNot", unfollowed := true, recurses := true, apart := false, narrowed := true }
def FnBuildNotUptoSaid : Prop := fnBuildNotUptoRow.holds Try.pinned (OpenSpec.upto fnBuildNotSpec)

/-- 'laws.FnKnowBuild', WHERE WHAT IT READS IS OF BULK AT MOST 1048576: true; the input reads as it did. -/
def fnKnowBuildUptoRow : OpenClaim := { program := "ytbiknbjcidlabaa", sum := "ecfb5276ea393b6f65dc2fed32e5fdc5124f221871a1441f4a42c72b4fc55337", func := "loop.example/cerberus/laws.FnKnowBuild", spec := "fnKnowBuild", unfollowed := true, recurses := true, apart := false, narrowed := true }
def FnKnowBuildUptoSaid : Prop := fnKnowBuildUptoRow.holds Try.pinned (OpenSpec.upto fnKnowBuildSpec)

end Rows
end Go.Proofs.Ytbiknbjcidlabaa
