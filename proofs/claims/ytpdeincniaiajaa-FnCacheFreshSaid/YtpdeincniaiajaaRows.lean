/-
  No cell of these rows narrows 'for every input' (looked for: loops, veiled, ifaces, maps, wideKeys, modest, calm, conditions, laid).
  DERIVED. THE GIVEN ROWS OF THIS SEAT. 16 by the template 'for every input the law returns true; each argument reads behind the call as it read before'; 0 by the template 'total and deterministic' (their statements: YtpdeincniaiajaaTotals.lean).
  GIVEN WITH THE SEED: the statements are not yours to turn. If you find one false, say at which input.
  Laid BY PROGRAM, IN A SANDBOX (cutbox-rows.mjs): the forced cells as the released guide's own fill.sh prints them over the translation a77b0ee684ffb0d0… (all of the seat's roots in one cut). By AI agents, Wed Nov 11 2026. No macro, syntax, notation, axiom, sorry.
-/
import Derived.Test.YtpdeincniaiajaaChecked
import GoSem.Claim
import GoSem.ClaimJoined
import GoSem.ClaimMapViews
import Derived.JoinedTies
import Derived.KernelRfl
namespace Go.Proofs.Ytpdeincniaiajaa
/- THE CELL 'sum', in the pinned program and in every row, IS THE sha256 OF THE DUMP (.gsa) THAT YtpdeincniaiajaaProg.lean LOADS. Nothing in Lean hashes anything: it is a label: what it is worth is what the hold of that sum in a sandbox is worth. -/
noncomputable def Try.pinned : Pinned := { name := "ytpdeincniaiajaa", sum := "a77b0ee684ffb0d0e1e75480aa3ec251659be6509b78db51092104de4efddb48", checked := Try.checked }
namespace Rows
def none {H : Type} : Left H := { results := [], args := [] }

/-- 'laws.FnExactKdcOk': WHATEVER THE INPUT: true; the input reads as it did. -/
def fnExactKdcOkSpec : ChangeSpec := { name := "fnExactKdcOk", fn := fun _ => fun
  | [d] => { results := [.lit (.bool true)], args := [d] }
  | _ => none }
def fnExactKdcOkRow : OpenClaim := { program := "ytpdeincniaiajaa", sum := "a77b0ee684ffb0d0e1e75480aa3ec251659be6509b78db51092104de4efddb48", func := "loop.example/cerberus/laws.FnExactKdcOk", spec := "fnExactKdcOk", apart := false }
def FnExactKdcOkSaid : Prop := fnExactKdcOkRow.holds Try.pinned (OpenSpec.ofChange fnExactKdcOkSpec)

/-- ITS FALSE NEIGHBOUR: 'it returns false'. Refute it at one input. -/
def fnExactKdcOkWrong : ChangeSpec := { name := "fnExactKdcOk", fn := fun _ => fun
  | [d] => { results := [.lit (.bool false)], args := [d] }
  | _ => none }
def FnExactKdcOkWrongFalsely : Prop := fnExactKdcOkRow.holds Try.pinned (OpenSpec.ofChange fnExactKdcOkWrong)

/-- 'laws.FnExactServNew': WHATEVER THE INPUT: true; the input reads as it did. -/
def fnExactServNewSpec : ChangeSpec := { name := "fnExactServNew", fn := fun _ => fun
  | [d] => { results := [.lit (.bool true)], args := [d] }
  | _ => none }
def fnExactServNewRow : OpenClaim := { program := "ytpdeincniaiajaa", sum := "a77b0ee684ffb0d0e1e75480aa3ec251659be6509b78db51092104de4efddb48", func := "loop.example/cerberus/laws.FnExactServNew", spec := "fnExactServNew", apart := false }
def FnExactServNewSaid : Prop := fnExactServNewRow.holds Try.pinned (OpenSpec.ofChange fnExactServNewSpec)

/-- ITS FALSE NEIGHBOUR: 'it returns false'. Refute it at one input. -/
def fnExactServNewWrong : ChangeSpec := { name := "fnExactServNew", fn := fun _ => fun
  | [d] => { results := [.lit (.bool false)], args := [d] }
  | _ => none }
def FnExactServNewWrongFalsely : Prop := fnExactServNewRow.holds Try.pinned (OpenSpec.ofChange fnExactServNewWrong)

/-- 'laws.FnClientNew': WHATEVER THE INPUT: true; the input reads as it did. -/
def fnClientNewSpec : ChangeSpec := { name := "fnClientNew", fn := fun _ => fun
  | [d] => { results := [.lit (.bool true)], args := [d] }
  | _ => none }
def fnClientNewRow : OpenClaim := { program := "ytpdeincniaiajaa", sum := "a77b0ee684ffb0d0e1e75480aa3ec251659be6509b78db51092104de4efddb48", func := "loop.example/cerberus/laws.FnClientNew", spec := "fnClientNew", unfollowed := true, recurses := true, apart := false }
def FnClientNewSaid : Prop := fnClientNewRow.holds Try.pinned (OpenSpec.ofChange fnClientNewSpec)

/-- ITS FALSE NEIGHBOUR: 'it returns false'. Refute it at one input. -/
def fnClientNewWrong : ChangeSpec := { name := "fnClientNew", fn := fun _ => fun
  | [d] => { results := [.lit (.bool false)], args := [d] }
  | _ => none }
def FnClientNewWrongFalsely : Prop := fnClientNewRow.holds Try.pinned (OpenSpec.ofChange fnClientNewWrong)

/-- 'laws.FnCacheFull': WHATEVER THE INPUT: true; the input reads as it did. -/
def fnCacheFullSpec : ChangeSpec := { name := "fnCacheFull", fn := fun _ => fun
  | [d] => { results := [.lit (.bool true)], args := [d] }
  | _ => none }
def fnCacheFullRow : OpenClaim := { program := "ytpdeincniaiajaa", sum := "a77b0ee684ffb0d0e1e75480aa3ec251659be6509b78db51092104de4efddb48", func := "loop.example/cerberus/laws.FnCacheFull", spec := "fnCacheFull", unfollowed := true, recurses := true, apart := false }
def FnCacheFullSaid : Prop := fnCacheFullRow.holds Try.pinned (OpenSpec.ofChange fnCacheFullSpec)

/-- ITS FALSE NEIGHBOUR: 'it returns false'. Refute it at one input. -/
def fnCacheFullWrong : ChangeSpec := { name := "fnCacheFull", fn := fun _ => fun
  | [d] => { results := [.lit (.bool false)], args := [d] }
  | _ => none }
def FnCacheFullWrongFalsely : Prop := fnCacheFullRow.holds Try.pinned (OpenSpec.ofChange fnCacheFullWrong)

/-- 'laws.FnCacheLater': WHATEVER THE INPUT: true; the input reads as it did. -/
def fnCacheLaterSpec : ChangeSpec := { name := "fnCacheLater", fn := fun _ => fun
  | [d] => { results := [.lit (.bool true)], args := [d] }
  | _ => none }
def fnCacheLaterRow : OpenClaim := { program := "ytpdeincniaiajaa", sum := "a77b0ee684ffb0d0e1e75480aa3ec251659be6509b78db51092104de4efddb48", func := "loop.example/cerberus/laws.FnCacheLater", spec := "fnCacheLater", unfollowed := true, recurses := true, apart := false }
def FnCacheLaterSaid : Prop := fnCacheLaterRow.holds Try.pinned (OpenSpec.ofChange fnCacheLaterSpec)

/-- ITS FALSE NEIGHBOUR: 'it returns false'. Refute it at one input. -/
def fnCacheLaterWrong : ChangeSpec := { name := "fnCacheLater", fn := fun _ => fun
  | [d] => { results := [.lit (.bool false)], args := [d] }
  | _ => none }
def FnCacheLaterWrongFalsely : Prop := fnCacheLaterRow.holds Try.pinned (OpenSpec.ofChange fnCacheLaterWrong)

/-- 'laws.FnExactServOk': WHATEVER THE INPUT: true; the input reads as it did. -/
def fnExactServOkSpec : ChangeSpec := { name := "fnExactServOk", fn := fun _ => fun
  | [d] => { results := [.lit (.bool true)], args := [d] }
  | _ => none }
def fnExactServOkRow : OpenClaim := { program := "ytpdeincniaiajaa", sum := "a77b0ee684ffb0d0e1e75480aa3ec251659be6509b78db51092104de4efddb48", func := "loop.example/cerberus/laws.FnExactServOk", spec := "fnExactServOk", unfollowed := true, recurses := true, apart := false }
def FnExactServOkSaid : Prop := fnExactServOkRow.holds Try.pinned (OpenSpec.ofChange fnExactServOkSpec)

/-- ITS FALSE NEIGHBOUR: 'it returns false'. Refute it at one input. -/
def fnExactServOkWrong : ChangeSpec := { name := "fnExactServOk", fn := fun _ => fun
  | [d] => { results := [.lit (.bool false)], args := [d] }
  | _ => none }
def FnExactServOkWrongFalsely : Prop := fnExactServOkRow.holds Try.pinned (OpenSpec.ofChange fnExactServOkWrong)

/-- 'laws.FnCacheFresh': WHATEVER THE INPUT: true; the input reads as it did. -/
def fnCacheFreshSpec : ChangeSpec := { name := "fnCacheFresh", fn := fun _ => fun
  | [d] => { results := [.lit (.bool true)], args := [d] }
  | _ => none }
def fnCacheFreshRow : OpenClaim := { program := "ytpdeincniaiajaa", sum := "a77b0ee684ffb0d0e1e75480aa3ec251659be6509b78db51092104de4efddb48", func := "loop.example/cerberus/laws.FnCacheFresh", spec := "fnCacheFresh", unfollowed := true, recurses := true, apart := false }
def FnCacheFreshSaid : Prop := fnCacheFreshRow.holds Try.pinned (OpenSpec.ofChange fnCacheFreshSpec)

/-- ITS FALSE NEIGHBOUR: 'it returns false'. Refute it at one input. -/
def fnCacheFreshWrong : ChangeSpec := { name := "fnCacheFresh", fn := fun _ => fun
  | [d] => { results := [.lit (.bool false)], args := [d] }
  | _ => none }
def FnCacheFreshWrongFalsely : Prop := fnCacheFreshRow.holds Try.pinned (OpenSpec.ofChange fnCacheFreshWrong)

/-- 'laws.FnCacheKeeps': WHATEVER THE INPUT: true; the input reads as it did. -/
def fnCacheKeepsSpec : ChangeSpec := { name := "fnCacheKeeps", fn := fun _ => fun
  | [d] => { results := [.lit (.bool true)], args := [d] }
  | _ => none }
def fnCacheKeepsRow : OpenClaim := { program := "ytpdeincniaiajaa", sum := "a77b0ee684ffb0d0e1e75480aa3ec251659be6509b78db51092104de4efddb48", func := "loop.example/cerberus/laws.FnCacheKeeps", spec := "fnCacheKeeps", unfollowed := true, recurses := true, apart := false }
def FnCacheKeepsSaid : Prop := fnCacheKeepsRow.holds Try.pinned (OpenSpec.ofChange fnCacheKeepsSpec)

/-- ITS FALSE NEIGHBOUR: 'it returns false'. Refute it at one input. -/
def fnCacheKeepsWrong : ChangeSpec := { name := "fnCacheKeeps", fn := fun _ => fun
  | [d] => { results := [.lit (.bool false)], args := [d] }
  | _ => none }
def FnCacheKeepsWrongFalsely : Prop := fnCacheKeepsRow.holds Try.pinned (OpenSpec.ofChange fnCacheKeepsWrong)

/-- 'laws.FnCacheOnce': WHATEVER THE INPUT: true; the input reads as it did. -/
def fnCacheOnceSpec : ChangeSpec := { name := "fnCacheOnce", fn := fun _ => fun
  | [d1, d2] => { results := [.lit (.bool true)], args := [d1, d2] }
  | _ => none }
def fnCacheOnceRow : OpenClaim := { program := "ytpdeincniaiajaa", sum := "a77b0ee684ffb0d0e1e75480aa3ec251659be6509b78db51092104de4efddb48", func := "loop.example/cerberus/laws.FnCacheOnce", spec := "fnCacheOnce", unfollowed := true, recurses := true, apart := false }
def FnCacheOnceSaid : Prop := fnCacheOnceRow.holds Try.pinned (OpenSpec.ofChange fnCacheOnceSpec)

/-- ITS FALSE NEIGHBOUR: 'it returns false'. Refute it at one input. -/
def fnCacheOnceWrong : ChangeSpec := { name := "fnCacheOnce", fn := fun _ => fun
  | [d1, d2] => { results := [.lit (.bool false)], args := [d1, d2] }
  | _ => none }
def FnCacheOnceWrongFalsely : Prop := fnCacheOnceRow.holds Try.pinned (OpenSpec.ofChange fnCacheOnceWrong)

/-- 'laws.FnCacheOrder': WHATEVER THE INPUT: true; the input reads as it did. -/
def fnCacheOrderSpec : ChangeSpec := { name := "fnCacheOrder", fn := fun _ => fun
  | [d1, d2] => { results := [.lit (.bool true)], args := [d1, d2] }
  | _ => none }
def fnCacheOrderRow : OpenClaim := { program := "ytpdeincniaiajaa", sum := "a77b0ee684ffb0d0e1e75480aa3ec251659be6509b78db51092104de4efddb48", func := "loop.example/cerberus/laws.FnCacheOrder", spec := "fnCacheOrder", unfollowed := true, recurses := true, apart := false }
def FnCacheOrderSaid : Prop := fnCacheOrderRow.holds Try.pinned (OpenSpec.ofChange fnCacheOrderSpec)

/-- ITS FALSE NEIGHBOUR: 'it returns false'. Refute it at one input. -/
def fnCacheOrderWrong : ChangeSpec := { name := "fnCacheOrder", fn := fun _ => fun
  | [d1, d2] => { results := [.lit (.bool false)], args := [d1, d2] }
  | _ => none }
def FnCacheOrderWrongFalsely : Prop := fnCacheOrderRow.holds Try.pinned (OpenSpec.ofChange fnCacheOrderWrong)

/-- 'laws.FnExactCacheWith': WHATEVER THE INPUT: true; the input reads as it did. -/
def fnExactCacheWithSpec : ChangeSpec := { name := "fnExactCacheWith", fn := fun _ => fun
  | [d1, d2, d3] => { results := [.lit (.bool true)], args := [d1, d2, d3] }
  | _ => none }
def fnExactCacheWithRow : OpenClaim := { program := "ytpdeincniaiajaa", sum := "a77b0ee684ffb0d0e1e75480aa3ec251659be6509b78db51092104de4efddb48", func := "loop.example/cerberus/laws.FnExactCacheWith", spec := "fnExactCacheWith", unfollowed := true, recurses := true, apart := false }
def FnExactCacheWithSaid : Prop := fnExactCacheWithRow.holds Try.pinned (OpenSpec.ofChange fnExactCacheWithSpec)

/-- ITS FALSE NEIGHBOUR: 'it returns false'. Refute it at one input. -/
def fnExactCacheWithWrong : ChangeSpec := { name := "fnExactCacheWith", fn := fun _ => fun
  | [d1, d2, d3] => { results := [.lit (.bool false)], args := [d1, d2, d3] }
  | _ => none }
def FnExactCacheWithWrongFalsely : Prop := fnExactCacheWithRow.holds Try.pinned (OpenSpec.ofChange fnExactCacheWithWrong)

/-- 'laws.FnExactClientNew': WHATEVER THE INPUT: true; the input reads as it did. -/
def fnExactClientNewSpec : ChangeSpec := { name := "fnExactClientNew", fn := fun _ => fun
  | [d] => { results := [.lit (.bool true)], args := [d] }
  | _ => none }
def fnExactClientNewRow : OpenClaim := { program := "ytpdeincniaiajaa", sum := "a77b0ee684ffb0d0e1e75480aa3ec251659be6509b78db51092104de4efddb48", func := "loop.example/cerberus/laws.FnExactClientNew", spec := "fnExactClientNew", apart := false }
def FnExactClientNewSaid : Prop := fnExactClientNewRow.holds Try.pinned (OpenSpec.ofChange fnExactClientNewSpec)

/-- ITS FALSE NEIGHBOUR: 'it returns false'. Refute it at one input. -/
def fnExactClientNewWrong : ChangeSpec := { name := "fnExactClientNew", fn := fun _ => fun
  | [d] => { results := [.lit (.bool false)], args := [d] }
  | _ => none }
def FnExactClientNewWrongFalsely : Prop := fnExactClientNewRow.holds Try.pinned (OpenSpec.ofChange fnExactClientNewWrong)

/-- 'laws.FnWorldNew': WHATEVER THE INPUT: true; the input reads as it did. -/
def fnWorldNewSpec : ChangeSpec := { name := "fnWorldNew", fn := fun _ => fun
  | [d] => { results := [.lit (.bool true)], args := [d] }
  | _ => none }
def fnWorldNewRow : OpenClaim := { program := "ytpdeincniaiajaa", sum := "a77b0ee684ffb0d0e1e75480aa3ec251659be6509b78db51092104de4efddb48", func := "loop.example/cerberus/laws.FnWorldNew", spec := "fnWorldNew", unfollowed := true, recurses := true, apart := false }
def FnWorldNewSaid : Prop := fnWorldNewRow.holds Try.pinned (OpenSpec.ofChange fnWorldNewSpec)

/-- ITS FALSE NEIGHBOUR: 'it returns false'. Refute it at one input. -/
def fnWorldNewWrong : ChangeSpec := { name := "fnWorldNew", fn := fun _ => fun
  | [d] => { results := [.lit (.bool false)], args := [d] }
  | _ => none }
def FnWorldNewWrongFalsely : Prop := fnWorldNewRow.holds Try.pinned (OpenSpec.ofChange fnWorldNewWrong)

/-- 'laws.FnExactClientOk': WHATEVER THE INPUT: true; the input reads as it did. -/
def fnExactClientOkSpec : ChangeSpec := { name := "fnExactClientOk", fn := fun _ => fun
  | [d] => { results := [.lit (.bool true)], args := [d] }
  | _ => none }
def fnExactClientOkRow : OpenClaim := { program := "ytpdeincniaiajaa", sum := "a77b0ee684ffb0d0e1e75480aa3ec251659be6509b78db51092104de4efddb48", func := "loop.example/cerberus/laws.FnExactClientOk", spec := "fnExactClientOk", unfollowed := true, recurses := true, apart := false }
def FnExactClientOkSaid : Prop := fnExactClientOkRow.holds Try.pinned (OpenSpec.ofChange fnExactClientOkSpec)

/-- ITS FALSE NEIGHBOUR: 'it returns false'. Refute it at one input. -/
def fnExactClientOkWrong : ChangeSpec := { name := "fnExactClientOk", fn := fun _ => fun
  | [d] => { results := [.lit (.bool false)], args := [d] }
  | _ => none }
def FnExactClientOkWrongFalsely : Prop := fnExactClientOkRow.holds Try.pinned (OpenSpec.ofChange fnExactClientOkWrong)

/-- 'laws.FnExactKdcAs': WHATEVER THE INPUT: true; the input reads as it did. -/
def fnExactKdcAsSpec : ChangeSpec := { name := "fnExactKdcAs", fn := fun _ => fun
  | [d1, d2, d3] => { results := [.lit (.bool true)], args := [d1, d2, d3] }
  | _ => none }
def fnExactKdcAsRow : OpenClaim := { program := "ytpdeincniaiajaa", sum := "a77b0ee684ffb0d0e1e75480aa3ec251659be6509b78db51092104de4efddb48", func := "loop.example/cerberus/laws.FnExactKdcAs", spec := "fnExactKdcAs", unfollowed := true, recurses := true, apart := false }
def FnExactKdcAsSaid : Prop := fnExactKdcAsRow.holds Try.pinned (OpenSpec.ofChange fnExactKdcAsSpec)

/-- ITS FALSE NEIGHBOUR: 'it returns false'. Refute it at one input. -/
def fnExactKdcAsWrong : ChangeSpec := { name := "fnExactKdcAs", fn := fun _ => fun
  | [d1, d2, d3] => { results := [.lit (.bool false)], args := [d1, d2, d3] }
  | _ => none }
def FnExactKdcAsWrongFalsely : Prop := fnExactKdcAsRow.holds Try.pinned (OpenSpec.ofChange fnExactKdcAsWrong)

/-- 'laws.FnServNew': WHATEVER THE INPUT: true; the input reads as it did. -/
def fnServNewSpec : ChangeSpec := { name := "fnServNew", fn := fun _ => fun
  | [d] => { results := [.lit (.bool true)], args := [d] }
  | _ => none }
def fnServNewRow : OpenClaim := { program := "ytpdeincniaiajaa", sum := "a77b0ee684ffb0d0e1e75480aa3ec251659be6509b78db51092104de4efddb48", func := "loop.example/cerberus/laws.FnServNew", spec := "fnServNew", unfollowed := true, recurses := true, apart := false }
def FnServNewSaid : Prop := fnServNewRow.holds Try.pinned (OpenSpec.ofChange fnServNewSpec)

/-- ITS FALSE NEIGHBOUR: 'it returns false'. Refute it at one input. -/
def fnServNewWrong : ChangeSpec := { name := "fnServNew", fn := fun _ => fun
  | [d] => { results := [.lit (.bool false)], args := [d] }
  | _ => none }
def FnServNewWrongFalsely : Prop := fnServNewRow.holds Try.pinned (OpenSpec.ofChange fnServNewWrong)

/- THE SECOND FORM. 'bulk': how many values and letters a reading holds, each counted each time it is reached (what is shared counts as often as it is met; a slice's spare places count too). A statement '..UptoSaid' is the law's where the arguments, and the package variables that the reading takes, are together of bulk at most 1048576: NARROWER than '..Said'. Prove '..Said' where nothing that the law and all that it calls make is longer than what came in: it says more and counts as full. Else prove '..UptoSaid'. A law counts once. -/
mutual
def uptoBulk {H : Type} : DataW H → Nat
  | .lit (.string bytes) => bytes.length + 1
  | .lit _ => 1
  | .nil => 1
  | .ptr d => uptoBulk d + 1
  | .slice elems spare => uptoBulkAll elems + uptoBulkAll spare + 1
  | .agg parts => uptoBulkAll parts + 1
  | .iface _ d => uptoBulk d + 1
  | .map entries => uptoBulkEntries entries + 1
  | .held _ => 1
def uptoBulkAll {H : Type} : List (DataW H) → Nat
  | [] => 0
  | d :: r => uptoBulk d + uptoBulkAll r
def uptoBulkEntries {H : Type} : List (Lit × DataW H) → Nat
  | [] => 0
  | x :: r => uptoBulkEntry x + uptoBulkEntries r
def uptoBulkEntry {H : Type} : Lit × DataW H → Nat
  | (.string bytes, d) => bytes.length + uptoBulk d + 1
  | (_, d) => uptoBulk d + 1
 end
def uptoSmall : (H : Type) → List (DataW H) → Bool := fun _ ds => decide (uptoBulkAll ds ≤ 1048576)
def OpenSpec.upto (s : _root_.Go.ChangeSpec) : _root_.Go.OpenSpec := { _root_.Go.OpenSpec.ofChange s with cond := some uptoSmall }

/-- 'laws.FnExactKdcOk', WHERE WHAT IT READS IS OF BULK AT MOST 1048576: true; the input reads as it did. -/
def fnExactKdcOkUptoRow : OpenClaim := { program := "ytpdeincniaiajaa", sum := "a77b0ee684ffb0d0e1e75480aa3ec251659be6509b78db51092104de4efddb48", func := "loop.example/cerberus/laws.FnExactKdcOk", spec := "fnExactKdcOk", apart := false, narrowed := true }
def FnExactKdcOkUptoSaid : Prop := fnExactKdcOkUptoRow.holds Try.pinned (OpenSpec.upto fnExactKdcOkSpec)

/-- 'laws.FnExactServNew', WHERE WHAT IT READS IS OF BULK AT MOST 1048576: true; the input reads as it did. -/
def fnExactServNewUptoRow : OpenClaim := { program := "ytpdeincniaiajaa", sum := "a77b0ee684ffb0d0e1e75480aa3ec251659be6509b78db51092104de4efddb48", func := "loop.example/cerberus/laws.FnExactServNew", spec := "fnExactServNew", apart := false, narrowed := true }
def FnExactServNewUptoSaid : Prop := fnExactServNewUptoRow.holds Try.pinned (OpenSpec.upto fnExactServNewSpec)

/-- 'laws.FnClientNew', WHERE WHAT IT READS IS OF BULK AT MOST 1048576: true; the input reads as it did. -/
def fnClientNewUptoRow : OpenClaim := { program := "ytpdeincniaiajaa", sum := "a77b0ee684ffb0d0e1e75480aa3ec251659be6509b78db51092104de4efddb48", func := "loop.example/cerberus/laws.FnClientNew", spec := "fnClientNew", unfollowed := true, recurses := true, apart := false, narrowed := true }
def FnClientNewUptoSaid : Prop := fnClientNewUptoRow.holds Try.pinned (OpenSpec.upto fnClientNewSpec)

/-- 'laws.FnCacheFull', WHERE WHAT IT READS IS OF BULK AT MOST 1048576: true; the input reads as it did. -/
def fnCacheFullUptoRow : OpenClaim := { program := "ytpdeincniaiajaa", sum := "a77b0ee684ffb0d0e1e75480aa3ec251659be6509b78db51092104de4efddb48", func := "loop.example/cerberus/laws.FnCacheFull", spec := "fnCacheFull", unfollowed := true, recurses := true, apart := false, narrowed := true }
def FnCacheFullUptoSaid : Prop := fnCacheFullUptoRow.holds Try.pinned (OpenSpec.upto fnCacheFullSpec)

/-- 'laws.FnCacheLater', WHERE WHAT IT READS IS OF BULK AT MOST 1048576: true; the input reads as it did. -/
def fnCacheLaterUptoRow : OpenClaim := { program := "ytpdeincniaiajaa", sum := "a77b0ee684ffb0d0e1e75480aa3ec251659be6509b78db51092104de4efddb48", func := "loop.example/cerberus/laws.FnCacheLater", spec := "fnCacheLater", unfollowed := true, recurses := true, apart := false, narrowed := true }
def FnCacheLaterUptoSaid : Prop := fnCacheLaterUptoRow.holds Try.pinned (OpenSpec.upto fnCacheLaterSpec)

/-- 'laws.FnExactServOk', WHERE WHAT IT READS IS OF BULK AT MOST 1048576: true; the input reads as it did. -/
def fnExactServOkUptoRow : OpenClaim := { program := "ytpdeincniaiajaa", sum := "a77b0ee684ffb0d0e1e75480aa3ec251659be6509b78db51092104de4efddb48", func := "loop.example/cerberus/laws.FnExactServOk", spec := "fnExactServOk", unfollowed := true, recurses := true, apart := false, narrowed := true }
def FnExactServOkUptoSaid : Prop := fnExactServOkUptoRow.holds Try.pinned (OpenSpec.upto fnExactServOkSpec)

/-- 'laws.FnCacheFresh', WHERE WHAT IT READS IS OF BULK AT MOST 1048576: true; the input reads as it did. -/
def fnCacheFreshUptoRow : OpenClaim := { program := "ytpdeincniaiajaa", sum := "a77b0ee684ffb0d0e1e75480aa3ec251659be6509b78db51092104de4efddb48", func := "loop.example/cerberus/laws.FnCacheFresh", spec := "fnCacheFresh", unfollowed := true, recurses := true, apart := false, narrowed := true }
def FnCacheFreshUptoSaid : Prop := fnCacheFreshUptoRow.holds Try.pinned (OpenSpec.upto fnCacheFreshSpec)

/-- 'laws.FnCacheKeeps', WHERE WHAT IT READS IS OF BULK AT MOST 1048576: true; the input reads as it did. -/
def fnCacheKeepsUptoRow : OpenClaim := { program := "ytpdeincniaiajaa", sum := "a77b0ee684ffb0d0e1e75480aa3ec251659be6509b78db51092104de4efddb48", func := "loop.example/cerberus/laws.FnCacheKeeps", spec := "fnCacheKeeps", unfollowed := true, recurses := true, apart := false, narrowed := true }
def FnCacheKeepsUptoSaid : Prop := fnCacheKeepsUptoRow.holds Try.pinned (OpenSpec.upto fnCacheKeepsSpec)

/-- 'laws.FnCacheOnce', WHERE WHAT IT READS IS OF BULK AT MOST 1048576: true; the input reads as it did. -/
def fnCacheOnceUptoRow : OpenClaim := { program := "ytpdeincniaiajaa", sum := "a77b0ee684ffb0d0e1e75480aa3ec251659be6509b78db51092104de4efddb48", func := "loop.example/cerberus/laws.FnCacheOnce", spec := "fnCacheOnce", unfollowed := true, recurses := true, apart := false, narrowed := true }
def FnCacheOnceUptoSaid : Prop := fnCacheOnceUptoRow.holds Try.pinned (OpenSpec.upto fnCacheOnceSpec)

/-- 'laws.FnCacheOrder', WHERE WHAT IT READS IS OF BULK AT MOST 1048576: true; the input reads as it did. -/
def fnCacheOrderUptoRow : OpenClaim := { program := "ytpdeincniaiajaa", sum := "a77b0ee684ffb0d0e1e75480aa3ec251659be6509b78db51092104de4efddb48", func := "loop.example/cerberus/laws.FnCacheOrder", spec := "fnCacheOrder", unfollowed := true, recurses := true, apart := false, narrowed := true }
def FnCacheOrderUptoSaid : Prop := fnCacheOrderUptoRow.holds Try.pinned (OpenSpec.upto fnCacheOrderSpec)

/-- 'laws.FnExactCacheWith', WHERE WHAT IT READS IS OF BULK AT MOST 1048576: true; the input reads as it did. -/
def fnExactCacheWithUptoRow : OpenClaim := { program := "ytpdeincniaiajaa", sum := "a77b0ee684ffb0d0e1e75480aa3ec251659be6509b78db51092104de4efddb48", func := "loop.example/cerberus/laws.FnExactCacheWith", spec := "fnExactCacheWith", unfollowed := true, recurses := true, apart := false, narrowed := true }
def FnExactCacheWithUptoSaid : Prop := fnExactCacheWithUptoRow.holds Try.pinned (OpenSpec.upto fnExactCacheWithSpec)

/-- 'laws.FnExactClientNew', WHERE WHAT IT READS IS OF BULK AT MOST 1048576: true; the input reads as it did. -/
def fnExactClientNewUptoRow : OpenClaim := { program := "ytpdeincniaiajaa", sum := "a77b0ee684ffb0d0e1e75480aa3ec251659be6509b78db51092104de4efddb48", func := "loop.example/cerberus/laws.FnExactClientNew", spec := "fnExactClientNew", apart := false, narrowed := true }
def FnExactClientNewUptoSaid : Prop := fnExactClientNewUptoRow.holds Try.pinned (OpenSpec.upto fnExactClientNewSpec)

/-- 'laws.FnWorldNew', WHERE WHAT IT READS IS OF BULK AT MOST 1048576: true; the input reads as it did. -/
def fnWorldNewUptoRow : OpenClaim := { program := "ytpdeincniaiajaa", sum := "a77b0ee684ffb0d0e1e75480aa3ec251659be6509b78db51092104de4efddb48", func := "loop.example/cerberus/laws.FnWorldNew", spec := "fnWorldNew", unfollowed := true, recurses := true, apart := false, narrowed := true }
def FnWorldNewUptoSaid : Prop := fnWorldNewUptoRow.holds Try.pinned (OpenSpec.upto fnWorldNewSpec)

/-- 'laws.FnExactClientOk', WHERE WHAT IT READS IS OF BULK AT MOST 1048576: true; the input reads as it did. -/
def fnExactClientOkUptoRow : OpenClaim := { program := "ytpdeincniaiajaa", sum := "a77b0ee684ffb0d0e1e75480aa3ec251659be6509b78db51092104de4efddb48", func := "loop.example/cerberus/laws.FnExactClientOk", spec := "fnExactClientOk", unfollowed := true, recurses := true, apart := false, narrowed := true }
def FnExactClientOkUptoSaid : Prop := fnExactClientOkUptoRow.holds Try.pinned (OpenSpec.upto fnExactClientOkSpec)

/-- 'laws.FnExactKdcAs', WHERE WHAT IT READS IS OF BULK AT MOST 1048576: true; the input reads as it did. -/
def fnExactKdcAsUptoRow : OpenClaim := { program := "ytpdeincniaiajaa", sum := "a77b0ee684ffb0d0e1e75480aa3ec251659be6509b78db51092104de4efddb48", func := "loop.example/cerberus/laws.FnExactKdcAs", spec := "fnExactKdcAs", unfollowed := true, recurses := true, apart := false, narrowed := true }
def FnExactKdcAsUptoSaid : Prop := fnExactKdcAsUptoRow.holds Try.pinned (OpenSpec.upto fnExactKdcAsSpec)

/-- 'laws.FnServNew', WHERE WHAT IT READS IS OF BULK AT MOST 1048576: true; the input reads as it did. -/
def fnServNewUptoRow : OpenClaim := { program := "ytpdeincniaiajaa", sum := "a77b0ee684ffb0d0e1e75480aa3ec251659be6509b78db51092104de4efddb48", func := "loop.example/cerberus/laws.FnServNew", spec := "fnServNew", unfollowed := true, recurses := true, apart := false, narrowed := true }
def FnServNewUptoSaid : Prop := fnServNewUptoRow.holds Try.pinned (OpenSpec.upto fnServNewSpec)

end Rows
end Go.Proofs.Ytpdeincniaiajaa
