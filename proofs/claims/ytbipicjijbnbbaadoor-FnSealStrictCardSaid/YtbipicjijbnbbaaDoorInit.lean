/- Printed by wip/tools/initwords.py: the load's head word, sign by sign. -/
import Derived.Test.YtbipicjijbnbbaaDoorRows
import Derived.ProofKit
import Derived.WalkKit
import Derived.Test.YtbipicjijbnbbaaDoorV
set_option maxRecDepth 100000
namespace Go.Proofs.YtbipicjijbnbbaaDoor.Init
open Go.RowKit
def c (n : Nat) : Char := Char.ofNat n
theorem step (w r : List Char) (h : w.all (· != Char.ofNat (nat_lit 32)) = true) : wordsSigns (w ++ Char.ofNat (nat_lit 32) :: r) = w :: wordsSigns r := by
  induction w with
  | nil => rfl
  | cons c w ih =>
    rw [List.all_cons, Bool.and_eq_true, bne_iff_ne] at h
    rw [List.cons_append, wordsSigns, ih h.2]
    exact h.1
theorem last (w : List Char) (h : w.all (· != Char.ofNat (nat_lit 32)) = true) : wordsSigns w = [w] := by
  induction w with
  | nil => rfl
  | cons c w ih =>
    rw [List.all_cons, Bool.and_eq_true, bne_iff_ne] at h
    rw [wordsSigns, ih h.2]
    exact h.1
theorem is : Tryd.prog.initOrder = "harness 0f516f2ff0a192c313c36e29a6b2ccbbb9d9d625c91b1a53b0529eac07ab259a cut at loop.example/cerberus/laws.FnSealCut loop.example/cerberus/laws.FnExactSealRead loop.example/cerberus/laws.FnSealStrict loop.example/cerberus/laws.FnSealBack" := by kernel_rfl
theorem flat : [c 104, c 97, c 114, c 110, c 101, c 115, c 115, c 32, c 48, c 102, c 53, c 49, c 54, c 102, c 50, c 102, c 102, c 48, c 97, c 49, c 57, c 50, c 99, c 51, c 49, c 51, c 99, c 51, c 54, c 101, c 50, c 57, c 97, c 54, c 98, c 50, c 99, c 99, c 98, c 98, c 98, c 57, c 100, c 57, c 100, c 54, c 50, c 53, c 99, c 57, c 49, c 98, c 49, c 97, c 53, c 51, c 98, c 48, c 53, c 50, c 57, c 101, c 97, c 99, c 48, c 55, c 97, c 98, c 50, c 53, c 57, c 97, c 32, c 99, c 117, c 116, c 32, c 97, c 116, c 32, c 108, c 111, c 111, c 112, c 46, c 101, c 120, c 97, c 109, c 112, c 108, c 101, c 47, c 99, c 101, c 114, c 98, c 101, c 114, c 117, c 115, c 47, c 108, c 97, c 119, c 115, c 46, c 70, c 110, c 83, c 101, c 97, c 108, c 67, c 117, c 116, c 32, c 108, c 111, c 111, c 112, c 46, c 101, c 120, c 97, c 109, c 112, c 108, c 101, c 47, c 99, c 101, c 114, c 98, c 101, c 114, c 117, c 115, c 47, c 108, c 97, c 119, c 115, c 46, c 70, c 110, c 69, c 120, c 97, c 99, c 116, c 83, c 101, c 97, c 108, c 82, c 101, c 97, c 100, c 32, c 108, c 111, c 111, c 112, c 46, c 101, c 120, c 97, c 109, c 112, c 108, c 101, c 47, c 99, c 101, c 114, c 98, c 101, c 114, c 117, c 115, c 47, c 108, c 97, c 119, c 115, c 46, c 70, c 110, c 83, c 101, c 97, c 108, c 83, c 116, c 114, c 105, c 99, c 116, c 32, c 108, c 111, c 111, c 112, c 46, c 101, c 120, c 97, c 109, c 112, c 108, c 101, c 47, c 99, c 101, c 114, c 98, c 101, c 114, c 117, c 115, c 47, c 108, c 97, c 119, c 115, c 46, c 70, c 110, c 83, c 101, c 97, c 108, c 66, c 97, c 99, c 107] = "harness".toList ++ Char.ofNat (nat_lit 32) :: ("0f516f2ff0a192c313c36e29a6b2ccbbb9d9d625c91b1a53b0529eac07ab259a".toList ++ Char.ofNat (nat_lit 32) :: ("cut".toList ++ Char.ofNat (nat_lit 32) :: ("at".toList ++ Char.ofNat (nat_lit 32) :: ("loop.example/cerberus/laws.FnSealCut".toList ++ Char.ofNat (nat_lit 32) :: ("loop.example/cerberus/laws.FnExactSealRead".toList ++ Char.ofNat (nat_lit 32) :: ("loop.example/cerberus/laws.FnSealStrict".toList ++ Char.ofNat (nat_lit 32) :: ("loop.example/cerberus/laws.FnSealBack".toList))))))) := by kernel_rfl
theorem signs : String.toList "harness 0f516f2ff0a192c313c36e29a6b2ccbbb9d9d625c91b1a53b0529eac07ab259a cut at loop.example/cerberus/laws.FnSealCut loop.example/cerberus/laws.FnExactSealRead loop.example/cerberus/laws.FnSealStrict loop.example/cerberus/laws.FnSealBack" = "harness".toList ++ Char.ofNat (nat_lit 32) :: ("0f516f2ff0a192c313c36e29a6b2ccbbb9d9d625c91b1a53b0529eac07ab259a".toList ++ Char.ofNat (nat_lit 32) :: ("cut".toList ++ Char.ofNat (nat_lit 32) :: ("at".toList ++ Char.ofNat (nat_lit 32) :: ("loop.example/cerberus/laws.FnSealCut".toList ++ Char.ofNat (nat_lit 32) :: ("loop.example/cerberus/laws.FnExactSealRead".toList ++ Char.ofNat (nat_lit 32) :: ("loop.example/cerberus/laws.FnSealStrict".toList ++ Char.ofNat (nat_lit 32) :: ("loop.example/cerberus/laws.FnSealBack".toList))))))) := (String.toList_ofList (l := [c 104, c 97, c 114, c 110, c 101, c 115, c 115, c 32, c 48, c 102, c 53, c 49, c 54, c 102, c 50, c 102, c 102, c 48, c 97, c 49, c 57, c 50, c 99, c 51, c 49, c 51, c 99, c 51, c 54, c 101, c 50, c 57, c 97, c 54, c 98, c 50, c 99, c 99, c 98, c 98, c 98, c 57, c 100, c 57, c 100, c 54, c 50, c 53, c 99, c 57, c 49, c 98, c 49, c 97, c 53, c 51, c 98, c 48, c 53, c 50, c 57, c 101, c 97, c 99, c 48, c 55, c 97, c 98, c 50, c 53, c 57, c 97, c 32, c 99, c 117, c 116, c 32, c 97, c 116, c 32, c 108, c 111, c 111, c 112, c 46, c 101, c 120, c 97, c 109, c 112, c 108, c 101, c 47, c 99, c 101, c 114, c 98, c 101, c 114, c 117, c 115, c 47, c 108, c 97, c 119, c 115, c 46, c 70, c 110, c 83, c 101, c 97, c 108, c 67, c 117, c 116, c 32, c 108, c 111, c 111, c 112, c 46, c 101, c 120, c 97, c 109, c 112, c 108, c 101, c 47, c 99, c 101, c 114, c 98, c 101, c 114, c 117, c 115, c 47, c 108, c 97, c 119, c 115, c 46, c 70, c 110, c 69, c 120, c 97, c 99, c 116, c 83, c 101, c 97, c 108, c 82, c 101, c 97, c 100, c 32, c 108, c 111, c 111, c 112, c 46, c 101, c 120, c 97, c 109, c 112, c 108, c 101, c 47, c 99, c 101, c 114, c 98, c 101, c 114, c 117, c 115, c 47, c 108, c 97, c 119, c 115, c 46, c 70, c 110, c 83, c 101, c 97, c 108, c 83, c 116, c 114, c 105, c 99, c 116, c 32, c 108, c 111, c 111, c 112, c 46, c 101, c 120, c 97, c 109, c 112, c 108, c 101, c 47, c 99, c 101, c 114, c 98, c 101, c 114, c 117, c 115, c 47, c 108, c 97, c 119, c 115, c 46, c 70, c 110, c 83, c 101, c 97, c 108, c 66, c 97, c 99, c 107])).trans flat
theorem parts : wordsSigns Tryd.prog.initOrder.toList = ["harness".toList, "0f516f2ff0a192c313c36e29a6b2ccbbb9d9d625c91b1a53b0529eac07ab259a".toList, "cut".toList, "at".toList, "loop.example/cerberus/laws.FnSealCut".toList, "loop.example/cerberus/laws.FnExactSealRead".toList, "loop.example/cerberus/laws.FnSealStrict".toList, "loop.example/cerberus/laws.FnSealBack".toList] := by
  rw [is, signs]
  rw [step _ _ (by kernel_rfl)]
  rw [step _ _ (by kernel_rfl)]
  rw [step _ _ (by kernel_rfl)]
  rw [step _ _ (by kernel_rfl)]
  rw [step _ _ (by kernel_rfl)]
  rw [step _ _ (by kernel_rfl)]
  rw [step _ _ (by kernel_rfl)]
  rw [last _ (by kernel_rfl)]
theorem words : behindMainWord (wordsSigns Tryd.prog.initOrder.toList) = [[Char.ofNat (nat_lit 99), Char.ofNat (nat_lit 117), Char.ofNat (nat_lit 116)], "at".toList, "loop.example/cerberus/laws.FnSealCut".toList, "loop.example/cerberus/laws.FnExactSealRead".toList, "loop.example/cerberus/laws.FnSealStrict".toList, "loop.example/cerberus/laws.FnSealBack".toList] := by
  rw [parts]
  kernel_rfl
theorem make_of {P : Program} {rest : List (List Char)} (h : behindMainWord (wordsSigns P.initOrder.toList) = [Char.ofNat (nat_lit 99), Char.ofNat (nat_lit 117), Char.ofNat (nat_lit 116)] :: rest) : P.make = some .cut := by
  unfold Program.make
  rw [h]
  rfl
theorem enters_of {P : Program} {rest : List (List Char)} (h : behindMainWord (wordsSigns P.initOrder.toList) = [Char.ofNat (nat_lit 99), Char.ofNat (nat_lit 117), Char.ofNat (nat_lit 116)] :: rest) (hs : stripLifts liftWords ([Char.ofNat (nat_lit 99), Char.ofNat (nat_lit 117), Char.ofNat (nat_lit 116)] :: rest) = ([], [Char.ofNat (nat_lit 99), Char.ofNat (nat_lit 117), Char.ofNat (nat_lit 116)] :: rest)) (h1 : P.laysLater = false) (h2 : P.bearsReflect = false) (h3 : P.doorFits [] = true) : P.mayEnter = true := by
  unfold Program.mayEnter
  rw [h]
  simp [hs, h1, h2, h3]
theorem strip : stripLifts liftWords [[Char.ofNat (nat_lit 99), Char.ofNat (nat_lit 117), Char.ofNat (nat_lit 116)], "at".toList, "loop.example/cerberus/laws.FnSealCut".toList, "loop.example/cerberus/laws.FnExactSealRead".toList, "loop.example/cerberus/laws.FnSealStrict".toList, "loop.example/cerberus/laws.FnSealBack".toList] = ([], [[Char.ofNat (nat_lit 99), Char.ofNat (nat_lit 117), Char.ofNat (nat_lit 116)], "at".toList, "loop.example/cerberus/laws.FnSealCut".toList, "loop.example/cerberus/laws.FnExactSealRead".toList, "loop.example/cerberus/laws.FnSealStrict".toList, "loop.example/cerberus/laws.FnSealBack".toList]) := by kernel_rfl
theorem later : Tryd.prog.laysLater = false := by kernel_rfl
theorem bears : Tryd.prog.bearsReflect = false := by kernel_rfl
theorem door : Tryd.prog.doorFits [] = true := by kernel_rfl
theorem enters : Tryd.pinned.checked.prog.mayEnter = true := enters_of (P := Tryd.prog) words strip later bears door
theorem lifts : Tryd.pinned.checked.prog.liftsFinal = false := by
  show Program.liftsFinal Tryd.prog = false
  unfold Program.liftsFinal Program.headLifts
  rw [words]
  kernel_rfl
theorem make : Tryd.pinned.checked.prog.make = some .cut := make_of (P := Tryd.prog) words
end Go.Proofs.YtbipicjijbnbbaaDoor.Init
