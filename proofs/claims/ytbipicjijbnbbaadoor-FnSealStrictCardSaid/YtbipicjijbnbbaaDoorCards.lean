/-
  DERIVED. GIVEN WITH THE SEED: THE CARDS: each row of YtbipicjijbnbbaaDoorRows.lean that lists a variable, with what it lists TIED to the program's text (the seventh form; the later family's looks); each row that meets fmt, with fmt's text TOLD by the authors' own Lean function (tested against real Go, not proved from fmt's source: count such statements apart). THE CARD IS WHAT COUNTS. Prove the row's statement (the work); the ties are given (YtbipicjijbnbbaaDoorTie.lean); close each card by the builder's one call (the guide's Derived/Test/ToyasCard.lean, 'card_holds'). Laid BY PROGRAM, IN A SANDBOX (cutbox-door.mjs). By AI agents, Wed Nov 11 2026. No macro, syntax, notation, axiom, sorry.
-/
import Derived.Test.YtbipicjijbnbbaaDoorRows
import GoSem.ClaimSeven
namespace Go.Proofs.YtbipicjijbnbbaaDoor
namespace Rows

/-- THE TIED CARD OF 'laws.FnSealCut'. -/
def fnSealCutCard : Claim7 := { stood := { row := fnSealCutRow, standIns := [], harness := (true, "0f516f2ff0a192c313c36e29a6b2ccbbb9d9d625c91b1a53b0529eac07ab259a"), looks := true }, kinds := [], alts := [], laidByText := true, laidKinds := [.data, .data, .data, .data, .sentinel, .sentinel, .pinned], laidTests := true, laidLooks := .later }
def FnSealCutCardSaid : Prop := Claim7.holds Tryd.pinned (.plain (OpenSpec.ofChange fnSealCutSpec)) fnSealCutCard

/-- THE TIED CARD OF 'laws.FnExactSealRead'. -/
def fnExactSealReadCard : Claim7 := { stood := { row := fnExactSealReadRow, standIns := [], harness := (true, "0f516f2ff0a192c313c36e29a6b2ccbbb9d9d625c91b1a53b0529eac07ab259a"), looks := true }, kinds := [], alts := [], laidByText := true, laidKinds := [.data, .data, .data, .data, .sentinel, .sentinel, .pinned], laidTests := true, laidLooks := .later }
def FnExactSealReadCardSaid : Prop := Claim7.holds Tryd.pinned (.plain (OpenSpec.ofChange fnExactSealReadSpec)) fnExactSealReadCard

/-- THE TIED CARD OF 'laws.FnSealStrict'. -/
def fnSealStrictCard : Claim7 := { stood := { row := fnSealStrictRow, standIns := [], harness := (true, "0f516f2ff0a192c313c36e29a6b2ccbbb9d9d625c91b1a53b0529eac07ab259a"), looks := true }, kinds := [], alts := [], laidByText := true, laidKinds := [.data, .data, .data, .data, .sentinel, .sentinel, .pinned], laidTests := true, laidLooks := .later }
def FnSealStrictCardSaid : Prop := Claim7.holds Tryd.pinned (.plain (OpenSpec.ofChange fnSealStrictSpec)) fnSealStrictCard

/-- THE TIED CARD OF 'laws.FnSealBack'. -/
def fnSealBackCard : Claim7 := { stood := { row := fnSealBackRow, standIns := [], harness := (true, "0f516f2ff0a192c313c36e29a6b2ccbbb9d9d625c91b1a53b0529eac07ab259a"), looks := true }, kinds := [], alts := [], laidByText := true, laidKinds := [.data, .data, .data, .data, .sentinel, .sentinel, .pinned], laidTests := true, laidLooks := .later }
def FnSealBackCardSaid : Prop := Claim7.holds Tryd.pinned (.plain (OpenSpec.ofChange fnSealBackSpec)) fnSealBackCard

/-- THE SECOND FORM's CARD OF 'laws.FnSealCut'. -/
def fnSealCutUptoCard : Claim7 := { stood := { row := fnSealCutUptoRow, standIns := [], harness := (true, "0f516f2ff0a192c313c36e29a6b2ccbbb9d9d625c91b1a53b0529eac07ab259a"), looks := true }, kinds := [], alts := [], laidByText := true, laidKinds := [.data, .data, .data, .data, .sentinel, .sentinel, .pinned], laidTests := true, laidLooks := .later }
def FnSealCutUptoCardSaid : Prop := Claim7.holds Tryd.pinned (.plain (OpenSpec.upto fnSealCutSpec)) fnSealCutUptoCard

/-- THE SECOND FORM's CARD OF 'laws.FnExactSealRead'. -/
def fnExactSealReadUptoCard : Claim7 := { stood := { row := fnExactSealReadUptoRow, standIns := [], harness := (true, "0f516f2ff0a192c313c36e29a6b2ccbbb9d9d625c91b1a53b0529eac07ab259a"), looks := true }, kinds := [], alts := [], laidByText := true, laidKinds := [.data, .data, .data, .data, .sentinel, .sentinel, .pinned], laidTests := true, laidLooks := .later }
def FnExactSealReadUptoCardSaid : Prop := Claim7.holds Tryd.pinned (.plain (OpenSpec.upto fnExactSealReadSpec)) fnExactSealReadUptoCard

/-- THE SECOND FORM's CARD OF 'laws.FnSealStrict'. -/
def fnSealStrictUptoCard : Claim7 := { stood := { row := fnSealStrictUptoRow, standIns := [], harness := (true, "0f516f2ff0a192c313c36e29a6b2ccbbb9d9d625c91b1a53b0529eac07ab259a"), looks := true }, kinds := [], alts := [], laidByText := true, laidKinds := [.data, .data, .data, .data, .sentinel, .sentinel, .pinned], laidTests := true, laidLooks := .later }
def FnSealStrictUptoCardSaid : Prop := Claim7.holds Tryd.pinned (.plain (OpenSpec.upto fnSealStrictSpec)) fnSealStrictUptoCard

/-- THE SECOND FORM's CARD OF 'laws.FnSealBack'. -/
def fnSealBackUptoCard : Claim7 := { stood := { row := fnSealBackUptoRow, standIns := [], harness := (true, "0f516f2ff0a192c313c36e29a6b2ccbbb9d9d625c91b1a53b0529eac07ab259a"), looks := true }, kinds := [], alts := [], laidByText := true, laidKinds := [.data, .data, .data, .data, .sentinel, .sentinel, .pinned], laidTests := true, laidLooks := .later }
def FnSealBackUptoCardSaid : Prop := Claim7.holds Tryd.pinned (.plain (OpenSpec.upto fnSealBackSpec)) fnSealBackUptoCard
end Rows
end Go.Proofs.YtbipicjijbnbbaaDoor
