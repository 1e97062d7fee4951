/-
  DERIVED. GIVEN WITH THE SEED: THE CARDS: each row of YtgekmdfcbcacdaaDoorRows.lean that lists a variable, with what it lists TIED to the program's text (the seventh form; the later family's looks); each row that meets fmt, with fmt's text TOLD by the authors' own Lean function (tested against real Go, not proved from fmt's source: count such statements apart). THE CARD IS WHAT COUNTS. Prove the row's statement (the work); the ties are given (YtgekmdfcbcacdaaDoorTie.lean); close each card by the builder's one call (the guide's Derived/Test/ToyasCard.lean, 'card_holds'). Laid BY PROGRAM, IN A SANDBOX (cutbox-door.mjs). By AI agents, Wed Nov 11 2026. No macro, syntax, notation, axiom, sorry.
-/
import Derived.Test.YtgekmdfcbcacdaaDoorRows
import GoSem.ClaimSeven
namespace Go.Proofs.YtgekmdfcbcacdaaDoor
namespace Rows

/-- THE TIED CARD OF 'laws.FnSealCut'. -/
def fnSealCutCard : Claim7 := { stood := { row := fnSealCutRow, standIns := [], harness := (true, "c62ee5cfbefa28cce646c722e85fbe5398258a8900df4010ea66be153e399c6b"), looks := true }, kinds := [], alts := [], laidByText := true, laidKinds := [.data, .data, .data, .data, .sentinel, .sentinel, .pinned], laidTests := true, laidLooks := .later }
def FnSealCutCardSaid : Prop := Claim7.holds Tryd.pinned (.plain (OpenSpec.ofChange fnSealCutSpec)) fnSealCutCard

/-- THE TIED CARD OF 'laws.FnExactSealRead'. -/
def fnExactSealReadCard : Claim7 := { stood := { row := fnExactSealReadRow, standIns := [], harness := (true, "c62ee5cfbefa28cce646c722e85fbe5398258a8900df4010ea66be153e399c6b"), looks := true }, kinds := [], alts := [], laidByText := true, laidKinds := [.data, .data, .data, .data, .sentinel, .sentinel, .pinned], laidTests := true, laidLooks := .later }
def FnExactSealReadCardSaid : Prop := Claim7.holds Tryd.pinned (.plain (OpenSpec.ofChange fnExactSealReadSpec)) fnExactSealReadCard

/-- THE TIED CARD OF 'laws.FnSealStrict'. -/
def fnSealStrictCard : Claim7 := { stood := { row := fnSealStrictRow, standIns := [], harness := (true, "c62ee5cfbefa28cce646c722e85fbe5398258a8900df4010ea66be153e399c6b"), looks := true }, kinds := [], alts := [], laidByText := true, laidKinds := [.data, .data, .data, .data, .sentinel, .sentinel, .pinned], laidTests := true, laidLooks := .later }
def FnSealStrictCardSaid : Prop := Claim7.holds Tryd.pinned (.plain (OpenSpec.ofChange fnSealStrictSpec)) fnSealStrictCard

/-- THE TIED CARD OF 'laws.FnExactSealText'. -/
def fnExactSealTextCard : Claim7 := { stood := { row := fnExactSealTextRow, standIns := [], harness := (true, "c62ee5cfbefa28cce646c722e85fbe5398258a8900df4010ea66be153e399c6b"), looks := true }, kinds := [], alts := [], laidByText := true, laidKinds := [.data, .data, .data], laidTests := true, laidLooks := .later }
def FnExactSealTextCardSaid : Prop := Claim7.holds Tryd.pinned (.plain (OpenSpec.ofChange fnExactSealTextSpec)) fnExactSealTextCard

/-- THE TIED CARD OF 'laws.FnSealRange'. -/
def fnSealRangeCard : Claim7 := { stood := { row := fnSealRangeRow, standIns := [], harness := (true, "c62ee5cfbefa28cce646c722e85fbe5398258a8900df4010ea66be153e399c6b"), looks := true }, kinds := [], alts := [], laidByText := true, laidKinds := [.data, .data, .data], laidTests := true, laidLooks := .later }
def FnSealRangeCardSaid : Prop := Claim7.holds Tryd.pinned (.plain (OpenSpec.ofChange fnSealRangeSpec)) fnSealRangeCard

/-- THE TIED CARD OF 'laws.FnSealOne'. -/
def fnSealOneCard : Claim7 := { stood := { row := fnSealOneRow, standIns := [], harness := (true, "c62ee5cfbefa28cce646c722e85fbe5398258a8900df4010ea66be153e399c6b"), looks := true }, kinds := [], alts := [], laidByText := true, laidKinds := [.data, .data, .data], laidTests := true, laidLooks := .later }
def FnSealOneCardSaid : Prop := Claim7.holds Tryd.pinned (.plain (OpenSpec.ofChange fnSealOneSpec)) fnSealOneCard

/-- THE TIED CARD OF 'laws.FnExactMsgText'. -/
def fnExactMsgTextCard : Claim7 := { stood := { row := fnExactMsgTextRow, standIns := [], harness := (true, "c62ee5cfbefa28cce646c722e85fbe5398258a8900df4010ea66be153e399c6b"), looks := true }, kinds := [], alts := [], laidByText := true, laidKinds := [.data, .data, .data], laidTests := true, laidLooks := .later }
def FnExactMsgTextCardSaid : Prop := Claim7.holds Tryd.pinned (.plain (OpenSpec.ofChange fnExactMsgTextSpec)) fnExactMsgTextCard

/-- THE TIED CARD OF 'laws.FnMsgOne'. -/
def fnMsgOneCard : Claim7 := { stood := { row := fnMsgOneRow, standIns := [], harness := (true, "c62ee5cfbefa28cce646c722e85fbe5398258a8900df4010ea66be153e399c6b"), looks := true }, kinds := [], alts := [], laidByText := true, laidKinds := [.data, .data, .data], laidTests := true, laidLooks := .later }
def FnMsgOneCardSaid : Prop := Claim7.holds Tryd.pinned (.plain (OpenSpec.ofChange fnMsgOneSpec)) fnMsgOneCard

/-- THE TIED CARD OF 'laws.FnSealBack'. -/
def fnSealBackCard : Claim7 := { stood := { row := fnSealBackRow, standIns := [], harness := (true, "c62ee5cfbefa28cce646c722e85fbe5398258a8900df4010ea66be153e399c6b"), looks := true }, kinds := [], alts := [], laidByText := true, laidKinds := [.data, .data, .data, .data, .sentinel, .sentinel, .pinned], laidTests := true, laidLooks := .later }
def FnSealBackCardSaid : Prop := Claim7.holds Tryd.pinned (.plain (OpenSpec.ofChange fnSealBackSpec)) fnSealBackCard

/-- THE SECOND FORM's CARD OF 'laws.FnSealCut'. -/
def fnSealCutUptoCard : Claim7 := { stood := { row := fnSealCutUptoRow, standIns := [], harness := (true, "c62ee5cfbefa28cce646c722e85fbe5398258a8900df4010ea66be153e399c6b"), looks := true }, kinds := [], alts := [], laidByText := true, laidKinds := [.data, .data, .data, .data, .sentinel, .sentinel, .pinned], laidTests := true, laidLooks := .later }
def FnSealCutUptoCardSaid : Prop := Claim7.holds Tryd.pinned (.plain (OpenSpec.upto fnSealCutSpec)) fnSealCutUptoCard

/-- THE SECOND FORM's CARD OF 'laws.FnExactSealRead'. -/
def fnExactSealReadUptoCard : Claim7 := { stood := { row := fnExactSealReadUptoRow, standIns := [], harness := (true, "c62ee5cfbefa28cce646c722e85fbe5398258a8900df4010ea66be153e399c6b"), looks := true }, kinds := [], alts := [], laidByText := true, laidKinds := [.data, .data, .data, .data, .sentinel, .sentinel, .pinned], laidTests := true, laidLooks := .later }
def FnExactSealReadUptoCardSaid : Prop := Claim7.holds Tryd.pinned (.plain (OpenSpec.upto fnExactSealReadSpec)) fnExactSealReadUptoCard

/-- THE SECOND FORM's CARD OF 'laws.FnSealStrict'. -/
def fnSealStrictUptoCard : Claim7 := { stood := { row := fnSealStrictUptoRow, standIns := [], harness := (true, "c62ee5cfbefa28cce646c722e85fbe5398258a8900df4010ea66be153e399c6b"), looks := true }, kinds := [], alts := [], laidByText := true, laidKinds := [.data, .data, .data, .data, .sentinel, .sentinel, .pinned], laidTests := true, laidLooks := .later }
def FnSealStrictUptoCardSaid : Prop := Claim7.holds Tryd.pinned (.plain (OpenSpec.upto fnSealStrictSpec)) fnSealStrictUptoCard

/-- THE SECOND FORM's CARD OF 'laws.FnExactSealText'. -/
def fnExactSealTextUptoCard : Claim7 := { stood := { row := fnExactSealTextUptoRow, standIns := [], harness := (true, "c62ee5cfbefa28cce646c722e85fbe5398258a8900df4010ea66be153e399c6b"), looks := true }, kinds := [], alts := [], laidByText := true, laidKinds := [.data, .data, .data], laidTests := true, laidLooks := .later }
def FnExactSealTextUptoCardSaid : Prop := Claim7.holds Tryd.pinned (.plain (OpenSpec.upto fnExactSealTextSpec)) fnExactSealTextUptoCard

/-- THE SECOND FORM's CARD OF 'laws.FnSealRange'. -/
def fnSealRangeUptoCard : Claim7 := { stood := { row := fnSealRangeUptoRow, standIns := [], harness := (true, "c62ee5cfbefa28cce646c722e85fbe5398258a8900df4010ea66be153e399c6b"), looks := true }, kinds := [], alts := [], laidByText := true, laidKinds := [.data, .data, .data], laidTests := true, laidLooks := .later }
def FnSealRangeUptoCardSaid : Prop := Claim7.holds Tryd.pinned (.plain (OpenSpec.upto fnSealRangeSpec)) fnSealRangeUptoCard

/-- THE SECOND FORM's CARD OF 'laws.FnSealOne'. -/
def fnSealOneUptoCard : Claim7 := { stood := { row := fnSealOneUptoRow, standIns := [], harness := (true, "c62ee5cfbefa28cce646c722e85fbe5398258a8900df4010ea66be153e399c6b"), looks := true }, kinds := [], alts := [], laidByText := true, laidKinds := [.data, .data, .data], laidTests := true, laidLooks := .later }
def FnSealOneUptoCardSaid : Prop := Claim7.holds Tryd.pinned (.plain (OpenSpec.upto fnSealOneSpec)) fnSealOneUptoCard

/-- THE SECOND FORM's CARD OF 'laws.FnExactMsgText'. -/
def fnExactMsgTextUptoCard : Claim7 := { stood := { row := fnExactMsgTextUptoRow, standIns := [], harness := (true, "c62ee5cfbefa28cce646c722e85fbe5398258a8900df4010ea66be153e399c6b"), looks := true }, kinds := [], alts := [], laidByText := true, laidKinds := [.data, .data, .data], laidTests := true, laidLooks := .later }
def FnExactMsgTextUptoCardSaid : Prop := Claim7.holds Tryd.pinned (.plain (OpenSpec.upto fnExactMsgTextSpec)) fnExactMsgTextUptoCard

/-- THE SECOND FORM's CARD OF 'laws.FnMsgOne'. -/
def fnMsgOneUptoCard : Claim7 := { stood := { row := fnMsgOneUptoRow, standIns := [], harness := (true, "c62ee5cfbefa28cce646c722e85fbe5398258a8900df4010ea66be153e399c6b"), looks := true }, kinds := [], alts := [], laidByText := true, laidKinds := [.data, .data, .data], laidTests := true, laidLooks := .later }
def FnMsgOneUptoCardSaid : Prop := Claim7.holds Tryd.pinned (.plain (OpenSpec.upto fnMsgOneSpec)) fnMsgOneUptoCard

/-- THE SECOND FORM's CARD OF 'laws.FnSealBack'. -/
def fnSealBackUptoCard : Claim7 := { stood := { row := fnSealBackUptoRow, standIns := [], harness := (true, "c62ee5cfbefa28cce646c722e85fbe5398258a8900df4010ea66be153e399c6b"), looks := true }, kinds := [], alts := [], laidByText := true, laidKinds := [.data, .data, .data, .data, .sentinel, .sentinel, .pinned], laidTests := true, laidLooks := .later }
def FnSealBackUptoCardSaid : Prop := Claim7.holds Tryd.pinned (.plain (OpenSpec.upto fnSealBackSpec)) fnSealBackUptoCard
end Rows
end Go.Proofs.YtgekmdfcbcacdaaDoor
