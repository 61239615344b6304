/-
  DERIVED. GIVEN WITH THE SEED: THE CARDS: each row of YtpghlpmkljkakaaGreatDoorRows.lean that lists a variable, with what it lists TIED to the program's text (the seventh form; the later family's looks); each row that meets fmt, with fmt's text TOLD by the authors' own Lean function (tested against real Go, not proved from fmt's source: count such statements apart). THE CARD IS WHAT COUNTS. Prove the row's statement (the work); the ties are given (YtpghlpmkljkakaaGreatDoorTie.lean); close each card by the builder's one call (the guide's Derived/Test/ToyasCard.lean, 'card_holds'). Laid BY PROGRAM, IN A SANDBOX (cutbox-door.mjs). By AI agents, Wed Nov 11 2026. No macro, syntax, notation, axiom, sorry.
-/
import Derived.Test.YtpghlpmkljkakaaGreatDoorRows
import GoSem.ClaimSeven
namespace Go.Proofs.YtpghlpmkljkakaaGreatDoor
namespace Rows

/-- THE TIED CARD OF 'columnsevenlaw15.EditsShown'. -/
def editsShownCard : Claim7 := { stood := { row := editsShownRow, standIns := [], harness := (true, "9e5b60550cf276165c32cefab5725e04ef527149bbd2e4f9a00ce783626ad6c5"), looks := true }, kinds := [], alts := [], laidByText := true, laidKinds := [.data, .data, .data, .data, .sentinel, .sentinel, .data, .data, .pinned], laidTests := true, laidLooks := .later }
def EditsShownCardSaid : Prop := Claim7.holds Tryz.pinned (.plain (OpenSpec.ofChange editsShownSpec)) editsShownCard

/-- THE TIED CARD OF 'columnsevenlaw15.EditsAny'. -/
def editsAnyCard : Claim7 := { stood := { row := editsAnyRow, standIns := [], harness := (true, "9e5b60550cf276165c32cefab5725e04ef527149bbd2e4f9a00ce783626ad6c5"), looks := true }, kinds := [], alts := [], laidByText := true, laidKinds := [.data, .data, .data, .data, .sentinel, .sentinel, .data, .data, .pinned], laidTests := true, laidLooks := .later }
def EditsAnyCardSaid : Prop := Claim7.holds Tryz.pinned (.plain (OpenSpec.ofChange editsAnySpec)) editsAnyCard

/-- THE TIED CARD OF 'columnsevenlaw16.MovesNumbers'. -/
def movesNumbersCard : Claim7 := { stood := { row := movesNumbersRow, standIns := [], harness := (true, "9e5b60550cf276165c32cefab5725e04ef527149bbd2e4f9a00ce783626ad6c5"), looks := true }, kinds := [], alts := [], laidByText := true, laidKinds := [.data, .data, .data, .data, .sentinel, .sentinel, .data, .data, .data, .pinned], laidTests := true, laidLooks := .later }
def MovesNumbersCardSaid : Prop := Claim7.holds Tryz.pinned (.plain (OpenSpec.ofChange movesNumbersSpec)) movesNumbersCard

/-- THE TIED CARD OF 'columnsevenlaw16.MovesTwice'. -/
def movesTwiceCard : Claim7 := { stood := { row := movesTwiceRow, standIns := [], harness := (true, "9e5b60550cf276165c32cefab5725e04ef527149bbd2e4f9a00ce783626ad6c5"), looks := true }, kinds := [], alts := [], laidByText := true, laidKinds := [.data, .data, .data, .data, .sentinel, .sentinel, .data, .data, .data, .pinned], laidTests := true, laidLooks := .later }
def MovesTwiceCardSaid : Prop := Claim7.holds Tryz.pinned (.plain (OpenSpec.ofChange movesTwiceSpec)) movesTwiceCard

/-- THE TIED CARD OF 'columnsevenlaw16.MovesTexts'. -/
def movesTextsCard : Claim7 := { stood := { row := movesTextsRow, standIns := [], harness := (true, "9e5b60550cf276165c32cefab5725e04ef527149bbd2e4f9a00ce783626ad6c5"), looks := true }, kinds := [], alts := [], laidByText := true, laidKinds := [.data, .data, .data, .data, .sentinel, .sentinel, .data, .data, .data, .pinned], laidTests := true, laidLooks := .later }
def MovesTextsCardSaid : Prop := Claim7.holds Tryz.pinned (.plain (OpenSpec.ofChange movesTextsSpec)) movesTextsCard

/-- THE TIED CARD OF 'columnsevenlaw16.MovesRepeat'. -/
def movesRepeatCard : Claim7 := { stood := { row := movesRepeatRow, standIns := [], harness := (true, "9e5b60550cf276165c32cefab5725e04ef527149bbd2e4f9a00ce783626ad6c5"), looks := true }, kinds := [], alts := [], laidByText := true, laidKinds := [.data, .data, .data, .data, .sentinel, .sentinel, .data, .data, .data, .pinned], laidTests := true, laidLooks := .later }
def MovesRepeatCardSaid : Prop := Claim7.holds Tryz.pinned (.plain (OpenSpec.ofChange movesRepeatSpec)) movesRepeatCard

/-- THE TIED CARD OF 'columnsevenlaw16.MovesMove'. -/
def movesMoveCard : Claim7 := { stood := { row := movesMoveRow, standIns := [], harness := (true, "9e5b60550cf276165c32cefab5725e04ef527149bbd2e4f9a00ce783626ad6c5"), looks := true }, kinds := [], alts := [], laidByText := true, laidKinds := [.data, .data, .data, .data, .sentinel, .sentinel, .data, .data, .data, .pinned], laidTests := true, laidLooks := .later }
def MovesMoveCardSaid : Prop := Claim7.holds Tryz.pinned (.plain (OpenSpec.ofChange movesMoveSpec)) movesMoveCard

/-- THE TIED CARD OF 'columnsevenlaw16.MovesErrors'. -/
def movesErrorsCard : Claim7 := { stood := { row := movesErrorsRow, standIns := [], harness := (true, "9e5b60550cf276165c32cefab5725e04ef527149bbd2e4f9a00ce783626ad6c5"), looks := true }, kinds := [], alts := [], laidByText := true, laidKinds := [.data, .data, .data, .data, .sentinel, .sentinel, .data, .data, .data, .pinned], laidTests := true, laidLooks := .later }
def MovesErrorsCardSaid : Prop := Claim7.holds Tryz.pinned (.plain (OpenSpec.ofChange movesErrorsSpec)) movesErrorsCard

/-- THE TIED CARD OF 'columnsevenlaw16.MovesConstant'. -/
def movesConstantCard : Claim7 := { stood := { row := movesConstantRow, standIns := [], harness := (true, "9e5b60550cf276165c32cefab5725e04ef527149bbd2e4f9a00ce783626ad6c5"), looks := true }, kinds := [], alts := [], laidByText := true, laidKinds := [.data, .data, .data, .data, .sentinel, .sentinel, .data, .data, .data, .pinned], laidTests := true, laidLooks := .later }
def MovesConstantCardSaid : Prop := Claim7.holds Tryz.pinned (.plain (OpenSpec.ofChange movesConstantSpec)) movesConstantCard

/-- THE SECOND FORM's CARD OF 'columnsevenlaw15.EditsShown'. -/
def editsShownUptoCard : Claim7 := { stood := { row := editsShownUptoRow, standIns := [], harness := (true, "9e5b60550cf276165c32cefab5725e04ef527149bbd2e4f9a00ce783626ad6c5"), looks := true }, kinds := [], alts := [], laidByText := true, laidKinds := [.data, .data, .data, .data, .sentinel, .sentinel, .data, .data, .pinned], laidTests := true, laidLooks := .later }
def EditsShownUptoCardSaid : Prop := Claim7.holds Tryz.pinned (.plain (OpenSpec.upto editsShownSpec)) editsShownUptoCard

/-- THE SECOND FORM's CARD OF 'columnsevenlaw15.EditsAny'. -/
def editsAnyUptoCard : Claim7 := { stood := { row := editsAnyUptoRow, standIns := [], harness := (true, "9e5b60550cf276165c32cefab5725e04ef527149bbd2e4f9a00ce783626ad6c5"), looks := true }, kinds := [], alts := [], laidByText := true, laidKinds := [.data, .data, .data, .data, .sentinel, .sentinel, .data, .data, .pinned], laidTests := true, laidLooks := .later }
def EditsAnyUptoCardSaid : Prop := Claim7.holds Tryz.pinned (.plain (OpenSpec.upto editsAnySpec)) editsAnyUptoCard

/-- THE SECOND FORM's CARD OF 'columnsevenlaw16.MovesNumbers'. -/
def movesNumbersUptoCard : Claim7 := { stood := { row := movesNumbersUptoRow, standIns := [], harness := (true, "9e5b60550cf276165c32cefab5725e04ef527149bbd2e4f9a00ce783626ad6c5"), looks := true }, kinds := [], alts := [], laidByText := true, laidKinds := [.data, .data, .data, .data, .sentinel, .sentinel, .data, .data, .data, .pinned], laidTests := true, laidLooks := .later }
def MovesNumbersUptoCardSaid : Prop := Claim7.holds Tryz.pinned (.plain (OpenSpec.upto movesNumbersSpec)) movesNumbersUptoCard

/-- THE SECOND FORM's CARD OF 'columnsevenlaw16.MovesTwice'. -/
def movesTwiceUptoCard : Claim7 := { stood := { row := movesTwiceUptoRow, standIns := [], harness := (true, "9e5b60550cf276165c32cefab5725e04ef527149bbd2e4f9a00ce783626ad6c5"), looks := true }, kinds := [], alts := [], laidByText := true, laidKinds := [.data, .data, .data, .data, .sentinel, .sentinel, .data, .data, .data, .pinned], laidTests := true, laidLooks := .later }
def MovesTwiceUptoCardSaid : Prop := Claim7.holds Tryz.pinned (.plain (OpenSpec.upto movesTwiceSpec)) movesTwiceUptoCard

/-- THE SECOND FORM's CARD OF 'columnsevenlaw16.MovesTexts'. -/
def movesTextsUptoCard : Claim7 := { stood := { row := movesTextsUptoRow, standIns := [], harness := (true, "9e5b60550cf276165c32cefab5725e04ef527149bbd2e4f9a00ce783626ad6c5"), looks := true }, kinds := [], alts := [], laidByText := true, laidKinds := [.data, .data, .data, .data, .sentinel, .sentinel, .data, .data, .data, .pinned], laidTests := true, laidLooks := .later }
def MovesTextsUptoCardSaid : Prop := Claim7.holds Tryz.pinned (.plain (OpenSpec.upto movesTextsSpec)) movesTextsUptoCard

/-- THE SECOND FORM's CARD OF 'columnsevenlaw16.MovesRepeat'. -/
def movesRepeatUptoCard : Claim7 := { stood := { row := movesRepeatUptoRow, standIns := [], harness := (true, "9e5b60550cf276165c32cefab5725e04ef527149bbd2e4f9a00ce783626ad6c5"), looks := true }, kinds := [], alts := [], laidByText := true, laidKinds := [.data, .data, .data, .data, .sentinel, .sentinel, .data, .data, .data, .pinned], laidTests := true, laidLooks := .later }
def MovesRepeatUptoCardSaid : Prop := Claim7.holds Tryz.pinned (.plain (OpenSpec.upto movesRepeatSpec)) movesRepeatUptoCard

/-- THE SECOND FORM's CARD OF 'columnsevenlaw16.MovesMove'. -/
def movesMoveUptoCard : Claim7 := { stood := { row := movesMoveUptoRow, standIns := [], harness := (true, "9e5b60550cf276165c32cefab5725e04ef527149bbd2e4f9a00ce783626ad6c5"), looks := true }, kinds := [], alts := [], laidByText := true, laidKinds := [.data, .data, .data, .data, .sentinel, .sentinel, .data, .data, .data, .pinned], laidTests := true, laidLooks := .later }
def MovesMoveUptoCardSaid : Prop := Claim7.holds Tryz.pinned (.plain (OpenSpec.upto movesMoveSpec)) movesMoveUptoCard

/-- THE SECOND FORM's CARD OF 'columnsevenlaw16.MovesErrors'. -/
def movesErrorsUptoCard : Claim7 := { stood := { row := movesErrorsUptoRow, standIns := [], harness := (true, "9e5b60550cf276165c32cefab5725e04ef527149bbd2e4f9a00ce783626ad6c5"), looks := true }, kinds := [], alts := [], laidByText := true, laidKinds := [.data, .data, .data, .data, .sentinel, .sentinel, .data, .data, .data, .pinned], laidTests := true, laidLooks := .later }
def MovesErrorsUptoCardSaid : Prop := Claim7.holds Tryz.pinned (.plain (OpenSpec.upto movesErrorsSpec)) movesErrorsUptoCard

/-- THE SECOND FORM's CARD OF 'columnsevenlaw16.MovesConstant'. -/
def movesConstantUptoCard : Claim7 := { stood := { row := movesConstantUptoRow, standIns := [], harness := (true, "9e5b60550cf276165c32cefab5725e04ef527149bbd2e4f9a00ce783626ad6c5"), looks := true }, kinds := [], alts := [], laidByText := true, laidKinds := [.data, .data, .data, .data, .sentinel, .sentinel, .data, .data, .data, .pinned], laidTests := true, laidLooks := .later }
def MovesConstantUptoCardSaid : Prop := Claim7.holds Tryz.pinned (.plain (OpenSpec.upto movesConstantSpec)) movesConstantUptoCard
end Rows
end Go.Proofs.YtpghlpmkljkakaaGreatDoor
