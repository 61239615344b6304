/-
  DERIVED. GIVEN WITH THE SEED: THE CARDS: each row of YteacjjmfobgmfaaGreatDoorRows.lean that lists a variable, with what it lists TIED to the program's text (the seventh form; the later family's looks); each row that meets fmt, with fmt's text TOLD by the authors' own Lean function (tested against real Go, not proved from fmt's source: count such statements apart). THE CARD IS WHAT COUNTS. Prove the row's statement (the work); the ties are given (YteacjjmfobgmfaaGreatDoorTie.lean); close each card by the builder's one call (the guide's Derived/Test/ToyasCard.lean, 'card_holds'). Laid BY PROGRAM, IN A SANDBOX (cutbox-door.mjs). By AI agents, Wed Nov 11 2026. No macro, syntax, notation, axiom, sorry.
-/
import Derived.Test.YteacjjmfobgmfaaGreatDoorRows
import GoSem.ClaimSeven
namespace Go.Proofs.YteacjjmfobgmfaaGreatDoor
namespace Rows

/-- THE TIED CARD OF 'columnsevenlaw21.TextsCut'. -/
def textsCutCard : Claim7 := { stood := { row := textsCutRow, standIns := [], harness := (true, "0dbb893cf19c123c8ef8e7773f495f5cd039ec9302fbc5a25de60d4a4f8ed523"), looks := true }, kinds := [], alts := [], laidByText := true, laidKinds := [.data, .data, .data, .data, .sentinel, .sentinel, .listed, .data, .data, .data, .data, .pinned], laidTests := true, laidLooks := .later }
def TextsCutCardSaid : Prop := Claim7.holds Tryz.pinned (.plain (OpenSpec.ofChange textsCutSpec)) textsCutCard

/-- THE TIED CARD OF 'columnsevenlaw21.TextsBack'. -/
def textsBackCard : Claim7 := { stood := { row := textsBackRow, standIns := [], harness := (true, "0dbb893cf19c123c8ef8e7773f495f5cd039ec9302fbc5a25de60d4a4f8ed523"), looks := true }, kinds := [], alts := [], laidByText := true, laidKinds := [.data, .data, .data, .data, .sentinel, .sentinel, .listed, .data, .data, .data, .data, .pinned], laidTests := true, laidLooks := .later }
def TextsBackCardSaid : Prop := Claim7.holds Tryz.pinned (.plain (OpenSpec.ofChange textsBackSpec)) textsBackCard

/-- THE SECOND FORM's CARD OF 'columnsevenlaw21.TextsCut'. -/
def textsCutUptoCard : Claim7 := { stood := { row := textsCutUptoRow, standIns := [], harness := (true, "0dbb893cf19c123c8ef8e7773f495f5cd039ec9302fbc5a25de60d4a4f8ed523"), looks := true }, kinds := [], alts := [], laidByText := true, laidKinds := [.data, .data, .data, .data, .sentinel, .sentinel, .listed, .data, .data, .data, .data, .pinned], laidTests := true, laidLooks := .later }
def TextsCutUptoCardSaid : Prop := Claim7.holds Tryz.pinned (.plain (OpenSpec.upto textsCutSpec)) textsCutUptoCard

/-- THE SECOND FORM's CARD OF 'columnsevenlaw21.TextsBack'. -/
def textsBackUptoCard : Claim7 := { stood := { row := textsBackUptoRow, standIns := [], harness := (true, "0dbb893cf19c123c8ef8e7773f495f5cd039ec9302fbc5a25de60d4a4f8ed523"), looks := true }, kinds := [], alts := [], laidByText := true, laidKinds := [.data, .data, .data, .data, .sentinel, .sentinel, .listed, .data, .data, .data, .data, .pinned], laidTests := true, laidLooks := .later }
def TextsBackUptoCardSaid : Prop := Claim7.holds Tryz.pinned (.plain (OpenSpec.upto textsBackSpec)) textsBackUptoCard
end Rows
end Go.Proofs.YteacjjmfobgmfaaGreatDoor
