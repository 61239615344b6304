/-
  DERIVED. GIVEN WITH THE SEED: THE CARDS: each row of YtkafkoogjgbipaaGreatDoorRows.lean that lists a variable, with what it lists TIED to the program's text (the seventh form; the later family's looks); each row that meets fmt, with fmt's text TOLD by the authors' own Lean function (tested against real Go, not proved from fmt's source: count such statements apart). THE CARD IS WHAT COUNTS. Prove the row's statement (the work); the ties are given (YtkafkoogjgbipaaGreatDoorTie.lean); close each card by the builder's one call (the guide's Derived/Test/ToyasCard.lean, 'card_holds'). Laid BY PROGRAM, IN A SANDBOX (cutbox-door.mjs). By AI agents, Wed Nov 11 2026. No macro, syntax, notation, axiom, sorry.
-/
import Derived.Test.YtkafkoogjgbipaaGreatDoorRows
import GoSem.ClaimSeven
namespace Go.Proofs.YtkafkoogjgbipaaGreatDoor
namespace Rows

/-- THE TIED CARD OF 'columnsevenlaw20.InspectsConvert'. -/
def inspectsConvertCard : Claim7 := { stood := { row := inspectsConvertRow, standIns := [], harness := (true, "a8c7685d6937b73daa3c71c80673b136d626c4bc1cfc48c1f48910bcf5f5f83f"), looks := true }, kinds := [], alts := [], laidByText := true, laidKinds := [.data, .data, .data, .data, .sentinel, .sentinel, .listed, .data, .data, .data, .pinned], laidTests := true, laidLooks := .later }
def InspectsConvertCardSaid : Prop := Claim7.holds Tryz.pinned (.plain (OpenSpec.ofChange inspectsConvertSpec)) inspectsConvertCard

/-- THE SECOND FORM's CARD OF 'columnsevenlaw20.InspectsConvert'. -/
def inspectsConvertUptoCard : Claim7 := { stood := { row := inspectsConvertUptoRow, standIns := [], harness := (true, "a8c7685d6937b73daa3c71c80673b136d626c4bc1cfc48c1f48910bcf5f5f83f"), looks := true }, kinds := [], alts := [], laidByText := true, laidKinds := [.data, .data, .data, .data, .sentinel, .sentinel, .listed, .data, .data, .data, .pinned], laidTests := true, laidLooks := .later }
def InspectsConvertUptoCardSaid : Prop := Claim7.holds Tryz.pinned (.plain (OpenSpec.upto inspectsConvertSpec)) inspectsConvertUptoCard
end Rows
end Go.Proofs.YtkafkoogjgbipaaGreatDoor
