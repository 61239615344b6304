/-
  DERIVED. GIVEN WITH THE SEED: THE CARDS: each row of YtlhfikgjegcmaaaGreatDoorRows.lean that lists a variable, with what it lists TIED to the program's text (the seventh form; the later family's looks); each row that meets fmt, with fmt's text TOLD by the authors' own Lean function (tested against real Go, not proved from fmt's source: count such statements apart). THE CARD IS WHAT COUNTS. Prove the row's statement (the work); the ties are given (YtlhfikgjegcmaaaGreatDoorTie.lean); close each card by the builder's one call (the guide's Derived/Test/ToyasCard.lean, 'card_holds'). Laid BY PROGRAM, IN A SANDBOX (cutbox-door.mjs). By AI agents, Wed Nov 11 2026. No macro, syntax, notation, axiom, sorry.
-/
import Derived.Test.YtlhfikgjegcmaaaGreatDoorRows
import GoSem.ClaimSeven
namespace Go.Proofs.YtlhfikgjegcmaaaGreatDoor
namespace Rows

/-- THE TIED CARD OF 'columnsevenlaw22.InitialsParse'. -/
def initialsParseCard : Claim7 := { stood := { row := initialsParseRow, standIns := [], harness := (true, "2d363b6bcbe463aebe0bc10d0cfd458501cf335a3fc50bf48f83213b38a4ff3a"), looks := true }, kinds := [], alts := [], laidByText := true, laidKinds := [.data, .data, .data, .data, .sentinel, .sentinel, .listed, .data, .data, .data, .data, .pinned], laidTests := true, laidLooks := .later }
def InitialsParseCardSaid : Prop := Claim7.holds Tryz.pinned (.plain (OpenSpec.ofChange initialsParseSpec)) initialsParseCard

/-- THE SECOND FORM's CARD OF 'columnsevenlaw22.InitialsParse'. -/
def initialsParseUptoCard : Claim7 := { stood := { row := initialsParseUptoRow, standIns := [], harness := (true, "2d363b6bcbe463aebe0bc10d0cfd458501cf335a3fc50bf48f83213b38a4ff3a"), looks := true }, kinds := [], alts := [], laidByText := true, laidKinds := [.data, .data, .data, .data, .sentinel, .sentinel, .listed, .data, .data, .data, .data, .pinned], laidTests := true, laidLooks := .later }
def InitialsParseUptoCardSaid : Prop := Claim7.holds Tryz.pinned (.plain (OpenSpec.upto initialsParseSpec)) initialsParseUptoCard
end Rows
end Go.Proofs.YtlhfikgjegcmaaaGreatDoor
