/-
  DERIVED. GIVEN WITH THE SEED: THE CARDS: each row of YtodebhabandljaaGreatDoorRows.lean that lists a variable, with what it lists TIED to the program's text (the seventh form; the later family's looks); each row that meets fmt, with fmt's text TOLD by the authors' own Lean function (tested against real Go, not proved from fmt's source: count such statements apart). THE CARD IS WHAT COUNTS. Prove the row's statement (the work); the ties are given (YtodebhabandljaaGreatDoorTie.lean); close each card by the builder's one call (the guide's Derived/Test/ToyasCard.lean, 'card_holds'). Laid BY PROGRAM, IN A SANDBOX (cutbox-door.mjs). By AI agents, Wed Nov 11 2026. No macro, syntax, notation, axiom, sorry.
-/
import Derived.Test.YtodebhabandljaaGreatDoorRows
import GoSem.ClaimSeven
namespace Go.Proofs.YtodebhabandljaaGreatDoor
namespace Rows

/-- THE TIED CARD OF 'columnsevenlaw20.InspectsParse'. -/
def inspectsParseCard : Claim7 := { stood := { row := inspectsParseRow, standIns := [], harness := (true, "cc634e2aaca58c13040a3b2cf71f3d0e8e72d3951036b402ea4e850803e8f434"), looks := true }, kinds := [], alts := [], laidByText := true, laidKinds := [.data, .data, .data, .data, .sentinel, .sentinel, .listed, .data, .data, .data, .pinned], laidTests := true, laidLooks := .later }
def InspectsParseCardSaid : Prop := Claim7.holds Tryz.pinned (.plain (OpenSpec.ofChange inspectsParseSpec)) inspectsParseCard

/-- THE SECOND FORM's CARD OF 'columnsevenlaw20.InspectsParse'. -/
def inspectsParseUptoCard : Claim7 := { stood := { row := inspectsParseUptoRow, standIns := [], harness := (true, "cc634e2aaca58c13040a3b2cf71f3d0e8e72d3951036b402ea4e850803e8f434"), looks := true }, kinds := [], alts := [], laidByText := true, laidKinds := [.data, .data, .data, .data, .sentinel, .sentinel, .listed, .data, .data, .data, .pinned], laidTests := true, laidLooks := .later }
def InspectsParseUptoCardSaid : Prop := Claim7.holds Tryz.pinned (.plain (OpenSpec.upto inspectsParseSpec)) inspectsParseUptoCard
end Rows
end Go.Proofs.YtodebhabandljaaGreatDoor
