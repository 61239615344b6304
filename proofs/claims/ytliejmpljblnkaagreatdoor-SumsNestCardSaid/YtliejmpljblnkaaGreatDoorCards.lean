/-
  DERIVED. GIVEN WITH THE SEED: THE CARDS: each row of YtliejmpljblnkaaGreatDoorRows.lean that lists a variable, with what it lists TIED to the program's text (the seventh form; the later family's looks); each row that meets fmt, with fmt's text TOLD by the authors' own Lean function (tested against real Go, not proved from fmt's source: count such statements apart). THE CARD IS WHAT COUNTS. Prove the row's statement (the work); the ties are given (YtliejmpljblnkaaGreatDoorTie.lean); close each card by the builder's one call (the guide's Derived/Test/ToyasCard.lean, 'card_holds'). Laid BY PROGRAM, IN A SANDBOX (cutbox-door.mjs). By AI agents, Wed Nov 11 2026. No macro, syntax, notation, axiom, sorry.
-/
import Derived.Test.YtliejmpljblnkaaGreatDoorRows
import GoSem.ClaimSeven
namespace Go.Proofs.YtliejmpljblnkaaGreatDoor
namespace Rows

/-- THE TIED CARD OF 'columnsevenlaw17.SumsNest'. -/
def sumsNestCard : Claim7 := { stood := { row := sumsNestRow, standIns := [], harness := (true, "51fc2ce93991add94b450718938ea5167dea64dc003a24ee55a2d1f5ac9c5e8d"), looks := true }, kinds := [], alts := [], laidByText := true, laidKinds := [.data, .data, .data, .data, .sentinel, .sentinel, .listed, .data, .data, .data, .pinned], laidTests := true, laidLooks := .later }
def SumsNestCardSaid : Prop := Claim7.holds Tryz.pinned (.plain (OpenSpec.ofChange sumsNestSpec)) sumsNestCard

/-- THE SECOND FORM's CARD OF 'columnsevenlaw17.SumsNest'. -/
def sumsNestUptoCard : Claim7 := { stood := { row := sumsNestUptoRow, standIns := [], harness := (true, "51fc2ce93991add94b450718938ea5167dea64dc003a24ee55a2d1f5ac9c5e8d"), looks := true }, kinds := [], alts := [], laidByText := true, laidKinds := [.data, .data, .data, .data, .sentinel, .sentinel, .listed, .data, .data, .data, .pinned], laidTests := true, laidLooks := .later }
def SumsNestUptoCardSaid : Prop := Claim7.holds Tryz.pinned (.plain (OpenSpec.upto sumsNestSpec)) sumsNestUptoCard
end Rows
end Go.Proofs.YtliejmpljblnkaaGreatDoor
