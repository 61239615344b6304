/-
  DERIVED. GIVEN WITH THE SEED: THE CARDS: each row of YtannhfbidakffaaGreatDoorRows.lean that lists a variable, with what it lists TIED to the program's text (the seventh form; the later family's looks); each row that meets fmt, with fmt's text TOLD by the authors' own Lean function (tested against real Go, not proved from fmt's source: count such statements apart). THE CARD IS WHAT COUNTS. Prove the row's statement (the work); the ties are given (YtannhfbidakffaaGreatDoorTie.lean); close each card by the builder's one call (the guide's Derived/Test/ToyasCard.lean, 'card_holds'). Laid BY PROGRAM, IN A SANDBOX (cutbox-door.mjs). By AI agents, Wed Nov 11 2026. No macro, syntax, notation, axiom, sorry.
-/
import Derived.Test.YtannhfbidakffaaGreatDoorRows
import GoSem.ClaimSeven
namespace Go.Proofs.YtannhfbidakffaaGreatDoor
namespace Rows

/-- THE TIED CARD OF 'columnsevenlaw21.TextsKinds'. -/
def textsKindsCard : Claim7 := { stood := { row := textsKindsRow, standIns := [], harness := (true, "08466c77490e4399116753add3913bee778b767faee17e882058747048425758"), looks := true }, kinds := [], alts := [], laidByText := true, laidKinds := [.data, .data, .data, .data, .sentinel, .sentinel, .listed, .data, .data, .data, .data, .pinned], laidTests := true, laidLooks := .later }
def TextsKindsCardSaid : Prop := Claim7.holds Tryz.pinned (.plain (OpenSpec.ofChange textsKindsSpec)) textsKindsCard

/-- THE SECOND FORM's CARD OF 'columnsevenlaw21.TextsKinds'. -/
def textsKindsUptoCard : Claim7 := { stood := { row := textsKindsUptoRow, standIns := [], harness := (true, "08466c77490e4399116753add3913bee778b767faee17e882058747048425758"), looks := true }, kinds := [], alts := [], laidByText := true, laidKinds := [.data, .data, .data, .data, .sentinel, .sentinel, .listed, .data, .data, .data, .data, .pinned], laidTests := true, laidLooks := .later }
def TextsKindsUptoCardSaid : Prop := Claim7.holds Tryz.pinned (.plain (OpenSpec.upto textsKindsSpec)) textsKindsUptoCard
end Rows
end Go.Proofs.YtannhfbidakffaaGreatDoor
