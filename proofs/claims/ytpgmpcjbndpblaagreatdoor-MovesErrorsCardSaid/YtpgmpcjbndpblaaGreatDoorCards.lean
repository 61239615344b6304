/-
  DERIVED. GIVEN WITH THE SEED: THE CARDS: each row of YtpgmpcjbndpblaaGreatDoorRows.lean that lists a variable, with what it lists TIED to the program's text (the seventh form; the later family's looks); each row that meets fmt, with fmt's text TOLD by the authors' own Lean function (tested against real Go, not proved from fmt's source: count such statements apart). THE CARD IS WHAT COUNTS. Prove the row's statement (the work); the ties are given (YtpgmpcjbndpblaaGreatDoorTie.lean); close each card by the builder's one call (the guide's Derived/Test/ToyasCard.lean, 'card_holds'). Laid BY PROGRAM, IN A SANDBOX (cutbox-door.mjs). By AI agents, Wed Nov 11 2026. No macro, syntax, notation, axiom, sorry.
-/
import Derived.Test.YtpgmpcjbndpblaaGreatDoorRows
import GoSem.ClaimSeven
namespace Go.Proofs.YtpgmpcjbndpblaaGreatDoor
namespace Rows

/-- THE TIED CARD OF 'columnsevenlaw16.MovesErrors'. -/
def movesErrorsCard : Claim7 := { stood := { row := movesErrorsRow, standIns := [], harness := (true, "32b2ae26b78b9b1b6a78603be0c8e232b1ff00c94aeffb629eec8cd436e194cc"), looks := true }, kinds := [], alts := [], laidByText := true, laidKinds := [.data, .data, .data, .data, .sentinel, .sentinel, .data, .data, .data, .pinned], laidTests := true, laidLooks := .later }
def MovesErrorsCardSaid : Prop := Claim7.holds Tryz.pinned (.plain (OpenSpec.ofChange movesErrorsSpec)) movesErrorsCard

/-- THE SECOND FORM's CARD OF 'columnsevenlaw16.MovesErrors'. -/
def movesErrorsUptoCard : Claim7 := { stood := { row := movesErrorsUptoRow, standIns := [], harness := (true, "32b2ae26b78b9b1b6a78603be0c8e232b1ff00c94aeffb629eec8cd436e194cc"), looks := true }, kinds := [], alts := [], laidByText := true, laidKinds := [.data, .data, .data, .data, .sentinel, .sentinel, .data, .data, .data, .pinned], laidTests := true, laidLooks := .later }
def MovesErrorsUptoCardSaid : Prop := Claim7.holds Tryz.pinned (.plain (OpenSpec.upto movesErrorsSpec)) movesErrorsUptoCard
end Rows
end Go.Proofs.YtpgmpcjbndpblaaGreatDoor
