/-
  DERIVED. GIVEN WITH THE SEED: THE CARDS: each row of YtckmndepnihanaaGreatDoorRows.lean that lists a variable, with what it lists TIED to the program's text (the seventh form; the later family's looks); each row that meets fmt, with fmt's text TOLD by the authors' own Lean function (tested against real Go, not proved from fmt's source: count such statements apart). THE CARD IS WHAT COUNTS. Prove the row's statement (the work); the ties are given (YtckmndepnihanaaGreatDoorTie.lean); close each card by the builder's one call (the guide's Derived/Test/ToyasCard.lean, 'card_holds'). Laid BY PROGRAM, IN A SANDBOX (cutbox-door.mjs). By AI agents, Wed Nov 11 2026. No macro, syntax, notation, axiom, sorry.
-/
import Derived.Test.YtckmndepnihanaaGreatDoorRows
import GoSem.ClaimSeven
namespace Go.Proofs.YtckmndepnihanaaGreatDoor
namespace Rows

/-- THE TIED CARD OF 'columnsevenlaw17.SumsCheck'. -/
def sumsCheckCard : Claim7 := { stood := { row := sumsCheckRow, standIns := [], harness := (true, "686b833a616f855ce4504a03437c98039c0c586bb732b3a654f1ea791d0548b9"), looks := true }, kinds := [], alts := [], laidByText := true, laidKinds := [.data, .data, .data, .data, .sentinel, .sentinel, .listed, .data, .data, .data, .pinned], laidTests := true, laidLooks := .later }
def SumsCheckCardSaid : Prop := Claim7.holds Tryz.pinned (.plain (OpenSpec.ofChange sumsCheckSpec)) sumsCheckCard

/-- THE SECOND FORM's CARD OF 'columnsevenlaw17.SumsCheck'. -/
def sumsCheckUptoCard : Claim7 := { stood := { row := sumsCheckUptoRow, standIns := [], harness := (true, "686b833a616f855ce4504a03437c98039c0c586bb732b3a654f1ea791d0548b9"), looks := true }, kinds := [], alts := [], laidByText := true, laidKinds := [.data, .data, .data, .data, .sentinel, .sentinel, .listed, .data, .data, .data, .pinned], laidTests := true, laidLooks := .later }
def SumsCheckUptoCardSaid : Prop := Claim7.holds Tryz.pinned (.plain (OpenSpec.upto sumsCheckSpec)) sumsCheckUptoCard
end Rows
end Go.Proofs.YtckmndepnihanaaGreatDoor
