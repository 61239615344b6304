/-
  DERIVED. GIVEN WITH THE SEED: THE CARDS: each row of YtgehgjniceckfaaGreatDoorRows.lean that lists a variable, with what it lists TIED to the program's text (the seventh form; the later family's looks); each row that meets fmt, with fmt's text TOLD by the authors' own Lean function (tested against real Go, not proved from fmt's source: count such statements apart). THE CARD IS WHAT COUNTS. Prove the row's statement (the work); the ties are given (YtgehgjniceckfaaGreatDoorTie.lean); close each card by the builder's one call (the guide's Derived/Test/ToyasCard.lean, 'card_holds'). Laid BY PROGRAM, IN A SANDBOX (cutbox-door.mjs). By AI agents, Wed Nov 11 2026. No macro, syntax, notation, axiom, sorry.
-/
import Derived.Test.YtgehgjniceckfaaGreatDoorRows
import GoSem.ClaimSeven
namespace Go.Proofs.YtgehgjniceckfaaGreatDoor
namespace Rows

/-- THE TIED CARD OF 'columnsevenlaw20.InspectsTally'. -/
def inspectsTallyCard : Claim7 := { stood := { row := inspectsTallyRow, standIns := [], harness := (true, "603f2d41b4b629f16ece6d923b3bbb2c2afe89f29e63e019a26376a4c335aac2"), looks := true }, kinds := [], alts := [], laidByText := true, laidKinds := [.data, .data, .data, .data, .sentinel, .sentinel, .listed, .data, .data, .data, .pinned], laidTests := true, laidLooks := .later }
def InspectsTallyCardSaid : Prop := Claim7.holds Tryz.pinned (.plain (OpenSpec.ofChange inspectsTallySpec)) inspectsTallyCard

/-- THE TIED CARD OF 'columnsevenlaw20.InspectsReplace'. -/
def inspectsReplaceCard : Claim7 := { stood := { row := inspectsReplaceRow, standIns := [], harness := (true, "603f2d41b4b629f16ece6d923b3bbb2c2afe89f29e63e019a26376a4c335aac2"), looks := true }, kinds := [], alts := [], laidByText := true, laidKinds := [.data, .data, .data, .data, .sentinel, .sentinel, .listed, .data, .data, .data, .pinned], laidTests := true, laidLooks := .later }
def InspectsReplaceCardSaid : Prop := Claim7.holds Tryz.pinned (.plain (OpenSpec.ofChange inspectsReplaceSpec)) inspectsReplaceCard

/-- THE SECOND FORM's CARD OF 'columnsevenlaw20.InspectsTally'. -/
def inspectsTallyUptoCard : Claim7 := { stood := { row := inspectsTallyUptoRow, standIns := [], harness := (true, "603f2d41b4b629f16ece6d923b3bbb2c2afe89f29e63e019a26376a4c335aac2"), looks := true }, kinds := [], alts := [], laidByText := true, laidKinds := [.data, .data, .data, .data, .sentinel, .sentinel, .listed, .data, .data, .data, .pinned], laidTests := true, laidLooks := .later }
def InspectsTallyUptoCardSaid : Prop := Claim7.holds Tryz.pinned (.plain (OpenSpec.upto inspectsTallySpec)) inspectsTallyUptoCard

/-- THE SECOND FORM's CARD OF 'columnsevenlaw20.InspectsReplace'. -/
def inspectsReplaceUptoCard : Claim7 := { stood := { row := inspectsReplaceUptoRow, standIns := [], harness := (true, "603f2d41b4b629f16ece6d923b3bbb2c2afe89f29e63e019a26376a4c335aac2"), looks := true }, kinds := [], alts := [], laidByText := true, laidKinds := [.data, .data, .data, .data, .sentinel, .sentinel, .listed, .data, .data, .data, .pinned], laidTests := true, laidLooks := .later }
def InspectsReplaceUptoCardSaid : Prop := Claim7.holds Tryz.pinned (.plain (OpenSpec.upto inspectsReplaceSpec)) inspectsReplaceUptoCard
end Rows
end Go.Proofs.YtgehgjniceckfaaGreatDoor
