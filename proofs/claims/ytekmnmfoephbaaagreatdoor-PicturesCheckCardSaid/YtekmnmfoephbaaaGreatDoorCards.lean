/-
  DERIVED. GIVEN WITH THE SEED: THE CARDS: each row of YtekmnmfoephbaaaGreatDoorRows.lean that lists a variable, with what it lists TIED to the program's text (the seventh form; the later family's looks); each row that meets fmt, with fmt's text TOLD by the authors' own Lean function (tested against real Go, not proved from fmt's source: count such statements apart). THE CARD IS WHAT COUNTS. Prove the row's statement (the work); the ties are given (YtekmnmfoephbaaaGreatDoorTie.lean); close each card by the builder's one call (the guide's Derived/Test/ToyasCard.lean, 'card_holds'). Laid BY PROGRAM, IN A SANDBOX (cutbox-door.mjs). By AI agents, Wed Nov 11 2026. No macro, syntax, notation, axiom, sorry.
-/
import Derived.Test.YtekmnmfoephbaaaGreatDoorRows
import GoSem.ClaimSeven
namespace Go.Proofs.YtekmnmfoephbaaaGreatDoor
namespace Rows

/-- THE TIED CARD OF 'columnsevenlaw06.PicturesParse'. -/
def picturesParseCard : Claim7 := { stood := { row := picturesParseRow, standIns := [], harness := (true, "3ca9b716c2d3ebf114839cdb6da1114dd0bc6eb51420fcd22fd91a83b7fa8a5d"), looks := true }, kinds := [], alts := [], laidByText := true, laidKinds := [.data, .data, .data, .data, .sentinel, .sentinel, .data, .pinned], laidTests := true, laidLooks := .later }
def PicturesParseCardSaid : Prop := Claim7.holds Tryz.pinned (.plain (OpenSpec.ofChange picturesParseSpec)) picturesParseCard

/-- THE TIED CARD OF 'columnsevenlaw06.PicturesShort'. -/
def picturesShortCard : Claim7 := { stood := { row := picturesShortRow, standIns := [], harness := (true, "3ca9b716c2d3ebf114839cdb6da1114dd0bc6eb51420fcd22fd91a83b7fa8a5d"), looks := true }, kinds := [], alts := [], laidByText := true, laidKinds := [.data, .data, .data, .data, .sentinel, .sentinel, .data, .pinned], laidTests := true, laidLooks := .later }
def PicturesShortCardSaid : Prop := Claim7.holds Tryz.pinned (.plain (OpenSpec.ofChange picturesShortSpec)) picturesShortCard

/-- THE TIED CARD OF 'columnsevenlaw06.PicturesShape'. -/
def picturesShapeCard : Claim7 := { stood := { row := picturesShapeRow, standIns := [], harness := (true, "3ca9b716c2d3ebf114839cdb6da1114dd0bc6eb51420fcd22fd91a83b7fa8a5d"), looks := true }, kinds := [], alts := [], laidByText := true, laidKinds := [.data, .data, .data, .data, .sentinel, .sentinel, .data, .pinned], laidTests := true, laidLooks := .later }
def PicturesShapeCardSaid : Prop := Claim7.holds Tryz.pinned (.plain (OpenSpec.ofChange picturesShapeSpec)) picturesShapeCard

/-- THE TIED CARD OF 'columnsevenlaw06.PicturesCheck'. -/
def picturesCheckCard : Claim7 := { stood := { row := picturesCheckRow, standIns := [], harness := (true, "3ca9b716c2d3ebf114839cdb6da1114dd0bc6eb51420fcd22fd91a83b7fa8a5d"), looks := true }, kinds := [], alts := [], laidByText := true, laidKinds := [.data, .data, .data, .data, .sentinel, .sentinel, .data, .pinned], laidTests := true, laidLooks := .later }
def PicturesCheckCardSaid : Prop := Claim7.holds Tryz.pinned (.plain (OpenSpec.ofChange picturesCheckSpec)) picturesCheckCard

/-- THE SECOND FORM's CARD OF 'columnsevenlaw06.PicturesParse'. -/
def picturesParseUptoCard : Claim7 := { stood := { row := picturesParseUptoRow, standIns := [], harness := (true, "3ca9b716c2d3ebf114839cdb6da1114dd0bc6eb51420fcd22fd91a83b7fa8a5d"), looks := true }, kinds := [], alts := [], laidByText := true, laidKinds := [.data, .data, .data, .data, .sentinel, .sentinel, .data, .pinned], laidTests := true, laidLooks := .later }
def PicturesParseUptoCardSaid : Prop := Claim7.holds Tryz.pinned (.plain (OpenSpec.upto picturesParseSpec)) picturesParseUptoCard

/-- THE SECOND FORM's CARD OF 'columnsevenlaw06.PicturesShort'. -/
def picturesShortUptoCard : Claim7 := { stood := { row := picturesShortUptoRow, standIns := [], harness := (true, "3ca9b716c2d3ebf114839cdb6da1114dd0bc6eb51420fcd22fd91a83b7fa8a5d"), looks := true }, kinds := [], alts := [], laidByText := true, laidKinds := [.data, .data, .data, .data, .sentinel, .sentinel, .data, .pinned], laidTests := true, laidLooks := .later }
def PicturesShortUptoCardSaid : Prop := Claim7.holds Tryz.pinned (.plain (OpenSpec.upto picturesShortSpec)) picturesShortUptoCard

/-- THE SECOND FORM's CARD OF 'columnsevenlaw06.PicturesShape'. -/
def picturesShapeUptoCard : Claim7 := { stood := { row := picturesShapeUptoRow, standIns := [], harness := (true, "3ca9b716c2d3ebf114839cdb6da1114dd0bc6eb51420fcd22fd91a83b7fa8a5d"), looks := true }, kinds := [], alts := [], laidByText := true, laidKinds := [.data, .data, .data, .data, .sentinel, .sentinel, .data, .pinned], laidTests := true, laidLooks := .later }
def PicturesShapeUptoCardSaid : Prop := Claim7.holds Tryz.pinned (.plain (OpenSpec.upto picturesShapeSpec)) picturesShapeUptoCard

/-- THE SECOND FORM's CARD OF 'columnsevenlaw06.PicturesCheck'. -/
def picturesCheckUptoCard : Claim7 := { stood := { row := picturesCheckUptoRow, standIns := [], harness := (true, "3ca9b716c2d3ebf114839cdb6da1114dd0bc6eb51420fcd22fd91a83b7fa8a5d"), looks := true }, kinds := [], alts := [], laidByText := true, laidKinds := [.data, .data, .data, .data, .sentinel, .sentinel, .data, .pinned], laidTests := true, laidLooks := .later }
def PicturesCheckUptoCardSaid : Prop := Claim7.holds Tryz.pinned (.plain (OpenSpec.upto picturesCheckSpec)) picturesCheckUptoCard
end Rows
end Go.Proofs.YtekmnmfoephbaaaGreatDoor
