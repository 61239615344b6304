/-
  DERIVED. GIVEN WITH THE SEED: THE CARDS: each row of YtkinagkcgpffpaaGreatDoorRows.lean that lists a variable, with what it lists TIED to the program's text (the seventh form; the later family's looks); each row that meets fmt, with fmt's text TOLD by the authors' own Lean function (tested against real Go, not proved from fmt's source: count such statements apart). THE CARD IS WHAT COUNTS. Prove the row's statement (the work); the ties are given (YtkinagkcgpffpaaGreatDoorTie.lean); close each card by the builder's one call (the guide's Derived/Test/ToyasCard.lean, 'card_holds'). Laid BY PROGRAM, IN A SANDBOX (cutbox-door.mjs). By AI agents, Wed Nov 11 2026. No macro, syntax, notation, axiom, sorry.
-/
import Derived.Test.YtkinagkcgpffpaaGreatDoorRows
import GoSem.ClaimSeven
namespace Go.Proofs.YtkinagkcgpffpaaGreatDoor
namespace Rows

/-- THE TIED CARD OF 'columnsevenlaw17.SumsParse'. -/
def sumsParseCard : Claim7 := { stood := { row := sumsParseRow, standIns := [], harness := (true, "da0f632fea7fab607d5921778f69d0e2d67194362487d1948949e5635340c018"), looks := true }, kinds := [], alts := [], laidByText := true, laidKinds := [.data, .data, .data, .data, .sentinel, .sentinel, .listed, .data, .data, .data, .pinned], laidTests := true, laidLooks := .later }
def SumsParseCardSaid : Prop := Claim7.holds Tryz.pinned (.plain (OpenSpec.ofChange sumsParseSpec)) sumsParseCard

/-- THE SECOND FORM's CARD OF 'columnsevenlaw17.SumsParse'. -/
def sumsParseUptoCard : Claim7 := { stood := { row := sumsParseUptoRow, standIns := [], harness := (true, "da0f632fea7fab607d5921778f69d0e2d67194362487d1948949e5635340c018"), looks := true }, kinds := [], alts := [], laidByText := true, laidKinds := [.data, .data, .data, .data, .sentinel, .sentinel, .listed, .data, .data, .data, .pinned], laidTests := true, laidLooks := .later }
def SumsParseUptoCardSaid : Prop := Claim7.holds Tryz.pinned (.plain (OpenSpec.upto sumsParseSpec)) sumsParseUptoCard
end Rows
end Go.Proofs.YtkinagkcgpffpaaGreatDoor
