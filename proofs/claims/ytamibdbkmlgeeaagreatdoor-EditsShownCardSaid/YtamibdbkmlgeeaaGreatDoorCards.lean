/-
  DERIVED. GIVEN WITH THE SEED: THE CARDS: each row of YtamibdbkmlgeeaaGreatDoorRows.lean that lists a variable, with what it lists TIED to the program's text (the seventh form; the later family's looks); each row that meets fmt, with fmt's text TOLD by the authors' own Lean function (tested against real Go, not proved from fmt's source: count such statements apart). THE CARD IS WHAT COUNTS. Prove the row's statement (the work); the ties are given (YtamibdbkmlgeeaaGreatDoorTie.lean); close each card by the builder's one call (the guide's Derived/Test/ToyasCard.lean, 'card_holds'). Laid BY PROGRAM, IN A SANDBOX (cutbox-door.mjs). By AI agents, Wed Nov 11 2026. No macro, syntax, notation, axiom, sorry.
-/
import Derived.Test.YtamibdbkmlgeeaaGreatDoorRows
import GoSem.ClaimSeven
namespace Go.Proofs.YtamibdbkmlgeeaaGreatDoor
namespace Rows

/-- THE TIED CARD OF 'columnsevenlaw14.UsagesAny'. -/
def usagesAnyCard : Claim7 := { stood := { row := usagesAnyRow, standIns := [], harness := (true, "a0f8699b1004dc7169e4c1ee5fcbe6036bdd7876a4264e9cf1e3de894ad02b33"), looks := true }, kinds := [], alts := [], laidByText := true, laidKinds := [.data, .data, .data, .data, .sentinel, .sentinel, .data, .pinned], laidTests := true, laidLooks := .later }
def UsagesAnyCardSaid : Prop := Claim7.holds Tryz.pinned (.plain (OpenSpec.ofChange usagesAnySpec)) usagesAnyCard

/-- THE TIED CARD OF 'columnsevenlaw14.UsagesPut'. -/
def usagesPutCard : Claim7 := { stood := { row := usagesPutRow, standIns := [], harness := (true, "a0f8699b1004dc7169e4c1ee5fcbe6036bdd7876a4264e9cf1e3de894ad02b33"), looks := true }, kinds := [], alts := [], laidByText := true, laidKinds := [.data, .data, .data, .data, .sentinel, .sentinel, .data, .pinned], laidTests := true, laidLooks := .later }
def UsagesPutCardSaid : Prop := Claim7.holds Tryz.pinned (.plain (OpenSpec.ofChange usagesPutSpec)) usagesPutCard

/-- THE TIED CARD OF 'columnsevenlaw14.UsagesErrors'. -/
def usagesErrorsCard : Claim7 := { stood := { row := usagesErrorsRow, standIns := [], harness := (true, "a0f8699b1004dc7169e4c1ee5fcbe6036bdd7876a4264e9cf1e3de894ad02b33"), looks := true }, kinds := [], alts := [], laidByText := true, laidKinds := [.data, .data, .data, .data, .sentinel, .sentinel, .data, .pinned], laidTests := true, laidLooks := .later }
def UsagesErrorsCardSaid : Prop := Claim7.holds Tryz.pinned (.plain (OpenSpec.ofChange usagesErrorsSpec)) usagesErrorsCard

/-- THE TIED CARD OF 'columnsevenlaw14.UsagesLeast'. -/
def usagesLeastCard : Claim7 := { stood := { row := usagesLeastRow, standIns := [], harness := (true, "a0f8699b1004dc7169e4c1ee5fcbe6036bdd7876a4264e9cf1e3de894ad02b33"), looks := true }, kinds := [], alts := [], laidByText := true, laidKinds := [.data, .data, .data, .data, .sentinel, .sentinel, .data, .pinned], laidTests := true, laidLooks := .later }
def UsagesLeastCardSaid : Prop := Claim7.holds Tryz.pinned (.plain (OpenSpec.ofChange usagesLeastSpec)) usagesLeastCard

/-- THE TIED CARD OF 'columnsevenlaw14.UsagesGet'. -/
def usagesGetCard : Claim7 := { stood := { row := usagesGetRow, standIns := [], harness := (true, "a0f8699b1004dc7169e4c1ee5fcbe6036bdd7876a4264e9cf1e3de894ad02b33"), looks := true }, kinds := [], alts := [], laidByText := true, laidKinds := [.data, .data, .data, .data, .sentinel, .sentinel, .data, .pinned], laidTests := true, laidLooks := .later }
def UsagesGetCardSaid : Prop := Claim7.holds Tryz.pinned (.plain (OpenSpec.ofChange usagesGetSpec)) usagesGetCard

/-- THE TIED CARD OF 'columnsevenlaw15.EditsEdit'. -/
def editsEditCard : Claim7 := { stood := { row := editsEditRow, standIns := [], harness := (true, "a0f8699b1004dc7169e4c1ee5fcbe6036bdd7876a4264e9cf1e3de894ad02b33"), looks := true }, kinds := [], alts := [], laidByText := true, laidKinds := [.data, .data, .data, .data, .sentinel, .sentinel, .data, .data, .pinned], laidTests := true, laidLooks := .later }
def EditsEditCardSaid : Prop := Claim7.holds Tryz.pinned (.plain (OpenSpec.ofChange editsEditSpec)) editsEditCard

/-- THE TIED CARD OF 'columnsevenlaw15.EditsShown'. -/
def editsShownCard : Claim7 := { stood := { row := editsShownRow, standIns := [], harness := (true, "a0f8699b1004dc7169e4c1ee5fcbe6036bdd7876a4264e9cf1e3de894ad02b33"), looks := true }, kinds := [], alts := [], laidByText := true, laidKinds := [.data, .data, .data, .data, .sentinel, .sentinel, .data, .data, .pinned], laidTests := true, laidLooks := .later }
def EditsShownCardSaid : Prop := Claim7.holds Tryz.pinned (.plain (OpenSpec.ofChange editsShownSpec)) editsShownCard

/-- THE TIED CARD OF 'columnsevenlaw15.EditsBack'. -/
def editsBackCard : Claim7 := { stood := { row := editsBackRow, standIns := [], harness := (true, "a0f8699b1004dc7169e4c1ee5fcbe6036bdd7876a4264e9cf1e3de894ad02b33"), looks := true }, kinds := [], alts := [], laidByText := true, laidKinds := [.data, .data, .data, .data, .sentinel, .sentinel, .data, .data, .pinned], laidTests := true, laidLooks := .later }
def EditsBackCardSaid : Prop := Claim7.holds Tryz.pinned (.plain (OpenSpec.ofChange editsBackSpec)) editsBackCard

/-- THE TIED CARD OF 'columnsevenlaw15.EditsAny'. -/
def editsAnyCard : Claim7 := { stood := { row := editsAnyRow, standIns := [], harness := (true, "a0f8699b1004dc7169e4c1ee5fcbe6036bdd7876a4264e9cf1e3de894ad02b33"), looks := true }, kinds := [], alts := [], laidByText := true, laidKinds := [.data, .data, .data, .data, .sentinel, .sentinel, .data, .data, .pinned], laidTests := true, laidLooks := .later }
def EditsAnyCardSaid : Prop := Claim7.holds Tryz.pinned (.plain (OpenSpec.ofChange editsAnySpec)) editsAnyCard

/-- THE TIED CARD OF 'columnsevenlaw15.EditsText'. -/
def editsTextCard : Claim7 := { stood := { row := editsTextRow, standIns := [], harness := (true, "a0f8699b1004dc7169e4c1ee5fcbe6036bdd7876a4264e9cf1e3de894ad02b33"), looks := true }, kinds := [], alts := [], laidByText := true, laidKinds := [.data, .data, .data, .data, .sentinel, .sentinel, .data, .data, .pinned], laidTests := true, laidLooks := .later }
def EditsTextCardSaid : Prop := Claim7.holds Tryz.pinned (.plain (OpenSpec.ofChange editsTextSpec)) editsTextCard

/-- THE TIED CARD OF 'columnsevenlaw15.EditsErrors'. -/
def editsErrorsCard : Claim7 := { stood := { row := editsErrorsRow, standIns := [], harness := (true, "a0f8699b1004dc7169e4c1ee5fcbe6036bdd7876a4264e9cf1e3de894ad02b33"), looks := true }, kinds := [], alts := [], laidByText := true, laidKinds := [.data, .data, .data, .data, .sentinel, .sentinel, .data, .data, .pinned], laidTests := true, laidLooks := .later }
def EditsErrorsCardSaid : Prop := Claim7.holds Tryz.pinned (.plain (OpenSpec.ofChange editsErrorsSpec)) editsErrorsCard

/-- THE SECOND FORM's CARD OF 'columnsevenlaw14.UsagesAny'. -/
def usagesAnyUptoCard : Claim7 := { stood := { row := usagesAnyUptoRow, standIns := [], harness := (true, "a0f8699b1004dc7169e4c1ee5fcbe6036bdd7876a4264e9cf1e3de894ad02b33"), looks := true }, kinds := [], alts := [], laidByText := true, laidKinds := [.data, .data, .data, .data, .sentinel, .sentinel, .data, .pinned], laidTests := true, laidLooks := .later }
def UsagesAnyUptoCardSaid : Prop := Claim7.holds Tryz.pinned (.plain (OpenSpec.upto usagesAnySpec)) usagesAnyUptoCard

/-- THE SECOND FORM's CARD OF 'columnsevenlaw14.UsagesPut'. -/
def usagesPutUptoCard : Claim7 := { stood := { row := usagesPutUptoRow, standIns := [], harness := (true, "a0f8699b1004dc7169e4c1ee5fcbe6036bdd7876a4264e9cf1e3de894ad02b33"), looks := true }, kinds := [], alts := [], laidByText := true, laidKinds := [.data, .data, .data, .data, .sentinel, .sentinel, .data, .pinned], laidTests := true, laidLooks := .later }
def UsagesPutUptoCardSaid : Prop := Claim7.holds Tryz.pinned (.plain (OpenSpec.upto usagesPutSpec)) usagesPutUptoCard

/-- THE SECOND FORM's CARD OF 'columnsevenlaw14.UsagesErrors'. -/
def usagesErrorsUptoCard : Claim7 := { stood := { row := usagesErrorsUptoRow, standIns := [], harness := (true, "a0f8699b1004dc7169e4c1ee5fcbe6036bdd7876a4264e9cf1e3de894ad02b33"), looks := true }, kinds := [], alts := [], laidByText := true, laidKinds := [.data, .data, .data, .data, .sentinel, .sentinel, .data, .pinned], laidTests := true, laidLooks := .later }
def UsagesErrorsUptoCardSaid : Prop := Claim7.holds Tryz.pinned (.plain (OpenSpec.upto usagesErrorsSpec)) usagesErrorsUptoCard

/-- THE SECOND FORM's CARD OF 'columnsevenlaw14.UsagesLeast'. -/
def usagesLeastUptoCard : Claim7 := { stood := { row := usagesLeastUptoRow, standIns := [], harness := (true, "a0f8699b1004dc7169e4c1ee5fcbe6036bdd7876a4264e9cf1e3de894ad02b33"), looks := true }, kinds := [], alts := [], laidByText := true, laidKinds := [.data, .data, .data, .data, .sentinel, .sentinel, .data, .pinned], laidTests := true, laidLooks := .later }
def UsagesLeastUptoCardSaid : Prop := Claim7.holds Tryz.pinned (.plain (OpenSpec.upto usagesLeastSpec)) usagesLeastUptoCard

/-- THE SECOND FORM's CARD OF 'columnsevenlaw14.UsagesGet'. -/
def usagesGetUptoCard : Claim7 := { stood := { row := usagesGetUptoRow, standIns := [], harness := (true, "a0f8699b1004dc7169e4c1ee5fcbe6036bdd7876a4264e9cf1e3de894ad02b33"), looks := true }, kinds := [], alts := [], laidByText := true, laidKinds := [.data, .data, .data, .data, .sentinel, .sentinel, .data, .pinned], laidTests := true, laidLooks := .later }
def UsagesGetUptoCardSaid : Prop := Claim7.holds Tryz.pinned (.plain (OpenSpec.upto usagesGetSpec)) usagesGetUptoCard

/-- THE SECOND FORM's CARD OF 'columnsevenlaw15.EditsEdit'. -/
def editsEditUptoCard : Claim7 := { stood := { row := editsEditUptoRow, standIns := [], harness := (true, "a0f8699b1004dc7169e4c1ee5fcbe6036bdd7876a4264e9cf1e3de894ad02b33"), looks := true }, kinds := [], alts := [], laidByText := true, laidKinds := [.data, .data, .data, .data, .sentinel, .sentinel, .data, .data, .pinned], laidTests := true, laidLooks := .later }
def EditsEditUptoCardSaid : Prop := Claim7.holds Tryz.pinned (.plain (OpenSpec.upto editsEditSpec)) editsEditUptoCard

/-- THE SECOND FORM's CARD OF 'columnsevenlaw15.EditsShown'. -/
def editsShownUptoCard : Claim7 := { stood := { row := editsShownUptoRow, standIns := [], harness := (true, "a0f8699b1004dc7169e4c1ee5fcbe6036bdd7876a4264e9cf1e3de894ad02b33"), looks := true }, kinds := [], alts := [], laidByText := true, laidKinds := [.data, .data, .data, .data, .sentinel, .sentinel, .data, .data, .pinned], laidTests := true, laidLooks := .later }
def EditsShownUptoCardSaid : Prop := Claim7.holds Tryz.pinned (.plain (OpenSpec.upto editsShownSpec)) editsShownUptoCard

/-- THE SECOND FORM's CARD OF 'columnsevenlaw15.EditsBack'. -/
def editsBackUptoCard : Claim7 := { stood := { row := editsBackUptoRow, standIns := [], harness := (true, "a0f8699b1004dc7169e4c1ee5fcbe6036bdd7876a4264e9cf1e3de894ad02b33"), looks := true }, kinds := [], alts := [], laidByText := true, laidKinds := [.data, .data, .data, .data, .sentinel, .sentinel, .data, .data, .pinned], laidTests := true, laidLooks := .later }
def EditsBackUptoCardSaid : Prop := Claim7.holds Tryz.pinned (.plain (OpenSpec.upto editsBackSpec)) editsBackUptoCard

/-- THE SECOND FORM's CARD OF 'columnsevenlaw15.EditsAny'. -/
def editsAnyUptoCard : Claim7 := { stood := { row := editsAnyUptoRow, standIns := [], harness := (true, "a0f8699b1004dc7169e4c1ee5fcbe6036bdd7876a4264e9cf1e3de894ad02b33"), looks := true }, kinds := [], alts := [], laidByText := true, laidKinds := [.data, .data, .data, .data, .sentinel, .sentinel, .data, .data, .pinned], laidTests := true, laidLooks := .later }
def EditsAnyUptoCardSaid : Prop := Claim7.holds Tryz.pinned (.plain (OpenSpec.upto editsAnySpec)) editsAnyUptoCard

/-- THE SECOND FORM's CARD OF 'columnsevenlaw15.EditsText'. -/
def editsTextUptoCard : Claim7 := { stood := { row := editsTextUptoRow, standIns := [], harness := (true, "a0f8699b1004dc7169e4c1ee5fcbe6036bdd7876a4264e9cf1e3de894ad02b33"), looks := true }, kinds := [], alts := [], laidByText := true, laidKinds := [.data, .data, .data, .data, .sentinel, .sentinel, .data, .data, .pinned], laidTests := true, laidLooks := .later }
def EditsTextUptoCardSaid : Prop := Claim7.holds Tryz.pinned (.plain (OpenSpec.upto editsTextSpec)) editsTextUptoCard

/-- THE SECOND FORM's CARD OF 'columnsevenlaw15.EditsErrors'. -/
def editsErrorsUptoCard : Claim7 := { stood := { row := editsErrorsUptoRow, standIns := [], harness := (true, "a0f8699b1004dc7169e4c1ee5fcbe6036bdd7876a4264e9cf1e3de894ad02b33"), looks := true }, kinds := [], alts := [], laidByText := true, laidKinds := [.data, .data, .data, .data, .sentinel, .sentinel, .data, .data, .pinned], laidTests := true, laidLooks := .later }
def EditsErrorsUptoCardSaid : Prop := Claim7.holds Tryz.pinned (.plain (OpenSpec.upto editsErrorsSpec)) editsErrorsUptoCard
end Rows
end Go.Proofs.YtamibdbkmlgeeaaGreatDoor
