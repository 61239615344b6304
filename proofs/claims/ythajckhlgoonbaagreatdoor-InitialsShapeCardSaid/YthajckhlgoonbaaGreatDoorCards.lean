/-
  DERIVED. GIVEN WITH THE SEED: THE CARDS: each row of YthajckhlgoonbaaGreatDoorRows.lean that lists a variable, with what it lists TIED to the program's text (the seventh form; the later family's looks); each row that meets fmt, with fmt's text TOLD by the authors' own Lean function (tested against real Go, not proved from fmt's source: count such statements apart). THE CARD IS WHAT COUNTS. Prove the row's statement (the work); the ties are given (YthajckhlgoonbaaGreatDoorTie.lean); close each card by the builder's one call (the guide's Derived/Test/ToyasCard.lean, 'card_holds'). Laid BY PROGRAM, IN A SANDBOX (cutbox-door.mjs). By AI agents, Wed Nov 11 2026. No macro, syntax, notation, axiom, sorry.
-/
import Derived.Test.YthajckhlgoonbaaGreatDoorRows
import GoSem.ClaimSeven
namespace Go.Proofs.YthajckhlgoonbaaGreatDoor
namespace Rows

/-- THE TIED CARD OF 'columnsevenlaw22.InitialsDo'. -/
def initialsDoCard : Claim7 := { stood := { row := initialsDoRow, standIns := [], harness := (true, "14f6cb452da87f15a8ef19eff30f2d66c468f28d1f6c670bf4c4beba1c2424a7"), looks := true }, kinds := [], alts := [], laidByText := true, laidKinds := [.data, .data, .data, .data, .sentinel, .sentinel, .data, .data, .data, .pinned], laidTests := true, laidLooks := .later }
def InitialsDoCardSaid : Prop := Claim7.holds Tryz.pinned (.plain (OpenSpec.ofChange initialsDoSpec)) initialsDoCard

/-- THE TIED CARD OF 'columnsevenlaw22.InitialsShape'. -/
def initialsShapeCard : Claim7 := { stood := { row := initialsShapeRow, standIns := [], harness := (true, "14f6cb452da87f15a8ef19eff30f2d66c468f28d1f6c670bf4c4beba1c2424a7"), looks := true }, kinds := [], alts := [], laidByText := true, laidKinds := [.data, .data, .data, .data, .sentinel, .sentinel, .data, .data, .data, .pinned], laidTests := true, laidLooks := .later }
def InitialsShapeCardSaid : Prop := Claim7.holds Tryz.pinned (.plain (OpenSpec.ofChange initialsShapeSpec)) initialsShapeCard

/-- THE TIED CARD OF 'columnsevenlaw22.InitialsSearch'. -/
def initialsSearchCard : Claim7 := { stood := { row := initialsSearchRow, standIns := [], harness := (true, "14f6cb452da87f15a8ef19eff30f2d66c468f28d1f6c670bf4c4beba1c2424a7"), looks := true }, kinds := [], alts := [], laidByText := true, laidKinds := [.data, .data, .data, .data, .sentinel, .sentinel, .data, .data, .data, .pinned], laidTests := true, laidLooks := .later }
def InitialsSearchCardSaid : Prop := Claim7.holds Tryz.pinned (.plain (OpenSpec.ofChange initialsSearchSpec)) initialsSearchCard

/-- THE TIED CARD OF 'columnsevenlaw22.InitialsSorted'. -/
def initialsSortedCard : Claim7 := { stood := { row := initialsSortedRow, standIns := [], harness := (true, "14f6cb452da87f15a8ef19eff30f2d66c468f28d1f6c670bf4c4beba1c2424a7"), looks := true }, kinds := [], alts := [], laidByText := true, laidKinds := [.data, .data, .data, .data, .sentinel, .sentinel, .data, .data, .data, .pinned], laidTests := true, laidLooks := .later }
def InitialsSortedCardSaid : Prop := Claim7.holds Tryz.pinned (.plain (OpenSpec.ofChange initialsSortedSpec)) initialsSortedCard

/-- THE SECOND FORM's CARD OF 'columnsevenlaw22.InitialsDo'. -/
def initialsDoUptoCard : Claim7 := { stood := { row := initialsDoUptoRow, standIns := [], harness := (true, "14f6cb452da87f15a8ef19eff30f2d66c468f28d1f6c670bf4c4beba1c2424a7"), looks := true }, kinds := [], alts := [], laidByText := true, laidKinds := [.data, .data, .data, .data, .sentinel, .sentinel, .data, .data, .data, .pinned], laidTests := true, laidLooks := .later }
def InitialsDoUptoCardSaid : Prop := Claim7.holds Tryz.pinned (.plain (OpenSpec.upto initialsDoSpec)) initialsDoUptoCard

/-- THE SECOND FORM's CARD OF 'columnsevenlaw22.InitialsShape'. -/
def initialsShapeUptoCard : Claim7 := { stood := { row := initialsShapeUptoRow, standIns := [], harness := (true, "14f6cb452da87f15a8ef19eff30f2d66c468f28d1f6c670bf4c4beba1c2424a7"), looks := true }, kinds := [], alts := [], laidByText := true, laidKinds := [.data, .data, .data, .data, .sentinel, .sentinel, .data, .data, .data, .pinned], laidTests := true, laidLooks := .later }
def InitialsShapeUptoCardSaid : Prop := Claim7.holds Tryz.pinned (.plain (OpenSpec.upto initialsShapeSpec)) initialsShapeUptoCard

/-- THE SECOND FORM's CARD OF 'columnsevenlaw22.InitialsSearch'. -/
def initialsSearchUptoCard : Claim7 := { stood := { row := initialsSearchUptoRow, standIns := [], harness := (true, "14f6cb452da87f15a8ef19eff30f2d66c468f28d1f6c670bf4c4beba1c2424a7"), looks := true }, kinds := [], alts := [], laidByText := true, laidKinds := [.data, .data, .data, .data, .sentinel, .sentinel, .data, .data, .data, .pinned], laidTests := true, laidLooks := .later }
def InitialsSearchUptoCardSaid : Prop := Claim7.holds Tryz.pinned (.plain (OpenSpec.upto initialsSearchSpec)) initialsSearchUptoCard

/-- THE SECOND FORM's CARD OF 'columnsevenlaw22.InitialsSorted'. -/
def initialsSortedUptoCard : Claim7 := { stood := { row := initialsSortedUptoRow, standIns := [], harness := (true, "14f6cb452da87f15a8ef19eff30f2d66c468f28d1f6c670bf4c4beba1c2424a7"), looks := true }, kinds := [], alts := [], laidByText := true, laidKinds := [.data, .data, .data, .data, .sentinel, .sentinel, .data, .data, .data, .pinned], laidTests := true, laidLooks := .later }
def InitialsSortedUptoCardSaid : Prop := Claim7.holds Tryz.pinned (.plain (OpenSpec.upto initialsSortedSpec)) initialsSortedUptoCard
end Rows
end Go.Proofs.YthajckhlgoonbaaGreatDoor
