/-
  DERIVED. GIVEN WITH THE SEED: THE CARDS: each row of YtigfdpnifmaleaaGreatDoorRows.lean that lists a variable, with what it lists TIED to the program's text (the seventh form; the later family's looks); each row that meets fmt, with fmt's text TOLD by the authors' own Lean function (tested against real Go, not proved from fmt's source: count such statements apart). THE CARD IS WHAT COUNTS. Prove the row's statement (the work); the ties are given (YtigfdpnifmaleaaGreatDoorTie.lean); close each card by the builder's one call (the guide's Derived/Test/ToyasCard.lean, 'card_holds'). Laid BY PROGRAM, IN A SANDBOX (cutbox-door.mjs). By AI agents, Wed Nov 11 2026. No macro, syntax, notation, axiom, sorry.
-/
import Derived.Test.YtigfdpnifmaleaaGreatDoorRows
import GoSem.ClaimSeven
namespace Go.Proofs.YtigfdpnifmaleaaGreatDoor
namespace Rows

/-- THE TIED CARD OF 'columnsevenlaw19.ConditionsFields'. -/
def conditionsFieldsCard : Claim7 := { stood := { row := conditionsFieldsRow, standIns := [], harness := (true, "3e07d8717a2cfc938ddaa919957b3e41d6a5bf348c52589ad90829fe644ffd8b"), looks := true }, kinds := [], alts := [], laidByText := true, laidKinds := [.data, .data, .data, .data, .sentinel, .sentinel, .listed, .data, .data, .data, .pinned], laidTests := true, laidLooks := .later }
def ConditionsFieldsCardSaid : Prop := Claim7.holds Tryz.pinned (.plain (OpenSpec.ofChange conditionsFieldsSpec)) conditionsFieldsCard

/-- THE TIED CARD OF 'columnsevenlaw19.ConditionsCompare'. -/
def conditionsCompareCard : Claim7 := { stood := { row := conditionsCompareRow, standIns := [], harness := (true, "3e07d8717a2cfc938ddaa919957b3e41d6a5bf348c52589ad90829fe644ffd8b"), looks := true }, kinds := [], alts := [], laidByText := true, laidKinds := [.data, .data, .data, .data, .sentinel, .sentinel, .listed, .data, .data, .data, .pinned], laidTests := true, laidLooks := .later }
def ConditionsCompareCardSaid : Prop := Claim7.holds Tryz.pinned (.plain (OpenSpec.ofChange conditionsCompareSpec)) conditionsCompareCard

/-- THE SECOND FORM's CARD OF 'columnsevenlaw19.ConditionsFields'. -/
def conditionsFieldsUptoCard : Claim7 := { stood := { row := conditionsFieldsUptoRow, standIns := [], harness := (true, "3e07d8717a2cfc938ddaa919957b3e41d6a5bf348c52589ad90829fe644ffd8b"), looks := true }, kinds := [], alts := [], laidByText := true, laidKinds := [.data, .data, .data, .data, .sentinel, .sentinel, .listed, .data, .data, .data, .pinned], laidTests := true, laidLooks := .later }
def ConditionsFieldsUptoCardSaid : Prop := Claim7.holds Tryz.pinned (.plain (OpenSpec.upto conditionsFieldsSpec)) conditionsFieldsUptoCard

/-- THE SECOND FORM's CARD OF 'columnsevenlaw19.ConditionsCompare'. -/
def conditionsCompareUptoCard : Claim7 := { stood := { row := conditionsCompareUptoRow, standIns := [], harness := (true, "3e07d8717a2cfc938ddaa919957b3e41d6a5bf348c52589ad90829fe644ffd8b"), looks := true }, kinds := [], alts := [], laidByText := true, laidKinds := [.data, .data, .data, .data, .sentinel, .sentinel, .listed, .data, .data, .data, .pinned], laidTests := true, laidLooks := .later }
def ConditionsCompareUptoCardSaid : Prop := Claim7.holds Tryz.pinned (.plain (OpenSpec.upto conditionsCompareSpec)) conditionsCompareUptoCard
end Rows
end Go.Proofs.YtigfdpnifmaleaaGreatDoor
