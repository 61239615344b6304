/-
  DERIVED. GIVEN WITH THE SEED: THE CARDS: each row of YtipihkebbdpmbaaGreatDoorRows.lean that lists a variable, with what it lists TIED to the program's text (the seventh form; the later family's looks); each row that meets fmt, with fmt's text TOLD by the authors' own Lean function (tested against real Go, not proved from fmt's source: count such statements apart). THE CARD IS WHAT COUNTS. Prove the row's statement (the work); the ties are given (YtipihkebbdpmbaaGreatDoorTie.lean); close each card by the builder's one call (the guide's Derived/Test/ToyasCard.lean, 'card_holds'). Laid BY PROGRAM, IN A SANDBOX (cutbox-door.mjs). By AI agents, Wed Nov 11 2026. No macro, syntax, notation, axiom, sorry.
-/
import Derived.Test.YtipihkebbdpmbaaGreatDoorRows
import GoSem.ClaimSeven
namespace Go.Proofs.YtipihkebbdpmbaaGreatDoor
namespace Rows

/-- THE TIED CARD OF 'columnsevenlaw17.SumsStore'. -/
def sumsStoreCard : Claim7 := { stood := { row := sumsStoreRow, standIns := [], harness := (true, "55903c9128dd0c595520087f14944c33f6bcce2e5f69d1a52a5a79e3142532f7"), looks := true }, kinds := [], alts := [], laidByText := true, laidKinds := [.data, .data, .data, .data, .sentinel, .sentinel, .listed, .data, .data, .data, .pinned], laidTests := true, laidLooks := .later }
def SumsStoreCardSaid : Prop := Claim7.holds Tryz.pinned (.plain (OpenSpec.ofChange sumsStoreSpec)) sumsStoreCard

/-- THE TIED CARD OF 'columnsevenlaw17.SumsErrors'. -/
def sumsErrorsCard : Claim7 := { stood := { row := sumsErrorsRow, standIns := [], harness := (true, "55903c9128dd0c595520087f14944c33f6bcce2e5f69d1a52a5a79e3142532f7"), looks := true }, kinds := [], alts := [], laidByText := true, laidKinds := [.data, .data, .data, .data, .sentinel, .sentinel, .listed, .data, .data, .data, .pinned], laidTests := true, laidLooks := .later }
def SumsErrorsCardSaid : Prop := Claim7.holds Tryz.pinned (.plain (OpenSpec.ofChange sumsErrorsSpec)) sumsErrorsCard

/-- THE SECOND FORM's CARD OF 'columnsevenlaw17.SumsStore'. -/
def sumsStoreUptoCard : Claim7 := { stood := { row := sumsStoreUptoRow, standIns := [], harness := (true, "55903c9128dd0c595520087f14944c33f6bcce2e5f69d1a52a5a79e3142532f7"), looks := true }, kinds := [], alts := [], laidByText := true, laidKinds := [.data, .data, .data, .data, .sentinel, .sentinel, .listed, .data, .data, .data, .pinned], laidTests := true, laidLooks := .later }
def SumsStoreUptoCardSaid : Prop := Claim7.holds Tryz.pinned (.plain (OpenSpec.upto sumsStoreSpec)) sumsStoreUptoCard

/-- THE SECOND FORM's CARD OF 'columnsevenlaw17.SumsErrors'. -/
def sumsErrorsUptoCard : Claim7 := { stood := { row := sumsErrorsUptoRow, standIns := [], harness := (true, "55903c9128dd0c595520087f14944c33f6bcce2e5f69d1a52a5a79e3142532f7"), looks := true }, kinds := [], alts := [], laidByText := true, laidKinds := [.data, .data, .data, .data, .sentinel, .sentinel, .listed, .data, .data, .data, .pinned], laidTests := true, laidLooks := .later }
def SumsErrorsUptoCardSaid : Prop := Claim7.holds Tryz.pinned (.plain (OpenSpec.upto sumsErrorsSpec)) sumsErrorsUptoCard
end Rows
end Go.Proofs.YtipihkebbdpmbaaGreatDoor
