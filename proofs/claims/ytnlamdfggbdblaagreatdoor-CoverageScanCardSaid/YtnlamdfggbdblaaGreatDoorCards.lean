/-
  DERIVED. GIVEN WITH THE SEED: THE CARDS: each row of YtnlamdfggbdblaaGreatDoorRows.lean that lists a variable, with what it lists TIED to the program's text (the seventh form; the later family's looks); each row that meets fmt, with fmt's text TOLD by the authors' own Lean function (tested against real Go, not proved from fmt's source: count such statements apart). THE CARD IS WHAT COUNTS. Prove the row's statement (the work); the ties are given (YtnlamdfggbdblaaGreatDoorTie.lean); close each card by the builder's one call (the guide's Derived/Test/ToyasCard.lean, 'card_holds'). Laid BY PROGRAM, IN A SANDBOX (cutbox-door.mjs). By AI agents, Wed Nov 11 2026. No macro, syntax, notation, axiom, sorry.
-/
import Derived.Test.YtnlamdfggbdblaaGreatDoorRows
import GoSem.ClaimSeven
namespace Go.Proofs.YtnlamdfggbdblaaGreatDoor
namespace Rows

/-- THE TIED CARD OF 'guerdonlaw24.CoverageHoles'. -/
def coverageHolesCard : Claim7 := { stood := { row := coverageHolesRow, standIns := [], harness := (true, "dea8d8e09b61ac5dad08fc7c224b1ff9bcac9efa6a0d34f0e24d8f037339a6ff"), looks := false }, kinds := [], alts := [], laidByText := true, laidKinds := [.data], laidTests := true, laidLooks := .later }
def CoverageHolesCardSaid : Prop := Claim7.holds Tryz.pinned (.plain (OpenSpec.ofChange coverageHolesSpec)) coverageHolesCard

/-- THE TIED CARD OF 'guerdonlaw24.CoverageScan'. -/
def coverageScanCard : Claim7 := { stood := { row := coverageScanRow, standIns := [], harness := (true, "dea8d8e09b61ac5dad08fc7c224b1ff9bcac9efa6a0d34f0e24d8f037339a6ff"), looks := false }, kinds := [], alts := [], laidByText := true, laidKinds := [.data], laidTests := true, laidLooks := .later }
def CoverageScanCardSaid : Prop := Claim7.holds Tryz.pinned (.plain (OpenSpec.ofChange coverageScanSpec)) coverageScanCard

/-- THE SECOND FORM's CARD OF 'guerdonlaw24.CoverageHoles'. -/
def coverageHolesUptoCard : Claim7 := { stood := { row := coverageHolesUptoRow, standIns := [], harness := (true, "dea8d8e09b61ac5dad08fc7c224b1ff9bcac9efa6a0d34f0e24d8f037339a6ff"), looks := false }, kinds := [], alts := [], laidByText := true, laidKinds := [.data], laidTests := true, laidLooks := .later }
def CoverageHolesUptoCardSaid : Prop := Claim7.holds Tryz.pinned (.plain (OpenSpec.upto coverageHolesSpec)) coverageHolesUptoCard

/-- THE SECOND FORM's CARD OF 'guerdonlaw24.CoverageScan'. -/
def coverageScanUptoCard : Claim7 := { stood := { row := coverageScanUptoRow, standIns := [], harness := (true, "dea8d8e09b61ac5dad08fc7c224b1ff9bcac9efa6a0d34f0e24d8f037339a6ff"), looks := false }, kinds := [], alts := [], laidByText := true, laidKinds := [.data], laidTests := true, laidLooks := .later }
def CoverageScanUptoCardSaid : Prop := Claim7.holds Tryz.pinned (.plain (OpenSpec.upto coverageScanSpec)) coverageScanUptoCard
end Rows
end Go.Proofs.YtnlamdfggbdblaaGreatDoor
