/-
  DERIVED. GIVEN WITH THE SEED: THE CARDS: each row of YtiiaahokaekaeaaGreatDoorRows.lean that lists a variable, with what it lists TIED to the program's text (the seventh form; the later family's looks); each row that meets fmt, with fmt's text TOLD by the authors' own Lean function (tested against real Go, not proved from fmt's source: count such statements apart). THE CARD IS WHAT COUNTS. Prove the row's statement (the work); the ties are given (YtiiaahokaekaeaaGreatDoorTie.lean); close each card by the builder's one call (the guide's Derived/Test/ToyasCard.lean, 'card_holds'). Laid BY PROGRAM, IN A SANDBOX (cutbox-door.mjs). By AI agents, Wed Nov 11 2026. No macro, syntax, notation, axiom, sorry.
-/
import Derived.Test.YtiiaahokaekaeaaGreatDoorRows
import GoSem.ClaimSeven
namespace Go.Proofs.YtiiaahokaekaeaaGreatDoor
namespace Rows

/-- THE TIED CARD OF 'guerdonlaw24.CoverageGrid'. -/
def coverageGridCard : Claim7 := { stood := { row := coverageGridRow, standIns := [], harness := (true, "b3f25bec39e9bd977b93cb53f0ab1d71660ba3f026cd0bacafe8228d5027f290"), looks := false }, kinds := [], alts := [], laidByText := true, laidKinds := [.data], laidTests := true, laidLooks := .later }
def CoverageGridCardSaid : Prop := Claim7.holds Tryz.pinned (.plain (OpenSpec.ofChange coverageGridSpec)) coverageGridCard

/-- THE TIED CARD OF 'guerdonlaw24.CoverageHoles'. -/
def coverageHolesCard : Claim7 := { stood := { row := coverageHolesRow, standIns := [], harness := (true, "b3f25bec39e9bd977b93cb53f0ab1d71660ba3f026cd0bacafe8228d5027f290"), looks := false }, kinds := [], alts := [], laidByText := true, laidKinds := [.data], laidTests := true, laidLooks := .later }
def CoverageHolesCardSaid : Prop := Claim7.holds Tryz.pinned (.plain (OpenSpec.ofChange coverageHolesSpec)) coverageHolesCard

/-- THE TIED CARD OF 'guerdonlaw25.DeadrulesDead'. -/
def deadrulesDeadCard : Claim7 := { stood := { row := deadrulesDeadRow, standIns := [], harness := (true, "b3f25bec39e9bd977b93cb53f0ab1d71660ba3f026cd0bacafe8228d5027f290"), looks := false }, kinds := [], alts := [], laidByText := true, laidKinds := [.data], laidTests := true, laidLooks := .later }
def DeadrulesDeadCardSaid : Prop := Claim7.holds Tryz.pinned (.plain (OpenSpec.ofChange deadrulesDeadSpec)) deadrulesDeadCard

/-- THE TIED CARD OF 'guerdonlaw24.CoverageScan'. -/
def coverageScanCard : Claim7 := { stood := { row := coverageScanRow, standIns := [], harness := (true, "b3f25bec39e9bd977b93cb53f0ab1d71660ba3f026cd0bacafe8228d5027f290"), looks := false }, kinds := [], alts := [], laidByText := true, laidKinds := [.data], laidTests := true, laidLooks := .later }
def CoverageScanCardSaid : Prop := Claim7.holds Tryz.pinned (.plain (OpenSpec.ofChange coverageScanSpec)) coverageScanCard

/-- THE SECOND FORM's CARD OF 'guerdonlaw24.CoverageGrid'. -/
def coverageGridUptoCard : Claim7 := { stood := { row := coverageGridUptoRow, standIns := [], harness := (true, "b3f25bec39e9bd977b93cb53f0ab1d71660ba3f026cd0bacafe8228d5027f290"), looks := false }, kinds := [], alts := [], laidByText := true, laidKinds := [.data], laidTests := true, laidLooks := .later }
def CoverageGridUptoCardSaid : Prop := Claim7.holds Tryz.pinned (.plain (OpenSpec.upto coverageGridSpec)) coverageGridUptoCard

/-- THE SECOND FORM's CARD OF 'guerdonlaw24.CoverageHoles'. -/
def coverageHolesUptoCard : Claim7 := { stood := { row := coverageHolesUptoRow, standIns := [], harness := (true, "b3f25bec39e9bd977b93cb53f0ab1d71660ba3f026cd0bacafe8228d5027f290"), looks := false }, kinds := [], alts := [], laidByText := true, laidKinds := [.data], laidTests := true, laidLooks := .later }
def CoverageHolesUptoCardSaid : Prop := Claim7.holds Tryz.pinned (.plain (OpenSpec.upto coverageHolesSpec)) coverageHolesUptoCard

/-- THE SECOND FORM's CARD OF 'guerdonlaw25.DeadrulesDead'. -/
def deadrulesDeadUptoCard : Claim7 := { stood := { row := deadrulesDeadUptoRow, standIns := [], harness := (true, "b3f25bec39e9bd977b93cb53f0ab1d71660ba3f026cd0bacafe8228d5027f290"), looks := false }, kinds := [], alts := [], laidByText := true, laidKinds := [.data], laidTests := true, laidLooks := .later }
def DeadrulesDeadUptoCardSaid : Prop := Claim7.holds Tryz.pinned (.plain (OpenSpec.upto deadrulesDeadSpec)) deadrulesDeadUptoCard

/-- THE SECOND FORM's CARD OF 'guerdonlaw24.CoverageScan'. -/
def coverageScanUptoCard : Claim7 := { stood := { row := coverageScanUptoRow, standIns := [], harness := (true, "b3f25bec39e9bd977b93cb53f0ab1d71660ba3f026cd0bacafe8228d5027f290"), looks := false }, kinds := [], alts := [], laidByText := true, laidKinds := [.data], laidTests := true, laidLooks := .later }
def CoverageScanUptoCardSaid : Prop := Claim7.holds Tryz.pinned (.plain (OpenSpec.upto coverageScanSpec)) coverageScanUptoCard
end Rows
end Go.Proofs.YtiiaahokaekaeaaGreatDoor
