/-
  DERIVED. GIVEN WITH THE SEED: THE CARDS: each row of YtfanhhhgcabpnaaGreatDoorRows.lean that lists a variable, with what it lists TIED to the program's text (the seventh form; the later family's looks); each row that meets fmt, with fmt's text TOLD by the authors' own Lean function (tested against real Go, not proved from fmt's source: count such statements apart). THE CARD IS WHAT COUNTS. Prove the row's statement (the work); the ties are given (YtfanhhhgcabpnaaGreatDoorTie.lean); close each card by the builder's one call (the guide's Derived/Test/ToyasCard.lean, 'card_holds'). Laid BY PROGRAM, IN A SANDBOX (cutbox-door.mjs). By AI agents, Wed Nov 11 2026. No macro, syntax, notation, axiom, sorry.
-/
import Derived.Test.YtfanhhhgcabpnaaGreatDoorRows
import GoSem.ClaimSeven
namespace Go.Proofs.YtfanhhhgcabpnaaGreatDoor
namespace Rows

/-- THE TIED CARD OF 'guerdonlaw36.AwardConfig'. -/
def awardConfigCard : Claim7 := { stood := { row := awardConfigRow, standIns := [], harness := (true, "8a591badecd1c0871b3cd61776fbe5a532627f58497d9584faeb402adc9f2862"), looks := true }, kinds := [], alts := [], laidByText := true, laidKinds := [.data], laidTests := true, laidLooks := .later }
def AwardConfigCardSaid : Prop := Claim7.holds Tryz.pinned (.plain (OpenSpec.ofChange awardConfigSpec)) awardConfigCard

/-- THE TIED CARD OF 'guerdonlaw36.AwardPieces'. -/
def awardPiecesCard : Claim7 := { stood := { row := awardPiecesRow, standIns := [], harness := (true, "8a591badecd1c0871b3cd61776fbe5a532627f58497d9584faeb402adc9f2862"), looks := true }, kinds := [], alts := [], laidByText := true, laidKinds := [.data], laidTests := true, laidLooks := .later }
def AwardPiecesCardSaid : Prop := Claim7.holds Tryz.pinned (.plain (OpenSpec.ofChange awardPiecesSpec)) awardPiecesCard

/-- THE TIED CARD OF 'guerdonlaw43.AccountNew'. -/
def accountNewCard : Claim7 := { stood := { row := accountNewRow, standIns := [], harness := (true, "8a591badecd1c0871b3cd61776fbe5a532627f58497d9584faeb402adc9f2862"), looks := true }, kinds := [], alts := [], laidByText := true, laidKinds := [.data], laidTests := true, laidLooks := .later }
def AccountNewCardSaid : Prop := Claim7.holds Tryz.pinned (.plain (OpenSpec.ofChange accountNewSpec)) accountNewCard

/-- THE TIED CARD OF 'guerdonlaw43.AccountValidate'. -/
def accountValidateCard : Claim7 := { stood := { row := accountValidateRow, standIns := [], harness := (true, "8a591badecd1c0871b3cd61776fbe5a532627f58497d9584faeb402adc9f2862"), looks := true }, kinds := [], alts := [], laidByText := true, laidKinds := [.data], laidTests := true, laidLooks := .later }
def AccountValidateCardSaid : Prop := Claim7.holds Tryz.pinned (.plain (OpenSpec.ofChange accountValidateSpec)) accountValidateCard

/-- THE SECOND FORM's CARD OF 'guerdonlaw36.AwardConfig'. -/
def awardConfigUptoCard : Claim7 := { stood := { row := awardConfigUptoRow, standIns := [], harness := (true, "8a591badecd1c0871b3cd61776fbe5a532627f58497d9584faeb402adc9f2862"), looks := true }, kinds := [], alts := [], laidByText := true, laidKinds := [.data], laidTests := true, laidLooks := .later }
def AwardConfigUptoCardSaid : Prop := Claim7.holds Tryz.pinned (.plain (OpenSpec.upto awardConfigSpec)) awardConfigUptoCard

/-- THE SECOND FORM's CARD OF 'guerdonlaw36.AwardPieces'. -/
def awardPiecesUptoCard : Claim7 := { stood := { row := awardPiecesUptoRow, standIns := [], harness := (true, "8a591badecd1c0871b3cd61776fbe5a532627f58497d9584faeb402adc9f2862"), looks := true }, kinds := [], alts := [], laidByText := true, laidKinds := [.data], laidTests := true, laidLooks := .later }
def AwardPiecesUptoCardSaid : Prop := Claim7.holds Tryz.pinned (.plain (OpenSpec.upto awardPiecesSpec)) awardPiecesUptoCard

/-- THE SECOND FORM's CARD OF 'guerdonlaw43.AccountNew'. -/
def accountNewUptoCard : Claim7 := { stood := { row := accountNewUptoRow, standIns := [], harness := (true, "8a591badecd1c0871b3cd61776fbe5a532627f58497d9584faeb402adc9f2862"), looks := true }, kinds := [], alts := [], laidByText := true, laidKinds := [.data], laidTests := true, laidLooks := .later }
def AccountNewUptoCardSaid : Prop := Claim7.holds Tryz.pinned (.plain (OpenSpec.upto accountNewSpec)) accountNewUptoCard

/-- THE SECOND FORM's CARD OF 'guerdonlaw43.AccountValidate'. -/
def accountValidateUptoCard : Claim7 := { stood := { row := accountValidateUptoRow, standIns := [], harness := (true, "8a591badecd1c0871b3cd61776fbe5a532627f58497d9584faeb402adc9f2862"), looks := true }, kinds := [], alts := [], laidByText := true, laidKinds := [.data], laidTests := true, laidLooks := .later }
def AccountValidateUptoCardSaid : Prop := Claim7.holds Tryz.pinned (.plain (OpenSpec.upto accountValidateSpec)) accountValidateUptoCard
end Rows
end Go.Proofs.YtfanhhhgcabpnaaGreatDoor
