/-
  DERIVED. GIVEN WITH THE SEED: THE CARDS: each row of YtkmalfincghanaaGreatDoorRows.lean that lists a variable, with what it lists TIED to the program's text (the seventh form; the later family's looks); each row that meets fmt, with fmt's text TOLD by the authors' own Lean function (tested against real Go, not proved from fmt's source: count such statements apart). THE CARD IS WHAT COUNTS. Prove the row's statement (the work); the ties are given (YtkmalfincghanaaGreatDoorTie.lean); close each card by the builder's one call (the guide's Derived/Test/ToyasCard.lean, 'card_holds'). Laid BY PROGRAM, IN A SANDBOX (cutbox-door.mjs). By AI agents, Wed Nov 11 2026. No macro, syntax, notation, axiom, sorry.
-/
import Derived.Test.YtkmalfincghanaaGreatDoorRows
import GoSem.ClaimSeven
namespace Go.Proofs.YtkmalfincghanaaGreatDoor
namespace Rows

/-- THE TIED CARD OF 'guerdonlaw36.AwardForMonth'. -/
def awardForMonthCard : Claim7 := { stood := { row := awardForMonthRow, standIns := [], harness := (true, "165abd5203113ecc799255667b7eef56052f4f9483c7617d59a2d1d9cabf96fc"), looks := true }, kinds := [], alts := [], laidByText := true, laidKinds := [.data], laidTests := true, laidLooks := .later }
def AwardForMonthCardSaid : Prop := Claim7.holds Tryz.pinned (.plain (OpenSpec.ofChange awardForMonthSpec)) awardForMonthCard

/-- THE TIED CARD OF 'guerdonlaw36.AwardOrderFree'. -/
def awardOrderFreeCard : Claim7 := { stood := { row := awardOrderFreeRow, standIns := [], harness := (true, "165abd5203113ecc799255667b7eef56052f4f9483c7617d59a2d1d9cabf96fc"), looks := true }, kinds := [], alts := [], laidByText := true, laidKinds := [.data], laidTests := true, laidLooks := .later }
def AwardOrderFreeCardSaid : Prop := Claim7.holds Tryz.pinned (.plain (OpenSpec.ofChange awardOrderFreeSpec)) awardOrderFreeCard

/-- THE TIED CARD OF 'guerdonlaw36.AwardPieces'. -/
def awardPiecesCard : Claim7 := { stood := { row := awardPiecesRow, standIns := [], harness := (true, "165abd5203113ecc799255667b7eef56052f4f9483c7617d59a2d1d9cabf96fc"), looks := true }, kinds := [], alts := [], laidByText := true, laidKinds := [.data], laidTests := true, laidLooks := .later }
def AwardPiecesCardSaid : Prop := Claim7.holds Tryz.pinned (.plain (OpenSpec.ofChange awardPiecesSpec)) awardPiecesCard

/-- THE TIED CARD OF 'guerdonlaw36.AwardUnchangedMonth'. -/
def awardUnchangedMonthCard : Claim7 := { stood := { row := awardUnchangedMonthRow, standIns := [], harness := (true, "165abd5203113ecc799255667b7eef56052f4f9483c7617d59a2d1d9cabf96fc"), looks := true }, kinds := [], alts := [], laidByText := true, laidKinds := [.data], laidTests := true, laidLooks := .later }
def AwardUnchangedMonthCardSaid : Prop := Claim7.holds Tryz.pinned (.plain (OpenSpec.ofChange awardUnchangedMonthSpec)) awardUnchangedMonthCard

/-- THE TIED CARD OF 'guerdonlaw36.AwardBounded'. -/
def awardBoundedCard : Claim7 := { stood := { row := awardBoundedRow, standIns := [], harness := (true, "165abd5203113ecc799255667b7eef56052f4f9483c7617d59a2d1d9cabf96fc"), looks := true }, kinds := [], alts := [], laidByText := true, laidKinds := [.data], laidTests := true, laidLooks := .later }
def AwardBoundedCardSaid : Prop := Claim7.holds Tryz.pinned (.plain (OpenSpec.ofChange awardBoundedSpec)) awardBoundedCard

/-- THE TIED CARD OF 'guerdonlaw36.AwardForMonths'. -/
def awardForMonthsCard : Claim7 := { stood := { row := awardForMonthsRow, standIns := [], harness := (true, "165abd5203113ecc799255667b7eef56052f4f9483c7617d59a2d1d9cabf96fc"), looks := true }, kinds := [], alts := [], laidByText := true, laidKinds := [.data], laidTests := true, laidLooks := .later }
def AwardForMonthsCardSaid : Prop := Claim7.holds Tryz.pinned (.plain (OpenSpec.ofChange awardForMonthsSpec)) awardForMonthsCard

/-- THE SECOND FORM's CARD OF 'guerdonlaw36.AwardForMonth'. -/
def awardForMonthUptoCard : Claim7 := { stood := { row := awardForMonthUptoRow, standIns := [], harness := (true, "165abd5203113ecc799255667b7eef56052f4f9483c7617d59a2d1d9cabf96fc"), looks := true }, kinds := [], alts := [], laidByText := true, laidKinds := [.data], laidTests := true, laidLooks := .later }
def AwardForMonthUptoCardSaid : Prop := Claim7.holds Tryz.pinned (.plain (OpenSpec.upto awardForMonthSpec)) awardForMonthUptoCard

/-- THE SECOND FORM's CARD OF 'guerdonlaw36.AwardOrderFree'. -/
def awardOrderFreeUptoCard : Claim7 := { stood := { row := awardOrderFreeUptoRow, standIns := [], harness := (true, "165abd5203113ecc799255667b7eef56052f4f9483c7617d59a2d1d9cabf96fc"), looks := true }, kinds := [], alts := [], laidByText := true, laidKinds := [.data], laidTests := true, laidLooks := .later }
def AwardOrderFreeUptoCardSaid : Prop := Claim7.holds Tryz.pinned (.plain (OpenSpec.upto awardOrderFreeSpec)) awardOrderFreeUptoCard

/-- THE SECOND FORM's CARD OF 'guerdonlaw36.AwardPieces'. -/
def awardPiecesUptoCard : Claim7 := { stood := { row := awardPiecesUptoRow, standIns := [], harness := (true, "165abd5203113ecc799255667b7eef56052f4f9483c7617d59a2d1d9cabf96fc"), looks := true }, kinds := [], alts := [], laidByText := true, laidKinds := [.data], laidTests := true, laidLooks := .later }
def AwardPiecesUptoCardSaid : Prop := Claim7.holds Tryz.pinned (.plain (OpenSpec.upto awardPiecesSpec)) awardPiecesUptoCard

/-- THE SECOND FORM's CARD OF 'guerdonlaw36.AwardUnchangedMonth'. -/
def awardUnchangedMonthUptoCard : Claim7 := { stood := { row := awardUnchangedMonthUptoRow, standIns := [], harness := (true, "165abd5203113ecc799255667b7eef56052f4f9483c7617d59a2d1d9cabf96fc"), looks := true }, kinds := [], alts := [], laidByText := true, laidKinds := [.data], laidTests := true, laidLooks := .later }
def AwardUnchangedMonthUptoCardSaid : Prop := Claim7.holds Tryz.pinned (.plain (OpenSpec.upto awardUnchangedMonthSpec)) awardUnchangedMonthUptoCard

/-- THE SECOND FORM's CARD OF 'guerdonlaw36.AwardBounded'. -/
def awardBoundedUptoCard : Claim7 := { stood := { row := awardBoundedUptoRow, standIns := [], harness := (true, "165abd5203113ecc799255667b7eef56052f4f9483c7617d59a2d1d9cabf96fc"), looks := true }, kinds := [], alts := [], laidByText := true, laidKinds := [.data], laidTests := true, laidLooks := .later }
def AwardBoundedUptoCardSaid : Prop := Claim7.holds Tryz.pinned (.plain (OpenSpec.upto awardBoundedSpec)) awardBoundedUptoCard

/-- THE SECOND FORM's CARD OF 'guerdonlaw36.AwardForMonths'. -/
def awardForMonthsUptoCard : Claim7 := { stood := { row := awardForMonthsUptoRow, standIns := [], harness := (true, "165abd5203113ecc799255667b7eef56052f4f9483c7617d59a2d1d9cabf96fc"), looks := true }, kinds := [], alts := [], laidByText := true, laidKinds := [.data], laidTests := true, laidLooks := .later }
def AwardForMonthsUptoCardSaid : Prop := Claim7.holds Tryz.pinned (.plain (OpenSpec.upto awardForMonthsSpec)) awardForMonthsUptoCard
end Rows
end Go.Proofs.YtkmalfincghanaaGreatDoor
