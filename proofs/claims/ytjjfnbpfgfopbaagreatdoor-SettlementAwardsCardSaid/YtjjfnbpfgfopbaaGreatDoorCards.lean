/-
  DERIVED. GIVEN WITH THE SEED: THE CARDS: each row of YtjjfnbpfgfopbaaGreatDoorRows.lean that lists a variable, with what it lists TIED to the program's text (the seventh form; the later family's looks); each row that meets fmt, with fmt's text TOLD by the authors' own Lean function (tested against real Go, not proved from fmt's source: count such statements apart). THE CARD IS WHAT COUNTS. Prove the row's statement (the work); the ties are given (YtjjfnbpfgfopbaaGreatDoorTie.lean); close each card by the builder's one call (the guide's Derived/Test/ToyasCard.lean, 'card_holds'). Laid BY PROGRAM, IN A SANDBOX (cutbox-door.mjs). By AI agents, Wed Nov 11 2026. No macro, syntax, notation, axiom, sorry.
-/
import Derived.Test.YtjjfnbpfgfopbaaGreatDoorRows
import GoSem.ClaimSeven
namespace Go.Proofs.YtjjfnbpfgfopbaaGreatDoor
namespace Rows

/-- THE TIED CARD OF 'guerdonlaw43.AccountInvariant'. -/
def accountInvariantCard : Claim7 := { stood := { row := accountInvariantRow, standIns := [], harness := (true, "2272c043234bce67487576eceedfdcc2bddf265e16017a607bdbe9866b2aebb6"), looks := true }, kinds := [], alts := [], laidByText := true, laidKinds := [.data], laidTests := true, laidLooks := .later }
def AccountInvariantCardSaid : Prop := Claim7.holds Tryz.pinned (.plain (OpenSpec.ofChange accountInvariantSpec)) accountInvariantCard

/-- THE TIED CARD OF 'guerdonlaw43.AccountPayment'. -/
def accountPaymentCard : Claim7 := { stood := { row := accountPaymentRow, standIns := [], harness := (true, "2272c043234bce67487576eceedfdcc2bddf265e16017a607bdbe9866b2aebb6"), looks := true }, kinds := [], alts := [], laidByText := true, laidKinds := [.data], laidTests := true, laidLooks := .later }
def AccountPaymentCardSaid : Prop := Claim7.holds Tryz.pinned (.plain (OpenSpec.ofChange accountPaymentSpec)) accountPaymentCard

/-- THE TIED CARD OF 'guerdonlaw44.SettlementCloses'. -/
def settlementClosesCard : Claim7 := { stood := { row := settlementClosesRow, standIns := [], harness := (true, "2272c043234bce67487576eceedfdcc2bddf265e16017a607bdbe9866b2aebb6"), looks := true }, kinds := [], alts := [], laidByText := true, laidKinds := [.data], laidTests := true, laidLooks := .later }
def SettlementClosesCardSaid : Prop := Claim7.holds Tryz.pinned (.plain (OpenSpec.ofChange settlementClosesSpec)) settlementClosesCard

/-- THE TIED CARD OF 'guerdonlaw44.SettlementAwards'. -/
def settlementAwardsCard : Claim7 := { stood := { row := settlementAwardsRow, standIns := [], harness := (true, "2272c043234bce67487576eceedfdcc2bddf265e16017a607bdbe9866b2aebb6"), looks := true }, kinds := [], alts := [], laidByText := true, laidKinds := [.data], laidTests := true, laidLooks := .later }
def SettlementAwardsCardSaid : Prop := Claim7.holds Tryz.pinned (.plain (OpenSpec.ofChange settlementAwardsSpec)) settlementAwardsCard

/-- THE TIED CARD OF 'guerdonlaw44.SettlementOrderFree'. -/
def settlementOrderFreeCard : Claim7 := { stood := { row := settlementOrderFreeRow, standIns := [], harness := (true, "2272c043234bce67487576eceedfdcc2bddf265e16017a607bdbe9866b2aebb6"), looks := true }, kinds := [], alts := [], laidByText := true, laidKinds := [.data], laidTests := true, laidLooks := .later }
def SettlementOrderFreeCardSaid : Prop := Claim7.holds Tryz.pinned (.plain (OpenSpec.ofChange settlementOrderFreeSpec)) settlementOrderFreeCard

/-- THE SECOND FORM's CARD OF 'guerdonlaw43.AccountInvariant'. -/
def accountInvariantUptoCard : Claim7 := { stood := { row := accountInvariantUptoRow, standIns := [], harness := (true, "2272c043234bce67487576eceedfdcc2bddf265e16017a607bdbe9866b2aebb6"), looks := true }, kinds := [], alts := [], laidByText := true, laidKinds := [.data], laidTests := true, laidLooks := .later }
def AccountInvariantUptoCardSaid : Prop := Claim7.holds Tryz.pinned (.plain (OpenSpec.upto accountInvariantSpec)) accountInvariantUptoCard

/-- THE SECOND FORM's CARD OF 'guerdonlaw43.AccountPayment'. -/
def accountPaymentUptoCard : Claim7 := { stood := { row := accountPaymentUptoRow, standIns := [], harness := (true, "2272c043234bce67487576eceedfdcc2bddf265e16017a607bdbe9866b2aebb6"), looks := true }, kinds := [], alts := [], laidByText := true, laidKinds := [.data], laidTests := true, laidLooks := .later }
def AccountPaymentUptoCardSaid : Prop := Claim7.holds Tryz.pinned (.plain (OpenSpec.upto accountPaymentSpec)) accountPaymentUptoCard

/-- THE SECOND FORM's CARD OF 'guerdonlaw44.SettlementCloses'. -/
def settlementClosesUptoCard : Claim7 := { stood := { row := settlementClosesUptoRow, standIns := [], harness := (true, "2272c043234bce67487576eceedfdcc2bddf265e16017a607bdbe9866b2aebb6"), looks := true }, kinds := [], alts := [], laidByText := true, laidKinds := [.data], laidTests := true, laidLooks := .later }
def SettlementClosesUptoCardSaid : Prop := Claim7.holds Tryz.pinned (.plain (OpenSpec.upto settlementClosesSpec)) settlementClosesUptoCard

/-- THE SECOND FORM's CARD OF 'guerdonlaw44.SettlementAwards'. -/
def settlementAwardsUptoCard : Claim7 := { stood := { row := settlementAwardsUptoRow, standIns := [], harness := (true, "2272c043234bce67487576eceedfdcc2bddf265e16017a607bdbe9866b2aebb6"), looks := true }, kinds := [], alts := [], laidByText := true, laidKinds := [.data], laidTests := true, laidLooks := .later }
def SettlementAwardsUptoCardSaid : Prop := Claim7.holds Tryz.pinned (.plain (OpenSpec.upto settlementAwardsSpec)) settlementAwardsUptoCard

/-- THE SECOND FORM's CARD OF 'guerdonlaw44.SettlementOrderFree'. -/
def settlementOrderFreeUptoCard : Claim7 := { stood := { row := settlementOrderFreeUptoRow, standIns := [], harness := (true, "2272c043234bce67487576eceedfdcc2bddf265e16017a607bdbe9866b2aebb6"), looks := true }, kinds := [], alts := [], laidByText := true, laidKinds := [.data], laidTests := true, laidLooks := .later }
def SettlementOrderFreeUptoCardSaid : Prop := Claim7.holds Tryz.pinned (.plain (OpenSpec.upto settlementOrderFreeSpec)) settlementOrderFreeUptoCard
end Rows
end Go.Proofs.YtjjfnbpfgfopbaaGreatDoor
