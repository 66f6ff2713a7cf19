/-
  DERIVED. GIVEN WITH THE SEED: THE CARDS: each row of YtmhfebelfmgckaaGreatDoorRows.lean that lists a variable, with what it lists TIED to the program's text (the seventh form; the later family's looks); each row that meets fmt, with fmt's text TOLD by the authors' own Lean function (tested against real Go, not proved from fmt's source: count such statements apart). THE CARD IS WHAT COUNTS. Prove the row's statement (the work); the ties are given (YtmhfebelfmgckaaGreatDoorTie.lean); close each card by the builder's one call (the guide's Derived/Test/ToyasCard.lean, 'card_holds'). Laid BY PROGRAM, IN A SANDBOX (cutbox-door.mjs). By AI agents, Wed Nov 11 2026. No macro, syntax, notation, axiom, sorry.
-/
import Derived.Test.YtmhfebelfmgckaaGreatDoorRows
import GoSem.ClaimSeven
namespace Go.Proofs.YtmhfebelfmgckaaGreatDoor
namespace Rows

/-- THE TIED CARD OF 'guerdonlaw36.AwardForMonth'. -/
def awardForMonthCard : Claim7 := { stood := { row := awardForMonthRow, standIns := [], harness := (true, "58cd2f0367121f531097aa721f713d23e250f7181b07e3949e0bbdfa7a47c1fa"), looks := true }, kinds := [], alts := [], laidByText := true, laidKinds := [.data], laidTests := true, laidLooks := .later }
def AwardForMonthCardSaid : Prop := Claim7.holds Tryz.pinned (.plain (OpenSpec.ofChange awardForMonthSpec)) awardForMonthCard

/-- THE TIED CARD OF 'guerdonlaw43.AccountBalances'. -/
def accountBalancesCard : Claim7 := { stood := { row := accountBalancesRow, standIns := [], harness := (true, "58cd2f0367121f531097aa721f713d23e250f7181b07e3949e0bbdfa7a47c1fa"), looks := true }, kinds := [], alts := [], laidByText := true, laidKinds := [.data], laidTests := true, laidLooks := .later }
def AccountBalancesCardSaid : Prop := Claim7.holds Tryz.pinned (.plain (OpenSpec.ofChange accountBalancesSpec)) accountBalancesCard

/-- THE TIED CARD OF 'guerdonlaw43.AccountApply'. -/
def accountApplyCard : Claim7 := { stood := { row := accountApplyRow, standIns := [], harness := (true, "58cd2f0367121f531097aa721f713d23e250f7181b07e3949e0bbdfa7a47c1fa"), looks := true }, kinds := [], alts := [], laidByText := true, laidKinds := [.data], laidTests := true, laidLooks := .later }
def AccountApplyCardSaid : Prop := Claim7.holds Tryz.pinned (.plain (OpenSpec.ofChange accountApplySpec)) accountApplyCard

/-- THE TIED CARD OF 'guerdonlaw43.AccountApplyAll'. -/
def accountApplyAllCard : Claim7 := { stood := { row := accountApplyAllRow, standIns := [], harness := (true, "58cd2f0367121f531097aa721f713d23e250f7181b07e3949e0bbdfa7a47c1fa"), looks := true }, kinds := [], alts := [], laidByText := true, laidKinds := [.data], laidTests := true, laidLooks := .later }
def AccountApplyAllCardSaid : Prop := Claim7.holds Tryz.pinned (.plain (OpenSpec.ofChange accountApplyAllSpec)) accountApplyAllCard

/-- THE TIED CARD OF 'guerdonlaw44.SettlementSummary'. -/
def settlementSummaryCard : Claim7 := { stood := { row := settlementSummaryRow, standIns := [], harness := (true, "58cd2f0367121f531097aa721f713d23e250f7181b07e3949e0bbdfa7a47c1fa"), looks := true }, kinds := [], alts := [], laidByText := true, laidKinds := [.data], laidTests := true, laidLooks := .later }
def SettlementSummaryCardSaid : Prop := Claim7.holds Tryz.pinned (.plain (OpenSpec.ofChange settlementSummarySpec)) settlementSummaryCard

/-- THE SECOND FORM's CARD OF 'guerdonlaw36.AwardForMonth'. -/
def awardForMonthUptoCard : Claim7 := { stood := { row := awardForMonthUptoRow, standIns := [], harness := (true, "58cd2f0367121f531097aa721f713d23e250f7181b07e3949e0bbdfa7a47c1fa"), looks := true }, kinds := [], alts := [], laidByText := true, laidKinds := [.data], laidTests := true, laidLooks := .later }
def AwardForMonthUptoCardSaid : Prop := Claim7.holds Tryz.pinned (.plain (OpenSpec.upto awardForMonthSpec)) awardForMonthUptoCard

/-- THE SECOND FORM's CARD OF 'guerdonlaw43.AccountBalances'. -/
def accountBalancesUptoCard : Claim7 := { stood := { row := accountBalancesUptoRow, standIns := [], harness := (true, "58cd2f0367121f531097aa721f713d23e250f7181b07e3949e0bbdfa7a47c1fa"), looks := true }, kinds := [], alts := [], laidByText := true, laidKinds := [.data], laidTests := true, laidLooks := .later }
def AccountBalancesUptoCardSaid : Prop := Claim7.holds Tryz.pinned (.plain (OpenSpec.upto accountBalancesSpec)) accountBalancesUptoCard

/-- THE SECOND FORM's CARD OF 'guerdonlaw43.AccountApply'. -/
def accountApplyUptoCard : Claim7 := { stood := { row := accountApplyUptoRow, standIns := [], harness := (true, "58cd2f0367121f531097aa721f713d23e250f7181b07e3949e0bbdfa7a47c1fa"), looks := true }, kinds := [], alts := [], laidByText := true, laidKinds := [.data], laidTests := true, laidLooks := .later }
def AccountApplyUptoCardSaid : Prop := Claim7.holds Tryz.pinned (.plain (OpenSpec.upto accountApplySpec)) accountApplyUptoCard

/-- THE SECOND FORM's CARD OF 'guerdonlaw43.AccountApplyAll'. -/
def accountApplyAllUptoCard : Claim7 := { stood := { row := accountApplyAllUptoRow, standIns := [], harness := (true, "58cd2f0367121f531097aa721f713d23e250f7181b07e3949e0bbdfa7a47c1fa"), looks := true }, kinds := [], alts := [], laidByText := true, laidKinds := [.data], laidTests := true, laidLooks := .later }
def AccountApplyAllUptoCardSaid : Prop := Claim7.holds Tryz.pinned (.plain (OpenSpec.upto accountApplyAllSpec)) accountApplyAllUptoCard

/-- THE SECOND FORM's CARD OF 'guerdonlaw44.SettlementSummary'. -/
def settlementSummaryUptoCard : Claim7 := { stood := { row := settlementSummaryUptoRow, standIns := [], harness := (true, "58cd2f0367121f531097aa721f713d23e250f7181b07e3949e0bbdfa7a47c1fa"), looks := true }, kinds := [], alts := [], laidByText := true, laidKinds := [.data], laidTests := true, laidLooks := .later }
def SettlementSummaryUptoCardSaid : Prop := Claim7.holds Tryz.pinned (.plain (OpenSpec.upto settlementSummarySpec)) settlementSummaryUptoCard
end Rows
end Go.Proofs.YtmhfebelfmgckaaGreatDoor
