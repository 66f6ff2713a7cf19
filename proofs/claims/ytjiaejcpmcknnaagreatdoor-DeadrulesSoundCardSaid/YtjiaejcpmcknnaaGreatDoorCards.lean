/-
  DERIVED. GIVEN WITH THE SEED: THE CARDS: each row of YtjiaejcpmcknnaaGreatDoorRows.lean that lists a variable, with what it lists TIED to the program's text (the seventh form; the later family's looks); each row that meets fmt, with fmt's text TOLD by the authors' own Lean function (tested against real Go, not proved from fmt's source: count such statements apart). THE CARD IS WHAT COUNTS. Prove the row's statement (the work); the ties are given (YtjiaejcpmcknnaaGreatDoorTie.lean); close each card by the builder's one call (the guide's Derived/Test/ToyasCard.lean, 'card_holds'). Laid BY PROGRAM, IN A SANDBOX (cutbox-door.mjs). By AI agents, Wed Nov 11 2026. No macro, syntax, notation, axiom, sorry.
-/
import Derived.Test.YtjiaejcpmcknnaaGreatDoorRows
import GoSem.ClaimSeven
namespace Go.Proofs.YtjiaejcpmcknnaaGreatDoor
namespace Rows

/-- THE TIED CARD OF 'guerdonlaw24.CoverageComplete'. -/
def coverageCompleteCard : Claim7 := { stood := { row := coverageCompleteRow, standIns := [], harness := (true, "36f08271de5096ace906b491d9cf9fc82c6b26439421a05aa86c4e69e1234fde"), looks := true }, kinds := [], alts := [], laidByText := true, laidKinds := [.data], laidTests := true, laidLooks := .later }
def CoverageCompleteCardSaid : Prop := Claim7.holds Tryz.pinned (.plain (OpenSpec.ofChange coverageCompleteSpec)) coverageCompleteCard

/-- THE TIED CARD OF 'guerdonlaw24.CoverageWitness'. -/
def coverageWitnessCard : Claim7 := { stood := { row := coverageWitnessRow, standIns := [], harness := (true, "36f08271de5096ace906b491d9cf9fc82c6b26439421a05aa86c4e69e1234fde"), looks := true }, kinds := [], alts := [], laidByText := true, laidKinds := [.data], laidTests := true, laidLooks := .later }
def CoverageWitnessCardSaid : Prop := Claim7.holds Tryz.pinned (.plain (OpenSpec.ofChange coverageWitnessSpec)) coverageWitnessCard

/-- THE TIED CARD OF 'guerdonlaw25.DeadrulesDead'. -/
def deadrulesDeadCard : Claim7 := { stood := { row := deadrulesDeadRow, standIns := [], harness := (true, "36f08271de5096ace906b491d9cf9fc82c6b26439421a05aa86c4e69e1234fde"), looks := true }, kinds := [], alts := [], laidByText := true, laidKinds := [.data], laidTests := true, laidLooks := .later }
def DeadrulesDeadCardSaid : Prop := Claim7.holds Tryz.pinned (.plain (OpenSpec.ofChange deadrulesDeadSpec)) deadrulesDeadCard

/-- THE TIED CARD OF 'guerdonlaw25.DeadrulesSound'. -/
def deadrulesSoundCard : Claim7 := { stood := { row := deadrulesSoundRow, standIns := [], harness := (true, "36f08271de5096ace906b491d9cf9fc82c6b26439421a05aa86c4e69e1234fde"), looks := true }, kinds := [], alts := [], laidByText := true, laidKinds := [.data], laidTests := true, laidLooks := .later }
def DeadrulesSoundCardSaid : Prop := Claim7.holds Tryz.pinned (.plain (OpenSpec.ofChange deadrulesSoundSpec)) deadrulesSoundCard

/-- THE TIED CARD OF 'guerdonlaw25.DeadrulesLive'. -/
def deadrulesLiveCard : Claim7 := { stood := { row := deadrulesLiveRow, standIns := [], harness := (true, "36f08271de5096ace906b491d9cf9fc82c6b26439421a05aa86c4e69e1234fde"), looks := true }, kinds := [], alts := [], laidByText := true, laidKinds := [.data], laidTests := true, laidLooks := .later }
def DeadrulesLiveCardSaid : Prop := Claim7.holds Tryz.pinned (.plain (OpenSpec.ofChange deadrulesLiveSpec)) deadrulesLiveCard

/-- THE SECOND FORM's CARD OF 'guerdonlaw24.CoverageComplete'. -/
def coverageCompleteUptoCard : Claim7 := { stood := { row := coverageCompleteUptoRow, standIns := [], harness := (true, "36f08271de5096ace906b491d9cf9fc82c6b26439421a05aa86c4e69e1234fde"), looks := true }, kinds := [], alts := [], laidByText := true, laidKinds := [.data], laidTests := true, laidLooks := .later }
def CoverageCompleteUptoCardSaid : Prop := Claim7.holds Tryz.pinned (.plain (OpenSpec.upto coverageCompleteSpec)) coverageCompleteUptoCard

/-- THE SECOND FORM's CARD OF 'guerdonlaw24.CoverageWitness'. -/
def coverageWitnessUptoCard : Claim7 := { stood := { row := coverageWitnessUptoRow, standIns := [], harness := (true, "36f08271de5096ace906b491d9cf9fc82c6b26439421a05aa86c4e69e1234fde"), looks := true }, kinds := [], alts := [], laidByText := true, laidKinds := [.data], laidTests := true, laidLooks := .later }
def CoverageWitnessUptoCardSaid : Prop := Claim7.holds Tryz.pinned (.plain (OpenSpec.upto coverageWitnessSpec)) coverageWitnessUptoCard

/-- THE SECOND FORM's CARD OF 'guerdonlaw25.DeadrulesDead'. -/
def deadrulesDeadUptoCard : Claim7 := { stood := { row := deadrulesDeadUptoRow, standIns := [], harness := (true, "36f08271de5096ace906b491d9cf9fc82c6b26439421a05aa86c4e69e1234fde"), looks := true }, kinds := [], alts := [], laidByText := true, laidKinds := [.data], laidTests := true, laidLooks := .later }
def DeadrulesDeadUptoCardSaid : Prop := Claim7.holds Tryz.pinned (.plain (OpenSpec.upto deadrulesDeadSpec)) deadrulesDeadUptoCard

/-- THE SECOND FORM's CARD OF 'guerdonlaw25.DeadrulesSound'. -/
def deadrulesSoundUptoCard : Claim7 := { stood := { row := deadrulesSoundUptoRow, standIns := [], harness := (true, "36f08271de5096ace906b491d9cf9fc82c6b26439421a05aa86c4e69e1234fde"), looks := true }, kinds := [], alts := [], laidByText := true, laidKinds := [.data], laidTests := true, laidLooks := .later }
def DeadrulesSoundUptoCardSaid : Prop := Claim7.holds Tryz.pinned (.plain (OpenSpec.upto deadrulesSoundSpec)) deadrulesSoundUptoCard

/-- THE SECOND FORM's CARD OF 'guerdonlaw25.DeadrulesLive'. -/
def deadrulesLiveUptoCard : Claim7 := { stood := { row := deadrulesLiveUptoRow, standIns := [], harness := (true, "36f08271de5096ace906b491d9cf9fc82c6b26439421a05aa86c4e69e1234fde"), looks := true }, kinds := [], alts := [], laidByText := true, laidKinds := [.data], laidTests := true, laidLooks := .later }
def DeadrulesLiveUptoCardSaid : Prop := Claim7.holds Tryz.pinned (.plain (OpenSpec.upto deadrulesLiveSpec)) deadrulesLiveUptoCard
end Rows
end Go.Proofs.YtjiaejcpmcknnaaGreatDoor
