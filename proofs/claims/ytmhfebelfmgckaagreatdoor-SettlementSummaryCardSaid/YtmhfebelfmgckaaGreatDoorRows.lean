/-
  NARROWER THAN 'FOR EVERY INPUT', by the rows' own cells (each row's printed sentence says how): AwardForMonth: laid · AccountBalances: laid · AccountApply: laid · AccountApplyAll: laid · SettlementSummary: laid.
  DERIVED. THE GIVEN ROWS OF THIS SEAT. 5 by the template 'for every input the law returns true; each argument reads behind the call as it read before'; 0 by the template 'total and deterministic' (their statements: YtmhfebelfmgckaaGreatDoorTotals.lean).
  GIVEN WITH THE SEED: the statements are not yours to turn. If you find one false, say at which input.
  Laid BY PROGRAM, IN A SANDBOX (cutbox-rows.mjs): the forced cells as the released guide's own fill.sh prints them over the translation 479cee6a0a56b47e… (all of the seat's roots in one cut). By AI agents, Wed Nov 11 2026. No macro, syntax, notation, axiom, sorry.
-/
import Derived.Test.YtmhfebelfmgckaaGreatDoorChecked
import GoSem.Claim
import GoSem.ClaimJoined
import GoSem.ClaimMapViews
import Derived.JoinedTies
import Derived.KernelRfl
namespace Go.Proofs.YtmhfebelfmgckaaGreatDoor
/- THE CELL 'sum', in the pinned program and in every row, IS THE sha256 OF THE DUMP (.gsa) THAT YtmhfebelfmgckaaGreatDoorProg.lean LOADS. Nothing in Lean hashes anything: it is a label: what it is worth is what the hold of that sum in a sandbox is worth. -/
noncomputable def Tryz.pinned : Pinned := { name := "ytmhfebelfmgckaagreatdoor", sum := "479cee6a0a56b47ea7a85b8060a1ac8b145812a9b09f1e677c4204080acc78ec", checked := Tryz.checked }
namespace Rows
def none {H : Type} : Left H := { results := [], args := [] }

/- WHAT THE LISTED PACKAGE-LEVEL VARIABLES READ AS WHEN THE CALL BEGINS. Each datum BY PROGRAM (the guide's laid-datum.mjs) off the statement by which the dump's own 'gosem.cut.vars' lays the variable. In a bare row this is a premise. The card (YtmhfebelfmgckaaGreatDoorCards.lean) ties it to the program's text. -/
def laid_guerdon_date_monthLengths {H : Type} : DataW H := .agg [.lit (.int .i64 31), .lit (.int .i64 28), .lit (.int .i64 31), .lit (.int .i64 30), .lit (.int .i64 31), .lit (.int .i64 30), .lit (.int .i64 31), .lit (.int .i64 31), .lit (.int .i64 30), .lit (.int .i64 31), .lit (.int .i64 30), .lit (.int .i64 31)]

/-- 'guerdonlaw36.AwardForMonth': WHATEVER THE INPUT: true; the input reads as it did. -/
def awardForMonthSpec : ChangeSpec := { name := "awardForMonth", fn := fun _ => fun
  | [d1, d2, d3, d4] => { results := [.lit (.bool true)], args := [d1, d2, d3, d4] }
  | _ => none }
def awardForMonthRow : OpenClaim := { program := "ytmhfebelfmgckaagreatdoor", sum := "479cee6a0a56b47ea7a85b8060a1ac8b145812a9b09f1e677c4204080acc78ec", func := "guerdon/guerdonlaw36.AwardForMonth", spec := "awardForMonth", inPlace := ["internal/bytealg.IndexByteString", "internal/bytealg.IndexString"], unfollowed := true, recurses := true, named := ["guerdon/date.monthLengths", "internal/bytealg.MaxLen", "math/bits.divideError", "math/bits.overflowError"], apart := false, laid := [("guerdon/date.monthLengths", laid_guerdon_date_monthLengths)] }
def AwardForMonthSaid : Prop := awardForMonthRow.holds Tryz.pinned (OpenSpec.ofChange awardForMonthSpec)

/-- ITS FALSE NEIGHBOUR: 'it returns false'. Refute it at one input. -/
def awardForMonthWrong : ChangeSpec := { name := "awardForMonth", fn := fun _ => fun
  | [d1, d2, d3, d4] => { results := [.lit (.bool false)], args := [d1, d2, d3, d4] }
  | _ => none }
def AwardForMonthWrongFalsely : Prop := awardForMonthRow.holds Tryz.pinned (OpenSpec.ofChange awardForMonthWrong)

/-- 'guerdonlaw43.AccountBalances': WHATEVER THE INPUT: true; the input reads as it did. -/
def accountBalancesSpec : ChangeSpec := { name := "accountBalances", fn := fun _ => fun
  | [d1, d2, d3, d4] => { results := [.lit (.bool true)], args := [d1, d2, d3, d4] }
  | _ => none }
def accountBalancesRow : OpenClaim := { program := "ytmhfebelfmgckaagreatdoor", sum := "479cee6a0a56b47ea7a85b8060a1ac8b145812a9b09f1e677c4204080acc78ec", func := "guerdon/guerdonlaw43.AccountBalances", spec := "accountBalances", inPlace := ["internal/bytealg.IndexByteString", "internal/bytealg.IndexString"], unfollowed := true, recurses := true, named := ["internal/bytealg.MaxLen", "guerdon/date.monthLengths", "math/bits.divideError", "math/bits.overflowError"], apart := false, laid := [("guerdon/date.monthLengths", laid_guerdon_date_monthLengths)] }
def AccountBalancesSaid : Prop := accountBalancesRow.holds Tryz.pinned (OpenSpec.ofChange accountBalancesSpec)

/-- ITS FALSE NEIGHBOUR: 'it returns false'. Refute it at one input. -/
def accountBalancesWrong : ChangeSpec := { name := "accountBalances", fn := fun _ => fun
  | [d1, d2, d3, d4] => { results := [.lit (.bool false)], args := [d1, d2, d3, d4] }
  | _ => none }
def AccountBalancesWrongFalsely : Prop := accountBalancesRow.holds Tryz.pinned (OpenSpec.ofChange accountBalancesWrong)

/-- 'guerdonlaw43.AccountApply': WHATEVER THE INPUT: true; the input reads as it did. -/
def accountApplySpec : ChangeSpec := { name := "accountApply", fn := fun _ => fun
  | [d1, d2, d3, d4] => { results := [.lit (.bool true)], args := [d1, d2, d3, d4] }
  | _ => none }
def accountApplyRow : OpenClaim := { program := "ytmhfebelfmgckaagreatdoor", sum := "479cee6a0a56b47ea7a85b8060a1ac8b145812a9b09f1e677c4204080acc78ec", func := "guerdon/guerdonlaw43.AccountApply", spec := "accountApply", inPlace := ["internal/bytealg.IndexByteString", "internal/bytealg.IndexString"], unfollowed := true, recurses := true, named := ["internal/bytealg.MaxLen", "guerdon/date.monthLengths", "math/bits.divideError", "math/bits.overflowError"], apart := false, laid := [("guerdon/date.monthLengths", laid_guerdon_date_monthLengths)] }
def AccountApplySaid : Prop := accountApplyRow.holds Tryz.pinned (OpenSpec.ofChange accountApplySpec)

/-- ITS FALSE NEIGHBOUR: 'it returns false'. Refute it at one input. -/
def accountApplyWrong : ChangeSpec := { name := "accountApply", fn := fun _ => fun
  | [d1, d2, d3, d4] => { results := [.lit (.bool false)], args := [d1, d2, d3, d4] }
  | _ => none }
def AccountApplyWrongFalsely : Prop := accountApplyRow.holds Tryz.pinned (OpenSpec.ofChange accountApplyWrong)

/-- 'guerdonlaw43.AccountApplyAll': WHATEVER THE INPUT: true; the input reads as it did. -/
def accountApplyAllSpec : ChangeSpec := { name := "accountApplyAll", fn := fun _ => fun
  | [d1, d2, d3, d4] => { results := [.lit (.bool true)], args := [d1, d2, d3, d4] }
  | _ => none }
def accountApplyAllRow : OpenClaim := { program := "ytmhfebelfmgckaagreatdoor", sum := "479cee6a0a56b47ea7a85b8060a1ac8b145812a9b09f1e677c4204080acc78ec", func := "guerdon/guerdonlaw43.AccountApplyAll", spec := "accountApplyAll", inPlace := ["internal/bytealg.IndexByteString", "internal/bytealg.IndexString"], unfollowed := true, recurses := true, named := ["internal/bytealg.MaxLen", "guerdon/date.monthLengths", "math/bits.divideError", "math/bits.overflowError"], apart := false, laid := [("guerdon/date.monthLengths", laid_guerdon_date_monthLengths)] }
def AccountApplyAllSaid : Prop := accountApplyAllRow.holds Tryz.pinned (OpenSpec.ofChange accountApplyAllSpec)

/-- ITS FALSE NEIGHBOUR: 'it returns false'. Refute it at one input. -/
def accountApplyAllWrong : ChangeSpec := { name := "accountApplyAll", fn := fun _ => fun
  | [d1, d2, d3, d4] => { results := [.lit (.bool false)], args := [d1, d2, d3, d4] }
  | _ => none }
def AccountApplyAllWrongFalsely : Prop := accountApplyAllRow.holds Tryz.pinned (OpenSpec.ofChange accountApplyAllWrong)

/-- 'guerdonlaw44.SettlementSummary': WHATEVER THE INPUT: true; the input reads as it did. -/
def settlementSummarySpec : ChangeSpec := { name := "settlementSummary", fn := fun _ => fun
  | [d1, d2, d3] => { results := [.lit (.bool true)], args := [d1, d2, d3] }
  | _ => none }
def settlementSummaryRow : OpenClaim := { program := "ytmhfebelfmgckaagreatdoor", sum := "479cee6a0a56b47ea7a85b8060a1ac8b145812a9b09f1e677c4204080acc78ec", func := "guerdon/guerdonlaw44.SettlementSummary", spec := "settlementSummary", inPlace := ["internal/bytealg.IndexByteString", "internal/bytealg.IndexString"], unfollowed := true, recurses := true, named := ["internal/bytealg.MaxLen", "guerdon/date.monthLengths", "math/bits.divideError", "math/bits.overflowError"], apart := false, laid := [("guerdon/date.monthLengths", laid_guerdon_date_monthLengths)] }
def SettlementSummarySaid : Prop := settlementSummaryRow.holds Tryz.pinned (OpenSpec.ofChange settlementSummarySpec)

/-- ITS FALSE NEIGHBOUR: 'it returns false'. Refute it at one input. -/
def settlementSummaryWrong : ChangeSpec := { name := "settlementSummary", fn := fun _ => fun
  | [d1, d2, d3] => { results := [.lit (.bool false)], args := [d1, d2, d3] }
  | _ => none }
def SettlementSummaryWrongFalsely : Prop := settlementSummaryRow.holds Tryz.pinned (OpenSpec.ofChange settlementSummaryWrong)

/- THE SECOND FORM. 'bulk': how many values and letters a reading holds, each counted each time it is reached (what is shared counts as often as it is met; a slice's spare places count too). A statement '..UptoSaid' is the law's where the arguments, and the package variables that the reading takes, are together of bulk at most 1048576: NARROWER than '..Said'. Prove '..Said' where nothing that the law and all that it calls make is longer than what came in: it says more and counts as full. Else prove '..UptoSaid'. A law counts once. -/
mutual
def uptoBulk {H : Type} : DataW H → Nat
  | .lit (.string bytes) => bytes.length + 1
  | .lit _ => 1
  | .nil => 1
  | .ptr d => uptoBulk d + 1
  | .slice elems spare => uptoBulkAll elems + uptoBulkAll spare + 1
  | .agg parts => uptoBulkAll parts + 1
  | .iface _ d => uptoBulk d + 1
  | .map entries => uptoBulkEntries entries + 1
  | .held _ => 1
def uptoBulkAll {H : Type} : List (DataW H) → Nat
  | [] => 0
  | d :: r => uptoBulk d + uptoBulkAll r
def uptoBulkEntries {H : Type} : List (Lit × DataW H) → Nat
  | [] => 0
  | x :: r => uptoBulkEntry x + uptoBulkEntries r
def uptoBulkEntry {H : Type} : Lit × DataW H → Nat
  | (.string bytes, d) => bytes.length + uptoBulk d + 1
  | (_, d) => uptoBulk d + 1
 end
def uptoSmall : (H : Type) → List (DataW H) → Bool := fun _ ds => decide (uptoBulkAll ds ≤ 1048576)
def OpenSpec.upto (s : _root_.Go.ChangeSpec) : _root_.Go.OpenSpec := { _root_.Go.OpenSpec.ofChange s with cond := some uptoSmall }

/-- 'guerdonlaw36.AwardForMonth', WHERE WHAT IT READS IS OF BULK AT MOST 1048576: true; the input reads as it did. -/
def awardForMonthUptoRow : OpenClaim := { program := "ytmhfebelfmgckaagreatdoor", sum := "479cee6a0a56b47ea7a85b8060a1ac8b145812a9b09f1e677c4204080acc78ec", func := "guerdon/guerdonlaw36.AwardForMonth", spec := "awardForMonth", inPlace := ["internal/bytealg.IndexByteString", "internal/bytealg.IndexString"], unfollowed := true, recurses := true, named := ["guerdon/date.monthLengths", "internal/bytealg.MaxLen", "math/bits.divideError", "math/bits.overflowError"], apart := false, laid := [("guerdon/date.monthLengths", laid_guerdon_date_monthLengths)], narrowed := true }
def AwardForMonthUptoSaid : Prop := awardForMonthUptoRow.holds Tryz.pinned (OpenSpec.upto awardForMonthSpec)

/-- 'guerdonlaw43.AccountBalances', WHERE WHAT IT READS IS OF BULK AT MOST 1048576: true; the input reads as it did. -/
def accountBalancesUptoRow : OpenClaim := { program := "ytmhfebelfmgckaagreatdoor", sum := "479cee6a0a56b47ea7a85b8060a1ac8b145812a9b09f1e677c4204080acc78ec", func := "guerdon/guerdonlaw43.AccountBalances", spec := "accountBalances", inPlace := ["internal/bytealg.IndexByteString", "internal/bytealg.IndexString"], unfollowed := true, recurses := true, named := ["internal/bytealg.MaxLen", "guerdon/date.monthLengths", "math/bits.divideError", "math/bits.overflowError"], apart := false, laid := [("guerdon/date.monthLengths", laid_guerdon_date_monthLengths)], narrowed := true }
def AccountBalancesUptoSaid : Prop := accountBalancesUptoRow.holds Tryz.pinned (OpenSpec.upto accountBalancesSpec)

/-- 'guerdonlaw43.AccountApply', WHERE WHAT IT READS IS OF BULK AT MOST 1048576: true; the input reads as it did. -/
def accountApplyUptoRow : OpenClaim := { program := "ytmhfebelfmgckaagreatdoor", sum := "479cee6a0a56b47ea7a85b8060a1ac8b145812a9b09f1e677c4204080acc78ec", func := "guerdon/guerdonlaw43.AccountApply", spec := "accountApply", inPlace := ["internal/bytealg.IndexByteString", "internal/bytealg.IndexString"], unfollowed := true, recurses := true, named := ["internal/bytealg.MaxLen", "guerdon/date.monthLengths", "math/bits.divideError", "math/bits.overflowError"], apart := false, laid := [("guerdon/date.monthLengths", laid_guerdon_date_monthLengths)], narrowed := true }
def AccountApplyUptoSaid : Prop := accountApplyUptoRow.holds Tryz.pinned (OpenSpec.upto accountApplySpec)

/-- 'guerdonlaw43.AccountApplyAll', WHERE WHAT IT READS IS OF BULK AT MOST 1048576: true; the input reads as it did. -/
def accountApplyAllUptoRow : OpenClaim := { program := "ytmhfebelfmgckaagreatdoor", sum := "479cee6a0a56b47ea7a85b8060a1ac8b145812a9b09f1e677c4204080acc78ec", func := "guerdon/guerdonlaw43.AccountApplyAll", spec := "accountApplyAll", inPlace := ["internal/bytealg.IndexByteString", "internal/bytealg.IndexString"], unfollowed := true, recurses := true, named := ["internal/bytealg.MaxLen", "guerdon/date.monthLengths", "math/bits.divideError", "math/bits.overflowError"], apart := false, laid := [("guerdon/date.monthLengths", laid_guerdon_date_monthLengths)], narrowed := true }
def AccountApplyAllUptoSaid : Prop := accountApplyAllUptoRow.holds Tryz.pinned (OpenSpec.upto accountApplyAllSpec)

/-- 'guerdonlaw44.SettlementSummary', WHERE WHAT IT READS IS OF BULK AT MOST 1048576: true; the input reads as it did. -/
def settlementSummaryUptoRow : OpenClaim := { program := "ytmhfebelfmgckaagreatdoor", sum := "479cee6a0a56b47ea7a85b8060a1ac8b145812a9b09f1e677c4204080acc78ec", func := "guerdon/guerdonlaw44.SettlementSummary", spec := "settlementSummary", inPlace := ["internal/bytealg.IndexByteString", "internal/bytealg.IndexString"], unfollowed := true, recurses := true, named := ["internal/bytealg.MaxLen", "guerdon/date.monthLengths", "math/bits.divideError", "math/bits.overflowError"], apart := false, laid := [("guerdon/date.monthLengths", laid_guerdon_date_monthLengths)], narrowed := true }
def SettlementSummaryUptoSaid : Prop := settlementSummaryUptoRow.holds Tryz.pinned (OpenSpec.upto settlementSummarySpec)

end Rows
end Go.Proofs.YtmhfebelfmgckaaGreatDoor
