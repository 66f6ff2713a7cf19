/-
  NARROWER THAN 'FOR EVERY INPUT', by the rows' own cells (each row's printed sentence says how): AccountInvariant: laid · AccountPayment: laid · SettlementCloses: laid · SettlementAwards: laid · SettlementOrderFree: laid.
  DERIVED. THE GIVEN ROWS OF THIS SEAT. 5 by the template 'for every input the law returns true; each argument reads behind the call as it read before'; 0 by the template 'total and deterministic' (their statements: YtjjfnbpfgfopbaaGreatDoorTotals.lean).
  GIVEN WITH THE SEED: the statements are not yours to turn. If you find one false, say at which input.
  Laid BY PROGRAM, IN A SANDBOX (cutbox-rows.mjs): the forced cells as the released guide's own fill.sh prints them over the translation f154ca068d669161… (all of the seat's roots in one cut). By AI agents, Wed Nov 11 2026. No macro, syntax, notation, axiom, sorry.
-/
import Derived.Test.YtjjfnbpfgfopbaaGreatDoorChecked
import GoSem.Claim
import GoSem.ClaimJoined
import GoSem.ClaimMapViews
import Derived.JoinedTies
import Derived.KernelRfl
namespace Go.Proofs.YtjjfnbpfgfopbaaGreatDoor
/- THE CELL 'sum', in the pinned program and in every row, IS THE sha256 OF THE DUMP (.gsa) THAT YtjjfnbpfgfopbaaGreatDoorProg.lean LOADS. Nothing in Lean hashes anything: it is a label: what it is worth is what the hold of that sum in a sandbox is worth. -/
noncomputable def Tryz.pinned : Pinned := { name := "ytjjfnbpfgfopbaagreatdoor", sum := "f154ca068d66916179d2095e2f48b5c2a68e6303954452bc6175b7dae2a997e6", checked := Tryz.checked }
namespace Rows
def none {H : Type} : Left H := { results := [], args := [] }

/- WHAT THE LISTED PACKAGE-LEVEL VARIABLES READ AS WHEN THE CALL BEGINS. Each datum BY PROGRAM (the guide's laid-datum.mjs) off the statement by which the dump's own 'gosem.cut.vars' lays the variable. In a bare row this is a premise. The card (YtjjfnbpfgfopbaaGreatDoorCards.lean) ties it to the program's text. -/
def laid_guerdon_date_monthLengths {H : Type} : DataW H := .agg [.lit (.int .i64 31), .lit (.int .i64 28), .lit (.int .i64 31), .lit (.int .i64 30), .lit (.int .i64 31), .lit (.int .i64 30), .lit (.int .i64 31), .lit (.int .i64 31), .lit (.int .i64 30), .lit (.int .i64 31), .lit (.int .i64 30), .lit (.int .i64 31)]

/-- 'guerdonlaw43.AccountInvariant': WHATEVER THE INPUT: true; the input reads as it did. -/
def accountInvariantSpec : ChangeSpec := { name := "accountInvariant", fn := fun _ => fun
  | [d1, d2, d3, d4] => { results := [.lit (.bool true)], args := [d1, d2, d3, d4] }
  | _ => none }
def accountInvariantRow : OpenClaim := { program := "ytjjfnbpfgfopbaagreatdoor", sum := "f154ca068d66916179d2095e2f48b5c2a68e6303954452bc6175b7dae2a997e6", func := "guerdon/guerdonlaw43.AccountInvariant", spec := "accountInvariant", inPlace := ["internal/bytealg.IndexByteString", "internal/bytealg.IndexString"], unfollowed := true, recurses := true, named := ["internal/bytealg.MaxLen", "guerdon/date.monthLengths", "math/bits.divideError", "math/bits.overflowError"], apart := false, laid := [("guerdon/date.monthLengths", laid_guerdon_date_monthLengths)] }
def AccountInvariantSaid : Prop := accountInvariantRow.holds Tryz.pinned (OpenSpec.ofChange accountInvariantSpec)

/-- ITS FALSE NEIGHBOUR: 'it returns false'. Refute it at one input. -/
def accountInvariantWrong : ChangeSpec := { name := "accountInvariant", fn := fun _ => fun
  | [d1, d2, d3, d4] => { results := [.lit (.bool false)], args := [d1, d2, d3, d4] }
  | _ => none }
def AccountInvariantWrongFalsely : Prop := accountInvariantRow.holds Tryz.pinned (OpenSpec.ofChange accountInvariantWrong)

/-- 'guerdonlaw43.AccountPayment': WHATEVER THE INPUT: true; the input reads as it did. -/
def accountPaymentSpec : ChangeSpec := { name := "accountPayment", fn := fun _ => fun
  | [d1, d2, d3, d4] => { results := [.lit (.bool true)], args := [d1, d2, d3, d4] }
  | _ => none }
def accountPaymentRow : OpenClaim := { program := "ytjjfnbpfgfopbaagreatdoor", sum := "f154ca068d66916179d2095e2f48b5c2a68e6303954452bc6175b7dae2a997e6", func := "guerdon/guerdonlaw43.AccountPayment", spec := "accountPayment", inPlace := ["internal/bytealg.IndexByteString", "internal/bytealg.IndexString"], unfollowed := true, recurses := true, named := ["internal/bytealg.MaxLen", "guerdon/date.monthLengths", "math/bits.divideError", "math/bits.overflowError"], apart := false, laid := [("guerdon/date.monthLengths", laid_guerdon_date_monthLengths)] }
def AccountPaymentSaid : Prop := accountPaymentRow.holds Tryz.pinned (OpenSpec.ofChange accountPaymentSpec)

/-- ITS FALSE NEIGHBOUR: 'it returns false'. Refute it at one input. -/
def accountPaymentWrong : ChangeSpec := { name := "accountPayment", fn := fun _ => fun
  | [d1, d2, d3, d4] => { results := [.lit (.bool false)], args := [d1, d2, d3, d4] }
  | _ => none }
def AccountPaymentWrongFalsely : Prop := accountPaymentRow.holds Tryz.pinned (OpenSpec.ofChange accountPaymentWrong)

/-- 'guerdonlaw44.SettlementCloses': WHATEVER THE INPUT: true; the input reads as it did. -/
def settlementClosesSpec : ChangeSpec := { name := "settlementCloses", fn := fun _ => fun
  | [d1, d2, d3, d4] => { results := [.lit (.bool true)], args := [d1, d2, d3, d4] }
  | _ => none }
def settlementClosesRow : OpenClaim := { program := "ytjjfnbpfgfopbaagreatdoor", sum := "f154ca068d66916179d2095e2f48b5c2a68e6303954452bc6175b7dae2a997e6", func := "guerdon/guerdonlaw44.SettlementCloses", spec := "settlementCloses", inPlace := ["internal/bytealg.IndexByteString", "internal/bytealg.IndexString"], unfollowed := true, recurses := true, named := ["internal/bytealg.MaxLen", "guerdon/date.monthLengths", "math/bits.divideError", "math/bits.overflowError"], apart := false, laid := [("guerdon/date.monthLengths", laid_guerdon_date_monthLengths)] }
def SettlementClosesSaid : Prop := settlementClosesRow.holds Tryz.pinned (OpenSpec.ofChange settlementClosesSpec)

/-- ITS FALSE NEIGHBOUR: 'it returns false'. Refute it at one input. -/
def settlementClosesWrong : ChangeSpec := { name := "settlementCloses", fn := fun _ => fun
  | [d1, d2, d3, d4] => { results := [.lit (.bool false)], args := [d1, d2, d3, d4] }
  | _ => none }
def SettlementClosesWrongFalsely : Prop := settlementClosesRow.holds Tryz.pinned (OpenSpec.ofChange settlementClosesWrong)

/-- 'guerdonlaw44.SettlementAwards': WHATEVER THE INPUT: true; the input reads as it did. -/
def settlementAwardsSpec : ChangeSpec := { name := "settlementAwards", fn := fun _ => fun
  | [d1, d2, d3, d4] => { results := [.lit (.bool true)], args := [d1, d2, d3, d4] }
  | _ => none }
def settlementAwardsRow : OpenClaim := { program := "ytjjfnbpfgfopbaagreatdoor", sum := "f154ca068d66916179d2095e2f48b5c2a68e6303954452bc6175b7dae2a997e6", func := "guerdon/guerdonlaw44.SettlementAwards", spec := "settlementAwards", inPlace := ["internal/bytealg.IndexByteString", "internal/bytealg.IndexString"], unfollowed := true, recurses := true, named := ["internal/bytealg.MaxLen", "guerdon/date.monthLengths", "math/bits.divideError", "math/bits.overflowError"], apart := false, laid := [("guerdon/date.monthLengths", laid_guerdon_date_monthLengths)] }
def SettlementAwardsSaid : Prop := settlementAwardsRow.holds Tryz.pinned (OpenSpec.ofChange settlementAwardsSpec)

/-- ITS FALSE NEIGHBOUR: 'it returns false'. Refute it at one input. -/
def settlementAwardsWrong : ChangeSpec := { name := "settlementAwards", fn := fun _ => fun
  | [d1, d2, d3, d4] => { results := [.lit (.bool false)], args := [d1, d2, d3, d4] }
  | _ => none }
def SettlementAwardsWrongFalsely : Prop := settlementAwardsRow.holds Tryz.pinned (OpenSpec.ofChange settlementAwardsWrong)

/-- 'guerdonlaw44.SettlementOrderFree': WHATEVER THE INPUT: true; the input reads as it did. -/
def settlementOrderFreeSpec : ChangeSpec := { name := "settlementOrderFree", fn := fun _ => fun
  | [d1, d2, d3, d4] => { results := [.lit (.bool true)], args := [d1, d2, d3, d4] }
  | _ => none }
def settlementOrderFreeRow : OpenClaim := { program := "ytjjfnbpfgfopbaagreatdoor", sum := "f154ca068d66916179d2095e2f48b5c2a68e6303954452bc6175b7dae2a997e6", func := "guerdon/guerdonlaw44.SettlementOrderFree", spec := "settlementOrderFree", inPlace := ["internal/bytealg.IndexByteString", "internal/bytealg.IndexString"], unfollowed := true, recurses := true, named := ["internal/bytealg.MaxLen", "guerdon/date.monthLengths", "math/bits.divideError", "math/bits.overflowError"], apart := false, laid := [("guerdon/date.monthLengths", laid_guerdon_date_monthLengths)] }
def SettlementOrderFreeSaid : Prop := settlementOrderFreeRow.holds Tryz.pinned (OpenSpec.ofChange settlementOrderFreeSpec)

/-- ITS FALSE NEIGHBOUR: 'it returns false'. Refute it at one input. -/
def settlementOrderFreeWrong : ChangeSpec := { name := "settlementOrderFree", fn := fun _ => fun
  | [d1, d2, d3, d4] => { results := [.lit (.bool false)], args := [d1, d2, d3, d4] }
  | _ => none }
def SettlementOrderFreeWrongFalsely : Prop := settlementOrderFreeRow.holds Tryz.pinned (OpenSpec.ofChange settlementOrderFreeWrong)

/- THE SECOND FORM. 'bulk': how many values and letters a reading holds, each counted each time it is reached (what is shared counts as often as it is met; a slice's spare places count too). A statement '..UptoSaid' is the law's where the arguments, and the package variables that the reading takes, are together of bulk at most 1048576: NARROWER than '..Said'. Prove '..Said' where nothing that the law and all that it calls make is longer than what came in: it says more and counts as full. Else prove '..UptoSaid'. A law counts once. -/
mutual
def uptoBulk {H : Type} : DataW H → Nat
  | .lit (.string bytes) => bytes.length + 1
  | .lit _ => 1
  | .nil => 1
  | .ptr d => uptoBulk d + 1
  | .slice elems spare => uptoBulkAll elems + uptoBulkAll spare + 1
  | .agg parts => uptoBulkAll parts + 1
  | .iface _ d => uptoBulk d + 1
  | .map entries => uptoBulkEntries entries + 1
  | .held _ => 1
def uptoBulkAll {H : Type} : List (DataW H) → Nat
  | [] => 0
  | d :: r => uptoBulk d + uptoBulkAll r
def uptoBulkEntries {H : Type} : List (Lit × DataW H) → Nat
  | [] => 0
  | x :: r => uptoBulkEntry x + uptoBulkEntries r
def uptoBulkEntry {H : Type} : Lit × DataW H → Nat
  | (.string bytes, d) => bytes.length + uptoBulk d + 1
  | (_, d) => uptoBulk d + 1
 end
def uptoSmall : (H : Type) → List (DataW H) → Bool := fun _ ds => decide (uptoBulkAll ds ≤ 1048576)
def OpenSpec.upto (s : _root_.Go.ChangeSpec) : _root_.Go.OpenSpec := { _root_.Go.OpenSpec.ofChange s with cond := some uptoSmall }

/-- 'guerdonlaw43.AccountInvariant', WHERE WHAT IT READS IS OF BULK AT MOST 1048576: true; the input reads as it did. -/
def accountInvariantUptoRow : OpenClaim := { program := "ytjjfnbpfgfopbaagreatdoor", sum := "f154ca068d66916179d2095e2f48b5c2a68e6303954452bc6175b7dae2a997e6", func := "guerdon/guerdonlaw43.AccountInvariant", spec := "accountInvariant", inPlace := ["internal/bytealg.IndexByteString", "internal/bytealg.IndexString"], unfollowed := true, recurses := true, named := ["internal/bytealg.MaxLen", "guerdon/date.monthLengths", "math/bits.divideError", "math/bits.overflowError"], apart := false, laid := [("guerdon/date.monthLengths", laid_guerdon_date_monthLengths)], narrowed := true }
def AccountInvariantUptoSaid : Prop := accountInvariantUptoRow.holds Tryz.pinned (OpenSpec.upto accountInvariantSpec)

/-- 'guerdonlaw43.AccountPayment', WHERE WHAT IT READS IS OF BULK AT MOST 1048576: true; the input reads as it did. -/
def accountPaymentUptoRow : OpenClaim := { program := "ytjjfnbpfgfopbaagreatdoor", sum := "f154ca068d66916179d2095e2f48b5c2a68e6303954452bc6175b7dae2a997e6", func := "guerdon/guerdonlaw43.AccountPayment", spec := "accountPayment", inPlace := ["internal/bytealg.IndexByteString", "internal/bytealg.IndexString"], unfollowed := true, recurses := true, named := ["internal/bytealg.MaxLen", "guerdon/date.monthLengths", "math/bits.divideError", "math/bits.overflowError"], apart := false, laid := [("guerdon/date.monthLengths", laid_guerdon_date_monthLengths)], narrowed := true }
def AccountPaymentUptoSaid : Prop := accountPaymentUptoRow.holds Tryz.pinned (OpenSpec.upto accountPaymentSpec)

/-- 'guerdonlaw44.SettlementCloses', WHERE WHAT IT READS IS OF BULK AT MOST 1048576: true; the input reads as it did. -/
def settlementClosesUptoRow : OpenClaim := { program := "ytjjfnbpfgfopbaagreatdoor", sum := "f154ca068d66916179d2095e2f48b5c2a68e6303954452bc6175b7dae2a997e6", func := "guerdon/guerdonlaw44.SettlementCloses", spec := "settlementCloses", inPlace := ["internal/bytealg.IndexByteString", "internal/bytealg.IndexString"], unfollowed := true, recurses := true, named := ["internal/bytealg.MaxLen", "guerdon/date.monthLengths", "math/bits.divideError", "math/bits.overflowError"], apart := false, laid := [("guerdon/date.monthLengths", laid_guerdon_date_monthLengths)], narrowed := true }
def SettlementClosesUptoSaid : Prop := settlementClosesUptoRow.holds Tryz.pinned (OpenSpec.upto settlementClosesSpec)

/-- 'guerdonlaw44.SettlementAwards', WHERE WHAT IT READS IS OF BULK AT MOST 1048576: true; the input reads as it did. -/
def settlementAwardsUptoRow : OpenClaim := { program := "ytjjfnbpfgfopbaagreatdoor", sum := "f154ca068d66916179d2095e2f48b5c2a68e6303954452bc6175b7dae2a997e6", func := "guerdon/guerdonlaw44.SettlementAwards", spec := "settlementAwards", inPlace := ["internal/bytealg.IndexByteString", "internal/bytealg.IndexString"], unfollowed := true, recurses := true, named := ["internal/bytealg.MaxLen", "guerdon/date.monthLengths", "math/bits.divideError", "math/bits.overflowError"], apart := false, laid := [("guerdon/date.monthLengths", laid_guerdon_date_monthLengths)], narrowed := true }
def SettlementAwardsUptoSaid : Prop := settlementAwardsUptoRow.holds Tryz.pinned (OpenSpec.upto settlementAwardsSpec)

/-- 'guerdonlaw44.SettlementOrderFree', WHERE WHAT IT READS IS OF BULK AT MOST 1048576: true; the input reads as it did. -/
def settlementOrderFreeUptoRow : OpenClaim := { program := "ytjjfnbpfgfopbaagreatdoor", sum := "f154ca068d66916179d2095e2f48b5c2a68e6303954452bc6175b7dae2a997e6", func := "guerdon/guerdonlaw44.SettlementOrderFree", spec := "settlementOrderFree", inPlace := ["internal/bytealg.IndexByteString", "internal/bytealg.IndexString"], unfollowed := true, recurses := true, named := ["internal/bytealg.MaxLen", "guerdon/date.monthLengths", "math/bits.divideError", "math/bits.overflowError"], apart := false, laid := [("guerdon/date.monthLengths", laid_guerdon_date_monthLengths)], narrowed := true }
def SettlementOrderFreeUptoSaid : Prop := settlementOrderFreeUptoRow.holds Tryz.pinned (OpenSpec.upto settlementOrderFreeSpec)

end Rows
end Go.Proofs.YtjjfnbpfgfopbaaGreatDoor
