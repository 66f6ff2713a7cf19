/-
  No cell of these rows narrows 'for every input' (looked for: loops, veiled, ifaces, maps, wideKeys, modest, calm, conditions, laid).
  DERIVED. THE GIVEN ROWS OF THIS SEAT. 9 by the template 'for every input the law returns true; each argument reads behind the call as it read before'; 0 by the template 'total and deterministic' (their statements: YtlfhdejlpnljbaaTotals.lean).
  GIVEN WITH THE SEED: the statements are not yours to turn. If you find one false, say at which input.
  Laid BY PROGRAM, IN A SANDBOX (cutbox-rows.mjs): the forced cells as the released guide's own fill.sh prints them over the translation e39d4fc81b5085b5… (all of the seat's roots in one cut). By AI agents, Wed Nov 11 2026. No macro, syntax, notation, axiom, sorry.
-/
import Derived.Test.YtlfhdejlpnljbaaChecked
import GoSem.Claim
import GoSem.ClaimJoined
import GoSem.ClaimMapViews
import Derived.JoinedTies
import Derived.KernelRfl
namespace Go.Proofs.Ytlfhdejlpnljbaa
/- THE CELL 'sum', in the pinned program and in every row, IS THE sha256 OF THE DUMP (.gsa) THAT YtlfhdejlpnljbaaProg.lean LOADS. Nothing in Lean hashes anything: it is a label: what it is worth is what the hold of that sum in a sandbox is worth. -/
noncomputable def Try.pinned : Pinned := { name := "ytlfhdejlpnljbaa", sum := "e39d4fc81b5085b54e29d5912c3793670b947d33d2df944a456cd83f53b8caff", checked := Try.checked }
namespace Rows
def none {H : Type} : Left H := { results := [], args := [] }

/-- 'guerdonlaw39.RecoveryLimit': WHATEVER THE INPUT: true; the input reads as it did. -/
def recoveryLimitSpec : ChangeSpec := { name := "recoveryLimit", fn := fun _ => fun
  | [d1, d2, d3] => { results := [.lit (.bool true)], args := [d1, d2, d3] }
  | _ => none }
def recoveryLimitRow : OpenClaim := { program := "ytlfhdejlpnljbaa", sum := "e39d4fc81b5085b54e29d5912c3793670b947d33d2df944a456cd83f53b8caff", func := "guerdon/guerdonlaw39.RecoveryLimit", spec := "recoveryLimit", named := ["math/bits.divideError", "math/bits.overflowError"], apart := false }
def RecoveryLimitSaid : Prop := recoveryLimitRow.holds Try.pinned (OpenSpec.ofChange recoveryLimitSpec)

/-- ITS FALSE NEIGHBOUR: 'it returns false'. Refute it at one input. -/
def recoveryLimitWrong : ChangeSpec := { name := "recoveryLimit", fn := fun _ => fun
  | [d1, d2, d3] => { results := [.lit (.bool false)], args := [d1, d2, d3] }
  | _ => none }
def RecoveryLimitWrongFalsely : Prop := recoveryLimitRow.holds Try.pinned (OpenSpec.ofChange recoveryLimitWrong)

/-- 'guerdonlaw39.RecoveryPlan': WHATEVER THE INPUT: true; the input reads as it did. -/
def recoveryPlanSpec : ChangeSpec := { name := "recoveryPlan", fn := fun _ => fun
  | [d1, d2, d3, d4] => { results := [.lit (.bool true)], args := [d1, d2, d3, d4] }
  | _ => none }
def recoveryPlanRow : OpenClaim := { program := "ytlfhdejlpnljbaa", sum := "e39d4fc81b5085b54e29d5912c3793670b947d33d2df944a456cd83f53b8caff", func := "guerdon/guerdonlaw39.RecoveryPlan", spec := "recoveryPlan", named := ["math/bits.divideError", "math/bits.overflowError"], apart := false }
def RecoveryPlanSaid : Prop := recoveryPlanRow.holds Try.pinned (OpenSpec.ofChange recoveryPlanSpec)

/-- ITS FALSE NEIGHBOUR: 'it returns false'. Refute it at one input. -/
def recoveryPlanWrong : ChangeSpec := { name := "recoveryPlan", fn := fun _ => fun
  | [d1, d2, d3, d4] => { results := [.lit (.bool false)], args := [d1, d2, d3, d4] }
  | _ => none }
def RecoveryPlanWrongFalsely : Prop := recoveryPlanRow.holds Try.pinned (OpenSpec.ofChange recoveryPlanWrong)

/-- 'guerdonlaw39.RecoveryRepay': WHATEVER THE INPUT: true; the input reads as it did. -/
def recoveryRepaySpec : ChangeSpec := { name := "recoveryRepay", fn := fun _ => fun
  | [d1, d2, d3] => { results := [.lit (.bool true)], args := [d1, d2, d3] }
  | _ => none }
def recoveryRepayRow : OpenClaim := { program := "ytlfhdejlpnljbaa", sum := "e39d4fc81b5085b54e29d5912c3793670b947d33d2df944a456cd83f53b8caff", func := "guerdon/guerdonlaw39.RecoveryRepay", spec := "recoveryRepay", named := ["math/bits.divideError", "math/bits.overflowError"], apart := false }
def RecoveryRepaySaid : Prop := recoveryRepayRow.holds Try.pinned (OpenSpec.ofChange recoveryRepaySpec)

/-- ITS FALSE NEIGHBOUR: 'it returns false'. Refute it at one input. -/
def recoveryRepayWrong : ChangeSpec := { name := "recoveryRepay", fn := fun _ => fun
  | [d1, d2, d3] => { results := [.lit (.bool false)], args := [d1, d2, d3] }
  | _ => none }
def RecoveryRepayWrongFalsely : Prop := recoveryRepayRow.holds Try.pinned (OpenSpec.ofChange recoveryRepayWrong)

/-- 'guerdonlaw39.RecoveryWithinLimit': WHATEVER THE INPUT: true; the input reads as it did. -/
def recoveryWithinLimitSpec : ChangeSpec := { name := "recoveryWithinLimit", fn := fun _ => fun
  | [d1, d2, d3, d4] => { results := [.lit (.bool true)], args := [d1, d2, d3, d4] }
  | _ => none }
def recoveryWithinLimitRow : OpenClaim := { program := "ytlfhdejlpnljbaa", sum := "e39d4fc81b5085b54e29d5912c3793670b947d33d2df944a456cd83f53b8caff", func := "guerdon/guerdonlaw39.RecoveryWithinLimit", spec := "recoveryWithinLimit", named := ["math/bits.divideError", "math/bits.overflowError"], apart := false }
def RecoveryWithinLimitSaid : Prop := recoveryWithinLimitRow.holds Try.pinned (OpenSpec.ofChange recoveryWithinLimitSpec)

/-- ITS FALSE NEIGHBOUR: 'it returns false'. Refute it at one input. -/
def recoveryWithinLimitWrong : ChangeSpec := { name := "recoveryWithinLimit", fn := fun _ => fun
  | [d1, d2, d3, d4] => { results := [.lit (.bool false)], args := [d1, d2, d3, d4] }
  | _ => none }
def RecoveryWithinLimitWrongFalsely : Prop := recoveryWithinLimitRow.holds Try.pinned (OpenSpec.ofChange recoveryWithinLimitWrong)

/-- 'guerdonlaw39.RecoveryComplete': WHATEVER THE INPUT: true; the input reads as it did. -/
def recoveryCompleteSpec : ChangeSpec := { name := "recoveryComplete", fn := fun _ => fun
  | [d1, d2, d3, d4] => { results := [.lit (.bool true)], args := [d1, d2, d3, d4] }
  | _ => none }
def recoveryCompleteRow : OpenClaim := { program := "ytlfhdejlpnljbaa", sum := "e39d4fc81b5085b54e29d5912c3793670b947d33d2df944a456cd83f53b8caff", func := "guerdon/guerdonlaw39.RecoveryComplete", spec := "recoveryComplete", named := ["math/bits.divideError", "math/bits.overflowError"], apart := false }
def RecoveryCompleteSaid : Prop := recoveryCompleteRow.holds Try.pinned (OpenSpec.ofChange recoveryCompleteSpec)

/-- ITS FALSE NEIGHBOUR: 'it returns false'. Refute it at one input. -/
def recoveryCompleteWrong : ChangeSpec := { name := "recoveryComplete", fn := fun _ => fun
  | [d1, d2, d3, d4] => { results := [.lit (.bool false)], args := [d1, d2, d3, d4] }
  | _ => none }
def RecoveryCompleteWrongFalsely : Prop := recoveryCompleteRow.holds Try.pinned (OpenSpec.ofChange recoveryCompleteWrong)

/-- 'guerdonlaw40.PaymentPay': WHATEVER THE INPUT: true; the input reads as it did. -/
def paymentPaySpec : ChangeSpec := { name := "paymentPay", fn := fun _ => fun
  | [d1, d2, d3, d4] => { results := [.lit (.bool true)], args := [d1, d2, d3, d4] }
  | _ => none }
def paymentPayRow : OpenClaim := { program := "ytlfhdejlpnljbaa", sum := "e39d4fc81b5085b54e29d5912c3793670b947d33d2df944a456cd83f53b8caff", func := "guerdon/guerdonlaw40.PaymentPay", spec := "paymentPay", named := ["math/bits.divideError", "math/bits.overflowError"], apart := false }
def PaymentPaySaid : Prop := paymentPayRow.holds Try.pinned (OpenSpec.ofChange paymentPaySpec)

/-- ITS FALSE NEIGHBOUR: 'it returns false'. Refute it at one input. -/
def paymentPayWrong : ChangeSpec := { name := "paymentPay", fn := fun _ => fun
  | [d1, d2, d3, d4] => { results := [.lit (.bool false)], args := [d1, d2, d3, d4] }
  | _ => none }
def PaymentPayWrongFalsely : Prop := paymentPayRow.holds Try.pinned (OpenSpec.ofChange paymentPayWrong)

/-- 'guerdonlaw40.PaymentCash': WHATEVER THE INPUT: true; the input reads as it did. -/
def paymentCashSpec : ChangeSpec := { name := "paymentCash", fn := fun _ => fun
  | [d] => { results := [.lit (.bool true)], args := [d] }
  | _ => none }
def paymentCashRow : OpenClaim := { program := "ytlfhdejlpnljbaa", sum := "e39d4fc81b5085b54e29d5912c3793670b947d33d2df944a456cd83f53b8caff", func := "guerdon/guerdonlaw40.PaymentCash", spec := "paymentCash", named := ["math/bits.divideError", "math/bits.overflowError"], apart := false }
def PaymentCashSaid : Prop := paymentCashRow.holds Try.pinned (OpenSpec.ofChange paymentCashSpec)

/-- ITS FALSE NEIGHBOUR: 'it returns false'. Refute it at one input. -/
def paymentCashWrong : ChangeSpec := { name := "paymentCash", fn := fun _ => fun
  | [d] => { results := [.lit (.bool false)], args := [d] }
  | _ => none }
def PaymentCashWrongFalsely : Prop := paymentCashRow.holds Try.pinned (OpenSpec.ofChange paymentCashWrong)

/-- 'guerdonlaw40.PaymentSchedule': WHATEVER THE INPUT: true; the input reads as it did. -/
def paymentScheduleSpec : ChangeSpec := { name := "paymentSchedule", fn := fun _ => fun
  | [d1, d2, d3] => { results := [.lit (.bool true)], args := [d1, d2, d3] }
  | _ => none }
def paymentScheduleRow : OpenClaim := { program := "ytlfhdejlpnljbaa", sum := "e39d4fc81b5085b54e29d5912c3793670b947d33d2df944a456cd83f53b8caff", func := "guerdon/guerdonlaw40.PaymentSchedule", spec := "paymentSchedule", named := ["math/bits.divideError", "math/bits.overflowError"], apart := false }
def PaymentScheduleSaid : Prop := paymentScheduleRow.holds Try.pinned (OpenSpec.ofChange paymentScheduleSpec)

/-- ITS FALSE NEIGHBOUR: 'it returns false'. Refute it at one input. -/
def paymentScheduleWrong : ChangeSpec := { name := "paymentSchedule", fn := fun _ => fun
  | [d1, d2, d3] => { results := [.lit (.bool false)], args := [d1, d2, d3] }
  | _ => none }
def PaymentScheduleWrongFalsely : Prop := paymentScheduleRow.holds Try.pinned (OpenSpec.ofChange paymentScheduleWrong)

/-- 'guerdonlaw40.PaymentClearsArrears': WHATEVER THE INPUT: true; the input reads as it did. -/
def paymentClearsArrearsSpec : ChangeSpec := { name := "paymentClearsArrears", fn := fun _ => fun
  | [d1, d2, d3, d4] => { results := [.lit (.bool true)], args := [d1, d2, d3, d4] }
  | _ => none }
def paymentClearsArrearsRow : OpenClaim := { program := "ytlfhdejlpnljbaa", sum := "e39d4fc81b5085b54e29d5912c3793670b947d33d2df944a456cd83f53b8caff", func := "guerdon/guerdonlaw40.PaymentClearsArrears", spec := "paymentClearsArrears", named := ["math/bits.divideError", "math/bits.overflowError"], apart := false }
def PaymentClearsArrearsSaid : Prop := paymentClearsArrearsRow.holds Try.pinned (OpenSpec.ofChange paymentClearsArrearsSpec)

/-- ITS FALSE NEIGHBOUR: 'it returns false'. Refute it at one input. -/
def paymentClearsArrearsWrong : ChangeSpec := { name := "paymentClearsArrears", fn := fun _ => fun
  | [d1, d2, d3, d4] => { results := [.lit (.bool false)], args := [d1, d2, d3, d4] }
  | _ => none }
def PaymentClearsArrearsWrongFalsely : Prop := paymentClearsArrearsRow.holds Try.pinned (OpenSpec.ofChange paymentClearsArrearsWrong)

/- THE SECOND FORM. 'bulk': how many values and letters a reading holds, each counted each time it is reached (what is shared counts as often as it is met; a slice's spare places count too). A statement '..UptoSaid' is the law's where the arguments, and the package variables that the reading takes, are together of bulk at most 1048576: NARROWER than '..Said'. Prove '..Said' where nothing that the law and all that it calls make is longer than what came in: it says more and counts as full. Else prove '..UptoSaid'. A law counts once. -/
mutual
def uptoBulk {H : Type} : DataW H → Nat
  | .lit (.string bytes) => bytes.length + 1
  | .lit _ => 1
  | .nil => 1
  | .ptr d => uptoBulk d + 1
  | .slice elems spare => uptoBulkAll elems + uptoBulkAll spare + 1
  | .agg parts => uptoBulkAll parts + 1
  | .iface _ d => uptoBulk d + 1
  | .map entries => uptoBulkEntries entries + 1
  | .held _ => 1
def uptoBulkAll {H : Type} : List (DataW H) → Nat
  | [] => 0
  | d :: r => uptoBulk d + uptoBulkAll r
def uptoBulkEntries {H : Type} : List (Lit × DataW H) → Nat
  | [] => 0
  | x :: r => uptoBulkEntry x + uptoBulkEntries r
def uptoBulkEntry {H : Type} : Lit × DataW H → Nat
  | (.string bytes, d) => bytes.length + uptoBulk d + 1
  | (_, d) => uptoBulk d + 1
 end
def uptoSmall : (H : Type) → List (DataW H) → Bool := fun _ ds => decide (uptoBulkAll ds ≤ 1048576)
def OpenSpec.upto (s : _root_.Go.ChangeSpec) : _root_.Go.OpenSpec := { _root_.Go.OpenSpec.ofChange s with cond := some uptoSmall }

/-- 'guerdonlaw39.RecoveryLimit', WHERE WHAT IT READS IS OF BULK AT MOST 1048576: true; the input reads as it did. -/
def recoveryLimitUptoRow : OpenClaim := { program := "ytlfhdejlpnljbaa", sum := "e39d4fc81b5085b54e29d5912c3793670b947d33d2df944a456cd83f53b8caff", func := "guerdon/guerdonlaw39.RecoveryLimit", spec := "recoveryLimit", named := ["math/bits.divideError", "math/bits.overflowError"], apart := false, narrowed := true }
def RecoveryLimitUptoSaid : Prop := recoveryLimitUptoRow.holds Try.pinned (OpenSpec.upto recoveryLimitSpec)

/-- 'guerdonlaw39.RecoveryPlan', WHERE WHAT IT READS IS OF BULK AT MOST 1048576: true; the input reads as it did. -/
def recoveryPlanUptoRow : OpenClaim := { program := "ytlfhdejlpnljbaa", sum := "e39d4fc81b5085b54e29d5912c3793670b947d33d2df944a456cd83f53b8caff", func := "guerdon/guerdonlaw39.RecoveryPlan", spec := "recoveryPlan", named := ["math/bits.divideError", "math/bits.overflowError"], apart := false, narrowed := true }
def RecoveryPlanUptoSaid : Prop := recoveryPlanUptoRow.holds Try.pinned (OpenSpec.upto recoveryPlanSpec)

/-- 'guerdonlaw39.RecoveryRepay', WHERE WHAT IT READS IS OF BULK AT MOST 1048576: true; the input reads as it did. -/
def recoveryRepayUptoRow : OpenClaim := { program := "ytlfhdejlpnljbaa", sum := "e39d4fc81b5085b54e29d5912c3793670b947d33d2df944a456cd83f53b8caff", func := "guerdon/guerdonlaw39.RecoveryRepay", spec := "recoveryRepay", named := ["math/bits.divideError", "math/bits.overflowError"], apart := false, narrowed := true }
def RecoveryRepayUptoSaid : Prop := recoveryRepayUptoRow.holds Try.pinned (OpenSpec.upto recoveryRepaySpec)

/-- 'guerdonlaw39.RecoveryWithinLimit', WHERE WHAT IT READS IS OF BULK AT MOST 1048576: true; the input reads as it did. -/
def recoveryWithinLimitUptoRow : OpenClaim := { program := "ytlfhdejlpnljbaa", sum := "e39d4fc81b5085b54e29d5912c3793670b947d33d2df944a456cd83f53b8caff", func := "guerdon/guerdonlaw39.RecoveryWithinLimit", spec := "recoveryWithinLimit", named := ["math/bits.divideError", "math/bits.overflowError"], apart := false, narrowed := true }
def RecoveryWithinLimitUptoSaid : Prop := recoveryWithinLimitUptoRow.holds Try.pinned (OpenSpec.upto recoveryWithinLimitSpec)

/-- 'guerdonlaw39.RecoveryComplete', WHERE WHAT IT READS IS OF BULK AT MOST 1048576: true; the input reads as it did. -/
def recoveryCompleteUptoRow : OpenClaim := { program := "ytlfhdejlpnljbaa", sum := "e39d4fc81b5085b54e29d5912c3793670b947d33d2df944a456cd83f53b8caff", func := "guerdon/guerdonlaw39.RecoveryComplete", spec := "recoveryComplete", named := ["math/bits.divideError", "math/bits.overflowError"], apart := false, narrowed := true }
def RecoveryCompleteUptoSaid : Prop := recoveryCompleteUptoRow.holds Try.pinned (OpenSpec.upto recoveryCompleteSpec)

/-- 'guerdonlaw40.PaymentPay', WHERE WHAT IT READS IS OF BULK AT MOST 1048576: true; the input reads as it did. -/
def paymentPayUptoRow : OpenClaim := { program := "ytlfhdejlpnljbaa", sum := "e39d4fc81b5085b54e29d5912c3793670b947d33d2df944a456cd83f53b8caff", func := "guerdon/guerdonlaw40.PaymentPay", spec := "paymentPay", named := ["math/bits.divideError", "math/bits.overflowError"], apart := false, narrowed := true }
def PaymentPayUptoSaid : Prop := paymentPayUptoRow.holds Try.pinned (OpenSpec.upto paymentPaySpec)

/-- 'guerdonlaw40.PaymentCash', WHERE WHAT IT READS IS OF BULK AT MOST 1048576: true; the input reads as it did. -/
def paymentCashUptoRow : OpenClaim := { program := "ytlfhdejlpnljbaa", sum := "e39d4fc81b5085b54e29d5912c3793670b947d33d2df944a456cd83f53b8caff", func := "guerdon/guerdonlaw40.PaymentCash", spec := "paymentCash", named := ["math/bits.divideError", "math/bits.overflowError"], apart := false, narrowed := true }
def PaymentCashUptoSaid : Prop := paymentCashUptoRow.holds Try.pinned (OpenSpec.upto paymentCashSpec)

/-- 'guerdonlaw40.PaymentSchedule', WHERE WHAT IT READS IS OF BULK AT MOST 1048576: true; the input reads as it did. -/
def paymentScheduleUptoRow : OpenClaim := { program := "ytlfhdejlpnljbaa", sum := "e39d4fc81b5085b54e29d5912c3793670b947d33d2df944a456cd83f53b8caff", func := "guerdon/guerdonlaw40.PaymentSchedule", spec := "paymentSchedule", named := ["math/bits.divideError", "math/bits.overflowError"], apart := false, narrowed := true }
def PaymentScheduleUptoSaid : Prop := paymentScheduleUptoRow.holds Try.pinned (OpenSpec.upto paymentScheduleSpec)

/-- 'guerdonlaw40.PaymentClearsArrears', WHERE WHAT IT READS IS OF BULK AT MOST 1048576: true; the input reads as it did. -/
def paymentClearsArrearsUptoRow : OpenClaim := { program := "ytlfhdejlpnljbaa", sum := "e39d4fc81b5085b54e29d5912c3793670b947d33d2df944a456cd83f53b8caff", func := "guerdon/guerdonlaw40.PaymentClearsArrears", spec := "paymentClearsArrears", named := ["math/bits.divideError", "math/bits.overflowError"], apart := false, narrowed := true }
def PaymentClearsArrearsUptoSaid : Prop := paymentClearsArrearsUptoRow.holds Try.pinned (OpenSpec.upto paymentClearsArrearsSpec)

end Rows
end Go.Proofs.Ytlfhdejlpnljbaa
