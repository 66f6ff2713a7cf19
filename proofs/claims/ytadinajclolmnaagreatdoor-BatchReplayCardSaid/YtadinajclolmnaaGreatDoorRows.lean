/-
  NARROWER THAN 'FOR EVERY INPUT', by the rows' own cells (each row's printed sentence says how): BatchReplay: laid · BatchCrashSafe: laid · TopExactlyOnce: laid.
  DERIVED. THE GIVEN ROWS OF THIS SEAT. 3 by the template 'for every input the law returns true; each argument reads behind the call as it read before'; 0 by the template 'total and deterministic' (their statements: YtadinajclolmnaaGreatDoorTotals.lean).
  GIVEN WITH THE SEED: the statements are not yours to turn. If you find one false, say at which input.
  Laid BY PROGRAM, IN A SANDBOX (cutbox-rows.mjs): the forced cells as the released guide's own fill.sh prints them over the translation bf25a6b00f118df9… (all of the seat's roots in one cut). By AI agents, Wed Nov 11 2026. No macro, syntax, notation, axiom, sorry.
-/
import Derived.Test.YtadinajclolmnaaGreatDoorChecked
import GoSem.Claim
import GoSem.ClaimJoined
import GoSem.ClaimMapViews
import Derived.JoinedTies
import Derived.KernelRfl
namespace Go.Proofs.YtadinajclolmnaaGreatDoor
/- THE CELL 'sum', in the pinned program and in every row, IS THE sha256 OF THE DUMP (.gsa) THAT YtadinajclolmnaaGreatDoorProg.lean LOADS. Nothing in Lean hashes anything: it is a label: what it is worth is what the hold of that sum in a sandbox is worth. -/
noncomputable def Tryz.pinned : Pinned := { name := "ytadinajclolmnaagreatdoor", sum := "bf25a6b00f118df9ee056318c6d41f59a9eaf07f93089b378f1f98434223d287", checked := Tryz.checked }
namespace Rows
def none {H : Type} : Left H := { results := [], args := [] }

/- WHAT THE LISTED PACKAGE-LEVEL VARIABLES READ AS WHEN THE CALL BEGINS. Each datum BY PROGRAM (the guide's laid-datum.mjs) off the statement by which the dump's own 'gosem.cut.vars' lays the variable. In a bare row this is a premise. The card (YtadinajclolmnaaGreatDoorCards.lean) ties it to the program's text. -/
def laid_guerdon_date_monthLengths {H : Type} : DataW H := .agg [.lit (.int .i64 31), .lit (.int .i64 28), .lit (.int .i64 31), .lit (.int .i64 30), .lit (.int .i64 31), .lit (.int .i64 30), .lit (.int .i64 31), .lit (.int .i64 31), .lit (.int .i64 30), .lit (.int .i64 31), .lit (.int .i64 30), .lit (.int .i64 31)]

/-- 'guerdonlaw49.BatchReplay': WHATEVER THE INPUT: true; the input reads as it did. -/
def batchReplaySpec : ChangeSpec := { name := "batchReplay", fn := fun _ => fun
  | [d1, d2] => { results := [.lit (.bool true)], args := [d1, d2] }
  | _ => none }
def batchReplayRow : OpenClaim := { program := "ytadinajclolmnaagreatdoor", sum := "bf25a6b00f118df9ee056318c6d41f59a9eaf07f93089b378f1f98434223d287", func := "guerdon/guerdonlaw49.BatchReplay", spec := "batchReplay", inPlace := ["internal/bytealg.IndexByteString", "internal/bytealg.IndexString"], unfollowed := true, recurses := true, named := ["guerdon/date.monthLengths", "internal/bytealg.MaxLen", "math/bits.divideError", "math/bits.overflowError"], apart := false, laid := [("guerdon/date.monthLengths", laid_guerdon_date_monthLengths)] }
def BatchReplaySaid : Prop := batchReplayRow.holds Tryz.pinned (OpenSpec.ofChange batchReplaySpec)

/-- ITS FALSE NEIGHBOUR: 'it returns false'. Refute it at one input. -/
def batchReplayWrong : ChangeSpec := { name := "batchReplay", fn := fun _ => fun
  | [d1, d2] => { results := [.lit (.bool false)], args := [d1, d2] }
  | _ => none }
def BatchReplayWrongFalsely : Prop := batchReplayRow.holds Tryz.pinned (OpenSpec.ofChange batchReplayWrong)

/-- 'guerdonlaw49.BatchCrashSafe': WHATEVER THE INPUT: true; the input reads as it did. -/
def batchCrashSafeSpec : ChangeSpec := { name := "batchCrashSafe", fn := fun _ => fun
  | [d1, d2] => { results := [.lit (.bool true)], args := [d1, d2] }
  | _ => none }
def batchCrashSafeRow : OpenClaim := { program := "ytadinajclolmnaagreatdoor", sum := "bf25a6b00f118df9ee056318c6d41f59a9eaf07f93089b378f1f98434223d287", func := "guerdon/guerdonlaw49.BatchCrashSafe", spec := "batchCrashSafe", inPlace := ["internal/bytealg.IndexByteString", "internal/bytealg.IndexString"], unfollowed := true, recurses := true, named := ["guerdon/date.monthLengths", "internal/bytealg.MaxLen", "math/bits.divideError", "math/bits.overflowError"], apart := false, laid := [("guerdon/date.monthLengths", laid_guerdon_date_monthLengths)] }
def BatchCrashSafeSaid : Prop := batchCrashSafeRow.holds Tryz.pinned (OpenSpec.ofChange batchCrashSafeSpec)

/-- ITS FALSE NEIGHBOUR: 'it returns false'. Refute it at one input. -/
def batchCrashSafeWrong : ChangeSpec := { name := "batchCrashSafe", fn := fun _ => fun
  | [d1, d2] => { results := [.lit (.bool false)], args := [d1, d2] }
  | _ => none }
def BatchCrashSafeWrongFalsely : Prop := batchCrashSafeRow.holds Tryz.pinned (OpenSpec.ofChange batchCrashSafeWrong)

/-- 'guerdontop.TopExactlyOnce': WHATEVER THE INPUT: true; the input reads as it did. -/
def topExactlyOnceSpec : ChangeSpec := { name := "topExactlyOnce", fn := fun _ => fun
  | [d1, d2, d3, d4] => { results := [.lit (.bool true)], args := [d1, d2, d3, d4] }
  | _ => none }
def topExactlyOnceRow : OpenClaim := { program := "ytadinajclolmnaagreatdoor", sum := "bf25a6b00f118df9ee056318c6d41f59a9eaf07f93089b378f1f98434223d287", func := "guerdon/guerdontop.TopExactlyOnce", spec := "topExactlyOnce", inPlace := ["internal/bytealg.IndexByteString", "internal/bytealg.IndexString"], unfollowed := true, recurses := true, named := ["internal/bytealg.MaxLen", "guerdon/date.monthLengths", "math/bits.divideError", "math/bits.overflowError"], apart := false, laid := [("guerdon/date.monthLengths", laid_guerdon_date_monthLengths)] }
def TopExactlyOnceSaid : Prop := topExactlyOnceRow.holds Tryz.pinned (OpenSpec.ofChange topExactlyOnceSpec)

/-- ITS FALSE NEIGHBOUR: 'it returns false'. Refute it at one input. -/
def topExactlyOnceWrong : ChangeSpec := { name := "topExactlyOnce", fn := fun _ => fun
  | [d1, d2, d3, d4] => { results := [.lit (.bool false)], args := [d1, d2, d3, d4] }
  | _ => none }
def TopExactlyOnceWrongFalsely : Prop := topExactlyOnceRow.holds Tryz.pinned (OpenSpec.ofChange topExactlyOnceWrong)

/- THE SECOND FORM. 'bulk': how many values and letters a reading holds, each counted each time it is reached (what is shared counts as often as it is met; a slice's spare places count too). A statement '..UptoSaid' is the law's where the arguments, and the package variables that the reading takes, are together of bulk at most 1048576: NARROWER than '..Said'. Prove '..Said' where nothing that the law and all that it calls make is longer than what came in: it says more and counts as full. Else prove '..UptoSaid'. A law counts once. -/
mutual
def uptoBulk {H : Type} : DataW H → Nat
  | .lit (.string bytes) => bytes.length + 1
  | .lit _ => 1
  | .nil => 1
  | .ptr d => uptoBulk d + 1
  | .slice elems spare => uptoBulkAll elems + uptoBulkAll spare + 1
  | .agg parts => uptoBulkAll parts + 1
  | .iface _ d => uptoBulk d + 1
  | .map entries => uptoBulkEntries entries + 1
  | .held _ => 1
def uptoBulkAll {H : Type} : List (DataW H) → Nat
  | [] => 0
  | d :: r => uptoBulk d + uptoBulkAll r
def uptoBulkEntries {H : Type} : List (Lit × DataW H) → Nat
  | [] => 0
  | x :: r => uptoBulkEntry x + uptoBulkEntries r
def uptoBulkEntry {H : Type} : Lit × DataW H → Nat
  | (.string bytes, d) => bytes.length + uptoBulk d + 1
  | (_, d) => uptoBulk d + 1
 end
def uptoSmall : (H : Type) → List (DataW H) → Bool := fun _ ds => decide (uptoBulkAll ds ≤ 1048576)
def OpenSpec.upto (s : _root_.Go.ChangeSpec) : _root_.Go.OpenSpec := { _root_.Go.OpenSpec.ofChange s with cond := some uptoSmall }

/-- 'guerdonlaw49.BatchReplay', WHERE WHAT IT READS IS OF BULK AT MOST 1048576: true; the input reads as it did. -/
def batchReplayUptoRow : OpenClaim := { program := "ytadinajclolmnaagreatdoor", sum := "bf25a6b00f118df9ee056318c6d41f59a9eaf07f93089b378f1f98434223d287", func := "guerdon/guerdonlaw49.BatchReplay", spec := "batchReplay", inPlace := ["internal/bytealg.IndexByteString", "internal/bytealg.IndexString"], unfollowed := true, recurses := true, named := ["guerdon/date.monthLengths", "internal/bytealg.MaxLen", "math/bits.divideError", "math/bits.overflowError"], apart := false, laid := [("guerdon/date.monthLengths", laid_guerdon_date_monthLengths)], narrowed := true }
def BatchReplayUptoSaid : Prop := batchReplayUptoRow.holds Tryz.pinned (OpenSpec.upto batchReplaySpec)

/-- 'guerdonlaw49.BatchCrashSafe', WHERE WHAT IT READS IS OF BULK AT MOST 1048576: true; the input reads as it did. -/
def batchCrashSafeUptoRow : OpenClaim := { program := "ytadinajclolmnaagreatdoor", sum := "bf25a6b00f118df9ee056318c6d41f59a9eaf07f93089b378f1f98434223d287", func := "guerdon/guerdonlaw49.BatchCrashSafe", spec := "batchCrashSafe", inPlace := ["internal/bytealg.IndexByteString", "internal/bytealg.IndexString"], unfollowed := true, recurses := true, named := ["guerdon/date.monthLengths", "internal/bytealg.MaxLen", "math/bits.divideError", "math/bits.overflowError"], apart := false, laid := [("guerdon/date.monthLengths", laid_guerdon_date_monthLengths)], narrowed := true }
def BatchCrashSafeUptoSaid : Prop := batchCrashSafeUptoRow.holds Tryz.pinned (OpenSpec.upto batchCrashSafeSpec)

/-- 'guerdontop.TopExactlyOnce', WHERE WHAT IT READS IS OF BULK AT MOST 1048576: true; the input reads as it did. -/
def topExactlyOnceUptoRow : OpenClaim := { program := "ytadinajclolmnaagreatdoor", sum := "bf25a6b00f118df9ee056318c6d41f59a9eaf07f93089b378f1f98434223d287", func := "guerdon/guerdontop.TopExactlyOnce", spec := "topExactlyOnce", inPlace := ["internal/bytealg.IndexByteString", "internal/bytealg.IndexString"], unfollowed := true, recurses := true, named := ["internal/bytealg.MaxLen", "guerdon/date.monthLengths", "math/bits.divideError", "math/bits.overflowError"], apart := false, laid := [("guerdon/date.monthLengths", laid_guerdon_date_monthLengths)], narrowed := true }
def TopExactlyOnceUptoSaid : Prop := topExactlyOnceUptoRow.holds Tryz.pinned (OpenSpec.upto topExactlyOnceSpec)

end Rows
end Go.Proofs.YtadinajclolmnaaGreatDoor
