/-
  NARROWER THAN 'FOR EVERY INPUT', by the rows' own cells (each row's printed sentence says how): AwardForMonth: laid · AwardOrderFree: laid · AwardPieces: laid · AwardUnchangedMonth: laid · AwardBounded: laid · AwardForMonths: laid.
  DERIVED. THE GIVEN ROWS OF THIS SEAT. 6 by the template 'for every input the law returns true; each argument reads behind the call as it read before'; 0 by the template 'total and deterministic' (their statements: YtkmalfincghanaaGreatDoorTotals.lean).
  GIVEN WITH THE SEED: the statements are not yours to turn. If you find one false, say at which input.
  Laid BY PROGRAM, IN A SANDBOX (cutbox-rows.mjs): the forced cells as the released guide's own fill.sh prints them over the translation f39e87fbc49b70a1… (all of the seat's roots in one cut). By AI agents, Wed Nov 11 2026. No macro, syntax, notation, axiom, sorry.
-/
import Derived.Test.YtkmalfincghanaaGreatDoorChecked
import GoSem.Claim
import GoSem.ClaimJoined
import GoSem.ClaimMapViews
import Derived.JoinedTies
import Derived.KernelRfl
namespace Go.Proofs.YtkmalfincghanaaGreatDoor
/- THE CELL 'sum', in the pinned program and in every row, IS THE sha256 OF THE DUMP (.gsa) THAT YtkmalfincghanaaGreatDoorProg.lean LOADS. Nothing in Lean hashes anything: it is a label: what it is worth is what the hold of that sum in a sandbox is worth. -/
noncomputable def Tryz.pinned : Pinned := { name := "ytkmalfincghanaagreatdoor", sum := "f39e87fbc49b70a1ff328407572009d622128cfbbc783ac73979d44d99b71388", checked := Tryz.checked }
namespace Rows
def none {H : Type} : Left H := { results := [], args := [] }

/- WHAT THE LISTED PACKAGE-LEVEL VARIABLES READ AS WHEN THE CALL BEGINS. Each datum BY PROGRAM (the guide's laid-datum.mjs) off the statement by which the dump's own 'gosem.cut.vars' lays the variable. In a bare row this is a premise. The card (YtkmalfincghanaaGreatDoorCards.lean) ties it to the program's text. -/
def laid_guerdon_date_monthLengths {H : Type} : DataW H := .agg [.lit (.int .i64 31), .lit (.int .i64 28), .lit (.int .i64 31), .lit (.int .i64 30), .lit (.int .i64 31), .lit (.int .i64 30), .lit (.int .i64 31), .lit (.int .i64 31), .lit (.int .i64 30), .lit (.int .i64 31), .lit (.int .i64 30), .lit (.int .i64 31)]

/-- 'guerdonlaw36.AwardForMonth': WHATEVER THE INPUT: true; the input reads as it did. -/
def awardForMonthSpec : ChangeSpec := { name := "awardForMonth", fn := fun _ => fun
  | [d1, d2, d3, d4] => { results := [.lit (.bool true)], args := [d1, d2, d3, d4] }
  | _ => none }
def awardForMonthRow : OpenClaim := { program := "ytkmalfincghanaagreatdoor", sum := "f39e87fbc49b70a1ff328407572009d622128cfbbc783ac73979d44d99b71388", func := "guerdon/guerdonlaw36.AwardForMonth", spec := "awardForMonth", inPlace := ["internal/bytealg.IndexByteString", "internal/bytealg.IndexString"], unfollowed := true, recurses := true, named := ["guerdon/date.monthLengths", "internal/bytealg.MaxLen", "math/bits.divideError", "math/bits.overflowError"], apart := false, laid := [("guerdon/date.monthLengths", laid_guerdon_date_monthLengths)] }
def AwardForMonthSaid : Prop := awardForMonthRow.holds Tryz.pinned (OpenSpec.ofChange awardForMonthSpec)

/-- ITS FALSE NEIGHBOUR: 'it returns false'. Refute it at one input. -/
def awardForMonthWrong : ChangeSpec := { name := "awardForMonth", fn := fun _ => fun
  | [d1, d2, d3, d4] => { results := [.lit (.bool false)], args := [d1, d2, d3, d4] }
  | _ => none }
def AwardForMonthWrongFalsely : Prop := awardForMonthRow.holds Tryz.pinned (OpenSpec.ofChange awardForMonthWrong)

/-- 'guerdonlaw36.AwardOrderFree': WHATEVER THE INPUT: true; the input reads as it did. -/
def awardOrderFreeSpec : ChangeSpec := { name := "awardOrderFree", fn := fun _ => fun
  | [d1, d2, d3, d4] => { results := [.lit (.bool true)], args := [d1, d2, d3, d4] }
  | _ => none }
def awardOrderFreeRow : OpenClaim := { program := "ytkmalfincghanaagreatdoor", sum := "f39e87fbc49b70a1ff328407572009d622128cfbbc783ac73979d44d99b71388", func := "guerdon/guerdonlaw36.AwardOrderFree", spec := "awardOrderFree", inPlace := ["internal/bytealg.IndexByteString", "internal/bytealg.IndexString"], unfollowed := true, recurses := true, named := ["guerdon/date.monthLengths", "internal/bytealg.MaxLen", "math/bits.divideError", "math/bits.overflowError"], apart := false, laid := [("guerdon/date.monthLengths", laid_guerdon_date_monthLengths)] }
def AwardOrderFreeSaid : Prop := awardOrderFreeRow.holds Tryz.pinned (OpenSpec.ofChange awardOrderFreeSpec)

/-- ITS FALSE NEIGHBOUR: 'it returns false'. Refute it at one input. -/
def awardOrderFreeWrong : ChangeSpec := { name := "awardOrderFree", fn := fun _ => fun
  | [d1, d2, d3, d4] => { results := [.lit (.bool false)], args := [d1, d2, d3, d4] }
  | _ => none }
def AwardOrderFreeWrongFalsely : Prop := awardOrderFreeRow.holds Tryz.pinned (OpenSpec.ofChange awardOrderFreeWrong)

/-- 'guerdonlaw36.AwardPieces': WHATEVER THE INPUT: true; the input reads as it did. -/
def awardPiecesSpec : ChangeSpec := { name := "awardPieces", fn := fun _ => fun
  | [d1, d2, d3, d4] => { results := [.lit (.bool true)], args := [d1, d2, d3, d4] }
  | _ => none }
def awardPiecesRow : OpenClaim := { program := "ytkmalfincghanaagreatdoor", sum := "f39e87fbc49b70a1ff328407572009d622128cfbbc783ac73979d44d99b71388", func := "guerdon/guerdonlaw36.AwardPieces", spec := "awardPieces", inPlace := ["internal/bytealg.IndexByteString", "internal/bytealg.IndexString"], unfollowed := true, recurses := true, named := ["guerdon/date.monthLengths", "internal/bytealg.MaxLen", "math/bits.divideError", "math/bits.overflowError"], apart := false, laid := [("guerdon/date.monthLengths", laid_guerdon_date_monthLengths)] }
def AwardPiecesSaid : Prop := awardPiecesRow.holds Tryz.pinned (OpenSpec.ofChange awardPiecesSpec)

/-- ITS FALSE NEIGHBOUR: 'it returns false'. Refute it at one input. -/
def awardPiecesWrong : ChangeSpec := { name := "awardPieces", fn := fun _ => fun
  | [d1, d2, d3, d4] => { results := [.lit (.bool false)], args := [d1, d2, d3, d4] }
  | _ => none }
def AwardPiecesWrongFalsely : Prop := awardPiecesRow.holds Tryz.pinned (OpenSpec.ofChange awardPiecesWrong)

/-- 'guerdonlaw36.AwardUnchangedMonth': WHATEVER THE INPUT: true; the input reads as it did. -/
def awardUnchangedMonthSpec : ChangeSpec := { name := "awardUnchangedMonth", fn := fun _ => fun
  | [d1, d2, d3, d4] => { results := [.lit (.bool true)], args := [d1, d2, d3, d4] }
  | _ => none }
def awardUnchangedMonthRow : OpenClaim := { program := "ytkmalfincghanaagreatdoor", sum := "f39e87fbc49b70a1ff328407572009d622128cfbbc783ac73979d44d99b71388", func := "guerdon/guerdonlaw36.AwardUnchangedMonth", spec := "awardUnchangedMonth", inPlace := ["internal/bytealg.IndexByteString", "internal/bytealg.IndexString"], unfollowed := true, recurses := true, named := ["guerdon/date.monthLengths", "internal/bytealg.MaxLen", "math/bits.divideError", "math/bits.overflowError"], apart := false, laid := [("guerdon/date.monthLengths", laid_guerdon_date_monthLengths)] }
def AwardUnchangedMonthSaid : Prop := awardUnchangedMonthRow.holds Tryz.pinned (OpenSpec.ofChange awardUnchangedMonthSpec)

/-- ITS FALSE NEIGHBOUR: 'it returns false'. Refute it at one input. -/
def awardUnchangedMonthWrong : ChangeSpec := { name := "awardUnchangedMonth", fn := fun _ => fun
  | [d1, d2, d3, d4] => { results := [.lit (.bool false)], args := [d1, d2, d3, d4] }
  | _ => none }
def AwardUnchangedMonthWrongFalsely : Prop := awardUnchangedMonthRow.holds Tryz.pinned (OpenSpec.ofChange awardUnchangedMonthWrong)

/-- 'guerdonlaw36.AwardBounded': WHATEVER THE INPUT: true; the input reads as it did. -/
def awardBoundedSpec : ChangeSpec := { name := "awardBounded", fn := fun _ => fun
  | [d1, d2, d3, d4] => { results := [.lit (.bool true)], args := [d1, d2, d3, d4] }
  | _ => none }
def awardBoundedRow : OpenClaim := { program := "ytkmalfincghanaagreatdoor", sum := "f39e87fbc49b70a1ff328407572009d622128cfbbc783ac73979d44d99b71388", func := "guerdon/guerdonlaw36.AwardBounded", spec := "awardBounded", inPlace := ["internal/bytealg.IndexByteString", "internal/bytealg.IndexString"], unfollowed := true, recurses := true, named := ["guerdon/date.monthLengths", "internal/bytealg.MaxLen", "math/bits.divideError", "math/bits.overflowError"], apart := false, laid := [("guerdon/date.monthLengths", laid_guerdon_date_monthLengths)] }
def AwardBoundedSaid : Prop := awardBoundedRow.holds Tryz.pinned (OpenSpec.ofChange awardBoundedSpec)

/-- ITS FALSE NEIGHBOUR: 'it returns false'. Refute it at one input. -/
def awardBoundedWrong : ChangeSpec := { name := "awardBounded", fn := fun _ => fun
  | [d1, d2, d3, d4] => { results := [.lit (.bool false)], args := [d1, d2, d3, d4] }
  | _ => none }
def AwardBoundedWrongFalsely : Prop := awardBoundedRow.holds Tryz.pinned (OpenSpec.ofChange awardBoundedWrong)

/-- 'guerdonlaw36.AwardForMonths': WHATEVER THE INPUT: true; the input reads as it did. -/
def awardForMonthsSpec : ChangeSpec := { name := "awardForMonths", fn := fun _ => fun
  | [d1, d2, d3, d4] => { results := [.lit (.bool true)], args := [d1, d2, d3, d4] }
  | _ => none }
def awardForMonthsRow : OpenClaim := { program := "ytkmalfincghanaagreatdoor", sum := "f39e87fbc49b70a1ff328407572009d622128cfbbc783ac73979d44d99b71388", func := "guerdon/guerdonlaw36.AwardForMonths", spec := "awardForMonths", inPlace := ["internal/bytealg.IndexByteString", "internal/bytealg.IndexString"], unfollowed := true, recurses := true, named := ["guerdon/date.monthLengths", "internal/bytealg.MaxLen", "math/bits.divideError", "math/bits.overflowError"], apart := false, laid := [("guerdon/date.monthLengths", laid_guerdon_date_monthLengths)] }
def AwardForMonthsSaid : Prop := awardForMonthsRow.holds Tryz.pinned (OpenSpec.ofChange awardForMonthsSpec)

/-- ITS FALSE NEIGHBOUR: 'it returns false'. Refute it at one input. -/
def awardForMonthsWrong : ChangeSpec := { name := "awardForMonths", fn := fun _ => fun
  | [d1, d2, d3, d4] => { results := [.lit (.bool false)], args := [d1, d2, d3, d4] }
  | _ => none }
def AwardForMonthsWrongFalsely : Prop := awardForMonthsRow.holds Tryz.pinned (OpenSpec.ofChange awardForMonthsWrong)

/- THE SECOND FORM. 'bulk': how many values and letters a reading holds, each counted each time it is reached (what is shared counts as often as it is met; a slice's spare places count too). A statement '..UptoSaid' is the law's where the arguments, and the package variables that the reading takes, are together of bulk at most 1048576: NARROWER than '..Said'. Prove '..Said' where nothing that the law and all that it calls make is longer than what came in: it says more and counts as full. Else prove '..UptoSaid'. A law counts once. -/
mutual
def uptoBulk {H : Type} : DataW H → Nat
  | .lit (.string bytes) => bytes.length + 1
  | .lit _ => 1
  | .nil => 1
  | .ptr d => uptoBulk d + 1
  | .slice elems spare => uptoBulkAll elems + uptoBulkAll spare + 1
  | .agg parts => uptoBulkAll parts + 1
  | .iface _ d => uptoBulk d + 1
  | .map entries => uptoBulkEntries entries + 1
  | .held _ => 1
def uptoBulkAll {H : Type} : List (DataW H) → Nat
  | [] => 0
  | d :: r => uptoBulk d + uptoBulkAll r
def uptoBulkEntries {H : Type} : List (Lit × DataW H) → Nat
  | [] => 0
  | x :: r => uptoBulkEntry x + uptoBulkEntries r
def uptoBulkEntry {H : Type} : Lit × DataW H → Nat
  | (.string bytes, d) => bytes.length + uptoBulk d + 1
  | (_, d) => uptoBulk d + 1
 end
def uptoSmall : (H : Type) → List (DataW H) → Bool := fun _ ds => decide (uptoBulkAll ds ≤ 1048576)
def OpenSpec.upto (s : _root_.Go.ChangeSpec) : _root_.Go.OpenSpec := { _root_.Go.OpenSpec.ofChange s with cond := some uptoSmall }

/-- 'guerdonlaw36.AwardForMonth', WHERE WHAT IT READS IS OF BULK AT MOST 1048576: true; the input reads as it did. -/
def awardForMonthUptoRow : OpenClaim := { program := "ytkmalfincghanaagreatdoor", sum := "f39e87fbc49b70a1ff328407572009d622128cfbbc783ac73979d44d99b71388", func := "guerdon/guerdonlaw36.AwardForMonth", spec := "awardForMonth", inPlace := ["internal/bytealg.IndexByteString", "internal/bytealg.IndexString"], unfollowed := true, recurses := true, named := ["guerdon/date.monthLengths", "internal/bytealg.MaxLen", "math/bits.divideError", "math/bits.overflowError"], apart := false, laid := [("guerdon/date.monthLengths", laid_guerdon_date_monthLengths)], narrowed := true }
def AwardForMonthUptoSaid : Prop := awardForMonthUptoRow.holds Tryz.pinned (OpenSpec.upto awardForMonthSpec)

/-- 'guerdonlaw36.AwardOrderFree', WHERE WHAT IT READS IS OF BULK AT MOST 1048576: true; the input reads as it did. -/
def awardOrderFreeUptoRow : OpenClaim := { program := "ytkmalfincghanaagreatdoor", sum := "f39e87fbc49b70a1ff328407572009d622128cfbbc783ac73979d44d99b71388", func := "guerdon/guerdonlaw36.AwardOrderFree", spec := "awardOrderFree", inPlace := ["internal/bytealg.IndexByteString", "internal/bytealg.IndexString"], unfollowed := true, recurses := true, named := ["guerdon/date.monthLengths", "internal/bytealg.MaxLen", "math/bits.divideError", "math/bits.overflowError"], apart := false, laid := [("guerdon/date.monthLengths", laid_guerdon_date_monthLengths)], narrowed := true }
def AwardOrderFreeUptoSaid : Prop := awardOrderFreeUptoRow.holds Tryz.pinned (OpenSpec.upto awardOrderFreeSpec)

/-- 'guerdonlaw36.AwardPieces', WHERE WHAT IT READS IS OF BULK AT MOST 1048576: true; the input reads as it did. -/
def awardPiecesUptoRow : OpenClaim := { program := "ytkmalfincghanaagreatdoor", sum := "f39e87fbc49b70a1ff328407572009d622128cfbbc783ac73979d44d99b71388", func := "guerdon/guerdonlaw36.AwardPieces", spec := "awardPieces", inPlace := ["internal/bytealg.IndexByteString", "internal/bytealg.IndexString"], unfollowed := true, recurses := true, named := ["guerdon/date.monthLengths", "internal/bytealg.MaxLen", "math/bits.divideError", "math/bits.overflowError"], apart := false, laid := [("guerdon/date.monthLengths", laid_guerdon_date_monthLengths)], narrowed := true }
def AwardPiecesUptoSaid : Prop := awardPiecesUptoRow.holds Tryz.pinned (OpenSpec.upto awardPiecesSpec)

/-- 'guerdonlaw36.AwardUnchangedMonth', WHERE WHAT IT READS IS OF BULK AT MOST 1048576: true; the input reads as it did. -/
def awardUnchangedMonthUptoRow : OpenClaim := { program := "ytkmalfincghanaagreatdoor", sum := "f39e87fbc49b70a1ff328407572009d622128cfbbc783ac73979d44d99b71388", func := "guerdon/guerdonlaw36.AwardUnchangedMonth", spec := "awardUnchangedMonth", inPlace := ["internal/bytealg.IndexByteString", "internal/bytealg.IndexString"], unfollowed := true, recurses := true, named := ["guerdon/date.monthLengths", "internal/bytealg.MaxLen", "math/bits.divideError", "math/bits.overflowError"], apart := false, laid := [("guerdon/date.monthLengths", laid_guerdon_date_monthLengths)], narrowed := true }
def AwardUnchangedMonthUptoSaid : Prop := awardUnchangedMonthUptoRow.holds Tryz.pinned (OpenSpec.upto awardUnchangedMonthSpec)

/-- 'guerdonlaw36.AwardBounded', WHERE WHAT IT READS IS OF BULK AT MOST 1048576: true; the input reads as it did. -/
def awardBoundedUptoRow : OpenClaim := { program := "ytkmalfincghanaagreatdoor", sum := "f39e87fbc49b70a1ff328407572009d622128cfbbc783ac73979d44d99b71388", func := "guerdon/guerdonlaw36.AwardBounded", spec := "awardBounded", inPlace := ["internal/bytealg.IndexByteString", "internal/bytealg.IndexString"], unfollowed := true, recurses := true, named := ["guerdon/date.monthLengths", "internal/bytealg.MaxLen", "math/bits.divideError", "math/bits.overflowError"], apart := false, laid := [("guerdon/date.monthLengths", laid_guerdon_date_monthLengths)], narrowed := true }
def AwardBoundedUptoSaid : Prop := awardBoundedUptoRow.holds Tryz.pinned (OpenSpec.upto awardBoundedSpec)

/-- 'guerdonlaw36.AwardForMonths', WHERE WHAT IT READS IS OF BULK AT MOST 1048576: true; the input reads as it did. -/
def awardForMonthsUptoRow : OpenClaim := { program := "ytkmalfincghanaagreatdoor", sum := "f39e87fbc49b70a1ff328407572009d622128cfbbc783ac73979d44d99b71388", func := "guerdon/guerdonlaw36.AwardForMonths", spec := "awardForMonths", inPlace := ["internal/bytealg.IndexByteString", "internal/bytealg.IndexString"], unfollowed := true, recurses := true, named := ["guerdon/date.monthLengths", "internal/bytealg.MaxLen", "math/bits.divideError", "math/bits.overflowError"], apart := false, laid := [("guerdon/date.monthLengths", laid_guerdon_date_monthLengths)], narrowed := true }
def AwardForMonthsUptoSaid : Prop := awardForMonthsUptoRow.holds Tryz.pinned (OpenSpec.upto awardForMonthsSpec)

end Rows
end Go.Proofs.YtkmalfincghanaaGreatDoor
