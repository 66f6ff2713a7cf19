/-
  NARROWER THAN 'FOR EVERY INPUT', by the rows' own cells (each row's printed sentence says how): CoverageComplete: laid · CoverageWitness: laid · DeadrulesDead: laid · DeadrulesSound: laid · DeadrulesLive: laid.
  DERIVED. THE GIVEN ROWS OF THIS SEAT. 5 by the template 'for every input the law returns true; each argument reads behind the call as it read before'; 0 by the template 'total and deterministic' (their statements: YtjiaejcpmcknnaaGreatDoorTotals.lean).
  GIVEN WITH THE SEED: the statements are not yours to turn. If you find one false, say at which input.
  Laid BY PROGRAM, IN A SANDBOX (cutbox-rows.mjs): the forced cells as the released guide's own fill.sh prints them over the translation 0d2afbbadb352c8f… (all of the seat's roots in one cut). By AI agents, Wed Nov 11 2026. No macro, syntax, notation, axiom, sorry.
-/
import Derived.Test.YtjiaejcpmcknnaaGreatDoorChecked
import GoSem.Claim
import GoSem.ClaimJoined
import GoSem.ClaimMapViews
import Derived.JoinedTies
import Derived.KernelRfl
namespace Go.Proofs.YtjiaejcpmcknnaaGreatDoor
/- THE CELL 'sum', in the pinned program and in every row, IS THE sha256 OF THE DUMP (.gsa) THAT YtjiaejcpmcknnaaGreatDoorProg.lean LOADS. Nothing in Lean hashes anything: it is a label: what it is worth is what the hold of that sum in a sandbox is worth. -/
noncomputable def Tryz.pinned : Pinned := { name := "ytjiaejcpmcknnaagreatdoor", sum := "0d2afbbadb352c8f0ac198e2293e330e4202c1ce763f6c837e686b5b54c19fa8", checked := Tryz.checked }
namespace Rows
def none {H : Type} : Left H := { results := [], args := [] }

/- WHAT THE LISTED PACKAGE-LEVEL VARIABLES READ AS WHEN THE CALL BEGINS. Each datum BY PROGRAM (the guide's laid-datum.mjs) off the statement by which the dump's own 'gosem.cut.vars' lays the variable. In a bare row this is a premise. The card (YtjiaejcpmcknnaaGreatDoorCards.lean) ties it to the program's text. -/
def laid_guerdon_date_monthLengths {H : Type} : DataW H := .agg [.lit (.int .i64 31), .lit (.int .i64 28), .lit (.int .i64 31), .lit (.int .i64 30), .lit (.int .i64 31), .lit (.int .i64 30), .lit (.int .i64 31), .lit (.int .i64 31), .lit (.int .i64 30), .lit (.int .i64 31), .lit (.int .i64 30), .lit (.int .i64 31)]

/-- 'guerdonlaw24.CoverageComplete': WHATEVER THE INPUT: true; the input reads as it did. -/
def coverageCompleteSpec : ChangeSpec := { name := "coverageComplete", fn := fun _ => fun
  | [d1, d2, d3, d4] => { results := [.lit (.bool true)], args := [d1, d2, d3, d4] }
  | _ => none }
def coverageCompleteRow : OpenClaim := { program := "ytjiaejcpmcknnaagreatdoor", sum := "0d2afbbadb352c8f0ac198e2293e330e4202c1ce763f6c837e686b5b54c19fa8", func := "guerdon/guerdonlaw24.CoverageComplete", spec := "coverageComplete", inPlace := ["internal/bytealg.IndexByteString", "internal/bytealg.IndexString"], unfollowed := true, recurses := true, named := ["internal/bytealg.MaxLen", "math/bits.divideError", "math/bits.overflowError", "guerdon/date.monthLengths"], apart := false, laid := [("guerdon/date.monthLengths", laid_guerdon_date_monthLengths)] }
def CoverageCompleteSaid : Prop := coverageCompleteRow.holds Tryz.pinned (OpenSpec.ofChange coverageCompleteSpec)

/-- ITS FALSE NEIGHBOUR: 'it returns false'. Refute it at one input. -/
def coverageCompleteWrong : ChangeSpec := { name := "coverageComplete", fn := fun _ => fun
  | [d1, d2, d3, d4] => { results := [.lit (.bool false)], args := [d1, d2, d3, d4] }
  | _ => none }
def CoverageCompleteWrongFalsely : Prop := coverageCompleteRow.holds Tryz.pinned (OpenSpec.ofChange coverageCompleteWrong)

/-- 'guerdonlaw24.CoverageWitness': WHATEVER THE INPUT: true; the input reads as it did. -/
def coverageWitnessSpec : ChangeSpec := { name := "coverageWitness", fn := fun _ => fun
  | [d1, d2, d3, d4] => { results := [.lit (.bool true)], args := [d1, d2, d3, d4] }
  | _ => none }
def coverageWitnessRow : OpenClaim := { program := "ytjiaejcpmcknnaagreatdoor", sum := "0d2afbbadb352c8f0ac198e2293e330e4202c1ce763f6c837e686b5b54c19fa8", func := "guerdon/guerdonlaw24.CoverageWitness", spec := "coverageWitness", inPlace := ["internal/bytealg.IndexByteString", "internal/bytealg.IndexString"], unfollowed := true, recurses := true, named := ["internal/bytealg.MaxLen", "math/bits.divideError", "math/bits.overflowError", "guerdon/date.monthLengths"], apart := false, laid := [("guerdon/date.monthLengths", laid_guerdon_date_monthLengths)] }
def CoverageWitnessSaid : Prop := coverageWitnessRow.holds Tryz.pinned (OpenSpec.ofChange coverageWitnessSpec)

/-- ITS FALSE NEIGHBOUR: 'it returns false'. Refute it at one input. -/
def coverageWitnessWrong : ChangeSpec := { name := "coverageWitness", fn := fun _ => fun
  | [d1, d2, d3, d4] => { results := [.lit (.bool false)], args := [d1, d2, d3, d4] }
  | _ => none }
def CoverageWitnessWrongFalsely : Prop := coverageWitnessRow.holds Tryz.pinned (OpenSpec.ofChange coverageWitnessWrong)

/-- 'guerdonlaw25.DeadrulesDead': WHATEVER THE INPUT: true; the input reads as it did. -/
def deadrulesDeadSpec : ChangeSpec := { name := "deadrulesDead", fn := fun _ => fun
  | [d1, d2] => { results := [.lit (.bool true)], args := [d1, d2] }
  | _ => none }
def deadrulesDeadRow : OpenClaim := { program := "ytjiaejcpmcknnaagreatdoor", sum := "0d2afbbadb352c8f0ac198e2293e330e4202c1ce763f6c837e686b5b54c19fa8", func := "guerdon/guerdonlaw25.DeadrulesDead", spec := "deadrulesDead", inPlace := ["internal/bytealg.IndexByteString", "internal/bytealg.IndexString"], unfollowed := true, recurses := true, named := ["internal/bytealg.MaxLen", "math/bits.divideError", "math/bits.overflowError", "guerdon/date.monthLengths"], apart := false, laid := [("guerdon/date.monthLengths", laid_guerdon_date_monthLengths)] }
def DeadrulesDeadSaid : Prop := deadrulesDeadRow.holds Tryz.pinned (OpenSpec.ofChange deadrulesDeadSpec)

/-- ITS FALSE NEIGHBOUR: 'it returns false'. Refute it at one input. -/
def deadrulesDeadWrong : ChangeSpec := { name := "deadrulesDead", fn := fun _ => fun
  | [d1, d2] => { results := [.lit (.bool false)], args := [d1, d2] }
  | _ => none }
def DeadrulesDeadWrongFalsely : Prop := deadrulesDeadRow.holds Tryz.pinned (OpenSpec.ofChange deadrulesDeadWrong)

/-- 'guerdonlaw25.DeadrulesSound': WHATEVER THE INPUT: true; the input reads as it did. -/
def deadrulesSoundSpec : ChangeSpec := { name := "deadrulesSound", fn := fun _ => fun
  | [d1, d2, d3] => { results := [.lit (.bool true)], args := [d1, d2, d3] }
  | _ => none }
def deadrulesSoundRow : OpenClaim := { program := "ytjiaejcpmcknnaagreatdoor", sum := "0d2afbbadb352c8f0ac198e2293e330e4202c1ce763f6c837e686b5b54c19fa8", func := "guerdon/guerdonlaw25.DeadrulesSound", spec := "deadrulesSound", inPlace := ["internal/bytealg.IndexByteString", "internal/bytealg.IndexString"], unfollowed := true, recurses := true, named := ["internal/bytealg.MaxLen", "math/bits.divideError", "math/bits.overflowError", "guerdon/date.monthLengths"], apart := false, laid := [("guerdon/date.monthLengths", laid_guerdon_date_monthLengths)] }
def DeadrulesSoundSaid : Prop := deadrulesSoundRow.holds Tryz.pinned (OpenSpec.ofChange deadrulesSoundSpec)

/-- ITS FALSE NEIGHBOUR: 'it returns false'. Refute it at one input. -/
def deadrulesSoundWrong : ChangeSpec := { name := "deadrulesSound", fn := fun _ => fun
  | [d1, d2, d3] => { results := [.lit (.bool false)], args := [d1, d2, d3] }
  | _ => none }
def DeadrulesSoundWrongFalsely : Prop := deadrulesSoundRow.holds Tryz.pinned (OpenSpec.ofChange deadrulesSoundWrong)

/-- 'guerdonlaw25.DeadrulesLive': WHATEVER THE INPUT: true; the input reads as it did. -/
def deadrulesLiveSpec : ChangeSpec := { name := "deadrulesLive", fn := fun _ => fun
  | [d1, d2] => { results := [.lit (.bool true)], args := [d1, d2] }
  | _ => none }
def deadrulesLiveRow : OpenClaim := { program := "ytjiaejcpmcknnaagreatdoor", sum := "0d2afbbadb352c8f0ac198e2293e330e4202c1ce763f6c837e686b5b54c19fa8", func := "guerdon/guerdonlaw25.DeadrulesLive", spec := "deadrulesLive", inPlace := ["internal/bytealg.IndexByteString", "internal/bytealg.IndexString"], unfollowed := true, recurses := true, named := ["internal/bytealg.MaxLen", "math/bits.divideError", "math/bits.overflowError", "guerdon/date.monthLengths"], apart := false, laid := [("guerdon/date.monthLengths", laid_guerdon_date_monthLengths)] }
def DeadrulesLiveSaid : Prop := deadrulesLiveRow.holds Tryz.pinned (OpenSpec.ofChange deadrulesLiveSpec)

/-- ITS FALSE NEIGHBOUR: 'it returns false'. Refute it at one input. -/
def deadrulesLiveWrong : ChangeSpec := { name := "deadrulesLive", fn := fun _ => fun
  | [d1, d2] => { results := [.lit (.bool false)], args := [d1, d2] }
  | _ => none }
def DeadrulesLiveWrongFalsely : Prop := deadrulesLiveRow.holds Tryz.pinned (OpenSpec.ofChange deadrulesLiveWrong)

/- THE SECOND FORM. 'bulk': how many values and letters a reading holds, each counted each time it is reached (what is shared counts as often as it is met; a slice's spare places count too). A statement '..UptoSaid' is the law's where the arguments, and the package variables that the reading takes, are together of bulk at most 1048576: NARROWER than '..Said'. Prove '..Said' where nothing that the law and all that it calls make is longer than what came in: it says more and counts as full. Else prove '..UptoSaid'. A law counts once. -/
mutual
def uptoBulk {H : Type} : DataW H → Nat
  | .lit (.string bytes) => bytes.length + 1
  | .lit _ => 1
  | .nil => 1
  | .ptr d => uptoBulk d + 1
  | .slice elems spare => uptoBulkAll elems + uptoBulkAll spare + 1
  | .agg parts => uptoBulkAll parts + 1
  | .iface _ d => uptoBulk d + 1
  | .map entries => uptoBulkEntries entries + 1
  | .held _ => 1
def uptoBulkAll {H : Type} : List (DataW H) → Nat
  | [] => 0
  | d :: r => uptoBulk d + uptoBulkAll r
def uptoBulkEntries {H : Type} : List (Lit × DataW H) → Nat
  | [] => 0
  | x :: r => uptoBulkEntry x + uptoBulkEntries r
def uptoBulkEntry {H : Type} : Lit × DataW H → Nat
  | (.string bytes, d) => bytes.length + uptoBulk d + 1
  | (_, d) => uptoBulk d + 1
 end
def uptoSmall : (H : Type) → List (DataW H) → Bool := fun _ ds => decide (uptoBulkAll ds ≤ 1048576)
def OpenSpec.upto (s : _root_.Go.ChangeSpec) : _root_.Go.OpenSpec := { _root_.Go.OpenSpec.ofChange s with cond := some uptoSmall }

/-- 'guerdonlaw24.CoverageComplete', WHERE WHAT IT READS IS OF BULK AT MOST 1048576: true; the input reads as it did. -/
def coverageCompleteUptoRow : OpenClaim := { program := "ytjiaejcpmcknnaagreatdoor", sum := "0d2afbbadb352c8f0ac198e2293e330e4202c1ce763f6c837e686b5b54c19fa8", func := "guerdon/guerdonlaw24.CoverageComplete", spec := "coverageComplete", inPlace := ["internal/bytealg.IndexByteString", "internal/bytealg.IndexString"], unfollowed := true, recurses := true, named := ["internal/bytealg.MaxLen", "math/bits.divideError", "math/bits.overflowError", "guerdon/date.monthLengths"], apart := false, laid := [("guerdon/date.monthLengths", laid_guerdon_date_monthLengths)], narrowed := true }
def CoverageCompleteUptoSaid : Prop := coverageCompleteUptoRow.holds Tryz.pinned (OpenSpec.upto coverageCompleteSpec)

/-- 'guerdonlaw24.CoverageWitness', WHERE WHAT IT READS IS OF BULK AT MOST 1048576: true; the input reads as it did. -/
def coverageWitnessUptoRow : OpenClaim := { program := "ytjiaejcpmcknnaagreatdoor", sum := "0d2afbbadb352c8f0ac198e2293e330e4202c1ce763f6c837e686b5b54c19fa8", func := "guerdon/guerdonlaw24.CoverageWitness", spec := "coverageWitness", inPlace := ["internal/bytealg.IndexByteString", "internal/bytealg.IndexString"], unfollowed := true, recurses := true, named := ["internal/bytealg.MaxLen", "math/bits.divideError", "math/bits.overflowError", "guerdon/date.monthLengths"], apart := false, laid := [("guerdon/date.monthLengths", laid_guerdon_date_monthLengths)], narrowed := true }
def CoverageWitnessUptoSaid : Prop := coverageWitnessUptoRow.holds Tryz.pinned (OpenSpec.upto coverageWitnessSpec)

/-- 'guerdonlaw25.DeadrulesDead', WHERE WHAT IT READS IS OF BULK AT MOST 1048576: true; the input reads as it did. -/
def deadrulesDeadUptoRow : OpenClaim := { program := "ytjiaejcpmcknnaagreatdoor", sum := "0d2afbbadb352c8f0ac198e2293e330e4202c1ce763f6c837e686b5b54c19fa8", func := "guerdon/guerdonlaw25.DeadrulesDead", spec := "deadrulesDead", inPlace := ["internal/bytealg.IndexByteString", "internal/bytealg.IndexString"], unfollowed := true, recurses := true, named := ["internal/bytealg.MaxLen", "math/bits.divideError", "math/bits.overflowError", "guerdon/date.monthLengths"], apart := false, laid := [("guerdon/date.monthLengths", laid_guerdon_date_monthLengths)], narrowed := true }
def DeadrulesDeadUptoSaid : Prop := deadrulesDeadUptoRow.holds Tryz.pinned (OpenSpec.upto deadrulesDeadSpec)

/-- 'guerdonlaw25.DeadrulesSound', WHERE WHAT IT READS IS OF BULK AT MOST 1048576: true; the input reads as it did. -/
def deadrulesSoundUptoRow : OpenClaim := { program := "ytjiaejcpmcknnaagreatdoor", sum := "0d2afbbadb352c8f0ac198e2293e330e4202c1ce763f6c837e686b5b54c19fa8", func := "guerdon/guerdonlaw25.DeadrulesSound", spec := "deadrulesSound", inPlace := ["internal/bytealg.IndexByteString", "internal/bytealg.IndexString"], unfollowed := true, recurses := true, named := ["internal/bytealg.MaxLen", "math/bits.divideError", "math/bits.overflowError", "guerdon/date.monthLengths"], apart := false, laid := [("guerdon/date.monthLengths", laid_guerdon_date_monthLengths)], narrowed := true }
def DeadrulesSoundUptoSaid : Prop := deadrulesSoundUptoRow.holds Tryz.pinned (OpenSpec.upto deadrulesSoundSpec)

/-- 'guerdonlaw25.DeadrulesLive', WHERE WHAT IT READS IS OF BULK AT MOST 1048576: true; the input reads as it did. -/
def deadrulesLiveUptoRow : OpenClaim := { program := "ytjiaejcpmcknnaagreatdoor", sum := "0d2afbbadb352c8f0ac198e2293e330e4202c1ce763f6c837e686b5b54c19fa8", func := "guerdon/guerdonlaw25.DeadrulesLive", spec := "deadrulesLive", inPlace := ["internal/bytealg.IndexByteString", "internal/bytealg.IndexString"], unfollowed := true, recurses := true, named := ["internal/bytealg.MaxLen", "math/bits.divideError", "math/bits.overflowError", "guerdon/date.monthLengths"], apart := false, laid := [("guerdon/date.monthLengths", laid_guerdon_date_monthLengths)], narrowed := true }
def DeadrulesLiveUptoSaid : Prop := deadrulesLiveUptoRow.holds Tryz.pinned (OpenSpec.upto deadrulesLiveSpec)

end Rows
end Go.Proofs.YtjiaejcpmcknnaaGreatDoor
