/-
  NARROWER THAN 'FOR EVERY INPUT', by the rows' own cells (each row's printed sentence says how): AwardConfig: laid · AwardPieces: laid · AccountNew: laid · AccountValidate: laid.
  DERIVED. THE GIVEN ROWS OF THIS SEAT. 4 by the template 'for every input the law returns true; each argument reads behind the call as it read before'; 0 by the template 'total and deterministic' (their statements: YtfanhhhgcabpnaaGreatDoorTotals.lean).
  GIVEN WITH THE SEED: the statements are not yours to turn. If you find one false, say at which input.
  Laid BY PROGRAM, IN A SANDBOX (cutbox-rows.mjs): the forced cells as the released guide's own fill.sh prints them over the translation 116894ab9407d46f… (all of the seat's roots in one cut). By AI agents, Wed Nov 11 2026. No macro, syntax, notation, axiom, sorry.
-/
import Derived.Test.YtfanhhhgcabpnaaGreatDoorChecked
import GoSem.Claim
import GoSem.ClaimJoined
import GoSem.ClaimMapViews
import Derived.JoinedTies
import Derived.KernelRfl
namespace Go.Proofs.YtfanhhhgcabpnaaGreatDoor
/- THE CELL 'sum', in the pinned program and in every row, IS THE sha256 OF THE DUMP (.gsa) THAT YtfanhhhgcabpnaaGreatDoorProg.lean LOADS. Nothing in Lean hashes anything: it is a label: what it is worth is what the hold of that sum in a sandbox is worth. -/
noncomputable def Tryz.pinned : Pinned := { name := "ytfanhhhgcabpnaagreatdoor", sum := "116894ab9407d46f3b935191e1bc2b3be2a81ce5f51e6a984bbdf1b3b16a792a", checked := Tryz.checked }
namespace Rows
def none {H : Type} : Left H := { results := [], args := [] }

/- WHAT THE LISTED PACKAGE-LEVEL VARIABLES READ AS WHEN THE CALL BEGINS. Each datum BY PROGRAM (the guide's laid-datum.mjs) off the statement by which the dump's own 'gosem.cut.vars' lays the variable. In a bare row this is a premise. The card (YtfanhhhgcabpnaaGreatDoorCards.lean) ties it to the program's text. -/
def laid_guerdon_date_monthLengths {H : Type} : DataW H := .agg [.lit (.int .i64 31), .lit (.int .i64 28), .lit (.int .i64 31), .lit (.int .i64 30), .lit (.int .i64 31), .lit (.int .i64 30), .lit (.int .i64 31), .lit (.int .i64 31), .lit (.int .i64 30), .lit (.int .i64 31), .lit (.int .i64 30), .lit (.int .i64 31)]

/-- 'guerdonlaw36.AwardConfig': WHATEVER THE INPUT: true; the input reads as it did. -/
def awardConfigSpec : ChangeSpec := { name := "awardConfig", fn := fun _ => fun
  | [d1, d2, d3] => { results := [.lit (.bool true)], args := [d1, d2, d3] }
  | _ => none }
def awardConfigRow : OpenClaim := { program := "ytfanhhhgcabpnaagreatdoor", sum := "116894ab9407d46f3b935191e1bc2b3be2a81ce5f51e6a984bbdf1b3b16a792a", func := "guerdon/guerdonlaw36.AwardConfig", spec := "awardConfig", inPlace := ["internal/bytealg.IndexByteString", "internal/bytealg.IndexString"], unfollowed := true, recurses := true, named := ["guerdon/date.monthLengths", "internal/bytealg.MaxLen", "math/bits.divideError", "math/bits.overflowError"], apart := false, laid := [("guerdon/date.monthLengths", laid_guerdon_date_monthLengths)] }
def AwardConfigSaid : Prop := awardConfigRow.holds Tryz.pinned (OpenSpec.ofChange awardConfigSpec)

/-- ITS FALSE NEIGHBOUR: 'it returns false'. Refute it at one input. -/
def awardConfigWrong : ChangeSpec := { name := "awardConfig", fn := fun _ => fun
  | [d1, d2, d3] => { results := [.lit (.bool false)], args := [d1, d2, d3] }
  | _ => none }
def AwardConfigWrongFalsely : Prop := awardConfigRow.holds Tryz.pinned (OpenSpec.ofChange awardConfigWrong)

/-- 'guerdonlaw36.AwardPieces': WHATEVER THE INPUT: true; the input reads as it did. -/
def awardPiecesSpec : ChangeSpec := { name := "awardPieces", fn := fun _ => fun
  | [d1, d2, d3, d4] => { results := [.lit (.bool true)], args := [d1, d2, d3, d4] }
  | _ => none }
def awardPiecesRow : OpenClaim := { program := "ytfanhhhgcabpnaagreatdoor", sum := "116894ab9407d46f3b935191e1bc2b3be2a81ce5f51e6a984bbdf1b3b16a792a", func := "guerdon/guerdonlaw36.AwardPieces", spec := "awardPieces", inPlace := ["internal/bytealg.IndexByteString", "internal/bytealg.IndexString"], unfollowed := true, recurses := true, named := ["guerdon/date.monthLengths", "internal/bytealg.MaxLen", "math/bits.divideError", "math/bits.overflowError"], apart := false, laid := [("guerdon/date.monthLengths", laid_guerdon_date_monthLengths)] }
def AwardPiecesSaid : Prop := awardPiecesRow.holds Tryz.pinned (OpenSpec.ofChange awardPiecesSpec)

/-- ITS FALSE NEIGHBOUR: 'it returns false'. Refute it at one input. -/
def awardPiecesWrong : ChangeSpec := { name := "awardPieces", fn := fun _ => fun
  | [d1, d2, d3, d4] => { results := [.lit (.bool false)], args := [d1, d2, d3, d4] }
  | _ => none }
def AwardPiecesWrongFalsely : Prop := awardPiecesRow.holds Tryz.pinned (OpenSpec.ofChange awardPiecesWrong)

/-- 'guerdonlaw43.AccountNew': WHATEVER THE INPUT: true; the input reads as it did. -/
def accountNewSpec : ChangeSpec := { name := "accountNew", fn := fun _ => fun
  | [d] => { results := [.lit (.bool true)], args := [d] }
  | _ => none }
def accountNewRow : OpenClaim := { program := "ytfanhhhgcabpnaagreatdoor", sum := "116894ab9407d46f3b935191e1bc2b3be2a81ce5f51e6a984bbdf1b3b16a792a", func := "guerdon/guerdonlaw43.AccountNew", spec := "accountNew", inPlace := ["internal/bytealg.IndexByteString", "internal/bytealg.IndexString"], unfollowed := true, recurses := true, named := ["internal/bytealg.MaxLen", "guerdon/date.monthLengths", "math/bits.divideError", "math/bits.overflowError"], apart := false, laid := [("guerdon/date.monthLengths", laid_guerdon_date_monthLengths)] }
def AccountNewSaid : Prop := accountNewRow.holds Tryz.pinned (OpenSpec.ofChange accountNewSpec)

/-- ITS FALSE NEIGHBOUR: 'it returns false'. Refute it at one input. -/
def accountNewWrong : ChangeSpec := { name := "accountNew", fn := fun _ => fun
  | [d] => { results := [.lit (.bool false)], args := [d] }
  | _ => none }
def AccountNewWrongFalsely : Prop := accountNewRow.holds Tryz.pinned (OpenSpec.ofChange accountNewWrong)

/-- 'guerdonlaw43.AccountValidate': WHATEVER THE INPUT: true; the input reads as it did. -/
def accountValidateSpec : ChangeSpec := { name := "accountValidate", fn := fun _ => fun
  | [d1, d2, d3] => { results := [.lit (.bool true)], args := [d1, d2, d3] }
  | _ => none }
def accountValidateRow : OpenClaim := { program := "ytfanhhhgcabpnaagreatdoor", sum := "116894ab9407d46f3b935191e1bc2b3be2a81ce5f51e6a984bbdf1b3b16a792a", func := "guerdon/guerdonlaw43.AccountValidate", spec := "accountValidate", inPlace := ["internal/bytealg.IndexByteString", "internal/bytealg.IndexString"], unfollowed := true, recurses := true, named := ["internal/bytealg.MaxLen", "guerdon/date.monthLengths", "math/bits.divideError", "math/bits.overflowError"], apart := false, laid := [("guerdon/date.monthLengths", laid_guerdon_date_monthLengths)] }
def AccountValidateSaid : Prop := accountValidateRow.holds Tryz.pinned (OpenSpec.ofChange accountValidateSpec)

/-- ITS FALSE NEIGHBOUR: 'it returns false'. Refute it at one input. -/
def accountValidateWrong : ChangeSpec := { name := "accountValidate", fn := fun _ => fun
  | [d1, d2, d3] => { results := [.lit (.bool false)], args := [d1, d2, d3] }
  | _ => none }
def AccountValidateWrongFalsely : Prop := accountValidateRow.holds Tryz.pinned (OpenSpec.ofChange accountValidateWrong)

/- THE SECOND FORM. 'bulk': how many values and letters a reading holds, each counted each time it is reached (what is shared counts as often as it is met; a slice's spare places count too). A statement '..UptoSaid' is the law's where the arguments, and the package variables that the reading takes, are together of bulk at most 1048576: NARROWER than '..Said'. Prove '..Said' where nothing that the law and all that it calls make is longer than what came in: it says more and counts as full. Else prove '..UptoSaid'. A law counts once. -/
mutual
def uptoBulk {H : Type} : DataW H → Nat
  | .lit (.string bytes) => bytes.length + 1
  | .lit _ => 1
  | .nil => 1
  | .ptr d => uptoBulk d + 1
  | .slice elems spare => uptoBulkAll elems + uptoBulkAll spare + 1
  | .agg parts => uptoBulkAll parts + 1
  | .iface _ d => uptoBulk d + 1
  | .map entries => uptoBulkEntries entries + 1
  | .held _ => 1
def uptoBulkAll {H : Type} : List (DataW H) → Nat
  | [] => 0
  | d :: r => uptoBulk d + uptoBulkAll r
def uptoBulkEntries {H : Type} : List (Lit × DataW H) → Nat
  | [] => 0
  | x :: r => uptoBulkEntry x + uptoBulkEntries r
def uptoBulkEntry {H : Type} : Lit × DataW H → Nat
  | (.string bytes, d) => bytes.length + uptoBulk d + 1
  | (_, d) => uptoBulk d + 1
 end
def uptoSmall : (H : Type) → List (DataW H) → Bool := fun _ ds => decide (uptoBulkAll ds ≤ 1048576)
def OpenSpec.upto (s : _root_.Go.ChangeSpec) : _root_.Go.OpenSpec := { _root_.Go.OpenSpec.ofChange s with cond := some uptoSmall }

/-- 'guerdonlaw36.AwardConfig', WHERE WHAT IT READS IS OF BULK AT MOST 1048576: true; the input reads as it did. -/
def awardConfigUptoRow : OpenClaim := { program := "ytfanhhhgcabpnaagreatdoor", sum := "116894ab9407d46f3b935191e1bc2b3be2a81ce5f51e6a984bbdf1b3b16a792a", func := "guerdon/guerdonlaw36.AwardConfig", spec := "awardConfig", inPlace := ["internal/bytealg.IndexByteString", "internal/bytealg.IndexString"], unfollowed := true, recurses := true, named := ["guerdon/date.monthLengths", "internal/bytealg.MaxLen", "math/bits.divideError", "math/bits.overflowError"], apart := false, laid := [("guerdon/date.monthLengths", laid_guerdon_date_monthLengths)], narrowed := true }
def AwardConfigUptoSaid : Prop := awardConfigUptoRow.holds Tryz.pinned (OpenSpec.upto awardConfigSpec)

/-- 'guerdonlaw36.AwardPieces', WHERE WHAT IT READS IS OF BULK AT MOST 1048576: true; the input reads as it did. -/
def awardPiecesUptoRow : OpenClaim := { program := "ytfanhhhgcabpnaagreatdoor", sum := "116894ab9407d46f3b935191e1bc2b3be2a81ce5f51e6a984bbdf1b3b16a792a", func := "guerdon/guerdonlaw36.AwardPieces", spec := "awardPieces", inPlace := ["internal/bytealg.IndexByteString", "internal/bytealg.IndexString"], unfollowed := true, recurses := true, named := ["guerdon/date.monthLengths", "internal/bytealg.MaxLen", "math/bits.divideError", "math/bits.overflowError"], apart := false, laid := [("guerdon/date.monthLengths", laid_guerdon_date_monthLengths)], narrowed := true }
def AwardPiecesUptoSaid : Prop := awardPiecesUptoRow.holds Tryz.pinned (OpenSpec.upto awardPiecesSpec)

/-- 'guerdonlaw43.AccountNew', WHERE WHAT IT READS IS OF BULK AT MOST 1048576: true; the input reads as it did. -/
def accountNewUptoRow : OpenClaim := { program := "ytfanhhhgcabpnaagreatdoor", sum := "116894ab9407d46f3b935191e1bc2b3be2a81ce5f51e6a984bbdf1b3b16a792a", func := "guerdon/guerdonlaw43.AccountNew", spec := "accountNew", inPlace := ["internal/bytealg.IndexByteString", "internal/bytealg.IndexString"], unfollowed := true, recurses := true, named := ["internal/bytealg.MaxLen", "guerdon/date.monthLengths", "math/bits.divideError", "math/bits.overflowError"], apart := false, laid := [("guerdon/date.monthLengths", laid_guerdon_date_monthLengths)], narrowed := true }
def AccountNewUptoSaid : Prop := accountNewUptoRow.holds Tryz.pinned (OpenSpec.upto accountNewSpec)

/-- 'guerdonlaw43.AccountValidate', WHERE WHAT IT READS IS OF BULK AT MOST 1048576: true; the input reads as it did. -/
def accountValidateUptoRow : OpenClaim := { program := "ytfanhhhgcabpnaagreatdoor", sum := "116894ab9407d46f3b935191e1bc2b3be2a81ce5f51e6a984bbdf1b3b16a792a", func := "guerdon/guerdonlaw43.AccountValidate", spec := "accountValidate", inPlace := ["internal/bytealg.IndexByteString", "internal/bytealg.IndexString"], unfollowed := true, recurses := true, named := ["internal/bytealg.MaxLen", "guerdon/date.monthLengths", "math/bits.divideError", "math/bits.overflowError"], apart := false, laid := [("guerdon/date.monthLengths", laid_guerdon_date_monthLengths)], narrowed := true }
def AccountValidateUptoSaid : Prop := accountValidateUptoRow.holds Tryz.pinned (OpenSpec.upto accountValidateSpec)

end Rows
end Go.Proofs.YtfanhhhgcabpnaaGreatDoor
