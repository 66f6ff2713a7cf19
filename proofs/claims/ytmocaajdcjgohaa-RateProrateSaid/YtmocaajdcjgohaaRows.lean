/-
  No cell of these rows narrows 'for every input' (looked for: loops, veiled, ifaces, maps, wideKeys, modest, calm, conditions, laid).
  DERIVED. THE GIVEN ROWS OF THIS SEAT. 6 by the template 'for every input the law returns true; each argument reads behind the call as it read before'; 0 by the template 'total and deterministic' (their statements: YtmocaajdcjgohaaTotals.lean).
  GIVEN WITH THE SEED: the statements are not yours to turn. If you find one false, say at which input.
  Laid BY PROGRAM, IN A SANDBOX (cutbox-rows.mjs): the forced cells as the released guide's own fill.sh prints them over the translation 4814ead5745c8dd5… (all of the seat's roots in one cut). By AI agents, Wed Nov 11 2026. No macro, syntax, notation, axiom, sorry.
-/
import Derived.Test.YtmocaajdcjgohaaChecked
import GoSem.Claim
import GoSem.ClaimJoined
import GoSem.ClaimMapViews
import Derived.JoinedTies
import Derived.KernelRfl
namespace Go.Proofs.Ytmocaajdcjgohaa
/- THE CELL 'sum', in the pinned program and in every row, IS THE sha256 OF THE DUMP (.gsa) THAT YtmocaajdcjgohaaProg.lean LOADS. Nothing in Lean hashes anything: it is a label: what it is worth is what the hold of that sum in a sandbox is worth. -/
noncomputable def Try.pinned : Pinned := { name := "ytmocaajdcjgohaa", sum := "4814ead5745c8dd5767b3605e0b736af55614c86e3bf6d7632a95b35021af5fa", checked := Try.checked }
namespace Rows
def none {H : Type} : Left H := { results := [], args := [] }

/-- 'guerdonlaw03.RateFromRatio': WHATEVER THE INPUT: true; the input reads as it did. -/
def rateFromRatioSpec : ChangeSpec := { name := "rateFromRatio", fn := fun _ => fun
  | [d1, d2, d3] => { results := [.lit (.bool true)], args := [d1, d2, d3] }
  | _ => none }
def rateFromRatioRow : OpenClaim := { program := "ytmocaajdcjgohaa", sum := "4814ead5745c8dd5767b3605e0b736af55614c86e3bf6d7632a95b35021af5fa", func := "guerdon/guerdonlaw03.RateFromRatio", spec := "rateFromRatio", named := ["math/bits.divideError", "math/bits.overflowError"], apart := false }
def RateFromRatioSaid : Prop := rateFromRatioRow.holds Try.pinned (OpenSpec.ofChange rateFromRatioSpec)

/-- ITS FALSE NEIGHBOUR: 'it returns false'. Refute it at one input. -/
def rateFromRatioWrong : ChangeSpec := { name := "rateFromRatio", fn := fun _ => fun
  | [d1, d2, d3] => { results := [.lit (.bool false)], args := [d1, d2, d3] }
  | _ => none }
def RateFromRatioWrongFalsely : Prop := rateFromRatioRow.holds Try.pinned (OpenSpec.ofChange rateFromRatioWrong)

/-- 'guerdonlaw03.RateProrate': WHATEVER THE INPUT: true; the input reads as it did. -/
def rateProrateSpec : ChangeSpec := { name := "rateProrate", fn := fun _ => fun
  | [d1, d2, d3, d4] => { results := [.lit (.bool true)], args := [d1, d2, d3, d4] }
  | _ => none }
def rateProrateRow : OpenClaim := { program := "ytmocaajdcjgohaa", sum := "4814ead5745c8dd5767b3605e0b736af55614c86e3bf6d7632a95b35021af5fa", func := "guerdon/guerdonlaw03.RateProrate", spec := "rateProrate", named := ["math/bits.divideError", "math/bits.overflowError"], apart := false }
def RateProrateSaid : Prop := rateProrateRow.holds Try.pinned (OpenSpec.ofChange rateProrateSpec)

/-- ITS FALSE NEIGHBOUR: 'it returns false'. Refute it at one input. -/
def rateProrateWrong : ChangeSpec := { name := "rateProrate", fn := fun _ => fun
  | [d1, d2, d3, d4] => { results := [.lit (.bool false)], args := [d1, d2, d3, d4] }
  | _ => none }
def RateProrateWrongFalsely : Prop := rateProrateRow.holds Try.pinned (OpenSpec.ofChange rateProrateWrong)

/-- 'guerdonlaw03.RateCompound': WHATEVER THE INPUT: true; the input reads as it did. -/
def rateCompoundSpec : ChangeSpec := { name := "rateCompound", fn := fun _ => fun
  | [d1, d2, d3, d4] => { results := [.lit (.bool true)], args := [d1, d2, d3, d4] }
  | _ => none }
def rateCompoundRow : OpenClaim := { program := "ytmocaajdcjgohaa", sum := "4814ead5745c8dd5767b3605e0b736af55614c86e3bf6d7632a95b35021af5fa", func := "guerdon/guerdonlaw03.RateCompound", spec := "rateCompound", named := ["math/bits.divideError", "math/bits.overflowError"], apart := false }
def RateCompoundSaid : Prop := rateCompoundRow.holds Try.pinned (OpenSpec.ofChange rateCompoundSpec)

/-- ITS FALSE NEIGHBOUR: 'it returns false'. Refute it at one input. -/
def rateCompoundWrong : ChangeSpec := { name := "rateCompound", fn := fun _ => fun
  | [d1, d2, d3, d4] => { results := [.lit (.bool false)], args := [d1, d2, d3, d4] }
  | _ => none }
def RateCompoundWrongFalsely : Prop := rateCompoundRow.holds Try.pinned (OpenSpec.ofChange rateCompoundWrong)

/-- 'guerdonlaw03.RateProrateBound': WHATEVER THE INPUT: true; the input reads as it did. -/
def rateProrateBoundSpec : ChangeSpec := { name := "rateProrateBound", fn := fun _ => fun
  | [d1, d2, d3, d4] => { results := [.lit (.bool true)], args := [d1, d2, d3, d4] }
  | _ => none }
def rateProrateBoundRow : OpenClaim := { program := "ytmocaajdcjgohaa", sum := "4814ead5745c8dd5767b3605e0b736af55614c86e3bf6d7632a95b35021af5fa", func := "guerdon/guerdonlaw03.RateProrateBound", spec := "rateProrateBound", named := ["math/bits.divideError", "math/bits.overflowError"], apart := false }
def RateProrateBoundSaid : Prop := rateProrateBoundRow.holds Try.pinned (OpenSpec.ofChange rateProrateBoundSpec)

/-- ITS FALSE NEIGHBOUR: 'it returns false'. Refute it at one input. -/
def rateProrateBoundWrong : ChangeSpec := { name := "rateProrateBound", fn := fun _ => fun
  | [d1, d2, d3, d4] => { results := [.lit (.bool false)], args := [d1, d2, d3, d4] }
  | _ => none }
def RateProrateBoundWrongFalsely : Prop := rateProrateBoundRow.holds Try.pinned (OpenSpec.ofChange rateProrateBoundWrong)

/-- 'guerdonlaw03.RateNegation': WHATEVER THE INPUT: true; the input reads as it did. -/
def rateNegationSpec : ChangeSpec := { name := "rateNegation", fn := fun _ => fun
  | [d1, d2, d3] => { results := [.lit (.bool true)], args := [d1, d2, d3] }
  | _ => none }
def rateNegationRow : OpenClaim := { program := "ytmocaajdcjgohaa", sum := "4814ead5745c8dd5767b3605e0b736af55614c86e3bf6d7632a95b35021af5fa", func := "guerdon/guerdonlaw03.RateNegation", spec := "rateNegation", named := ["math/bits.divideError", "math/bits.overflowError"], apart := false }
def RateNegationSaid : Prop := rateNegationRow.holds Try.pinned (OpenSpec.ofChange rateNegationSpec)

/-- ITS FALSE NEIGHBOUR: 'it returns false'. Refute it at one input. -/
def rateNegationWrong : ChangeSpec := { name := "rateNegation", fn := fun _ => fun
  | [d1, d2, d3] => { results := [.lit (.bool false)], args := [d1, d2, d3] }
  | _ => none }
def RateNegationWrongFalsely : Prop := rateNegationRow.holds Try.pinned (OpenSpec.ofChange rateNegationWrong)

/-- 'guerdonlaw03.RateMul': WHATEVER THE INPUT: true; the input reads as it did. -/
def rateMulSpec : ChangeSpec := { name := "rateMul", fn := fun _ => fun
  | [d1, d2, d3] => { results := [.lit (.bool true)], args := [d1, d2, d3] }
  | _ => none }
def rateMulRow : OpenClaim := { program := "ytmocaajdcjgohaa", sum := "4814ead5745c8dd5767b3605e0b736af55614c86e3bf6d7632a95b35021af5fa", func := "guerdon/guerdonlaw03.RateMul", spec := "rateMul", named := ["math/bits.divideError", "math/bits.overflowError"], apart := false }
def RateMulSaid : Prop := rateMulRow.holds Try.pinned (OpenSpec.ofChange rateMulSpec)

/-- ITS FALSE NEIGHBOUR: 'it returns false'. Refute it at one input. -/
def rateMulWrong : ChangeSpec := { name := "rateMul", fn := fun _ => fun
  | [d1, d2, d3] => { results := [.lit (.bool false)], args := [d1, d2, d3] }
  | _ => none }
def RateMulWrongFalsely : Prop := rateMulRow.holds Try.pinned (OpenSpec.ofChange rateMulWrong)

/- THE SECOND FORM. 'bulk': how many values and letters a reading holds, each counted each time it is reached (what is shared counts as often as it is met; a slice's spare places count too). A statement '..UptoSaid' is the law's where the arguments, and the package variables that the reading takes, are together of bulk at most 1048576: NARROWER than '..Said'. Prove '..Said' where nothing that the law and all that it calls make is longer than what came in: it says more and counts as full. Else prove '..UptoSaid'. A law counts once. -/
mutual
def uptoBulk {H : Type} : DataW H → Nat
  | .lit (.string bytes) => bytes.length + 1
  | .lit _ => 1
  | .nil => 1
  | .ptr d => uptoBulk d + 1
  | .slice elems spare => uptoBulkAll elems + uptoBulkAll spare + 1
  | .agg parts => uptoBulkAll parts + 1
  | .iface _ d => uptoBulk d + 1
  | .map entries => uptoBulkEntries entries + 1
  | .held _ => 1
def uptoBulkAll {H : Type} : List (DataW H) → Nat
  | [] => 0
  | d :: r => uptoBulk d + uptoBulkAll r
def uptoBulkEntries {H : Type} : List (Lit × DataW H) → Nat
  | [] => 0
  | x :: r => uptoBulkEntry x + uptoBulkEntries r
def uptoBulkEntry {H : Type} : Lit × DataW H → Nat
  | (.string bytes, d) => bytes.length + uptoBulk d + 1
  | (_, d) => uptoBulk d + 1
 end
def uptoSmall : (H : Type) → List (DataW H) → Bool := fun _ ds => decide (uptoBulkAll ds ≤ 1048576)
def OpenSpec.upto (s : _root_.Go.ChangeSpec) : _root_.Go.OpenSpec := { _root_.Go.OpenSpec.ofChange s with cond := some uptoSmall }

/-- 'guerdonlaw03.RateFromRatio', WHERE WHAT IT READS IS OF BULK AT MOST 1048576: true; the input reads as it did. -/
def rateFromRatioUptoRow : OpenClaim := { program := "ytmocaajdcjgohaa", sum := "4814ead5745c8dd5767b3605e0b736af55614c86e3bf6d7632a95b35021af5fa", func := "guerdon/guerdonlaw03.RateFromRatio", spec := "rateFromRatio", named := ["math/bits.divideError", "math/bits.overflowError"], apart := false, narrowed := true }
def RateFromRatioUptoSaid : Prop := rateFromRatioUptoRow.holds Try.pinned (OpenSpec.upto rateFromRatioSpec)

/-- 'guerdonlaw03.RateProrate', WHERE WHAT IT READS IS OF BULK AT MOST 1048576: true; the input reads as it did. -/
def rateProrateUptoRow : OpenClaim := { program := "ytmocaajdcjgohaa", sum := "4814ead5745c8dd5767b3605e0b736af55614c86e3bf6d7632a95b35021af5fa", func := "guerdon/guerdonlaw03.RateProrate", spec := "rateProrate", named := ["math/bits.divideError", "math/bits.overflowError"], apart := false, narrowed := true }
def RateProrateUptoSaid : Prop := rateProrateUptoRow.holds Try.pinned (OpenSpec.upto rateProrateSpec)

/-- 'guerdonlaw03.RateCompound', WHERE WHAT IT READS IS OF BULK AT MOST 1048576: true; the input reads as it did. -/
def rateCompoundUptoRow : OpenClaim := { program := "ytmocaajdcjgohaa", sum := "4814ead5745c8dd5767b3605e0b736af55614c86e3bf6d7632a95b35021af5fa", func := "guerdon/guerdonlaw03.RateCompound", spec := "rateCompound", named := ["math/bits.divideError", "math/bits.overflowError"], apart := false, narrowed := true }
def RateCompoundUptoSaid : Prop := rateCompoundUptoRow.holds Try.pinned (OpenSpec.upto rateCompoundSpec)

/-- 'guerdonlaw03.RateProrateBound', WHERE WHAT IT READS IS OF BULK AT MOST 1048576: true; the input reads as it did. -/
def rateProrateBoundUptoRow : OpenClaim := { program := "ytmocaajdcjgohaa", sum := "4814ead5745c8dd5767b3605e0b736af55614c86e3bf6d7632a95b35021af5fa", func := "guerdon/guerdonlaw03.RateProrateBound", spec := "rateProrateBound", named := ["math/bits.divideError", "math/bits.overflowError"], apart := false, narrowed := true }
def RateProrateBoundUptoSaid : Prop := rateProrateBoundUptoRow.holds Try.pinned (OpenSpec.upto rateProrateBoundSpec)

/-- 'guerdonlaw03.RateNegation', WHERE WHAT IT READS IS OF BULK AT MOST 1048576: true; the input reads as it did. -/
def rateNegationUptoRow : OpenClaim := { program := "ytmocaajdcjgohaa", sum := "4814ead5745c8dd5767b3605e0b736af55614c86e3bf6d7632a95b35021af5fa", func := "guerdon/guerdonlaw03.RateNegation", spec := "rateNegation", named := ["math/bits.divideError", "math/bits.overflowError"], apart := false, narrowed := true }
def RateNegationUptoSaid : Prop := rateNegationUptoRow.holds Try.pinned (OpenSpec.upto rateNegationSpec)

/-- 'guerdonlaw03.RateMul', WHERE WHAT IT READS IS OF BULK AT MOST 1048576: true; the input reads as it did. -/
def rateMulUptoRow : OpenClaim := { program := "ytmocaajdcjgohaa", sum := "4814ead5745c8dd5767b3605e0b736af55614c86e3bf6d7632a95b35021af5fa", func := "guerdon/guerdonlaw03.RateMul", spec := "rateMul", named := ["math/bits.divideError", "math/bits.overflowError"], apart := false, narrowed := true }
def RateMulUptoSaid : Prop := rateMulUptoRow.holds Try.pinned (OpenSpec.upto rateMulSpec)

end Rows
end Go.Proofs.Ytmocaajdcjgohaa
