/-
  No cell of these rows narrows 'for every input' (looked for: loops, veiled, ifaces, maps, wideKeys, modest, calm, conditions, laid).
  DERIVED. THE GIVEN ROWS OF THIS SEAT. 7 by the template 'for every input the law returns true; each argument reads behind the call as it read before'; 0 by the template 'total and deterministic' (their statements: YtjbhgmeokoconaaTotals.lean).
  GIVEN WITH THE SEED: the statements are not yours to turn. If you find one false, say at which input.
  Laid BY PROGRAM, IN A SANDBOX (cutbox-rows.mjs): the forced cells as the released guide's own fill.sh prints them over the translation e7f7b8de1629b03b… (all of the seat's roots in one cut). By AI agents, Wed Nov 11 2026. No macro, syntax, notation, axiom, sorry.
-/
import Derived.Test.YtjbhgmeokoconaaChecked
import GoSem.Claim
import GoSem.ClaimJoined
import GoSem.ClaimMapViews
import Derived.JoinedTies
import Derived.KernelRfl
namespace Go.Proofs.Ytjbhgmeokoconaa
/- THE CELL 'sum', in the pinned program and in every row, IS THE sha256 OF THE DUMP (.gsa) THAT YtjbhgmeokoconaaProg.lean LOADS. Nothing in Lean hashes anything: it is a label: what it is worth is what the hold of that sum in a sandbox is worth. -/
noncomputable def Try.pinned : Pinned := { name := "ytjbhgmeokoconaa", sum := "e7f7b8de1629b03bc3331a62149bc777aff745dc0e16ab4ba4d41b913516e1bf", checked := Try.checked }
namespace Rows
def none {H : Type} : Left H := { results := [], args := [] }

/-- 'guerdonlaw47.JournalChecksum': WHATEVER THE INPUT: true; the input reads as it did. -/
def journalChecksumSpec : ChangeSpec := { name := "journalChecksum", fn := fun _ => fun
  | [d] => { results := [.lit (.bool true)], args := [d] }
  | _ => none }
def journalChecksumRow : OpenClaim := { program := "ytjbhgmeokoconaa", sum := "e7f7b8de1629b03bc3331a62149bc777aff745dc0e16ab4ba4d41b913516e1bf", func := "guerdon/guerdonlaw47.JournalChecksum", spec := "journalChecksum", unfollowed := true, recurses := true, apart := false }
def JournalChecksumSaid : Prop := journalChecksumRow.holds Try.pinned (OpenSpec.ofChange journalChecksumSpec)

/-- ITS FALSE NEIGHBOUR: 'it returns false'. Refute it at one input. -/
def journalChecksumWrong : ChangeSpec := { name := "journalChecksum", fn := fun _ => fun
  | [d] => { results := [.lit (.bool false)], args := [d] }
  | _ => none }
def JournalChecksumWrongFalsely : Prop := journalChecksumRow.holds Try.pinned (OpenSpec.ofChange journalChecksumWrong)

/-- 'guerdonlaw47.JournalEncode': WHATEVER THE INPUT: true; the input reads as it did. -/
def journalEncodeSpec : ChangeSpec := { name := "journalEncode", fn := fun _ => fun
  | [d] => { results := [.lit (.bool true)], args := [d] }
  | _ => none }
def journalEncodeRow : OpenClaim := { program := "ytjbhgmeokoconaa", sum := "e7f7b8de1629b03bc3331a62149bc777aff745dc0e16ab4ba4d41b913516e1bf", func := "guerdon/guerdonlaw47.JournalEncode", spec := "journalEncode", unfollowed := true, recurses := true, apart := false }
def JournalEncodeSaid : Prop := journalEncodeRow.holds Try.pinned (OpenSpec.ofChange journalEncodeSpec)

/-- ITS FALSE NEIGHBOUR: 'it returns false'. Refute it at one input. -/
def journalEncodeWrong : ChangeSpec := { name := "journalEncode", fn := fun _ => fun
  | [d] => { results := [.lit (.bool false)], args := [d] }
  | _ => none }
def JournalEncodeWrongFalsely : Prop := journalEncodeRow.holds Try.pinned (OpenSpec.ofChange journalEncodeWrong)

/-- 'guerdonlaw47.JournalTooLong': WHATEVER THE INPUT: true; the input reads as it did. -/
def journalTooLongSpec : ChangeSpec := { name := "journalTooLong", fn := fun _ => fun
  | [d1, d2] => { results := [.lit (.bool true)], args := [d1, d2] }
  | _ => none }
def journalTooLongRow : OpenClaim := { program := "ytjbhgmeokoconaa", sum := "e7f7b8de1629b03bc3331a62149bc777aff745dc0e16ab4ba4d41b913516e1bf", func := "guerdon/guerdonlaw47.JournalTooLong", spec := "journalTooLong", unfollowed := true, recurses := true, apart := false }
def JournalTooLongSaid : Prop := journalTooLongRow.holds Try.pinned (OpenSpec.ofChange journalTooLongSpec)

/-- ITS FALSE NEIGHBOUR: 'it returns false'. Refute it at one input. -/
def journalTooLongWrong : ChangeSpec := { name := "journalTooLong", fn := fun _ => fun
  | [d1, d2] => { results := [.lit (.bool false)], args := [d1, d2] }
  | _ => none }
def JournalTooLongWrongFalsely : Prop := journalTooLongRow.holds Try.pinned (OpenSpec.ofChange journalTooLongWrong)

/-- 'guerdonlaw47.JournalDecode': WHATEVER THE INPUT: true; the input reads as it did. -/
def journalDecodeSpec : ChangeSpec := { name := "journalDecode", fn := fun _ => fun
  | [d] => { results := [.lit (.bool true)], args := [d] }
  | _ => none }
def journalDecodeRow : OpenClaim := { program := "ytjbhgmeokoconaa", sum := "e7f7b8de1629b03bc3331a62149bc777aff745dc0e16ab4ba4d41b913516e1bf", func := "guerdon/guerdonlaw47.JournalDecode", spec := "journalDecode", unfollowed := true, recurses := true, apart := false }
def JournalDecodeSaid : Prop := journalDecodeRow.holds Try.pinned (OpenSpec.ofChange journalDecodeSpec)

/-- ITS FALSE NEIGHBOUR: 'it returns false'. Refute it at one input. -/
def journalDecodeWrong : ChangeSpec := { name := "journalDecode", fn := fun _ => fun
  | [d] => { results := [.lit (.bool false)], args := [d] }
  | _ => none }
def JournalDecodeWrongFalsely : Prop := journalDecodeRow.holds Try.pinned (OpenSpec.ofChange journalDecodeWrong)

/-- 'guerdonlaw47.JournalRoundTrip': WHATEVER THE INPUT: true; the input reads as it did. -/
def journalRoundTripSpec : ChangeSpec := { name := "journalRoundTrip", fn := fun _ => fun
  | [d] => { results := [.lit (.bool true)], args := [d] }
  | _ => none }
def journalRoundTripRow : OpenClaim := { program := "ytjbhgmeokoconaa", sum := "e7f7b8de1629b03bc3331a62149bc777aff745dc0e16ab4ba4d41b913516e1bf", func := "guerdon/guerdonlaw47.JournalRoundTrip", spec := "journalRoundTrip", unfollowed := true, recurses := true, apart := false }
def JournalRoundTripSaid : Prop := journalRoundTripRow.holds Try.pinned (OpenSpec.ofChange journalRoundTripSpec)

/-- ITS FALSE NEIGHBOUR: 'it returns false'. Refute it at one input. -/
def journalRoundTripWrong : ChangeSpec := { name := "journalRoundTrip", fn := fun _ => fun
  | [d] => { results := [.lit (.bool false)], args := [d] }
  | _ => none }
def JournalRoundTripWrongFalsely : Prop := journalRoundTripRow.holds Try.pinned (OpenSpec.ofChange journalRoundTripWrong)

/-- 'guerdonlaw47.JournalTornTail': WHATEVER THE INPUT: true; the input reads as it did. -/
def journalTornTailSpec : ChangeSpec := { name := "journalTornTail", fn := fun _ => fun
  | [d1, d2] => { results := [.lit (.bool true)], args := [d1, d2] }
  | _ => none }
def journalTornTailRow : OpenClaim := { program := "ytjbhgmeokoconaa", sum := "e7f7b8de1629b03bc3331a62149bc777aff745dc0e16ab4ba4d41b913516e1bf", func := "guerdon/guerdonlaw47.JournalTornTail", spec := "journalTornTail", unfollowed := true, recurses := true, apart := false }
def JournalTornTailSaid : Prop := journalTornTailRow.holds Try.pinned (OpenSpec.ofChange journalTornTailSpec)

/-- ITS FALSE NEIGHBOUR: 'it returns false'. Refute it at one input. -/
def journalTornTailWrong : ChangeSpec := { name := "journalTornTail", fn := fun _ => fun
  | [d1, d2] => { results := [.lit (.bool false)], args := [d1, d2] }
  | _ => none }
def JournalTornTailWrongFalsely : Prop := journalTornTailRow.holds Try.pinned (OpenSpec.ofChange journalTornTailWrong)

/-- 'guerdonlaw47.JournalBurst': WHATEVER THE INPUT: true; the input reads as it did. -/
def journalBurstSpec : ChangeSpec := { name := "journalBurst", fn := fun _ => fun
  | [d1, d2, d3] => { results := [.lit (.bool true)], args := [d1, d2, d3] }
  | _ => none }
def journalBurstRow : OpenClaim := { program := "ytjbhgmeokoconaa", sum := "e7f7b8de1629b03bc3331a62149bc777aff745dc0e16ab4ba4d41b913516e1bf", func := "guerdon/guerdonlaw47.JournalBurst", spec := "journalBurst", unfollowed := true, recurses := true, apart := false }
def JournalBurstSaid : Prop := journalBurstRow.holds Try.pinned (OpenSpec.ofChange journalBurstSpec)

/-- ITS FALSE NEIGHBOUR: 'it returns false'. Refute it at one input. -/
def journalBurstWrong : ChangeSpec := { name := "journalBurst", fn := fun _ => fun
  | [d1, d2, d3] => { results := [.lit (.bool false)], args := [d1, d2, d3] }
  | _ => none }
def JournalBurstWrongFalsely : Prop := journalBurstRow.holds Try.pinned (OpenSpec.ofChange journalBurstWrong)

/- THE SECOND FORM. 'bulk': how many values and letters a reading holds, each counted each time it is reached (what is shared counts as often as it is met; a slice's spare places count too). A statement '..UptoSaid' is the law's where the arguments, and the package variables that the reading takes, are together of bulk at most 1048576: NARROWER than '..Said'. Prove '..Said' where nothing that the law and all that it calls make is longer than what came in: it says more and counts as full. Else prove '..UptoSaid'. A law counts once. -/
mutual
def uptoBulk {H : Type} : DataW H → Nat
  | .lit (.string bytes) => bytes.length + 1
  | .lit _ => 1
  | .nil => 1
  | .ptr d => uptoBulk d + 1
  | .slice elems spare => uptoBulkAll elems + uptoBulkAll spare + 1
  | .agg parts => uptoBulkAll parts + 1
  | .iface _ d => uptoBulk d + 1
  | .map entries => uptoBulkEntries entries + 1
  | .held _ => 1
def uptoBulkAll {H : Type} : List (DataW H) → Nat
  | [] => 0
  | d :: r => uptoBulk d + uptoBulkAll r
def uptoBulkEntries {H : Type} : List (Lit × DataW H) → Nat
  | [] => 0
  | x :: r => uptoBulkEntry x + uptoBulkEntries r
def uptoBulkEntry {H : Type} : Lit × DataW H → Nat
  | (.string bytes, d) => bytes.length + uptoBulk d + 1
  | (_, d) => uptoBulk d + 1
 end
def uptoSmall : (H : Type) → List (DataW H) → Bool := fun _ ds => decide (uptoBulkAll ds ≤ 1048576)
def OpenSpec.upto (s : _root_.Go.ChangeSpec) : _root_.Go.OpenSpec := { _root_.Go.OpenSpec.ofChange s with cond := some uptoSmall }

/-- 'guerdonlaw47.JournalChecksum', WHERE WHAT IT READS IS OF BULK AT MOST 1048576: true; the input reads as it did. -/
def journalChecksumUptoRow : OpenClaim := { program := "ytjbhgmeokoconaa", sum := "e7f7b8de1629b03bc3331a62149bc777aff745dc0e16ab4ba4d41b913516e1bf", func := "guerdon/guerdonlaw47.JournalChecksum", spec := "journalChecksum", unfollowed := true, recurses := true, apart := false, narrowed := true }
def JournalChecksumUptoSaid : Prop := journalChecksumUptoRow.holds Try.pinned (OpenSpec.upto journalChecksumSpec)

/-- 'guerdonlaw47.JournalEncode', WHERE WHAT IT READS IS OF BULK AT MOST 1048576: true; the input reads as it did. -/
def journalEncodeUptoRow : OpenClaim := { program := "ytjbhgmeokoconaa", sum := "e7f7b8de1629b03bc3331a62149bc777aff745dc0e16ab4ba4d41b913516e1bf", func := "guerdon/guerdonlaw47.JournalEncode", spec := "journalEncode", unfollowed := true, recurses := true, apart := false, narrowed := true }
def JournalEncodeUptoSaid : Prop := journalEncodeUptoRow.holds Try.pinned (OpenSpec.upto journalEncodeSpec)

/-- 'guerdonlaw47.JournalTooLong', WHERE WHAT IT READS IS OF BULK AT MOST 1048576: true; the input reads as it did. -/
def journalTooLongUptoRow : OpenClaim := { program := "ytjbhgmeokoconaa", sum := "e7f7b8de1629b03bc3331a62149bc777aff745dc0e16ab4ba4d41b913516e1bf", func := "guerdon/guerdonlaw47.JournalTooLong", spec := "journalTooLong", unfollowed := true, recurses := true, apart := false, narrowed := true }
def JournalTooLongUptoSaid : Prop := journalTooLongUptoRow.holds Try.pinned (OpenSpec.upto journalTooLongSpec)

/-- 'guerdonlaw47.JournalDecode', WHERE WHAT IT READS IS OF BULK AT MOST 1048576: true; the input reads as it did. -/
def journalDecodeUptoRow : OpenClaim := { program := "ytjbhgmeokoconaa", sum := "e7f7b8de1629b03bc3331a62149bc777aff745dc0e16ab4ba4d41b913516e1bf", func := "guerdon/guerdonlaw47.JournalDecode", spec := "journalDecode", unfollowed := true, recurses := true, apart := false, narrowed := true }
def JournalDecodeUptoSaid : Prop := journalDecodeUptoRow.holds Try.pinned (OpenSpec.upto journalDecodeSpec)

/-- 'guerdonlaw47.JournalRoundTrip', WHERE WHAT IT READS IS OF BULK AT MOST 1048576: true; the input reads as it did. -/
def journalRoundTripUptoRow : OpenClaim := { program := "ytjbhgmeokoconaa", sum := "e7f7b8de1629b03bc3331a62149bc777aff745dc0e16ab4ba4d41b913516e1bf", func := "guerdon/guerdonlaw47.JournalRoundTrip", spec := "journalRoundTrip", unfollowed := true, recurses := true, apart := false, narrowed := true }
def JournalRoundTripUptoSaid : Prop := journalRoundTripUptoRow.holds Try.pinned (OpenSpec.upto journalRoundTripSpec)

/-- 'guerdonlaw47.JournalTornTail', WHERE WHAT IT READS IS OF BULK AT MOST 1048576: true; the input reads as it did. -/
def journalTornTailUptoRow : OpenClaim := { program := "ytjbhgmeokoconaa", sum := "e7f7b8de1629b03bc3331a62149bc777aff745dc0e16ab4ba4d41b913516e1bf", func := "guerdon/guerdonlaw47.JournalTornTail", spec := "journalTornTail", unfollowed := true, recurses := true, apart := false, narrowed := true }
def JournalTornTailUptoSaid : Prop := journalTornTailUptoRow.holds Try.pinned (OpenSpec.upto journalTornTailSpec)

/-- 'guerdonlaw47.JournalBurst', WHERE WHAT IT READS IS OF BULK AT MOST 1048576: true; the input reads as it did. -/
def journalBurstUptoRow : OpenClaim := { program := "ytjbhgmeokoconaa", sum := "e7f7b8de1629b03bc3331a62149bc777aff745dc0e16ab4ba4d41b913516e1bf", func := "guerdon/guerdonlaw47.JournalBurst", spec := "journalBurst", unfollowed := true, recurses := true, apart := false, narrowed := true }
def JournalBurstUptoSaid : Prop := journalBurstUptoRow.holds Try.pinned (OpenSpec.upto journalBurstSpec)

end Rows
end Go.Proofs.Ytjbhgmeokoconaa
