/-
  DERIVED. GIVEN WITH THE SEED: THE CARDS: each row of YtadinajclolmnaaGreatDoorRows.lean that lists a variable, with what it lists TIED to the program's text (the seventh form; the later family's looks); each row that meets fmt, with fmt's text TOLD by the authors' own Lean function (tested against real Go, not proved from fmt's source: count such statements apart). THE CARD IS WHAT COUNTS. Prove the row's statement (the work); the ties are given (YtadinajclolmnaaGreatDoorTie.lean); close each card by the builder's one call (the guide's Derived/Test/ToyasCard.lean, 'card_holds'). Laid BY PROGRAM, IN A SANDBOX (cutbox-door.mjs). By AI agents, Wed Nov 11 2026. No macro, syntax, notation, axiom, sorry.
-/
import Derived.Test.YtadinajclolmnaaGreatDoorRows
import GoSem.ClaimSeven
namespace Go.Proofs.YtadinajclolmnaaGreatDoor
namespace Rows

/-- THE TIED CARD OF 'guerdonlaw49.BatchReplay'. -/
def batchReplayCard : Claim7 := { stood := { row := batchReplayRow, standIns := [], harness := (true, "7a948588391c89c70e78c92aa297988e57ecc58e71e57e3120af93844d267bba"), looks := true }, kinds := [], alts := [], laidByText := true, laidKinds := [.data], laidTests := true, laidLooks := .later }
def BatchReplayCardSaid : Prop := Claim7.holds Tryz.pinned (.plain (OpenSpec.ofChange batchReplaySpec)) batchReplayCard

/-- THE TIED CARD OF 'guerdonlaw49.BatchCrashSafe'. -/
def batchCrashSafeCard : Claim7 := { stood := { row := batchCrashSafeRow, standIns := [], harness := (true, "7a948588391c89c70e78c92aa297988e57ecc58e71e57e3120af93844d267bba"), looks := true }, kinds := [], alts := [], laidByText := true, laidKinds := [.data], laidTests := true, laidLooks := .later }
def BatchCrashSafeCardSaid : Prop := Claim7.holds Tryz.pinned (.plain (OpenSpec.ofChange batchCrashSafeSpec)) batchCrashSafeCard

/-- THE TIED CARD OF 'guerdontop.TopExactlyOnce'. -/
def topExactlyOnceCard : Claim7 := { stood := { row := topExactlyOnceRow, standIns := [], harness := (true, "7a948588391c89c70e78c92aa297988e57ecc58e71e57e3120af93844d267bba"), looks := true }, kinds := [], alts := [], laidByText := true, laidKinds := [.data], laidTests := true, laidLooks := .later }
def TopExactlyOnceCardSaid : Prop := Claim7.holds Tryz.pinned (.plain (OpenSpec.ofChange topExactlyOnceSpec)) topExactlyOnceCard

/-- THE SECOND FORM's CARD OF 'guerdonlaw49.BatchReplay'. -/
def batchReplayUptoCard : Claim7 := { stood := { row := batchReplayUptoRow, standIns := [], harness := (true, "7a948588391c89c70e78c92aa297988e57ecc58e71e57e3120af93844d267bba"), looks := true }, kinds := [], alts := [], laidByText := true, laidKinds := [.data], laidTests := true, laidLooks := .later }
def BatchReplayUptoCardSaid : Prop := Claim7.holds Tryz.pinned (.plain (OpenSpec.upto batchReplaySpec)) batchReplayUptoCard

/-- THE SECOND FORM's CARD OF 'guerdonlaw49.BatchCrashSafe'. -/
def batchCrashSafeUptoCard : Claim7 := { stood := { row := batchCrashSafeUptoRow, standIns := [], harness := (true, "7a948588391c89c70e78c92aa297988e57ecc58e71e57e3120af93844d267bba"), looks := true }, kinds := [], alts := [], laidByText := true, laidKinds := [.data], laidTests := true, laidLooks := .later }
def BatchCrashSafeUptoCardSaid : Prop := Claim7.holds Tryz.pinned (.plain (OpenSpec.upto batchCrashSafeSpec)) batchCrashSafeUptoCard

/-- THE SECOND FORM's CARD OF 'guerdontop.TopExactlyOnce'. -/
def topExactlyOnceUptoCard : Claim7 := { stood := { row := topExactlyOnceUptoRow, standIns := [], harness := (true, "7a948588391c89c70e78c92aa297988e57ecc58e71e57e3120af93844d267bba"), looks := true }, kinds := [], alts := [], laidByText := true, laidKinds := [.data], laidTests := true, laidLooks := .later }
def TopExactlyOnceUptoCardSaid : Prop := Claim7.holds Tryz.pinned (.plain (OpenSpec.upto topExactlyOnceSpec)) topExactlyOnceUptoCard
end Rows
end Go.Proofs.YtadinajclolmnaaGreatDoor
