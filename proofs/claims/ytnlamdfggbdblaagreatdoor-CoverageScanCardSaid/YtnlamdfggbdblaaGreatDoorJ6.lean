/-
  Closed facts of the row of the statement, by the kernel: no condition.
-/
import Derived.Test.YtnlamdfggbdblaaGreatDoorRows
import Derived.WalkKit
import Derived.ProofKit
import Derived.SevenTiedAt
import GoSem.ClaimSeven
namespace Go.Proofs.YtnlamdfggbdblaaGreatDoor
theorem g4:false=Rows.coverageScanRow.goesBy Tryz.prog:=by kernel_rfl
end Go.Proofs.YtnlamdfggbdblaaGreatDoor
