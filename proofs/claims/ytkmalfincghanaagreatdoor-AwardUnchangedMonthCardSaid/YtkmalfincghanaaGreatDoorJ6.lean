/-
  Closed facts of the row of the statement, by the kernel: no condition.
-/
import Derived.Test.YtkmalfincghanaaGreatDoorRows
import Derived.WalkKit
import Derived.ProofKit
import Derived.SevenTiedAt
import GoSem.ClaimSeven
namespace Go.Proofs.YtkmalfincghanaaGreatDoor
theorem g4:false=Rows.awardUnchangedMonthRow.goesBy Tryz.prog:=by kernel_rfl
end Go.Proofs.YtkmalfincghanaaGreatDoor
