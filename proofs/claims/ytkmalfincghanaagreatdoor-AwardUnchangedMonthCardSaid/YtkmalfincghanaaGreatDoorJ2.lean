/-
  Closed facts of the row of the statement, by the kernel: no condition.
-/
import Derived.Test.YtkmalfincghanaaGreatDoorRows
import Derived.WalkKit
import Derived.ProofKit
import Derived.JoinedOf
namespace Go.Proofs.YtkmalfincghanaaGreatDoor
theorem j_rec:(Rows.awardUnchangedMonthRow.recurses == Tryz.prog.recurses 6)=true:=by kernel_rfl
end Go.Proofs.YtkmalfincghanaaGreatDoor
