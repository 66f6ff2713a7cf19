/-
  Closed facts of the row of the statement, by the kernel: no condition.
-/
import Derived.Test.YtkmalfincghanaaGreatDoorRows
import Derived.WalkKit
import Derived.ProofKit
import Derived.JoinedOf
namespace Go.Proofs.YtkmalfincghanaaGreatDoor
theorem j_unf:(Rows.awardUnchangedMonthRow.unfollowed == Tryz.prog.unfollowed 6)=true:=by kernel_rfl
end Go.Proofs.YtkmalfincghanaaGreatDoor
