/-
  Closed facts of the row of the statement, by the kernel: no condition.
-/
import Derived.Test.YtmhfebelfmgckaaGreatDoorRows
import Derived.WalkKit
import Derived.ProofKit
import Derived.JoinedOf
namespace Go.Proofs.YtmhfebelfmgckaaGreatDoor
theorem j_rec:(Rows.awardForMonthRow.recurses == Tryz.prog.recurses 3)=true:=by kernel_rfl
end Go.Proofs.YtmhfebelfmgckaaGreatDoor
