/-
  Closed facts of the row of the statement, by the kernel: no condition.
-/
import Derived.Test.YtmhfebelfmgckaaGreatDoorRows
import Derived.WalkKit
import Derived.ProofKit
import Derived.JoinedOf
namespace Go.Proofs.YtmhfebelfmgckaaGreatDoor
theorem j_rec:(Rows.settlementSummaryRow.recurses == Tryz.prog.recurses 7)=true:=by kernel_rfl
end Go.Proofs.YtmhfebelfmgckaaGreatDoor
