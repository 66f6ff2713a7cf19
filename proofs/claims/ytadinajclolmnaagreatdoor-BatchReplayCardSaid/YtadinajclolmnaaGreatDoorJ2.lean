/-
  Closed facts of the row of the statement, by the kernel: no condition.
-/
import Derived.Test.YtadinajclolmnaaGreatDoorRows
import Derived.WalkKit
import Derived.ProofKit
import Derived.JoinedOf
namespace Go.Proofs.YtadinajclolmnaaGreatDoor
theorem j_rec:(Rows.batchReplayRow.recurses == Tryz.prog.recurses 3)=true:=by kernel_rfl
end Go.Proofs.YtadinajclolmnaaGreatDoor
