/-
  Closed facts of the row of the statement, by the kernel: no condition.
-/
import Derived.Test.YtadinajclolmnaaGreatDoorRows
import Derived.WalkKit
import Derived.ProofKit
import Derived.JoinedOf
namespace Go.Proofs.YtadinajclolmnaaGreatDoor
theorem j_nam:(Rows.batchReplayRow.named == Tryz.prog.varsNamed 3)=true:=by kernel_rfl
end Go.Proofs.YtadinajclolmnaaGreatDoor
