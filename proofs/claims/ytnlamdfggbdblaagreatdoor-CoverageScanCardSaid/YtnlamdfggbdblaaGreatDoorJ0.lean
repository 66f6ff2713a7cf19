/-
  Closed facts of the row of the statement, by the kernel: no condition.
-/
import Derived.Test.YtnlamdfggbdblaaGreatDoorRows
import Derived.WalkKit
import Derived.ProofKit
import Derived.JoinedOf
namespace Go.Proofs.YtnlamdfggbdblaaGreatDoor
theorem j_inp:(Rows.coverageScanRow.inPlace == Tryz.prog.inPlace 4)=true:=by kernel_rfl
end Go.Proofs.YtnlamdfggbdblaaGreatDoor
