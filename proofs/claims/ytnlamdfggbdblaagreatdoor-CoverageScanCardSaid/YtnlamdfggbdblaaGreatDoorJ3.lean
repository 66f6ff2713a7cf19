/-
  Closed facts of the row of the statement, by the kernel: no condition.
-/
import Derived.Test.YtnlamdfggbdblaaGreatDoorRows
import Derived.WalkKit
import Derived.ProofKit
import Derived.JoinedOf
namespace Go.Proofs.YtnlamdfggbdblaaGreatDoor
theorem j_nam:(Rows.coverageScanRow.named == Tryz.prog.varsNamed 4)=true:=by kernel_rfl
end Go.Proofs.YtnlamdfggbdblaaGreatDoor
