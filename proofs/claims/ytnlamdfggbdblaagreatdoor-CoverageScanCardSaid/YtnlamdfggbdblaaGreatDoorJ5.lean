/-
  Closed facts of the row of the statement, by the kernel: no condition.
-/
import Derived.Test.YtnlamdfggbdblaaGreatDoorRows
import Derived.WalkKit
import Derived.ProofKit
import Derived.SevenTiedAt
import GoSem.ClaimSeven
namespace Go.Proofs.YtnlamdfggbdblaaGreatDoor
theorem g1:OpenClaim.wfByText (OpenSpec.ofChange Rows.coverageScanSpec) Rows.coverageScanRow=true:=by kernel_rfl
theorem g5:Tryz.prog.funcNamed "guerdon/guerdonlaw24.CoverageScan"=some 4:=by kernel_rfl
theorem g2:Tryz.prog.mainIs=some (true,"dea8d8e09b61ac5dad08fc7c224b1ff9bcac9efa6a0d34f0e24d8f037339a6ff".toList):=by kernel_rfl
theorem g3:false=Tryz.prog.looks []:=by kernel_rfl
end Go.Proofs.YtnlamdfggbdblaaGreatDoor
