/-
  Closed facts of the row of the statement, by the kernel: no condition.
-/
import Derived.Test.YtadinajclolmnaaGreatDoorRows
import Derived.WalkKit
import Derived.ProofKit
import Derived.SevenTiedAt
import GoSem.ClaimSeven
namespace Go.Proofs.YtadinajclolmnaaGreatDoor
theorem g1:OpenClaim.wfByText (OpenSpec.ofChange Rows.batchReplaySpec) Rows.batchReplayRow=true:=by kernel_rfl
theorem g5:Tryz.prog.funcNamed "guerdon/guerdonlaw49.BatchReplay"=some 3:=by kernel_rfl
theorem g2:Tryz.prog.mainIs=some (true,"7a948588391c89c70e78c92aa297988e57ecc58e71e57e3120af93844d267bba".toList):=by kernel_rfl
theorem g3:true=Tryz.prog.looks []:=by kernel_rfl
end Go.Proofs.YtadinajclolmnaaGreatDoor
