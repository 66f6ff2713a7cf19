/-
  Closed facts of the row of the statement, by the kernel: no condition.
-/
import Derived.Test.YtjiaejcpmcknnaaGreatDoorRows
import Derived.WalkKit
import Derived.ProofKit
import Derived.SevenTiedAt
import GoSem.ClaimSeven
namespace Go.Proofs.YtjiaejcpmcknnaaGreatDoor
theorem g1:OpenClaim.wfByText (OpenSpec.ofChange Rows.deadrulesSoundSpec) Rows.deadrulesSoundRow=true:=by kernel_rfl
theorem g5:Tryz.prog.funcNamed "guerdon/guerdonlaw25.DeadrulesSound"=some 6:=by kernel_rfl
theorem g2:Tryz.prog.mainIs=some (true,"36f08271de5096ace906b491d9cf9fc82c6b26439421a05aa86c4e69e1234fde".toList):=by kernel_rfl
theorem g3:true=Tryz.prog.looks []:=by kernel_rfl
end Go.Proofs.YtjiaejcpmcknnaaGreatDoor
