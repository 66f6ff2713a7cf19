/-
  Closed facts of the row of the statement, by the kernel: no condition.
-/
import Derived.Test.YtmhfebelfmgckaaGreatDoorRows
import Derived.WalkKit
import Derived.ProofKit
import Derived.SevenTiedAt
import GoSem.ClaimSeven
namespace Go.Proofs.YtmhfebelfmgckaaGreatDoor
theorem g1:OpenClaim.wfByText (OpenSpec.ofChange Rows.settlementSummarySpec) Rows.settlementSummaryRow=true:=by kernel_rfl
theorem g5:Tryz.prog.funcNamed "guerdon/guerdonlaw44.SettlementSummary"=some 7:=by kernel_rfl
theorem g2:Tryz.prog.mainIs=some (true,"58cd2f0367121f531097aa721f713d23e250f7181b07e3949e0bbdfa7a47c1fa".toList):=by kernel_rfl
theorem g3:true=Tryz.prog.looks []:=by kernel_rfl
end Go.Proofs.YtmhfebelfmgckaaGreatDoor
