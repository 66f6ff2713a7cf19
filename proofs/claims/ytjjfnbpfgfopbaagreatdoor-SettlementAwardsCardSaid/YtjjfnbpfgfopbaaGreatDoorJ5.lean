/-
  Closed facts of the row of the statement, by the kernel: no condition.
-/
import Derived.Test.YtjjfnbpfgfopbaaGreatDoorRows
import Derived.WalkKit
import Derived.ProofKit
import Derived.SevenTiedAt
import GoSem.ClaimSeven
namespace Go.Proofs.YtjjfnbpfgfopbaaGreatDoor
theorem g1:OpenClaim.wfByText (OpenSpec.ofChange Rows.settlementAwardsSpec) Rows.settlementAwardsRow=true:=by kernel_rfl
theorem g5:Tryz.prog.funcNamed "guerdon/guerdonlaw44.SettlementAwards"=some 6:=by kernel_rfl
theorem g2:Tryz.prog.mainIs=some (true,"2272c043234bce67487576eceedfdcc2bddf265e16017a607bdbe9866b2aebb6".toList):=by kernel_rfl
theorem g3:true=Tryz.prog.looks []:=by kernel_rfl
end Go.Proofs.YtjjfnbpfgfopbaaGreatDoor
