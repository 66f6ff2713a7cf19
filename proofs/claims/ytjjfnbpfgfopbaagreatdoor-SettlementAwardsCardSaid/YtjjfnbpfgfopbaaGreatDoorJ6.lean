/-
  Closed facts of the row of the statement, by the kernel: no condition.
-/
import Derived.Test.YtjjfnbpfgfopbaaGreatDoorRows
import Derived.WalkKit
import Derived.ProofKit
import Derived.SevenTiedAt
import GoSem.ClaimSeven
namespace Go.Proofs.YtjjfnbpfgfopbaaGreatDoor
theorem g4:false=Rows.settlementAwardsRow.goesBy Tryz.prog:=by kernel_rfl
end Go.Proofs.YtjjfnbpfgfopbaaGreatDoor
