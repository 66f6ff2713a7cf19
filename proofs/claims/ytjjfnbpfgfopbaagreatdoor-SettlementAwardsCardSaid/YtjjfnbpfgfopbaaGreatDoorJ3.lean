/-
  Closed facts of the row of the statement, by the kernel: no condition.
-/
import Derived.Test.YtjjfnbpfgfopbaaGreatDoorRows
import Derived.WalkKit
import Derived.ProofKit
import Derived.JoinedOf
namespace Go.Proofs.YtjjfnbpfgfopbaaGreatDoor
theorem j_nam:(Rows.settlementAwardsRow.named == Tryz.prog.varsNamed 6)=true:=by kernel_rfl
end Go.Proofs.YtjjfnbpfgfopbaaGreatDoor
