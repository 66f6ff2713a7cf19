/-
  Closed facts of the row of the statement, by the kernel: no condition.
-/
import Derived.Test.YtjiaejcpmcknnaaGreatDoorRows
import Derived.WalkKit
import Derived.ProofKit
import Derived.SevenTiedAt
import GoSem.ClaimSeven
namespace Go.Proofs.YtjiaejcpmcknnaaGreatDoor
theorem g4:false=Rows.deadrulesSoundRow.goesBy Tryz.prog:=by kernel_rfl
end Go.Proofs.YtjiaejcpmcknnaaGreatDoor
