/-
  Closed facts of the row of the statement, by the kernel: no condition.
-/
import Derived.Test.YtfanhhhgcabpnaaGreatDoorRows
import Derived.WalkKit
import Derived.ProofKit
import Derived.SevenTiedAt
import GoSem.ClaimSeven
namespace Go.Proofs.YtfanhhhgcabpnaaGreatDoor
theorem g4:false=Rows.accountValidateRow.goesBy Tryz.prog:=by kernel_rfl
end Go.Proofs.YtfanhhhgcabpnaaGreatDoor
