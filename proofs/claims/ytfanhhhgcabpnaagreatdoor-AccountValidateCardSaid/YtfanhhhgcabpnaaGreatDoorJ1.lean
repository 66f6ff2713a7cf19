/-
  Closed facts of the row of the statement, by the kernel: no condition.
-/
import Derived.Test.YtfanhhhgcabpnaaGreatDoorRows
import Derived.WalkKit
import Derived.ProofKit
import Derived.JoinedOf
namespace Go.Proofs.YtfanhhhgcabpnaaGreatDoor
theorem j_unf:(Rows.accountValidateRow.unfollowed == Tryz.prog.unfollowed 6)=true:=by kernel_rfl
end Go.Proofs.YtfanhhhgcabpnaaGreatDoor
