/-
  Closed facts of the row of the statement, by the kernel: no condition.
-/
import Derived.Test.YtjiaejcpmcknnaaGreatDoorRows
import Derived.WalkKit
import Derived.ProofKit
import Derived.JoinedOf
namespace Go.Proofs.YtjiaejcpmcknnaaGreatDoor
theorem j_rec:(Rows.deadrulesSoundRow.recurses == Tryz.prog.recurses 6)=true:=by kernel_rfl
end Go.Proofs.YtjiaejcpmcknnaaGreatDoor
