/-
  Closed facts of the row of the statement, by the kernel: no condition.
-/
import Derived.Test.YtjiaejcpmcknnaaGreatDoorRows
import Derived.WalkKit
import Derived.ProofKit
import Derived.JoinedOf
namespace Go.Proofs.YtjiaejcpmcknnaaGreatDoor
theorem j_inp:(Rows.deadrulesLiveRow.inPlace == Tryz.prog.inPlace 7)=true:=by kernel_rfl
end Go.Proofs.YtjiaejcpmcknnaaGreatDoor
