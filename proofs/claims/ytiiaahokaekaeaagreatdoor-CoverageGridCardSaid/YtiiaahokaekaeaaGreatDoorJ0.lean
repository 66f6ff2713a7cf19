import Derived.Test.YtiiaahokaekaeaaGreatDoorRows
import Derived.WalkKit
import Derived.ProofKit
import Derived.JoinedOf
namespace Go.Proofs.YtiiaahokaekaeaaGreatDoor
theorem j_inp:(Rows.coverageGridRow.inPlace == Tryz.prog.inPlace 3)=true:=by kernel_rfl
end Go.Proofs.YtiiaahokaekaeaaGreatDoor
