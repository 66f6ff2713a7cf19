import Derived.Test.YtiiaahokaekaeaaGreatDoorRows
import Derived.WalkKit
import Derived.ProofKit
import Derived.JoinedOf
namespace Go.Proofs.YtiiaahokaekaeaaGreatDoor
theorem j_unf:(Rows.coverageGridRow.unfollowed == Tryz.prog.unfollowed 3)=true:=by kernel_rfl
end Go.Proofs.YtiiaahokaekaeaaGreatDoor
