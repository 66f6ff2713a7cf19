import Derived.Test.YtiiaahokaekaeaaGreatDoorRows
import Derived.WalkKit
import Derived.ProofKit
import Derived.SevenTiedAt
import GoSem.ClaimSeven
namespace Go.Proofs.YtiiaahokaekaeaaGreatDoor
theorem g4:false=Rows.coverageGridRow.goesBy Tryz.prog:=by kernel_rfl
end Go.Proofs.YtiiaahokaekaeaaGreatDoor
