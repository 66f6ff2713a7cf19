import Derived.Test.YtiiaahokaekaeaaGreatDoorRows
import Derived.WalkKit
import Derived.ProofKit
import Derived.SevenTiedAt
import GoSem.ClaimSeven
namespace Go.Proofs.YtiiaahokaekaeaaGreatDoor
theorem g1:OpenClaim.wfByText (OpenSpec.ofChange Rows.coverageGridSpec) Rows.coverageGridRow=true:=by kernel_rfl
theorem g5:Tryz.prog.funcNamed "guerdon/guerdonlaw24.CoverageGrid"=some 3:=by kernel_rfl
theorem g2:Tryz.prog.mainIs=some (true,"b3f25bec39e9bd977b93cb53f0ab1d71660ba3f026cd0bacafe8228d5027f290".toList):=by kernel_rfl
theorem g3:false=Tryz.prog.looks []:=by kernel_rfl
end Go.Proofs.YtiiaahokaekaeaaGreatDoor
