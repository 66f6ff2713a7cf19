/-
  Closed facts of the row of the statement, by the kernel: no condition.
-/
import Derived.Test.YtfanhhhgcabpnaaGreatDoorRows
import Derived.WalkKit
import Derived.ProofKit
import Derived.SevenTiedAt
import GoSem.ClaimSeven
namespace Go.Proofs.YtfanhhhgcabpnaaGreatDoor
theorem g1:OpenClaim.wfByText (OpenSpec.ofChange Rows.accountValidateSpec) Rows.accountValidateRow=true:=by kernel_rfl
theorem g5:Tryz.prog.funcNamed "guerdon/guerdonlaw43.AccountValidate"=some 6:=by kernel_rfl
theorem g2:Tryz.prog.mainIs=some (true,"8a591badecd1c0871b3cd61776fbe5a532627f58497d9584faeb402adc9f2862".toList):=by kernel_rfl
theorem g3:true=Tryz.prog.looks []:=by kernel_rfl
end Go.Proofs.YtfanhhhgcabpnaaGreatDoor
