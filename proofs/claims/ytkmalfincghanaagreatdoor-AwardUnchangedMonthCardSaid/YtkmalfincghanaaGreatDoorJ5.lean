/-
  Closed facts of the row of the statement, by the kernel: no condition.
-/
import Derived.Test.YtkmalfincghanaaGreatDoorRows
import Derived.WalkKit
import Derived.ProofKit
import Derived.SevenTiedAt
import GoSem.ClaimSeven
namespace Go.Proofs.YtkmalfincghanaaGreatDoor
theorem g1:OpenClaim.wfByText (OpenSpec.ofChange Rows.awardUnchangedMonthSpec) Rows.awardUnchangedMonthRow=true:=by kernel_rfl
theorem g5:Tryz.prog.funcNamed "guerdon/guerdonlaw36.AwardUnchangedMonth"=some 6:=by kernel_rfl
theorem g2:Tryz.prog.mainIs=some (true,"165abd5203113ecc799255667b7eef56052f4f9483c7617d59a2d1d9cabf96fc".toList):=by kernel_rfl
theorem g3:true=Tryz.prog.looks []:=by kernel_rfl
end Go.Proofs.YtkmalfincghanaaGreatDoor
