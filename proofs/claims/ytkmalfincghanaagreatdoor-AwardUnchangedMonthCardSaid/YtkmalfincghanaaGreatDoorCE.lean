/-
  The functions in the engine form: no condition.
-/
import Derived.Test.YtkmalfincghanaaGreatDoorEC
import Derived.Test.YtkmalfincghanaaGreatDoorProg
set_option linter.all false
set_option maxRecDepth 100000
set_option maxHeartbeats 4000000
namespace Go.Proofs.Dev
open Go Go.Tm
def ce:List (Nat×List Nat):=[(41,[0,0,0]),(47,[0,0]),(79,[0,0]),(121,[0,0,0,0])]
theorem tr:Tryz.prog.follows .mixedOrders=true:=by kernel_rfl
end Go.Proofs.Dev
