/-
  The functions in the engine form: no condition.
-/
import Derived.Test.YtadinajclolmnaaGreatDoorEC
import Derived.Test.YtadinajclolmnaaGreatDoorProg
set_option linter.all false
set_option maxRecDepth 100000
set_option maxHeartbeats 4000000
namespace Go.Proofs.Dev
open Go Go.Tm
def ce:List (Nat×List Nat):=[(62,[0,0,0,0,0]),(79,[0,0,0,0]),(96,[0,0]),(125,[0,0,0,0,0,0,0,0,0]),(168,[0,0,0,0,0,0,0]),(231,[0,0,0,0])]
theorem Ie:Tryz.prog.follows .mixedOrders=true:=by kernel_rfl
end Go.Proofs.Dev
