/-
  The functions in the engine form: no condition.
-/
import Derived.Test.YtmhfebelfmgckaaGreatDoorEC
import Derived.Test.YtmhfebelfmgckaaGreatDoorProg
set_option linter.all false
set_option maxRecDepth 100000
set_option maxHeartbeats 4000000
namespace Go.Proofs.Dev
open Go Go.Tm
def ce:List (Nat×List Nat):=[(41,[0,0,0]),(61,[0,0,0,0,0,0,0,0,0]),(98,[0,0,0,0]),(100,[0,0,0,0]),(117,[0,0,0,0,0,0,0]),(126,[0,0]),(199,[0,0,0,0])]
theorem rz:Tryz.prog.follows .mixedOrders=true:=by kernel_rfl
end Go.Proofs.Dev
