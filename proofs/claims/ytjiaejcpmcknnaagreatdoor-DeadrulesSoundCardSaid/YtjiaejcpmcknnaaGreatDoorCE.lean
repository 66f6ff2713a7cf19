/-
  The functions in the engine form: no condition.
-/
import Derived.Test.YtjiaejcpmcknnaaGreatDoorEC
import Derived.Test.YtjiaejcpmcknnaaGreatDoorProg
set_option linter.all false
set_option maxRecDepth 100000
set_option maxHeartbeats 4000000
namespace Go.Proofs.Dev
open Go Go.Tm
def ce:List (Nat×List Nat):=[(40,[0,0,0,0]),(66,[0,0]),(76,[0,0]),(81,[0,0,0])]
theorem Ho:Tryz.prog.follows .mixedOrders=true:=by kernel_rfl
end Go.Proofs.Dev
