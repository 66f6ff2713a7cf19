/-
  The functions in the engine form: no condition.
-/
import Derived.Test.YtiiaahokaekaeaaGreatDoorEC
import Derived.Test.YtiiaahokaekaeaaGreatDoorProg
set_option linter.all false
set_option maxRecDepth 100000
set_option maxHeartbeats 4000000
namespace Go.Proofs.Dev
open Go Go.Tm
def ce:List (Nat×List Nat):=[(56,[0,0]),(63,[0,0]),(66,[0,0,0])]
theorem hmix:Tryz.prog.follows .mixedOrders=true:=by kernel_rfl
end Go.Proofs.Dev
