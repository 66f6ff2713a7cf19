/-
  The functions in the engine form: no condition.
-/
import Derived.Test.YtnlamdfggbdblaaGreatDoorEC
import Derived.Test.YtnlamdfggbdblaaGreatDoorProg
set_option linter.all false
set_option maxRecDepth 100000
set_option maxHeartbeats 4000000
namespace Go.Proofs.Dev
open Go Go.Tm
def ce:List (Nat×List Nat):=[(48,[0,0]),(58,[0,0]),(62,[0,0,0])]
theorem Es:Tryz.prog.follows .mixedOrders=true:=by kernel_rfl
end Go.Proofs.Dev
