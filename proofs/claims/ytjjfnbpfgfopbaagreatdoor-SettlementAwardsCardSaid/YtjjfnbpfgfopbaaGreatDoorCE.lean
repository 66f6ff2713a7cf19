/-
  The functions in the engine form: no condition.
-/
import Derived.Test.YtjjfnbpfgfopbaaGreatDoorEC
import Derived.Test.YtjjfnbpfgfopbaaGreatDoorProg
set_option linter.all false
set_option maxRecDepth 100000
set_option maxHeartbeats 4000000
namespace Go.Proofs.Dev
open Go Go.Tm
def ce:List (Nat×List Nat):=[(44,[0,0,0,0,0,0,0,0,0]),(64,[0,0,0,0]),(92,[0,0,0,0,0,0,0]),(123,[0,0]),(141,[0,0,0,0])]
theorem Hw:Tryz.prog.follows .mixedOrders=true:=by kernel_rfl
end Go.Proofs.Dev
