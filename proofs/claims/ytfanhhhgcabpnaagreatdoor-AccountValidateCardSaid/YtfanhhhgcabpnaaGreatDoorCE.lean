/-
  The functions in the engine form: no condition.
-/
import Derived.Test.YtfanhhhgcabpnaaGreatDoorEC
import Derived.Test.YtfanhhhgcabpnaaGreatDoorProg
set_option linter.all false
set_option maxRecDepth 100000
set_option maxHeartbeats 4000000
namespace Go.Proofs.Dev
open Go Go.Tm
def ce:List (Nat×List Nat):=[(58,[0,0]),(77,[0,0,0,0,0,0,0,0,0]),(82,[0,0,0,0]),(101,[0,0,0,0]),(114,[0,0,0,0,0,0,0])]
theorem hmix:Tryz.prog.follows .mixedOrders=true:=by kernel_rfl
end Go.Proofs.Dev
