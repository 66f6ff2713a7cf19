/-
  The functions in the engine form: no condition.
-/
import Derived.Test.YtkmalfincghanaaGreatDoorCE
set_option linter.all false
set_option maxRecDepth 100000
set_option maxHeartbeats 4000000
namespace Go.Proofs.Dev
open Go Go.Tm
def k3:Kf Tryz.prog 3:=.of ce
def k5:Kf Tryz.prog 5:=.of ce
def k13:Kf Tryz.prog 13:=.of ce
def k14:Kf Tryz.prog 14:=.of ce
def k19:Kf Tryz.prog 19:=.of ce
def L8:Kf Tryz.prog 23:=.of ce
def k41:Kf Tryz.prog 41:=.of ce
def k47:Kf Tryz.prog 47:=.of ce
def k65:Kf Tryz.prog 65:=.of ce
def k74:Kf Tryz.prog 74:=.of ce
def k77:Kf Tryz.prog 77:=.of ce
def k78:Kf Tryz.prog 78:=.of ce
def k82:Kf Tryz.prog 82:=.of ce
def A5:Kf Tryz.prog 120:=.of ce
def P7:Kf Tryz.prog 124:=.of ce
def a8:Kf Tryz.prog 154:=.of ce
def RZ:Kf Tryz.prog 155:=.of ce
def M0:Kf Tryz.prog 157:=.of ce
def O0:Kf Tryz.prog 161:=.of ce
def X2:Kf Tryz.prog 163:=.of ce
def Z2:Kf Tryz.prog 164:=.of ce
def I3:Kf Tryz.prog 166:=.of ce
def C6:Kf Tryz.prog 192:=.of ce
def W2:Kf Tryz.prog 195:=.of ce
def b6:Kf Tryz.prog 203:=.of ce
def v7:Kf Tryz.prog 204:=.of ce
def K1:Kf Tryz.prog 214:=.of ce
def zX:Kf Tryz.prog 232:=.of ce
def O4:Kf Tryz.prog 233:=.of ce
def G4:Kf Tryz.prog 235:=.of ce
def AW:Kf Tryz.prog 236:=.of ce
def N4:Kf Tryz.prog 239:=.of ce
def C7:Kf Tryz.prog 240:=.of ce
def XV:Kf Tryz.prog 242:=.of ce
def QW:Kf Tryz.prog 243:=.of ce
def WZ:Kf Tryz.prog 271:=.of ce
def Z0:Kf Tryz.prog 274:=.of ce
def W3:Kf Tryz.prog 278:=.of ce
def G7:Kf Tryz.prog 298:=.of ce
def M7:Kf Tryz.prog 307:=.of ce
def FZ:Kf Tryz.prog 308:=.of ce
def P6:Kf Tryz.prog 334:=.of ce
def P4:Kf Tryz.prog 335:=.of ce
def Y2:Kf Tryz.prog 339:=.of ce
def S7:Kf Tryz.prog 342:=.of ce
def Q7:Kf Tryz.prog 374:=.of ce
def L1:Kf Tryz.prog 388:=.of ce
end Go.Proofs.Dev
