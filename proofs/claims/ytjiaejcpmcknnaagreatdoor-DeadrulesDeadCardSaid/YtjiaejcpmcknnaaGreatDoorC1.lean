/-
  The functions in the engine form: no condition.
-/
import Derived.Test.YtjiaejcpmcknnaaGreatDoorCE
set_option linter.all false
set_option maxRecDepth 100000
set_option maxHeartbeats 4000000
namespace Go.Proofs.Dev
open Go Go.Tm
def k4:Kf Tryz.prog 4:=.of ce
def k14:Kf Tryz.prog 14:=.of ce
def k16:Kf Tryz.prog 16:=.of ce
def k20:Kf Tryz.prog 20:=.of ce
def k23:Kf Tryz.prog 23:=.of ce
def k32:Kf Tryz.prog 32:=.of ce
def k39:Kf Tryz.prog 39:=.of ce
def k50:Kf Tryz.prog 50:=.of ce
def k52:Kf Tryz.prog 52:=.of ce
def k53:Kf Tryz.prog 53:=.of ce
def k57:Kf Tryz.prog 57:=.of ce
def k58:Kf Tryz.prog 58:=.of ce
def k60:Kf Tryz.prog 60:=.of ce
def k61:Kf Tryz.prog 61:=.of ce
def k62:Kf Tryz.prog 62:=.of ce
def k66:Kf Tryz.prog 66:=.of ce
def k68:Kf Tryz.prog 68:=.of ce
def k76:Kf Tryz.prog 76:=.of ce
def k82:Kf Tryz.prog 82:=.of ce
def k85:Kf Tryz.prog 85:=.of ce
def k90:Kf Tryz.prog 90:=.of ce
def k96:Kf Tryz.prog 96:=.of ce
def W3:Kf Tryz.prog 102:=.of ce
def X3:Kf Tryz.prog 103:=.of ce
def Y3:Kf Tryz.prog 104:=.of ce
def Z3:Kf Tryz.prog 105:=.of ce
def y4:Kf Tryz.prog 111:=.of ce
def B4:Kf Tryz.prog 113:=.of ce
def C4:Kf Tryz.prog 114:=.of ce
def M4:Kf Tryz.prog 128:=.of ce
def P4:Kf Tryz.prog 131:=.of ce
def T4:Kf Tryz.prog 135:=.of ce
def W4:Kf Tryz.prog 138:=.of ce
def B5:Kf Tryz.prog 150:=.of ce
def E5:Kf Tryz.prog 153:=.of ce
def I5:Kf Tryz.prog 159:=.of ce
def P5:Kf Tryz.prog 170:=.of ce
def RY:Kf Tryz.prog 177:=.of ce
def V5:Kf Tryz.prog 178:=.of ce
def u6:Kf Tryz.prog 191:=.of ce
def A6:Kf Tryz.prog 194:=.of ce
def C6:Kf Tryz.prog 196:=.of ce
def D6:Kf Tryz.prog 197:=.of ce
def L6:Kf Tryz.prog 205:=.of ce
def N6:Kf Tryz.prog 218:=.of ce
def R6:Kf Tryz.prog 222:=.of ce
def S6:Kf Tryz.prog 223:=.of ce
def T6:Kf Tryz.prog 224:=.of ce
def i7:Kf Tryz.prog 233:=.of ce
def VY:Kf Tryz.prog 237:=.of ce
def o7:Kf Tryz.prog 241:=.of ce
def q7:Kf Tryz.prog 242:=.of ce
def C7:Kf Tryz.prog 249:=.of ce
def H7:Kf Tryz.prog 254:=.of ce
def P7:Kf Tryz.prog 271:=.of ce
def T7:Kf Tryz.prog 276:=.of ce
def V7:Kf Tryz.prog 278:=.of ce
def W7:Kf Tryz.prog 279:=.of ce
def X7:Kf Tryz.prog 280:=.of ce
def ZY:Kf Tryz.prog 282:=.of ce
def Z7:Kf Tryz.prog 284:=.of ce
def K8:Kf Tryz.prog 352:=.of ce
end Go.Proofs.Dev
