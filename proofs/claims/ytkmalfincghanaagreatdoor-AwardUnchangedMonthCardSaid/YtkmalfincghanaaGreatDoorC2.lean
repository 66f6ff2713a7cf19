/-
  The functions in the engine form: no condition.
-/
import Derived.Test.YtkmalfincghanaaGreatDoorCE
set_option linter.all false
set_option maxRecDepth 100000
set_option maxHeartbeats 4000000
namespace Go.Proofs.Dev
open Go Go.Tm
def k11:Kf Tryz.prog 11:=.of ce
def k18:Kf Tryz.prog 18:=.of ce
def k22:Kf Tryz.prog 22:=.of ce
def k26:Kf Tryz.prog 26:=.of ce
def k27:Kf Tryz.prog 27:=.of ce
def k33:Kf Tryz.prog 33:=.of ce
def k36:Kf Tryz.prog 36:=.of ce
def k38:Kf Tryz.prog 38:=.of ce
def k39:Kf Tryz.prog 39:=.of ce
def k43:Kf Tryz.prog 43:=.of ce
def k66:Kf Tryz.prog 66:=.of ce
def k68:Kf Tryz.prog 68:=.of ce
def k72:Kf Tryz.prog 72:=.of ce
def k73:Kf Tryz.prog 73:=.of ce
def k79:Kf Tryz.prog 79:=.of ce
def k84:Kf Tryz.prog 84:=.of ce
def k88:Kf Tryz.prog 88:=.of ce
def U1:Kf Tryz.prog 116:=.of ce
def S6:Kf Tryz.prog 117:=.of ce
def G0:Kf Tryz.prog 118:=.of ce
def C4:Kf Tryz.prog 122:=.of ce
def Q6:Kf Tryz.prog 126:=.of ce
def M6:Kf Tryz.prog 128:=.of ce
def A1:Kf Tryz.prog 129:=.of ce
def ZZ:Kf Tryz.prog 131:=.of ce
def F2:Kf Tryz.prog 156:=.of ce
def OX:Kf Tryz.prog 167:=.of ce
def A4:Kf Tryz.prog 168:=.of ce
def R3:Kf Tryz.prog 189:=.of ce
def T7:Kf Tryz.prog 194:=.of ce
def xY:Kf Tryz.prog 198:=.of ce
def L0:Kf Tryz.prog 199:=.of ce
def u6:Kf Tryz.prog 206:=.of ce
def E0:Kf Tryz.prog 212:=.of ce
def z6:Kf Tryz.prog 228:=.of ce
def J3:Kf Tryz.prog 229:=.of ce
def EY:Kf Tryz.prog 230:=.of ce
def r5:Kf Tryz.prog 237:=.of ce
def B3:Kf Tryz.prog 249:=.of ce
def L4:Kf Tryz.prog 250:=.of ce
def l6:Kf Tryz.prog 273:=.of ce
def N3:Kf Tryz.prog 275:=.of ce
def V3:Kf Tryz.prog 276:=.of ce
def w7:Kf Tryz.prog 300:=.of ce
def F4:Kf Tryz.prog 303:=.of ce
def F7:Kf Tryz.prog 306:=.of ce
def B0:Kf Tryz.prog 331:=.of ce
def B7:Kf Tryz.prog 336:=.of ce
def Q0:Kf Tryz.prog 368:=.of ce
def u7:Kf Tryz.prog 370:=.of ce
def SZ:Kf Tryz.prog 371:=.of ce
def U7:Kf Tryz.prog 372:=.of ce
def B5:Kf Tryz.prog 387:=.of ce
def J1:Kf Tryz.prog 390:=.of ce
def oY:Kf Tryz.prog 409:=.of ce
def mY:Kf Tryz.prog 410:=.of ce
end Go.Proofs.Dev
