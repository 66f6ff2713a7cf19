/-
  The functions in the engine form: no condition.
-/
import Derived.Test.YtjiaejcpmcknnaaGreatDoorCE
set_option linter.all false
set_option maxRecDepth 100000
set_option maxHeartbeats 4000000
namespace Go.Proofs.Dev
open Go Go.Tm
def k3:Kf Tryz.prog 3:=.of ce
def k22:Kf Tryz.prog 22:=.of ce
def k51:Kf Tryz.prog 51:=.of ce
def k59:Kf Tryz.prog 59:=.of ce
def k63:Kf Tryz.prog 63:=.of ce
def k69:Kf Tryz.prog 69:=.of ce
def k74:Kf Tryz.prog 74:=.of ce
def k75:Kf Tryz.prog 75:=.of ce
def k78:Kf Tryz.prog 78:=.of ce
def k88:Kf Tryz.prog 88:=.of ce
def k92:Kf Tryz.prog 92:=.of ce
def k98:Kf Tryz.prog 98:=.of ce
def k99:Kf Tryz.prog 99:=.of ce
def U3:Kf Tryz.prog 100:=.of ce
def q4:Kf Tryz.prog 108:=.of ce
def G4:Kf Tryz.prog 120:=.of ce
def L4:Kf Tryz.prog 127:=.of ce
def S4:Kf Tryz.prog 134:=.of ce
def Z4:Kf Tryz.prog 141:=.of ce
def q5:Kf Tryz.prog 144:=.of ce
def r5:Kf Tryz.prog 145:=.of ce
def A5:Kf Tryz.prog 149:=.of ce
def C5:Kf Tryz.prog 151:=.of ce
def K5:Kf Tryz.prog 164:=.of ce
def PY:Kf Tryz.prog 169:=.of ce
def QY:Kf Tryz.prog 175:=.of ce
def U5:Kf Tryz.prog 176:=.of ce
def SY:Kf Tryz.prog 179:=.of ce
def l6:Kf Tryz.prog 186:=.of ce
def o6:Kf Tryz.prog 188:=.of ce
def w6:Kf Tryz.prog 192:=.of ce
def y6:Kf Tryz.prog 193:=.of ce
def F6:Kf Tryz.prog 199:=.of ce
def G6:Kf Tryz.prog 200:=.of ce
def H6:Kf Tryz.prog 201:=.of ce
def I6:Kf Tryz.prog 202:=.of ce
def J6:Kf Tryz.prog 203:=.of ce
def M6:Kf Tryz.prog 206:=.of ce
def U6:Kf Tryz.prog 227:=.of ce
def V6:Kf Tryz.prog 228:=.of ce
def W6:Kf Tryz.prog 229:=.of ce
def UY:Kf Tryz.prog 236:=.of ce
def l7:Kf Tryz.prog 238:=.of ce
def r7:Kf Tryz.prog 243:=.of ce
def D7:Kf Tryz.prog 250:=.of ce
def F7:Kf Tryz.prog 252:=.of ce
def I7:Kf Tryz.prog 255:=.of ce
def K7:Kf Tryz.prog 263:=.of ce
def L7:Kf Tryz.prog 264:=.of ce
def M7:Kf Tryz.prog 265:=.of ce
def N7:Kf Tryz.prog 266:=.of ce
def Q7:Kf Tryz.prog 272:=.of ce
def R7:Kf Tryz.prog 273:=.of ce
def S7:Kf Tryz.prog 274:=.of ce
def YY:Kf Tryz.prog 281:=.of ce
def Y7:Kf Tryz.prog 283:=.of ce
def r8:Kf Tryz.prog 302:=.of ce
def E8:Kf Tryz.prog 325:=.of ce
def F8:Kf Tryz.prog 327:=.of ce
def G8:Kf Tryz.prog 328:=.of ce
end Go.Proofs.Dev
