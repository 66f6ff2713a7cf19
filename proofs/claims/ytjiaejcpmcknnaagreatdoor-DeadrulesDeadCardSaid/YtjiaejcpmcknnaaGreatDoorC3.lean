/-
  The functions in the engine form: no condition.
-/
import Derived.Test.YtjiaejcpmcknnaaGreatDoorCE
set_option linter.all false
set_option maxRecDepth 100000
set_option maxHeartbeats 4000000
namespace Go.Proofs.Dev
open Go Go.Tm
def k5:Kf Tryz.prog 5:=.of ce
def k8:Kf Tryz.prog 8:=.of ce
def k18:Kf Tryz.prog 18:=.of ce
def k21:Kf Tryz.prog 21:=.of ce
def k28:Kf Tryz.prog 28:=.of ce
def k44:Kf Tryz.prog 44:=.of ce
def k48:Kf Tryz.prog 48:=.of ce
def k55:Kf Tryz.prog 55:=.of ce
def k56:Kf Tryz.prog 56:=.of ce
def Y0:Kf Tryz.prog 64:=.of ce
def k65:Kf Tryz.prog 65:=.of ce
def k77:Kf Tryz.prog 77:=.of ce
def k91:Kf Tryz.prog 91:=.of ce
def k97:Kf Tryz.prog 97:=.of ce
def r4:Kf Tryz.prog 109:=.of ce
def w4:Kf Tryz.prog 110:=.of ce
def A4:Kf Tryz.prog 112:=.of ce
def D4:Kf Tryz.prog 115:=.of ce
def E4:Kf Tryz.prog 116:=.of ce
def OY:Kf Tryz.prog 122:=.of ce
def I4:Kf Tryz.prog 124:=.of ce
def J4:Kf Tryz.prog 125:=.of ce
def N4:Kf Tryz.prog 129:=.of ce
def O4:Kf Tryz.prog 130:=.of ce
def R4:Kf Tryz.prog 133:=.of ce
def n5:Kf Tryz.prog 142:=.of ce
def w5:Kf Tryz.prog 147:=.of ce
def D5:Kf Tryz.prog 152:=.of ce
def F5:Kf Tryz.prog 156:=.of ce
def N5:Kf Tryz.prog 167:=.of ce
def Q5:Kf Tryz.prog 171:=.of ce
def S5:Kf Tryz.prog 173:=.of ce
def T5:Kf Tryz.prog 174:=.of ce
def X5:Kf Tryz.prog 181:=.of ce
def Y5:Kf Tryz.prog 182:=.of ce
def Z5:Kf Tryz.prog 183:=.of ce
def a6:Kf Tryz.prog 184:=.of ce
def E6:Kf Tryz.prog 198:=.of ce
def K6:Kf Tryz.prog 204:=.of ce
def O6:Kf Tryz.prog 219:=.of ce
def P6:Kf Tryz.prog 220:=.of ce
def Q6:Kf Tryz.prog 221:=.of ce
def X6:Kf Tryz.prog 230:=.of ce
def TY:Kf Tryz.prog 235:=.of ce
def XY:Kf Tryz.prog 240:=.of ce
def u7:Kf Tryz.prog 244:=.of ce
def v7:Kf Tryz.prog 245:=.of ce
def B7:Kf Tryz.prog 248:=.of ce
def E7:Kf Tryz.prog 251:=.of ce
def J7:Kf Tryz.prog 262:=.of ce
def O7:Kf Tryz.prog 270:=.of ce
def U7:Kf Tryz.prog 277:=.of ce
def l8:Kf Tryz.prog 290:=.of ce
def q8:Kf Tryz.prog 301:=.of ce
def v8:Kf Tryz.prog 303:=.of ce
def z8:Kf Tryz.prog 306:=.of ce
def C8:Kf Tryz.prog 323:=.of ce
def I8:Kf Tryz.prog 330:=.of ce
def J8:Kf Tryz.prog 340:=.of ce
def L8:Kf Tryz.prog 354:=.of ce
def k47:Kf Tryz.prog 47:=.of ce
def k49:Kf Tryz.prog 49:=.of ce
def k86:Kf Tryz.prog 86:=.of ce
def k87:Kf Tryz.prog 87:=.of ce
end Go.Proofs.Dev
