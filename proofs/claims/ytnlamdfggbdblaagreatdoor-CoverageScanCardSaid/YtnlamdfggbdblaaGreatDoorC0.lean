/-
  The functions in the engine form: no condition.
-/
import Derived.Test.YtnlamdfggbdblaaGreatDoorCE
set_option linter.all false
set_option maxRecDepth 100000
set_option maxHeartbeats 4000000
namespace Go.Proofs.Dev
open Go Go.Tm
def k3:Kf Tryz.prog 3:=.of ce
def k5:Kf Tryz.prog 5:=.of ce
def k7:Kf Tryz.prog 7:=.of ce
def k9:Kf Tryz.prog 9:=.of ce
def k10:Kf Tryz.prog 10:=.of ce
def L4:Kf Tryz.prog 16:=.of ce
def k23:Kf Tryz.prog 23:=.of ce
def k25:Kf Tryz.prog 25:=.of ce
def k28:Kf Tryz.prog 28:=.of ce
def k30:Kf Tryz.prog 30:=.of ce
def k38:Kf Tryz.prog 38:=.of ce
def k48:Kf Tryz.prog 48:=.of ce
def k55:Kf Tryz.prog 55:=.of ce
def k57:Kf Tryz.prog 57:=.of ce
def k61:Kf Tryz.prog 61:=.of ce
def k65:Kf Tryz.prog 65:=.of ce
def k67:Kf Tryz.prog 67:=.of ce
def k68:Kf Tryz.prog 68:=.of ce
def k70:Kf Tryz.prog 70:=.of ce
def k71:Kf Tryz.prog 71:=.of ce
def k72:Kf Tryz.prog 72:=.of ce
def k75:Kf Tryz.prog 75:=.of ce
def k76:Kf Tryz.prog 76:=.of ce
def k84:Kf Tryz.prog 84:=.of ce
def k85:Kf Tryz.prog 85:=.of ce
def k87:Kf Tryz.prog 87:=.of ce
def k95:Kf Tryz.prog 95:=.of ce
def k96:Kf Tryz.prog 96:=.of ce
def N2:Kf Tryz.prog 101:=.of ce
def T2:Kf Tryz.prog 105:=.of ce
def V2:Kf Tryz.prog 107:=.of ce
def y3:Kf Tryz.prog 114:=.of ce
def B3:Kf Tryz.prog 116:=.of ce
def G3:Kf Tryz.prog 121:=.of ce
def K3:Kf Tryz.prog 125:=.of ce
def M3:Kf Tryz.prog 127:=.of ce
def w4:Kf Tryz.prog 146:=.of ce
def y4:Kf Tryz.prog 147:=.of ce
def B4:Kf Tryz.prog 149:=.of ce
def C4:Kf Tryz.prog 150:=.of ce
def F4:Kf Tryz.prog 153:=.of ce
def mY:Kf Tryz.prog 157:=.of ce
def J4:Kf Tryz.prog 158:=.of ce
def K4:Kf Tryz.prog 159:=.of ce
def P4:Kf Tryz.prog 164:=.of ce
def oY:Kf Tryz.prog 165:=.of ce
def R4:Kf Tryz.prog 168:=.of ce
def X4:Kf Tryz.prog 174:=.of ce
def q5:Kf Tryz.prog 179:=.of ce
def u5:Kf Tryz.prog 192:=.of ce
def w5:Kf Tryz.prog 193:=.of ce
def y5:Kf Tryz.prog 194:=.of ce
def A5:Kf Tryz.prog 195:=.of ce
def C5:Kf Tryz.prog 197:=.of ce
def Q5:Kf Tryz.prog 212:=.of ce
def T5:Kf Tryz.prog 215:=.of ce
def sY:Kf Tryz.prog 219:=.of ce
def X5:Kf Tryz.prog 224:=.of ce
def Z5:Kf Tryz.prog 226:=.of ce
def o6:Kf Tryz.prog 237:=.of ce
def A6:Kf Tryz.prog 246:=.of ce
def F6:Kf Tryz.prog 254:=.of ce
def T6:Kf Tryz.prog 283:=.of ce
def U6:Kf Tryz.prog 284:=.of ce
end Go.Proofs.Dev
