/-
  The functions in the engine form: no condition.
-/
import Derived.Test.YtjiaejcpmcknnaaGreatDoorCE
set_option linter.all false
set_option maxRecDepth 100000
set_option maxHeartbeats 4000000
namespace Go.Proofs.Dev
open Go Go.Tm
def k15:Kf Tryz.prog 15:=.of ce
def k17:Kf Tryz.prog 17:=.of ce
def n7:Kf Tryz.prog 24:=.of ce
def k25:Kf Tryz.prog 25:=.of ce
def k45:Kf Tryz.prog 45:=.of ce
def k46:Kf Tryz.prog 46:=.of ce
def k54:Kf Tryz.prog 54:=.of ce
def k67:Kf Tryz.prog 67:=.of ce
def k70:Kf Tryz.prog 70:=.of ce
def k71:Kf Tryz.prog 71:=.of ce
def k73:Kf Tryz.prog 73:=.of ce
def k81:Kf Tryz.prog 81:=.of ce
def k89:Kf Tryz.prog 89:=.of ce
def k93:Kf Tryz.prog 93:=.of ce
def k94:Kf Tryz.prog 94:=.of ce
def k95:Kf Tryz.prog 95:=.of ce
def V3:Kf Tryz.prog 101:=.of ce
def n4:Kf Tryz.prog 106:=.of ce
def o4:Kf Tryz.prog 107:=.of ce
def F4:Kf Tryz.prog 117:=.of ce
def H4:Kf Tryz.prog 121:=.of ce
def K4:Kf Tryz.prog 126:=.of ce
def Q4:Kf Tryz.prog 132:=.of ce
def U4:Kf Tryz.prog 136:=.of ce
def V4:Kf Tryz.prog 137:=.of ce
def X4:Kf Tryz.prog 139:=.of ce
def Y4:Kf Tryz.prog 140:=.of ce
def o5:Kf Tryz.prog 143:=.of ce
def u5:Kf Tryz.prog 146:=.of ce
def y5:Kf Tryz.prog 148:=.of ce
def G5:Kf Tryz.prog 157:=.of ce
def H5:Kf Tryz.prog 158:=.of ce
def J5:Kf Tryz.prog 163:=.of ce
def L5:Kf Tryz.prog 165:=.of ce
def M5:Kf Tryz.prog 166:=.of ce
def O5:Kf Tryz.prog 168:=.of ce
def R5:Kf Tryz.prog 172:=.of ce
def W5:Kf Tryz.prog 180:=.of ce
def i6:Kf Tryz.prog 185:=.of ce
def n6:Kf Tryz.prog 187:=.of ce
def q6:Kf Tryz.prog 189:=.of ce
def r6:Kf Tryz.prog 190:=.of ce
def B6:Kf Tryz.prog 195:=.of ce
def Y6:Kf Tryz.prog 231:=.of ce
def Z6:Kf Tryz.prog 232:=.of ce
def k7:Kf Tryz.prog 234:=.of ce
def WY:Kf Tryz.prog 239:=.of ce
def w7:Kf Tryz.prog 246:=.of ce
def A7:Kf Tryz.prog 247:=.of ce
def G7:Kf Tryz.prog 253:=.of ce
def a8:Kf Tryz.prog 286:=.of ce
def n8:Kf Tryz.prog 295:=.of ce
def o8:Kf Tryz.prog 296:=.of ce
def p8:Kf Tryz.prog 300:=.of ce
def w8:Kf Tryz.prog 305:=.of ce
def A8:Kf Tryz.prog 309:=.of ce
def B8:Kf Tryz.prog 311:=.of ce
def vT:Kf Tryz.prog 312:=.of ce
def D8:Kf Tryz.prog 324:=.of ce
def H8:Kf Tryz.prog 329:=.of ce
end Go.Proofs.Dev
