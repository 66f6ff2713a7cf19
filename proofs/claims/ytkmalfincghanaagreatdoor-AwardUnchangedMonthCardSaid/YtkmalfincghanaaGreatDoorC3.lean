/-
  The functions in the engine form: no condition.
-/
import Derived.Test.YtkmalfincghanaaGreatDoorCE
set_option linter.all false
set_option maxRecDepth 100000
set_option maxHeartbeats 4000000
namespace Go.Proofs.Dev
open Go Go.Tm
def k4:Kf Tryz.prog 4:=.of ce
def k9:Kf Tryz.prog 9:=.of ce
def k20:Kf Tryz.prog 20:=.of ce
def k24:Kf Tryz.prog 24:=.of ce
def k37:Kf Tryz.prog 37:=.of ce
def k45:Kf Tryz.prog 45:=.of ce
def k49:Kf Tryz.prog 49:=.of ce
def k64:Kf Tryz.prog 64:=.of ce
def k69:Kf Tryz.prog 69:=.of ce
def k70:Kf Tryz.prog 70:=.of ce
def k75:Kf Tryz.prog 75:=.of ce
def k80:Kf Tryz.prog 80:=.of ce
def k85:Kf Tryz.prog 85:=.of ce
def k87:Kf Tryz.prog 87:=.of ce
def K5:Kf Tryz.prog 114:=.of ce
def VZ:Kf Tryz.prog 115:=.of ce
def u5:Kf Tryz.prog 121:=.of ce
def L7:Kf Tryz.prog 123:=.of ce
def I4:Kf Tryz.prog 125:=.of ce
def S3:Kf Tryz.prog 159:=.of ce
def L6:Kf Tryz.prog 160:=.of ce
def o8:Kf Tryz.prog 162:=.of ce
def H7:Kf Tryz.prog 165:=.of ce
def Z6:Kf Tryz.prog 170:=.of ce
def uZ:Kf Tryz.prog 190:=.of ce
def k205:Kf Tryz.prog 205:=.of ce
def jY:Kf Tryz.prog 207:=.of ce
def BV:Kf Tryz.prog 209:=.of ce
def K6:Kf Tryz.prog 211:=.of ce
def N0:Kf Tryz.prog 227:=.of ce
def tX:Kf Tryz.prog 231:=.of ce
def tV:Kf Tryz.prog 234:=.of ce
def y5:Kf Tryz.prog 238:=.of ce
def kY:Kf Tryz.prog 241:=.of ce
def JZ:Kf Tryz.prog 244:=.of ce
def V6:Kf Tryz.prog 245:=.of ce
def q7:Kf Tryz.prog 247:=.of ce
def O7:Kf Tryz.prog 248:=.of ce
def A7:Kf Tryz.prog 251:=.of ce
def a7:Kf Tryz.prog 277:=.of ce
def X7:Kf Tryz.prog 279:=.of ce
def B6:Kf Tryz.prog 281:=.of ce
def K7:Kf Tryz.prog 302:=.of ce
def W6:Kf Tryz.prog 305:=.of ce
def X4:Kf Tryz.prog 333:=.of ce
def P5:Kf Tryz.prog 337:=.of ce
def B1:Kf Tryz.prog 338:=.of ce
def r7:Kf Tryz.prog 340:=.of ce
def y6:Kf Tryz.prog 341:=.of ce
def D5:Kf Tryz.prog 343:=.of ce
def L2:Kf Tryz.prog 366:=.of ce
def aT:Kf Tryz.prog 369:=.of ce
def U3:Kf Tryz.prog 373:=.of ce
def xW:Kf Tryz.prog 408:=.of ce
end Go.Proofs.Dev
namespace Go.Proofs.Dev
open Go Go.Tm
end Go.Proofs.Dev
