/-
  The functions in the engine form: no condition.
-/
import Derived.Test.YtkmalfincghanaaGreatDoorCE
set_option linter.all false
set_option maxRecDepth 100000
set_option maxHeartbeats 4000000
namespace Go.Proofs.Dev
open Go Go.Tm
def k6:Kf Tryz.prog 6:=.of ce
def k7:Kf Tryz.prog 7:=.of ce
def k10:Kf Tryz.prog 10:=.of ce
def k16:Kf Tryz.prog 16:=.of ce
def k25:Kf Tryz.prog 25:=.of ce
def k28:Kf Tryz.prog 28:=.of ce
def k40:Kf Tryz.prog 40:=.of ce
def k42:Kf Tryz.prog 42:=.of ce
def k44:Kf Tryz.prog 44:=.of ce
def k46:Kf Tryz.prog 46:=.of ce
def k48:Kf Tryz.prog 48:=.of ce
def k50:Kf Tryz.prog 50:=.of ce
def k67:Kf Tryz.prog 67:=.of ce
def k71:Kf Tryz.prog 71:=.of ce
def k76:Kf Tryz.prog 76:=.of ce
def k81:Kf Tryz.prog 81:=.of ce
def k83:Kf Tryz.prog 83:=.of ce
def B8:Kf Tryz.prog 86:=.of ce
def K3:Kf Tryz.prog 119:=.of ce
def V1:Kf Tryz.prog 127:=.of ce
def H5:Kf Tryz.prog 130:=.of ce
def L5:Kf Tryz.prog 158:=.of ce
def U0:Kf Tryz.prog 169:=.of ce
def MZ:Kf Tryz.prog 191:=.of ce
def Q1:Kf Tryz.prog 193:=.of ce
def aW:Kf Tryz.prog 196:=.of ce
def F5:Kf Tryz.prog 197:=.of ce
def bW:Kf Tryz.prog 200:=.of ce
def z7:Kf Tryz.prog 201:=.of ce
def F0:Kf Tryz.prog 202:=.of ce
def FY:Kf Tryz.prog 208:=.of ce
def NY:Kf Tryz.prog 210:=.of ce
def G3:Kf Tryz.prog 213:=.of ce
def NZ:Kf Tryz.prog 246:=.of ce
def cX:Kf Tryz.prog 269:=.of ce
def dZ:Kf Tryz.prog 270:=.of ce
def R6:Kf Tryz.prog 272:=.of ce
def W4:Kf Tryz.prog 280:=.of ce
def o5:Kf Tryz.prog 299:=.of ce
def Y5:Kf Tryz.prog 301:=.of ce
def EZ:Kf Tryz.prog 304:=.of ce
def P0:Kf Tryz.prog 309:=.of ce
def E6:Kf Tryz.prog 310:=.of ce
def J5:Kf Tryz.prog 329:=.of ce
def HZ:Kf Tryz.prog 330:=.of ce
def O2:Kf Tryz.prog 332:=.of ce
def R5:Kf Tryz.prog 344:=.of ce
def I7:Kf Tryz.prog 367:=.of ce
def Q2:Kf Tryz.prog 375:=.of ce
def O5:Kf Tryz.prog 389:=.of ce
def X5:Kf Tryz.prog 391:=.of ce
def IV:Kf Tryz.prog 411:=.of ce
end Go.Proofs.Dev
