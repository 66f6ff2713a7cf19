/-
  The functions in the engine form: no condition.
-/
import Derived.Test.YtnlamdfggbdblaaGreatDoorCE
set_option linter.all false
set_option maxRecDepth 100000
set_option maxHeartbeats 4000000
namespace Go.Proofs.Dev
open Go Go.Tm
def k4:Kf Tryz.prog 4:=.of ce
def k8:Kf Tryz.prog 8:=.of ce
def k11:Kf Tryz.prog 11:=.of ce
def k13:Kf Tryz.prog 13:=.of ce
def k14:Kf Tryz.prog 14:=.of ce
def k15:Kf Tryz.prog 15:=.of ce
def k18:Kf Tryz.prog 18:=.of ce
def k24:Kf Tryz.prog 24:=.of ce
def k26:Kf Tryz.prog 26:=.of ce
def k32:Kf Tryz.prog 32:=.of ce
def k34:Kf Tryz.prog 34:=.of ce
def k35:Kf Tryz.prog 35:=.of ce
def k37:Kf Tryz.prog 37:=.of ce
def K8:Kf Tryz.prog 41:=.of ce
def k42:Kf Tryz.prog 42:=.of ce
def k47:Kf Tryz.prog 47:=.of ce
def k54:Kf Tryz.prog 54:=.of ce
def k56:Kf Tryz.prog 56:=.of ce
def k69:Kf Tryz.prog 69:=.of ce
def k82:Kf Tryz.prog 82:=.of ce
def k83:Kf Tryz.prog 83:=.of ce
def k86:Kf Tryz.prog 86:=.of ce
def k91:Kf Tryz.prog 91:=.of ce
def k93:Kf Tryz.prog 93:=.of ce
def k99:Kf Tryz.prog 99:=.of ce
def P2:Kf Tryz.prog 103:=.of ce
def Q2:Kf Tryz.prog 104:=.of ce
def W2:Kf Tryz.prog 108:=.of ce
def X2:Kf Tryz.prog 109:=.of ce
def Z2:Kf Tryz.prog 111:=.of ce
def n3:Kf Tryz.prog 112:=.of ce
def A3:Kf Tryz.prog 115:=.of ce
def D3:Kf Tryz.prog 118:=.of ce
def F3:Kf Tryz.prog 120:=.of ce
def H3:Kf Tryz.prog 122:=.of ce
def J3:Kf Tryz.prog 124:=.of ce
def L3:Kf Tryz.prog 126:=.of ce
def U3:Kf Tryz.prog 137:=.of ce
def Y3:Kf Tryz.prog 141:=.of ce
def Z3:Kf Tryz.prog 142:=.of ce
def n4:Kf Tryz.prog 143:=.of ce
def r4:Kf Tryz.prog 145:=.of ce
def M4:Kf Tryz.prog 160:=.of ce
def nY:Kf Tryz.prog 163:=.of ce
def pY:Kf Tryz.prog 167:=.of ce
def Z4:Kf Tryz.prog 176:=.of ce
def n5:Kf Tryz.prog 177:=.of ce
def r5:Kf Tryz.prog 191:=.of ce
def D5:Kf Tryz.prog 198:=.of ce
def I5:Kf Tryz.prog 204:=.of ce
def L5:Kf Tryz.prog 207:=.of ce
def M5:Kf Tryz.prog 208:=.of ce
def P5:Kf Tryz.prog 211:=.of ce
def R5:Kf Tryz.prog 213:=.of ce
def S5:Kf Tryz.prog 214:=.of ce
def U5:Kf Tryz.prog 216:=.of ce
def rY:Kf Tryz.prog 218:=.of ce
def i6:Kf Tryz.prog 228:=.of ce
def q6:Kf Tryz.prog 238:=.of ce
def r6:Kf Tryz.prog 239:=.of ce
def u6:Kf Tryz.prog 240:=.of ce
def D6:Kf Tryz.prog 252:=.of ce
def M6:Kf Tryz.prog 266:=.of ce
def O6:Kf Tryz.prog 270:=.of ce
def P6:Kf Tryz.prog 274:=.of ce
def Y6:Kf Tryz.prog 309:=.of ce
def k20:Kf Tryz.prog 20:=.of ce
def k21:Kf Tryz.prog 21:=.of ce
def k31:Kf Tryz.prog 31:=.of ce
end Go.Proofs.Dev
