/-
  The functions in the engine form: no condition.
-/
import Derived.Test.YtnlamdfggbdblaaGreatDoorCE
set_option linter.all false
set_option maxRecDepth 100000
set_option maxHeartbeats 4000000
namespace Go.Proofs.Dev
open Go Go.Tm
def k6:Kf Tryz.prog 6:=.of ce
def k12:Kf Tryz.prog 12:=.of ce
def k17:Kf Tryz.prog 17:=.of ce
def k22:Kf Tryz.prog 22:=.of ce
def k27:Kf Tryz.prog 27:=.of ce
def k33:Kf Tryz.prog 33:=.of ce
def k36:Kf Tryz.prog 36:=.of ce
def k39:Kf Tryz.prog 39:=.of ce
def k43:Kf Tryz.prog 43:=.of ce
def k50:Kf Tryz.prog 50:=.of ce
def k51:Kf Tryz.prog 51:=.of ce
def k52:Kf Tryz.prog 52:=.of ce
def k58:Kf Tryz.prog 58:=.of ce
def k63:Kf Tryz.prog 63:=.of ce
def k64:Kf Tryz.prog 64:=.of ce
def k66:Kf Tryz.prog 66:=.of ce
def k73:Kf Tryz.prog 73:=.of ce
def k79:Kf Tryz.prog 79:=.of ce
def k80:Kf Tryz.prog 80:=.of ce
def k81:Kf Tryz.prog 81:=.of ce
def k89:Kf Tryz.prog 89:=.of ce
def L2:Kf Tryz.prog 100:=.of ce
def C3:Kf Tryz.prog 117:=.of ce
def P3:Kf Tryz.prog 132:=.of ce
def R3:Kf Tryz.prog 134:=.of ce
def T3:Kf Tryz.prog 136:=.of ce
def V3:Kf Tryz.prog 138:=.of ce
def E4:Kf Tryz.prog 152:=.of ce
def I4:Kf Tryz.prog 156:=.of ce
def N4:Kf Tryz.prog 161:=.of ce
def O4:Kf Tryz.prog 162:=.of ce
def Q4:Kf Tryz.prog 166:=.of ce
def V4:Kf Tryz.prog 172:=.of ce
def Y4:Kf Tryz.prog 175:=.of ce
def o5:Kf Tryz.prog 178:=.of ce
def B5:Kf Tryz.prog 196:=.of ce
def E5:Kf Tryz.prog 199:=.of ce
def F5:Kf Tryz.prog 200:=.of ce
def G5:Kf Tryz.prog 202:=.of ce
def V5:Kf Tryz.prog 220:=.of ce
def tY:Kf Tryz.prog 221:=.of ce
def Y5:Kf Tryz.prog 225:=.of ce
def a6:Kf Tryz.prog 227:=.of ce
def l6:Kf Tryz.prog 229:=.of ce
def n6:Kf Tryz.prog 230:=.of ce
def w6:Kf Tryz.prog 241:=.of ce
def y6:Kf Tryz.prog 245:=.of ce
def B6:Kf Tryz.prog 247:=.of ce
def C6:Kf Tryz.prog 248:=.of ce
def G6:Kf Tryz.prog 255:=.of ce
def H6:Kf Tryz.prog 257:=.of ce
def J6:Kf Tryz.prog 261:=.of ce
def K6:Kf Tryz.prog 262:=.of ce
def L6:Kf Tryz.prog 263:=.of ce
def vY:Kf Tryz.prog 264:=.of ce
def xY:Kf Tryz.prog 268:=.of ce
def V6:Kf Tryz.prog 285:=.of ce
def W6:Kf Tryz.prog 286:=.of ce
end Go.Proofs.Dev
