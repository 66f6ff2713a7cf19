/-
  The functions in the engine form: no condition.
-/
import Derived.Test.YtkmalfincghanaaGreatDoorCE
set_option linter.all false
set_option maxRecDepth 100000
set_option maxHeartbeats 4000000
namespace Go.Proofs.Dev
open Go Go.Tm
def k4:Kf Tryz.prog 4:=.of ce
def k13:Kf Tryz.prog 13:=.of ce
def k14:Kf Tryz.prog 14:=.of ce
def k16:Kf Tryz.prog 16:=.of ce
def k17:Kf Tryz.prog 17:=.of ce
def k24:Kf Tryz.prog 24:=.of ce
def k25:Kf Tryz.prog 25:=.of ce
def k28:Kf Tryz.prog 28:=.of ce
def k35:Kf Tryz.prog 35:=.of ce
def k45:Kf Tryz.prog 45:=.of ce
def k56:Kf Tryz.prog 56:=.of ce
def k60:Kf Tryz.prog 60:=.of ce
def k61:Kf Tryz.prog 61:=.of ce
def k63:Kf Tryz.prog 63:=.of ce
def k66:Kf Tryz.prog 66:=.of ce
def k68:Kf Tryz.prog 68:=.of ce
def k69:Kf Tryz.prog 69:=.of ce
def k70:Kf Tryz.prog 70:=.of ce
def k75:Kf Tryz.prog 75:=.of ce
def k77:Kf Tryz.prog 77:=.of ce
def k78:Kf Tryz.prog 78:=.of ce
def k80:Kf Tryz.prog 80:=.of ce
def k83:Kf Tryz.prog 83:=.of ce
def k84:Kf Tryz.prog 84:=.of ce
def k110:Kf Tryz.prog 110:=.of ce
def k118:Kf Tryz.prog 118:=.of ce
def k120:Kf Tryz.prog 120:=.of ce
def k124:Kf Tryz.prog 124:=.of ce
def k130:Kf Tryz.prog 130:=.of ce
def k132:Kf Tryz.prog 132:=.of ce
def k155:Kf Tryz.prog 155:=.of ce
def k156:Kf Tryz.prog 156:=.of ce
def k157:Kf Tryz.prog 157:=.of ce
def k162:Kf Tryz.prog 162:=.of ce
def k165:Kf Tryz.prog 165:=.of ce
def k172:Kf Tryz.prog 172:=.of ce
def k174:Kf Tryz.prog 174:=.of ce
def k194:Kf Tryz.prog 194:=.of ce
def k210:Kf Tryz.prog 210:=.of ce
def k213:Kf Tryz.prog 213:=.of ce
def k228:Kf Tryz.prog 228:=.of ce
def k233:Kf Tryz.prog 233:=.of ce
def k236:Kf Tryz.prog 236:=.of ce
def k245:Kf Tryz.prog 245:=.of ce
def k249:Kf Tryz.prog 249:=.of ce
def k251:Kf Tryz.prog 251:=.of ce
def k269:Kf Tryz.prog 269:=.of ce
def k270:Kf Tryz.prog 270:=.of ce
def k271:Kf Tryz.prog 271:=.of ce
def k274:Kf Tryz.prog 274:=.of ce
def k275:Kf Tryz.prog 275:=.of ce
def k280:Kf Tryz.prog 280:=.of ce
def k299:Kf Tryz.prog 299:=.of ce
def k300:Kf Tryz.prog 300:=.of ce
def k301:Kf Tryz.prog 301:=.of ce
def k304:Kf Tryz.prog 304:=.of ce
def k308:Kf Tryz.prog 308:=.of ce
def k310:Kf Tryz.prog 310:=.of ce
def k331:Kf Tryz.prog 331:=.of ce
def k334:Kf Tryz.prog 334:=.of ce
def k338:Kf Tryz.prog 338:=.of ce
def k341:Kf Tryz.prog 341:=.of ce
def k342:Kf Tryz.prog 342:=.of ce
def k343:Kf Tryz.prog 343:=.of ce
def k371:Kf Tryz.prog 371:=.of ce
def k388:Kf Tryz.prog 388:=.of ce
def k411:Kf Tryz.prog 411:=.of ce
end Go.Proofs.Dev
