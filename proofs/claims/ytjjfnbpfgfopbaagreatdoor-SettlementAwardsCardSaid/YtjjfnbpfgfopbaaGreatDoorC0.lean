/-
  The functions in the engine form: no condition.
-/
import Derived.Test.YtjjfnbpfgfopbaaGreatDoorCE
set_option linter.all false
set_option maxRecDepth 100000
set_option maxHeartbeats 4000000
namespace Go.Proofs.Dev
open Go Go.Tm
def k5:Kf Tryz.prog 5:=.of ce
def k7:Kf Tryz.prog 7:=.of ce
def k8:Kf Tryz.prog 8:=.of ce
def k13:Kf Tryz.prog 13:=.of ce
def k15:Kf Tryz.prog 15:=.of ce
def k17:Kf Tryz.prog 17:=.of ce
def k22:Kf Tryz.prog 22:=.of ce
def k31:Kf Tryz.prog 31:=.of ce
def k32:Kf Tryz.prog 32:=.of ce
def k33:Kf Tryz.prog 33:=.of ce
def k40:Kf Tryz.prog 40:=.of ce
def k43:Kf Tryz.prog 43:=.of ce
def k45:Kf Tryz.prog 45:=.of ce
def k53:Kf Tryz.prog 53:=.of ce
def k57:Kf Tryz.prog 57:=.of ce
def k61:Kf Tryz.prog 61:=.of ce
def k64:Kf Tryz.prog 64:=.of ce
def k67:Kf Tryz.prog 67:=.of ce
def k81:Kf Tryz.prog 81:=.of ce
def k82:Kf Tryz.prog 82:=.of ce
def k84:Kf Tryz.prog 84:=.of ce
def k110:Kf Tryz.prog 110:=.of ce
def k113:Kf Tryz.prog 113:=.of ce
def k135:Kf Tryz.prog 135:=.of ce
def k148:Kf Tryz.prog 148:=.of ce
def k149:Kf Tryz.prog 149:=.of ce
def k164:Kf Tryz.prog 164:=.of ce
def k168:Kf Tryz.prog 168:=.of ce
def k177:Kf Tryz.prog 177:=.of ce
def k181:Kf Tryz.prog 181:=.of ce
def k184:Kf Tryz.prog 184:=.of ce
def k190:Kf Tryz.prog 190:=.of ce
def k197:Kf Tryz.prog 197:=.of ce
def k201:Kf Tryz.prog 201:=.of ce
def k203:Kf Tryz.prog 203:=.of ce
def k204:Kf Tryz.prog 204:=.of ce
def k207:Kf Tryz.prog 207:=.of ce
def k212:Kf Tryz.prog 212:=.of ce
def k214:Kf Tryz.prog 214:=.of ce
def k216:Kf Tryz.prog 216:=.of ce
def k220:Kf Tryz.prog 220:=.of ce
def k221:Kf Tryz.prog 221:=.of ce
def k234:Kf Tryz.prog 234:=.of ce
def k238:Kf Tryz.prog 238:=.of ce
def k240:Kf Tryz.prog 240:=.of ce
def k241:Kf Tryz.prog 241:=.of ce
def k247:Kf Tryz.prog 247:=.of ce
def k249:Kf Tryz.prog 249:=.of ce
def k252:Kf Tryz.prog 252:=.of ce
def k253:Kf Tryz.prog 253:=.of ce
def k256:Kf Tryz.prog 256:=.of ce
def k260:Kf Tryz.prog 260:=.of ce
def k264:Kf Tryz.prog 264:=.of ce
def k271:Kf Tryz.prog 271:=.of ce
def k272:Kf Tryz.prog 272:=.of ce
def k281:Kf Tryz.prog 281:=.of ce
def k284:Kf Tryz.prog 284:=.of ce
def k289:Kf Tryz.prog 289:=.of ce
def k295:Kf Tryz.prog 295:=.of ce
def k297:Kf Tryz.prog 297:=.of ce
def k298:Kf Tryz.prog 298:=.of ce
def k318:Kf Tryz.prog 318:=.of ce
def k319:Kf Tryz.prog 319:=.of ce
end Go.Proofs.Dev
