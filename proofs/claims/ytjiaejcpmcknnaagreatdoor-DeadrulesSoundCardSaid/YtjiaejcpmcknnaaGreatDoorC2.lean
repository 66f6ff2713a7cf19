/-
  The functions in the engine form: no condition.
-/
import Derived.Test.YtjiaejcpmcknnaaGreatDoorCE
set_option linter.all false
set_option maxRecDepth 100000
set_option maxHeartbeats 4000000
namespace Go.Proofs.Dev
open Go Go.Tm
def k15:Kf Tryz.prog 15:=.of ce
def k24:Kf Tryz.prog 24:=.of ce
def k25:Kf Tryz.prog 25:=.of ce
def k42:Kf Tryz.prog 42:=.of ce
def k45:Kf Tryz.prog 45:=.of ce
def k46:Kf Tryz.prog 46:=.of ce
def k54:Kf Tryz.prog 54:=.of ce
def k67:Kf Tryz.prog 67:=.of ce
def k70:Kf Tryz.prog 70:=.of ce
def k71:Kf Tryz.prog 71:=.of ce
def k73:Kf Tryz.prog 73:=.of ce
def k80:Kf Tryz.prog 80:=.of ce
def k81:Kf Tryz.prog 81:=.of ce
def k89:Kf Tryz.prog 89:=.of ce
def k93:Kf Tryz.prog 93:=.of ce
def k94:Kf Tryz.prog 94:=.of ce
def k95:Kf Tryz.prog 95:=.of ce
def k101:Kf Tryz.prog 101:=.of ce
def k106:Kf Tryz.prog 106:=.of ce
def k107:Kf Tryz.prog 107:=.of ce
def k117:Kf Tryz.prog 117:=.of ce
def k121:Kf Tryz.prog 121:=.of ce
def k132:Kf Tryz.prog 132:=.of ce
def k136:Kf Tryz.prog 136:=.of ce
def k137:Kf Tryz.prog 137:=.of ce
def k139:Kf Tryz.prog 139:=.of ce
def k140:Kf Tryz.prog 140:=.of ce
def k143:Kf Tryz.prog 143:=.of ce
def k146:Kf Tryz.prog 146:=.of ce
def k148:Kf Tryz.prog 148:=.of ce
def k157:Kf Tryz.prog 157:=.of ce
def k158:Kf Tryz.prog 158:=.of ce
def w9:Kf Tryz.prog 161:=.of ce
def y9:Kf Tryz.prog 162:=.of ce
def k168:Kf Tryz.prog 168:=.of ce
def k172:Kf Tryz.prog 172:=.of ce
def k180:Kf Tryz.prog 180:=.of ce
def k185:Kf Tryz.prog 185:=.of ce
def k187:Kf Tryz.prog 187:=.of ce
def k189:Kf Tryz.prog 189:=.of ce
def k190:Kf Tryz.prog 190:=.of ce
def k195:Kf Tryz.prog 195:=.of ce
def F9:Kf Tryz.prog 226:=.of ce
def k232:Kf Tryz.prog 232:=.of ce
def k234:Kf Tryz.prog 234:=.of ce
def J9:Kf Tryz.prog 239:=.of ce
def k246:Kf Tryz.prog 246:=.of ce
def k247:Kf Tryz.prog 247:=.of ce
def k253:Kf Tryz.prog 253:=.of ce
def k286:Kf Tryz.prog 286:=.of ce
def k292:Kf Tryz.prog 292:=.of ce
def k311:Kf Tryz.prog 311:=.of ce
def uZ:Kf Tryz.prog 312:=.of ce
def k314:Kf Tryz.prog 314:=.of ce
def k317:Kf Tryz.prog 317:=.of ce
def k318:Kf Tryz.prog 318:=.of ce
def k319:Kf Tryz.prog 319:=.of ce
def k343:Kf Tryz.prog 343:=.of ce
def k349:Kf Tryz.prog 349:=.of ce
def k350:Kf Tryz.prog 350:=.of ce
end Go.Proofs.Dev
