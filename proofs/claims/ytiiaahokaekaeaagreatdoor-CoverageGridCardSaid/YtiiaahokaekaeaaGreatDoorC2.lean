/-
  The functions in the engine form: no condition.
-/
import Derived.Test.YtiiaahokaekaeaaGreatDoorCE
set_option linter.all false
set_option maxRecDepth 100000
set_option maxHeartbeats 4000000
namespace Go.Proofs.Dev
open Go Go.Tm
def k15:Kf Tryz.prog 15:=.of ce
def k20:Kf Tryz.prog 20:=.of ce
def k26:Kf Tryz.prog 26:=.of ce
def k28:Kf Tryz.prog 28:=.of ce
def k29:Kf Tryz.prog 29:=.of ce
def k40:Kf Tryz.prog 40:=.of ce
def k41:Kf Tryz.prog 41:=.of ce
def k45:Kf Tryz.prog 45:=.of ce
def k47:Kf Tryz.prog 47:=.of ce
def k48:Kf Tryz.prog 48:=.of ce
def k64:Kf Tryz.prog 64:=.of ce
def k71:Kf Tryz.prog 71:=.of ce
def k76:Kf Tryz.prog 76:=.of ce
def k85:Kf Tryz.prog 85:=.of ce
def k88:Kf Tryz.prog 88:=.of ce
def k93:Kf Tryz.prog 93:=.of ce
def k95:Kf Tryz.prog 95:=.of ce
def k97:Kf Tryz.prog 97:=.of ce
def k100:Kf Tryz.prog 100:=.of ce
def k109:Kf Tryz.prog 109:=.of ce
def k110:Kf Tryz.prog 110:=.of ce
def k111:Kf Tryz.prog 111:=.of ce
def k114:Kf Tryz.prog 114:=.of ce
def k126:Kf Tryz.prog 126:=.of ce
def k130:Kf Tryz.prog 130:=.of ce
def k131:Kf Tryz.prog 131:=.of ce
def k134:Kf Tryz.prog 134:=.of ce
def k135:Kf Tryz.prog 135:=.of ce
def k147:Kf Tryz.prog 147:=.of ce
def k152:Kf Tryz.prog 152:=.of ce
def k155:Kf Tryz.prog 155:=.of ce
def k161:Kf Tryz.prog 161:=.of ce
def k165:Kf Tryz.prog 165:=.of ce
def k169:Kf Tryz.prog 169:=.of ce
def k174:Kf Tryz.prog 174:=.of ce
def k175:Kf Tryz.prog 175:=.of ce
def k179:Kf Tryz.prog 179:=.of ce
def k182:Kf Tryz.prog 182:=.of ce
def k186:Kf Tryz.prog 186:=.of ce
def k192:Kf Tryz.prog 192:=.of ce
def k195:Kf Tryz.prog 195:=.of ce
def k197:Kf Tryz.prog 197:=.of ce
def k199:Kf Tryz.prog 199:=.of ce
def k201:Kf Tryz.prog 201:=.of ce
def k209:Kf Tryz.prog 209:=.of ce
def k218:Kf Tryz.prog 218:=.of ce
def k221:Kf Tryz.prog 221:=.of ce
def k227:Kf Tryz.prog 227:=.of ce
def k233:Kf Tryz.prog 233:=.of ce
def k235:Kf Tryz.prog 235:=.of ce
def k236:Kf Tryz.prog 236:=.of ce
def k237:Kf Tryz.prog 237:=.of ce
def k241:Kf Tryz.prog 241:=.of ce
def k243:Kf Tryz.prog 243:=.of ce
def k245:Kf Tryz.prog 245:=.of ce
def k254:Kf Tryz.prog 254:=.of ce
def k256:Kf Tryz.prog 256:=.of ce
def k263:Kf Tryz.prog 263:=.of ce
def k265:Kf Tryz.prog 265:=.of ce
def k290:Kf Tryz.prog 290:=.of ce
def k295:Kf Tryz.prog 295:=.of ce
def k324:Kf Tryz.prog 324:=.of ce
def k342:Kf Tryz.prog 342:=.of ce
def k344:Kf Tryz.prog 344:=.of ce
end Go.Proofs.Dev
