/-
  The functions in the engine form: no condition.
-/
import Derived.Test.YtfanhhhgcabpnaaGreatDoorCE
set_option linter.all false
set_option maxRecDepth 100000
set_option maxHeartbeats 4000000
namespace Go.Proofs.Dev
open Go Go.Tm
def k3:Kf Tryz.prog 3:=.of ce
def k9:Kf Tryz.prog 9:=.of ce
def k29:Kf Tryz.prog 29:=.of ce
def k67:Kf Tryz.prog 67:=.of ce
def k71:Kf Tryz.prog 71:=.of ce
def k74:Kf Tryz.prog 74:=.of ce
def k77:Kf Tryz.prog 77:=.of ce
def k94:Kf Tryz.prog 94:=.of ce
def k111:Kf Tryz.prog 111:=.of ce
def k117:Kf Tryz.prog 117:=.of ce
def k124:Kf Tryz.prog 124:=.of ce
def k130:Kf Tryz.prog 130:=.of ce
def k145:Kf Tryz.prog 145:=.of ce
def k152:Kf Tryz.prog 152:=.of ce
def k154:Kf Tryz.prog 154:=.of ce
def k156:Kf Tryz.prog 156:=.of ce
def k159:Kf Tryz.prog 159:=.of ce
def k160:Kf Tryz.prog 160:=.of ce
def k168:Kf Tryz.prog 168:=.of ce
def k182:Kf Tryz.prog 182:=.of ce
def k188:Kf Tryz.prog 188:=.of ce
def k191:Kf Tryz.prog 191:=.of ce
def k197:Kf Tryz.prog 197:=.of ce
def k199:Kf Tryz.prog 199:=.of ce
def k200:Kf Tryz.prog 200:=.of ce
def k217:Kf Tryz.prog 217:=.of ce
def k221:Kf Tryz.prog 221:=.of ce
def k227:Kf Tryz.prog 227:=.of ce
def k228:Kf Tryz.prog 228:=.of ce
def k234:Kf Tryz.prog 234:=.of ce
def k236:Kf Tryz.prog 236:=.of ce
def k237:Kf Tryz.prog 237:=.of ce
def k240:Kf Tryz.prog 240:=.of ce
def k246:Kf Tryz.prog 246:=.of ce
def k247:Kf Tryz.prog 247:=.of ce
def k256:Kf Tryz.prog 256:=.of ce
def k258:Kf Tryz.prog 258:=.of ce
def k261:Kf Tryz.prog 261:=.of ce
def k265:Kf Tryz.prog 265:=.of ce
def k269:Kf Tryz.prog 269:=.of ce
def k272:Kf Tryz.prog 272:=.of ce
def k281:Kf Tryz.prog 281:=.of ce
def k282:Kf Tryz.prog 282:=.of ce
def k290:Kf Tryz.prog 290:=.of ce
def k293:Kf Tryz.prog 293:=.of ce
def k294:Kf Tryz.prog 294:=.of ce
def k297:Kf Tryz.prog 297:=.of ce
def k301:Kf Tryz.prog 301:=.of ce
def k303:Kf Tryz.prog 303:=.of ce
def k308:Kf Tryz.prog 308:=.of ce
def k310:Kf Tryz.prog 310:=.of ce
def k313:Kf Tryz.prog 313:=.of ce
def k317:Kf Tryz.prog 317:=.of ce
def k319:Kf Tryz.prog 319:=.of ce
def k322:Kf Tryz.prog 322:=.of ce
def k324:Kf Tryz.prog 324:=.of ce
def k338:Kf Tryz.prog 338:=.of ce
def k343:Kf Tryz.prog 343:=.of ce
def k351:Kf Tryz.prog 351:=.of ce
def k352:Kf Tryz.prog 352:=.of ce
def k359:Kf Tryz.prog 359:=.of ce
def k367:Kf Tryz.prog 367:=.of ce
def k368:Kf Tryz.prog 368:=.of ce
def k372:Kf Tryz.prog 372:=.of ce
def k392:Kf Tryz.prog 392:=.of ce
end Go.Proofs.Dev
