/-
  The functions in the engine form: no condition.
-/
import Derived.Test.YtfanhhhgcabpnaaGreatDoorCE
set_option linter.all false
set_option maxRecDepth 100000
set_option maxHeartbeats 4000000
namespace Go.Proofs.Dev
open Go Go.Tm
def k11:Kf Tryz.prog 11:=.of ce
def k25:Kf Tryz.prog 25:=.of ce
def k26:Kf Tryz.prog 26:=.of ce
def k28:Kf Tryz.prog 28:=.of ce
def k31:Kf Tryz.prog 31:=.of ce
def k34:Kf Tryz.prog 34:=.of ce
def k63:Kf Tryz.prog 63:=.of ce
def k70:Kf Tryz.prog 70:=.of ce
def k72:Kf Tryz.prog 72:=.of ce
def k113:Kf Tryz.prog 113:=.of ce
def k114:Kf Tryz.prog 114:=.of ce
def k123:Kf Tryz.prog 123:=.of ce
def k125:Kf Tryz.prog 125:=.of ce
def k126:Kf Tryz.prog 126:=.of ce
def k150:Kf Tryz.prog 150:=.of ce
def k164:Kf Tryz.prog 164:=.of ce
def k167:Kf Tryz.prog 167:=.of ce
def k173:Kf Tryz.prog 173:=.of ce
def k176:Kf Tryz.prog 176:=.of ce
def k178:Kf Tryz.prog 178:=.of ce
def k179:Kf Tryz.prog 179:=.of ce
def k183:Kf Tryz.prog 183:=.of ce
def k195:Kf Tryz.prog 195:=.of ce
def k201:Kf Tryz.prog 201:=.of ce
def k212:Kf Tryz.prog 212:=.of ce
def k213:Kf Tryz.prog 213:=.of ce
def k216:Kf Tryz.prog 216:=.of ce
def k219:Kf Tryz.prog 219:=.of ce
def k224:Kf Tryz.prog 224:=.of ce
def k225:Kf Tryz.prog 225:=.of ce
def k232:Kf Tryz.prog 232:=.of ce
def k235:Kf Tryz.prog 235:=.of ce
def k241:Kf Tryz.prog 241:=.of ce
def k244:Kf Tryz.prog 244:=.of ce
def k245:Kf Tryz.prog 245:=.of ce
def k250:Kf Tryz.prog 250:=.of ce
def k260:Kf Tryz.prog 260:=.of ce
def k263:Kf Tryz.prog 263:=.of ce
def k264:Kf Tryz.prog 264:=.of ce
def k266:Kf Tryz.prog 266:=.of ce
def k268:Kf Tryz.prog 268:=.of ce
def k270:Kf Tryz.prog 270:=.of ce
def k278:Kf Tryz.prog 278:=.of ce
def k280:Kf Tryz.prog 280:=.of ce
def k283:Kf Tryz.prog 283:=.of ce
def k285:Kf Tryz.prog 285:=.of ce
def k287:Kf Tryz.prog 287:=.of ce
def k292:Kf Tryz.prog 292:=.of ce
def k295:Kf Tryz.prog 295:=.of ce
def k300:Kf Tryz.prog 300:=.of ce
def k304:Kf Tryz.prog 304:=.of ce
def k318:Kf Tryz.prog 318:=.of ce
def k320:Kf Tryz.prog 320:=.of ce
def k325:Kf Tryz.prog 325:=.of ce
def k331:Kf Tryz.prog 331:=.of ce
def k339:Kf Tryz.prog 339:=.of ce
def k344:Kf Tryz.prog 344:=.of ce
def k345:Kf Tryz.prog 345:=.of ce
def k348:Kf Tryz.prog 348:=.of ce
def k350:Kf Tryz.prog 350:=.of ce
def k357:Kf Tryz.prog 357:=.of ce
def k364:Kf Tryz.prog 364:=.of ce
def k366:Kf Tryz.prog 366:=.of ce
def k369:Kf Tryz.prog 369:=.of ce
def k371:Kf Tryz.prog 371:=.of ce
def k389:Kf Tryz.prog 389:=.of ce
def k390:Kf Tryz.prog 390:=.of ce
end Go.Proofs.Dev
