/-
  The functions in the engine form: no condition.
-/
import Derived.Test.YtmhfebelfmgckaaGreatDoorCE
open Go.Proofs.Tryz renaming prog->al
set_option linter.all false
set_option maxRecDepth 100000
set_option maxHeartbeats 4000000
namespace Go.Proofs.Dev
open Go Go.Tm
def k44:Kf al 44:=.of ce
def k47:Kf al 47:=.of ce
def k50:Kf al 50:=.of ce
def k57:Kf al 57:=.of ce
def k80:Kf al 80:=.of ce
def k82:Kf al 82:=.of ce
def k95:Kf al 95:=.of ce
def k99:Kf al 99:=.of ce
def ch7:Kf al 102:=.of ce
def ch6:Kf al 105:=.of ce
def ch2:Kf al 109:=.of ce
def ch0:Kf al 111:=.of ce
def cg6:Kf al 117:=.of ce
def aK7:Kf al 118:=.of ce
def cg3:Kf al 122:=.of ce
def cf6:Kf al 145:=.of ce
def cf0:Kf al 151:=.of ce
def ce7:Kf al 154:=.of ce
def ce3:Kf al 158:=.of ce
def ce1:Kf al 160:=.of ce
def ce0:Kf al 161:=.of ce
def aK4:Kf al 167:=.of ce
def cd1:Kf al 174:=.of ce
def cd0:Kf al 175:=.of ce
def cc9:Kf al 176:=.of ce
def cc8:Kf al 177:=.of ce
def cc7:Kf al 178:=.of ce
def ca8:Kf al 198:=.of ce
def ca4:Kf al 202:=.of ce
def ca3:Kf al 213:=.of ce
def ca2:Kf al 214:=.of ce
def bZ1:Kf al 225:=.of ce
def bY3:Kf al 243:=.of ce
def bY2:Kf al 244:=.of ce
def bY0:Kf al 246:=.of ce
def bX7:Kf al 249:=.of ce
def bW0:Kf al 272:=.of ce
def bV3:Kf al 285:=.of ce
def bV1:Kf al 287:=.of ce
def bV0:Kf al 288:=.of ce
def bU0:Kf al 298:=.of ce
def bT4:Kf al 308:=.of ce
def bk4:Kf al 309:=.of ce
def bT1:Kf al 314:=.of ce
def bT0:Kf al 315:=.of ce
def bS8:Kf al 317:=.of ce
def bS7:Kf al 318:=.of ce
def bk1:Kf al 320:=.of ce
def bj9:Kf al 322:=.of ce
def bj8:Kf al 323:=.of ce
def bR9:Kf al 326:=.of ce
def bR6:Kf al 330:=.of ce
def bR3:Kf al 333:=.of ce
def bQ4:Kf al 342:=.of ce
def bQ2:Kf al 346:=.of ce
def bj6:Kf al 349:=.of ce
def bj2:Kf al 359:=.of ce
def bj1:Kf al 360:=.of ce
def bP2:Kf al 364:=.of ce
def bP1:Kf al 365:=.of ce
def bO5:Kf al 371:=.of ce
def bO4:Kf al 372:=.of ce
def bO2:Kf al 374:=.of ce
def bO1:Kf al 375:=.of ce
def bN7:Kf al 379:=.of ce
def bN5:Kf al 381:=.of ce
def bN4:Kf al 382:=.of ce
def aK2:Kf al 388:=.of ce
def bM8:Kf al 389:=.of ce
def bM7:Kf al 390:=.of ce
def bi8:Kf al 392:=.of ce
def bM4:Kf al 395:=.of ce
def bM0:Kf al 396:=.of ce
def bL7:Kf al 399:=.of ce
def bK9:Kf al 407:=.of ce
def bK8:Kf al 408:=.of ce
def bK3:Kf al 413:=.of ce
def bJ9:Kf al 417:=.of ce
def bJ8:Kf al 418:=.of ce
def bJ5:Kf al 422:=.of ce
def bJ2:Kf al 425:=.of ce
def bJ1:Kf al 426:=.of ce
def bI6:Kf al 431:=.of ce
def bI2:Kf al 435:=.of ce
def bH8:Kf al 439:=.of ce
def bG4:Kf al 454:=.of ce
def bG3:Kf al 455:=.of ce
def bG0:Kf al 458:=.of ce
def bF9:Kf al 459:=.of ce
def bF3:Kf al 465:=.of ce
def bF1:Kf al 467:=.of ce
def bE1:Kf al 477:=.of ce
def bD9:Kf al 479:=.of ce
def bD6:Kf al 482:=.of ce
def bD1:Kf al 491:=.of ce
def bC8:Kf al 494:=.of ce
def bC5:Kf al 497:=.of ce
def bB8:Kf al 506:=.of ce
def bB7:Kf al 507:=.of ce
end Go.Proofs.Dev
