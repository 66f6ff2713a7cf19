/-
  The functions in the engine form: no condition.
-/
import Derived.Test.YtmhfebelfmgckaaGreatDoorCE
open Go.Proofs.Tryz renaming prog->al
set_option linter.all false
set_option maxRecDepth 100000
set_option maxHeartbeats 4000000
namespace Go.Proofs.Dev
open Go Go.Tm
def k33:Kf al 33:=.of ce
def k44:Kf al 44:=.of ce
def k47:Kf al 47:=.of ce
def k50:Kf al 50:=.of ce
def k57:Kf al 57:=.of ce
def k71:Kf al 71:=.of ce
def k80:Kf al 80:=.of ce
def k82:Kf al 82:=.of ce
def k95:Kf al 95:=.of ce
def k99:Kf al 99:=.of ce
def cg3:Kf al 102:=.of ce
def cg2:Kf al 105:=.of ce
def cf8:Kf al 109:=.of ce
def cf6:Kf al 111:=.of ce
def ce4:Kf al 145:=.of ce
def cd8:Kf al 151:=.of ce
def cd5:Kf al 154:=.of ce
def cd1:Kf al 158:=.of ce
def cc9:Kf al 160:=.of ce
def cc8:Kf al 161:=.of ce
def aK0:Kf al 167:=.of ce
def cb9:Kf al 174:=.of ce
def cb8:Kf al 175:=.of ce
def cb7:Kf al 176:=.of ce
def cb6:Kf al 177:=.of ce
def cb5:Kf al 178:=.of ce
def bZ6:Kf al 198:=.of ce
def bZ5:Kf al 213:=.of ce
def bZ4:Kf al 214:=.of ce
def bY3:Kf al 225:=.of ce
def bX4:Kf al 243:=.of ce
def bX3:Kf al 244:=.of ce
def bX1:Kf al 246:=.of ce
def bW8:Kf al 249:=.of ce
def bV3:Kf al 272:=.of ce
def bU6:Kf al 285:=.of ce
def bU4:Kf al 287:=.of ce
def bU3:Kf al 288:=.of ce
def bS9:Kf al 308:=.of ce
def bj9:Kf al 309:=.of ce
def bS6:Kf al 314:=.of ce
def bS0:Kf al 315:=.of ce
def bR8:Kf al 317:=.of ce
def bR7:Kf al 318:=.of ce
def bj6:Kf al 320:=.of ce
def bj4:Kf al 322:=.of ce
def bj3:Kf al 323:=.of ce
def bR3:Kf al 326:=.of ce
def bR0:Kf al 330:=.of ce
def bQ7:Kf al 333:=.of ce
def bP9:Kf al 342:=.of ce
def bP7:Kf al 346:=.of ce
def bj1:Kf al 349:=.of ce
def bi7:Kf al 359:=.of ce
def bi6:Kf al 360:=.of ce
def bO7:Kf al 364:=.of ce
def bO6:Kf al 365:=.of ce
def bO0:Kf al 371:=.of ce
def bN9:Kf al 372:=.of ce
def bN7:Kf al 374:=.of ce
def bN6:Kf al 375:=.of ce
def bN2:Kf al 379:=.of ce
def bN0:Kf al 381:=.of ce
def bM9:Kf al 382:=.of ce
def aJ9:Kf al 388:=.of ce
def bL9:Kf al 390:=.of ce
def bi3:Kf al 392:=.of ce
def bL6:Kf al 395:=.of ce
def bL5:Kf al 396:=.of ce
def bL2:Kf al 399:=.of ce
def bK4:Kf al 407:=.of ce
def bK3:Kf al 408:=.of ce
def bJ8:Kf al 413:=.of ce
def bJ4:Kf al 417:=.of ce
def bJ3:Kf al 418:=.of ce
def bJ0:Kf al 422:=.of ce
def bI7:Kf al 425:=.of ce
def bI6:Kf al 426:=.of ce
def bI1:Kf al 431:=.of ce
def bH7:Kf al 435:=.of ce
def bH3:Kf al 439:=.of ce
def bF9:Kf al 454:=.of ce
def bF8:Kf al 455:=.of ce
def bF5:Kf al 458:=.of ce
def bF4:Kf al 459:=.of ce
def bE8:Kf al 465:=.of ce
def bE6:Kf al 467:=.of ce
def bD6:Kf al 477:=.of ce
def bD4:Kf al 479:=.of ce
def bD1:Kf al 482:=.of ce
def bC6:Kf al 491:=.of ce
def bC3:Kf al 494:=.of ce
def bC0:Kf al 497:=.of ce
def bB3:Kf al 506:=.of ce
def bB2:Kf al 507:=.of ce
end Go.Proofs.Dev
