/-
  The functions in the engine form: no condition.
-/
import Derived.Test.YtmhfebelfmgckaaGreatDoorCE
open Go.Proofs.Tryz renaming prog->al
set_option linter.all false
set_option maxRecDepth 100000
set_option maxHeartbeats 4000000
namespace Go.Proofs.Dev
open Go Go.Tm
def k22:Kf al 22:=.of ce
def k29:Kf al 29:=.of ce
def k34:Kf al 34:=.of ce
def k35:Kf al 35:=.of ce
def k41:Kf al 41:=.of ce
def k43:Kf al 43:=.of ce
def k46:Kf al 46:=.of ce
def k48:Kf al 48:=.of ce
def k51:Kf al 51:=.of ce
def k54:Kf al 54:=.of ce
def k69:Kf al 69:=.of ce
def k70:Kf al 70:=.of ce
def k76:Kf al 76:=.of ce
def k83:Kf al 83:=.of ce
def k89:Kf al 89:=.of ce
def k91:Kf al 91:=.of ce
def k93:Kf al 93:=.of ce
def k97:Kf al 97:=.of ce
def cg5:Kf al 100:=.of ce
def cg4:Kf al 101:=.of ce
def cg1:Kf al 106:=.of ce
def cf3:Kf al 114:=.of ce
def ce6:Kf al 143:=.of ce
def ce0:Kf al 149:=.of ce
def cc7:Kf al 162:=.of ce
def cc4:Kf al 166:=.of ce
def cb4:Kf al 179:=.of ce
def cb2:Kf al 181:=.of ce
def ca7:Kf al 187:=.of ce
def ca6:Kf al 188:=.of ce
def ca5:Kf al 189:=.of ce
def ca2:Kf al 192:=.of ce
def bZ3:Kf al 215:=.of ce
def bZ1:Kf al 217:=.of ce
def bY8:Kf al 220:=.of ce
def bY7:Kf al 221:=.of ce
def bY5:Kf al 223:=.of ce
def bX6:Kf al 242:=.of ce
def bX0:Kf al 247:=.of ce
def bW9:Kf al 248:=.of ce
def bW4:Kf al 253:=.of ce
def bW3:Kf al 262:=.of ce
def bW2:Kf al 263:=.of ce
def bW1:Kf al 264:=.of ce
def bW0:Kf al 265:=.of ce
def bV4:Kf al 271:=.of ce
def bV2:Kf al 273:=.of ce
def bV0:Kf al 276:=.of ce
def bU8:Kf al 283:=.of ce
def bU1:Kf al 290:=.of ce
def bT8:Kf al 293:=.of ce
def bT0:Kf al 307:=.of ce
def bj8:Kf al 311:=.of ce
def bR1:Kf al 329:=.of ce
def bQ3:Kf al 337:=.of ce
def bQ2:Kf al 338:=.of ce
def bj0:Kf al 350:=.of ce
def bP5:Kf al 351:=.of ce
def bP4:Kf al 353:=.of ce
def bP0:Kf al 358:=.of ce
def bO3:Kf al 368:=.of ce
def bO2:Kf al 369:=.of ce
def bN8:Kf al 373:=.of ce
def bN5:Kf al 376:=.of ce
def bM7:Kf al 384:=.of ce
def bM6:Kf al 385:=.of ce
def bM0:Kf al 387:=.of ce
def bL8:Kf al 393:=.of ce
def bK9:Kf al 402:=.of ce
def bK6:Kf al 405:=.of ce
def bK0:Kf al 411:=.of ce
def bJ7:Kf al 414:=.of ce
def bJ5:Kf al 416:=.of ce
def bJ1:Kf al 420:=.of ce
def bI9:Kf al 423:=.of ce
def bI8:Kf al 424:=.of ce
def bI4:Kf al 428:=.of ce
def bH8:Kf al 434:=.of ce
def bH5:Kf al 437:=.of ce
def bH4:Kf al 438:=.of ce
def bH2:Kf al 440:=.of ce
def bH1:Kf al 441:=.of ce
def bG9:Kf al 443:=.of ce
def bG8:Kf al 444:=.of ce
def bG6:Kf al 446:=.of ce
def bE9:Kf al 464:=.of ce
def bE7:Kf al 466:=.of ce
def bE0:Kf al 473:=.of ce
def bD9:Kf al 474:=.of ce
def bD7:Kf al 476:=.of ce
def bD3:Kf al 480:=.of ce
def bC5:Kf al 492:=.of ce
def bC2:Kf al 495:=.of ce
def bB5:Kf al 502:=.of ce
def bB4:Kf al 505:=.of ce
def bi2:Kf al 524:=.of ce
def bi0:Kf al 526:=.of ce
def bh9:Kf al 527:=.of ce
end Go.Proofs.Dev
