/-
  The functions in the engine form: no condition.
-/
import Derived.Test.YtmhfebelfmgckaaGreatDoorCE
open Go.Proofs.Tryz renaming prog->al
set_option linter.all false
set_option maxRecDepth 100000
set_option maxHeartbeats 4000000
namespace Go.Proofs.Dev
open Go Go.Tm
def k10:Kf al 10:=.of ce
def k11:Kf al 11:=.of ce
def k22:Kf al 22:=.of ce
def k35:Kf al 35:=.of ce
def k41:Kf al 41:=.of ce
def k43:Kf al 43:=.of ce
def k46:Kf al 46:=.of ce
def k76:Kf al 76:=.of ce
def k83:Kf al 83:=.of ce
def k89:Kf al 89:=.of ce
def k91:Kf al 91:=.of ce
def k93:Kf al 93:=.of ce
def k97:Kf al 97:=.of ce
def k100:Kf al 100:=.of ce
def k101:Kf al 101:=.of ce
def k149:Kf al 149:=.of ce
def k162:Kf al 162:=.of ce
def k166:Kf al 166:=.of ce
def k179:Kf al 179:=.of ce
def k181:Kf al 181:=.of ce
def k187:Kf al 187:=.of ce
def k188:Kf al 188:=.of ce
def k189:Kf al 189:=.of ce
def k192:Kf al 192:=.of ce
def k215:Kf al 215:=.of ce
def k217:Kf al 217:=.of ce
def k220:Kf al 220:=.of ce
def k221:Kf al 221:=.of ce
def k223:Kf al 223:=.of ce
def k242:Kf al 242:=.of ce
def k247:Kf al 247:=.of ce
def k248:Kf al 248:=.of ce
def k253:Kf al 253:=.of ce
def k262:Kf al 262:=.of ce
def k263:Kf al 263:=.of ce
def k264:Kf al 264:=.of ce
def k265:Kf al 265:=.of ce
def k271:Kf al 271:=.of ce
def k273:Kf al 273:=.of ce
def k276:Kf al 276:=.of ce
def k283:Kf al 283:=.of ce
def k290:Kf al 290:=.of ce
def k293:Kf al 293:=.of ce
def k307:Kf al 307:=.of ce
def k311:Kf al 311:=.of ce
def k329:Kf al 329:=.of ce
def k337:Kf al 337:=.of ce
def k338:Kf al 338:=.of ce
def k350:Kf al 350:=.of ce
def k351:Kf al 351:=.of ce
def k353:Kf al 353:=.of ce
def k358:Kf al 358:=.of ce
def k368:Kf al 368:=.of ce
def k369:Kf al 369:=.of ce
def k373:Kf al 373:=.of ce
def k376:Kf al 376:=.of ce
def k384:Kf al 384:=.of ce
def k385:Kf al 385:=.of ce
def k387:Kf al 387:=.of ce
def k393:Kf al 393:=.of ce
def k402:Kf al 402:=.of ce
def k405:Kf al 405:=.of ce
def k411:Kf al 411:=.of ce
def k414:Kf al 414:=.of ce
def k416:Kf al 416:=.of ce
def k420:Kf al 420:=.of ce
def k423:Kf al 423:=.of ce
def k424:Kf al 424:=.of ce
def k428:Kf al 428:=.of ce
def k434:Kf al 434:=.of ce
def k437:Kf al 437:=.of ce
def k438:Kf al 438:=.of ce
def k440:Kf al 440:=.of ce
def k441:Kf al 441:=.of ce
def k443:Kf al 443:=.of ce
def k444:Kf al 444:=.of ce
def k446:Kf al 446:=.of ce
def k464:Kf al 464:=.of ce
def k466:Kf al 466:=.of ce
def k473:Kf al 473:=.of ce
def k474:Kf al 474:=.of ce
def k476:Kf al 476:=.of ce
def k480:Kf al 480:=.of ce
def k492:Kf al 492:=.of ce
def k495:Kf al 495:=.of ce
def k502:Kf al 502:=.of ce
def k505:Kf al 505:=.of ce
def k524:Kf al 524:=.of ce
def k526:Kf al 526:=.of ce
def k527:Kf al 527:=.of ce
end Go.Proofs.Dev
