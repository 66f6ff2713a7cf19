/-
  The functions in the engine form: no condition.
-/
import Derived.Test.YtmhfebelfmgckaaGreatDoorCE
open Go.Proofs.Tryz renaming prog->al
set_option linter.all false
set_option maxRecDepth 100000
set_option maxHeartbeats 4000000
namespace Go.Proofs.Dev
open Go Go.Tm
def k8:Kf al 8:=.of ce
def k38:Kf al 38:=.of ce
def k44:Kf al 44:=.of ce
def k47:Kf al 47:=.of ce
def k80:Kf al 80:=.of ce
def k82:Kf al 82:=.of ce
def k95:Kf al 95:=.of ce
def k99:Kf al 99:=.of ce
def k102:Kf al 102:=.of ce
def k145:Kf al 145:=.of ce
def k151:Kf al 151:=.of ce
def k154:Kf al 154:=.of ce
def k158:Kf al 158:=.of ce
def k160:Kf al 160:=.of ce
def k161:Kf al 161:=.of ce
def k167:Kf al 167:=.of ce
def k174:Kf al 174:=.of ce
def k175:Kf al 175:=.of ce
def k176:Kf al 176:=.of ce
def k177:Kf al 177:=.of ce
def k178:Kf al 178:=.of ce
def k213:Kf al 213:=.of ce
def k214:Kf al 214:=.of ce
def k225:Kf al 225:=.of ce
def k243:Kf al 243:=.of ce
def k244:Kf al 244:=.of ce
def k246:Kf al 246:=.of ce
def k249:Kf al 249:=.of ce
def k272:Kf al 272:=.of ce
def k285:Kf al 285:=.of ce
def k287:Kf al 287:=.of ce
def k288:Kf al 288:=.of ce
def k308:Kf al 308:=.of ce
def k309:Kf al 309:=.of ce
def k314:Kf al 314:=.of ce
def k315:Kf al 315:=.of ce
def k317:Kf al 317:=.of ce
def k318:Kf al 318:=.of ce
def k320:Kf al 320:=.of ce
def k322:Kf al 322:=.of ce
def k323:Kf al 323:=.of ce
def k326:Kf al 326:=.of ce
def k330:Kf al 330:=.of ce
def k333:Kf al 333:=.of ce
def k342:Kf al 342:=.of ce
def k346:Kf al 346:=.of ce
def k349:Kf al 349:=.of ce
def k359:Kf al 359:=.of ce
def k360:Kf al 360:=.of ce
def k364:Kf al 364:=.of ce
def k365:Kf al 365:=.of ce
def k371:Kf al 371:=.of ce
def k372:Kf al 372:=.of ce
def k374:Kf al 374:=.of ce
def k375:Kf al 375:=.of ce
def k379:Kf al 379:=.of ce
def k381:Kf al 381:=.of ce
def k382:Kf al 382:=.of ce
def k388:Kf al 388:=.of ce
def k390:Kf al 390:=.of ce
def k392:Kf al 392:=.of ce
def k395:Kf al 395:=.of ce
def k396:Kf al 396:=.of ce
def k399:Kf al 399:=.of ce
def k407:Kf al 407:=.of ce
def k408:Kf al 408:=.of ce
def k413:Kf al 413:=.of ce
def k417:Kf al 417:=.of ce
def k418:Kf al 418:=.of ce
def k422:Kf al 422:=.of ce
def k425:Kf al 425:=.of ce
def k426:Kf al 426:=.of ce
def k431:Kf al 431:=.of ce
def k435:Kf al 435:=.of ce
def k439:Kf al 439:=.of ce
def k454:Kf al 454:=.of ce
def k455:Kf al 455:=.of ce
def k458:Kf al 458:=.of ce
def k459:Kf al 459:=.of ce
def k465:Kf al 465:=.of ce
def k467:Kf al 467:=.of ce
def k477:Kf al 477:=.of ce
def k479:Kf al 479:=.of ce
def k482:Kf al 482:=.of ce
def k491:Kf al 491:=.of ce
def k494:Kf al 494:=.of ce
def k497:Kf al 497:=.of ce
def k506:Kf al 506:=.of ce
def k507:Kf al 507:=.of ce
end Go.Proofs.Dev
