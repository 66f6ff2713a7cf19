/-
  The functions in the engine form: no condition.
-/
import Derived.Test.YtmhfebelfmgckaaGreatDoorCE
open Go.Proofs.Tryz renaming prog->al
set_option linter.all false
set_option maxRecDepth 100000
set_option maxHeartbeats 4000000
namespace Go.Proofs.Dev
open Go Go.Tm
def k5:Kf al 5:=.of ce
def k9:Kf al 9:=.of ce
def k36:Kf al 36:=.of ce
def k37:Kf al 37:=.of ce
def k39:Kf al 39:=.of ce
def k40:Kf al 40:=.of ce
def k42:Kf al 42:=.of ce
def k45:Kf al 45:=.of ce
def k81:Kf al 81:=.of ce
def k85:Kf al 85:=.of ce
def k87:Kf al 87:=.of ce
def k90:Kf al 90:=.of ce
def k92:Kf al 92:=.of ce
def k96:Kf al 96:=.of ce
def k98:Kf al 98:=.of ce
def k146:Kf al 146:=.of ce
def k147:Kf al 147:=.of ce
def k152:Kf al 152:=.of ce
def k159:Kf al 159:=.of ce
def k164:Kf al 164:=.of ce
def k172:Kf al 172:=.of ce
def k173:Kf al 173:=.of ce
def k180:Kf al 180:=.of ce
def k182:Kf al 182:=.of ce
def k184:Kf al 184:=.of ce
def k195:Kf al 195:=.of ce
def k196:Kf al 196:=.of ce
def k216:Kf al 216:=.of ce
def k219:Kf al 219:=.of ce
def k251:Kf al 251:=.of ce
def k266:Kf al 266:=.of ce
def k269:Kf al 269:=.of ce
def k275:Kf al 275:=.of ce
def k277:Kf al 277:=.of ce
def k289:Kf al 289:=.of ce
def k295:Kf al 295:=.of ce
def k303:Kf al 303:=.of ce
def k304:Kf al 304:=.of ce
def k306:Kf al 306:=.of ce
def k310:Kf al 310:=.of ce
def k313:Kf al 313:=.of ce
def k321:Kf al 321:=.of ce
def k332:Kf al 332:=.of ce
def k334:Kf al 334:=.of ce
def k345:Kf al 345:=.of ce
def k347:Kf al 347:=.of ce
def k352:Kf al 352:=.of ce
def k355:Kf al 355:=.of ce
def k356:Kf al 356:=.of ce
def k357:Kf al 357:=.of ce
def k361:Kf al 361:=.of ce
def k362:Kf al 362:=.of ce
def k366:Kf al 366:=.of ce
def k377:Kf al 377:=.of ce
def k386:Kf al 386:=.of ce
def k401:Kf al 401:=.of ce
def k409:Kf al 409:=.of ce
def k415:Kf al 415:=.of ce
def k427:Kf al 427:=.of ce
def k429:Kf al 429:=.of ce
def k442:Kf al 442:=.of ce
def k449:Kf al 449:=.of ce
def k453:Kf al 453:=.of ce
def k456:Kf al 456:=.of ce
def k457:Kf al 457:=.of ce
def k460:Kf al 460:=.of ce
def k461:Kf al 461:=.of ce
def k463:Kf al 463:=.of ce
def k468:Kf al 468:=.of ce
def k469:Kf al 469:=.of ce
def k470:Kf al 470:=.of ce
def k472:Kf al 472:=.of ce
def k475:Kf al 475:=.of ce
def k478:Kf al 478:=.of ce
def k481:Kf al 481:=.of ce
def k483:Kf al 483:=.of ce
def k484:Kf al 484:=.of ce
def k493:Kf al 493:=.of ce
def k498:Kf al 498:=.of ce
def k499:Kf al 499:=.of ce
def k500:Kf al 500:=.of ce
def k525:Kf al 525:=.of ce
end Go.Proofs.Dev
