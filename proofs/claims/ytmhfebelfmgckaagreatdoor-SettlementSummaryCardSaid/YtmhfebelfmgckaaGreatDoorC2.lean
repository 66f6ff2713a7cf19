/-
  The functions in the engine form: no condition.
-/
import Derived.Test.YtmhfebelfmgckaaGreatDoorCE
open Go.Proofs.Tryz renaming prog->al
set_option linter.all false
set_option maxRecDepth 100000
set_option maxHeartbeats 4000000
namespace Go.Proofs.Dev
open Go Go.Tm
def k5:Kf al 5:=.of ce
def k7:Kf al 7:=.of ce
def k16:Kf al 16:=.of ce
def k27:Kf al 27:=.of ce
def k31:Kf al 31:=.of ce
def k36:Kf al 36:=.of ce
def k37:Kf al 37:=.of ce
def k39:Kf al 39:=.of ce
def k40:Kf al 40:=.of ce
def k42:Kf al 42:=.of ce
def k45:Kf al 45:=.of ce
def k52:Kf al 52:=.of ce
def k53:Kf al 53:=.of ce
def k55:Kf al 55:=.of ce
def k56:Kf al 56:=.of ce
def k75:Kf al 75:=.of ce
def k81:Kf al 81:=.of ce
def k85:Kf al 85:=.of ce
def k87:Kf al 87:=.of ce
def k90:Kf al 90:=.of ce
def k92:Kf al 92:=.of ce
def k96:Kf al 96:=.of ce
def k98:Kf al 98:=.of ce
def cf9:Kf al 108:=.of ce
def cf7:Kf al 110:=.of ce
def an4:Kf al 115:=.of ce
def cf2:Kf al 125:=.of ce
def cf1:Kf al 137:=.of ce
def ce3:Kf al 146:=.of ce
def ce2:Kf al 147:=.of ce
def cd7:Kf al 152:=.of ce
def cd0:Kf al 159:=.of ce
def cc5:Kf al 164:=.of ce
def cc1:Kf al 172:=.of ce
def cc0:Kf al 173:=.of ce
def cb3:Kf al 180:=.of ce
def cb1:Kf al 182:=.of ce
def cb0:Kf al 184:=.of ce
def bZ9:Kf al 195:=.of ce
def bZ8:Kf al 196:=.of ce
def bZ2:Kf al 216:=.of ce
def bY9:Kf al 219:=.of ce
def bW6:Kf al 251:=.of ce
def bV9:Kf al 266:=.of ce
def bV6:Kf al 269:=.of ce
def bV1:Kf al 275:=.of ce
def bU9:Kf al 277:=.of ce
def bU2:Kf al 289:=.of ce
def bT6:Kf al 295:=.of ce
def bk0:Kf al 303:=.of ce
def bT3:Kf al 304:=.of ce
def bT1:Kf al 306:=.of ce
def bS8:Kf al 310:=.of ce
def bj7:Kf al 313:=.of ce
def bj5:Kf al 321:=.of ce
def bQ8:Kf al 332:=.of ce
def bQ6:Kf al 334:=.of ce
def bP8:Kf al 345:=.of ce
def bP6:Kf al 347:=.of ce
def bi9:Kf al 352:=.of ce
def bP3:Kf al 355:=.of ce
def bP2:Kf al 356:=.of ce
def bP1:Kf al 357:=.of ce
def bi5:Kf al 361:=.of ce
def bO9:Kf al 362:=.of ce
def bO5:Kf al 366:=.of ce
def bN4:Kf al 377:=.of ce
def bM4:Kf al 386:=.of ce
def bL0:Kf al 401:=.of ce
def bK2:Kf al 409:=.of ce
def bJ6:Kf al 415:=.of ce
def bI5:Kf al 427:=.of ce
def bI3:Kf al 429:=.of ce
def bH0:Kf al 442:=.of ce
def bG3:Kf al 449:=.of ce
def bG0:Kf al 453:=.of ce
def bF7:Kf al 456:=.of ce
def bF6:Kf al 457:=.of ce
def bF3:Kf al 460:=.of ce
def bF2:Kf al 461:=.of ce
def bF0:Kf al 463:=.of ce
def bE5:Kf al 468:=.of ce
def bE4:Kf al 469:=.of ce
def bE3:Kf al 470:=.of ce
def bE1:Kf al 472:=.of ce
def bD8:Kf al 475:=.of ce
def bD5:Kf al 478:=.of ce
def bD2:Kf al 481:=.of ce
def bD0:Kf al 483:=.of ce
def bC9:Kf al 484:=.of ce
def bC4:Kf al 493:=.of ce
def bB9:Kf al 498:=.of ce
def bB8:Kf al 499:=.of ce
def bB7:Kf al 500:=.of ce
def bi1:Kf al 525:=.of ce
end Go.Proofs.Dev
