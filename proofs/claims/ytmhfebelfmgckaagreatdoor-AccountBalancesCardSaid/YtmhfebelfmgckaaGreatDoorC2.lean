/-
  The functions in the engine form: no condition.
-/
import Derived.Test.YtmhfebelfmgckaaGreatDoorCE
open Go.Proofs.Tryz renaming prog->al
set_option linter.all false
set_option maxRecDepth 100000
set_option maxHeartbeats 4000000
namespace Go.Proofs.Dev
open Go Go.Tm
def k5:Kf al 5:=.of ce
def k13:Kf al 13:=.of ce
def k14:Kf al 14:=.of ce
def k16:Kf al 16:=.of ce
def k36:Kf al 36:=.of ce
def k37:Kf al 37:=.of ce
def k39:Kf al 39:=.of ce
def k40:Kf al 40:=.of ce
def k42:Kf al 42:=.of ce
def k45:Kf al 45:=.of ce
def k49:Kf al 49:=.of ce
def k52:Kf al 52:=.of ce
def k53:Kf al 53:=.of ce
def k55:Kf al 55:=.of ce
def k56:Kf al 56:=.of ce
def k58:Kf al 58:=.of ce
def k81:Kf al 81:=.of ce
def k85:Kf al 85:=.of ce
def k87:Kf al 87:=.of ce
def k90:Kf al 90:=.of ce
def k92:Kf al 92:=.of ce
def k96:Kf al 96:=.of ce
def k98:Kf al 98:=.of ce
def ch3:Kf al 108:=.of ce
def ch1:Kf al 110:=.of ce
def an6:Kf al 115:=.of ce
def cg5:Kf al 120:=.of ce
def bk8:Kf al 123:=.of ce
def cg1:Kf al 125:=.of ce
def cg0:Kf al 137:=.of ce
def cf5:Kf al 146:=.of ce
def cf4:Kf al 147:=.of ce
def ce9:Kf al 152:=.of ce
def ce2:Kf al 159:=.of ce
def cd7:Kf al 164:=.of ce
def cd3:Kf al 172:=.of ce
def cd2:Kf al 173:=.of ce
def cc5:Kf al 180:=.of ce
def cc3:Kf al 182:=.of ce
def cc2:Kf al 184:=.of ce
def cb1:Kf al 195:=.of ce
def cb0:Kf al 196:=.of ce
def ca5:Kf al 201:=.of ce
def ca0:Kf al 216:=.of ce
def bZ7:Kf al 219:=.of ce
def bX5:Kf al 251:=.of ce
def bW6:Kf al 266:=.of ce
def bW3:Kf al 269:=.of ce
def bV8:Kf al 275:=.of ce
def bV6:Kf al 277:=.of ce
def bU9:Kf al 289:=.of ce
def bU3:Kf al 295:=.of ce
def bU1:Kf al 297:=.of ce
def bk5:Kf al 303:=.of ce
def bT8:Kf al 304:=.of ce
def bT6:Kf al 306:=.of ce
def bT3:Kf al 310:=.of ce
def bk2:Kf al 313:=.of ce
def bk0:Kf al 321:=.of ce
def bR4:Kf al 332:=.of ce
def bR2:Kf al 334:=.of ce
def bQ3:Kf al 345:=.of ce
def bQ1:Kf al 347:=.of ce
def bj4:Kf al 352:=.of ce
def bP8:Kf al 355:=.of ce
def bP7:Kf al 356:=.of ce
def bP6:Kf al 357:=.of ce
def bj0:Kf al 361:=.of ce
def bP4:Kf al 362:=.of ce
def bP0:Kf al 366:=.of ce
def bN9:Kf al 377:=.of ce
def bN0:Kf al 386:=.of ce
def bL5:Kf al 401:=.of ce
def bK7:Kf al 409:=.of ce
def bK1:Kf al 415:=.of ce
def bJ0:Kf al 427:=.of ce
def bI8:Kf al 429:=.of ce
def bH5:Kf al 442:=.of ce
def bG8:Kf al 449:=.of ce
def bG5:Kf al 453:=.of ce
def bG2:Kf al 456:=.of ce
def bG1:Kf al 457:=.of ce
def bF8:Kf al 460:=.of ce
def bF7:Kf al 461:=.of ce
def bF5:Kf al 463:=.of ce
def bF0:Kf al 468:=.of ce
def bE9:Kf al 469:=.of ce
def bE8:Kf al 470:=.of ce
def bE6:Kf al 472:=.of ce
def bE3:Kf al 475:=.of ce
def bE0:Kf al 478:=.of ce
def bD7:Kf al 481:=.of ce
def bD5:Kf al 483:=.of ce
def bD4:Kf al 484:=.of ce
def bC9:Kf al 493:=.of ce
def bC4:Kf al 498:=.of ce
def bC3:Kf al 499:=.of ce
def bC2:Kf al 500:=.of ce
def bi6:Kf al 525:=.of ce
end Go.Proofs.Dev
