/-
  The functions in the engine form: no condition.
-/
import Derived.Test.YtadinajclolmnaaGreatDoorCE
open Go.Proofs.Tryz renaming prog->al
set_option linter.all false
set_option maxRecDepth 100000
set_option maxHeartbeats 4000000
namespace Go.Proofs.Dev
open Go Go.Tm
def k14:Kf al 14:=.of ce
def k16:Kf al 16:=.of ce
def k21:Kf al 21:=.of ce
def k22:Kf al 22:=.of ce
def k23:Kf al 23:=.of ce
def k26:Kf al 26:=.of ce
def k34:Kf al 34:=.of ce
def k36:Kf al 36:=.of ce
def k44:Kf al 44:=.of ce
def k47:Kf al 47:=.of ce
def k50:Kf al 50:=.of ce
def k55:Kf al 55:=.of ce
def k57:Kf al 57:=.of ce
def k62:Kf al 62:=.of ce
def k64:Kf al 64:=.of ce
def k69:Kf al 69:=.of ce
def k71:Kf al 71:=.of ce
def k90:Kf al 90:=.of ce
def k91:Kf al 91:=.of ce
def k97:Kf al 97:=.of ce
def GV:Kf al 100:=.of ce
def aq7:Kf al 104:=.of ce
def bD2:Kf al 106:=.of ce
def bC5:Kf al 115:=.of ce
def bC3:Kf al 117:=.of ce
def bB9:Kf al 121:=.of ce
def bB4:Kf al 127:=.of ce
def bA9:Kf al 132:=.of ce
def aq2:Kf al 137:=.of ce
def bz8:Kf al 146:=.of ce
def cb8:Kf al 147:=.of ce
def bz1:Kf al 157:=.of ce
def by8:Kf al 161:=.of ce
def by3:Kf al 166:=.of ce
def by1:Kf al 168:=.of ce
def bx8:Kf al 171:=.of ce
def bx3:Kf al 176:=.of ce
def bx2:Kf al 177:=.of ce
def ca8:Kf al 186:=.of ce
def bx0:Kf al 189:=.of ce
def bw4:Kf al 195:=.of ce
def bv7:Kf al 203:=.of ce
def bv5:Kf al 205:=.of ce
def aS5:Kf al 212:=.of ce
def bu9:Kf al 214:=.of ce
def bu7:Kf al 216:=.of ce
def ca6:Kf al 218:=.of ce
def bu4:Kf al 224:=.of ce
def bu1:Kf al 227:=.of ce
def bu0:Kf al 228:=.of ce
def bt8:Kf al 230:=.of ce
def bt7:Kf al 232:=.of ce
def bt6:Kf al 233:=.of ce
def bt3:Kf al 236:=.of ce
def aS1:Kf al 240:=.of ce
def bt1:Kf al 241:=.of ce
def aS0:Kf al 242:=.of ce
def bs7:Kf al 247:=.of ce
def bs5:Kf al 250:=.of ce
def ap9:Kf al 251:=.of ce
def aR7:Kf al 254:=.of ce
def aR5:Kf al 256:=.of ce
def bs3:Kf al 257:=.of ce
def bs2:Kf al 258:=.of ce
def aR4:Kf al 261:=.of ce
def br6:Kf al 269:=.of ce
def br0:Kf al 275:=.of ce
def bq8:Kf al 278:=.of ce
def bq7:Kf al 279:=.of ce
def bp7:Kf al 290:=.of ce
def bo8:Kf al 299:=.of ce
def bo2:Kf al 305:=.of ce
def bm7:Kf al 326:=.of ce
def bm6:Kf al 327:=.of ce
def bm4:Kf al 329:=.of ce
end Go.Proofs.Dev
