/-
  The functions in the engine form: no condition.
-/
import Derived.Test.YtfanhhhgcabpnaaGreatDoorCE
set_option linter.all false
set_option maxRecDepth 100000
set_option maxHeartbeats 4000000
namespace Go.Proofs.Dev
open Go Go.Tm
def k5:Kf Tryz.prog 5:=.of ce
def Sl:Kf Tryz.prog 20:=.of ce
def Tl:Kf Tryz.prog 22:=.of ce
def Vl:Kf Tryz.prog 24:=.of ce
def Wl:Kf Tryz.prog 29:=.of ce
def Xl:Kf Tryz.prog 30:=.of ce
def bm:Kf Tryz.prog 33:=.of ce
def fm:Kf Tryz.prog 39:=.of ce
def im:Kf Tryz.prog 43:=.of ce
def km:Kf Tryz.prog 44:=.of ce
def Yk:Kf Tryz.prog 45:=.of ce
def Zk:Kf Tryz.prog 46:=.of ce
def rm:Kf Tryz.prog 54:=.of ce
def xl:Kf Tryz.prog 63:=.of ce
def zl:Kf Tryz.prog 64:=.of ce
def Al:Kf Tryz.prog 65:=.of ce
def Mm:Kf Tryz.prog 86:=.of ce
def Pm:Kf Tryz.prog 88:=.of ce
def El:Kf Tryz.prog 94:=.of ce
def Il:Kf Tryz.prog 99:=.of ce
def Dd:Kf Tryz.prog 111:=.of ce
def dg:Kf Tryz.prog 116:=.of ce
def jg:Kf Tryz.prog 120:=.of ce
def kg:Kf Tryz.prog 121:=.of ce
def k137:Kf Tryz.prog 137:=.of ce
def xg:Kf Tryz.prog 138:=.of ce
def Ag:Kf Tryz.prog 140:=.of ce
def Ld:Kf Tryz.prog 146:=.of ce
def Fg:Kf Tryz.prog 147:=.of ce
def Hg:Kf Tryz.prog 149:=.of ce
def Qg:Kf Tryz.prog 158:=.of ce
def Oc:Kf Tryz.prog 164:=.of ce
def Sd:Kf Tryz.prog 168:=.of ce
def Td:Kf Tryz.prog 169:=.of ce
def Wg:Kf Tryz.prog 183:=.of ce
def ie:Kf Tryz.prog 190:=.of ce
def gh:Kf Tryz.prog 192:=.of ce
def kh:Kf Tryz.prog 193:=.of ce
def nh:Kf Tryz.prog 196:=.of ce
def vh:Kf Tryz.prog 205:=.of ce
def xh:Kf Tryz.prog 207:=.of ce
def Dh:Kf Tryz.prog 212:=.of ce
def Eh:Kf Tryz.prog 213:=.of ce
def Fh:Kf Tryz.prog 214:=.of ce
def Ih:Kf Tryz.prog 216:=.of ce
def Jh:Kf Tryz.prog 217:=.of ce
def Wc:Kf Tryz.prog 227:=.of ce
def ue:Kf Tryz.prog 228:=.of ce
def we:Kf Tryz.prog 229:=.of ce
def Ce:Kf Tryz.prog 233:=.of ce
def Kh:Kf Tryz.prog 234:=.of ce
def Ph:Kf Tryz.prog 238:=.of ce
def Uh:Kf Tryz.prog 242:=.of ce
def ai:Kf Tryz.prog 247:=.of ce
def qi:Kf Tryz.prog 256:=.of ce
def Yc:Kf Tryz.prog 263:=.of ce
def Zc:Kf Tryz.prog 264:=.of ce
def Ee:Kf Tryz.prog 265:=.of ce
def Fi:Kf Tryz.prog 275:=.of ce
def He:Kf Tryz.prog 287:=.of ce
def Ie:Kf Tryz.prog 288:=.of ce
def Ui:Kf Tryz.prog 293:=.of ce
def bj:Kf Tryz.prog 299:=.of ce
def cj:Kf Tryz.prog 300:=.of ce
def jj:Kf Tryz.prog 305:=.of ce
def Oe:Kf Tryz.prog 309:=.of ce
def Se:Kf Tryz.prog 313:=.of ce
def mj:Kf Tryz.prog 315:=.of ce
def oj:Kf Tryz.prog 317:=.of ce
def qj:Kf Tryz.prog 319:=.of ce
def uj:Kf Tryz.prog 322:=.of ce
def Aj:Kf Tryz.prog 327:=.of ce
def Dj:Kf Tryz.prog 330:=.of ce
def Ij:Kf Tryz.prog 338:=.of ce
def Lj:Kf Tryz.prog 341:=.of ce
def Nj:Kf Tryz.prog 343:=.of ce
def Oj:Kf Tryz.prog 344:=.of ce
def Pj:Kf Tryz.prog 345:=.of ce
def Rj:Kf Tryz.prog 347:=.of ce
def Xj:Kf Tryz.prog 353:=.of ce
def Zj:Kf Tryz.prog 356:=.of ce
def ck:Kf Tryz.prog 357:=.of ce
def nk:Kf Tryz.prog 362:=.of ce
def rk:Kf Tryz.prog 365:=.of ce
def Hk:Kf Tryz.prog 390:=.of ce
def Ik:Kf Tryz.prog 391:=.of ce
end Go.Proofs.Dev
