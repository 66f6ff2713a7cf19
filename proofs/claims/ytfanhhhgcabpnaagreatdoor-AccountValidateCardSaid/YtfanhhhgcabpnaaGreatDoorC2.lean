/-
  The functions in the engine form: no condition.
-/
import Derived.Test.YtfanhhhgcabpnaaGreatDoorCE
set_option linter.all false
set_option maxRecDepth 100000
set_option maxHeartbeats 4000000
namespace Go.Proofs.Dev
open Go Go.Tm
def Tk:Kf Tryz.prog 10:=.of ce
def Pl:Kf Tryz.prog 11:=.of ce
def Ql:Kf Tryz.prog 12:=.of ce
def Uk:Kf Tryz.prog 16:=.of ce
def Ul:Kf Tryz.prog 23:=.of ce
def Xk:Kf Tryz.prog 28:=.of ce
def Yl:Kf Tryz.prog 31:=.of ce
def kl:Kf Tryz.prog 49:=.of ce
def ml:Kf Tryz.prog 52:=.of ce
def ql:Kf Tryz.prog 53:=.of ce
def tm:Kf Tryz.prog 55:=.of ce
def Am:Kf Tryz.prog 61:=.of ce
def Bl:Kf Tryz.prog 66:=.of ce
def Em:Kf Tryz.prog 69:=.of ce
def Fm:Kf Tryz.prog 70:=.of ce
def Hm:Kf Tryz.prog 72:=.of ce
def Km:Kf Tryz.prog 75:=.of ce
def Um:Kf Tryz.prog 92:=.of ce
def Tf:Kf Tryz.prog 100:=.of ce
def Xf:Kf Tryz.prog 104:=.of ce
def Bd:Kf Tryz.prog 109:=.of ce
def Gd:Kf Tryz.prog 112:=.of ce
def Hd:Kf Tryz.prog 113:=.of ce
def cg:Kf Tryz.prog 115:=.of ce
def qg:Kf Tryz.prog 127:=.of ce
def ug:Kf Tryz.prog 134:=.of ce
def Cg:Kf Tryz.prog 142:=.of ce
def Dg:Kf Tryz.prog 143:=.of ce
def Eg:Kf Tryz.prog 144:=.of ce
def Gg:Kf Tryz.prog 148:=.of ce
def Kg:Kf Tryz.prog 152:=.of ce
def Pg:Kf Tryz.prog 157:=.of ce
def Tg:Kf Tryz.prog 161:=.of ce
def Od:Kf Tryz.prog 165:=.of ce
def Pc:Kf Tryz.prog 170:=.of ce
def Rc:Kf Tryz.prog 174:=.of ce
def Zd:Kf Tryz.prog 178:=.of ce
def fe:Kf Tryz.prog 180:=.of ce
def Xg:Kf Tryz.prog 184:=.of ce
def ah:Kf Tryz.prog 187:=.of ce
def dh:Kf Tryz.prog 189:=.of ce
def fh:Kf Tryz.prog 191:=.of ce
def ph:Kf Tryz.prog 198:=.of ce
def sh:Kf Tryz.prog 201:=.of ce
def Bh:Kf Tryz.prog 210:=.of ce
def me:Kf Tryz.prog 219:=.of ce
def Sc:Kf Tryz.prog 221:=.of ce
def Be:Kf Tryz.prog 232:=.of ce
def Mh:Kf Tryz.prog 235:=.of ce
def Rh:Kf Tryz.prog 240:=.of ce
def Xh:Kf Tryz.prog 244:=.of ce
def Yh:Kf Tryz.prog 245:=.of ce
def Zh:Kf Tryz.prog 246:=.of ce
def di:Kf Tryz.prog 248:=.of ce
def ji:Kf Tryz.prog 251:=.of ce
def ki:Kf Tryz.prog 252:=.of ce
def mi:Kf Tryz.prog 253:=.of ce
def ni:Kf Tryz.prog 254:=.of ce
def vi:Kf Tryz.prog 262:=.of ce
def Bi:Kf Tryz.prog 271:=.of ce
def Gi:Kf Tryz.prog 276:=.of ce
def Ni:Kf Tryz.prog 283:=.of ce
def Ri:Kf Tryz.prog 286:=.of ce
def Ti:Kf Tryz.prog 292:=.of ce
def Zi:Kf Tryz.prog 297:=.of ce
def dj:Kf Tryz.prog 301:=.of ce
def fj:Kf Tryz.prog 303:=.of ce
def ij:Kf Tryz.prog 304:=.of ce
def lj:Kf Tryz.prog 307:=.of ce
def Re:Kf Tryz.prog 312:=.of ce
def wj:Kf Tryz.prog 324:=.of ce
def xj:Kf Tryz.prog 325:=.of ce
def zj:Kf Tryz.prog 326:=.of ce
def Ej:Kf Tryz.prog 331:=.of ce
def Sj:Kf Tryz.prog 348:=.of ce
def Tj:Kf Tryz.prog 349:=.of ce
def Vj:Kf Tryz.prog 351:=.of ce
def Wj:Kf Tryz.prog 352:=.of ce
def pk:Kf Tryz.prog 363:=.of ce
def uk:Kf Tryz.prog 366:=.of ce
def xk:Kf Tryz.prog 368:=.of ce
def Dk:Kf Tryz.prog 370:=.of ce
def Ek:Kf Tryz.prog 371:=.of ce
def Gk:Kf Tryz.prog 389:=.of ce
end Go.Proofs.Dev
