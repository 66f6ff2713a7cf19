/-
  The functions in the engine form: no condition.
-/
import Derived.Test.YtfanhhhgcabpnaaGreatDoorCE
set_option linter.all false
set_option maxRecDepth 100000
set_option maxHeartbeats 4000000
namespace Go.Proofs.Dev
open Go Go.Tm
def Zl:Kf Tryz.prog 32:=.of ce
def bl:Kf Tryz.prog 47:=.of ce
def il:Kf Tryz.prog 48:=.of ce
def qm:Kf Tryz.prog 51:=.of ce
def um:Kf Tryz.prog 56:=.of ce
def vm:Kf Tryz.prog 57:=.of ce
def Bm:Kf Tryz.prog 62:=.of ce
def Gm:Kf Tryz.prog 71:=.of ce
def Im:Kf Tryz.prog 73:=.of ce
def Om:Kf Tryz.prog 87:=.of ce
def Qm:Kf Tryz.prog 89:=.of ce
def Rm:Kf Tryz.prog 90:=.of ce
def Sm:Kf Tryz.prog 91:=.of ce
def Gl:Kf Tryz.prog 96:=.of ce
def Vm:Kf Tryz.prog 98:=.of ce
def Wf:Kf Tryz.prog 103:=.of ce
def Zf:Kf Tryz.prog 106:=.of ce
def ag:Kf Tryz.prog 107:=.of ce
def xd:Kf Tryz.prog 108:=.of ce
def Cd:Kf Tryz.prog 110:=.of ce
def bg:Kf Tryz.prog 114:=.of ce
def fg:Kf Tryz.prog 118:=.of ce
def Jd:Kf Tryz.prog 122:=.of ce
def lg:Kf Tryz.prog 123:=.of ce
def ng:Kf Tryz.prog 125:=.of ce
def og:Kf Tryz.prog 126:=.of ce
def yg:Kf Tryz.prog 139:=.of ce
def Kd:Kf Tryz.prog 145:=.of ce
def Jg:Kf Tryz.prog 151:=.of ce
def Ng:Kf Tryz.prog 155:=.of ce
def Nd:Kf Tryz.prog 163:=.of ce
def Qd:Kf Tryz.prog 167:=.of ce
def Vd:Kf Tryz.prog 173:=.of ce
def Yd:Kf Tryz.prog 177:=.of ce
def ee:Kf Tryz.prog 179:=.of ce
def Ug:Kf Tryz.prog 181:=.of ce
def Yg:Kf Tryz.prog 185:=.of ce
def Zg:Kf Tryz.prog 186:=.of ce
def lh:Kf Tryz.prog 194:=.of ce
def oh:Kf Tryz.prog 197:=.of ce
def rh:Kf Tryz.prog 200:=.of ce
def th:Kf Tryz.prog 203:=.of ce
def zh:Kf Tryz.prog 208:=.of ce
def Ch:Kf Tryz.prog 211:=.of ce
def Uc:Kf Tryz.prog 223:=.of ce
def qe:Kf Tryz.prog 224:=.of ce
def Vc:Kf Tryz.prog 225:=.of ce
def re:Kf Tryz.prog 226:=.of ce
def Ae:Kf Tryz.prog 231:=.of ce
def Oh:Kf Tryz.prog 237:=.of ce
def Qh:Kf Tryz.prog 239:=.of ce
def Vh:Kf Tryz.prog 243:=.of ce
def ei:Kf Tryz.prog 249:=.of ce
def fi:Kf Tryz.prog 250:=.of ce
def oi:Kf Tryz.prog 255:=.of ce
def De:Kf Tryz.prog 258:=.of ce
def ti:Kf Tryz.prog 260:=.of ce
def Ge:Kf Tryz.prog 267:=.of ce
def wi:Kf Tryz.prog 268:=.of ce
def Di:Kf Tryz.prog 273:=.of ce
def Ei:Kf Tryz.prog 274:=.of ce
def bd:Kf Tryz.prog 278:=.of ce
def Li:Kf Tryz.prog 281:=.of ce
def Oi:Kf Tryz.prog 284:=.of ce
def Qi:Kf Tryz.prog 285:=.of ce
def Si:Kf Tryz.prog 291:=.of ce
def Xi:Kf Tryz.prog 296:=.of ce
def Me:Kf Tryz.prog 308:=.of ce
def Pe:Kf Tryz.prog 310:=.of ce
def Te:Kf Tryz.prog 314:=.of ce
def pj:Kf Tryz.prog 318:=.of ce
def sj:Kf Tryz.prog 321:=.of ce
def vj:Kf Tryz.prog 323:=.of ce
def Cj:Kf Tryz.prog 329:=.of ce
def Hj:Kf Tryz.prog 335:=.of ce
def Ve:Kf Tryz.prog 337:=.of ce
def Jj:Kf Tryz.prog 339:=.of ce
def Kj:Kf Tryz.prog 340:=.of ce
def Mj:Kf Tryz.prog 342:=.of ce
def Qj:Kf Tryz.prog 346:=.of ce
def Uj:Kf Tryz.prog 350:=.of ce
def Yj:Kf Tryz.prog 354:=.of ce
def fk:Kf Tryz.prog 358:=.of ce
def ik:Kf Tryz.prog 360:=.of ce
def lk:Kf Tryz.prog 361:=.of ce
def Jk:Kf Tryz.prog 392:=.of ce
end Go.Proofs.Dev
