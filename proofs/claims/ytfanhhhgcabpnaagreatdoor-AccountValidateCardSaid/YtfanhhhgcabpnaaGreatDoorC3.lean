/-
  The functions in the engine form: no condition.
-/
import Derived.Test.YtfanhhhgcabpnaaGreatDoorCE
set_option linter.all false
set_option maxRecDepth 100000
set_option maxHeartbeats 4000000
namespace Go.Proofs.Dev
open Go Go.Tm
def k6:Kf Tryz.prog 6:=.of ce
def k7:Kf Tryz.prog 7:=.of ce
def k8:Kf Tryz.prog 8:=.of ce
def Rl:Kf Tryz.prog 18:=.of ce
def Vk:Kf Tryz.prog 21:=.of ce
def Wk:Kf Tryz.prog 27:=.of ce
def cm:Kf Tryz.prog 34:=.of ce
def gm:Kf Tryz.prog 40:=.of ce
def om:Kf Tryz.prog 50:=.of ce
def wm:Kf Tryz.prog 58:=.of ce
def xm:Kf Tryz.prog 59:=.of ce
def ym:Kf Tryz.prog 60:=.of ce
def Cm:Kf Tryz.prog 67:=.of ce
def Dm:Kf Tryz.prog 68:=.of ce
def Jm:Kf Tryz.prog 74:=.of ce
def Cl:Kf Tryz.prog 76:=.of ce
def Dl:Kf Tryz.prog 77:=.of ce
def Lm:Kf Tryz.prog 82:=.of ce
def Fl:Kf Tryz.prog 95:=.of ce
def Hl:Kf Tryz.prog 97:=.of ce
def Uf:Kf Tryz.prog 101:=.of ce
def Vf:Kf Tryz.prog 102:=.of ce
def Yf:Kf Tryz.prog 105:=.of ce
def eg:Kf Tryz.prog 117:=.of ce
def ig:Kf Tryz.prog 119:=.of ce
def mg:Kf Tryz.prog 124:=.of ce
def sg:Kf Tryz.prog 130:=.of ce
def tg:Kf Tryz.prog 133:=.of ce
def vg:Kf Tryz.prog 135:=.of ce
def wg:Kf Tryz.prog 136:=.of ce
def Bg:Kf Tryz.prog 141:=.of ce
def Ig:Kf Tryz.prog 150:=.of ce
def Lg:Kf Tryz.prog 153:=.of ce
def Mg:Kf Tryz.prog 154:=.of ce
def Og:Kf Tryz.prog 156:=.of ce
def Rg:Kf Tryz.prog 159:=.of ce
def Sg:Kf Tryz.prog 160:=.of ce
def Md:Kf Tryz.prog 162:=.of ce
def Pd:Kf Tryz.prog 166:=.of ce
def Ud:Kf Tryz.prog 171:=.of ce
def Qc:Kf Tryz.prog 172:=.of ce
def Wd:Kf Tryz.prog 175:=.of ce
def Xd:Kf Tryz.prog 176:=.of ce
def Vg:Kf Tryz.prog 182:=.of ce
def bh:Kf Tryz.prog 188:=.of ce
def mh:Kf Tryz.prog 195:=.of ce
def qh:Kf Tryz.prog 199:=.of ce
def uh:Kf Tryz.prog 204:=.of ce
def wh:Kf Tryz.prog 206:=.of ce
def Ah:Kf Tryz.prog 209:=.of ce
def Hh:Kf Tryz.prog 215:=.of ce
def je:Kf Tryz.prog 218:=.of ce
def pe:Kf Tryz.prog 220:=.of ce
def Tc:Kf Tryz.prog 222:=.of ce
def xe:Kf Tryz.prog 230:=.of ce
def Nh:Kf Tryz.prog 236:=.of ce
def Th:Kf Tryz.prog 241:=.of ce
def si:Kf Tryz.prog 257:=.of ce
def Xc:Kf Tryz.prog 259:=.of ce
def ui:Kf Tryz.prog 261:=.of ce
def Fe:Kf Tryz.prog 266:=.of ce
def zi:Kf Tryz.prog 269:=.of ce
def Ai:Kf Tryz.prog 270:=.of ce
def Ci:Kf Tryz.prog 272:=.of ce
def Ii:Kf Tryz.prog 277:=.of ce
def Ji:Kf Tryz.prog 279:=.of ce
def Ki:Kf Tryz.prog 280:=.of ce
def Mi:Kf Tryz.prog 282:=.of ce
def Je:Kf Tryz.prog 289:=.of ce
def Ke:Kf Tryz.prog 290:=.of ce
def Vi:Kf Tryz.prog 294:=.of ce
def Wi:Kf Tryz.prog 295:=.of ce
def aj:Kf Tryz.prog 298:=.of ce
def ej:Kf Tryz.prog 302:=.of ce
def kj:Kf Tryz.prog 306:=.of ce
def Qe:Kf Tryz.prog 311:=.of ce
def nj:Kf Tryz.prog 316:=.of ce
def rj:Kf Tryz.prog 320:=.of ce
def Bj:Kf Tryz.prog 328:=.of ce
def Fj:Kf Tryz.prog 332:=.of ce
def Gj:Kf Tryz.prog 334:=.of ce
def Ue:Kf Tryz.prog 336:=.of ce
def gk:Kf Tryz.prog 359:=.of ce
def qk:Kf Tryz.prog 364:=.of ce
def wk:Kf Tryz.prog 367:=.of ce
def Ak:Kf Tryz.prog 369:=.of ce
def Fk:Kf Tryz.prog 372:=.of ce
end Go.Proofs.Dev
namespace Go.Proofs.Dev
open Go Go.Tm
end Go.Proofs.Dev
