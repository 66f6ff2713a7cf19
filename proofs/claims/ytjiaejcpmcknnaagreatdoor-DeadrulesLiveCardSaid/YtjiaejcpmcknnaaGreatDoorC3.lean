/-
  The functions in the engine form: no condition.
-/
import Derived.Test.YtjiaejcpmcknnaaGreatDoorCE
set_option linter.all false
set_option maxRecDepth 100000
set_option maxHeartbeats 4000000
namespace Go.Proofs.Dev
open Go Go.Tm
def k5:Kf Tryz.prog 5:=.of ce
def k8:Kf Tryz.prog 8:=.of ce
def k10:Kf Tryz.prog 10:=.of ce
def k13:Kf Tryz.prog 13:=.of ce
def k18:Kf Tryz.prog 18:=.of ce
def k19:Kf Tryz.prog 19:=.of ce
def k21:Kf Tryz.prog 21:=.of ce
def k26:Kf Tryz.prog 26:=.of ce
def k28:Kf Tryz.prog 28:=.of ce
def k33:Kf Tryz.prog 33:=.of ce
def k44:Kf Tryz.prog 44:=.of ce
def k48:Kf Tryz.prog 48:=.of ce
def k55:Kf Tryz.prog 55:=.of ce
def k56:Kf Tryz.prog 56:=.of ce
def C9:Kf Tryz.prog 64:=.of ce
def k65:Kf Tryz.prog 65:=.of ce
def k77:Kf Tryz.prog 77:=.of ce
def k84:Kf Tryz.prog 84:=.of ce
def k91:Kf Tryz.prog 91:=.of ce
def k97:Kf Tryz.prog 97:=.of ce
def Vaa:Kf Tryz.prog 109:=.of ce
def Waa:Kf Tryz.prog 110:=.of ce
def Yaa:Kf Tryz.prog 112:=.of ce
def bab:Kf Tryz.prog 115:=.of ce
def cab:Kf Tryz.prog 116:=.of ce
def G6:Kf Tryz.prog 122:=.of ce
def kab:Kf Tryz.prog 124:=.of ce
def mab:Kf Tryz.prog 129:=.of ce
def nab:Kf Tryz.prog 130:=.of ce
def qab:Kf Tryz.prog 133:=.of ce
def zab:Kf Tryz.prog 142:=.of ce
def Eab:Kf Tryz.prog 147:=.of ce
def Jab:Kf Tryz.prog 152:=.of ce
def Lab:Kf Tryz.prog 156:=.of ce
def Rab:Kf Tryz.prog 171:=.of ce
def Tab:Kf Tryz.prog 173:=.of ce
def Uab:Kf Tryz.prog 174:=.of ce
def Yab:Kf Tryz.prog 181:=.of ce
def Zab:Kf Tryz.prog 182:=.of ce
def aac:Kf Tryz.prog 183:=.of ce
def bac:Kf Tryz.prog 184:=.of ce
def pac:Kf Tryz.prog 198:=.of ce
def vac:Kf Tryz.prog 204:=.of ce
def zac:Kf Tryz.prog 219:=.of ce
def Aac:Kf Tryz.prog 220:=.of ce
def Bac:Kf Tryz.prog 221:=.of ce
def Q6:Kf Tryz.prog 235:=.of ce
def U6:Kf Tryz.prog 240:=.of ce
def k244:Kf Tryz.prog 244:=.of ce
def k245:Kf Tryz.prog 245:=.of ce
def k248:Kf Tryz.prog 248:=.of ce
def k251:Kf Tryz.prog 251:=.of ce
def k262:Kf Tryz.prog 262:=.of ce
def k270:Kf Tryz.prog 270:=.of ce
def k290:Kf Tryz.prog 290:=.of ce
def k340:Kf Tryz.prog 340:=.of ce
def Y6:Kf Tryz.prog 384:=.of ce
def Z6:Kf Tryz.prog 385:=.of ce
def i7:Kf Tryz.prog 386:=.of ce
def k29:Kf Tryz.prog 29:=.of ce
def k30:Kf Tryz.prog 30:=.of ce
def k38:Kf Tryz.prog 38:=.of ce
def k40:Kf Tryz.prog 40:=.of ce
def k41:Kf Tryz.prog 41:=.of ce
def k47:Kf Tryz.prog 47:=.of ce
def k49:Kf Tryz.prog 49:=.of ce
end Go.Proofs.Dev
