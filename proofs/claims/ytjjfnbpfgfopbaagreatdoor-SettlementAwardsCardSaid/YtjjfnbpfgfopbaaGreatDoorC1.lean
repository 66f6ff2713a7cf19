/-
  The functions in the engine form: no condition.
-/
import Derived.Test.YtjjfnbpfgfopbaaGreatDoorCE
set_option linter.all false
set_option maxRecDepth 100000
set_option maxHeartbeats 4000000
namespace Go.Proofs.Dev
open Go Go.Tm
def k3:Kf Tryz.prog 3:=.of ce
def k4:Kf Tryz.prog 4:=.of ce
def k19:Kf Tryz.prog 19:=.of ce
def k20:Kf Tryz.prog 20:=.of ce
def k21:Kf Tryz.prog 21:=.of ce
def k34:Kf Tryz.prog 34:=.of ce
def k35:Kf Tryz.prog 35:=.of ce
def k36:Kf Tryz.prog 36:=.of ce
def k44:Kf Tryz.prog 44:=.of ce
def k55:Kf Tryz.prog 55:=.of ce
def k56:Kf Tryz.prog 56:=.of ce
def k58:Kf Tryz.prog 58:=.of ce
def k59:Kf Tryz.prog 59:=.of ce
def k62:Kf Tryz.prog 62:=.of ce
def k69:Kf Tryz.prog 69:=.of ce
def k72:Kf Tryz.prog 72:=.of ce
def k73:Kf Tryz.prog 73:=.of ce
def k74:Kf Tryz.prog 74:=.of ce
def k75:Kf Tryz.prog 75:=.of ce
def k77:Kf Tryz.prog 77:=.of ce
def k80:Kf Tryz.prog 80:=.of ce
def k88:Kf Tryz.prog 88:=.of ce
def k89:Kf Tryz.prog 89:=.of ce
def k98:Kf Tryz.prog 98:=.of ce
def k107:Kf Tryz.prog 107:=.of ce
def k108:Kf Tryz.prog 108:=.of ce
def k111:Kf Tryz.prog 111:=.of ce
def k115:Kf Tryz.prog 115:=.of ce
def k117:Kf Tryz.prog 117:=.of ce
def k119:Kf Tryz.prog 119:=.of ce
def k120:Kf Tryz.prog 120:=.of ce
def haa:Kf Tryz.prog 121:=.of ce
def k130:Kf Tryz.prog 130:=.of ce
def jaa:Kf Tryz.prog 138:=.of ce
def k140:Kf Tryz.prog 140:=.of ce
def k153:Kf Tryz.prog 153:=.of ce
def k156:Kf Tryz.prog 156:=.of ce
def k163:Kf Tryz.prog 163:=.of ce
def k166:Kf Tryz.prog 166:=.of ce
def k167:Kf Tryz.prog 167:=.of ce
def k180:Kf Tryz.prog 180:=.of ce
def k183:Kf Tryz.prog 183:=.of ce
def k192:Kf Tryz.prog 192:=.of ce
def k196:Kf Tryz.prog 196:=.of ce
def k208:Kf Tryz.prog 208:=.of ce
def k215:Kf Tryz.prog 215:=.of ce
def k224:Kf Tryz.prog 224:=.of ce
def k225:Kf Tryz.prog 225:=.of ce
def k228:Kf Tryz.prog 228:=.of ce
def k230:Kf Tryz.prog 230:=.of ce
def k232:Kf Tryz.prog 232:=.of ce
def k242:Kf Tryz.prog 242:=.of ce
def k243:Kf Tryz.prog 243:=.of ce
def k246:Kf Tryz.prog 246:=.of ce
def k248:Kf Tryz.prog 248:=.of ce
def k255:Kf Tryz.prog 255:=.of ce
def k265:Kf Tryz.prog 265:=.of ce
def k268:Kf Tryz.prog 268:=.of ce
def k270:Kf Tryz.prog 270:=.of ce
def k273:Kf Tryz.prog 273:=.of ce
def k275:Kf Tryz.prog 275:=.of ce
def k280:Kf Tryz.prog 280:=.of ce
def k287:Kf Tryz.prog 287:=.of ce
def k290:Kf Tryz.prog 290:=.of ce
def k299:Kf Tryz.prog 299:=.of ce
end Go.Proofs.Dev
