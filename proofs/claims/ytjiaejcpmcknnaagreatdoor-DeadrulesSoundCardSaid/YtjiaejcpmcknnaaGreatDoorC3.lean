/-
  The functions in the engine form: no condition.
-/
import Derived.Test.YtjiaejcpmcknnaaGreatDoorCE
set_option linter.all false
set_option maxRecDepth 100000
set_option maxHeartbeats 4000000
namespace Go.Proofs.Dev
open Go Go.Tm
def k5:Kf Tryz.prog 5:=.of ce
def k6:Kf Tryz.prog 6:=.of ce
def k8:Kf Tryz.prog 8:=.of ce
def k13:Kf Tryz.prog 13:=.of ce
def k18:Kf Tryz.prog 18:=.of ce
def k19:Kf Tryz.prog 19:=.of ce
def k21:Kf Tryz.prog 21:=.of ce
def k28:Kf Tryz.prog 28:=.of ce
def k44:Kf Tryz.prog 44:=.of ce
def k48:Kf Tryz.prog 48:=.of ce
def k55:Kf Tryz.prog 55:=.of ce
def k56:Kf Tryz.prog 56:=.of ce
def k64:Kf Tryz.prog 64:=.of ce
def k65:Kf Tryz.prog 65:=.of ce
def k77:Kf Tryz.prog 77:=.of ce
def k84:Kf Tryz.prog 84:=.of ce
def k91:Kf Tryz.prog 91:=.of ce
def k97:Kf Tryz.prog 97:=.of ce
def k109:Kf Tryz.prog 109:=.of ce
def k110:Kf Tryz.prog 110:=.of ce
def k112:Kf Tryz.prog 112:=.of ce
def k115:Kf Tryz.prog 115:=.of ce
def k116:Kf Tryz.prog 116:=.of ce
def r9:Kf Tryz.prog 122:=.of ce
def k124:Kf Tryz.prog 124:=.of ce
def k129:Kf Tryz.prog 129:=.of ce
def k130:Kf Tryz.prog 130:=.of ce
def k133:Kf Tryz.prog 133:=.of ce
def k142:Kf Tryz.prog 142:=.of ce
def k147:Kf Tryz.prog 147:=.of ce
def k152:Kf Tryz.prog 152:=.of ce
def k156:Kf Tryz.prog 156:=.of ce
def k171:Kf Tryz.prog 171:=.of ce
def k173:Kf Tryz.prog 173:=.of ce
def k174:Kf Tryz.prog 174:=.of ce
def k181:Kf Tryz.prog 181:=.of ce
def k182:Kf Tryz.prog 182:=.of ce
def k183:Kf Tryz.prog 183:=.of ce
def k184:Kf Tryz.prog 184:=.of ce
def k198:Kf Tryz.prog 198:=.of ce
def k204:Kf Tryz.prog 204:=.of ce
def k219:Kf Tryz.prog 219:=.of ce
def k220:Kf Tryz.prog 220:=.of ce
def k221:Kf Tryz.prog 221:=.of ce
def G9:Kf Tryz.prog 235:=.of ce
def K9:Kf Tryz.prog 240:=.of ce
def k244:Kf Tryz.prog 244:=.of ce
def k245:Kf Tryz.prog 245:=.of ce
def k248:Kf Tryz.prog 248:=.of ce
def k251:Kf Tryz.prog 251:=.of ce
def k262:Kf Tryz.prog 262:=.of ce
def k268:Kf Tryz.prog 268:=.of ce
def k269:Kf Tryz.prog 269:=.of ce
def k270:Kf Tryz.prog 270:=.of ce
def k289:Kf Tryz.prog 289:=.of ce
def k290:Kf Tryz.prog 290:=.of ce
def k291:Kf Tryz.prog 291:=.of ce
def k294:Kf Tryz.prog 294:=.of ce
def k313:Kf Tryz.prog 313:=.of ce
def k316:Kf Tryz.prog 316:=.of ce
def k340:Kf Tryz.prog 340:=.of ce
def O9:Kf Tryz.prog 384:=.of ce
def P9:Kf Tryz.prog 385:=.of ce
def Q9:Kf Tryz.prog 386:=.of ce
def k38:Kf Tryz.prog 38:=.of ce
def k40:Kf Tryz.prog 40:=.of ce
def k41:Kf Tryz.prog 41:=.of ce
def k47:Kf Tryz.prog 47:=.of ce
def k49:Kf Tryz.prog 49:=.of ce
end Go.Proofs.Dev
