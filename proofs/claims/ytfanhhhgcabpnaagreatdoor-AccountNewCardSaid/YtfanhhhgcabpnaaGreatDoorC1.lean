/-
  The functions in the engine form: no condition.
-/
import Derived.Test.YtfanhhhgcabpnaaGreatDoorCE
set_option linter.all false
set_option maxRecDepth 100000
set_option maxHeartbeats 4000000
namespace Go.Proofs.Dev
open Go Go.Tm
def k5:Kf Tryz.prog 5:=.of ce
def k16:Kf Tryz.prog 16:=.of ce
def k24:Kf Tryz.prog 24:=.of ce
def k28:Kf Tryz.prog 28:=.of ce
def k39:Kf Tryz.prog 39:=.of ce
def k41:Kf Tryz.prog 41:=.of ce
def k45:Kf Tryz.prog 45:=.of ce
def k49:Kf Tryz.prog 49:=.of ce
def k50:Kf Tryz.prog 50:=.of ce
def k61:Kf Tryz.prog 61:=.of ce
def k65:Kf Tryz.prog 65:=.of ce
def k66:Kf Tryz.prog 66:=.of ce
def k76:Kf Tryz.prog 76:=.of ce
def k86:Kf Tryz.prog 86:=.of ce
def k90:Kf Tryz.prog 90:=.of ce
def k91:Kf Tryz.prog 91:=.of ce
def k99:Kf Tryz.prog 99:=.of ce
def k119:Kf Tryz.prog 119:=.of ce
def k126:Kf Tryz.prog 126:=.of ce
def k127:Kf Tryz.prog 127:=.of ce
def k133:Kf Tryz.prog 133:=.of ce
def k136:Kf Tryz.prog 136:=.of ce
def k137:Kf Tryz.prog 137:=.of ce
def k156:Kf Tryz.prog 156:=.of ce
def k159:Kf Tryz.prog 159:=.of ce
def k173:Kf Tryz.prog 173:=.of ce
def k175:Kf Tryz.prog 175:=.of ce
def k179:Kf Tryz.prog 179:=.of ce
def k188:Kf Tryz.prog 188:=.of ce
def k190:Kf Tryz.prog 190:=.of ce
def k194:Kf Tryz.prog 194:=.of ce
def k195:Kf Tryz.prog 195:=.of ce
def k196:Kf Tryz.prog 196:=.of ce
def k198:Kf Tryz.prog 198:=.of ce
def k200:Kf Tryz.prog 200:=.of ce
def k205:Kf Tryz.prog 205:=.of ce
def k215:Kf Tryz.prog 215:=.of ce
def k216:Kf Tryz.prog 216:=.of ce
def k225:Kf Tryz.prog 225:=.of ce
def k230:Kf Tryz.prog 230:=.of ce
def k246:Kf Tryz.prog 246:=.of ce
def k257:Kf Tryz.prog 257:=.of ce
def k260:Kf Tryz.prog 260:=.of ce
def k263:Kf Tryz.prog 263:=.of ce
def k264:Kf Tryz.prog 264:=.of ce
def k267:Kf Tryz.prog 267:=.of ce
def k278:Kf Tryz.prog 278:=.of ce
def k298:Kf Tryz.prog 298:=.of ce
def k302:Kf Tryz.prog 302:=.of ce
def k304:Kf Tryz.prog 304:=.of ce
def k306:Kf Tryz.prog 306:=.of ce
def k309:Kf Tryz.prog 309:=.of ce
def k310:Kf Tryz.prog 310:=.of ce
def k311:Kf Tryz.prog 311:=.of ce
def k312:Kf Tryz.prog 312:=.of ce
def k313:Kf Tryz.prog 313:=.of ce
def k330:Kf Tryz.prog 330:=.of ce
def k336:Kf Tryz.prog 336:=.of ce
def k345:Kf Tryz.prog 345:=.of ce
def k347:Kf Tryz.prog 347:=.of ce
def k350:Kf Tryz.prog 350:=.of ce
def k365:Kf Tryz.prog 365:=.of ce
def k368:Kf Tryz.prog 368:=.of ce
def k372:Kf Tryz.prog 372:=.of ce
def k390:Kf Tryz.prog 390:=.of ce
def k391:Kf Tryz.prog 391:=.of ce
end Go.Proofs.Dev
