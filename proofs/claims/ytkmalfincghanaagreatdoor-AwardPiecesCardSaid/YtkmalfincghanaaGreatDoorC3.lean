/-
  The functions in the engine form: no condition.
-/
import Derived.Test.YtkmalfincghanaaGreatDoorCE
set_option linter.all false
set_option maxRecDepth 100000
set_option maxHeartbeats 4000000
namespace Go.Proofs.Dev
open Go Go.Tm
def k3:Kf Tryz.prog 3:=.of ce
def k5:Kf Tryz.prog 5:=.of ce
def k10:Kf Tryz.prog 10:=.of ce
def k19:Kf Tryz.prog 19:=.of ce
def k23:Kf Tryz.prog 23:=.of ce
def k26:Kf Tryz.prog 26:=.of ce
def k32:Kf Tryz.prog 32:=.of ce
def k33:Kf Tryz.prog 33:=.of ce
def k44:Kf Tryz.prog 44:=.of ce
def k48:Kf Tryz.prog 48:=.of ce
def k50:Kf Tryz.prog 50:=.of ce
def k58:Kf Tryz.prog 58:=.of ce
def k64:Kf Tryz.prog 64:=.of ce
def k71:Kf Tryz.prog 71:=.of ce
def k76:Kf Tryz.prog 76:=.of ce
def k79:Kf Tryz.prog 79:=.of ce
def k85:Kf Tryz.prog 85:=.of ce
def k88:Kf Tryz.prog 88:=.of ce
def k114:Kf Tryz.prog 114:=.of ce
def k117:Kf Tryz.prog 117:=.of ce
def k119:Kf Tryz.prog 119:=.of ce
def k121:Kf Tryz.prog 121:=.of ce
def k122:Kf Tryz.prog 122:=.of ce
def k126:Kf Tryz.prog 126:=.of ce
def k133:Kf Tryz.prog 133:=.of ce
def k137:Kf Tryz.prog 137:=.of ce
def k140:Kf Tryz.prog 140:=.of ce
def k141:Kf Tryz.prog 141:=.of ce
def k159:Kf Tryz.prog 159:=.of ce
def k160:Kf Tryz.prog 160:=.of ce
def k163:Kf Tryz.prog 163:=.of ce
def k167:Kf Tryz.prog 167:=.of ce
def k168:Kf Tryz.prog 168:=.of ce
def k173:Kf Tryz.prog 173:=.of ce
def k189:Kf Tryz.prog 189:=.of ce
def k192:Kf Tryz.prog 192:=.of ce
def k198:Kf Tryz.prog 198:=.of ce
def k199:Kf Tryz.prog 199:=.of ce
def k209:Kf Tryz.prog 209:=.of ce
def k227:Kf Tryz.prog 227:=.of ce
def k229:Kf Tryz.prog 229:=.of ce
def k231:Kf Tryz.prog 231:=.of ce
def k237:Kf Tryz.prog 237:=.of ce
def k239:Kf Tryz.prog 239:=.of ce
def k241:Kf Tryz.prog 241:=.of ce
def k244:Kf Tryz.prog 244:=.of ce
def k246:Kf Tryz.prog 246:=.of ce
def k247:Kf Tryz.prog 247:=.of ce
def k250:Kf Tryz.prog 250:=.of ce
def k279:Kf Tryz.prog 279:=.of ce
def k305:Kf Tryz.prog 305:=.of ce
def k306:Kf Tryz.prog 306:=.of ce
def k337:Kf Tryz.prog 337:=.of ce
def k344:Kf Tryz.prog 344:=.of ce
def k366:Kf Tryz.prog 366:=.of ce
def k367:Kf Tryz.prog 367:=.of ce
def k370:Kf Tryz.prog 370:=.of ce
def k372:Kf Tryz.prog 372:=.of ce
def k390:Kf Tryz.prog 390:=.of ce
def k391:Kf Tryz.prog 391:=.of ce
end Go.Proofs.Dev
