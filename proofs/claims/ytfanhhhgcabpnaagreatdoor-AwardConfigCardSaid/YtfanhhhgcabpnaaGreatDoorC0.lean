/-
  The functions in the engine form: no condition.
-/
import Derived.Test.YtfanhhhgcabpnaaGreatDoorCE
set_option linter.all false
set_option maxRecDepth 100000
set_option maxHeartbeats 4000000
namespace Go.Proofs.Dev
open Go Go.Tm
def k5:Kf Tryz.prog 5:=.of ce
def k10:Kf Tryz.prog 10:=.of ce
def k23:Kf Tryz.prog 23:=.of ce
def k27:Kf Tryz.prog 27:=.of ce
def k30:Kf Tryz.prog 30:=.of ce
def k32:Kf Tryz.prog 32:=.of ce
def k62:Kf Tryz.prog 62:=.of ce
def k64:Kf Tryz.prog 64:=.of ce
def k66:Kf Tryz.prog 66:=.of ce
def k69:Kf Tryz.prog 69:=.of ce
def k73:Kf Tryz.prog 73:=.of ce
def k75:Kf Tryz.prog 75:=.of ce
def k95:Kf Tryz.prog 95:=.of ce
def k107:Kf Tryz.prog 107:=.of ce
def k109:Kf Tryz.prog 109:=.of ce
def k112:Kf Tryz.prog 112:=.of ce
def k118:Kf Tryz.prog 118:=.of ce
def k119:Kf Tryz.prog 119:=.of ce
def k120:Kf Tryz.prog 120:=.of ce
def k122:Kf Tryz.prog 122:=.of ce
def k127:Kf Tryz.prog 127:=.of ce
def k151:Kf Tryz.prog 151:=.of ce
def k153:Kf Tryz.prog 153:=.of ce
def k157:Kf Tryz.prog 157:=.of ce
def k163:Kf Tryz.prog 163:=.of ce
def k165:Kf Tryz.prog 165:=.of ce
def k166:Kf Tryz.prog 166:=.of ce
def k170:Kf Tryz.prog 170:=.of ce
def k174:Kf Tryz.prog 174:=.of ce
def k177:Kf Tryz.prog 177:=.of ce
def k181:Kf Tryz.prog 181:=.of ce
def k184:Kf Tryz.prog 184:=.of ce
def k185:Kf Tryz.prog 185:=.of ce
def k186:Kf Tryz.prog 186:=.of ce
def k194:Kf Tryz.prog 194:=.of ce
def k196:Kf Tryz.prog 196:=.of ce
def k215:Kf Tryz.prog 215:=.of ce
def k218:Kf Tryz.prog 218:=.of ce
def k222:Kf Tryz.prog 222:=.of ce
def k226:Kf Tryz.prog 226:=.of ce
def k229:Kf Tryz.prog 229:=.of ce
def k230:Kf Tryz.prog 230:=.of ce
def k242:Kf Tryz.prog 242:=.of ce
def k249:Kf Tryz.prog 249:=.of ce
def k262:Kf Tryz.prog 262:=.of ce
def k267:Kf Tryz.prog 267:=.of ce
def k271:Kf Tryz.prog 271:=.of ce
def k273:Kf Tryz.prog 273:=.of ce
def k274:Kf Tryz.prog 274:=.of ce
def k291:Kf Tryz.prog 291:=.of ce
def k298:Kf Tryz.prog 298:=.of ce
def k302:Kf Tryz.prog 302:=.of ce
def k305:Kf Tryz.prog 305:=.of ce
def k306:Kf Tryz.prog 306:=.of ce
def k311:Kf Tryz.prog 311:=.of ce
def k314:Kf Tryz.prog 314:=.of ce
def k328:Kf Tryz.prog 328:=.of ce
def k329:Kf Tryz.prog 329:=.of ce
def k336:Kf Tryz.prog 336:=.of ce
def k337:Kf Tryz.prog 337:=.of ce
def k341:Kf Tryz.prog 341:=.of ce
def k346:Kf Tryz.prog 346:=.of ce
def k347:Kf Tryz.prog 347:=.of ce
def k354:Kf Tryz.prog 354:=.of ce
def k361:Kf Tryz.prog 361:=.of ce
def k363:Kf Tryz.prog 363:=.of ce
def k370:Kf Tryz.prog 370:=.of ce
def k391:Kf Tryz.prog 391:=.of ce
end Go.Proofs.Dev
