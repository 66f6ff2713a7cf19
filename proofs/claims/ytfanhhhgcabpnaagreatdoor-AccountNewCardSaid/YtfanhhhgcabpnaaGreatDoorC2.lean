/-
  The functions in the engine form: no condition.
-/
import Derived.Test.YtfanhhhgcabpnaaGreatDoorCE
set_option linter.all false
set_option maxRecDepth 100000
set_option maxHeartbeats 4000000
namespace Go.Proofs.Dev
open Go Go.Tm
def k17:Kf Tryz.prog 17:=.of ce
def k32:Kf Tryz.prog 32:=.of ce
def k48:Kf Tryz.prog 48:=.of ce
def k51:Kf Tryz.prog 51:=.of ce
def k70:Kf Tryz.prog 70:=.of ce
def k75:Kf Tryz.prog 75:=.of ce
def k93:Kf Tryz.prog 93:=.of ce
def k95:Kf Tryz.prog 95:=.of ce
def k107:Kf Tryz.prog 107:=.of ce
def k111:Kf Tryz.prog 111:=.of ce
def k113:Kf Tryz.prog 113:=.of ce
def k118:Kf Tryz.prog 118:=.of ce
def k120:Kf Tryz.prog 120:=.of ce
def k123:Kf Tryz.prog 123:=.of ce
def k142:Kf Tryz.prog 142:=.of ce
def k153:Kf Tryz.prog 153:=.of ce
def k154:Kf Tryz.prog 154:=.of ce
def k155:Kf Tryz.prog 155:=.of ce
def k161:Kf Tryz.prog 161:=.of ce
def k163:Kf Tryz.prog 163:=.of ce
def k167:Kf Tryz.prog 167:=.of ce
def k177:Kf Tryz.prog 177:=.of ce
def k178:Kf Tryz.prog 178:=.of ce
def k187:Kf Tryz.prog 187:=.of ce
def k191:Kf Tryz.prog 191:=.of ce
def k193:Kf Tryz.prog 193:=.of ce
def k208:Kf Tryz.prog 208:=.of ce
def k210:Kf Tryz.prog 210:=.of ce
def k214:Kf Tryz.prog 214:=.of ce
def k217:Kf Tryz.prog 217:=.of ce
def k221:Kf Tryz.prog 221:=.of ce
def k224:Kf Tryz.prog 224:=.of ce
def k227:Kf Tryz.prog 227:=.of ce
def k229:Kf Tryz.prog 229:=.of ce
def k233:Kf Tryz.prog 233:=.of ce
def k247:Kf Tryz.prog 247:=.of ce
def k249:Kf Tryz.prog 249:=.of ce
def k250:Kf Tryz.prog 250:=.of ce
def k251:Kf Tryz.prog 251:=.of ce
def k252:Kf Tryz.prog 252:=.of ce
def k253:Kf Tryz.prog 253:=.of ce
def k254:Kf Tryz.prog 254:=.of ce
def k258:Kf Tryz.prog 258:=.of ce
def k261:Kf Tryz.prog 261:=.of ce
def k265:Kf Tryz.prog 265:=.of ce
def k266:Kf Tryz.prog 266:=.of ce
def k277:Kf Tryz.prog 277:=.of ce
def k279:Kf Tryz.prog 279:=.of ce
def k283:Kf Tryz.prog 283:=.of ce
def k284:Kf Tryz.prog 284:=.of ce
def k295:Kf Tryz.prog 295:=.of ce
def k296:Kf Tryz.prog 296:=.of ce
def k297:Kf Tryz.prog 297:=.of ce
def k299:Kf Tryz.prog 299:=.of ce
def k321:Kf Tryz.prog 321:=.of ce
def k322:Kf Tryz.prog 322:=.of ce
def k329:Kf Tryz.prog 329:=.of ce
def k344:Kf Tryz.prog 344:=.of ce
def k349:Kf Tryz.prog 349:=.of ce
def k353:Kf Tryz.prog 353:=.of ce
def k357:Kf Tryz.prog 357:=.of ce
def k360:Kf Tryz.prog 360:=.of ce
def k361:Kf Tryz.prog 361:=.of ce
def k362:Kf Tryz.prog 362:=.of ce
def k363:Kf Tryz.prog 363:=.of ce
def k366:Kf Tryz.prog 366:=.of ce
def k369:Kf Tryz.prog 369:=.of ce
def k370:Kf Tryz.prog 370:=.of ce
end Go.Proofs.Dev
