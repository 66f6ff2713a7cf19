/-
  The functions in the engine form: no condition.
-/
import Derived.Test.YtfanhhhgcabpnaaGreatDoorCE
set_option linter.all false
set_option maxRecDepth 100000
set_option maxHeartbeats 4000000
namespace Go.Proofs.Dev
open Go Go.Tm
def k7:Kf Tryz.prog 7:=.of ce
def k8:Kf Tryz.prog 8:=.of ce
def k24:Kf Tryz.prog 24:=.of ce
def k33:Kf Tryz.prog 33:=.of ce
def k45:Kf Tryz.prog 45:=.of ce
def k61:Kf Tryz.prog 61:=.of ce
def k65:Kf Tryz.prog 65:=.of ce
def k68:Kf Tryz.prog 68:=.of ce
def k76:Kf Tryz.prog 76:=.of ce
def k96:Kf Tryz.prog 96:=.of ce
def k105:Kf Tryz.prog 105:=.of ce
def k106:Kf Tryz.prog 106:=.of ce
def k108:Kf Tryz.prog 108:=.of ce
def k110:Kf Tryz.prog 110:=.of ce
def k115:Kf Tryz.prog 115:=.of ce
def k116:Kf Tryz.prog 116:=.of ce
def k121:Kf Tryz.prog 121:=.of ce
def k146:Kf Tryz.prog 146:=.of ce
def k155:Kf Tryz.prog 155:=.of ce
def k158:Kf Tryz.prog 158:=.of ce
def k161:Kf Tryz.prog 161:=.of ce
def k162:Kf Tryz.prog 162:=.of ce
def k169:Kf Tryz.prog 169:=.of ce
def k171:Kf Tryz.prog 171:=.of ce
def k172:Kf Tryz.prog 172:=.of ce
def k175:Kf Tryz.prog 175:=.of ce
def k180:Kf Tryz.prog 180:=.of ce
def k187:Kf Tryz.prog 187:=.of ce
def k189:Kf Tryz.prog 189:=.of ce
def k190:Kf Tryz.prog 190:=.of ce
def k192:Kf Tryz.prog 192:=.of ce
def k193:Kf Tryz.prog 193:=.of ce
def k198:Kf Tryz.prog 198:=.of ce
def k214:Kf Tryz.prog 214:=.of ce
def k220:Kf Tryz.prog 220:=.of ce
def k223:Kf Tryz.prog 223:=.of ce
def k231:Kf Tryz.prog 231:=.of ce
def k233:Kf Tryz.prog 233:=.of ce
def k238:Kf Tryz.prog 238:=.of ce
def k239:Kf Tryz.prog 239:=.of ce
def k243:Kf Tryz.prog 243:=.of ce
def k248:Kf Tryz.prog 248:=.of ce
def k254:Kf Tryz.prog 254:=.of ce
def k255:Kf Tryz.prog 255:=.of ce
def k257:Kf Tryz.prog 257:=.of ce
def k259:Kf Tryz.prog 259:=.of ce
def k275:Kf Tryz.prog 275:=.of ce
def k279:Kf Tryz.prog 279:=.of ce
def k284:Kf Tryz.prog 284:=.of ce
def k288:Kf Tryz.prog 288:=.of ce
def k289:Kf Tryz.prog 289:=.of ce
def k299:Kf Tryz.prog 299:=.of ce
def k309:Kf Tryz.prog 309:=.of ce
def k312:Kf Tryz.prog 312:=.of ce
def k315:Kf Tryz.prog 315:=.of ce
def k316:Kf Tryz.prog 316:=.of ce
def k321:Kf Tryz.prog 321:=.of ce
def k326:Kf Tryz.prog 326:=.of ce
def k327:Kf Tryz.prog 327:=.of ce
def k330:Kf Tryz.prog 330:=.of ce
def k340:Kf Tryz.prog 340:=.of ce
def k342:Kf Tryz.prog 342:=.of ce
def k349:Kf Tryz.prog 349:=.of ce
def k353:Kf Tryz.prog 353:=.of ce
def k358:Kf Tryz.prog 358:=.of ce
def k360:Kf Tryz.prog 360:=.of ce
def k362:Kf Tryz.prog 362:=.of ce
def k365:Kf Tryz.prog 365:=.of ce
end Go.Proofs.Dev
