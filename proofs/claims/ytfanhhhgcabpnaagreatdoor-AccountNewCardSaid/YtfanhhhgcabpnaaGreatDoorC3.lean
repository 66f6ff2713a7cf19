/-
  The functions in the engine form: no condition.
-/
import Derived.Test.YtfanhhhgcabpnaaGreatDoorCE
set_option linter.all false
set_option maxRecDepth 100000
set_option maxHeartbeats 4000000
namespace Go.Proofs.Dev
open Go Go.Tm
def k10:Kf Tryz.prog 10:=.of ce
def k12:Kf Tryz.prog 12:=.of ce
def k18:Kf Tryz.prog 18:=.of ce
def k27:Kf Tryz.prog 27:=.of ce
def k33:Kf Tryz.prog 33:=.of ce
def k34:Kf Tryz.prog 34:=.of ce
def k42:Kf Tryz.prog 42:=.of ce
def k43:Kf Tryz.prog 43:=.of ce
def k52:Kf Tryz.prog 52:=.of ce
def k63:Kf Tryz.prog 63:=.of ce
def k88:Kf Tryz.prog 88:=.of ce
def k92:Kf Tryz.prog 92:=.of ce
def k94:Kf Tryz.prog 94:=.of ce
def k96:Kf Tryz.prog 96:=.of ce
def k97:Kf Tryz.prog 97:=.of ce
def k105:Kf Tryz.prog 105:=.of ce
def k106:Kf Tryz.prog 106:=.of ce
def k108:Kf Tryz.prog 108:=.of ce
def k109:Kf Tryz.prog 109:=.of ce
def k110:Kf Tryz.prog 110:=.of ce
def k112:Kf Tryz.prog 112:=.of ce
def k117:Kf Tryz.prog 117:=.of ce
def k125:Kf Tryz.prog 125:=.of ce
def k135:Kf Tryz.prog 135:=.of ce
def k138:Kf Tryz.prog 138:=.of ce
def k139:Kf Tryz.prog 139:=.of ce
def k141:Kf Tryz.prog 141:=.of ce
def k144:Kf Tryz.prog 144:=.of ce
def k145:Kf Tryz.prog 145:=.of ce
def k146:Kf Tryz.prog 146:=.of ce
def k157:Kf Tryz.prog 157:=.of ce
def k158:Kf Tryz.prog 158:=.of ce
def k160:Kf Tryz.prog 160:=.of ce
def k165:Kf Tryz.prog 165:=.of ce
def k168:Kf Tryz.prog 168:=.of ce
def k169:Kf Tryz.prog 169:=.of ce
def k170:Kf Tryz.prog 170:=.of ce
def k174:Kf Tryz.prog 174:=.of ce
def k180:Kf Tryz.prog 180:=.of ce
def k189:Kf Tryz.prog 189:=.of ce
def k199:Kf Tryz.prog 199:=.of ce
def k201:Kf Tryz.prog 201:=.of ce
def k206:Kf Tryz.prog 206:=.of ce
def k209:Kf Tryz.prog 209:=.of ce
def k213:Kf Tryz.prog 213:=.of ce
def k218:Kf Tryz.prog 218:=.of ce
def k219:Kf Tryz.prog 219:=.of ce
def k222:Kf Tryz.prog 222:=.of ce
def k228:Kf Tryz.prog 228:=.of ce
def k232:Kf Tryz.prog 232:=.of ce
def k248:Kf Tryz.prog 248:=.of ce
def k256:Kf Tryz.prog 256:=.of ce
def k275:Kf Tryz.prog 275:=.of ce
def k282:Kf Tryz.prog 282:=.of ce
def k287:Kf Tryz.prog 287:=.of ce
def k288:Kf Tryz.prog 288:=.of ce
def k290:Kf Tryz.prog 290:=.of ce
def k300:Kf Tryz.prog 300:=.of ce
def k303:Kf Tryz.prog 303:=.of ce
def k308:Kf Tryz.prog 308:=.of ce
def k326:Kf Tryz.prog 326:=.of ce
def k327:Kf Tryz.prog 327:=.of ce
def k328:Kf Tryz.prog 328:=.of ce
def k331:Kf Tryz.prog 331:=.of ce
def k343:Kf Tryz.prog 343:=.of ce
def k359:Kf Tryz.prog 359:=.of ce
def k367:Kf Tryz.prog 367:=.of ce
end Go.Proofs.Dev
