/-
  The functions in the engine form: no condition.
-/
import Derived.Test.YtjiaejcpmcknnaaGreatDoorCE
set_option linter.all false
set_option maxRecDepth 100000
set_option maxHeartbeats 4000000
namespace Go.Proofs.Dev
open Go Go.Tm
def k4:Kf Tryz.prog 4:=.of ce
def k14:Kf Tryz.prog 14:=.of ce
def k16:Kf Tryz.prog 16:=.of ce
def k20:Kf Tryz.prog 20:=.of ce
def k23:Kf Tryz.prog 23:=.of ce
def k32:Kf Tryz.prog 32:=.of ce
def k39:Kf Tryz.prog 39:=.of ce
def k43:Kf Tryz.prog 43:=.of ce
def k50:Kf Tryz.prog 50:=.of ce
def k52:Kf Tryz.prog 52:=.of ce
def k53:Kf Tryz.prog 53:=.of ce
def k57:Kf Tryz.prog 57:=.of ce
def k58:Kf Tryz.prog 58:=.of ce
def k60:Kf Tryz.prog 60:=.of ce
def k61:Kf Tryz.prog 61:=.of ce
def k62:Kf Tryz.prog 62:=.of ce
def k66:Kf Tryz.prog 66:=.of ce
def k68:Kf Tryz.prog 68:=.of ce
def k76:Kf Tryz.prog 76:=.of ce
def k82:Kf Tryz.prog 82:=.of ce
def k85:Kf Tryz.prog 85:=.of ce
def k90:Kf Tryz.prog 90:=.of ce
def k96:Kf Tryz.prog 96:=.of ce
def k102:Kf Tryz.prog 102:=.of ce
def k103:Kf Tryz.prog 103:=.of ce
def k104:Kf Tryz.prog 104:=.of ce
def k105:Kf Tryz.prog 105:=.of ce
def k111:Kf Tryz.prog 111:=.of ce
def k113:Kf Tryz.prog 113:=.of ce
def k114:Kf Tryz.prog 114:=.of ce
def k118:Kf Tryz.prog 118:=.of ce
def k119:Kf Tryz.prog 119:=.of ce
def k128:Kf Tryz.prog 128:=.of ce
def k131:Kf Tryz.prog 131:=.of ce
def k135:Kf Tryz.prog 135:=.of ce
def k138:Kf Tryz.prog 138:=.of ce
def k150:Kf Tryz.prog 150:=.of ce
def k153:Kf Tryz.prog 153:=.of ce
def k159:Kf Tryz.prog 159:=.of ce
def u9:Kf Tryz.prog 160:=.of ce
def k170:Kf Tryz.prog 170:=.of ce
def C9:Kf Tryz.prog 177:=.of ce
def k178:Kf Tryz.prog 178:=.of ce
def k191:Kf Tryz.prog 191:=.of ce
def k194:Kf Tryz.prog 194:=.of ce
def k196:Kf Tryz.prog 196:=.of ce
def k197:Kf Tryz.prog 197:=.of ce
def k205:Kf Tryz.prog 205:=.of ce
def k218:Kf Tryz.prog 218:=.of ce
def k222:Kf Tryz.prog 222:=.of ce
def k223:Kf Tryz.prog 223:=.of ce
def k224:Kf Tryz.prog 224:=.of ce
def k233:Kf Tryz.prog 233:=.of ce
def I9:Kf Tryz.prog 237:=.of ce
def k241:Kf Tryz.prog 241:=.of ce
def k242:Kf Tryz.prog 242:=.of ce
def k249:Kf Tryz.prog 249:=.of ce
def k254:Kf Tryz.prog 254:=.of ce
def k267:Kf Tryz.prog 267:=.of ce
def k271:Kf Tryz.prog 271:=.of ce
def k280:Kf Tryz.prog 280:=.of ce
def M9:Kf Tryz.prog 282:=.of ce
def k284:Kf Tryz.prog 284:=.of ce
def k287:Kf Tryz.prog 287:=.of ce
def k288:Kf Tryz.prog 288:=.of ce
def k320:Kf Tryz.prog 320:=.of ce
def k321:Kf Tryz.prog 321:=.of ce
def k341:Kf Tryz.prog 341:=.of ce
def k342:Kf Tryz.prog 342:=.of ce
def k344:Kf Tryz.prog 344:=.of ce
def k345:Kf Tryz.prog 345:=.of ce
def k351:Kf Tryz.prog 351:=.of ce
end Go.Proofs.Dev
