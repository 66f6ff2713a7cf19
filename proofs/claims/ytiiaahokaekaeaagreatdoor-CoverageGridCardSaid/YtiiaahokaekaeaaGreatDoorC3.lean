/-
  The functions in the engine form: no condition.
-/
import Derived.Test.YtiiaahokaekaeaaGreatDoorCE
set_option linter.all false
set_option maxRecDepth 100000
set_option maxHeartbeats 4000000
namespace Go.Proofs.Dev
open Go Go.Tm
def k7:Kf Tryz.prog 7:=.of ce
def k23:Kf Tryz.prog 23:=.of ce
def k30:Kf Tryz.prog 30:=.of ce
def k31:Kf Tryz.prog 31:=.of ce
def k32:Kf Tryz.prog 32:=.of ce
def k33:Kf Tryz.prog 33:=.of ce
def k42:Kf Tryz.prog 42:=.of ce
def k43:Kf Tryz.prog 43:=.of ce
def k49:Kf Tryz.prog 49:=.of ce
def k54:Kf Tryz.prog 54:=.of ce
def k62:Kf Tryz.prog 62:=.of ce
def k67:Kf Tryz.prog 67:=.of ce
def k68:Kf Tryz.prog 68:=.of ce
def k74:Kf Tryz.prog 74:=.of ce
def k75:Kf Tryz.prog 75:=.of ce
def k90:Kf Tryz.prog 90:=.of ce
def k92:Kf Tryz.prog 92:=.of ce
def k94:Kf Tryz.prog 94:=.of ce
def k112:Kf Tryz.prog 112:=.of ce
def k115:Kf Tryz.prog 115:=.of ce
def k122:Kf Tryz.prog 122:=.of ce
def k123:Kf Tryz.prog 123:=.of ce
def k124:Kf Tryz.prog 124:=.of ce
def k125:Kf Tryz.prog 125:=.of ce
def k127:Kf Tryz.prog 127:=.of ce
def k128:Kf Tryz.prog 128:=.of ce
def k129:Kf Tryz.prog 129:=.of ce
def k136:Kf Tryz.prog 136:=.of ce
def k137:Kf Tryz.prog 137:=.of ce
def k140:Kf Tryz.prog 140:=.of ce
def k149:Kf Tryz.prog 149:=.of ce
def k150:Kf Tryz.prog 150:=.of ce
def k154:Kf Tryz.prog 154:=.of ce
def k156:Kf Tryz.prog 156:=.of ce
def k157:Kf Tryz.prog 157:=.of ce
def k159:Kf Tryz.prog 159:=.of ce
def k168:Kf Tryz.prog 168:=.of ce
def k180:Kf Tryz.prog 180:=.of ce
def k183:Kf Tryz.prog 183:=.of ce
def k185:Kf Tryz.prog 185:=.of ce
def k194:Kf Tryz.prog 194:=.of ce
def k207:Kf Tryz.prog 207:=.of ce
def k208:Kf Tryz.prog 208:=.of ce
def k210:Kf Tryz.prog 210:=.of ce
def k216:Kf Tryz.prog 216:=.of ce
def k217:Kf Tryz.prog 217:=.of ce
def k228:Kf Tryz.prog 228:=.of ce
def k229:Kf Tryz.prog 229:=.of ce
def k230:Kf Tryz.prog 230:=.of ce
def k234:Kf Tryz.prog 234:=.of ce
def k239:Kf Tryz.prog 239:=.of ce
def k242:Kf Tryz.prog 242:=.of ce
def k260:Kf Tryz.prog 260:=.of ce
def k287:Kf Tryz.prog 287:=.of ce
def k288:Kf Tryz.prog 288:=.of ce
def k291:Kf Tryz.prog 291:=.of ce
def k294:Kf Tryz.prog 294:=.of ce
def k315:Kf Tryz.prog 315:=.of ce
def k318:Kf Tryz.prog 318:=.of ce
def k319:Kf Tryz.prog 319:=.of ce
def k322:Kf Tryz.prog 322:=.of ce
def k325:Kf Tryz.prog 325:=.of ce
def k350:Kf Tryz.prog 350:=.of ce
def k351:Kf Tryz.prog 351:=.of ce
end Go.Proofs.Dev
