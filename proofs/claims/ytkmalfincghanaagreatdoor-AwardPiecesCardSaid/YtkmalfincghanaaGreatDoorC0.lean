/-
  The functions in the engine form: no condition.
-/
import Derived.Test.YtkmalfincghanaaGreatDoorCE
set_option linter.all false
set_option maxRecDepth 100000
set_option maxHeartbeats 4000000
namespace Go.Proofs.Dev
open Go Go.Tm
def k2:Kf Tryz.prog 2:=.of ce
def k11:Kf Tryz.prog 11:=.of ce
def k27:Kf Tryz.prog 27:=.of ce
def k37:Kf Tryz.prog 37:=.of ce
def k38:Kf Tryz.prog 38:=.of ce
def k46:Kf Tryz.prog 46:=.of ce
def k49:Kf Tryz.prog 49:=.of ce
def k59:Kf Tryz.prog 59:=.of ce
def k65:Kf Tryz.prog 65:=.of ce
def k67:Kf Tryz.prog 67:=.of ce
def k72:Kf Tryz.prog 72:=.of ce
def k82:Kf Tryz.prog 82:=.of ce
def k86:Kf Tryz.prog 86:=.of ce
def k90:Kf Tryz.prog 90:=.of ce
def k109:Kf Tryz.prog 109:=.of ce
def k111:Kf Tryz.prog 111:=.of ce
def k112:Kf Tryz.prog 112:=.of ce
def k113:Kf Tryz.prog 113:=.of ce
def k115:Kf Tryz.prog 115:=.of ce
def k116:Kf Tryz.prog 116:=.of ce
def k125:Kf Tryz.prog 125:=.of ce
def k127:Kf Tryz.prog 127:=.of ce
def k134:Kf Tryz.prog 134:=.of ce
def k135:Kf Tryz.prog 135:=.of ce
def k138:Kf Tryz.prog 138:=.of ce
def k139:Kf Tryz.prog 139:=.of ce
def k153:Kf Tryz.prog 153:=.of ce
def k161:Kf Tryz.prog 161:=.of ce
def k171:Kf Tryz.prog 171:=.of ce
def k175:Kf Tryz.prog 175:=.of ce
def k195:Kf Tryz.prog 195:=.of ce
def k202:Kf Tryz.prog 202:=.of ce
def k204:Kf Tryz.prog 204:=.of ce
def k205:Kf Tryz.prog 205:=.of ce
def k206:Kf Tryz.prog 206:=.of ce
def k207:Kf Tryz.prog 207:=.of ce
def k215:Kf Tryz.prog 215:=.of ce
def k232:Kf Tryz.prog 232:=.of ce
def k234:Kf Tryz.prog 234:=.of ce
def k235:Kf Tryz.prog 235:=.of ce
def k240:Kf Tryz.prog 240:=.of ce
def k248:Kf Tryz.prog 248:=.of ce
def k273:Kf Tryz.prog 273:=.of ce
def k276:Kf Tryz.prog 276:=.of ce
def k277:Kf Tryz.prog 277:=.of ce
def k278:Kf Tryz.prog 278:=.of ce
def k281:Kf Tryz.prog 281:=.of ce
def k307:Kf Tryz.prog 307:=.of ce
def k309:Kf Tryz.prog 309:=.of ce
def k329:Kf Tryz.prog 329:=.of ce
def k330:Kf Tryz.prog 330:=.of ce
def k333:Kf Tryz.prog 333:=.of ce
def k335:Kf Tryz.prog 335:=.of ce
def k340:Kf Tryz.prog 340:=.of ce
def k368:Kf Tryz.prog 368:=.of ce
def k369:Kf Tryz.prog 369:=.of ce
def k387:Kf Tryz.prog 387:=.of ce
def k408:Kf Tryz.prog 408:=.of ce
end Go.Proofs.Dev
