/-
  The functions in the engine form: no condition.
-/
import Derived.Test.YtiiaahokaekaeaaGreatDoorCE
set_option linter.all false
set_option maxRecDepth 100000
set_option maxHeartbeats 4000000
namespace Go.Proofs.Dev
open Go Go.Tm
def k3:Kf Tryz.prog 3:=.of ce
def k10:Kf Tryz.prog 10:=.of ce
def k11:Kf Tryz.prog 11:=.of ce
def k27:Kf Tryz.prog 27:=.of ce
def k37:Kf Tryz.prog 37:=.of ce
def k38:Kf Tryz.prog 38:=.of ce
def k39:Kf Tryz.prog 39:=.of ce
def k46:Kf Tryz.prog 46:=.of ce
def k66:Kf Tryz.prog 66:=.of ce
def k70:Kf Tryz.prog 70:=.of ce
def k80:Kf Tryz.prog 80:=.of ce
def k81:Kf Tryz.prog 81:=.of ce
def k82:Kf Tryz.prog 82:=.of ce
def k83:Kf Tryz.prog 83:=.of ce
def k86:Kf Tryz.prog 86:=.of ce
def k87:Kf Tryz.prog 87:=.of ce
def k91:Kf Tryz.prog 91:=.of ce
def k96:Kf Tryz.prog 96:=.of ce
def k116:Kf Tryz.prog 116:=.of ce
def k117:Kf Tryz.prog 117:=.of ce
def k120:Kf Tryz.prog 120:=.of ce
def k133:Kf Tryz.prog 133:=.of ce
def k138:Kf Tryz.prog 138:=.of ce
def k153:Kf Tryz.prog 153:=.of ce
def k162:Kf Tryz.prog 162:=.of ce
def k163:Kf Tryz.prog 163:=.of ce
def k170:Kf Tryz.prog 170:=.of ce
def k172:Kf Tryz.prog 172:=.of ce
def k173:Kf Tryz.prog 173:=.of ce
def k177:Kf Tryz.prog 177:=.of ce
def k184:Kf Tryz.prog 184:=.of ce
def k187:Kf Tryz.prog 187:=.of ce
def k189:Kf Tryz.prog 189:=.of ce
def k190:Kf Tryz.prog 190:=.of ce
def k193:Kf Tryz.prog 193:=.of ce
def k196:Kf Tryz.prog 196:=.of ce
def k212:Kf Tryz.prog 212:=.of ce
def k213:Kf Tryz.prog 213:=.of ce
def k215:Kf Tryz.prog 215:=.of ce
def k222:Kf Tryz.prog 222:=.of ce
def k224:Kf Tryz.prog 224:=.of ce
def k225:Kf Tryz.prog 225:=.of ce
def k226:Kf Tryz.prog 226:=.of ce
def k231:Kf Tryz.prog 231:=.of ce
def k240:Kf Tryz.prog 240:=.of ce
def k244:Kf Tryz.prog 244:=.of ce
def k255:Kf Tryz.prog 255:=.of ce
def k257:Kf Tryz.prog 257:=.of ce
def k259:Kf Tryz.prog 259:=.of ce
def k261:Kf Tryz.prog 261:=.of ce
def k264:Kf Tryz.prog 264:=.of ce
def k268:Kf Tryz.prog 268:=.of ce
def k269:Kf Tryz.prog 269:=.of ce
def k292:Kf Tryz.prog 292:=.of ce
def k314:Kf Tryz.prog 314:=.of ce
def k316:Kf Tryz.prog 316:=.of ce
def k321:Kf Tryz.prog 321:=.of ce
def k323:Kf Tryz.prog 323:=.of ce
def k326:Kf Tryz.prog 326:=.of ce
def k340:Kf Tryz.prog 340:=.of ce
def k346:Kf Tryz.prog 346:=.of ce
def k347:Kf Tryz.prog 347:=.of ce
def k348:Kf Tryz.prog 348:=.of ce
def k349:Kf Tryz.prog 349:=.of ce
end Go.Proofs.Dev
