/-
  The functions in the engine form: no condition.
-/
import Derived.Test.YtkmalfincghanaaGreatDoorCE
set_option linter.all false
set_option maxRecDepth 100000
set_option maxHeartbeats 4000000
namespace Go.Proofs.Dev
open Go Go.Tm
def k15:Kf Tryz.prog 15:=.of ce
def k31:Kf Tryz.prog 31:=.of ce
def k34:Kf Tryz.prog 34:=.of ce
def k39:Kf Tryz.prog 39:=.of ce
def k40:Kf Tryz.prog 40:=.of ce
def k41:Kf Tryz.prog 41:=.of ce
def k42:Kf Tryz.prog 42:=.of ce
def k43:Kf Tryz.prog 43:=.of ce
def k47:Kf Tryz.prog 47:=.of ce
def k57:Kf Tryz.prog 57:=.of ce
def k62:Kf Tryz.prog 62:=.of ce
def k73:Kf Tryz.prog 73:=.of ce
def k74:Kf Tryz.prog 74:=.of ce
def k81:Kf Tryz.prog 81:=.of ce
def k87:Kf Tryz.prog 87:=.of ce
def k89:Kf Tryz.prog 89:=.of ce
def k123:Kf Tryz.prog 123:=.of ce
def k128:Kf Tryz.prog 128:=.of ce
def k129:Kf Tryz.prog 129:=.of ce
def k131:Kf Tryz.prog 131:=.of ce
def k136:Kf Tryz.prog 136:=.of ce
def k154:Kf Tryz.prog 154:=.of ce
def k158:Kf Tryz.prog 158:=.of ce
def k164:Kf Tryz.prog 164:=.of ce
def k166:Kf Tryz.prog 166:=.of ce
def k169:Kf Tryz.prog 169:=.of ce
def k170:Kf Tryz.prog 170:=.of ce
def k190:Kf Tryz.prog 190:=.of ce
def k191:Kf Tryz.prog 191:=.of ce
def k193:Kf Tryz.prog 193:=.of ce
def k196:Kf Tryz.prog 196:=.of ce
def k197:Kf Tryz.prog 197:=.of ce
def k200:Kf Tryz.prog 200:=.of ce
def k201:Kf Tryz.prog 201:=.of ce
def k203:Kf Tryz.prog 203:=.of ce
def k208:Kf Tryz.prog 208:=.of ce
def k211:Kf Tryz.prog 211:=.of ce
def k212:Kf Tryz.prog 212:=.of ce
def k214:Kf Tryz.prog 214:=.of ce
def k230:Kf Tryz.prog 230:=.of ce
def k238:Kf Tryz.prog 238:=.of ce
def k242:Kf Tryz.prog 242:=.of ce
def k243:Kf Tryz.prog 243:=.of ce
def k272:Kf Tryz.prog 272:=.of ce
def k298:Kf Tryz.prog 298:=.of ce
def k302:Kf Tryz.prog 302:=.of ce
def k303:Kf Tryz.prog 303:=.of ce
def k332:Kf Tryz.prog 332:=.of ce
def k336:Kf Tryz.prog 336:=.of ce
def k339:Kf Tryz.prog 339:=.of ce
def k373:Kf Tryz.prog 373:=.of ce
def k374:Kf Tryz.prog 374:=.of ce
def k375:Kf Tryz.prog 375:=.of ce
def k389:Kf Tryz.prog 389:=.of ce
def k409:Kf Tryz.prog 409:=.of ce
def k410:Kf Tryz.prog 410:=.of ce
end Go.Proofs.Dev
