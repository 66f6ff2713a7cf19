/-
  The functions in the engine form: no condition.
-/
import Derived.Test.YtfanhhhgcabpnaaGreatDoorCE
set_option linter.all false
set_option maxRecDepth 100000
set_option maxHeartbeats 4000000
namespace Go.Proofs.Dev
open Go Go.Tm
def k19:Kf Tryz.prog 19:=.of ce
def k21:Kf Tryz.prog 21:=.of ce
def k40:Kf Tryz.prog 40:=.of ce
def k46:Kf Tryz.prog 46:=.of ce
def k47:Kf Tryz.prog 47:=.of ce
def k53:Kf Tryz.prog 53:=.of ce
def k62:Kf Tryz.prog 62:=.of ce
def k64:Kf Tryz.prog 64:=.of ce
def k69:Kf Tryz.prog 69:=.of ce
def k71:Kf Tryz.prog 71:=.of ce
def k72:Kf Tryz.prog 72:=.of ce
def k73:Kf Tryz.prog 73:=.of ce
def k74:Kf Tryz.prog 74:=.of ce
def k77:Kf Tryz.prog 77:=.of ce
def k87:Kf Tryz.prog 87:=.of ce
def k89:Kf Tryz.prog 89:=.of ce
def k121:Kf Tryz.prog 121:=.of ce
def k122:Kf Tryz.prog 122:=.of ce
def k124:Kf Tryz.prog 124:=.of ce
def k134:Kf Tryz.prog 134:=.of ce
def k140:Kf Tryz.prog 140:=.of ce
def k143:Kf Tryz.prog 143:=.of ce
def k151:Kf Tryz.prog 151:=.of ce
def k152:Kf Tryz.prog 152:=.of ce
def k162:Kf Tryz.prog 162:=.of ce
def k164:Kf Tryz.prog 164:=.of ce
def k166:Kf Tryz.prog 166:=.of ce
def k171:Kf Tryz.prog 171:=.of ce
def k172:Kf Tryz.prog 172:=.of ce
def k176:Kf Tryz.prog 176:=.of ce
def k192:Kf Tryz.prog 192:=.of ce
def k197:Kf Tryz.prog 197:=.of ce
def k203:Kf Tryz.prog 203:=.of ce
def k204:Kf Tryz.prog 204:=.of ce
def k207:Kf Tryz.prog 207:=.of ce
def k211:Kf Tryz.prog 211:=.of ce
def k220:Kf Tryz.prog 220:=.of ce
def k223:Kf Tryz.prog 223:=.of ce
def k226:Kf Tryz.prog 226:=.of ce
def k231:Kf Tryz.prog 231:=.of ce
def k255:Kf Tryz.prog 255:=.of ce
def k259:Kf Tryz.prog 259:=.of ce
def k262:Kf Tryz.prog 262:=.of ce
def k274:Kf Tryz.prog 274:=.of ce
def k276:Kf Tryz.prog 276:=.of ce
def k280:Kf Tryz.prog 280:=.of ce
def k281:Kf Tryz.prog 281:=.of ce
def k285:Kf Tryz.prog 285:=.of ce
def k289:Kf Tryz.prog 289:=.of ce
def k301:Kf Tryz.prog 301:=.of ce
def k305:Kf Tryz.prog 305:=.of ce
def k314:Kf Tryz.prog 314:=.of ce
def k323:Kf Tryz.prog 323:=.of ce
def k324:Kf Tryz.prog 324:=.of ce
def k325:Kf Tryz.prog 325:=.of ce
def k337:Kf Tryz.prog 337:=.of ce
def k342:Kf Tryz.prog 342:=.of ce
def k346:Kf Tryz.prog 346:=.of ce
def k348:Kf Tryz.prog 348:=.of ce
def k351:Kf Tryz.prog 351:=.of ce
def k352:Kf Tryz.prog 352:=.of ce
def k354:Kf Tryz.prog 354:=.of ce
def k358:Kf Tryz.prog 358:=.of ce
def k364:Kf Tryz.prog 364:=.of ce
def k371:Kf Tryz.prog 371:=.of ce
def k389:Kf Tryz.prog 389:=.of ce
def k392:Kf Tryz.prog 392:=.of ce
end Go.Proofs.Dev
