/-
  The functions in the engine form: no condition.
-/
import Derived.Test.YtjjfnbpfgfopbaaGreatDoorCE
set_option linter.all false
set_option maxRecDepth 100000
set_option maxHeartbeats 4000000
namespace Go.Proofs.Dev
open Go Go.Tm
def k9:Kf Tryz.prog 9:=.of ce
def k14:Kf Tryz.prog 14:=.of ce
def k16:Kf Tryz.prog 16:=.of ce
def k25:Kf Tryz.prog 25:=.of ce
def k26:Kf Tryz.prog 26:=.of ce
def k27:Kf Tryz.prog 27:=.of ce
def k28:Kf Tryz.prog 28:=.of ce
def k30:Kf Tryz.prog 30:=.of ce
def k37:Kf Tryz.prog 37:=.of ce
def k41:Kf Tryz.prog 41:=.of ce
def k68:Kf Tryz.prog 68:=.of ce
def k70:Kf Tryz.prog 70:=.of ce
def k76:Kf Tryz.prog 76:=.of ce
def k79:Kf Tryz.prog 79:=.of ce
def k85:Kf Tryz.prog 85:=.of ce
def k87:Kf Tryz.prog 87:=.of ce
def k91:Kf Tryz.prog 91:=.of ce
def k101:Kf Tryz.prog 101:=.of ce
def k109:Kf Tryz.prog 109:=.of ce
def k112:Kf Tryz.prog 112:=.of ce
def k118:Kf Tryz.prog 118:=.of ce
def k122:Kf Tryz.prog 122:=.of ce
def k123:Kf Tryz.prog 123:=.of ce
def k137:Kf Tryz.prog 137:=.of ce
def k141:Kf Tryz.prog 141:=.of ce
def k143:Kf Tryz.prog 143:=.of ce
def k144:Kf Tryz.prog 144:=.of ce
def k150:Kf Tryz.prog 150:=.of ce
def k157:Kf Tryz.prog 157:=.of ce
def k169:Kf Tryz.prog 169:=.of ce
def k170:Kf Tryz.prog 170:=.of ce
def k174:Kf Tryz.prog 174:=.of ce
def k175:Kf Tryz.prog 175:=.of ce
def k178:Kf Tryz.prog 178:=.of ce
def k179:Kf Tryz.prog 179:=.of ce
def k182:Kf Tryz.prog 182:=.of ce
def k187:Kf Tryz.prog 187:=.of ce
def k188:Kf Tryz.prog 188:=.of ce
def k189:Kf Tryz.prog 189:=.of ce
def k191:Kf Tryz.prog 191:=.of ce
def k198:Kf Tryz.prog 198:=.of ce
def k200:Kf Tryz.prog 200:=.of ce
def k202:Kf Tryz.prog 202:=.of ce
def k205:Kf Tryz.prog 205:=.of ce
def k210:Kf Tryz.prog 210:=.of ce
def k213:Kf Tryz.prog 213:=.of ce
def k217:Kf Tryz.prog 217:=.of ce
def k223:Kf Tryz.prog 223:=.of ce
def k227:Kf Tryz.prog 227:=.of ce
def k231:Kf Tryz.prog 231:=.of ce
def k233:Kf Tryz.prog 233:=.of ce
def k235:Kf Tryz.prog 235:=.of ce
def k236:Kf Tryz.prog 236:=.of ce
def k237:Kf Tryz.prog 237:=.of ce
def k239:Kf Tryz.prog 239:=.of ce
def k245:Kf Tryz.prog 245:=.of ce
def k250:Kf Tryz.prog 250:=.of ce
def k251:Kf Tryz.prog 251:=.of ce
def k254:Kf Tryz.prog 254:=.of ce
def k259:Kf Tryz.prog 259:=.of ce
def k263:Kf Tryz.prog 263:=.of ce
def k266:Kf Tryz.prog 266:=.of ce
def k288:Kf Tryz.prog 288:=.of ce
def k294:Kf Tryz.prog 294:=.of ce
def k296:Kf Tryz.prog 296:=.of ce
def k316:Kf Tryz.prog 316:=.of ce
def k47:Kf Tryz.prog 47:=.of ce
def k48:Kf Tryz.prog 48:=.of ce
def k49:Kf Tryz.prog 49:=.of ce
def k50:Kf Tryz.prog 50:=.of ce
def k51:Kf Tryz.prog 51:=.of ce
def k52:Kf Tryz.prog 52:=.of ce
def k60:Kf Tryz.prog 60:=.of ce
def k83:Kf Tryz.prog 83:=.of ce
def k96:Kf Tryz.prog 96:=.of ce
def gaa:Kf Tryz.prog 116:=.of ce
def iaa:Kf Tryz.prog 136:=.of ce
def k139:Kf Tryz.prog 139:=.of ce
def k146:Kf Tryz.prog 146:=.of ce
def k147:Kf Tryz.prog 147:=.of ce
def k165:Kf Tryz.prog 165:=.of ce
def k172:Kf Tryz.prog 172:=.of ce
end Go.Proofs.Dev
