/-
  The functions in the engine form: no condition.
-/
import Derived.Test.YtiiaahokaekaeaaGreatDoorCE
set_option linter.all false
set_option maxRecDepth 100000
set_option maxHeartbeats 4000000
namespace Go.Proofs.Dev
open Go Go.Tm
def k8:Kf Tryz.prog 8:=.of ce
def k9:Kf Tryz.prog 9:=.of ce
def k13:Kf Tryz.prog 13:=.of ce
def k24:Kf Tryz.prog 24:=.of ce
def k25:Kf Tryz.prog 25:=.of ce
def k34:Kf Tryz.prog 34:=.of ce
def k35:Kf Tryz.prog 35:=.of ce
def k36:Kf Tryz.prog 36:=.of ce
def k44:Kf Tryz.prog 44:=.of ce
def k57:Kf Tryz.prog 57:=.of ce
def k65:Kf Tryz.prog 65:=.of ce
def k69:Kf Tryz.prog 69:=.of ce
def k72:Kf Tryz.prog 72:=.of ce
def k73:Kf Tryz.prog 73:=.of ce
def k77:Kf Tryz.prog 77:=.of ce
def k78:Kf Tryz.prog 78:=.of ce
def k79:Kf Tryz.prog 79:=.of ce
def k84:Kf Tryz.prog 84:=.of ce
def k89:Kf Tryz.prog 89:=.of ce
def k98:Kf Tryz.prog 98:=.of ce
def k99:Kf Tryz.prog 99:=.of ce
def k105:Kf Tryz.prog 105:=.of ce
def k113:Kf Tryz.prog 113:=.of ce
def k118:Kf Tryz.prog 118:=.of ce
def k119:Kf Tryz.prog 119:=.of ce
def k121:Kf Tryz.prog 121:=.of ce
def k132:Kf Tryz.prog 132:=.of ce
def k139:Kf Tryz.prog 139:=.of ce
def k148:Kf Tryz.prog 148:=.of ce
def k151:Kf Tryz.prog 151:=.of ce
def k158:Kf Tryz.prog 158:=.of ce
def k160:Kf Tryz.prog 160:=.of ce
def k164:Kf Tryz.prog 164:=.of ce
def k166:Kf Tryz.prog 166:=.of ce
def k167:Kf Tryz.prog 167:=.of ce
def k171:Kf Tryz.prog 171:=.of ce
def k176:Kf Tryz.prog 176:=.of ce
def k178:Kf Tryz.prog 178:=.of ce
def k181:Kf Tryz.prog 181:=.of ce
def k188:Kf Tryz.prog 188:=.of ce
def k191:Kf Tryz.prog 191:=.of ce
def k198:Kf Tryz.prog 198:=.of ce
def k200:Kf Tryz.prog 200:=.of ce
def k211:Kf Tryz.prog 211:=.of ce
def k214:Kf Tryz.prog 214:=.of ce
def k219:Kf Tryz.prog 219:=.of ce
def k220:Kf Tryz.prog 220:=.of ce
def k223:Kf Tryz.prog 223:=.of ce
def k232:Kf Tryz.prog 232:=.of ce
def k238:Kf Tryz.prog 238:=.of ce
def k253:Kf Tryz.prog 253:=.of ce
def k258:Kf Tryz.prog 258:=.of ce
def k262:Kf Tryz.prog 262:=.of ce
def k266:Kf Tryz.prog 266:=.of ce
def k267:Kf Tryz.prog 267:=.of ce
def k270:Kf Tryz.prog 270:=.of ce
def k289:Kf Tryz.prog 289:=.of ce
def k293:Kf Tryz.prog 293:=.of ce
def k296:Kf Tryz.prog 296:=.of ce
def k317:Kf Tryz.prog 317:=.of ce
def k320:Kf Tryz.prog 320:=.of ce
def k341:Kf Tryz.prog 341:=.of ce
def k343:Kf Tryz.prog 343:=.of ce
def k345:Kf Tryz.prog 345:=.of ce
end Go.Proofs.Dev
