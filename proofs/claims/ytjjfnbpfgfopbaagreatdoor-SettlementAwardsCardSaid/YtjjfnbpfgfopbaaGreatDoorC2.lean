/-
  The functions in the engine form: no condition.
-/
import Derived.Test.YtjjfnbpfgfopbaaGreatDoorCE
set_option linter.all false
set_option maxRecDepth 100000
set_option maxHeartbeats 4000000
namespace Go.Proofs.Dev
open Go Go.Tm
def k6:Kf Tryz.prog 6:=.of ce
def k10:Kf Tryz.prog 10:=.of ce
def k11:Kf Tryz.prog 11:=.of ce
def k12:Kf Tryz.prog 12:=.of ce
def k18:Kf Tryz.prog 18:=.of ce
def k24:Kf Tryz.prog 24:=.of ce
def k29:Kf Tryz.prog 29:=.of ce
def k38:Kf Tryz.prog 38:=.of ce
def k39:Kf Tryz.prog 39:=.of ce
def k46:Kf Tryz.prog 46:=.of ce
def k54:Kf Tryz.prog 54:=.of ce
def k65:Kf Tryz.prog 65:=.of ce
def k71:Kf Tryz.prog 71:=.of ce
def k78:Kf Tryz.prog 78:=.of ce
def k86:Kf Tryz.prog 86:=.of ce
def k90:Kf Tryz.prog 90:=.of ce
def k95:Kf Tryz.prog 95:=.of ce
def k97:Kf Tryz.prog 97:=.of ce
def k99:Kf Tryz.prog 99:=.of ce
def k100:Kf Tryz.prog 100:=.of ce
def k102:Kf Tryz.prog 102:=.of ce
def k103:Kf Tryz.prog 103:=.of ce
def k104:Kf Tryz.prog 104:=.of ce
def k105:Kf Tryz.prog 105:=.of ce
def k106:Kf Tryz.prog 106:=.of ce
def k114:Kf Tryz.prog 114:=.of ce
def k142:Kf Tryz.prog 142:=.of ce
def k145:Kf Tryz.prog 145:=.of ce
def k151:Kf Tryz.prog 151:=.of ce
def k152:Kf Tryz.prog 152:=.of ce
def k154:Kf Tryz.prog 154:=.of ce
def k155:Kf Tryz.prog 155:=.of ce
def k171:Kf Tryz.prog 171:=.of ce
def k173:Kf Tryz.prog 173:=.of ce
def k176:Kf Tryz.prog 176:=.of ce
def k185:Kf Tryz.prog 185:=.of ce
def k186:Kf Tryz.prog 186:=.of ce
def k194:Kf Tryz.prog 194:=.of ce
def k195:Kf Tryz.prog 195:=.of ce
def k199:Kf Tryz.prog 199:=.of ce
def k206:Kf Tryz.prog 206:=.of ce
def k209:Kf Tryz.prog 209:=.of ce
def k211:Kf Tryz.prog 211:=.of ce
def k218:Kf Tryz.prog 218:=.of ce
def k219:Kf Tryz.prog 219:=.of ce
def k222:Kf Tryz.prog 222:=.of ce
def k226:Kf Tryz.prog 226:=.of ce
def k229:Kf Tryz.prog 229:=.of ce
def k258:Kf Tryz.prog 258:=.of ce
def k261:Kf Tryz.prog 261:=.of ce
def k262:Kf Tryz.prog 262:=.of ce
def k267:Kf Tryz.prog 267:=.of ce
def k269:Kf Tryz.prog 269:=.of ce
def k274:Kf Tryz.prog 274:=.of ce
def k282:Kf Tryz.prog 282:=.of ce
def k283:Kf Tryz.prog 283:=.of ce
def k285:Kf Tryz.prog 285:=.of ce
def k286:Kf Tryz.prog 286:=.of ce
def k293:Kf Tryz.prog 293:=.of ce
def k317:Kf Tryz.prog 317:=.of ce
end Go.Proofs.Dev
