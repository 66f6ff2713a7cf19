/-
  The functions in the engine form: no condition.
-/
import Derived.Test.YtadinajclolmnaaGreatDoorCE
open Go.Proofs.Tryz renaming prog->al
set_option linter.all false
set_option maxRecDepth 100000
set_option maxHeartbeats 4000000
namespace Go.Proofs.Dev
open Go Go.Tm
def k6:Kf al 6:=.of ce
def k11:Kf al 11:=.of ce
def k13:Kf al 13:=.of ce
def k15:Kf al 15:=.of ce
def k20:Kf al 20:=.of ce
def k27:Kf al 27:=.of ce
def k28:Kf al 28:=.of ce
def k33:Kf al 33:=.of ce
def k37:Kf al 37:=.of ce
def k46:Kf al 46:=.of ce
def k51:Kf al 51:=.of ce
def k56:Kf al 56:=.of ce
def k58:Kf al 58:=.of ce
def k59:Kf al 59:=.of ce
def k66:Kf al 66:=.of ce
def k70:Kf al 70:=.of ce
def k72:Kf al 72:=.of ce
def k75:Kf al 75:=.of ce
def k83:Kf al 83:=.of ce
def k86:Kf al 86:=.of ce
def k89:Kf al 89:=.of ce
def k96:Kf al 96:=.of ce
def k98:Kf al 98:=.of ce
def k99:Kf al 99:=.of ce
def uab:Kf al 101:=.of ce
def vab:Kf al 102:=.of ce
def bD3:Kf al 103:=.of ce
def bD0:Kf al 108:=.of ce
def bC9:Kf al 110:=.of ce
def bC8:Kf al 111:=.of ce
def bC4:Kf al 116:=.of ce
def bC2:Kf al 118:=.of ce
def bC1:Kf al 119:=.of ce
def bB6:Kf al 125:=.of ce
def bB3:Kf al 128:=.of ce
def bA7:Kf al 134:=.of ce
def bA5:Kf al 139:=.of ce
def bA4:Kf al 140:=.of ce
def bA1:Kf al 143:=.of ce
def bz9:Kf al 145:=.of ce
def bz7:Kf al 150:=.of ce
def bz5:Kf al 152:=.of ce
def bz2:Kf al 155:=.of ce
def by7:Kf al 162:=.of ce
def by6:Kf al 163:=.of ce
def bx5:Kf al 174:=.of ce
def cb4:Kf al 180:=.of ce
def cb1:Kf al 183:=.of ce
def ca7:Kf al 187:=.of ce
def bx1:Kf al 188:=.of ce
def aS7:Kf al 208:=.of ce
def bv1:Kf al 211:=.of ce
def bu6:Kf al 217:=.of ce
def bu5:Kf al 223:=.of ce
def bt5:Kf al 234:=.of ce
def bt4:Kf al 235:=.of ce
def bt2:Kf al 237:=.of ce
def aS2:Kf al 239:=.of ce
def bs8:Kf al 246:=.of ce
def bs4:Kf al 252:=.of ce
def aR8:Kf al 253:=.of ce
def br5:Kf al 270:=.of ce
def br3:Kf al 272:=.of ce
def bq5:Kf al 281:=.of ce
def bq4:Kf al 282:=.of ce
def bp8:Kf al 288:=.of ce
def bp1:Kf al 296:=.of ce
def bo9:Kf al 298:=.of ce
def bo6:Kf al 301:=.of ce
def bo4:Kf al 303:=.of ce
def bo0:Kf al 307:=.of ce
def bn9:Kf al 312:=.of ce
def bn5:Kf al 316:=.of ce
def bn0:Kf al 321:=.of ce
def bm2:Kf al 331:=.of ce
def aQ6:Kf al 352:=.of ce
end Go.Proofs.Dev
