/-
  The functions in the engine form: no condition.
-/
import Derived.Test.YtadinajclolmnaaGreatDoorCE
open Go.Proofs.Tryz renaming prog->al
set_option linter.all false
set_option maxRecDepth 100000
set_option maxHeartbeats 4000000
namespace Go.Proofs.Dev
open Go Go.Tm
def k3:Kf al 3:=.of ce
def k8:Kf al 8:=.of ce
def k9:Kf al 9:=.of ce
def k10:Kf al 10:=.of ce
def k12:Kf al 12:=.of ce
def k17:Kf al 17:=.of ce
def k24:Kf al 24:=.of ce
def k25:Kf al 25:=.of ce
def k42:Kf al 42:=.of ce
def k45:Kf al 45:=.of ce
def k49:Kf al 49:=.of ce
def k53:Kf al 53:=.of ce
def k54:Kf al 54:=.of ce
def k74:Kf al 74:=.of ce
def k85:Kf al 85:=.of ce
def k93:Kf al 93:=.of ce
def k94:Kf al 94:=.of ce
def bC7:Kf al 112:=.of ce
def aq5:Kf al 113:=.of ce
def bC6:Kf al 114:=.of ce
def bC0:Kf al 120:=.of ce
def bB7:Kf al 123:=.of ce
def bB2:Kf al 129:=.of ce
def bB1:Kf al 130:=.of ce
def bA8:Kf al 133:=.of ce
def bA6:Kf al 138:=.of ce
def bA2:Kf al 142:=.of ce
def bA0:Kf al 144:=.of ce
def bz6:Kf al 151:=.of ce
def bz4:Kf al 153:=.of ce
def bz3:Kf al 154:=.of ce
def aq0:Kf al 158:=.of ce
def by9:Kf al 160:=.of ce
def by2:Kf al 167:=.of ce
def bx9:Kf al 170:=.of ce
def bx6:Kf al 173:=.of ce
def cb6:Kf al 178:=.of ce
def cb5:Kf al 179:=.of ce
def cb2:Kf al 182:=.of ce
def ca9:Kf al 185:=.of ce
def bw8:Kf al 191:=.of ce
def bw6:Kf al 193:=.of ce
def bw2:Kf al 197:=.of ce
def bw1:Kf al 198:=.of ce
def bv9:Kf al 200:=.of ce
def bv8:Kf al 201:=.of ce
def bv3:Kf al 207:=.of ce
def bv2:Kf al 209:=.of ce
def ca2:Kf al 222:=.of ce
def bu3:Kf al 225:=.of ce
def bu2:Kf al 226:=.of ce
def aS4:Kf al 231:=.of ce
def aS3:Kf al 238:=.of ce
def aR9:Kf al 244:=.of ce
def bs9:Kf al 245:=.of ce
def aR3:Kf al 262:=.of ce
def br1:Kf al 274:=.of ce
def bq9:Kf al 276:=.of ce
def bq6:Kf al 280:=.of ce
def bq3:Kf al 283:=.of ce
def bq2:Kf al 284:=.of ce
def bp5:Kf al 292:=.of ce
def bp4:Kf al 293:=.of ce
def bp3:Kf al 294:=.of ce
def bp0:Kf al 297:=.of ce
def bo3:Kf al 304:=.of ce
def bn6:Kf al 315:=.of ce
def bn3:Kf al 318:=.of ce
def bn1:Kf al 320:=.of ce
def bm8:Kf al 325:=.of ce
def bm5:Kf al 328:=.of ce
def bm3:Kf al 330:=.of ce
def aQ9:Kf al 349:=.of ce
def aQ8:Kf al 350:=.of ce
def aQ7:Kf al 351:=.of ce
def k29:Kf al 29:=.of ce
def k30:Kf al 30:=.of ce
def k38:Kf al 38:=.of ce
def k39:Kf al 39:=.of ce
def k40:Kf al 40:=.of ce
def k76:Kf al 76:=.of ce
def k77:Kf al 77:=.of ce
def k78:Kf al 78:=.of ce
def k79:Kf al 79:=.of ce
def k80:Kf al 80:=.of ce
def k81:Kf al 81:=.of ce
def k82:Kf al 82:=.of ce
def aq6:Kf al 105:=.of ce
def aq4:Kf al 135:=.of ce
def aq3:Kf al 136:=.of ce
def aq1:Kf al 156:=.of ce
def bz0:Kf al 159:=.of ce
def by5:Kf al 164:=.of ce
def by4:Kf al 165:=.of ce
def bw5:Kf al 194:=.of ce
def bw0:Kf al 199:=.of ce
def ca0:Kf al 348:=.of ce
end Go.Proofs.Dev
