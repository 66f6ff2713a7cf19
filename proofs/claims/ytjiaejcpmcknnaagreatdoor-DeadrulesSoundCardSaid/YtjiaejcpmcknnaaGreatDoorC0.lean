/-
  The functions in the engine form: no condition.
-/
import Derived.Test.YtjiaejcpmcknnaaGreatDoorCE
set_option linter.all false
set_option maxRecDepth 100000
set_option maxHeartbeats 4000000
namespace Go.Proofs.Dev
open Go Go.Tm
def k3:Kf Tryz.prog 3:=.of ce
def k9:Kf Tryz.prog 9:=.of ce
def k22:Kf Tryz.prog 22:=.of ce
def k37:Kf Tryz.prog 37:=.of ce
def k59:Kf Tryz.prog 59:=.of ce
def k63:Kf Tryz.prog 63:=.of ce
def k69:Kf Tryz.prog 69:=.of ce
def k74:Kf Tryz.prog 74:=.of ce
def k75:Kf Tryz.prog 75:=.of ce
def k78:Kf Tryz.prog 78:=.of ce
def k83:Kf Tryz.prog 83:=.of ce
def k92:Kf Tryz.prog 92:=.of ce
def k98:Kf Tryz.prog 98:=.of ce
def k99:Kf Tryz.prog 99:=.of ce
def k100:Kf Tryz.prog 100:=.of ce
def k108:Kf Tryz.prog 108:=.of ce
def k120:Kf Tryz.prog 120:=.of ce
def k123:Kf Tryz.prog 123:=.of ce
def k134:Kf Tryz.prog 134:=.of ce
def k141:Kf Tryz.prog 141:=.of ce
def k144:Kf Tryz.prog 144:=.of ce
def k145:Kf Tryz.prog 145:=.of ce
def k149:Kf Tryz.prog 149:=.of ce
def k151:Kf Tryz.prog 151:=.of ce
def A9:Kf Tryz.prog 169:=.of ce
def B9:Kf Tryz.prog 175:=.of ce
def k176:Kf Tryz.prog 176:=.of ce
def D9:Kf Tryz.prog 179:=.of ce
def k186:Kf Tryz.prog 186:=.of ce
def k188:Kf Tryz.prog 188:=.of ce
def k192:Kf Tryz.prog 192:=.of ce
def k193:Kf Tryz.prog 193:=.of ce
def k199:Kf Tryz.prog 199:=.of ce
def k200:Kf Tryz.prog 200:=.of ce
def k201:Kf Tryz.prog 201:=.of ce
def k202:Kf Tryz.prog 202:=.of ce
def k203:Kf Tryz.prog 203:=.of ce
def k206:Kf Tryz.prog 206:=.of ce
def E9:Kf Tryz.prog 225:=.of ce
def H9:Kf Tryz.prog 236:=.of ce
def k238:Kf Tryz.prog 238:=.of ce
def k243:Kf Tryz.prog 243:=.of ce
def k250:Kf Tryz.prog 250:=.of ce
def k252:Kf Tryz.prog 252:=.of ce
def k255:Kf Tryz.prog 255:=.of ce
def k263:Kf Tryz.prog 263:=.of ce
def k264:Kf Tryz.prog 264:=.of ce
def k265:Kf Tryz.prog 265:=.of ce
def k266:Kf Tryz.prog 266:=.of ce
def L9:Kf Tryz.prog 281:=.of ce
def k283:Kf Tryz.prog 283:=.of ce
def k293:Kf Tryz.prog 293:=.of ce
def k315:Kf Tryz.prog 315:=.of ce
def k322:Kf Tryz.prog 322:=.of ce
def k346:Kf Tryz.prog 346:=.of ce
def k347:Kf Tryz.prog 347:=.of ce
def k348:Kf Tryz.prog 348:=.of ce
def N9:Kf Tryz.prog 383:=.of ce
end Go.Proofs.Dev
