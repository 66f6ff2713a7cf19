/-
  The functions in the engine form: no condition.
-/
import Derived.Test.YtadinajclolmnaaGreatDoorCE
open Go.Proofs.Tryz renaming prog->al
set_option linter.all false
set_option maxRecDepth 100000
set_option maxHeartbeats 4000000
namespace Go.Proofs.Dev
open Go Go.Tm
def k4:Kf al 4:=.of ce
def k5:Kf al 5:=.of ce
def k7:Kf al 7:=.of ce
def k18:Kf al 18:=.of ce
def k19:Kf al 19:=.of ce
def k31:Kf al 31:=.of ce
def k32:Kf al 32:=.of ce
def k35:Kf al 35:=.of ce
def k41:Kf al 41:=.of ce
def k43:Kf al 43:=.of ce
def k48:Kf al 48:=.of ce
def k52:Kf al 52:=.of ce
def k60:Kf al 60:=.of ce
def k61:Kf al 61:=.of ce
def k63:Kf al 63:=.of ce
def k65:Kf al 65:=.of ce
def k67:Kf al 67:=.of ce
def k68:Kf al 68:=.of ce
def k73:Kf al 73:=.of ce
def k84:Kf al 84:=.of ce
def k87:Kf al 87:=.of ce
def k88:Kf al 88:=.of ce
def k92:Kf al 92:=.of ce
def k95:Kf al 95:=.of ce
def bD1:Kf al 107:=.of ce
def aS9:Kf al 109:=.of ce
def bB8:Kf al 122:=.of ce
def bB5:Kf al 126:=.of ce
def bB0:Kf al 131:=.of ce
def bA3:Kf al 141:=.of ce
def cb7:Kf al 148:=.of ce
def by0:Kf al 169:=.of ce
def bx7:Kf al 172:=.of ce
def bx4:Kf al 175:=.of ce
def cb3:Kf al 181:=.of ce
def cb0:Kf al 184:=.of ce
def bw9:Kf al 190:=.of ce
def bw7:Kf al 192:=.of ce
def bw3:Kf al 196:=.of ce
def aS8:Kf al 202:=.of ce
def bv6:Kf al 204:=.of ce
def bv4:Kf al 206:=.of ce
def aS6:Kf al 210:=.of ce
def bv0:Kf al 213:=.of ce
def bu8:Kf al 215:=.of ce
def ca5:Kf al 219:=.of ce
def ca4:Kf al 220:=.of ce
def ca3:Kf al 221:=.of ce
def bt9:Kf al 229:=.of ce
def bt0:Kf al 243:=.of ce
def bs6:Kf al 248:=.of ce
def ca1:Kf al 249:=.of ce
def aR6:Kf al 255:=.of ce
def bs1:Kf al 259:=.of ce
def bs0:Kf al 260:=.of ce
def br9:Kf al 263:=.of ce
def br8:Kf al 264:=.of ce
def br7:Kf al 265:=.of ce
def aR2:Kf al 266:=.of ce
def aR1:Kf al 267:=.of ce
def aR0:Kf al 268:=.of ce
def br4:Kf al 271:=.of ce
def br2:Kf al 273:=.of ce
def bq1:Kf al 285:=.of ce
def bq0:Kf al 286:=.of ce
def bp9:Kf al 287:=.of ce
def bp6:Kf al 291:=.of ce
def bp2:Kf al 295:=.of ce
def bo7:Kf al 300:=.of ce
def bo5:Kf al 302:=.of ce
def bo1:Kf al 306:=.of ce
def bn8:Kf al 313:=.of ce
def bn7:Kf al 314:=.of ce
def bn4:Kf al 317:=.of ce
def bn2:Kf al 319:=.of ce
def bm9:Kf al 322:=.of ce
end Go.Proofs.Dev
