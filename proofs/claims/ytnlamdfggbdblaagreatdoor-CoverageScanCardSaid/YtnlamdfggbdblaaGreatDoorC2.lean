/-
  The functions in the engine form: no condition.
-/
import Derived.Test.YtnlamdfggbdblaaGreatDoorCE
set_option linter.all false
set_option maxRecDepth 100000
set_option maxHeartbeats 4000000
namespace Go.Proofs.Dev
open Go Go.Tm
def k19:Kf Tryz.prog 19:=.of ce
def k29:Kf Tryz.prog 29:=.of ce
def k40:Kf Tryz.prog 40:=.of ce
def k44:Kf Tryz.prog 44:=.of ce
def k45:Kf Tryz.prog 45:=.of ce
def k46:Kf Tryz.prog 46:=.of ce
def k49:Kf Tryz.prog 49:=.of ce
def k53:Kf Tryz.prog 53:=.of ce
def k59:Kf Tryz.prog 59:=.of ce
def k60:Kf Tryz.prog 60:=.of ce
def k62:Kf Tryz.prog 62:=.of ce
def k74:Kf Tryz.prog 74:=.of ce
def k77:Kf Tryz.prog 77:=.of ce
def k78:Kf Tryz.prog 78:=.of ce
def k88:Kf Tryz.prog 88:=.of ce
def k90:Kf Tryz.prog 90:=.of ce
def k92:Kf Tryz.prog 92:=.of ce
def k94:Kf Tryz.prog 94:=.of ce
def k97:Kf Tryz.prog 97:=.of ce
def k98:Kf Tryz.prog 98:=.of ce
def O2:Kf Tryz.prog 102:=.of ce
def U2:Kf Tryz.prog 106:=.of ce
def Y2:Kf Tryz.prog 110:=.of ce
def w3:Kf Tryz.prog 113:=.of ce
def E3:Kf Tryz.prog 119:=.of ce
def I3:Kf Tryz.prog 123:=.of ce
def N3:Kf Tryz.prog 128:=.of ce
def O3:Kf Tryz.prog 131:=.of ce
def Q3:Kf Tryz.prog 133:=.of ce
def S3:Kf Tryz.prog 135:=.of ce
def W3:Kf Tryz.prog 139:=.of ce
def X3:Kf Tryz.prog 140:=.of ce
def o4:Kf Tryz.prog 144:=.of ce
def A4:Kf Tryz.prog 148:=.of ce
def D4:Kf Tryz.prog 151:=.of ce
def G4:Kf Tryz.prog 154:=.of ce
def H4:Kf Tryz.prog 155:=.of ce
def S4:Kf Tryz.prog 169:=.of ce
def T4:Kf Tryz.prog 170:=.of ce
def U4:Kf Tryz.prog 171:=.of ce
def W4:Kf Tryz.prog 173:=.of ce
def H5:Kf Tryz.prog 203:=.of ce
def J5:Kf Tryz.prog 205:=.of ce
def K5:Kf Tryz.prog 206:=.of ce
def N5:Kf Tryz.prog 209:=.of ce
def O5:Kf Tryz.prog 210:=.of ce
def qY:Kf Tryz.prog 217:=.of ce
def uY:Kf Tryz.prog 222:=.of ce
def W5:Kf Tryz.prog 223:=.of ce
def E6:Kf Tryz.prog 253:=.of ce
def I6:Kf Tryz.prog 258:=.of ce
def wY:Kf Tryz.prog 265:=.of ce
def N6:Kf Tryz.prog 267:=.of ce
def Q6:Kf Tryz.prog 279:=.of ce
def R6:Kf Tryz.prog 280:=.of ce
def S6:Kf Tryz.prog 281:=.of ce
def X6:Kf Tryz.prog 296:=.of ce
def Z6:Kf Tryz.prog 311:=.of ce
def yY:Kf Tryz.prog 319:=.of ce
end Go.Proofs.Dev
