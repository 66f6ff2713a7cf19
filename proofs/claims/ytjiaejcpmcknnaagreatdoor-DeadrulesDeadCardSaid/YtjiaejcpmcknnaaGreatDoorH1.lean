/-
  Contracts by hand: the conditions stand in each.
-/
import Derived.Test.YtjiaejcpmcknnaaGreatDoorEC
import Derived.Test.YtjiaejcpmcknnaaGreatDoorC3
import Derived.Test.YtjiaejcpmcknnaaGreatDoorPD
import Derived.Test.YtjiaejcpmcknnaaGreatDoorPA
import Derived.Test.YtjiaejcpmcknnaaGreatDoorC0
import Derived.Test.YtjiaejcpmcknnaaGreatDoorC1
import Derived.Test.YtjiaejcpmcknnaaGreatDoorC2
set_option linter.all false
set_option maxHeartbeats 1000000
namespace Go.Tm
section
variable {P:Program} {G:Gh} {w:World} {a:Act} {s:St} {d:D} {m':List Ent}
section
variable {dst:Option Tmp} {i:I} {l:List RI} {K:St->Prop} {g:Nat×Bool} {f:Cal} {args:List Operand}
end
end
end Go.Tm
set_option maxRecDepth 10000
namespace Go.Proofs.Dev
open Go Go.Tm
section
variable {l:List Int} {v u:Nat} {R:List Ent}
end
end Go.Proofs.Dev
