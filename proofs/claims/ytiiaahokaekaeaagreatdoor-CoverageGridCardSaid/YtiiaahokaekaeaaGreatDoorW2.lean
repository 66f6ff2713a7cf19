/-
  A part of the fixed example, by the kernel: no condition.
-/
import Derived.Test.YtiiaahokaekaeaaGreatDoorWT
set_option linter.all false
set_option maxRecDepth 100000
set_option maxHeartbeats 4000000
namespace Go.Proofs.Dev
open Go Go.Tm
theorem g2_ok (m:List Ent):CallT Tryz.prog 9 g2a m fun d' m'=>d'=g2r∧m'=m:=call_runPK hmix tab_ok said0 3000 (by kernel_rfl) m
end Go.Proofs.Dev
