/-
  The payment chapter's examples hold: carried out by the kernel.
-/
import Derived.Test.YtlfhdejlpnljbaaCode
import Derived.Test.YtlfhdejlpnljbaaChecked
import Derived.Test.YtlfhdejlpnljbaaTmP
set_option linter.unusedSimpArgs false
set_option linter.unusedVariables false
set_option maxHeartbeats 2000000
namespace Go.Proofs.Ytlfhdejlpnljbaa
open Go.Tm
theorem awake40 (m : List Ent) : CallT Try.prog 24 [] m fun d m' => d = .v (.bool true) ∧ m' = m :=
  call_runPK (Checked.mixed Try.checked) tab_ok (fun _ => 0) 3000 (by kernel_rfl) m
end Go.Proofs.Ytlfhdejlpnljbaa
