/-
  The chapter's examples hold: carried out by the kernel.
-/
import Derived.Test.YtjbhgmeokoconaaCode
import Derived.Test.YtjbhgmeokoconaaChecked
import Derived.Test.YtjbhgmeokoconaaTmP
set_option linter.unusedSimpArgs false
set_option linter.unusedVariables false
set_option maxHeartbeats 2000000
namespace Go.Proofs.Ytjbhgmeokoconaa
open Go.Tm
def md : Nat → Nat := fun k => match k with | 21 => 2 | 11 => 2 | 12 => 2 | _ => 0

theorem awake (m : List Ent) : CallT Try.prog 10 [] m fun d m' => d = .v (.bool true) ∧ m' = m :=
  call_runPK (Checked.mixed Try.checked) tab_ok md 3000 (by kernel_rfl) m
end Go.Proofs.Ytjbhgmeokoconaa
