/-
  A part of the fixed example, by the kernel: no condition.
-/
import Derived.Test.YtkmalfincghanaaGreatDoorW2
import Derived.Test.YtkmalfincghanaaGreatDoorC0
import Derived.Test.YtkmalfincghanaaGreatDoorC1
import Derived.Test.YtkmalfincghanaaGreatDoorC2
import Derived.Test.YtkmalfincghanaaGreatDoorC3
set_option linter.all false
set_option maxRecDepth 100000
set_option maxHeartbeats 4000000
namespace Go.Proofs.Dev
open Go Go.Tm
def md0 (k:Nat):Nat:=bif Nat.beq k 66 then 3 else bif Nat.beq k 271 then 3 else 0
def orc0 (k:Nat) (ds:List D):Option D:=bif Nat.beq k 66 then ans0 ds else bif Nat.beq k 271 then conD ds else none
theorem said0:SaidOk Tryz.prog md0 orc0:=by
 intro k hk ds d m h;unfold orc0 at h
 cases h0:Nat.beq k 66 with
 |true=>simp only [h0,cond_true,cond_false]at h;rw [Nat.eq_of_beq_eq_true h0];exact said_ans0 h m
 |false=>
  cases h1:Nat.beq k 271 with
  |true=>simp only [h0,h1,cond_true,cond_false]at h;rw [Nat.eq_of_beq_eq_true h1];exact said_con h m
  |false=>
   simp only [h0,h1,cond_false]at h;cases h
theorem awake_ok:Den Tryz.prog 10 [] (.v (.bool true)):=den_runZ hmix tab_ok said0 3000 [1,2,3] k10.ok k10.nm (by kernel_rfl)
end Go.Proofs.Dev
