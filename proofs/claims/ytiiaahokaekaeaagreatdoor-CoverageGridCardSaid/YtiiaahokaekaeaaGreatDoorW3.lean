/-
  The fixed example, by the kernel: no condition.
-/
import Derived.Test.YtiiaahokaekaeaaGreatDoorW1
import Derived.Test.YtiiaahokaekaeaaGreatDoorW2
set_option linter.all false
set_option maxRecDepth 100000
set_option maxHeartbeats 4000000
namespace Go.Proofs.Dev
open Go Go.Tm
def md1 (k:Nat):Nat:=bif Nat.beq k 256 then 3 else bif Nat.beq k 9 then 3 else bif Nat.beq k 44 then 2 else bif Nat.beq k 24 then 1 else 0
def orc (k:Nat) (ds:List D):Option D:=bif Nat.beq k 256 then conD ds else bif Nat.beq k 9 then (bif eqDs ds g1a then some g1r else bif eqDs ds g2a then some g2r else none)else none
theorem said1:SaidOk Tryz.prog md1 orc:=by
 intro k hk ds d m h;unfold orc at h
 cases hb:Nat.beq k 256 with
 |true=>rw [hb]at h;rw [Nat.eq_of_beq_eq_true hb];exact said_con h m
 |false=>
  rw [hb]at h
  cases h9:Nat.beq k 9 with
  |false=>rw [h9]at h;cases h
  |true=>
   rw [h9]at h;rw [Nat.eq_of_beq_eq_true h9]
   cases e1:eqDs ds g1a with
   |true=>rw [e1]at h;simp only [cond_true,cond_false,Option.some.injEq]at h;subst h;rw [eqDs_eq e1];exact g1_ok m
   |false=>
    cases e2:eqDs ds g2a with
    |true=>rw [e1,e2]at h;simp only [cond_true,cond_false,Option.some.injEq]at h;subst h;rw [eqDs_eq e2];exact g2_ok m
    |false=>rw [e1,e2]at h;cases h
theorem awake_ok:Den Tryz.prog 8 [] (.v (.bool true)):=den_runZ hmix tab_ok said1 3000 [1] k8.ok k8.nm (by kernel_rfl)
end Go.Proofs.Dev
