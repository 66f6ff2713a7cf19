/-
  A part of the fixed example, by the kernel: no condition.
-/
import Derived.Test.YtfanhhhgcabpnaaGreatDoorW3
import Derived.Test.YtfanhhhgcabpnaaGreatDoorC0
import Derived.Test.YtfanhhhgcabpnaaGreatDoorC1
import Derived.Test.YtfanhhhgcabpnaaGreatDoorC2
import Derived.Test.YtfanhhhgcabpnaaGreatDoorC3
set_option linter.all false
set_option maxRecDepth 100000
set_option maxHeartbeats 4000000
namespace Go.Proofs.Dev
open Go Go.Tm
def md0 (k:Nat):Nat:=bif Nat.beq k 106 then 3 else bif Nat.beq k 27 then 3 else bif Nat.beq k 265 then 3 else bif Nat.beq k 50 then 3 else bif Nat.beq k 51 then 3 else bif Nat.beq k 137 then 3 else 0
def orc0 (k:Nat) (ds:List D):Option D:=bif Nat.beq k 106 then ans1 ds else bif Nat.beq k 27 then ans0 ds else bif Nat.beq k 265 then conD ds else bif Nat.beq k 50 then noneD ds else bif Nat.beq k 51 then noneD ds else bif Nat.beq k 137 then stayD ds else none
theorem said0:SaidOk Tryz.prog md0 orc0:=by
 intro k hk ds d m h;unfold orc0 at h
 cases h0:Nat.beq k 106 with
 |true=>simp only [h0,cond_true,cond_false]at h;rw [Nat.eq_of_beq_eq_true h0];exact said_ans1 h m
 |false=>
  cases h1:Nat.beq k 27 with
  |true=>simp only [h0,h1,cond_true,cond_false]at h;rw [Nat.eq_of_beq_eq_true h1];exact said_ans0 h m
  |false=>
   cases h2:Nat.beq k 265 with
   |true=>simp only [h0,h1,h2,cond_true,cond_false]at h;rw [Nat.eq_of_beq_eq_true h2];exact said_con h m
   |false=>
    cases h3:Nat.beq k 50 with
    |true=>simp only [h0,h1,h2,h3,cond_true,cond_false]at h;rw [Nat.eq_of_beq_eq_true h3];exact said_Rec h m
    |false=>
     cases h4:Nat.beq k 51 with
     |true=>simp only [h0,h1,h2,h3,h4,cond_true,cond_false]at h;rw [Nat.eq_of_beq_eq_true h4];exact said_Wai h m
     |false=>
      cases h5:Nat.beq k 137 with
      |true=>simp only [h0,h1,h2,h3,h4,h5,cond_true,cond_false]at h;rw [Nat.eq_of_beq_eq_true h5];exact said_Sty h m
      |false=>
       simp only [h0,h1,h2,h3,h4,h5,cond_false]at h;cases h
theorem awake_ok:Den Tryz.prog 16 [] (.v (.bool true)):=den_runZ hmix tab_ok said0 3000 [1,2,3] k16.ok k16.nm (by kernel_rfl)
end Go.Proofs.Dev
