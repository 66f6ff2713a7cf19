/-
  A part of the fixed example, by the kernel: no condition.
-/
import Derived.Test.YtfanhhhgcabpnaaGreatDoorW3
import Derived.Test.YtfanhhhgcabpnaaGreatDoorC0
import Derived.Test.YtfanhhhgcabpnaaGreatDoorC1
import Derived.Test.YtfanhhhgcabpnaaGreatDoorC2
import Derived.Test.YtfanhhhgcabpnaaGreatDoorC3
open Nat renaming beq→Wn,eq_of_beq_eq_true→fo
set_option linter.all false
set_option maxRecDepth 100000
set_option maxHeartbeats 4000000
namespace Go.Proofs.Dev
open Go Go.Tm
def mn(k:Nat):Nat:=bif Wn k 106 then 3 else bif Wn k 27 then 3 else bif Wn k 265 then 3 else bif Wn k 50 then 3 else bif Wn k 51 then 3 else bif Wn k 137 then 3 else 0
def Kk(k:Nat) (ds:List D):Option D:=bif Wn k 106 then uf ds else bif Wn k 27 then vd ds else bif Wn k 265 then conD ds else bif Wn k 50 then noneD ds else bif Wn k 51 then noneD ds else bif Wn k 137 then stayD ds else none
theorem Rk:SaidOk Tryz.prog mn Kk:=by
 intro k hk ds d m h;unfold Kk at h
 cases h0:Wn k 106 with
 |true=>simp only[h0,cond_true,cond_false]at h;rw[fo h0];exact Fc h m
 |false=>
  cases h1:Wn k 27 with
  |true=>simp only[h0,h1,cond_true,cond_false]at h;rw[fo h1];exact Eb h m
  |false=>
   cases h2:Wn k 265 with
   |true=>simp only[h0,h1,h2,cond_true,cond_false]at h;rw[fo h2];exact xb h m
   |false=>
    cases h3:Wn k 50 with
    |true=>simp only[h0,h1,h2,h3,cond_true,cond_false]at h;rw[fo h3];exact said_Rec h m
    |false=>
     cases h4:Wn k 51 with
     |true=>simp only[h0,h1,h2,h3,h4,cond_true,cond_false]at h;rw[fo h4];exact said_Wai h m
     |false=>
      cases h5:Wn k 137 with
      |true=>simp only[h0,h1,h2,h3,h4,h5,cond_true,cond_false]at h;rw[fo h5];exact said_Sty h m
      |false=>
       simp only[h0,h1,h2,h3,h4,h5,cond_false]at h;cases h
theorem Ic:Den Tryz.prog 16 [] (.v (.bool true)):=Kc hmix nc Rk 3000 [1,2,3] Uk.ok Uk.nm (by kernel_rfl)
end Go.Proofs.Dev
