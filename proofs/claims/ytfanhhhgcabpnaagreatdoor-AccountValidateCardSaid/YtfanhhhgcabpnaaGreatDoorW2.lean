/-
  A part of the fixed example, by the kernel: no condition.
-/
import Derived.Test.YtfanhhhgcabpnaaGreatDoorW1
import Derived.Test.YtfanhhhgcabpnaaGreatDoorC0
import Derived.Test.YtfanhhhgcabpnaaGreatDoorC1
import Derived.Test.YtfanhhhgcabpnaaGreatDoorC2
import Derived.Test.YtfanhhhgcabpnaaGreatDoorC3
open Nat renaming beq→Wn,eq_of_beq_eq_true→fo
open Option.some renaming injEq→An
set_option linter.all false
set_option maxRecDepth 100000
set_option maxHeartbeats 4000000
namespace Go.Proofs.Dev
open Go Go.Tm
def Ll(k:Nat):Nat:=bif Wn k 265 then 3 else bif Wn k 50 then 3 else bif Wn k 51 then 3 else bif Wn k 137 then 3 else 0
def lf(k:Nat) (ds:List D):Option D:=bif Wn k 265 then conD ds else bif Wn k 50 then noneD ds else bif Wn k 51 then noneD ds else bif Wn k 137 then stayD ds else none
theorem Ef:SaidOk Tryz.prog Ll lf:=by
 intro k hk ds d m h;unfold lf at h
 cases h0:Wn k 265 with
 |true=>simp only[h0,cond_true,cond_false]at h;rw[fo h0];exact xb h m
 |false=>
  cases h1:Wn k 50 with
  |true=>simp only[h0,h1,cond_true,cond_false]at h;rw[fo h1];exact said_Rec h m
  |false=>
   cases h2:Wn k 51 with
   |true=>simp only[h0,h1,h2,cond_true,cond_false]at h;rw[fo h2];exact said_Wai h m
   |false=>
    cases h3:Wn k 137 with
    |true=>simp only[h0,h1,h2,h3,cond_true,cond_false]at h;rw[fo h3];exact said_Sty h m
    |false=>
     simp only[h0,h1,h2,h3,cond_false]at h;cases h
def rf:List D:=[.agg [.v (.slice none 0 0),.v (.slice none 0 0),.sl 5 [.agg [.v (.string ⟨#[104,111,117,115,101]⟩),.v (.int .i64 (-1)),.sl 3 [.agg [.v (.string ⟨#[97]⟩),.v (.int .i64 3),.v (.int .i64 0)]],.sl 3 [.agg [.v (.string ⟨#[100]⟩),.v (.int .i64 3),.v (.int .i64 0)]],.sl 9 [.agg [.v (.string ⟨#[98,97,115,101]⟩),.v (.int .i64 0),.v (.int .i64 (-1)),.v (.int .i64 0),.v (.int .i64 0),.v (.int .i64 109573),.v (.slice none 0 0),.sl 2 [.agg [.v (.int .i64 7),.v (.int .i64 0)]],.v (.string ⟨#[]⟩)]]]]]]
def Pk:D:=.agg [.v (.int .i64 0),.v (.int .i64 0),.v (.int .i64 0),.v (.int .i64 0)]
theorem Jl(m:List Ent):CallT Tryz.prog 27 rf m fun d' m'=>d'=Pk∧m'=m:=call_runPK hmix nc Ef 3000 (by kernel_rfl) m
def vd(ds:List D):Option D:=bif eqDs ds rf then some Pk else none
theorem Eb{ds:List D}{d:D}(h:vd ds=some d) (m:List Ent):CallT Tryz.prog 27 ds m fun d' m'=>d'=d∧m'=m:=by
 unfold vd at h
 cases e0:eqDs ds rf with
 |true=>simp only[e0,cond_true,cond_false,An]at h;subst h;rw[eqDs_eq e0];exact Jl m
 |false=>
  simp only[e0,cond_false]at h;cases h
end Go.Proofs.Dev
