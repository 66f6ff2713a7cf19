/-
  Contracts of library functions: the conditions stand in each.
-/
import Derived.Test.YtfanhhhgcabpnaaGreatDoorC3
import Derived.Test.YtfanhhhgcabpnaaGreatDoorPA
import Derived.Test.YtfanhhhgcabpnaaGreatDoorEC
import Derived.Test.YtfanhhhgcabpnaaGreatDoorSH
import Derived.Test.YtfanhhhgcabpnaaGreatDoorC0
import Derived.Test.YtfanhhhgcabpnaaGreatDoorC1
import Derived.Test.YtfanhhhgcabpnaaGreatDoorC2
set_option linter.all false
set_option maxHeartbeats 1000000
set_option maxRecDepth 10000
namespace Go.Tm
theorem entersK {P:Program}{f:FuncId}{F:Fun}(hF:compF P f=some F) (hname:((P.funcs[f]?).map fun fn=>fn.name == "runtime.NumGoroutine")=some false):Enters P f:=by
 unfold compF at hF;split at hF
 ·rename_i fn hfn;split at hF
  ·rename_i b r hb hres;exact⟨fn,hfn,by simpa [hfn] using hname,by rw [hb];rfl⟩
  ·cases hF
 ·cases hF
end Go.Tm
namespace Go.Proofs.Dev
open Go Go.Tm Go.Sort
theorem indexByte_pos (l:List UInt8) (c:UInt8):decide (0≤Lib.indexByte l c)=l.contains c:=by
 induction l with
 |nil=>rfl
 |cons b l ih=>
  have hge:=Lib.indexByte_ge l c;have e1:Lib.indexByte (b::l) c=if b==c then 0 else if Lib.indexByte l c==-1 then -1 else Lib.indexByte l c+1:=rfl;rw [List.contains_cons,←ih];by_cases h:b=c
  ·subst h;simp [e1]
  ·have h':(c==b)=false:=by simp;exact fun e=>h e.symm
   have h2:(b==c)=false:=by simpa using h
   rw [h',Bool.false_or];refine decide_eq_decide.2 ?_;rw [e1,h2];by_cases h1:Lib.indexByte l c = -1
   ·simp [h1]
   ·have h3:(Lib.indexByte l c==-1)=false:=by simpa using h1
    simp only [h3,Bool.false_eq_true,if_false];omega
theorem strings_Contains_ok {t0 t1:ByteArray}{r:Bool}(h:strings_Contains t0 t1=some r):Den Tryz.prog 265 [e_str t0,e_str t1] (e_bool r):=by
 unfold strings_Contains at h;split at h
 ·rename_i hl;obtain rfl:=Option.some.inj h;obtain⟨⟨l⟩⟩:=t1;obtain⟨c,rfl⟩:∃c,l=[c]:=List.length_eq_one_iff.1 (by simpa [ByteArray.size] using hl);have:=den_calls (vs:=[.string t0,.string ⟨#[c]⟩]) (entersK k265.ok k265.nm) (fun w=>Tryz.strings_Contains_one t0 c w);rw [indexByte_pos]at this;exact this
 ·cases h
end Go.Proofs.Dev
