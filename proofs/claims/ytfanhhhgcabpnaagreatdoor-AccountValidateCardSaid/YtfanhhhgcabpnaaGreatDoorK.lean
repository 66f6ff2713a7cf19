/-
  Contracts of library functions: the conditions stand in each.
-/
import Derived.Test.YtfanhhhgcabpnaaGreatDoorC3
import Derived.Test.YtfanhhhgcabpnaaGreatDoorPA
import Derived.Test.YtfanhhhgcabpnaaGreatDoorEC
import Derived.Test.YtfanhhhgcabpnaaGreatDoorED
import Derived.Test.YtfanhhhgcabpnaaGreatDoorSH
import Derived.Test.YtfanhhhgcabpnaaGreatDoorC0
import Derived.Test.YtfanhhhgcabpnaaGreatDoorC1
import Derived.Test.YtfanhhhgcabpnaaGreatDoorC2
open Option.some renaming inj→eo
set_option linter.all false
set_option maxHeartbeats 1000000
set_option maxRecDepth 10000
namespace Go.Tm
theorem Hb{P:Program}{f:FuncId}{F:Fun}(hF:compF P f=some F) (hname:((P.funcs[f]?).map fun fn=>fn.name == "runtime.NumGoroutine")=some false):Enters P f:=by
 unfold compF at hF;split at hF
 ·rename_i fn hfn;split at hF
  ·rename_i b r hb hres;exact⟨fn,hfn,by simpa [hfn] using hname,by rw[hb];rfl⟩
  ·cases hF
 ·cases hF
end Go.Tm
namespace Go.Proofs.Dev
open Go Go.Tm Go.Sort
theorem Sa{t0 r:List Int}(h:slices_Sort_int_int t0=some r):DenW Tryz.prog 76 [] [] 1 (t0.map e_i64) (r.map e_i64) (.tup []):=by
 unfold slices_Sort_int_int at h;split at h
 ·rename_i hl;obtain rfl:=eo h;refine denW_row (Hb Cl.ok Cl.nm) (by simp) (fun w b off cap hH hb=>?_) (fun w cap=>Tryz.slices_Sort_int_none none cap w);exact Tryz.slices_Sort_int b off cap t0 w hH hb (by omega)
 ·cases h
theorem kb(zs:List Int):(Lib.compact zs).length≤zs.length:=by
 unfold Lib.compact Lib.compactUpTo;rw[List.length_map];exact Nat.le_trans (List.length_filter_le _ _) (by simp)
theorem Ma{t0 r:List Int}(h:slices_Compact_int_int t0=some r):DenA Tryz.prog 77 1 (t0.map e_i64) (r.map e_i64):=by
 unfold slices_Compact_int_int at h;split at h
 ·rename_i hl;obtain rfl:=eo h;refine denA_row (Hb Dl.ok Dl.nm) (kb t0) (fun w b off cap hH hcap=>?_) (fun w cap=>Tryz.slices_Compact_int_empty none cap w);refine(Tryz.slices_Compact_int b off cap t0 w hH (by omega) hcap).mono ?_;rintro e w' ⟨he,q,hw⟩;refine⟨he,q,List.replicate (t0.length-(Lib.compact t0).length) 0,?_,?_⟩
  ·have:=kb t0;simp;omega
  ·rw[hw];unfold grow;rw[Array.append_empty]
 ·cases h
theorem yb(l:List UInt8) (c:UInt8):decide (0≤Lib.indexByte l c)=l.contains c:=by
 induction l with
 |nil=>rfl
 |cons b l ih=>
  have hge:=Lib.indexByte_ge l c;have e1:Lib.indexByte (b::l) c=if b==c then 0 else if Lib.indexByte l c==-1 then -1 else Lib.indexByte l c+1:=rfl;rw[List.contains_cons,←ih];by_cases h:b=c
  ·subst h;simp[e1]
  ·have h':(c==b)=false:=by simp;exact fun e=>h e.symm
   have h2:(b==c)=false:=by simpa using h
   rw[h',Bool.false_or];refine decide_eq_decide.2 ?_;rw[e1,h2];by_cases h1:Lib.indexByte l c = -1
   ·simp[h1]
   ·have h3:(Lib.indexByte l c==-1)=false:=by simpa using h1
    simp only[h3,Bool.false_eq_true,if_false];omega
theorem Ia{t0 t1:ByteArray}{r:Bool}(h:strings_Contains t0 t1=some r):Den Tryz.prog 265 [e_str t0,e_str t1] (e_bool r):=by
 unfold strings_Contains at h;split at h
 ·rename_i hl;obtain rfl:=eo h;obtain⟨⟨l⟩⟩:=t1;obtain⟨c,rfl⟩:∃c,l=[c]:=List.length_eq_one_iff.1 (by simpa [ByteArray.size] using hl);have:=den_calls (vs:=[.string t0,.string ⟨#[c]⟩]) (Hb Ee.ok Ee.nm) (fun w=>Tryz.strings_Contains_one t0 c w);rw[yb]at this;exact this
 ·cases h
instance {t0 r}:Con (slices_Sort_int_int t0=some r) (DenW Tryz.prog 76 [] [] 1 (t0.map e_i64) (r.map e_i64) (.tup [])):=⟨Sa⟩
instance {t0 r}:Con (slices_Compact_int_int t0=some r) (DenA Tryz.prog 77 1 (t0.map e_i64) (r.map e_i64)):=⟨Ma⟩
instance {t0 t1 r}:Con (strings_Contains t0 t1=some r) (Den Tryz.prog 265 [e_str t0,e_str t1] (e_bool r)):=⟨Ia⟩
end Go.Proofs.Dev
