/-
  Contracts of library functions: the conditions stand in each.
-/
import Derived.Test.YtjiaejcpmcknnaaGreatDoorC3
import Derived.Test.YtjiaejcpmcknnaaGreatDoorPA
import Derived.Test.YtjiaejcpmcknnaaGreatDoorEC
import Derived.Test.YtjiaejcpmcknnaaGreatDoorSH
import Derived.Test.YtjiaejcpmcknnaaGreatDoorC0
import Derived.Test.YtjiaejcpmcknnaaGreatDoorC1
import Derived.Test.YtjiaejcpmcknnaaGreatDoorC2
open Option.some renaming inj->oab
set_option linter.all false
set_option maxHeartbeats 1000000
set_option maxRecDepth 10000
namespace Go.Tm
theorem WA{P:Program}{f:FuncId}{F:Fun}(hF:Kv P f=some F) (hname:((P.funcs[f]?).map λfn=>fn.name == "runtime.NumGoroutine")=some false):Enters P f:=by
 unfold Kv at hF;split at hF
 .rename_i fn hfn;split at hF
  .rename_i b r hb hres;exact⟨fn,hfn,by simpa [hfn] using hname,by rw[hb];rfl⟩
  .cases hF
 .cases hF
end Go.Tm
namespace Go.Proofs.Dev
open Go Go.Tm Go.Sort
theorem yx{t0 r:List Int}(h:gb t0=some r):qT Tryz.prog 113 [] [] 1 (t0.map aa) (r.map aa) (.tup []):=by
 unfold gb at h;split at h
 .rename_i hl;obtain rfl:=oab h;refine CU (WA k113.ok k113.nm) (by simp) (λw b off cap hH hb=>?_) (λw cap=>Tryz.slices_Sort_int_none none cap w);exact Tryz.slices_Sort_int b off cap t0 w hH hb (by omega)
 .cases h
theorem FD(zs:List Int):(Lib.compact zs).length<=zs.length:=by
 unfold Lib.compact Lib.compactUpTo;rw[List.length_map];exact Nat.le_trans (List.length_filter_le _ _) (by simp)
theorem Bv{t0 r:List Int}(h:Ra t0=some r):dY Tryz.prog 114 1 (t0.map aa) (r.map aa):=by
 unfold Ra at h;split at h
 .rename_i hl;obtain rfl:=oab h;refine BU (WA k114.ok k114.nm) (FD t0) (λw b off cap hH hcap=>?_) (λw cap=>Tryz.slices_Compact_int_empty none cap w);refine(Tryz.slices_Compact_int b off cap t0 w hH (by omega) hcap).mono ?_;rintro e w' ⟨he,q,hw⟩;refine⟨he,q,List.replicate (t0.length-(Lib.compact t0).length) 0,?_,?_⟩
  .have:=FD t0;simp;omega
  .rw[hw];unfold grow;rw[Array.append_empty]
 .cases h
theorem xI(l:List UInt8) (c:UInt8):decide (0<=Lib.indexByte l c)=l.contains c:=by
 induction l with
 |nil=>rfl
 |cons b l ih=>
  have hge:=Lib.indexByte_ge l c;have e1:Lib.indexByte (b::l) c=if b==c then 0 else if Lib.indexByte l c==-1 then -1 else Lib.indexByte l c+1:=rfl;rw[List.contains_cons,←ih];by_cases h:b=c
  .subst h;simp[e1]
  .have h':(c==b)=false:=by simp;exact λe=>h e.symm
   have h2:(b==c)=false:=by simpa using h
   rw[h',Bool.false_or];refine decide_eq_decide.2 ?_;rw[e1,h2];by_cases h1:Lib.indexByte l c = -1
   .simp[h1]
   .have h3:(Lib.indexByte l c==-1)=false:=by simpa using h1
    simp only[h3,Bool.false_eq_true,if_false];omega
theorem Fz{t0 t1:ByteArray}{r:Bool}(h:strings_Contains t0 t1=some r):Den Tryz.prog 283 [vg t0,vg t1] (ba r):=by
 unfold strings_Contains at h;split at h
 .rename_i hl;obtain rfl:=oab h;obtain⟨⟨l⟩⟩:=t1;obtain⟨c,rfl⟩:∃c,l=[c]:=List.length_eq_one_iff.1 (by simpa [ByteArray.size] using hl);have:=mJ (vs:=[.string t0,.string ⟨#[c]⟩]) (WA k283.ok k283.nm) (λw=>Tryz.strings_Contains_one t0 c w);rw[xI]at this;exact this
 .cases h
instance {t0 r}:Con (gb t0=some r) (qT Tryz.prog 113 [] [] 1 (t0.map aa) (r.map aa) (.tup [])):=⟨yx⟩
instance {t0 r}:Con (Ra t0=some r) (dY Tryz.prog 114 1 (t0.map aa) (r.map aa)):=⟨Bv⟩
instance {t0 t1 r}:Con (strings_Contains t0 t1=some r) (Den Tryz.prog 283 [vg t0,vg t1] (ba r)):=⟨Fz⟩
end Go.Proofs.Dev
