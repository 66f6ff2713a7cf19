/-
  Contracts of library functions: the conditions stand in each.
-/
import Derived.Test.YtjjfnbpfgfopbaaGreatDoorC3
import Derived.Test.YtjjfnbpfgfopbaaGreatDoorPA
import Derived.Test.YtjjfnbpfgfopbaaGreatDoorEC
import Derived.Test.YtjjfnbpfgfopbaaGreatDoorED
import Derived.Test.YtjjfnbpfgfopbaaGreatDoorSH
import Derived.Test.YtjjfnbpfgfopbaaGreatDoorC0
import Derived.Test.YtjjfnbpfgfopbaaGreatDoorC1
import Derived.Test.YtjjfnbpfgfopbaaGreatDoorC2
open Option.some renaming inj->Iaa
set_option linter.all false
set_option maxHeartbeats 1000000
set_option maxRecDepth 10000
namespace Go.Tm
theorem QA{P:Program}{f:FuncId}{F:Fun}(hF:Hv P f=some F) (hname:((P.funcs[f]?).map λfn=>fn.name == "runtime.NumGoroutine")=some false):Enters P f:=by
 unfold Hv at hF;split at hF
 .rename_i fn hfn;split at hF
  .rename_i b r hb hres;exact⟨fn,hfn,by simpa [hfn] using hname,by rw[hb];rfl⟩
  .cases hF
 .cases hF
end Go.Tm
namespace Go.Proofs.Dev
open Go Go.Tm Go.Sort
variable {t0 r:List Int}
theorem wx(h:Ja t0=some r):yX Tryz.prog 61 [] [] 1 (t0.map ca) (r.map ca) (.tup []):=by
 unfold Ja at h;split at h
 .rename_i hl;obtain rfl:=Iaa h;refine RY (QA k61.ok k61.nm) (by simp) (λw b off cap hH hb=>?_) (λw cap=>Tryz.slices_Sort_int_none none cap w);exact Tryz.slices_Sort_int b off cap t0 w hH hb (by omega)
 .cases h
theorem pD(zs:List Int):(Lib.compact zs).length<=zs.length:=by
 unfold Lib.compact Lib.compactUpTo;rw[List.length_map];exact Nat.le_trans (List.length_filter_le _ _) (by simp)
theorem zv(h:Ca t0=some r):D7 Tryz.prog 62 1 (t0.map ca) (r.map ca):=by
 unfold Ca at h;split at h
 .rename_i hl;obtain rfl:=Iaa h;refine QY (QA k62.ok k62.nm) (pD t0) (λw b off cap hH hcap=>?_) (λw cap=>Tryz.slices_Compact_int_empty none cap w);refine(Tryz.slices_Compact_int b off cap t0 w hH (by omega) hcap).mono ?_;rintro e w' ⟨he,q,hw⟩;refine⟨he,q,List.replicate (t0.length-(Lib.compact t0).length) 0,?_,?_⟩
  .have:=pD t0;simp;omega
  .rw[hw];unfold grow;rw[Array.append_empty]
 .cases h
theorem ZH(l:List UInt8) (c:UInt8):decide (0<=Lib.indexByte l c)=l.contains c:=by
 induction l with
 |nil=>rfl
 |cons b l ih=>
  have hge:=Lib.indexByte_ge l c;have e1:Lib.indexByte (b::l) c=if b==c then 0 else if Lib.indexByte l c==-1 then -1 else Lib.indexByte l c+1:=rfl;rw[List.contains_cons,←ih];by_cases h:b=c
  .subst h;simp[e1]
  .have h':(c==b)=false:=by simp;exact λe=>h e.symm
   have h2:(b==c)=false:=by simpa using h
   rw[h',Bool.false_or];refine decide_eq_decide.2 ?_;rw[e1,h2];by_cases h1:Lib.indexByte l c = -1
   .simp[h1]
   .have h3:(Lib.indexByte l c==-1)=false:=by simpa using h1
    simp only[h3,Bool.false_eq_true,if_false];omega
theorem xz{t0 t1:ByteArray}{r:Bool}(h:strings_Contains t0 t1=some r):Den Tryz.prog 230 [Tw t0,Tw t1] (sa r):=by
 unfold strings_Contains at h;split at h
 .rename_i hl;obtain rfl:=Iaa h;obtain⟨⟨l⟩⟩:=t1;obtain⟨c,rfl⟩:∃c,l=[c]:=List.length_eq_one_iff.1 (by simpa [ByteArray.size] using hl);have:=II (vs:=[.string t0,.string ⟨#[c]⟩]) (QA k230.ok k230.nm) (λw=>Tryz.strings_Contains_one t0 c w);rw[ZH]at this;exact this
 .cases h
instance {t0 r}:Con (Ja t0=some r) (yX Tryz.prog 61 [] [] 1 (t0.map ca) (r.map ca) (.tup [])):=⟨wx⟩
instance {t0 r}:Con (Ca t0=some r) (D7 Tryz.prog 62 1 (t0.map ca) (r.map ca)):=⟨zv⟩
instance {t0 t1 r}:Con (strings_Contains t0 t1=some r) (Den Tryz.prog 230 [Tw t0,Tw t1] (sa r)):=⟨xz⟩
end Go.Proofs.Dev
