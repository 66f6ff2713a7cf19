/-
  Contracts of library functions: the conditions stand in each.
-/
import Derived.Test.YtadinajclolmnaaGreatDoorC3
import Derived.Test.YtadinajclolmnaaGreatDoorPA
import Derived.Test.YtadinajclolmnaaGreatDoorSH
import Derived.Test.YtadinajclolmnaaGreatDoorC0
import Derived.Test.YtadinajclolmnaaGreatDoorC1
import Derived.Test.YtadinajclolmnaaGreatDoorC2
open Option renaming some->M,none->u4
open Decidable renaming decide->D1
open Go.Proofs.Tryz renaming prog->al
open Option.some renaming inj->R'
set_option linter.all false
set_option maxHeartbeats 1000000
set_option maxRecDepth 10000
namespace Go.Tm
def VD{P:Program}{f:FuncId}{F:S?}(hF:cu P f=M F) (hname:((P.funcs[f]?).map λfn=>fn.name == "runtime.NumGoroutine")=M false):P' P f:=by
 unfold cu at hF;split at hF
 .rename_i fn hfn;split at hF
  .rename_i b r hb hres;exact⟨fn,hfn,by simpa [hfn] using hname,by rw[hb];rfl⟩
  .cases hF
 .cases hF
end Go.Tm
namespace Go.Proofs.Dev
open Go Go.Tm Go.Sort
variable {t0 r:List Int}
theorem Jz(h:gb t0=M r):B8 al 122 [] [] 1 (t0.map da) (r.map da) (.tup []):=by
 unfold gb at h;split at h
 .rename_i hl;obtain rfl:=R' h;refine iaa (VD bB8.ok bB8.nm) p6 (λw b off cap hH hb=>?_) (λw cap=>Tryz.slices_Sort_int_none u4 cap w);exact Tryz.slices_Sort_int b off cap t0 w hH hb U
 .cases h
theorem vG(zs:List Int):(Lib.compact zs).length<=zs.length:=by
 unfold Lib.compact Lib.compactUpTo;rw[List.length_map];exact Nat.le_trans (List.length_filter_le _ _) p6
theorem Ax(h:Oa t0=M r):aA4 al 123 1 (t0.map da) (r.map da):=by
 unfold Oa at h;split at h
 .rename_i hl;obtain rfl:=R' h;refine haa (VD bB7.ok bB7.nm) (vG t0) (λw b off cap hH hcap=>?_) (λw cap=>Tryz.slices_Compact_int_empty u4 cap w);refine(Tryz.slices_Compact_int b off cap t0 w hH U hcap).mono ?_;rintro e w' ⟨he,q,hw⟩;refine⟨he,q,List.replicate (t0.length-(Lib.compact t0).length) 0,?_,?_⟩
  .have:=vG t0;simp;omega
  .rw[hw];unfold grow;rw[Array.append_empty]
 .cases h
theorem OL(l:List UInt8) (c:UInt8):D1 (0<=Lib.indexByte l c)=l.contains c:=by
 induction l with
 |nil=>rfl
 |cons b l ih=>
  have hge:=Lib.indexByte_ge l c;have e1:Lib.indexByte (b::l) c=if b==c then 0 else if Lib.indexByte l c==-1 then -1 else Lib.indexByte l c+1:=rfl;rw[List.contains_cons,←ih];by_cases h:b=c
  .subst h;simp[e1]
  .have h':(c==b)=false:=by simp;exact λe=>h e.symm
   have h2:(b==c)=false:=by simpa using h
   rw[h',Bool.false_or];refine decide_eq_decide.2 ?_;rw[e1,h2];by_cases h1:Lib.indexByte l c = -1
   .simp[h1]
   .have h3:(Lib.indexByte l c==-1)=false:=by simpa using h1
    simp only[h3,Bool.false_eq_true,G1];omega
theorem iC{t0 t1:ByteArray}{r:Bool}(h:x? t0 t1=M r):k! al 263 [mz t0,mz t1] (ya r):=by
 unfold x? at h;split at h
 .rename_i hl;obtain rfl:=R' h;obtain⟨⟨l⟩⟩:=t1;obtain⟨c,rfl⟩:∃c,l=[c]:=List.length_eq_one_iff.1 (by simpa [ByteArray.size] using hl);have:=vM (vs:=[.string t0,.string ⟨#[c]⟩]) (VD br9.ok br9.nm) (λw=>Tryz.strings_Contains_one t0 c w);rw[OL]at this;exact this
 .cases h
instance {t0 r}:r? (gb t0=M r) (B8 al 122 [] [] 1 (t0.map da) (r.map da) (.tup [])):=⟨Jz⟩
instance {t0 r}:r? (Oa t0=M r) (aA4 al 123 1 (t0.map da) (r.map da)):=⟨Ax⟩
instance {t0 t1 r}:r? (x? t0 t1=M r) (k! al 263 [mz t0,mz t1] (ya r)):=⟨iC⟩
end Go.Proofs.Dev
