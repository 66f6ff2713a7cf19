/-
  Contracts of library functions: the conditions stand in each.
-/
import Derived.Test.YtmhfebelfmgckaaGreatDoorC3
import Derived.Test.YtmhfebelfmgckaaGreatDoorPA
import Derived.Test.YtmhfebelfmgckaaGreatDoorSH
import Derived.Test.YtmhfebelfmgckaaGreatDoorC0
import Derived.Test.YtmhfebelfmgckaaGreatDoorC1
import Derived.Test.YtmhfebelfmgckaaGreatDoorC2
open Option renaming some->M,none->s5
open Decidable renaming decide->s6
open Go.Proofs.Tryz renaming prog->al
open Option.some renaming inj->J'
set_option linter.all false
set_option maxHeartbeats 1000000
set_option maxRecDepth 10000
namespace Go.Tm
def BI{P:Program}{f:FuncId}{F:Fun}(hF:rC P f=M F) (hname:((P.funcs[f]?).map λfn=>fn.name == "runtime.NumGoroutine")=M false):I' P f:=by
 unfold rC at hF;split at hF
 .rename_i fn hfn;split at hF
  .rename_i b r hb hres;exact⟨fn,hfn,by simpa [hfn] using hname,by rw[hb];rfl⟩
  .cases hF
 .cases hF
end Go.Tm
namespace Go.Proofs.Dev
open Go Go.Tm Go.Sort
variable {t0 r:List Int}
theorem qE(h:ab t0=M r):ax4 al 89 [] [] 1 (t0.map da) (r.map da) (.tup []):=by
 unfold ab at h;split at h
 .rename_i hl;obtain rfl:=J' h;refine ar8 (BI k89.ok k89.nm) o0 (λw b off cap hH hb=>?_) (λw cap=>Tryz.slices_Sort_int_none s5 cap w);exact Tryz.slices_Sort_int b off cap t0 w hH hb U
 .cases h
theorem pL(zs:List Int):(Lib.compact zs).length<=zs.length:=by
 unfold Lib.compact Lib.compactUpTo;rw[List.length_map];exact Nat.le_trans (List.length_filter_le _ _) o0
theorem YB(h:Ma t0=M r):aT9 al 90 1 (t0.map da) (r.map da):=by
 unfold Ma at h;split at h
 .rename_i hl;obtain rfl:=J' h;refine ar9 (BI k90.ok k90.nm) (pL t0) (λw b off cap hH hcap=>?_) (λw cap=>Tryz.slices_Compact_int_empty s5 cap w);refine(Tryz.slices_Compact_int b off cap t0 w hH U hcap).mono ?_;rintro e w' ⟨he,q,hw⟩;refine⟨he,q,List.replicate (t0.length-(Lib.compact t0).length) 0,?_,?_⟩
  .have:=pL t0;simp;omega
  .rw[hw];unfold grow;rw[Array.append_empty]
 .cases h
theorem HQ(l:List UInt8) (c:UInt8):s6 (0<=Lib.indexByte l c)=l.contains c:=by
 induction l with
 |nil=>rfl
 |cons b l ih=>
  have hge:=Lib.indexByte_ge l c;have e1:Lib.indexByte (b::l) c=if b==c then 0 else if Lib.indexByte l c==-1 then -1 else Lib.indexByte l c+1:=rfl;rw[List.contains_cons,←ih];by_cases h:b=c
  .subst h;simp[e1]
  .have h':(c==b)=false:=by simp;exact λe=>h e.symm
   have h2:(b==c)=false:=by simpa using h
   rw[h',Bool.false_or];refine decide_eq_decide.2 ?_;rw[e1,h2];by_cases h1:Lib.indexByte l c = -1
   .simp[h1]
   .have h3:(Lib.indexByte l c==-1)=false:=by simpa using h1
    simp only[h3,Bool.false_eq_true,u4];omega
theorem JG{t0 t1:ByteArray}{r:Bool}(h:w! t0 t1=M r):e? al 393 [OD t0,OD t1] (za r):=by
 unfold w! at h;split at h
 .rename_i hl;obtain rfl:=J' h;obtain⟨⟨l⟩⟩:=t1;obtain⟨c,rfl⟩:∃c,l=[c]:=List.length_eq_one_iff.1 (by simpa [ByteArray.size] using hl);have:=qR (vs:=[.string t0,.string ⟨#[c]⟩]) (BI bM6.ok bM6.nm) (λw=>Tryz.strings_Contains_one t0 c w);rw[HQ]at this;exact this
 .cases h
instance {t0 r}:o! (ab t0=M r) (ax4 al 89 [] [] 1 (t0.map da) (r.map da) (.tup [])):=⟨qE⟩
instance {t0 r}:o! (Ma t0=M r) (aT9 al 90 1 (t0.map da) (r.map da)):=⟨YB⟩
instance {t0 t1 r}:o! (w! t0 t1=M r) (e? al 393 [OD t0,OD t1] (za r)):=⟨JG⟩
end Go.Proofs.Dev
