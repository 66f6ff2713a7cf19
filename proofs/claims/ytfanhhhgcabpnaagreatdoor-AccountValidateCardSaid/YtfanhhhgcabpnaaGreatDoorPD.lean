/-
  The functions as plain partial functions, and plain lemmas about them: no condition.
-/
import Derived.Test.YtfanhhhgcabpnaaGreatDoorPC
import Derived.Test.YtfanhhhgcabpnaaGreatDoorPB
import Derived.Test.YtfanhhhgcabpnaaGreatDoorPA
open Bool renaming false_eq_true→tn
open Classical renaming not_not→ko
open Int renaming eq_ofNat_of_zero_le→Kr,natCast_zero→Js,reduceEq→Hn,toNat_natCast→Zp
open List renaming any_eq_true→kq,foldl_append→aq,foldl_cons→bp,getElem?_eq_getElem→pn,getElem?_eq_none→Rn,getElem_mem→On,length_append→uo,length_cons→jo,length_singleton→Np,length_take→No,map_append→Pp,map_cons→Vn,map_nil→cr,mem_append→Fo,mem_cons→oo,mem_map→Yp,mem_of_getElem?→Bo,mem_singleton→Xo,range→wo,replicate→yn,sum_cons→lr,take_length→Ho
open Option renaming bind→qn,bind_some→nn,getD_some→cp
open Option.some renaming inj→eo
set_option linter.all false
set_option maxRecDepth 10000
set_option maxHeartbeats 1000000
namespace Go.Proofs.Dev
open Go Go.Tm
end Go.Proofs.Dev
namespace Go.Proofs.Dev
open Go Go.Tm
end Go.Proofs.Dev
namespace Go.Proofs.Dev
open Go Go.Tm
end Go.Proofs.Dev
namespace Go.Proofs.Dev
open Go Go.Tm
theorem orO{a b:Prop} [Decidable a] [Decidable b] {α:Type}{k:Bool→Option α}:(qn (α:=Bool) (if¬a then some (decide b)else some true) k)=k (decide (a∨b)):=by
 by_cases h:a<;>simp[h]
end Go.Proofs.Dev
namespace Go.Proofs.Dev
open Go Go.Tm
section
variable {rules:List GRule} {q:GRule→Bool}
end
end Go.Proofs.Dev
namespace Go.Proofs.Dev
open Go Go.Tm
end Go.Proofs.Dev
namespace Go.Proofs.Dev
open Go Go.Tm
end Go.Proofs.Dev
namespace Go.Proofs.Dev
open Go Go.Tm
def wB(s:GScope) (d x:Int):Bool:=decide (d=x) || (trN s d s.Defs.length).contains x
end Go.Proofs.Dev
namespace Go.Proofs.Dev
open Go Go.Tm
theorem rng{a b c:Int}:(if¬a<b then some (decide (c<a))else some true)=some (decide (a<b) || decide (c<a)):=by
 by_cases h:a<b<;>simp[h]
theorem outside_s(a b c:Int):ref36_outside a b c=some (decide (a<b) || decide (c<a)):=by
 unfold ref36_outside;rw[rng];rfl
theorem calStep(c:GCalendar):workday_Valid_L1 c=ref06_Valid_L1 c:=by
 funext s;unfold workday_Valid_L1 ref06_Valid_L1;split
 ·cases idx c.Holidays s<;>rfl
 ·rfl
theorem cal_eq(c:GCalendar):workday_Valid c=ref06_Valid c:=by
 unfold workday_Valid ref06_Valid;rw[calStep]
theorem calEx{c:GCalendar}(h:c.Holidays.length≤1048576):∃b,workday_Valid c=some b:=by
 have hs:∀i:Nat,i<c.Holidays.length→workday_Valid_L1 c (i:Int)=some (.ret false)∨workday_Valid_L1 c (i:Int)=some (.go (wrapF .i64 ((i:Int)+1))):=by
  intro i hi;unfold workday_Valid_L1;rw[if_pos (by omega),idxN hi,nn];unfold workday_validDate;generalize c.Holidays[i]=x;by_cases h1:0≤x
  ·by_cases h2:x≤109572
   ·by_cases h3:0<i
    ·obtain⟨k,rfl⟩:∃k,i=k+1:=⟨i-1,by omega⟩;have h4:wrapF .i64 (((k+1:Nat):Int)-1)=(k:Int):=by rw[wid (by omega) (by omega)];omega
     have h5:(0:Int)<((k+1:Nat):Int):=by omega
     rw[h4,idxN (show k<c.Holidays.length by omega)];by_cases h6:x≤c.Holidays[k]
     ·left;simp[h1,h2,h5,h6]
     ·right;simp[h1,h2,h5,h6]
    ·have h5:¬(0:Int)<(i:Int):=by omega
     right;rw[if_neg h5];simp[h1,h2]
   ·left;simp[h1,h2]
  ·left;simp[h1]
 classical
 unfold workday_Valid;rw[show(if¬c.Weekend<0 then if¬126<c.Weekend then some (decide (64<(c.Holidays.length:Int)))else some true else some true)=some (decide (c.Weekend<0) || (decide (126<c.Weekend) || decide (64<(c.Holidays.length:Int)))) by
  by_cases g1:c.Weekend<0<;>by_cases g2:126<c.Weekend<;>simp[g1,g2],nn]
 split
 ·exact⟨_,rfl⟩
 ·rcases badLoop h (fun i=>decide (workday_Valid_L1 c (i:Int)=some (.ret false))) (step:=workday_Valid_L1 c) (fun i hi=>by
   rcases hs i hi with g|g
   ·simp[g]
   ·simp[g]) (by unfold workday_Valid_L1;simp)with g|⟨g,-⟩
  ·exact⟨false,by rw[g];rfl⟩
  ·exact⟨true,by rw[g];rfl⟩
theorem validE_zero{l:GLaw}(h:(validE l).Code=0):validE l=⟨0,0,0,0⟩:=by
 unfold validE at h⊢;split at h
 ·simp at h
 rename_i h1;rw[if_neg h1];generalize hE:ff _ l.Enums.length=oe at h⊢
 cases oe with
 |some v=>exact(ff_code (f:=fun i=>match l.Enums[i]? with|some x=>if(enumE l i x).1=0 then none else some (⟨(enumE l i x).1,1,(i:Int),(enumE l i x).2⟩:GLawError)|none=>none) e_code hE h).elim
 |none=>
 dsimp only at h⊢;split at h
 ·simp at h
 rename_i h2;rw[if_neg h2];generalize hT:ff _ l.Tables.length=ot at h⊢
 cases ot with
 |some v=>exact(ff_code (f:=fun i=>match l.Tables[i]? with|some x=>if(tabE l i x).1=0 then none else some (⟨(tabE l i x).1,2,(i:Int),(tabE l i x).2⟩:GLawError)|none=>none) t_code hT h).elim
 |none=>
 dsimp only at h⊢;split at h
 ·simp at h
 rename_i h3;rw[if_neg h3];generalize hf:ff _ l.Scopes.length=o at h⊢
 cases o with
 |none=>rfl
 |some v=>
  rw[cp]at h;obtain⟨k,k1,k2,-⟩:=ff_some.1 hf;rw[pn k1]at k2;dsimp only at k2;split at k2
  ·cases k2
  ·injection k2 with k2;subst k2;rename_i hne;exact(hne h).elim
theorem def_type{l:GLaw}(hV:Valid l) {i k:Nat}(hi:i<l.Scopes.length) (hk:k<l.Scopes[i].Defs.length):validTypeB l.Scopes[i].Defs[k].Type_ l.Enums=true:=by
 have h:=hV.s i hi;generalize l.Scopes[i]=x at h hk⊢;unfold scopeE at h
 repeat' split at h
 all_goals first|(simp at h;done)|skip
 ·rename_i v hv;exact(ff_ne inF_ne hv h).elim
 ·rename_i v hv;exact(ff_ne defF_ne hv h).elim
 ·rename_i v hv;exact(ff_ne rulF_ne hv h).elim
 ·rename_i hd _ _;have:=ff_none.1 hd k hk;unfold defF at this;rw[pn hk]at this;dsimp only at this;split at this
  ·rename_i hz;unfold fieldE at hz;split at hz
   ·simp at hz
   ·split at hz
    ·simp at hz
    ·split at hz
     ·simp at hz
     ·rename_i hb;simpa using hb
  ·cases this
theorem config_eq{l:GLaw}(h:LawOk l) {c:GPayConfig}(hc:c.Calendar.Holidays.length≤1048576) (sc:Int):∃n,award_ValidateConfig l sc c=some n∧ref36_ValidateConfig l sc c=some n:=by
 have key:award_ValidateConfig l sc c=ref36_ValidateConfig l sc c∧∃n,ref36_ValidateConfig l sc c=some n:=by
  unfold award_ValidateConfig ref36_ValidateConfig ref17_IsValid;rw[law_Validate_s h,ref17_Validate_s h];simp only[nn];by_cases hv:(validE l).Code=0
  ·have hV:=valid_of hv;rw[validE_zero hv];simp only[not_true_eq_false,if_false,and_self,beq_self_eq_true,Bool.true_eq_false];obtain⟨b,hb⟩:=calEx hc;have hb2:ref06_Valid c.Calendar=some b:=by rw[←cal_eq];exact hb
   by_cases h1:sc<0
   ·simp[h1]
   by_cases h2:(l.Scopes.length:Int)≤sc
   ·simp[h1,h2]
   by_cases h3:c.Def<0
   ·simp[h1,h2,h3]
   obtain⟨i,rfl⟩:∃i:Nat,sc=(i:Int):=⟨sc.toNat,by omega⟩;have hi:i<l.Scopes.length:=by omega
   rw[if_pos h1,if_pos h2,if_pos h3,idxN hi,nn,nn];by_cases h4:(l.Scopes[i].Defs.length:Int)≤c.Def
   ·simp[h4]
   obtain⟨k,hk⟩:∃k:Nat,c.Def=(k:Int):=⟨c.Def.toNat,by omega⟩;have hkl:k<l.Scopes[i].Defs.length:=by omega
   rw[show decide ((l.Scopes[i].Defs.length:Int)≤c.Def)=false by simpa using h4];have ht:=def_type hV hi hkl;simp only[hk,idxN hkl,nn,tn,if_false];generalize l.Scopes[i].Defs[k].Type_=t at ht⊢;by_cases h5:t.Kind=3
   ·have h6:t.Enum=0:=by
     unfold validTypeB at ht;rw[if_neg (by omega)]at ht;simp at ht;exact ht.2
    simp only[h5,h6,and_self,not_true_eq_false,if_false,outside_s,rng,hb,hb2,nn];by_cases g1:c.Rounding<0
    ·simp[g1]
    by_cases g2:5<c.Rounding
    ·simp[g1,g2]
    rw[if_pos g1,if_pos g2];simp only[g1,g2,decide_false,Bool.or_self,if_true,nn];cases b
    ·simp
    simp only[Bool.not_true,tn,if_false];generalize (decide (c.PayDay<1) || decide (28<c.PayDay))=b1;generalize (decide (c.RecoveryCap<0) || decide (1000000<c.RecoveryCap))=b2;generalize (decide (c.RecoveryFloor<0) || decide (1000000000000000<c.RecoveryFloor))=b3;generalize (decide (c.FirstMonth<0) || decide (3599<c.FirstMonth))=b4;generalize (decide (c.AppealDays<0) || decide (365<c.AppealDays))=b5;cases b1<;>cases b2<;>cases b3<;>cases b4<;>cases b5<;>simp
   ·simp[h5]
  ·have:((validE l).Code==0)=false:=by simpa using hv
   simp[hv,this]
 obtain⟨h1,n,h2⟩:=key;exact⟨n,by rw[h1];exact h2,h2⟩
end Go.Proofs.Dev
namespace Go.Proofs.Dev
open Go Go.Tm
end Go.Proofs.Dev
namespace Go.Proofs.Dev
open Go Go.Tm
theorem idx_some{α:Type}{l:List α}{i:Int}(h:(idx l i).isSome=true):∃x,idx l i=some x:=Option.isSome_iff_exists.1 h
end Go.Proofs.Dev
namespace Go.Proofs.Dev
open Go Go.Tm
def minS(l:GLaw) (x:GScope):List GField×Bool:=if h:0≤x.MemberScope∧x.MemberScope<(l.Scopes.length:Int)then((l.Scopes[x.MemberScope.toNat]'(by omega)).Inputs,true)else([],false)
theorem memberInputs_p{l:GLaw}{i:Nat}(hi:i<l.Scopes.length):household_memberInputs l (i:Int)=some (minS l l.Scopes[i]):=by
 unfold household_memberInputs minS;rw[idxN hi];simp only[nn,orO];generalize l.Scopes[i]=x;by_cases h:0≤x.MemberScope∧x.MemberScope<(l.Scopes.length:Int)
 ·have hc:decide (x.MemberScope<0∨(l.Scopes.length:Int)≤x.MemberScope)=false:=by rw[decide_eq_false_iff_not];omega
  rw[hc,dif_pos h,idxI h.1 h.2];rfl
 ·have hc:decide (x.MemberScope<0∨(l.Scopes.length:Int)≤x.MemberScope)=true:=by rw[decide_eq_true_eq];omega
  rw[hc,dif_neg h];rfl
theorem memberInputs_r{l:GLaw}{i:Nat}(hi:i<l.Scopes.length):ref35_memberInputs l (i:Int)=some (minS l l.Scopes[i]):=by
 unfold ref35_memberInputs minS;rw[idxN hi];simp only[nn,orO];generalize l.Scopes[i]=x;by_cases h:0≤x.MemberScope∧x.MemberScope<(l.Scopes.length:Int)
 ·have hc:decide (x.MemberScope<0∨(l.Scopes.length:Int)≤x.MemberScope)=false:=by rw[decide_eq_false_iff_not];omega
  rw[hc,dif_pos h,idxI h.1 h.2];rfl
 ·have hc:decide (x.MemberScope<0∨(l.Scopes.length:Int)≤x.MemberScope)=true:=by rw[decide_eq_true_eq];omega
  rw[hc,dif_neg h];rfl
def facT(l:GLaw) (x:GScope) (f:GFact):Option GType:=
 if f.Input = -1 then some ⟨1,0⟩else if f.Input<0 then none else((if f.Member = -1 then x.Inputs else(minS l x).1)[f.Input.toNat]?).map (·.Type_)
noncomputable def facE(l:GLaw) (x:GScope) (members:Int) (f:GFact):Int:=
 if members≤f.Member then 6 else
 match facT l x f with
 |none=>6
 |some t=>if¬(f.Value.Kind=t.Kind∧f.Value.Enum=t.Enum)then 8 else if inB f.Value.N t l.Enums=false then 3 else 0
noncomputable def hhF(l:GLaw) (x:GScope) (h:GHousehold) (i:Nat):Option (Int×Int):=
 match h.Facts[i]? with
 |some f=>if¬facE l x h.Members f=0 then some ((i:Int),facE l x h.Members f)else none
 |none=>none
theorem inO{n lo hi:Int}{α:Type}{k:Bool→Option α}:(qn (α:=Bool) (if¬n<lo then some (decide (hi<n))else some true) k)=k (!(decide (lo≤n)&&decide (n≤hi))):=by
 by_cases h1:n<lo
 ·rw[if_neg (by omega),nn];congr 1;simp;omega
 ·rw[if_pos h1,nn];congr 1;by_cases h2:hi<n
  ·have e2:decide (n≤hi)=false:=by rw[decide_eq_false_iff_not];omega
   rw[e2];simp[h2]
  ·have e1:decide (lo≤n)=true:=by simp;omega
   have e2:decide (n≤hi)=true:=by simp;omega
   rw[e1,e2];simp<;>omega
theorem typeO{a b c d:Int}{α:Type}{k:Bool→Option α}:(qn (α:=Bool) (if a=b then some (c !=d)else some true) k)=k (decide (¬(a=b∧c=d))):=by
 by_cases h1:a=b
 ·rw[if_pos h1,nn];congr 1;by_cases h2:c=d<;>simp[h1,h2]
 ·rw[if_neg h1,nn];congr 1;simp[h1]
theorem fac_p{l:GLaw}{h:GHousehold}{i:Nat}(hi:i<l.Scopes.length) (hsc:h.Scope=(i:Int)) (hl:h.Facts.length≤128):loopO (household_Validate_L1 l h (minS l l.Scopes[i])) 0=some (outR () (ff (hhF l l.Scopes[i] h) h.Facts.length)):=
 loopF (fun j=>(j:Int)) _ h.Facts.length () (fun j hj _=>by
  unfold household_Validate_L1 hhF;rw[if_pos (by omega),idxN hj,pn hj,hsc,idxN hi];simp only[nn];generalize h.Facts[j]=f;unfold facE;by_cases h1:h.Members≤f.Member
  ·rw[if_pos h1,if_pos h1,if_pos (by decide)];rfl
  rw[if_neg h1,if_neg h1];have hin:(if f.Member=(-1)then some l.Scopes[i].Inputs else some (minS l l.Scopes[i]).1)=some (if f.Member = -1 then l.Scopes[i].Inputs else(minS l l.Scopes[i]).1):=by split<;>rfl
  rw[hin,nn];unfold facT;generalize (if f.Member = -1 then l.Scopes[i].Inputs else(minS l l.Scopes[i]).1)=inp;have fin:∀t:GType,(qn (α:=Bool) (if f.Value.Kind=t.Kind then some (f.Value.Enum !=t.Enum)else some true) fun j28=>if j28=true then some (Ex.ret (((j:Nat):Int),(8:Int)):Ex Int Unit (Int×Int))else(value_Bounds (GType.mk t.Kind t.Enum) l.Enums).bind fun x30=>qn (α:=Bool) (if¬f.Value.N<x30.1 then some (decide (x30.2<f.Value.N))else some true) fun j32=>if j32=true then some (Ex.ret (((j:Nat):Int),3))else some (Ex.go (wrapF .i64 ((j:Int)+1)))) =
   some (goR (((j+1:Nat):Int)) (if¬(if¬(f.Value.Kind=t.Kind∧f.Value.Enum=t.Enum)then(8:Int)else if inB f.Value.N t l.Enums=false then 3 else 0)=0 then some ((j:Int),(if¬(f.Value.Kind=t.Kind∧f.Value.Enum=t.Enum)then(8:Int)else if inB f.Value.N t l.Enums=false then 3 else 0))else none)):=by
   intro t;rw[typeO,wsucc (by omega)];by_cases h2:f.Value.Kind=t.Kind∧f.Value.Enum=t.Enum
   ·rw[decide_eq_false (p:=¬(f.Value.Kind=t.Kind∧f.Value.Enum=t.Enum)) (fun h=>h h2),if_neg (by simp),value_Bounds_s,nn,inO];simp only[h2,not_true,and_self,if_false];unfold inB;by_cases h3:(decide ((bnd t l.Enums).1≤f.Value.N)&&decide (f.Value.N≤(bnd t l.Enums).2))=true
    ·rw[h3];simp[goR]
    ·rw[Bool.eq_false_iff.2 h3];simp[goR]
   ·rw[decide_eq_true h2,if_pos rfl,if_pos h2,if_pos (by decide)];rfl
  by_cases h2:f.Input = -1
  ·rw[if_neg (ko.2 h2),if_pos h2,nn];dsimp only;exact fin ⟨1,0⟩
  ·rw[if_pos h2,if_neg h2,orO];by_cases h3:f.Input<0∨(inp.length:Int)≤f.Input
   ·rw[decide_eq_true h3,if_pos rfl,nn];dsimp only;have:(if f.Input<0 then none else(inp[f.Input.toNat]?).map (·.Type_))=none:=by
     by_cases h4:f.Input<0
     ·rw[if_pos h4]
     ·rw[if_neg h4,Rn (by omega)];rfl
    rw[this];dsimp only;rw[if_pos (by decide)];rfl
   ·rw[decide_eq_false h3,if_neg (by simp),idxI (by omega) (by omega),nn,nn];dsimp only;have:(if f.Input<0 then none else(inp[f.Input.toNat]?).map (·.Type_))=some (inp[f.Input.toNat]'(by omega)).Type_:=by
     rw[if_neg (by omega),pn (by omega)];rfl
    rw[this];exact fin _) (fun _=>by unfold household_Validate_L1;simp)
theorem fac_r{l:GLaw}{h:GHousehold}{i:Nat}(hi:i<l.Scopes.length) (hsc:h.Scope=(i:Int)) (hl:h.Facts.length≤128) (hm:∀f∈h.Facts,-1≤f.Member):loopO (ref35_Validate_L1 l h) 0=some (outR () (ff (hhF l l.Scopes[i] h) h.Facts.length)):=
 loopF (fun j=>(j:Int)) _ h.Facts.length () (fun j hj _=>by
  have hmf:=hm _ (On hj);have hE:ref35_factError l h h.Facts[j]=some (facE l l.Scopes[i] h.Members h.Facts[j]):=by
   unfold ref35_factError facE;rw[hsc,idxN hi,memberInputs_r hi];generalize h.Facts[j]=f at hmf;simp only[nn];by_cases h1:h.Members≤f.Member
   ·rw[if_pos h1,if_pos h1]
   rw[if_neg h1,if_neg h1];have hin:(if 0≤f.Member then some (minS l l.Scopes[i]).1 else some l.Scopes[i].Inputs)=some (if f.Member = -1 then l.Scopes[i].Inputs else(minS l l.Scopes[i]).1):=by
    by_cases h:f.Member = -1
    ·rw[if_neg (by omega),if_pos h]
    ·rw[if_pos (by omega),if_neg h]
   rw[hin,nn];unfold facT;generalize (if f.Member = -1 then l.Scopes[i].Inputs else(minS l l.Scopes[i]).1)=inp;have fin:∀t:GType,((ref09_Type f.Value).bind fun x13=>if¬(x13.Kind=t.Kind∧x13.Enum=t.Enum)then some 8 else(ref09_In f.Value.N (GType.mk t.Kind t.Enum) l.Enums).bind fun x15=>if x15=false then some 3 else some 0)=some (if¬(f.Value.Kind=t.Kind∧f.Value.Enum=t.Enum)then(8:Int)else if inB f.Value.N t l.Enums=false then 3 else 0):=by
    intro t;unfold ref09_Type;rw[nn];dsimp only;by_cases h2:f.Value.Kind=t.Kind∧f.Value.Enum=t.Enum
    ·rw[if_neg (ko.2 h2),if_neg (ko.2 h2),ref09_In_s,nn];cases inB f.Value.N t l.Enums<;>rfl
    ·rw[if_pos h2,if_pos h2]
   by_cases h2:f.Input = -1
   ·rw[if_neg (ko.2 h2),if_pos h2,nn];dsimp only;exact fin ⟨1,0⟩
   ·rw[if_pos h2,if_neg h2,orO];by_cases h3:f.Input<0∨(inp.length:Int)≤f.Input
    ·rw[decide_eq_true h3,if_pos rfl,nn];dsimp only;have:(if f.Input<0 then none else(inp[f.Input.toNat]?).map (·.Type_))=none:=by
      by_cases h4:f.Input<0
      ·rw[if_pos h4]
      ·rw[if_neg h4,Rn (by omega)];rfl
     rw[this]
    ·rw[decide_eq_false h3,if_neg (by simp),idxI (by omega) (by omega),nn,nn];dsimp only;have:(if f.Input<0 then none else(inp[f.Input.toNat]?).map (·.Type_))=some (inp[f.Input.toNat]'(by omega)).Type_:=by
      rw[if_neg (by omega),pn (by omega)];rfl
     rw[this];exact fin _
  unfold ref35_Validate_L1 hhF;rw[if_pos (by omega),idxN hj,nn,hE,nn,wsucc (by omega),pn hj];dsimp only;split<;>rfl) (fun _=>by unfold ref35_Validate_L1;simp)
noncomputable def hhV(l:GLaw) (h:GHousehold):Int×Int:=
 match l.Scopes[h.Scope.toNat]? with
 |none=>(-1,6)
 |some x=>if h.Scope<0 then(-1,6)else if h.Id<0∨h.Members<0∨8<h.Members∨(h.Members≠0∧(minS l x).2=false)then(-1,3)else
  if¬(factsV h.Facts).2=0 then factsV h.Facts else(ff (hhF l x h) h.Facts.length).getD (0,0)
theorem nest4{a b c d:Prop} [Decidable a] [Decidable b] [Decidable c] [Decidable d] {m:Bool}{α:Type}{k:Bool→Option α}:(qn (α:=Bool) (if¬a then if¬b then if¬c then if¬d then some (!m)else some false else some true else some true else some true) k)=k (decide (a∨b∨c∨(¬d∧m=false))):=by
 by_cases a<;>by_cases b<;>by_cases c<;>by_cases d<;>cases m<;>simp[*]
theorem household_Validate_s(l:GLaw) (h:GHousehold) (hl:l.Scopes.length≤1048576):household_Validate l h=some (hhV l h):=by
 unfold household_Validate hhV;rw[orO];by_cases hs:h.Scope<0∨(l.Scopes.length:Int)≤h.Scope
 ·rw[if_pos (by simpa using hs)];rcases hs with hs|hs
  ·cases l.Scopes[h.Scope.toNat]? with
   |none=>rfl
   |some x=>dsimp only;rw[if_pos hs]
  ·rw[Rn (by omega)]
 rw[if_neg (by simpa using hs)];obtain⟨i,hi⟩:=Kr (show 0≤h.Scope by omega);have hil:i<l.Scopes.length:=by omega
 rw[hi,memberInputs_p hil,nn,Zp,pn hil];dsimp only;rw[nest4,if_neg (show¬((i:Int)<0) by omega)];by_cases hb:h.Id<0∨h.Members<0∨8<h.Members∨(¬h.Members=0∧(minS l l.Scopes[i]).2=false)
 ·rw[if_pos (by simpa using hb),if_pos hb]
 rw[if_neg (by simpa using hb),if_neg hb,facts_Validate_s,nn];by_cases hf:(factsV h.Facts).2=0
 case neg=>rw[if_pos hf,if_pos hf]
 rw[if_neg (ko.2 hf),if_neg (ko.2 hf),fac_p hil hi (factsOk_of hf).len,nn];cases ff (hhF l l.Scopes[i] h) h.Facts.length<;>rfl
theorem chk_mem{f:GFact}(h:chkS f=0):¬bad3 f∧¬bad8 f:=by
 unfold chkS at h;split at h
 ·simp at h
 split at h
 ·simp at h
 ·constructor<;>assumption
theorem ref35_Validate_s(l:GLaw) (h:GHousehold) (hl:l.Scopes.length≤1048576) (hfl:h.Facts.length≤1048576):ref35_Validate l h=some (hhV l h):=by
 unfold ref35_Validate hhV;rw[orO];by_cases hs:h.Scope<0∨(l.Scopes.length:Int)≤h.Scope
 ·rw[if_pos (by simpa using hs)];rcases hs with hs|hs
  ·cases l.Scopes[h.Scope.toNat]? with
   |none=>rfl
   |some x=>dsimp only;rw[if_pos hs]
  ·rw[Rn (by omega)]
 rw[if_neg (by simpa using hs)];obtain⟨i,hi⟩:=Kr (show 0≤h.Scope by omega);have hil:i<l.Scopes.length:=by omega
 rw[hi,memberInputs_r hil,nn,Zp,pn hil];dsimp only;rw[nest4,if_neg (show¬((i:Int)<0) by omega)];by_cases hb:h.Id<0∨h.Members<0∨8<h.Members∨(¬h.Members=0∧(minS l l.Scopes[i]).2=false)
 ·rw[if_pos (by simpa using hb),if_pos hb]
 rw[if_neg (by simpa using hb),if_neg hb,ref34_Validate_s hfl,nn];by_cases hf:(factsV h.Facts).2=0
 case neg=>rw[if_pos hf,if_pos hf]
 have hok:=factsOk_of hf;rw[if_neg (ko.2 hf),if_neg (ko.2 hf),fac_r hil hi hok.len (fun f hff=>by
  have:=(chk_mem (hok.c f hff)).1;unfold bad3 at this;omega),nn]
 cases ff (hhF l l.Scopes[i] h) h.Facts.length<;>rfl
end Go.Proofs.Dev
namespace Go.Proofs.Dev
open Go Go.Tm
theorem wrap_i64(n:Int):wrapF .i64 n=(n+9223372036854775808) % 18446744073709551616-9223372036854775808:=by
 show wrapS n 9223372036854775808 18446744073709551616=_;unfold wrapS;by_cases h:n % 18446744073709551616≥9223372036854775808
 ·rw[decide_eq_true h];show n % 18446744073709551616-18446744073709551616=_;omega
 ·rw[decide_eq_false h];show n % 18446744073709551616=_;omega
theorem wrap_add(a b:Int):wrapF .i64 (wrapF .i64 a+b)=wrapF .i64 (a+b):=by
 simp only[wrap_i64];omega
def sgP(p:GPosting):Int:=if p.Kind=1 then p.Cents else if p.Kind=2∨p.Kind=3 then wrapF .i64 (-p.Cents)else 0
theorem two3{k:Int}{α:Type}{f:Bool→Option α}:(qn (α:=Bool) (if k=2 then some true else some (k==3)) f)=f (decide (k=2∨k=3)):=by
 by_cases h:k=2
 ·rw[if_pos h,nn,decide_eq_true (.inl h)]
 ·rw[if_neg h,nn];congr 1;by_cases h3:k=3<;>simp[h,h3]
theorem ledger_amount_s(p:GPosting):ledger_amount p=some (sgP p):=by
 unfold ledger_amount sgP;simp only[two3,decide_eq_true_eq];split
 ·rfl
 ·split<;>rfl
theorem ref37_signed_s(p:GPosting):ref37_signed p=some (sgP p):=by
 unfold ref37_signed sgP;simp only[two3,decide_eq_true_eq];split
 ·rfl
 ·split
  ·rw[Int.zero_sub]
  ·rfl
def recL(m:Int) (l:List GPosting):Int:=l.foldl (fun s p=>if p.Month=m then wrapF .i64 (s+sgP p)else s) 0
def waiL(m:Int) (l:List GPosting):Int:=l.foldl (fun s p=>if p.Month=m∧p.Kind=4 then wrapF .i64 (s+p.Cents)else s) 0
theorem ref37_Received_s{l:List GPosting}(hl:l.length≤1048576) (m:Int):ref37_Received l m=some (recL m l):=by
 unfold ref37_Received;have:loopO (ref37_Received_L1 l m) (0,0)=some (.inl (recL m l)):=by
  refine loopG (fun i=>(recL m (l.take i),(i:Int))) l.length _ (fun i hi=>?_) ?_ rfl
  ·unfold ref37_Received_L1;dsimp only;rw[if_pos (by omega),idxN hi,take_snoc hi];simp only[nn,ref37_signed_s];unfold recL;rw[aq,wsucc (by omega)];by_cases h:l[i].Month=m<;>simp[h]
  ·unfold ref37_Received_L1;dsimp only;rw[if_neg (by omega),Ho]
 rw[this];rfl
theorem ref37_Waived_s{l:List GPosting}(hl:l.length≤1048576) (m:Int):ref37_Waived l m=some (waiL m l):=by
 unfold ref37_Waived;have:loopO (ref37_Waived_L1 l m) (0,0)=some (.inl (waiL m l)):=by
  refine loopG (fun i=>(waiL m (l.take i),(i:Int))) l.length _ (fun i hi=>?_) ?_ rfl
  ·unfold ref37_Waived_L1;dsimp only;rw[if_pos (by omega),idxN hi,take_snoc hi];unfold waiL;rw[aq];simp only[nn];rw[wsucc (by omega)];by_cases h:l[i].Month=m<;>by_cases h2:l[i].Kind=4<;>simp[h,h2]
  ·unfold ref37_Waived_L1;dsimp only;rw[if_neg (by omega),Ho]
 rw[this];rfl
theorem fold_wrap{α:Type}(c:α→Bool) (v:α→Int):∀(l:List α) (s:Int),l.foldl (fun s p=>if c p=true then wrapF .i64 (s+v p)else s) (wrapF .i64 s)=wrapF .i64 (s+(l.map fun p=>if c p=true then v p else 0).sum)
 |[],s=>by simp
 |p::l,s=>by
  simp only[bp,Vn,lr];by_cases h:c p=true
  ·simp only[h,if_true];rw[wrap_add,fold_wrap c v l];congr 1;omega
  ·simp only[h,if_false,tn];rw[fold_wrap c v l];congr 1;omega
theorem amtP_eq(p:GPosting):amtP p=sgP p:=by
 unfold amtP sgP;by_cases h1:p.Kind=1
 ·rw[if_pos h1,if_pos h1]
 ·rw[if_neg h1,if_neg h1];by_cases h2:p.Kind=2
  ·rw[if_pos h2,if_pos (.inl h2)]
  ·rw[if_neg h2];by_cases h3:p.Kind=3
   ·rw[if_pos h3,if_pos (.inr h3)]
   ·rw[if_neg h3,if_neg (by omega)]
theorem sum_part(m:Int):∀l:List GPosting,((l.filter fun p=>p.Kind==1).map fun p=>if(p.Month==m)=true then amtP p else 0).sum+((l.filter fun p=>p.Kind==2).map fun p=>if(p.Month==m)=true then amtP p else 0).sum+((l.filter fun p=>p.Kind==3).map fun p=>if(p.Month==m)=true then amtP p else 0).sum=(l.map fun p=>if(p.Month==m)=true then sgP p else 0).sum
 |[]=>rfl
 |p::l=>by
  have ih:=sum_part m l;have h0:¬p.Kind=1→¬p.Kind=2→¬p.Kind=3→sgP p=0:=fun a b c=>by unfold sgP;rw[if_neg a,if_neg (by omega)]
  simp only[List.filter_cons,Vn,lr,beq_iff_eq,amtP_eq]at ih⊢;by_cases h1:p.Kind=1
  ·simp only[h1,if_true,Hn,if_false,Vn,lr];omega
  by_cases h2:p.Kind=2
  ·simp only[h2,if_true,Hn,if_false,Vn,lr];omega
  by_cases h3:p.Kind=3
  ·simp only[h3,if_true,Hn,if_false,Vn,lr];omega
  simp only[h1,h2,h3,if_false,h0 h1 h2 h3,ite_self];omega
theorem w0:wrapF .i64 0=0:=by decide
theorem recK_eq(m:Int) (l:List GPosting):recK m l [1,2,3]=recL m l:=by
 have h1:recL m l=wrapF .i64 (0+(l.map fun p=>if(p.Month==m)=true then sgP p else 0).sum):=by
  rw[←fold_wrap (fun p=>p.Month==m) sgP l 0,w0];unfold recL;simp only[beq_iff_eq]
 unfold recK;simp only[bp,List.foldl_nil];have e:∀k s,(l.filter fun p=>p.Kind==k).foldl (fun s p=>if(p.Month==m)=true then wrapF .i64 (s+amtP p)else s) (wrapF .i64 s)=_:=fun k s=>fold_wrap (fun p:GPosting=>p.Month==m) amtP _ s;rw[←w0,e,e,e,h1,←sum_part m l];congr 1;omega
theorem ledger_Received_s{l:List GPosting}(hl:l.length≤1048576) (m:Int):ledger_Received l m=some (recL m l):=by
 unfold ledger_Received;rw[if_pos (by omega),recK_eq]
theorem ledger_Waived_s{l:List GPosting}(hl:l.length≤1048576) (m:Int):ledger_Waived l m=some (waiL m l):=by
 unfold ledger_Waived;rw[if_pos (by omega),List.foldl_filter];unfold waiL;congr 2;funext s p;by_cases h:p.Month=m<;>by_cases h2:p.Kind=4<;>simp[h,h2]
theorem mlk_mptG{β:Type}{k:Int}{x:β}{q:Int}:∀{l:List (Int×β)},mlk (mpt k x l) q=if q=k then some x else mlk l q
 |[]=>rfl
 |(a,b)::l=>by
  unfold mpt;split
  ·rename_i h;subst h;simp only[mlk];split<;>rfl
  ·rename_i h;simp only[mlk,mlk_mptG (l:=l)];by_cases h1:q=k
   ·rw[if_pos h1,if_pos h1,if_neg (by omega)]
   ·rw[if_neg h1,if_neg h1]
theorem recL_snoc{m:Int}{l:List GPosting}{p:GPosting}:recL m (l++[p])=if p.Month=m then wrapF .i64 (recL m l+sgP p)else recL m l:=by
 unfold recL;rw[aq];rfl
theorem ledger_Validate_both{l:List GPosting}:∃p,ledger_Validate l=some p∧ref37_Validate l=some p:=by
 unfold ledger_Validate ref37_Validate;by_cases hl:4096<(l.length:Int)
 ·rw[if_pos hl,if_pos hl];exact⟨_,rfl,rfl⟩
 rw[if_neg hl,if_neg hl];have hlp:=loopP (s1:=ledger_Validate_L1 l) (s2:=ref37_Validate_L1 l)
  (fun x y=>∃j:Nat,j≤l.length∧x.2=(j:Int)∧y=(j:Int)∧∀q,(mlk x.1 q).getD 0=recL q (l.take j)) (fun x=>(l.length-x.2).toNat) (fun _ _=>True) (fun x y=>x=y) (by
   rintro⟨a,b⟩ y ⟨j,j1,j2,j3,j4⟩;dsimp only at j2 j4;subst j2;subst j3;unfold ledger_Validate_L1 ref37_Validate_L1;dsimp only;by_cases hj:j<l.length
   case neg=>
    rw[if_neg (by omega),if_neg (by omega)];exact .inr (.inl ⟨_,_,rfl,rfl,trivial⟩)
   rw[if_pos (by omega),if_pos (by omega),idxN hj];simp only[nn];have hc1:(qn (α:=Bool) (qn (α:=Bool) (if¬l[j].Date<0 then some (decide (109572<l[j].Date))else some true) fun j7=>if j7=true then some true else qn (α:=Bool) (if¬l[j].Month<0 then some (decide (3599<l[j].Month))else some true) fun j10=>if j10=true then some true else if¬l[j].Cents<1 then some (decide (1000000000000000<l[j].Cents))else some true) fun b=>some b)=some (decide (l[j].Date<0∨109572<l[j].Date∨l[j].Month<0∨3599<l[j].Month∨l[j].Cents<1∨1000000000000000<l[j].Cents)):=by
    by_cases g1:l[j].Date<0<;>by_cases g2:109572<l[j].Date<;>by_cases g3:l[j].Month<0<;>by_cases g4:3599<l[j].Month<;>by_cases g5:l[j].Cents<1<;>simp[g1,g2,g3,g4,g5]
   have hc2:(if¬l[j].Date<0 then if¬109572<l[j].Date then if¬l[j].Month<0 then if¬3599<l[j].Month then if¬l[j].Cents<1 then some (decide (1000000000000000<l[j].Cents))else some true else some true else some true else some true else some true)=some (decide (l[j].Date<0∨109572<l[j].Date∨l[j].Month<0∨3599<l[j].Month∨l[j].Cents<1∨1000000000000000<l[j].Cents)):=by
    by_cases g1:l[j].Date<0<;>by_cases g2:109572<l[j].Date<;>by_cases g3:l[j].Month<0<;>by_cases g4:3599<l[j].Month<;>by_cases g5:l[j].Cents<1<;>simp[g1,g2,g3,g4,g5]
   have bi:∀o:Option Bool,(qn o fun b=>some b)=o:=fun o=>by cases o<;>rfl
   rw[bi]at hc1;rw[hc1,hc2];simp only[nn];by_cases g:l[j].Date<0∨109572<l[j].Date∨l[j].Month<0∨3599<l[j].Month∨l[j].Cents<1∨1000000000000000<l[j].Cents
   ·rw[decide_eq_true g,if_pos rfl,if_pos rfl];exact .inr (.inr ⟨_,_,rfl,rfl,rfl⟩)
   rw[decide_eq_false g];simp only[tn,if_false];obtain⟨k,hk⟩:∃k,(if¬l[j].Kind<1 then some (decide (4<l[j].Kind))else some true)=some k:=by split<;>exact⟨_,rfl⟩
   rw[hk];simp only[nn]
   cases k with
   |true=>exact .inr (.inr ⟨_,_,rfl,rfl,rfl⟩)
   |false=>
    simp only[tn,if_false];obtain⟨o,ho⟩:∃o,(if(0:Int)<(j:Int)then(idx l (wrapF .i64 ((j:Int)-1))).bind fun x16=>some (decide (l[j].Date<x16.Date))else some false)=some o:=by
     split
     ·rw[wid (by omega) (by omega),idxI (by omega) (by omega)];exact⟨_,rfl⟩
     ·exact⟨_,rfl⟩
    rw[ho];simp only[nn]
    cases o with
    |true=>exact .inr (.inr ⟨_,_,rfl,rfl,rfl⟩)
    |false=>
     simp only[tn,if_false];rw[ledger_amount_s,wsucc (by omega)];have hs:subh l ((j+1:Nat):Int)=some (l.take (j+1)):=by
      unfold subh;rw[if_pos ⟨by omega,by omega⟩];rfl
     rw[hs];simp only[nn];have hlt:(l.take (j+1)).length≤1048576:=by rw[No];omega
     rw[ref37_Received_s hlt];simp only[nn];have hv:wrapF .i64 ((mlk a l[j].Month).getD 0+sgP l[j])=recL l[j].Month (l.take (j+1)):=by
      rw[take_snoc hj,recL_snoc,if_pos rfl,j4]
     rw[hv,mlk_mptG,if_pos rfl,cp];by_cases h0:recL l[j].Month (l.take (j+1))<0
     ·rw[if_pos h0,if_pos h0];exact .inr (.inr ⟨_,_,rfl,rfl,rfl⟩)
     ·rw[if_neg h0,if_neg h0];refine .inl ⟨_,_,rfl,rfl,⟨j+1,by omega,rfl,rfl,fun q=>?_⟩,by dsimp only;omega⟩;dsimp only;rw[mlk_mptG];by_cases hq:q=l[j].Month
      ·rw[if_pos hq,hq,cp]
      ·rw[if_neg hq,j4,take_snoc hj,recL_snoc,if_neg (fun h=>hq h.symm)]) l.length (([]:List (Int×Int)),0) 0 (by dsimp only;omega) ⟨0,Nat.zero_le _,rfl,rfl,fun q=>rfl⟩
 rcases hlp with⟨x,y,g1,g2,-⟩|⟨x,y,g1,g2,rfl⟩
 ·rw[g1,g2];exact⟨_,rfl,rfl⟩
 ·rw[g1,g2];exact⟨_,rfl,rfl⟩
end Go.Proofs.Dev
namespace Go.Proofs.Dev
open Go Go.Tm
theorem ln{α ρ:Type}{l:List α}{q:α→Bool}{v:ρ}:ff (fun i=>if(l[i]?.any q)=true then some v else none) l.length=if l.any q=true then some v else none:=by
 have h:=ff_any (l:=l) (q:=q) (g:=fun _=>v)
 cases hf:ff (fun i=>if(l[i]?.any q)=true then some v else none) l.length with
 |none=>
  rw[hf]at h;rw[if_neg (by rw[←h];simp)]
 |some w=>
  rw[hf]at h;rw[if_pos (show l.any q=true from h.symm)];obtain⟨k,_,h2,_⟩:=ff_some.1 hf;split at h2
  ·exact h2.symm
  ·cases h2
theorem va{α ρ:Type}{l:List α}(hl:l.length≤1048576) (q:α→Bool) (v:ρ) {step:Int→Option (Ex Int Unit ρ)}
 (hs:∀i (h:i<l.length),step (i:Int)=some (if q l[i]=true then .ret v else .go (wrapF .i64 ((i:Int)+1)))) (he:step (l.length:Int)=some (.brk ())) :
 loopO step 0=some (if l.any q=true then .inr v else .inl ()):=by
 have:loopO step 0=some (outR () (ff (fun i=>if(l[i]?.any q)=true then some v else none) l.length)):=
  loopF (fun i=>(i:Int)) _ l.length () (fun i hi _=>by
   rw[hs i hi,pn hi,Option.any_some,wsucc (by omega)];by_cases h:q l[i]=true<;>simp[h,goR]) (fun _=>he)
 rw[this,ln];by_cases h:l.any q=true
 ·rw[if_pos h,if_pos h];rfl
 ·rw[if_neg h,if_neg h];rfl
def Zb(c:GPayConfig) (t:GAccount) (m:Int):Bool:=decide (m<c.FirstMonth∨t.LastMonth<m∨1000000000000000<recL m t.Postings∨1000000000000000<waiL m t.Postings)
theorem jd{l:List GPosting}(hl:l.length≤1048576):ledger_Months l=some (dsort (l.map (·.Month))):=by
 unfold ledger_Months;have:loopO (ledger_Months_L1 l) (([]:List Int),0)=some (.inl (l.map (·.Month))):=by
  refine loopG (fun i=>((l.take i).map (·.Month),(i:Int))) l.length _ (fun i hi=>?_) ?_ rfl
  ·have h2:(l.take i).length≤l.length:=by rw[No];omega
   unfold ledger_Months_L1;dsimp only;rw[if_pos (by omega),idxN hi,nn,appS (by simp;omega),nn,wsucc (by omega),take_snoc hi];simp only[Pp,Vn,cr]
  ·unfold ledger_Months_L1;dsimp only;rw[if_neg (by omega),Ho]
 rw[this,nn];exact sortc (by simp;omega)
theorem Ub{c:GPayConfig}{t:GAccount}(hl:t.Postings.length≤1048576) {L:List Int}(hL:L.length≤1048576):loopO (account_Validate_L3 c t L) 0=some (if L.any (Zb c t)=true then .inr 3 else .inl ()):=by
 refine va hL _ _ (fun i hi=>?_) ?_
 ·unfold account_Validate_L3;rw[if_pos (by omega),idxN hi];simp only[nn,ledger_Received_s hl,ledger_Waived_s hl];generalize L[i]=m;unfold Zb;by_cases g1:m<c.FirstMonth
  ·simp[g1]
  by_cases g2:t.LastMonth<m
  ·simp[g1,g2]
  by_cases g3:1000000000000000<recL m t.Postings
  ·simp[g1,g2,g3]
  by_cases g4:1000000000000000<waiL m t.Postings<;>simp[g1,g2,g3,g4]
 ·unfold account_Validate_L3;rw[if_neg (by omega)]
theorem fc{c:GPayConfig}{t:GAccount}(hl:t.Postings.length≤1048576):loopO (ref43_Validate_L3 c t) 0=some (if t.Postings.any (fun p=>Zb c t p.Month)=true then .inr 3 else .inl ()):=by
 refine va hl _ _ (fun i hi=>?_) ?_
 ·unfold ref43_Validate_L3;rw[if_pos (by omega),idxN hi];simp only[nn,ref37_Received_s hl,ref37_Waived_s hl];generalize t.Postings[i].Month=m;unfold Zb;by_cases g1:m<c.FirstMonth
  ·simp[g1]
  by_cases g2:t.LastMonth<m
  ·simp[g1,g2]
  by_cases g3:1000000000000000<recL m t.Postings
  ·simp[g1,g2,g3]
  by_cases g4:1000000000000000<waiL m t.Postings<;>simp[g1,g2,g3,g4]
 ·unfold ref43_Validate_L3;rw[if_neg (by omega)]
theorem Xb{c:GPayConfig}{t:GAccount}:(dsort (t.Postings.map (·.Month))).any (Zb c t)=t.Postings.any fun p=>Zb c t p.Month:=by
 rw[Bool.eq_iff_iff,kq,kq];constructor
 ·rintro⟨m,hm,hb⟩;obtain⟨p,hp,rfl⟩:=Yp.1 (((dsort_inv _).2.2 _).1 hm);exact⟨p,hp,hb⟩
 ·rintro⟨p,hp,hb⟩;exact⟨p.Month,((dsort_inv _).2.2 _).2 (Yp.2 ⟨p,hp,rfl⟩),hb⟩
theorem Bc(a:GAppeal):appeal_Valid a=ref41_Valid a:=by
 unfold appeal_Valid ref41_Valid;have hm:appeal_validMonths a.From a.To=ref41_months a.From a.To:=rfl;rw[hm];obtain⟨b,hb⟩:∃b,ref41_months a.From a.To=some b:=by
  unfold ref41_months;by_cases h1:0≤a.From<;>by_cases h2:a.From<a.To<;>by_cases h3:a.To≤3600<;>simp[h1,h2,h3]
 rw[hb];simp only[nn];by_cases h1:a.Id<0
 ·simp[h1]
 cases b with
 |false=>simp[h1]
 |true=>
  by_cases h2:a.Filed<0
  ·simp[h1,h2]
  by_cases h3:a.Deadline<a.Filed
  ·simp[h1,h2,h3]
  by_cases h4:109572<a.Deadline
  ·simp[h1,h2,h3,h4]
  by_cases h5:a.State<1
  ·simp[h1,h2,h3,h4,h5,show¬1≤a.State by omega]
  by_cases h6:6<a.State
  ·simp[h1,h2,h3,h4,h5,h6,show 1≤a.State by omega,show¬a.State≤6 by omega]
  simp[h1,h2,h3,h4,h5,h6,show 1≤a.State by omega,show a.State≤6 by omega]
theorem Yb(t:GAccount):account_Validate_L2 t=ref43_Validate_L2 t:=by
 funext s;unfold account_Validate_L2 ref43_Validate_L2;split
 ·cases idx t.Appeals s with
  |none=>rfl
  |some x=>
   simp only[nn,Bc]
 ·rfl
theorem cc(a:GAppeal):∃b,ref41_Valid a=some b:=by
 unfold ref41_Valid;obtain⟨b,hb⟩:∃b,ref41_months a.From a.To=some b:=by
  unfold ref41_months;by_cases h1:0≤a.From<;>by_cases h2:a.From<a.To<;>by_cases h3:a.To≤3600<;>simp[h1,h2,h3]
 rw[hb];obtain⟨x,hx⟩:∃x,(if¬a.Id<0 then(some b).bind fun x2=>if x2=true then if¬a.Filed<0 then if¬a.Deadline<a.Filed then some (decide (109572<a.Deadline))else some true else some true else some true else some true)=some x:=by
  split
  ·cases b
   ·exact⟨_,rfl⟩
   ·rw[nn,if_pos rfl];split
    ·split<;>exact⟨_,rfl⟩
    ·exact⟨_,rfl⟩
  ·exact⟨_,rfl⟩
 rw[hx,nn]
 cases x with
 |true=>exact⟨_,rfl⟩
 |false=>
  rw[if_neg (by simp)];obtain⟨y,hy⟩:∃y,(if 1≤a.State then if a.State≤6 then if 0≤a.Cents then if a.Cents≤1000000000000000 then if¬a.Cents=0 then some (a.State==3)else some true else some false else some false else some false else some false)=some y:=by
   split
   ·split
    ·split
     ·split
      ·split<;>exact⟨_,rfl⟩
      ·exact⟨_,rfl⟩
     ·exact⟨_,rfl⟩
    ·exact⟨_,rfl⟩
   ·exact⟨_,rfl⟩
  rw[hy];exact⟨_,rfl⟩
theorem Gb{t:GAccount}(h3:t.Appeals.length≤1048576):∃b,loopO (ref43_Validate_L2 t) 0=some b:=by
 refine⟨_,loopF (step:=ref43_Validate_L2 t) (x0:=0) (fun i=>(i:Int)) (fun i=>match t.Appeals[i]? with|some a=>if((ref41_Valid a).getD false&&a.Id==(i:Int))=true then none else some 13|none=>none) t.Appeals.length () (fun i hi _=>?_) (fun _=>?_)⟩
 ·obtain⟨b,hb⟩:=cc t.Appeals[i];unfold ref43_Validate_L2;rw[if_pos (by omega),idxN hi,pn hi];dsimp only;simp only[nn,hb,cp];rw[wsucc (by omega)];cases b
  ·rfl
  ·by_cases h:t.Appeals[i].Id=(i:Int)
   ·simp[h,goR]
   ·simp[h,goR]
 ·unfold ref43_Validate_L2;rw[if_neg (by omega)]
def Nb(t:GAccount):Bool:=(t.Household.Facts.any fun f=>decide (t.Date<f.Recorded)) || ((t.Postings.any fun p=>decide (t.Date<p.Date)) || t.Appeals.any fun a=>decide (t.Date<a.Filed))
theorem Nc{t:GAccount}(h1:t.Household.Facts.length≤1048576) (h2:t.Postings.length≤1048576) (h3:t.Appeals.length≤1048576):account_inTime t=some (!Nb t):=by
 unfold account_inTime Nb;rw[va h1 (fun f=>decide (t.Date<f.Recorded)) false (fun i hi=>by
  unfold account_inTime_L5;rw[if_pos (by omega),idxN hi,nn];by_cases g:t.Date<t.Household.Facts[i].Recorded<;>simp[g]) (by unfold account_inTime_L5;simp)]
 rw[va h2 (fun f=>decide (t.Date<f.Date)) false (fun i hi=>by
  unfold account_inTime_L4;rw[if_pos (by omega),idxN hi,nn];by_cases g:t.Date<t.Postings[i].Date<;>simp[g]) (by unfold account_inTime_L4;simp)]
 rw[va h3 (fun f=>decide (t.Date<f.Filed)) false (fun i hi=>by
  unfold account_inTime_L3;rw[if_pos (by omega),idxN hi,nn];by_cases g:t.Date<t.Appeals[i].Filed<;>simp[g]) (by unfold account_inTime_L3;simp)]
 simp only[nn];cases (t.Household.Facts.any fun f=>decide (t.Date<f.Recorded))<;>cases (t.Postings.any fun p=>decide (t.Date<p.Date))<;>cases (t.Appeals.any fun a=>decide (t.Date<a.Filed))<;>rfl
theorem Cf{t:GAccount}(h1:t.Household.Facts.length≤1048576) (h2:t.Postings.length≤1048576) (h3:t.Appeals.length≤1048576):ref43_late t=some (Nb t):=by
 unfold ref43_late Nb;rw[va h1 (fun f=>decide (t.Date<f.Recorded)) true (fun i hi=>by
  unfold ref43_late_L5;rw[if_pos (by omega),idxN hi,nn];by_cases g:t.Date<t.Household.Facts[i].Recorded<;>simp[g]) (by unfold ref43_late_L5;simp)]
 rw[va h2 (fun f=>decide (t.Date<f.Date)) true (fun i hi=>by
  unfold ref43_late_L4;rw[if_pos (by omega),idxN hi,nn];by_cases g:t.Date<t.Postings[i].Date<;>simp[g]) (by unfold ref43_late_L4;simp)]
 rw[va h3 (fun f=>decide (t.Date<f.Filed)) true (fun i hi=>by
  unfold ref43_late_L3;rw[if_pos (by omega),idxN hi,nn];by_cases g:t.Date<t.Appeals[i].Filed<;>simp[g]) (by unfold ref43_late_L3;simp)]
 simp only[nn];cases (t.Household.Facts.any fun f=>decide (t.Date<f.Recorded))<;>cases (t.Postings.any fun p=>decide (t.Date<p.Date))<;>cases (t.Appeals.any fun a=>decide (t.Date<a.Filed))<;>rfl
theorem Cc(c:GPayConfig) (t:GAccount):(qn (account_isDate t.Date) fun x5=>if x5=true then if¬t.LastMonth=(-1)then(account_payable c t.LastMonth).bind fun x8=>some (!x8)else some false else some true) =
 (if¬t.Date<0 then if¬109572<t.Date then if¬t.LastMonth=(-1)then if¬t.LastMonth<c.FirstMonth then(ref43_LastAllowed c).bind fun x9=>some (decide (x9<t.LastMonth))else some true else some false else some true else some true):=by
 unfold account_isDate account_payable ref43_LastAllowed;generalize wrapF .i64 (wrapF .i64 (c.FirstMonth+120)-1)=w;by_cases h1:t.Date<0
 ·simp[h1,show¬0≤t.Date by omega]
 by_cases h2:109572<t.Date
 ·simp[h1,h2,show 0≤t.Date by omega,show¬t.Date≤109572 by omega]
 have e1:0≤t.Date:=by omega
 have e2:t.Date≤109572:=by omega
 by_cases h3:t.LastMonth = -1
 ·simp[h1,h2,e1,e2,h3]
 by_cases h4:t.LastMonth<c.FirstMonth
 ·simp[h1,h2,e1,e2,h3,h4,show¬c.FirstMonth≤t.LastMonth by omega]
 have e4:c.FirstMonth≤t.LastMonth:=by omega
 by_cases h5:3599<w
 ·simp only[h1,h2,e1,e2,h3,h4,e4,h5,if_true,not_false_eq_true,nn,decide_true];rw[show min 3599 w=3599 by omega,←decide_not];congr 1;rw[decide_eq_decide];omega
 ·simp only[h1,h2,e1,e2,h3,h4,e4,h5,if_true,if_false,not_false_eq_true,nn,decide_true];rw[show min 3599 w=w by omega,←decide_not];congr 1;rw[decide_eq_decide];omega
theorem Ra{l:GLaw}(hl:LawOk l) {c:GPayConfig}(hc:c.Calendar.Holidays.length≤1048576) {t:GAccount}(h1:t.Household.Facts.length≤1048576) (h2:t.Postings.length≤1048576) (h3:t.Appeals.length≤1048576):∃n,account_Validate l c t=some n∧ref43_Validate l c t=some n:=by
 obtain⟨n,n1,n2⟩:=config_eq hl hc t.Household.Scope;obtain⟨p,p1,p2⟩:=ledger_Validate_both (l:=t.Postings);unfold account_Validate ref43_Validate;rw[n1,n2,household_Validate_s l t.Household hl.ns,ref35_Validate_s l t.Household hl.ns h1];simp only[nn];by_cases h0:n=0
 case neg=>rw[if_pos h0,if_pos h0];exact⟨_,rfl,rfl⟩
 rw[if_neg (ko.2 h0),if_neg (ko.2 h0)];by_cases hv:(hhV l t.Household).2=0
 case neg=>rw[if_pos hv,if_pos hv];exact⟨_,rfl,rfl⟩
 rw[if_neg (ko.2 hv),if_neg (ko.2 hv),Cc];obtain⟨b,hb⟩:∃b,(if¬t.Date<0 then if¬109572<t.Date then if¬t.LastMonth=(-1)then if¬t.LastMonth<c.FirstMonth then(ref43_LastAllowed c).bind fun x9=>some (decide (x9<t.LastMonth))else some true else some false else some true else some true)=some b:=by
  split
  ·split
   ·split
    ·split
     ·unfold ref43_LastAllowed;split<;>exact⟨_,rfl⟩
     ·exact⟨_,rfl⟩
    ·exact⟨_,rfl⟩
   ·exact⟨_,rfl⟩
  ·exact⟨_,rfl⟩
 rw[hb,nn,nn]
 cases b with
 |true=>exact⟨_,rfl,rfl⟩
 |false=>
  simp only[tn,if_false];rw[p1,p2];simp only[nn];by_cases hp:p.2=0
  case neg=>rw[if_pos hp,if_pos hp];exact⟨_,rfl,rfl⟩
  have hd:=dsort_len (t.Postings.map (·.Month));rw[List.length_map]at hd;rw[if_neg (ko.2 hp),if_neg (ko.2 hp),jd h2,nn,Ub h2 (by omega),fc h2,Xb,nn,nn];by_cases hm:(t.Postings.any fun p=>Zb c t p.Month)=true
  ·rw[if_pos hm];exact⟨_,rfl,rfl⟩
  rw[if_neg hm];dsimp only;by_cases ha:16<(t.Appeals.length:Int)
  ·rw[if_pos ha,if_pos ha];exact⟨_,rfl,rfl⟩
  rw[if_neg ha,if_neg ha,Yb,Nc h1 h2 h3,Cf h1 h2 h3];obtain⟨b,hb⟩:=Gb h3;rw[hb,nn,nn]
  cases b with
  |inr v=>exact⟨_,rfl,rfl⟩
  |inl _=>
   simp only[nn]
   cases Nb t with
   |true=>exact⟨_,rfl,rfl⟩
   |false=>exact⟨_,rfl,rfl⟩
theorem Qa(haw:law43_awake=some true) {l:GLaw}(hz:LawSz l) (ht:LawTy l) (c:GPayConfig) (t:GAccount):law43_AccountValidate l c t=some true:=by
 unfold law43_AccountValidate law43_small same_SmallConfig same_SmallAccount same_SmallHousehold;obtain⟨b,hb,hb2⟩:=same_SmallLaw_s l;rw[hb,haw]
 cases b with
 |false=>rfl
 |true=>
  have hs:=hb2 rfl;by_cases hc:(c.Calendar.Holidays.length:Int)≤70
  case neg=>simp[hc]
  by_cases hh:(t.Household.Facts.length:Int)≤40
  case neg=>simp[hc,hh]
  by_cases hp:(t.Postings.length:Int)≤200
  case neg=>simp[hc,hh,hp]
  by_cases ha:(t.Appeals.length:Int)≤20
  case neg=>simp[hc,hh,hp,ha]
  obtain⟨n,n1,n2⟩:=Ra (hs.ok ht) (c:=c) (by omega) (t:=t) (by omega) (by omega) (by omega);rw[n1,n2];simp[hc,hh,hp,ha]
end Go.Proofs.Dev
namespace Go.Proofs.Dev
open Go Go.Tm
noncomputable def ea(x7:List Int):((List Bool)×(List Int)×Int)→Option (Ex ((List Bool)×(List Int)×Int) ((List Bool)×(List Int)) Unit):=fun(s8,s9,s10)=>
 if s10<(x7.length:Int)then
  qn (α:=((List Bool)×(List Int))) (
   (idx x7 s10).bind fun x12=>
   (idx s8 x12).bind fun x13=>
   if x13=false then
    (put s8 x12 true).bind fun x15=>
    (app 8 s9 ([x12])).bind fun x16=>
    some (x15,x16)
   else
   some (s8,s9)) fun(j17,j18)=>
  some (Ex.go (j17,j18,(wrapF .i64 (s10+1))))
 else
 some (Ex.brk (s8,s9))
noncomputable def ca(t0:(List (List Int))):((List Bool)×(List Int))→Option (Ex ((List Bool)×(List Int)) (List Bool) Unit):=fun(s2,s3)=>
 if 0<(s3.length:Int)then
  (idx s3 0).bind fun x5=>
  (subl s3 1).bind fun x6=>
  (idx t0 x5).bind fun x7=>
  (loopO (ea x7) (s2,x6,0)).bind fun y=>match y with
  |.inr _=>none
  |.inl (b22,b23)=>
  some (Ex.go (b22,b23))
 else
 some (Ex.brk s2)
noncomputable def fa(b26:List Bool):((List Int)×Int)→Option (Ex ((List Int)×Int) (List Int) Unit):=fun(s27,s28)=>
 if s28<(b26.length:Int)then
  qn (α:=(List Int)) (
   (idx b26 s28).bind fun x30=>
   if x30=true then
    (app 8 s27 ([s28])).bind fun x32=>
    some x32
   else
   some s27) fun j33=>
  some (Ex.go (j33,(wrapF .i64 (s28+1))))
 else
 some (Ex.brk s27)
noncomputable def Ca(t0:(List (List Int))) (t1:Int):Option (List Int):=
 (mks 1 false (t0.length:Int) (t0.length:Int)).bind fun x1=>
 (loopO (ca t0) (x1,[t1])).bind fun y=>match y with
 |.inr _=>none
 |.inl b26=>
 (loopO (fa b26) (([]:List Int),0)).bind fun y=>match y with
 |.inr _=>none
 |.inl b36=>
 some b36
def visit(p:List Bool×List Int) (e:Int):List Bool×List Int:=if p.1[e.toNat]?=some true then p else(p.1.set e.toNat true,p.2++[e])
def Sn(s:List Bool) (b:Int):Prop:=s[b.toNat]?=some true
instance (s:List Bool) (b:Int):Decidable (Sn s b):=by unfold Sn;infer_instance
def cF(s:List Bool):Nat:=s.count false
theorem Jc:∀{s:List Bool}{i:Nat},s[i]?=some false→cF (s.set i true)+1=cF s
 |[],i,h=>by simp at h
 |b::s,0,h=>by simp at h;subst h;simp[cF]
 |b::s,i+1,h=>by
  have:=Jc (s:=s) (i:=i) (by simpa using h);unfold cF at this⊢;simp only[List.set_cons_succ,List.count_cons];omega
theorem Jf(s:List Bool):cF s≤s.length:=List.count_le_length
structure Ok (n:Nat) (p:List Bool×List Int):Prop where
 len:p.1.length=n
 q:∀x∈p.2,0≤x∧x<n
 m:p.2.length+cF p.1≤n+1
theorem Wb{n:Nat}{p:List Bool×List Int}{e:Int}(h:Ok n p) (h0:0≤e) (h1:e<n) :
 Ok n (visit p e)∧(visit p e).2.length+cF (visit p e).1=p.2.length+cF p.1∧(∀b,0≤b→(Sn (visit p e).1 b↔Sn p.1 b∨b=e))∧(∀x,x∈(visit p e).2↔x∈p.2∨(x=e∧¬Sn p.1 e)):=by
 unfold visit;split
 ·rename_i hs;refine⟨h,rfl,fun b hb=>⟨.inl,fun h=>?_⟩,fun x=>⟨.inl,fun h=>?_⟩⟩
  ·rcases h with h|rfl
   ·exact h
   ·exact hs
  ·rcases h with h|⟨rfl,h⟩
   ·exact h
   ·exact(h hs).elim
 ·rename_i hs;have hlt:e.toNat<p.1.length:=by rw[h.len];omega
  have hf:p.1[e.toNat]?=some false:=by
   rw[pn hlt]at hs⊢
   cases hb:p.1[e.toNat]with
   |true=>rw[hb]at hs;exact(hs rfl).elim
   |false=>rfl
  have hc:=Jc hf;have hm:=h.m;refine⟨⟨by simp[h.len],fun x hx=>?_,?_⟩,?_,fun b hb=>?_,fun x=>?_⟩
  ·rcases Fo.1 hx with hx|hx
   ·exact h.q x hx
   ·rw[Xo]at hx;subst hx;exact⟨h0,h1⟩
  ·simp only[uo,Np];omega
  ·simp only[uo,Np];omega
  ·unfold Sn;rw[List.getElem?_set];by_cases hbe:e.toNat=b.toNat
   ·rw[if_pos hbe,if_pos hlt];exact⟨fun _=>.inr (by omega),fun _=>rfl⟩
   ·rw[if_neg hbe];exact⟨.inl,fun h=>h.elim id fun h=>(hbe (by rw[h])).elim⟩
  ·rw[Fo,Xo];exact⟨fun h=>h.imp id fun h=>⟨h,hs⟩,fun h=>h.imp id fun h=>h.1⟩
theorem Fb{n:Nat}:∀{l:List Int}{p:List Bool×List Int},Ok n p→(∀e∈l,0≤e∧e<n)→
 Ok n (l.foldl visit p)∧(l.foldl visit p).2.length+cF (l.foldl visit p).1=p.2.length+cF p.1∧(∀b,0≤b→(Sn (l.foldl visit p).1 b↔Sn p.1 b∨b∈l))∧(∀x,x∈(l.foldl visit p).2↔x∈p.2∨(x∈l∧¬Sn p.1 x))
 |[],p,h,_=>by simp[h]
 |e::l,p,h,hl=>by
  obtain⟨h0,h1⟩:=hl e (by simp);obtain⟨a1,a2,a3,a4⟩:=Wb h h0 h1;obtain⟨b1,b2,b3,b4⟩:=Fb a1 (fun x hx=>hl x (by simp[hx])) (l:=l);simp only[bp];refine⟨b1,by omega,fun b hb=>?_,fun x=>?_⟩
  ·rw[b3 b hb,a3 b hb,oo];constructor
   ·rintro((h|h)|h)
    ·exact .inl h
    ·exact .inr (.inl h)
    ·exact .inr (.inr h)
   ·rintro(h|h|h)
    ·exact .inl (.inl h)
    ·exact .inl (.inr h)
    ·exact .inr h
  ·rw[b4 x,a4 x,oo];constructor
   ·rintro((h|⟨rfl,h⟩)|⟨h,h'⟩)
    ·exact .inl h
    ·exact .inr ⟨.inl rfl,h⟩
    ·exact .inr ⟨.inr h,fun hs=>h' ((a3 x (hl x (by simp[h])).1).2 (.inl hs))⟩
   ·rintro(h|⟨rfl|h,h'⟩)
    ·exact .inl (.inl h)
    ·exact .inl (.inr ⟨rfl,h'⟩)
    ·by_cases hxe:x=e
     ·subst hxe;exact .inl (.inr ⟨rfl,h'⟩)
     ·exact .inr ⟨h,fun hs=>((a3 x (hl x (by simp[h])).1).1 hs).elim h' hxe⟩
theorem Ac{i:Int}(h0:0≤i) (h1:i<9223372036854775807):wrapF .i64 (i+1)=i+1:=wrapI ⟨by omega,by omega⟩
theorem af{n:Nat}(hn:n≤1048576) {l:List Int}(hl:l.length≤1048576) (hle:∀e∈l,0≤e∧e<n):∀(k:Nat) {p:List Bool×List Int}{i:Nat},l.length-i=k→Ok n p→
 loopO (ea l) (p.1,p.2,(i:Int))=some (.inl ((l.drop i).foldl visit p))
 |0,p,i,hk,hp=>by
  rw[List.drop_eq_nil_of_le (by omega)];refine loopO_brk ?_;unfold ea;simp only;rw[if_neg (by omega)];rfl
 |k+1,p,i,hk,hp=>by
  have hi:i<l.length:=by omega
  obtain⟨h0,h1⟩:=hle l[i] (On hi);have hlt:l[i].toNat<p.1.length:=by rw[hp.len];omega
  rw[List.drop_eq_getElem_cons hi,bp];have hstep:ea l (p.1,p.2,(i:Int))=some (.go ((visit p l[i]).1,(visit p l[i]).2,((i+1:Nat):Int))):=by
   unfold ea;simp only;rw[if_pos (by omega)];have e1:idx l (i:Int)=some l[i]:=by simp[idx,hi]
   have e2:idx p.1 l[i]=some p.1[l[i].toNat]:=by simp[idx,h0,hlt]
   have e3:wrapF .i64 ((i:Int)+1)=((i+1:Nat):Int):=by rw[Ac (by omega) (by omega)];omega
   rw[e1,nn,e2,nn,e3];unfold visit;rw[pn hlt]
   cases hb:p.1[l[i].toNat]with
   |true=>simp
   |false=>
    have e4:put p.1 l[i] true=some (p.1.set l[i].toNat true):=by simp[put,h0,hlt]
    have e5:app 8 p.2 [l[i]]=some (p.2++[l[i]]):=by
     have hm:=hp.m;unfold app;rw[if_pos];simp only[Np];omega
    rw[if_pos rfl,e4,nn,e5];simp
  rw[loopO_go hstep];exact af hn hl hle k (i:=i+1) (by omega) (Wb hp h0 h1).1
def nf(g:List (List Int)) (a b:Int):Prop:=b=a∨ReachL g a b
structure Bfs (g:List (List Int)) (a:Int) (p:List Bool×List Int):Prop where
 ok:Ok g.length p
 sound:∀b,0≤b→Sn p.1 b→ReachL g a b
 qs:∀x∈p.2,nf g a x
 done:∀b,0≤b→(b=a∨Sn p.1 b)→b∈p.2∨∀l,g[b.toNat]?=some l→∀c∈l,Sn p.1 c
theorem Hf{g:List (List Int)}{a:Int}(hn:g.length≤1048576) (hg:∀l∈g,l.length≤1048576∧∀e∈l,0≤e∧e<g.length):∀(k:Nat) {p:List Bool×List Int},p.2.length+cF p.1=k→Bfs g a p→
 ∃s,loopO (ca g) p=some (.inl s)∧Bfs g a (s,[]):=by
 intro k
 induction k with
 |zero=>
  intro p hk hp;obtain⟨s,q⟩:=p;have:q=[]:=List.eq_nil_of_length_eq_zero (by dsimp only at hk;omega);subst this;exact⟨s,loopO_brk (by simp[ca]),hp⟩
 |succ k ih=>
  intro p hk hp;obtain⟨s,q⟩:=p
  cases q with
  |nil=>exact⟨s,loopO_brk (by simp[ca]),hp⟩
  |cons d q=>
   obtain⟨d0,d1⟩:=hp.ok.q d (by simp);have hd:d.toNat<g.length:=by omega
   obtain⟨gl,ge⟩:=hg g[d.toNat] (On hd);have hok:Ok g.length (s,q):=⟨hp.ok.len,fun x hx=>hp.ok.q x (by simp[hx]),by have:=hp.ok.m;simp only[jo]at this⊢;omega⟩;obtain⟨v1,v2,v3,v4⟩:=Fb hok ge (l:=g[d.toNat]);have hstep:ca g (s,d::q)=some (.go (g[d.toNat].foldl visit (s,q))):=by
    unfold ca;simp only;rw[if_pos (by simp)];have e1:idx (d::q) 0=some d:=rfl;have e2:subl (d::q) 1=some q:=by simp[subl]
    have e3:idx g d=some g[d.toNat]:=by simp[idx,d0,hd]
    have e4:=af hn gl ge _ (p:=(s,q)) (i:=0) rfl hok;simp only[List.drop_zero,Js]at e4;rw[e1,nn,e2,nn,e3,nn,e4];rfl
   rw[loopO_go hstep];have hk2:q.length+cF s=k:=by simp only[jo]at hk;omega
   refine ih (by rw[v2];exact hk2) ⟨v1,fun b hb hs=>?_,fun x hx=>?_,fun b hb hbs=>?_⟩
   ·rcases(v3 b hb).1 hs with h|h
    ·exact hp.sound b hb h
    ·rcases hp.qs d (by simp)with rfl|hr
     ·exact .one (pn hd) h
     ·exact .step hr (pn hd) h
   ·rcases(v4 x).1 hx with h|⟨h,-⟩
    ·exact hp.qs x (by simp[h])
    ·right;rcases hp.qs d (by simp)with rfl|hr
     ·exact .one (pn hd) h
     ·exact .step hr (pn hd) h
   ·have up:∀c,0≤c→Sn s c→Sn (g[d.toNat].foldl visit (s,q)).1 c:=fun c hc h=>(v3 c hc).2 (.inl h);by_cases hbd:b=d
    ·subst hbd;right;intro l hl c hc;rw[pn hd]at hl;injection hl with hl;subst hl;exact(v3 c (ge c hc).1).2 (.inr hc)
    ·have key:(b=a∨Sn s b)∨(b∈g[d.toNat]∧¬Sn s b):=by
      rcases hbs with h|h
      ·exact .inl (.inl h)
      ·rcases(v3 b hb).1 h with h|h
       ·exact .inl (.inr h)
       ·by_cases hs:Sn s b
        ·exact .inl (.inr hs)
        ·exact .inr ⟨h,hs⟩
     rcases key with h|h
     ·rcases hp.done b hb h with h|h
      ·rcases oo.1 h with h|h
       ·exact(hbd h).elim
       ·exact .inl ((v4 b).2 (.inl h))
      ·right;intro l hl c hc;have hm:l∈g:=Bo hl;exact up c ((hg l hm).2 c hc).1 (h l hl c hc)
     ·exact .inl ((v4 b).2 (.inr h))
theorem bf{s:List Bool}(hs:s.length≤1048576):∀(k:Nat) {i:Nat},s.length-i=k→i≤s.length→
 loopO (fa s) (((wo i).map fun(k:Nat)=>(k:Int)).filter (fun b=>decide (Sn s b)),(i:Int))=some (.inl (((wo s.length).map fun(k:Nat)=>(k:Int)).filter fun b=>decide (Sn s b)))
 |0,i,hk,hi=>by
  have:i=s.length:=by omega
  subst this;refine loopO_brk ?_;unfold fa;simp
 |k+1,i,hk,hi=>by
  have hlt:i<s.length:=by omega
  have hlen:(((wo i).map fun(k:Nat)=>(k:Int)).filter (fun b=>decide (Sn s b))).length≤i:=Nat.le_trans (List.length_filter_le _ _) (by simp);have hstep:fa s (((wo i).map fun(k:Nat)=>(k:Int)).filter (fun b=>decide (Sn s b)),(i:Int))=some (.go (((wo (i+1)).map fun(k:Nat)=>(k:Int)).filter (fun b=>decide (Sn s b)),((i+1:Nat):Int))):=by
   unfold fa;simp only;rw[if_pos (by omega)];have e1:idx s (i:Int)=some s[i]:=by simp[idx,hlt]
   have e3:wrapF .i64 ((i:Int)+1)=((i+1:Nat):Int):=by rw[Ac (by omega) (by omega)];omega
   rw[e1,nn,e3,List.range_succ,Pp,List.filter_append]
   cases hb:s[i]with
   |true=>
    have hsn:Sn s ((i:Nat):Int):=by unfold Sn;simp[hlt,hb]
    have e5:app 8 (((wo i).map fun(k:Nat)=>(k:Int)).filter (fun b=>decide (Sn s b))) [(i:Int)]=some (((wo i).map fun(k:Nat)=>(k:Int)).filter (fun b=>decide (Sn s b))++[(i:Int)]):=by
     unfold app;rw[if_pos];simp only[Np];omega
    rw[if_pos rfl,e5];simp[hsn]
   |false=>
    have hsn:¬Sn s ((i:Nat):Int):=by unfold Sn;simp[hlt,hb]
    rw[if_neg (by simp)];simp[hsn]
  rw[loopO_go hstep];exact bf hs k (i:=i+1) (by omega) (by omega)
theorem Ec{t0:List (List Int)}{t1:Int}{r:List Int}(h:deps_reached t0 t1=some r):Ca t0 t1=some r:=by
 unfold deps_reached at h;split at h
 ·rename_i hc;obtain⟨hn,hg,h0,h1⟩:=hc;obtain rfl:=eo h;unfold Ca;have e1:mks 1 false (t0.length:Int) (t0.length:Int)=some (yn t0.length false):=by
   unfold mks;rw[if_pos ⟨by omega,by omega,by omega,by simp;omega⟩];simp
  have hb:Bfs t0 t1 (yn t0.length false,[t1]):=by
   have hno:∀b,¬Sn (yn t0.length false) b:=fun b hb=>by
    unfold Sn at hb;rw[List.getElem?_replicate]at hb;split at hb<;>simp at hb
   refine⟨⟨by simp,fun x hx=>?_,?_⟩,fun b _ hs=>(hno b hs).elim,fun x hx=>?_,fun b _ hs=>?_⟩
   ·rw[Xo]at hx;subst hx;exact⟨h0,h1⟩
   ·have:=Jf (yn t0.length false);simp only[List.length_replicate,Np]at this⊢;omega
   ·rw[Xo]at hx;exact .inl hx
   ·rcases hs with rfl|hs
    ·exact .inl (by simp)
    ·exact(hno b hs).elim
  obtain⟨s,e2,hb⟩:=Hf hn hg _ rfl hb;have hlen:s.length=t0.length:=hb.ok.len;have e3:=bf (s:=s) (by omega) _ (i:=0) rfl (by omega);simp only[List.range_zero,cr,List.filter_nil,Js]at e3;rw[e1,nn,e2,nn];simp only;rw[e3,nn];simp only;rw[hlen];unfold reachL;congr 1;apply List.filter_congr;intro b hbm;obtain⟨k,-,rfl⟩:=Yp.1 hbm;have hfull:∀b,ReachL t0 t1 b→0≤b∧Sn s b:=by
   intro b hr
   induction hr with
   |one h hb2=>
    have hm:=Bo h;refine⟨((hg _ hm).2 _ hb2).1,?_⟩;rcases hb.done t1 h0 (.inl rfl)with h'|h'
    ·cases h'
    ·exact h' _ h _ hb2
   |step _ hl hc ih=>
    have hm:=Bo hl;refine⟨((hg _ hm).2 _ hc).1,?_⟩;rcases hb.done _ ih.1 (.inr ih.2)with h'|h'
    ·cases h'
    ·exact h' _ hl _ hc
  exact decide_eq_decide.2 ⟨fun h=>hb.sound _ (by omega) h,fun h=>(hfull _ h).2⟩
 ·cases h
end Go.Proofs.Dev
