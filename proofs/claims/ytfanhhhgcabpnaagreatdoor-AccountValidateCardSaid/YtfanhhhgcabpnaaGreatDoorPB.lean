/-
  The functions as plain partial functions, and plain lemmas about them: no condition.
-/
import Derived.Test.YtfanhhhgcabpnaaGreatDoorPA
open Bool renaming and_eq_true→xn,and_false→Ar,and_true→Nn,eq_iff_iff→Wq,false_and→Br,false_eq_true→tn,false_or→Oq,not_eq_true→Is,not_false→zp,not_true→np,or_eq_true→Vo,or_false→Xq,true_and→Kp,true_eq_false→Un,true_or→Gs
open ByteArray renaming empty→mr,mk→vn
open Classical renaming not_forall→Ur,not_imp→Es
open Int renaming natAbs_tdiv→Ls,reduceBEq→Gn,reduceEq→Hn,tdiv→Po,tdiv_nonneg→nr,tmod→Pq,tmod_nonneg→Ms,toNat_natCast→Zp
open List renaming any_eq_false→qq,any_eq_true→kq,append_assoc→Mo,cons_append→xo,eq_nil_of_length_eq_zero→Jn,filter_append→Bp,filter_nil→pr,foldl_append→aq,foldl_cons→bp,getElem?_eq_getElem→pn,getElem?_take_of_lt→sq,getElem_mem→On,getElem_of_mem→Co,getElem_take→uq,length_cons→jo,length_filter_le→Ko,length_map→Oo,length_take→No,map_append→Pp,mem_append→Fo,mem_cons→oo,mem_filter→wq,mem_map→Yp,mem_of_mem_drop→Fp,mem_of_mem_take→Tp,mem_singleton→Xo,nil_append→Jo,nodup_cons→ur,pairwise_cons→Dp,range→wo,replicate→yn,set_append_right→Qr,take_add_one→Wo,take_length→Ho
open Nat renaming add_zero→ep,le_refl→En,le_trans→Qp,sub_self→Vq
open Option renaming any_some→Ro,bind→qn,bind_some→nn,getD_some→cp,isNone_none→Ds,isSome_iff_exists→yq,map_none→Yq,map_some→lp
open Option.some renaming inj→eo,injEq→An
set_option linter.all false
namespace Go.Tm
variable {α β ρ σ:Type}
theorem wid{n:Int}(h1:-9223372036854775808≤n) (h2:n<9223372036854775808):wrapF .i64 n=n:=by
 unfold wrapF wrapS;simp only[cond_eq_ite,decide_eq_true_eq];split<;>omega
theorem wsucc{i:Nat}(h:i<4611686018427387904):wrapF .i64 ((i:Int)+1)=((i+1:Nat):Int):=by
 rw[wid (by omega) (by omega)];rfl
theorem idxN{l:List α}{i:Nat}(h:i<l.length):idx l (i:Int)=some l[i]:=by
 simp[idx,h]
theorem idxN?{l:List α}{i:Nat}:idx l (i:Int)=l[i]?:=by
 simp[idx]
theorem idxI{l:List α}{i:Int}(h1:0≤i) (h2:i<l.length):idx l i=some (l[i.toNat]'(by omega)):=by
 unfold idx;rw[if_pos h1,pn]
theorem sidxN{b:ByteArray}{i:Nat}(h:i<b.size):sidx b (i:Int)=some (b[i].toNat:Int):=by
 unfold sidx;rw[dif_pos ⟨by omega,by simpa using h⟩];simp
theorem subhN{l:List α}{i:Nat}(h:i≤l.length):subh l (i:Int)=some (l.take i):=by
 unfold subh;rw[if_pos ⟨by omega,by simpa using h⟩];simp
theorem sublN{l:List α}{i:Nat}(h:i≤l.length):subl l (i:Int)=some (l.drop i):=by
 unfold subl;rw[if_pos ⟨by omega,by simpa using h⟩];simp
theorem appS{b:Nat}{l r:List α}(h:(l.length+r.length)*b≤140737488355328):app b l r=some (l++r):=if_pos (by omega)
theorem putN{l:List α}{i:Nat}{x:α}(h:i<l.length):put l (i:Int) x=some (l.set i x):=by
 unfold put;rw[if_pos ⟨by omega,by simpa using h⟩];simp
theorem mksN{b n:Nat}{x:α}(h:n*b≤281474976710656) (h2:n≤4611686018427387904):mks b x (n:Int) (n:Int)=some (yn n x):=by
 unfold mks;rw[if_pos ⟨by omega,by omega,by omega,by simpa using h⟩];simp
def ff(f:Nat→Option ρ):Nat→Option ρ
 |0=>none
 |n+1=>match f 0 with|some v=>some v|none=>ff (fun i=>f (i+1)) n
theorem ff_congr{f g:Nat→Option ρ}:∀{n:Nat},(∀i,i<n→f i=g i)→ff f n=ff g n
 |0,_=>rfl
 |n+1,h=>by
  simp only[ff,h 0 (by omega)];rw[ff_congr (n:=n) (f:=fun i=>f (i+1)) (g:=fun i=>g (i+1)) fun i hi=>h (i+1) (by omega)]
theorem ff_none{f:Nat→Option ρ}:∀{n:Nat},ff f n=none↔∀i,i<n→f i=none
 |0=>by simp[ff]
 |n+1=>by
  simp only[ff];constructor
  ·intro h i hi
   cases h0:f 0 with
   |some v=>simp[h0]at h
   |none=>
    simp only[h0]at h
    cases i with
    |zero=>exact h0
    |succ i=>exact(ff_none (f:=fun i=>f (i+1))).1 h i (by omega)
  ·intro h;rw[h 0 (by omega)];exact ff_none.2 fun i hi=>h (i+1) (by omega)
theorem ff_some{f:Nat→Option ρ}{v:ρ}:∀{n:Nat},ff f n=some v↔∃i,i<n∧f i=some v∧∀j,j<i→f j=none
 |0=>by simp[ff]
 |n+1=>by
  simp only[ff];constructor
  ·intro h
   cases h0:f 0 with
   |some w=>simp only[h0]at h;exact⟨0,by omega,by rw[h0,h],fun j hj=>by omega⟩
   |none=>
    simp only[h0]at h;obtain⟨i,h1,h2,h3⟩:=(ff_some (f:=fun i=>f (i+1))).1 h;exact⟨i+1,by omega,h2,fun j hj=>by cases j with|zero=>exact h0|succ j=>exact h3 j (by omega)⟩
  ·rintro⟨i,h1,h2,h3⟩
   cases i with
   |zero=>rw[h2]
   |succ i=>
    rw[h3 0 (by omega)];exact ff_some.2 ⟨i,by omega,h2,fun j hj=>h3 (j+1) (by omega)⟩
def outR(b:β):Option ρ→β⊕ρ
 |none=>.inl b
 |some v=>.inr v
def goR(s:σ):Option ρ→Ex σ β ρ
 |none=>.go s
 |some v=>.ret v
theorem loopF{step:σ→Option (Ex σ β ρ)}{x0:σ}(S:Nat→σ) (f:Nat→Option ρ) (n:Nat) (b:β)
 (hgo:∀i,i<n→(∀j,j<i→f j=none)→step (S i)=some (goR (S (i+1)) (f i))) (hend:(∀j,j<n→f j=none)→step (S n)=some (.brk b)) (h0:x0=S 0:=by rfl) :
 loopO step x0=some (outR b (ff f n)):=by
 have key:∀k i,i+k=n→(∀j,j<i→f j=none)→loopO step (S i)=some (outR b (ff (fun j=>f (i+j)) k)):=by
  intro k
  induction k with
  |zero=>
   intro i hi hf;rw[ep]at hi;subst hi;rw[loopO_brk (hend hf)];rfl
  |succ k ih=>
   intro i hi hf;have hs:=hgo i (by omega) hf;simp only[ff,ep]
   cases h0:f i with
   |some v=>
    rw[h0]at hs;rw[loopO_ret hs];rfl
   |none=>
    rw[h0]at hs;rw[loopO_go hs,ih (i+1) (by omega) fun j hj=>by rcases Nat.lt_succ_iff_lt_or_eq.1 hj with h|rfl;exact hf j h;exact h0];simp only[Nat.add_assoc,Nat.add_comm 1]
 have:=key n 0 (by omega) (by omega);rw[h0];simpa using this
theorem loopG{step:σ→Option (Ex σ β ρ)}{x0:σ}(S:Nat→σ) (n:Nat) (b:β) (hgo:∀i,i<n→step (S i)=some (.go (S (i+1)))) (hend:step (S n)=some (.brk b)) (h0:x0=S 0:=by rfl):loopO step x0=some (.inl b):=by
 have key:∀k i,i+k=n→loopO step (S i)=some (.inl b):=by
  intro k
  induction k with
  |zero=>intro i hi;rw[ep]at hi;subst hi;exact loopO_brk hend
  |succ k ih=>intro i hi;rw[loopO_go (hgo i (by omega))];exact ih (i+1) (by omega)
 rw[h0];exact key n 0 (by omega)
theorem indexF{l:List α}{p:α→Option Bool}(q:α→Bool) (hp:∀x∈l,p x=some (q x)) (hl:l.length<4611686018427387904) :
 loopO (fun(s:Int)=>if s<(l.length:Int)then(idx l s).bind fun x=>(p x).bind fun c=>if c=true then some (Ex.ret s)else some (Ex.go (wrapF .i64 (s+1)))else some (Ex.brk ())) 0
  = some (outR () (ff (fun i=>if(l[i]?.any q)=true then some (i:Int)else none) l.length)):=by
 refine loopF (fun i=>(i:Int)) _ l.length () (fun i hi _=>?_) (fun _=>?_)
 ·rw[if_pos (by omega),idxN hi,nn,hp _ (On hi),nn,wid (by omega) (by omega)];rw[pn hi];simp only[Ro];by_cases h:q l[i]=true
  ·simp[h,goR]
  ·simp[h,goR]
 ·simp
theorem ff_any{l:List α}{q:α→Bool}{g:Nat→ρ}:(ff (fun i=>if(l[i]?.any q)=true then some (g i)else none) l.length).isSome=l.any q:=by
 rw[Wq,yq,kq];constructor
 ·rintro⟨v,hv⟩;obtain⟨i,h1,h2,-⟩:=ff_some.1 hv;rw[pn h1]at h2;simp only[Ro]at h2;split at h2
  ·exact⟨_,On h1,by assumption⟩
  ·cases h2
 ·rintro⟨x,hx,hq⟩;rw[←yq,←Option.not_isNone,Bool.not_eq_true',Option.isNone_eq_false_iff,Option.isSome_iff_ne_none];intro hn;obtain⟨i,hi,rfl⟩:=Co hx;have:=ff_none.1 hn i hi;rw[pn hi]at this;simp[hq]at this
theorem containsF{l:List α}{p:α→Option Bool}(q:α→Bool) (hp:∀x∈l,p x=some (q x)) (hl:l.length<4611686018427387904) {o:Option (Unit⊕Int)}
 (ho:o=loopO (fun(s:Int)=>if s<(l.length:Int)then(idx l s).bind fun x=>(p x).bind fun c=>if c=true then some (Ex.ret s)else some (Ex.go (wrapF .i64 (s+1)))else some (Ex.brk ())) 0) :
 ((o.bind fun y=>match y with|.inr v=>some v|.inl _=>some (-1)).bind fun x=>some (decide (0≤x)))=some (l.any q):=by
 rw[ho,indexF q hp hl];rw[←ff_any (q:=q) (g:=fun i=>(i:Int))]
 cases h:ff (fun i=>if(l[i]?.any q)=true then some (i:Int)else none) l.length with
 |none=>simp[outR]
 |some v=>
  obtain⟨i,h1,h2,-⟩:=ff_some.1 h;split at h2
  ·injection h2 with h2;subst h2;simp[outR]
  ·cases h2
end Go.Tm
set_option maxRecDepth 10000
namespace Go.Proofs.Dev
open Go Go.Tm
def lowB(c:Int):Bool:=decide (97≤c)&&decide (c≤122)
def digB(c:Int):Bool:=decide (48≤c)&&decide (c≤57)
def wordB(c:Int):Bool:=lowB c || digB c || c==95
theorem range2{a b c:Int}:(qn (if a≤c then some (decide (c≤b))else some false) fun j=>some j)=some (decide (a≤c)&&decide (c≤b)):=by
 split<;>rename_i h<;>simp[h]
theorem lexer_isLower_s(c:Int):lexer_isLower c=some (lowB c):=range2
theorem lexer_isDigit_s(c:Int):lexer_isDigit c=some (digB c):=range2
theorem ref08_lower_s(c:Int):ref08_lower c=some (lowB c):=range2
theorem ref08_digit_s(c:Int):ref08_digit c=some (digB c):=range2
theorem ref08_word_s(c:Int):ref08_word c=some (wordB c):=by
 unfold ref08_word wordB;simp only[ref08_lower_s,ref08_digit_s,nn];cases lowB c<;>cases digB c<;>simp
def wordAt(s:ByteArray) (i:Nat):Bool:=if h:i<s.size then wordB (s[i].toNat:Int)else false
def allWord(s:ByteArray):Bool:=(ff (fun i=>if wordAt s i=true then none else some ()) s.size).isNone
theorem lexer_nameLength_s{s:ByteArray}(hs:s.size<4611686018427387904):∃n,lexer_nameLength s=some n∧(n=(s.size:Int)↔allWord s=true):=by
 have hstep:∀i:Nat,i<s.size→lexer_nameLength_L1 s (i:Int)=some (if wordAt s i=true then .go ((i+1:Nat):Int)else .brk (i:Int)):=by
  intro i hi;unfold lexer_nameLength_L1;rw[if_pos (by omega),sidxN hi,nn];simp only[lexer_isLower_s,lexer_isDigit_s,nn,wordAt,dif_pos hi,wordB];rw[wid (by omega) (by omega)];cases lowB (s[i].toNat:Int)<;>cases digB (s[i].toNat:Int)<;>by_cases h95:(s[i].toNat:Int)=95<;>simp[h95]
 have w1:∀i,(if wordAt s i=true then none else some ())=none→wordAt s i=true:=fun i h=>by
  cases hw:wordAt s i with
  |true=>rfl
  |false=>simp[hw]at h
 unfold lexer_nameLength
 cases h:ff (fun i=>if wordAt s i=true then none else some ()) s.size with
 |none=>
  have h1:=ff_none.1 h;have hl:loopO (lexer_nameLength_L1 s) 0=some (.inl (s.size:Int)):=loopG (fun i=>(i:Int)) s.size (s.size:Int)
   (fun i hi=>by rw[hstep i hi,if_pos (w1 i (h1 i hi))]) (by unfold lexer_nameLength_L1;simp)
  rw[hl];exact⟨_,rfl,by simp[allWord,h]⟩
 |some v=>
  obtain⟨k,h1,h2,h3⟩:=ff_some.1 h;have hl:loopO (lexer_nameLength_L1 s) 0=some (.inl (k:Int)):=loopG (fun i=>(i:Int)) k (k:Int)
   (fun i hi=>by rw[hstep i (by omega),if_pos (w1 i (h3 i hi))]) (by
    rw[hstep k h1,if_neg];intro hw;simp[hw]at h2)
  rw[hl];exact⟨_,rfl,by simp[allWord,h];omega⟩
noncomputable def resL:List ByteArray:=(ref08_Reserved).getD []
theorem ite_or{p:Prop} [Decidable p] {b:Bool}:(if p then some true else some b)=some (decide p || b):=by
 split<;>rename_i h<;>simp[h]
theorem any_cons'{s a:ByteArray}{l:List ByteArray}:((a::l).any fun r=>decide (s=r))=(decide (s=a) || (l.any fun r=>decide (s=r))):=rfl
theorem any_nil'{s:ByteArray}:(([]:List ByteArray).any fun r=>decide (s=r))=false:=rfl
theorem reserved_s(s:ByteArray):lexer_reserved s=some (resL.any fun r=>decide (s=r)):=by
 unfold lexer_reserved resL ref08_Reserved;simp (config := { maxSteps := 4000000 }) only[cp,any_cons',any_nil',ite_or,nn,Xq];generalize (decide (s=_) || _)=b;cases b<;>rfl
theorem reserved_b(s:ByteArray):∃b,lexer_reserved s=some b:=by
 unfold lexer_reserved;simp (config := { maxSteps := 4000000 }) only[ite_or,nn];generalize (decide (s=_) || _)=b;cases b<;>exact⟨_,rfl⟩
noncomputable def resB(s:ByteArray):Bool:=(lexer_reserved s).getD false
theorem reserved_p(s:ByteArray):lexer_reserved s=some (resB s):=by
 obtain⟨b,h⟩:=reserved_b s;unfold resB;rw[h];rfl
noncomputable def identB(s:ByteArray):Bool:=if h:0<s.size∧s.size≤16 then lowB (s[0].toNat:Int)&&allWord s&&!(resB s)else false
theorem empty_iff{s:ByteArray}:s=vn #[]↔s.size=0:=by
 constructor
 ·rintro rfl;rfl
 ·intro h;obtain⟨a⟩:=s;congr 1;exact Array.eq_empty_of_size_eq_zero h
theorem lexer_ident{s:ByteArray}(hs:s.size<4611686018427387904):lexer_IsIdentifier s=some (identB s):=by
 obtain⟨n,hn,hn2⟩:=lexer_nameLength_s hs;unfold lexer_IsIdentifier identB;by_cases h0:s.size=0
 ·rw[if_neg (by simpa [empty_iff] using h0),dif_neg (by omega)];rfl
 ·have hx:sidx s 0=some (s[0].toNat:Int):=sidxN (i:=0) (by omega);rw[if_pos (by simpa [empty_iff] using h0),hx];simp only[nn,lexer_isLower_s,hn,hn2,reserved_p];by_cases h16:s.size≤16
  ·rw[dif_pos ⟨by omega,h16⟩];cases lowB (s[0].toNat:Int)<;>by_cases hw:allWord s=true<;>simp[hw]<;>omega
  ·rw[dif_neg (by omega)];cases lowB (s[0].toNat:Int)<;>by_cases hw:allWord s=true<;>simp[hw]<;>omega
theorem ref08_ident{s:ByteArray}(hs:s.size<4611686018427387904):ref08_IsIdentifier s=some (identB s):=by
 unfold ref08_IsIdentifier identB;by_cases h:0<s.size∧s.size≤16
 ·have hx:sidx s 0=some (s[0].toNat:Int):=sidxN (i:=0) (by omega);have hres:resB s=resL.any fun r=>decide (s=r):=eo ((reserved_p s).symm.trans (reserved_s s));rw[dif_pos h,if_pos (by omega),if_pos (by omega),hx,hres];simp only[nn,ref08_lower_s]
  cases hl:lowB (s[0].toNat:Int)with
  |false=>simp
  |true=>
   have hl1:loopO (ref08_IsIdentifier_L3 s) 0=some (outR () (ff (fun i=>if wordAt s i=true then none else some false) s.size)):=
    loopF (fun i=>(i:Int)) _ s.size () (fun i hi _=>by
     unfold ref08_IsIdentifier_L3;rw[if_pos (by omega),sidxN hi];simp only[nn,ref08_word_s,wordAt,dif_pos hi];rw[wid (by omega) (by omega)];cases wordB (s[i].toNat:Int)<;>rfl) (fun _=>by unfold ref08_IsIdentifier_L3;simp)
   have hR:ref08_Reserved=some resL:=by unfold resL;unfold ref08_Reserved;rfl
   have hlen:resL.length=55:=by unfold resL ref08_Reserved;rfl
   have hl2:loopO (ref08_IsIdentifier_L2 s resL) 0=some (outR () (ff (fun i=>if(resL[i]?.any fun r=>decide (s=r))=true then some false else none) resL.length)):=
    loopF (fun i=>(i:Int)) _ resL.length () (fun i hi _=>by
     unfold ref08_IsIdentifier_L2;rw[if_pos (by omega),idxN hi,pn hi];simp only[nn,Ro,decide_eq_true_eq];rw[wid (by omega) (by omega)];by_cases he:s=resL[i]
     ·rw[if_pos he.symm,if_pos he];rfl
     ·rw[if_neg (fun h=>he h.symm),if_neg he];rfl) (fun _=>by unfold ref08_IsIdentifier_L2;simp)
   simp only[np,tn,if_false,hl1,hR,nn];have ha:=ff_any (l:=resL) (q:=fun r=>decide (s=r)) (g:=fun _=>false);have hw:allWord s=(ff (fun i=>if wordAt s i=true then none else some false) s.size).isNone:=by
    unfold allWord
    cases h1:ff (fun i=>if wordAt s i=true then none else some ()) s.size with
    |none=>
     rw[ff_none.2]
     ·rfl
     ·intro i hi;have:=ff_none.1 h1 i hi;cases hw:wordAt s i<;>simp_all
    |some v=>
     obtain⟨k,k1,k2,k3⟩:=ff_some.1 h1
     cases h2:ff (fun i=>if wordAt s i=true then none else some false) s.size with
     |some _=>rfl
     |none=>
      have:=ff_none.1 h2 k k1;cases hw:wordAt s k<;>simp_all
   rw[hw,←ha]
   cases h1:ff (fun i=>if wordAt s i=true then none else some false) s.size with
   |some v=>
    obtain⟨k,k1,k2,k3⟩:=ff_some.1 h1;cases hw:wordAt s k<;>simp_all[outR]
   |none=>
    simp only[outR,hl2,nn,Ds,Kp]
    cases h2:ff (fun i=>if(resL[i]?.any fun r=>decide (s=r))=true then some false else none) resL.length with
    |none=>rfl
    |some v=>
     obtain⟨k,k1,k2,k3⟩:=ff_some.1 h2;have:v=false:=by
      split at k2
      ·exact(eo k2).symm
      ·cases k2
     subst this;rfl
 ·rw[dif_neg h];by_cases h0:s.size=0
  ·rw[if_neg (by simpa using h0)];rfl
  ·rw[if_pos (by omega),if_neg (by omega)];rfl
end Go.Proofs.Dev
namespace Go.Proofs.Dev
open Go Go.Tm
def validTypeB(t:GType) (e:List GEnum):Bool:=
 if t.Kind=6 then decide (0≤t.Enum)&&decide (t.Enum<(e.length:Int))else decide (1≤t.Kind)&&decide (t.Kind≤5)&&(t.Enum==0)
noncomputable def vtX(t0:GType) (t1:List GEnum):Option Bool:=
 if t0.Kind=6 then
  qn (α:=Bool) (
   if 0≤t0.Enum then
    some (decide (t0.Enum<(t1.length:Int)))
   else
   some false) fun j3=>
  some j3
 else
 qn (α:=Bool) (
  if 1≤t0.Kind then
   if t0.Kind≤5 then
    some (t0.Enum==0)
   else
   some false
  else
  some false) fun j6=>
 some j6
theorem vtX_s(t:GType) (e:List GEnum):vtX t e=some (validTypeB t e):=by
 unfold vtX validTypeB;split
 ·by_cases h:0≤t.Enum<;>simp[h]
 ·by_cases h:1≤t.Kind<;>by_cases h2:t.Kind≤5<;>simp[h,h2]
theorem ref09_ValidType_s(t:GType) (e:List GEnum):ref09_ValidType t e=some (validTypeB t e):=vtX_s t e
theorem value_ValidType_s(t:GType) (e:List GEnum):value_ValidType t e=some (validTypeB t e):=by
 rw[←vtX_s];unfold value_ValidType vtX;by_cases h6:t.Kind=6
 ·simp[h6]
 ·rw[if_neg h6];by_cases h1:t.Kind=1
  ·simp[h1]
  by_cases h2:t.Kind=2
  ·simp[h2]
  by_cases h3:t.Kind=3
  ·simp[h3]
  by_cases h4:t.Kind=4
  ·simp[h4]
  by_cases h5:t.Kind=5
  ·simp[h5]
  ·rw[if_neg h1,if_neg h2,if_neg h3,if_neg h4];have:¬(1≤t.Kind∧t.Kind≤5):=by omega
   by_cases ha:1≤t.Kind
   ·rw[if_pos ha,if_neg (by omega)];simp[h5];omega
   ·rw[if_neg ha];simp[h5];omega
theorem bounds_eq(t:GType) (e:List GEnum):value_Bounds t e=ref09_Bounds t e:=by
 unfold value_Bounds ref09_Bounds;rw[value_ValidType_s,ref09_ValidType_s]
theorem bounds_ex(t:GType) (e:List GEnum):∃p,value_Bounds t e=some p:=by
 unfold value_Bounds;rw[value_ValidType_s,nn]
 cases h:validTypeB t e with
 |false=>exact⟨_,rfl⟩
 |true=>
  simp only[Un,if_false]
  repeat' split
  all_goals first|exact⟨_,rfl⟩|skip
  have h6:t.Kind=6:=by
   unfold validTypeB at h;split at h
   ·assumption
   ·simp at h;omega
  unfold validTypeB at h;rw[if_pos h6]at h;simp at h;rw[idxI h.1 h.2];exact⟨_,rfl⟩
noncomputable def bnd(t:GType) (e:List GEnum):Int×Int:=(value_Bounds t e).getD (0,0)
theorem value_Bounds_s(t:GType) (e:List GEnum):value_Bounds t e=some (bnd t e):=by
 obtain⟨p,hp⟩:=bounds_ex t e;unfold bnd;rw[hp];rfl
theorem ref09_Bounds_s(t:GType) (e:List GEnum):ref09_Bounds t e=some (bnd t e):=by rw[←bounds_eq,value_Bounds_s]
noncomputable def inB(n:Int) (t:GType) (e:List GEnum):Bool:=decide ((bnd t e).1≤n)&&decide (n≤(bnd t e).2)
theorem ref09_In_s(n:Int) (t:GType) (e:List GEnum):ref09_In n t e=some (inB n t e):=by
 unfold ref09_In inB;rw[ref09_Bounds_s,nn];exact range2
def vrB(r:GDateRange):Bool:=decide (0≤r.From)&&(decide (r.From≤r.To)&&decide (r.To≤109573))
theorem daterange_Valid_s(r:GDateRange):daterange_Valid r=some (vrB r):=by
 unfold daterange_Valid vrB;by_cases h:0≤r.From<;>by_cases h2:r.From≤r.To<;>simp[h,h2]<;>omega
theorem ref05_Valid_s(r:GDateRange):ref05_Valid r=some (vrB r):=by
 unfold ref05_Valid vrB;by_cases h:0≤r.From<;>by_cases h2:r.From≤r.To<;>simp[h,h2]<;>omega
def confB(a b:GRow):Bool:=vrB a.Valid&&vrB b.Valid&&decide (max a.Valid.From b.Valid.From<min a.Valid.To b.Valid.To)&&decide (max a.Lo b.Lo<min a.Hi b.Hi)
theorem ref12_conflict_s(a b:GRow):ref12_conflict a b=some (confB a b):=by
 unfold ref12_conflict ref05_Intersect confB;simp only[ref05_Valid_s,nn];cases vrB a.Valid<;>cases vrB b.Valid<;>simp only[tn,if_false,if_true,nn,zp,np,Br,Kp,Ar];by_cases h:min a.Valid.To b.Valid.To≤max a.Valid.From b.Valid.From
 ·rw[if_pos h];simp only[nn,tn,if_false];rw[decide_eq_false (by omega)];rfl
 ·rw[if_neg h];simp only[nn,if_true];rw[decide_eq_true (p:=max a.Valid.From b.Valid.From<min a.Valid.To b.Valid.To) (by omega)];rfl
theorem table_conflict_s(a b:GRow):table_conflict a b=some (confB a b):=by
 unfold table_conflict daterange_Intersect daterange_hasDate confB;simp only[daterange_Valid_s,nn];cases vrB a.Valid<;>cases vrB b.Valid<;>simp only[tn,if_false,if_true,nn,zp,np,Br,Kp,Ar]
 ·by_cases ha:a.Valid.From<a.Valid.To<;>simp[ha]
 ·by_cases ha:a.Valid.From<a.Valid.To
  ·by_cases hb:b.Valid.From<b.Valid.To
   ·simp only[decide_eq_true ha,decide_eq_true hb,if_true,nn,np,tn,if_false];by_cases h:min a.Valid.To b.Valid.To≤max a.Valid.From b.Valid.From
    ·rw[if_pos h];simp only[nn,tn,if_false];rw[decide_eq_false (by omega)];rfl
    ·rw[if_neg h];simp only[nn,if_true];rw[decide_eq_true (p:=max a.Valid.From b.Valid.From<min a.Valid.To b.Valid.To) (by omega)];rfl
   ·simp only[decide_eq_true ha,decide_eq_false hb,if_true,nn,zp,tn,if_false];rw[decide_eq_false (by omega)];rfl
  ·simp only[decide_eq_false ha,if_true,nn,tn,if_false];rw[decide_eq_false (by omega)];rfl
noncomputable def wrongB(x:GRow) (t:GTable) (e:List GEnum):Bool:=
 !(vrB x.Valid) || decide (x.Valid.From=x.Valid.To) || decide (x.Hi≤x.Lo) || !(inB x.Lo t.Key e) || !(inB (wrapF .i64 (x.Hi-1)) t.Key e) || !(inB x.N t.Value e)
theorem ref12_wrong_s(x:GRow) (t:GTable) (e:List GEnum):ref12_wrong x t e=some (wrongB x t e):=by
 unfold ref12_wrong wrongB;simp only[ref05_Valid_s,ref09_In_s,nn];cases vrB x.Valid<;>by_cases h1:x.Valid.From=x.Valid.To<;>by_cases h2:x.Hi≤x.Lo<;>simp only[h1,h2,not_true_eq_false,not_false_eq_true,decide_true,decide_false,tn,if_false,if_true,nn,zp,np,Gs,Oq,Xq]
 all_goals try rfl
 cases inB x.Lo t.Key e<;>cases inB (wrapF .i64 (x.Hi-1)) t.Key e<;>cases inB x.N t.Value e<;>rfl
noncomputable def rowF(t:GTable) (e:List GEnum) (i:Nat):Option (Int×Int):=
 match t.Rows[i]? with
 |some x=>if wrongB x t e=true then some ((i:Int),3)else if((t.Rows.take i).any fun y=>confB y x)=true then some ((i:Int),11)else none
 |none=>none
noncomputable def tableV(t:GTable) (e:List GEnum):Int×Int:=
 if 64<t.Rows.length then(64,4)else if(validTypeB t.Key e&&validTypeB t.Value e)=false then(-1,8)else(ff (rowF t e) t.Rows.length).getD (0,0)
theorem first_conf{l:List GRow}{x:GRow}(hl:l.length<4611686018427387904):∃p,table_first_api_Row l (fun y=>table_Validate_c1 y x)=some p∧p.2=l.any fun y=>confB y x:=by
 have hl1:loopO (table_first_api_Row_L1 l (fun y=>table_Validate_c1 y x)) 0=some (outR () (ff (fun i=>if(l[i]?.any fun y=>confB y x)=true then some ((i:Int),true)else none) l.length)):=
  loopF (fun i=>(i:Int)) _ l.length () (fun i hi _=>by
   unfold table_first_api_Row_L1;rw[if_pos (by omega),idxN hi,pn hi];simp only[nn,Ro,table_Validate_c1,table_conflict_s];rw[wsucc (by omega)];by_cases hc:confB l[i] x=true<;>simp[hc,goR]) (fun _=>by unfold table_first_api_Row_L1;simp)
 unfold table_first_api_Row;rw[hl1,←ff_any (q:=fun y=>confB y x) (g:=fun i=>((i:Int),true)),nn]
 cases h:ff (fun i=>if(l[i]?.any fun y=>confB y x)=true then some ((i:Int),true)else none) l.length with
 |none=>exact⟨_,rfl,rfl⟩
 |some v=>
  obtain⟨k,h1,h2,-⟩:=ff_some.1 h;refine⟨_,rfl,?_⟩;split at h2
  ·injection h2 with h2;subst h2;rfl
  ·cases h2
theorem table_Validate_s(t:GTable) (e:List GEnum):table_Validate t e=some (tableV t e):=by
 unfold table_Validate tableV;by_cases h64:64<t.Rows.length
 ·rw[if_pos (by omega),if_pos h64]
 ·rw[if_neg (by omega),if_neg h64];simp only[value_ValidType_s,value_Bounds_s,nn];have hl:loopO (table_Validate_L1 t (bnd t.Key e) (bnd t.Value e)) 0=some (outR () (ff (rowF t e) t.Rows.length)):=
   loopF (fun i=>(i:Int)) _ t.Rows.length () (fun i hi _=>by
    unfold table_Validate_L1 rowF;rw[if_pos (by omega),idxN hi,pn hi];simp only[nn,daterange_Valid_s];rw[subhN (by omega),wsucc (by omega)];obtain⟨p,hp,hp2⟩:=first_conf (l:=t.Rows.take i) (x:=t.Rows[i]) (by simp;omega);simp only[nn,hp,hp2];generalize ((t.Rows.take i).any fun y=>confB y t.Rows[i])=c;generalize t.Rows[i]=x;unfold wrongB inB;cases vrB x.Valid
    ·rfl
    by_cases h1:x.Valid.From=x.Valid.To
    ·simp[h1,goR]
    by_cases h2:x.Hi≤x.Lo
    ·simp[h1,h2,goR]
    generalize wrapF .i64 (x.Hi-1)=y;simp only[h1,h2,not_false_eq_true,if_true,decide_false,nn,tn,if_false,np,Oq];by_cases g1:x.Lo<(bnd t.Key e).1
    ·rw[if_neg (by simpa using g1),decide_eq_false (p:=(bnd t.Key e).1≤x.Lo) (by omega)];rfl
    rw[if_pos (by simpa using g1),decide_eq_true (p:=(bnd t.Key e).1≤x.Lo) (by omega)];by_cases g2:(bnd t.Key e).2<x.Lo
    ·rw[if_neg (by simpa using g2),decide_eq_false (p:=x.Lo≤(bnd t.Key e).2) (by omega)];rfl
    rw[if_pos (by simpa using g2),decide_eq_true (p:=x.Lo≤(bnd t.Key e).2) (by omega)];by_cases g3:y<(bnd t.Key e).1
    ·rw[if_neg (by simpa using g3),decide_eq_false (p:=(bnd t.Key e).1≤y) (by omega)];rfl
    rw[if_pos (by simpa using g3),decide_eq_true (p:=(bnd t.Key e).1≤y) (by omega)];by_cases g4:(bnd t.Key e).2<y
    ·rw[decide_eq_true g4,decide_eq_false (p:=y≤(bnd t.Key e).2) (by omega)];rfl
    rw[decide_eq_false g4,decide_eq_true (p:=y≤(bnd t.Key e).2) (by omega)];simp only[nn,tn,if_false,Nn,np,Oq];by_cases g5:x.N<(bnd t.Value e).1
    ·rw[if_neg (by simpa using g5),decide_eq_false (p:=(bnd t.Value e).1≤x.N) (by omega)];rfl
    rw[if_pos (by simpa using g5),decide_eq_true (p:=(bnd t.Value e).1≤x.N) (by omega)];by_cases g6:(bnd t.Value e).2<x.N
    ·rw[decide_eq_true g6,decide_eq_false (p:=x.N≤(bnd t.Value e).2) (by omega)];rfl
    rw[decide_eq_false g6,decide_eq_true (p:=x.N≤(bnd t.Value e).2) (by omega)];cases c<;>rfl) (fun _=>by unfold table_Validate_L1;simp)
  rw[hl];cases validTypeB t.Key e<;>cases validTypeB t.Value e<;>simp only[tn,if_false,if_true,nn,zp,np,Br,Kp,Ar,Un];cases ff (rowF t e) t.Rows.length<;>rfl
theorem ref12_Validate_s(t:GTable) (e:List GEnum):ref12_Validate t e=some (tableV t e):=by
 unfold ref12_Validate tableV;by_cases h64:64<t.Rows.length
 ·rw[if_pos (by omega),if_pos h64]
 ·rw[if_neg (by omega),if_neg h64];simp only[ref09_ValidType_s,nn];have hl:loopO (ref12_Validate_L9 t e) 0=some (outR () (ff (rowF t e) t.Rows.length)):=
   loopF (fun i=>(i:Int)) _ t.Rows.length () (fun i hi _=>by
    have hl2:loopO (ref12_Validate_L8 t (i:Int) t.Rows[i]) 0=some (outR () (ff (fun k=>if((t.Rows.take i)[k]?.any fun y=>confB y t.Rows[i])=true then some (Ex.ret ((i:Int),11))else none) (t.Rows.take i).length)):=
     loopF (fun i=>(i:Int)) _ (t.Rows.take i).length () (fun k hk _=>by
      have hk':k<i:=by simp at hk;omega
      unfold ref12_Validate_L8;rw[if_pos (by omega),idxN (by omega),pn hk];simp only[nn,Ro,ref12_conflict_s,uq];rw[wsucc (by omega)];by_cases hc:confB t.Rows[k] t.Rows[i]=true<;>simp[hc,goR]) (fun _=>by
       unfold ref12_Validate_L8;rw[if_neg];simp;omega)
    unfold ref12_Validate_L9 rowF;rw[if_pos (by omega),idxN hi,pn hi];simp only[nn,ref12_wrong_s,hl2];rw[wsucc (by omega),←ff_any (q:=fun y=>confB y t.Rows[i]) (g:=fun k=>(Ex.ret ((i:Int),11):Ex Int Unit (Int×Int)))];cases wrongB t.Rows[i] t e
    ·simp only[tn,if_false]
     cases h:ff (fun k=>if((t.Rows.take i)[k]?.any fun y=>confB y t.Rows[i])=true then some (Ex.ret ((i:Int),11):Ex Int Unit (Int×Int))else none) (t.Rows.take i).length with
     |none=>rfl
     |some v=>
      obtain⟨k,h1,h2,-⟩:=ff_some.1 h;split at h2
      ·injection h2 with h2;subst h2;rfl
      ·cases h2
    ·rfl) (fun _=>by unfold ref12_Validate_L9;simp)
  rw[hl];cases validTypeB t.Key e<;>cases validTypeB t.Value e<;>simp only[tn,if_false,if_true,nn,zp,np,Br,Kp,Ar,Un];cases ff (rowF t e) t.Rows.length<;>rfl
end Go.Proofs.Dev
namespace Go.Proofs.Dev
open Go Go.Tm
def arityS(op:Int):Int:=
 if(1≤op∧op≤9)∨(35≤op∧op≤39)then 0
 else if op=10∨op=25∨(31≤op∧op≤34)then 1
 else if op=26 then 3
 else if 11≤op∧op≤30 then 2 else -1
theorem op_cases{op:Int}(h:1≤op∧op≤39):op=1∨op=2∨op=3∨op=4∨op=5∨op=6∨op=7∨op=8∨op=9∨op=10∨op=11∨op=12∨op=13∨op=14∨op=15∨op=16∨op=17∨op=18∨op=19∨op=20∨op=21∨op=22∨op=23∨op=24∨op=25∨op=26∨op=27∨op=28∨op=29∨op=30∨op=31∨op=32∨op=33∨op=34∨op=35∨op=36∨op=37∨op=38∨op=39:=by omega
theorem arity_out{op:Int}(h:¬(1≤op∧op≤39)):arityS op = -1:=by
 unfold arityS;rw[if_neg (by omega),if_neg (by omega),if_neg (by omega),if_neg (by omega)]
theorem expr_Arity_s(op:Int):expr_Arity op=some (arityS op):=by
 by_cases h:1≤op∧op≤39
 ·rcases op_cases h with h|h|h|h|h|h|h|h|h|h|h|h|h|h|h|h|h|h|h|h|h|h|h|h|h|h|h|h|h|h|h|h|h|h|h|h|h|h|h<;>subst h<;>simp[expr_Arity,arityS]
 ·rw[arity_out h];unfold expr_Arity;have hn:∀k:Int,1≤k→k≤39→¬op=k:=fun k h1 h2 he=>h (by omega);simp[hn]
theorem ref10_Arity_s(op:Int):ref10_Arity op=some (arityS op):=by
 by_cases h:1≤op∧op≤39
 ·rcases op_cases h with h|h|h|h|h|h|h|h|h|h|h|h|h|h|h|h|h|h|h|h|h|h|h|h|h|h|h|h|h|h|h|h|h|h|h|h|h|h|h<;>subst h<;>simp[ref10_Arity,arityS]
 ·rw[arity_out h];unfold ref10_Arity;have hn:∀k:Int,1≤k→k≤39→¬op=k:=fun k h1 h2 he=>h (by omega);by_cases h1:1≤op
  ·have:¬op≤39:=fun h2=>h ⟨h1,h2⟩;simp[h1,hn,show¬op≤9 by omega,this,show¬op≤30 by omega]
  ·simp[h1,hn,show¬35≤op by omega,show¬11≤op by omega]
def usesB(op:Int):Bool:=decide ((1≤op∧op≤8)∨(14≤op∧op≤16)∨(33≤op∧op≤34)∨(36≤op∧op≤39))
theorem expr_UsesN_s{op:Int}(h:1≤op∧op≤39):expr_UsesN op=some (usesB op):=by
 rcases op_cases h with h|h|h|h|h|h|h|h|h|h|h|h|h|h|h|h|h|h|h|h|h|h|h|h|h|h|h|h|h|h|h|h|h|h|h|h|h|h|h<;>subst h<;>simp[expr_UsesN,usesB]
theorem ref10_meaning_s{op:Int}(h:1≤op∧op≤39):ref10_meaning op=some (usesB op):=by
 rcases op_cases h with h|h|h|h|h|h|h|h|h|h|h|h|h|h|h|h|h|h|h|h|h|h|h|h|h|h|h|h|h|h|h|h|h|h|h|h|h|h|h<;>subst h<;>simp[ref10_meaning,usesB]
def numB(k:Int):Bool:=k==2 || k==3 || k==4
theorem expr_isNumber_s(k:Int):expr_isNumber k=some (numB k):=by
 unfold expr_isNumber numB;by_cases h1:k=2<;>by_cases h2:k=3<;>simp[h1,h2]
theorem ref10_number_s(k:Int):ref10_number k=some (numB k):=by
 unfold ref10_number numB;by_cases h1:k=2<;>by_cases h2:k=3<;>simp[h1,h2]
theorem ref10_ordered_s(k:Int):ref10_ordered k=some (numB k || k==5):=by
 unfold ref10_ordered;rw[ref10_number_s];cases numB k<;>simp
noncomputable def implNode(n:GNode) (ops:List GType) (s:GSignature):Option (GType×Int):=
 qn (α:=Bool) (if¬n.N=0 then(expr_UsesN n.Op).bind fun x=>some (!x)else some false) fun j=>if j=true then some ((GType.mk 0 0),2)else expr_nodeType n ops s
def NodeOk(n:GNode):Prop:=-9223372036854775808≤n.N∧n.N≤9223372036854775807
theorem tdiv_w{n:Int}{k:Int}(hk:1≤k) (h:-9223372036854775808≤n∧n≤9223372036854775807):wrapF .i64 (Po n k)=Po n k:=by
 have h1:(Po n k).natAbs≤n.natAbs:=by
  rw[Ls];exact Nat.div_le_self _ _
 by_cases hn:n = -9223372036854775808
 ·by_cases hk1:k=1
  ·subst hk1;subst hn;rfl
  ·have:(Po n k).natAbs<n.natAbs:=by
    rw[Ls];exact Nat.div_lt_self (by omega) (by omega)
   exact wid (by omega) (by omega)
 ·exact wid (by omega) (by omega)
end Go.Proofs.Dev
set_option maxHeartbeats 1000000
namespace Go.Proofs.Dev
open Go Go.Tm
theorem vt_enum{t:GType}{e:List GEnum}(h:validTypeB t e=true) (hk:t.Kind≠6):t.Enum=0:=by
 unfold validTypeB at h;rw[if_neg hk]at h;simp at h;exact h.2
theorem vt_k{k:Int}{e:List GEnum}(h1:1≤k) (h2:k≤5):validTypeB ⟨k,0⟩ e=true:=by
 unfold validTypeB;rw[if_neg (by show¬k=6;omega)];simp[h1,h2]
theorem vt_1{e:List GEnum}:validTypeB ⟨1,0⟩ e=true:=vt_k (by omega) (by omega)
theorem vt_2{e:List GEnum}:validTypeB ⟨2,0⟩ e=true:=vt_k (by omega) (by omega)
theorem vt_3{e:List GEnum}:validTypeB ⟨3,0⟩ e=true:=vt_k (by omega) (by omega)
theorem vt_4{e:List GEnum}:validTypeB ⟨4,0⟩ e=true:=vt_k (by omega) (by omega)
theorem vt_5{e:List GEnum}:validTypeB ⟨5,0⟩ e=true:=vt_k (by omega) (by omega)
def Eq2(n:GNode) (ops:List GType) (s:GSignature):Prop:=
 implNode n ops s=ref10_Result n ops s∧∃r,ref10_Result n ops s=some r∧(r.2=0→validTypeB r.1 s.Enums=true)
theorem node_lit{n:GNode}{s:GSignature}{k:Int}(hk:1≤k∧k≤5) (hn:n.Op=k):Eq2 n [] s:=by
 have hu:=expr_UsesN_s (op:=n.Op) (by omega);have hm:=ref10_meaning_s (op:=n.Op) (by omega);have hus:usesB n.Op=true:=by unfold usesB;simp;omega
 have hv:validTypeB ⟨n.Op,0⟩ s.Enums=true:=vt_k (by omega) (by omega);have hR:ref10_Result n [] s=some (if(bnd ⟨n.Op,0⟩ s.Enums).1≤n.N∧n.N≤(bnd ⟨n.Op,0⟩ s.Enums).2 then(⟨n.Op,0⟩,0)else(⟨0,0⟩,3)):=by
  unfold ref10_Result ref10_ranged ref10_found ref10_leaf ref10_kind;simp only[ref09_Bounds_s,hm,hus,nn];have h6:¬n.Op=6:=by omega
  have h7:¬n.Op=7:=by omega
  have h8:¬n.Op=8:=by omega
  have h9:¬n.Op=9:=by omega
  have h33:¬n.Op=33:=by omega
  have h34:¬n.Op=34:=by omega
  have h35:¬n.Op=35:=by omega
  have h36:¬n.Op=36:=by omega
  have h37:¬n.Op=37:=by omega
  have h38:¬n.Op=38:=by omega
  have h39:¬n.Op=39:=by omega
  have hin:(if n.Op=1 then some true else if n.Op=2 then some true else if n.Op=3 then some true else if n.Op=4 then some true else some (n.Op==5))=some true:=by
   rcases(by omega:n.Op=1∨n.Op=2∨n.Op=3∨n.Op=4∨n.Op=5)with h|h|h|h|h<;>simp[h]
  simp only[hin,h6,h7,h8,h9,h33,h34,h35,h36,h37,h38,h39,ref09_ValidType_s,hv,nn,if_true,if_false,range2];have b6:∀k:Int,¬n.Op=k→(n.Op==k)=false:=fun k h=>by simpa using h
  rw[b6 38 h38,b6 39 h39];by_cases hN:n.N=0<;>by_cases g1:(bnd ⟨n.Op,0⟩ s.Enums).1≤n.N<;>by_cases g2:n.N≤(bnd ⟨n.Op,0⟩ s.Enums).2<;>simp[hN,g1,g2,hv]
  all_goals (rw[hN]at g1 g2;simp[g1,g2])
 have hI:implNode n [] s=some (if(bnd ⟨n.Op,0⟩ s.Enums).1≤n.N∧n.N≤(bnd ⟨n.Op,0⟩ s.Enums).2 then(⟨n.Op,0⟩,0)else(⟨0,0⟩,3)):=by
  have hlit:expr_literalType n.N n.Op s=some (if(bnd ⟨n.Op,0⟩ s.Enums).1≤n.N∧n.N≤(bnd ⟨n.Op,0⟩ s.Enums).2 then(⟨n.Op,0⟩,0)else(⟨0,0⟩,3)):=by
   unfold expr_literalType;simp only[value_Bounds_s,nn];by_cases g1:n.N<(bnd ⟨n.Op,0⟩ s.Enums).1<;>by_cases g2:(bnd ⟨n.Op,0⟩ s.Enums).2<n.N<;>simp[g1,g2]<;>omega
  have hT:expr_nodeType n [] s=expr_literalType n.N n.Op s:=by
   unfold expr_nodeType;rw[hlit];rcases(by omega:n.Op=1∨n.Op=2∨n.Op=3∨n.Op=4∨n.Op=5)with h|h|h|h|h<;>rw[h]at hlit⊢<;>simp[hlit]
  unfold implNode;rw[hT,hlit,hu,hus];by_cases hN:n.N=0<;>simp[hN]
 refine⟨by rw[hI,hR],_,hR,?_⟩;split
 ·exact fun _=>hv
 ·intro h;cases h
theorem fmt_t{N:Int}:(if¬N=0 then(some true).bind fun x=>some (!x)else some false)=some false:=by split<;>rfl
theorem fmt_f{N:Int}:(if¬N=0 then(some false).bind fun x=>some (!x)else some false)=some (!(N==0)):=by
 by_cases h:N=0<;>simp[h]
theorem exs{α:Type}{x:α}{Q:α→Prop}:(∃r,some x=some r∧Q r)=Q x:=by simp
theorem idx_lt0{α:Type}{l:List α}{N:Int}(d:α) (h0:0≤N) (h1:N<(l.length:Int)):idx l N=some ((l[N.toNat]?).getD d):=by
 rw[idxI h0 h1,pn];rfl
theorem node_6{N:Int}{s:GSignature}(hN:NodeOk ⟨6,N⟩):Eq2 ⟨6,N⟩ [] s:=by
 have w:=tdiv_w (n:=N) (k:=16) (by omega) hN;have hu:=expr_UsesN_s (op:=6) (by omega);have hm:=ref10_meaning_s (op:=6) (by omega);have hus:usesB 6=true:=rfl;unfold Eq2 implNode expr_nodeType expr_enumType ref10_Result ref10_ranged ref10_found ref10_leaf;simp only[w,hu,hm,hus,ref09_ValidType_s,fmt_t];by_cases h0:0≤N
 ·have hd:0≤Po N 16:=nr h0 (by omega);by_cases h1:Po N 16<(s.Enums.length:Int)
  ·rw[idx_lt0 ⟨mr,[]⟩ hd h1];have hv:validTypeB ⟨6,Po N 16⟩ s.Enums=true:=by unfold validTypeB;simp[hd,h1]
   generalize (s.Enums[(Po N 16).toNat]?).getD ⟨mr,[]⟩=m;have e1:¬N<0:=by omega
   have e2:¬(s.Enums.length:Int)≤Po N 16:=by omega
   by_cases h2:Pq N 16<(m.Members.length:Int)
   ·have e3:¬(m.Members.length:Int)≤Pq N 16:=by omega
    simp[h0,h1,h2,hv,e1,e2,e3,exs,-Prod.exists]
   ·have e3:(m.Members.length:Int)≤Pq N 16:=by omega
    simp[h0,h1,h2,hv,e1,e2,e3,exs,-Prod.exists]
  ·have e1:¬N<0:=by omega
   have e2:(s.Enums.length:Int)≤Po N 16:=by omega
   simp[h0,h1,e1,e2,exs,-Prod.exists]
 ·have e1:N<0:=by omega
  simp[h0,e1,exs,-Prod.exists]
theorem node_7{N:Int}{s:GSignature}:Eq2 ⟨7,N⟩ [] s:=by
 have hu:=expr_UsesN_s (op:=7) (by omega);have hm:=ref10_meaning_s (op:=7) (by omega);have hus:usesB 7=true:=rfl;unfold Eq2 implNode expr_nodeType expr_listedType ref10_Result ref10_ranged ref10_found ref10_leaf;simp only[hu,hm,hus,ref09_ValidType_s,value_ValidType_s,fmt_t];by_cases h0:0≤N
 ·have e1:¬N<0:=by omega
  by_cases h1:N<(s.Inputs.length:Int)
  ·rw[idx_lt0 ⟨0,0⟩ h0 h1];generalize (s.Inputs[N.toNat]?).getD ⟨0,0⟩=t;obtain⟨tk,te⟩:=t;have e2:¬(s.Inputs.length:Int)≤N:=by omega
   cases hv:validTypeB ⟨tk,te⟩ s.Enums<;>simp[h0,h1,hv,e1,e2,exs,-Prod.exists]
  ·have e2:(s.Inputs.length:Int)≤N:=by omega
   simp[h0,h1,e1,e2,exs,-Prod.exists]
 ·have e1:N<0:=by omega
  simp[h0,e1,exs,-Prod.exists]
theorem node_8{N:Int}{s:GSignature}:Eq2 ⟨8,N⟩ [] s:=by
 have hu:=expr_UsesN_s (op:=8) (by omega);have hm:=ref10_meaning_s (op:=8) (by omega);have hus:usesB 8=true:=rfl;unfold Eq2 implNode expr_nodeType expr_listedType ref10_Result ref10_ranged ref10_found ref10_leaf;simp only[hu,hm,hus,ref09_ValidType_s,value_ValidType_s,fmt_t];by_cases h0:0≤N
 ·have e1:¬N<0:=by omega
  by_cases h1:N<(s.Defs.length:Int)
  ·rw[idx_lt0 ⟨0,0⟩ h0 h1];generalize (s.Defs[N.toNat]?).getD ⟨0,0⟩=t;obtain⟨tk,te⟩:=t;have e2:¬(s.Defs.length:Int)≤N:=by omega
   cases hv:validTypeB ⟨tk,te⟩ s.Enums<;>simp[h0,h1,hv,e1,e2,exs,-Prod.exists]
  ·have e2:(s.Defs.length:Int)≤N:=by omega
   simp[h0,h1,e1,e2,exs,-Prod.exists]
 ·have e1:N<0:=by omega
  simp[h0,e1,exs,-Prod.exists]
theorem node_9{N:Int}{s:GSignature}:Eq2 ⟨9,N⟩ [] s:=by
 have hu:=expr_UsesN_s (op:=9) (by omega);have hm:=ref10_meaning_s (op:=9) (by omega);have hus:usesB 9=false:=rfl;unfold Eq2 implNode expr_nodeType ref10_Result ref10_ranged ref10_found ref10_leaf ref10_kind;simp only[hu,hm,hus,ref09_ValidType_s,fmt_f];cases N==0<;>simp[vt_5,exs,-Prod.exists]
theorem node_35{N:Int}{s:GSignature}:Eq2 ⟨35,N⟩ [] s:=by
 have hu:=expr_UsesN_s (op:=35) (by omega);have hm:=ref10_meaning_s (op:=35) (by omega);have hus:usesB 35=false:=rfl;unfold Eq2 implNode expr_nodeType expr_memberType ref10_Result ref10_ranged ref10_found ref10_leaf ref10_kind;simp only[hu,hm,hus,ref09_ValidType_s,fmt_f];cases hm:s.HasMembers<;>cases N==0<;>simp[hm,vt_2,exs,-Prod.exists]
theorem node_mem{op N:Int}{s:GSignature}(h:36≤op∧op≤39):Eq2 ⟨op,N⟩ [] s:=by
 have hu:=expr_UsesN_s (op:=op) (by omega);have hm:=ref10_meaning_s (op:=op) (by omega);have hus:usesB op=true:=by unfold usesB;simp;omega
 unfold Eq2 implNode expr_nodeType expr_memberType expr_listedType ref10_Result ref10_ranged ref10_found ref10_leaf;simp only[hu,hm,hus,ref09_ValidType_s,value_ValidType_s,expr_isNumber_s,ref10_ordered_s,fmt_t];cases hM:s.HasMembers
 ·rcases(by omega:op=36∨op=37∨op=38∨op=39)with h|h|h|h<;>subst h<;>simp[hM,exs,-Prod.exists]
 ·by_cases h0:0≤N
  ·have e1:¬N<0:=by omega
   by_cases h1:N<(s.MemberDefs.length:Int)
   ·rw[idx_lt0 ⟨0,0⟩ h0 h1];generalize (s.MemberDefs[N.toNat]?).getD ⟨0,0⟩=t;obtain⟨tk,te⟩:=t;have e2:¬(s.MemberDefs.length:Int)≤N:=by omega
    cases hv:validTypeB ⟨tk,te⟩ s.Enums
    ·rcases(by omega:op=36∨op=37∨op=38∨op=39)with h|h|h|h<;>subst h<;>simp[hM,h0,h1,hv,e1,e2,exs,-Prod.exists]
    ·rcases(by omega:op=36∨op=37∨op=38∨op=39)with h|h|h|h<;>subst h<;>simp only[hM,h0,h1,hv,e1,e2,nn,if_true,if_false,not_true_eq_false,not_false_eq_true,decide_false,decide_true,tn,Un,Hn,beq_self_eq_true,Gn]
     ·by_cases k2:tk=2<;>by_cases k3:tk=3<;>simp[k2,k3,hv,exs,-Prod.exists]<;>simp_all
     ·by_cases k1:tk=1<;>simp[k1,hv,exs,-Prod.exists]<;>simp_all
     ·by_cases k1:tk=1<;>simp[k1,hv,exs,-Prod.exists]<;>simp_all
     ·cases numB tk<;>by_cases k5:tk=5<;>simp[k5,hv,exs,-Prod.exists]<;>simp_all
   ·have e2:(s.MemberDefs.length:Int)≤N:=by omega
    rcases(by omega:op=36∨op=37∨op=38∨op=39)with h|h|h|h<;>subst h<;>simp[hM,h0,h1,e1,e2,exs,-Prod.exists]
  ·have e1:N<0:=by omega
   rcases(by omega:op=36∨op=37∨op=38∨op=39)with h|h|h|h<;>subst h<;>simp[hM,h0,e1,exs,-Prod.exists]
end Go.Proofs.Dev
namespace Go.Proofs.Dev
open Go Go.Tm
theorem idx0{α:Type}{x:α}{l:List α}:idx (x::l) 0=some x:=rfl
theorem idx1{α:Type}{x y:α}{l:List α}:idx (x::y::l) 1=some y:=rfl
theorem idx2{α:Type}{x y z:α}{l:List α}:idx (x::y::z::l) 2=some z:=rfl
theorem node_one{op N:Int}{s:GSignature}{a:GType}(hop:op=10∨op=25∨op=31∨op=32) (ha:validTypeB a s.Enums=true):Eq2 ⟨op,N⟩ [a] s:=by
 have hu:=expr_UsesN_s (op:=op) (by omega);have hm:=ref10_meaning_s (op:=op) (by omega);have hus:usesB op=false:=by unfold usesB;simp;omega
 unfold Eq2 implNode expr_nodeType expr_resultType ref10_Result ref10_ranged ref10_found ref10_single ref10_kind;simp only[hu,hm,hus,fmt_f,expr_isNumber_s,ref10_number_s];obtain⟨ak,ae⟩:=a;rcases hop with h|h|h|h<;>subst h<;>cases N==0
 ·simp[exs,-Prod.exists]
 ·cases hn:numB ak<;>simp[idx0,hn,ha,exs,-Prod.exists]
 ·simp[exs,-Prod.exists]
 ·by_cases k1:ak=1
  ·subst k1;have:=vt_enum ha (by simp);simp only at this;subst this;simp[idx0,ha,exs,-Prod.exists]
  ·simp[idx0,k1,exs,-Prod.exists]
 ·simp[exs,-Prod.exists]
 ·by_cases k1:ak=5<;>simp[idx0,k1,vt_2,exs,-Prod.exists]
 ·simp[exs,-Prod.exists]
 ·by_cases k1:ak=5<;>simp[idx0,k1,vt_2,exs,-Prod.exists]
theorem node_33{N:Int}{s:GSignature}{a:GType}(ha:validTypeB a s.Enums=true):Eq2 ⟨33,N⟩ [a] s:=by
 have hu:=expr_UsesN_s (op:=33) (by omega);have hm:=ref10_meaning_s (op:=33) (by omega);have hus:usesB 33=true:=rfl;unfold Eq2 implNode expr_nodeType expr_tableType ref10_Result ref10_ranged ref10_found ref10_single;simp only[hu,hm,hus,ref09_ValidType_s,value_ValidType_s,fmt_t];by_cases h0:0≤N
 ·have e1:¬N<0:=by omega
  by_cases h1:N<(s.Tables.length:Int)
  ·obtain⟨t,ht⟩:∃t,idx s.Tables N=some t:=⟨_,idxI h0 h1⟩;have e2:¬(s.Tables.length:Int)≤N:=by omega
   cases hk:validTypeB t.Key s.Enums
   ·simp[idx0,ht,h0,h1,e1,e2,hk,exs,-Prod.exists]
   ·cases hv:validTypeB t.Value s.Enums
    ·simp[idx0,ht,h0,h1,e1,e2,hk,hv,exs,-Prod.exists]
    ·by_cases k1:a.Kind=t.Key.Kind<;>by_cases k2:a.Enum=t.Key.Enum<;>simp[idx0,ht,h0,h1,e1,e2,hk,hv,k1,k2,exs,-Prod.exists]
  ·have e2:(s.Tables.length:Int)≤N:=by omega
   simp[idx0,h0,h1,e1,e2,exs,-Prod.exists]
 ·have e1:N<0:=by omega
  have e3:¬N<(s.Tables.length:Int)∨N<(s.Tables.length:Int):=by omega
  simp[idx0,h0,e1,exs,-Prod.exists]
theorem node_34{N:Int}{s:GSignature}{a:GType}(hN:NodeOk ⟨34,N⟩) (ha:validTypeB a s.Enums=true):Eq2 ⟨34,N⟩ [a] s:=by
 have hu:=expr_UsesN_s (op:=34) (by omega);have hm:=ref10_meaning_s (op:=34) (by omega);have hus:usesB 34=true:=rfl;have w:=tdiv_w (n:=N) (k:=8) (by omega) hN;unfold Eq2 implNode expr_nodeType expr_tableType expr_validMode ref10_Result ref10_ranged ref10_found ref10_single ref10_kind;simp only[hu,hm,hus,ref09_ValidType_s,value_ValidType_s,fmt_t,w];by_cases h0:0≤N
 ·have e1:¬N<0:=by omega
  have hd:0≤Po N 8:=nr h0 (by omega);have hmod:0≤Pq N 8:=Ms _ h0;have e3:¬Po N 8<0:=by omega
  by_cases h5:Pq N 8≤5
  ·by_cases h1:Po N 8<(s.Tables.length:Int)
   ·obtain⟨t,ht⟩:∃t,idx s.Tables (Po N 8)=some t:=⟨_,idxI hd h1⟩;have e2:¬(s.Tables.length:Int)≤Po N 8:=by omega
    obtain⟨_,⟨kk,ke⟩,⟨vk,ve⟩,_⟩:=t;obtain⟨ak,ae⟩:=a;simp only[idx0,ht,h0,h1,e1,e2,e3,hmod,h5,nn,if_true,if_false,not_true_eq_false,not_false_eq_true,decide_false,decide_true,tn,Un,Hn,beq_self_eq_true,Gn,np,zp];by_cases hk3:kk=3
    ·subst hk3;by_cases hke:ke=0
     ·subst hke;rw[show validTypeB ⟨3,0⟩ s.Enums=true from vt_3];by_cases hv4:vk=4
      ·subst hv4;by_cases hve:ve=0
       ·subst hve;rw[show validTypeB ⟨4,0⟩ s.Enums=true from vt_4];by_cases ha3:ak=3
        ·subst ha3;have:=vt_enum ha (by simp);simp only at this;subst this;simp[vt_3,exs,-Prod.exists]
        ·simp[ha3,exs,-Prod.exists]
       ·have:validTypeB ⟨4,ve⟩ s.Enums=false:=by unfold validTypeB;simp[hve]
        rw[this];by_cases ha3:ak=3<;>simp[ha3,hve,exs,-Prod.exists]
      ·cases validTypeB ⟨vk,ve⟩ s.Enums<;>by_cases ha3:ak=3<;>by_cases hae:ae=0<;>simp[ha3,hae,hv4,exs,-Prod.exists]
     ·have:validTypeB ⟨3,ke⟩ s.Enums=false:=by unfold validTypeB;simp[hke]
      rw[this];by_cases ha3:ak=3<;>simp[ha3,hke,exs,-Prod.exists]
    ·cases validTypeB ⟨kk,ke⟩ s.Enums<;>cases validTypeB ⟨vk,ve⟩ s.Enums<;>by_cases ha3:ak=3<;>by_cases hak:ak=kk<;>by_cases hae:ae=ke<;>simp_all[exs,-Prod.exists]
   ·have e2:(s.Tables.length:Int)≤Po N 8:=by omega
    simp[idx0,h0,h1,e1,e2,e3,hmod,h5,exs,-Prod.exists]
  ·simp[idx0,h0,e1,hmod,h5,exs,-Prod.exists]
 ·have e1:N<0:=by omega
  simp[idx0,h0,e1,exs,-Prod.exists]
theorem node_26{N:Int}{s:GSignature}{a b c:GType}(hb:validTypeB b s.Enums=true):Eq2 ⟨26,N⟩ [a,b,c] s:=by
 have hu:=expr_UsesN_s (op:=26) (by omega);have hm:=ref10_meaning_s (op:=26) (by omega);have hus:usesB 26=false:=rfl;unfold Eq2 implNode expr_nodeType expr_resultType ref10_Result ref10_ranged ref10_found;simp only[hu,hm,hus,fmt_f];obtain⟨bk,be⟩:=b;cases N==0
 ·simp[exs,-Prod.exists]
 ·by_cases k1:a.Kind=1<;>by_cases k2:bk=c.Kind<;>by_cases k3:be=c.Enum<;>simp[idx0,idx1,idx2,k1,k2,k3,exs,-Prod.exists]
  all_goals simp_all
theorem res2{op N:Int}{s:GSignature}{a b:GType}{u:Bool}(hm:ref10_meaning op=some u) (hr:ref10_ranged ⟨op,N⟩ s=some true) (hf:ref10_found ⟨op,N⟩ s=some true) {t:GType}{ok:Bool}
 (hd:ref10_double op a b=some (t,ok)) (hu:u=true∨N=0):ref10_Result ⟨op,N⟩ [a,b] s=some (if ok=true then(t,0)else(⟨0,0⟩,8)):=by
 unfold ref10_Result;simp only[hm,hr,hf,idx0,idx1];rcases hu with rfl|rfl<;>cases ok<;>simp[hd]
theorem imp2{op N:Int}{s:GSignature}{a b:GType}{u:Bool}(hm:expr_UsesN op=some u) (h1:expr_nodeType ⟨op,N⟩ [a,b] s=(expr_resultType op [a,b]).bind fun x=>if x.2=false then some (⟨0,0⟩,8)else some (x.1,0)) {t:GType}{ok:Bool}
 (hd:expr_resultType op [a,b]=some (t,ok)) (hu:u=true∨N=0):implNode ⟨op,N⟩ [a,b] s=some (if ok=true then(t,0)else(⟨0,0⟩,8)):=by
 unfold implNode;rw[h1,hd];simp only[hm];rcases hu with rfl|rfl<;>cases ok<;>simp
theorem two_of{op N:Int}{s:GSignature}{a b:GType}(hop:(11≤op∧op≤24)∨(27≤op∧op≤30)) {t:GType}{ok:Bool}{t':GType}(hI:expr_resultType op [a,b]=some (t',ok)) (hR:ref10_double op a b=some (t,ok)) (ht:ok=true→t'=t∧validTypeB t s.Enums=true) :
 Eq2 ⟨op,N⟩ [a,b] s:=by
 have hu:=expr_UsesN_s (op:=op) (by omega);have hm:=ref10_meaning_s (op:=op) (by omega);have hr:(14≤op∧op≤16)∧ref10_ranged ⟨op,N⟩ s=some (decide (0≤N)&&decide (N≤5))∧expr_nodeType ⟨op,N⟩ [a,b] s=(if(decide (0≤N)&&decide (N≤5))=true then(expr_resultType op [a,b]).bind fun x=>if x.2=false then some (⟨0,0⟩,8)else some (x.1,0)else some (⟨0,0⟩,3))∨
  ¬(14≤op∧op≤16)∧ref10_ranged ⟨op,N⟩ s=some true∧expr_nodeType ⟨op,N⟩ [a,b] s=((expr_resultType op [a,b]).bind fun x=>if x.2=false then some (⟨0,0⟩,8)else some (x.1,0)):=by
  clear hI hR ht hu hm;by_cases h:14≤op∧op≤16
  ·refine .inl ⟨h,?_,?_⟩
   ·unfold ref10_ranged;simp only[range2];rcases(by omega:op=14∨op=15∨op=16)with h|h|h<;>subst h<;>simp
   ·unfold expr_nodeType expr_validMode;simp only[range2];rcases(by omega:op=14∨op=15∨op=16)with h|h|h<;>subst h<;>by_cases g1:0≤N<;>by_cases g2:N≤5<;>simp[g1,g2]
  ·refine .inr ⟨h,?_,?_⟩
   ·unfold ref10_ranged;rcases(by omega:op=11∨op=12∨op=13∨op=17∨op=18∨op=19∨op=20∨op=21∨op=22∨op=23∨op=24∨op=27∨op=28∨op=29∨op=30)with h|h|h|h|h|h|h|h|h|h|h|h|h|h|h<;>subst h<;>simp
   ·unfold expr_nodeType;rcases(by omega:op=11∨op=12∨op=13∨op=17∨op=18∨op=19∨op=20∨op=21∨op=22∨op=23∨op=24∨op=27∨op=28∨op=29∨op=30)with h|h|h|h|h|h|h|h|h|h|h|h|h|h|h<;>subst h<;>simp
 have hf:ref10_found ⟨op,N⟩ s=some true:=by
  unfold ref10_found;rcases(by omega:op=11∨op=12∨op=13∨op=14∨op=15∨op=16∨op=17∨op=18∨op=19∨op=20∨op=21∨op=22∨op=23∨op=24∨op=27∨op=28∨op=29∨op=30)with h|h|h|h|h|h|h|h|h|h|h|h|h|h|h|h|h|h<;>subst h<;>simp
 have fin:∀(hz:usesB op=true∨N=0),ref10_ranged ⟨op,N⟩ s=some true→expr_nodeType ⟨op,N⟩ [a,b] s=((expr_resultType op [a,b]).bind fun x=>if x.2=false then some (⟨0,0⟩,8)else some (x.1,0))→Eq2 ⟨op,N⟩ [a,b] s:=by
  intro hz h1 h2;unfold Eq2;rw[res2 hm h1 hf hR hz,imp2 hu h2 hI hz];cases ok
  ·by_cases hz:N=0<;>simp[hz,exs,-Prod.exists]
  ·obtain⟨rfl,h⟩:=ht rfl;exact⟨rfl,_,rfl,fun _=>h⟩
 rcases hr with⟨h,h1,h2⟩|⟨h,h1,h2⟩
 ·have hus:usesB op=true:=by unfold usesB;simp;omega
  by_cases hN:(decide (0≤N)&&decide (N≤5))=true
  ·rw[hN]at h1;rw[if_pos hN]at h2;exact fin (.inl hus) h1 h2
  ·rw[Is]at hN;rw[hN]at h1;rw[hN,if_neg (by simp)]at h2;unfold Eq2 implNode ref10_Result;simp only[hu,hm,hus,fmt_t,h1,h2,nn,tn,if_false,if_true];simp[hN,exs,-Prod.exists]
 ·have hus:usesB op=false:=by unfold usesB;simp;omega
  by_cases hN:N=0
  ·exact fin (.inr hN) h1 h2
  ·unfold Eq2 implNode ref10_Result;simp only[hu,hm,hus,fmt_f,show(N==0)=false by simpa using hN,nn,zp,if_true];simp[hN,exs,-Prod.exists]
theorem node_two{op N:Int}{s:GSignature}{a b:GType}(hop:(11≤op∧op≤24)∨(27≤op∧op≤30)) (ha:validTypeB a s.Enums=true):Eq2 ⟨op,N⟩ [a,b] s:=by
 have hz:∀k,1≤k→k≤5→a.Kind=k→a.Enum=0:=fun k h1 h2 h=>vt_enum ha (by omega);obtain⟨ak,ae⟩:=a;obtain⟨bk,be⟩:=b;simp only at hz;have hr:∃t t' ok,expr_resultType op [⟨ak,ae⟩,⟨bk,be⟩]=some (t',ok)∧ref10_double op ⟨ak,ae⟩ ⟨bk,be⟩=some (t,ok)∧(ok=true→t'=t∧validTypeB t s.Enums=true):=by
  unfold expr_resultType ref10_double expr_productType ref10_scaled ref10_kind;simp only[idx0,idx1,expr_isNumber_s,ref10_number_s,ref10_ordered_s];rcases(by omega:op=11∨op=12∨op=13∨op=14∨op=15∨op=16∨op=17∨op=18∨op=19∨op=20∨op=21∨op=22∨op=23∨op=24∨op=27∨op=28∨op=29∨op=30)with h|h|h|h|h|h|h|h|h|h|h|h|h|h|h|h|h|h<;>subst h
  ·by_cases k1:ak=bk∧ae=be
   ·cases hn:numB ak<;>simp[k1,hn,ha]
    all_goals simp_all
   ·simp[k1]
  ·by_cases k1:ak=bk∧ae=be
   ·cases hn:numB ak<;>simp[k1,hn,ha]
    all_goals simp_all
   ·simp[k1]
  ·by_cases k1:bk=2<;>by_cases k2:ak=2<;>by_cases k3:ak=3<;>simp[k1,k2,k3,vt_2,vt_3]
  ·by_cases k1:bk=4<;>by_cases k2:ak=3<;>by_cases k3:ak=4<;>simp[k1,k2,k3,vt_4,vt_3]
  ·by_cases k1:bk=2<;>by_cases k2:ak=2<;>by_cases k3:ak=3<;>by_cases k4:bk=3<;>simp[k1,k2,k3,k4,vt_2,vt_3,vt_4]
   all_goals simp_all
  ·by_cases k1:ak=3<;>by_cases k2:bk=3<;>simp[k1,k2]
   ·have:=hz 3 (by omega) (by omega) k1;simp[this,vt_3]
  ·by_cases k1:ak=bk∧ae=be
   ·cases hn:numB ak<;>by_cases k5:ak=5<;>simp[k1,hn,k5,ha]
    all_goals simp_all
   ·simp[k1]
  ·by_cases k1:ak=bk∧ae=be
   ·cases hn:numB ak<;>by_cases k5:ak=5<;>simp[k1,hn,k5,ha]
    all_goals simp_all
   ·simp[k1]
  ·by_cases k1:ak=bk<;>by_cases k2:ae=be<;>simp[k1,k2,vt_1]
  ·by_cases k1:ak=bk<;>by_cases k2:ae=be<;>simp[k1,k2,vt_1]
  ·by_cases k1:ak=bk∧ae=be
   ·cases hn:numB ak<;>by_cases k5:ak=5<;>simp[k1,hn,k5,vt_1]
    all_goals simp_all[vt_1]
   ·simp[k1]
  ·by_cases k1:ak=bk∧ae=be
   ·cases hn:numB ak<;>by_cases k5:ak=5<;>simp[k1,hn,k5,vt_1]
    all_goals simp_all[vt_1]
   ·simp[k1]
  ·by_cases k1:ak=1<;>by_cases k2:bk=1<;>simp[k1,k2]
   ·have:=hz 1 (by omega) (by omega) k1;simp[this,vt_1]
  ·by_cases k1:ak=1<;>by_cases k2:bk=1<;>simp[k1,k2]
   ·have:=hz 1 (by omega) (by omega) k1;simp[this,vt_1]
  ·by_cases k1:ak=5<;>by_cases k2:bk=2<;>simp[k1,k2]
   ·have:=hz 5 (by omega) (by omega) k1;simp[this,vt_5]
  ·by_cases k1:ak=5<;>by_cases k2:bk=2<;>simp[k1,k2]
   ·have:=hz 5 (by omega) (by omega) k1;simp[this,vt_5]
  ·by_cases k1:ak=5<;>by_cases k2:bk=5<;>simp[k1,k2,vt_2]
  ·by_cases k1:ak=5<;>by_cases k2:bk=5<;>simp[k1,k2,vt_2]
 obtain⟨t,t',ok,h1,h2,h3⟩:=hr;exact two_of hop h1 h2 h3
theorem node_eq{n:GNode}{ops:List GType}{s:GSignature}(hop:1≤n.Op∧n.Op≤39) (hN:NodeOk n) (hlen:(ops.length:Int)=arityS n.Op) (hv:∀t∈ops,validTypeB t s.Enums=true):Eq2 n ops s:=by
 obtain⟨op,N⟩:=n;simp only at hop hlen;unfold arityS at hlen;by_cases h0:(1≤op∧op≤9)∨(35≤op∧op≤39)
 ·rw[if_pos h0]at hlen;obtain rfl:ops=[]:=Jn (by omega);rcases(by omega:(1≤op∧op≤5)∨op=6∨op=7∨op=8∨op=9∨op=35∨(36≤op∧op≤39))with h|h|h|h|h|h|h
  ·exact node_lit h rfl
  ·subst h;exact node_6 hN
  ·subst h;exact node_7
  ·subst h;exact node_8
  ·subst h;exact node_9
  ·subst h;exact node_35
  ·exact node_mem h
 rw[if_neg h0]at hlen;by_cases h1:op=10∨op=25∨(31≤op∧op≤34)
 ·rw[if_pos h1]at hlen;obtain⟨a,rfl⟩:∃a,ops=[a]:=by
   match ops,hlen with
   |[a],_=>exact⟨a,rfl⟩
  have ha:=hv a (by simp);rcases(by omega:(op=10∨op=25∨op=31∨op=32)∨op=33∨op=34)with h|h|h
  ·exact node_one h ha
  ·subst h;exact node_33 ha
  ·subst h;exact node_34 hN ha
 rw[if_neg h1]at hlen;by_cases h2:op=26
 ·rw[if_pos h2]at hlen;obtain⟨a,b,c,rfl⟩:∃a b c,ops=[a,b,c]:=by
   match ops,hlen with
   |[a,b,c],_=>exact⟨a,b,c,rfl⟩
  subst h2;exact node_26 (hv b (by simp))
 rw[if_neg h2,if_pos (by omega)]at hlen;obtain⟨a,b,rfl⟩:∃a b,ops=[a,b]:=by
  match ops,hlen with
  |[a,b],_=>exact⟨a,b,rfl⟩
 exact node_two (by omega) (hv a (by simp))
end Go.Proofs.Dev
namespace Go.Proofs.Dev
open Go Go.Tm
def Ev1(n:GNode) (ops:List GType) (s:GSignature):Prop:=∃r,implNode n ops s=some r∧(r.2=0→validTypeB r.1 s.Enums=true)
theorem nod1_lit{n:GNode}{s:GSignature}{k:Int}(hk:1≤k∧k≤5) (hn:n.Op=k):Ev1 n [] s:=by
 have hu:=expr_UsesN_s (op:=n.Op) (by omega);have hus:usesB n.Op=true:=by unfold usesB;simp;omega
 have hv:validTypeB ⟨n.Op,0⟩ s.Enums=true:=vt_k (by omega) (by omega);have hI:implNode n [] s=some (if(bnd ⟨n.Op,0⟩ s.Enums).1≤n.N∧n.N≤(bnd ⟨n.Op,0⟩ s.Enums).2 then(⟨n.Op,0⟩,0)else(⟨0,0⟩,3)):=by
  have hlit:expr_literalType n.N n.Op s=some (if(bnd ⟨n.Op,0⟩ s.Enums).1≤n.N∧n.N≤(bnd ⟨n.Op,0⟩ s.Enums).2 then(⟨n.Op,0⟩,0)else(⟨0,0⟩,3)):=by
   unfold expr_literalType;simp only[value_Bounds_s,nn];by_cases g1:n.N<(bnd ⟨n.Op,0⟩ s.Enums).1<;>by_cases g2:(bnd ⟨n.Op,0⟩ s.Enums).2<n.N<;>simp[g1,g2]<;>omega
  have hT:expr_nodeType n [] s=expr_literalType n.N n.Op s:=by
   unfold expr_nodeType;rw[hlit];rcases(by omega:n.Op=1∨n.Op=2∨n.Op=3∨n.Op=4∨n.Op=5)with h|h|h|h|h<;>rw[h]at hlit⊢<;>simp[hlit]
  unfold implNode;rw[hT,hlit,hu,hus];by_cases hN:n.N=0<;>simp[hN]
 refine⟨_,hI,?_⟩;split
 ·exact fun _=>hv
 ·intro h;cases h
theorem nod1_6{N:Int}{s:GSignature}(hN:NodeOk ⟨6,N⟩):Ev1 ⟨6,N⟩ [] s:=by
 have w:=tdiv_w (n:=N) (k:=16) (by omega) hN;have hu:=expr_UsesN_s (op:=6) (by omega);have hus:usesB 6=true:=rfl;unfold Ev1 implNode expr_nodeType expr_enumType;simp only[w,hu,hus,fmt_t];by_cases h0:0≤N
 ·have hd:0≤Po N 16:=nr h0 (by omega);by_cases h1:Po N 16<(s.Enums.length:Int)
  ·rw[idx_lt0 ⟨mr,[]⟩ hd h1];have hv:validTypeB ⟨6,Po N 16⟩ s.Enums=true:=by unfold validTypeB;simp[hd,h1]
   generalize (s.Enums[(Po N 16).toNat]?).getD ⟨mr,[]⟩=m;have e1:¬N<0:=by omega
   have e2:¬(s.Enums.length:Int)≤Po N 16:=by omega
   by_cases h2:Pq N 16<(m.Members.length:Int)
   ·have e3:¬(m.Members.length:Int)≤Pq N 16:=by omega
    simp[h0,h1,h2,hv,e1,e2,e3,exs,-Prod.exists]
   ·have e3:(m.Members.length:Int)≤Pq N 16:=by omega
    simp[h0,h1,h2,hv,e1,e2,e3,exs,-Prod.exists]
  ·have e1:¬N<0:=by omega
   have e2:(s.Enums.length:Int)≤Po N 16:=by omega
   simp[h0,h1,e1,e2,exs,-Prod.exists]
 ·have e1:N<0:=by omega
  simp[h0,e1,exs,-Prod.exists]
theorem nod1_7{N:Int}{s:GSignature}:Ev1 ⟨7,N⟩ [] s:=by
 have hu:=expr_UsesN_s (op:=7) (by omega);have hus:usesB 7=true:=rfl;unfold Ev1 implNode expr_nodeType expr_listedType;simp only[hu,hus,value_ValidType_s,fmt_t];by_cases h0:0≤N
 ·have e1:¬N<0:=by omega
  by_cases h1:N<(s.Inputs.length:Int)
  ·rw[idx_lt0 ⟨0,0⟩ h0 h1];generalize (s.Inputs[N.toNat]?).getD ⟨0,0⟩=t;obtain⟨tk,te⟩:=t;have e2:¬(s.Inputs.length:Int)≤N:=by omega
   cases hv:validTypeB ⟨tk,te⟩ s.Enums<;>simp[h0,h1,hv,e1,e2,exs,-Prod.exists]
  ·have e2:(s.Inputs.length:Int)≤N:=by omega
   simp[h0,h1,e1,e2,exs,-Prod.exists]
 ·have e1:N<0:=by omega
  simp[h0,e1,exs,-Prod.exists]
theorem nod1_8{N:Int}{s:GSignature}:Ev1 ⟨8,N⟩ [] s:=by
 have hu:=expr_UsesN_s (op:=8) (by omega);have hus:usesB 8=true:=rfl;unfold Ev1 implNode expr_nodeType expr_listedType;simp only[hu,hus,value_ValidType_s,fmt_t];by_cases h0:0≤N
 ·have e1:¬N<0:=by omega
  by_cases h1:N<(s.Defs.length:Int)
  ·rw[idx_lt0 ⟨0,0⟩ h0 h1];generalize (s.Defs[N.toNat]?).getD ⟨0,0⟩=t;obtain⟨tk,te⟩:=t;have e2:¬(s.Defs.length:Int)≤N:=by omega
   cases hv:validTypeB ⟨tk,te⟩ s.Enums<;>simp[h0,h1,hv,e1,e2,exs,-Prod.exists]
  ·have e2:(s.Defs.length:Int)≤N:=by omega
   simp[h0,h1,e1,e2,exs,-Prod.exists]
 ·have e1:N<0:=by omega
  simp[h0,e1,exs,-Prod.exists]
theorem nod1_9{N:Int}{s:GSignature}:Ev1 ⟨9,N⟩ [] s:=by
 have hu:=expr_UsesN_s (op:=9) (by omega);have hus:usesB 9=false:=rfl;unfold Ev1 implNode expr_nodeType;simp only[hu,hus,fmt_f];cases N==0<;>simp[vt_5,exs,-Prod.exists]
theorem nod1_35{N:Int}{s:GSignature}:Ev1 ⟨35,N⟩ [] s:=by
 have hu:=expr_UsesN_s (op:=35) (by omega);have hus:usesB 35=false:=rfl;unfold Ev1 implNode expr_nodeType expr_memberType;simp only[hu,hus,fmt_f];cases hm:s.HasMembers<;>cases N==0<;>simp[vt_2,exs,-Prod.exists]
theorem nod1_mem{op N:Int}{s:GSignature}(h:36≤op∧op≤39):Ev1 ⟨op,N⟩ [] s:=by
 have hu:=expr_UsesN_s (op:=op) (by omega);have hus:usesB op=true:=by unfold usesB;simp;omega
 unfold Ev1 implNode expr_nodeType expr_memberType expr_listedType;simp only[hu,hus,value_ValidType_s,expr_isNumber_s,fmt_t];cases hM:s.HasMembers
 ·rcases(by omega:op=36∨op=37∨op=38∨op=39)with h|h|h|h<;>subst h<;>simp[hM,exs,-Prod.exists]
 ·by_cases h0:0≤N
  ·have e1:¬N<0:=by omega
   by_cases h1:N<(s.MemberDefs.length:Int)
   ·rw[idx_lt0 ⟨0,0⟩ h0 h1];generalize (s.MemberDefs[N.toNat]?).getD ⟨0,0⟩=t;obtain⟨tk,te⟩:=t;have e2:¬(s.MemberDefs.length:Int)≤N:=by omega
    cases hv:validTypeB ⟨tk,te⟩ s.Enums
    ·rcases(by omega:op=36∨op=37∨op=38∨op=39)with h|h|h|h<;>subst h<;>simp[hM,h0,h1,hv,e1,e2,exs,-Prod.exists]
    ·rcases(by omega:op=36∨op=37∨op=38∨op=39)with h|h|h|h<;>subst h<;>simp only[hM,h0,h1,hv,e1,e2,nn,if_true,if_false,not_true_eq_false,not_false_eq_true,decide_false,decide_true,tn,Un,Hn,beq_self_eq_true,Gn]
     ·by_cases k2:tk=2<;>by_cases k3:tk=3<;>simp[k2,k3,hv,exs,-Prod.exists]<;>simp_all
     ·by_cases k1:tk=1<;>simp[k1,hv,exs,-Prod.exists]<;>simp_all
     ·by_cases k1:tk=1<;>simp[k1,hv,exs,-Prod.exists]<;>simp_all
     ·cases numB tk<;>by_cases k5:tk=5<;>simp[k5,hv,exs,-Prod.exists]<;>simp_all
   ·have e2:(s.MemberDefs.length:Int)≤N:=by omega
    rcases(by omega:op=36∨op=37∨op=38∨op=39)with h|h|h|h<;>subst h<;>simp[hM,h0,h1,e1,e2,exs,-Prod.exists]
  ·have e1:N<0:=by omega
   rcases(by omega:op=36∨op=37∨op=38∨op=39)with h|h|h|h<;>subst h<;>simp[hM,h0,e1,exs,-Prod.exists]
end Go.Proofs.Dev
namespace Go.Proofs.Dev
open Go Go.Tm
theorem nod1_one{op N:Int}{s:GSignature}{a:GType}(hop:op=10∨op=25∨op=31∨op=32) (ha:validTypeB a s.Enums=true):Ev1 ⟨op,N⟩ [a] s:=by
 have hu:=expr_UsesN_s (op:=op) (by omega);have hus:usesB op=false:=by unfold usesB;simp;omega
 unfold Ev1 implNode expr_nodeType expr_resultType;simp only[hu,hus,fmt_f,expr_isNumber_s];obtain⟨ak,ae⟩:=a;rcases hop with h|h|h|h<;>subst h<;>cases N==0
 ·simp[exs,-Prod.exists]
 ·cases hn:numB ak<;>simp[idx0,hn,ha,exs,-Prod.exists]
 ·simp[exs,-Prod.exists]
 ·by_cases k1:ak=1
  ·subst k1;have:=vt_enum ha (by simp);simp only at this;subst this;simp[idx0,ha,exs,-Prod.exists]
  ·simp[idx0,k1,exs,-Prod.exists]
 ·simp[exs,-Prod.exists]
 ·by_cases k1:ak=5<;>simp[idx0,k1,vt_2,exs,-Prod.exists]
 ·simp[exs,-Prod.exists]
 ·by_cases k1:ak=5<;>simp[idx0,k1,vt_2,exs,-Prod.exists]
theorem nod1_33{N:Int}{s:GSignature}{a:GType}(ha:validTypeB a s.Enums=true):Ev1 ⟨33,N⟩ [a] s:=by
 have hu:=expr_UsesN_s (op:=33) (by omega);have hus:usesB 33=true:=rfl;unfold Ev1 implNode expr_nodeType expr_tableType;simp only[hu,hus,value_ValidType_s,fmt_t];by_cases h0:0≤N
 ·have e1:¬N<0:=by omega
  by_cases h1:N<(s.Tables.length:Int)
  ·obtain⟨t,ht⟩:∃t,idx s.Tables N=some t:=⟨_,idxI h0 h1⟩;have e2:¬(s.Tables.length:Int)≤N:=by omega
   cases hk:validTypeB t.Key s.Enums
   ·simp[idx0,ht,h0,h1,e1,e2,hk,exs,-Prod.exists]
   ·cases hv:validTypeB t.Value s.Enums
    ·simp[idx0,ht,h0,h1,e1,e2,hk,hv,exs,-Prod.exists]
    ·by_cases k1:a.Kind=t.Key.Kind<;>by_cases k2:a.Enum=t.Key.Enum<;>simp[idx0,ht,h0,h1,e1,e2,hk,hv,k1,k2,exs,-Prod.exists]
  ·have e2:(s.Tables.length:Int)≤N:=by omega
   simp[idx0,h0,h1,e1,e2,exs,-Prod.exists]
 ·have e1:N<0:=by omega
  have e3:¬N<(s.Tables.length:Int)∨N<(s.Tables.length:Int):=by omega
  simp[idx0,h0,e1,exs,-Prod.exists]
theorem nod1_34{N:Int}{s:GSignature}{a:GType}(hN:NodeOk ⟨34,N⟩) (ha:validTypeB a s.Enums=true):Ev1 ⟨34,N⟩ [a] s:=by
 have hu:=expr_UsesN_s (op:=34) (by omega);have hus:usesB 34=true:=rfl;have w:=tdiv_w (n:=N) (k:=8) (by omega) hN;unfold Ev1 implNode expr_nodeType expr_tableType expr_validMode;simp only[hu,hus,value_ValidType_s,fmt_t,w];by_cases h0:0≤N
 ·have e1:¬N<0:=by omega
  have hd:0≤Po N 8:=nr h0 (by omega);have hmod:0≤Pq N 8:=Ms _ h0;have e3:¬Po N 8<0:=by omega
  by_cases h5:Pq N 8≤5
  ·by_cases h1:Po N 8<(s.Tables.length:Int)
   ·obtain⟨t,ht⟩:∃t,idx s.Tables (Po N 8)=some t:=⟨_,idxI hd h1⟩;have e2:¬(s.Tables.length:Int)≤Po N 8:=by omega
    obtain⟨_,⟨kk,ke⟩,⟨vk,ve⟩,_⟩:=t;obtain⟨ak,ae⟩:=a;simp only[idx0,ht,h0,h1,e1,e2,e3,hmod,h5,nn,if_true,if_false,not_true_eq_false,not_false_eq_true,decide_false,decide_true,tn,Un,Hn,beq_self_eq_true,Gn,np,zp];by_cases hk3:kk=3
    ·subst hk3;by_cases hke:ke=0
     ·subst hke;rw[show validTypeB ⟨3,0⟩ s.Enums=true from vt_3];by_cases hv4:vk=4
      ·subst hv4;by_cases hve:ve=0
       ·subst hve;rw[show validTypeB ⟨4,0⟩ s.Enums=true from vt_4];by_cases ha3:ak=3
        ·subst ha3;have:=vt_enum ha (by simp);simp only at this;subst this;simp[vt_3,exs,-Prod.exists]
        ·simp[ha3,exs,-Prod.exists]
       ·have:validTypeB ⟨4,ve⟩ s.Enums=false:=by unfold validTypeB;simp[hve]
        rw[this];by_cases ha3:ak=3<;>simp[ha3,hve,exs,-Prod.exists]
      ·cases validTypeB ⟨vk,ve⟩ s.Enums<;>by_cases ha3:ak=3<;>by_cases hae:ae=0<;>simp[ha3,hae,hv4,exs,-Prod.exists]
     ·have:validTypeB ⟨3,ke⟩ s.Enums=false:=by unfold validTypeB;simp[hke]
      rw[this];by_cases ha3:ak=3<;>simp[ha3,hke,exs,-Prod.exists]
    ·cases validTypeB ⟨kk,ke⟩ s.Enums<;>cases validTypeB ⟨vk,ve⟩ s.Enums<;>by_cases ha3:ak=3<;>by_cases hak:ak=kk<;>by_cases hae:ae=ke<;>simp_all[exs,-Prod.exists]
   ·have e2:(s.Tables.length:Int)≤Po N 8:=by omega
    simp[idx0,h0,h1,e1,e2,e3,hmod,h5,exs,-Prod.exists]
  ·simp[idx0,h0,e1,hmod,h5,exs,-Prod.exists]
 ·have e1:N<0:=by omega
  simp[idx0,h0,e1,exs,-Prod.exists]
theorem nod1_26{N:Int}{s:GSignature}{a b c:GType}(hb:validTypeB b s.Enums=true):Ev1 ⟨26,N⟩ [a,b,c] s:=by
 have hu:=expr_UsesN_s (op:=26) (by omega);have hus:usesB 26=false:=rfl;unfold Ev1 implNode expr_nodeType expr_resultType;simp only[hu,hus,fmt_f];obtain⟨bk,be⟩:=b;cases N==0
 ·simp[exs,-Prod.exists]
 ·by_cases k1:a.Kind=1<;>by_cases k2:bk=c.Kind<;>by_cases k3:be=c.Enum<;>simp[idx0,idx1,idx2,k1,k2,k3,exs,-Prod.exists]
  all_goals simp_all
theorem two_of1{op N:Int}{s:GSignature}{a b:GType}(hop:(11≤op∧op≤24)∨(27≤op∧op≤30)) {ok:Bool}{t':GType}(hI:expr_resultType op [a,b]=some (t',ok)) (ht:ok=true→validTypeB t' s.Enums=true) :
 Ev1 ⟨op,N⟩ [a,b] s:=by
 have hu:=expr_UsesN_s (op:=op) (by omega);have hr:(14≤op∧op≤16)∧expr_nodeType ⟨op,N⟩ [a,b] s=(if(decide (0≤N)&&decide (N≤5))=true then(expr_resultType op [a,b]).bind fun x=>if x.2=false then some (⟨0,0⟩,8)else some (x.1,0)else some (⟨0,0⟩,3))∨
  ¬(14≤op∧op≤16)∧expr_nodeType ⟨op,N⟩ [a,b] s=((expr_resultType op [a,b]).bind fun x=>if x.2=false then some (⟨0,0⟩,8)else some (x.1,0)):=by
  clear hI ht hu;by_cases h:14≤op∧op≤16
  ·refine .inl ⟨h,?_⟩
   ·unfold expr_nodeType expr_validMode;simp only[range2];rcases(by omega:op=14∨op=15∨op=16)with h|h|h<;>subst h<;>by_cases g1:0≤N<;>by_cases g2:N≤5<;>simp[g1,g2]
  ·refine .inr ⟨h,?_⟩
   ·unfold expr_nodeType;rcases(by omega:op=11∨op=12∨op=13∨op=17∨op=18∨op=19∨op=20∨op=21∨op=22∨op=23∨op=24∨op=27∨op=28∨op=29∨op=30)with h|h|h|h|h|h|h|h|h|h|h|h|h|h|h<;>subst h<;>simp
 have fin:∀(hz:usesB op=true∨N=0),expr_nodeType ⟨op,N⟩ [a,b] s=((expr_resultType op [a,b]).bind fun x=>if x.2=false then some (⟨0,0⟩,8)else some (x.1,0))→Ev1 ⟨op,N⟩ [a,b] s:=by
  intro hz h2;unfold Ev1;rw[imp2 hu h2 hI hz];cases ok
  ·by_cases hz:N=0<;>simp[hz,exs,-Prod.exists]
  ·exact⟨_,rfl,fun _=>ht rfl⟩
 rcases hr with⟨h,h2⟩|⟨h,h2⟩
 ·have hus:usesB op=true:=by unfold usesB;simp;omega
  by_cases hN:(decide (0≤N)&&decide (N≤5))=true
  ·rw[if_pos hN]at h2;exact fin (.inl hus) h2
  ·rw[Is]at hN;rw[hN,if_neg (by simp)]at h2;unfold Ev1 implNode;simp only[hu,hus,fmt_t,h2,nn,tn,if_false,if_true];simp[hN,exs,-Prod.exists]
 ·have hus:usesB op=false:=by unfold usesB;simp;omega
  by_cases hN:N=0
  ·exact fin (.inr hN) h2
  ·unfold Ev1 implNode;simp only[hu,hus,fmt_f,show(N==0)=false by simpa using hN,nn,zp,if_true];simp[hN,exs,-Prod.exists]
theorem nod1_two{op N:Int}{s:GSignature}{a b:GType}(hop:(11≤op∧op≤24)∨(27≤op∧op≤30)) (ha:validTypeB a s.Enums=true):Ev1 ⟨op,N⟩ [a,b] s:=by
 have hz:∀k,1≤k→k≤5→a.Kind=k→a.Enum=0:=fun k h1 h2 h=>vt_enum ha (by omega);obtain⟨ak,ae⟩:=a;obtain⟨bk,be⟩:=b;simp only at hz;have hr:∃t' ok,expr_resultType op [⟨ak,ae⟩,⟨bk,be⟩]=some (t',ok)∧(ok=true→validTypeB t' s.Enums=true):=by
  unfold expr_resultType expr_productType;simp only[idx0,idx1,expr_isNumber_s];rcases(by omega:op=11∨op=12∨op=13∨op=14∨op=15∨op=16∨op=17∨op=18∨op=19∨op=20∨op=21∨op=22∨op=23∨op=24∨op=27∨op=28∨op=29∨op=30)with h|h|h|h|h|h|h|h|h|h|h|h|h|h|h|h|h|h<;>subst h
  ·by_cases k1:ak=bk∧ae=be
   ·cases hn:numB ak<;>simp[k1,hn,ha]
    all_goals simp_all
   ·simp[k1]
  ·by_cases k1:ak=bk∧ae=be
   ·cases hn:numB ak<;>simp[k1,hn,ha]
    all_goals simp_all
   ·simp[k1]
  ·by_cases k1:bk=2<;>by_cases k2:ak=2<;>by_cases k3:ak=3<;>simp[k1,k2,k3,vt_2,vt_3]
  ·by_cases k1:bk=4<;>by_cases k2:ak=3<;>by_cases k3:ak=4<;>simp[k1,k2,k3,vt_4,vt_3]
  ·by_cases k1:bk=2<;>by_cases k2:ak=2<;>by_cases k3:ak=3<;>by_cases k4:bk=3<;>simp[k1,k2,k3,k4,vt_2,vt_3,vt_4]
   all_goals simp_all
  ·by_cases k1:ak=3<;>by_cases k2:bk=3<;>simp[k1,k2]
   ·have:=hz 3 (by omega) (by omega) k1;simp[this,vt_3]
  ·by_cases k1:ak=bk∧ae=be
   ·cases hn:numB ak<;>by_cases k5:ak=5<;>simp[k1,hn,k5,ha]
    all_goals simp_all
   ·simp[k1]
  ·by_cases k1:ak=bk∧ae=be
   ·cases hn:numB ak<;>by_cases k5:ak=5<;>simp[k1,hn,k5,ha]
    all_goals simp_all
   ·simp[k1]
  ·by_cases k1:ak=bk<;>by_cases k2:ae=be<;>simp[k1,k2,vt_1]
  ·by_cases k1:ak=bk<;>by_cases k2:ae=be<;>simp[k1,k2,vt_1]
  ·by_cases k1:ak=bk∧ae=be
   ·cases hn:numB ak<;>by_cases k5:ak=5<;>simp[k1,hn,k5,vt_1]
    all_goals simp_all[vt_1]
   ·simp[k1]
  ·by_cases k1:ak=bk∧ae=be
   ·cases hn:numB ak<;>by_cases k5:ak=5<;>simp[k1,hn,k5,vt_1]
    all_goals simp_all[vt_1]
   ·simp[k1]
  ·by_cases k1:ak=1<;>by_cases k2:bk=1<;>simp[k1,k2]
   ·have:=hz 1 (by omega) (by omega) k1;simp[this,vt_1]
  ·by_cases k1:ak=1<;>by_cases k2:bk=1<;>simp[k1,k2]
   ·have:=hz 1 (by omega) (by omega) k1;simp[this,vt_1]
  ·by_cases k1:ak=5<;>by_cases k2:bk=2<;>simp[k1,k2]
   ·have:=hz 5 (by omega) (by omega) k1;simp[this,vt_5]
  ·by_cases k1:ak=5<;>by_cases k2:bk=2<;>simp[k1,k2]
   ·have:=hz 5 (by omega) (by omega) k1;simp[this,vt_5]
  ·by_cases k1:ak=5<;>by_cases k2:bk=5<;>simp[k1,k2,vt_2]
  ·by_cases k1:ak=5<;>by_cases k2:bk=5<;>simp[k1,k2,vt_2]
 obtain⟨t',ok,h1,h3⟩:=hr;exact two_of1 hop h1 h3
theorem nod1_eq{n:GNode}{ops:List GType}{s:GSignature}(hop:1≤n.Op∧n.Op≤39) (hN:NodeOk n) (hlen:(ops.length:Int)=arityS n.Op) (hv:∀t∈ops,validTypeB t s.Enums=true):Ev1 n ops s:=by
 obtain⟨op,N⟩:=n;simp only at hop hlen;unfold arityS at hlen;by_cases h0:(1≤op∧op≤9)∨(35≤op∧op≤39)
 ·rw[if_pos h0]at hlen;obtain rfl:ops=[]:=Jn (by omega);rcases(by omega:(1≤op∧op≤5)∨op=6∨op=7∨op=8∨op=9∨op=35∨(36≤op∧op≤39))with h|h|h|h|h|h|h
  ·exact nod1_lit h rfl
  ·subst h;exact nod1_6 hN
  ·subst h;exact nod1_7
  ·subst h;exact nod1_8
  ·subst h;exact nod1_9
  ·subst h;exact nod1_35
  ·exact nod1_mem h
 rw[if_neg h0]at hlen;by_cases h1:op=10∨op=25∨(31≤op∧op≤34)
 ·rw[if_pos h1]at hlen;obtain⟨a,rfl⟩:∃a,ops=[a]:=by
   match ops,hlen with
   |[a],_=>exact⟨a,rfl⟩
  have ha:=hv a (by simp);rcases(by omega:(op=10∨op=25∨op=31∨op=32)∨op=33∨op=34)with h|h|h
  ·exact nod1_one h ha
  ·subst h;exact nod1_33 ha
  ·subst h;exact nod1_34 hN ha
 rw[if_neg h1]at hlen;by_cases h2:op=26
 ·rw[if_pos h2]at hlen;obtain⟨a,b,c,rfl⟩:∃a b c,ops=[a,b,c]:=by
   match ops,hlen with
   |[a,b,c],_=>exact⟨a,b,c,rfl⟩
  subst h2;exact nod1_26 (hv b (by simp))
 rw[if_neg h2,if_pos (by omega)]at hlen;obtain⟨a,b,rfl⟩:∃a b,ops=[a,b]:=by
  match ops,hlen with
  |[a,b],_=>exact⟨a,b,rfl⟩
 exact nod1_two (by omega) (hv a (by simp))
end Go.Proofs.Dev
namespace Go.Proofs.Dev
open Go Go.Tm
def ndAt(e:List GNode) (i:Nat):GNode:=(e[i]?).getD ⟨0,0⟩
theorem ndAt_lt{e:List GNode}{i:Nat}(h:i<e.length):e[i]=ndAt e i:=by
 unfold ndAt;rw[pn h];rfl
def stk(e:List GNode):Nat→List Int×List Int
 |0=>([],[])
 |i+1=>
  let p:=stk e i
  let a:=(arityS (ndAt e i).Op).toNat
  let f:=if 0<a then(p.2[p.2.length-a]?).getD 0 else(i:Int)
  (p.1++[f],p.2.take (p.2.length-a)++[f])
theorem stk_len(e:List GNode):∀i,(stk e i).1.length=i
 |0=>rfl
 |i+1=>by simp[stk,stk_len e i]
def errAt(e:List GNode) (i:Nat):Option (List Int×Int×Int):=
 if arityS (ndAt e i).Op<0 then some ([],(i:Int),2)
 else if((stk e i).2.length:Int)<arityS (ndAt e i).Op then some ([],(i:Int),5)
 else if 12<(stk e (i+1)).2.length then some ([],(i:Int),16)else none
def structS(e:List GNode):List Int×Int×Int:=
 if 48<e.length then([],0,4)else if e.length=0 then([],0,5)
 else match ff (errAt e) e.length with
  |some v=>v
  |none=>if 1<(stk e e.length).2.length then([],(e.length:Int),4)else((stk e e.length).1,0,0)
theorem stk_small{e:List GNode}{i:Nat}(h:∀j,j<i→errAt e j=none):(stk e i).2.length≤12:=by
 cases i with
 |zero=>simp[stk]
 |succ i=>
  have:=h i (by omega);unfold errAt at this;split at this
  ·cases this
  ·split at this
   ·cases this
   ·split at this
    ·cases this
    ·omega
theorem set_mid{p:List Int}{i n:Nat}{f:Int}(hp:p.length=i) (h:i<n):(p++yn (n-i) 0).set i f=p++[f]++yn (n-(i+1)) 0:=by
 obtain⟨k,hk⟩:∃k,n-i=k+1:=⟨n-i-1,by omega⟩;have hk':n-(i+1)=k:=by omega
 rw[hk,hk',List.replicate_succ,Qr _ _ (by omega),hp,Vq,List.set_cons_zero];simp
theorem get_mid{p r:List Int}{i:Nat}{f:Int}(hp:p.length=i):(p++[f]++r)[i]?=some f:=by
 rw[Mo,List.getElem?_append_right (by omega),hp,Vq];rfl
theorem expr_structure_s(e:List GNode):expr_structure e=some (structS e):=by
 unfold expr_structure structS;by_cases h48:48<e.length
 ·rw[if_pos (by omega),if_pos h48]
 rw[if_neg (by omega),if_neg h48];by_cases h0:e.length=0
 ·rw[if_pos (by omega),if_pos h0]
 rw[if_neg (by omega),if_neg h0,mksN (by omega) (by omega),nn];have hl:loopO (expr_structure_L1 e) (yn e.length 0,([]:List Int),0)=some (outR ((stk e e.length).1,(stk e e.length).2) (ff (errAt e) e.length)):=by
  refine loopF (fun i=>((stk e i).1++yn (e.length-i) 0,(stk e i).2,(i:Int))) (errAt e) e.length _ (fun i hi hf=>?_) (fun _=>?_) ?_
  ·have hs:=stk_small hf;have hl:=stk_len e i;unfold expr_structure_L1 errAt;simp only;rw[if_pos (by omega),idxN hi,nn,ndAt_lt hi,expr_Arity_s,nn];by_cases ha:arityS (ndAt e i).Op<0
   ·rw[if_pos ha,if_pos ha];rfl
   rw[if_neg ha,if_neg ha];by_cases hb:((stk e i).2.length:Int)<arityS (ndAt e i).Op
   ·rw[if_pos hb,if_pos hb];rfl
   rw[if_neg hb,if_neg hb];obtain⟨a,ha'⟩:∃a:Nat,arityS (ndAt e i).Op=a:=⟨(arityS (ndAt e i).Op).toNat,by omega⟩;have hst:stk e (i+1)=((stk e i).1++[if 0<a then((stk e i).2[(stk e i).2.length-a]?).getD 0 else(i:Int)],(stk e i).2.take ((stk e i).2.length-a)++[if 0<a then((stk e i).2[(stk e i).2.length-a]?).getD 0 else(i:Int)]):=by
    simp only[stk,ha',Zp]
   have hsub:wrapF .i64 (((stk e i).2.length:Int)-(a:Int))=(((stk e i).2.length-a:Nat):Int):=by
    rw[wid (by omega) (by omega)];omega
   rw[ha',hst,hsub];generalize hS:(stk e i).2=sk at *;generalize (stk e i).1=st at *;rw[ha']at hb;rw[idxN (i:=i) (by simp;omega),nn,putN (by simp;omega),nn,set_mid hl hi,subhN (by omega)];by_cases h0a:0<a
   ·have hk:sk.length-a<sk.length:=by omega
    rw[if_pos (by omega),if_pos h0a,idxN hk,nn,idxN (i:=i) (by simp;omega),nn,putN (by simp;omega),nn];have hset:(st++[(i:Int)]++yn (e.length-(i+1)) 0).set i sk[sk.length-a]=st++[sk[sk.length-a]]++yn (e.length-(i+1)) 0:=by
     rw[Mo,Qr _ _ (by omega),hl,Vq];simp
    rw[hset,nn,nn,pn hk,cp,idxN?,get_mid hl,nn];rw[appS (by simp;omega),nn];by_cases hd:12<(sk.take (sk.length-a)++[sk[sk.length-a]]).length
    ·rw[if_pos (by omega),if_pos hd];rfl
    ·rw[if_neg (by omega),if_neg hd,wsucc (by omega)];rfl
   ·rw[if_neg (by omega),if_neg h0a,nn,nn,idxN?,get_mid hl,nn];rw[appS (by simp;omega),nn];by_cases hd:12<(sk.take (sk.length-a)++[(i:Int)]).length
    ·rw[if_pos (by omega),if_pos hd];rfl
    ·rw[if_neg (by omega),if_neg hd,wsucc (by omega)];rfl
  ·unfold expr_structure_L1;simp
  ·simp[stk]
 rw[hl]
 cases ff (errAt e) e.length with
 |some v=>rfl
 |none=>
  simp only[outR,nn];by_cases h1:1<(stk e e.length).2.length
  ·rw[if_pos (by omega),if_pos h1]
  ·rw[if_neg (by omega),if_neg h1]
theorem ref10_structure_s(e:List GNode):ref10_structure e=some (structS e):=by
 unfold ref10_structure structS;by_cases h48:48<e.length
 ·rw[if_pos (by omega),if_pos h48]
 rw[if_neg (by omega),if_neg h48];by_cases h0:e.length=0
 ·rw[if_pos (by omega),if_pos h0]
 rw[if_neg (by omega),if_neg h0];have hl:loopO (ref10_structure_L1 e) (([]:List Int),([]:List Int),0)=some (outR ((stk e e.length).1,(stk e e.length).2) (ff (errAt e) e.length)):=by
  refine loopF (fun i=>((stk e i).1,(stk e i).2,(i:Int))) (errAt e) e.length _ (fun i hi hf=>?_) (fun _=>?_)
  ·have hs:=stk_small hf;have hl:=stk_len e i;unfold ref10_structure_L1 errAt;simp only;rw[if_pos (by omega),idxN hi,nn,ndAt_lt hi,ref10_Arity_s,nn];by_cases ha:arityS (ndAt e i).Op<0
   ·rw[if_pos ha,if_pos ha];rfl
   rw[if_neg ha,if_neg ha];by_cases hb:((stk e i).2.length:Int)<arityS (ndAt e i).Op
   ·rw[if_pos hb,if_pos hb];rfl
   rw[if_neg hb,if_neg hb];obtain⟨a,ha'⟩:∃a:Nat,arityS (ndAt e i).Op=a:=⟨(arityS (ndAt e i).Op).toNat,by omega⟩;have hst:stk e (i+1)=((stk e i).1++[if 0<a then((stk e i).2[(stk e i).2.length-a]?).getD 0 else(i:Int)],(stk e i).2.take ((stk e i).2.length-a)++[if 0<a then((stk e i).2[(stk e i).2.length-a]?).getD 0 else(i:Int)]):=by
    simp only[stk,ha',Zp]
   have hsub:wrapF .i64 (((stk e i).2.length:Int)-(a:Int))=(((stk e i).2.length-a:Nat):Int):=by
    rw[wid (by omega) (by omega)];omega
   rw[ha',hst,hsub];generalize hS:(stk e i).2=sk at *;generalize (stk e i).1=st at *;rw[ha']at hb;by_cases h0a:0<a
   ·have hk:sk.length-a<sk.length:=by omega
    rw[if_pos (by omega),if_pos h0a,idxN hk,nn,subhN (by omega),nn,nn,pn hk,cp];simp only;rw[appS (by simp;omega),nn,appS (by simp;omega),nn];by_cases hd:12<(sk.take (sk.length-a)++[sk[sk.length-a]]).length
    ·rw[if_pos (by omega),if_pos hd];rfl
    ·rw[if_neg (by omega),if_neg hd,wsucc (by omega)];rfl
   ·have ha0:a=0:=by omega
    subst ha0;rw[if_neg (by omega),if_neg h0a,nn];simp only[Nat.sub_zero,Ho];rw[appS (by simp;omega),nn,appS (by simp;omega),nn];by_cases hd:12<(sk++[(i:Int)]).length
    ·rw[if_pos (by omega),if_pos hd];rfl
    ·rw[if_neg (by omega),if_neg hd,wsucc (by omega)];rfl
  ·unfold ref10_structure_L1;simp
 rw[hl]
 cases ff (errAt e) e.length with
 |some v=>rfl
 |none=>
  simp only[outR,nn];by_cases h1:1<(stk e e.length).2.length
  ·rw[if_pos (by omega),if_pos h1]
  ·rw[if_neg (by omega),if_neg h1]
end Go.Proofs.Dev
namespace Go.Proofs.Dev
open Go Go.Tm
def arN(e:List GNode) (i:Nat):Nat:=(arityS (ndAt e i).Op).toNat
noncomputable def resAt(e:List GNode) (s:GSignature) (st:List GType) (i:Nat):GType×Int:=(implNode (ndAt e i) (st.drop (st.length-arN e i)) s).getD (⟨0,0⟩,0)
noncomputable def tys(e:List GNode) (s:GSignature):Nat→List GType
 |0=>[]
 |i+1=>(tys e s i).take ((tys e s i).length-arN e i)++[(resAt e s (tys e s i) i).1]
noncomputable def terr(e:List GNode) (s:GSignature) (i:Nat):Option (GType×Int×Int):=
 if(resAt e s (tys e s i) i).2=0 then none else some (⟨0,0⟩,(i:Int),(resAt e s (tys e s i) i).2)
noncomputable def typeS(e:List GNode) (s:GSignature):GType×Int×Int:=
 if(structS e).2.2=0 then(match ff (terr e s) e.length with|some v=>v|none=>((tys e s e.length)[0]?.getD ⟨0,0⟩,0,0))else(⟨0,0⟩,(structS e).2.1,(structS e).2.2)
structure Wst (e:List GNode):Prop where
 pos:0<e.length
 le:e.length≤48
 err:∀i,i<e.length→errAt e i=none
 one:(stk e e.length).2.length≤1
theorem wst_of{e:List GNode}(h:(structS e).2.2=0):Wst e:=by
 unfold structS at h;split at h
 ·simp at h
 split at h
 ·simp at h
 rename_i h48 h0;split at h
 ·rename_i v hv;obtain⟨i,h1,h2,-⟩:=ff_some.1 hv;unfold errAt at h2;exfalso;split at h2
  ·injection h2 with h2;subst h2;simp at h
  ·split at h2
   ·injection h2 with h2;subst h2;simp at h
   ·split at h2
    ·injection h2 with h2;subst h2;simp at h
    ·cases h2
 ·rename_i hn;split at h
  ·simp at h
  ·exact⟨by omega,by omega,ff_none.1 hn,by omega⟩
theorem Wst.ar{e:List GNode}(h:Wst e) {i:Nat}(hi:i<e.length):0≤arityS (ndAt e i).Op∧arN e i≤(stk e i).2.length∧(1≤(ndAt e i).Op∧(ndAt e i).Op≤39):=by
 have:=h.err i hi;unfold errAt at this;split at this
 ·cases this
 split at this
 ·cases this
 rename_i h1 h2;refine⟨by omega,by unfold arN;omega,?_⟩;by_cases hop:1≤(ndAt e i).Op∧(ndAt e i).Op≤39
 ·exact hop
 ·rw[arity_out hop]at h1;omega
theorem stk_succ{e:List GNode}{i:Nat}:(stk e (i+1)).2.length=(stk e i).2.length-arN e i+1:=by
 simp[stk,arN]
theorem ndOk{e:List GNode}(hN:∀n∈e,NodeOk n) {i:Nat}(hi:i<e.length):NodeOk (ndAt e i):=by
 rw[←ndAt_lt hi];exact hN _ (On hi)
theorem tys_inv{e:List GNode}{s:GSignature}(h:Wst e) (hN:∀n∈e,NodeOk n):∀i,i≤e.length→(∀j,j<i→terr e s j=none)→(tys e s i).length=(stk e i).2.length∧∀t∈tys e s i,validTypeB t s.Enums=true
 |0,_,_=>by simp[tys,stk]
 |i+1,hi,ht=>by
  obtain⟨h1,h2⟩:=tys_inv h hN i (by omega) fun j hj=>ht j (by omega);obtain⟨a1,a2,a3⟩:=h.ar (i:=i) (by omega);refine⟨by rw[stk_succ];simp[tys];omega,?_⟩;intro t hm;simp only[tys,Fo,Xo]at hm;rcases hm with hm|rfl
  ·exact h2 t (Tp hm)
  ·obtain⟨r,hr,hv⟩:=nod1_eq (n:=ndAt e i) (ops:=(tys e s i).drop ((tys e s i).length-arN e i)) (s:=s) a3 (ndOk hN (by omega)) (by simp[arN];unfold arN at a2;omega) (fun t ht=>h2 t (Fp ht));have hz:=ht i (by omega);unfold terr at hz;split at hz
   ·rename_i hz0;unfold resAt at hz0⊢;rw[hr]at hz0⊢;exact hv hz0
   ·cases hz
theorem node_at1{e:List GNode}{s:GSignature}(h:Wst e) (hN:∀n∈e,NodeOk n) {i:Nat}(hi:i<e.length) (ht:∀j,j<i→terr e s j=none) :
 implNode (ndAt e i) ((tys e s i).drop ((tys e s i).length-arN e i)) s=some (resAt e s (tys e s i) i):=by
 obtain⟨h1,h2⟩:=tys_inv h hN i (by omega) ht;obtain⟨a1,a2,a3⟩:=h.ar hi;obtain⟨r,hr,hv⟩:=nod1_eq (n:=ndAt e i) (ops:=(tys e s i).drop ((tys e s i).length-arN e i)) (s:=s) a3 (ndOk hN hi) (by simp[arN];unfold arN at a2;omega) (fun t ht=>h2 t (Fp ht));unfold resAt;rw[hr];rfl
theorem node_at{e:List GNode}{s:GSignature}(h:Wst e) (hN:∀n∈e,NodeOk n) {i:Nat}(hi:i<e.length) (ht:∀j,j<i→terr e s j=none) :
 implNode (ndAt e i) ((tys e s i).drop ((tys e s i).length-arN e i)) s=some (resAt e s (tys e s i) i)∧ref10_Result (ndAt e i) ((tys e s i).drop ((tys e s i).length-arN e i)) s=some (resAt e s (tys e s i) i):=by
 obtain⟨h1,h2⟩:=tys_inv h hN i (by omega) ht;obtain⟨a1,a2,a3⟩:=h.ar hi;obtain⟨e1,r,hr,hv⟩:=node_eq (n:=ndAt e i) (ops:=(tys e s i).drop ((tys e s i).length-arN e i)) (s:=s) a3 (ndOk hN hi) (by simp[arN];unfold arN at a2;omega) (fun t ht=>h2 t (Fp ht));exact⟨node_at1 h hN hi ht,e1.symm.trans (node_at1 h hN hi ht)⟩
theorem ref10_TypeOf_s{e:List GNode}(hN:∀n∈e,NodeOk n) (s:GSignature):ref10_TypeOf e s=some (typeS e s):=by
 unfold ref10_TypeOf typeS;rw[ref10_structure_s,nn];by_cases h0:(structS e).2.2=0
 ·rw[if_neg (by simpa using h0),if_pos h0];have hw:=wst_of h0;have hl:loopO (ref10_TypeOf_L1 e s) (([]:List GType),0)=some (outR (tys e s e.length) (ff (terr e s) e.length)):=by
   refine loopF (fun i=>(tys e s i,(i:Int))) (terr e s) e.length _ (fun i hi ht=>?_) (fun _=>?_)
   ·obtain⟨n1,n2⟩:=node_at hw hN hi ht;obtain⟨h1,h2⟩:=tys_inv hw hN i (by omega) ht;obtain⟨a1,a2,a3⟩:=hw.ar hi;have hle:=hw.le;have h12:=stk_small (e:=e) (i:=i) fun j hj=>hw.err j (by omega);unfold ref10_TypeOf_L1 terr;simp only;have hsub:wrapF .i64 (((tys e s i).length:Int)-arityS (ndAt e i).Op)=(((tys e s i).length-arN e i:Nat):Int):=by
     unfold arN at a2⊢;rw[wid (by omega) (by omega)];omega
    rw[if_pos (by omega),idxN hi,nn,ndAt_lt hi,ref10_Arity_s,nn,hsub,sublN (by omega),nn,n2,nn];by_cases hz:(resAt e s (tys e s i) i).2=0
    ·rw[if_neg (by simpa using hz),if_pos hz,subhN (by omega),nn,appS (by simp;omega),nn,wsucc (by omega)];rfl
    ·rw[if_pos hz,if_neg hz];rfl
   ·unfold ref10_TypeOf_L1;simp
  rw[hl]
  cases hf:ff (terr e s) e.length with
  |some v=>rfl
  |none=>
   obtain⟨h1,h2⟩:=tys_inv (s:=s) hw hN e.length (by omega) (ff_none.1 hf);have:0<(tys e s e.length).length:=by
    rw[h1];obtain⟨k,hk⟩:∃k,e.length=k+1:=⟨e.length-1,by have:=hw.pos;omega⟩;rw[hk,stk_succ];omega
   simp only[outR,nn];rw[show(0:Int)=((0:Nat):Int)from rfl,idxN this,nn,pn this];rfl
 ·rw[if_pos h0,if_neg h0]
theorem expr_TypeOf_s{e:List GNode}(hN:∀n∈e,NodeOk n) (s:GSignature):expr_TypeOf e s=some (typeS e s):=by
 unfold expr_TypeOf typeS;rw[expr_structure_s,nn];by_cases h0:(structS e).2.2=0
 ·rw[if_neg (by simpa using h0),if_pos h0];have hw:=wst_of h0;have hl:loopO (expr_TypeOf_L1 e s) (([]:List GType),0)=some (outR (tys e s e.length) (ff (terr e s) e.length)):=by
   refine loopF (fun i=>(tys e s i,(i:Int))) (terr e s) e.length _ (fun i hi ht=>?_) (fun _=>?_)
   ·have n1:=node_at1 hw hN hi ht;obtain⟨h1,h2⟩:=tys_inv hw hN i (by omega) ht;obtain⟨a1,a2,a3⟩:=hw.ar hi;have hle:=hw.le;have h12:=stk_small (e:=e) (i:=i) fun j hj=>hw.err j (by omega);unfold expr_TypeOf_L1 terr;simp only;have hsub:wrapF .i64 (((tys e s i).length:Int)-arityS (ndAt e i).Op)=(((tys e s i).length-arN e i:Nat):Int):=by
     unfold arN at a2⊢;rw[wid (by omega) (by omega)];omega
    rw[if_pos (by omega),idxN hi,nn,ndAt_lt hi];unfold implNode at n1;rw[expr_UsesN_s a3]at n1⊢;have hj:(if¬(ndAt e i).N=0 then(some (usesB (ndAt e i).Op)).bind fun x8=>some (!x8)else some false)=some (!(ndAt e i).N==0&&!usesB (ndAt e i).Op):=by
     by_cases h:(ndAt e i).N=0<;>simp[h]
    rw[hj]at n1⊢;rw[nn]at n1⊢;generalize (!(ndAt e i).N==0&&!usesB (ndAt e i).Op)=c at n1⊢;cases c
    ·rw[if_neg (by simp)]at n1⊢;rw[expr_Arity_s,nn,hsub,sublN (by omega),nn,n1,nn];by_cases hz:(resAt e s (tys e s i) i).2=0
     ·rw[if_neg (by simpa using hz),if_pos hz,subhN (by omega),nn,appS (by simp;omega),nn,wsucc (by omega)];rfl
     ·rw[if_pos hz,if_neg hz];rfl
    ·rw[if_pos rfl]at n1⊢;injection n1 with n1;rw[←n1,if_neg (by decide)];rfl
   ·unfold expr_TypeOf_L1;simp
  rw[hl]
  cases hf:ff (terr e s) e.length with
  |some v=>rfl
  |none=>
   obtain⟨h1,h2⟩:=tys_inv (s:=s) hw hN e.length (by omega) (ff_none.1 hf);have:0<(tys e s e.length).length:=by
    rw[h1];obtain⟨k,hk⟩:∃k,e.length=k+1:=⟨e.length-1,by have:=hw.pos;omega⟩;rw[hk,stk_succ];omega
   simp only[outR,nn];rw[show(0:Int)=((0:Nat):Int)from rfl,idxN this,nn,pn this];rfl
 ·rw[if_pos h0,if_neg h0]
end Go.Proofs.Dev
namespace Go.Tm
theorem mem_insS{x n:Int}:∀{l:List Int},x∈insS l n↔x∈l∨x=n
 |[]=>by simp[insS]
 |y::l=>by
  simp only[insS];split
  ·split
   ·simp only[oo];constructor
    ·rintro(h|h|h)
     ·exact .inr h
     ·exact .inl (.inl h)
     ·exact .inl (.inr h)
    ·rintro((h|h)|h)
     ·exact .inr (.inl h)
     ·exact .inr (.inr h)
     ·exact .inl h
   ·have:n=y:=by omega
    simp only[oo];constructor
    ·exact .inl
    ·rintro(h|h)
     ·exact h
     ·exact .inl (h.trans this)
  ·simp only[oo,mem_insS (l:=l)];constructor
   ·rintro(h|h|h)
    ·exact .inl (.inl h)
    ·exact .inl (.inr h)
    ·exact .inr h
   ·rintro((h|h)|h)
    ·exact .inl h
    ·exact .inr (.inl h)
    ·exact .inr (.inr h)
abbrev Inc(l:List Int):Prop:=l.Pairwise (·<·)
theorem inc_insS{n:Int}:∀{l:List Int},Inc l→Inc (insS l n)
 |[],_=>by simp[insS]
 |y::l,h=>by
  have h':=Dp.1 h;simp only[insS];split
  ·split
   ·refine Dp.2 ⟨fun z hz=>?_,h⟩;rcases oo.1 hz with rfl|hz
    ·assumption
    ·have:=h'.1 z hz;omega
   ·exact h
  ·refine Dp.2 ⟨fun z hz=>?_,inc_insS h'.2⟩;rcases mem_insS.1 hz with hz|rfl
   ·exact h'.1 z hz
   ·omega
theorem len_insS{n:Int}:∀{l:List Int},(insS l n).length≤l.length+1
 |[]=>by simp[insS]
 |y::l=>by
  simp only[insS];split
  ·split<;>simp
  ·have:=len_insS (n:=n) (l:=l);simp;omega
theorem insS_lt{n:Int}:∀{l:List Int},(∀x∈l,x<n)→insS l n=l++[n]
 |[],_=>rfl
 |y::l,h=>by
  have:=h y (by simp);simp only[insS];rw[if_neg (by omega),insS_lt fun x hx=>h x (by simp[hx])];rfl
theorem insS_app{n:Int}{r:List Int}:∀{l:List Int},(∃x∈l,n≤x)→insS (l++r) n=insS l n++r
 |[],h=>by simp at h
 |y::l,h=>by
  simp only[insS,xo];split
  ·split<;>rfl
  ·rename_i hny;rw[insS_app (l:=l),xo];obtain⟨x,hx,hn⟩:=h;rcases oo.1 hx with rfl|hx
   ·omega
   ·exact⟨x,hx,hn⟩
theorem insS_app2{n x:Int}:∀{l:List Int},(∀y∈l,y<n)→n≤x→insS (l++[x]) n=l++(if n<x then [n,x]else [x])
 |[],_,h=>by simp only[Jo,insS,if_pos h]
 |y::l,hl,h=>by
  have:=hl y (by simp);simp only[insS,xo];rw[if_neg (by omega),insS_app2 (fun y hy=>hl y (by simp[hy])) h]
theorem loopL{α A β ρ:Type}{step:A×Int→Option (Ex (A×Int) β ρ)}(xs:List α) (f:A→α→A) (a0:A) (b:β) {x0:A×Int}(hx:x0=(a0,0))
 (hgo:∀(i:Nat) (hi:i<xs.length),step ((xs.take i).foldl f a0,(i:Int))=some (.go (f ((xs.take i).foldl f a0) xs[i],((i+1:Nat):Int)))) (hend:step (xs.foldl f a0,(xs.length:Int))=some (.brk b)) :
 loopO step x0=some (.inl b):=by
 refine loopG (fun i=>((xs.take i).foldl f a0,(i:Int))) xs.length b (fun i hi=>?_) ?_ (by subst hx;rfl)
 ·rw[hgo i hi,Wo,aq,pn hi];rfl
 ·rw[Ho];exact hend
end Go.Tm
namespace Go.Proofs.Dev
open Go Go.Tm
theorem ins_step{l:List Int}{n:Int}(hl:l.length≤1099511627776):loopO (ref10_insert_L1 l n) (([]:List Int),false,0)=some (.inl (if(l.any fun x=>decide (n≤x))=true then insS l n else l,l.any fun x=>decide (n≤x))):=by
 refine loopG (fun i=>(if((l.take i).any fun x=>decide (n≤x))=true then insS (l.take i) n else l.take i,(l.take i).any fun x=>decide (n≤x),(i:Int))) l.length _ (fun i hi=>?_) ?_ (by simp)
 ·unfold ref10_insert_L1;simp only;have ht:l.take (i+1)=l.take i++[l[i]]:=by rw[Wo,pn hi];rfl
  have hlen:(l.take i).length=i:=by simp;omega
  rw[if_pos (by omega),ht,List.any_append,idxN hi];generalize l[i]=x;generalize l.take i=p at hlen⊢;cases hp:p.any fun x=>decide (n≤x)
  ·have hall:∀y∈p,y<n:=fun y hy=>by
    have:=qq.1 hp y hy;simp at this;omega
   simp only[if_true,nn,tn,if_false,Oq,List.any_cons,List.any_nil,Xq];by_cases hx:n≤x
   ·rw[decide_eq_true hx];simp only[if_true];by_cases hx2:n<x
    ·rw[if_pos hx2,appS (by simp;omega),nn,nn,nn];simp only;rw[appS (by simp;omega),nn,wsucc (by omega),insS_app2 hall hx,if_pos hx2];simp
    ·rw[if_neg hx2,nn,nn];simp only;rw[appS (by simp;omega),nn,wsucc (by omega),insS_app2 hall hx,if_neg hx2]
   ·rw[decide_eq_false hx];simp only[tn,if_false,nn];rw[appS (by simp;omega),nn,wsucc (by omega)]
  ·have hex:∃y∈p,n≤y:=by
    obtain⟨y,h1,h2⟩:=kq.1 hp;exact⟨y,h1,by simpa using h2⟩
   have:=len_insS (n:=n) (l:=p);simp only[Un,if_false,nn,if_true,tn,Gs];rw[appS (by simp;omega),nn,wsucc (by omega),insS_app hex]
 ·unfold ref10_insert_L1;simp
theorem ref10_insert_s{l:List Int}{n:Int}(hl:l.length≤1099511627776):ref10_insert l n=some (insS l n):=by
 unfold ref10_insert;rw[ins_step hl,nn];simp only;cases hp:l.any fun x=>decide (n≤x)
 ·have hall:∀y∈l,y<n:=fun y hy=>by
   have:=qq.1 hp y hy;simp at this;omega
  simp only[if_true,tn,if_false];rw[appS (by simp;omega),nn,nn,insS_lt hall]
 ·simp
theorem ref16_insert_s{l:List Int}{n:Int}(hl:l.length≤1099511627776):ref16_insert l n=some (insS l n):=by
 rw[←ref10_insert_s hl];rfl
end Go.Proofs.Dev
namespace Go.Tm
theorem dsort_snoc{l:List Int}{x:Int}:dsort (l++[x])=insS (dsort l) x:=by simp[dsort,aq]
theorem dsort_inv(l:List Int):Inc (dsort l)∧(dsort l).length≤l.length∧∀x,x∈dsort l↔x∈l:=by
 have key:∀(l a:List Int),Inc a→Inc (l.foldl insS a)∧(l.foldl insS a).length≤a.length+l.length∧∀x,x∈l.foldl insS a↔x∈a∨x∈l:=by
  intro l
  induction l with
  |nil=>intro a h;exact⟨h,by simp,fun x=>by simp⟩
  |cons y l ih=>
   intro a h;obtain⟨h1,h2,h3⟩:=ih (insS a y) (inc_insS h);have:=len_insS (n:=y) (l:=a);refine⟨h1,by simp only[bp,jo];omega,fun x=>?_⟩;simp only[bp];rw[h3 x,mem_insS,oo,or_assoc]
 obtain⟨h1,h2,h3⟩:=key l [] (by simp);exact⟨h1,by simpa [dsort] using h2,fun x=>by simpa [dsort] using h3 x⟩
theorem inc_len{lo hi:Int}:∀{a:List Int},Inc a→(∀x∈a,lo≤x∧x<hi)→a.length≤(hi-lo).toNat
 |[],_,_=>by simp
 |x::a,h,hb=>by
  have h':=Dp.1 h;have hx:=hb x (by simp);have:=inc_len (lo:=x+1) (hi:=hi) h'.2 fun y hy=>⟨by have:=h'.1 y hy;omega,(hb y (by simp[hy])).2⟩;simp only[jo];omega
theorem inc_ext:∀{a b:List Int},Inc a→Inc b→(∀x,x∈a↔x∈b)→a=b
 |[],[],_,_,_=>rfl
 |[],y::b,_,_,h=>by have:=(h y).2 (by simp);simp at this
 |x::a,[],_,_,h=>by have:=(h x).1 (by simp);simp at this
 |x::a,y::b,ha,hb,h=>by
  have ha':=Dp.1 ha;have hb':=Dp.1 hb;have hxy:x=y:=by
   have h1:=(h x).1 (by simp);have h2:=(h y).2 (by simp);rcases oo.1 h1 with h1|h1
   ·exact h1
   ·rcases oo.1 h2 with h2|h2
    ·exact h2.symm
    ·have:=ha'.1 y h2;have:=hb'.1 x h1;omega
  subst hxy;rw[inc_ext ha'.2 hb'.2 fun z=>?_];constructor
  ·intro hz;rcases oo.1 ((h z).1 (by simp[hz]))with rfl|h1
   ·have:=ha'.1 z hz;omega
   ·exact h1
  ·intro hz;rcases oo.1 ((h z).2 (by simp[hz]))with rfl|h1
   ·have:=hb'.1 z hz;omega
   ·exact h1
end Go.Tm
namespace Go.Proofs.Dev
open Go Go.Tm
def dfl(p:GNode→Bool) (e:List GNode):List Int:=dsort ((e.filter p).map (·.N))
theorem dfl_snoc{p:GNode→Bool}{l:List GNode}{x:GNode}:dfl p (l++[x])=if p x=true then insS (dfl p l) x.N else dfl p l:=by
 unfold dfl;rw[Bp,Pp];by_cases h:p x=true
 ·rw[if_pos h,List.filter_cons_of_pos h,pr];exact dsort_snoc
 ·rw[if_neg h,List.filter_cons_of_neg h,pr];simp
theorem dfl_len{p:GNode→Bool}{e:List GNode}:(dfl p e).length≤e.length:=by
 have:=(dsort_inv ((e.filter p).map (·.N))).2.1;have h2:=Ko p e;unfold dfl;simp at this;omega
def isIn(n:GNode):Bool:=n.Op==7
def isDef(n:GNode):Bool:=n.Op==8
def isMem(n:GNode):Bool:=n.Op==36 || n.Op==37 || n.Op==38 || n.Op==39
def refsS(e:List GNode):List Int×List Int×List Int:=(dfl isIn e,dfl isDef e,dfl isMem e)
theorem inc_ext:∀{a b:List Int},Inc a→Inc b→(∀x,x∈a↔x∈b)→a=b
 |[],[],_,_,_=>rfl
 |[],y::b,_,_,h=>by have:=(h y).2 (by simp);simp at this
 |x::a,[],_,_,h=>by have:=(h x).1 (by simp);simp at this
 |x::a,y::b,ha,hb,h=>by
  obtain⟨ha1,ha2⟩:=Dp.1 ha;obtain⟨hb1,hb2⟩:=Dp.1 hb;have hxy:x=y:=by
   have h1:=(h x).1 (by simp);have h2:=(h y).2 (by simp);simp only[oo]at h1 h2;rcases h1 with h1|h1
   ·exact h1
   ·rcases h2 with h2|h2
    ·exact h2.symm
    ·have:=ha1 y h2;have:=hb1 x h1;omega
  subst hxy;rw[inc_ext ha2 hb2 fun z=>?_];have hz:=h z;simp only[oo]at hz;constructor
  ·intro h1;rcases hz.1 (.inr h1)with h2|h2
   ·subst h2;have:=ha1 z h1;omega
   ·exact h2
  ·intro h1;rcases hz.2 (.inr h1)with h2|h2
   ·subst h2;have:=hb1 z h1;omega
   ·exact h2
theorem compU{d:Array Int}(hs:∀i j,i<j→j<d.size→d[i]!≤d[j]!):∀m,m≤d.size→Inc (Go.Lib.compactUpTo d m)∧∀x,x∈Go.Lib.compactUpTo d m↔∃i,i<m∧d[i]! = x
 |0,_=>⟨by simp[Go.Lib.compactUpTo,Inc],by simp[Go.Lib.compactUpTo]⟩
 |m+1,hm=>by
  obtain⟨ih1,ih2⟩:=compU hs m (by omega);have hle:∀i,i<m→d[i]!≤d[m-1]!:=by
   intro i hi;by_cases h:i=m-1
   ·rw[h];exact Int.le_refl _
   ·exact hs i (m-1) (by omega) (by omega)
  rw[Go.Lib.compactUpTo_succ];by_cases hk:Go.Lib.keeps d m=true
  ·rw[if_pos hk];refine⟨?_,fun x=>?_⟩
   ·unfold Inc;rw[List.pairwise_append];refine⟨ih1,by simp,fun a ha c hc=>?_⟩;obtain⟨i,hi,rfl⟩:=(ih2 a).1 ha;obtain rfl:=Xo.1 hc;have hne:d[m]!≠d[m-1]!:=by
     have:=of_decide_eq_true hk;rcases this with h|h
     ·omega
     ·exact h
    have h1:=hle i hi;have h2:=hs (m-1) m (by omega) (by omega);omega
   ·rw[Fo,ih2,Xo];constructor
    ·rintro(⟨i,hi,rfl⟩|rfl)
     ·exact⟨i,by omega,rfl⟩
     ·exact⟨m,by omega,rfl⟩
    ·rintro⟨i,hi,rfl⟩;by_cases h:i=m
     ·subst h;exact .inr rfl
     ·exact .inl ⟨i,by omega,rfl⟩
  ·rw[if_neg hk,List.append_nil];refine⟨ih1,fun x=>?_⟩;rw[ih2];have hk':Go.Lib.keeps d m=false:=by simpa using hk
   have hmm:¬(m=0∨d[m]!≠d[m-1]!):=of_decide_eq_false hk';constructor
   ·rintro⟨i,hi,rfl⟩;exact⟨i,by omega,rfl⟩
   ·rintro⟨i,hi,rfl⟩;by_cases h:i=m
    ·subst h;refine⟨i-1,by omega,?_⟩;by_cases h2:d[i]! = d[i-1]!
     ·exact h2.symm
     ·exact absurd (.inr h2) hmm
    ·exact⟨i,by omega,rfl⟩
theorem compact_msort(l:List Int):Go.Lib.compact (l.mergeSort fun x y=>decide (x≤y))=dsort l:=by
 have hp:=List.pairwise_mergeSort (le:=fun(x y:Int)=>decide (x≤y)) (fun a b c h1 h2=>by simp at h1 h2⊢;omega) (fun a b=>by simp;omega) l;have hm:∀x,x∈(l.mergeSort fun x y=>decide (x≤y))↔x∈l:=fun x=>List.mem_mergeSort;generalize (l.mergeSort fun x y=>decide (x≤y))=q at *;obtain⟨h1,h2⟩:=compU (d:=q.toArray) (fun i j hij hj=>by
  have hj':j<q.length:=by simpa using hj
  have:=List.pairwise_iff_getElem.1 hp i j (by omega) hj' hij;simp at this;rw[getElem!_pos q.toArray i (by simp;omega),getElem!_pos q.toArray j hj];simpa using this) q.length (by simp)
 obtain⟨g1,-,g2⟩:=dsort_inv l;refine inc_ext h1 g1 fun x=>?_;unfold Go.Lib.compact;rw[h2,g2,←hm x];constructor
 ·rintro⟨i,hi,rfl⟩;rw[getElem!_pos q.toArray i (by simpa using hi)];simp
 ·intro h;obtain⟨i,hi,rfl⟩:=List.mem_iff_getElem.1 h;exact⟨i,hi,by rw[getElem!_pos q.toArray i (by simpa using hi)];simp⟩
theorem expr_distinct_s{l:List Int}(h:l.length≤1099511627776):expr_distinct l=some (dsort l):=by
 unfold expr_distinct slices_Sort_int_int slices_Compact_int_int;rw[if_pos (by omega),nn,if_pos (by simp;omega),nn,compact_msort]
theorem deps_sortedSet_s{l:List Int}(h:l.length≤8796093022208):deps_sortedSet l=some (dsort l):=by
 unfold deps_sortedSet slices_Sort_int_int slices_Compact_int_int;rw[if_pos h,nn,if_pos (by simpa using h),nn,compact_msort]
theorem filter_snoc{p:GNode→Bool}{l:List GNode}{x:GNode}:((l++[x]).filter p).map (·.N)=if p x=true then(l.filter p).map (·.N)++[x.N]else(l.filter p).map (·.N):=by
 by_cases h:p x=true
 ·simp[Bp,h]
 ·simp[Bp,h]
theorem expr_References_s{e:List GNode}(h:e.length≤1099511627776):expr_References e=some (refsS e):=by
 unfold expr_References;have hb:∀(p:GNode→Bool) (i:Nat),(((e.take i).filter p).map (·.N)).length≤e.length:=fun p i=>by
  have h1:=Ko p (e.take i);have h2:(e.take i).length≤e.length:=by rw[No];omega
  rw[Oo];omega
 have hl:loopO (expr_References_L1 e) (([]:List Int),([]:List Int),([]:List Int),0)=some (.inl ((e.filter isIn).map (·.N),(e.filter isDef).map (·.N),(e.filter isMem).map (·.N))):=by
  refine loopG (fun i=>(((e.take i).filter isIn).map (·.N),((e.take i).filter isDef).map (·.N),((e.take i).filter isMem).map (·.N),(i:Int))) e.length _ (fun i hi=>?_) ?_ rfl
  ·have ht:e.take (i+1)=e.take i++[e[i]]:=by rw[Wo,pn hi];rfl
   have b1:=hb isIn i;have b2:=hb isDef i;have b3:=hb isMem i;unfold expr_References_L1;simp only;rw[if_pos (by omega),idxN hi,nn,wsucc (by omega),ht,filter_snoc,filter_snoc,filter_snoc];generalize e[i]=x at *;generalize ((e.take i).filter isIn).map (·.N)=l1 at *;generalize ((e.take i).filter isDef).map (·.N)=l2 at *;generalize ((e.take i).filter isMem).map (·.N)=l3 at *;simp only[isIn,isDef,isMem];by_cases h7:x.Op=7
   ·simp[h7,appS (show(l1.length + [x.N].length)*8≤2 ^ 47 by simp;omega)]
   ·by_cases h8:x.Op=8
    ·simp[h8,appS (show(l2.length + [x.N].length)*8≤2 ^ 47 by simp;omega)]
    ·by_cases h36:x.Op=36
     ·simp[h36,appS (show(l3.length + [x.N].length)*8≤2 ^ 47 by simp;omega)]
     ·by_cases h37:x.Op=37
      ·simp[h37,appS (show(l3.length + [x.N].length)*8≤2 ^ 47 by simp;omega)]
      ·by_cases h38:x.Op=38
       ·simp[h38,appS (show(l3.length + [x.N].length)*8≤2 ^ 47 by simp;omega)]
       ·by_cases h39:x.Op=39
        ·simp[h39,appS (show(l3.length + [x.N].length)*8≤2 ^ 47 by simp;omega)]
        ·simp[h7,h8,h36,h37,h38,h39]
  ·unfold expr_References_L1;simp only;rw[if_neg (by omega),Ho]
 have c:∀p:GNode→Bool,((e.filter p).map (·.N)).length≤1099511627776:=fun p=>by
  have h1:=Ko p e;simp only[Oo];omega
 rw[hl,nn];simp only;rw[expr_distinct_s (c isIn),nn,expr_distinct_s (c isDef),nn,expr_distinct_s (c isMem),nn];rfl
theorem ref10_References_s{e:List GNode}(h:e.length≤1099511627776):ref10_References e=some (refsS e):=by
 unfold ref10_References;have hl:loopO (ref10_References_L1 e) (([]:List Int),([]:List Int),([]:List Int),0)=some (.inl (refsS e)):=by
  refine loopG (fun i=>((refsS (e.take i)).1,(refsS (e.take i)).2.1,(refsS (e.take i)).2.2,(i:Int))) e.length _ (fun i hi=>?_) ?_ rfl
  ·have ht:e.take (i+1)=e.take i++[e[i]]:=by rw[Wo,pn hi];rfl
   have hlen:(e.take i).length≤1099511627776:=by simp;omega
   have l1:=dfl_len (p:=isIn) (e:=e.take i);have l2:=dfl_len (p:=isDef) (e:=e.take i);have l3:=dfl_len (p:=isMem) (e:=e.take i);unfold ref10_References_L1 refsS;simp only[ht,dfl_snoc];rw[if_pos (by omega),idxN hi,wsucc (by omega)];generalize e[i]=x;simp only[nn,ref10_insert_s (Qp l1 hlen),ref10_insert_s (Qp l2 hlen),ref10_insert_s (Qp l3 hlen),range2];have hr:(qn (α:=Bool) (if 36≤x.Op then some (decide (x.Op≤39))else some false) fun j14=>if j14=true then some (.go ((if isIn x=true then insS (dfl isIn (e.take i)) x.N else dfl isIn (e.take i)),(if isDef x=true then insS (dfl isDef (e.take i)) x.N else dfl isDef (e.take i)),insS (dfl isMem (e.take i)) x.N,((i+1:Nat):Int)):Ex (List Int×List Int×List Int×Int) (List Int×List Int×List Int) Unit)else some (.go ((if isIn x=true then insS (dfl isIn (e.take i)) x.N else dfl isIn (e.take i)),(if isDef x=true then insS (dfl isDef (e.take i)) x.N else dfl isDef (e.take i)),dfl isMem (e.take i),((i+1:Nat):Int)))) =
    some (.go ((if isIn x=true then insS (dfl isIn (e.take i)) x.N else dfl isIn (e.take i)),(if isDef x=true then insS (dfl isDef (e.take i)) x.N else dfl isDef (e.take i)),(if isMem x=true then insS (dfl isMem (e.take i)) x.N else dfl isMem (e.take i)),((i+1:Nat):Int))):=by
    by_cases h1:36≤x.Op
    ·by_cases h2:x.Op≤39
     ·have:isMem x=true:=by unfold isMem;simp;omega
      simp[h1,h2,this]
     ·have:isMem x=false:=by unfold isMem;simp;omega
      simp[h1,h2,this]
    ·have:isMem x=false:=by unfold isMem;simp;omega
     simp[h1,this]
   rw[←hr];by_cases h7:x.Op=7
   ·have e7:isIn x=true:=by simp[isIn,h7]
    have e8:isDef x=false:=by simp[isDef,h7]
    simp[h7,e7,e8]
   ·have e7:isIn x=false:=by simp[isIn,h7]
    by_cases h8:x.Op=8
    ·have e8:isDef x=true:=by simp[isDef,h8]
     simp[h8,e7,e8]
    ·have e8:isDef x=false:=by simp[isDef,h8]
     by_cases h1:36≤x.Op<;>by_cases h2:x.Op≤39<;>simp[h7,h8,e7,e8,h1,h2]
  ·unfold ref10_References_L1;simp
 rw[hl];rfl
def insR(n:Int) (a:List Int) (x:Int):List Int:=if 0≤x∧x<n then insS a x else a
def InR(n:Int) (a:List Int):Prop:=Inc a∧∀x∈a,0≤x∧x<n
theorem InR.len{n:Int}{a:List Int}(h:InR n a):a.length≤n.toNat:=by
 have:=inc_len (lo:=0) (hi:=n) h.1 h.2;simpa using this
theorem InR.nil{n:Int}:InR n []:=⟨by simp,by simp⟩
theorem InR.ins{n:Int}{a:List Int}{x:Int}(h:InR n a):InR n (insR n a x):=by
 unfold insR;split
 ·rename_i hx;refine⟨inc_insS h.1,fun y hy=>?_⟩;rcases mem_insS.1 hy with hy|rfl
  ·exact h.2 y hy
  ·exact hx
 ·exact h
theorem InR.fold{n:Int}:∀{l a:List Int},InR n a→InR n (l.foldl (insR n) a)
 |[],a,h=>h
 |x::l,a,h=>InR.fold (l:=l) h.ins
theorem mem_fold{n x:Int}:∀{l a:List Int},x∈l.foldl (insR n) a↔x∈a∨(x∈l∧0≤x∧x<n)
 |[],a=>by simp
 |y::l,a=>by
  simp only[bp];rw[mem_fold (l:=l)];unfold insR;split
  ·rename_i hy;rw[mem_insS,oo];constructor
   ·rintro((h|rfl)|h)
    ·exact .inl h
    ·exact .inr ⟨.inl rfl,hy⟩
    ·exact .inr ⟨.inr h.1,h.2⟩
   ·rintro(h|⟨rfl|h,h2⟩)
    ·exact .inl (.inl h)
    ·exact .inl (.inr rfl)
    ·exact .inr ⟨h,h2⟩
  ·rename_i hy;rw[oo];constructor
   ·rintro(h|h)
    ·exact .inl h
    ·exact .inr ⟨.inr h.1,h.2⟩
   ·rintro(h|⟨rfl|h,h2⟩)
    ·exact .inl h
    ·exact(hy h2).elim
    ·exact .inr ⟨h,h2⟩
theorem ref16_is_s(s:GScope) (d:Int):ref16_is s d=some (decide (0≤d)&&decide (d<(s.Defs.length:Int))):=by
 unfold ref16_is;by_cases h:0≤d<;>simp[h]
def ruleRefs(r:GRule):List Int:=dfl isDef r.Guard++dfl isDef r.Value
def dirF(n d:Int) (a:List Int) (r:GRule):List Int:=if r.Def=d then(ruleRefs r).foldl (insR n) a else a
def dirS(s:GScope) (d:Int):List Int:=if 0≤d∧d<(s.Defs.length:Int)then s.Rules.foldl (dirF s.Defs.length d) []else []
structure ScOk (s:GScope):Prop where
 defs:s.Defs.length≤1048576
 rules:s.Rules.length≤1048576
 g:∀r∈s.Rules,r.Guard.length≤1048576∧r.Value.length≤1048576
theorem dirF_inv{n d:Int}{a:List Int}{r:GRule}(h:InR n a):InR n (dirF n d a r):=by
 unfold dirF;split
 ·exact h.fold
 ·exact h
theorem dirFold_inv{n d:Int}:∀{l:List GRule}{a:List Int},InR n a→InR n (l.foldl (dirF n d) a)
 |[],a,h=>h
 |r::l,a,h=>dirFold_inv (l:=l) (dirF_inv h)
theorem dirS_inv(s:GScope) (d:Int):InR s.Defs.length (dirS s d):=by
 unfold dirS;split
 ·exact dirFold_inv InR.nil
 ·exact InR.nil
theorem direct_loop{s:GScope}(hs:ScOk s) {l:List Int}(hl:l.length≤1099511627776) {a:List Int}(ha:InR s.Defs.length a) {step:List Int×Int→Option (Ex (List Int×Int) (List Int) Unit)}
 (hstep:∀(a:List Int) (i:Nat) (hi:i<l.length),step (a,(i:Int))=(qn (α:=List Int) (if(decide (0≤l[i])&&decide (l[i]<(s.Defs.length:Int)))=true then(ref16_insert a l[i]).bind fun x=>some x else some a) fun j=>some (.go (j,wrapF .i64 ((i:Int)+1)))))
 (hend:∀a,step (a,(l.length:Int))=some (.brk a)):loopO step (a,0)=some (.inl (l.foldl (insR s.Defs.length) a)):=by
 refine loopL l (insR s.Defs.length) a _ rfl (fun i hi=>?_) (hend _);have hI:=(InR.fold (l:=l.take i) ha).len;have:=hs.defs;rw[hstep _ i hi,wsucc (by omega)];generalize (l.take i).foldl (insR s.Defs.length) a=b at hI⊢;unfold insR;by_cases h:0≤l[i]∧l[i]<(s.Defs.length:Int)
 ·rw[if_pos (by simpa using h),if_pos h,ref16_insert_s (by omega)];rfl
 ·rw[if_neg (by simpa using h),if_neg h];rfl
theorem ref16_Direct_s{s:GScope}(hs:ScOk s) (d:Int):ref16_Direct s d=some (dirS s d):=by
 unfold ref16_Direct dirS;rw[ref16_is_s,nn];by_cases hd:0≤d∧d<(s.Defs.length:Int)
 ·rw[if_neg (by simpa using hd),if_pos hd];have hl:loopO (ref16_Direct_L13 s d) (([]:List Int),0)=some (.inl (s.Rules.foldl (dirF s.Defs.length d) [])):=by
   refine loopL s.Rules (dirF s.Defs.length d) [] _ rfl (fun i hi=>?_) ?_
   ·have hI:InR s.Defs.length ((s.Rules.take i).foldl (dirF s.Defs.length d) []):=dirFold_inv InR.nil;have:=hs.rules;have hg:=hs.g _ (On hi);unfold ref16_Direct_L13;simp only;rw[if_pos (by omega),idxN hi,wsucc (by omega)];generalize (s.Rules.take i).foldl (dirF s.Defs.length d) []=a at hI⊢;generalize s.Rules[i]=r at hg⊢;unfold dirF;by_cases h:r.Def=d
    ·rw[if_pos h,nn,if_neg (by simpa using h),ref10_References_s (by omega),nn,ref10_References_s (by omega),nn];have l1:=dfl_len (p:=isDef) (e:=r.Guard);have l2:=dfl_len (p:=isDef) (e:=r.Value);have b1:loopO (ref16_Direct_L12 s (refsS r.Guard)) (a,0)=some (.inl ((dfl isDef r.Guard).foldl (insR s.Defs.length) a)):=by
      refine direct_loop hs (l:=dfl isDef r.Guard) (by omega) hI (fun a i hi=>?_) (fun a=>?_)
      ·unfold ref16_Direct_L12 refsS;simp only;rw[if_pos (by omega),idxN hi,nn,ref16_is_s,nn]
      ·unfold ref16_Direct_L12 refsS;simp
     rw[b1,nn];simp only;have b2:loopO (ref16_Direct_L11 s (refsS r.Value)) ((dfl isDef r.Guard).foldl (insR s.Defs.length) a,0)=some (.inl ((dfl isDef r.Value).foldl (insR s.Defs.length) ((dfl isDef r.Guard).foldl (insR s.Defs.length) a))):=by
      refine direct_loop hs (l:=dfl isDef r.Value) (by omega) (InR.fold hI) (fun a i hi=>?_) (fun a=>?_)
      ·unfold ref16_Direct_L11 refsS;simp only;rw[if_pos (by omega),idxN hi,nn,ref16_is_s,nn]
      ·unfold ref16_Direct_L11 refsS;simp
     rw[b2,nn];simp only;rw[nn,ruleRefs,aq]
    ·rw[if_neg h,nn,if_pos h];rfl
   ·unfold ref16_Direct_L13;simp
  rw[hl];rfl
 ·rw[if_pos,if_neg hd];have:¬(decide (0≤d)&&decide (d<(s.Defs.length:Int)))=true:=by simpa using hd
  simpa using this
def DRef(s:GScope) (d x:Int):Prop:=(0≤d∧d<(s.Defs.length:Int))∧(0≤x∧x<(s.Defs.length:Int))∧∃r∈s.Rules,r.Def=d∧x∈ruleRefs r
theorem mem_dirS{s:GScope}{d x:Int}:x∈dirS s d↔DRef s d x:=by
 have key:∀(l:List GRule) (a:List Int),x∈l.foldl (dirF s.Defs.length d) a↔x∈a∨(0≤x∧x<(s.Defs.length:Int))∧∃r∈l,r.Def=d∧x∈ruleRefs r:=by
  intro l
  induction l with
  |nil=>intro a;simp
  |cons r l ih=>
   intro a;simp only[bp];rw[ih];unfold dirF;split
   ·rename_i hr;rw[mem_fold];constructor
    ·rintro((h|⟨h1,h2⟩)|⟨h1,r',h2,h3⟩)
     ·exact .inl h
     ·exact .inr ⟨h2,r,by simp,hr,h1⟩
     ·exact .inr ⟨h1,r',by simp[h2],h3⟩
    ·rintro(h|⟨h1,r',h2,h3,h4⟩)
     ·exact .inl (.inl h)
     ·rcases oo.1 h2 with rfl|h2
      ·exact .inl (.inr ⟨h4,h1⟩)
      ·exact .inr ⟨h1,r',h2,h3,h4⟩
   ·rename_i hr;constructor
    ·rintro(h|⟨h1,r',h2,h3⟩)
     ·exact .inl h
     ·exact .inr ⟨h1,r',by simp[h2],h3⟩
    ·rintro(h|⟨h1,r',h2,h3,h4⟩)
     ·exact .inl h
     ·rcases oo.1 h2 with rfl|h2
      ·exact(hr h3).elim
      ·exact .inr ⟨h1,r',h2,h3,h4⟩
 unfold dirS DRef;split
 ·rename_i h;rw[key];simp[h]
 ·rename_i h;simp;intro h1 h2;exact(h ⟨h1,h2⟩).elim
end Go.Proofs.Dev
namespace Go.Tm
theorem nodup_sub_len{α:Type} [DecidableEq α]:∀{a b:List α},a.Nodup→(∀x∈a,x∈b)→a.length≤b.length
 |[],b,_,_=>by simp
 |x::a,b,h,hs=>by
  obtain⟨h1,h2⟩:=ur.1 h;have:=nodup_sub_len (a:=a) (b:=b.erase x) h2 fun y hy=>by
   have hne:y≠x:=fun he=>h1 (he▸hy);exact(List.mem_erase_of_ne hne).2 (hs y (by simp[hy]))
  have hl:=List.length_erase_of_mem (hs x (by simp));have hp:0<b.length:=List.length_pos_of_mem (hs x (by simp));simp only[jo];omega
theorem inc_nodup{a:List Int}(h:Inc a):a.Nodup:=h.imp fun h he=>by omega
end Go.Tm
namespace Go.Proofs.Dev
open Go Go.Tm
inductive Way (s:GScope):Int→Int→Prop
 |one {a b:Int} (h:DRef s a b):Way s a b
 |step {a b c:Int} (h:Way s a b) (h2:DRef s b c):Way s a c
def trF(s:GScope) (a:List Int) (x:Int):List Int:=(dirS s x).foldl insS a
def trR(s:GScope) (a:List Int):List Int:=a.foldl (trF s) a
def trN(s:GScope) (d:Int):Nat→List Int
 |0=>dirS s d
 |k+1=>trR s (trN s d k)
theorem insS_insR{n:Int}:∀{l a:List Int},(∀x∈l,0≤x∧x<n)→l.foldl insS a=l.foldl (insR n) a
 |[],a,_=>rfl
 |x::l,a,h=>by
  simp only[bp];rw[show insR n a x=insS a x from if_pos (h x (by simp)),insS_insR fun y hy=>h y (by simp[hy])]
theorem trF_eq(s:GScope) (a:List Int) (x:Int):trF s a x=(dirS s x).foldl (insR s.Defs.length) a:=insS_insR (dirS_inv s x).2
theorem trF_inv{s:GScope}{a:List Int}{x:Int}(h:InR s.Defs.length a):InR s.Defs.length (trF s a x):=by rw[trF_eq];exact h.fold
theorem trF_mem{s:GScope}{a:List Int}{x y:Int}:y∈trF s a x↔y∈a∨DRef s x y:=by
 rw[trF_eq,mem_fold];constructor
 ·rintro(h|⟨h,-⟩)
  ·exact .inl h
  ·exact .inr (mem_dirS.1 h)
 ·rintro(h|h)
  ·exact .inl h
  ·exact .inr ⟨mem_dirS.2 h,h.2.1⟩
theorem trFold_inv{s:GScope}:∀{l a:List Int},InR s.Defs.length a→InR s.Defs.length (l.foldl (trF s) a)
 |[],a,h=>h
 |x::l,a,h=>trFold_inv (l:=l) (trF_inv h)
theorem trFold_mem{s:GScope}{y:Int}:∀{l a:List Int},y∈l.foldl (trF s) a↔y∈a∨∃x∈l,DRef s x y
 |[],a=>by simp
 |x::l,a=>by
  simp only[bp];rw[trFold_mem (l:=l),trF_mem];constructor
  ·rintro((h|h)|⟨z,h1,h2⟩)
   ·exact .inl h
   ·exact .inr ⟨x,by simp,h⟩
   ·exact .inr ⟨z,by simp[h1],h2⟩
  ·rintro(h|⟨z,h1,h2⟩)
   ·exact .inl (.inl h)
   ·rcases oo.1 h1 with rfl|h1
    ·exact .inl (.inr h2)
    ·exact .inr ⟨z,h1,h2⟩
theorem trN_inv(s:GScope) (d:Int):∀k,InR s.Defs.length (trN s d k)
 |0=>dirS_inv s d
 |k+1=>trFold_inv (trN_inv s d k)
theorem trN_sound{s:GScope}{d y:Int}:∀{k:Nat},y∈trN s d k→Way s d y
 |0,h=>.one (mem_dirS.1 h)
 |k+1,h=>by
  rcases trFold_mem.1 h with h|⟨x,h1,h2⟩
  ·exact trN_sound h
  ·exact .step (trN_sound h1) h2
theorem trN_mono{s:GScope}{d y:Int}{k:Nat}(h:y∈trN s d k):y∈trN s d (k+1):=trFold_mem.2 (.inl h)
theorem trN_base{s:GScope}{d y:Int}(h:DRef s d y):∀k,y∈trN s d k
 |0=>mem_dirS.2 h
 |k+1=>trN_mono (trN_base h k)
def Shut(s:GScope) (a:List Int):Prop:=∀x∈a,∀y,DRef s x y→y∈a
open Classical in
theorem trN_grow{s:GScope}{d:Int}:∀k,Shut s (trN s d k)∨k+1≤(trN s d k).length
 |0=>by
  cases h:trN s d 0 with
  |nil=>exact .inl fun x hx=>by simp at hx
  |cons x l=>exact .inr (by simp)
 |k+1=>by
  by_cases hc:Shut s (trN s d k)
  ·refine .inl fun x hx y hy=>?_;have hx':x∈trN s d k:=by
    rcases trFold_mem.1 hx with h|⟨z,h1,h2⟩
    ·exact h
    ·exact hc z h1 x h2
   exact trN_mono (hc x hx' y hy)
  ·rcases trN_grow k with h|h
   ·exact(hc h).elim
   ·right;obtain⟨x,hx⟩:=Ur.1 hc;obtain⟨hx1,hx2⟩:=Es.1 hx;obtain⟨y,hy⟩:=Ur.1 hx2;obtain⟨hy1,hy2⟩:=Es.1 hy;have:=nodup_sub_len (a:=y::trN s d k) (b:=trN s d (k+1)) (ur.2 ⟨hy2,inc_nodup (trN_inv s d k).1⟩) fun z hz=>by
     rcases oo.1 hz with rfl|hz
     ·exact trFold_mem.2 (.inr ⟨x,hx1,hy1⟩)
     ·exact trN_mono hz
    simp only[jo]at this;omega
theorem trN_shut(s:GScope) (d:Int):Shut s (trN s d s.Defs.length):=by
 rcases trN_grow (s:=s) (d:=d) s.Defs.length with h|h
 ·exact h
 ·have:=(trN_inv s d s.Defs.length).len;omega
theorem mem_trN{s:GScope}{d y:Int}:y∈trN s d s.Defs.length↔Way s d y:=by
 constructor
 ·exact trN_sound
 ·intro h
  induction h with
  |one h=>exact trN_base h _
  |step h h2 ih=>exact trN_shut s d _ ih _ h2
theorem ref16_Transitive_s{s:GScope}(hs:ScOk s) (d:Int):ref16_Transitive s d=some (trN s d s.Defs.length):=by
 unfold ref16_Transitive;have hn:=hs.defs;have round:∀a,InR s.Defs.length a→loopO (ref16_Transitive_L40 s a) (a,0)=some (.inl (trR s a)):=by
  intro a ha;have:=ha.len;refine loopL a (trF s) a _ rfl (fun i hi=>?_) (by unfold ref16_Transitive_L40;simp[trR]);have hI:InR s.Defs.length ((a.take i).foldl (trF s) a):=trFold_inv ha;unfold ref16_Transitive_L40;simp only;rw[if_pos (by omega),idxN hi,nn,ref16_Direct_s hs,nn,wsucc (by omega)];generalize (a.take i).foldl (trF s) a=b at hI⊢;have hd:=(dirS_inv s a[i]).len;have hb:loopO (ref16_Transitive_L39 (dirS s a[i])) (b,0)=some (.inl ((dirS s a[i]).foldl insS b)):=by
   refine loopL (dirS s a[i]) insS b _ rfl (fun k hk=>?_) (by unfold ref16_Transitive_L39;simp);have hI2:InR s.Defs.length (((dirS s a[i]).take k).foldl insS b):=by
    rw[insS_insR fun x hx=>(dirS_inv s a[i]).2 x (Tp hx)];exact hI.fold
   have:=hI2.len;unfold ref16_Transitive_L39;simp only;rw[if_pos (by omega),idxN hk,nn,ref16_insert_s (by omega),nn,wsucc (by omega)]
  rw[hb,nn];rfl
 have hl:loopO (ref16_Transitive_L41 s) (dirS s d,0)=some (.inl (trN s d s.Defs.length)):=by
  refine loopG (fun i=>(trN s d i,(i:Int))) s.Defs.length _ (fun i hi=>?_) (by unfold ref16_Transitive_L41;simp) rfl;unfold ref16_Transitive_L41;simp only;rw[if_pos (by omega),round _ (trN_inv s d i),nn,wsucc (by omega)];rfl
 rw[ref16_Direct_s hs,nn,hl];rfl
def inR(n:Int) (l:List Int):List Int:=l.filter fun x=>decide (0≤x)&&decide (x<n)
theorem defs_loop{n:Int}{l a:List Int}(h:a.length+l.length≤1099511627776) {step:List Int×Int→Option (Ex (List Int×Int) (List Int) Unit)}
 (hstep:∀(a:List Int) (i:Nat) (hi:i<l.length),step (a,(i:Int))=(qn (α:=List Int) (if(decide (0≤l[i])&&decide (l[i]<n))=true then(app 8 a [l[i]]).bind fun x=>some x else some a) fun j=>some (.go (j,wrapF .i64 ((i:Int)+1)))))
 (hend:∀a,step (a,(l.length:Int))=some (.brk a)):loopO step (a,0)=some (.inl (a++inR n l)):=by
 refine loopG (fun i=>(a++inR n (l.take i),(i:Int))) l.length _ (fun i hi=>?_) ?_ (by simp[inR])
 ·have hlen:(inR n (l.take i)).length≤i:=by
   have:=Ko (fun x=>decide (0≤x)&&decide (x<n)) (l.take i);unfold inR;simp at this;omega
  have ht:inR n (l.take (i+1))=inR n (l.take i)++(if(decide (0≤l[i])&&decide (l[i]<n))=true then [l[i]]else []):=by
   unfold inR;rw[Wo,pn hi,Bp];simp only[Option.toList_some,List.filter_cons,pr]
  rw[hstep _ i hi,wsucc (by omega),ht];split
  ·rw[appS (by simp;omega)];simp
  ·simp
 ·rw[Ho];exact hend _
theorem deps_definitionsOf_s{r:GRule}(h:r.Guard.length≤1048576∧r.Value.length≤1048576) (n:Int):deps_definitionsOf r n=some (inR n (dfl isDef r.Guard)++inR n (dfl isDef r.Value)):=by
 unfold deps_definitionsOf;have l1:=dfl_len (p:=isDef) (e:=r.Guard);have l2:=dfl_len (p:=isDef) (e:=r.Value);have l3:(inR n (dfl isDef r.Guard)).length≤(dfl isDef r.Guard).length:=Ko _ _;rw[expr_References_s (by omega),nn,expr_References_s (by omega),nn];have b1:loopO (deps_definitionsOf_L3 n (refsS r.Guard)) (([]:List Int),0)=some (.inl ([]++inR n (dfl isDef r.Guard))):=by
  refine defs_loop (l:=dfl isDef r.Guard) (by simp;omega) (fun a i hi=>?_) (fun a=>?_)
  ·unfold deps_definitionsOf_L3 refsS;simp only;rw[if_pos (by omega),idxN hi,nn];by_cases g1:0≤(dfl isDef r.Guard)[i]<;>by_cases g2:(dfl isDef r.Guard)[i]<n<;>simp[g1,g2]
  ·unfold deps_definitionsOf_L3 refsS;simp
 rw[b1,nn];simp only[Jo];have b2:loopO (deps_definitionsOf_L2 n (refsS r.Value)) (inR n (dfl isDef r.Guard),0)=some (.inl (inR n (dfl isDef r.Guard)++inR n (dfl isDef r.Value))):=by
  refine defs_loop (l:=dfl isDef r.Value) (by omega) (fun a i hi=>?_) (fun a=>?_)
  ·unfold deps_definitionsOf_L2 refsS;simp only;rw[if_pos (by omega),idxN hi,nn];by_cases g1:0≤(dfl isDef r.Value)[i]<;>by_cases g2:(dfl isDef r.Value)[i]<n<;>simp[g1,g2]
  ·unfold deps_definitionsOf_L2 refsS;simp
 rw[b2];rfl
theorem mapM_some{α β:Type}{f:α→Option β}(g:α→β):∀{l:List α},(∀x∈l,f x=some (g x))→l.mapM f=some (l.map g)
 |[],_=>rfl
 |x::l,h=>by
  rw[List.mapM_cons,h x (by simp),mapM_some g fun y hy=>h y (by simp[hy])];rfl
def allD(s:GScope):List (List Int):=
 (wo s.Defs.length).map fun(d:Nat)=>dsort ((s.Rules.filter fun(r:GRule)=>r.Def==(d:Int)).map fun r=>inR s.Defs.length (dfl isDef r.Guard)++inR s.Defs.length (dfl isDef r.Value)).flatten
theorem deps_allDirect_s{s:GScope}(hs:ScOk s):deps_allDirect s=some (allD s):=by
 unfold deps_allDirect allD;rw[if_pos ⟨hs.defs,hs.rules,hs.g⟩];refine mapM_some _ fun d _=>?_;rw[mapM_some (fun r=>inR s.Defs.length (dfl isDef r.Guard)++inR s.Defs.length (dfl isDef r.Value)) fun r hr=>deps_definitionsOf_s (hs.g r (wq.1 hr).1) _];rfl
theorem mem_allD{s:GScope}{d:Int}{l:List Int}(h0:0≤d) (h:(allD s)[d.toNat]?=some l) (x:Int):x∈l↔DRef s d x:=by
 unfold allD at h;rw[List.getElem?_map]at h;by_cases hd:d.toNat<s.Defs.length
 ·rw[List.getElem?_range hd]at h;simp only[lp,An]at h;subst h;rw[(dsort_inv _).2.2];simp only[List.mem_flatten,Yp,wq,beq_iff_eq,DRef,ruleRefs,inR];rw[Int.toNat_of_nonneg h0];constructor
  ·rintro⟨_,⟨r,⟨hr,hrd⟩,rfl⟩,hx⟩;simp only[Fo,wq,xn,decide_eq_true_eq]at hx;rcases hx with⟨h1,h2⟩|⟨h1,h2⟩
   ·exact⟨⟨h0,by omega⟩,h2,r,hr,hrd,by simp[h1]⟩
   ·exact⟨⟨h0,by omega⟩,h2,r,hr,hrd,by simp[h1]⟩
  ·rintro⟨-,h2,r,hr,hrd,hx⟩;refine⟨_,⟨r,⟨hr,hrd⟩,rfl⟩,?_⟩;simp only[Fo,wq,xn,decide_eq_true_eq]at hx⊢;rcases hx with hx|hx
   ·exact .inl ⟨hx,h2⟩
   ·exact .inr ⟨hx,h2⟩
 ·rw[List.getElem?_eq_none (by simpa using hd)]at h;cases h
theorem allD_len(s:GScope):(allD s).length=s.Defs.length:=by simp[allD]
theorem reach_way{s:GScope}{a b:Int}(h0:0≤a):ReachL (allD s) a b↔Way s a b:=by
 constructor
 ·intro h;have key:∀{b:Int},ReachL (allD s) a b→Way s a b∧0≤b:=by
   intro b h
   induction h with
   |one h hb=>exact have:=(mem_allD h0 h _).1 hb;⟨.one this,this.2.1.1⟩
   |step h hl hc ih=>exact have:=(mem_allD ih.2 hl _).1 hc;⟨.step ih.1 this,this.2.1.1⟩
  exact(key h).1
 ·intro h;have get:∀{d x:Int},DRef s d x→∃l,(allD s)[d.toNat]?=some l∧x∈l:=by
   intro d x hd;have hlt:d.toNat<(allD s).length:=by rw[allD_len];have:=hd.1;omega
   exact⟨_,pn hlt,(mem_allD hd.1.1 (pn hlt) x).2 hd⟩
  induction h with
  |one h=>obtain⟨l,h1,h2⟩:=get h;exact .one h1 h2
  |step h h2 ih=>obtain⟨l,k1,k2⟩:=get h2;exact .step ih k1 k2
theorem contains_int{l:List Int}(hl:l.length≤1099511627776) (d:Int):slices_Contains_int_int l d=some (decide (d∈l)):=by
 have h:=containsF (l:=l) (p:=fun x=>some (decide (d=x))) (fun x=>decide (d=x)) (fun x _=>rfl) (by omega) (o:=loopO (slices_Index_int_int_L1 l d) 0) (by
  unfold slices_Index_int_int_L1;simp only[nn,decide_eq_true_eq])
 have h':slices_Contains_int_int l d=some (l.any fun x=>decide (d=x)):=h;rw[h'];congr 1;rw[Wq,kq];simp
open Classical in
theorem deps_Transitive_s{s:GScope}(hs:ScOk s) (d:Int):∃l,deps_Transitive s d=some l∧l.length≤1048576∧∀x,x∈l↔Way s d x:=by
 unfold deps_Transitive;by_cases hd:0≤d∧d<(s.Defs.length:Int)
 ·have hn:=hs.defs;refine⟨reachL (allD s) d,?_,?_,?_⟩
  ·rw[if_pos (by omega),nn,if_neg (by simp;omega),deps_allDirect_s hs,nn];unfold deps_reached;rw[if_pos]
   ·rfl
   ·refine⟨by rw[allD_len];omega,fun l hl=>?_,hd.1,by rw[allD_len];exact hd.2⟩;obtain⟨i,hi,rfl⟩:=Co hl;have hm:=fun x=>mem_allD (s:=s) (d:=(i:Int)) (l:=(allD s)[i]) (by omega) (by rw[Zp];exact pn hi) x;have hb:∀x∈(allD s)[i],0≤x∧x<((allD s).length:Int):=fun x hx=>by rw[allD_len];exact((hm x).1 hx).2.1
    refine⟨?_,hb⟩;have hinc:Inc (allD s)[i]:=by simp only[allD,List.getElem_map];exact(dsort_inv _).1
    have:=inc_len hinc hb;rw[allD_len]at this;omega
  ·have h1:=Ko (fun b=>@decide (ReachL (allD s) d b) (Classical.propDecidable _)) ((wo (allD s).length).map fun(k:Nat)=>(k:Int));unfold reachL;simp only[Oo,List.length_range,allD_len]at h1⊢;omega
  ·intro x;unfold reachL;rw[wq,allD_len,Yp,decide_eq_true_eq,reach_way hd.1];constructor
   ·exact fun h=>h.2
   ·intro h;refine⟨?_,h⟩;have:0≤x∧x<(s.Defs.length:Int):=by cases h with|one h=>exact h.2.1|step _ h=>exact h.2.1
    exact⟨x.toNat,by simp;omega,by omega⟩
 ·refine⟨[],?_,by simp,fun x=>?_⟩
  ·have:(if¬d<0 then some (decide ((s.Defs.length:Int)≤d))else some true)=some true:=by
    by_cases h:d<0
    ·rw[if_neg (by omega)]
    ·rw[if_pos h,decide_eq_true (by omega)]
   rw[this];rfl
  ·constructor
   ·intro h;simp at h
   ·intro h;exfalso;apply hd;clear hd
    induction h with
    |one h=>exact h.1
    |step h h2 ih=>exact ih
end Go.Proofs.Dev
namespace Go.Proofs.Dev
open Go Go.Tm
structure LawOk (l:GLaw):Prop where
 ne:l.Enums.length≤1048576
 nt:l.Tables.length≤1048576
 ns:l.Scopes.length≤1048576
 e:∀x∈l.Enums,x.Name.size≤1048576∧∀m∈x.Members,m.size≤1048576
 t:∀x∈l.Tables,x.Name.size≤1048576
 s:∀x∈l.Scopes,x.Name.size≤1048576∧ScOk x∧x.Inputs.length≤1048576∧(∀f∈x.Inputs,f.Name.size≤1048576)∧(∀f∈x.Defs,f.Name.size≤1048576)∧
  (∀r∈x.Rules,r.Name.size≤1048576∧r.Source.size≤1048576∧(∀n∈r.Guard,NodeOk n)∧∀n∈r.Value,NodeOk n)
theorem any_take_ff{α ρ:Type}{l:List α}{q:α→Bool}{k:Nat}(hk:k≤l.length) {g:Nat→ρ}:(ff (fun i=>if i<k∧(l[i]?.any q)=true then some (g i)else none) l.length).isSome=(l.take k).any q:=by
 rw[←ff_any (l:=l.take k) (q:=q) (g:=g)];have h:∀m,k≤m→ff (fun i=>if i<k∧(l[i]?.any q)=true then some (g i)else none) m=ff (fun i=>if((l.take k)[i]?.any q)=true then some (g i)else none) k:=by
  intro m hm
  cases h1:ff (fun i=>if((l.take k)[i]?.any q)=true then some (g i)else none) k with
  |none=>
   refine ff_none.2 fun i hi=>?_;by_cases hik:i<k
   ·have:=ff_none.1 h1 i hik;rw[sq hik]at this;simpa [hik] using this
   ·simp[hik]
  |some v=>
   obtain⟨i,h2,h3,h4⟩:=ff_some.1 h1;refine ff_some.2 ⟨i,by omega,?_,fun j hj=>?_⟩
   ·rw[sq h2]at h3;simpa [h2] using h3
   ·have:=h4 j hj;rw[sq (by omega)]at this;simpa [show j<k by omega] using this
 rw[h _ hk,No,Nat.min_eq_left hk]
theorem take_any_loop{α:Type}{l:List α}{q:α→Bool}{k:Nat}(hl:l.length≤1048576) (hk:k≤l.length) {step:Int→Option (Ex Int Unit Bool)}
 (hstep:∀(i:Nat) (hi:i<l.length),step (i:Int)=if i<k∧q l[i]=true then some (.ret true)else some (.go ((i+1:Nat):Int))) (hend:step (l.length:Int)=some (.brk ())) :
 loopO step 0=some (if(l.take k).any q=true then .inr true else .inl ()):=by
 have h1:=loopF (step:=step) (x0:=0) (fun i=>(i:Int)) (fun i=>if i<k∧(l[i]?.any q)=true then some true else none) l.length () (fun i hi _=>by
  rw[hstep i hi,pn hi,Ro];by_cases h:i<k∧q l[i]=true
  ·rw[if_pos h,if_pos h];rfl
  ·rw[if_neg h,if_neg h];rfl) (fun _=>hend)
 rw[h1,←any_take_ff (q:=q) (g:=fun _=>true) hk]
 cases hf:ff (fun i=>if i<k∧(l[i]?.any q)=true then some true else none) l.length with
 |none=>rfl
 |some v=>
  obtain⟨i,-,h2,-⟩:=ff_some.1 hf;split at h2
  ·injection h2 with h2;subst h2;rfl
  ·cases h2
theorem never_loop{n:Nat}(hn:n≤1048576) {step:Int→Option (Ex Int Unit Bool)}(hstep:∀i:Nat,i<n→step (i:Int)=some (.go ((i+1:Nat):Int))) (hend:step (n:Int)=some (.brk ())):loopO step 0=some (.inl ()):=
 loopG (fun i=>(i:Int)) n () (fun i hi=>hstep i hi) hend
theorem taken1{l:GLaw}(h:LawOk l) {i:Nat}(hi:i≤l.Enums.length) (nm:ByteArray):ref17_nameTaken l 1 (i:Int) nm=some ((l.Enums.take i).any fun x=>decide (x.Name=nm)):=by
 have hne:=h.ne;have hnt:=h.nt;have hns:=h.ns;unfold ref17_nameTaken;have h1:loopO (ref17_nameTaken_L5 l 1 (i:Int) nm) 0=some (if(l.Enums.take i).any (fun x=>decide (x.Name=nm))=true then .inr true else .inl ()):=take_any_loop hne hi (fun k hk=>by
  unfold ref17_nameTaken_L5;rw[if_pos (by omega),idxN hk,wsucc (by omega)];by_cases hki:k<i
  ·by_cases hn:l.Enums[k].Name=nm<;>simp[hki,hn]
  ·simp[hki]) (by unfold ref17_nameTaken_L5;simp)
 have h2:loopO (ref17_nameTaken_L4 l 1 (i:Int) nm) 0=some (.inl ()):=never_loop hnt (fun k hk=>by
  unfold ref17_nameTaken_L4;rw[if_pos (by omega),wsucc (by omega)];simp) (by unfold ref17_nameTaken_L4;simp)
 have h3:loopO (ref17_nameTaken_L3 l 1 (i:Int) nm) 0=some (.inl ()):=never_loop hns (fun k hk=>by
  unfold ref17_nameTaken_L3;rw[if_pos (by omega),wsucc (by omega)];simp) (by unfold ref17_nameTaken_L3;simp)
 rw[h1,h2,h3];cases (l.Enums.take i).any fun x=>decide (x.Name=nm)<;>rfl
theorem all_loop{l:GLaw}(h:LawOk l) {t i:Int}(ht:1<t) (nm:ByteArray):loopO (ref17_nameTaken_L5 l t i nm) 0=some (if l.Enums.any (fun x=>decide (x.Name=nm))=true then .inr true else .inl ()):=by
 have hne:=h.ne;have:=take_any_loop (l:=l.Enums) (q:=fun x=>decide (x.Name=nm)) (k:=l.Enums.length) (step:=ref17_nameTaken_L5 l t i nm) hne (En _) (fun k hk=>by
  unfold ref17_nameTaken_L5;rw[if_pos (by omega),idxN hk,wsucc (by omega),if_neg (by simpa using ht)];by_cases hn:l.Enums[k].Name=nm<;>simp[hk,hn]) (by unfold ref17_nameTaken_L5;simp)
 rwa [Ho]at this
theorem taken2{l:GLaw}(h:LawOk l) {i:Nat}(hi:i≤l.Tables.length) (nm:ByteArray):ref17_nameTaken l 2 (i:Int) nm=some ((l.Enums.any fun x=>decide (x.Name=nm)) || (l.Tables.take i).any fun x=>decide (x.Name=nm)):=by
 have hne:=h.ne;have hnt:=h.nt;have hns:=h.ns;unfold ref17_nameTaken;have h2:loopO (ref17_nameTaken_L4 l 2 (i:Int) nm) 0=some (if(l.Tables.take i).any (fun x=>decide (x.Name=nm))=true then .inr true else .inl ()):=take_any_loop hnt hi (fun k hk=>by
  unfold ref17_nameTaken_L4;rw[if_pos (by omega),idxN hk,wsucc (by omega)];by_cases hki:k<i
  ·by_cases hn:l.Tables[k].Name=nm<;>simp[hki,hn]
  ·simp[hki]) (by unfold ref17_nameTaken_L4;simp)
 have h3:loopO (ref17_nameTaken_L3 l 2 (i:Int) nm) 0=some (.inl ()):=never_loop hns (fun k hk=>by
  unfold ref17_nameTaken_L3;rw[if_pos (by omega),wsucc (by omega)];simp) (by unfold ref17_nameTaken_L3;simp)
 rw[all_loop h (by omega),h2,h3];cases l.Enums.any fun x=>decide (x.Name=nm)
 ·cases (l.Tables.take i).any fun x=>decide (x.Name=nm)<;>rfl
 ·rfl
theorem taken3{l:GLaw}(h:LawOk l) {i:Nat}(hi:i≤l.Scopes.length) (nm:ByteArray):ref17_nameTaken l 3 (i:Int) nm=some ((l.Enums.any fun x=>decide (x.Name=nm)) || ((l.Tables.any fun x=>decide (x.Name=nm)) || (l.Scopes.take i).any fun x=>decide (x.Name=nm))):=by
 have hne:=h.ne;have hnt:=h.nt;have hns:=h.ns;unfold ref17_nameTaken;have h2:loopO (ref17_nameTaken_L4 l 3 (i:Int) nm) 0=some (if l.Tables.any (fun x=>decide (x.Name=nm))=true then .inr true else .inl ()):=by
  have:=take_any_loop (l:=l.Tables) (q:=fun x=>decide (x.Name=nm)) (k:=l.Tables.length) (step:=ref17_nameTaken_L4 l 3 (i:Int) nm) hnt (En _) (fun k hk=>by
   unfold ref17_nameTaken_L4;rw[if_pos (by omega),idxN hk,wsucc (by omega)];by_cases hn:l.Tables[k].Name=nm<;>simp[hk,hn]) (by unfold ref17_nameTaken_L4;simp)
  rwa [Ho]at this
 have h3:loopO (ref17_nameTaken_L3 l 3 (i:Int) nm) 0=some (if(l.Scopes.take i).any (fun x=>decide (x.Name=nm))=true then .inr true else .inl ()):=take_any_loop hns hi (fun k hk=>by
  unfold ref17_nameTaken_L3;rw[if_pos (by omega),idxN hk,wsucc (by omega)];by_cases hki:k<i
  ·by_cases hn:l.Scopes[k].Name=nm<;>simp[hki,hn]
  ·simp[hki]) (by unfold ref17_nameTaken_L3;simp)
 rw[all_loop h (by omega),h2,h3];cases l.Enums.any fun x=>decide (x.Name=nm)
 ·cases l.Tables.any fun x=>decide (x.Name=nm)
  ·cases (l.Scopes.take i).any fun x=>decide (x.Name=nm)<;>rfl
  ·rfl
 ·rfl
theorem hasEnum_s{l:List GEnum}(hl:l.length≤1048576) (nm:ByteArray):law_hasEnum l nm=some (l.any fun x=>decide (x.Name=nm)):=by
 have h:=containsF (l:=l) (p:=fun x=>law_hasEnum_c1 x nm) (fun x=>decide (x.Name=nm)) (fun x _=>rfl) (by omega) (o:=loopO (slices_IndexFunc_api_Enum_api_Enum_L1 l (fun x=>law_hasEnum_c1 x nm)) 0) rfl;have h':slices_ContainsFunc_api_Enum_api_Enum l (fun x=>law_hasEnum_c1 x nm)=some (l.any fun x=>decide (x.Name=nm)):=h;unfold law_hasEnum;rw[h'];rfl
theorem hasTable_s{l:List GTable}(hl:l.length≤1048576) (nm:ByteArray):law_hasTable l nm=some (l.any fun x=>decide (x.Name=nm)):=by
 have h:=containsF (l:=l) (p:=fun x=>law_hasTable_c1 x nm) (fun x=>decide (x.Name=nm)) (fun x _=>rfl) (by omega) (o:=loopO (slices_IndexFunc_api_Table_api_Table_L1 l (fun x=>law_hasTable_c1 x nm)) 0) rfl;have h':slices_ContainsFunc_api_Table_api_Table l (fun x=>law_hasTable_c1 x nm)=some (l.any fun x=>decide (x.Name=nm)):=h;unfold law_hasTable;rw[h'];rfl
theorem hasScope_s{l:List GScope}(hl:l.length≤1048576) (y:GScope):slices_ContainsFunc_api_Scope_api_Scope l (fun x=>law_checkScope_c1 x y)=some (l.any fun x=>decide (x.Name=y.Name)):=
 containsF (l:=l) (p:=fun x=>law_checkScope_c1 x y) (fun x=>decide (x.Name=y.Name)) (fun x _=>rfl) (by omega) (o:=loopO (slices_IndexFunc_api_Scope_api_Scope_L1 l (fun x=>law_checkScope_c1 x y)) 0) rfl
theorem hasField_s{l:List GField}(hl:l.length≤1048576) (y:GField):slices_ContainsFunc_api_Field_api_Field l (fun x=>law_checkField_c1 x y)=some (l.any fun x=>decide (x.Name=y.Name)):=
 containsF (l:=l) (p:=fun x=>law_checkField_c1 x y) (fun x=>decide (x.Name=y.Name)) (fun x _=>rfl) (by omega) (o:=loopO (slices_IndexFunc_api_Field_api_Field_L1 l (fun x=>law_checkField_c1 x y)) 0) rfl
theorem hasRule_s{l:List GRule}(hl:l.length≤1048576) (y:GRule):slices_ContainsFunc_api_Rule_api_Rule l (fun x=>law_checkRule_c1 x y)=some (l.any fun x=>decide (x.Name=y.Name)):=
 containsF (l:=l) (p:=fun x=>law_checkRule_c1 x y) (fun x=>decide (x.Name=y.Name)) (fun x _=>rfl) (by omega) (o:=loopO (slices_IndexFunc_api_Rule_api_Rule_L1 l (fun x=>law_checkRule_c1 x y)) 0) rfl
theorem hasStr_s{l:List ByteArray}(hl:l.length≤1048576) (y:ByteArray):slices_Contains_string_string l y=some (l.any fun x=>decide (x=y)):=by
 have h:=containsF (l:=l) (p:=fun x=>some (decide (y=x))) (fun x=>decide (x=y)) (fun x _=>by simp[eq_comm]) (by omega) (o:=loopO (slices_Index_string_string_L1 l y) 0) (by
  unfold slices_Index_string_string_L1;simp only[nn,decide_eq_true_eq])
 exact h
end Go.Proofs.Dev
namespace Go.Proofs.Dev
open Go Go.Tm
noncomputable def memF(x:GEnum) (k:Nat):Option (Int×Int):=
 match x.Members[k]? with
 |some m=>if identB m=false then some (2,100+(k:Int))else if((x.Members.take k).any fun y=>decide (y=m))=true then some (7,100+(k:Int))else none
 |none=>none
noncomputable def enumE(l:GLaw) (i:Nat) (x:GEnum):Int×Int:=
 if identB x.Name=false then(2,0)else if((l.Enums.take i).any fun y=>decide (y.Name=x.Name))=true then(7,0)
 else if x.Members.length=0 then(5,0)else if 16<x.Members.length then(4,116)else(ff (memF x) x.Members.length).getD (0,0)
theorem memF_ne{x:GEnum}{k:Nat}{v:Int×Int}(h:memF x k=some v):v.1≠0:=by
 unfold memF at h;split at h
 ·split at h
  ·injection h with h;subst h;simp
  ·split at h
   ·injection h with h;subst h;simp
   ·cases h
 ·cases h
theorem law_checkEnum_s{l:GLaw}(h:LawOk l) {i:Nat}(hi:i<l.Enums.length):law_checkEnum l (i:Int) l.Enums[i]=some (enumE l i l.Enums[i]):=by
 obtain⟨g1,g2⟩:=h.e _ (On hi);have hne:=h.ne;generalize l.Enums[i]=x at g1 g2⊢;unfold law_checkEnum enumE;rw[lexer_ident (by omega),nn];cases identB x.Name
 ·rfl
 simp only[tn,Un,if_false];rw[subhN (by omega),nn,hasEnum_s (by simp;omega),nn];cases (l.Enums.take i).any fun y=>decide (y.Name=x.Name)
 ·simp only[tn,Un,if_false];by_cases h0:x.Members.length=0
  ·rw[if_pos (by omega),if_pos h0]
  rw[if_neg (by omega),if_neg h0];by_cases h16:16<x.Members.length
  ·rw[if_pos (by omega),if_pos h16]
  rw[if_neg (by omega),if_neg h16];have hl:loopO (law_checkEnum_L1 x) 0=some (outR () (ff (memF x) x.Members.length)):=
   loopF (fun k=>(k:Int)) _ _ _ (fun k hk _=>by
    have hm:=g2 _ (On hk);unfold law_checkEnum_L1 memF;rw[if_pos (by omega),idxN hk,nn,lexer_ident (by omega),nn,pn hk,wid (n:=100+(k:Int)) (by omega) (by omega),wsucc (by omega),subhN (by omega),nn,hasStr_s (by simp;omega),nn];simp only;cases identB x.Members[k]
    ·rfl
    ·simp only[tn,Un,if_false];cases (x.Members.take k).any fun y=>decide (y=x.Members[k])<;>rfl) (fun _=>by unfold law_checkEnum_L1;simp)
  rw[hl];cases ff (memF x) x.Members.length<;>rfl
 ·rfl
theorem ref17_enumError_s{l:GLaw}(h:LawOk l) {i:Nat}(hi:i<l.Enums.length):ref17_enumError l (i:Int)=some (if(enumE l i l.Enums[i]).1=0 then⟨0,0,0,0⟩else⟨(enumE l i l.Enums[i]).1,1,i,(enumE l i l.Enums[i]).2⟩):=by
 obtain⟨g1,g2⟩:=h.e _ (On hi);have hne:=h.ne;unfold ref17_enumError enumE;rw[idxN hi,nn];generalize l.Enums[i]=x at g1 g2⊢;rw[ref08_ident (by omega),nn,taken1 h (by omega),nn];cases identB x.Name
 ·rfl
 simp only[tn,Un,if_false];cases (l.Enums.take i).any fun y=>decide (y.Name=x.Name)
 ·simp only[tn,Un,if_false];by_cases h0:x.Members.length=0
  ·rw[if_pos (by omega),if_pos h0];rfl
  rw[if_neg (by omega),if_neg h0];by_cases h16:16<x.Members.length
  ·rw[if_pos (by omega),if_pos h16];rfl
  rw[if_neg (by omega),if_neg h16];have hl:loopO (ref17_enumError_L9 (i:Int) x) (0,0)=some (outR () ((ff (memF x) x.Members.length).map fun v=>(⟨v.1,1,(i:Int),v.2⟩:GLawError))):=by
   have hff:(ff (memF x) x.Members.length).map (fun v=>(⟨v.1,1,(i:Int),v.2⟩:GLawError))=ff (fun k=>(memF x k).map fun v=>(⟨v.1,1,(i:Int),v.2⟩:GLawError)) x.Members.length:=by
    cases h1:ff (memF x) x.Members.length with
    |none=>rw[Yq];exact(ff_none.2 fun k hk=>by rw[ff_none.1 h1 k hk];rfl).symm
    |some v=>obtain⟨k,k1,k2,k3⟩:=ff_some.1 h1;exact(ff_some.2 ⟨k,k1,by rw[k2];rfl,fun j hj=>by rw[k3 j hj];rfl⟩).symm
   rw[hff];refine loopF (fun k=>((if k=0 then 0 else 100+((k-1:Nat):Int)),(k:Int))) _ _ _ (fun k hk _=>?_) (fun _=>by unfold ref17_enumError_L9;simp) (by rfl);have hm:=g2 _ (On hk);unfold ref17_enumError_L9 memF;simp only;rw[if_pos (by omega),idxN hk,nn,ref08_ident (by omega),nn,pn hk,wid (n:=100+(k:Int)) (by omega) (by omega),wsucc (by omega)];have hl2:loopO (ref17_enumError_L8 (i:Int) x (k:Int) x.Members[k]) 0=some (outR () (ff (fun j=>if((x.Members.take k)[j]?.any fun y=>decide (y=x.Members[k]))=true then some (Ex.ret (⟨7,1,(i:Int),100+(k:Int)⟩:GLawError))else none) (x.Members.take k).length)):=
    loopF (fun j=>(j:Int)) _ _ _ (fun j hj _=>by
     have hjk:j<k:=by simp at hj;omega
     unfold ref17_enumError_L8;rw[if_pos (by omega),idxN (by omega),nn,pn hj,wid (n:=100+(k:Int)) (by omega) (by omega),wsucc (by omega)];simp only[Ro,uq,decide_eq_true_eq];by_cases he:x.Members[j]=x.Members[k]
     ·rw[if_pos he,if_pos he];rfl
     ·rw[if_neg he,if_neg he];rfl) (fun _=>by
      unfold ref17_enumError_L8;rw[if_neg (by simp;omega)])
   dsimp only;cases identB x.Members[k]
   ·rfl
   simp only[tn,Un,if_false];rw[hl2,nn,←ff_any (l:=x.Members.take k) (q:=fun y=>decide (y=x.Members[k])) (g:=fun _=>(Ex.ret (⟨7,1,(i:Int),100+(k:Int)⟩:GLawError):Ex (Int×Int) Unit GLawError))]
   cases h1:ff (fun j=>if((x.Members.take k)[j]?.any fun y=>decide (y=x.Members[k]))=true then some (Ex.ret (⟨7,1,(i:Int),100+(k:Int)⟩:GLawError):Ex (Int×Int) Unit GLawError)else none) (x.Members.take k).length with
   |none=>simp[outR,goR]
   |some v=>
    obtain⟨j,j1,j2,-⟩:=ff_some.1 h1;split at j2
    ·injection j2 with j2;subst j2;rfl
    ·cases j2
  rw[hl]
  cases h1:ff (memF x) x.Members.length with
  |none=>rfl
  |some v=>
   obtain⟨k,-,k2,-⟩:=ff_some.1 h1;have:=memF_ne k2;simp[outR,this]
 ·rfl
noncomputable def tabE(l:GLaw) (i:Nat) (x:GTable):Int×Int:=
 if identB x.Name=false then(2,0)
 else if((l.Enums.any fun y=>decide (y.Name=x.Name)) || (l.Tables.take i).any fun y=>decide (y.Name=x.Name))=true then(7,0)
 else if(tableV x l.Enums).2=0 then(0,0)else((tableV x l.Enums).2,if(tableV x l.Enums).1 = -1 then 0 else 100+(tableV x l.Enums).1)
theorem tableV_row(t:GTable) (e:List GEnum):-1≤(tableV t e).1∧(tableV t e).1≤64:=by
 unfold tableV;split
 ·simp
 ·split
  ·simp
  ·cases h:ff (rowF t e) t.Rows.length with
   |none=>simp
   |some v=>
    obtain⟨k,h1,h2,-⟩:=ff_some.1 h;unfold rowF at h2;rename_i h64 _;rw[pn h1]at h2;simp only at h2;split at h2
    ·injection h2 with h2;subst h2;simp;omega
    ·split at h2
     ·injection h2 with h2;subst h2;simp;omega
     ·cases h2
theorem law_tab_s{l:GLaw}(h:LawOk l):loopO (law_checkTables_L1 l) 0=some (outR () (ff (fun i=>match l.Tables[i]? with|some x=>if(tabE l i x).1=0 then none else some (⟨(tabE l i x).1,2,(i:Int),(tabE l i x).2⟩:GLawError)|none=>none) l.Tables.length)):=by
 have hnt:=h.nt;have hne:=h.ne;refine loopF (fun k=>(k:Int)) _ _ _ (fun i hi _=>?_) (fun _=>by unfold law_checkTables_L1;simp);have hx:=h.t _ (On hi);unfold law_checkTables_L1 tabE;rw[if_pos (by omega),idxN hi,nn,pn hi,wsucc (by omega)];simp only;generalize l.Tables[i]=x at hx⊢;have hr:=tableV_row x l.Enums;rw[table_Validate_s,nn,lexer_ident (by omega),nn,hasEnum_s hne,nn,subhN (by omega),nn,hasTable_s (by simp;omega),wid (n:=100+(tableV x l.Enums).1) (by omega) (by omega)];generalize tableV x l.Enums=v;cases identB x.Name
 ·rfl
 cases l.Enums.any fun y=>decide (y.Name=x.Name)
 ·cases (l.Tables.take i).any fun y=>decide (y.Name=x.Name)
  ·by_cases h2:v.2=0
   ·simp[h2,goR]
   ·by_cases h1:v.1 = -1<;>simp[h1,h2,goR]
  ·rfl
 ·rfl
theorem ref17_tableError_s{l:GLaw}(h:LawOk l) {i:Nat}(hi:i<l.Tables.length):ref17_tableError l (i:Int)=some (if(tabE l i l.Tables[i]).1=0 then⟨0,0,0,0⟩else⟨(tabE l i l.Tables[i]).1,2,i,(tabE l i l.Tables[i]).2⟩):=by
 have hnt:=h.nt;have hne:=h.ne;have hx:=h.t _ (On hi);unfold ref17_tableError tabE;rw[idxN hi,nn];generalize l.Tables[i]=x at hx⊢;have hr:=tableV_row x l.Enums;rw[ref08_ident (by omega),nn,taken2 h (by omega),nn,ref12_Validate_s,nn,wid (n:=100+(tableV x l.Enums).1) (by omega) (by omega)];generalize tableV x l.Enums=v at hr⊢;cases identB x.Name
 ·rfl
 cases (l.Enums.any fun y=>decide (y.Name=x.Name)) || (l.Tables.take i).any fun y=>decide (y.Name=x.Name)
 ·by_cases h2:v.2=0
  ·simp[h2]
  ·by_cases h1:v.1 = -1
   ·simp[h1,h2]
   ·simp[h1,h2,show 0≤v.1 by omega]
 ·rfl
noncomputable def fieldE(l:GLaw) (f:GField) (a b:List GField):Int:=
 if identB f.Name=false then 2 else if((a.any fun y=>decide (y.Name=f.Name)) || b.any fun y=>decide (y.Name=f.Name))=true then 7 else if validTypeB f.Type_ l.Enums=false then 8 else 0
theorem law_checkField_s{l:GLaw}{f:GField}{a b:List GField}(hf:f.Name.size≤1048576) (ha:a.length≤1048576) (hb:b.length≤1048576):law_checkField l f a b=some (fieldE l f a b):=by
 unfold law_checkField fieldE;rw[lexer_ident (by omega),nn,hasField_s ha,nn,hasField_s hb,value_ValidType_s,nn];cases identB f.Name
 ·rfl
 cases a.any fun y=>decide (y.Name=f.Name)
 ·cases b.any fun y=>decide (y.Name=f.Name)
  ·cases validTypeB f.Type_ l.Enums<;>rfl
  ·rfl
 ·rfl
theorem ref17_hasField_s{l:List GField}{k:Nat}(hl:l.length≤1048576) (hk:k≤l.length) (nm:ByteArray):ref17_hasField l (k:Int) nm=some ((l.take k).any fun y=>decide (y.Name=nm)):=by
 unfold ref17_hasField;have h1:loopO (ref17_hasField_L1 l (k:Int) nm) 0=some (outR () (ff (fun i=>if((l.take k)[i]?.any fun y=>decide (y.Name=nm))=true then some true else none) (l.take k).length)):=
  loopF (fun i=>(i:Int)) _ _ _ (fun i hi _=>by
   have hik:i<k:=by simp at hi;omega
   unfold ref17_hasField_L1;rw[if_pos (by omega),nn,decide_eq_true (by omega),if_pos rfl,idxN (by omega),nn,pn hi,wsucc (by omega)];simp only[Ro,uq,decide_eq_true_eq];by_cases he:l[i].Name=nm
   ·rw[if_pos he,if_pos he];rfl
   ·rw[if_neg he,if_neg he];rfl) (fun _=>by
    unfold ref17_hasField_L1;rw[if_neg (by simp;omega)];rfl)
 rw[h1,←ff_any (q:=fun(y:GField)=>decide (y.Name=nm)) (g:=fun _=>true),nn]
 cases h2:ff (fun i=>if((l.take k)[i]?.any fun y=>decide (y.Name=nm))=true then some true else none) (l.take k).length with
 |none=>rfl
 |some v=>
  obtain⟨j,j1,j2,-⟩:=ff_some.1 h2;split at j2
  ·injection j2 with j2;subst j2;rfl
  ·cases j2
theorem fieldTypes_loop{l:List GField}(hl:l.length≤1048576) {step:List GType×Int→Option (Ex (List GType×Int) (List GType) Unit)}
 (hstep:∀(a:List GType) (i:Nat) (hi:i<l.length),step (a,(i:Int))=((app 16 a [l[i].Type_]).bind fun x=>some (.go (x,wrapF .i64 ((i:Int)+1)))))
 (hend:∀a,step (a,(l.length:Int))=some (.brk a)):loopO step (([]:List GType),0)=some (.inl (l.map (·.Type_))):=by
 refine loopG (fun i=>((l.take i).map (·.Type_),(i:Int))) l.length _ (fun i hi=>?_) (by rw[Ho];exact hend _) (by simp);rw[hstep _ i hi,appS (by simp;omega),nn,wsucc (by omega),Wo,pn hi,Pp];rfl
theorem law_fieldTypes_s{l:List GField}(hl:l.length≤1048576):law_fieldTypes l=some (l.map (·.Type_)):=by
 unfold law_fieldTypes;rw[fieldTypes_loop hl (step:=law_fieldTypes_L1 l) (fun a i hi=>by unfold law_fieldTypes_L1;simp only;rw[if_pos (by omega),idxN hi,nn]) (fun a=>by unfold law_fieldTypes_L1;simp)];rfl
def sigS(l:GLaw) (s:GScope):GSignature:=
 if h:0≤s.MemberScope∧s.MemberScope<(l.Scopes.length:Int)then⟨l.Enums,l.Tables,s.Inputs.map (·.Type_),s.Defs.map (·.Type_),(l.Scopes[s.MemberScope.toNat]'(by omega)).Defs.map (·.Type_),true⟩
 else⟨l.Enums,l.Tables,s.Inputs.map (·.Type_),s.Defs.map (·.Type_),[],false⟩
theorem law_sharedSignature_s{l:GLaw}(h:LawOk l) {i:Nat}(hi:i<l.Scopes.length):law_sharedSignature l (i:Int)=some (sigS l l.Scopes[i]):=by
 obtain⟨g1,g2,g3,-⟩:=h.s _ (On hi);have gd:=g2.defs;unfold law_sharedSignature sigS;rw[idxN hi,nn];generalize l.Scopes[i]=x at gd g3⊢;rw[law_fieldTypes_s g3,nn,law_fieldTypes_s gd,nn];by_cases hm:0≤x.MemberScope∧x.MemberScope<(l.Scopes.length:Int)
 ·have hd:=(h.s _ (On (l:=l.Scopes) (n:=x.MemberScope.toNat) (by omega))).2.1.defs;rw[dif_pos hm,if_pos hm.1,nn,if_pos (by simpa using hm.2),idxI hm.1 hm.2,nn,law_fieldTypes_s hd];rfl
 ·rw[dif_neg hm];by_cases h0:0≤x.MemberScope
  ·rw[if_pos h0,nn,if_neg (by simp;omega)];rfl
  ·rw[if_neg h0];rfl
theorem ref17_Signature_s{l:GLaw}(h:LawOk l) {i:Nat}(hi:i<l.Scopes.length):ref17_Signature l (i:Int)=some (sigS l l.Scopes[i]):=by
 rw[←law_sharedSignature_s h hi];unfold ref17_Signature law_sharedSignature;rw[if_pos (by omega),nn,if_neg (by simp;omega)];rfl
def srcAt(s:ByteArray) (i:Nat):Bool:=if h:i<s.size then decide (32≤(s[i].toNat:Int))&&decide ((s[i].toNat:Int)≤126)&&!((s[i].toNat:Int)==34)else true
def srcB(s:ByteArray):Bool:=decide (s.size≤64)&&(ff (fun i=>if srcAt s i=true then none else some false) s.size).isNone
theorem ref17_plainText_s{s:ByteArray}(hs:s.size≤1048576):ref17_plainText s=some (srcB s):=by
 unfold ref17_plainText srcB;have h1:loopO (ref17_plainText_L1 s) 0=some (outR () (ff (fun i=>if srcAt s i=true then none else some false) s.size)):=
  loopF (fun i=>(i:Int)) _ _ _ (fun i hi _=>by
   unfold ref17_plainText_L1 srcAt;rw[if_pos (by omega),sidxN hi,nn,wsucc (by omega),dif_pos hi];generalize (s[i].toNat:Int)=c;by_cases c1:c<32
   ·simp[c1,show¬32≤c by omega,goR]
   ·by_cases c2:126<c
    ·simp[c1,c2,show¬c≤126 by omega,show 32≤c by omega,goR]
    ·by_cases c3:c=34<;>simp[c1,c2,c3,show c≤126 by omega,show 32≤c by omega,goR]) (fun _=>by unfold ref17_plainText_L1;simp)
 rw[h1]
 cases h2:ff (fun i=>if srcAt s i=true then none else some false) s.size with
 |none=>
  have:decide ((s.size:Int)≤64)=decide (s.size≤64):=by rw[decide_eq_decide];omega
  simp only[outR,nn,Ds,Nn,this]
 |some v=>
  obtain⟨j,j1,j2,-⟩:=ff_some.1 h2;split at j2
  ·cases j2
  ·injection j2 with j2;subst j2;simp[outR]
theorem mem_bytes{s:ByteArray}{c:UInt8}:s.data.toList.contains c=true↔∃i,∃h:i<s.size,s[i]=c:=by
 rw[List.contains_iff_mem];constructor
 ·intro h;obtain⟨i,hi,he⟩:=Co h;exact⟨i,by simpa using hi,by rw[←he];rfl⟩
 ·rintro⟨i,hi,rfl⟩;exact On (l:=s.data.toList) (n:=i) (by simpa using hi)
theorem law_validSource_s{s:ByteArray}(hs:s.size≤1048576):law_validSource s=some (srcB s):=by
 unfold law_validSource srcB strings_Contains;rw[if_pos (show(vn #[34]).size=1 from rfl)];by_cases h64:64<s.size
 ·rw[if_neg (by simp;omega),decide_eq_false (by omega)];rfl
 rw[if_pos (by simp;omega),decide_eq_true (p:=s.size≤64) (by omega)];have h1:loopO (law_validSource_L1 s) 0=some (outR () (ff (fun i=>if(if h:i<s.size then decide (32≤(s[i].toNat:Int))&&decide ((s[i].toNat:Int)≤126)else true)=true then none else some false) s.size)):=
  loopF (fun i=>(i:Int)) _ _ _ (fun i hi _=>by
   unfold law_validSource_L1;rw[if_pos (by omega),sidxN hi,nn,wsucc (by omega),dif_pos hi];generalize (s[i].toNat:Int)=c;by_cases c1:c<32
   ·simp[c1,show¬32≤c by omega,goR]
   ·by_cases c2:126<c
    ·simp[c1,c2,show¬c≤126 by omega,show 32≤c by omega,goR]
    ·simp[c1,c2,show c≤126 by omega,show 32≤c by omega,goR]) (fun _=>by unfold law_validSource_L1;simp)
 rw[h1];simp only[nn,Kp];have hc:=mem_bytes (s:=s) (c:=34);change (s.data.toList.contains ((vn #[34]).data.toList.headD 0))=true↔_ at hc;have h34:∀i (h:i<s.size),s[i]=34↔(s[i].toNat:Int)=34:=fun i h=>by
  constructor
  ·intro he;rw[he];rfl
  ·intro he;apply UInt8.toNat_inj.1;have:s[i].toNat=34:=by omega
   rw[this];rfl
 cases hq:s.data.toList.contains ((vn #[34]).data.toList.headD 0)
 ·rw[hq]at hc;have hno:∀i (h:i<s.size),(s[i].toNat:Int)≠34:=fun i h he=>by
   have:=hc.2 ⟨i,h,(h34 i h).2 he⟩;cases this
  rw[if_neg (by simp)];have hff:ff (fun i=>if(if h:i<s.size then decide (32≤(s[i].toNat:Int))&&decide ((s[i].toNat:Int)≤126)else true)=true then none else some false) s.size=ff (fun i=>if srcAt s i=true then none else some false) s.size:=by
   refine ff_congr fun i hi=>?_;unfold srcAt;have:=hno i hi;rw[dif_pos hi,dif_pos hi];simp[this]
  rw[hff]
  cases h2:ff (fun i=>if srcAt s i=true then none else some false) s.size with
  |none=>rfl
  |some v=>
   obtain⟨j,j1,j2,-⟩:=ff_some.1 h2;split at j2
   ·cases j2
   ·injection j2 with j2;subst j2;rfl
 ·obtain⟨i,hi,he⟩:=hc.1 hq;rw[if_pos rfl]
  cases h2:ff (fun i=>if srcAt s i=true then none else some false) s.size with
  |some v=>rfl
  |none=>
   exfalso;have:=ff_none.1 h2 i hi;unfold srcAt at this;rw[dif_pos hi]at this;simp[(h34 i hi).1 he]at this
end Go.Proofs.Dev
namespace Go.Proofs.Dev
open Go Go.Tm
noncomputable def typeE(e:List GNode) (s:GSignature) (t:GType):Int:=
 if¬(typeS e s).2.2=0 then(typeS e s).2.2 else if¬((typeS e s).1.Kind=t.Kind∧(typeS e s).1.Enum=t.Enum)then 8 else 0
theorem law_checkType_s{e:List GNode}(hN:∀n∈e,NodeOk n) (s:GSignature) (t:GType):law_checkType e s t=some (typeE e s t):=by
 unfold law_checkType typeE;rw[expr_TypeOf_s hN,nn];split
 ·rfl
 ·split<;>rfl
theorem ref17_exprError_s{e:List GNode}(hN:∀n∈e,NodeOk n) (s:GSignature) (t:GType):ref17_exprError e s t=some (typeE e s t):=by
 unfold ref17_exprError typeE;rw[ref10_TypeOf_s hN,nn];split
 ·rfl
 ·split<;>rfl
def sibs(x:GScope) (k:Nat) (r:GRule):Nat:=((x.Rules.take k).filter fun y=>decide (y.Def=r.Def)).length
theorem sibs_le(x:GScope) (k:Nat) (r:GRule):sibs x k r≤k:=by
 have:=Ko (fun(y:GRule)=>decide (y.Def=r.Def)) (x.Rules.take k);unfold sibs;simp at this;omega
theorem sibs_succ{x:GScope}{k:Nat}{r:GRule}(hk:k<x.Rules.length):sibs x (k+1) r=if x.Rules[k].Def=r.Def then sibs x k r+1 else sibs x k r:=by
 unfold sibs;rw[Wo,pn hk,Bp,List.length_append];by_cases h:x.Rules[k].Def=r.Def
 ·rw[if_pos h];simp[h]
 ·rw[if_neg h];simp[h]
def parBad(x:GScope) (k:Nat) (r:GRule):Bool:=
 if r.Parent = -1 then false else if r.Parent<0 then true else if(k:Int)≤r.Parent then true else match x.Rules[r.Parent.toNat]? with|some q=>q.Def !=r.Def|none=>true
noncomputable def ruleE(x:GScope) (s:GSignature) (k:Nat) (r:GRule):Int:=
 if identB r.Name=false then 2
 else if((x.Rules.take k).any fun y=>decide (y.Name=r.Name))=true then 7
 else if r.Def<0∨(x.Defs.length:Int)≤r.Def then 6
 else if parBad x k r=true then 9
 else if r.Priority<0∨9<r.Priority∨r.Valid.From<0∨r.Valid.To≤r.Valid.From∨109573<r.Valid.To then 3
 else if 8≤sibs x k r then 4
 else if srcB r.Source=false then 2
 else if 0<r.Guard.length∧typeE r.Guard s ⟨1,0⟩≠0 then typeE r.Guard s ⟨1,0⟩
 else typeE r.Value s (match x.Defs[r.Def.toNat]? with|some d=>d.Type_|none=>⟨0,0⟩)
structure RuleOk (r:GRule):Prop where
 nm:r.Name.size≤1048576
 src:r.Source.size≤1048576
 g:∀n∈r.Guard,NodeOk n
 v:∀n∈r.Value,NodeOk n
theorem par_s{x:GScope}{k:Nat}{r:GRule}(hk:k<x.Rules.length) {o:Option Bool}(ho:o=(if¬r.Parent = -1 then if¬r.Parent<0 then if¬(k:Int)≤r.Parent then(idx x.Rules r.Parent).bind fun y=>some (y.Def !=r.Def)else some true else some true else some false)):o=some (parBad x k r):=by
 rw[ho];unfold parBad;by_cases h1:r.Parent = -1
 ·simp[h1]
 by_cases h2:r.Parent<0
 ·simp[h1,h2]
 by_cases h3:(k:Int)≤r.Parent
 ·simp[h1,h2,h3]
 ·rw[if_pos h1,if_pos h2,if_pos h3,if_neg h1,if_neg h2,if_neg h3,idxI (by omega) (by omega),nn,pn]
theorem law_checkRule_s{x:GScope}(hx:ScOk x) {k:Nat}(hk:k<x.Rules.length) (hr:RuleOk x.Rules[k]) (s:GSignature):law_checkRule x (k:Int) s=some (ruleE x s k x.Rules[k]):=by
 have hrl:=hx.rules;have hdl:=hx.defs;unfold law_checkRule ruleE;rw[idxN hk,nn,subhN (by omega),nn];generalize hrr:x.Rules[k]=r at hr⊢;have hl:loopO (law_checkRule_L1 r (x.Rules.take k)) (0,0)=some (.inl ((sibs x k r:Nat):Int)):=by
  refine loopG (fun i=>(((sibs x i r:Nat):Int),(i:Int))) k _ (fun i hi=>?_) ?_ rfl
  ·have:=sibs_le x i r;unfold law_checkRule_L1;simp only;rw[if_pos (by simp;omega),idxN (by simp;omega),nn,wsucc (by omega),wsucc (by omega),uq,sibs_succ (by omega)];by_cases h:x.Rules[i].Def=r.Def
   ·rw[if_pos h,if_pos h];rfl
   ·rw[if_neg h,if_neg h];rfl
  ·unfold law_checkRule_L1;simp only;rw[if_neg (by simp;omega)]
 rw[hl,nn];simp only;rw[lexer_ident (by have:=hr.nm;omega),nn,nn,hasRule_s (by simp;omega),nn];cases identB r.Name
 ·rfl
 simp only[Un,if_false];cases (x.Rules.take k).any fun y=>decide (y.Name=r.Name)
 ·simp only[tn,if_false];by_cases hd:r.Def<0∨(x.Defs.length:Int)≤r.Def
  ·rw[if_pos hd];by_cases h1:r.Def<0
   ·simp[h1]
   ·simp[h1,show(x.Defs.length:Int)≤r.Def by omega]
  ·rw[if_neg hd,if_pos (by omega),nn,if_neg (by simp;omega)];rw[par_s hk rfl,nn];cases parBad x k r
   ·simp only[tn,if_false];by_cases hp:r.Priority<0∨9<r.Priority
    ·rw[if_pos (show r.Priority<0∨9<r.Priority∨r.Valid.From<0∨r.Valid.To≤r.Valid.From∨109573<r.Valid.To by omega)];by_cases h1:r.Priority<0
     ·simp[h1]
     ·simp[h1,show 9<r.Priority by omega]
    ·rw[if_pos (show¬r.Priority<0 by omega),nn,if_neg (by simp;omega)];by_cases hv:r.Valid.From<0∨r.Valid.To≤r.Valid.From∨109573<r.Valid.To
     ·rw[if_pos (show r.Priority<0∨9<r.Priority∨r.Valid.From<0∨r.Valid.To≤r.Valid.From∨109573<r.Valid.To by omega)];by_cases h1:r.Valid.From<0
      ·simp[h1]
      ·by_cases h2:r.Valid.To≤r.Valid.From
       ·simp[h1,h2]
       ·simp[h1,h2,show 109573<r.Valid.To by omega]
     ·rw[if_pos (show¬r.Valid.From<0 by omega),if_pos (show¬r.Valid.To≤r.Valid.From by omega),nn,if_neg (by simp;omega),if_neg (show¬(r.Priority<0∨9<r.Priority∨r.Valid.From<0∨r.Valid.To≤r.Valid.From∨109573<r.Valid.To) by omega)];by_cases h8:8≤sibs x k r
      ·rw[if_pos (by omega),if_pos h8]
      rw[if_neg (by omega),if_neg h8,law_validSource_s hr.src,nn];cases srcB r.Source
      ·rfl
      simp only[Un,if_false];have hi:idx x.Defs r.Def=some (x.Defs[r.Def.toNat]'(by omega)):=idxI (by omega) (by omega);have hg2:x.Defs[r.Def.toNat]?=some (x.Defs[r.Def.toNat]'(by omega)):=pn _;simp only[hi,hg2,law_checkType_s hr.g,law_checkType_s hr.v,nn];generalize typeE r.Value s (x.Defs[r.Def.toNat]'(by omega)).Type_=v;by_cases hg:0<r.Guard.length
      ·rw[if_pos (show(0:Int)<(r.Guard.length:Int) by omega)];by_cases ht:typeE r.Guard s ⟨1,0⟩=0
       ·rw[if_neg (by simpa using ht),if_neg (by simp[ht])];rfl
       ·rw[if_pos ht,if_pos ⟨hg,ht⟩];rfl
      ·rw[if_neg (show¬(0:Int)<(r.Guard.length:Int) by omega),if_neg (by simp[hg])];rfl
   ·rfl
 ·rfl
end Go.Proofs.Dev
namespace Go.Proofs.Dev
open Go Go.Tm
theorem ref05_bad{v:GDateRange}:vrB v=false∨v.From=v.To↔v.From<0∨v.To≤v.From∨109573<v.To:=by
 unfold vrB;by_cases h1:0≤v.From<;>by_cases h2:v.From≤v.To<;>by_cases h3:v.To≤109573<;>simp[h1,h2,h3]<;>omega
theorem ruleOk{l:GLaw}(h:LawOk l) {i:Nat}(hi:i<l.Scopes.length) {r:GRule}(hr:r∈l.Scopes[i].Rules):RuleOk r:=by
 obtain⟨-,-,-,-,-,g⟩:=h.s _ (On hi);obtain⟨a,b,c,d⟩:=g r hr;exact⟨a,b,c,d⟩
theorem ref17_ruleError_s{l:GLaw}(h:LawOk l) {i:Nat}(hi:i<l.Scopes.length) {k:Nat}(hk:k<l.Scopes[i].Rules.length):ref17_ruleError l (i:Int) (k:Int)=some (ruleE l.Scopes[i] (sigS l l.Scopes[i]) k l.Scopes[i].Rules[k]):=by
 have hr:=ruleOk h hi (On hk);have hx:=(h.s _ (On hi)).2.1;have hS:=ref17_Signature_s h hi;unfold ref17_ruleError;rw[idxN hi,nn];generalize l.Scopes[i]=x at hk hr hx hS⊢;have hrl:=hx.rules;have hdl:=hx.defs;rw[idxN hk,nn];unfold ruleE;generalize hrr:x.Rules[k]=r at hr⊢;rw[ref08_ident (by have:=hr.nm;omega),nn];cases identB r.Name
 ·rfl
 simp only[Un,if_false];have hl:loopO (ref17_ruleError_L1 (k:Int) x r) (0,0)=some (outR ((sibs x k r:Nat):Int) (ff (fun i=>if((x.Rules.take k)[i]?.any fun y=>decide (y.Name=r.Name))=true then some 7 else none) (x.Rules.take k).length)):=by
  refine loopF (fun i=>(((sibs x i r:Nat):Int),(i:Int))) _ _ _ (fun j hj _=>?_) (fun _=>?_) rfl
  ·have hjk:j<k:=by simp at hj;omega
   have:=sibs_le x j r;unfold ref17_ruleError_L1;simp only;rw[if_pos (by omega),idxN (by omega),nn,wsucc (by omega),wsucc (by omega),pn hj,sibs_succ (by omega)];simp only[Ro,uq,decide_eq_true_eq];by_cases hn:x.Rules[j].Name=r.Name
   ·rw[if_pos hn,if_pos hn];rfl
   ·rw[if_neg hn,if_neg hn];by_cases hd:x.Rules[j].Def=r.Def
    ·rw[if_pos hd,if_pos hd];rfl
    ·rw[if_neg hd,if_neg hd];rfl
  ·unfold ref17_ruleError_L1;have:(x.Rules.take k).length=k:=by simp;omega
   simp only[this];rw[if_neg (by omega)]
 rw[hl,nn,←ff_any (q:=fun(y:GRule)=>decide (y.Name=r.Name)) (g:=fun _=>(7:Int))]
 cases h2:ff (fun i=>if((x.Rules.take k)[i]?.any fun y=>decide (y.Name=r.Name))=true then some (7:Int)else none) (x.Rules.take k).length with
 |some v=>
  obtain⟨j,j1,j2,-⟩:=ff_some.1 h2;split at j2
  ·injection j2 with j2;subst j2;rfl
  ·cases j2
 |none=>
  simp only[outR,Option.isSome_none,tn,if_false];by_cases hd:r.Def<0∨(x.Defs.length:Int)≤r.Def
  ·rw[if_pos hd];by_cases h1:r.Def<0
   ·simp[h1]
   ·simp[h1,show(x.Defs.length:Int)≤r.Def by omega]
  ·rw[if_neg hd,if_pos (by omega),nn,if_neg (by simp;omega)];rw[par_s hk rfl,nn];cases parBad x k r
   ·simp only[tn,if_false,ref05_Valid_s,nn];have hb:=ref05_bad (v:=r.Valid);by_cases hp:r.Priority<0∨9<r.Priority
    ·rw[if_pos (show r.Priority<0∨9<r.Priority∨r.Valid.From<0∨r.Valid.To≤r.Valid.From∨109573<r.Valid.To by omega)];by_cases h1:r.Priority<0
     ·simp[h1]
     ·simp[h1,show 9<r.Priority by omega]
    ·rw[if_pos (show¬r.Priority<0 by omega),if_pos (show¬9<r.Priority by omega)];by_cases hv:r.Valid.From<0∨r.Valid.To≤r.Valid.From∨109573<r.Valid.To
     ·rw[if_pos (show r.Priority<0∨9<r.Priority∨r.Valid.From<0∨r.Valid.To≤r.Valid.From∨109573<r.Valid.To by omega)];rcases hb.2 hv with h1|h1
      ·simp[h1]
      ·cases vrB r.Valid<;>simp[h1]
     ·have h1:vrB r.Valid=true:=by
       cases hq:vrB r.Valid with
       |true=>rfl
       |false=>exact(hv (hb.1 (.inl hq))).elim
      have h2:¬r.Valid.From=r.Valid.To:=fun hq=>hv (hb.1 (.inr hq));rw[if_pos h1,nn,if_neg (by simpa using h2),if_neg (show¬(r.Priority<0∨9<r.Priority∨r.Valid.From<0∨r.Valid.To≤r.Valid.From∨109573<r.Valid.To) by omega)];by_cases h8:8≤sibs x k r
      ·rw[if_pos (by omega),if_pos h8]
      rw[if_neg (by omega),if_neg h8,ref17_plainText_s hr.src,nn];cases srcB r.Source
      ·rfl
      simp only[Un,if_false];have hi':idx x.Defs r.Def=some (x.Defs[r.Def.toNat]'(by omega)):=idxI (by omega) (by omega);have hg2:x.Defs[r.Def.toNat]?=some (x.Defs[r.Def.toNat]'(by omega)):=pn _;simp only[hS,hi',hg2,ref17_exprError_s hr.g,ref17_exprError_s hr.v,nn];generalize typeE r.Value _ (x.Defs[r.Def.toNat]'(by omega)).Type_=v;by_cases hg:0<r.Guard.length
      ·rw[if_pos (show(0:Int)<(r.Guard.length:Int) by omega)];by_cases ht:typeE r.Guard (sigS l x) ⟨1,0⟩=0
       ·rw[if_neg (by simpa using ht),if_neg (by simp[ht])];rfl
       ·rw[if_pos ht,if_pos ⟨hg,ht⟩];rfl
      ·rw[if_neg (show¬(0:Int)<(r.Guard.length:Int) by omega),if_neg (by simp[hg])];rfl
   ·rfl
noncomputable def inF(l:GLaw) (x:GScope) (k:Nat):Option (Int×Int):=
 match x.Inputs[k]? with
 |some f=>if fieldE l f (x.Inputs.take k) []=0 then none else some (fieldE l f (x.Inputs.take k) [],100+(k:Int))
 |none=>none
noncomputable def defF(l:GLaw) (x:GScope) (k:Nat):Option (Int×Int):=
 match x.Defs[k]? with
 |some f=>if fieldE l f x.Inputs (x.Defs.take k)=0 then none else some (fieldE l f x.Inputs (x.Defs.take k),200+(k:Int))
 |none=>none
noncomputable def rulF(l:GLaw) (x:GScope) (k:Nat):Option (Int×Int):=
 match x.Rules[k]? with
 |some r=>if ruleE x (sigS l x) k r=0 then none else some (ruleE x (sigS l x) k r,300+(k:Int))
 |none=>none
open Classical in
noncomputable def cycF(x:GScope) (k:Nat):Option (Int×Int):=if Way x (k:Int) (k:Int)then some (9,200+(k:Int))else none
def memBad(l:GLaw) (i:Nat) (x:GScope):Bool:=
 if x.MemberScope = -1 then false else if x.MemberScope<0 then true else if(i:Int)≤x.MemberScope then true else match l.Scopes[x.MemberScope.toNat]? with|some q=>q.MemberScope !=-1|none=>true
noncomputable def scopeE(l:GLaw) (i:Nat) (x:GScope):Int×Int:=
 if identB x.Name=false then(2,0)
 else if((l.Enums.any fun y=>decide (y.Name=x.Name)) || ((l.Tables.any fun y=>decide (y.Name=x.Name)) || (l.Scopes.take i).any fun y=>decide (y.Name=x.Name)))=true then(7,0)
 else if memBad l i x=true then(6,0)
 else if 12<x.Inputs.length then(4,112)
 else if 12<x.Defs.length then(4,212)
 else match ff (inF l x) x.Inputs.length with
  |some v=>v
  |none=>match ff (defF l x) x.Defs.length with
   |some v=>v
   |none=>match ff (rulF l x) x.Rules.length with
    |some v=>v
    |none=>(ff (cycF x) x.Defs.length).getD (0,0)
theorem memBad_s{l:GLaw}{i:Nat}{x:GScope}(hi:i<l.Scopes.length) {o:Option Bool}(ho:o=(if¬x.MemberScope = -1 then if¬x.MemberScope<0 then if¬(i:Int)≤x.MemberScope then(idx l.Scopes x.MemberScope).bind fun y=>some (y.MemberScope !=-1)else some true else some true else some false)):o=some (memBad l i x):=by
 rw[ho];unfold memBad;by_cases h1:x.MemberScope = -1
 ·simp[h1]
 by_cases h2:x.MemberScope<0
 ·simp[h1,h2]
 by_cases h3:(i:Int)≤x.MemberScope
 ·simp[h1,h2,h3]
 ·rw[if_pos h1,if_pos h2,if_pos h3,if_neg h1,if_neg h2,if_neg h3,idxI (by omega) (by omega),nn,pn]
theorem memBad_s2{l:GLaw}{i:Nat}{x:GScope}(hi:i<l.Scopes.length) {o:Option Bool}(ho:o=(if¬x.MemberScope = -1 then if¬x.MemberScope<0 then if¬(i:Int)≤x.MemberScope then(idx (l.Scopes.take i) x.MemberScope).bind fun y=>some (y.MemberScope !=-1)else some true else some true else some false)):o=some (memBad l i x):=by
 rw[ho];unfold memBad;by_cases h1:x.MemberScope = -1
 ·simp[h1]
 by_cases h2:x.MemberScope<0
 ·simp[h1,h2]
 by_cases h3:(i:Int)≤x.MemberScope
 ·simp[h1,h2,h3]
 ·rw[if_pos h1,if_pos h2,if_pos h3,if_neg h1,if_neg h2,if_neg h3,idxI (by omega) (by simp;omega),nn,pn (by omega),uq]
theorem law_checkScope_s{l:GLaw}(h:LawOk l) {i:Nat}(hi:i<l.Scopes.length):law_checkScope l (i:Int)=some (scopeE l i l.Scopes[i]):=by
 obtain⟨g1,g2,g3,g4,g5,g6⟩:=h.s _ (On hi);have hne:=h.ne;have hnt:=h.nt;have hns:=h.ns;have hS:=law_sharedSignature_s h hi;have hRu:∀r∈l.Scopes[i].Rules,RuleOk r:=fun r hr=>ruleOk h hi hr;unfold law_checkScope scopeE;rw[idxN hi,nn,subhN (by omega),nn];generalize l.Scopes[i]=x at g1 g2 g3 g4 g5 g6 hS hRu⊢;have gd:=g2.defs;have gr:=g2.rules;rw[hasEnum_s hne,nn,hasTable_s hnt,hasScope_s (by simp;omega),lexer_ident (by omega)];have htk:(if(l.Enums.any fun y=>decide (y.Name=x.Name))=false then(some (l.Tables.any fun y=>decide (y.Name=x.Name))).bind fun x5=>if x5=false then(some ((l.Scopes.take i).any fun y=>decide (y.Name=x.Name))).bind fun x7=>some x7 else some true else some true) =
  some ((l.Enums.any fun y=>decide (y.Name=x.Name)) || ((l.Tables.any fun y=>decide (y.Name=x.Name)) || (l.Scopes.take i).any fun y=>decide (y.Name=x.Name))):=by
  cases l.Enums.any fun y=>decide (y.Name=x.Name)<;>cases l.Tables.any fun y=>decide (y.Name=x.Name)<;>rfl
 rw[htk,nn,nn];cases identB x.Name
 ·rfl
 simp only[Un,if_false];cases (l.Enums.any fun y=>decide (y.Name=x.Name)) || ((l.Tables.any fun y=>decide (y.Name=x.Name)) || (l.Scopes.take i).any fun y=>decide (y.Name=x.Name))
 ·simp only[tn,if_false];rw[memBad_s2 (l:=l) (x:=x) hi rfl,nn];cases memBad l i x
  ·simp only[tn,if_false];by_cases hI:12<x.Inputs.length
   ·rw[if_pos (by omega),if_pos hI]
   rw[if_neg (by omega),if_neg hI];by_cases hD:12<x.Defs.length
   ·rw[if_pos (by omega),if_pos hD]
   rw[if_neg (by omega),if_neg hD];have l1:loopO (law_checkScope_L7 l x) 0=some (outR () (ff (inF l x) x.Inputs.length)):=
    loopF (fun k=>(k:Int)) _ _ _ (fun k hk _=>by
     unfold law_checkScope_L7 inF;rw[if_pos (by omega),idxN hk,nn,subhN (by omega),nn,law_checkField_s (g4 _ (On hk)) (by simp;omega) (by simp),nn,pn hk,wid (n:=100+(k:Int)) (by omega) (by omega),wsucc (by omega)];dsimp only;by_cases hz:fieldE l x.Inputs[k] (x.Inputs.take k) []=0
     ·rw[if_neg (by simpa using hz),if_pos hz];rfl
     ·rw[if_pos hz,if_neg hz];rfl) (fun _=>by unfold law_checkScope_L7;simp)
   have l2:loopO (law_checkScope_L6 l x) 0=some (outR () (ff (defF l x) x.Defs.length)):=
    loopF (fun k=>(k:Int)) _ _ _ (fun k hk _=>by
     unfold law_checkScope_L6 defF;rw[if_pos (by omega),idxN hk,nn,subhN (by omega),nn,law_checkField_s (g5 _ (On hk)) g3 (by simp;omega),nn,pn hk,wid (n:=200+(k:Int)) (by omega) (by omega),wsucc (by omega)];dsimp only;by_cases hz:fieldE l x.Defs[k] x.Inputs (x.Defs.take k)=0
     ·rw[if_neg (by simpa using hz),if_pos hz];rfl
     ·rw[if_pos hz,if_neg hz];rfl) (fun _=>by unfold law_checkScope_L6;simp)
   have l3:loopO (law_checkScope_L5 x (sigS l x)) 0=some (outR () (ff (rulF l x) x.Rules.length)):=
    loopF (fun k=>(k:Int)) _ _ _ (fun k hk _=>by
     unfold law_checkScope_L5 rulF;rw[if_pos (by omega),law_checkRule_s g2 hk (hRu _ (On hk)),nn,pn hk,wid (n:=300+(k:Int)) (by omega) (by omega),wsucc (by omega)];dsimp only;by_cases hz:ruleE x (sigS l x) k x.Rules[k]=0
     ·rw[if_neg (by simpa using hz),if_pos hz];rfl
     ·rw[if_pos hz,if_neg hz];rfl) (fun _=>by unfold law_checkScope_L5;simp)
   have l4:loopO (law_checkScope_L4 x) 0=some (outR () (ff (cycF x) x.Defs.length)):=
    loopF (fun k=>(k:Int)) _ _ _ (fun k hk _=>by
     obtain⟨q,q1,q2,q3⟩:=deps_Transitive_s g2 (k:Int);unfold law_checkScope_L4 cycF;rw[if_pos (by omega),q1,nn,contains_int (by omega),nn,wid (n:=200+(k:Int)) (by omega) (by omega),wsucc (by omega)];by_cases hz:Way x (k:Int) (k:Int)
     ·rw[if_pos (by simpa using(q3 _).2 hz),if_pos hz];rfl
     ·rw[if_neg (by simpa using fun hq=>hz ((q3 _).1 hq)),if_neg hz];rfl) (fun _=>by unfold law_checkScope_L4;simp)
   rw[l1,nn]
   cases ff (inF l x) x.Inputs.length with
   |some v=>rfl
   |none=>
    simp only[outR];rw[l2,nn]
    cases ff (defF l x) x.Defs.length with
    |some v=>rfl
    |none=>
     simp only[outR];rw[hS,nn,l3,nn]
     cases ff (rulF l x) x.Rules.length with
     |some v=>rfl
     |none=>
      simp only[outR];rw[l4,nn];cases ff (cycF x) x.Defs.length<;>rfl
  ·rfl
 ·rfl
end Go.Proofs.Dev
namespace Go.Proofs.Dev
open Go Go.Tm
theorem ff_map{α β:Type}{f:Nat→Option α}(g:α→β) {n:Nat}:ff (fun k=>(f k).map g) n=(ff f n).map g:=by
 cases h1:ff f n with
 |none=>rw[Yq];exact ff_none.2 fun k hk=>by rw[ff_none.1 h1 k hk];rfl
 |some v=>obtain⟨k,k1,k2,k3⟩:=ff_some.1 h1;exact ff_some.2 ⟨k,k1,by rw[k2];rfl,fun j hj=>by rw[k3 j hj];rfl⟩
def le3(i:Nat) (v:Int×Int):GLawError:=⟨v.1,3,(i:Int),v.2⟩
theorem inF_ne{l:GLaw}{x:GScope}{k:Nat}{v:Int×Int}(h:inF l x k=some v):v.1≠0:=by
 unfold inF at h;split at h
 ·split at h
  ·cases h
  ·injection h with h;subst h;assumption
 ·cases h
theorem defF_ne{l:GLaw}{x:GScope}{k:Nat}{v:Int×Int}(h:defF l x k=some v):v.1≠0:=by
 unfold defF at h;split at h
 ·split at h
  ·cases h
  ·injection h with h;subst h;assumption
 ·cases h
theorem rulF_ne{l:GLaw}{x:GScope}{k:Nat}{v:Int×Int}(h:rulF l x k=some v):v.1≠0:=by
 unfold rulF at h;split at h
 ·split at h
  ·cases h
  ·injection h with h;subst h;assumption
 ·cases h
theorem cycF_ne{x:GScope}{k:Nat}{v:Int×Int}(h:cycF x k=some v):v.1≠0:=by
 unfold cycF at h;split at h
 ·injection h with h;subst h;simp
 ·cases h
theorem ff_ne{f:Nat→Option (Int×Int)}(hf:∀{k v},f k=some v→v.1≠0) {n:Nat}{v:Int×Int}(h:ff f n=some v):v.1≠0:=by
 obtain⟨k,-,h2,-⟩:=ff_some.1 h;exact hf h2
theorem ref17_fieldError_s{l:GLaw}(h:LawOk l) {i:Nat}(hi:i<l.Scopes.length):ref17_fieldError l (i:Int)=some (match ff (inF l l.Scopes[i]) l.Scopes[i].Inputs.length with
 |some v=>le3 i v
 |none=>match ff (defF l l.Scopes[i]) l.Scopes[i].Defs.length with
  |some v=>le3 i v
  |none=>⟨0,0,0,0⟩):=by
 obtain⟨g1,g2,g3,g4,g5,g6⟩:=h.s _ (On hi);unfold ref17_fieldError;rw[idxN hi,nn];generalize l.Scopes[i]=x at g1 g2 g3 g4 g5 g6⊢;have gd:=g2.defs;have l1:loopO (ref17_fieldError_L3 l (i:Int) x) 0=some (outR () ((ff (inF l x) x.Inputs.length).map (le3 i))):=by
  rw[←ff_map];exact loopF (fun k=>(k:Int)) _ _ _ (fun k hk _=>by
   have hf:=g4 _ (On hk);unfold ref17_fieldError_L3 inF fieldE;rw[if_pos (by omega),idxN hk,nn,ref08_ident (by omega),nn,ref17_hasField_s g3 (by omega),nn,ref09_ValidType_s,nn,pn hk,wid (n:=100+(k:Int)) (by omega) (by omega),wsucc (by omega)];dsimp only;generalize x.Inputs[k]=f;cases identB f.Name
   ·rfl
   cases (x.Inputs.take k).any fun y=>decide (y.Name=f.Name)
   ·cases validTypeB f.Type_ l.Enums<;>rfl
   ·rfl) (fun _=>by unfold ref17_fieldError_L3;simp)
 have l2:loopO (ref17_fieldError_L2 l (i:Int) x) 0=some (outR () ((ff (defF l x) x.Defs.length).map (le3 i))):=by
  rw[←ff_map];exact loopF (fun k=>(k:Int)) _ _ _ (fun k hk _=>by
   have hf:=g5 _ (On hk);unfold ref17_fieldError_L2 defF fieldE;rw[if_pos (by omega),idxN hk,nn,ref08_ident (by omega),nn,ref17_hasField_s g3 (En _),nn,ref17_hasField_s gd (by omega),ref09_ValidType_s,nn,pn hk,wid (n:=200+(k:Int)) (by omega) (by omega),wsucc (by omega),Ho];dsimp only;generalize x.Defs[k]=f;cases identB f.Name
   ·rfl
   cases x.Inputs.any fun y=>decide (y.Name=f.Name)
   ·cases (x.Defs.take k).any fun y=>decide (y.Name=f.Name)
    ·cases validTypeB f.Type_ l.Enums<;>rfl
    ·rfl
   ·rfl) (fun _=>by unfold ref17_fieldError_L2;simp)
 rw[l1]
 cases ff (inF l x) x.Inputs.length with
 |some v=>rfl
 |none=>
  simp only[outR,Yq,nn];rw[l2];cases ff (defF l x) x.Defs.length<;>rfl
theorem ref17_scopeError_s{l:GLaw}(h:LawOk l) {i:Nat}(hi:i<l.Scopes.length):ref17_scopeError l (i:Int)=some (if(scopeE l i l.Scopes[i]).1=0 then⟨0,0,0,0⟩else le3 i (scopeE l i l.Scopes[i])):=by
 obtain⟨g1,g2,g3,g4,g5,g6⟩:=h.s _ (On hi);have hne:=h.ne;have hnt:=h.nt;have hns:=h.ns;have hF:=ref17_fieldError_s h hi;have hR:=fun {k:Nat} (hk:k<l.Scopes[i].Rules.length)=>ref17_ruleError_s h hi hk;unfold ref17_scopeError scopeE;rw[idxN hi,nn];generalize l.Scopes[i]=x at g1 g2 g3 g4 g5 g6 hF hR⊢;have gd:=g2.defs;have gr:=g2.rules;rw[ref08_ident (by omega),nn,taken3 h (by omega),nn];cases identB x.Name
 ·rfl
 simp only[Un,if_false];cases (l.Enums.any fun y=>decide (y.Name=x.Name)) || ((l.Tables.any fun y=>decide (y.Name=x.Name)) || (l.Scopes.take i).any fun y=>decide (y.Name=x.Name))
 ·simp only[tn,if_false];rw[memBad_s (l:=l) (x:=x) hi rfl,nn];cases memBad l i x
  ·simp only[tn,if_false];by_cases hI:12<x.Inputs.length
   ·rw[if_pos (by omega),if_pos hI];rfl
   rw[if_neg (by omega),if_neg hI];by_cases hD:12<x.Defs.length
   ·rw[if_pos (by omega),if_pos hD];rfl
   rw[if_neg (by omega),if_neg hD,hF,nn];have l3:loopO (ref17_scopeError_L11 l (i:Int) x) 0=some (outR () ((ff (rulF l x) x.Rules.length).map (le3 i))):=by
    rw[←ff_map];exact loopF (fun k=>(k:Int)) _ _ _ (fun k hk _=>by
     unfold ref17_scopeError_L11 rulF;rw[if_pos (by omega),hR hk,nn,pn hk,wid (n:=300+(k:Int)) (by omega) (by omega),wsucc (by omega)];dsimp only;by_cases hz:ruleE x (sigS l x) k x.Rules[k]=0
     ·rw[if_neg (by simpa using hz),if_pos hz];rfl
     ·rw[if_pos hz,if_neg hz];rfl) (fun _=>by unfold ref17_scopeError_L11;simp)
   have l4:loopO (ref17_scopeError_L10 (i:Int) x) 0=some (outR () ((ff (cycF x) x.Defs.length).map (le3 i))):=by
    rw[←ff_map];exact loopF (fun k=>(k:Int)) _ _ _ (fun k hk _=>by
     have q3:=fun y=>mem_trN (s:=x) (d:=(k:Int)) (y:=y);have q2:=(trN_inv x (k:Int) x.Defs.length).len;have l5:loopO (ref17_scopeError_L9 (i:Int) (k:Int) (trN x (k:Int) x.Defs.length)) 0=some (outR () (ff (fun j=>if((trN x (k:Int) x.Defs.length)[j]?.any fun y=>decide (y=(k:Int)))=true then some (Ex.ret (le3 i (9,200+(k:Int))))else none) (trN x (k:Int) x.Defs.length).length)):=
      loopF (fun j=>(j:Int)) _ _ _ (fun j hj _=>by
       unfold ref17_scopeError_L9;rw[if_pos (by omega),idxN hj,nn,pn hj,wid (n:=200+(k:Int)) (by omega) (by omega),wsucc (by omega)];simp only[Ro,decide_eq_true_eq];by_cases he:(trN x (k:Int) x.Defs.length)[j]=(k:Int)
       ·rw[if_pos he,if_pos he];rfl
       ·rw[if_neg he,if_neg he];rfl) (fun _=>by unfold ref17_scopeError_L9;simp)
     unfold ref17_scopeError_L10 cycF;rw[if_pos (by omega),ref16_Transitive_s g2,nn,l5,nn,wsucc (by omega)];have hany:=ff_any (l:=trN x (k:Int) x.Defs.length) (q:=fun y=>decide (y=(k:Int))) (g:=fun _=>(Ex.ret (le3 i (9,200+(k:Int))):Ex Int Unit GLawError))
     cases h2:ff (fun j=>if((trN x (k:Int) x.Defs.length)[j]?.any fun y=>decide (y=(k:Int)))=true then some (Ex.ret (le3 i (9,200+(k:Int))):Ex Int Unit GLawError)else none) (trN x (k:Int) x.Defs.length).length with
     |none=>
      rw[h2]at hany;rw[if_neg]
      ·rfl
      ·intro hw;have:=(qq.1 hany.symm) _ ((q3 _).2 hw);simp at this
     |some v=>
      rw[h2]at hany;obtain⟨y,hy,hyk⟩:=kq.1 hany.symm;have:y=(k:Int):=by simpa using hyk
      subst this;rw[if_pos ((q3 _).1 hy)];obtain⟨j,-,j2,-⟩:=ff_some.1 h2;split at j2
      ·injection j2 with j2;subst j2;rfl
      ·cases j2) (fun _=>by unfold ref17_scopeError_L10;simp)
   cases hf1:ff (inF l x) x.Inputs.length with
   |some v=>
    have:=ff_ne (f:=inF l x) inF_ne hf1;rw[if_pos (show¬(le3 i v).Code=0 from this),if_neg (show¬v.1=0 from this)]
   |none=>
    dsimp only
    cases hf2:ff (defF l x) x.Defs.length with
    |some v=>
     have:=ff_ne (f:=defF l x) defF_ne hf2;rw[if_pos (show¬(le3 i v).Code=0 from this),if_neg (show¬v.1=0 from this)]
    |none=>
     dsimp only;rw[if_neg (by simp),l3]
     cases hf3:ff (rulF l x) x.Rules.length with
     |some v=>
      have:=ff_ne (f:=rulF l x) rulF_ne hf3;simp only[lp,outR,nn];rw[if_neg (show¬v.1=0 from this)]
     |none=>
      simp only[Yq,outR,nn];rw[l4]
      cases hf4:ff (cycF x) x.Defs.length with
      |some v=>
       have:=ff_ne (f:=cycF x) cycF_ne hf4;simp only[lp,outR,nn,cp];rw[if_neg (show¬v.1=0 from this)]
      |none=>rfl
  ·rfl
 ·rfl
noncomputable def validE(l:GLaw):GLawError:=
 if 8<l.Enums.length then⟨4,1,8,0⟩
 else match ff (fun i=>match l.Enums[i]? with|some x=>if(enumE l i x).1=0 then none else some (⟨(enumE l i x).1,1,(i:Int),(enumE l i x).2⟩:GLawError)|none=>none) l.Enums.length with
  |some v=>v
  |none=>
   if 8<l.Tables.length then⟨4,2,8,0⟩
   else match ff (fun i=>match l.Tables[i]? with|some x=>if(tabE l i x).1=0 then none else some (⟨(tabE l i x).1,2,(i:Int),(tabE l i x).2⟩:GLawError)|none=>none) l.Tables.length with
    |some v=>v
    |none=>
     if 4<l.Scopes.length then⟨4,3,4,0⟩
     else(ff (fun i=>match l.Scopes[i]? with|some x=>if(scopeE l i x).1=0 then none else some (le3 i (scopeE l i x))|none=>none) l.Scopes.length).getD ⟨0,0,0,0⟩
theorem ff_code{f:Nat→Option GLawError}(hf:∀{k v},f k=some v→v.Code≠0) {n:Nat}{v:GLawError}(h:ff f n=some v):v.Code≠0:=by
 obtain⟨k,-,h2,-⟩:=ff_some.1 h;exact hf h2
theorem e_code{l:GLaw}{k:Nat}{v:GLawError}(h:(match l.Enums[k]? with|some x=>if(enumE l k x).1=0 then none else some (⟨(enumE l k x).1,1,(k:Int),(enumE l k x).2⟩:GLawError)|none=>none)=some v):v.Code≠0:=by
 split at h
 ·split at h
  ·cases h
  ·injection h with h;subst h;assumption
 ·cases h
theorem t_code{l:GLaw}{k:Nat}{v:GLawError}(h:(match l.Tables[k]? with|some x=>if(tabE l k x).1=0 then none else some (⟨(tabE l k x).1,2,(k:Int),(tabE l k x).2⟩:GLawError)|none=>none)=some v):v.Code≠0:=by
 split at h
 ·split at h
  ·cases h
  ·injection h with h;subst h;assumption
 ·cases h
theorem law_Validate_s{l:GLaw}(h:LawOk l):law_Validate l=some (validE l):=by
 have hne:=h.ne;have hnt:=h.nt;have hns:=h.ns;have le:loopO (law_checkEnums_L1 l) 0=some (outR () (ff (fun i=>match l.Enums[i]? with|some x=>if(enumE l i x).1=0 then none else some (⟨(enumE l i x).1,1,(i:Int),(enumE l i x).2⟩:GLawError)|none=>none) l.Enums.length)):=
  loopF (fun k=>(k:Int)) _ _ _ (fun k hk _=>by
   unfold law_checkEnums_L1;rw[if_pos (by omega),idxN hk,nn,law_checkEnum_s h hk,nn,pn hk,wsucc (by omega)];dsimp only;by_cases hz:(enumE l k l.Enums[k]).1=0
   ·rw[if_neg (by simpa using hz),if_pos hz];rfl
   ·rw[if_pos hz,if_neg hz];rfl) (fun _=>by unfold law_checkEnums_L1;simp)
 have ls:loopO (law_checkScopes_L1 l) 0=some (outR () (ff (fun i=>match l.Scopes[i]? with|some x=>if(scopeE l i x).1=0 then none else some (le3 i (scopeE l i x))|none=>none) l.Scopes.length)):=
  loopF (fun k=>(k:Int)) _ _ _ (fun k hk _=>by
   unfold law_checkScopes_L1;rw[if_pos (by omega),law_checkScope_s h hk,nn,pn hk,wsucc (by omega)];dsimp only;by_cases hz:(scopeE l k l.Scopes[k]).1=0
   ·rw[if_neg (by simpa using hz),if_pos hz];rfl
   ·rw[if_pos hz,if_neg hz];rfl) (fun _=>by unfold law_checkScopes_L1;simp)
 unfold law_Validate law_checkEnums law_checkTables law_checkScopes validE;by_cases h8:8<l.Enums.length
 ·rw[if_pos (by omega),if_pos h8];rfl
 rw[if_neg (by omega),if_neg h8,le]
 cases hf1:ff (fun i=>match l.Enums[i]? with|some x=>if(enumE l i x).1=0 then none else some (⟨(enumE l i x).1,1,(i:Int),(enumE l i x).2⟩:GLawError)|none=>none) l.Enums.length with
 |some v=>
  have:=ff_code (f:=fun i=>match l.Enums[i]? with|some x=>if(enumE l i x).1=0 then none else some (⟨(enumE l i x).1,1,(i:Int),(enumE l i x).2⟩:GLawError)|none=>none) e_code hf1;simp only[outR,nn];rw[if_pos this]
 |none=>
  simp only[outR,nn];rw[if_neg (by simp)];by_cases h8:8<l.Tables.length
  ·rw[if_pos (by omega),if_pos h8];rfl
  rw[if_neg (by omega),if_neg h8,law_tab_s h]
  cases hf2:ff (fun i=>match l.Tables[i]? with|some x=>if(tabE l i x).1=0 then none else some (⟨(tabE l i x).1,2,(i:Int),(tabE l i x).2⟩:GLawError)|none=>none) l.Tables.length with
  |some v=>
   have:=ff_code (f:=fun i=>match l.Tables[i]? with|some x=>if(tabE l i x).1=0 then none else some (⟨(tabE l i x).1,2,(i:Int),(tabE l i x).2⟩:GLawError)|none=>none) t_code hf2;simp only[outR,nn];rw[if_pos this]
  |none=>
   simp only[outR,nn];rw[if_neg (by simp)];by_cases h8:4<l.Scopes.length
   ·rw[if_pos (by omega),if_pos h8];rfl
   rw[if_neg (by omega),if_neg h8,ls];cases ff (fun i=>match l.Scopes[i]? with|some x=>if(scopeE l i x).1=0 then none else some (le3 i (scopeE l i x))|none=>none) l.Scopes.length<;>rfl
theorem ref17_Validate_s{l:GLaw}(h:LawOk l):ref17_Validate l=some (validE l):=by
 have hne:=h.ne;have hnt:=h.nt;have hns:=h.ns;have le:loopO (ref17_Validate_L5 l) 0=some (outR () (ff (fun i=>match l.Enums[i]? with|some x=>if(enumE l i x).1=0 then none else some (⟨(enumE l i x).1,1,(i:Int),(enumE l i x).2⟩:GLawError)|none=>none) l.Enums.length)):=
  loopF (fun k=>(k:Int)) _ _ _ (fun k hk _=>by
   unfold ref17_Validate_L5;rw[if_pos (by omega),ref17_enumError_s h hk,nn,pn hk,wsucc (by omega)];dsimp only;by_cases hz:(enumE l k l.Enums[k]).1=0
   ·rw[if_pos hz,if_neg (by simp),if_pos hz];rfl
   ·rw[if_neg hz,if_pos (by simpa using hz),if_neg hz];rfl) (fun _=>by unfold ref17_Validate_L5;simp)
 have lt:loopO (ref17_Validate_L4 l) 0=some (outR () (ff (fun i=>match l.Tables[i]? with|some x=>if(tabE l i x).1=0 then none else some (⟨(tabE l i x).1,2,(i:Int),(tabE l i x).2⟩:GLawError)|none=>none) l.Tables.length)):=
  loopF (fun k=>(k:Int)) _ _ _ (fun k hk _=>by
   unfold ref17_Validate_L4;rw[if_pos (by omega),ref17_tableError_s h hk,nn,pn hk,wsucc (by omega)];dsimp only;by_cases hz:(tabE l k l.Tables[k]).1=0
   ·rw[if_pos hz,if_neg (by simp),if_pos hz];rfl
   ·rw[if_neg hz,if_pos (by simpa using hz),if_neg hz];rfl) (fun _=>by unfold ref17_Validate_L4;simp)
 have ls:loopO (ref17_Validate_L3 l) 0=some (outR () (ff (fun i=>match l.Scopes[i]? with|some x=>if(scopeE l i x).1=0 then none else some (le3 i (scopeE l i x))|none=>none) l.Scopes.length)):=
  loopF (fun k=>(k:Int)) _ _ _ (fun k hk _=>by
   unfold ref17_Validate_L3;rw[if_pos (by omega),ref17_scopeError_s h hk,nn,pn hk,wsucc (by omega)];dsimp only;by_cases hz:(scopeE l k l.Scopes[k]).1=0
   ·rw[if_pos hz,if_neg (by simp),if_pos hz];rfl
   ·rw[if_neg hz,if_pos (by simpa [le3] using hz),if_neg hz];rfl) (fun _=>by unfold ref17_Validate_L3;simp)
 unfold ref17_Validate validE;by_cases h8:8<l.Enums.length
 ·rw[if_pos (by omega),if_pos h8]
 rw[if_neg (by omega),if_neg h8,le]
 cases ff (fun i=>match l.Enums[i]? with|some x=>if(enumE l i x).1=0 then none else some (⟨(enumE l i x).1,1,(i:Int),(enumE l i x).2⟩:GLawError)|none=>none) l.Enums.length with
 |some v=>rfl
 |none=>
  simp only[outR,nn];by_cases h8:8<l.Tables.length
  ·rw[if_pos (by omega),if_pos h8]
  rw[if_neg (by omega),if_neg h8,lt]
  cases ff (fun i=>match l.Tables[i]? with|some x=>if(tabE l i x).1=0 then none else some (⟨(tabE l i x).1,2,(i:Int),(tabE l i x).2⟩:GLawError)|none=>none) l.Tables.length with
  |some v=>rfl
  |none=>
   simp only[outR,nn];by_cases h8:4<l.Scopes.length
   ·rw[if_pos (by omega),if_pos h8]
   rw[if_neg (by omega),if_neg h8,ls];cases ff (fun i=>match l.Scopes[i]? with|some x=>if(scopeE l i x).1=0 then none else some (le3 i (scopeE l i x))|none=>none) l.Scopes.length<;>rfl
end Go.Proofs.Dev
namespace Go.Proofs.Dev
open Go Go.Tm
structure Valid (l:GLaw):Prop where
 e:∀i (h:i<l.Enums.length),(enumE l i l.Enums[i]).1=0
 t:∀i (h:i<l.Tables.length),(tabE l i l.Tables[i]).1=0
 s:∀i (h:i<l.Scopes.length),(scopeE l i l.Scopes[i]).1=0
 ne:l.Enums.length≤8
 nt:l.Tables.length≤8
 ns:l.Scopes.length≤4
theorem valid_of{l:GLaw}(h:(validE l).Code=0):Valid l:=by
 unfold validE at h;split at h
 ·simp at h
 rename_i h1;split at h
 ·rename_i v hv;exact(ff_code (f:=fun i=>match l.Enums[i]? with|some x=>if(enumE l i x).1=0 then none else some (⟨(enumE l i x).1,1,(i:Int),(enumE l i x).2⟩:GLawError)|none=>none) e_code hv h).elim
 rename_i he;split at h
 ·simp at h
 rename_i h2;split at h
 ·rename_i v hv;exact(ff_code (f:=fun i=>match l.Tables[i]? with|some x=>if(tabE l i x).1=0 then none else some (⟨(tabE l i x).1,2,(i:Int),(tabE l i x).2⟩:GLawError)|none=>none) t_code hv h).elim
 rename_i ht;split at h
 ·simp at h
 rename_i h3;refine⟨fun i hi=>?_,fun i hi=>?_,fun i hi=>?_,by omega,by omega,by omega⟩
 ·have:=ff_none.1 he i hi;rw[pn hi]at this;dsimp only at this;split at this
  ·assumption
  ·cases this
 ·have:=ff_none.1 ht i hi;rw[pn hi]at this;dsimp only at this;split at this
  ·assumption
  ·cases this
 ·generalize hf:ff _ l.Scopes.length=o at h
  cases o with
  |some v=>
   rw[cp]at h;obtain⟨k,k1,k2,-⟩:=ff_some.1 hf;rw[pn k1]at k2;dsimp only at k2;split at k2
   ·cases k2
   ·rename_i hne;injection k2 with k2;subst k2;exact(hne h).elim
  |none=>
   have:=ff_none.1 hf i hi;rw[pn hi]at this;dsimp only at this;split at this
   ·assumption
   ·cases this
end Go.Proofs.Dev
namespace Go.Proofs.Dev
open Go Go.Tm
theorem badLoop{n:Nat}(hn:n≤1048576) (bad:Nat→Bool) {step:Int→Option (Ex Int Unit Bool)}(hstep:∀i:Nat,i<n→step (i:Int)=if bad i=true then some (.ret false)else some (.go (wrapF .i64 ((i:Int)+1)))) (hend:step (n:Int)=some (.brk ())) :
 (loopO step 0=some (.inr false))∨(loopO step 0=some (.inl ())∧∀i,i<n→bad i=false):=by
 have h:=loopF (step:=step) (x0:=0) (fun i=>(i:Int)) (fun i=>if bad i=true then some false else none) n () (fun i hi _=>by
  rw[hstep i hi,wsucc (by omega)];cases bad i<;>rfl) (fun _=>hend)
 cases hf:ff (fun i=>if bad i=true then some false else none) n with
 |none=>
  right;rw[hf]at h;refine⟨h,fun i hi=>?_⟩;have:=ff_none.1 hf i hi
  cases hb:bad i with
  |false=>rfl
  |true=>simp[hb]at this
 |some v=>
  left;rw[hf]at h;obtain⟨k,-,k2,-⟩:=ff_some.1 hf;split at k2
  ·injection k2 with k2;subst k2;exact h
  ·cases k2
structure SmallSc (s:GScope):Prop where
 nm:s.Name.size≤80
 ins:s.Inputs.length≤14
 defs:s.Defs.length≤14
 rules:s.Rules.length≤60
 i:∀f∈s.Inputs,f.Name.size≤80
 d:∀f∈s.Defs,f.Name.size≤80
 r:∀r∈s.Rules,r.Name.size≤80∧r.Source.size≤80∧r.Guard.length≤50∧r.Value.length≤50
theorem smallScope_s(s:GScope):∃b,same_smallScope s=some b∧(b=true→SmallSc s):=by
 unfold same_smallScope;by_cases h1:80<(s.Name.size:Int)
 ·exact⟨false,by simp[h1],by simp⟩
 by_cases h2:14<(s.Inputs.length:Int)
 ·exact⟨false,by simp[h1,h2],by simp⟩
 by_cases h3:14<(s.Defs.length:Int)
 ·exact⟨false,by simp[h1,h2,h3],by simp⟩
 by_cases h4:60<(s.Rules.length:Int)
 ·exact⟨false,by simp[h1,h2,h3,h4],by simp⟩
 have hc:(if¬80<(s.Name.size:Int)then if¬14<(s.Inputs.length:Int)then if¬14<(s.Defs.length:Int)then some (decide (60<(s.Rules.length:Int)))else some true else some true else some true)=some false:=by
  rw[if_pos h1,if_pos h2,if_pos h3,decide_eq_false h4]
 rw[hc,nn,if_neg (by simp)];rcases badLoop (n:=s.Inputs.length) (by omega) (fun i=>match s.Inputs[i]? with|some f=>decide (80<(f.Name.size:Int))|none=>false) (step:=same_smallScope_L5 s) (fun i hi=>by
  unfold same_smallScope_L5;rw[if_pos (by omega),idxN hi,nn,pn hi];simp only[decide_eq_true_eq]) (by unfold same_smallScope_L5;simp)with k|⟨k,k1⟩
 ·exact⟨false,by rw[k];rfl,by simp⟩
 rw[k,nn];dsimp only;rcases badLoop (n:=s.Defs.length) (by omega) (fun i=>match s.Defs[i]? with|some f=>decide (80<(f.Name.size:Int))|none=>false) (step:=same_smallScope_L4 s) (fun i hi=>by
  unfold same_smallScope_L4;rw[if_pos (by omega),idxN hi,nn,pn hi];simp only[decide_eq_true_eq]) (by unfold same_smallScope_L4;simp)with k|⟨k,k2⟩
 ·exact⟨false,by rw[k];rfl,by simp⟩
 rw[k,nn];dsimp only;rcases badLoop (n:=s.Rules.length) (by omega) (fun i=>match s.Rules[i]? with|some r=>decide (80<(r.Name.size:Int)∨80<(r.Source.size:Int)∨50<(r.Guard.length:Int)∨50<(r.Value.length:Int))|none=>false) (step:=same_smallScope_L3 s) (fun i hi=>by
  unfold same_smallScope_L3;rw[if_pos (by omega),idxN hi,nn,pn hi];generalize s.Rules[i]=r;by_cases r1:80<(r.Name.size:Int)
  ·simp[r1]
  by_cases r2:80<(r.Source.size:Int)
  ·simp[r1,r2]
  by_cases r3:50<(r.Guard.length:Int)
  ·simp[r1,r2,r3]
  ·simp[r1,r2,r3]) (by unfold same_smallScope_L3;simp)with k|⟨k,k3⟩
 ·exact⟨false,by rw[k];rfl,by simp⟩
 rw[k,nn];refine⟨true,rfl,fun _=>⟨by omega,by omega,by omega,by omega,?_,?_,?_⟩⟩
 ·intro f hf;obtain⟨i,hi,rfl⟩:=Co hf;have:=k1 i hi;rw[pn hi]at this;simp at this;omega
 ·intro f hf;obtain⟨i,hi,rfl⟩:=Co hf;have:=k2 i hi;rw[pn hi]at this;simp at this;omega
 ·intro r hr;obtain⟨i,hi,rfl⟩:=Co hr;have:=k3 i hi;rw[pn hi]at this;simp only[decide_eq_false_iff_not]at this;omega
def rowsTo(l:GLaw):Nat→Int
 |0=>0
 |k+1=>match l.Tables[k]? with|some t=>wrapF .i64 (rowsTo l k+(t.Rows.length:Int))|none=>rowsTo l k
structure SmallL (l:GLaw):Prop where
 ne:l.Enums.length≤9
 nt:l.Tables.length≤9
 ns:l.Scopes.length≤5
 e:∀x∈l.Enums,x.Name.size≤80∧x.Members.length≤20∧∀m∈x.Members,m.size≤80
 t:∀x∈l.Tables,x.Name.size≤80
 s:∀x∈l.Scopes,SmallSc x
 rt:∀i,i<l.Tables.length→rowsTo l (i+1)≤150
def rulesTo(l:GLaw):Nat→Int
 |0=>0
 |k+1=>match l.Scopes[k]? with|some t=>wrapF .i64 (rulesTo l k+(t.Rules.length:Int))|none=>rulesTo l k
def enBad(l:GLaw) (i:Nat):Bool:=match l.Enums[i]? with|some x=>decide (80<(x.Name.size:Int)) || decide (20<(x.Members.length:Int)) || (x.Members.any fun m=>decide (80<(m.size:Int)))|none=>false
theorem enBad_eq{l:GLaw}{i:Nat}(hi:i<l.Enums.length):enBad l i=(decide (80<(l.Enums[i].Name.size:Int)) || decide (20<(l.Enums[i].Members.length:Int)) || (l.Enums[i].Members.any fun m=>decide (80<(m.size:Int)))):=by
 unfold enBad;rw[pn hi]
theorem same_SmallLaw_s(l:GLaw):∃b,same_SmallLaw l=some b∧(b=true→SmallL l):=by
 unfold same_SmallLaw;by_cases h1:9<(l.Enums.length:Int)
 ·exact⟨false,by simp[h1],by simp⟩
 by_cases h2:9<(l.Tables.length:Int)
 ·exact⟨false,by simp[h1,h2],by simp⟩
 by_cases h3:5<(l.Scopes.length:Int)
 ·exact⟨false,by simp[h1,h2,h3],by simp⟩
 have hc:(if¬9<(l.Enums.length:Int)then if¬9<(l.Tables.length:Int)then some (decide (5<(l.Scopes.length:Int)))else some true else some true)=some false:=by
  rw[if_pos h1,if_pos h2,decide_eq_false h3]
 rw[hc,nn,if_neg (by simp)];have hin:∀i (hi:i<l.Enums.length),l.Enums[i].Members.length≤20→loopO (same_SmallLaw_L8 l (i:Int)) 0=some (if(l.Enums[i].Members.any fun m=>decide (80<(m.size:Int)))=true then .inr (.ret false)else .inl ()):=by
  intro i hi hm;have h:=loopF (step:=same_SmallLaw_L8 l (i:Int)) (x0:=0) (fun k=>(k:Int)) (fun k=>if(l.Enums[i].Members[k]?.any fun m=>decide (80<(m.size:Int)))=true then some (Ex.ret false)else none) l.Enums[i].Members.length () (fun k hk _=>by
   unfold same_SmallLaw_L8;rw[idxN hi,nn,if_pos (by omega),idxN hk,nn,pn hk,wsucc (by omega)];simp only[Ro,decide_eq_true_eq];by_cases hb:80<(l.Enums[i].Members[k].size:Int)
   ·rw[if_pos hb,if_pos hb];rfl
   ·rw[if_neg hb,if_neg hb];rfl) (fun _=>by unfold same_SmallLaw_L8;rw[idxN hi,nn,if_neg (by omega)])
  rw[h,←ff_any (g:=fun _=>(Ex.ret false:Ex Int Unit Bool))]
  cases hf:ff (fun k=>if(l.Enums[i].Members[k]?.any fun m=>decide (80<(m.size:Int)))=true then some (Ex.ret false:Ex Int Unit Bool)else none) l.Enums[i].Members.length with
  |none=>rfl
  |some v=>
   obtain⟨k,-,k2,-⟩:=ff_some.1 hf;split at k2
   ·injection k2 with k2;subst k2;rfl
   ·cases k2
 rcases badLoop (n:=l.Enums.length) (by omega) (enBad l) (step:=same_SmallLaw_L13 l) (fun i hi=>by
  have hin:=hin i hi;unfold same_SmallLaw_L13;rw[if_pos (by omega),idxN hi,nn,enBad_eq hi];generalize l.Enums[i]=x at hin⊢;by_cases r1:80<(x.Name.size:Int)
  ·simp[r1]
  by_cases r2:20<(x.Members.length:Int)
  ·simp[r1,r2]
  ·rw[if_pos r1,nn,if_neg (by simpa using r2),hin (by omega),nn];generalize (x.Members.any fun m=>decide (80<(m.size:Int)))=c;cases c
   ·rw[if_neg (show¬(decide (80<(x.Name.size:Int)) || decide (20<(x.Members.length:Int)) || false)=true by simp only[Xq,Vo,decide_eq_true_eq];omega)];rfl
   ·rw[if_pos (show(decide (80<(x.Name.size:Int)) || decide (20<(x.Members.length:Int)) || true)=true by simp)];rfl) (by unfold same_SmallLaw_L13;simp)with k|⟨k,k1⟩
 ·exact⟨false,by rw[k];rfl,by simp⟩
 rw[k,nn];dsimp only;have hT:=loopF (step:=same_SmallLaw_L12 l) (x0:=(0,0)) (fun i=>(rowsTo l i,(i:Int))) (fun i=>match l.Tables[i]? with|some x=>if(decide (80<(x.Name.size:Int)) || decide (150<rowsTo l (i+1)))=true then some false else none|none=>none) l.Tables.length () (fun i hi _=>by
  unfold same_SmallLaw_L12;simp only[rowsTo,pn hi];rw[if_pos (by omega),idxN hi,nn,wsucc (by omega)];generalize l.Tables[i]=x;generalize wrapF .i64 (rowsTo l i+(x.Rows.length:Int))=w;by_cases r1:80<(x.Name.size:Int)
  ·simp[r1,goR]
  ·by_cases r2:150<w<;>simp[r1,r2,goR]) (fun _=>by unfold same_SmallLaw_L12;simp)
 rw[hT,nn]
 cases hf:ff (fun i=>match l.Tables[i]? with|some x=>if(decide (80<(x.Name.size:Int)) || decide (150<rowsTo l (i+1)))=true then some false else none|none=>none) l.Tables.length with
 |some v=>
  refine⟨false,?_,by simp⟩;obtain⟨j,j1,j2,-⟩:=ff_some.1 hf;rw[pn j1]at j2;dsimp only at j2;split at j2
  ·injection j2 with j2;subst j2;rfl
  ·cases j2
 |none=>
  have ht2:=ff_none.1 hf;dsimp only[outR];have hS:=loopF (step:=same_SmallLaw_L11 l) (x0:=(0,0)) (fun i=>(rulesTo l i,(i:Int))) (fun i=>match l.Scopes[i]? with|some x=>if(decide (60<rulesTo l (i+1)) || !((same_smallScope x).getD true))=true then some false else none|none=>none) l.Scopes.length () (fun i hi _=>by
   unfold same_SmallLaw_L11;simp only[rulesTo,pn hi];rw[if_pos (by omega),idxN hi,nn,wsucc (by omega)];obtain⟨b,hb,-⟩:=smallScope_s l.Scopes[i];rw[hb];generalize wrapF .i64 (rulesTo l i+(l.Scopes[i].Rules.length:Int))=w;by_cases r1:60<w
   ·simp[r1,goR]
   ·cases b<;>simp[r1,goR]) (fun _=>by unfold same_SmallLaw_L11;simp)
  rw[hS,nn]
  cases hf2:ff (fun i=>match l.Scopes[i]? with|some x=>if(decide (60<rulesTo l (i+1)) || !((same_smallScope x).getD true))=true then some false else none|none=>none) l.Scopes.length with
  |some v=>
   refine⟨false,?_,by simp⟩;obtain⟨j,j1,j2,-⟩:=ff_some.1 hf2;rw[pn j1]at j2;dsimp only at j2;split at j2
   ·injection j2 with j2;subst j2;rfl
   ·cases j2
  |none=>
   have hs2:=ff_none.1 hf2;refine⟨true,rfl,fun _=>⟨by omega,by omega,by omega,?_,?_,?_,fun i hi=>?_⟩⟩
   ·intro x hx;obtain⟨i,hi,rfl⟩:=Co hx;have:=k1 i hi;rw[enBad_eq hi]at this;simp only[Bool.or_eq_false_iff,decide_eq_false_iff_not]at this;refine⟨by omega,by omega,fun m hm=>?_⟩;have h5:=qq.1 this.2 m hm;simp at h5;omega
   ·intro x hx;obtain⟨i,hi,rfl⟩:=Co hx;have:=ht2 i hi;rw[pn hi]at this;dsimp only at this;split at this
    ·cases this
    ·rename_i hn;simp only[Vo,decide_eq_true_eq,not_or]at hn;omega
   ·intro x hx;obtain⟨i,hi,rfl⟩:=Co hx;have:=hs2 i hi;rw[pn hi]at this;dsimp only at this;split at this
    ·cases this
    ·rename_i hn;obtain⟨b,hb,hb2⟩:=smallScope_s l.Scopes[i];rw[hb]at hn;simp at hn;exact hb2 hn.2
   ·have:=ht2 i hi;rw[pn hi]at this;dsimp only at this;split at this
    ·cases this
    ·rename_i hn;simp only[Vo,decide_eq_true_eq,not_or]at hn;omega
def LawTy(l:GLaw):Prop:=∀s∈l.Scopes,∀r∈s.Rules,(∀n∈r.Guard,NodeOk n)∧∀n∈r.Value,NodeOk n
theorem SmallL.ok{l:GLaw}(h:SmallL l) (ht:LawTy l):LawOk l:=by
 have hne:=h.ne;have hnt:=h.nt;have hns:=h.ns;refine⟨by omega,by omega,by omega,fun x hx=>?_,fun x hx=>?_,fun x hx=>?_⟩
 ·obtain⟨a,b,c⟩:=h.e x hx;exact⟨by omega,fun m hm=>by have:=c m hm;omega⟩
 ·have:=h.t x hx;omega
 ·obtain⟨a,b,c,d,e,f,g⟩:=h.s x hx;refine⟨by omega,⟨by omega,by omega,fun r hr=>by have:=g r hr;omega⟩,by omega,fun q hq=>by have:=e q hq;omega,fun q hq=>by have:=f q hq;omega,fun r hr=>?_⟩;have:=g r hr;obtain⟨t1,t2⟩:=ht x hx r hr;exact⟨by omega,by omega,t1,t2⟩
end Go.Proofs.Dev
