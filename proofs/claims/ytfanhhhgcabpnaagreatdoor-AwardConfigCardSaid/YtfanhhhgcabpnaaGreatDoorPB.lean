/-
  The functions as plain partial functions, and plain lemmas about them: no condition.
-/
import Derived.Test.YtfanhhhgcabpnaaGreatDoorPA
set_option linter.all false
namespace Go.Tm
variable {α β ρ σ:Type}
theorem wid {n:Int}(h1:-9223372036854775808≤n) (h2:n<9223372036854775808):wrapF .i64 n=n:=by
 unfold wrapF wrapS;simp only [cond_eq_ite,decide_eq_true_eq];split<;>omega
theorem wsucc {i:Nat}(h:i<4611686018427387904):wrapF .i64 ((i:Int)+1)=((i+1:Nat):Int):=by
 rw [wid (by omega) (by omega)];rfl
theorem idxN {l:List α}{i:Nat}(h:i<l.length):idx l (i:Int)=some l[i]:=by
 simp [idx,h]
theorem idxN? {l:List α}{i:Nat}:idx l (i:Int)=l[i]?:=by
 simp [idx]
theorem idxI {l:List α}{i:Int}(h1:0≤i) (h2:i<l.length):idx l i=some (l[i.toNat]'(by omega)):=by
 unfold idx;rw [if_pos h1,List.getElem?_eq_getElem]
theorem sidxN {b:ByteArray}{i:Nat}(h:i<b.size):sidx b (i:Int)=some (b[i].toNat:Int):=by
 unfold sidx;rw [dif_pos ⟨by omega,by simpa using h⟩];simp
theorem subhN {l:List α}{i:Nat}(h:i≤l.length):subh l (i:Int)=some (l.take i):=by
 unfold subh;rw [if_pos ⟨by omega,by simpa using h⟩];simp
theorem sublN {l:List α}{i:Nat}(h:i≤l.length):subl l (i:Int)=some (l.drop i):=by
 unfold subl;rw [if_pos ⟨by omega,by simpa using h⟩];simp
theorem appS {b:Nat}{l r:List α}(h:(l.length+r.length)*b≤140737488355328):app b l r=some (l++r):=if_pos (by omega)
theorem putN {l:List α}{i:Nat}{x:α}(h:i<l.length):put l (i:Int) x=some (l.set i x):=by
 unfold put;rw [if_pos ⟨by omega,by simpa using h⟩];simp
theorem mksN {b n:Nat}{x:α}(h:n*b≤281474976710656) (h2:n≤4611686018427387904):mks b x (n:Int) (n:Int)=some (List.replicate n x):=by
 unfold mks;rw [if_pos ⟨by omega,by omega,by omega,by simpa using h⟩];simp
def ff (f:Nat→Option ρ):Nat→Option ρ
 |0=>none
 |n+1=>match f 0 with|some v=>some v|none=>ff (fun i=>f (i+1)) n
theorem ff_congr {f g:Nat→Option ρ}:∀{n:Nat},(∀i,i<n→f i=g i)→ff f n=ff g n
 |0,_=>rfl
 |n+1,h=>by
  simp only [ff,h 0 (by omega)];rw [ff_congr (n:=n) (f:=fun i=>f (i+1)) (g:=fun i=>g (i+1)) fun i hi=>h (i+1) (by omega)]
theorem ff_none {f:Nat→Option ρ}:∀{n:Nat},ff f n=none↔∀i,i<n→f i=none
 |0=>by simp [ff]
 |n+1=>by
  simp only [ff];constructor
  ·intro h i hi
   cases h0:f 0 with
   |some v=>simp [h0]at h
   |none=>
    simp only [h0]at h
    cases i with
    |zero=>exact h0
    |succ i=>exact(ff_none (f:=fun i=>f (i+1))).1 h i (by omega)
  ·intro h;rw [h 0 (by omega)];exact ff_none.2 fun i hi=>h (i+1) (by omega)
theorem ff_some {f:Nat→Option ρ}{v:ρ}:∀{n:Nat},ff f n=some v↔∃i,i<n∧f i=some v∧∀j,j<i→f j=none
 |0=>by simp [ff]
 |n+1=>by
  simp only [ff];constructor
  ·intro h
   cases h0:f 0 with
   |some w=>simp only [h0]at h;exact⟨0,by omega,by rw [h0,h],fun j hj=>by omega⟩
   |none=>
    simp only [h0]at h;obtain⟨i,h1,h2,h3⟩:=(ff_some (f:=fun i=>f (i+1))).1 h;exact⟨i+1,by omega,h2,fun j hj=>by cases j with|zero=>exact h0|succ j=>exact h3 j (by omega)⟩
  ·rintro ⟨i,h1,h2,h3⟩
   cases i with
   |zero=>rw [h2]
   |succ i=>
    rw [h3 0 (by omega)];exact ff_some.2 ⟨i,by omega,h2,fun j hj=>h3 (j+1) (by omega)⟩
def outR (b:β):Option ρ→β⊕ρ
 |none=>.inl b
 |some v=>.inr v
def goR (s:σ):Option ρ→Ex σ β ρ
 |none=>.go s
 |some v=>.ret v
theorem loopF {step:σ→Option (Ex σ β ρ)}{x0:σ}(S:Nat→σ) (f:Nat→Option ρ) (n:Nat) (b:β)
 (hgo:∀i,i<n→(∀j,j<i→f j=none)→step (S i)=some (goR (S (i+1)) (f i))) (hend:(∀j,j<n→f j=none)→step (S n)=some (.brk b)) (h0:x0=S 0:=by rfl) :
 loopO step x0=some (outR b (ff f n)):=by
 have key:∀k i,i+k=n→(∀j,j<i→f j=none)→loopO step (S i)=some (outR b (ff (fun j=>f (i+j)) k)):=by
  intro k
  induction k with
  |zero=>
   intro i hi hf;rw [Nat.add_zero]at hi;subst hi;rw [loopO_brk (hend hf)];rfl
  |succ k ih=>
   intro i hi hf;have hs:=hgo i (by omega) hf;simp only [ff,Nat.add_zero]
   cases h0:f i with
   |some v=>
    rw [h0]at hs;rw [loopO_ret hs];rfl
   |none=>
    rw [h0]at hs;rw [loopO_go hs,ih (i+1) (by omega) fun j hj=>by rcases Nat.lt_succ_iff_lt_or_eq.1 hj with h|rfl;exact hf j h;exact h0];simp only [Nat.add_assoc,Nat.add_comm 1]
 have:=key n 0 (by omega) (by omega);rw [h0];simpa using this
theorem loopG {step:σ→Option (Ex σ β ρ)}{x0:σ}(S:Nat→σ) (n:Nat) (b:β) (hgo:∀i,i<n→step (S i)=some (.go (S (i+1)))) (hend:step (S n)=some (.brk b)) (h0:x0=S 0:=by rfl):loopO step x0=some (.inl b):=by
 have key:∀k i,i+k=n→loopO step (S i)=some (.inl b):=by
  intro k
  induction k with
  |zero=>intro i hi;rw [Nat.add_zero]at hi;subst hi;exact loopO_brk hend
  |succ k ih=>intro i hi;rw [loopO_go (hgo i (by omega))];exact ih (i+1) (by omega)
 rw [h0];exact key n 0 (by omega)
theorem indexF {l:List α}{p:α→Option Bool}(q:α→Bool) (hp:∀x∈l,p x=some (q x)) (hl:l.length<4611686018427387904) :
 loopO (fun(s:Int)=>if s<(l.length:Int)then (idx l s).bind fun x=>(p x).bind fun c=>if c=true then some (Ex.ret s)else some (Ex.go (wrapF .i64 (s+1)))else some (Ex.brk ())) 0
  = some (outR () (ff (fun i=>if (l[i]?.any q)=true then some (i:Int)else none) l.length)):=by
 refine loopF (fun i=>(i:Int)) _ l.length () (fun i hi _=>?_) (fun _=>?_)
 ·rw [if_pos (by omega),idxN hi,Option.bind_some,hp _ (List.getElem_mem hi),Option.bind_some,wid (by omega) (by omega)];rw [List.getElem?_eq_getElem hi];simp only [Option.any_some];by_cases h:q l[i]=true
  ·simp [h,goR]
  ·simp [h,goR]
 ·simp
theorem ff_any {l:List α}{q:α→Bool}{g:Nat→ρ}:(ff (fun i=>if (l[i]?.any q)=true then some (g i)else none) l.length).isSome=l.any q:=by
 rw [Bool.eq_iff_iff,Option.isSome_iff_exists,List.any_eq_true];constructor
 ·rintro ⟨v,hv⟩;obtain⟨i,h1,h2,-⟩:=ff_some.1 hv;rw [List.getElem?_eq_getElem h1]at h2;simp only [Option.any_some]at h2;split at h2
  ·exact⟨_,List.getElem_mem h1,by assumption⟩
  ·cases h2
 ·rintro ⟨x,hx,hq⟩;rw [←Option.isSome_iff_exists,←Option.not_isNone,Bool.not_eq_true',Option.isNone_eq_false_iff,Option.isSome_iff_ne_none];intro hn;obtain⟨i,hi,rfl⟩:=List.getElem_of_mem hx;have:=ff_none.1 hn i hi;rw [List.getElem?_eq_getElem hi]at this;simp [hq]at this
theorem containsF {l:List α}{p:α→Option Bool}(q:α→Bool) (hp:∀x∈l,p x=some (q x)) (hl:l.length<4611686018427387904) {o:Option (Unit⊕Int)}
 (ho:o=loopO (fun(s:Int)=>if s<(l.length:Int)then (idx l s).bind fun x=>(p x).bind fun c=>if c=true then some (Ex.ret s)else some (Ex.go (wrapF .i64 (s+1)))else some (Ex.brk ())) 0) :
 ((o.bind fun y=>match y with|.inr v=>some v|.inl _=>some (-1)).bind fun x=>some (decide (0≤x)))=some (l.any q):=by
 rw [ho,indexF q hp hl];rw [←ff_any (q:=q) (g:=fun i=>(i:Int))]
 cases h:ff (fun i=>if (l[i]?.any q)=true then some (i:Int)else none) l.length with
 |none=>simp [outR]
 |some v=>
  obtain⟨i,h1,h2,-⟩:=ff_some.1 h;split at h2
  ·injection h2 with h2;subst h2;simp [outR]
  ·cases h2
end Go.Tm
set_option maxRecDepth 10000
namespace Go.Proofs.Dev
open Go Go.Tm
def lowB (c:Int):Bool:=decide (97≤c)&&decide (c≤122)
def digB (c:Int):Bool:=decide (48≤c)&&decide (c≤57)
def wordB (c:Int):Bool:=lowB c || digB c || c==95
theorem range2 {a b c:Int}:(Option.bind (if a≤c then some (decide (c≤b))else some false) fun j=>some j)=some (decide (a≤c)&&decide (c≤b)):=by
 split<;>rename_i h<;>simp [h]
theorem lexer_isLower_s (c:Int):lexer_isLower c=some (lowB c):=range2
theorem lexer_isDigit_s (c:Int):lexer_isDigit c=some (digB c):=range2
theorem ref08_lower_s (c:Int):ref08_lower c=some (lowB c):=range2
theorem ref08_digit_s (c:Int):ref08_digit c=some (digB c):=range2
theorem ref08_word_s (c:Int):ref08_word c=some (wordB c):=by
 unfold ref08_word wordB;simp only [ref08_lower_s,ref08_digit_s,Option.bind_some];cases lowB c<;>cases digB c<;>simp
def wordAt (s:ByteArray) (i:Nat):Bool:=if h:i<s.size then wordB (s[i].toNat:Int)else false
def allWord (s:ByteArray):Bool:=(ff (fun i=>if wordAt s i=true then none else some ()) s.size).isNone
theorem lexer_nameLength_s {s:ByteArray}(hs:s.size<4611686018427387904):∃n,lexer_nameLength s=some n∧(n=(s.size:Int)↔allWord s=true):=by
 have hstep:∀i:Nat,i<s.size→lexer_nameLength_L1 s (i:Int)=some (if wordAt s i=true then .go ((i+1:Nat):Int)else .brk (i:Int)):=by
  intro i hi;unfold lexer_nameLength_L1;rw [if_pos (by omega),sidxN hi,Option.bind_some];simp only [lexer_isLower_s,lexer_isDigit_s,Option.bind_some,wordAt,dif_pos hi,wordB];rw [wid (by omega) (by omega)];cases lowB (s[i].toNat:Int)<;>cases digB (s[i].toNat:Int)<;>by_cases h95:(s[i].toNat:Int)=95<;>simp [h95]
 have w1:∀i,(if wordAt s i=true then none else some ())=none→wordAt s i=true:=fun i h=>by
  cases hw:wordAt s i with
  |true=>rfl
  |false=>simp [hw]at h
 unfold lexer_nameLength
 cases h:ff (fun i=>if wordAt s i=true then none else some ()) s.size with
 |none=>
  have h1:=ff_none.1 h;have hl:loopO (lexer_nameLength_L1 s) 0=some (.inl (s.size:Int)):=loopG (fun i=>(i:Int)) s.size (s.size:Int)
   (fun i hi=>by rw [hstep i hi,if_pos (w1 i (h1 i hi))]) (by unfold lexer_nameLength_L1;simp)
  rw [hl];exact⟨_,rfl,by simp [allWord,h]⟩
 |some v=>
  obtain⟨k,h1,h2,h3⟩:=ff_some.1 h;have hl:loopO (lexer_nameLength_L1 s) 0=some (.inl (k:Int)):=loopG (fun i=>(i:Int)) k (k:Int)
   (fun i hi=>by rw [hstep i (by omega),if_pos (w1 i (h3 i hi))]) (by
    rw [hstep k h1,if_neg];intro hw;simp [hw]at h2)
  rw [hl];exact⟨_,rfl,by simp [allWord,h];omega⟩
noncomputable def resL:List ByteArray:=(ref08_Reserved).getD []
theorem ite_or {p:Prop} [Decidable p] {b:Bool}:(if p then some true else some b)=some (decide p || b):=by
 split<;>rename_i h<;>simp [h]
theorem any_cons' {s a:ByteArray}{l:List ByteArray}:((a::l).any fun r=>decide (s=r))=(decide (s=a) || (l.any fun r=>decide (s=r))):=rfl
theorem any_nil' {s:ByteArray}:(([]:List ByteArray).any fun r=>decide (s=r))=false:=rfl
theorem reserved_s (s:ByteArray):lexer_reserved s=some (resL.any fun r=>decide (s=r)):=by
 unfold lexer_reserved resL ref08_Reserved;simp (config := { maxSteps := 4000000 }) only [Option.getD_some,any_cons',any_nil',ite_or,Option.bind_some,Bool.or_false];generalize (decide (s=_) || _)=b;cases b<;>rfl
noncomputable def identB (s:ByteArray):Bool:=if h:0<s.size∧s.size≤16 then lowB (s[0].toNat:Int)&&allWord s&&!(resL.any fun r=>decide (s=r))else false
theorem empty_iff {s:ByteArray}:s=ByteArray.mk #[]↔s.size=0:=by
 constructor
 ·rintro rfl;rfl
 ·intro h;obtain⟨a⟩:=s;congr 1;exact Array.eq_empty_of_size_eq_zero h
theorem lexer_ident {s:ByteArray}(hs:s.size<4611686018427387904):lexer_IsIdentifier s=some (identB s):=by
 obtain⟨n,hn,hn2⟩:=lexer_nameLength_s hs;unfold lexer_IsIdentifier identB;by_cases h0:s.size=0
 ·rw [if_neg (by simpa [empty_iff] using h0),dif_neg (by omega)];rfl
 ·have hx:sidx s 0=some (s[0].toNat:Int):=sidxN (i:=0) (by omega);rw [if_pos (by simpa [empty_iff] using h0),hx];simp only [Option.bind_some,lexer_isLower_s,hn,hn2,reserved_s];by_cases h16:s.size≤16
  ·rw [dif_pos ⟨by omega,h16⟩];cases lowB (s[0].toNat:Int)<;>by_cases hw:allWord s=true<;>simp [hw]<;>omega
  ·rw [dif_neg (by omega)];cases lowB (s[0].toNat:Int)<;>by_cases hw:allWord s=true<;>simp [hw]<;>omega
theorem ref08_ident {s:ByteArray}(hs:s.size<4611686018427387904):ref08_IsIdentifier s=some (identB s):=by
 unfold ref08_IsIdentifier identB;by_cases h:0<s.size∧s.size≤16
 ·have hx:sidx s 0=some (s[0].toNat:Int):=sidxN (i:=0) (by omega);rw [dif_pos h,if_pos (by omega),if_pos (by omega),hx];simp only [Option.bind_some,ref08_lower_s]
  cases hl:lowB (s[0].toNat:Int)with
  |false=>simp
  |true=>
   have hl1:loopO (ref08_IsIdentifier_L3 s) 0=some (outR () (ff (fun i=>if wordAt s i=true then none else some false) s.size)):=
    loopF (fun i=>(i:Int)) _ s.size () (fun i hi _=>by
     unfold ref08_IsIdentifier_L3;rw [if_pos (by omega),sidxN hi];simp only [Option.bind_some,ref08_word_s,wordAt,dif_pos hi];rw [wid (by omega) (by omega)];cases wordB (s[i].toNat:Int)<;>rfl) (fun _=>by unfold ref08_IsIdentifier_L3;simp)
   have hR:ref08_Reserved=some resL:=by unfold resL;unfold ref08_Reserved;rfl
   have hlen:resL.length=55:=by unfold resL ref08_Reserved;rfl
   have hl2:loopO (ref08_IsIdentifier_L2 s resL) 0=some (outR () (ff (fun i=>if (resL[i]?.any fun r=>decide (s=r))=true then some false else none) resL.length)):=
    loopF (fun i=>(i:Int)) _ resL.length () (fun i hi _=>by
     unfold ref08_IsIdentifier_L2;rw [if_pos (by omega),idxN hi,List.getElem?_eq_getElem hi];simp only [Option.bind_some,Option.any_some,decide_eq_true_eq];rw [wid (by omega) (by omega)];by_cases he:s=resL[i]
     ·rw [if_pos he.symm,if_pos he];rfl
     ·rw [if_neg (fun h=>he h.symm),if_neg he];rfl) (fun _=>by unfold ref08_IsIdentifier_L2;simp)
   simp only [Bool.not_true,Bool.false_eq_true,if_false,hl1,hR,Option.bind_some];have ha:=ff_any (l:=resL) (q:=fun r=>decide (s=r)) (g:=fun _=>false);have hw:allWord s=(ff (fun i=>if wordAt s i=true then none else some false) s.size).isNone:=by
    unfold allWord
    cases h1:ff (fun i=>if wordAt s i=true then none else some ()) s.size with
    |none=>
     rw [ff_none.2]
     ·rfl
     ·intro i hi;have:=ff_none.1 h1 i hi;cases hw:wordAt s i<;>simp_all
    |some v=>
     obtain⟨k,k1,k2,k3⟩:=ff_some.1 h1
     cases h2:ff (fun i=>if wordAt s i=true then none else some false) s.size with
     |some _=>rfl
     |none=>
      have:=ff_none.1 h2 k k1;cases hw:wordAt s k<;>simp_all
   rw [hw,←ha]
   cases h1:ff (fun i=>if wordAt s i=true then none else some false) s.size with
   |some v=>
    obtain⟨k,k1,k2,k3⟩:=ff_some.1 h1;cases hw:wordAt s k<;>simp_all [outR]
   |none=>
    simp only [outR,hl2,Option.bind_some,Option.isNone_none,Bool.true_and]
    cases h2:ff (fun i=>if (resL[i]?.any fun r=>decide (s=r))=true then some false else none) resL.length with
    |none=>rfl
    |some v=>
     obtain⟨k,k1,k2,k3⟩:=ff_some.1 h2;have:v=false:=by
      split at k2
      ·exact(Option.some.inj k2).symm
      ·cases k2
     subst this;rfl
 ·rw [dif_neg h];by_cases h0:s.size=0
  ·rw [if_neg (by simpa using h0)];rfl
  ·rw [if_pos (by omega),if_neg (by omega)];rfl
end Go.Proofs.Dev
namespace Go.Proofs.Dev
open Go Go.Tm
def validTypeB (t:GType) (e:List GEnum):Bool:=
 if t.Kind=6 then decide (0≤t.Enum)&&decide (t.Enum<(e.length:Int))else decide (1≤t.Kind)&&decide (t.Kind≤5)&&(t.Enum==0)
theorem ref09_ValidType_s (t:GType) (e:List GEnum):ref09_ValidType t e=some (validTypeB t e):=by
 unfold ref09_ValidType validTypeB;split
 ·by_cases h:0≤t.Enum<;>simp [h]
 ·by_cases h:1≤t.Kind<;>by_cases h2:t.Kind≤5<;>simp [h,h2]
theorem value_ValidType_s (t:GType) (e:List GEnum):value_ValidType t e=some (validTypeB t e):=by
 rw [←ref09_ValidType_s];unfold value_ValidType ref09_ValidType;by_cases h6:t.Kind=6
 ·simp [h6]
 ·rw [if_neg h6];by_cases h1:t.Kind=1
  ·simp [h1]
  by_cases h2:t.Kind=2
  ·simp [h2]
  by_cases h3:t.Kind=3
  ·simp [h3]
  by_cases h4:t.Kind=4
  ·simp [h4]
  by_cases h5:t.Kind=5
  ·simp [h5]
  ·rw [if_neg h1,if_neg h2,if_neg h3,if_neg h4];have:¬(1≤t.Kind∧t.Kind≤5):=by omega
   by_cases ha:1≤t.Kind
   ·rw [if_pos ha,if_neg (by omega)];simp [h5];omega
   ·rw [if_neg ha];simp [h5];omega
theorem bounds_eq (t:GType) (e:List GEnum):value_Bounds t e=ref09_Bounds t e:=by
 unfold value_Bounds ref09_Bounds;rw [value_ValidType_s,ref09_ValidType_s]
theorem bounds_ex (t:GType) (e:List GEnum):∃p,ref09_Bounds t e=some p:=by
 unfold ref09_Bounds;rw [ref09_ValidType_s,Option.bind_some]
 cases h:validTypeB t e with
 |false=>exact⟨_,rfl⟩
 |true=>
  simp only [Bool.true_eq_false,if_false]
  repeat' split
  all_goals first|exact⟨_,rfl⟩|skip
  have h6:t.Kind=6:=by
   unfold validTypeB at h;split at h
   ·assumption
   ·simp at h;omega
  unfold validTypeB at h;rw [if_pos h6]at h;simp at h;rw [idxI h.1 h.2];exact⟨_,rfl⟩
noncomputable def bnd (t:GType) (e:List GEnum):Int×Int:=(ref09_Bounds t e).getD (0,0)
theorem ref09_Bounds_s (t:GType) (e:List GEnum):ref09_Bounds t e=some (bnd t e):=by
 obtain⟨p,hp⟩:=bounds_ex t e;unfold bnd;rw [hp];rfl
theorem value_Bounds_s (t:GType) (e:List GEnum):value_Bounds t e=some (bnd t e):=by rw [bounds_eq,ref09_Bounds_s]
noncomputable def inB (n:Int) (t:GType) (e:List GEnum):Bool:=decide ((bnd t e).1≤n)&&decide (n≤(bnd t e).2)
theorem ref09_In_s (n:Int) (t:GType) (e:List GEnum):ref09_In n t e=some (inB n t e):=by
 unfold ref09_In inB;rw [ref09_Bounds_s,Option.bind_some];exact range2
def vrB (r:GDateRange):Bool:=decide (0≤r.From)&&(decide (r.From≤r.To)&&decide (r.To≤109573))
theorem daterange_Valid_s (r:GDateRange):daterange_Valid r=some (vrB r):=by
 unfold daterange_Valid vrB;by_cases h:0≤r.From<;>by_cases h2:r.From≤r.To<;>simp [h,h2]<;>omega
theorem ref05_Valid_s (r:GDateRange):ref05_Valid r=some (vrB r):=by
 unfold ref05_Valid vrB;by_cases h:0≤r.From<;>by_cases h2:r.From≤r.To<;>simp [h,h2]<;>omega
def confB (a b:GRow):Bool:=vrB a.Valid&&vrB b.Valid&&decide (max a.Valid.From b.Valid.From<min a.Valid.To b.Valid.To)&&decide (max a.Lo b.Lo<min a.Hi b.Hi)
theorem ref12_conflict_s (a b:GRow):ref12_conflict a b=some (confB a b):=by
 unfold ref12_conflict ref05_Intersect confB;simp only [ref05_Valid_s,Option.bind_some];cases vrB a.Valid<;>cases vrB b.Valid<;>simp only [Bool.false_eq_true,if_false,if_true,Option.bind_some,Bool.not_false,Bool.not_true,Bool.false_and,Bool.true_and,Bool.and_false];by_cases h:min a.Valid.To b.Valid.To≤max a.Valid.From b.Valid.From
 ·rw [if_pos h];simp only [Option.bind_some,Bool.false_eq_true,if_false];rw [decide_eq_false (by omega)];rfl
 ·rw [if_neg h];simp only [Option.bind_some,if_true];rw [decide_eq_true (p:=max a.Valid.From b.Valid.From<min a.Valid.To b.Valid.To) (by omega)];rfl
theorem table_conflict_s (a b:GRow):table_conflict a b=some (confB a b):=by
 unfold table_conflict daterange_Intersect daterange_hasDate confB;simp only [daterange_Valid_s,Option.bind_some];cases vrB a.Valid<;>cases vrB b.Valid<;>simp only [Bool.false_eq_true,if_false,if_true,Option.bind_some,Bool.not_false,Bool.not_true,Bool.false_and,Bool.true_and,Bool.and_false]
 ·by_cases ha:a.Valid.From<a.Valid.To<;>simp [ha]
 ·by_cases ha:a.Valid.From<a.Valid.To
  ·by_cases hb:b.Valid.From<b.Valid.To
   ·simp only [decide_eq_true ha,decide_eq_true hb,if_true,Option.bind_some,Bool.not_true,Bool.false_eq_true,if_false];by_cases h:min a.Valid.To b.Valid.To≤max a.Valid.From b.Valid.From
    ·rw [if_pos h];simp only [Option.bind_some,Bool.false_eq_true,if_false];rw [decide_eq_false (by omega)];rfl
    ·rw [if_neg h];simp only [Option.bind_some,if_true];rw [decide_eq_true (p:=max a.Valid.From b.Valid.From<min a.Valid.To b.Valid.To) (by omega)];rfl
   ·simp only [decide_eq_true ha,decide_eq_false hb,if_true,Option.bind_some,Bool.not_false,Bool.false_eq_true,if_false];rw [decide_eq_false (by omega)];rfl
  ·simp only [decide_eq_false ha,if_true,Option.bind_some,Bool.false_eq_true,if_false];rw [decide_eq_false (by omega)];rfl
noncomputable def wrongB (x:GRow) (t:GTable) (e:List GEnum):Bool:=
 !(vrB x.Valid) || decide (x.Valid.From=x.Valid.To) || decide (x.Hi≤x.Lo) || !(inB x.Lo t.Key e) || !(inB (wrapF .i64 (x.Hi-1)) t.Key e) || !(inB x.N t.Value e)
theorem ref12_wrong_s (x:GRow) (t:GTable) (e:List GEnum):ref12_wrong x t e=some (wrongB x t e):=by
 unfold ref12_wrong wrongB;simp only [ref05_Valid_s,ref09_In_s,Option.bind_some];cases vrB x.Valid<;>by_cases h1:x.Valid.From=x.Valid.To<;>by_cases h2:x.Hi≤x.Lo<;>simp only [h1,h2,not_true_eq_false,not_false_eq_true,decide_true,decide_false,Bool.false_eq_true,if_false,if_true,Option.bind_some,Bool.not_false,Bool.not_true,Bool.true_or,Bool.false_or,Bool.or_false]
 all_goals try rfl
 cases inB x.Lo t.Key e<;>cases inB (wrapF .i64 (x.Hi-1)) t.Key e<;>cases inB x.N t.Value e<;>rfl
noncomputable def rowF (t:GTable) (e:List GEnum) (i:Nat):Option (Int×Int):=
 match t.Rows[i]? with
 |some x=>if wrongB x t e=true then some ((i:Int),3)else if ((t.Rows.take i).any fun y=>confB y x)=true then some ((i:Int),11)else none
 |none=>none
noncomputable def tableV (t:GTable) (e:List GEnum):Int×Int:=
 if 64<t.Rows.length then (64,4)else if (validTypeB t.Key e&&validTypeB t.Value e)=false then (-1,8)else (ff (rowF t e) t.Rows.length).getD (0,0)
theorem first_conf {l:List GRow}{x:GRow}(hl:l.length<4611686018427387904):∃p,table_first_api_Row l (fun y=>table_Validate_c1 y x)=some p∧p.2=l.any fun y=>confB y x:=by
 have hl1:loopO (table_first_api_Row_L1 l (fun y=>table_Validate_c1 y x)) 0=some (outR () (ff (fun i=>if (l[i]?.any fun y=>confB y x)=true then some ((i:Int),true)else none) l.length)):=
  loopF (fun i=>(i:Int)) _ l.length () (fun i hi _=>by
   unfold table_first_api_Row_L1;rw [if_pos (by omega),idxN hi,List.getElem?_eq_getElem hi];simp only [Option.bind_some,Option.any_some,table_Validate_c1,table_conflict_s];rw [wsucc (by omega)];by_cases hc:confB l[i] x=true<;>simp [hc,goR]) (fun _=>by unfold table_first_api_Row_L1;simp)
 unfold table_first_api_Row;rw [hl1,←ff_any (q:=fun y=>confB y x) (g:=fun i=>((i:Int),true)),Option.bind_some]
 cases h:ff (fun i=>if (l[i]?.any fun y=>confB y x)=true then some ((i:Int),true)else none) l.length with
 |none=>exact⟨_,rfl,rfl⟩
 |some v=>
  obtain⟨k,h1,h2,-⟩:=ff_some.1 h;refine⟨_,rfl,?_⟩;split at h2
  ·injection h2 with h2;subst h2;rfl
  ·cases h2
theorem table_Validate_s (t:GTable) (e:List GEnum):table_Validate t e=some (tableV t e):=by
 unfold table_Validate tableV;by_cases h64:64<t.Rows.length
 ·rw [if_pos (by omega),if_pos h64]
 ·rw [if_neg (by omega),if_neg h64];simp only [value_ValidType_s,value_Bounds_s,Option.bind_some];have hl:loopO (table_Validate_L1 t (bnd t.Key e) (bnd t.Value e)) 0=some (outR () (ff (rowF t e) t.Rows.length)):=
   loopF (fun i=>(i:Int)) _ t.Rows.length () (fun i hi _=>by
    unfold table_Validate_L1 rowF;rw [if_pos (by omega),idxN hi,List.getElem?_eq_getElem hi];simp only [Option.bind_some,daterange_Valid_s];rw [subhN (by omega),wsucc (by omega)];obtain⟨p,hp,hp2⟩:=first_conf (l:=t.Rows.take i) (x:=t.Rows[i]) (by simp;omega);simp only [Option.bind_some,hp,hp2];generalize ((t.Rows.take i).any fun y=>confB y t.Rows[i])=c;generalize t.Rows[i]=x;unfold wrongB inB;cases vrB x.Valid
    ·rfl
    by_cases h1:x.Valid.From=x.Valid.To
    ·simp [h1,goR]
    by_cases h2:x.Hi≤x.Lo
    ·simp [h1,h2,goR]
    generalize wrapF .i64 (x.Hi-1)=y;simp only [h1,h2,not_false_eq_true,if_true,decide_false,Option.bind_some,Bool.false_eq_true,if_false,Bool.not_true,Bool.false_or];by_cases g1:x.Lo<(bnd t.Key e).1
    ·rw [if_neg (by simpa using g1),decide_eq_false (p:=(bnd t.Key e).1≤x.Lo) (by omega)];rfl
    rw [if_pos (by simpa using g1),decide_eq_true (p:=(bnd t.Key e).1≤x.Lo) (by omega)];by_cases g2:(bnd t.Key e).2<x.Lo
    ·rw [if_neg (by simpa using g2),decide_eq_false (p:=x.Lo≤(bnd t.Key e).2) (by omega)];rfl
    rw [if_pos (by simpa using g2),decide_eq_true (p:=x.Lo≤(bnd t.Key e).2) (by omega)];by_cases g3:y<(bnd t.Key e).1
    ·rw [if_neg (by simpa using g3),decide_eq_false (p:=(bnd t.Key e).1≤y) (by omega)];rfl
    rw [if_pos (by simpa using g3),decide_eq_true (p:=(bnd t.Key e).1≤y) (by omega)];by_cases g4:(bnd t.Key e).2<y
    ·rw [decide_eq_true g4,decide_eq_false (p:=y≤(bnd t.Key e).2) (by omega)];rfl
    rw [decide_eq_false g4,decide_eq_true (p:=y≤(bnd t.Key e).2) (by omega)];simp only [Option.bind_some,Bool.false_eq_true,if_false,Bool.and_true,Bool.not_true,Bool.false_or];by_cases g5:x.N<(bnd t.Value e).1
    ·rw [if_neg (by simpa using g5),decide_eq_false (p:=(bnd t.Value e).1≤x.N) (by omega)];rfl
    rw [if_pos (by simpa using g5),decide_eq_true (p:=(bnd t.Value e).1≤x.N) (by omega)];by_cases g6:(bnd t.Value e).2<x.N
    ·rw [decide_eq_true g6,decide_eq_false (p:=x.N≤(bnd t.Value e).2) (by omega)];rfl
    rw [decide_eq_false g6,decide_eq_true (p:=x.N≤(bnd t.Value e).2) (by omega)];cases c<;>rfl) (fun _=>by unfold table_Validate_L1;simp)
  rw [hl];cases validTypeB t.Key e<;>cases validTypeB t.Value e<;>simp only [Bool.false_eq_true,if_false,if_true,Option.bind_some,Bool.not_false,Bool.not_true,Bool.false_and,Bool.true_and,Bool.and_false,Bool.true_eq_false];cases ff (rowF t e) t.Rows.length<;>rfl
theorem ref12_Validate_s (t:GTable) (e:List GEnum):ref12_Validate t e=some (tableV t e):=by
 unfold ref12_Validate tableV;by_cases h64:64<t.Rows.length
 ·rw [if_pos (by omega),if_pos h64]
 ·rw [if_neg (by omega),if_neg h64];simp only [ref09_ValidType_s,Option.bind_some];have hl:loopO (ref12_Validate_L9 t e) 0=some (outR () (ff (rowF t e) t.Rows.length)):=
   loopF (fun i=>(i:Int)) _ t.Rows.length () (fun i hi _=>by
    have hl2:loopO (ref12_Validate_L8 t (i:Int) t.Rows[i]) 0=some (outR () (ff (fun k=>if ((t.Rows.take i)[k]?.any fun y=>confB y t.Rows[i])=true then some (Ex.ret ((i:Int),11))else none) (t.Rows.take i).length)):=
     loopF (fun i=>(i:Int)) _ (t.Rows.take i).length () (fun k hk _=>by
      have hk':k<i:=by simp at hk;omega
      unfold ref12_Validate_L8;rw [if_pos (by omega),idxN (by omega),List.getElem?_eq_getElem hk];simp only [Option.bind_some,Option.any_some,ref12_conflict_s,List.getElem_take];rw [wsucc (by omega)];by_cases hc:confB t.Rows[k] t.Rows[i]=true<;>simp [hc,goR]) (fun _=>by
       unfold ref12_Validate_L8;rw [if_neg];simp;omega)
    unfold ref12_Validate_L9 rowF;rw [if_pos (by omega),idxN hi,List.getElem?_eq_getElem hi];simp only [Option.bind_some,ref12_wrong_s,hl2];rw [wsucc (by omega),←ff_any (q:=fun y=>confB y t.Rows[i]) (g:=fun k=>(Ex.ret ((i:Int),11):Ex Int Unit (Int×Int)))];cases wrongB t.Rows[i] t e
    ·simp only [Bool.false_eq_true,if_false]
     cases h:ff (fun k=>if ((t.Rows.take i)[k]?.any fun y=>confB y t.Rows[i])=true then some (Ex.ret ((i:Int),11):Ex Int Unit (Int×Int))else none) (t.Rows.take i).length with
     |none=>rfl
     |some v=>
      obtain⟨k,h1,h2,-⟩:=ff_some.1 h;split at h2
      ·injection h2 with h2;subst h2;rfl
      ·cases h2
    ·rfl) (fun _=>by unfold ref12_Validate_L9;simp)
  rw [hl];cases validTypeB t.Key e<;>cases validTypeB t.Value e<;>simp only [Bool.false_eq_true,if_false,if_true,Option.bind_some,Bool.not_false,Bool.not_true,Bool.false_and,Bool.true_and,Bool.and_false,Bool.true_eq_false];cases ff (rowF t e) t.Rows.length<;>rfl
end Go.Proofs.Dev
namespace Go.Proofs.Dev
open Go Go.Tm
def arityS (op:Int):Int:=
 if (1≤op∧op≤9)∨(35≤op∧op≤39)then 0
 else if op=10∨op=25∨(31≤op∧op≤34)then 1
 else if op=26 then 3
 else if 11≤op∧op≤30 then 2 else -1
theorem op_cases {op:Int}(h:1≤op∧op≤39):op=1∨op=2∨op=3∨op=4∨op=5∨op=6∨op=7∨op=8∨op=9∨op=10∨op=11∨op=12∨op=13∨op=14∨op=15∨op=16∨op=17∨op=18∨op=19∨op=20∨op=21∨op=22∨op=23∨op=24∨op=25∨op=26∨op=27∨op=28∨op=29∨op=30∨op=31∨op=32∨op=33∨op=34∨op=35∨op=36∨op=37∨op=38∨op=39:=by omega
theorem arity_out {op:Int}(h:¬(1≤op∧op≤39)):arityS op = -1:=by
 unfold arityS;rw [if_neg (by omega),if_neg (by omega),if_neg (by omega),if_neg (by omega)]
theorem expr_Arity_s (op:Int):expr_Arity op=some (arityS op):=by
 by_cases h:1≤op∧op≤39
 ·rcases op_cases h with h|h|h|h|h|h|h|h|h|h|h|h|h|h|h|h|h|h|h|h|h|h|h|h|h|h|h|h|h|h|h|h|h|h|h|h|h|h|h<;>subst h<;>simp [expr_Arity,arityS]
 ·rw [arity_out h];unfold expr_Arity;have hn:∀k:Int,1≤k→k≤39→¬op=k:=fun k h1 h2 he=>h (by omega);simp [hn]
theorem ref10_Arity_s (op:Int):ref10_Arity op=some (arityS op):=by
 by_cases h:1≤op∧op≤39
 ·rcases op_cases h with h|h|h|h|h|h|h|h|h|h|h|h|h|h|h|h|h|h|h|h|h|h|h|h|h|h|h|h|h|h|h|h|h|h|h|h|h|h|h<;>subst h<;>simp [ref10_Arity,arityS]
 ·rw [arity_out h];unfold ref10_Arity;have hn:∀k:Int,1≤k→k≤39→¬op=k:=fun k h1 h2 he=>h (by omega);by_cases h1:1≤op
  ·have:¬op≤39:=fun h2=>h ⟨h1,h2⟩;simp [h1,hn,show¬op≤9 by omega,this,show¬op≤30 by omega]
  ·simp [h1,hn,show¬35≤op by omega,show¬11≤op by omega]
def usesB (op:Int):Bool:=decide ((1≤op∧op≤8)∨(14≤op∧op≤16)∨(33≤op∧op≤34)∨(36≤op∧op≤39))
theorem expr_UsesN_s {op:Int}(h:1≤op∧op≤39):expr_UsesN op=some (usesB op):=by
 rcases op_cases h with h|h|h|h|h|h|h|h|h|h|h|h|h|h|h|h|h|h|h|h|h|h|h|h|h|h|h|h|h|h|h|h|h|h|h|h|h|h|h<;>subst h<;>simp [expr_UsesN,usesB]
theorem ref10_meaning_s {op:Int}(h:1≤op∧op≤39):ref10_meaning op=some (usesB op):=by
 rcases op_cases h with h|h|h|h|h|h|h|h|h|h|h|h|h|h|h|h|h|h|h|h|h|h|h|h|h|h|h|h|h|h|h|h|h|h|h|h|h|h|h<;>subst h<;>simp [ref10_meaning,usesB]
def numB (k:Int):Bool:=k==2 || k==3 || k==4
theorem expr_isNumber_s (k:Int):expr_isNumber k=some (numB k):=by
 unfold expr_isNumber numB;by_cases h1:k=2<;>by_cases h2:k=3<;>simp [h1,h2]
theorem ref10_number_s (k:Int):ref10_number k=some (numB k):=by
 unfold ref10_number numB;by_cases h1:k=2<;>by_cases h2:k=3<;>simp [h1,h2]
theorem ref10_ordered_s (k:Int):ref10_ordered k=some (numB k || k==5):=by
 unfold ref10_ordered;rw [ref10_number_s];cases numB k<;>simp
noncomputable def implNode (n:GNode) (ops:List GType) (s:GSignature):Option (GType×Int):=
 Option.bind (α:=Bool) (if¬n.N=0 then (expr_UsesN n.Op).bind fun x=>some (!x)else some false) fun j=>if j=true then some ((GType.mk 0 0),2)else expr_nodeType n ops s
def NodeOk (n:GNode):Prop:=-9223372036854775808≤n.N∧n.N≤9223372036854775807
theorem tdiv_w {n:Int}{k:Int}(hk:1≤k) (h:-9223372036854775808≤n∧n≤9223372036854775807):wrapF .i64 (Int.tdiv n k)=Int.tdiv n k:=by
 have h1:(Int.tdiv n k).natAbs≤n.natAbs:=by
  rw [Int.natAbs_tdiv];exact Nat.div_le_self _ _
 by_cases hn:n = -9223372036854775808
 ·by_cases hk1:k=1
  ·subst hk1;subst hn;rfl
  ·have:(Int.tdiv n k).natAbs<n.natAbs:=by
    rw [Int.natAbs_tdiv];exact Nat.div_lt_self (by omega) (by omega)
   exact wid (by omega) (by omega)
 ·exact wid (by omega) (by omega)
end Go.Proofs.Dev
set_option maxHeartbeats 1000000
namespace Go.Proofs.Dev
open Go Go.Tm
theorem vt_enum {t:GType}{e:List GEnum}(h:validTypeB t e=true) (hk:t.Kind≠6):t.Enum=0:=by
 unfold validTypeB at h;rw [if_neg hk]at h;simp at h;exact h.2
theorem vt_k {k:Int}{e:List GEnum}(h1:1≤k) (h2:k≤5):validTypeB ⟨k,0⟩ e=true:=by
 unfold validTypeB;rw [if_neg (by show¬k=6;omega)];simp [h1,h2]
theorem vt_1 {e:List GEnum}:validTypeB ⟨1,0⟩ e=true:=vt_k (by omega) (by omega)
theorem vt_2 {e:List GEnum}:validTypeB ⟨2,0⟩ e=true:=vt_k (by omega) (by omega)
theorem vt_3 {e:List GEnum}:validTypeB ⟨3,0⟩ e=true:=vt_k (by omega) (by omega)
theorem vt_4 {e:List GEnum}:validTypeB ⟨4,0⟩ e=true:=vt_k (by omega) (by omega)
theorem vt_5 {e:List GEnum}:validTypeB ⟨5,0⟩ e=true:=vt_k (by omega) (by omega)
def Eq2 (n:GNode) (ops:List GType) (s:GSignature):Prop:=
 implNode n ops s=ref10_Result n ops s∧∃r,ref10_Result n ops s=some r∧(r.2=0→validTypeB r.1 s.Enums=true)
theorem node_lit {n:GNode}{s:GSignature}{k:Int}(hk:1≤k∧k≤5) (hn:n.Op=k):Eq2 n [] s:=by
 have hu:=expr_UsesN_s (op:=n.Op) (by omega);have hm:=ref10_meaning_s (op:=n.Op) (by omega);have hus:usesB n.Op=true:=by unfold usesB;simp;omega
 have hv:validTypeB ⟨n.Op,0⟩ s.Enums=true:=vt_k (by omega) (by omega);have hR:ref10_Result n [] s=some (if (bnd ⟨n.Op,0⟩ s.Enums).1≤n.N∧n.N≤(bnd ⟨n.Op,0⟩ s.Enums).2 then (⟨n.Op,0⟩,0)else (⟨0,0⟩,3)):=by
  unfold ref10_Result ref10_ranged ref10_found ref10_leaf ref10_kind;simp only [ref09_Bounds_s,hm,hus,Option.bind_some];have h6:¬n.Op=6:=by omega
  have h7:¬n.Op=7:=by omega
  have h8:¬n.Op=8:=by omega
  have h9:¬n.Op=9:=by omega
  have h33:¬n.Op=33:=by omega
  have h34:¬n.Op=34:=by omega
  have h35:¬n.Op=35:=by omega
  have h36:¬n.Op=36:=by omega
  have h37:¬n.Op=37:=by omega
  have h38:¬n.Op=38:=by omega
  have h39:¬n.Op=39:=by omega
  have hin:(if n.Op=1 then some true else if n.Op=2 then some true else if n.Op=3 then some true else if n.Op=4 then some true else some (n.Op==5))=some true:=by
   rcases (by omega:n.Op=1∨n.Op=2∨n.Op=3∨n.Op=4∨n.Op=5)with h|h|h|h|h<;>simp [h]
  simp only [hin,h6,h7,h8,h9,h33,h34,h35,h36,h37,h38,h39,ref09_ValidType_s,hv,Option.bind_some,if_true,if_false,range2];have b6:∀k:Int,¬n.Op=k→(n.Op==k)=false:=fun k h=>by simpa using h
  rw [b6 38 h38,b6 39 h39];by_cases hN:n.N=0<;>by_cases g1:(bnd ⟨n.Op,0⟩ s.Enums).1≤n.N<;>by_cases g2:n.N≤(bnd ⟨n.Op,0⟩ s.Enums).2<;>simp [hN,g1,g2,hv]
  all_goals (rw [hN]at g1 g2;simp [g1,g2])
 have hI:implNode n [] s=some (if (bnd ⟨n.Op,0⟩ s.Enums).1≤n.N∧n.N≤(bnd ⟨n.Op,0⟩ s.Enums).2 then (⟨n.Op,0⟩,0)else (⟨0,0⟩,3)):=by
  have hlit:expr_literalType n.N n.Op s=some (if (bnd ⟨n.Op,0⟩ s.Enums).1≤n.N∧n.N≤(bnd ⟨n.Op,0⟩ s.Enums).2 then (⟨n.Op,0⟩,0)else (⟨0,0⟩,3)):=by
   unfold expr_literalType;simp only [value_Bounds_s,Option.bind_some];by_cases g1:n.N<(bnd ⟨n.Op,0⟩ s.Enums).1<;>by_cases g2:(bnd ⟨n.Op,0⟩ s.Enums).2<n.N<;>simp [g1,g2]<;>omega
  have hT:expr_nodeType n [] s=expr_literalType n.N n.Op s:=by
   unfold expr_nodeType;rw [hlit];rcases (by omega:n.Op=1∨n.Op=2∨n.Op=3∨n.Op=4∨n.Op=5)with h|h|h|h|h<;>rw [h]at hlit⊢<;>simp [hlit]
  unfold implNode;rw [hT,hlit,hu,hus];by_cases hN:n.N=0<;>simp [hN]
 refine⟨by rw [hI,hR],_,hR,?_⟩;split
 ·exact fun _=>hv
 ·intro h;cases h
theorem fmt_t {N:Int}:(if¬N=0 then (some true).bind fun x=>some (!x)else some false)=some false:=by split<;>rfl
theorem fmt_f {N:Int}:(if¬N=0 then (some false).bind fun x=>some (!x)else some false)=some (!(N==0)):=by
 by_cases h:N=0<;>simp [h]
theorem exs {α:Type}{x:α}{Q:α→Prop}:(∃r,some x=some r∧Q r)=Q x:=by simp
theorem idx_lt0 {α:Type}{l:List α}{N:Int}(d:α) (h0:0≤N) (h1:N<(l.length:Int)):idx l N=some ((l[N.toNat]?).getD d):=by
 rw [idxI h0 h1,List.getElem?_eq_getElem];rfl
theorem node_6 {N:Int}{s:GSignature}(hN:NodeOk ⟨6,N⟩):Eq2 ⟨6,N⟩ [] s:=by
 have w:=tdiv_w (n:=N) (k:=16) (by omega) hN;have hu:=expr_UsesN_s (op:=6) (by omega);have hm:=ref10_meaning_s (op:=6) (by omega);have hus:usesB 6=true:=rfl;unfold Eq2 implNode expr_nodeType expr_enumType ref10_Result ref10_ranged ref10_found ref10_leaf;simp only [w,hu,hm,hus,ref09_ValidType_s,fmt_t];by_cases h0:0≤N
 ·have hd:0≤Int.tdiv N 16:=Int.tdiv_nonneg h0 (by omega);by_cases h1:Int.tdiv N 16<(s.Enums.length:Int)
  ·rw [idx_lt0 ⟨ByteArray.empty,[]⟩ hd h1];have hv:validTypeB ⟨6,Int.tdiv N 16⟩ s.Enums=true:=by unfold validTypeB;simp [hd,h1]
   generalize (s.Enums[(Int.tdiv N 16).toNat]?).getD ⟨ByteArray.empty,[]⟩=m;have e1:¬N<0:=by omega
   have e2:¬(s.Enums.length:Int)≤Int.tdiv N 16:=by omega
   by_cases h2:Int.tmod N 16<(m.Members.length:Int)
   ·have e3:¬(m.Members.length:Int)≤Int.tmod N 16:=by omega
    simp [h0,h1,h2,hv,e1,e2,e3,exs,-Prod.exists]
   ·have e3:(m.Members.length:Int)≤Int.tmod N 16:=by omega
    simp [h0,h1,h2,hv,e1,e2,e3,exs,-Prod.exists]
  ·have e1:¬N<0:=by omega
   have e2:(s.Enums.length:Int)≤Int.tdiv N 16:=by omega
   simp [h0,h1,e1,e2,exs,-Prod.exists]
 ·have e1:N<0:=by omega
  simp [h0,e1,exs,-Prod.exists]
theorem node_7 {N:Int}{s:GSignature}:Eq2 ⟨7,N⟩ [] s:=by
 have hu:=expr_UsesN_s (op:=7) (by omega);have hm:=ref10_meaning_s (op:=7) (by omega);have hus:usesB 7=true:=rfl;unfold Eq2 implNode expr_nodeType expr_listedType ref10_Result ref10_ranged ref10_found ref10_leaf;simp only [hu,hm,hus,ref09_ValidType_s,value_ValidType_s,fmt_t];by_cases h0:0≤N
 ·have e1:¬N<0:=by omega
  by_cases h1:N<(s.Inputs.length:Int)
  ·rw [idx_lt0 ⟨0,0⟩ h0 h1];generalize (s.Inputs[N.toNat]?).getD ⟨0,0⟩=t;obtain⟨tk,te⟩:=t;have e2:¬(s.Inputs.length:Int)≤N:=by omega
   cases hv:validTypeB ⟨tk,te⟩ s.Enums<;>simp [h0,h1,hv,e1,e2,exs,-Prod.exists]
  ·have e2:(s.Inputs.length:Int)≤N:=by omega
   simp [h0,h1,e1,e2,exs,-Prod.exists]
 ·have e1:N<0:=by omega
  simp [h0,e1,exs,-Prod.exists]
theorem node_8 {N:Int}{s:GSignature}:Eq2 ⟨8,N⟩ [] s:=by
 have hu:=expr_UsesN_s (op:=8) (by omega);have hm:=ref10_meaning_s (op:=8) (by omega);have hus:usesB 8=true:=rfl;unfold Eq2 implNode expr_nodeType expr_listedType ref10_Result ref10_ranged ref10_found ref10_leaf;simp only [hu,hm,hus,ref09_ValidType_s,value_ValidType_s,fmt_t];by_cases h0:0≤N
 ·have e1:¬N<0:=by omega
  by_cases h1:N<(s.Defs.length:Int)
  ·rw [idx_lt0 ⟨0,0⟩ h0 h1];generalize (s.Defs[N.toNat]?).getD ⟨0,0⟩=t;obtain⟨tk,te⟩:=t;have e2:¬(s.Defs.length:Int)≤N:=by omega
   cases hv:validTypeB ⟨tk,te⟩ s.Enums<;>simp [h0,h1,hv,e1,e2,exs,-Prod.exists]
  ·have e2:(s.Defs.length:Int)≤N:=by omega
   simp [h0,h1,e1,e2,exs,-Prod.exists]
 ·have e1:N<0:=by omega
  simp [h0,e1,exs,-Prod.exists]
theorem node_9 {N:Int}{s:GSignature}:Eq2 ⟨9,N⟩ [] s:=by
 have hu:=expr_UsesN_s (op:=9) (by omega);have hm:=ref10_meaning_s (op:=9) (by omega);have hus:usesB 9=false:=rfl;unfold Eq2 implNode expr_nodeType ref10_Result ref10_ranged ref10_found ref10_leaf ref10_kind;simp only [hu,hm,hus,ref09_ValidType_s,fmt_f];cases N==0<;>simp [vt_5,exs,-Prod.exists]
theorem node_35 {N:Int}{s:GSignature}:Eq2 ⟨35,N⟩ [] s:=by
 have hu:=expr_UsesN_s (op:=35) (by omega);have hm:=ref10_meaning_s (op:=35) (by omega);have hus:usesB 35=false:=rfl;unfold Eq2 implNode expr_nodeType expr_memberType ref10_Result ref10_ranged ref10_found ref10_leaf ref10_kind;simp only [hu,hm,hus,ref09_ValidType_s,fmt_f];cases hm:s.HasMembers<;>cases N==0<;>simp [hm,vt_2,exs,-Prod.exists]
theorem node_mem {op N:Int}{s:GSignature}(h:36≤op∧op≤39):Eq2 ⟨op,N⟩ [] s:=by
 have hu:=expr_UsesN_s (op:=op) (by omega);have hm:=ref10_meaning_s (op:=op) (by omega);have hus:usesB op=true:=by unfold usesB;simp;omega
 unfold Eq2 implNode expr_nodeType expr_memberType expr_listedType ref10_Result ref10_ranged ref10_found ref10_leaf;simp only [hu,hm,hus,ref09_ValidType_s,value_ValidType_s,expr_isNumber_s,ref10_ordered_s,fmt_t];cases hM:s.HasMembers
 ·rcases (by omega:op=36∨op=37∨op=38∨op=39)with h|h|h|h<;>subst h<;>simp [hM,exs,-Prod.exists]
 ·by_cases h0:0≤N
  ·have e1:¬N<0:=by omega
   by_cases h1:N<(s.MemberDefs.length:Int)
   ·rw [idx_lt0 ⟨0,0⟩ h0 h1];generalize (s.MemberDefs[N.toNat]?).getD ⟨0,0⟩=t;obtain⟨tk,te⟩:=t;have e2:¬(s.MemberDefs.length:Int)≤N:=by omega
    cases hv:validTypeB ⟨tk,te⟩ s.Enums
    ·rcases (by omega:op=36∨op=37∨op=38∨op=39)with h|h|h|h<;>subst h<;>simp [hM,h0,h1,hv,e1,e2,exs,-Prod.exists]
    ·rcases (by omega:op=36∨op=37∨op=38∨op=39)with h|h|h|h<;>subst h<;>simp only [hM,h0,h1,hv,e1,e2,Option.bind_some,if_true,if_false,not_true_eq_false,not_false_eq_true,decide_false,decide_true,Bool.false_eq_true,Bool.true_eq_false,Int.reduceEq,beq_self_eq_true,Int.reduceBEq]
     ·by_cases k2:tk=2<;>by_cases k3:tk=3<;>simp [k2,k3,hv,exs,-Prod.exists]<;>simp_all
     ·by_cases k1:tk=1<;>simp [k1,hv,exs,-Prod.exists]<;>simp_all
     ·by_cases k1:tk=1<;>simp [k1,hv,exs,-Prod.exists]<;>simp_all
     ·cases numB tk<;>by_cases k5:tk=5<;>simp [k5,hv,exs,-Prod.exists]<;>simp_all
   ·have e2:(s.MemberDefs.length:Int)≤N:=by omega
    rcases (by omega:op=36∨op=37∨op=38∨op=39)with h|h|h|h<;>subst h<;>simp [hM,h0,h1,e1,e2,exs,-Prod.exists]
  ·have e1:N<0:=by omega
   rcases (by omega:op=36∨op=37∨op=38∨op=39)with h|h|h|h<;>subst h<;>simp [hM,h0,e1,exs,-Prod.exists]
end Go.Proofs.Dev
