/-
  The functions as plain partial functions, and plain lemmas about them: no condition.
-/
import Derived.Test.YtkmalfincghanaaGreatDoorPA
open Bool renaming and_eq_true→paa,and_false→faf,eq_iff_iff→dac,false_and→eaf,false_eq_true→naa,false_or→lad,not_false→cad,not_true→Bac,or_eq_true→xab,true_and→Oab,true_eq_false→yab
open ByteArray renaming empty→Yae,mk→vaa
open Classical renaming not_forall→sae,not_imp→Hae
open Int renaming natAbs_tdiv→Wae,reduceBEq→qaa,reduceEq→oaa,tdiv→iab,tdiv_nonneg→Xae,tmod→Lab,toNat_natCast→Rab
open List renaming any_eq_true→Qae,append_assoc→jab,filter_append→uab,foldl_cons→aac,getElem?_eq_getElem→iaa,getElem_mem→raa,getElem_of_mem→Faa,getElem_take→zac,length_cons→Daa,length_filter_le→Maa,length_map→gab,mem_append→Jaa,mem_cons→fab,mem_filter→tab,mem_map→Tab,mem_of_mem_drop→Iac,mem_singleton→Paa,nodup_cons→wad,pairwise_cons→jac,range→waa,replicate→maa,set_append_right→Sac,take_add_one→Zaa,take_length→dab
open Nat renaming add_zero→Jab,lt_succ_iff_lt_or_eq→cae,sub_self→cac
open Option renaming any_some→Dac,bind→jaa,bind_some→haa,getD_some→Qab,isSome_iff_exists→Uac
open Option.some renaming injEq→zaa
set_option linter.all false
namespace Go.Tm
variable {α β ρ σ:Type}
theorem wid{n:Int}(h1:-9223372036854775808≤n) (h2:n<9223372036854775808):ca .i64 n=n:=by
 unfold ca oB;simp only[cond_eq_ite,decide_eq_true_eq];split<;>omega
theorem La{i:Nat}(h:i<4611686018427387904):ca .i64 ((i:Int)+1)=((i+1:Nat):Int):=by
 rw[wid (by omega) (by omega)];rfl
theorem Na{l:List α}{i:Nat}(h:i<l.length):idx l (i:Int)=some l[i]:=by
 simp[idx,h]
theorem EP{l:List α}{i:Nat}:idx l (i:Int)=l[i]?:=by
 simp[idx]
theorem Tk{l:List α}{i:Int}(h1:0≤i) (h2:i<l.length):idx l i=some (l[i.toNat]'(by omega)):=by
 unfold idx;rw[if_pos h1,iaa]
theorem NL{b:ByteArray}{i:Nat}(h:i<b.size):vr b (i:Int)=some (b[i].toNat:Int):=by
 unfold vr;rw[dif_pos ⟨by omega,by simpa using h⟩];simp
theorem Nr{l:List α}{i:Nat}(h:i≤l.length):uo l (i:Int)=some (l.take i):=by
 unfold uo;rw[if_pos ⟨by omega,by simpa using h⟩];simp
theorem LU{l:List α}{i:Nat}(h:i≤l.length):Zx l (i:Int)=some (l.drop i):=by
 unfold Zx;rw[if_pos ⟨by omega,by simpa using h⟩];simp
theorem Sj{b:Nat}{l r:List α}(h:(l.length+r.length)*b≤140737488355328):app b l r=some (l++r):=if_pos (by omega)
theorem Dv{l:List α}{i:Nat}{x:α}(h:i<l.length):put l (i:Int) x=some (l.set i x):=by
 unfold put;rw[if_pos ⟨by omega,by simpa using h⟩];simp
theorem Vx{b n:Nat}{x:α}(h:n*b≤281474976710656) (h2:n≤4611686018427387904):au b x (n:Int) (n:Int)=some (maa n x):=by
 unfold au;rw[if_pos ⟨by omega,by omega,by omega,by simpa using h⟩];simp
def ff(f:Nat→Option ρ):Nat→Option ρ
 |0=>none
 |n+1=>match f 0 with|some v=>some v|none=>ff (fun i=>f (i+1)) n
theorem qE{f g:Nat→Option ρ}:∀{n:Nat},(∀i,i<n→f i=g i)→ff f n=ff g n
 |0,_=>rfl
 |n+1,h=>by
  simp only[ff,h 0 (by omega)];rw[qE (n:=n) (f:=fun i=>f (i+1)) (g:=fun i=>g (i+1)) fun i hi=>h (i+1) (by omega)]
theorem pb{f:Nat→Option ρ}:∀{n:Nat},ff f n=none↔∀i,i<n→f i=none
 |0=>by simp[ff]
 |n+1=>by
  simp only[ff];constructor
  ·intro h i hi
   cases h0:f 0 with
   |some v=>simp[h0]at h
   |none=>
    simp only[h0]at h
    cases i with
    |zero=>exact h0
    |succ i=>exact(pb (f:=fun i=>f (i+1))).1 h i (by omega)
  ·intro h;rw[h 0 (by omega)];exact pb.2 fun i hi=>h (i+1) (by omega)
theorem Mb{f:Nat→Option ρ}{v:ρ}:∀{n:Nat},ff f n=some v↔∃i,i<n∧f i=some v∧∀j,j<i→f j=none
 |0=>by simp[ff]
 |n+1=>by
  simp only[ff];constructor
  ·intro h
   cases h0:f 0 with
   |some w=>simp only[h0]at h;exact⟨0,by omega,by rw[h0,h],fun j hj=>by omega⟩
   |none=>
    simp only[h0]at h;obtain⟨i,h1,h2,h3⟩:=(Mb (f:=fun i=>f (i+1))).1 h;exact⟨i+1,by omega,h2,fun j hj=>by cases j with|zero=>exact h0|succ j=>exact h3 j (by omega)⟩
  ·rintro⟨i,h1,h2,h3⟩
   cases i with
   |zero=>rw[h2]
   |succ i=>
    rw[h3 0 (by omega)];exact Mb.2 ⟨i,by omega,h2,fun j hj=>h3 (j+1) (by omega)⟩
def ui(b:β):Option ρ→β⊕ρ
 |none=>.inl b
 |some v=>.inr v
def jw(s:σ):Option ρ→Ex σ β ρ
 |none=>.go s
 |some v=>.ret v
theorem CM{b:β}:ui b (none:Option ρ)=.inl b:=rfl
theorem wV{b:β}{v:ρ}:ui b (some v)=.inr v:=rfl
theorem Uh{step:σ→Option (Ex σ β ρ)}{x0:σ}(S:Nat→σ) (f:Nat→Option ρ) (n:Nat) (b:β)
 (hgo:∀i,i<n→(∀j,j<i→f j=none)→step (S i)=some (jw (S (i+1)) (f i))) (hend:(∀j,j<n→f j=none)→step (S n)=some (.brk b)) (h0:x0=S 0:=by rfl) :
 ia step x0=some (ui b (ff f n)):=by
 have key:∀k i,i+k=n→(∀j,j<i→f j=none)→ia step (S i)=some (ui b (ff (fun j=>f (i+j)) k)):=by
  intro k
  induction k with
  |zero=>
   intro i hi hf;rw[Jab]at hi;subst hi;rw[Nb (hend hf)];rfl
  |succ k ih=>
   intro i hi hf;have hs:=hgo i (by omega) hf;simp only[ff,Jab]
   cases h0:f i with
   |some v=>
    rw[h0]at hs;rw[Sl hs];rfl
   |none=>
    rw[h0]at hs;rw[Xe hs,ih (i+1) (by omega) fun j hj=>by rcases cae.1 hj with h|rfl;exact hf j h;exact h0];simp only[Nat.add_assoc,Nat.add_comm 1]
 have:=key n 0 (by omega) (by omega);rw[h0];simpa using this
theorem wi{step:σ→Option (Ex σ β ρ)}{x0:σ}(S:Nat→σ) (n:Nat) (b:β) (hgo:∀i,i<n→step (S i)=some (.go (S (i+1)))) (hend:step (S n)=some (.brk b)) (h0:x0=S 0:=by rfl):ia step x0=some (.inl b):=by
 have key:∀k i,i+k=n→ia step (S i)=some (.inl b):=by
  intro k
  induction k with
  |zero=>intro i hi;rw[Jab]at hi;subst hi;exact Nb hend
  |succ k ih=>intro i hi;rw[Xe (hgo i (by omega))];exact ih (i+1) (by omega)
 rw[h0];exact key n 0 (by omega)
theorem XW{l:List α}{p:α→Option Bool}(q:α→Bool) (hp:∀x∈l,p x=some (q x)) (hl:l.length<4611686018427387904) :
 ia (fun(s:Int)=>if s<(l.length:Int)then(idx l s).bind fun x=>(p x).bind fun c=>if c=true then some (Ex.ret s)else some (Ex.go (ca .i64 (s+1)))else some (Ex.brk ())) 0
  = some (ui () (ff (fun i=>if(l[i]?.any q)=true then some (i:Int)else none) l.length)):=by
 refine Uh (fun i=>(i:Int)) _ l.length () (fun i hi _=>?_) (fun _=>?_)
 ·rw[if_pos (by omega),Na hi,haa,hp _ (raa hi),haa,wid (by omega) (by omega)];rw[iaa hi];simp only[Dac];by_cases h:q l[i]=true
  ·simp[h,jw]
  ·simp[h,jw]
 ·simp
theorem FH{l:List α}{q:α→Bool}{g:Nat→ρ}:(ff (fun i=>if(l[i]?.any q)=true then some (g i)else none) l.length).isSome=l.any q:=by
 rw[dac,Uac,Qae];constructor
 ·rintro⟨v,hv⟩;obtain⟨i,h1,h2,-⟩:=Mb.1 hv;rw[iaa h1]at h2;simp only[Dac]at h2;split at h2
  ·exact⟨_,raa h1,by assumption⟩
  ·cases h2
 ·rintro⟨x,hx,hq⟩;rw[←Uac,←Option.not_isNone,Bool.not_eq_true',Option.isNone_eq_false_iff,Option.isSome_iff_ne_none];intro hn;obtain⟨i,hi,rfl⟩:=Faa hx;have:=pb.1 hn i hi;rw[iaa hi]at this;simp[hq]at this
theorem Zm{l:List α}{p:α→Option Bool}(q:α→Bool) (hp:∀x∈l,p x=some (q x)) (hl:l.length<4611686018427387904) {o:Option (Unit⊕Int)}
 (ho:o=ia (fun(s:Int)=>if s<(l.length:Int)then(idx l s).bind fun x=>(p x).bind fun c=>if c=true then some (Ex.ret s)else some (Ex.go (ca .i64 (s+1)))else some (Ex.brk ())) 0) :
 ((o.bind fun y=>match y with|.inr v=>some v|.inl _=>some (-1)).bind fun x=>some (decide (0≤x)))=some (l.any q):=by
 rw[ho,XW q hp hl];rw[←FH (q:=q) (g:=fun i=>(i:Int))]
 cases h:ff (fun i=>if(l[i]?.any q)=true then some (i:Int)else none) l.length with
 |none=>simp[ui]
 |some v=>
  obtain⟨i,h1,h2,-⟩:=Mb.1 h;split at h2
  ·injection h2 with h2;subst h2;simp[ui]
  ·cases h2
end Go.Tm
set_option maxRecDepth 10000
namespace Go.Proofs.Dev
open Go Go.Tm
def AK(c:Int):Bool:=decide (97≤c)&&decide (c≤122)
def YW(c:Int):Bool:=decide (48≤c)&&decide (c≤57)
def TU(c:Int):Bool:=AK c || YW c || c==95
theorem VG{a b c:Int}:(jaa (if a≤c then some (decide (c≤b))else some false) fun j=>some j)=some (decide (a≤c)&&decide (c≤b)):=by
 split<;>rename_i h<;>simp[h]
theorem Pr(c:Int):bl c=some (AK c):=VG
theorem Wx(c:Int):Gaf c=some (YW c):=VG
def Ju(s:ByteArray) (i:Nat):Bool:=if h:i<s.size then TU (s[i].toNat:Int)else false
def Jt(s:ByteArray):Bool:=(ff (fun i=>if Ju s i=true then none else some ()) s.size).isNone
theorem Ku{s:ByteArray}(hs:s.size<4611686018427387904):∃n,Th s=some n∧(n=(s.size:Int)↔Jt s=true):=by
 have hstep:∀i:Nat,i<s.size→Lc s (i:Int)=some (if Ju s i=true then .go ((i+1:Nat):Int)else .brk (i:Int)):=by
  intro i hi;unfold Lc;rw[if_pos (by omega),NL hi,haa];simp only[Pr,Wx,haa,Ju,dif_pos hi,TU];rw[wid (by omega) (by omega)];cases AK (s[i].toNat:Int)<;>cases YW (s[i].toNat:Int)<;>by_cases h95:(s[i].toNat:Int)=95<;>simp[h95]
 have w1:∀i,(if Ju s i=true then none else some ())=none→Ju s i=true:=fun i h=>by
  cases hw:Ju s i with
  |true=>rfl
  |false=>simp[hw]at h
 unfold Th
 cases h:ff (fun i=>if Ju s i=true then none else some ()) s.size with
 |none=>
  have h1:=pb.1 h;have hl:ia (Lc s) 0=some (.inl (s.size:Int)):=wi (fun i=>(i:Int)) s.size (s.size:Int)
   (fun i hi=>by rw[hstep i hi,if_pos (w1 i (h1 i hi))]) (by unfold Lc;simp)
  rw[hl];exact⟨_,rfl,by simp[Jt,h]⟩
 |some v=>
  obtain⟨k,h1,h2,h3⟩:=Mb.1 h;have hl:ia (Lc s) 0=some (.inl (k:Int)):=wi (fun i=>(i:Int)) k (k:Int)
   (fun i hi=>by rw[hstep i (by omega),if_pos (w1 i (h3 i hi))]) (by
    rw[hstep k h1,if_neg];intro hw;simp[hw]at h2)
  rw[hl];exact⟨_,rfl,by simp[Jt,h];omega⟩
theorem ZV{p:Prop} [Decidable p] {b:Bool}:(if p then some true else some b)=some (decide p || b):=by
 split<;>rename_i h<;>simp[h]
theorem IH(s:ByteArray):∃b,yg s=some b:=by
 unfold yg;simp (config := { maxSteps := 4000000 }) only[ZV,haa];generalize (decide (s=_) || _)=b;cases b<;>exact⟨_,rfl⟩
noncomputable def qX(s:ByteArray):Bool:=(yg s).getD false
theorem sH(s:ByteArray):yg s=some (qX s):=by
 obtain⟨b,h⟩:=IH s;unfold qX;rw[h];rfl
noncomputable def om(s:ByteArray):Bool:=if h:0<s.size∧s.size≤16 then AK (s[0].toNat:Int)&&Jt s&&!(qX s)else false
theorem FB{s:ByteArray}:s=vaa #[]↔s.size=0:=by
 constructor
 ·rintro rfl;rfl
 ·intro h;obtain⟨a⟩:=s;congr 1;exact Array.eq_empty_of_size_eq_zero h
theorem Ol{s:ByteArray}(hs:s.size<4611686018427387904):Ra s=some (om s):=by
 obtain⟨n,hn,hn2⟩:=Ku hs;unfold Ra om;by_cases h0:s.size=0
 ·rw[if_neg (by simpa [FB] using h0),dif_neg (by omega)];rfl
 ·have hx:vr s 0=some (s[0].toNat:Int):=NL (i:=0) (by omega);rw[if_pos (by simpa [FB] using h0),hx];simp only[haa,Pr,hn,hn2,sH];by_cases h16:s.size≤16
  ·rw[dif_pos ⟨by omega,h16⟩];cases AK (s[0].toNat:Int)<;>by_cases hw:Jt s=true<;>simp[hw]<;>omega
  ·rw[dif_neg (by omega)];cases AK (s[0].toNat:Int)<;>by_cases hw:Jt s=true<;>simp[hw]<;>omega
end Go.Proofs.Dev
namespace Go.Proofs.Dev
open Go Go.Tm
def qa(t:GType) (e:List GEnum):Bool:=
 if t.Kind=6 then decide (0≤t.Enum)&&decide (t.Enum<(e.length:Int))else decide (1≤t.Kind)&&decide (t.Kind≤5)&&(t.Enum==0)
noncomputable def X8(t0:GType) (t1:List GEnum):Option Bool:=
 if t0.Kind=6 then
  jaa (α:=Bool) (
   if 0≤t0.Enum then
    some (decide (t0.Enum<(t1.length:Int)))
   else
   some false) fun j3=>
  some j3
 else
 jaa (α:=Bool) (
  if 1≤t0.Kind then
   if t0.Kind≤5 then
    some (t0.Enum==0)
   else
   some false
  else
  some false) fun j6=>
 some j6
theorem R4(t:GType) (e:List GEnum):X8 t e=some (qa t e):=by
 unfold X8 qa;split
 ·by_cases h:0≤t.Enum<;>simp[h]
 ·by_cases h:1≤t.Kind<;>by_cases h2:t.Kind≤5<;>simp[h,h2]
theorem xb(t:GType) (e:List GEnum):Kb t e=some (qa t e):=by
 rw[←R4];unfold Kb X8;by_cases h6:t.Kind=6
 ·simp[h6]
 ·rw[if_neg h6];by_cases h1:t.Kind=1
  ·simp[h1]
  by_cases h2:t.Kind=2
  ·simp[h2]
  by_cases h3:t.Kind=3
  ·simp[h3]
  by_cases h4:t.Kind=4
  ·simp[h4]
  by_cases h5:t.Kind=5
  ·simp[h5]
  ·rw[if_neg h1,if_neg h2,if_neg h3,if_neg h4];have:¬(1≤t.Kind∧t.Kind≤5):=by omega
   by_cases ha:1≤t.Kind
   ·rw[if_pos ha,if_neg (by omega)];simp[h5];omega
   ·rw[if_neg ha];simp[h5];omega
theorem HJ(t:GType) (e:List GEnum):∃p,wc t e=some p:=by
 unfold wc;rw[xb,haa]
 cases h:qa t e with
 |false=>exact⟨_,rfl⟩
 |true=>
  simp only[yab,if_false]
  repeat' split
  all_goals first|exact⟨_,rfl⟩|skip
  have h6:t.Kind=6:=by
   unfold qa at h;split at h
   ·assumption
   ·simp at h;omega
  unfold qa at h;rw[if_pos h6]at h;simp at h;rw[Tk h.1 h.2];exact⟨_,rfl⟩
noncomputable def qt(t:GType) (e:List GEnum):Int×Int:=(wc t e).getD (0,0)
theorem Fj(t:GType) (e:List GEnum):wc t e=some (qt t e):=by
 obtain⟨p,hp⟩:=HJ t e;unfold qt;rw[hp];rfl
noncomputable def TH(n:Int) (t:GType) (e:List GEnum):Bool:=decide ((qt t e).1≤n)&&decide (n≤(qt t e).2)
def sQ(r:GDateRange):Bool:=decide (0≤r.From)&&(decide (r.From≤r.To)&&decide (r.To≤109573))
theorem Vl(r:GDateRange):nc r=some (sQ r):=by
 unfold nc sQ;by_cases h:0≤r.From<;>by_cases h2:r.From≤r.To<;>simp[h,h2]<;>omega
def Yv(a b:GRow):Bool:=sQ a.Valid&&sQ b.Valid&&decide (max a.Valid.From b.Valid.From<min a.Valid.To b.Valid.To)&&decide (max a.Lo b.Lo<min a.Hi b.Hi)
theorem Aw(a b:GRow):Nj a b=some (Yv a b):=by
 unfold Nj Nh Xb Yv;simp only[Vl,haa];cases sQ a.Valid<;>cases sQ b.Valid<;>simp only[naa,if_false,if_true,haa,cad,Bac,eaf,Oab,faf]
 ·by_cases ha:a.Valid.From<a.Valid.To<;>simp[ha]
 ·by_cases ha:a.Valid.From<a.Valid.To
  ·by_cases hb:b.Valid.From<b.Valid.To
   ·simp only[decide_eq_true ha,decide_eq_true hb,if_true,haa,Bac,naa,if_false];by_cases h:min a.Valid.To b.Valid.To≤max a.Valid.From b.Valid.From
    ·rw[if_pos h];simp only[haa,naa,if_false];rw[decide_eq_false (by omega)];rfl
    ·rw[if_neg h];simp only[haa,if_true];rw[decide_eq_true (p:=max a.Valid.From b.Valid.From<min a.Valid.To b.Valid.To) (by omega)];rfl
   ·simp only[decide_eq_true ha,decide_eq_false hb,if_true,haa,cad,naa,if_false];rw[decide_eq_false (by omega)];rfl
  ·simp only[decide_eq_false ha,if_true,haa,naa,if_false];rw[decide_eq_false (by omega)];rfl
noncomputable def EG(x:GRow) (t:GTable) (e:List GEnum):Bool:=
 !(sQ x.Valid) || decide (x.Valid.From=x.Valid.To) || decide (x.Hi≤x.Lo) || !(TH x.Lo t.Key e) || !(TH (ca .i64 (x.Hi-1)) t.Key e) || !(TH x.N t.Value e)
noncomputable def jB(t:GTable) (e:List GEnum) (i:Nat):Option (Int×Int):=
 match t.Rows[i]? with
 |some x=>if EG x t e=true then some ((i:Int),3)else if((t.Rows.take i).any fun y=>Yv y x)=true then some ((i:Int),11)else none
 |none=>none
noncomputable def Ym(t:GTable) (e:List GEnum):Int×Int:=
 if 64<t.Rows.length then(64,4)else if(qa t.Key e&&qa t.Value e)=false then(-1,8)else(ff (jB t e) t.Rows.length).getD (0,0)
theorem tH{l:List GRow}{x:GRow}(hl:l.length<4611686018427387904):∃p,qb l (fun y=>Pc y x)=some p∧p.2=l.any fun y=>Yv y x:=by
 have hl1:ia (ab l (fun y=>Pc y x)) 0=some (ui () (ff (fun i=>if(l[i]?.any fun y=>Yv y x)=true then some ((i:Int),true)else none) l.length)):=
  Uh (fun i=>(i:Int)) _ l.length () (fun i hi _=>by
   unfold ab;rw[if_pos (by omega),Na hi,iaa hi];simp only[haa,Dac,Pc,Aw];rw[La (by omega)];by_cases hc:Yv l[i] x=true<;>simp[hc,jw]) (fun _=>by unfold ab;simp)
 unfold qb;rw[hl1,←FH (q:=fun y=>Yv y x) (g:=fun i=>((i:Int),true)),haa]
 cases h:ff (fun i=>if(l[i]?.any fun y=>Yv y x)=true then some ((i:Int),true)else none) l.length with
 |none=>exact⟨_,rfl,rfl⟩
 |some v=>
  obtain⟨k,h1,h2,-⟩:=Mb.1 h;refine⟨_,rfl,?_⟩;split at h2
  ·injection h2 with h2;subst h2;rfl
  ·cases h2
theorem Sw(t:GTable) (e:List GEnum):si t e=some (Ym t e):=by
 unfold si Ym;by_cases h64:64<t.Rows.length
 ·rw[if_pos (by omega),if_pos h64]
 ·rw[if_neg (by omega),if_neg h64];simp only[xb,Fj,haa];have hl:ia (Og t (qt t.Key e) (qt t.Value e)) 0=some (ui () (ff (jB t e) t.Rows.length)):=
   Uh (fun i=>(i:Int)) _ t.Rows.length () (fun i hi _=>by
    unfold Og jB;rw[if_pos (by omega),Na hi,iaa hi];simp only[haa,Vl];rw[Nr (by omega),La (by omega)];obtain⟨p,hp,hp2⟩:=tH (l:=t.Rows.take i) (x:=t.Rows[i]) (by simp;omega);simp only[haa,hp,hp2];generalize ((t.Rows.take i).any fun y=>Yv y t.Rows[i])=c;generalize t.Rows[i]=x;unfold EG TH;cases sQ x.Valid
    ·rfl
    by_cases h1:x.Valid.From=x.Valid.To
    ·simp[h1,jw]
    by_cases h2:x.Hi≤x.Lo
    ·simp[h1,h2,jw]
    generalize ca .i64 (x.Hi-1)=y;simp only[h1,h2,not_false_eq_true,if_true,decide_false,haa,naa,if_false,Bac,lad];by_cases g1:x.Lo<(qt t.Key e).1
    ·rw[if_neg (by simpa using g1),decide_eq_false (p:=(qt t.Key e).1≤x.Lo) (by omega)];rfl
    rw[if_pos (by simpa using g1),decide_eq_true (p:=(qt t.Key e).1≤x.Lo) (by omega)];by_cases g2:(qt t.Key e).2<x.Lo
    ·rw[if_neg (by simpa using g2),decide_eq_false (p:=x.Lo≤(qt t.Key e).2) (by omega)];rfl
    rw[if_pos (by simpa using g2),decide_eq_true (p:=x.Lo≤(qt t.Key e).2) (by omega)];by_cases g3:y<(qt t.Key e).1
    ·rw[if_neg (by simpa using g3),decide_eq_false (p:=(qt t.Key e).1≤y) (by omega)];rfl
    rw[if_pos (by simpa using g3),decide_eq_true (p:=(qt t.Key e).1≤y) (by omega)];by_cases g4:(qt t.Key e).2<y
    ·rw[decide_eq_true g4,decide_eq_false (p:=y≤(qt t.Key e).2) (by omega)];rfl
    rw[decide_eq_false g4,decide_eq_true (p:=y≤(qt t.Key e).2) (by omega)];simp only[haa,naa,if_false,Bool.and_true,Bac,lad];by_cases g5:x.N<(qt t.Value e).1
    ·rw[if_neg (by simpa using g5),decide_eq_false (p:=(qt t.Value e).1≤x.N) (by omega)];rfl
    rw[if_pos (by simpa using g5),decide_eq_true (p:=(qt t.Value e).1≤x.N) (by omega)];by_cases g6:(qt t.Value e).2<x.N
    ·rw[decide_eq_true g6,decide_eq_false (p:=x.N≤(qt t.Value e).2) (by omega)];rfl
    rw[decide_eq_false g6,decide_eq_true (p:=x.N≤(qt t.Value e).2) (by omega)];cases c<;>rfl) (fun _=>by unfold Og;simp)
  rw[hl];cases qa t.Key e<;>cases qa t.Value e<;>simp only[naa,if_false,if_true,haa,cad,Bac,eaf,Oab,faf,yab];cases ff (jB t e) t.Rows.length<;>rfl
end Go.Proofs.Dev
namespace Go.Proofs.Dev
open Go Go.Tm
def Dd(op:Int):Int:=
 if(1≤op∧op≤9)∨(35≤op∧op≤39)then 0
 else if op=10∨op=25∨(31≤op∧op≤34)then 1
 else if op=26 then 3
 else if 11≤op∧op≤30 then 2 else -1
theorem GA{op:Int}(h:1≤op∧op≤39):op=1∨op=2∨op=3∨op=4∨op=5∨op=6∨op=7∨op=8∨op=9∨op=10∨op=11∨op=12∨op=13∨op=14∨op=15∨op=16∨op=17∨op=18∨op=19∨op=20∨op=21∨op=22∨op=23∨op=24∨op=25∨op=26∨op=27∨op=28∨op=29∨op=30∨op=31∨op=32∨op=33∨op=34∨op=35∨op=36∨op=37∨op=38∨op=39:=by omega
theorem Fw{op:Int}(h:¬(1≤op∧op≤39)):Dd op = -1:=by
 unfold Dd;rw[if_neg (by omega),if_neg (by omega),if_neg (by omega),if_neg (by omega)]
theorem Ak(op:Int):Bh op=some (Dd op):=by
 by_cases h:1≤op∧op≤39
 ·rcases GA h with h|h|h|h|h|h|h|h|h|h|h|h|h|h|h|h|h|h|h|h|h|h|h|h|h|h|h|h|h|h|h|h|h|h|h|h|h|h|h<;>subst h<;>simp[Bh,Dd]
 ·rw[Fw h];unfold Bh;have hn:∀k:Int,1≤k→k≤39→¬op=k:=fun k h1 h2 he=>h (by omega);simp[hn]
def Ch(op:Int):Bool:=decide ((1≤op∧op≤8)∨(14≤op∧op≤16)∨(33≤op∧op≤34)∨(36≤op∧op≤39))
theorem Cb{op:Int}(h:1≤op∧op≤39):Oj op=some (Ch op):=by
 rcases GA h with h|h|h|h|h|h|h|h|h|h|h|h|h|h|h|h|h|h|h|h|h|h|h|h|h|h|h|h|h|h|h|h|h|h|h|h|h|h|h<;>subst h<;>simp[Oj,Ch]
def XA(k:Int):Bool:=k==2 || k==3 || k==4
theorem xl(k:Int):He k=some (XA k):=by
 unfold He XA;by_cases h1:k=2<;>by_cases h2:k=3<;>simp[h1,h2]
noncomputable def Hc(n:GNode) (ops:List GType) (s:GSignature):Option (GType×Int):=
 jaa (α:=Bool) (if¬n.N=0 then(Oj n.Op).bind fun x=>some (!x)else some false) fun j=>if j=true then some ((GType.mk 0 0),2)else za n ops s
def Kc(n:GNode):Prop:=-9223372036854775808≤n.N∧n.N≤9223372036854775807
theorem YN{n:Int}{k:Int}(hk:1≤k) (h:-9223372036854775808≤n∧n≤9223372036854775807):ca .i64 (iab n k)=iab n k:=by
 have h1:(iab n k).natAbs≤n.natAbs:=by
  rw[Wae];exact Nat.div_le_self _ _
 by_cases hn:n = -9223372036854775808
 ·by_cases hk1:k=1
  ·subst hk1;subst hn;rfl
  ·have:(iab n k).natAbs<n.natAbs:=by
    rw[Wae];exact Nat.div_lt_self (by omega) (by omega)
   exact wid (by omega) (by omega)
 ·exact wid (by omega) (by omega)
end Go.Proofs.Dev
set_option maxHeartbeats 1000000
namespace Go.Proofs.Dev
open Go Go.Tm
theorem UC{t:GType}{e:List GEnum}(h:qa t e=true) (hk:t.Kind≠6):t.Enum=0:=by
 unfold qa at h;rw[if_neg hk]at h;simp at h;exact h.2
theorem EJ{k:Int}{e:List GEnum}(h1:1≤k) (h2:k≤5):qa ⟨k,0⟩ e=true:=by
 unfold qa;rw[if_neg (by show¬k=6;omega)];simp[h1,h2]
theorem XE{e:List GEnum}:qa ⟨1,0⟩ e=true:=EJ (by omega) (by omega)
theorem wG{e:List GEnum}:qa ⟨2,0⟩ e=true:=EJ (by omega) (by omega)
theorem hJ{e:List GEnum}:qa ⟨3,0⟩ e=true:=EJ (by omega) (by omega)
theorem JX{e:List GEnum}:qa ⟨4,0⟩ e=true:=EJ (by omega) (by omega)
theorem eZ{e:List GEnum}:qa ⟨5,0⟩ e=true:=EJ (by omega) (by omega)
theorem Sx{N:Int}:(if¬N=0 then(some true).bind fun x=>some (!x)else some false)=some false:=by split<;>rfl
theorem BF{N:Int}:(if¬N=0 then(some false).bind fun x=>some (!x)else some false)=some (!(N==0)):=by
 by_cases h:N=0<;>simp[h]
theorem Co{α:Type}{x:α}{Q:α→Prop}:(∃r,some x=some r∧Q r)=Q x:=by simp
theorem By{α:Type}{l:List α}{N:Int}(d:α) (h0:0≤N) (h1:N<(l.length:Int)):idx l N=some ((l[N.toNat]?).getD d):=by
 rw[Tk h0 h1,iaa];rfl
end Go.Proofs.Dev
namespace Go.Proofs.Dev
open Go Go.Tm
theorem dj{α:Type}{x:α}{l:List α}:idx (x::l) 0=some x:=rfl
theorem vF{α:Type}{x y:α}{l:List α}:idx (x::y::l) 1=some y:=rfl
theorem TP{α:Type}{x y z:α}{l:List α}:idx (x::y::z::l) 2=some z:=rfl
theorem P8{op N:Int}{s:GSignature}{a b:GType}{u:Bool}(hm:Oj op=some u) (h1:za ⟨op,N⟩ [a,b] s=(Ya op [a,b]).bind fun x=>if x.2=false then some (⟨0,0⟩,8)else some (x.1,0)) {t:GType}{ok:Bool}
 (hd:Ya op [a,b]=some (t,ok)) (hu:u=true∨N=0):Hc ⟨op,N⟩ [a,b] s=some (if ok=true then(t,0)else(⟨0,0⟩,8)):=by
 unfold Hc;rw[h1,hd];simp only[hm];rcases hu with rfl|rfl<;>cases ok<;>simp
end Go.Proofs.Dev
namespace Go.Proofs.Dev
open Go Go.Tm
def gw(n:GNode) (ops:List GType) (s:GSignature):Prop:=∃r,Hc n ops s=some r∧(r.2=0→qa r.1 s.Enums=true)
theorem dO{n:GNode}{s:GSignature}{k:Int}(hk:1≤k∧k≤5) (hn:n.Op=k):gw n [] s:=by
 have hu:=Cb (op:=n.Op) (by omega);have hus:Ch n.Op=true:=by unfold Ch;simp;omega
 have hv:qa ⟨n.Op,0⟩ s.Enums=true:=EJ (by omega) (by omega);have hI:Hc n [] s=some (if(qt ⟨n.Op,0⟩ s.Enums).1≤n.N∧n.N≤(qt ⟨n.Op,0⟩ s.Enums).2 then(⟨n.Op,0⟩,0)else(⟨0,0⟩,3)):=by
  have hlit:Qb n.N n.Op s=some (if(qt ⟨n.Op,0⟩ s.Enums).1≤n.N∧n.N≤(qt ⟨n.Op,0⟩ s.Enums).2 then(⟨n.Op,0⟩,0)else(⟨0,0⟩,3)):=by
   unfold Qb;simp only[Fj,haa];by_cases g1:n.N<(qt ⟨n.Op,0⟩ s.Enums).1<;>by_cases g2:(qt ⟨n.Op,0⟩ s.Enums).2<n.N<;>simp[g1,g2]<;>omega
  have hT:za n [] s=Qb n.N n.Op s:=by
   unfold za;rw[hlit];rcases(by omega:n.Op=1∨n.Op=2∨n.Op=3∨n.Op=4∨n.Op=5)with h|h|h|h|h<;>rw[h]at hlit⊢<;>simp[hlit]
  unfold Hc;rw[hT,hlit,hu,hus];by_cases hN:n.N=0<;>simp[hN]
 refine⟨_,hI,?_⟩;split
 ·exact fun _=>hv
 ·intro h;cases h
theorem BW{N:Int}{s:GSignature}(hN:Kc ⟨6,N⟩):gw ⟨6,N⟩ [] s:=by
 have w:=YN (n:=N) (k:=16) (by omega) hN;have hu:=Cb (op:=6) (by omega);have hus:Ch 6=true:=rfl;unfold gw Hc za kn;simp only[w,hu,hus,Sx];by_cases h0:0≤N
 ·have hd:0≤iab N 16:=Xae h0 (by omega);by_cases h1:iab N 16<(s.Enums.length:Int)
  ·rw[By ⟨Yae,[]⟩ hd h1];have hv:qa ⟨6,iab N 16⟩ s.Enums=true:=by unfold qa;simp[hd,h1]
   generalize (s.Enums[(iab N 16).toNat]?).getD ⟨Yae,[]⟩=m;have e1:¬N<0:=by omega
   have e2:¬(s.Enums.length:Int)≤iab N 16:=by omega
   by_cases h2:Lab N 16<(m.Members.length:Int)
   ·have e3:¬(m.Members.length:Int)≤Lab N 16:=by omega
    simp[h0,h1,h2,hv,e1,e2,e3,Co,-Prod.exists]
   ·have e3:(m.Members.length:Int)≤Lab N 16:=by omega
    simp[h0,h1,h2,hv,e1,e2,e3,Co,-Prod.exists]
  ·have e1:¬N<0:=by omega
   have e2:(s.Enums.length:Int)≤iab N 16:=by omega
   simp[h0,h1,e1,e2,Co,-Prod.exists]
 ·have e1:N<0:=by omega
  simp[h0,e1,Co,-Prod.exists]
theorem IW{N:Int}{s:GSignature}:gw ⟨7,N⟩ [] s:=by
 have hu:=Cb (op:=7) (by omega);have hus:Ch 7=true:=rfl;unfold gw Hc za Wc;simp only[hu,hus,xb,Sx];by_cases h0:0≤N
 ·have e1:¬N<0:=by omega
  by_cases h1:N<(s.Inputs.length:Int)
  ·rw[By ⟨0,0⟩ h0 h1];generalize (s.Inputs[N.toNat]?).getD ⟨0,0⟩=t;obtain⟨tk,te⟩:=t;have e2:¬(s.Inputs.length:Int)≤N:=by omega
   cases hv:qa ⟨tk,te⟩ s.Enums<;>simp[h0,h1,hv,e1,e2,Co,-Prod.exists]
  ·have e2:(s.Inputs.length:Int)≤N:=by omega
   simp[h0,h1,e1,e2,Co,-Prod.exists]
 ·have e1:N<0:=by omega
  simp[h0,e1,Co,-Prod.exists]
theorem lZ{N:Int}{s:GSignature}:gw ⟨8,N⟩ [] s:=by
 have hu:=Cb (op:=8) (by omega);have hus:Ch 8=true:=rfl;unfold gw Hc za Wc;simp only[hu,hus,xb,Sx];by_cases h0:0≤N
 ·have e1:¬N<0:=by omega
  by_cases h1:N<(s.Defs.length:Int)
  ·rw[By ⟨0,0⟩ h0 h1];generalize (s.Defs[N.toNat]?).getD ⟨0,0⟩=t;obtain⟨tk,te⟩:=t;have e2:¬(s.Defs.length:Int)≤N:=by omega
   cases hv:qa ⟨tk,te⟩ s.Enums<;>simp[h0,h1,hv,e1,e2,Co,-Prod.exists]
  ·have e2:(s.Defs.length:Int)≤N:=by omega
   simp[h0,h1,e1,e2,Co,-Prod.exists]
 ·have e1:N<0:=by omega
  simp[h0,e1,Co,-Prod.exists]
theorem zW{N:Int}{s:GSignature}:gw ⟨9,N⟩ [] s:=by
 have hu:=Cb (op:=9) (by omega);have hus:Ch 9=false:=rfl;unfold gw Hc za;simp only[hu,hus,BF];cases N==0<;>simp[eZ,Co,-Prod.exists]
theorem sU{N:Int}{s:GSignature}:gw ⟨35,N⟩ [] s:=by
 have hu:=Cb (op:=35) (by omega);have hus:Ch 35=false:=rfl;unfold gw Hc za Mg;simp only[hu,hus,BF];cases hm:s.HasMembers<;>cases N==0<;>simp[wG,Co,-Prod.exists]
theorem tO{op N:Int}{s:GSignature}(h:36≤op∧op≤39):gw ⟨op,N⟩ [] s:=by
 have hu:=Cb (op:=op) (by omega);have hus:Ch op=true:=by unfold Ch;simp;omega
 unfold gw Hc za Mg Wc;simp only[hu,hus,xb,xl,Sx];cases hM:s.HasMembers
 ·rcases(by omega:op=36∨op=37∨op=38∨op=39)with h|h|h|h<;>subst h<;>simp[hM,Co,-Prod.exists]
 ·by_cases h0:0≤N
  ·have e1:¬N<0:=by omega
   by_cases h1:N<(s.MemberDefs.length:Int)
   ·rw[By ⟨0,0⟩ h0 h1];generalize (s.MemberDefs[N.toNat]?).getD ⟨0,0⟩=t;obtain⟨tk,te⟩:=t;have e2:¬(s.MemberDefs.length:Int)≤N:=by omega
    cases hv:qa ⟨tk,te⟩ s.Enums
    ·rcases(by omega:op=36∨op=37∨op=38∨op=39)with h|h|h|h<;>subst h<;>simp[hM,h0,h1,hv,e1,e2,Co,-Prod.exists]
    ·rcases(by omega:op=36∨op=37∨op=38∨op=39)with h|h|h|h<;>subst h<;>simp only[hM,h0,h1,hv,e1,e2,haa,if_true,if_false,not_true_eq_false,not_false_eq_true,decide_false,decide_true,naa,yab,oaa,beq_self_eq_true,qaa]
     ·by_cases k2:tk=2<;>by_cases k3:tk=3<;>simp[k2,k3,hv,Co,-Prod.exists]<;>simp_all
     ·by_cases k1:tk=1<;>simp[k1,hv,Co,-Prod.exists]<;>simp_all
     ·by_cases k1:tk=1<;>simp[k1,hv,Co,-Prod.exists]<;>simp_all
     ·cases XA tk<;>by_cases k5:tk=5<;>simp[k5,hv,Co,-Prod.exists]<;>simp_all
   ·have e2:(s.MemberDefs.length:Int)≤N:=by omega
    rcases(by omega:op=36∨op=37∨op=38∨op=39)with h|h|h|h<;>subst h<;>simp[hM,h0,h1,e1,e2,Co,-Prod.exists]
  ·have e1:N<0:=by omega
   rcases(by omega:op=36∨op=37∨op=38∨op=39)with h|h|h|h<;>subst h<;>simp[hM,h0,e1,Co,-Prod.exists]
end Go.Proofs.Dev
namespace Go.Proofs.Dev
open Go Go.Tm
theorem ON{op N:Int}{s:GSignature}{a:GType}(hop:op=10∨op=25∨op=31∨op=32) (ha:qa a s.Enums=true):gw ⟨op,N⟩ [a] s:=by
 have hu:=Cb (op:=op) (by omega);have hus:Ch op=false:=by unfold Ch;simp;omega
 unfold gw Hc za Ya;simp only[hu,hus,BF,xl];obtain⟨ak,ae⟩:=a;rcases hop with h|h|h|h<;>subst h<;>cases N==0
 ·simp[Co,-Prod.exists]
 ·cases hn:XA ak<;>simp[dj,hn,ha,Co,-Prod.exists]
 ·simp[Co,-Prod.exists]
 ·by_cases k1:ak=1
  ·subst k1;have:=UC ha (by simp);simp only at this;subst this;simp[dj,ha,Co,-Prod.exists]
  ·simp[dj,k1,Co,-Prod.exists]
 ·simp[Co,-Prod.exists]
 ·by_cases k1:ak=5<;>simp[dj,k1,wG,Co,-Prod.exists]
 ·simp[Co,-Prod.exists]
 ·by_cases k1:ak=5<;>simp[dj,k1,wG,Co,-Prod.exists]
theorem OR{N:Int}{s:GSignature}{a:GType}(ha:qa a s.Enums=true):gw ⟨33,N⟩ [a] s:=by
 have hu:=Cb (op:=33) (by omega);have hus:Ch 33=true:=rfl;unfold gw Hc za Zj;simp only[hu,hus,xb,Sx];by_cases h0:0≤N
 ·have e1:¬N<0:=by omega
  by_cases h1:N<(s.Tables.length:Int)
  ·obtain⟨t,ht⟩:∃t,idx s.Tables N=some t:=⟨_,Tk h0 h1⟩;have e2:¬(s.Tables.length:Int)≤N:=by omega
   cases hk:qa t.Key s.Enums
   ·simp[dj,ht,h0,h1,e1,e2,hk,Co,-Prod.exists]
   ·cases hv:qa t.Value s.Enums
    ·simp[dj,ht,h0,h1,e1,e2,hk,hv,Co,-Prod.exists]
    ·by_cases k1:a.Kind=t.Key.Kind<;>by_cases k2:a.Enum=t.Key.Enum<;>simp[dj,ht,h0,h1,e1,e2,hk,hv,k1,k2,Co,-Prod.exists]
  ·have e2:(s.Tables.length:Int)≤N:=by omega
   simp[dj,h0,h1,e1,e2,Co,-Prod.exists]
 ·have e1:N<0:=by omega
  have e3:¬N<(s.Tables.length:Int)∨N<(s.Tables.length:Int):=by omega
  simp[dj,h0,e1,Co,-Prod.exists]
theorem iT{N:Int}{s:GSignature}{a:GType}(hN:Kc ⟨34,N⟩) (ha:qa a s.Enums=true):gw ⟨34,N⟩ [a] s:=by
 have hu:=Cb (op:=34) (by omega);have hus:Ch 34=true:=rfl;have w:=YN (n:=N) (k:=8) (by omega) hN;unfold gw Hc za Zj qi;simp only[hu,hus,xb,Sx,w];by_cases h0:0≤N
 ·have e1:¬N<0:=by omega
  have hd:0≤iab N 8:=Xae h0 (by omega);have hmod:0≤Lab N 8:=Int.tmod_nonneg _ h0;have e3:¬iab N 8<0:=by omega
  by_cases h5:Lab N 8≤5
  ·by_cases h1:iab N 8<(s.Tables.length:Int)
   ·obtain⟨t,ht⟩:∃t,idx s.Tables (iab N 8)=some t:=⟨_,Tk hd h1⟩;have e2:¬(s.Tables.length:Int)≤iab N 8:=by omega
    obtain⟨_,⟨kk,ke⟩,⟨vk,ve⟩,_⟩:=t;obtain⟨ak,ae⟩:=a;simp only[dj,ht,h0,h1,e1,e2,e3,hmod,h5,haa,if_true,if_false,not_true_eq_false,not_false_eq_true,decide_false,decide_true,naa,yab,oaa,beq_self_eq_true,qaa,Bac,cad];by_cases hk3:kk=3
    ·subst hk3;by_cases hke:ke=0
     ·subst hke;rw[show qa ⟨3,0⟩ s.Enums=true from hJ];by_cases hv4:vk=4
      ·subst hv4;by_cases hve:ve=0
       ·subst hve;rw[show qa ⟨4,0⟩ s.Enums=true from JX];by_cases ha3:ak=3
        ·subst ha3;have:=UC ha (by simp);simp only at this;subst this;simp[hJ,Co,-Prod.exists]
        ·simp[ha3,Co,-Prod.exists]
       ·have:qa ⟨4,ve⟩ s.Enums=false:=by unfold qa;simp[hve]
        rw[this];by_cases ha3:ak=3<;>simp[ha3,hve,Co,-Prod.exists]
      ·cases qa ⟨vk,ve⟩ s.Enums<;>by_cases ha3:ak=3<;>by_cases hae:ae=0<;>simp[ha3,hae,hv4,Co,-Prod.exists]
     ·have:qa ⟨3,ke⟩ s.Enums=false:=by unfold qa;simp[hke]
      rw[this];by_cases ha3:ak=3<;>simp[ha3,hke,Co,-Prod.exists]
    ·cases qa ⟨kk,ke⟩ s.Enums<;>cases qa ⟨vk,ve⟩ s.Enums<;>by_cases ha3:ak=3<;>by_cases hak:ak=kk<;>by_cases hae:ae=ke<;>simp_all[Co,-Prod.exists]
   ·have e2:(s.Tables.length:Int)≤iab N 8:=by omega
    simp[dj,h0,h1,e1,e2,e3,hmod,h5,Co,-Prod.exists]
  ·simp[dj,h0,e1,hmod,h5,Co,-Prod.exists]
 ·have e1:N<0:=by omega
  simp[dj,h0,e1,Co,-Prod.exists]
theorem LR{N:Int}{s:GSignature}{a b c:GType}(hb:qa b s.Enums=true):gw ⟨26,N⟩ [a,b,c] s:=by
 have hu:=Cb (op:=26) (by omega);have hus:Ch 26=false:=rfl;unfold gw Hc za Ya;simp only[hu,hus,BF];obtain⟨bk,be⟩:=b;cases N==0
 ·simp[Co,-Prod.exists]
 ·by_cases k1:a.Kind=1<;>by_cases k2:bk=c.Kind<;>by_cases k3:be=c.Enum<;>simp[dj,vF,TP,k1,k2,k3,Co,-Prod.exists]
  all_goals simp_all
theorem OT{op N:Int}{s:GSignature}{a b:GType}(hop:(11≤op∧op≤24)∨(27≤op∧op≤30)) {ok:Bool}{t':GType}(hI:Ya op [a,b]=some (t',ok)) (ht:ok=true→qa t' s.Enums=true) :
 gw ⟨op,N⟩ [a,b] s:=by
 have hu:=Cb (op:=op) (by omega);have hr:(14≤op∧op≤16)∧za ⟨op,N⟩ [a,b] s=(if(decide (0≤N)&&decide (N≤5))=true then(Ya op [a,b]).bind fun x=>if x.2=false then some (⟨0,0⟩,8)else some (x.1,0)else some (⟨0,0⟩,3))∨
  ¬(14≤op∧op≤16)∧za ⟨op,N⟩ [a,b] s=((Ya op [a,b]).bind fun x=>if x.2=false then some (⟨0,0⟩,8)else some (x.1,0)):=by
  clear hI ht hu;by_cases h:14≤op∧op≤16
  ·refine .inl ⟨h,?_⟩
   ·unfold za qi;simp only[VG];rcases(by omega:op=14∨op=15∨op=16)with h|h|h<;>subst h<;>by_cases g1:0≤N<;>by_cases g2:N≤5<;>simp[g1,g2]
  ·refine .inr ⟨h,?_⟩
   ·unfold za;rcases(by omega:op=11∨op=12∨op=13∨op=17∨op=18∨op=19∨op=20∨op=21∨op=22∨op=23∨op=24∨op=27∨op=28∨op=29∨op=30)with h|h|h|h|h|h|h|h|h|h|h|h|h|h|h<;>subst h<;>simp
 have fin:∀(hz:Ch op=true∨N=0),za ⟨op,N⟩ [a,b] s=((Ya op [a,b]).bind fun x=>if x.2=false then some (⟨0,0⟩,8)else some (x.1,0))→gw ⟨op,N⟩ [a,b] s:=by
  intro hz h2;unfold gw;rw[P8 hu h2 hI hz];cases ok
  ·by_cases hz:N=0<;>simp[hz,Co,-Prod.exists]
  ·exact⟨_,rfl,fun _=>ht rfl⟩
 rcases hr with⟨h,h2⟩|⟨h,h2⟩
 ·have hus:Ch op=true:=by unfold Ch;simp;omega
  by_cases hN:(decide (0≤N)&&decide (N≤5))=true
  ·rw[if_pos hN]at h2;exact fin (.inl hus) h2
  ·rw[Bool.not_eq_true]at hN;rw[hN,if_neg (by simp)]at h2;unfold gw Hc;simp only[hu,hus,Sx,h2,haa,naa,if_false,if_true];simp[hN,Co,-Prod.exists]
 ·have hus:Ch op=false:=by unfold Ch;simp;omega
  by_cases hN:N=0
  ·exact fin (.inr hN) h2
  ·unfold gw Hc;simp only[hu,hus,BF,show(N==0)=false by simpa using hN,haa,cad,if_true];simp[hN,Co,-Prod.exists]
theorem JO{op N:Int}{s:GSignature}{a b:GType}(hop:(11≤op∧op≤24)∨(27≤op∧op≤30)) (ha:qa a s.Enums=true):gw ⟨op,N⟩ [a,b] s:=by
 have hz:∀k,1≤k→k≤5→a.Kind=k→a.Enum=0:=fun k h1 h2 h=>UC ha (by omega);obtain⟨ak,ae⟩:=a;obtain⟨bk,be⟩:=b;simp only at hz;have hr:∃t' ok,Ya op [⟨ak,ae⟩,⟨bk,be⟩]=some (t',ok)∧(ok=true→qa t' s.Enums=true):=by
  unfold Ya Zh;simp only[dj,vF,xl];rcases(by omega:op=11∨op=12∨op=13∨op=14∨op=15∨op=16∨op=17∨op=18∨op=19∨op=20∨op=21∨op=22∨op=23∨op=24∨op=27∨op=28∨op=29∨op=30)with h|h|h|h|h|h|h|h|h|h|h|h|h|h|h|h|h|h<;>subst h
  ·by_cases k1:ak=bk∧ae=be
   ·cases hn:XA ak<;>simp[k1,hn,ha]
    all_goals simp_all
   ·simp[k1]
  ·by_cases k1:ak=bk∧ae=be
   ·cases hn:XA ak<;>simp[k1,hn,ha]
    all_goals simp_all
   ·simp[k1]
  ·by_cases k1:bk=2<;>by_cases k2:ak=2<;>by_cases k3:ak=3<;>simp[k1,k2,k3,wG,hJ]
  ·by_cases k1:bk=4<;>by_cases k2:ak=3<;>by_cases k3:ak=4<;>simp[k1,k2,k3,JX,hJ]
  ·by_cases k1:bk=2<;>by_cases k2:ak=2<;>by_cases k3:ak=3<;>by_cases k4:bk=3<;>simp[k1,k2,k3,k4,wG,hJ,JX]
   all_goals simp_all
  ·by_cases k1:ak=3<;>by_cases k2:bk=3<;>simp[k1,k2]
   ·have:=hz 3 (by omega) (by omega) k1;simp[this,hJ]
  ·by_cases k1:ak=bk∧ae=be
   ·cases hn:XA ak<;>by_cases k5:ak=5<;>simp[k1,hn,k5,ha]
    all_goals simp_all
   ·simp[k1]
  ·by_cases k1:ak=bk∧ae=be
   ·cases hn:XA ak<;>by_cases k5:ak=5<;>simp[k1,hn,k5,ha]
    all_goals simp_all
   ·simp[k1]
  ·by_cases k1:ak=bk<;>by_cases k2:ae=be<;>simp[k1,k2,XE]
  ·by_cases k1:ak=bk<;>by_cases k2:ae=be<;>simp[k1,k2,XE]
  ·by_cases k1:ak=bk∧ae=be
   ·cases hn:XA ak<;>by_cases k5:ak=5<;>simp[k1,hn,k5,XE]
    all_goals simp_all[XE]
   ·simp[k1]
  ·by_cases k1:ak=bk∧ae=be
   ·cases hn:XA ak<;>by_cases k5:ak=5<;>simp[k1,hn,k5,XE]
    all_goals simp_all[XE]
   ·simp[k1]
  ·by_cases k1:ak=1<;>by_cases k2:bk=1<;>simp[k1,k2]
   ·have:=hz 1 (by omega) (by omega) k1;simp[this,XE]
  ·by_cases k1:ak=1<;>by_cases k2:bk=1<;>simp[k1,k2]
   ·have:=hz 1 (by omega) (by omega) k1;simp[this,XE]
  ·by_cases k1:ak=5<;>by_cases k2:bk=2<;>simp[k1,k2]
   ·have:=hz 5 (by omega) (by omega) k1;simp[this,eZ]
  ·by_cases k1:ak=5<;>by_cases k2:bk=2<;>simp[k1,k2]
   ·have:=hz 5 (by omega) (by omega) k1;simp[this,eZ]
  ·by_cases k1:ak=5<;>by_cases k2:bk=5<;>simp[k1,k2,wG]
  ·by_cases k1:ak=5<;>by_cases k2:bk=5<;>simp[k1,k2,wG]
 obtain⟨t',ok,h1,h3⟩:=hr;exact OT hop h1 h3
theorem gI{n:GNode}{ops:List GType}{s:GSignature}(hop:1≤n.Op∧n.Op≤39) (hN:Kc n) (hlen:(ops.length:Int)=Dd n.Op) (hv:∀t∈ops,qa t s.Enums=true):gw n ops s:=by
 obtain⟨op,N⟩:=n;simp only at hop hlen;unfold Dd at hlen;by_cases h0:(1≤op∧op≤9)∨(35≤op∧op≤39)
 ·rw[if_pos h0]at hlen;obtain rfl:ops=[]:=List.eq_nil_of_length_eq_zero (by omega);rcases(by omega:(1≤op∧op≤5)∨op=6∨op=7∨op=8∨op=9∨op=35∨(36≤op∧op≤39))with h|h|h|h|h|h|h
  ·exact dO h rfl
  ·subst h;exact BW hN
  ·subst h;exact IW
  ·subst h;exact lZ
  ·subst h;exact zW
  ·subst h;exact sU
  ·exact tO h
 rw[if_neg h0]at hlen;by_cases h1:op=10∨op=25∨(31≤op∧op≤34)
 ·rw[if_pos h1]at hlen;obtain⟨a,rfl⟩:∃a,ops=[a]:=by
   match ops,hlen with
   |[a],_=>exact⟨a,rfl⟩
  have ha:=hv a (by simp);rcases(by omega:(op=10∨op=25∨op=31∨op=32)∨op=33∨op=34)with h|h|h
  ·exact ON h ha
  ·subst h;exact OR ha
  ·subst h;exact iT hN ha
 rw[if_neg h1]at hlen;by_cases h2:op=26
 ·rw[if_pos h2]at hlen;obtain⟨a,b,c,rfl⟩:∃a b c,ops=[a,b,c]:=by
   match ops,hlen with
   |[a,b,c],_=>exact⟨a,b,c,rfl⟩
  subst h2;exact LR (hv b (by simp))
 rw[if_neg h2,if_pos (by omega)]at hlen;obtain⟨a,b,rfl⟩:∃a b,ops=[a,b]:=by
  match ops,hlen with
  |[a,b],_=>exact⟨a,b,rfl⟩
 exact JO (by omega) (hv a (by simp))
end Go.Proofs.Dev
namespace Go.Proofs.Dev
open Go Go.Tm
def Gf(e:List GNode) (i:Nat):GNode:=(e[i]?).getD ⟨0,0⟩
theorem xp{e:List GNode}{i:Nat}(h:i<e.length):e[i]=Gf e i:=by
 unfold Gf;rw[iaa h];rfl
def Dh(e:List GNode):Nat→List Int×List Int
 |0=>([],[])
 |i+1=>
  let p:=Dh e i
  let a:=(Dd (Gf e i).Op).toNat
  let f:=if 0<a then(p.2[p.2.length-a]?).getD 0 else(i:Int)
  (p.1++[f],p.2.take (p.2.length-a)++[f])
theorem Kv(e:List GNode):∀i,(Dh e i).1.length=i
 |0=>rfl
 |i+1=>by simp[Dh,Kv e i]
def nu(e:List GNode) (i:Nat):Option (List Int×Int×Int):=
 if Dd (Gf e i).Op<0 then some ([],(i:Int),2)
 else if((Dh e i).2.length:Int)<Dd (Gf e i).Op then some ([],(i:Int),5)
 else if 12<(Dh e (i+1)).2.length then some ([],(i:Int),16)else none
def tm(e:List GNode):List Int×Int×Int:=
 if 48<e.length then([],0,4)else if e.length=0 then([],0,5)
 else match ff (nu e) e.length with
  |some v=>v
  |none=>if 1<(Dh e e.length).2.length then([],(e.length:Int),4)else((Dh e e.length).1,0,0)
theorem Kt{e:List GNode}{i:Nat}(h:∀j,j<i→nu e j=none):(Dh e i).2.length≤12:=by
 cases i with
 |zero=>simp[Dh]
 |succ i=>
  have:=h i (by omega);unfold nu at this;split at this
  ·cases this
  ·split at this
   ·cases this
   ·split at this
    ·cases this
    ·omega
theorem gT{p:List Int}{i n:Nat}{f:Int}(hp:p.length=i) (h:i<n):(p++maa (n-i) 0).set i f=p++[f]++maa (n-(i+1)) 0:=by
 obtain⟨k,hk⟩:∃k,n-i=k+1:=⟨n-i-1,by omega⟩;have hk':n-(i+1)=k:=by omega
 rw[hk,hk',List.replicate_succ,Sac _ _ (by omega),hp,cac,List.set_cons_zero];simp
theorem PH{p r:List Int}{i:Nat}{f:Int}(hp:p.length=i):(p++[f]++r)[i]?=some f:=by
 rw[jab,List.getElem?_append_right (by omega),hp,cac];rfl
theorem Km(e:List GNode):oi e=some (tm e):=by
 unfold oi tm;by_cases h48:48<e.length
 ·rw[if_pos (by omega),if_pos h48]
 rw[if_neg (by omega),if_neg h48];by_cases h0:e.length=0
 ·rw[if_pos (by omega),if_pos h0]
 rw[if_neg (by omega),if_neg h0,Vx (by omega) (by omega),haa];have hl:ia (uh e) (maa e.length 0,([]:List Int),0)=some (ui ((Dh e e.length).1,(Dh e e.length).2) (ff (nu e) e.length)):=by
  refine Uh (fun i=>((Dh e i).1++maa (e.length-i) 0,(Dh e i).2,(i:Int))) (nu e) e.length _ (fun i hi hf=>?_) (fun _=>?_) ?_
  ·have hs:=Kt hf;have hl:=Kv e i;unfold uh nu;simp only;rw[if_pos (by omega),Na hi,haa,xp hi,Ak,haa];by_cases ha:Dd (Gf e i).Op<0
   ·rw[if_pos ha,if_pos ha];rfl
   rw[if_neg ha,if_neg ha];by_cases hb:((Dh e i).2.length:Int)<Dd (Gf e i).Op
   ·rw[if_pos hb,if_pos hb];rfl
   rw[if_neg hb,if_neg hb];obtain⟨a,ha'⟩:∃a:Nat,Dd (Gf e i).Op=a:=⟨(Dd (Gf e i).Op).toNat,by omega⟩;have hst:Dh e (i+1)=((Dh e i).1++[if 0<a then((Dh e i).2[(Dh e i).2.length-a]?).getD 0 else(i:Int)],(Dh e i).2.take ((Dh e i).2.length-a)++[if 0<a then((Dh e i).2[(Dh e i).2.length-a]?).getD 0 else(i:Int)]):=by
    simp only[Dh,ha',Rab]
   have hsub:ca .i64 (((Dh e i).2.length:Int)-(a:Int))=(((Dh e i).2.length-a:Nat):Int):=by
    rw[wid (by omega) (by omega)];omega
   rw[ha',hst,hsub];generalize hS:(Dh e i).2=sk at *;generalize (Dh e i).1=st at *;rw[ha']at hb;rw[Na (i:=i) (by simp;omega),haa,Dv (by simp;omega),haa,gT hl hi,Nr (by omega)];by_cases h0a:0<a
   ·have hk:sk.length-a<sk.length:=by omega
    rw[if_pos (by omega),if_pos h0a,Na hk,haa,Na (i:=i) (by simp;omega),haa,Dv (by simp;omega),haa];have hset:(st++[(i:Int)]++maa (e.length-(i+1)) 0).set i sk[sk.length-a]=st++[sk[sk.length-a]]++maa (e.length-(i+1)) 0:=by
     rw[jab,Sac _ _ (by omega),hl,cac];simp
    rw[hset,haa,haa,iaa hk,Qab,EP,PH hl,haa];rw[Sj (by simp;omega),haa];by_cases hd:12<(sk.take (sk.length-a)++[sk[sk.length-a]]).length
    ·rw[if_pos (by omega),if_pos hd];rfl
    ·rw[if_neg (by omega),if_neg hd,La (by omega)];rfl
   ·rw[if_neg (by omega),if_neg h0a,haa,haa,EP,PH hl,haa];rw[Sj (by simp;omega),haa];by_cases hd:12<(sk.take (sk.length-a)++[(i:Int)]).length
    ·rw[if_pos (by omega),if_pos hd];rfl
    ·rw[if_neg (by omega),if_neg hd,La (by omega)];rfl
  ·unfold uh;simp
  ·simp[Dh]
 rw[hl]
 cases ff (nu e) e.length with
 |some v=>rfl
 |none=>
  simp only[ui,haa];by_cases h1:1<(Dh e e.length).2.length
  ·rw[if_pos (by omega),if_pos h1]
  ·rw[if_neg (by omega),if_neg h1]
end Go.Proofs.Dev
namespace Go.Proofs.Dev
open Go Go.Tm
def ti(e:List GNode) (i:Nat):Nat:=(Dd (Gf e i).Op).toNat
noncomputable def LA(e:List GNode) (s:GSignature) (st:List GType) (i:Nat):GType×Int:=(Hc (Gf e i) (st.drop (st.length-ti e i)) s).getD (⟨0,0⟩,0)
noncomputable def ju(e:List GNode) (s:GSignature):Nat→List GType
 |0=>[]
 |i+1=>(ju e s i).take ((ju e s i).length-ti e i)++[(LA e s (ju e s i) i).1]
noncomputable def fy(e:List GNode) (s:GSignature) (i:Nat):Option (GType×Int×Int):=
 if(LA e s (ju e s i) i).2=0 then none else some (⟨0,0⟩,(i:Int),(LA e s (ju e s i) i).2)
noncomputable def Gr(e:List GNode) (s:GSignature):GType×Int×Int:=
 if(tm e).2.2=0 then(match ff (fy e s) e.length with|some v=>v|none=>((ju e s e.length)[0]?.getD ⟨0,0⟩,0,0))else(⟨0,0⟩,(tm e).2.1,(tm e).2.2)
structure Wst (e:List GNode):Prop where
 pos:0<e.length
 le:e.length≤48
 err:∀i,i<e.length→nu e i=none
 one:(Dh e e.length).2.length≤1
theorem pD{e:List GNode}(h:(tm e).2.2=0):Wst e:=by
 unfold tm at h;split at h
 ·simp at h
 split at h
 ·simp at h
 rename_i h48 h0;split at h
 ·rename_i v hv;obtain⟨i,h1,h2,-⟩:=Mb.1 hv;unfold nu at h2;exfalso;split at h2
  ·injection h2 with h2;subst h2;simp at h
  ·split at h2
   ·injection h2 with h2;subst h2;simp at h
   ·split at h2
    ·injection h2 with h2;subst h2;simp at h
    ·cases h2
 ·rename_i hn;split at h
  ·simp at h
  ·exact⟨by omega,by omega,pb.1 hn,by omega⟩
theorem Wst.ar{e:List GNode}(h:Wst e) {i:Nat}(hi:i<e.length):0≤Dd (Gf e i).Op∧ti e i≤(Dh e i).2.length∧(1≤(Gf e i).Op∧(Gf e i).Op≤39):=by
 have:=h.err i hi;unfold nu at this;split at this
 ·cases this
 split at this
 ·cases this
 rename_i h1 h2;refine⟨by omega,by unfold ti;omega,?_⟩;by_cases hop:1≤(Gf e i).Op∧(Gf e i).Op≤39
 ·exact hop
 ·rw[Fw hop]at h1;omega
theorem tE{e:List GNode}{i:Nat}:(Dh e (i+1)).2.length=(Dh e i).2.length-ti e i+1:=by
 simp[Dh,ti]
theorem HV{e:List GNode}(hN:∀n∈e,Kc n) {i:Nat}(hi:i<e.length):Kc (Gf e i):=by
 rw[←xp hi];exact hN _ (raa hi)
theorem Ey{e:List GNode}{s:GSignature}(h:Wst e) (hN:∀n∈e,Kc n):∀i,i≤e.length→(∀j,j<i→fy e s j=none)→(ju e s i).length=(Dh e i).2.length∧∀t∈ju e s i,qa t s.Enums=true
 |0,_,_=>by simp[ju,Dh]
 |i+1,hi,ht=>by
  obtain⟨h1,h2⟩:=Ey h hN i (by omega) fun j hj=>ht j (by omega);obtain⟨a1,a2,a3⟩:=h.ar (i:=i) (by omega);refine⟨by rw[tE];simp[ju];omega,?_⟩;intro t hm;simp only[ju,Jaa,Paa]at hm;rcases hm with hm|rfl
  ·exact h2 t (List.mem_of_mem_take hm)
  ·obtain⟨r,hr,hv⟩:=gI (n:=Gf e i) (ops:=(ju e s i).drop ((ju e s i).length-ti e i)) (s:=s) a3 (HV hN (by omega)) (by simp[ti];unfold ti at a2;omega) (fun t ht=>h2 t (Iac ht));have hz:=ht i (by omega);unfold fy at hz;split at hz
   ·rename_i hz0;unfold LA at hz0⊢;rw[hr]at hz0⊢;exact hv hz0
   ·cases hz
theorem YE{e:List GNode}{s:GSignature}(h:Wst e) (hN:∀n∈e,Kc n) {i:Nat}(hi:i<e.length) (ht:∀j,j<i→fy e s j=none) :
 Hc (Gf e i) ((ju e s i).drop ((ju e s i).length-ti e i)) s=some (LA e s (ju e s i) i):=by
 obtain⟨h1,h2⟩:=Ey h hN i (by omega) ht;obtain⟨a1,a2,a3⟩:=h.ar hi;obtain⟨r,hr,hv⟩:=gI (n:=Gf e i) (ops:=(ju e s i).drop ((ju e s i).length-ti e i)) (s:=s) a3 (HV hN hi) (by simp[ti];unfold ti at a2;omega) (fun t ht=>h2 t (Iac ht));unfold LA;rw[hr];rfl
theorem dB{e:List GNode}(hN:∀n∈e,Kc n) (s:GSignature):qn e s=some (Gr e s):=by
 unfold qn Gr;rw[Km,haa];by_cases h0:(tm e).2.2=0
 ·rw[if_neg (by simpa using h0),if_pos h0];have hw:=pD h0;have hl:ia (fk e s) (([]:List GType),0)=some (ui (ju e s e.length) (ff (fy e s) e.length)):=by
   refine Uh (fun i=>(ju e s i,(i:Int))) (fy e s) e.length _ (fun i hi ht=>?_) (fun _=>?_)
   ·have n1:=YE hw hN hi ht;obtain⟨h1,h2⟩:=Ey hw hN i (by omega) ht;obtain⟨a1,a2,a3⟩:=hw.ar hi;have hle:=hw.le;have h12:=Kt (e:=e) (i:=i) fun j hj=>hw.err j (by omega);unfold fk fy;simp only;have hsub:ca .i64 (((ju e s i).length:Int)-Dd (Gf e i).Op)=(((ju e s i).length-ti e i:Nat):Int):=by
     unfold ti at a2⊢;rw[wid (by omega) (by omega)];omega
    rw[if_pos (by omega),Na hi,haa,xp hi];unfold Hc at n1;rw[Cb a3]at n1⊢;have hj:(if¬(Gf e i).N=0 then(some (Ch (Gf e i).Op)).bind fun x8=>some (!x8)else some false)=some (!(Gf e i).N==0&&!Ch (Gf e i).Op):=by
     by_cases h:(Gf e i).N=0<;>simp[h]
    rw[hj]at n1⊢;rw[haa]at n1⊢;generalize (!(Gf e i).N==0&&!Ch (Gf e i).Op)=c at n1⊢;cases c
    ·rw[if_neg (by simp)]at n1⊢;rw[Ak,haa,hsub,LU (by omega),haa,n1,haa];by_cases hz:(LA e s (ju e s i) i).2=0
     ·rw[if_neg (by simpa using hz),if_pos hz,Nr (by omega),haa,Sj (by simp;omega),haa,La (by omega)];rfl
     ·rw[if_pos hz,if_neg hz];rfl
    ·rw[if_pos rfl]at n1⊢;injection n1 with n1;rw[←n1,if_neg (by decide)];rfl
   ·unfold fk;simp
  rw[hl]
  cases hf:ff (fy e s) e.length with
  |some v=>rfl
  |none=>
   obtain⟨h1,h2⟩:=Ey (s:=s) hw hN e.length (by omega) (pb.1 hf);have:0<(ju e s e.length).length:=by
    rw[h1];obtain⟨k,hk⟩:∃k,e.length=k+1:=⟨e.length-1,by have:=hw.pos;omega⟩;rw[hk,tE];omega
   simp only[ui,haa];rw[show(0:Int)=((0:Nat):Int)from rfl,Na this,haa,iaa this];rfl
 ·rw[if_pos h0,if_neg h0]
end Go.Proofs.Dev
namespace Go.Tm
theorem Hs{x n:Int}:∀{l:List Int},x∈lr l n↔x∈l∨x=n
 |[]=>by simp[lr]
 |y::l=>by
  simp only[lr];split
  ·split
   ·simp only[fab];constructor
    ·rintro(h|h|h)
     ·exact .inr h
     ·exact .inl (.inl h)
     ·exact .inl (.inr h)
    ·rintro((h|h)|h)
     ·exact .inr (.inl h)
     ·exact .inr (.inr h)
     ·exact .inl h
   ·have:n=y:=by omega
    simp only[fab];constructor
    ·exact .inl
    ·rintro(h|h)
     ·exact h
     ·exact .inl (h.trans this)
  ·simp only[fab,Hs (l:=l)];constructor
   ·rintro(h|h|h)
    ·exact .inl (.inl h)
    ·exact .inl (.inr h)
    ·exact .inr h
   ·rintro((h|h)|h)
    ·exact .inl h
    ·exact .inr (.inl h)
    ·exact .inr (.inr h)
abbrev SF(l:List Int):Prop:=l.Pairwise (·<·)
theorem nz{n:Int}:∀{l:List Int},SF l→SF (lr l n)
 |[],_=>by simp[lr]
 |y::l,h=>by
  have h':=jac.1 h;simp only[lr];split
  ·split
   ·refine jac.2 ⟨fun z hz=>?_,h⟩;rcases fab.1 hz with rfl|hz
    ·assumption
    ·have:=h'.1 z hz;omega
   ·exact h
  ·refine jac.2 ⟨fun z hz=>?_,nz h'.2⟩;rcases Hs.1 hz with hz|rfl
   ·exact h'.1 z hz
   ·omega
theorem PE{n:Int}:∀{l:List Int},(lr l n).length≤l.length+1
 |[]=>by simp[lr]
 |y::l=>by
  simp only[lr];split
  ·split<;>simp
  ·have:=PE (n:=n) (l:=l);simp;omega
theorem Rz{α A β ρ:Type}{step:A×Int→Option (Ex (A×Int) β ρ)}(xs:List α) (f:A→α→A) (a0:A) (b:β) {x0:A×Int}(hx:x0=(a0,0))
 (hgo:∀(i:Nat) (hi:i<xs.length),step ((xs.take i).foldl f a0,(i:Int))=some (.go (f ((xs.take i).foldl f a0) xs[i],((i+1:Nat):Int)))) (hend:step (xs.foldl f a0,(xs.length:Int))=some (.brk b)) :
 ia step x0=some (.inl b):=by
 refine wi (fun i=>((xs.take i).foldl f a0,(i:Int))) xs.length b (fun i hi=>?_) ?_ (by subst hx;rfl)
 ·rw[hgo i hi,Zaa,List.foldl_append,iaa hi];rfl
 ·rw[dab];exact hend
end Go.Tm
namespace Go.Proofs.Dev
open Go Go.Tm
end Go.Proofs.Dev
namespace Go.Tm
theorem Rf(l:List Int):SF (Te l)∧(Te l).length≤l.length∧∀x,x∈Te l↔x∈l:=by
 have key:∀(l a:List Int),SF a→SF (l.foldl lr a)∧(l.foldl lr a).length≤a.length+l.length∧∀x,x∈l.foldl lr a↔x∈a∨x∈l:=by
  intro l
  induction l with
  |nil=>intro a h;exact⟨h,by simp,fun x=>by simp⟩
  |cons y l ih=>
   intro a h;obtain⟨h1,h2,h3⟩:=ih (lr a y) (nz h);have:=PE (n:=y) (l:=a);refine⟨h1,by simp only[aac,Daa];omega,fun x=>?_⟩;simp only[aac];rw[h3 x,Hs,fab,or_assoc]
 obtain⟨h1,h2,h3⟩:=key l [] (by simp);exact⟨h1,by simpa [Te] using h2,fun x=>by simpa [Te] using h3 x⟩
theorem xy{lo hi:Int}:∀{a:List Int},SF a→(∀x∈a,lo≤x∧x<hi)→a.length≤(hi-lo).toNat
 |[],_,_=>by simp
 |x::a,h,hb=>by
  have h':=jac.1 h;have hx:=hb x (by simp);have:=xy (lo:=x+1) (hi:=hi) h'.2 fun y hy=>⟨by have:=h'.1 y hy;omega,(hb y (by simp[hy])).2⟩;simp only[Daa];omega
theorem Jy:∀{a b:List Int},SF a→SF b→(∀x,x∈a↔x∈b)→a=b
 |[],[],_,_,_=>rfl
 |[],y::b,_,_,h=>by have:=(h y).2 (by simp);simp at this
 |x::a,[],_,_,h=>by have:=(h x).1 (by simp);simp at this
 |x::a,y::b,ha,hb,h=>by
  have ha':=jac.1 ha;have hb':=jac.1 hb;have hxy:x=y:=by
   have h1:=(h x).1 (by simp);have h2:=(h y).2 (by simp);rcases fab.1 h1 with h1|h1
   ·exact h1
   ·rcases fab.1 h2 with h2|h2
    ·exact h2.symm
    ·have:=ha'.1 y h2;have:=hb'.1 x h1;omega
  subst hxy;rw[Jy ha'.2 hb'.2 fun z=>?_];constructor
  ·intro hz;rcases fab.1 ((h z).1 (by simp[hz]))with rfl|h1
   ·have:=ha'.1 z hz;omega
   ·exact h1
  ·intro hz;rcases fab.1 ((h z).2 (by simp[hz]))with rfl|h1
   ·have:=hb'.1 z hz;omega
   ·exact h1
end Go.Tm
namespace Go.Proofs.Dev
open Go Go.Tm
def Et(p:GNode→Bool) (e:List GNode):List Int:=Te ((e.filter p).map (·.N))
theorem tp{p:GNode→Bool}{e:List GNode}:(Et p e).length≤e.length:=by
 have:=(Rf ((e.filter p).map (·.N))).2.1;have h2:=Maa p e;unfold Et;simp at this;omega
def yH(n:GNode):Bool:=n.Op==7
def We(n:GNode):Bool:=n.Op==8
def jo(n:GNode):Bool:=n.Op==36 || n.Op==37 || n.Op==38 || n.Op==39
def gx(e:List GNode):List Int×List Int×List Int:=(Et yH e,Et We e,Et jo e)
theorem Jy:∀{a b:List Int},SF a→SF b→(∀x,x∈a↔x∈b)→a=b
 |[],[],_,_,_=>rfl
 |[],y::b,_,_,h=>by have:=(h y).2 (by simp);simp at this
 |x::a,[],_,_,h=>by have:=(h x).1 (by simp);simp at this
 |x::a,y::b,ha,hb,h=>by
  obtain⟨ha1,ha2⟩:=jac.1 ha;obtain⟨hb1,hb2⟩:=jac.1 hb;have hxy:x=y:=by
   have h1:=(h x).1 (by simp);have h2:=(h y).2 (by simp);simp only[fab]at h1 h2;rcases h1 with h1|h1
   ·exact h1
   ·rcases h2 with h2|h2
    ·exact h2.symm
    ·have:=ha1 y h2;have:=hb1 x h1;omega
  subst hxy;rw[Jy ha2 hb2 fun z=>?_];have hz:=h z;simp only[fab]at hz;constructor
  ·intro h1;rcases hz.1 (.inr h1)with h2|h2
   ·subst h2;have:=ha1 z h1;omega
   ·exact h2
  ·intro h1;rcases hz.2 (.inr h1)with h2|h2
   ·subst h2;have:=hb1 z h1;omega
   ·exact h2
theorem zu{d:Array Int}(hs:∀i j,i<j→j<d.size→d[i]!≤d[j]!):∀m,m≤d.size→SF (Go.Lib.compactUpTo d m)∧∀x,x∈Go.Lib.compactUpTo d m↔∃i,i<m∧d[i]! = x
 |0,_=>⟨by simp[Go.Lib.compactUpTo,SF],by simp[Go.Lib.compactUpTo]⟩
 |m+1,hm=>by
  obtain⟨ih1,ih2⟩:=zu hs m (by omega);have hle:∀i,i<m→d[i]!≤d[m-1]!:=by
   intro i hi;by_cases h:i=m-1
   ·rw[h];exact Int.le_refl _
   ·exact hs i (m-1) (by omega) (by omega)
  rw[Go.Lib.compactUpTo_succ];by_cases hk:Go.Lib.keeps d m=true
  ·rw[if_pos hk];refine⟨?_,fun x=>?_⟩
   ·unfold SF;rw[List.pairwise_append];refine⟨ih1,by simp,fun a ha c hc=>?_⟩;obtain⟨i,hi,rfl⟩:=(ih2 a).1 ha;obtain rfl:=Paa.1 hc;have hne:d[m]!≠d[m-1]!:=by
     have:=of_decide_eq_true hk;rcases this with h|h
     ·omega
     ·exact h
    have h1:=hle i hi;have h2:=hs (m-1) m (by omega) (by omega);omega
   ·rw[Jaa,ih2,Paa];constructor
    ·rintro(⟨i,hi,rfl⟩|rfl)
     ·exact⟨i,by omega,rfl⟩
     ·exact⟨m,by omega,rfl⟩
    ·rintro⟨i,hi,rfl⟩;by_cases h:i=m
     ·subst h;exact .inr rfl
     ·exact .inl ⟨i,by omega,rfl⟩
  ·rw[if_neg hk,List.append_nil];refine⟨ih1,fun x=>?_⟩;rw[ih2];have hk':Go.Lib.keeps d m=false:=by simpa using hk
   have hmm:¬(m=0∨d[m]!≠d[m-1]!):=of_decide_eq_false hk';constructor
   ·rintro⟨i,hi,rfl⟩;exact⟨i,by omega,rfl⟩
   ·rintro⟨i,hi,rfl⟩;by_cases h:i=m
    ·subst h;refine⟨i-1,by omega,?_⟩;by_cases h2:d[i]! = d[i-1]!
     ·exact h2.symm
     ·exact absurd (.inr h2) hmm
    ·exact⟨i,by omega,rfl⟩
theorem Vp(l:List Int):Go.Lib.compact (l.mergeSort fun x y=>decide (x≤y))=Te l:=by
 have hp:=List.pairwise_mergeSort (le:=fun(x y:Int)=>decide (x≤y)) (fun a b c h1 h2=>by simp at h1 h2⊢;omega) (fun a b=>by simp;omega) l;have hm:∀x,x∈(l.mergeSort fun x y=>decide (x≤y))↔x∈l:=fun x=>List.mem_mergeSort;generalize (l.mergeSort fun x y=>decide (x≤y))=q at *;obtain⟨h1,h2⟩:=zu (d:=q.toArray) (fun i j hij hj=>by
  have hj':j<q.length:=by simpa using hj
  have:=List.pairwise_iff_getElem.1 hp i j (by omega) hj' hij;simp at this;rw[getElem!_pos q.toArray i (by simp;omega),getElem!_pos q.toArray j hj];simpa using this) q.length (by simp)
 obtain⟨g1,-,g2⟩:=Rf l;refine Jy h1 g1 fun x=>?_;unfold Go.Lib.compact;rw[h2,g2,←hm x];constructor
 ·rintro⟨i,hi,rfl⟩;rw[getElem!_pos q.toArray i (by simpa using hi)];simp
 ·intro h;obtain⟨i,hi,rfl⟩:=List.mem_iff_getElem.1 h;exact⟨i,hi,by rw[getElem!_pos q.toArray i (by simpa using hi)];simp⟩
theorem Zn{l:List Int}(h:l.length≤1099511627776):Ah l=some (Te l):=by
 unfold Ah Ka Aa;rw[if_pos (by omega),haa,if_pos (by simp;omega),haa,Vp]
theorem uq{l:List Int}(h:l.length≤8796093022208):ag l=some (Te l):=by
 unfold ag Ka Aa;rw[if_pos h,haa,if_pos (by simpa using h),haa,Vp]
theorem Xs{p:GNode→Bool}{l:List GNode}{x:GNode}:((l++[x]).filter p).map (·.N)=if p x=true then(l.filter p).map (·.N)++[x.N]else(l.filter p).map (·.N):=by
 by_cases h:p x=true
 ·simp[uab,h]
 ·simp[uab,h]
theorem Aj{e:List GNode}(h:e.length≤1099511627776):Zd e=some (gx e):=by
 unfold Zd;have hb:∀(p:GNode→Bool) (i:Nat),(((e.take i).filter p).map (·.N)).length≤e.length:=fun p i=>by
  have h1:=Maa p (e.take i);have h2:(e.take i).length≤e.length:=by rw[List.length_take];omega
  rw[gab];omega
 have hl:ia (Zf e) (([]:List Int),([]:List Int),([]:List Int),0)=some (.inl ((e.filter yH).map (·.N),(e.filter We).map (·.N),(e.filter jo).map (·.N))):=by
  refine wi (fun i=>(((e.take i).filter yH).map (·.N),((e.take i).filter We).map (·.N),((e.take i).filter jo).map (·.N),(i:Int))) e.length _ (fun i hi=>?_) ?_ rfl
  ·have ht:e.take (i+1)=e.take i++[e[i]]:=by rw[Zaa,iaa hi];rfl
   have b1:=hb yH i;have b2:=hb We i;have b3:=hb jo i;unfold Zf;simp only;rw[if_pos (by omega),Na hi,haa,La (by omega),ht,Xs,Xs,Xs];generalize e[i]=x at *;generalize ((e.take i).filter yH).map (·.N)=l1 at *;generalize ((e.take i).filter We).map (·.N)=l2 at *;generalize ((e.take i).filter jo).map (·.N)=l3 at *;simp only[yH,We,jo];by_cases h7:x.Op=7
   ·simp[h7,Sj (show(l1.length + [x.N].length)*8≤2 ^ 47 by simp;omega)]
   ·by_cases h8:x.Op=8
    ·simp[h8,Sj (show(l2.length + [x.N].length)*8≤2 ^ 47 by simp;omega)]
    ·by_cases h36:x.Op=36
     ·simp[h36,Sj (show(l3.length + [x.N].length)*8≤2 ^ 47 by simp;omega)]
     ·by_cases h37:x.Op=37
      ·simp[h37,Sj (show(l3.length + [x.N].length)*8≤2 ^ 47 by simp;omega)]
      ·by_cases h38:x.Op=38
       ·simp[h38,Sj (show(l3.length + [x.N].length)*8≤2 ^ 47 by simp;omega)]
       ·by_cases h39:x.Op=39
        ·simp[h39,Sj (show(l3.length + [x.N].length)*8≤2 ^ 47 by simp;omega)]
        ·simp[h7,h8,h36,h37,h38,h39]
  ·unfold Zf;simp only;rw[if_neg (by omega),dab]
 have c:∀p:GNode→Bool,((e.filter p).map (·.N)).length≤1099511627776:=fun p=>by
  have h1:=Maa p e;simp only[gab];omega
 rw[hl,haa];simp only;rw[Zn (c yH),haa,Zn (c We),haa,Zn (c jo),haa];rfl
def uC(n:Int) (a:List Int) (x:Int):List Int:=if 0≤x∧x<n then lr a x else a
def cz(n:Int) (a:List Int):Prop:=SF a∧∀x∈a,0≤x∧x<n
theorem cz.len{n:Int}{a:List Int}(h:cz n a):a.length≤n.toNat:=by
 have:=xy (lo:=0) (hi:=n) h.1 h.2;simpa using this
theorem cz.nil{n:Int}:cz n []:=⟨by simp,by simp⟩
theorem cz.ins{n:Int}{a:List Int}{x:Int}(h:cz n a):cz n (uC n a x):=by
 unfold uC;split
 ·rename_i hx;refine⟨nz h.1,fun y hy=>?_⟩;rcases Hs.1 hy with hy|rfl
  ·exact h.2 y hy
  ·exact hx
 ·exact h
theorem cz.fold{n:Int}:∀{l a:List Int},cz n a→cz n (l.foldl (uC n) a)
 |[],a,h=>h
 |x::l,a,h=>cz.fold (l:=l) h.ins
theorem AA{n x:Int}:∀{l a:List Int},x∈l.foldl (uC n) a↔x∈a∨(x∈l∧0≤x∧x<n)
 |[],a=>by simp
 |y::l,a=>by
  simp only[aac];rw[AA (l:=l)];unfold uC;split
  ·rename_i hy;rw[Hs,fab];constructor
   ·rintro((h|rfl)|h)
    ·exact .inl h
    ·exact .inr ⟨.inl rfl,hy⟩
    ·exact .inr ⟨.inr h.1,h.2⟩
   ·rintro(h|⟨rfl|h,h2⟩)
    ·exact .inl (.inl h)
    ·exact .inl (.inr rfl)
    ·exact .inr ⟨h,h2⟩
  ·rename_i hy;rw[fab];constructor
   ·rintro(h|h)
    ·exact .inl h
    ·exact .inr ⟨.inr h.1,h.2⟩
   ·rintro(h|⟨rfl|h,h2⟩)
    ·exact .inl h
    ·exact(hy h2).elim
    ·exact .inr ⟨h,h2⟩
def yv(r:GRule):List Int:=Et We r.Guard++Et We r.Value
def BJ(n d:Int) (a:List Int) (r:GRule):List Int:=if r.Def=d then(yv r).foldl (uC n) a else a
def zH(s:GScope) (d:Int):List Int:=if 0≤d∧d<(s.Defs.length:Int)then s.Rules.foldl (BJ s.Defs.length d) []else []
structure ScOk (s:GScope):Prop where
 defs:s.Defs.length≤1048576
 rules:s.Rules.length≤1048576
 g:∀r∈s.Rules,r.Guard.length≤1048576∧r.Value.length≤1048576
theorem GP{n d:Int}{a:List Int}{r:GRule}(h:cz n a):cz n (BJ n d a r):=by
 unfold BJ;split
 ·exact h.fold
 ·exact h
theorem fx{n d:Int}:∀{l:List GRule}{a:List Int},cz n a→cz n (l.foldl (BJ n d) a)
 |[],a,h=>h
 |r::l,a,h=>fx (l:=l) (GP h)
theorem eE(s:GScope) (d:Int):cz s.Defs.length (zH s d):=by
 unfold zH;split
 ·exact fx cz.nil
 ·exact cz.nil
def OA(s:GScope) (d x:Int):Prop:=(0≤d∧d<(s.Defs.length:Int))∧(0≤x∧x<(s.Defs.length:Int))∧∃r∈s.Rules,r.Def=d∧x∈yv r
theorem Qv{s:GScope}{d x:Int}:x∈zH s d↔OA s d x:=by
 have key:∀(l:List GRule) (a:List Int),x∈l.foldl (BJ s.Defs.length d) a↔x∈a∨(0≤x∧x<(s.Defs.length:Int))∧∃r∈l,r.Def=d∧x∈yv r:=by
  intro l
  induction l with
  |nil=>intro a;simp
  |cons r l ih=>
   intro a;simp only[aac];rw[ih];unfold BJ;split
   ·rename_i hr;rw[AA];constructor
    ·rintro((h|⟨h1,h2⟩)|⟨h1,r',h2,h3⟩)
     ·exact .inl h
     ·exact .inr ⟨h2,r,by simp,hr,h1⟩
     ·exact .inr ⟨h1,r',by simp[h2],h3⟩
    ·rintro(h|⟨h1,r',h2,h3,h4⟩)
     ·exact .inl (.inl h)
     ·rcases fab.1 h2 with rfl|h2
      ·exact .inl (.inr ⟨h4,h1⟩)
      ·exact .inr ⟨h1,r',h2,h3,h4⟩
   ·rename_i hr;constructor
    ·rintro(h|⟨h1,r',h2,h3⟩)
     ·exact .inl h
     ·exact .inr ⟨h1,r',by simp[h2],h3⟩
    ·rintro(h|⟨h1,r',h2,h3,h4⟩)
     ·exact .inl h
     ·rcases fab.1 h2 with rfl|h2
      ·exact(hr h3).elim
      ·exact .inr ⟨h1,r',h2,h3,h4⟩
 unfold zH OA;split
 ·rename_i h;rw[key];simp[h]
 ·rename_i h;simp;intro h1 h2;exact(h ⟨h1,h2⟩).elim
end Go.Proofs.Dev
namespace Go.Tm
theorem Au{α:Type} [DecidableEq α]:∀{a b:List α},a.Nodup→(∀x∈a,x∈b)→a.length≤b.length
 |[],b,_,_=>by simp
 |x::a,b,h,hs=>by
  obtain⟨h1,h2⟩:=wad.1 h;have:=Au (a:=a) (b:=b.erase x) h2 fun y hy=>by
   have hne:y≠x:=fun he=>h1 (he▸hy);exact(List.mem_erase_of_ne hne).2 (hs y (by simp[hy]))
  have hl:=List.length_erase_of_mem (hs x (by simp));have hp:0<b.length:=List.length_pos_of_mem (hs x (by simp));simp only[Daa];omega
theorem UB{a:List Int}(h:SF a):a.Nodup:=h.imp fun h he=>by omega
end Go.Tm
namespace Go.Proofs.Dev
open Go Go.Tm
inductive Way (s:GScope):Int→Int→Prop
 |one {a b:Int} (h:OA s a b):Way s a b
 |step {a b c:Int} (h:Way s a b) (h2:OA s b c):Way s a c
def xZ(s:GScope) (a:List Int) (x:Int):List Int:=(zH s x).foldl lr a
def trR(s:GScope) (a:List Int):List Int:=a.foldl (xZ s) a
def ED(s:GScope) (d:Int):Nat→List Int
 |0=>zH s d
 |k+1=>trR s (ED s d k)
theorem jC{n:Int}:∀{l a:List Int},(∀x∈l,0≤x∧x<n)→l.foldl lr a=l.foldl (uC n) a
 |[],a,_=>rfl
 |x::l,a,h=>by
  simp only[aac];rw[show uC n a x=lr a x from if_pos (h x (by simp)),jC fun y hy=>h y (by simp[hy])]
theorem QN(s:GScope) (a:List Int) (x:Int):xZ s a x=(zH s x).foldl (uC s.Defs.length) a:=jC (eE s x).2
theorem PQ{s:GScope}{a:List Int}{x:Int}(h:cz s.Defs.length a):cz s.Defs.length (xZ s a x):=by rw[QN];exact h.fold
theorem AS{s:GScope}{a:List Int}{x y:Int}:y∈xZ s a x↔y∈a∨OA s x y:=by
 rw[QN,AA];constructor
 ·rintro(h|⟨h,-⟩)
  ·exact .inl h
  ·exact .inr (Qv.1 h)
 ·rintro(h|h)
  ·exact .inl h
  ·exact .inr ⟨Qv.2 h,h.2.1⟩
theorem jA{s:GScope}:∀{l a:List Int},cz s.Defs.length a→cz s.Defs.length (l.foldl (xZ s) a)
 |[],a,h=>h
 |x::l,a,h=>jA (l:=l) (PQ h)
theorem Uo{s:GScope}{y:Int}:∀{l a:List Int},y∈l.foldl (xZ s) a↔y∈a∨∃x∈l,OA s x y
 |[],a=>by simp
 |x::l,a=>by
  simp only[aac];rw[Uo (l:=l),AS];constructor
  ·rintro((h|h)|⟨z,h1,h2⟩)
   ·exact .inl h
   ·exact .inr ⟨x,by simp,h⟩
   ·exact .inr ⟨z,by simp[h1],h2⟩
  ·rintro(h|⟨z,h1,h2⟩)
   ·exact .inl (.inl h)
   ·rcases fab.1 h1 with rfl|h1
    ·exact .inl (.inr h2)
    ·exact .inr ⟨z,h1,h2⟩
theorem ZC(s:GScope) (d:Int):∀k,cz s.Defs.length (ED s d k)
 |0=>eE s d
 |k+1=>jA (ZC s d k)
theorem sw{s:GScope}{d y:Int}:∀{k:Nat},y∈ED s d k→Way s d y
 |0,h=>.one (Qv.1 h)
 |k+1,h=>by
  rcases Uo.1 h with h|⟨x,h1,h2⟩
  ·exact sw h
  ·exact .step (sw h1) h2
theorem aA{s:GScope}{d y:Int}{k:Nat}(h:y∈ED s d k):y∈ED s d (k+1):=Uo.2 (.inl h)
theorem xF{s:GScope}{d y:Int}(h:OA s d y):∀k,y∈ED s d k
 |0=>Qv.2 h
 |k+1=>aA (xF h k)
def LW(s:GScope) (a:List Int):Prop:=∀x∈a,∀y,OA s x y→y∈a
open Classical in
theorem HF{s:GScope}{d:Int}:∀k,LW s (ED s d k)∨k+1≤(ED s d k).length
 |0=>by
  cases h:ED s d 0 with
  |nil=>exact .inl fun x hx=>by simp at hx
  |cons x l=>exact .inr (by simp)
 |k+1=>by
  by_cases hc:LW s (ED s d k)
  ·refine .inl fun x hx y hy=>?_;have hx':x∈ED s d k:=by
    rcases Uo.1 hx with h|⟨z,h1,h2⟩
    ·exact h
    ·exact hc z h1 x h2
   exact aA (hc x hx' y hy)
  ·rcases HF k with h|h
   ·exact(hc h).elim
   ·right;obtain⟨x,hx⟩:=sae.1 hc;obtain⟨hx1,hx2⟩:=Hae.1 hx;obtain⟨y,hy⟩:=sae.1 hx2;obtain⟨hy1,hy2⟩:=Hae.1 hy;have:=Au (a:=y::ED s d k) (b:=ED s d (k+1)) (wad.2 ⟨hy2,UB (ZC s d k).1⟩) fun z hz=>by
     rcases fab.1 hz with rfl|hz
     ·exact Uo.2 (.inr ⟨x,hx1,hy1⟩)
     ·exact aA hz
    simp only[Daa]at this;omega
theorem JP(s:GScope) (d:Int):LW s (ED s d s.Defs.length):=by
 rcases HF (s:=s) (d:=d) s.Defs.length with h|h
 ·exact h
 ·have:=(ZC s d s.Defs.length).len;omega
theorem Fy{s:GScope}{d y:Int}:y∈ED s d s.Defs.length↔Way s d y:=by
 constructor
 ·exact sw
 ·intro h
  induction h with
  |one h=>exact xF h _
  |step h h2 ih=>exact JP s d _ ih _ h2
def cy(n:Int) (l:List Int):List Int:=l.filter fun x=>decide (0≤x)&&decide (x<n)
theorem vB{n:Int}{l a:List Int}(h:a.length+l.length≤1099511627776) {step:List Int×Int→Option (Ex (List Int×Int) (List Int) Unit)}
 (hstep:∀(a:List Int) (i:Nat) (hi:i<l.length),step (a,(i:Int))=(jaa (α:=List Int) (if(decide (0≤l[i])&&decide (l[i]<n))=true then(app 8 a [l[i]]).bind fun x=>some x else some a) fun j=>some (.go (j,ca .i64 ((i:Int)+1)))))
 (hend:∀a,step (a,(l.length:Int))=some (.brk a)):ia step (a,0)=some (.inl (a++cy n l)):=by
 refine wi (fun i=>(a++cy n (l.take i),(i:Int))) l.length _ (fun i hi=>?_) ?_ (by simp[cy])
 ·have hlen:(cy n (l.take i)).length≤i:=by
   have:=Maa (fun x=>decide (0≤x)&&decide (x<n)) (l.take i);unfold cy;simp at this;omega
  have ht:cy n (l.take (i+1))=cy n (l.take i)++(if(decide (0≤l[i])&&decide (l[i]<n))=true then [l[i]]else []):=by
   unfold cy;rw[Zaa,iaa hi,uab];simp only[Option.toList_some,List.filter_cons,List.filter_nil]
  rw[hstep _ i hi,La (by omega),ht];split
  ·rw[Sj (by simp;omega)];simp
  ·simp
 ·rw[dab];exact hend _
theorem En{r:GRule}(h:r.Guard.length≤1048576∧r.Value.length≤1048576) (n:Int):bd r n=some (cy n (Et We r.Guard)++cy n (Et We r.Value)):=by
 unfold bd;have l1:=tp (p:=We) (e:=r.Guard);have l2:=tp (p:=We) (e:=r.Value);have l3:(cy n (Et We r.Guard)).length≤(Et We r.Guard).length:=Maa _ _;rw[Aj (by omega),haa,Aj (by omega),haa];have b1:ia (pe n (gx r.Guard)) (([]:List Int),0)=some (.inl ([]++cy n (Et We r.Guard))):=by
  refine vB (l:=Et We r.Guard) (by simp;omega) (fun a i hi=>?_) (fun a=>?_)
  ·unfold pe gx;simp only;rw[if_pos (by omega),Na hi,haa];by_cases g1:0≤(Et We r.Guard)[i]<;>by_cases g2:(Et We r.Guard)[i]<n<;>simp[g1,g2]
  ·unfold pe gx;simp
 rw[b1,haa];simp only[List.nil_append];have b2:ia (Ae n (gx r.Value)) (cy n (Et We r.Guard),0)=some (.inl (cy n (Et We r.Guard)++cy n (Et We r.Value))):=by
  refine vB (l:=Et We r.Value) (by omega) (fun a i hi=>?_) (fun a=>?_)
  ·unfold Ae gx;simp only;rw[if_pos (by omega),Na hi,haa];by_cases g1:0≤(Et We r.Value)[i]<;>by_cases g2:(Et We r.Value)[i]<n<;>simp[g1,g2]
  ·unfold Ae gx;simp
 rw[b2];rfl
theorem mapM_some{α β:Type}{f:α→Option β}(g:α→β):∀{l:List α},(∀x∈l,f x=some (g x))→l.mapM f=some (l.map g)
 |[],_=>rfl
 |x::l,h=>by
  rw[List.mapM_cons,h x (by simp),mapM_some g fun y hy=>h y (by simp[hy])];rfl
def Bm(s:GScope):List (List Int):=
 (waa s.Defs.length).map fun(d:Nat)=>Te ((s.Rules.filter fun(r:GRule)=>r.Def==(d:Int)).map fun r=>cy s.Defs.length (Et We r.Guard)++cy s.Defs.length (Et We r.Value)).flatten
theorem Mk{s:GScope}(hs:ScOk s):Jb s=some (Bm s):=by
 unfold Jb Bm;rw[if_pos ⟨hs.defs,hs.rules,hs.g⟩];refine mapM_some _ fun d _=>?_;rw[mapM_some (fun r=>cy s.Defs.length (Et We r.Guard)++cy s.Defs.length (Et We r.Value)) fun r hr=>En (hs.g r (tab.1 hr).1) _];rfl
theorem tv{s:GScope}{d:Int}{l:List Int}(h0:0≤d) (h:(Bm s)[d.toNat]?=some l) (x:Int):x∈l↔OA s d x:=by
 unfold Bm at h;rw[List.getElem?_map]at h;by_cases hd:d.toNat<s.Defs.length
 ·rw[List.getElem?_range hd]at h;simp only[Option.map_some,zaa]at h;subst h;rw[(Rf _).2.2];simp only[List.mem_flatten,Tab,tab,beq_iff_eq,OA,yv,cy];rw[Int.toNat_of_nonneg h0];constructor
  ·rintro⟨_,⟨r,⟨hr,hrd⟩,rfl⟩,hx⟩;simp only[Jaa,tab,paa,decide_eq_true_eq]at hx;rcases hx with⟨h1,h2⟩|⟨h1,h2⟩
   ·exact⟨⟨h0,by omega⟩,h2,r,hr,hrd,by simp[h1]⟩
   ·exact⟨⟨h0,by omega⟩,h2,r,hr,hrd,by simp[h1]⟩
  ·rintro⟨-,h2,r,hr,hrd,hx⟩;refine⟨_,⟨r,⟨hr,hrd⟩,rfl⟩,?_⟩;simp only[Jaa,tab,paa,decide_eq_true_eq]at hx⊢;rcases hx with hx|hx
   ·exact .inl ⟨hx,h2⟩
   ·exact .inr ⟨hx,h2⟩
 ·rw[List.getElem?_eq_none (by simpa using hd)]at h;cases h
theorem xn(s:GScope):(Bm s).length=s.Defs.length:=by simp[Bm]
theorem gK{s:GScope}{a b:Int}(h0:0≤a):ReachL (Bm s) a b↔Way s a b:=by
 constructor
 ·intro h;have key:∀{b:Int},ReachL (Bm s) a b→Way s a b∧0≤b:=by
   intro b h
   induction h with
   |one h hb=>exact have:=(tv h0 h _).1 hb;⟨.one this,this.2.1.1⟩
   |step h hl hc ih=>exact have:=(tv ih.2 hl _).1 hc;⟨.step ih.1 this,this.2.1.1⟩
  exact(key h).1
 ·intro h;have get:∀{d x:Int},OA s d x→∃l,(Bm s)[d.toNat]?=some l∧x∈l:=by
   intro d x hd;have hlt:d.toNat<(Bm s).length:=by rw[xn];have:=hd.1;omega
   exact⟨_,iaa hlt,(tv hd.1.1 (iaa hlt) x).2 hd⟩
  induction h with
  |one h=>obtain⟨l,h1,h2⟩:=get h;exact .one h1 h2
  |step h h2 ih=>obtain⟨l,k1,k2⟩:=get h2;exact .step ih k1 k2
theorem mD{l:List Int}(hl:l.length≤1099511627776) (d:Int):vd l d=some (decide (d∈l)):=by
 have h:=Zm (l:=l) (p:=fun x=>some (decide (d=x))) (fun x=>decide (d=x)) (fun x _=>rfl) (by omega) (o:=ia (lf l d) 0) (by
  unfold lf;simp only[haa,decide_eq_true_eq])
 have h':vd l d=some (l.any fun x=>decide (d=x)):=h;rw[h'];congr 1;rw[dac,Qae];simp
open Classical in
theorem xj{s:GScope}(hs:ScOk s) (d:Int):∃l,pc s d=some l∧l.length≤1048576∧∀x,x∈l↔Way s d x:=by
 unfold pc;by_cases hd:0≤d∧d<(s.Defs.length:Int)
 ·have hn:=hs.defs;refine⟨JA (Bm s) d,?_,?_,?_⟩
  ·rw[if_pos (by omega),haa,if_neg (by simp;omega),Mk hs,haa];unfold kh;rw[if_pos]
   ·rfl
   ·refine⟨by rw[xn];omega,fun l hl=>?_,hd.1,by rw[xn];exact hd.2⟩;obtain⟨i,hi,rfl⟩:=Faa hl;have hm:=fun x=>tv (s:=s) (d:=(i:Int)) (l:=(Bm s)[i]) (by omega) (by rw[Rab];exact iaa hi) x;have hb:∀x∈(Bm s)[i],0≤x∧x<((Bm s).length:Int):=fun x hx=>by rw[xn];exact((hm x).1 hx).2.1
    refine⟨?_,hb⟩;have hinc:SF (Bm s)[i]:=by simp only[Bm,List.getElem_map];exact(Rf _).1
    have:=xy hinc hb;rw[xn]at this;omega
  ·have h1:=Maa (fun b=>@decide (ReachL (Bm s) d b) (Classical.propDecidable _)) ((waa (Bm s).length).map fun(k:Nat)=>(k:Int));unfold JA;simp only[gab,List.length_range,xn]at h1⊢;omega
  ·intro x;unfold JA;rw[tab,xn,Tab,decide_eq_true_eq,gK hd.1];constructor
   ·exact fun h=>h.2
   ·intro h;refine⟨?_,h⟩;have:0≤x∧x<(s.Defs.length:Int):=by cases h with|one h=>exact h.2.1|step _ h=>exact h.2.1
    exact⟨x.toNat,by simp;omega,by omega⟩
 ·refine⟨[],?_,by simp,fun x=>?_⟩
  ·have:(if¬d<0 then some (decide ((s.Defs.length:Int)≤d))else some true)=some true:=by
    by_cases h:d<0
    ·rw[if_neg (by omega)]
    ·rw[if_pos h,decide_eq_true (by omega)]
   rw[this];rfl
  ·constructor
   ·intro h;simp at h
   ·intro h;exfalso;apply hd;clear hd
    induction h with
    |one h=>exact h.1
    |step h h2 ih=>exact ih
end Go.Proofs.Dev
namespace Go.Proofs.Dev
open Go Go.Tm
structure LawOk (l:GLaw):Prop where
 ne:l.Enums.length≤1048576
 nt:l.Tables.length≤1048576
 ns:l.Scopes.length≤1048576
 e:∀x∈l.Enums,x.Name.size≤1048576∧∀m∈x.Members,m.size≤1048576
 t:∀x∈l.Tables,x.Name.size≤1048576
 s:∀x∈l.Scopes,x.Name.size≤1048576∧ScOk x∧x.Inputs.length≤1048576∧(∀f∈x.Inputs,f.Name.size≤1048576)∧(∀f∈x.Defs,f.Name.size≤1048576)∧
  (∀r∈x.Rules,r.Name.size≤1048576∧r.Source.size≤1048576∧(∀n∈r.Guard,Kc n)∧∀n∈r.Value,Kc n)
theorem Gw{l:List GEnum}(hl:l.length≤1048576) (nm:ByteArray):zi l nm=some (l.any fun x=>decide (x.Name=nm)):=by
 have h:=Zm (l:=l) (p:=fun x=>Ue x nm) (fun x=>decide (x.Name=nm)) (fun x _=>rfl) (by omega) (o:=ia (Bc l (fun x=>Ue x nm)) 0) rfl;have h':Ma l (fun x=>Ue x nm)=some (l.any fun x=>decide (x.Name=nm)):=h;unfold zi;rw[h'];rfl
theorem pz{l:List GTable}(hl:l.length≤1048576) (nm:ByteArray):Ti l nm=some (l.any fun x=>decide (x.Name=nm)):=by
 have h:=Zm (l:=l) (p:=fun x=>Xd x nm) (fun x=>decide (x.Name=nm)) (fun x _=>rfl) (by omega) (o:=ia (cc l (fun x=>Xd x nm)) 0) rfl;have h':Ja l (fun x=>Xd x nm)=some (l.any fun x=>decide (x.Name=nm)):=h;unfold Ti;rw[h'];rfl
theorem cG{l:List GScope}(hl:l.length≤1048576) (y:GScope):Ia l (fun x=>Oc x y)=some (l.any fun x=>decide (x.Name=y.Name)):=
 Zm (l:=l) (p:=fun x=>Oc x y) (fun x=>decide (x.Name=y.Name)) (fun x _=>rfl) (by omega) (o:=ia (Yb l (fun x=>Oc x y)) 0) rfl
theorem oA{l:List GField}(hl:l.length≤1048576) (y:GField):Ba l (fun x=>Vb x y)=some (l.any fun x=>decide (x.Name=y.Name)):=
 Zm (l:=l) (p:=fun x=>Vb x y) (fun x=>decide (x.Name=y.Name)) (fun x _=>rfl) (by omega) (o:=ia (bc l (fun x=>Vb x y)) 0) rfl
theorem kK{l:List GRule}(hl:l.length≤1048576) (y:GRule):gb l (fun x=>Ee x y)=some (l.any fun x=>decide (x.Name=y.Name)):=
 Zm (l:=l) (p:=fun x=>Ee x y) (fun x=>decide (x.Name=y.Name)) (fun x _=>rfl) (by omega) (o:=ia (Ac l (fun x=>Ee x y)) 0) rfl
theorem jP{l:List ByteArray}(hl:l.length≤1048576) (y:ByteArray):Qc l y=some (l.any fun x=>decide (x=y)):=by
 have h:=Zm (l:=l) (p:=fun x=>some (decide (y=x))) (fun x=>decide (x=y)) (fun x _=>by simp[eq_comm]) (by omega) (o:=ia (Nc l y) 0) (by
  unfold Nc;simp only[haa,decide_eq_true_eq])
 exact h
end Go.Proofs.Dev
namespace Go.Proofs.Dev
open Go Go.Tm
noncomputable def jS(x:GEnum) (k:Nat):Option (Int×Int):=
 match x.Members[k]? with
 |some m=>if om m=false then some (2,100+(k:Int))else if((x.Members.take k).any fun y=>decide (y=m))=true then some (7,100+(k:Int))else none
 |none=>none
noncomputable def bj(l:GLaw) (i:Nat) (x:GEnum):Int×Int:=
 if om x.Name=false then(2,0)else if((l.Enums.take i).any fun y=>decide (y.Name=x.Name))=true then(7,0)
 else if x.Members.length=0 then(5,0)else if 16<x.Members.length then(4,116)else(ff (jS x) x.Members.length).getD (0,0)
theorem oy{l:GLaw}(h:LawOk l) {i:Nat}(hi:i<l.Enums.length):Yk l (i:Int) l.Enums[i]=some (bj l i l.Enums[i]):=by
 obtain⟨g1,g2⟩:=h.e _ (raa hi);have hne:=h.ne;generalize l.Enums[i]=x at g1 g2⊢;unfold Yk bj;rw[Ol (by omega),haa];cases om x.Name
 ·rfl
 simp only[naa,yab,if_false];rw[Nr (by omega),haa,Gw (by simp;omega),haa];cases (l.Enums.take i).any fun y=>decide (y.Name=x.Name)
 ·simp only[naa,yab,if_false];by_cases h0:x.Members.length=0
  ·rw[if_pos (by omega),if_pos h0]
  rw[if_neg (by omega),if_neg h0];by_cases h16:16<x.Members.length
  ·rw[if_pos (by omega),if_pos h16]
  rw[if_neg (by omega),if_neg h16];have hl:ia (Oh x) 0=some (ui () (ff (jS x) x.Members.length)):=
   Uh (fun k=>(k:Int)) _ _ _ (fun k hk _=>by
    have hm:=g2 _ (raa hk);unfold Oh jS;rw[if_pos (by omega),Na hk,haa,Ol (by omega),haa,iaa hk,wid (n:=100+(k:Int)) (by omega) (by omega),La (by omega),Nr (by omega),haa,jP (by simp;omega),haa];simp only;cases om x.Members[k]
    ·rfl
    ·simp only[naa,yab,if_false];cases (x.Members.take k).any fun y=>decide (y=x.Members[k])<;>rfl) (fun _=>by unfold Oh;simp)
  rw[hl];cases ff (jS x) x.Members.length<;>rfl
 ·rfl
noncomputable def bo(l:GLaw) (i:Nat) (x:GTable):Int×Int:=
 if om x.Name=false then(2,0)
 else if((l.Enums.any fun y=>decide (y.Name=x.Name)) || (l.Tables.take i).any fun y=>decide (y.Name=x.Name))=true then(7,0)
 else if(Ym x l.Enums).2=0 then(0,0)else((Ym x l.Enums).2,if(Ym x l.Enums).1 = -1 then 0 else 100+(Ym x l.Enums).1)
theorem vH(t:GTable) (e:List GEnum):-1≤(Ym t e).1∧(Ym t e).1≤64:=by
 unfold Ym;split
 ·simp
 ·split
  ·simp
  ·cases h:ff (jB t e) t.Rows.length with
   |none=>simp
   |some v=>
    obtain⟨k,h1,h2,-⟩:=Mb.1 h;unfold jB at h2;rename_i h64 _;rw[iaa h1]at h2;simp only at h2;split at h2
    ·injection h2 with h2;subst h2;simp;omega
    ·split at h2
     ·injection h2 with h2;subst h2;simp;omega
     ·cases h2
theorem qK{l:GLaw}(h:LawOk l):ia (wg l) 0=some (ui () (ff (fun i=>match l.Tables[i]? with|some x=>if(bo l i x).1=0 then none else some (⟨(bo l i x).1,2,(i:Int),(bo l i x).2⟩:GLawError)|none=>none) l.Tables.length)):=by
 have hnt:=h.nt;have hne:=h.ne;refine Uh (fun k=>(k:Int)) _ _ _ (fun i hi _=>?_) (fun _=>by unfold wg;simp);have hx:=h.t _ (raa hi);unfold wg bo;rw[if_pos (by omega),Na hi,haa,iaa hi,La (by omega)];simp only;generalize l.Tables[i]=x at hx⊢;have hr:=vH x l.Enums;rw[Sw,haa,Ol (by omega),haa,Gw hne,haa,Nr (by omega),haa,pz (by simp;omega),wid (n:=100+(Ym x l.Enums).1) (by omega) (by omega)];generalize Ym x l.Enums=v;cases om x.Name
 ·rfl
 cases l.Enums.any fun y=>decide (y.Name=x.Name)
 ·cases (l.Tables.take i).any fun y=>decide (y.Name=x.Name)
  ·by_cases h2:v.2=0
   ·simp[h2,jw]
   ·by_cases h1:v.1 = -1<;>simp[h1,h2,jw]
  ·rfl
 ·rfl
noncomputable def nr(l:GLaw) (f:GField) (a b:List GField):Int:=
 if om f.Name=false then 2 else if((a.any fun y=>decide (y.Name=f.Name)) || b.any fun y=>decide (y.Name=f.Name))=true then 7 else if qa f.Type_ l.Enums=false then 8 else 0
theorem Iq{l:GLaw}{f:GField}{a b:List GField}(hf:f.Name.size≤1048576) (ha:a.length≤1048576) (hb:b.length≤1048576):eg l f a b=some (nr l f a b):=by
 unfold eg nr;rw[Ol (by omega),haa,oA ha,haa,oA hb,xb,haa];cases om f.Name
 ·rfl
 cases a.any fun y=>decide (y.Name=f.Name)
 ·cases b.any fun y=>decide (y.Name=f.Name)
  ·cases qa f.Type_ l.Enums<;>rfl
  ·rfl
 ·rfl
theorem iy{l:List GField}(hl:l.length≤1048576) {step:List GType×Int→Option (Ex (List GType×Int) (List GType) Unit)}
 (hstep:∀(a:List GType) (i:Nat) (hi:i<l.length),step (a,(i:Int))=((app 16 a [l[i].Type_]).bind fun x=>some (.go (x,ca .i64 ((i:Int)+1)))))
 (hend:∀a,step (a,(l.length:Int))=some (.brk a)):ia step (([]:List GType),0)=some (.inl (l.map (·.Type_))):=by
 refine wi (fun i=>((l.take i).map (·.Type_),(i:Int))) l.length _ (fun i hi=>?_) (by rw[dab];exact hend _) (by simp);rw[hstep _ i hi,Sj (by simp;omega),haa,La (by omega),Zaa,iaa hi,List.map_append];rfl
theorem cn{l:List GField}(hl:l.length≤1048576):tg l=some (l.map (·.Type_)):=by
 unfold tg;rw[iy hl (step:=Rg l) (fun a i hi=>by unfold Rg;simp only;rw[if_pos (by omega),Na hi,haa]) (fun a=>by unfold Rg;simp)];rfl
def Qy(l:GLaw) (s:GScope):GSignature:=
 if h:0≤s.MemberScope∧s.MemberScope<(l.Scopes.length:Int)then⟨l.Enums,l.Tables,s.Inputs.map (·.Type_),s.Defs.map (·.Type_),(l.Scopes[s.MemberScope.toNat]'(by omega)).Defs.map (·.Type_),true⟩
 else⟨l.Enums,l.Tables,s.Inputs.map (·.Type_),s.Defs.map (·.Type_),[],false⟩
theorem Qr{l:GLaw}(h:LawOk l) {i:Nat}(hi:i<l.Scopes.length):Bf l (i:Int)=some (Qy l l.Scopes[i]):=by
 obtain⟨g1,g2,g3,-⟩:=h.s _ (raa hi);have gd:=g2.defs;unfold Bf Qy;rw[Na hi,haa];generalize l.Scopes[i]=x at gd g3⊢;rw[cn g3,haa,cn gd,haa];by_cases hm:0≤x.MemberScope∧x.MemberScope<(l.Scopes.length:Int)
 ·have hd:=(h.s _ (raa (l:=l.Scopes) (n:=x.MemberScope.toNat) (by omega))).2.1.defs;rw[dif_pos hm,if_pos hm.1,haa,if_pos (by simpa using hm.2),Tk hm.1 hm.2,haa,cn hd];rfl
 ·rw[dif_neg hm];by_cases h0:0≤x.MemberScope
  ·rw[if_pos h0,haa,if_neg (by simp;omega)];rfl
  ·rw[if_neg h0];rfl
def gC(s:ByteArray) (i:Nat):Bool:=if h:i<s.size then decide (32≤(s[i].toNat:Int))&&decide ((s[i].toNat:Int)≤126)&&!((s[i].toNat:Int)==34)else true
def YR(s:ByteArray):Bool:=decide (s.size≤64)&&(ff (fun i=>if gC s i=true then none else some false) s.size).isNone
theorem LK{s:ByteArray}{c:UInt8}:s.data.toList.contains c=true↔∃i,∃h:i<s.size,s[i]=c:=by
 rw[List.contains_iff_mem];constructor
 ·intro h;obtain⟨i,hi,he⟩:=Faa h;exact⟨i,by simpa using hi,by rw[←he];rfl⟩
 ·rintro⟨i,hi,rfl⟩;exact raa (l:=s.data.toList) (n:=i) (by simpa using hi)
theorem aw{s:ByteArray}(hs:s.size≤1048576):Kg s=some (YR s):=by
 unfold Kg YR strings_Contains;rw[if_pos (show(vaa #[34]).size=1 from rfl)];by_cases h64:64<s.size
 ·rw[if_neg (by simp;omega),decide_eq_false (by omega)];rfl
 rw[if_pos (by simp;omega),decide_eq_true (p:=s.size≤64) (by omega)];have h1:ia (fg s) 0=some (ui () (ff (fun i=>if(if h:i<s.size then decide (32≤(s[i].toNat:Int))&&decide ((s[i].toNat:Int)≤126)else true)=true then none else some false) s.size)):=
  Uh (fun i=>(i:Int)) _ _ _ (fun i hi _=>by
   unfold fg;rw[if_pos (by omega),NL hi,haa,La (by omega),dif_pos hi];generalize (s[i].toNat:Int)=c;by_cases c1:c<32
   ·simp[c1,show¬32≤c by omega,jw]
   ·by_cases c2:126<c
    ·simp[c1,c2,show¬c≤126 by omega,show 32≤c by omega,jw]
    ·simp[c1,c2,show c≤126 by omega,show 32≤c by omega,jw]) (fun _=>by unfold fg;simp)
 rw[h1];simp only[haa,Oab];have hc:=LK (s:=s) (c:=34);change (s.data.toList.contains ((vaa #[34]).data.toList.headD 0))=true↔_ at hc;have h34:∀i (h:i<s.size),s[i]=34↔(s[i].toNat:Int)=34:=fun i h=>by
  constructor
  ·intro he;rw[he];rfl
  ·intro he;apply UInt8.toNat_inj.1;have:s[i].toNat=34:=by omega
   rw[this];rfl
 cases hq:s.data.toList.contains ((vaa #[34]).data.toList.headD 0)
 ·rw[hq]at hc;have hno:∀i (h:i<s.size),(s[i].toNat:Int)≠34:=fun i h he=>by
   have:=hc.2 ⟨i,h,(h34 i h).2 he⟩;cases this
  rw[if_neg (by simp)];have hff:ff (fun i=>if(if h:i<s.size then decide (32≤(s[i].toNat:Int))&&decide ((s[i].toNat:Int)≤126)else true)=true then none else some false) s.size=ff (fun i=>if gC s i=true then none else some false) s.size:=by
   refine qE fun i hi=>?_;unfold gC;have:=hno i hi;rw[dif_pos hi,dif_pos hi];simp[this]
  rw[hff]
  cases h2:ff (fun i=>if gC s i=true then none else some false) s.size with
  |none=>rfl
  |some v=>
   obtain⟨j,j1,j2,-⟩:=Mb.1 h2;split at j2
   ·cases j2
   ·injection j2 with j2;subst j2;rfl
 ·obtain⟨i,hi,he⟩:=hc.1 hq;rw[if_pos rfl]
  cases h2:ff (fun i=>if gC s i=true then none else some false) s.size with
  |some v=>rfl
  |none=>
   exfalso;have:=pb.1 h2 i hi;unfold gC at this;rw[dif_pos hi]at this;simp[(h34 i hi).1 he]at this
end Go.Proofs.Dev
namespace Go.Proofs.Dev
open Go Go.Tm
noncomputable def Iv(e:List GNode) (s:GSignature) (t:GType):Int:=
 if¬(Gr e s).2.2=0 then(Gr e s).2.2 else if¬((Gr e s).1.Kind=t.Kind∧(Gr e s).1.Enum=t.Enum)then 8 else 0
theorem Mr{e:List GNode}(hN:∀n∈e,Kc n) (s:GSignature) (t:GType):zh e s t=some (Iv e s t):=by
 unfold zh Iv;rw[dB hN,haa];split
 ·rfl
 ·split<;>rfl
def WA(x:GScope) (k:Nat) (r:GRule):Nat:=((x.Rules.take k).filter fun y=>decide (y.Def=r.Def)).length
theorem pS(x:GScope) (k:Nat) (r:GRule):WA x k r≤k:=by
 have:=Maa (fun(y:GRule)=>decide (y.Def=r.Def)) (x.Rules.take k);unfold WA;simp at this;omega
theorem tJ{x:GScope}{k:Nat}{r:GRule}(hk:k<x.Rules.length):WA x (k+1) r=if x.Rules[k].Def=r.Def then WA x k r+1 else WA x k r:=by
 unfold WA;rw[Zaa,iaa hk,uab,List.length_append];by_cases h:x.Rules[k].Def=r.Def
 ·rw[if_pos h];simp[h]
 ·rw[if_neg h];simp[h]
def MC(x:GScope) (k:Nat) (r:GRule):Bool:=
 if r.Parent = -1 then false else if r.Parent<0 then true else if(k:Int)≤r.Parent then true else match x.Rules[r.Parent.toNat]? with|some q=>q.Def !=r.Def|none=>true
noncomputable def Bx(x:GScope) (s:GSignature) (k:Nat) (r:GRule):Int:=
 if om r.Name=false then 2
 else if((x.Rules.take k).any fun y=>decide (y.Name=r.Name))=true then 7
 else if r.Def<0∨(x.Defs.length:Int)≤r.Def then 6
 else if MC x k r=true then 9
 else if r.Priority<0∨9<r.Priority∨r.Valid.From<0∨r.Valid.To≤r.Valid.From∨109573<r.Valid.To then 3
 else if 8≤WA x k r then 4
 else if YR r.Source=false then 2
 else if 0<r.Guard.length∧Iv r.Guard s ⟨1,0⟩≠0 then Iv r.Guard s ⟨1,0⟩
 else Iv r.Value s (match x.Defs[r.Def.toNat]? with|some d=>d.Type_|none=>⟨0,0⟩)
structure RuleOk (r:GRule):Prop where
 nm:r.Name.size≤1048576
 src:r.Source.size≤1048576
 g:∀n∈r.Guard,Kc n
 v:∀n∈r.Value,Kc n
theorem q6{x:GScope}{k:Nat}{r:GRule}(hk:k<x.Rules.length) {o:Option Bool}(ho:o=(if¬r.Parent = -1 then if¬r.Parent<0 then if¬(k:Int)≤r.Parent then(idx x.Rules r.Parent).bind fun y=>some (y.Def !=r.Def)else some true else some true else some false)):o=some (MC x k r):=by
 rw[ho];unfold MC;by_cases h1:r.Parent = -1
 ·simp[h1]
 by_cases h2:r.Parent<0
 ·simp[h1,h2]
 by_cases h3:(k:Int)≤r.Parent
 ·simp[h1,h2,h3]
 ·rw[if_pos h1,if_pos h2,if_pos h3,if_neg h1,if_neg h2,if_neg h3,Tk (by omega) (by omega),haa,iaa]
theorem my{x:GScope}(hx:ScOk x) {k:Nat}(hk:k<x.Rules.length) (hr:RuleOk x.Rules[k]) (s:GSignature):mj x (k:Int) s=some (Bx x s k x.Rules[k]):=by
 have hrl:=hx.rules;have hdl:=hx.defs;unfold mj Bx;rw[Na hk,haa,Nr (by omega),haa];generalize hrr:x.Rules[k]=r at hr⊢;have hl:ia (ji r (x.Rules.take k)) (0,0)=some (.inl ((WA x k r:Nat):Int)):=by
  refine wi (fun i=>(((WA x i r:Nat):Int),(i:Int))) k _ (fun i hi=>?_) ?_ rfl
  ·have:=pS x i r;unfold ji;simp only;rw[if_pos (by simp;omega),Na (by simp;omega),haa,La (by omega),La (by omega),zac,tJ (by omega)];by_cases h:x.Rules[i].Def=r.Def
   ·rw[if_pos h,if_pos h];rfl
   ·rw[if_neg h,if_neg h];rfl
  ·unfold ji;simp only;rw[if_neg (by simp;omega)]
 rw[hl,haa];simp only;rw[Ol (by have:=hr.nm;omega),haa,haa,kK (by simp;omega),haa];cases om r.Name
 ·rfl
 simp only[yab,if_false];cases (x.Rules.take k).any fun y=>decide (y.Name=r.Name)
 ·simp only[naa,if_false];by_cases hd:r.Def<0∨(x.Defs.length:Int)≤r.Def
  ·rw[if_pos hd];by_cases h1:r.Def<0
   ·simp[h1]
   ·simp[h1,show(x.Defs.length:Int)≤r.Def by omega]
  ·rw[if_neg hd,if_pos (by omega),haa,if_neg (by simp;omega)];rw[q6 hk rfl,haa];cases MC x k r
   ·simp only[naa,if_false];by_cases hp:r.Priority<0∨9<r.Priority
    ·rw[if_pos (show r.Priority<0∨9<r.Priority∨r.Valid.From<0∨r.Valid.To≤r.Valid.From∨109573<r.Valid.To by omega)];by_cases h1:r.Priority<0
     ·simp[h1]
     ·simp[h1,show 9<r.Priority by omega]
    ·rw[if_pos (show¬r.Priority<0 by omega),haa,if_neg (by simp;omega)];by_cases hv:r.Valid.From<0∨r.Valid.To≤r.Valid.From∨109573<r.Valid.To
     ·rw[if_pos (show r.Priority<0∨9<r.Priority∨r.Valid.From<0∨r.Valid.To≤r.Valid.From∨109573<r.Valid.To by omega)];by_cases h1:r.Valid.From<0
      ·simp[h1]
      ·by_cases h2:r.Valid.To≤r.Valid.From
       ·simp[h1,h2]
       ·simp[h1,h2,show 109573<r.Valid.To by omega]
     ·rw[if_pos (show¬r.Valid.From<0 by omega),if_pos (show¬r.Valid.To≤r.Valid.From by omega),haa,if_neg (by simp;omega),if_neg (show¬(r.Priority<0∨9<r.Priority∨r.Valid.From<0∨r.Valid.To≤r.Valid.From∨109573<r.Valid.To) by omega)];by_cases h8:8≤WA x k r
      ·rw[if_pos (by omega),if_pos h8]
      rw[if_neg (by omega),if_neg h8,aw hr.src,haa];cases YR r.Source
      ·rfl
      simp only[yab,if_false];have hi:idx x.Defs r.Def=some (x.Defs[r.Def.toNat]'(by omega)):=Tk (by omega) (by omega);have hg2:x.Defs[r.Def.toNat]?=some (x.Defs[r.Def.toNat]'(by omega)):=iaa _;simp only[hi,hg2,Mr hr.g,Mr hr.v,haa];generalize Iv r.Value s (x.Defs[r.Def.toNat]'(by omega)).Type_=v;by_cases hg:0<r.Guard.length
      ·rw[if_pos (show(0:Int)<(r.Guard.length:Int) by omega)];by_cases ht:Iv r.Guard s ⟨1,0⟩=0
       ·rw[if_neg (by simpa using ht),if_neg (by simp[ht])];rfl
       ·rw[if_pos ht,if_pos ⟨hg,ht⟩];rfl
      ·rw[if_neg (show¬(0:Int)<(r.Guard.length:Int) by omega),if_neg (by simp[hg])];rfl
   ·rfl
 ·rfl
end Go.Proofs.Dev
namespace Go.Proofs.Dev
open Go Go.Tm
theorem nZ{l:GLaw}(h:LawOk l) {i:Nat}(hi:i<l.Scopes.length) {r:GRule}(hr:r∈l.Scopes[i].Rules):RuleOk r:=by
 obtain⟨-,-,-,-,-,g⟩:=h.s _ (raa hi);obtain⟨a,b,c,d⟩:=g r hr;exact⟨a,b,c,d⟩
noncomputable def AZ(l:GLaw) (x:GScope) (k:Nat):Option (Int×Int):=
 match x.Inputs[k]? with
 |some f=>if nr l f (x.Inputs.take k) []=0 then none else some (nr l f (x.Inputs.take k) [],100+(k:Int))
 |none=>none
noncomputable def jH(l:GLaw) (x:GScope) (k:Nat):Option (Int×Int):=
 match x.Defs[k]? with
 |some f=>if nr l f x.Inputs (x.Defs.take k)=0 then none else some (nr l f x.Inputs (x.Defs.take k),200+(k:Int))
 |none=>none
noncomputable def lG(l:GLaw) (x:GScope) (k:Nat):Option (Int×Int):=
 match x.Rules[k]? with
 |some r=>if Bx x (Qy l x) k r=0 then none else some (Bx x (Qy l x) k r,300+(k:Int))
 |none=>none
open Classical in
noncomputable def QJ(x:GScope) (k:Nat):Option (Int×Int):=if Way x (k:Int) (k:Int)then some (9,200+(k:Int))else none
def Bw(l:GLaw) (i:Nat) (x:GScope):Bool:=
 if x.MemberScope = -1 then false else if x.MemberScope<0 then true else if(i:Int)≤x.MemberScope then true else match l.Scopes[x.MemberScope.toNat]? with|some q=>q.MemberScope !=-1|none=>true
noncomputable def Fl(l:GLaw) (i:Nat) (x:GScope):Int×Int:=
 if om x.Name=false then(2,0)
 else if((l.Enums.any fun y=>decide (y.Name=x.Name)) || ((l.Tables.any fun y=>decide (y.Name=x.Name)) || (l.Scopes.take i).any fun y=>decide (y.Name=x.Name)))=true then(7,0)
 else if Bw l i x=true then(6,0)
 else if 12<x.Inputs.length then(4,112)
 else if 12<x.Defs.length then(4,212)
 else match ff (AZ l x) x.Inputs.length with
  |some v=>v
  |none=>match ff (jH l x) x.Defs.length with
   |some v=>v
   |none=>match ff (lG l x) x.Rules.length with
    |some v=>v
    |none=>(ff (QJ x) x.Defs.length).getD (0,0)
theorem pK{l:GLaw}{i:Nat}{x:GScope}(hi:i<l.Scopes.length) {o:Option Bool}(ho:o=(if¬x.MemberScope = -1 then if¬x.MemberScope<0 then if¬(i:Int)≤x.MemberScope then(idx (l.Scopes.take i) x.MemberScope).bind fun y=>some (y.MemberScope !=-1)else some true else some true else some false)):o=some (Bw l i x):=by
 rw[ho];unfold Bw;by_cases h1:x.MemberScope = -1
 ·simp[h1]
 by_cases h2:x.MemberScope<0
 ·simp[h1,h2]
 by_cases h3:(i:Int)≤x.MemberScope
 ·simp[h1,h2,h3]
 ·rw[if_pos h1,if_pos h2,if_pos h3,if_neg h1,if_neg h2,if_neg h3,Tk (by omega) (by simp;omega),haa,iaa (by omega),zac]
theorem xw{l:GLaw}(h:LawOk l) {i:Nat}(hi:i<l.Scopes.length):fi l (i:Int)=some (Fl l i l.Scopes[i]):=by
 obtain⟨g1,g2,g3,g4,g5,g6⟩:=h.s _ (raa hi);have hne:=h.ne;have hnt:=h.nt;have hns:=h.ns;have hS:=Qr h hi;have hRu:∀r∈l.Scopes[i].Rules,RuleOk r:=fun r hr=>nZ h hi hr;unfold fi Fl;rw[Na hi,haa,Nr (by omega),haa];generalize l.Scopes[i]=x at g1 g2 g3 g4 g5 g6 hS hRu⊢;have gd:=g2.defs;have gr:=g2.rules;rw[Gw hne,haa,pz hnt,cG (by simp;omega),Ol (by omega)];have htk:(if(l.Enums.any fun y=>decide (y.Name=x.Name))=false then(some (l.Tables.any fun y=>decide (y.Name=x.Name))).bind fun x5=>if x5=false then(some ((l.Scopes.take i).any fun y=>decide (y.Name=x.Name))).bind fun x7=>some x7 else some true else some true) =
  some ((l.Enums.any fun y=>decide (y.Name=x.Name)) || ((l.Tables.any fun y=>decide (y.Name=x.Name)) || (l.Scopes.take i).any fun y=>decide (y.Name=x.Name))):=by
  cases l.Enums.any fun y=>decide (y.Name=x.Name)<;>cases l.Tables.any fun y=>decide (y.Name=x.Name)<;>rfl
 rw[htk,haa,haa];cases om x.Name
 ·rfl
 simp only[yab,if_false];cases (l.Enums.any fun y=>decide (y.Name=x.Name)) || ((l.Tables.any fun y=>decide (y.Name=x.Name)) || (l.Scopes.take i).any fun y=>decide (y.Name=x.Name))
 ·simp only[naa,if_false];rw[pK (l:=l) (x:=x) hi rfl,haa];cases Bw l i x
  ·simp only[naa,if_false];by_cases hI:12<x.Inputs.length
   ·rw[if_pos (by omega),if_pos hI]
   rw[if_neg (by omega),if_neg hI];by_cases hD:12<x.Defs.length
   ·rw[if_pos (by omega),if_pos hD]
   rw[if_neg (by omega),if_neg hD];have l1:ia (fh l x) 0=some (ui () (ff (AZ l x) x.Inputs.length)):=
    Uh (fun k=>(k:Int)) _ _ _ (fun k hk _=>by
     unfold fh AZ;rw[if_pos (by omega),Na hk,haa,Nr (by omega),haa,Iq (g4 _ (raa hk)) (by simp;omega) (by simp),haa,iaa hk,wid (n:=100+(k:Int)) (by omega) (by omega),La (by omega)];dsimp only;by_cases hz:nr l x.Inputs[k] (x.Inputs.take k) []=0
     ·rw[if_neg (by simpa using hz),if_pos hz];rfl
     ·rw[if_pos hz,if_neg hz];rfl) (fun _=>by unfold fh;simp)
   have l2:ia (Zg l x) 0=some (ui () (ff (jH l x) x.Defs.length)):=
    Uh (fun k=>(k:Int)) _ _ _ (fun k hk _=>by
     unfold Zg jH;rw[if_pos (by omega),Na hk,haa,Nr (by omega),haa,Iq (g5 _ (raa hk)) g3 (by simp;omega),haa,iaa hk,wid (n:=200+(k:Int)) (by omega) (by omega),La (by omega)];dsimp only;by_cases hz:nr l x.Defs[k] x.Inputs (x.Defs.take k)=0
     ·rw[if_neg (by simpa using hz),if_pos hz];rfl
     ·rw[if_pos hz,if_neg hz];rfl) (fun _=>by unfold Zg;simp)
   have l3:ia (Wg x (Qy l x)) 0=some (ui () (ff (lG l x) x.Rules.length)):=
    Uh (fun k=>(k:Int)) _ _ _ (fun k hk _=>by
     unfold Wg lG;rw[if_pos (by omega),my g2 hk (hRu _ (raa hk)),haa,iaa hk,wid (n:=300+(k:Int)) (by omega) (by omega),La (by omega)];dsimp only;by_cases hz:Bx x (Qy l x) k x.Rules[k]=0
     ·rw[if_neg (by simpa using hz),if_pos hz];rfl
     ·rw[if_pos hz,if_neg hz];rfl) (fun _=>by unfold Wg;simp)
   have l4:ia (Tg x) 0=some (ui () (ff (QJ x) x.Defs.length)):=
    Uh (fun k=>(k:Int)) _ _ _ (fun k hk _=>by
     obtain⟨q,q1,q2,q3⟩:=xj g2 (k:Int);unfold Tg QJ;rw[if_pos (by omega),q1,haa,mD (by omega),haa,wid (n:=200+(k:Int)) (by omega) (by omega),La (by omega)];by_cases hz:Way x (k:Int) (k:Int)
     ·rw[if_pos (by simpa using(q3 _).2 hz),if_pos hz];rfl
     ·rw[if_neg (by simpa using fun hq=>hz ((q3 _).1 hq)),if_neg hz];rfl) (fun _=>by unfold Tg;simp)
   rw[l1,haa]
   cases ff (AZ l x) x.Inputs.length with
   |some v=>rfl
   |none=>
    simp only[ui];rw[l2,haa]
    cases ff (jH l x) x.Defs.length with
    |some v=>rfl
    |none=>
     simp only[ui];rw[hS,haa,l3,haa]
     cases ff (lG l x) x.Rules.length with
     |some v=>rfl
     |none=>
      simp only[ui];rw[l4,haa];cases ff (QJ x) x.Defs.length<;>rfl
  ·rfl
 ·rfl
end Go.Proofs.Dev
namespace Go.Proofs.Dev
open Go Go.Tm
theorem GW{α β:Type}{f:Nat→Option α}(g:α→β) {n:Nat}:ff (fun k=>(f k).map g) n=(ff f n).map g:=by
 cases h1:ff f n with
 |none=>rw[Option.map_none];exact pb.2 fun k hk=>by rw[pb.1 h1 k hk];rfl
 |some v=>obtain⟨k,k1,k2,k3⟩:=Mb.1 h1;exact Mb.2 ⟨k,k1,by rw[k2];rfl,fun j hj=>by rw[k3 j hj];rfl⟩
def I8(i:Nat) (v:Int×Int):GLawError:=⟨v.1,3,(i:Int),v.2⟩
theorem MP{l:GLaw}{x:GScope}{k:Nat}{v:Int×Int}(h:AZ l x k=some v):v.1≠0:=by
 unfold AZ at h;split at h
 ·split at h
  ·cases h
  ·injection h with h;subst h;assumption
 ·cases h
theorem AI{l:GLaw}{x:GScope}{k:Nat}{v:Int×Int}(h:jH l x k=some v):v.1≠0:=by
 unfold jH at h;split at h
 ·split at h
  ·cases h
  ·injection h with h;subst h;assumption
 ·cases h
theorem NH{l:GLaw}{x:GScope}{k:Nat}{v:Int×Int}(h:lG l x k=some v):v.1≠0:=by
 unfold lG at h;split at h
 ·split at h
  ·cases h
  ·injection h with h;subst h;assumption
 ·cases h
theorem rB{f:Nat→Option (Int×Int)}(hf:∀{k v},f k=some v→v.1≠0) {n:Nat}{v:Int×Int}(h:ff f n=some v):v.1≠0:=by
 obtain⟨k,-,h2,-⟩:=Mb.1 h;exact hf h2
noncomputable def Pk(l:GLaw):GLawError:=
 if 8<l.Enums.length then⟨4,1,8,0⟩
 else match ff (fun i=>match l.Enums[i]? with|some x=>if(bj l i x).1=0 then none else some (⟨(bj l i x).1,1,(i:Int),(bj l i x).2⟩:GLawError)|none=>none) l.Enums.length with
  |some v=>v
  |none=>
   if 8<l.Tables.length then⟨4,2,8,0⟩
   else match ff (fun i=>match l.Tables[i]? with|some x=>if(bo l i x).1=0 then none else some (⟨(bo l i x).1,2,(i:Int),(bo l i x).2⟩:GLawError)|none=>none) l.Tables.length with
    |some v=>v
    |none=>
     if 4<l.Scopes.length then⟨4,3,4,0⟩
     else(ff (fun i=>match l.Scopes[i]? with|some x=>if(Fl l i x).1=0 then none else some (I8 i (Fl l i x))|none=>none) l.Scopes.length).getD ⟨0,0,0,0⟩
theorem Ht{f:Nat→Option GLawError}(hf:∀{k v},f k=some v→v.Code≠0) {n:Nat}{v:GLawError}(h:ff f n=some v):v.Code≠0:=by
 obtain⟨k,-,h2,-⟩:=Mb.1 h;exact hf h2
theorem EH{l:GLaw}{k:Nat}{v:GLawError}(h:(match l.Enums[k]? with|some x=>if(bj l k x).1=0 then none else some (⟨(bj l k x).1,1,(k:Int),(bj l k x).2⟩:GLawError)|none=>none)=some v):v.Code≠0:=by
 split at h
 ·split at h
  ·cases h
  ·injection h with h;subst h;assumption
 ·cases h
theorem QG{l:GLaw}{k:Nat}{v:GLawError}(h:(match l.Tables[k]? with|some x=>if(bo l k x).1=0 then none else some (⟨(bo l k x).1,2,(k:Int),(bo l k x).2⟩:GLawError)|none=>none)=some v):v.Code≠0:=by
 split at h
 ·split at h
  ·cases h
  ·injection h with h;subst h;assumption
 ·cases h
theorem Rj{l:GLaw}(h:LawOk l):Gi l=some (Pk l):=by
 have hne:=h.ne;have hnt:=h.nt;have hns:=h.ns;have le:ia (mh l) 0=some (ui () (ff (fun i=>match l.Enums[i]? with|some x=>if(bj l i x).1=0 then none else some (⟨(bj l i x).1,1,(i:Int),(bj l i x).2⟩:GLawError)|none=>none) l.Enums.length)):=
  Uh (fun k=>(k:Int)) _ _ _ (fun k hk _=>by
   unfold mh;rw[if_pos (by omega),Na hk,haa,oy h hk,haa,iaa hk,La (by omega)];dsimp only;by_cases hz:(bj l k l.Enums[k]).1=0
   ·rw[if_neg (by simpa using hz),if_pos hz];rfl
   ·rw[if_pos hz,if_neg hz];rfl) (fun _=>by unfold mh;simp)
 have ls:ia (vg l) 0=some (ui () (ff (fun i=>match l.Scopes[i]? with|some x=>if(Fl l i x).1=0 then none else some (I8 i (Fl l i x))|none=>none) l.Scopes.length)):=
  Uh (fun k=>(k:Int)) _ _ _ (fun k hk _=>by
   unfold vg;rw[if_pos (by omega),xw h hk,haa,iaa hk,La (by omega)];dsimp only;by_cases hz:(Fl l k l.Scopes[k]).1=0
   ·rw[if_neg (by simpa using hz),if_pos hz];rfl
   ·rw[if_pos hz,if_neg hz];rfl) (fun _=>by unfold vg;simp)
 unfold Gi Am zl ql Pk;by_cases h8:8<l.Enums.length
 ·rw[if_pos (by omega),if_pos h8];rfl
 rw[if_neg (by omega),if_neg h8,le]
 cases hf1:ff (fun i=>match l.Enums[i]? with|some x=>if(bj l i x).1=0 then none else some (⟨(bj l i x).1,1,(i:Int),(bj l i x).2⟩:GLawError)|none=>none) l.Enums.length with
 |some v=>
  have:=Ht (f:=fun i=>match l.Enums[i]? with|some x=>if(bj l i x).1=0 then none else some (⟨(bj l i x).1,1,(i:Int),(bj l i x).2⟩:GLawError)|none=>none) EH hf1;simp only[ui,haa];rw[if_pos this]
 |none=>
  simp only[ui,haa];rw[if_neg (by simp)];by_cases h8:8<l.Tables.length
  ·rw[if_pos (by omega),if_pos h8];rfl
  rw[if_neg (by omega),if_neg h8,qK h]
  cases hf2:ff (fun i=>match l.Tables[i]? with|some x=>if(bo l i x).1=0 then none else some (⟨(bo l i x).1,2,(i:Int),(bo l i x).2⟩:GLawError)|none=>none) l.Tables.length with
  |some v=>
   have:=Ht (f:=fun i=>match l.Tables[i]? with|some x=>if(bo l i x).1=0 then none else some (⟨(bo l i x).1,2,(i:Int),(bo l i x).2⟩:GLawError)|none=>none) QG hf2;simp only[ui,haa];rw[if_pos this]
  |none=>
   simp only[ui,haa];rw[if_neg (by simp)];by_cases h8:4<l.Scopes.length
   ·rw[if_pos (by omega),if_pos h8];rfl
   rw[if_neg (by omega),if_neg h8,ls];cases ff (fun i=>match l.Scopes[i]? with|some x=>if(Fl l i x).1=0 then none else some (I8 i (Fl l i x))|none=>none) l.Scopes.length<;>rfl
end Go.Proofs.Dev
namespace Go.Proofs.Dev
open Go Go.Tm
structure Valid (l:GLaw):Prop where
 e:∀i (h:i<l.Enums.length),(bj l i l.Enums[i]).1=0
 t:∀i (h:i<l.Tables.length),(bo l i l.Tables[i]).1=0
 s:∀i (h:i<l.Scopes.length),(Fl l i l.Scopes[i]).1=0
 ne:l.Enums.length≤8
 nt:l.Tables.length≤8
 ns:l.Scopes.length≤4
theorem PA{l:GLaw}(h:(Pk l).Code=0):Valid l:=by
 unfold Pk at h;split at h
 ·simp at h
 rename_i h1;split at h
 ·rename_i v hv;exact(Ht (f:=fun i=>match l.Enums[i]? with|some x=>if(bj l i x).1=0 then none else some (⟨(bj l i x).1,1,(i:Int),(bj l i x).2⟩:GLawError)|none=>none) EH hv h).elim
 rename_i he;split at h
 ·simp at h
 rename_i h2;split at h
 ·rename_i v hv;exact(Ht (f:=fun i=>match l.Tables[i]? with|some x=>if(bo l i x).1=0 then none else some (⟨(bo l i x).1,2,(i:Int),(bo l i x).2⟩:GLawError)|none=>none) QG hv h).elim
 rename_i ht;split at h
 ·simp at h
 rename_i h3;refine⟨fun i hi=>?_,fun i hi=>?_,fun i hi=>?_,by omega,by omega,by omega⟩
 ·have:=pb.1 he i hi;rw[iaa hi]at this;dsimp only at this;split at this
  ·assumption
  ·cases this
 ·have:=pb.1 ht i hi;rw[iaa hi]at this;dsimp only at this;split at this
  ·assumption
  ·cases this
 ·generalize hf:ff _ l.Scopes.length=o at h
  cases o with
  |some v=>
   rw[Qab]at h;obtain⟨k,k1,k2,-⟩:=Mb.1 hf;rw[iaa k1]at k2;dsimp only at k2;split at k2
   ·cases k2
   ·rename_i hne;injection k2 with k2;subst k2;exact(hne h).elim
  |none=>
   have:=pb.1 hf i hi;rw[iaa hi]at this;dsimp only at this;split at this
   ·assumption
   ·cases this
theorem Valid.rows{l:GLaw}(h:Valid l):∀x∈l.Tables,x.Rows.length≤64:=by
 intro x hx;obtain⟨i,hi,rfl⟩:=Faa hx;have:=h.t i hi;unfold bo at this;split at this
 ·simp at this
 split at this
 ·simp at this
 split at this
 ·rename_i h2;unfold Ym at h2;split at h2
  ·simp at h2
  ·omega
 ·rename_i h2;exact(h2 this).elim
end Go.Proofs.Dev
namespace Go.Proofs.Dev
open Go Go.Tm
theorem Cv{n:Nat}(hn:n≤1048576) (bad:Nat→Bool) {step:Int→Option (Ex Int Unit Bool)}(hstep:∀i:Nat,i<n→step (i:Int)=if bad i=true then some (.ret false)else some (.go (ca .i64 ((i:Int)+1)))) (hend:step (n:Int)=some (.brk ())) :
 (ia step 0=some (.inr false))∨(ia step 0=some (.inl ())∧∀i,i<n→bad i=false):=by
 have h:=Uh (step:=step) (x0:=0) (fun i=>(i:Int)) (fun i=>if bad i=true then some false else none) n () (fun i hi _=>by
  rw[hstep i hi,La (by omega)];cases bad i<;>rfl) (fun _=>hend)
 cases hf:ff (fun i=>if bad i=true then some false else none) n with
 |none=>
  right;rw[hf]at h;refine⟨h,fun i hi=>?_⟩;have:=pb.1 hf i hi
  cases hb:bad i with
  |false=>rfl
  |true=>simp[hb]at this
 |some v=>
  left;rw[hf]at h;obtain⟨k,-,k2,-⟩:=Mb.1 hf;split at k2
  ·injection k2 with k2;subst k2;exact h
  ·cases k2
structure SmallSc (s:GScope):Prop where
 nm:s.Name.size≤80
 ins:s.Inputs.length≤14
 defs:s.Defs.length≤14
 rules:s.Rules.length≤60
 i:∀f∈s.Inputs,f.Name.size≤80
 d:∀f∈s.Defs,f.Name.size≤80
 r:∀r∈s.Rules,r.Name.size≤80∧r.Source.size≤80∧r.Guard.length≤50∧r.Value.length≤50
theorem nv(s:GScope):∃b,tf s=some b∧(b=true→SmallSc s):=by
 unfold tf;by_cases h1:80<(s.Name.size:Int)
 ·exact⟨false,by simp[h1],by simp⟩
 by_cases h2:14<(s.Inputs.length:Int)
 ·exact⟨false,by simp[h1,h2],by simp⟩
 by_cases h3:14<(s.Defs.length:Int)
 ·exact⟨false,by simp[h1,h2,h3],by simp⟩
 by_cases h4:60<(s.Rules.length:Int)
 ·exact⟨false,by simp[h1,h2,h3,h4],by simp⟩
 have hc:(if¬80<(s.Name.size:Int)then if¬14<(s.Inputs.length:Int)then if¬14<(s.Defs.length:Int)then some (decide (60<(s.Rules.length:Int)))else some true else some true else some true)=some false:=by
  rw[if_pos h1,if_pos h2,if_pos h3,decide_eq_false h4]
 rw[hc,haa,if_neg (by simp)];rcases Cv (n:=s.Inputs.length) (by omega) (fun i=>match s.Inputs[i]? with|some f=>decide (80<(f.Name.size:Int))|none=>false) (step:=sg s) (fun i hi=>by
  unfold sg;rw[if_pos (by omega),Na hi,haa,iaa hi];simp only[decide_eq_true_eq]) (by unfold sg;simp)with k|⟨k,k1⟩
 ·exact⟨false,by rw[k];rfl,by simp⟩
 rw[k,haa];dsimp only;rcases Cv (n:=s.Defs.length) (by omega) (fun i=>match s.Defs[i]? with|some f=>decide (80<(f.Name.size:Int))|none=>false) (step:=mg s) (fun i hi=>by
  unfold mg;rw[if_pos (by omega),Na hi,haa,iaa hi];simp only[decide_eq_true_eq]) (by unfold mg;simp)with k|⟨k,k2⟩
 ·exact⟨false,by rw[k];rfl,by simp⟩
 rw[k,haa];dsimp only;rcases Cv (n:=s.Rules.length) (by omega) (fun i=>match s.Rules[i]? with|some r=>decide (80<(r.Name.size:Int)∨80<(r.Source.size:Int)∨50<(r.Guard.length:Int)∨50<(r.Value.length:Int))|none=>false) (step:=cg s) (fun i hi=>by
  unfold cg;rw[if_pos (by omega),Na hi,haa,iaa hi];generalize s.Rules[i]=r;by_cases r1:80<(r.Name.size:Int)
  ·simp[r1]
  by_cases r2:80<(r.Source.size:Int)
  ·simp[r1,r2]
  by_cases r3:50<(r.Guard.length:Int)
  ·simp[r1,r2,r3]
  ·simp[r1,r2,r3]) (by unfold cg;simp)with k|⟨k,k3⟩
 ·exact⟨false,by rw[k];rfl,by simp⟩
 rw[k,haa];refine⟨true,rfl,fun _=>⟨by omega,by omega,by omega,by omega,?_,?_,?_⟩⟩
 ·intro f hf;obtain⟨i,hi,rfl⟩:=Faa hf;have:=k1 i hi;rw[iaa hi]at this;simp at this;omega
 ·intro f hf;obtain⟨i,hi,rfl⟩:=Faa hf;have:=k2 i hi;rw[iaa hi]at this;simp at this;omega
 ·intro r hr;obtain⟨i,hi,rfl⟩:=Faa hr;have:=k3 i hi;rw[iaa hi]at this;simp only[decide_eq_false_iff_not]at this;omega
def Vm(l:GLaw):Nat→Int
 |0=>0
 |k+1=>match l.Tables[k]? with|some t=>ca .i64 (Vm l k+(t.Rows.length:Int))|none=>Vm l k
structure SmallL (l:GLaw):Prop where
 ne:l.Enums.length≤9
 nt:l.Tables.length≤9
 ns:l.Scopes.length≤5
 e:∀x∈l.Enums,x.Name.size≤80∧x.Members.length≤20∧∀m∈x.Members,m.size≤80
 t:∀x∈l.Tables,x.Name.size≤80
 s:∀x∈l.Scopes,SmallSc x
 rt:∀i,i<l.Tables.length→Vm l (i+1)≤150
def Uq(l:GLaw):Nat→Int
 |0=>0
 |k+1=>match l.Scopes[k]? with|some t=>ca .i64 (Uq l k+(t.Rules.length:Int))|none=>Uq l k
def vN(l:GLaw) (i:Nat):Bool:=match l.Enums[i]? with|some x=>decide (80<(x.Name.size:Int)) || decide (20<(x.Members.length:Int)) || (x.Members.any fun m=>decide (80<(m.size:Int)))|none=>false
theorem VD{l:GLaw}{i:Nat}(hi:i<l.Enums.length):vN l i=(decide (80<(l.Enums[i].Name.size:Int)) || decide (20<(l.Enums[i].Members.length:Int)) || (l.Enums[i].Members.any fun m=>decide (80<(m.size:Int)))):=by
 unfold vN;rw[iaa hi]
theorem qy(l:GLaw):∃b,Wk l=some b∧(b=true→SmallL l):=by
 unfold Wk;by_cases h1:9<(l.Enums.length:Int)
 ·exact⟨false,by simp[h1],by simp⟩
 by_cases h2:9<(l.Tables.length:Int)
 ·exact⟨false,by simp[h1,h2],by simp⟩
 by_cases h3:5<(l.Scopes.length:Int)
 ·exact⟨false,by simp[h1,h2,h3],by simp⟩
 have hc:(if¬9<(l.Enums.length:Int)then if¬9<(l.Tables.length:Int)then some (decide (5<(l.Scopes.length:Int)))else some true else some true)=some false:=by
  rw[if_pos h1,if_pos h2,decide_eq_false h3]
 rw[hc,haa,if_neg (by simp)];have hin:∀i (hi:i<l.Enums.length),l.Enums[i].Members.length≤20→ia (Vf l (i:Int)) 0=some (if(l.Enums[i].Members.any fun m=>decide (80<(m.size:Int)))=true then .inr (.ret false)else .inl ()):=by
  intro i hi hm;have h:=Uh (step:=Vf l (i:Int)) (x0:=0) (fun k=>(k:Int)) (fun k=>if(l.Enums[i].Members[k]?.any fun m=>decide (80<(m.size:Int)))=true then some (Ex.ret false)else none) l.Enums[i].Members.length () (fun k hk _=>by
   unfold Vf;rw[Na hi,haa,if_pos (by omega),Na hk,haa,iaa hk,La (by omega)];simp only[Dac,decide_eq_true_eq];by_cases hb:80<(l.Enums[i].Members[k].size:Int)
   ·rw[if_pos hb,if_pos hb];rfl
   ·rw[if_neg hb,if_neg hb];rfl) (fun _=>by unfold Vf;rw[Na hi,haa,if_neg (by omega)])
  rw[h,←FH (g:=fun _=>(Ex.ret false:Ex Int Unit Bool))]
  cases hf:ff (fun k=>if(l.Enums[i].Members[k]?.any fun m=>decide (80<(m.size:Int)))=true then some (Ex.ret false:Ex Int Unit Bool)else none) l.Enums[i].Members.length with
  |none=>rfl
  |some v=>
   obtain⟨k,-,k2,-⟩:=Mb.1 hf;split at k2
   ·injection k2 with k2;subst k2;rfl
   ·cases k2
 rcases Cv (n:=l.Enums.length) (by omega) (vN l) (step:=bh l) (fun i hi=>by
  have hin:=hin i hi;unfold bh;rw[if_pos (by omega),Na hi,haa,VD hi];generalize l.Enums[i]=x at hin⊢;by_cases r1:80<(x.Name.size:Int)
  ·simp[r1]
  by_cases r2:20<(x.Members.length:Int)
  ·simp[r1,r2]
  ·rw[if_pos r1,haa,if_neg (by simpa using r2),hin (by omega),haa];generalize (x.Members.any fun m=>decide (80<(m.size:Int)))=c;cases c
   ·rw[if_neg (show¬(decide (80<(x.Name.size:Int)) || decide (20<(x.Members.length:Int)) || false)=true by simp only[Bool.or_false,xab,decide_eq_true_eq];omega)];rfl
   ·rw[if_pos (show(decide (80<(x.Name.size:Int)) || decide (20<(x.Members.length:Int)) || true)=true by simp)];rfl) (by unfold bh;simp)with k|⟨k,k1⟩
 ·exact⟨false,by rw[k];rfl,by simp⟩
 rw[k,haa];dsimp only;have hT:=Uh (step:=Sg l) (x0:=(0,0)) (fun i=>(Vm l i,(i:Int))) (fun i=>match l.Tables[i]? with|some x=>if(decide (80<(x.Name.size:Int)) || decide (150<Vm l (i+1)))=true then some false else none|none=>none) l.Tables.length () (fun i hi _=>by
  unfold Sg;simp only[Vm,iaa hi];rw[if_pos (by omega),Na hi,haa,La (by omega)];generalize l.Tables[i]=x;generalize ca .i64 (Vm l i+(x.Rows.length:Int))=w;by_cases r1:80<(x.Name.size:Int)
  ·simp[r1,jw]
  ·by_cases r2:150<w<;>simp[r1,r2,jw]) (fun _=>by unfold Sg;simp)
 rw[hT,haa]
 cases hf:ff (fun i=>match l.Tables[i]? with|some x=>if(decide (80<(x.Name.size:Int)) || decide (150<Vm l (i+1)))=true then some false else none|none=>none) l.Tables.length with
 |some v=>
  refine⟨false,?_,by simp⟩;obtain⟨j,j1,j2,-⟩:=Mb.1 hf;rw[iaa j1]at j2;dsimp only at j2;split at j2
  ·injection j2 with j2;subst j2;rfl
  ·cases j2
 |none=>
  have ht2:=pb.1 hf;dsimp only[ui];have hS:=Uh (step:=Ug l) (x0:=(0,0)) (fun i=>(Uq l i,(i:Int))) (fun i=>match l.Scopes[i]? with|some x=>if(decide (60<Uq l (i+1)) || !((tf x).getD true))=true then some false else none|none=>none) l.Scopes.length () (fun i hi _=>by
   unfold Ug;simp only[Uq,iaa hi];rw[if_pos (by omega),Na hi,haa,La (by omega)];obtain⟨b,hb,-⟩:=nv l.Scopes[i];rw[hb];generalize ca .i64 (Uq l i+(l.Scopes[i].Rules.length:Int))=w;by_cases r1:60<w
   ·simp[r1,jw]
   ·cases b<;>simp[r1,jw]) (fun _=>by unfold Ug;simp)
  rw[hS,haa]
  cases hf2:ff (fun i=>match l.Scopes[i]? with|some x=>if(decide (60<Uq l (i+1)) || !((tf x).getD true))=true then some false else none|none=>none) l.Scopes.length with
  |some v=>
   refine⟨false,?_,by simp⟩;obtain⟨j,j1,j2,-⟩:=Mb.1 hf2;rw[iaa j1]at j2;dsimp only at j2;split at j2
   ·injection j2 with j2;subst j2;rfl
   ·cases j2
  |none=>
   have hs2:=pb.1 hf2;refine⟨true,rfl,fun _=>⟨by omega,by omega,by omega,?_,?_,?_,fun i hi=>?_⟩⟩
   ·intro x hx;obtain⟨i,hi,rfl⟩:=Faa hx;have:=k1 i hi;rw[VD hi]at this;simp only[Bool.or_eq_false_iff,decide_eq_false_iff_not]at this;refine⟨by omega,by omega,fun m hm=>?_⟩;have h5:=List.any_eq_false.1 this.2 m hm;simp at h5;omega
   ·intro x hx;obtain⟨i,hi,rfl⟩:=Faa hx;have:=ht2 i hi;rw[iaa hi]at this;dsimp only at this;split at this
    ·cases this
    ·rename_i hn;simp only[xab,decide_eq_true_eq,not_or]at hn;omega
   ·intro x hx;obtain⟨i,hi,rfl⟩:=Faa hx;have:=hs2 i hi;rw[iaa hi]at this;dsimp only at this;split at this
    ·cases this
    ·rename_i hn;obtain⟨b,hb,hb2⟩:=nv l.Scopes[i];rw[hb]at hn;simp at hn;exact hb2 hn.2
   ·have:=ht2 i hi;rw[iaa hi]at this;dsimp only at this;split at this
    ·cases this
    ·rename_i hn;simp only[xab,decide_eq_true_eq,not_or]at hn;omega
theorem cC{l:GLaw}(hr:∀t∈l.Tables,t.Rows.length≤1125899906842624) (hn:l.Tables.length≤9):∀n,n≤l.Tables.length→0≤Vm l n∧Vm l n≤1125899906842624*n∧∀i (hi:i<l.Tables.length),i<n→(l.Tables[i].Rows.length:Int)≤Vm l n
 |0,_=>by simp[Vm]
 |n+1,h=>by
  obtain⟨h1,h2,h3⟩:=cC hr hn n (by omega);have hb:=hr l.Tables[n] (by simp);simp only[Vm,iaa (show n<l.Tables.length by omega)];rw[wid (by omega) (by omega)];refine⟨by omega,by omega,fun i hi hin=>?_⟩;rcases cae.1 hin with h4|rfl
  ·have:=h3 i hi h4;omega
  ·omega
theorem SmallL.rows{l:GLaw}(h:SmallL l) (hr:∀t∈l.Tables,t.Rows.length≤1125899906842624):∀t∈l.Tables,t.Rows.length≤150:=by
 intro t ht;obtain⟨i,hi,rfl⟩:=Faa ht;obtain⟨-,-,h3⟩:=cC hr h.nt (i+1) hi;have:=h3 i hi (by omega);have:=h.rt i hi;omega
def MO(l:GLaw):Prop:=∀s∈l.Scopes,∀r∈s.Rules,(∀n∈r.Guard,Kc n)∧∀n∈r.Value,Kc n
theorem SmallL.ok{l:GLaw}(h:SmallL l) (ht:MO l):LawOk l:=by
 have hne:=h.ne;have hnt:=h.nt;have hns:=h.ns;refine⟨by omega,by omega,by omega,fun x hx=>?_,fun x hx=>?_,fun x hx=>?_⟩
 ·obtain⟨a,b,c⟩:=h.e x hx;exact⟨by omega,fun m hm=>by have:=c m hm;omega⟩
 ·have:=h.t x hx;omega
 ·obtain⟨a,b,c,d,e,f,g⟩:=h.s x hx;refine⟨by omega,⟨by omega,by omega,fun r hr=>by have:=g r hr;omega⟩,by omega,fun q hq=>by have:=e q hq;omega,fun q hq=>by have:=f q hq;omega,fun r hr=>?_⟩;have:=g r hr;obtain⟨t1,t2⟩:=ht x hx r hr;exact⟨by omega,by omega,t1,t2⟩
end Go.Proofs.Dev
