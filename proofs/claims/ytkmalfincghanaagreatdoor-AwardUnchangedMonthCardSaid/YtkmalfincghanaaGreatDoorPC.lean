/-
  The functions as plain partial functions, and plain lemmas about them: no condition.
-/
import Derived.Test.YtkmalfincghanaaGreatDoorPB
open Bool renaming and_eq_true→paa,false_eq_true→naa,not_true→Bac,true_and→Oab
open Classical renaming not_not→saa
open Decidable renaming not_not→Sab
open Int renaming add_assoc→naf,add_zero→raf,cast_ofNat_Int→Bae,le_refl→kad,mul_neg→Zae,natAbs_mul→wae,natCast_add→Oad,natCast_one→Pad,natCast_zero→aad,neg_neg→waf,neg_tmod→saf,reduceBEq→qaa,reduceEq→oaa,tdiv→iab,tdiv_eq_ediv_of_nonneg→Tad,tmod→Lab,tmod_eq_emod_of_nonneg→mad,tmod_lt_of_pos→Cae
open List renaming append_assoc→jab,drop_eq_getElem_cons→nab,drop_eq_nil_of_le→Pac,filter_append→uab,filter_cons→Gab,filter_eq_nil_iff→fad,flatMap_cons→dae,getElem?_eq_getElem→iaa,getElem_drop→Iae,getElem_mem→raa,getElem_of_mem→Faa,getElem_take→zac,length_append→Haa,length_cons→Daa,length_drop→mac,length_filter_le→Maa,length_map→gab,length_nil→Hab,length_take→Qaa,mem_append→Jaa,mem_singleton→Paa,nil_append→sab,pairwise_iff_getElem→Cac,replicate→maa,take_add_one→Zaa,take_length→dab
open Nat renaming add_zero→Jab,div_le_self→yad,le_refl→yaa,lt_or_ge→Taa,min_eq_left→Rad,mod_lt→Qac,mul_le_mul→dad,zero_add→Xab
open Option renaming bind→jaa,bind_some→haa
set_option linter.all false
set_option maxRecDepth 10000
set_option maxHeartbeats 1000000
namespace Go.Proofs.Dev
open Go Go.Tm
def tQ(r:GDateRange):Bool:=decide (0≤r.From)&&(decide (r.To≤109573)&&decide (r.From<r.To))
theorem kL{a b c:Prop} [Decidable a] [Decidable b] [Decidable c] {k:Bool→Option Bool}:((jaa (if a then if b then some (decide c)else some false else some false) fun j=>some j).bind k)=k (decide a&&(decide b&&decide c)):=by
 by_cases h1:a<;>by_cases h2:b<;>simp[h1,h2]
theorem iq(r:GDateRange):Yh r=some (tQ r):=by
 unfold Yh nc tQ;rw[kL];by_cases h1:0≤r.From<;>by_cases h2:r.From≤r.To<;>by_cases h3:r.To≤109573<;>simp[h1,h2,h3]<;>omega
theorem ko(r:GDateRange):Xb r=some (tQ r):=by
 unfold Xb nc tQ;rw[kL];by_cases h1:0≤r.From<;>by_cases h2:r.From≤r.To<;>by_cases h3:r.To≤109573<;>simp[h1,h2,h3]<;>omega
def ends:List GDateRange→List Int
 |[]=>[]
 |r::l=>(if tQ r=true then [r.From,r.To]else [])++ends l
theorem QO{a b:List GDateRange}:ends (a++b)=ends a++ends b:=by
 induction a with
 |nil=>rfl
 |cons x l ih=>simp[ends,ih]
theorem An:∀l:List GDateRange,(ends l).length≤2*l.length
 |[]=>by simp[ends]
 |r::l=>by
  have:=An l;simp only[ends,Haa,Daa];split<;>simp<;>omega
theorem Kl{α:Type}{l:List α}{i:Nat}(h:i<l.length):l.take (i+1)=l.take i++[l[i]]:=by
 rw[Zaa,iaa h];rfl
theorem Rz{α β:Type}{n:Nat}{l:List α}(hn:n=l.length) {step:List β×Int→Option (Ex (List β×Int) (List β) Unit)}(g:List α→List β) (x0:List β)
 (hgo:∀i (h:i<l.length),step (x0++g (l.take i),(i:Int))=some (.go (x0++g (l.take (i+1)),((i+1:Nat):Int)))) (hend:∀x,step (x,(n:Int))=some (.brk x)) (h0:g []=[]):ia step (x0,0)=some (.inl (x0++g l)):=by
 subst hn;refine wi (fun i=>(x0++g (l.take i),(i:Int))) l.length _ (fun i hi=>hgo i hi) ?_ (by simp[h0]);rw[hend,dab]
theorem tF{l:List GDateRange}(hl:l.length≤1048576) {step:List Int×Int→Option (Ex (List Int×Int) (List Int) Unit)}(hs:step=ud l∨step=Fc l):ia step ([],0)=some (.inl (ends l)):=by
 have h:=Rz (step:=step) (l:=l) rfl ends [] (fun i hi=>by
  have h1:=An (l.take i);have h2:(l.take i).length≤l.length:=by rw[Qaa];omega
  rw[Kl hi,QO];rcases hs with rfl|rfl
  ·unfold ud;dsimp only;rw[if_pos (by omega),Na hi,haa,ko,haa,La (by omega)];cases hb:tQ l[i]
   ·simp[ends,hb]
   ·simp[ends,hb,Sj (show((ends (l.take i)).length + [l[i].From,l[i].To].length)*8≤140737488355328 by simp;omega)]
  ·unfold Fc;dsimp only;rw[if_pos (by omega),Na hi,haa,ko,haa,La (by omega)];cases hb:tQ l[i]
   ·simp[ends,hb]
   ·simp[ends,hb,Sj (show((ends (l.take i)).length + [l[i].From,l[i].To].length)*8≤140737488355328 by simp;omega)]) (fun x=>by
  rcases hs with rfl|rfl
  ·unfold ud;simp
  ·unfold Fc;simp) rfl
 simpa using h
theorem TM{l:List Int}(h:l.length≤4194304):((Ka l).bind fun x=>(Aa x).bind fun y=>some y)=some (Te l):=by
 unfold Ka Aa;rw[if_pos (by omega),haa,if_pos (by simp;omega),haa,Vp]
theorem kr{l:List GDateRange}(hl:l.length≤1048576):bf l=some (Te (ends l)):=by
 have:=An l;unfold bf;rw[tF hl (.inl rfl),haa];exact TM (by omega)
theorem xP{l:List GDateRange}(hl:l.length≤1048576):Ge l=some (Te (ends l)):=by
 have:=An l;unfold Ge;rw[tF hl (.inr rfl),haa];exact TM (by omega)
def Hg(x:Int):Bool:=decide (1≤x)&&decide (x≤109572)
def known(t1:Int) (f:GFact):Bool:=decide (f.Recorded≤t1)&&tQ f.Valid
def mB(t1:Int) (l:List GFact):List GDateRange:=(l.filter (known t1)).map (·.Valid)
theorem RC(t1:Int) (l:List GFact):(mB t1 l).length≤l.length:=by
 unfold mB;rw[gab];exact Maa _ _
theorem rR{t1:Int}{a b:List GFact}:mB t1 (a++b)=mB t1 a++mB t1 b:=by simp[mB]
theorem Gt(l:List Int):(Te l).length≤l.length:=(Rf l).2.1
theorem fu{l:List GFact}(t1:Int) (hl:l.length≤65536):Yg l t1=some ((Te (ends (mB t1 l))).filter Hg):=by
 unfold Yg;have e1:=Rz (step:=Ye l t1) (l:=l) rfl (mB t1) [] (fun i hi=>by
  have h1:=RC t1 (l.take i);have h2:(l.take i).length≤l.length:=by rw[Qaa];omega
  have hk1:mB t1 [l[i]]=if known t1 l[i]=true then [l[i].Valid]else []:=by
   unfold mB;cases hb:known t1 l[i]<;>simp[hb]
  rw[Kl hi,rR,hk1];have ha:=Sj (b:=16) (show((mB t1 (l.take i)).length + [l[i].Valid].length)*16≤140737488355328 by simp;omega);generalize mB t1 (l.take i)=w at *;unfold Ye;dsimp only;rw[if_pos (by omega),Na hi,haa,iq,La (by omega)];unfold known;by_cases hr:l[i].Recorded≤t1
  ·cases hb:tQ l[i].Valid
   ·simp[hr]
   ·simp[hr,ha]
  ·simp[hr]) (fun x=>by unfold Ye;simp) rfl
 rw[sab]at e1;have hk:=RC t1 l;have he:=An (mB t1 l);have hd:=Gt (ends (mB t1 l));rw[e1,haa];dsimp only;rw[kr (by omega),haa];generalize Te (ends (mB t1 l))=q at *;have e2:=Rz (step:=Ze q) (l:=q) rfl (fun l=>l.filter Hg) [] (fun i hi=>by
  have h1:=Maa Hg (q.take i);have h2:(q.take i).length≤q.length:=by rw[Qaa];omega
  rw[Kl hi,uab];unfold Ze;dsimp only;rw[if_pos (by omega),Na hi,haa,La (by omega)];have ha:=Sj (b:=8) (show(((q.take i).filter Hg).length + [q[i]].length)*8≤140737488355328 by simp;omega);by_cases h3:1≤q[i]<;>by_cases h4:q[i]≤109572<;>simp[Hg,h3,h4]<;>(first|exact ha|(rw[show app 8 (List.filter Hg (List.take i q)) [q[i]]=_ from ha];rfl)|skip)) (fun x=>by unfold Ze;simp) rfl
 rw[sab]at e2;rw[e2];rfl
end Go.Proofs.Dev
namespace Go.Proofs.Dev
open Go Go.Tm
def ou(r:GDateRange) (d:Int):Bool:=sQ r&&(decide (r.From≤d)&&decide (d<r.To))
theorem rh(r:GDateRange) (d:Int):Eb r d=some (ou r d):=by
 unfold Eb ou;rw[Vl,haa];cases sQ r
 ·rfl
 ·by_cases h:r.From≤d<;>simp[h]
def oK(def_ date:Int) (r:GRule):Bool:=decide (r.Def=def_)&&ou r.Valid date
def Cl(rules:List GRule) (q:GRule→Bool):Nat→List Int×List Int×List Int
 |0=>([],[],maa rules.length 0)
 |i+1=>
  match rules[i]? with
  |none=>Cl rules q i
  |some r=>
   let p:=Cl rules q i
   let anc:=if 0≤r.Parent∧r.Parent<(i:Int)then(p.2.2[r.Parent.toNat]?).getD 0 else -1
   if q r=true then(p.1++[(i:Int)],p.2.1++[anc],(p.2.2.set i anc).set i (p.1.length:Int))else(p.1,p.2.1,p.2.2.set i anc)
theorem dw{rules:List GRule}{q:GRule→Bool}:∀i,(Cl rules q i).2.2.length=rules.length∧(Cl rules q i).1.length≤i∧(Cl rules q i).2.1.length=(Cl rules q i).1.length
 |0=>by simp[Cl]
 |i+1=>by
  obtain⟨h1,h2,h3⟩:=dw (rules:=rules) (q:=q) i;unfold Cl;split
  ·exact⟨h1,by omega,h3⟩
  ·dsimp only;split<;>simp[h1,h3]<;>omega
theorem IA{rules:List GRule}{q:GRule→Bool}:∀i,∀x∈(Cl rules q i).1,0≤x∧x<(rules.length:Int)∧x<(i:Int)
 |0=>by simp[Cl]
 |i+1=>by
  have h:=IA (rules:=rules) (q:=q) i;unfold Cl;split
  ·intro x hx;have:=h x hx;omega
  ·rename_i r hr;have hi:=(List.getElem?_eq_some_iff.1 hr).1;dsimp only;split
   ·intro x hx;simp only[Jaa,Paa]at hx;rcases hx with hx|rfl
    ·have:=h x hx;omega
    ·omega
   ·intro x hx;have:=h x hx;omega
theorem Rr{rules:List GRule}(hr:rules.length≤1048576) {f:GRule→Option Bool}{q:GRule→Bool}(hf:∀r,f r=some (q r)):Sd rules f=some ((Cl rules q rules.length).1,(Cl rules q rules.length).2.1):=by
 unfold Sd;rw[Vx (by omega) (by omega),haa];have hl:ia (Nd rules f) (([]:List Int),([]:List Int),maa rules.length 0,0)=some (.inl ((Cl rules q rules.length).1,(Cl rules q rules.length).2.1)):=by
  refine wi (fun i=>((Cl rules q i).1,(Cl rules q i).2.1,(Cl rules q i).2.2,(i:Int))) rules.length _ (fun i hi=>?_) (by unfold Nd;simp) rfl;obtain⟨h1,h2,h3⟩:=dw (rules:=rules) (q:=q) i;unfold Nd;simp only[Cl,iaa hi];rw[if_pos (by omega),Na hi,haa,La (by omega),hf];generalize rules[i]=r;have hanc:(jaa (α:=Int) (jaa (α:=Bool) (if 0≤r.Parent then some (decide (r.Parent<(i:Int)))else some false) fun j9=>if j9=true then(idx (Cl rules q i).2.2 r.Parent).bind fun x11=>some x11 else some (-1)) fun j12=>some j12)=some (if 0≤r.Parent∧r.Parent<(i:Int)then((Cl rules q i).2.2[r.Parent.toNat]?).getD 0 else -1):=by
   by_cases g1:0≤r.Parent
   ·by_cases g2:r.Parent<(i:Int)
    ·rw[if_pos g1,haa,if_pos (by simpa using g2),if_pos ⟨g1,g2⟩,Tk g1 (by omega),iaa (by omega)];rfl
    ·rw[if_pos g1,haa,if_neg (by simpa using g2),if_neg (by omega)];rfl
   ·rw[if_neg g1,if_neg (by omega)];rfl
  have hanc':(jaa (α:=Bool) (if 0≤r.Parent then some (decide (r.Parent<(i:Int)))else some false) fun j9=>if j9=true then(idx (Cl rules q i).2.2 r.Parent).bind fun x11=>some x11 else some (-1))=some (if 0≤r.Parent∧r.Parent<(i:Int)then((Cl rules q i).2.2[r.Parent.toNat]?).getD 0 else -1):=by
   rw[←hanc];simp
  rw[hanc',haa];generalize (if 0≤r.Parent∧r.Parent<(i:Int)then((Cl rules q i).2.2[r.Parent.toNat]?).getD 0 else -1)=anc;rw[Na (i:=i) (by omega),haa,Dv (by omega),haa,haa];cases q r
  ·simp
  ·rw[if_pos rfl,Na (i:=i) (by simp;omega),haa,Dv (by simp;omega),haa,Sj (by simp;omega),haa,Sj (by simp;omega),haa];rfl
 rw[hl];rfl
end Go.Proofs.Dev
namespace Go.Proofs.Dev
open Go Go.Tm
def DA(y:Int):Bool:=decide (y % 4=0)&&(!decide (y % 100=0) || decide (y % 400=0))
def oj(y m:Int):Int:=if m=2 then(if DA y=true then 29 else 28)else if m=4∨m=6∨m=9∨m=11 then 30 else 31
def Kj(y:Int):Nat→Int
 |0=>0
 |n+1=>Kj y n+oj y (n+1)
def Ef:Nat→Int
 |0=>0
 |n+1=>Ef n+(if DA (1900+n)=true then 366 else 365)
theorem Io{a b:Int}(h:0≤a):a.tmod b=a % b:=mad h
theorem Jo{a b:Int}(h:0≤a):a.tdiv b=a / b:=Tad h
theorem TA{y:Int}(h:0≤y):Tn y=some (DA y):=by
 unfold Tn DA;simp only[Io h];by_cases h1:y % 4=0<;>by_cases h2:y % 100=0<;>by_cases h3:y % 400=0<;>simp[h1,h2,h3]
theorem kc{y m:Int}(h:0≤y) (h1:1≤m) (h2:m≤12):zc y m=some (oj y m):=by
 unfold zc oj;rw[if_pos (by omega),haa,if_neg (by simp;omega),TA h];rw[wid (by omega) (by omega)];have:m=1∨m=2∨m=3∨m=4∨m=5∨m=6∨m=7∨m=8∨m=9∨m=10∨m=11∨m=12:=by omega
 rcases this with rfl|rfl|rfl|rfl|rfl|rfl|rfl|rfl|rfl|rfl|rfl|rfl<;>first|(cases DA y<;>simp[idx,mL])|simp[idx,mL]
theorem Ri{y m:Int}:28≤oj y m∧oj y m≤31:=by
 unfold oj;split
 ·split<;>omega
 ·split<;>omega
theorem Wl{y:Int}:∀n,0≤Kj y n∧Kj y n≤31*n
 |0=>by simp[Kj]
 |n+1=>by
  have:=Wl (y:=y) n;have:=Ri (y:=y) (m:=n+1);simp only[Kj];omega
theorem Mn:∀n,0≤Ef n∧Ef n≤366*n
 |0=>by simp[Ef]
 |n+1=>by
  have:=Mn n;simp only[Ef];split<;>omega
theorem zA:∀n:Nat,Ef n=365*n+((1899+n:Int) / 4-(1899+n:Int) / 100+(1899+n:Int) / 400)-460
 |0=>by simp[Ef]
 |n+1=>by
  simp only[Ef,zA n,DA];by_cases h1:(1900+(n:Int)) % 4=0<;>by_cases h2:(1900+(n:Int)) % 100=0<;>by_cases h3:(1900+(n:Int)) % 400=0<;>simp[h1,h2,h3]<;>omega
theorem Ph{n:Nat}(h:n≤1000):Ag (1900+n)=some (Ef n):=by
 unfold Ag qk;simp only[haa];have e1:ca .i64 ((1900+(n:Int))-1)=1899+n:=by rw[wid (by omega) (by omega)];omega
 have e2:ca .i64 ((1900+(n:Int))-1900)=n:=by rw[wid (by omega) (by omega)];omega
 rw[e1,e2];rw[Jo (a:=1899+(n:Int)) (by omega),Jo (a:=1899+(n:Int)) (by omega),Jo (a:=1899+(n:Int)) (by omega)];rw[zA,wid (n:=(1899+(n:Int)) / 4) (by omega) (by omega),wid (n:=(1899+(n:Int)) / 100) (by omega) (by omega),wid (n:=(1899+(n:Int)) / 400) (by omega) (by omega)];have c1:iab 1899 4=474:=by decide
 have c2:iab 1899 100=18:=by decide
 have c3:iab 1899 400=4:=by decide
 rw[c1,c2,c3];simp only[wid (n:=474) (by omega) (by omega),wid (n:=18) (by omega) (by omega),wid (n:=4) (by omega) (by omega),wid (n:=474-18) (by omega) (by omega),wid (n:=474-18+4) (by omega) (by omega)];rw[wid (n:=(1899+(n:Int)) / 4-(1899+(n:Int)) / 100) (by omega) (by omega)];rw[wid (n:=(1899+(n:Int)) / 4-(1899+(n:Int)) / 100+(1899+(n:Int)) / 400) (by omega) (by omega)];rw[wid (n:=(n:Int)*365) (by omega) (by omega)];rw[wid (n:=(n:Int)*365+((1899+(n:Int)) / 4-(1899+(n:Int)) / 100+(1899+(n:Int)) / 400)) (by omega) (by omega)];rw[wid (by omega) (by omega)];congr 1;omega
def sj(n m:Nat):Int:=Ef n+Kj (1900+n) m
theorem Gz{n m:Nat}(hn:n<300) (hm:m<12):ah (1900+n) (m+1) 1=some (sj n m,0):=by
 unfold ah;have hy:=Mn n;have hd:=Ri (y:=1900+n) (m:=(m:Int)+1);rw[if_pos (by omega),if_pos (by omega),if_pos (by omega),if_pos (by omega),if_pos (by omega),kc (by omega) (by omega) (by omega),haa,haa,if_neg (by simp;omega),Ph (by omega),haa];have e:ia (qc (1900+n) (m+1)) (Ef n,0)=some (.inl (sj n m)):=wi (step:=qc (1900+n) (m+1)) (fun i=>(Ef n+Kj (1900+n) i,(i:Int))) m (sj n m) (fun i hi=>by
  unfold qc;dsimp only;rw[wid (n:=(m:Int)+1-1) (by omega) (by omega),if_pos (by omega),La (by omega),kc (by omega) (by omega) (by omega),haa];have:=Wl (y:=1900+n) i;have:=Ri (y:=1900+n) (m:=((i+1:Nat):Int));rw[wid (by omega) (by omega)];simp only[Kj,Oad,Pad,Bae,naf]) (by
  unfold qc;dsimp only;rw[wid (n:=(m:Int)+1-1) (by omega) (by omega),if_neg (by omega)];rfl) (by simp[Kj])
 rw[e];have:=Wl (y:=1900+n) m;simp only[haa,sj];rw[wid (n:=Ef n+Kj (1900+n) m+1) (by omega) (by omega),wid (by omega) (by omega)];congr 2;omega
def ub(t:Int):GDateRange×Int:=if 0≤t∧t≤3599 then(⟨sj (t.toNat / 12) (t.toNat % 12),sj (t.toNat / 12) (t.toNat % 12)+oj (1900+(t.toNat / 12:Nat)) ((t.toNat % 12:Nat)+1)⟩,0)else(⟨0,0⟩,3)
theorem Nq{t:Int}(h:(ub t).2=0):0≤(ub t).1.From∧(ub t).1.From<(ub t).1.To∧(ub t).1.To≤1000000:=by
 unfold ub at h⊢;split
 ·rename_i hc;have:=Mn (t.toNat / 12);have:=Wl (y:=1900+((t.toNat / 12:Nat):Int)) (t.toNat % 12);have:=Ri (y:=1900+((t.toNat / 12:Nat):Int)) (m:=((t.toNat % 12:Nat):Int)+1);simp only[sj];omega
 ·rename_i hc;rw[if_neg hc]at h;simp at h
theorem zK{t:Int}(h1:0≤t) (h2:t≤3599):ca .i64 (1900+ca .i64 (t.tdiv 12))=1900+((t.toNat / 12:Nat):Int)∧ca .i64 (t.tmod 12+1)=((t.toNat % 12:Nat):Int)+1:=by
 rw[Jo h1,Io h1,wid (n:=t / 12) (by omega) (by omega),wid (by omega) (by omega),wid (by omega) (by omega)];omega
theorem iB(t:Int):Nl t=some (decide (0≤t∧t≤3599)):=by
 unfold Nl;by_cases h:0≤t<;>simp[h]
theorem su(t:Int):Pl t=some (ub t):=by
 unfold Pl xr ub;rw[iB,haa];by_cases h:0≤t∧t≤3599
 ·obtain⟨e1,e2⟩:=zK h.1 h.2;have hn:t.toNat / 12<300:=by omega
  have hm:t.toNat % 12<12:=by omega
  have:=Mn (t.toNat / 12);have:=Wl (y:=1900+((t.toNat / 12:Nat):Int)) (t.toNat % 12);have:=Ri (y:=1900+((t.toNat / 12:Nat):Int)) (m:=((t.toNat % 12:Nat):Int)+1);rw[if_neg (by simp[h]),e1,e2,Gz hn hm,haa];simp only[if_neg (show¬(decide (0≤t∧t≤3599)=false) by simp[h]),haa,kc (y:=1900+((t.toNat / 12:Nat):Int)) (m:=((t.toNat % 12:Nat):Int)+1) (by omega) (by omega) (by omega),if_pos h];rw[if_neg (by simp),wid (by simp only[sj];omega) (by simp only[sj];omega)]
 ·rw[if_pos (by simpa using h),if_neg h]
end Go.Proofs.Dev
namespace Go.Proofs.Dev
open Go Go.Tm
def yE(neg:Bool) (mode:Int) (q r d:Nat):Prop:=
 (mode=0∧neg=true∧0<r)∨(mode=1∧neg=false∧0<r)∨(mode=3∧0<r)∨(mode=4∧d≤r+r)∨(mode=5∧(d<r+r∨(d=r+r∧q % 2=1)))
instance (neg:Bool) (mode:Int) (q r d:Nat):Decidable (yE neg mode q r d):=by unfold yE;infer_instance
def Yn(neg:Bool) (mode:Int) (q r d:Nat):Nat:=if yE neg mode q r d then q+1 else q
theorem Ct(neg:Bool) (mode:Int) (q r d:Nat):q≤Yn neg mode q r d∧Yn neg mode q r d≤q+1:=by
 unfold Yn;split<;>omega
def ny(neg:Bool) (n:Nat):Int:=if neg=true then -(n:Int)else n
theorem tT(neg:Bool) (n:Nat):(ny neg n).natAbs=n:=by unfold ny;split<;>omega
theorem GX{n:Int}(h1:0≤n) (h2:n<18446744073709551616):ca .u64 n=n:=by
 simp only[ca];omega
theorem cM(q:Nat):((Lab (q:Int) 2)==1)=decide (q % 2=1):=by
 rw[mad (by omega)];by_cases h:q % 2=1
 ·simp only[h,decide_true,beq_iff_eq];omega
 ·simp only[h,decide_false,beq_eq_false_iff_ne];omega
theorem half{r d q:Nat}:(if¬((d:Int)-r)<r then if(r:Int)=d-r then some (decide (q % 2=1))else some false else some true)=some (decide (d<r+r∨(d=r+r∧q % 2=1))):=by
 by_cases h1:(d:Int)-r<r
 ·rw[if_neg (by simpa using h1)];simp;omega
 ·rw[if_pos h1];by_cases h2:(r:Int)=d-r
  ·rw[if_pos h2];congr 1;rw[decide_eq_decide];omega
  ·rw[if_neg h2];simp;omega
theorem MD{q r d:Nat}(neg:Bool) (mode:Int) (hq:q<9223372036854775808) (hr:r<d) (hd:d<9223372036854775808):pd q r d neg mode=some ((Yn neg mode q r d:Nat):Int):=by
 unfold pd Yn;rw[GX (n:=(d:Int)-r) (by omega) (by omega),GX (n:=(q:Int)+1) (by omega) (by omega),cM,half];by_cases h0:r=0
 ·subst h0;rw[if_pos (by rfl),if_neg (by unfold yE;omega)]
 ·rw[if_neg (by omega)];unfold yE;have hp:0<r:=by omega
  by_cases e0:mode=0
  ·subst e0;cases neg<;>simp[hp]
  by_cases e1:mode=1
  ·subst e1;cases neg<;>simp[hp]
  by_cases e3:mode=3
  ·subst e3;simp[hp]
  by_cases e4:mode=4
  ·subst e4;by_cases h:d≤r+r
   ·rw[show(decide ((d:Int)-r≤r))=true by simp;omega];simp[h]
   ·rw[show(decide ((d:Int)-r≤r))=false by simp;omega];simp[h]
  by_cases e5:mode=5
  ·subst e5;by_cases h:d<r+r∨(d=r+r∧q % 2=1)
   ·simp[h]
   ·simp[h]
  simp[e0,e1,e3,e4,e5]
theorem Xl(n:Int):uf n=some (decide (0≤n∧n≤5)):=by
 unfold uf;by_cases h:0≤n<;>simp[h]
theorem U2{n k x:Int}(hx:x = -k):(jaa (α:=Bool) (if¬k<n then some (decide (n<x))else some true) fun j=>some j)=some (decide (k<n∨n < -k)):=by
 subst hx;by_cases h:k<n<;>simp[h]
theorem lg{n k:Int}(h1:0≤k) (h2:k<9223372036854775808):Jd n k=some (decide (k<n∨n < -k)):=by
 unfold Jd;exact U2 (wid (by omega) (by omega))
theorem nf{n:Int}(h1:-9223372036854775808≤n) (h2:n<9223372036854775808):Vc n=some (n.natAbs:Int):=by
 unfold Vc;by_cases h:n<0
 ·rw[if_pos h];congr 1;simp only[ca];omega
 ·rw[if_neg h,GX (by omega) (by omega)];congr 1;omega
theorem jt{q:Nat}(b:Bool) (h:q<9223372036854775808):Ek q b=some (ny b q):=by
 unfold Ek ny;rw[wid (n:=(q:Int)) (by omega) (by omega)];cases b
 ·simp
 ·simp;rw[wid (by omega) (by omega)]
theorem C9{a b:Nat}(h:0<b) (ha:a<9223372036854775808):quo .u64 (a:Int) (b:Int)=some ((a / b:Nat):Int):=by
 unfold quo;have:=yad a b;rw[if_neg (by omega),Tad (by omega),←Int.natCast_ediv];generalize a / b=c at *;rw[GX (by omega) (by omega)]
theorem N9{a b:Nat}{k:IntKind}(h:0<b):rem k (a:Int) (b:Int)=some ((a % b:Nat):Int):=by
 unfold rem;rw[if_neg (by omega),mad (by omega),←Int.natCast_emod]
def vQ(n d mode:Int):Int×Int:=
 if¬(0≤mode∧mode≤5)then(0,1)else
 if d=0 then(0,12)else
 if(4611686018427387904<n∨n < -4611686018427387904)∨(4611686018427387904<d∨d < -4611686018427387904)then(0,3)else
 (ny (!(decide (n<0)==decide (d<0))) (Yn (!(decide (n<0)==decide (d<0))) mode (n.natAbs / d.natAbs) (n.natAbs % d.natAbs) d.natAbs),0)
theorem H9{a b:Prop} [Decidable a] [Decidable b] {o:Option Bool}(h:o=some (decide b)) {α:Type}{k:Bool→Option α}:(jaa (α:=Bool) ((some (decide a)).bind fun x=>if x=false then o.bind fun y=>some y else some true) k)=k (decide (a∨b)):=by
 subst h;by_cases ha:a<;>by_cases hb:b<;>simp[ha,hb]
theorem mi(n d mode:Int):Pd n d mode=some (vQ n d mode):=by
 unfold Pd vQ;rw[Xl,haa];by_cases hm:0≤mode∧mode≤5
 ·rw[if_neg (by simpa using hm),if_neg (saa.2 hm)];by_cases h0:d=0
  ·rw[if_pos h0,if_pos h0]
  ·rw[if_neg h0,if_neg h0,lg (by omega) (by omega),H9 (lg (by omega) (by omega))];by_cases hb:(4611686018427387904<n∨n < -4611686018427387904)∨(4611686018427387904<d∨d < -4611686018427387904)
   ·rw[if_pos (by simpa using hb),if_pos hb]
   ·rw[if_neg (by simpa using hb),if_neg hb,nf (by omega) (by omega),haa,nf (by omega) (by omega),haa];have hl:=yad n.natAbs d.natAbs;have hr:=(Ct (!(decide (n<0)==decide (d<0))) mode (n.natAbs / d.natAbs) (n.natAbs % d.natAbs) d.natAbs).2;rw[C9 (by omega) (by omega),haa,N9 (by omega),haa,MD _ _ (by omega) (Qac _ (by omega)) (by omega),haa,jt _ (by omega)];rfl
 ·rw[if_pos (by simpa using hm),if_pos hm]
def T0(c num den mode:Int):Int×Int:=
 if¬(0≤mode∧mode≤5)then(0,1)else
 if den=0 then(0,12)else
 if(1000000000000000<c∨c < -1000000000000000)∨(1000000000<num∨num < -1000000000)∨(1000000000<den∨den < -1000000000)then(0,3)else
 if Yn (!((!((decide (c<0))==(decide (num<0))))==(decide (den<0)))) mode (c.natAbs*num.natAbs / den.natAbs) (c.natAbs*num.natAbs % den.natAbs) den.natAbs≤1000000000000000 then
  (ny (!((!((decide (c<0))==(decide (num<0))))==(decide (den<0)))) (Yn (!((!((decide (c<0))==(decide (num<0))))==(decide (den<0)))) mode (c.natAbs*num.natAbs / den.natAbs) (c.natAbs*num.natAbs % den.natAbs) den.natAbs),0)
 else(0,3)
theorem or3{a b c:Prop} [Decidable a] [Decidable b] [Decidable c] {o p:Option Bool}(h:o=some (decide b)) (h2:p=some (decide c)) {α:Type}{k:Bool→Option α}:(jaa (α:=Bool) ((some (decide a)).bind fun x=>if x=false then o.bind fun y=>if y=false then p.bind fun z=>some z else some true else some true) k)=k (decide (a∨b∨c)):=by
 subst h;subst h2;by_cases ha:a<;>by_cases hb:b<;>by_cases hc:c<;>simp[ha,hb,hc]
theorem cI{x y:Nat}(hx:x<18446744073709551616) (hy:y<18446744073709551616):Xc x y=some (((x*y / 18446744073709551616:Nat):Int),((x*y % 18446744073709551616:Nat):Int)):=by
 unfold Xc;rw[if_pos ⟨by omega,by omega,by omega,by omega⟩,←Int.natCast_mul];rfl
theorem TL{p z:Nat}(hp:p / 18446744073709551616<z) (hz:z<18446744073709551616):Yd ((p / 18446744073709551616:Nat):Int) ((p % 18446744073709551616:Nat):Int) z=some (((p / z:Nat):Int),((p % z:Nat):Int)):=by
 unfold Yd;have e:((p / 18446744073709551616:Nat):Int)*18446744073709551616+((p % 18446744073709551616:Nat):Int)=(p:Int):=by omega
 rw[if_pos ⟨by omega,by omega,by omega,by omega,by omega⟩,e];rfl
theorem OB{p z:Nat}(hz:0<z) (h:z≤p / 18446744073709551616):18446744073709551616≤p / z:=by
 rw[Nat.le_div_iff_mul_le hz];have:=Nat.mul_le_mul_left 18446744073709551616 h;omega
theorem Sz(c num den mode:Int):Dm c num den mode=some (T0 c num den mode):=by
 unfold Dm T0;rw[Xl,haa];by_cases hm:0≤mode∧mode≤5
 ·rw[if_neg (by simpa using hm),if_neg (saa.2 hm)];by_cases h0:den=0
  ·rw[if_pos h0,if_pos h0]
  ·rw[if_neg h0,if_neg h0,lg (by omega) (by omega),or3 (lg (by omega) (by omega)) (lg (by omega) (by omega))];by_cases hb:(1000000000000000<c∨c < -1000000000000000)∨(1000000000<num∨num < -1000000000)∨(1000000000<den∨den < -1000000000)
   ·rw[if_pos (by simpa using hb),if_pos hb]
   ·rw[if_neg (by simpa using hb),if_neg hb,nf (by omega) (by omega),haa,nf (by omega) (by omega),haa];generalize (!((!((decide (c<0))==(decide (num<0))))==(decide (den<0))))=ng;obtain⟨x,hx⟩:∃x,c.natAbs=x:=⟨_,rfl⟩;obtain⟨y,hy⟩:∃x,num.natAbs=x:=⟨_,rfl⟩;obtain⟨z,hz⟩:∃x,den.natAbs=x:=⟨_,rfl⟩;have hz2:=nf (n:=den) (by omega) (by omega);rw[hz]at hz2;rw[hx,hy,hz,hz2];have bx:x≤1000000000000000:=by omega
    have bY:y≤1000000000:=by omega
    have bz:z≤1000000000∧0<z:=by omega
    have hxy:x*y≤1000000000000000000000000:=Nat.le_trans (dad bx bY) (by decide);rw[cI (by omega) (by omega)];simp only[haa];generalize x*y=p at hxy⊢;by_cases hh:z≤p / 18446744073709551616
    ·rw[if_pos (by omega),if_neg];have h1:=(Ct ng mode (p / z) (p % z) z).1;have h2:=OB bz.2 hh;generalize p / z=q at *;omega
    ·rw[if_neg (by omega),TL (by omega) (by omega)];simp only[haa];have h1:=Ct ng mode (p / z) (p % z) z;by_cases hq:p / z≤1000000000000000
     ·rw[if_neg (by omega),MD _ _ (by omega) (Qac _ bz.2) (by omega),haa];by_cases hR:Yn ng mode (p / z) (p % z) z≤1000000000000000
      ·rw[if_neg (by omega),if_pos hR,jt _ (by omega)];rfl
      ·rw[if_pos (by omega),if_neg hR]
     ·rw[if_pos (by omega),if_neg (by omega)]
 ·rw[if_pos (by simpa using hm),if_pos hm]
end Go.Proofs.Dev
namespace Go.Proofs.Dev
open Go Go.Tm
theorem Fq(n:Int):ai n=some (decide (0≤n∧n≤5)):=by
 unfold ai;by_cases h:0≤n<;>simp[h]
theorem Xk{n k:Int}(h1:0≤k) (h2:k<9223372036854775808):nh n k=some (decide (k<n∨n < -k)):=by
 unfold nh;exact U2 (wid (by omega) (by omega))
theorem yD(c r mode:Int):Ho c r mode=some (T0 c r 1000000 mode):=by
 unfold Ho;rw[Sz];rfl
def uK(mode q r d:Int):Prop:=
 r≠0∧(mode=1∨(mode=2∧q<0)∨(mode=3∧0≤q)∨(mode=4∧(d-r<r∨(r=d-r∧0≤q)))∨(mode=5∧(d-r<r∨(r=d-r∧q % 2≠0))))
instance (mode q r d:Int):Decidable (uK mode q r d):=by unfold uK;infer_instance
def wC(mode q r d:Int):Int:=if uK mode q r d then q+1 else q
theorem iA(N:Int) (d:Nat) (mode:Int) (hd:0<d) (neg:Bool) (hneg:N=0∨neg=decide (N<0)) (hm:0≤mode∧mode≤5) :
 ny neg (Yn neg mode (N.natAbs / d) (N.natAbs % d) d)=wC mode (N / d) (N % d) d:=by
 have hdm:=Nat.div_add_mod N.natAbs d;have hml:=Qac N.natAbs hd;obtain⟨a,ha⟩:∃a,N.natAbs / d=a:=⟨_,rfl⟩;obtain⟨b,hb⟩:∃a,N.natAbs % d=a:=⟨_,rfl⟩;rw[ha,hb]at hdm;rw[hb]at hml;rw[ha,hb];by_cases hN:0≤N
 ·have e1:N=(N.natAbs:Int):=by omega
  have q1:N / (d:Int)=(a:Int):=by rw[e1,←ha];rfl
  have q2:N % (d:Int)=(b:Int):=by rw[e1,←hb];rfl
  rw[q1,q2];have hn:b=0∨neg=false:=by
   rcases hneg with h|h
   ·left;subst h;simp at hb;omega
   ·right;rw[h];simp;omega
  have key:yE neg mode a b d↔uK mode a b d:=by
   unfold yE uK;rcases hn with h|h
   ·subst h;simp;omega
   ·subst h;simp;omega
  have hs:∀k:Nat,(b=0→k=a)→ny neg k=(k:Int):=fun k hk=>by
   unfold ny;rcases hn with h|h
   ·have h0:a=0∨neg=false:=by
     rcases hneg with h'|h'
     ·left;subst h';simp at ha;omega
     ·right;rw[h'];simp;omega
    rcases h0 with h0|h0
    ·rw[hk h,h0];simp
    ·simp[h0]
   ·simp[h]
  unfold Yn wC;by_cases c:yE neg mode a b d
  ·rw[if_pos c,if_pos (key.1 c)];rw[hs _ (fun hb0=>absurd c (by rw[hb0];unfold yE;omega))];omega
  ·rw[if_neg c,if_neg (fun h=>c (key.2 h))];exact hs _ fun _=>rfl
 ·have e1:N = -(N.natAbs:Int):=by omega
  have hn:neg=true:=by
   rcases hneg with h|h
   ·omega
   ·rw[h];simp;omega
  subst hn;have hNd:N = -((d:Int)*a+b):=by rw[e1,←hdm];push_cast;rfl
  unfold ny;simp only[if_true];by_cases b0:b=0
  ·have q1:N / (d:Int) = -(a:Int):=by
    rw[hNd,b0];simp only[aad,raf];rw[←Zae,Int.mul_ediv_cancel_left _ (by omega)]
   have q2:N % (d:Int)=0:=by
    rw[hNd,b0];simp only[aad,raf];rw[←Zae,Int.mul_emod_right]
   rw[q1,q2];unfold Yn wC;rw[if_neg (by rw[b0];unfold yE;omega),if_neg (by simp[uK])]
  ·have hNd':N=((d:Int)-b)+d*(-(a:Int)-1):=by rw[hNd,Int.mul_sub,Zae];omega
   have q1:N / (d:Int) = -(a:Int)-1:=by
    rw[hNd',Int.add_mul_ediv_left _ _ (by omega),Int.ediv_eq_zero_of_lt (by omega) (by omega)];omega
   have q2:N % (d:Int)=(d:Int)-b:=by
    rw[hNd',Int.add_mul_emod_self_left,Int.emod_eq_of_lt (by omega) (by omega)]
   rw[q1,q2];have key:yE true mode a b d↔¬uK mode (-(a:Int)-1) ((d:Int)-b) d:=by
    unfold yE uK at *;simp only[ne_eq,not_and,not_or,reduceCtorEq,and_false,false_and,false_or,true_and];constructor
    ·intro h h1;omega
    ·intro h;have h:=h (by omega);omega
   unfold Yn wC;by_cases c:yE true mode a b d
   ·rw[if_pos c,if_neg (key.1 c)];omega
   ·rw[if_neg c,if_pos (by rcases Decidable.em (uK mode (-(a:Int)-1) ((d:Int)-b) d)with h|h;exact h;exact absurd (key.2 h) c)];omega
def HR(a b mode:Int):Int×Int:=
 if¬(0≤mode∧mode≤5)then(0,1)else
 if(1000000000<a∨a < -1000000000)∨(1000000000<b∨b < -1000000000)then(0,3)else
 if 1000000000<wC mode (a*b / 1000000) (a*b % 1000000) 1000000∨wC mode (a*b / 1000000) (a*b % 1000000) 1000000 < -1000000000 then(0,3)else
 (wC mode (a*b / 1000000) (a*b % 1000000) 1000000,0)
theorem eJ{a b:Int}(h1:¬(1000000000<a∨a < -1000000000)) (h2:¬(1000000000<b∨b < -1000000000)):-1000000000000000000≤a*b∧a*b≤1000000000000000000:=by
 have:=dad (show a.natAbs≤1000000000 by omega) (show b.natAbs≤1000000000 by omega);rw[←wae]at this;omega
theorem ZF(a b mode:Int):Ws a b mode=some (HR a b mode):=by
 unfold Ws HR;rw[Fq,haa];by_cases hm:0≤mode∧mode≤5
 ·rw[if_neg (by simpa using hm),if_neg (saa.2 hm),Xk (by omega) (by omega),H9 (Xk (by omega) (by omega))];by_cases hb:(1000000000<a∨a < -1000000000)∨(1000000000<b∨b < -1000000000)
  ·rw[if_pos (by simpa using hb),if_pos hb]
  ·rw[if_neg (by simpa using hb),if_neg hb,mi];have h1:=eJ (fun h=>hb (.inl h)) (fun h=>hb (.inr h));generalize a*b=p at h1⊢;rw[wid (by omega) (by omega)];have hs:ny (!(decide (p<0)==decide ((1000000:Int)<0))) (Yn (!(decide (p<0)==decide ((1000000:Int)<0))) mode (p.natAbs / 1000000) (p.natAbs % 1000000) 1000000)=wC mode (p / 1000000) (p % 1000000) 1000000:=iA p 1000000 mode (by decide) (!(decide (p<0)==decide ((1000000:Int)<0))) (.inr (by simp)) hm;unfold vQ;rw[if_neg (saa.2 hm),if_neg (by decide),if_neg (by omega)];simp only[haa];rw[show(1000000:Int).natAbs=1000000 from rfl,hs,if_neg (by simp),Xk (by omega) (by omega),haa];simp only[decide_eq_true_eq];split<;>rfl
 ·rw[if_pos (by simpa using hm),if_pos hm]
theorem U5{n:Int}{α:Type}{k:Bool→Option α}:(jaa (α:=Bool) (if¬n<0 then some (decide (5<n))else some true) k)=k (decide (¬(0≤n∧n≤5))):=by
 by_cases h:n<0
 ·rw[if_neg (by omega),haa];congr 1;simp;omega
 ·rw[if_pos h,haa];congr 1;rw[decide_eq_decide];omega
theorem FL(mode q r d:Int):q≤wC mode q r d∧wC mode q r d≤q+1:=by unfold wC;split<;>omega
def w8(num den mode:Int):Int×Int:=
 if¬(0≤mode∧mode≤5)then(0,1)else
 if den=0 then(0,12)else
 if(1000000000000000<num∨num < -1000000000000000)∨(1000000000000000<den∨den < -1000000000000000)then(0,3)else
 if Yn (!(decide (num<0)==decide (den<0))) mode (num.natAbs*1000000 / den.natAbs) (num.natAbs*1000000 % den.natAbs) den.natAbs≤1000000000 then
  (ny (!(decide (num<0)==decide (den<0))) (Yn (!(decide (num<0)==decide (den<0))) mode (num.natAbs*1000000 / den.natAbs) (num.natAbs*1000000 % den.natAbs) den.natAbs),0)
 else(0,3)
theorem mG{q r d:Nat}(neg:Bool) (mode:Int) (hr:r<d) (hd:d<9223372036854775808):Uk q r d neg mode=some (decide (yE neg mode q r d)):=by
 unfold Uk;rw[GX (n:=(d:Int)-r) (by omega) (by omega),cM,half];by_cases h0:r=0
 ·subst h0;rw[if_pos (by rfl)];congr 1;symm;rw[decide_eq_false_iff_not];unfold yE;omega
 ·rw[if_neg (by omega)];unfold yE;have hp:0<r:=by omega
  by_cases e0:mode=0
  ·subst e0;cases neg<;>simp[hp]
  by_cases e1:mode=1
  ·subst e1;cases neg<;>simp[hp]
  by_cases e3:mode=3
  ·subst e3;simp[hp]
  by_cases e4:mode=4
  ·subst e4;simp;omega
  by_cases e5:mode=5
  ·subst e5;simp
  simp[e0,e1,e3,e4,e5]
theorem Iy{n:Int}(h1:-9223372036854775808<n) (h2:n<9223372036854775808):ca .u64 (max n (ca .i64 (-n)))=((n.natAbs:Nat):Int):=by
 rw[wid (by omega) (by omega),GX (by omega) (by omega)];omega
theorem Dw(num den mode:Int):Vj num den mode=some (w8 num den mode):=by
 unfold Vj w8;rw[Fq,haa];by_cases hm:0≤mode∧mode≤5
 ·rw[if_neg (by simpa using hm),if_neg (saa.2 hm)];by_cases h0:den=0
  ·rw[if_pos h0,if_pos h0]
  ·rw[if_neg h0,if_neg h0,Xk (by omega) (by omega),H9 (Xk (by omega) (by omega))];by_cases hb:(1000000000000000<num∨num < -1000000000000000)∨(1000000000000000<den∨den < -1000000000000000)
   ·rw[if_pos (by simpa using hb),if_pos hb]
   ·rw[if_neg (by simpa using hb),if_neg hb,Iy (by omega) (by omega),Iy (by omega) (by omega)];have hng:(¬(decide (num<0))=(decide (den<0)))↔(!(decide (num<0)==decide (den<0)))=true:=by
     cases decide (num<0)<;>cases decide (den<0)<;>simp
    generalize (!(decide (num<0)==decide (den<0)))=ng at hng⊢;obtain⟨x,hx⟩:∃x,num.natAbs=x:=⟨_,rfl⟩;obtain⟨z,hz⟩:∃x,den.natAbs=x:=⟨_,rfl⟩;rw[hx,hz];have bx:x≤1000000000000000:=by omega
    have bz:z≤1000000000000000∧0<z:=by omega
    rw[show(1000000:Int)=((1000000:Nat):Int)from rfl,cI (by omega) (by omega)];simp only[haa];have hxy:x*1000000≤1000000000000000000000:=by omega
    generalize x*1000000=p at hxy⊢;by_cases hh:z≤p / 18446744073709551616
    ·rw[if_pos (by omega),if_neg];have h1:=(Ct ng mode (p / z) (p % z) z).1;have h2:=OB bz.2 hh;generalize p / z=q at *;omega
    ·rw[if_neg (by omega),TL (by omega) (by omega)];simp only[haa];have h1:=Ct ng mode (p / z) (p % z) z;by_cases hq:p / z≤1000000000
     ·rw[if_neg (by omega),mG _ _ (Qac _ bz.2) (by omega),wid (n:=((p / z:Nat):Int)) (by omega) (by omega),wid (n:=((p / z:Nat):Int)+1) (by omega) (by omega)];simp only[haa,decide_eq_true_eq];have hfin:∀R:Nat,R≤1000000001→(if(1000000000:Int)<(R:Int)then some ((0:Int),(3:Int))else jaa (α:=Int) (if¬(decide (num<0))=(decide (den<0))then some (ca .i64 (-(R:Int)))else some (R:Int)) fun j18=>some (j18,0))=some (if R≤1000000000 then(ny ng R,0)else(0,3)):=by
       intro R hR;by_cases hr:R≤1000000000
       ·rw[if_neg (by omega),if_pos hr];unfold ny;by_cases hn:ng=true
        ·rw[if_pos (hng.2 hn),if_pos hn,haa,wid (by omega) (by omega)]
        ·rw[if_neg (fun h=>hn (hng.1 h)),if_neg hn,haa]
       ·rw[if_pos (by omega),if_neg hr]
      unfold Yn;by_cases hu:yE ng mode (p / z) (p % z) z
      ·rw[if_pos hu,if_pos hu,haa];have:=hfin (p / z+1) (by omega);rw[Oad]at this;exact this
      ·rw[if_neg hu,if_neg hu,haa];exact hfin (p / z) (by omega)
     ·rw[if_pos (by omega),if_neg (by omega)]
 ·rw[if_pos (by simpa using hm),if_pos hm]
def F8(c unit mode:Int):Int×Int:=
 if¬(0≤mode∧mode≤5)then(0,1)else
 if unit<1 then(0,12)else
 if(1000000000000000<c∨c < -1000000000000000)∨1000000000000000<unit then(0,3)else
 if 1000000000000000<ny (decide (c<0)) (Yn (decide (c<0)) mode (c.natAbs / unit.natAbs) (c.natAbs % unit.natAbs) unit.natAbs)*unit∨ny (decide (c<0)) (Yn (decide (c<0)) mode (c.natAbs / unit.natAbs) (c.natAbs % unit.natAbs) unit.natAbs)*unit < -1000000000000000 then(0,3)else
 (ny (decide (c<0)) (Yn (decide (c<0)) mode (c.natAbs / unit.natAbs) (c.natAbs % unit.natAbs) unit.natAbs)*unit,0)
theorem UO{c unit mode:Int}{ng:Bool}(hc:¬(1000000000000000<c∨c < -1000000000000000)) (hu:1≤unit∧unit≤1000000000000000):-2000000000000000≤ny ng (Yn ng mode (c.natAbs / unit.natAbs) (c.natAbs % unit.natAbs) unit.natAbs)*unit∧ny ng (Yn ng mode (c.natAbs / unit.natAbs) (c.natAbs % unit.natAbs) unit.natAbs)*unit≤2000000000000000:=by
 have h1:=(Ct ng mode (c.natAbs / unit.natAbs) (c.natAbs % unit.natAbs) unit.natAbs).2;have h2:(ny ng (Yn ng mode (c.natAbs / unit.natAbs) (c.natAbs % unit.natAbs) unit.natAbs)*unit).natAbs≤2000000000000000:=by
  rw[wae,tT];have h3:=Nat.mul_le_mul_right unit.natAbs h1;have h4:=Nat.div_mul_le_self c.natAbs unit.natAbs;rw[Nat.add_mul]at h3;omega
 omega
theorem or2'{a b:Prop} [Decidable a] [Decidable b] {α:Type}{k:Bool→Option α}:(jaa (α:=Bool) ((some (decide a)).bind fun x=>if x=false then some (decide b)else some true) k)=k (decide (a∨b)):=by
 by_cases ha:a<;>by_cases hb:b<;>simp[ha,hb]
theorem Ux(c unit mode:Int):Vk c unit mode=some (F8 c unit mode):=by
 unfold Vk F8;rw[Xl,haa];by_cases hm:0≤mode∧mode≤5
 ·rw[if_neg (by simpa using hm),if_neg (saa.2 hm)];by_cases h0:unit<1
  ·rw[if_pos h0,if_pos h0]
  ·rw[if_neg h0,if_neg h0,lg (by omega) (by omega),or2'];by_cases hb:(1000000000000000<c∨c < -1000000000000000)∨1000000000000000<unit
   ·rw[if_pos (by simpa using hb),if_pos hb]
   ·rw[if_neg (by simpa using hb),if_neg hb,mi];have hbd:=UO (c:=c) (unit:=unit) (mode:=mode) (ng:=decide (c<0)) (fun h=>hb (.inl h)) (by omega);unfold vQ;rw[if_neg (saa.2 hm),if_neg (by omega),if_neg (by omega)];have hu:decide (unit<0)=false:=by simp;omega
    simp only[haa,hu];have hng:(!(decide (c<0)==false))=decide (c<0):=by cases decide (c<0)<;>rfl
    rw[hng];generalize ny (decide (c<0)) (Yn (decide (c<0)) mode (c.natAbs / unit.natAbs) (c.natAbs % unit.natAbs) unit.natAbs)*unit=q at hbd⊢;rw[if_neg (by simp),wid (by omega) (by omega),lg (by omega) (by omega),haa];simp only[decide_eq_true_eq];split<;>rfl
 ·rw[if_pos (by simpa using hm),if_pos hm]
end Go.Proofs.Dev
namespace Go.Proofs.Dev
open Go Go.Tm
theorem FU{σ β ρ:Type}{step:σ→Option (Ex σ β ρ)}(I:Nat→σ→Prop) (n:Nat) (Q:β→Prop) (hgo:∀j s,j<n→I j s→∃s',step s=some (.go s')∧I (j+1) s') (hend:∀s,I n s→∃b,step s=some (.brk b)∧Q b) :
 ∀(k j:Nat) (s:σ),j+k=n→I j s→∃b,ia step s=some (.inl b)∧Q b
 |0,j,s,h,hi=>by
  rw[Jab]at h;subst h;obtain⟨b,h1,h2⟩:=hend s hi;exact⟨b,Nb h1,h2⟩
 |k+1,j,s,h,hi=>by
  obtain⟨s',h1,h2⟩:=hgo j s (by omega) hi;obtain⟨b,h3,h4⟩:=FU I n Q hgo hend k (j+1) s' (by omega) h2;exact⟨b,by rw[Xe h1];exact h3,h4⟩
def Zp(l:List GTable):List GDateRange:=l.flatMap fun t=>t.Rows.map (·.Valid)
def Sp(l:List GScope):List GDateRange:=l.flatMap fun s=>s.Rules.map (·.Valid)
theorem iv:∀{l:List GTable},(∀t∈l,t.Rows.length≤150)→(Zp l).length≤150*l.length
 |[],_=>by simp[Zp]
 |t::l,h=>by
  have h1:=iv (l:=l) fun x hx=>h x (by simp[hx]);have h2:=h t (by simp);simp only[Zp,dae,Haa,gab,Daa]at h1⊢;omega
theorem Lv:∀{l:List GScope},(∀t∈l,t.Rules.length≤60)→(Sp l).length≤60*l.length
 |[],_=>by simp[Sp]
 |t::l,h=>by
  have h1:=Lv (l:=l) fun x hx=>h x (by simp[hx]);have h2:=h t (by simp);simp only[Sp,dae,Haa,gab,Daa]at h1⊢;omega
theorem zO{a b:List GTable}:Zp (a++b)=Zp a++Zp b:=by simp[Zp]
theorem bN{a b:List GScope}:Sp (a++b)=Sp a++Sp b:=by simp[Sp]
theorem gO{t:GTable}:Zp [t]=t.Rows.map (·.Valid):=by simp[Zp]
theorem YM{t:GScope}:Sp [t]=t.Rules.map (·.Valid):=by simp[Sp]
theorem XU{α:Type}{l:List α}(v:α→GDateRange) {x0:List GDateRange}(hx:x0.length+l.length≤1048576) {step:List GDateRange×Int→Option (Ex (List GDateRange×Int) (List GDateRange) Unit)}
 (hgo:∀i (h:i<l.length) x,step (x,(i:Int))=(app 16 x [v l[i]]).bind fun y=>some (.go (y,ca .i64 ((i:Int)+1)))) (hend:∀x,step (x,(l.length:Int))=some (.brk x)):ia step (x0,0)=some (.inl (x0++l.map v)):=by
 refine Rz (step:=step) (l:=l) rfl (fun l=>l.map v) x0 (fun i hi=>?_) hend rfl;have h2:(l.take i).length≤l.length:=by rw[Qaa];omega
 rw[hgo i hi,Sj (by simp;omega),haa,La (by omega),Kl hi];simp only[List.map_append,List.map_cons,List.map_nil,jab]
structure FewR (l:GLaw):Prop where
 nt:l.Tables.length≤9
 ns:l.Scopes.length≤5
 t:∀t∈l.Tables,t.Rows.length≤150
 s:∀s∈l.Scopes,s.Rules.length≤60
theorem EF{α:Type}{l:List α}{i:Nat}{x:α}(h:x∈l.take i):x∈l:=List.mem_of_mem_take h
theorem tK{l:GLaw}(h:FewR l):ia (Ab l) ([],0)=some (.inl (Zp l.Tables)):=by
 have hnt:=h.nt;have:=Rz (step:=Ab l) (l:=l.Tables) rfl Zp [] (fun i hi=>by
  have h1:=iv (l:=l.Tables.take i) fun x hx=>h.t x (EF hx);have h2:(l.Tables.take i).length≤l.Tables.length:=by rw[Qaa];omega
  have h3:=h.t l.Tables[i] (by simp);unfold Ab;dsimp only;rw[if_pos (by omega),Na hi,haa,sab,XU (l:=l.Tables[i].Rows) (·.Valid) (by omega) (fun k hk x=>by unfold Je;dsimp only;rw[if_pos (by omega),Na hk,haa]) (fun x=>by unfold Je;simp),haa,La (by omega),Kl hi,zO,gO];rfl) (fun x=>by unfold Ab;simp) rfl
 simpa using this
theorem SK{l:GLaw}(h:FewR l) {x0:List GDateRange}(hx:x0.length≤10000):ia (Bb l) (x0,0)=some (.inl (x0++Sp l.Scopes)):=by
 have hns:=h.ns;refine Rz (step:=Bb l) (l:=l.Scopes) rfl Sp x0 (fun i hi=>?_) (fun x=>by unfold Bb;simp) rfl;have h1:=Lv (l:=l.Scopes.take i) fun x hx=>h.s x (EF hx);have h2:(l.Scopes.take i).length≤l.Scopes.length:=by rw[Qaa];omega
 have h3:=h.s l.Scopes[i] (by simp);unfold Bb;dsimp only;rw[if_pos (by omega),Na hi,haa,XU (l:=l.Scopes[i].Rules) (·.Valid) (by simp;omega) (fun k hk x=>by unfold ie;dsimp only;rw[if_pos (by omega),Na hk,haa]) (fun x=>by unfold ie;simp),haa,La (by omega),Kl hi,bN,YM,jab]
theorem zF(x:Int):Ob x=some (!Hg x):=by
 unfold Ob Hg;by_cases h1:x<1<;>by_cases h2:109572<x<;>simp[h1,h2]<;>omega
theorem filter_all{l:List Int}(h:∀i (hi:i<l.length),Hg l[i]=true):l.filter Hg=l:=by
 rw[List.filter_eq_self];intro x hx;obtain⟨i,hi,rfl⟩:=Faa hx;exact h i hi
theorem WM{q:List Int}(hq:q.length≤1048576):∃c,Fe q=some (c,q.filter Hg):=by
 unfold Fe xh;have h6:=Uh (step:=Jc q) (x0:=0) (fun i=>(i:Int)) (fun i=>match q[i]? with|some x=>if Hg x=true then none else some (i:Int)|none=>none) q.length () (fun i hi _=>by
  unfold Jc;rw[if_pos (by omega),Na hi,haa,zF,haa,La (by omega)];simp only[iaa hi];cases hb:Hg q[i]<;>simp[jw]) (fun _=>by unfold Jc;simp)
 rw[h6]
 cases hf:ff (fun i=>match q[i]? with|some x=>if Hg x=true then none else some (i:Int)|none=>none) q.length with
 |none=>
  have h:=pb.1 hf;refine⟨q,?_⟩;simp only[ui,haa,if_pos];rw[filter_all fun i hi=>?_];have:=h i hi;rw[iaa hi]at this;cases hb:Hg q[i]
  ·simp[hb]at this
  ·rfl
 |some v=>
  obtain⟨k,k1,k2,k3⟩:=Mb.1 hf;rw[iaa k1]at k2;have hb:Hg q[k]=false:=by cases hb:Hg q[k]<;>simp[hb]at k2⊢
  simp[hb]at k2;subst k2;have hk:(q.take k).filter Hg=q.take k:=filter_all fun i hi=>by
   rw[Qaa]at hi;have:=k3 i (by omega);rw[iaa (by omega)]at this;rw[zac];cases hb:Hg q[i]
   ·simp[hb]at this
   ·rfl
  simp only[ui,haa];rw[if_neg (by omega),La (by omega)];obtain⟨⟨c,n⟩,hl,hc⟩:=FU (step:=Gc) (fun j s=>s.2.2=(j:Int)∧s.1.length=q.length∧s.2.1=(((q.take j).filter Hg).length:Int)∧s.1.take ((q.take j).filter Hg).length=(q.take j).filter Hg∧s.1.drop j=q.drop j) q.length
   (fun b=>b.1.length=q.length∧b.2=((q.filter Hg).length:Int)∧b.1.take (q.filter Hg).length=q.filter Hg) (fun j s hj ⟨i1,i2,i3,i4,i5⟩=>by
    obtain⟨c,n,jj⟩:=s;dsimp only at i1 i2 i3 i4 i5;subst i1 i3;have hle:=Maa Hg (q.take j);have hlt:(q.take j).length=j:=by rw[Qaa];omega
    have hcj:c[j]'(by omega)=q[j]:=by
     have h1:(c.drop j)[0]?=(q.drop j)[0]?:=by rw[i5]
     simpa [iaa hj,iaa (show j<c.length by omega)] using h1
    have hd:c.drop (j+1)=q.drop (j+1):=by
     have:=congrArg (List.drop 1) i5;simpa using this
    unfold Gc;dsimp only;rw[if_pos (by omega),Na (show j<c.length by omega),haa,zF,haa,hcj,La (show j<4611686018427387904 by omega),Kl hj,uab];cases hb:Hg q[j]
    ·refine⟨_,by rw[if_neg (by simp)];rfl,rfl,i2,by simp[hb],by simpa [hb] using i4,hd⟩
    ·rw[if_pos (by simp),Na (show((q.take j).filter Hg).length<c.length by omega),haa,Dv (by omega),haa,La (by omega)];refine⟨_,rfl,rfl,by simpa using i2,by simp[hb],?_,?_⟩
     ·simp only[hb,Gab,List.filter_nil,if_true,Haa,Daa,Hab,Xab];rw[Zaa,List.take_set_of_le (yaa _),i4,List.getElem?_set_self (by omega)];rfl
     ·rw[List.drop_set_of_lt (by omega)];exact hd) (fun s ⟨i1,i2,i3,i4,i5⟩=>by
    obtain⟨c,n,jj⟩:=s;dsimp only at i1 i2 i3 i4 i5;rw[dab]at i3 i4;unfold Gc;dsimp only;exact⟨_,by rw[if_neg (by omega)],i2,i3,i4⟩) (q.length-(k+1)) (k+1) (q,(k:Int),((k+1:Nat):Int)) (by omega) (by
    have e:(q.take (k+1)).filter Hg=q.take k:=by
     rw[Kl k1,uab,hk];simp[hb]
    refine⟨rfl,rfl,?_,?_,rfl⟩
    ·dsimp only;rw[e,Qaa,Rad (by omega)]
    ·dsimp only;rw[e,Qaa,Rad (by omega)])
  dsimp only at hc;obtain⟨h1,rfl,h3⟩:=hc;have hle:=Maa Hg q;rw[hl,haa];dsimp only;rw[LU (by omega),haa];have hcl:VN c ((q.filter Hg).length:Int) (c.drop (q.filter Hg).length) 0=some (c.take (q.filter Hg).length++maa (c.drop (q.filter Hg).length).length 0++c.drop ((q.filter Hg).length+(c.drop (q.filter Hg).length).length)):=by
   unfold VN;rw[if_pos ⟨by omega,by simp;omega⟩];simp
  rw[hcl,haa,h3,Nr (by simp),haa];exact⟨_,by rw[jab,List.take_append_of_le_length (yaa _),dab]⟩
theorem nq{l:GLaw}(h:FewR l):re l=some ((Te (ends (Zp l.Tables++Sp l.Scopes))).filter Hg):=by
 have hnt:=h.nt;have hns:=h.ns;have h1:=iv h.t;have h2:=Lv h.s;have h3:=An (Zp l.Tables++Sp l.Scopes);have h4:=Gt (ends (Zp l.Tables++Sp l.Scopes));rw[Haa]at h3;unfold re;rw[tK h,haa];dsimp only;rw[SK h (by omega),haa];dsimp only;rw[xP (by simp;omega),haa];obtain⟨c,hc⟩:=WM (q:=Te (ends (Zp l.Tables++Sp l.Scopes))) (by omega);rw[hc];rfl
end Go.Proofs.Dev
namespace Go.Proofs.Dev
open Go Go.Tm
end Go.Proofs.Dev
namespace Go.Proofs.Dev
open Go Go.Tm
theorem rN{σ β ρ:Type}{step:σ→Option (Ex σ β ρ)}(I:σ→Prop) (mu:σ→Nat) (Q:β→Prop) (h:∀s,I s→(∃s',step s=some (.go s')∧I s'∧mu s'<mu s)∨∃b,step s=some (.brk b)∧Q b) :
 ∀(n:Nat) (s:σ),mu s≤n→I s→∃b,ia step s=some (.inl b)∧Q b
 |0,s,hn,hi=>by
  rcases h s hi with⟨s',-,-,h3⟩|⟨b,h1,h2⟩
  ·omega
  ·exact⟨b,Nb h1,h2⟩
 |n+1,s,hn,hi=>by
  rcases h s hi with⟨s',h1,h2,h3⟩|⟨b,h1,h2⟩
  ·obtain⟨b,h4,h5⟩:=rN I mu Q h n s' (by omega) h2;exact⟨b,by rw[Xe h1];exact h4,h5⟩
  ·exact⟨b,Nb h1,h2⟩
theorem wu{n:Int}(h1:0≤n) (h2:n<9223372036854775808):ca .u64 n=n:=by
 simp only[ca];omega
theorem mid{i j:Nat}(h:i+j<4611686018427387904):ca .i64 (Int.fdiv (ca .u64 (ca .i64 ((i:Int)+(j:Int)))) 2)=(((i+j) / 2:Nat):Int):=by
 rw[wid (n:=(i:Int)+(j:Int)) (by omega) (by omega),wu (by omega) (by omega),Int.fdiv_eq_ediv_of_nonneg _ (by omega),wid (by omega) (by omega)];omega
theorem tG(x y:Int):cmp_Less_int x y=some (decide (x<y)):=by
 unfold cmp_Less_int cmp_isNaN_int;simp
theorem aP{q:List Int}{t:Int}(hq:q.Pairwise (·<·)) (hl:q.length≤1048576):∃(k:Nat) (b:Bool),Wb q t=some ((k:Int),b)∧k≤q.length∧(∀i (hi:i<q.length),i<k→q[i]<t)∧∀i (hi:i<q.length),k≤i→t≤q[i]:=by
 have hp:=Cac.1 hq;unfold Wb;obtain⟨b,h1,k,rfl,h2,h3,h4⟩:=rN (step:=Ec q t) (fun s=>∃i j:Nat,s=((i:Int),(j:Int))∧i≤j∧j≤q.length∧(∀p (hp:p<q.length),p<i→q[p]<t)∧∀p (hp:p<q.length),j≤p→t≤q[p]) (fun s=>(s.2-s.1).toNat) (fun b=>∃k:Nat,b=(k:Int)∧k≤q.length∧(∀i (hi:i<q.length),i<k→q[i]<t)∧∀i (hi:i<q.length),k≤i→t≤q[i]) (by
  rintro s ⟨i,j,rfl,a1,a2,a3,a4⟩;unfold Ec;dsimp only;by_cases hij:i<j
  ·left;rw[if_pos (by omega),mid (by omega),Na (show(i+j) / 2<q.length by omega),haa,tG,haa];by_cases hx:q[(i+j) / 2]'(by omega)<t
   ·refine⟨_,by rw[if_pos (by simpa using hx),La (by omega)],⟨(i+j) / 2+1,j,rfl,by omega,a2,fun p hp' hpi=>?_,a4⟩,by dsimp only;omega⟩;rcases Taa p ((i+j) / 2)with h5|h5
    ·have:=hp p ((i+j) / 2) hp' (by omega) h5;omega
    ·have:p=(i+j) / 2:=by omega
     subst this;exact hx
   ·refine⟨_,by rw[if_neg (by simpa using hx)],⟨i,(i+j) / 2,rfl,by omega,by omega,a3,fun p hp' hpi=>?_⟩,by dsimp only;omega⟩;rcases Taa ((i+j) / 2) p with h5|h5
    ·have:=hp ((i+j) / 2) p (by omega) hp' h5;omega
    ·have:p=(i+j) / 2:=by omega
     subst this;omega
  ·right;have:i=j:=by omega
   subst this;exact⟨_,by rw[if_neg (by omega)],i,rfl,a2,a3,a4⟩) q.length (0,(q.length:Int)) (by simp) ⟨0,q.length,rfl,by omega,by omega,by omega,by omega⟩
 rw[h1,haa];dsimp only;unfold ni;by_cases hk:k<q.length
 ·rw[if_pos (by omega),Na hk,haa];by_cases he:q[k]=t
  ·exact⟨k,true,by simp[he],h2,h3,h4⟩
  ·exact⟨k,false,by simp[he],h2,h3,h4⟩
 ·exact⟨k,false,by rw[if_neg (by omega)];rfl,h2,h3,h4⟩
def Kr(to:Int):Int→List Int→List GDateRange
 |a,[]=>[⟨a,to⟩]
 |a,x::l=>⟨a,x⟩::Kr to x l
theorem SB{to:Int}:∀{a:Int}{l:List Int},(Kr to a l).length=l.length+1
 |_,[]=>rfl
 |_,x::l=>by simp[Kr,SB (a:=x) (l:=l)]
def inside(r:GDateRange) (x:Int):Bool:=decide (r.From<x)&&decide (x<r.To)
theorem Gs{q:List Int}{r:GDateRange}(hq:q.Pairwise (·<·)) (hl:q.length≤65536) (hr:0≤r.From∧r.From<r.To∧r.To≤1000000):Qi r q=some (Kr r.To r.From (q.filter (inside r))):=by
 unfold Qi;rw[wid (by omega) (by omega)];obtain⟨k,b,h1,h2,h3,h4⟩:=aP (t:=r.From+1) hq (by omega);rw[h1,haa];dsimp only;have hp:=Cac.1 hq;have hf:q.filter (inside r)=(q.drop k).filter fun x=>decide (x<r.To):=by
  conv=>lhs;rw[←List.take_append_drop k q]
  rw[uab];have e1:(q.take k).filter (inside r)=[]:=by
   rw[fad];intro x hx;obtain⟨i,hi,rfl⟩:=Faa hx;rw[Qaa]at hi;have:=h3 i (by omega) (by omega);rw[zac];simp[inside];omega
  rw[e1,sab];refine List.filter_congr fun x hx=>?_;obtain⟨i,hi,rfl⟩:=Faa hx;rw[mac]at hi;have:=h4 (k+i) (by omega) (by omega);rw[Iae];simp[inside];omega
 rw[hf];obtain⟨⟨s2,s3⟩,g1,g2,g3⟩:=rN (step:=Bl r q) (fun s=>∃j:Nat,s.2.2=(j:Int)∧j≤q.length∧s.2.1.length≤j∧Kr r.To r.From ((q.drop k).filter fun x=>decide (x<r.To))=s.2.1++Kr r.To s.1 ((q.drop j).filter fun x=>decide (x<r.To))) (fun s=>((q.length:Int)-s.2.2).toNat) (fun b=>b.2.length≤q.length∧Kr r.To r.From ((q.drop k).filter fun x=>decide (x<r.To))=b.2++[⟨b.1,r.To⟩]) (by
  rintro⟨s2,s3,s4⟩ ⟨j,i1,i2,i3,i4⟩;dsimp only at i1 i2 i3 i4;subst i1;unfold Bl;dsimp only;by_cases hj:j<q.length
  ·rw[if_pos (by omega),Na hj,haa,haa];have hd:q.drop j=q[j]::q.drop (j+1):=nab hj;by_cases hx:q[j]<r.To
   ·left;refine⟨_,by rw[if_pos (by simpa using hx),haa,Sj (by simp;omega),haa,La (by omega)],⟨j+1,rfl,by omega,by simp;omega,?_⟩,by dsimp only;omega⟩;dsimp only;rw[i4,hd,Gab,if_pos (by simpa using hx)];simp[Kr]
   ·right;refine⟨_,by rw[if_neg (by simpa using hx)],by dsimp only;omega,?_⟩;dsimp only;have:(q.drop j).filter (fun x=>decide (x<r.To))=[]:=by
     rw[fad];intro x hx';obtain⟨i,hi,rfl⟩:=Faa hx';rw[mac]at hi;rw[Iae];rcases Nat.eq_zero_or_pos i with rfl|h0
     ·simpa using hx
     ·have:=hp j (j+i) hj (by omega) (by omega);simp;omega
    rw[i4,this];rfl
  ·right;refine⟨_,by rw[if_neg (by omega)];rfl,by dsimp only;omega,?_⟩;dsimp only;rw[i4,Pac (by omega)];rfl) q.length (r.From,[],(k:Int)) (by dsimp only;omega) ⟨k,rfl,h2,by simp,by simp⟩
 rw[g1,haa];dsimp only at g2 g3⊢;rw[Sj (by simp;omega),haa,g3]
theorem dN{a b:List Int}(ha:a.length≤1048576) (hb:b.length≤1048576):Vg [a,b]=some (a++b):=by
 unfold Vg;have e1:ia (qd [a,b]) (0,0)=some (.inl ((a.length:Int)+b.length)):=by
  rw[Xe (s':=((a.length:Int),1)),Xe (s':=((a.length:Int)+b.length,2)),Nb (b:=(a.length:Int)+b.length)]
  ·unfold qd;simp
  ·unfold qd;have:ca .i64 ((a.length:Int)+b.length)=(a.length:Int)+b.length:=wid (by omega) (by omega);simp[idx,this,wid];(try omega)
  ·unfold qd;have:ca .i64 (a.length:Int)=(a.length:Int):=wid (by omega) (by omega);simp[idx,this,wid]
 rw[e1,haa];dsimp only;have e2:Xg ((a.length:Int)+b.length)=some []:=by
  unfold Xg;rw[if_neg (by omega)];have w0:ca .i64 (0-0)=0:=wid (by omega) (by omega);rw[w0,Int.sub_zero,wid (by omega) (by omega)];by_cases h:0<(a.length:Int)+b.length
  ·rw[if_pos h];have:S4 8 (0:Int) ((a.length:Int)+b.length)=some (maa (a.length+b.length) 0):=by
    unfold S4;rw[if_pos ⟨h,by omega⟩];congr 2<;>omega
   rw[this,haa];simp[uo]
  ·rw[if_neg h];rfl
 rw[e2,haa];have e3:ia (Bd [a,b]) ([],0)=some (.inl (a++b)):=by
  rw[Xe (s':=(a,1)),Xe (s':=(a++b,2)),Nb (b:=a++b)]
  ·unfold Bd;simp
  ·unfold Bd;simp[idx,Sj (b:=8) (l:=a) (r:=b) (by omega),wid]
  ·unfold Bd;simp[idx,Sj (b:=8) (l:=[]) (r:=a) (by simp;omega),wid]
 rw[e3];rfl
def Q3(l:GLaw):Prop:=∀t∈l.Tables,t.Rows.length≤1125899906842624
end Go.Proofs.Dev
namespace Go.Proofs.Dev
open Go Go.Tm
theorem jQ{σ1 σ2 β1 β2 ρ1 ρ2:Type}{s1:σ1→Option (Ex σ1 β1 ρ1)}{s2:σ2→Option (Ex σ2 β2 ρ2)}(I:σ1→σ2→Prop) (mu:σ1→Nat) (QB:β1→β2→Prop) (QR:ρ1→ρ2→Prop)
 (h:∀x y,I x y→(∃x' y',s1 x=some (.go x')∧s2 y=some (.go y')∧I x' y'∧mu x'<mu x)∨(∃b c,s1 x=some (.brk b)∧s2 y=some (.brk c)∧QB b c)∨∃b c,s1 x=some (.ret b)∧s2 y=some (.ret c)∧QR b c) :
 ∀(n:Nat) x y,mu x≤n→I x y→(∃b c,ia s1 x=some (.inl b)∧ia s2 y=some (.inl c)∧QB b c)∨∃b c,ia s1 x=some (.inr b)∧ia s2 y=some (.inr c)∧QR b c:=by
 intro n
 induction n with
 |zero=>
  intro x y hn hi;rcases h x y hi with⟨x',y',h1,h2,h3,h4⟩|⟨b,c,h1,h2,h3⟩|⟨b,c,h1,h2,h3⟩
  ·omega
  ·exact .inl ⟨b,c,Nb h1,Nb h2,h3⟩
  ·exact .inr ⟨b,c,Sl h1,Sl h2,h3⟩
 |succ n ih=>
  intro x y hn hi;rcases h x y hi with⟨x',y',h1,h2,h3,h4⟩|⟨b,c,h1,h2,h3⟩|⟨b,c,h1,h2,h3⟩
  ·rw[Xe h1,Xe h2];exact ih x' y' (by omega) h3
  ·exact .inl ⟨b,c,Nb h1,Nb h2,h3⟩
  ·exact .inr ⟨b,c,Sl h1,Sl h2,h3⟩
def aJ(date key:Int) (r:GRow):Bool:=ou r.Valid date&&(decide (r.Lo≤key)&&decide (key<r.Hi))
theorem D9{a b:Prop} [Decidable a] [Decidable b] {c:Bool}:(jaa (α:=Bool) ((some c).bind fun x=>if x=true then if a then some (decide b)else some false else some false) fun j=>some j)=some (c&&(decide a&&decide b)):=by
 cases c<;>by_cases ha:a<;>simp[ha]
theorem uv(r:GRow) (date key:Int):fe r date key=some (aJ date key r):=by
 unfold fe aJ;rw[rh,D9]
noncomputable def Ox(t:GTable) (date key:Int):Int×Bool:=
 match ff (fun i=>if(t.Rows[i]?.any (aJ date key))=true then some ((i:Int),true)else none) t.Rows.length with
 |some v=>v
 |none=>(0,false)
theorem Zz{t:GTable}(hl:t.Rows.length≤1048576) (date key:Int):uk t date key=some (Ox t date key):=by
 have hl1:ia (ab t.Rows (fun y=>fe y date key)) 0=some (ui () (ff (fun i=>if(t.Rows[i]?.any (aJ date key))=true then some ((i:Int),true)else none) t.Rows.length)):=
  Uh (fun i=>(i:Int)) _ t.Rows.length () (fun i hi _=>by
   unfold ab;rw[if_pos (by omega),Na hi,iaa hi];simp only[haa,Option.any_some,uv];rw[La (by omega)];by_cases hc:aJ date key t.Rows[i]=true<;>simp[hc,jw]) (fun _=>by unfold ab;simp)
 unfold uk qb Ox;rw[hl1,haa];cases h:ff (fun i=>if(t.Rows[i]?.any (aJ date key))=true then some ((i:Int),true)else none) t.Rows.length<;>rfl
theorem PL{t:GTable}{date key:Int}(h:(Ox t date key).2=true):∃i:Nat,(Ox t date key).1=(i:Int)∧i<t.Rows.length:=by
 unfold Ox at h⊢;split
 ·rename_i v hv;obtain⟨i,h1,h2,-⟩:=Mb.1 hv;split at h2
  ·injection h2 with h2;subst h2;exact⟨i,rfl,h1⟩
  ·cases h2
 ·rename_i hv;simp[hv]at h
def wE(len n:Nat):Option (Nat×Nat):=if 1000000000000000<len*n / 1000000 then none else some (len*n / 1000000,len*n % 1000000)
def GD(neg:Bool):Option (Nat×Nat)→Int×Int×Bool
 |none=>(0,0,false)
 |some (q,r)=>(ny neg q,ny neg r,true)
theorem ts{len:Nat}{n:Int}(h1:len≤1000000000000000) (h2:-1000000000≤n∧n≤1000000000):og len n=some (GD (decide (n<0)) (wE len n.natAbs)):=by
 unfold og;have e:(if n<0 then some (ca .u64 (-(ca .u64 n)))else some (ca .u64 n))=some (n.natAbs:Int):=by
  have:=nf (n:=n) (by omega) (by omega);exact this
 rw[e,haa,GX (n:=(len:Int)) (by omega) (by omega),cI (by omega) (by omega),haa];have hp:len*n.natAbs≤1000000000000000*1000000000:=dad h1 (by omega);unfold wE;generalize len*n.natAbs=p at hp⊢;dsimp only;rw[if_neg (by omega),show(1000000:Int)=((1000000:Nat):Int)from rfl,TL (by omega) (by omega),haa];dsimp only;by_cases hq:1000000000000000<p / 1000000
 ·rw[if_pos (by omega),if_pos hq];rfl
 ·rw[if_neg (by omega),if_neg hq,wid (n:=((p / 1000000:Nat):Int)) (by omega) (by omega),wid (n:=((p % 1000000:Nat):Int)) (by omega) (by omega)];by_cases hn:n<0
  ·rw[if_pos hn,wid (by omega) (by omega),wid (by omega) (by omega),decide_eq_true hn];rfl
  ·rw[if_neg hn,decide_eq_false hn];rfl
theorem iG{neg:Bool}{len n:Nat}:-1000000000000000≤(GD neg (wE len n)).1∧(GD neg (wE len n)).1≤1000000000000000∧-1000000≤(GD neg (wE len n)).2.1∧(GD neg (wE len n)).2.1≤1000000:=by
 unfold wE;split
 ·simp[GD]
 ·unfold GD ny;have:len*n % 1000000<1000000:=Qac _ (by decide);generalize len*n / 1000000=a at *;generalize len*n % 1000000=b at *;dsimp only;split<;>omega
def CZ(w m mode:Int):Int:=wC mode ((w*1000000+m) / 1000000) ((w*1000000+m) % 1000000) 1000000
theorem qM{mode q r e:Int}(he:e % 2=0) (h:(0≤q+e)↔(0≤q)):wC mode (q+e) r 1000000=wC mode q r 1000000+e:=by
 have:uK mode (q+e) r 1000000↔uK mode q r 1000000:=by unfold uK;omega
 unfold wC;by_cases hu:uK mode q r 1000000
 ·rw[if_pos hu,if_pos (this.2 hu)];omega
 ·rw[if_neg hu,if_neg (fun x=>hu (this.1 x))]
theorem mw{w m mode:Int}(hm:0≤mode∧mode≤5) (hw:-2000000000000000000≤w∧w≤2000000000000000000) (hr:-1000000000000≤m∧m≤1000000000000) :
 Uj w m mode=some (if 1000000000000000<CZ w m mode∨CZ w m mode < -1000000000000000 then(0,3)else(CZ w m mode,0)):=by
 have hmm:=Int.mul_tdiv_add_tmod m 1000000;have hm1:=Cae m (show(0:Int)<1000000 by omega);have hm2:-1000000<Lab m 1000000:=by
  have:=Cae (-m) (show(0:Int)<1000000 by omega);rw[saf]at this;omega
 unfold Uj;rw[wid (n:=iab m 1000000) (by omega) (by omega),wid (n:=w+iab m 1000000) (by omega) (by omega)];have hT:w*1000000+m=(w+iab m 1000000)*1000000+Lab m 1000000:=by omega
 unfold CZ;rw[hT];have hW:-3000000000000000000≤w+iab m 1000000∧w+iab m 1000000≤3000000000000000000:=by omega
 generalize w+iab m 1000000=W at *;generalize Lab m 1000000=M at *;clear hmm hT;have hrd:=FL mode ((W*1000000+M) / 1000000) ((W*1000000+M) % 1000000) 1000000;by_cases hb:W < -2000000000000000∨2000000000000000<W
 ·have:(jaa (α:=Bool) (if¬W < -2000000000000000 then some (decide (2000000000000000<W))else some true) fun j=>some j)=some true:=by
   by_cases h:W < -2000000000000000
   ·simp[h]
   ·rw[if_pos h];simp;omega
  have h2:(if¬W < -2000000000000000 then some (decide (2000000000000000<W))else some true)=some true:=by
   by_cases h:W < -2000000000000000
   ·simp[h]
   ·rw[if_pos h];simp;omega
  rw[h2,haa,if_pos rfl,if_pos (by omega)]
 ·rw[if_pos (by omega),haa,if_neg (by simp;omega)];have htm:Lab W 2=if 0≤W then W % 2 else -(-W % 2):=by
   split
   ·exact Io (by omega)
   ·rw[←waf W,saf,Io (by omega),waf]
  obtain⟨P,hP,hPe⟩:∃P,(if 1<W then some (ca .i64 ((Lab W 2)+2))else if W<(-1)then some (ca .i64 ((Lab W 2)-2))else some (Lab W 2))=some P∧((1<W∧P=W % 2+2)∨(W < -1∧P = -(-W % 2)-2)∨(-1≤W∧W≤1∧P=W)):=by
   rw[htm];by_cases h1:1<W
   ·rw[if_pos h1,if_pos (by omega),wid (by omega) (by omega)];exact⟨_,rfl,.inl ⟨h1,rfl⟩⟩
   ·rw[if_neg h1];by_cases h2:W < -1
    ·rw[if_pos h2,if_neg (by omega),wid (by omega) (by omega)];exact⟨_,rfl,.inr (.inl ⟨h2,rfl⟩)⟩
    ·rw[if_neg h2];refine⟨_,rfl,.inr (.inr ⟨by omega,by omega,?_⟩)⟩;split<;>omega
  rw[hP,haa];have hPb:-4≤P∧P≤4:=by omega
  rw[wid (n:=P*1000000) (by omega) (by omega),wid (n:=P*1000000+M) (by omega) (by omega),mi];unfold vQ;rw[if_neg (saa.2 hm),if_neg (by decide),if_neg (by omega)];obtain⟨Z,hZ⟩:∃Z,P*1000000+M=Z:=⟨_,rfl⟩;rw[hZ];have hs:ny (!(decide (Z<0)==decide ((1000000:Int)<0))) (Yn (!(decide (Z<0)==decide ((1000000:Int)<0))) mode (Z.natAbs / 1000000) (Z.natAbs % 1000000) 1000000)=wC mode (Z / 1000000) (Z % 1000000) 1000000:=iA Z 1000000 mode (by decide) (!(decide (Z<0)==decide ((1000000:Int)<0))) (.inr (by simp)) hm;simp only[haa];rw[show(1000000:Int).natAbs=1000000 from rfl,hs,if_neg (by simp)];have hsh:wC mode ((W*1000000+M) / 1000000) ((W*1000000+M) % 1000000) 1000000=wC mode (Z / 1000000) (Z % 1000000) 1000000+(W-P):=by
   have e1:(W*1000000+M) / 1000000=Z / 1000000+(W-P):=by omega
   have e2:(W*1000000+M) % 1000000=Z % 1000000:=by omega
   rw[e1,e2];exact qM (by omega) (by omega)
  have hrd2:=FL mode (Z / 1000000) (Z % 1000000) 1000000;rw[hsh]at hrd⊢;generalize wC mode (Z / 1000000) (Z % 1000000) 1000000=R at *;rw[wid (n:=W-P) (by omega) (by omega),wid (n:=W-P+R) (by omega) (by omega),Int.add_comm (W-P) R];have:∀x:Int,(jaa (α:=Bool) (if¬x < -1000000000000000 then some (decide (1000000000000000<x))else some true) fun j10=>if j10=true then some ((0:Int),(3:Int))else some (x,0))=some (if 1000000000000000<x∨x < -1000000000000000 then(0,3)else(x,0)):=by
   intro x;by_cases h:x < -1000000000000000
   ·rw[if_neg (by omega),haa,if_pos rfl,if_pos (.inr h)]
   ·rw[if_pos h,haa];by_cases h2:1000000000000000<x
    ·rw[if_pos (by simpa using h2),if_pos (.inl h2)]
    ·rw[if_neg (by simpa using h2),if_neg (by omega)]
  exact this _
structure RowsN (t:GTable):Prop where
 len:t.Rows.length≤150
 n:∀r∈t.Rows,-1000000000≤r.N∧r.N≤1000000000
theorem vG{t:GTable}(ht:t.Value.Kind=4→RowsN t) (date c mode:Int):∃p,pk t date c mode=some p∧(p.2=0→-1000000000000000≤p.1∧p.1≤1000000000000000):=by
 unfold pk;rw[U5];by_cases hm:¬(0≤mode∧mode≤5)
 ·rw[decide_eq_true hm,if_pos rfl];exact⟨_,rfl,by decide⟩
 have hm:=Sab.1 hm;rw[decide_eq_false (p:=¬(0≤mode∧mode≤5)) (fun h=>h hm),if_neg (show¬(false=true)from fun h=>nomatch h)];have hty:∀{α:Type} (k:Bool→Option α),(jaa (α:=Bool) (if t.Key.Kind=3∧t.Key.Enum=0 then some (!((t.Value.Kind==4)&&(t.Value.Enum==0)))else some true) k)=k (!decide ((t.Key.Kind=3∧t.Key.Enum=0)∧(t.Value.Kind=4∧t.Value.Enum=0))):=by
  intro α k;by_cases h1:t.Key.Kind=3∧t.Key.Enum=0
  ·rw[if_pos h1,haa];congr 1;by_cases h2:t.Value.Kind=4<;>by_cases h3:t.Value.Enum=0<;>simp[h1,h2,h3]
  ·rw[if_neg h1,haa];congr 1;simp[h1]
 rw[hty];by_cases hk:¬((t.Key.Kind=3∧t.Key.Enum=0)∧(t.Value.Kind=4∧t.Value.Enum=0))
 ·rw[decide_eq_false hk,if_pos (show(!false)=true from rfl)];exact⟨_,rfl,by decide⟩
 have hk:=Sab.1 hk;rw[decide_eq_true hk,if_neg (show¬((!true)=true)from fun h=>nomatch h)];have ht:=ht hk.2.1;by_cases hc:1000000000000000<c∨c < -1000000000000000
 ·have h2:(if¬c < -1000000000000000 then some (decide (1000000000000000<c))else some true)=some true:=by
   by_cases h:c < -1000000000000000
   ·simp[h]
   ·rw[if_pos h];simp;omega
  rw[h2,haa,if_pos rfl];exact⟨_,rfl,by decide⟩
 ·rw[if_pos (by omega),haa,if_neg (by simp;omega)];have hlp:=jQ (s1:=oh t date c) (s2:=oh t date c) (fun x y=>x=y∧∃i:Nat,x.2.2=(i:Int)∧i≤t.Rows.length∧-(1000000000000000*(i:Int))≤x.1∧x.1≤1000000000000000*(i:Int)∧-(1000000*(i:Int))≤x.2.1∧x.2.1≤1000000*(i:Int)) (fun x=>(t.Rows.length-x.2.2).toNat) (fun x y=>x=y∧-150000000000000000≤x.1∧x.1≤150000000000000000∧-150000000≤x.2∧x.2≤150000000) (fun x y=>x=(0,3)∧y=(0,3)) (by
   rintro⟨a,b,j⟩ y ⟨rfl,i,i1,i2,i3,i4,i5,i6⟩;dsimp only at i1 i2 i3 i4 i5 i6;subst i1;have hl:=ht.len;unfold oh;dsimp only;by_cases hi:i<t.Rows.length
   ·have hN:=ht.n _ (raa hi);rw[if_pos (by omega),Na hi];simp only[haa,rh];generalize t.Rows[i]=r at hN⊢;by_cases hg:ou r.Valid date=true∧¬(min r.Hi c≤max r.Lo 0)
    ·rw[if_pos hg.1];have q1:decide (min r.Hi c≤max r.Lo 0)=false:=by simpa using hg.2
     rw[q1];simp only[haa,naa,if_false];rw[wid (by omega) (by omega)];obtain⟨len,hlen⟩:=Int.eq_ofNat_of_zero_le (show 0≤min r.Hi c-max r.Lo 0 by omega);rw[hlen,ts (by omega) hN];have hb:=iG (neg:=decide (r.N<0)) (len:=len) (n:=r.N.natAbs);generalize GD (decide (r.N<0)) (wE len r.N.natAbs)=v at hb⊢;obtain⟨v1,v2,v3⟩:=v;simp only[haa]at hb⊢;cases v3
     ·right;right;exact⟨_,_,rfl,rfl,rfl,rfl⟩
     ·left;rw[wid (n:=a+v1) (by omega) (by omega),wid (n:=b+v2) (by omega) (by omega),La (by omega)];refine⟨_,_,rfl,rfl,⟨rfl,i+1,rfl,by omega,?_⟩,?_⟩
      ·dsimp only;omega
      ·dsimp only;omega
    ·have q1:(if ou r.Valid date=true then some (decide (min r.Hi c≤max r.Lo 0))else some true)=some true:=by
      by_cases h1:ou r.Valid date=true
      ·rw[if_pos h1,decide_eq_true (Sab.1 fun h=>hg ⟨h1,h⟩)]
      ·rw[if_neg h1]
     have q2:(if¬(min r.Hi c≤max r.Lo 0)then some (!ou r.Valid date)else some true)=some true:=by
      by_cases h1:min r.Hi c≤max r.Lo 0
      ·rw[if_neg (by simpa using h1)]
      ·rw[if_pos h1];cases h3:ou r.Valid date
       ·rfl
       ·exact absurd ⟨h3,h1⟩ hg
     rw[q1];simp only[haa,if_true];left;rw[La (by omega)];refine⟨_,_,rfl,rfl,⟨rfl,i+1,rfl,by omega,?_⟩,?_⟩
     ·dsimp only;omega
     ·dsimp only;omega
   ·rw[if_neg (by omega)];right;left;exact⟨_,_,rfl,rfl,rfl,by dsimp only;omega⟩) t.Rows.length (0,0,0) (0,0,0) (by dsimp only;omega) ⟨rfl,0,rfl,by omega,by dsimp only;omega⟩
  rcases hlp with⟨x,y,g1,g2,rfl,g3⟩|⟨x,y,g1,g2,rfl,rfl⟩
  ·rw[g1];obtain⟨w,m⟩:=x;dsimp only at g3;simp only[haa];rw[mw hm (by omega) (by omega)];simp only[haa];by_cases h:1000000000000000<CZ w m mode∨CZ w m mode < -1000000000000000
   ·first|rw[if_pos h]|rw[if_pos (by simpa using h)]
    exact⟨_,rfl,by decide⟩
   ·first|rw[if_neg h]|rw[if_neg (by simpa using h)]
    exact⟨_,rfl,fun _=>by dsimp only;omega⟩
  ·rw[g1];exact⟨_,rfl,by decide⟩
end Go.Proofs.Dev
namespace Go.Proofs.Dev
open Go Go.Tm
def LJ(f:GFact):Prop:=f.Id<0∨(f.Member < -1∨8≤f.Member)∨(f.Input < -1∨12≤f.Input)∨(f.Member = -1∧f.Input = -1)∨tQ f.Valid=false∨(f.Recorded<0∨109572<f.Recorded)
instance (f:GFact):Decidable (LJ f):=by unfold LJ;infer_instance
def NK(f:GFact):Prop:=(f.Value.Kind<1∨6<f.Value.Kind)∨(f.Input = -1∧¬f.Value.Kind=1)
instance (f:GFact):Decidable (NK f):=by unfold NK;infer_instance
def lD(f:GFact):Int:=if LJ f then 3 else if NK f then 8 else 0
theorem Y9{a:Prop} [Decidable a] {b:Bool}{α:Type}{k:Bool→Option α}:(jaa (α:=Bool) (if a then some b else some false) k)=k (decide a&&b):=by
 by_cases h:a<;>simp[h]
theorem orQ{a b:Prop} [Decidable a] [Decidable b] {α:Type}{k:Bool→Option α}:(jaa (α:=Bool) (if¬a then some (decide b)else some true) k)=k (decide (a∨b)):=by
 by_cases h:a<;>simp[h]
theorem M3{α:Type}{a b:Prop} [Decidable a] [Decidable b] {x y:α}:(if a then x else if b then x else y)=if a∨b then x else y:=by
 by_cases h:a<;>simp[h]
theorem Fv(f:GFact):sf f=some (lD f):=by
 unfold sf;simp only[orQ,Y9,iq,haa,decide_eq_true_eq,paa,beq_iff_eq,bne_iff_ne,ne_eq,M3];unfold lD;by_cases h3:LJ f
 ·rw[if_pos h3];unfold LJ at h3;rw[if_pos h3]
 ·rw[if_neg h3];unfold LJ at h3;rw[if_neg h3];by_cases h8:NK f
  ·rw[if_pos h8];unfold NK at h8;rw[if_pos h8]
  ·rw[if_neg h8];unfold NK at h8;rw[if_neg h8]
def BD(l:List GFact) (i:Nat):Option (Int×Int):=
 match l[i]? with
 |some f=>if¬lD f=0 then some ((i:Int),lD f)else if((l.take i).any fun y=>decide (y.Id=f.Id))=true then some ((i:Int),7)else none
 |none=>none
def Fu(l:List GFact):Int×Int:=if 128<(l.length:Int)then(0,4)else(ff (BD l) l.length).getD (0,0)
theorem A3{l:List GFact}:∀(rest:List GFact) (i:Nat) (seen:List Int),l.drop i=rest→(∀x,seen.contains x=(l.take i).any fun y=>decide (y.Id=x))→Ld (i:Int) seen rest=some ((ff (fun j=>BD l (i+j)) rest.length).getD (0,0))
 |[],i,seen,h,hs=>rfl
 |f::rest,i,seen,h,hs=>by
  have hi:i<l.length:=by
   rcases Taa i l.length with h1|h1
   ·exact h1
   ·rw[Pac h1]at h;cases h
  have hf:l[i]=f∧l.drop (i+1)=rest:=by
   rw[nab hi]at h;injection h with h1 h2;exact⟨h1,h2⟩
  unfold Ld;rw[Fv,haa];simp only[ff,Daa,Jab];have he:BD l i=if¬lD f=0 then some ((i:Int),lD f)else if((l.take i).any fun y=>decide (y.Id=f.Id))=true then some ((i:Int),7)else none:=by
   unfold BD;rw[iaa hi,hf.1]
  rw[he];by_cases h0:lD f=0
  case neg=>rw[if_pos h0,if_pos h0];rfl
  rw[if_neg (saa.2 h0),if_neg (saa.2 h0),hs f.Id];by_cases hd:((l.take i).any fun y=>decide (y.Id=f.Id))=true
  ·rw[if_pos hd,if_pos hd];rfl
  ·rw[if_neg hd,if_neg hd];dsimp only;rw[show(i:Int)+1=((i+1:Nat):Int)from rfl,A3 rest (i+1) (f.Id::seen) hf.2 (fun x=>by
    rw[Zaa,iaa hi,hf.1,List.contains_cons,hs x];simp only[Option.toList_some,List.any_append,List.any_cons,List.any_nil,Bool.or_false];rw[Bool.or_comm];congr 1;rw[Bool.eq_iff_iff];simp;exact eq_comm)]
   congr 2;congr 1;funext j;congr 1;omega
theorem Rw(l:List GFact):Vh l=some (Fu l):=by
 unfold Vh Fu;split
 ·rfl
 ·have:=A3 (l:=l) l 0 [] (by simp) (fun x=>by simp);rw[show((0:Nat):Int)=0 from rfl]at this;rw[this];simp
theorem PR{l:List GFact}{i:Nat}{v:Int×Int}(h:BD l i=some v):v.1=(i:Int)∧v.2≠0:=by
 unfold BD at h;split at h
 ·split at h
  ·rename_i hc;injection h with h;subst h;exact⟨rfl,hc⟩
  ·split at h
   ·injection h with h;subst h;exact⟨rfl,show(7:Int)≠0 by decide⟩
   ·cases h
 ·cases h
structure FactsOk (l:List GFact):Prop where
 len:l.length≤128
 c:∀f∈l,lD f=0
 id:∀(i j:Nat) (hi:i<l.length) (hj:j<l.length),i<j→l[i].Id≠l[j].Id
theorem Pz{l:List GFact}(h:(Fu l).2=0):FactsOk l:=by
 unfold Fu at h;split at h
 ·simp at h
 have hn:∀i,i<l.length→BD l i=none:=by
  refine pb.1 ?_
  cases hf:ff (BD l) l.length with
  |none=>rfl
  |some v=>
   obtain⟨k,_,h2,_⟩:=Mb.1 hf;rw[hf]at h;exact absurd h (PR h2).2
 have hg:∀i (hi:i<l.length),lD l[i]=0∧((l.take i).any fun y=>decide (y.Id=l[i].Id))=false:=by
  intro i hi;have:=hn i hi;unfold BD at this;rw[iaa hi]at this;dsimp only at this;split at this
  ·cases this
  ·rename_i h0;split at this
   ·cases this
   ·rename_i h1;exact⟨Sab.1 h0,by simpa using h1⟩
 refine⟨by omega,fun f hf=>?_,fun i j hi hj hij=>?_⟩
 ·obtain⟨i,hi,rfl⟩:=Faa hf;exact(hg i hi).1
 ·have:=(hg j hj).2;rw[List.any_eq_false]at this;have:=this l[i] (by rw[List.mem_take_iff_getElem];exact⟨i,by omega,rfl⟩);simpa using this
def Xt(m i d r:Int) (f:GFact):Bool:=decide (f.Member=m)&&(decide (f.Input=i)&&(!decide (r<f.Recorded)&&ou f.Valid d))
def below(g f:GFact):Prop:=g.Recorded<f.Recorded∨(g.Recorded=f.Recorded∧g.Id≤f.Id)
instance (g f:GFact):Decidable (below g f):=by unfold below;infer_instance
theorem qY{l:List GFact}(hl:l.length≤1048576) (m i d r:Int):∃p,Qj l m i d r=some p∧
 ((p=(⟨0,0,0⟩,false)∧∀f∈l,Xt m i d r f=false)∨∃f∈l,p=(f.Value,true)∧Xt m i d r f=true∧∀g∈l,Xt m i d r g=true→below g f):=by
 have hcondP:∀f:GFact,(if f.Member=m then if f.Input=i then if¬r<f.Recorded then(Eb f.Valid d).bind fun x8=>some (!x8)else some true else some true else some true)=some (!Xt m i d r f):=by
  intro f;unfold Xt;rw[rh];by_cases h1:f.Member=m<;>by_cases h2:f.Input=i<;>by_cases h3:r<f.Recorded<;>simp[h1,h2,h3]
 have hwin:∀f g:GFact,Po f g=some (decide (¬below f g)):=by
  intro f g;unfold Po below;by_cases h:f.Recorded=g.Recorded
  ·rw[if_neg (saa.2 h)];congr 1;rw[decide_eq_decide];omega
  ·rw[if_pos h];congr 1;rw[decide_eq_decide];omega
 have hlp:=jQ (s1:=Zk l m i d r) (s2:=Zk l m i d r)
  (fun x y=>x=y∧∃j:Nat,j≤l.length∧x.2=(j:Int)∧((x.1 = -1∧∀f∈l.take j,Xt m i d r f=false)∨∃(k:Nat) (hk:k<l.length),x.1=(k:Int)∧Xt m i d r l[k]=true∧∀g∈l.take j,Xt m i d r g=true→below g l[k])) (fun x=>(l.length-x.2).toNat)
  (fun x y=>x=y∧((x = -1∧∀f∈l,Xt m i d r f=false)∨∃(k:Nat) (hk:k<l.length),x=(k:Int)∧Xt m i d r l[k]=true∧∀g∈l,Xt m i d r g=true→below g l[k])) (fun _ _=>False) (by
   rintro⟨a,b⟩ y ⟨rfl,j,j1,j2,j3⟩;dsimp only at j2 j3;subst j2;unfold Zk;dsimp only;by_cases hj:j<l.length
   case neg=>
    rw[if_neg (by omega)];rw[List.take_of_length_le (by omega)]at j3;exact .inr (.inl ⟨_,_,rfl,rfl,rfl,j3⟩)
   rw[if_pos (by omega),Na hj];simp only[haa,hcondP];have htk:l.take (j+1)=l.take j++[l[j]]:=by rw[Zaa,iaa hj];rfl
   cases hh:Xt m i d r l[j]
   ·simp only[Bool.not_false,if_true,haa];rw[La (by omega)];refine .inl ⟨_,_,rfl,rfl,⟨rfl,j+1,by omega,rfl,?_⟩,by dsimp only;omega⟩;dsimp only;rw[htk];rcases j3 with⟨e,j3⟩|⟨k,hk,e,h1,h2⟩
    ·refine .inl ⟨e,fun f hf=>?_⟩;rcases Jaa.1 hf with hf|hf
     ·exact j3 f hf
     ·rw[Paa]at hf;rw[hf];exact hh
    ·refine .inr ⟨k,hk,e,h1,fun g hg hg2=>?_⟩;rcases Jaa.1 hg with hg|hg
     ·exact h2 g hg hg2
     ·rw[Paa]at hg;rw[hg,hh]at hg2;cases hg2
   ·simp only[Bac,naa,if_false];rcases j3 with⟨e,j3⟩|⟨k,hk,e,h1,h2⟩
    ·subst e;rw[if_neg (by decide)];simp only[haa,if_true];rw[La (by omega)];refine .inl ⟨_,_,rfl,rfl,⟨rfl,j+1,by omega,rfl,?_⟩,by dsimp only;omega⟩;refine .inr ⟨j,hj,rfl,hh,fun g hg hg2=>?_⟩;rw[htk]at hg;rcases Jaa.1 hg with hg|hg
     ·rw[j3 g hg]at hg2;cases hg2
     ·rw[Paa]at hg;rw[hg];exact .inr ⟨rfl,kad _⟩
    ·subst e;rw[if_pos (by omega),Na hk];simp only[haa,hwin];by_cases hb:below l[j] l[k]
     ·rw[decide_eq_false (p:=¬below l[j] l[k]) (fun h=>h hb)];simp only[naa,if_false,haa];rw[La (by omega)];refine .inl ⟨_,_,rfl,rfl,⟨rfl,j+1,by omega,rfl,.inr ⟨k,hk,rfl,h1,fun g hg hg2=>?_⟩⟩,by dsimp only;omega⟩;rw[htk]at hg;rcases Jaa.1 hg with hg|hg
      ·exact h2 g hg hg2
      ·rw[Paa]at hg;rw[hg];exact hb
     ·rw[decide_eq_true hb];simp only[if_true,haa];rw[La (by omega)];refine .inl ⟨_,_,rfl,rfl,⟨rfl,j+1,by omega,rfl,.inr ⟨j,hj,rfl,hh,fun g hg hg2=>?_⟩⟩,by dsimp only;omega⟩;rw[htk]at hg;rcases Jaa.1 hg with hg|hg
      ·have:=h2 g hg hg2;unfold below at this hb⊢;omega
      ·rw[Paa]at hg;rw[hg];exact .inr ⟨rfl,kad _⟩) l.length (-1,0) (-1,0) (by dsimp only;omega) ⟨rfl,0,Nat.zero_le _,rfl,.inl ⟨rfl,fun f hf=>by simp at hf⟩⟩
 rcases hlp with⟨x,y,g1,g2,rfl,g3⟩|⟨_,_,_,_,h⟩
 ·unfold Qj;rw[g1];simp only[haa];rcases g3 with⟨e,g3⟩|⟨k,hk,e,h1,h2⟩
  ·subst e;exact⟨_,rfl,.inl ⟨rfl,g3⟩⟩
  ·subst e;rw[if_neg (by omega),Na hk];exact⟨_,rfl,.inr ⟨l[k],raa _,rfl,h1,h2⟩⟩
 ·exact h.elim
end Go.Proofs.Dev
namespace Go.Proofs.Dev
open Go Go.Tm
theorem TB:Ef 300=109573:=by rw[zA];decide
theorem D6(y:Int):oj y 1=31∧oj y 3=31∧oj y 4=30∧oj y 5=31∧oj y 6=30∧oj y 7=31∧oj y 8=31∧oj y 9=30∧oj y 10=31∧oj y 11=30∧oj y 12=31:=by
 simp[oj]
theorem qS(y:Int):Kj y 12=if DA y=true then 366 else 365:=by
 obtain⟨h1,h3,h4,h5,h6,h7,h8,h9,h10,h11,h12⟩:=D6 y;have e:Kj y 12=0+oj y 1+oj y 2+oj y 3+oj y 4+oj y 5+oj y 6+oj y 7+oj y 8+oj y 9+oj y 10+oj y 11+oj y 12:=rfl;rw[e,h1,h3,h4,h5,h6,h7,h8,h9,h10,h11,h12];unfold oj;simp only[if_true];split<;>omega
theorem Tu(n:Nat):Ef (n+1)=Ef n+Kj (1900+n) 12:=by
 rw[qS];rfl
theorem Tq:∀{i j:Nat},i≤j→Ef i≤Ef j:=by
 intro i j h
 induction h with
 |refl=>exact kad _
 |step h ih=>
  rename_i j;have:=Tu j;have:=(Wl (y:=1900+j) 12).1;show Ef i≤Ef (j+1);omega
theorem DB{y:Int}:∀{i j:Nat},i≤j→Kj y i≤Kj y j:=by
 intro i j h
 induction h with
 |refl=>exact kad _
 |step h ih=>
  rename_i j;have:=Ri (y:=y) (m:=j+1);show Kj y i≤Kj y (j+1);simp only[Kj];omega
theorem kI{t:Int}(h0:0≤t):∀N,t<Ef N→∃n,n<N∧Ef n≤t∧t<Ef (n+1)
 |0,h=>by simp[Ef]at h;omega
 |N+1,h=>by
  by_cases h1:t<Ef N
  ·obtain⟨n,a,b⟩:=kI h0 N h1;exact⟨n,by omega,b⟩
  ·exact⟨N,by omega,by omega,h⟩
theorem fF{y t:Int}(h0:0≤t):∀N,t<Kj y N→∃n,n<N∧Kj y n≤t∧t<Kj y (n+1)
 |0,h=>by simp[Kj]at h;omega
 |N+1,h=>by
  by_cases h1:t<Kj y N
  ·obtain⟨n,a,b⟩:=fF h0 N h1;exact⟨n,by omega,b⟩
  ·exact⟨N,by omega,by omega,h⟩
structure Ymd (t:Int) (n m:Nat) (k:Int):Prop where
 hn:n<300
 hm:m<12
 hk:0≤k∧k<oj (1900+n) (m+1)
 ht:t=sj n m+k
theorem WC{t:Int}(h0:0≤t) (h1:t≤109572):∃n m k,Ymd t n m k:=by
 obtain⟨n,a1,a2,a3⟩:=kI h0 300 (by rw[TB];omega);rw[Tu]at a3;obtain⟨m,b1,b2,b3⟩:=fF (y:=1900+n) (t:=t-Ef n) (by omega) 12 (by omega);refine⟨n,m,t-Ef n-Kj (1900+n) m,a1,b1,⟨by omega,?_⟩,by unfold sj;omega⟩;simp only[Kj]at b3;omega
theorem Ymd.year{t n m k}(h:Ymd t n m k):Ef n≤t∧t<Ef (n+1):=by
 obtain⟨h1,h2,h3,h4⟩:=h;have:=(Wl (y:=1900+n) m).1;have h5:=DB (y:=1900+n) (i:=m+1) (j:=12) (by omega);rw[Tu];simp only[Kj]at h5⊢;unfold sj at h4;omega
theorem Ymd.range{t n m k}(h:Ymd t n m k):0≤t∧t≤109572:=by
 have h1:=h.year;have:=Tq (i:=n+1) (j:=300) (by have:=h.hn;omega);rw[TB]at this;have:=Mn n;omega
theorem im(t:Int):Yj t=some (decide (0≤t∧t≤109572)):=by
 unfold Yj;by_cases h:0≤t<;>simp[h]
theorem H3{σ β ρ:Type}{step:σ→Option (Ex σ β ρ)}{x0:σ}(S:Nat→σ) (n:Nat) (v:ρ) (hgo:∀i,i<n→step (S i)=some (.go (S (i+1)))) (hend:step (S n)=some (.ret v)) (h0:x0=S 0):ia step x0=some (.inr v):=by
 subst h0;have:∀k j,j+k=n→ia step (S j)=some (.inr v):=by
  intro k
  induction k with
  |zero=>intro j h;rw[Jab]at h;subst h;exact Sl hend
  |succ k ih=>intro j h;rw[Xe (hgo j (by omega))];exact ih (j+1) (by omega)
 exact this n 0 (by omega)
theorem Ao{t n m k}(h:Ymd t n m k):Ci t=some (1900+(n:Int),(m:Int)+1,k+1):=by
 have hr:=h.range;have hy:=h.year;unfold Ci;rw[im,haa,if_neg (by simp;omega)];have hq:t.tdiv 366=((t.toNat / 366:Nat):Int):=by rw[Jo hr.1];omega
 have hle:t.toNat / 366≤n:=by
  have:=(Mn (n+1)).2;omega
 have e1:ia (ij t) (ca .i64 (1900+(ca .i64 (iab t 366))))=some (.inl (1900+(n:Int))):=by
  refine wi (step:=ij t) (fun i=>1900+((t.toNat / 366+i:Nat):Int)) (n-t.toNat / 366) _ (fun i hi=>?_) ?_ ?_
  ·unfold ij;have hm:=Tq (i:=t.toNat / 366+i+1) (j:=n) (by omega);have e:ca .i64 (1900+((t.toNat / 366+i:Nat):Int)+1)=1900+((t.toNat / 366+i+1:Nat):Int):=by
    rw[wid (by have:=h.hn;omega) (by have:=h.hn;omega)];omega
   rw[e,Ph (by have:=h.hn;omega),haa,if_pos (by omega)];rfl
  ·unfold ij;have e:ca .i64 (1900+((t.toNat / 366+(n-t.toNat / 366):Nat):Int)+1)=1900+((n+1:Nat):Int):=by
    rw[wid (by have:=h.hn;omega) (by have:=h.hn;omega)];omega
   rw[e,Ph (by have:=h.hn;omega),haa,if_neg (by omega)];congr 3;omega
  ·rw[hq,wid (n:=((t.toNat / 366:Nat):Int)) (by omega) (by omega),wid (by omega) (by omega)];rfl
 rw[e1,haa];dsimp only;rw[Ph (by have:=h.hn;omega),haa];have ht:=h.ht;unfold sj at ht;have hmm:=Wl (y:=1900+n) m;have hkk:=h.hk;have hdd:=Ri (y:=1900+n) (m:=m+1);have hyy:=Mn n;have hm12:=h.hm;have hn3:=h.hn;have e2:ia (kj (1900+n)) (ca .i64 (t-Ef n),0)=some (.inr (1900+(n:Int),(m:Int)+1,k+1)):=by
  refine H3 (step:=kj (1900+n)) (fun i=>(Kj (1900+n) m-Kj (1900+n) i+k,(i:Int))) m _ (fun i hi=>?_) ?_ ?_
  ·unfold kj;dsimp only;have h1:=DB (y:=1900+n) (i:=i+1) (j:=m) (by omega);have h3:=(Wl (y:=1900+n) i);have h4:=Ri (y:=1900+n) (m:=i+1);simp only[Kj]at h1;rw[if_pos (by omega),La (by omega),kc (by omega) (by omega) (by omega),haa];rw[show((i+1:Nat):Int)=(i:Int)+1 from rfl]at *;rw[if_neg (by omega),wid (by omega) (by omega)];simp only[Kj];congr 3;omega
  ·unfold kj;dsimp only;rw[if_pos (by omega),La (by omega),kc (by omega) (by omega) (by omega),haa];rw[show((m+1:Nat):Int)=(m:Int)+1 from rfl]at *;rw[if_pos (by omega),wid (by omega) (by omega)];congr 4;omega
  ·rw[wid (by omega) (by omega)];simp only[Kj];congr 1;omega
 rw[e2];rfl
theorem kA{n m:Nat}{d:Int}(hn:n<300) (hm:m<12) (hd1:1≤d) (hd2:d≤oj (1900+n) (m+1)):ah (1900+n) (m+1) d=some (sj n m+d-1,0):=by
 unfold ah;have hy:=Mn n;have hd:=Ri (y:=1900+n) (m:=(m:Int)+1);rw[if_pos (by omega),if_pos (by omega),if_pos (by omega),if_pos (by omega),if_pos (by omega),kc (by omega) (by omega) (by omega),haa,haa,if_neg (by simp;omega),Ph (by omega),haa];have e:ia (qc (1900+n) (m+1)) (Ef n,0)=some (.inl (sj n m)):=wi (step:=qc (1900+n) (m+1)) (fun i=>(Ef n+Kj (1900+n) i,(i:Int))) m (sj n m) (fun i hi=>by
  unfold qc;dsimp only;rw[wid (n:=(m:Int)+1-1) (by omega) (by omega),if_pos (by omega),La (by omega),kc (by omega) (by omega) (by omega),haa];have:=Wl (y:=1900+n) i;have:=Ri (y:=1900+n) (m:=((i+1:Nat):Int));rw[wid (by omega) (by omega)];simp only[Kj,Oad,Pad,Bae,naf]) (by
  unfold qc;dsimp only;rw[wid (n:=(m:Int)+1-1) (by omega) (by omega),if_neg (by omega)];rfl) (by simp[Kj])
 rw[e];have:=Wl (y:=1900+n) m;simp only[haa,sj];rw[wid (n:=Ef n+Kj (1900+n) m+d) (by omega) (by omega),wid (by omega) (by omega)]
def SL(n m:Nat) (k j:Int):Int×Int:=
 if 12*(n:Int)+m+j<0∨3599<12*(n:Int)+m+j then(0,3)else
 (sj ((12*(n:Int)+m+j) / 12).toNat ((12*(n:Int)+m+j) % 12).toNat+min (k+1) (oj (1900+(12*(n:Int)+m+j) / 12) ((12*(n:Int)+m+j) % 12+1))-1,0)
theorem H4{b c:Prop} [Decidable b] [Decidable c] {α:Type}{k:Bool→Option α}{x:Option Bool}(hx:x=some true):(jaa (α:=Bool) (x.bind fun x1=>if x1=true then if¬b then some (decide c)else some true else some true) k)=k (decide (b∨c)):=by
 subst hx;rw[haa,if_pos rfl];by_cases h:b<;>simp[h]
theorem rq{t n m k}(h:Ymd t n m k) {j:Int}(hj:-3600≤j∧j≤3600):Re t j=some (SL n m k j):=by
 have hr:=h.range;have hkk:=h.hk;have hm12:=h.hm;have hn3:=h.hn;have hdd:=Ri (y:=1900+n) (m:=m+1);unfold Re;rw[H4 (by rw[im];simp;omega),if_neg (by simp;omega),Ao h,haa];have e:ca .i64 ((ca .i64 ((ca .i64 ((ca .i64 ((ca .i64 (1900+(n:Int)-1900))*12))+((m:Int)+1)))-1))+j)=12*(n:Int)+m+j:=by
  rw[wid (n:=1900+(n:Int)-1900) (by omega) (by omega),wid (n:=(1900+(n:Int)-1900)*12) (by omega) (by omega),wid (n:=(1900+(n:Int)-1900)*12+((m:Int)+1)) (by omega) (by omega),wid (n:=(1900+(n:Int)-1900)*12+((m:Int)+1)-1) (by omega) (by omega),wid (by omega) (by omega)];omega
 dsimp only;rw[e];unfold SL;generalize 12*(n:Int)+m+j=K at *;by_cases h1:K<0
 ·rw[if_neg (by omega),haa,if_pos rfl,if_pos (.inl h1)]
 ·rw[if_pos h1,haa];by_cases h2:3599<K
  ·rw[if_pos (by simpa using h2),if_pos (.inr h2)]
  ·rw[if_neg (by simpa using h2),if_neg (by omega)];have e2:ca .i64 (1900+ca .i64 (iab K 12))=1900+((K / 12).toNat:Int):=by
    rw[Jo (by omega),wid (n:=K / 12) (by omega) (by omega),wid (by omega) (by omega)];omega
   have e3:ca .i64 (Lab K 12+1)=((K % 12).toNat:Int)+1:=by
    rw[Io (by omega),wid (by omega) (by omega)];omega
   rw[e2,e3];have hd2:=Ri (y:=1900+((K / 12).toNat:Int)) (m:=((K % 12).toNat:Int)+1);rw[kc (by omega) (by omega) (by omega),haa,kA (by omega) (by omega) (by omega) (by omega),haa];rw[show(((K / 12).toNat:Nat):Int)=K / 12 by omega,show(((K % 12).toNat:Nat):Int)=K % 12 by omega]
theorem KH{t n m k}(h:Ymd t n m k) {i:Nat}:(n+i<300→∃k',Ymd (SL n m k (12*i)).1 (n+i) m k'∧(SL n m k (12*i)).2=0∧(i=0→(SL n m k (12*i)).1=t))∧(300≤n+i→SL n m k (12*i)=(0,3)):=by
 have hkk:=h.hk;have hm12:=h.hm;have hn3:=h.hn;constructor
 ·intro hi;have e1:(12*(n:Int)+m+12*i) / 12=((n+i:Nat):Int):=by omega
  have e2:(12*(n:Int)+m+12*i) % 12=(m:Int):=by omega
  unfold SL;rw[if_neg (by omega),e1,e2];have hd2:=Ri (y:=1900+((n+i:Nat):Int)) (m:=(m:Int)+1);simp only[Int.toNat_natCast];refine⟨min (k+1) (oj (1900+((n+i:Nat):Int)) ((m:Int)+1))-1,⟨hi,hm12,by omega,by omega⟩,trivial,fun h0=>?_⟩;subst h0;have:=h.ht;rw[Jab];omega
 ·intro hi;unfold SL;rw[if_pos (by omega)]
theorem CT(a b:Int):∃r,vh a b=some r∧0≤r∧r≤300:=by
 unfold vh;rw[im,im];by_cases hva:¬(0≤a∧a≤109572)
 ·rw[decide_eq_false hva];exact⟨0,by simp,by omega,by omega⟩
 have hva:=Sab.1 hva;by_cases hvb:¬(0≤b∧b≤109572)
 ·rw[decide_eq_false hvb,decide_eq_true hva];exact⟨0,by simp,by omega,by omega⟩
 have hvb:=Sab.1 hvb;rw[decide_eq_true hva,decide_eq_true hvb];simp only[haa,if_true,Bac,naa,if_false];obtain⟨na,ma,ka,ha⟩:=WC hva.1 hva.2;obtain⟨nb,mb,kb,hb⟩:=WC hvb.1 hvb.2;have hya:=ha.year;have hyb:=hb.year;have hna:=ha.hn;have hnb:=hb.hn;by_cases hab:b<a
 ·rw[if_pos (by simpa using hab)];exact⟨0,rfl,by omega,by omega⟩
 ·rw[if_neg (by simpa using hab),Ao ha,haa,Ao hb,haa];dsimp only;have hle:na≤nb:=by
   rcases Taa nb na with h1|h1
   ·have:=Tq (i:=nb+1) (j:=na) (by omega);omega
   ·exact h1
  obtain⟨Y,hY⟩:∃Y,nb=na+Y:=⟨nb-na,by omega⟩;subst hY;have e1:ca .i64 (1900+((na+Y:Nat):Int)-(1900+(na:Int)))=(Y:Int):=by rw[wid (by omega) (by omega)];omega
  rw[e1,wid (n:=12*(Y:Int)) (by omega) (by omega),rq ha (by omega),haa];obtain⟨k',g1,g2,g3⟩:=(KH ha (i:=Y)).1 hnb;have below:∀i,i<Y→(SL na ma ka (12*(i:Int))).2=0∧(SL na ma ka (12*(i:Int))).1≤b:=by
   intro i hi;obtain⟨k2,q1,q2,-⟩:=(KH ha (i:=i)).1 (by omega);have:=q1.year;have:=Tq (i:=na+i+1) (j:=na+Y) (by omega);exact⟨q2,by omega⟩
  rw[if_pos g2,haa];by_cases hc:b<(SL na ma ka (12*(Y:Int))).1
  ·rw[if_pos (by simpa using hc),haa];have hY0:Y≠0:=by
    intro h0;have:=g3 h0;omega
   obtain⟨Z,rfl⟩:∃Z,Y=Z+1:=⟨Y-1,by omega⟩;refine⟨(Z:Int),?_,by omega,by omega⟩;rw[wid (by omega) (by omega)];congr 1;omega
  ·rw[if_neg (by simpa using hc),haa];exact⟨(Y:Int),by congr 1;omega,by omega,by omega⟩
end Go.Proofs.Dev
namespace Go.Proofs.Dev
open Go Go.Tm
def Hb(v:GValue):Prop:=
 (v.Kind=1∧v.Enum=0∧0≤v.N∧v.N≤1)∨(v.Kind=2∧v.Enum=0∧-1000000000000≤v.N∧v.N≤1000000000000)∨(v.Kind=3∧v.Enum=0∧-1000000000000000≤v.N∧v.N≤1000000000000000)∨
 (v.Kind=4∧v.Enum=0∧-1000000000≤v.N∧v.N≤1000000000)∨(v.Kind=5∧v.Enum=0∧0≤v.N∧v.N≤109572)∨(v.Kind=6∧0≤v.Enum∧v.Enum<8∧0≤v.N∧v.N<16)
instance (v:GValue):Decidable (Hb v):=by unfold Hb;infer_instance
def iu(v:GValue):Bool:=decide (Hb v)
theorem vI{a b:Prop} [Decidable a] [Decidable b]:(jaa (α:=Bool) (if a then some (decide b)else some false) fun j=>some j)=some (decide (a∧b)):=by
 by_cases h:a<;>simp[h]
theorem Mt{a:Bool}{c:Prop} [Decidable c] {P:Prop} [Decidable P] (h:P↔a=false∧c):(if a=true then some false else some (decide c))=some (decide P):=by
 cases a<;>by_cases hc:c<;>simp[hc,h]
theorem O9{a:Prop} [Decidable a] {b:Bool}:(if¬a then some b else some false)=some (!decide a&&b):=by
 by_cases h:a<;>simp[h]
theorem vc(v:GValue):sb v=some (iu v):=by
 obtain⟨K,E,N⟩:=v;unfold sb iu Hb;simp only[vI,O9,haa];by_cases h1:K=1
 ·subst h1;have e:(jaa (α:=Bool) (if¬N=0 then some (N==1)else some true) fun j6=>some j6)=some (decide (0≤N∧N≤1)):=by
   by_cases n0:N=0
   ·subst n0;rfl
   ·rw[if_pos n0,haa];by_cases n1:N=1
    ·subst n1;rfl
    ·rw[decide_eq_false (by omega)];simp[n1]
  simp only[e,if_true];exact Mt (by simp<;>omega)
 by_cases h2:K=2
 ·subst h2;simp only[if_true,oaa,if_false];exact Mt (by simp<;>omega)
 by_cases h3:K=3
 ·subst h3;simp only[if_true,oaa,if_false];exact Mt (by simp<;>omega)
 by_cases h4:K=4
 ·subst h4;simp only[if_true,oaa,if_false];exact Mt (by simp<;>omega)
 by_cases h5:K=5
 ·subst h5;simp only[if_true,oaa,if_false];exact Mt (by simp<;>omega)
 by_cases h6:K=6
 ·subst h6;have e:(jaa (α:=Bool) (if 0≤E then if E<8 then if 0≤N then some (decide (N<16))else some false else some false else some false) fun j=>some j)=some (decide (0≤E∧E<8∧0≤N∧N<16)):=by
   by_cases e1:0≤E<;>by_cases e2:E<8<;>by_cases e3:0≤N<;>simp[e1,e2,e3]
  simp only[e,if_true,oaa,if_false];exact Mt (by simp<;>omega)
 simp[h1,h2,h3,h4,h5,h6]
theorem Hb.range{v:GValue}(h:Hb v):-1000000000000000≤v.N∧v.N≤1000000000000000∧1≤v.Kind∧v.Kind≤6:=by unfold Hb at h;omega
def zZ(n:GNode):Bool:=
 decide (n.N=0∨Ch n.Op=true)&&decide ((14≤n.Op∧n.Op≤16→0≤n.N∧n.N≤5)∧(n.Op=34→0≤n.N∧n.N % 8≤5)∧(n.Op=6→0≤n.N))
theorem R9{n:GNode}:(jaa (α:=Bool) (if n.Op=14 then some true else if n.Op=15 then some true else some (n.Op==16)) fun j9=>
 if j9=true then jaa (α:=Bool) (if 0≤n.N then some (decide (n.N≤5))else some false) fun j12=>some j12
 else if n.Op=34 then jaa (α:=Bool) (if 0≤n.N then some (decide ((Lab n.N 8)≤5))else some false) fun j15=>some j15
 else if n.Op=6 then some (decide (0≤n.N))else some true)=some (decide ((14≤n.Op∧n.Op≤16→0≤n.N∧n.N≤5)∧(n.Op=34→0≤n.N∧n.N % 8≤5)∧(n.Op=6→0≤n.N))):=by
 obtain⟨op,N⟩:=n;dsimp only;simp only[vI];by_cases h14:op=14
 ·subst h14;simp
 by_cases h15:op=15
 ·subst h15;simp
 by_cases h16:op=16
 ·subst h16;simp
 by_cases h34:op=34
 ·subst h34;simp;by_cases hN:0≤N
  ·rw[Io hN]
  ·simp[hN]
 by_cases h6:op=6
 ·subst h6;simp
 simp[h14,h15,h16,h34,h6];omega
theorem GK{op:Int}(h:1≤op∧op≤39):0≤Dd op:=by
 unfold Dd;split<;>(try split)<;>(try split)<;>(try split)<;>omega
theorem JB(n:GNode):aj n=some (decide (1≤n.Op∧n.Op≤39)&&zZ n):=by
 unfold aj;rw[Ak,haa,R9];by_cases h:1≤n.Op∧n.Op≤39
 ·have:=GK h;rw[if_pos (by omega),Cb h,decide_eq_true h,Oab];unfold zZ;by_cases hN:n.N=0
  ·simp[hN]
  ·cases hu:Ch n.Op<;>simp[hN]
 ·rw[Fw h,decide_eq_false h];simp
def Jv(n:GNode) (env:GEnv):Bool:=
 if n.Op=7 then decide (0≤n.N∧n.N<(env.Inputs.length:Int))else
 if n.Op=8 then decide (0≤n.N∧n.N<(env.Defs.length:Int))&&!(((env.Defs[n.N.toNat]?).map (·.Kind)).getD 0==0)else
 if n.Op=33 then decide (0≤n.N∧n.N<(env.Tables.length:Int))else
 if n.Op=34 then decide (ca .i64 (iab n.N 8)<(env.Tables.length:Int))else
 if 36≤n.Op∧n.Op≤39 then decide (0≤n.N∧n.N<(env.MemberTypes.length:Int))else true
theorem DL{op:Int}{α:Type}{k:Bool→Option α}:(jaa (α:=Bool) (if op=36 then some true else if op=37 then some true else if op=38 then some true else some (op==39)) k)=k (decide (36≤op∧op≤39)):=by
 by_cases h1:op=36
 ·subst h1;rfl
 by_cases h2:op=37
 ·subst h2;rfl
 by_cases h3:op=38
 ·subst h3;rfl
 by_cases h4:op=39
 ·subst h4;rfl
 rw[if_neg h1,if_neg h2,if_neg h3,haa];congr 1;have:(op==39)=false:=by simpa using h4
 rw[this];symm;rw[decide_eq_false_iff_not];omega
theorem ru(n:GNode) (env:GEnv):rn n env=some (Jv n env):=by
 unfold rn Jv;simp only[DL,vI];split
 ·rfl
 split
 ·by_cases h0:0≤n.N
  ·by_cases h1:n.N<(env.Defs.length:Int)
   ·rw[if_pos h0,if_pos h1,Tk h0 h1,iaa (by omega)];simp[h0,h1];rfl
   ·rw[if_pos h0,if_neg h1];simp[h1]
  ·rw[if_neg h0];simp[h0]
 split
 ·rfl
 split
 ·rfl
 ·by_cases h:36≤n.Op∧n.Op≤39<;>simp[h]
structure EnvOk (env:GEnv):Prop where
 tabs:∀t∈env.Tables,t.Rows.length≤150∧(t.Value.Kind=4→RowsN t)
 mem:env.Members.length≤1048576
noncomputable def Nf(n:GNode) (args:List GValue) (env:GEnv):Option (GValue×Int):=
 (ja n args env).bind fun a=>if a=false then some (⟨0,0,0⟩,8)else
 (wa n args env).bind fun x=>if¬x.2=0 then some (⟨0,0,0⟩,x.2)else
 if iu x.1=false then some (⟨0,0,0⟩,3)else some (x.1,0)
def Both(e r:Option (GValue×Int)):Prop:=∃p,e=some p∧r=some p∧(p.2=0→Hb p.1)
theorem Cz{x:Option (GValue×Int)}:(x.bind fun y=>some (y.1,y.2))=x:=by cases x<;>rfl
end Go.Proofs.Dev
namespace Go.Proofs.Dev
open Go Go.Tm
def oF(v:GValue):GValue×Int:=if iu v=true then(v,0)else(⟨0,0,0⟩,3)
theorem nU(v:GValue):(oF v).2=0→Hb (oF v).1:=by
 unfold oF;by_cases h:iu v=true
 ·rw[if_pos h];exact fun _=>of_decide_eq_true h
 ·rw[if_neg h];intro h2;exact absurd h2 (by decide)
theorem VL{n:GNode}{args:List GValue}{env:GEnv}(h:ja n args env=some true) {v:GValue}{e:Int}(hc:wa n args env=some (v,e)):Nf n args env=some (if e=0 then oF v else(⟨0,0,0⟩,e)):=by
 unfold Nf;rw[h,hc];simp only[haa,Bool.true_eq_false,if_false];unfold oF;by_cases h:e=0
 ·subst h;cases hv:iu v<;>rfl
 ·rw[if_pos h,if_neg h]
theorem VP{n:GNode}{args:List GValue}{env:GEnv}(h:ja n args env=some false):Nf n args env=some (⟨0,0,0⟩,8):=by
 unfold Nf;rw[h];rfl
theorem Jg(k:Int):Mf k=some (decide (2≤k∧k≤4)):=by
 unfold Mf;by_cases h2:k=2
 ·subst h2;rfl
 by_cases h3:k=3
 ·subst h3;rfl
 rw[if_pos h2,if_pos h3,haa];congr 1;by_cases h4:k=4
 ·subst h4;rfl
 ·rw[decide_eq_false (by omega)];simp[h4]
theorem Hk(b:Bool):qf b=some ⟨1,0,if b=true then 1 else 0⟩:=by cases b<;>rfl
theorem Zs(v:GValue) (t:GType):wk v t=some (iu v&&(decide (v.Kind=t.Kind)&&decide (v.Enum=t.Enum))):=by
 unfold wk;rw[vc];cases iu v<;>by_cases h1:v.Kind=t.Kind<;>by_cases h2:v.Enum=t.Enum<;>simp[h1,h2]
end Go.Proofs.Dev
namespace Go.Proofs.Dev
open Go Go.Tm
theorem qD{op N:Int}{a b:GValue}{env:GEnv}(h:(11≤op∧op≤24)∨(27≤op∧op≤30)):ja ⟨op,N⟩ [a,b] env=Ca op a b:=by
 unfold ja;dsimp only;rw[if_neg (by omega),if_neg (by omega),if_neg (by omega),if_neg (by omega),DL,decide_eq_false (by omega),if_neg (by simp),if_neg (by simp),if_pos (by simp),dj,vF,haa,haa];cases Ca op a b<;>rfl
theorem uw{op N:Int}{a b:GValue}{env:GEnv}(h:(11≤op∧op≤24)∨(27≤op∧op≤30)):wa ⟨op,N⟩ [a,b] env=zb ⟨op,N⟩ a b:=by
 unfold wa;dsimp only;have h5:(op==5)=false:=by simp;omega
 rw[if_neg (by omega),if_neg (by omega),if_neg (by omega),if_neg (by omega),h5,haa,if_neg (by simp),if_neg (by omega),if_neg (by omega),if_neg (by omega),if_neg (by omega),if_neg (by omega),DL,decide_eq_false (by omega),if_neg (by simp),if_neg (by omega),if_neg (by omega),if_neg (by simp),if_pos (by simp),dj,vF,haa,haa,Cz]
def dL(a b:GValue):Prop:=a.Kind=b.Kind∧a.Enum=b.Enum
instance (a b:GValue):Decidable (dL a b):=by unfold dL;infer_instance
theorem il(a b:GValue):Gd a b=some (decide (dL a b)):=by
 unfold Gd dL;by_cases h1:a.Kind=b.Kind<;>by_cases h2:a.Enum=b.Enum<;>simp[h1,h2]
theorem BC{a b:Prop} [Decidable a] [Decidable b]:(if decide a=true then some (decide b)else some false)=some (decide (a∧b)):=by
 by_cases ha:a<;>simp[ha]
theorem Q9{a b:GValue}(h:dL a b) (hn:a.N=b.N):a=b:=by
 obtain⟨k,e,n⟩:=a;obtain⟨k',e',n'⟩:=b;obtain⟨h1,h2⟩:=h;dsimp only at h1 h2 hn;subst h1;subst h2;subst hn;rfl
theorem X6{a:GValue}(h:Hb a) (hk:a.Kind=1):a.Enum=0∧(a.N=0∨a.N=1):=by unfold Hb at h;omega
theorem F9{a:GValue}(h:Hb a) (hk:a.Kind=5):0≤a.N∧a.N≤109572:=by unfold Hb at h;omega
end Go.Proofs.Dev
namespace Go.Proofs.Dev
open Go Go.Tm
def lp(e:Option (GValue×Int)):Prop:=∃p,e=some p∧(p.2=0→Hb p.1)
theorem wh{n:GNode}{args:List GValue}{env:GEnv}(h:ja n args env=some true) {v:GValue}{e:Int}(hc:wa n args env=some (v,e)):lp (Nf n args env):=by
 rw[VL h hc];by_cases h0:e=0
 ·rw[if_pos h0];exact⟨_,rfl,nU v⟩
 ·rw[if_neg h0];exact⟨_,rfl,fun h2=>absurd h2 h0⟩
theorem Qm{n:GNode}{args:List GValue}{env:GEnv}(h:ja n args env=some false):lp (Nf n args env):=by
 rw[VP h];exact⟨_,rfl,fun h2=>absurd h2 (by decide)⟩
theorem OQ{N:Int}{env:GEnv}:lp (Nf ⟨6,N⟩ [] env):=by
 exact wh (v:=⟨6,ca .i64 (iab N 16),Lab N 16⟩) (e:=0) (by simp[ja]) (by simp[wa])
theorem AT{N:Int}{env:GEnv}(hf:Jv ⟨7,N⟩ env=true):lp (Nf ⟨7,N⟩ [] env):=by
 simp only[Jv,if_true,decide_eq_true_eq]at hf;have hi:idx env.Inputs N=some (env.Inputs[N.toNat]'(by omega)):=Tk hf.1 hf.2;generalize env.Inputs[N.toNat]'(by omega)=v at hi;by_cases hv:iu v=true
 ·exact wh (v:=v) (e:=0) (by simp[ja,hi,vc,hv]) (by simp[wa,hi])
 ·exact Qm (by simp[ja,hi,vc,hv])
theorem kR{N:Int}{env:GEnv}(hf:Jv ⟨8,N⟩ env=true):lp (Nf ⟨8,N⟩ [] env):=by
 simp only[Jv,oaa,if_false,if_true,paa,decide_eq_true_eq]at hf;have hi:idx env.Defs N=some (env.Defs[N.toNat]'(by omega)):=Tk hf.1.1 hf.1.2;generalize env.Defs[N.toNat]'(by omega)=v at hi;by_cases hv:iu v=true
 ·exact wh (v:=v) (e:=0) (by simp[ja,hi,vc,hv]) (by simp[wa,hi])
 ·exact Qm (by simp[ja,hi,vc,hv])
theorem xT{N:Int}{env:GEnv}:lp (Nf ⟨9,N⟩ [] env):=
 wh (v:=⟨5,0,env.Date⟩) (e:=0) (by simp[ja]) (by simp[wa])
theorem QM{N:Int}{env:GEnv}:lp (Nf ⟨35,N⟩ [] env):=
 wh (v:=⟨2,0,(env.Members.length:Int)⟩) (e:=0) (by simp[ja]) (by simp[wa])
theorem MM{N:Int}{a:GValue}{env:GEnv}(ha:Hb a):lp (Nf ⟨10,N⟩ [a] env):=by
 have hr:=ha.range;by_cases hn:2≤a.Kind∧a.Kind≤4
 ·exact wh (v:=⟨a.Kind,0,-a.N⟩) (e:=0) (by simp[ja,dj,Za,Jg,hn]) (by simp[wa,dj,Jl,wid (n:=-a.N) (by omega) (by omega)])
 ·have hd:decide (2≤a.Kind∧a.Kind≤4)=false:=decide_eq_false hn;exact Qm (by simp only[ja,oaa,if_false,haa,qaa,naa,dj,Za,Jg,hd,Daa,Hab,if_true,Xab,Pad])
theorem GN{N:Int}{a:GValue}{env:GEnv}(ha:Hb a):lp (Nf ⟨25,N⟩ [a] env):=by
 by_cases hn:a.Kind=1
 ·exact wh (v:=⟨1,0,if(a.N==0)=true then 1 else 0⟩) (e:=0) (by simp[ja,dj,Za,hn]) (by simp only[wa,oaa,if_false,haa,qaa,naa,dj,Jl,Hk,Daa,Hab,if_true,Xab,Pad])
 ·exact Qm (by simp[ja,dj,Za,hn])
theorem Xy{op N:Int}{a:GValue}{env:GEnv}(hop:op=31∨op=32) (ha:Hb a):lp (Nf ⟨op,N⟩ [a] env):=by
 by_cases hn:a.Kind=5
 ·have h5:0≤a.N∧a.N≤109572:=by unfold Hb at ha;omega
  obtain⟨y,m,d,hy⟩:∃y m d,Ci a.N=some (y,m,d):=by
   obtain⟨n,m,k,hy⟩:=WC h5.1 h5.2;exact⟨_,_,_,Ao hy⟩
  rcases hop with rfl|rfl
  ·exact wh (v:=⟨2,0,y⟩) (e:=0) (by simp[ja,dj,Za,hn]) (by simp[wa,dj,Jl,hy])
  ·exact wh (v:=⟨2,0,m⟩) (e:=0) (by simp[ja,dj,Za,hn]) (by simp[wa,dj,Jl,hy])
 ·rcases hop with rfl|rfl
  ·exact Qm (by simp[ja,dj,Za,hn])
  ·exact Qm (by simp[ja,dj,Za,hn])
theorem ZO{N:Int}{a:GValue}{env:GEnv}(he:EnvOk env) (hf:Jv ⟨33,N⟩ env=true) (ha:Hb a):lp (Nf ⟨33,N⟩ [a] env):=by
 simp only[Jv,oaa,if_false,if_true,decide_eq_true_eq]at hf;have hm:env.Tables[N.toNat]'(by omega)∈env.Tables:=raa _;have hi:idx env.Tables N=some (env.Tables[N.toNat]'(by omega)):=Tk hf.1 hf.2;generalize env.Tables[N.toNat]'(by omega)=t at hi hm;have ht:=he.tabs t hm;have hpa:iu a=true:=decide_eq_true ha;have hal:ja ⟨33,N⟩ [a] env=some (decide (a.Kind=t.Key.Kind∧a.Enum=t.Key.Enum∧1≤t.Value.Kind∧t.Value.Kind≤6)):=by
  simp only[ja,oaa,if_false,if_true,hi,dj,haa,Zs,hpa,Oab];by_cases h1:a.Kind=t.Key.Kind<;>by_cases h2:a.Enum=t.Key.Enum<;>by_cases h3:1≤t.Value.Kind<;>simp[h1,h2,h3]
 by_cases hc:a.Kind=t.Key.Kind∧a.Enum=t.Key.Enum∧1≤t.Value.Kind∧t.Value.Kind≤6
 ·rw[decide_eq_true hc]at hal;have hco:wa ⟨33,N⟩ [a] env=if(Ox t env.Date a.N).2=false then some (⟨0,0,0⟩,6)else(idx t.Rows (Ox t env.Date a.N).1).bind fun x25=>some (⟨t.Value.Kind,t.Value.Enum,x25.N⟩,0):=by
   simp[wa,hi,dj,Zz (t:=t) (by omega)]
  by_cases hl:(Ox t env.Date a.N).2=true
  ·obtain⟨i,h1,h2⟩:=PL hl;rw[hl,h1,Na h2]at hco;exact wh (v:=⟨t.Value.Kind,t.Value.Enum,t.Rows[i].N⟩) (e:=0) hal hco
  ·rw[Bool.eq_false_iff.2 hl]at hco;exact wh (v:=⟨0,0,0⟩) (e:=6) hal hco
 ·rw[decide_eq_false hc]at hal;exact Qm hal
theorem YO{N:Int}{a:GValue}{env:GEnv}(he:EnvOk env) (hN:Kc ⟨34,N⟩) (hw:zZ ⟨34,N⟩=true) (hf:Jv ⟨34,N⟩ env=true) (ha:Hb a):lp (Nf ⟨34,N⟩ [a] env):=by
 simp only[Jv,oaa,if_false,if_true,decide_eq_true_eq]at hf;have h0:0≤N∧N % 8≤5:=by
  unfold zZ at hw;simp only[paa,decide_eq_true_eq]at hw;exact hw.2.2.1 trivial
 obtain⟨hN1,hN2⟩:=hN;dsimp only at hN1 hN2;have hq:ca .i64 (iab N 8)=N / 8:=by rw[Jo h0.1,wid (by omega) (by omega)]
 have hr:Lab N 8=N % 8:=Io h0.1;rw[hq]at hf;have hm:env.Tables[(N / 8).toNat]'(by omega)∈env.Tables:=raa _;have hi:idx env.Tables (N / 8)=some (env.Tables[(N / 8).toNat]'(by omega)):=Tk (by omega) hf;generalize env.Tables[(N / 8).toNat]'(by omega)=t at hi hm;have ht:=he.tabs t hm;obtain⟨p,b1,b3⟩:=vG ht.2 env.Date a.N (N % 8);have hal:ja ⟨34,N⟩ [a] env=some (decide (a.Kind=3∧t.Key.Kind=3∧t.Key.Enum=0∧t.Value.Kind=4∧t.Value.Enum=0)):=by
  simp only[ja,oaa,if_false,if_true,hq,hi,dj,haa];by_cases c1:a.Kind=3<;>by_cases c2:t.Key.Kind=3<;>by_cases c3:t.Key.Enum=0<;>by_cases c4:t.Value.Kind=4<;>by_cases c5:t.Value.Enum=0<;>simp[c1,c2,c3,c4,c5]
 by_cases hc:a.Kind=3∧t.Key.Kind=3∧t.Key.Enum=0∧t.Value.Kind=4∧t.Value.Enum=0
 ·rw[decide_eq_true hc]at hal;exact wh (v:=⟨3,0,p.1⟩) (e:=p.2) hal (by simp[wa,hq,hr,hi,dj,b1])
 ·rw[decide_eq_false hc]at hal;exact Qm hal
theorem aM{N:Int}{a b c:GValue}{env:GEnv}(ha:Hb a) (hb:Hb b) (hc:Hb c):lp (Nf ⟨26,N⟩ [a,b,c] env):=by
 by_cases h:a.Kind=1∧b.Kind=c.Kind∧b.Enum=c.Enum
 ·have hal:ja ⟨26,N⟩ [a,b,c] env=some true:=by
   simp[ja,dj,vF,TP,Gd,h.1,h.2.1,h.2.2]
  by_cases hN:a.N=1
  ·exact wh (v:=b) (e:=0) hal (by simp[wa,dj,vF,TP,hN])
  ·exact wh (v:=c) (e:=0) hal (by simp[wa,dj,vF,TP,hN])
 ·have hal:ja ⟨26,N⟩ [a,b,c] env=some (decide (a.Kind=1∧b.Kind=c.Kind∧b.Enum=c.Enum)):=by
   by_cases h1:a.Kind=1<;>by_cases h2:b.Kind=c.Kind<;>by_cases h3:b.Enum=c.Enum<;>simp[ja,dj,vF,TP,Gd,h1,h2,h3]
  rw[decide_eq_false h]at hal;exact Qm hal
theorem Hq{op N:Int}{env:GEnv}(h:1≤op∧op≤5):lp (Nf ⟨op,N⟩ [] env):=by
 refine wh (v:=⟨op,0,N⟩) (e:=0) ?_ ?_
 ·have:op=1∨op=2∨op=3∨op=4∨op=5:=by omega
  rcases this with rfl|rfl|rfl|rfl|rfl<;>simp[ja]
 ·have:op=1∨op=2∨op=3∨op=4∨op=5:=by omega
  rcases this with rfl|rfl|rfl|rfl|rfl<;>simp[wa]
end Go.Proofs.Dev
namespace Go.Proofs.Dev
open Go Go.Tm
theorem lp.ite{c:Prop} [Decidable c] {n:GNode}{args:List GValue}{env:GEnv}{v:GValue}{e:Int}(hal:ja n args env=some (decide c)) (hco:c→wa n args env=some (v,e)):lp (Nf n args env):=by
 by_cases h:c
 ·rw[decide_eq_true h]at hal;exact wh hal (hco h)
 ·rw[decide_eq_false h]at hal;exact Qm hal
theorem PF{op N:Int}{a b:GValue}{env:GEnv}(hop:op=11∨op=12) (ha:Hb a) (hb:Hb b):lp (Nf ⟨op,N⟩ [a,b] env):=by
 have h1:=ha.range;have h2:=hb.range;have hal:ja ⟨op,N⟩ [a,b] env=some (decide (dL a b∧2≤a.Kind∧a.Kind≤4)):=by
  rw[qD (by omega)];rcases hop with rfl|rfl<;>simp only[Ca,oaa,if_true,if_false,haa,il,Jg,BC,qaa]
 rcases hop with rfl|rfl
 ·refine lp.ite (v:=⟨a.Kind,0,a.N+b.N⟩) (e:=0) hal (fun _=>?_);rw[uw (by omega)];simp only[zb,if_true,haa,wid (n:=a.N+b.N) (by omega) (by omega)]
 ·refine lp.ite (v:=⟨a.Kind,0,a.N-b.N⟩) (e:=0) hal (fun _=>?_);rw[uw (by omega)];simp only[zb,oaa,qaa,if_true,if_false,naa,haa,wid (n:=a.N-b.N) (by omega) (by omega)]
theorem KD{op N:Int}{a b:GValue}{env:GEnv}(hop:op=17∨op=18) (ha:Hb a) (hb:Hb b):lp (Nf ⟨op,N⟩ [a,b] env):=by
 have h1:=ha.range;have hk:(2≤a.Kind∧a.Kind≤5)↔((2≤a.Kind∧a.Kind≤4)∨a.Kind=5):=by omega
 have hal:ja ⟨op,N⟩ [a,b] env=some (decide (dL a b∧2≤a.Kind∧a.Kind≤5)):=by
  rw[qD (by omega)];rcases hop with rfl|rfl<;>simp only[Ca,oaa,if_true,if_false,haa,il,Jg,BC,qaa,naa,hk]
  all_goals
   by_cases g1:dL a b<;>by_cases g2:2≤a.Kind∧a.Kind≤4<;>by_cases g3:a.Kind=5<;>simp[g1,g2,g3]
 have hco:dL a b∧2≤a.Kind∧a.Kind≤5→wa ⟨op,N⟩ [a,b] env=some ((if(op==17)=decide (a.N<b.N)then a else b),0):=by
  intro hc;rw[uw (by omega)];have he:=fun h=>Q9 hc.1 h;rcases hop with rfl|rfl<;>simp only[zb,Int.reduceLE,oaa,qaa,if_true,if_false,haa,naa]
  ·by_cases g:b.N<a.N
   ·rw[if_pos (by simp[g]),if_neg (by simp;omega)]
   ·rw[if_neg (by simp[g])];by_cases g2:a.N<b.N
    ·rw[if_pos (by simp[g2])]
    ·rw[if_neg (by simp[g2]),he (by omega)]
  ·by_cases g:b.N<a.N
   ·rw[if_neg (by simp[g]),if_pos (by simp;omega)]
   ·rw[if_pos (by simp[g])];by_cases g2:a.N<b.N
    ·rw[if_neg (by simp[g2])]
    ·rw[if_pos (by simp[g2]),he (by omega)]
 exact lp.ite (e:=0) hal hco
theorem ZE{op N:Int}{a b:GValue}{env:GEnv}(hop:op=19∨op=20):lp (Nf ⟨op,N⟩ [a,b] env):=by
 have hal:ja ⟨op,N⟩ [a,b] env=some (decide (dL a b)):=by
  rw[qD (by omega)];rcases hop with rfl|rfl<;>simp only[Ca,oaa,if_true,if_false,haa,il,qaa,naa]
 rcases hop with rfl|rfl
 ·refine lp.ite (v:=⟨1,0,if(a.N==b.N)=true then 1 else 0⟩) (e:=0) hal (fun _=>?_);rw[uw (by omega)];simp only[zb,oaa,qaa,if_true,if_false,naa,haa,Hk]
 ·refine lp.ite (v:=⟨1,0,if(a.N !=b.N)=true then 1 else 0⟩) (e:=0) hal (fun _=>?_);rw[uw (by omega)];simp only[zb,oaa,qaa,if_true,if_false,naa,haa,Hk]
theorem MF{op N:Int}{a b:GValue}{env:GEnv}(hop:op=21∨op=22):lp (Nf ⟨op,N⟩ [a,b] env):=by
 have hk:(2≤a.Kind∧a.Kind≤5)↔((2≤a.Kind∧a.Kind≤4)∨a.Kind=5):=by omega
 have hal:ja ⟨op,N⟩ [a,b] env=some (decide (dL a b∧2≤a.Kind∧a.Kind≤5)):=by
  rw[qD (by omega)];rcases hop with rfl|rfl<;>simp only[Ca,oaa,if_true,if_false,haa,il,Jg,BC,qaa,naa,hk]
  all_goals
   by_cases g1:dL a b<;>by_cases g2:2≤a.Kind∧a.Kind≤4<;>by_cases g3:a.Kind=5<;>simp[g1,g2,g3]
 rcases hop with rfl|rfl
 ·refine lp.ite (v:=⟨1,0,if decide (a.N<b.N)=true then 1 else 0⟩) (e:=0) hal (fun _=>?_);rw[uw (by omega)];simp only[zb,oaa,qaa,if_true,if_false,naa,haa,Hk]
 ·refine lp.ite (v:=⟨1,0,if decide (a.N≤b.N)=true then 1 else 0⟩) (e:=0) hal (fun _=>?_);rw[uw (by omega)];simp only[zb,oaa,qaa,if_true,if_false,naa,haa,Hk]
theorem ID{op N:Int}{a b:GValue}{env:GEnv}(hop:op=23∨op=24) (ha:Hb a) (hb:Hb b):lp (Nf ⟨op,N⟩ [a,b] env):=by
 have hal:ja ⟨op,N⟩ [a,b] env=some (decide (a.Kind=1∧b.Kind=1)):=by
  rw[qD (by omega)];rcases hop with rfl|rfl<;>simp only[Ca,oaa,if_true,if_false,haa,qaa,naa]
  all_goals
   by_cases g1:a.Kind=1<;>by_cases g2:b.Kind=1<;>simp[g1,g2]
 refine lp.ite (v:=⟨1,0,if(if op=23 then decide (a.N=1∧b.N=1)else decide (a.N=1∨b.N=1))=true then 1 else 0⟩) (e:=0) hal fun hc=>?_;have n1:=(X6 ha hc.1).2;have n2:=(X6 hb hc.2).2;rw[uw (by omega)];rcases hop with rfl|rfl<;>simp only[zb,oaa,qaa,if_true,if_false,naa,haa,Hk]
 all_goals
  rcases n1 with n1|n1<;>rcases n2 with n2|n2<;>simp[n1,n2]
theorem HO{N:Int}{a b:GValue}{env:GEnv}(ha:Hb a) (hb:Hb b):lp (Nf ⟨27,N⟩ [a,b] env):=by
 have h1:=ha.range;have h2:=hb.range;have hal:ja ⟨27,N⟩ [a,b] env=some (decide (a.Kind=5∧b.Kind=2)):=by
  rw[qD (by omega)];simp only[Ca,oaa,if_true,if_false,haa,qaa,naa];by_cases g1:a.Kind=5<;>by_cases g2:b.Kind=2<;>simp[g1,g2]
 refine lp.ite (v:=⟨5,0,a.N+b.N⟩) (e:=0) hal (fun hc=>?_);rw[uw (by omega)];simp only[zb,oaa,qaa,if_true,if_false,naa,haa,wid (n:=a.N+b.N) (by omega) (by omega),hc.1]
theorem V9(a:Int) (j:Int) (ha:0≤a∧a≤109572):∃p,Re a j=some p:=by
 by_cases hj:-3600≤j∧j≤3600
 ·obtain⟨n,m,k,hy⟩:=WC ha.1 ha.2;exact⟨_,rq hy hj⟩
 ·refine⟨(0,3),?_⟩;unfold Re;rw[H4 (by rw[im,decide_eq_true ha]),if_pos (by rw[decide_eq_true_eq];omega)]
theorem yO{N:Int}{a b:GValue}{env:GEnv}(ha:Hb a):lp (Nf ⟨28,N⟩ [a,b] env):=by
 have hal:ja ⟨28,N⟩ [a,b] env=some (decide (a.Kind=5∧b.Kind=2)):=by
  rw[qD (by omega)];simp only[Ca,oaa,if_true,if_false,haa,qaa,naa];by_cases g1:a.Kind=5<;>by_cases g2:b.Kind=2<;>simp[g1,g2]
 by_cases hc:a.Kind=5∧b.Kind=2
 ·obtain⟨p,p1⟩:=V9 a.N b.N (F9 ha hc.1);rw[decide_eq_true hc]at hal;refine wh (v:=⟨5,0,p.1⟩) (e:=p.2) hal ?_;rw[uw (by omega)];simp only[zb,oaa,qaa,if_true,if_false,naa,haa,p1]
 ·rw[decide_eq_false hc]at hal;exact Qm hal
theorem DE{op N:Int}{a b:GValue}{env:GEnv}(hop:op=29∨op=30) (ha:Hb a) (hb:Hb b):lp (Nf ⟨op,N⟩ [a,b] env):=by
 have h1:=ha.range;have h2:=hb.range;have hal:ja ⟨op,N⟩ [a,b] env=some (decide (a.Kind=5∧b.Kind=5)):=by
  rw[qD (by omega)];rcases hop with rfl|rfl<;>simp only[Ca,oaa,if_true,if_false,haa,qaa,naa]
  all_goals
   by_cases g1:a.Kind=5<;>by_cases g2:b.Kind=5<;>simp[g1,g2]
 obtain⟨y,y1,-⟩:=CT a.N b.N;rcases hop with rfl|rfl
 ·refine lp.ite (v:=⟨2,0,b.N-a.N⟩) (e:=0) hal (fun hc=>?_);rw[uw (by omega)];simp only[zb,oaa,qaa,if_true,if_false,naa,haa,wid (n:=b.N-a.N) (by omega) (by omega)]
 ·refine lp.ite (v:=⟨2,0,y⟩) (e:=0) hal (fun hc=>?_);rw[uw (by omega)];simp only[zb,oaa,qaa,if_true,if_false,naa,haa,y1]
end Go.Proofs.Dev
