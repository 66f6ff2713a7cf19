/-
  Contracts of the functions: each answers as its plain partial function says.
-/
import Derived.Test.YtkmalfincghanaaGreatDoorK
import Derived.Test.YtkmalfincghanaaGreatDoorG
import Derived.Test.YtkmalfincghanaaGreatDoorPD
import Derived.Test.YtkmalfincghanaaGreatDoorH1
import Derived.Test.YtkmalfincghanaaGreatDoorH2
import Derived.Test.YtkmalfincghanaaGreatDoorQ0
import Derived.Test.YtkmalfincghanaaGreatDoorQ1
import Derived.Test.YtkmalfincghanaaGreatDoorQ2
import Derived.Test.YtkmalfincghanaaGreatDoorQ3
open Bool renaming and_eq_true→paa,and_true→Gaa,true_and→Oab
open List renaming all_cons→tac,all_eq_true→Raa,append_assoc→jab,append_nil→Naa,cons_append→Yaa,eq_of_mem_replicate→Wac,getElem?_concat_length→wab,getElem?_cons_succ→Uab,getElem?_eq_getElem→iaa,getElem?_eq_none→Saa,getElem?_map→Dab,getElem_mem→raa,length_append→Haa,length_cons→Daa,length_drop→mac,length_replicate→Kab,map_append→Cab,mem_map→Tab,replicate→maa,replicate_succ'→Jac,set_append→Aad,set_cons_succ→Rac,set_cons_zero→iac,take_add_one→Zaa,take_length→dab,take_succ_cons→lab,take_zero→Yad
open Nat renaming add_comm→Eab,le_refl→yaa,mul_le_mul_left→Qad,sub_self→cac,zero_le→Bab
open Option renaming map_eq_map→Mae,map_some→Vab,toList_some→zab
open Option.some renaming inj→Uaa,injEq→zaa
set_option linter.all false
set_option maxHeartbeats 1000000
set_option maxRecDepth 10000
namespace Go.Proofs.Dev
open Go Go.Tm
instance {t0 r}:Con (Zd t0=some r) (Den Tryz.prog 166 [lj t0] (.tup [sa r.1,sa r.2.1,sa r.2.2])):=⟨fun h=>by
 refine dk 48 I3 ?_
 simp only[I3,Kf.of,zs,ze]
 unfold Zd at h
 exact pg @Zf.eq_1 (.l 4 3 (fun(q:((List Int) × (List Int) × (List Int) × Int))=>⟨[.k 5,.s (.own 0 0),.s (.own 1 0),.s (.own 2 0),.p 4,.s (aa q.2.2.2),.p 36],[.n 1 ((q.1.map aa)),.n 1 ((q.2.1.map aa)),.n 1 ((q.2.2.1.map aa))]⟩) (fun(q:((List Int) × (List Int) × (List Int)))=>⟨[.k 5,.s (.own 0 0),.s (.own 1 0),.s (.own 2 0),.p 2],[.n 1 ((q.1.map aa)),.n 1 ((q.2.1.map aa)),.n 1 ((q.2.2.map aa))]⟩) [on 1,on 1,on 1] (.b (.j 3 (fun(q:((List Int) × (List Int) × (List Int)))=>⟨[.k 5,.p 8],[.c 0 ((q.1.map aa)),.c 1 ((q.2.1.map aa)),.c 2 ((q.2.2.map aa))]⟩) (.b (.t [ov 0 1,ok 1,ok 2]) (.b (.t [ok 0,ov 1 1,ok 2]) (.j 1 (fun(j14:Bool)=>⟨[.k 5,.p 8,.k 19,.s (ba j14),.p 16],[.o 0,.o 1,.o 2,.o 3]⟩) (.b (.t [ok 0,ok 1,ok 2,ok 3]) (.b (.t [ok 0,ok 1,ok 2,ok 3]) (.b (.t [ok 0,ok 1,ok 2,ok 3]) (.t [ok 0,ok 1,ok 2,ok 3])))) (.b (.t [ok 0,ok 1,ov 2 1]) (.t [ok 0,ok 1,ok 2]))))) (.t [ok 0,ok 1,ok 2])) (.t [ok 0,ok 1,ok 2])) .o)⟩
theorem Gm{t0 t1 r} (h:bd t0 t1=some r):Den Tryz.prog 206 [Qa t0,aa t1] (sa r):=by
 refine dk 65 u6 ?_
 simp only[u6,Kf.of,zs,ze]
 unfold bd at h
 exact pg (And.intro @Ae.eq_1 @pe.eq_1) (.l 2 1 (fun(q:((List Int) × Int))=>⟨[.k 1,.p 1,.k 3,.s (.own 0 0),.k 4,.p 1,.k 19,.p 2,.s (aa q.2),.p 34],[.n 1 ((q.1.map aa))]⟩) (fun(b14:(List Int))=>⟨[.k 1,.p 1,.k 3,.s (.own 0 0),.k 4,.p 1],[.n 1 ((b14.map aa))]⟩) [on 1] (.b (.j 1 (fun(j11:(List Int))=>⟨[.k 1,.p 32],[.c 0 ((j11.map aa))]⟩) (.z 1 (.j 1 (fun(j8:Bool)=>⟨[.k 1,.p 32,.k 9,.s (ba j8),.p 24],[.o 0]⟩) (.b (.t [ok 0]) (.t [ok 0])) (.b (.t [ov 0 1]) (.t [ok 0])))) (.t [ok 0])) (.t [ok 0])) (.l 2 1 (fun(q:((List Int) × Int))=>⟨[.k 1,.p 9,.k 38,.p 2,.s (aa q.2),.p 16],[.c 0 ((q.1.map aa))]⟩) (fun(b26:(List Int))=>⟨[.k 5,.p 5],[.c 0 ((b26.map aa))]⟩) [ok 0] (.b (.j 1 (fun(j23:(List Int))=>⟨[.k 1,.p 50],[.c 0 ((j23.map aa))]⟩) (.z 1 (.j 1 (fun(j20:Bool)=>⟨[.k 1,.p 50,.k 9,.s (ba j20),.p 6],[.o 0]⟩) (.b (.t [ok 0]) (.t [ok 0])) (.b (.t [ov 0 1]) (.t [ok 0])))) (.t [ok 0])) (.t [ok 0])) .o))
instance {t0 t1 r}:Con (bd t0 t1=some r) (Den Tryz.prog 206 [Qa t0,aa t1] (sa r)):=⟨Gm⟩
abbrev LL:=List (Nat×List Int)
def Ff:Nat→LL→List D
 |_,[]=>[]
 |k,p::l=>.own k p.1::Ff (k+1) l
def Fg(L:LL):List Ent:=L.map fun p=>.live 1 p.1 (p.2.map aa)
def QU(n:Nat) (r:GRule):List Int:=cy n (Et We r.Guard)++cy n (Et We r.Value)
def uQ(n:Nat) (L:LL) (r:GRule):LL:=if 0≤r.Def∧r.Def<n then L.modify r.Def.toNat (fun p=>(p.1+1,p.2++QU n r))else L
def sL(n:Nat) (rs:List GRule) (i:Nat):LL:=(rs.take i).foldl (uQ n) (maa n (0,[]))
theorem Rn:∀{L:LL}{k:Nat},(Ff k L).length=L.length
 |[],_=>rfl
 |p::l,k=>by simp only[Ff,Daa,Rn (L:=l)]
theorem Lz:∀{L M:LL}{k:Nat},Ff k (L++M)=Ff k L++Ff (k+L.length) M
 |[],M,k=>by simp[Ff]
 |p::l,M,k=>by
  simp only[Yaa,Ff,Lz (L:=l),Daa];rw[show k+1+l.length=k+(l.length+1) by omega]
theorem pv:∀{L:LL}{k d:Nat},(Ff k L)[d]?=L[d]?.map (fun p=>.own (k+d) p.1)
 |[],_,_=>by simp[Ff]
 |p::l,k,0=>by simp[Ff]
 |p::l,k,d+1=>by
  simp only[Ff,Uab,pv (L:=l)];rw[show k+1+d=k+(d+1) by omega]
theorem sz:∀{L:LL}{k d:Nat}{p:Nat×List Int},(Ff k L).set d (.own (k+d) p.1)=Ff k (L.set d p)
 |[],_,_,_=>by simp[Ff]
 |q::l,k,0,p=>by simp[Ff]
 |q::l,k,d+1,p=>by
  simp only[Ff,Rac];rw[show k+(d+1)=k+1+d by omega,sz (L:=l)]
theorem Ro:∀{L:LL}{k j:Nat},k+L.length≤j→belows j (Ff k L)=true
 |[],_,_,_=>rfl
 |p::l,k,j,h=>by
  simp only[Daa]at h;simp only[Ff,belows,Tm.below,paa,decide_eq_true_eq];exact⟨by omega,Ro (by omega)⟩
theorem gk{L:LL}:(Fg L).length=L.length:=by simp[Fg]
theorem Wq{L:LL}{j:Nat}:(Fg L).all (Ent.below j)=true:=by
 rw[Raa];intro e he;obtain⟨p,-,rfl⟩:=Tab.1 he;exact Mc _ _ (Fr.l _)
theorem zQ{n:Nat}{L:LL}{r:GRule}:(uQ n L r).length=L.length:=by
 unfold uQ;split<;>simp
theorem nC{n:Nat}:∀{rs:List GRule}{L:LL},(rs.foldl (uQ n) L).length=L.length
 |[],_=>rfl
 |r::rs,L=>by simp only[List.foldl_cons,nC (rs:=rs),zQ]
theorem aG{n:Nat}{rs:List GRule}{i:Nat}:(sL n rs i).length=n:=by unfold sL;rw[nC];simp
theorem KC{n:Nat}{rs:List GRule}{i:Nat}(h:i<rs.length):sL n rs (i+1)=uQ n (sL n rs i) rs[i]:=by
 unfold sL;rw[Zaa,iaa h,zab,List.foldl_append];rfl
theorem JH{n:Int}{l:List Int}:(cy n l).length≤l.length:=List.length_filter_le _ _
theorem II{n:Nat}{r:GRule}(h:r.Guard.length≤1048576∧r.Value.length≤1048576):(QU n r).length≤2097152:=by
 unfold QU;have h1:=JH (n:=n) (l:=Et We r.Guard);have h2:=JH (n:=n) (l:=Et We r.Value);have h3:=tp (p:=We) (e:=r.Guard);have h4:=tp (p:=We) (e:=r.Value);simp only[Haa];omega
theorem NF{n:Nat}{rs:List GRule}(hg:∀r∈rs,r.Guard.length≤1048576∧r.Value.length≤1048576):∀{i:Nat},i≤rs.length→∀p∈sL n rs i,p.2.length≤2097152*i:=by
 intro i
 induction i with
 |zero=>
  intro _ p hp;simp only[sL,Yad,List.foldl_nil,List.mem_replicate]at hp;rw[hp.2];simp
 |succ i ih=>
  intro h p hp;have ih:=ih (Nat.le_of_succ_le h);have hD:=II (n:=n) (hg rs[i] (raa h));have hs:2097152*(i+1)=2097152*i+2097152:=Nat.mul_succ _ _;rw[KC h]at hp;unfold uQ at hp;split at hp
  ·obtain⟨d,hd,rfl⟩:=List.getElem_of_mem hp;have hd':d<(sL n rs i).length:=by simpa using hd
   have h1:=ih _ (raa hd');rw[List.getElem_modify];split
   ·simp only[Haa];omega
   ·omega
  ·have:=ih p hp;omega
theorem aC(t:List D) (n:Nat):∀x,x≤n→Ep 1 0 x ⟨t,[.live 1 0 (maa n (.v (.slice none 0 0)))]⟩=⟨t,.live 1 0 (Ff 1 (maa x (0,[]))++maa (n-x) (.v (.slice none 0 0)))::Fg (maa x (0,[]))⟩
 |0,_=>by simp[Ep,Ff,Fg]
 |x+1,h=>by
  rw[Ep,aC t n x (by omega)];unfold Oz;simp only[List.getElem?_cons_zero];have hl:(Ff 1 (maa x ((0:Nat),([]:List Int)))).length=x:=by rw[Rn];simp
  rw[List.getElem?_append_right (by omega),hl,cac,List.getElem?_replicate,if_pos (by omega)];simp only[iac,Daa,gk,Kab,Yaa,St.mk.injEq,true_and,List.cons.injEq,Ent.live.injEq];refine⟨?_,?_⟩
  ·rw[Aad,if_neg (by omega),hl,cac,Jac (n:=x),Lz,jab];congr 1;obtain⟨k,hk⟩:∃k,n-x=k+1:=⟨n-x-1,by omega⟩;rw[hk,List.replicate_succ,iac,show n-(x+1)=k by omega,Kab];simp only[Ff,Yaa,List.nil_append];rw[Eab 1 x]
  ·rw[Jac (n:=x)];simp[Fg]
theorem ox{n:Nat}:fa (maa n (.v (.slice none 0 0)))=true:=gh.2 fun d hd=>by rw[Wac hd];rfl
def S1(n:Nat) (rs:List GRule) (i:Nat):St:=⟨ds 3 (.own 0 0::ds 9 (Ud rs::aa (rs.length:Int)::aa (i:Int)::ds 42 [])),.live 1 0 (Ff 1 (sL n rs i))::Fg (sL n rs i)⟩
theorem oM{n:Nat}{rs:List GRule}{i:Nat}:S1 n rs i=⟨ds 3 (.own 0 0::ds 9 (Ud rs::aa (rs.length:Int)::aa (i:Int)::ds 42 [])),.live 1 0 (Ff 1 (sL n rs i))::Fg (sL n rs i)⟩:=Eq.trans rfl rfl
theorem Gl{α:Type}{l:List α}{x y:α}:(l++[x]).set l.length y=l++[y]:=by simp
theorem QC:∀{a b:Nat},a≠b→rI a b=true
 |0,0,h=>(h rfl).elim
 |0,_+1,_=>rfl
 |_+1,0,_=>rfl
 |a+1,b+1,h=>QC (a:=a) (b:=b) fun e=>h (by rw[e])
theorem qA{α:Type}{f:α→α}:∀{l:List α}{d:Nat}{p:α},l[d]?=some p→l.modify d f=l.set d (f p)
 |[],_,_,h=>by simp at h
 |a::l,0,p,h=>by simp at h;subst h;simp
 |a::l,d+1,p,h=>by simp only[List.modify_succ_cons,Rac];rw[qA (by simpa using h)]
def A2(L:LL) (j:Nat):List D:=(L.take j).map fun p=>sa (Te p.2)
def S2(n:Nat) (L:LL) (j:Nat):St:=⟨ds 3 (.own 0 0::ds 40 (.own 0 0::aa (n:Int)::aa (j:Int)::ds 11 [])),.live 1 0 (A2 L j++Ff (1+j) (L.drop j))::(maa j .gone++Fg (L.drop j))⟩
theorem oT{n:Nat}{L:LL}{j:Nat}:S2 n L j=⟨ds 3 (.own 0 0::ds 40 (.own 0 0::aa (n:Int)::aa (j:Int)::ds 11 [])),.live 1 0 (A2 L j++Ff (1+j) (L.drop j))::(maa j .gone++Fg (L.drop j))⟩:=Eq.trans rfl rfl
theorem iR{L:LL}{j:Nat}:fa (A2 L j)=true:=by
 refine gh.2 fun d hd=>?_;obtain⟨p,-,rfl⟩:=Tab.1 hd;exact Fr.h _
theorem OY{n:Nat}{L:LL}{j:Nat}(h:L.length=n) (hj:j≤n):Fit 0 (S2 n L j):=by
 refine⟨Bab _,?_,?_⟩
 ·simp only[S2,Dk,kl,belows,Tm.below,Daa,Gaa,Oab,paa,decide_eq_true_eq];exact⟨by omega,by omega,Da _ _ (Fr.h _),Da _ _ (Fr.h _)⟩
 ·simp only[S2,tac,List.all_append,paa];refine⟨?_,?_,Wq⟩
  ·refine OS (Mc _ _ iR) (Ro ?_);simp only[Daa,Haa,Kab,gk,mac];omega
  ·rw[Raa];intro e he;rw[Wac he];rfl
theorem Cy{α:Type}{A B:List α}{x:α}{j:Nat}(h:A.length=j):(A++x::B)[j]?=some x:=by subst h;simp
theorem Hy{α:Type}{A B:List α}{x y:α}{j:Nat}(h:A.length=j):(A++x::B).set j y=A++y::B:=by subst h;simp
theorem VX{n:Nat}{rs:List GRule}{i:Nat}:Fit 0 (S1 n rs i):=by
 refine⟨Bab _,?_,?_⟩
 ·simp only[S1,Dk,kl,belows,Tm.below,Daa,Gaa,Oab,paa,decide_eq_true_eq];exact⟨by omega,Da _ _ (Fr.h _),Da _ _ (Fr.h _),Da _ _ (Fr.h _)⟩
 ·simp only[S1,tac,paa];refine⟨?_,Wq⟩;exact Ro (by simp only[Daa,gk];omega)
theorem dW{t0:GScope}(hd:t0.Defs.length≤1048576) (hr:t0.Rules.length≤1048576) (hg:∀r∈t0.Rules,r.Guard.length≤1048576∧r.Value.length≤1048576) :
 Den Tryz.prog 165 [Ea t0] (Pb ((sL t0.Defs.length t0.Rules t0.Rules.length).map fun p=>Te p.2)):=by
 refine dk 57 H7 ?_;simp only[H7,Kf.of,zs,ze];refine ss (rg ?_);have hm:au 24 ([]:List Int) (t0.Defs.length:Int) (t0.Defs.length:Int)=some (maa t0.Defs.length []):=by
  unfold au;rw[if_pos ⟨by omega,by omega,by omega,by simp;omega⟩];simp
 obtain⟨f2,f3,f4,f5,f6⟩:=WD (e:=sa) hm;(try simp only[zz]);refine ss (rg ?_);(try simp only[zz]at f5 f6);(try simp only[zz,f2,f3,f4,f5]);refine ss (ss (rg ?_));(try simp only[zz,f2,f3,f4,f5]);refine tl (S:=⟨ds 3 (.own 0 0::ds 9 (Ud t0.Rules::aa (t0.Rules.length:Int)::aa 0::ds 42 [])),[.live 1 0 (maa t0.Defs.length (.v (.slice none 0 0)))]⟩) (tq [ok 1] (by simp only[zg,Df ox])) ?_;refine Qw (S:=1) (id:=0) (x:=t0.Defs.length) ?_;rw[aC _ _ _ (yaa _),cac,List.replicate_zero,Naa];refine T.jV t0.Rules.length (S1 t0.Defs.length t0.Rules) (At.same _ _ _ (ra.Gb _)) (fun i _=>VX) (fun i hi=>?_) Us ?_
 ·rw[oM];refine ss (rg ?_);simp only[zz];refine ss (cd rfl ?_);simp only[zz];refine gP.mk (fun hc=>?_) (fun hc=>?_)
  ·have hi:i<t0.Rules.length:=by omega
   refine sk ?_;simp only[zz];obtain⟨r,hr1⟩:∃r,r=t0.Rules[i]:=⟨_,rfl⟩;have hidx:idx t0.Rules (i:Int)=some r:=by rw[hr1];simp[idx,hi]
   have g2:t0.Rules[i]?=some r:=by rw[hr1];exact iaa hi
   have hrg:=hg r (by rw[hr1];exact raa hi);have hL:(sL t0.Defs.length t0.Rules i).length=t0.Defs.length:=aG;have hLs:sL t0.Defs.length t0.Rules (i+1)=uQ t0.Defs.length (sL t0.Defs.length t0.Rules i) r:=by rw[KC hi,hr1]
   have hLb:=NF (n:=t0.Defs.length) hg (i:=i) (by omega);generalize hLL:sL t0.Defs.length t0.Rules i=L at hL hLs hLb⊢;obtain⟨E,hE⟩:∃E,E=Fg L:=⟨_,rfl⟩;have hEl:E.length=L.length:=by rw[hE,gk]
   rw[←hE];refine ss (bk (ss (rg ?_)));simp only[zz,g2,wab,Gl];refine ss (rg ?_);have hol:(Ff 1 L).length=t0.Defs.length:=by rw[Rn,hL]
   have hw:ca .i64 ((i:Int)+1)=((i+1:Nat):Int):=by rw[Vo ⟨by omega,by omega⟩];omega
   have skipped:¬(0≤r.Def∧r.Def<(t0.Defs.length:Int))→sL t0.Defs.length t0.Rules (i+1)=L:=fun h=>by rw[hLs];exact if_neg h
   by_cases h0:0≤r.Def
   ·by_cases h1:r.Def<(t0.Defs.length:Int)
    ·simp only[zz,g2,wab,Gl,hol,h0,h1];refine cd rfl ?_;simp only[zz];have hdl:r.Def.toNat<L.length:=by rw[hL];omega
     obtain⟨p,hp⟩:∃p,L[r.Def.toNat]?=some p:=⟨_,iaa hdl⟩;have hEd:r.Def.toNat<E.length:=by rw[hEl];exact hdl
     have k0:r.Def.toNat<t0.Defs.length:=by omega
     have k1:(Ff 1 L)[r.Def.toNat]?=some (.own (r.Def.toNat+1) p.1):=by rw[pv,hp,Vab,Eab]
     have k2:∀y,(E++[y])[r.Def.toNat]?=some (.live 1 p.1 (p.2.map aa)):=fun y=>by
      rw[List.getElem?_append_left hEd,hE];unfold Fg;rw[Dab,hp];rfl
     have k3:∀y e,(E++[y]).set r.Def.toNat e=E.set r.Def.toNat e++[y]:=fun y e=>by rw[Aad,if_pos hEd]
     have k4:∀e,(Ff 1 L).set r.Def.toNat e=(Ff 1 L).set r.Def.toNat e:=fun e=>rfl;have hpb:=hLb p (List.mem_of_getElem? hp);have hDb:=II (n:=t0.Defs.length) hrg;have k5:(p.2.length+(QU t0.Defs.length r).length)*8≤2 ^ 47:=by
      have:2097152*i≤2097152*1048576:=Qad _ (by omega);omega
     have k6:rI (E.length+1) (r.Def.toNat+1)=true:=QC (by omega);refine ay tr [[],[],[],[],[],[],[],[],[],[],[],[],[2]] (by kernel_rfl) ?_;simp only[zz,zy,hol,h0,h1,k0,k1,k2,k3,k6,wab,Gl];have hdef:bd r (t0.Defs.length:Int)=some (QU t0.Defs.length r):=En hrg _;refine lq (Gm hdef) ?_ (by simp only[zg]);(try simp only[zz]at k5);simp only[zz,zy,hol,h0,h1,k0,k1,k2,k3,k5,k6,wab,Gl];refine⟨k6,rg ?_⟩;simp only[zz,Fo,hw];refine⟨hi,?_⟩;have hst:uQ t0.Defs.length L r=L.set r.Def.toNat (p.1+1,p.2++QU t0.Defs.length r):=by
      unfold uQ;rw[if_pos ⟨h0,h1⟩,qA hp]
     have e1:(Ff 1 L).set r.Def.toNat (.own (r.Def.toNat+1) (p.1+1))=Ff 1 (sL t0.Defs.length t0.Rules (i+1)):=by
      rw[hLs,hst,←sz,Eab 1]
     have e2:E.set r.Def.toNat (.live 1 (p.1+1) (p.2.map aa++(QU t0.Defs.length r).map aa))=Fg (sL t0.Defs.length t0.Rules (i+1)):=by
      rw[hLs,hst,hE];unfold Fg;rw[List.map_set,Cab]
     rw[oM,e1,e2,←Yaa];exact At.mk _ _ _ _ (by repeat (first|exact ra.Gb _|refine ra.cons (Sub.refl _) ?_|refine ra.cons (Sub.Pa _) ?_))
    ·simp only[zz,g2,wab,Gl,hol,h0,h1];refine cd rfl ?_;simp only[zz];refine sk ?_;simp only[zz];refine rg ?_;simp only[zz,Fo,hw];refine⟨hi,?_⟩;rw[oM,skipped (fun h=>h1 h.2),←hE,←Yaa];exact At.mk _ _ _ _ (by repeat (first|exact ra.Gb _|refine ra.cons (Sub.refl _) ?_|refine ra.cons (Sub.Pa _) ?_))
   ·simp only[zz,g2,wab,Gl,hol,h0];refine cd rfl ?_;simp only[zz];refine sk ?_;simp only[zz];refine rg ?_;simp only[zz,Fo,hw];refine⟨hi,?_⟩;rw[oM,skipped (fun h=>h0 h.1),←hE,←Yaa];exact At.mk _ _ _ _ (by repeat (first|exact ra.Gb _|refine ra.cons (Sub.refl _) ?_|refine ra.cons (Sub.Pa _) ?_))
  ·refine xt ?_;simp only[zz,uy];have hi:i=t0.Rules.length:=by omega
   subst hi;exact⟨rfl,At.same _ _ _ (by repeat (first|exact ra.Gb _|refine ra.cons (Sub.refl _) ?_|refine ra.cons (Sub.Pa _) ?_))⟩
 ·simp only[zz];rw[oM];have hL:(sL t0.Defs.length t0.Rules t0.Rules.length).length=t0.Defs.length:=aG;have hLb:=NF (n:=t0.Defs.length) hg (i:=t0.Rules.length) (yaa _);generalize sL t0.Defs.length t0.Rules t0.Rules.length=L at hL hLb⊢;have hol:(Ff 1 L).length=t0.Defs.length:=by rw[Rn,hL]
  refine ss (ss (rg ?_));simp only[zz,hol];refine T.jV t0.Defs.length (S2 t0.Defs.length L) ?_ (fun j hj=>OY hL hj) (fun j hj=>?_) Us ?_
  ·rw[oT];exact At.same _ _ _ (by repeat (first|exact ra.Gb _|refine ra.cons (Sub.refl _) ?_|refine ra.cons (Sub.Pa _) ?_))
  ·rw[oT];refine ss (rg ?_);simp only[zz];refine ss (cd rfl ?_);simp only[zz];refine gP.mk (fun hc=>?_) (fun hc=>?_)
   ·have hj:j<t0.Defs.length:=by omega
    have hjL:j<L.length:=by omega
    obtain⟨p,hp⟩:∃p,p=L[j]:=⟨_,rfl⟩;have hdr:L.drop j=p::L.drop (j+1):=by rw[hp];exact List.drop_eq_getElem_cons hjL
    have hpb:=hLb p (by rw[hp];exact raa hjL);have hsort:ag p.2=some (Te p.2):=uq (by
     have:2097152*t0.Rules.length≤2097152*1048576:=Qad _ (by omega);omega)
    have hA:(A2 L j).length=j:=by unfold A2;rw[List.length_map,List.length_take];omega
    have hG:(maa j Ent.gone).length=j:=by simp
    rw[hdr];simp only[Ff,Fg,List.map_cons];obtain⟨B,hB⟩:∃B,B=Ff (1+j+1) (L.drop (j+1)):=⟨_,rfl⟩;obtain⟨F,hF⟩:∃F,F=Fg (L.drop (j+1)):=⟨_,rfl⟩;have hF':(L.drop (j+1)).map (fun p=>Ent.live 1 p.1 (p.2.map aa))=F:=by rw[hF];rfl
    rw[←hB,hF',Eab 1 j];have hBl:(A2 L j++.own (j+1) p.1::B).length=t0.Defs.length:=by
     rw[Haa,Daa,hA,hB,Rn,mac];omega
    refine sk ?_;simp only[zz];refine ss (bk (ss (rg ?_)));simp only[zz,hBl,hj,Cy hA,Hy hA];refine rg ?_;simp only[zz,hBl,hj,Cy hA,Hy hA];refine zI (Cq hsort) rfl (by simp only[Uab];exact Cy hG) ?_;simp only[zz,hBl,hj,Cy hA,Hy hA,Hy hG];refine rg ?_;have hw:ca .i64 ((j:Int)+1)=((j+1:Nat):Int):=by rw[Vo ⟨by omega,by omega⟩];omega
    simp only[zz,Fo,hw];refine⟨hj,?_⟩;have hA1:A2 L (j+1)=A2 L j++[sa (Te p.2)]:=by
     unfold A2;rw[Zaa,iaa hjL,←hp,zab,Cab];rfl
    have e1:A2 L j++.sl 1 ((Te p.2).map aa)::B=A2 L (j+1)++Ff (1+(j+1)) (L.drop (j+1)):=by
     rw[hA1,jab,hB,show 1+j+1=1+(j+1) by omega];rfl
    have e2:maa j Ent.gone++Ent.gone::F=maa (j+1) Ent.gone++Fg (L.drop (j+1)):=by
     rw[Jac (n:=j),jab,hF];rfl
    rw[oT,e1,e2];exact At.same _ _ _ (by repeat (first|exact ra.Gb _|refine ra.cons (Sub.refl _) ?_|refine ra.cons (Sub.Pa _) ?_))
   ·refine xt ?_;simp only[zz,uy];have hj:j=t0.Defs.length:=by omega
    subst hj;exact⟨rfl,At.same _ _ _ (by repeat (first|exact ra.Gb _|refine ra.cons (Sub.refl _) ?_|refine ra.cons (Sub.Pa _) ?_))⟩
  ·simp only[zz];rw[oT,←hL,List.drop_length];have hA:A2 L L.length=(L.map fun p=>Te p.2).map sa:=by unfold A2;rw[dab,List.map_map];rfl
   rw[hA];simp only[Ff,Naa];refine T.trim 1 (Bab _) (by simp) ?_ ?_ ?_
   ·simp only[Dk,kl,belows,Tm.below,Gaa,Oab,paa,decide_eq_true_eq];exact⟨by omega,by omega,Da _ _ (Fr.h _),Da _ _ (Fr.h _)⟩
   ·simp only[lab,Yad,tac,List.all_nil,Gaa];exact Mc _ _ (Fr.l _)
   simp only[lab,Yad];refine ss (rg ?_);simp only[zz];exact rt (er (by simp only[zz,zr];exact fq (by simp only[zg])))
theorem iO{n:Nat}{rs:List GRule}:∀i,i≤rs.length→∀d,d<n→((sL n rs i)[d]?).map (·.2)=some ((((rs.take i).filter fun(r:GRule)=>r.Def==(d:Int)).map (QU n)).flatten)
 |0,_,d,hd=>by simp[sL,hd]
 |i+1,h,d,hd=>by
  have ih:=iO (n:=n) (rs:=rs) i (by omega) d hd;rw[KC h,Zaa,iaa h,zab,List.filter_append,Cab,List.flatten_append];unfold uQ;split
  ·rename_i hc;rw[List.getElem?_modify];by_cases hrd:rs[i].Def.toNat=d
   ·have he:rs[i].Def=(d:Int):=by omega
    simp only[if_pos hrd,Mae]
    cases hx:(sL n rs i)[d]? with
    |none=>rw[hx]at ih;cases ih
    |some p=>
     rw[hx]at ih;simp only[Vab,zaa]at ih;simp[he,ih]
   ·have he:(rs[i].Def==(d:Int))=false:=by
     rw[beq_eq_false_iff_ne];intro he;exact hrd (by rw[he];simp)
    simp only[if_neg hrd,Mae,Option.map_id'];simp[he,ih]
  ·rename_i hc;have he:(rs[i].Def==(d:Int))=false:=by
    rw[beq_eq_false_iff_ne];intro he;exact hc (by omega)
   simp[he,ih]
theorem WR{t0:GScope}:((sL t0.Defs.length t0.Rules t0.Rules.length).map fun p=>Te p.2)=Bm t0:=by
 apply List.ext_getElem?;intro d;unfold Bm;rw[Dab,Dab];by_cases hd:d<t0.Defs.length
 ·have h:=iO (n:=t0.Defs.length) (rs:=t0.Rules) t0.Rules.length (yaa _) d hd;rw[dab]at h;rw[List.getElem?_range hd,Vab]
  cases hx:(sL t0.Defs.length t0.Rules t0.Rules.length)[d]? with
  |none=>rw[hx]at h;cases h
  |some p=>
   rw[hx]at h;simp only[Vab,zaa]at h⊢;rw[h];rfl
 ·rw[Saa (by rw[aG];omega),Saa (by simp;omega)];rfl
theorem Ip{t0:GScope}{r:List (List Int)}(h:Jb t0=some r):Den Tryz.prog 165 [Ea t0] (Pb r):=by
 have h':=h;unfold Jb at h';split at h'
 ·rename_i hc;obtain⟨h1,h2,h3⟩:=hc;have hs:=Mk ⟨h1,h2,h3⟩;rw[h]at hs;obtain rfl:=Uaa hs;have:=dW h1 h2 h3;rwa [WR]at this
 ·cases h'
instance {t0 r}:Con (Jb t0=some r) (Den Tryz.prog 165 [Ea t0] (Pb r)):=⟨Ip⟩
end Go.Proofs.Dev
