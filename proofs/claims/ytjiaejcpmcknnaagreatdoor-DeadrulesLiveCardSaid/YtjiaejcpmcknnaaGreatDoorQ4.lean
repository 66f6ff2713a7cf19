/-
  Contracts of the functions: each answers as its plain partial function says.
-/
import Derived.Test.YtjiaejcpmcknnaaGreatDoorK
import Derived.Test.YtjiaejcpmcknnaaGreatDoorG
import Derived.Test.YtjiaejcpmcknnaaGreatDoorPD
import Derived.Test.YtjiaejcpmcknnaaGreatDoorH1
import Derived.Test.YtjiaejcpmcknnaaGreatDoorH2
import Derived.Test.YtjiaejcpmcknnaaGreatDoorQ0
import Derived.Test.YtjiaejcpmcknnaaGreatDoorQ1
import Derived.Test.YtjiaejcpmcknnaaGreatDoorQ2
import Derived.Test.YtjiaejcpmcknnaaGreatDoorQ3
open Bool renaming and_eq_true->Sac,and_true->Xac,true_and->Lad
open List renaming all_cons->sae,all_eq_true->Kad,append_assoc->Tad,append_nil->vad,cons_append->mad,eq_of_mem_replicate->raf,getElem?_concat_length->Dad,getElem?_cons_succ->aae,getElem?_eq_getElem->Lac,getElem?_eq_none->Daf,getElem?_map->Oad,getElem_mem->Qac,length_append->tad,length_cons->rad,length_drop->bag,length_replicate->Jad,map_append->Qad,mem_map->jae,replicate->Nac,replicate_succ'->nae,set_append->waf,set_cons_succ->Rae,set_cons_zero->Iae,take_add_one->yad,take_length->dae,take_succ_cons->Rad,take_zero->Uaf
open Nat renaming add_comm->Fae,le_refl->cad,mul_le_mul_left->sag,sub_self->Hae,zero_le->Sad
open Option renaming map_eq_map->Fag,map_some->qae,toList_some->iae
open Option.some renaming inj->nad,injEq->Aad
set_option linter.all false
set_option maxHeartbeats 1000000
set_option maxRecDepth 10000
namespace Go.Proofs.Dev
open Go Go.Tm
instance {t0 r}:Con (Pd t0=some r) (Den Tryz.prog 39 [Ya t0] (.tup [ka r.1,ka r.2.1,ka r.2.2])):=⟨λh=>by
 refine dk 48 k39 ?_
 simp only[k39,Kf.of,zs,ze]
 unfold Pd at h
 exact pg @zh.eq_1 (.l 4 3 (λ(q:((List Int) × (List Int) × (List Int) × Int))=>⟨[.k 5,.s (.own 0 0),.s (.own 1 0),.s (.own 2 0),.p 4,.s (aa q.2.2.2),.p 36],[.n 1 ((q.1.map aa)),.n 1 ((q.2.1.map aa)),.n 1 ((q.2.2.1.map aa))]⟩) (λ(q:((List Int) × (List Int) × (List Int)))=>⟨[.k 5,.s (.own 0 0),.s (.own 1 0),.s (.own 2 0),.p 2],[.n 1 ((q.1.map aa)),.n 1 ((q.2.1.map aa)),.n 1 ((q.2.2.map aa))]⟩) [on 1,on 1,on 1] (.b (.j 3 (λ(q:((List Int) × (List Int) × (List Int)))=>⟨[.k 5,.p 8],[.c 0 ((q.1.map aa)),.c 1 ((q.2.1.map aa)),.c 2 ((q.2.2.map aa))]⟩) (.b (.t [ov 0 1,ok 1,ok 2]) (.b (.t [ok 0,ov 1 1,ok 2]) (.j 1 (λ(j14:Bool)=>⟨[.k 5,.p 8,.k 19,.s (ba j14),.p 16],[.o 0,.o 1,.o 2,.o 3]⟩) (.b (.t [ok 0,ok 1,ok 2,ok 3]) (.b (.t [ok 0,ok 1,ok 2,ok 3]) (.b (.t [ok 0,ok 1,ok 2,ok 3]) (.t [ok 0,ok 1,ok 2,ok 3])))) (.b (.t [ok 0,ok 1,ov 2 1]) (.t [ok 0,ok 1,ok 2]))))) (.t [ok 0,ok 1,ok 2])) (.t [ok 0,ok 1,ok 2])) .o)⟩
theorem oq{t0 t1 r} (h:Xd t0 t1=some r):Den Tryz.prog 159 [Za t0,aa t1] (ka r):=by
 refine dk 65 Oab ?_
 simp only[Oab,Kf.of,zs,ze]
 unfold Xd at h
 exact pg (And.intro @df.eq_1 @ef.eq_1) (.l 2 1 (λ(q:((List Int) × Int))=>⟨[.k 1,.p 1,.k 3,.s (.own 0 0),.k 4,.p 1,.k 19,.p 2,.s (aa q.2),.p 34],[.n 1 ((q.1.map aa))]⟩) (λ(b14:(List Int))=>⟨[.k 1,.p 1,.k 3,.s (.own 0 0),.k 4,.p 1],[.n 1 ((b14.map aa))]⟩) [on 1] (.b (.j 1 (λ(j11:(List Int))=>⟨[.k 1,.p 32],[.c 0 ((j11.map aa))]⟩) (.z 1 (.j 1 (λ(j8:Bool)=>⟨[.k 1,.p 32,.k 9,.s (ba j8),.p 24],[.o 0]⟩) (.b (.t [ok 0]) (.t [ok 0])) (.b (.t [ov 0 1]) (.t [ok 0])))) (.t [ok 0])) (.t [ok 0])) (.l 2 1 (λ(q:((List Int) × Int))=>⟨[.k 1,.p 9,.k 38,.p 2,.s (aa q.2),.p 16],[.c 0 ((q.1.map aa))]⟩) (λ(b26:(List Int))=>⟨[.k 5,.p 5],[.c 0 ((b26.map aa))]⟩) [ok 0] (.b (.j 1 (λ(j23:(List Int))=>⟨[.k 1,.p 50],[.c 0 ((j23.map aa))]⟩) (.z 1 (.j 1 (λ(j20:Bool)=>⟨[.k 1,.p 50,.k 9,.s (ba j20),.p 6],[.o 0]⟩) (.b (.t [ok 0]) (.t [ok 0])) (.b (.t [ov 0 1]) (.t [ok 0])))) (.t [ok 0])) (.t [ok 0])) .o))
instance {t0 t1 r}:Con (Xd t0 t1=some r) (Den Tryz.prog 159 [Za t0,aa t1] (ka r)):=⟨oq⟩
abbrev LL:=List (Nat×List Int)
def Jg:Nat->LL->List D
 |_,[]=>[]
 |k,p::l=>.own k p.1::Jg (k+1) l
def si(L:LL):List Ent:=L.map λp=>.live 1 p.1 (p.2.map aa)
def Q0(n:Nat) (r:GRule):List Int:=ND n (Cw Td r.Guard)++ND n (Cw Td r.Value)
def pW(n:Nat) (L:LL) (r:GRule):LL:=if 0<=r.Def/\r.Def<n then L.modify r.Def.toNat (λp=>(p.1+1,p.2++Q0 n r))else L
def sL(n:Nat) (rs:List GRule) (i:Nat):LL:=(rs.take i).foldl (pW n) (Nac n (0,[]))
theorem Kr:∀{L:LL}{k:Nat},(Jg k L).length=L.length
 |[],_=>rfl
 |p::l,k=>by simp only[Jg,rad,Kr (L:=l)]
theorem iG:∀{L M:LL}{k:Nat},Jg k (L++M)=Jg k L++Jg (k+L.length) M
 |[],M,k=>by simp[Jg]
 |p::l,M,k=>by
  simp only[mad,Jg,iG (L:=l),rad];rw[show k+1+l.length=k+(l.length+1) by omega]
theorem VA:∀{L:LL}{k d:Nat},(Jg k L)[d]?=L[d]?.map (λp=>.own (k+d) p.1)
 |[],_,_=>by simp[Jg]
 |p::l,k,0=>by simp[Jg]
 |p::l,k,d+1=>by
  simp only[Jg,aae,VA (L:=l)];rw[show k+1+d=k+(d+1) by omega]
theorem jG:∀{L:LL}{k d:Nat}{p:Nat×List Int},(Jg k L).set d (.own (k+d) p.1)=Jg k (L.set d p)
 |[],_,_,_=>by simp[Jg]
 |q::l,k,0,p=>by simp[Jg]
 |q::l,k,d+1,p=>by
  simp only[Jg,Rae];rw[show k+(d+1)=k+1+d by omega,jG (L:=l)]
theorem Pt:∀{L:LL}{k j:Nat},k+L.length<=j->belows j (Jg k L)=true
 |[],_,_,_=>rfl
 |p::l,k,j,h=>by
  simp only[rad]at h;simp only[Jg,belows,Tm.below,Sac,decide_eq_true_eq];exact⟨by omega,Pt (by omega)⟩
theorem Gm{L:LL}:(si L).length=L.length:=by simp[si]
theorem Xv{L:LL}{j:Nat}:(si L).all (Ent.below j)=true:=by
 rw[Kad];intro e he;obtain⟨p,-,rfl⟩:=jae.1 he;exact sd _ _ (Fr.l _)
theorem DZ{n:Nat}{L:LL}{r:GRule}:(pW n L r).length=L.length:=by
 unfold pW;split<;>simp
theorem tI{n:Nat}:∀{rs:List GRule}{L:LL},(rs.foldl (pW n) L).length=L.length
 |[],_=>rfl
 |r::rs,L=>by simp only[List.foldl_cons,tI (rs:=rs),DZ]
theorem ON{n:Nat}{rs:List GRule}{i:Nat}:(sL n rs i).length=n:=by unfold sL;rw[tI];simp
theorem cK{n:Nat}{rs:List GRule}{i:Nat}(h:i<rs.length):sL n rs (i+1)=pW n (sL n rs i) rs[i]:=by
 unfold sL;rw[yad,Lac h,iae,List.foldl_append];rfl
theorem HO{n:Int}{l:List Int}:(ND n l).length<=l.length:=List.length_filter_le _ _
theorem sO{n:Nat}{r:GRule}(h:r.Guard.length<=1048576/\r.Value.length<=1048576):(Q0 n r).length<=2097152:=by
 unfold Q0;have h1:=HO (n:=n) (l:=Cw Td r.Guard);have h2:=HO (n:=n) (l:=Cw Td r.Value);have h3:=Ps (p:=Td) (e:=r.Guard);have h4:=Ps (p:=Td) (e:=r.Value);simp only[tad];omega
theorem eM{n:Nat}{rs:List GRule}(hg:∀r∈rs,r.Guard.length<=1048576/\r.Value.length<=1048576):∀{i:Nat},i<=rs.length->∀p∈sL n rs i,p.2.length<=2097152*i:=by
 intro i
 induction i with
 |zero=>
  intro _ p hp;simp only[sL,Uaf,List.foldl_nil,List.mem_replicate]at hp;rw[hp.2];simp
 |succ i ih=>
  intro h p hp;have ih:=ih (Nat.le_of_succ_le h);have hD:=sO (n:=n) (hg rs[i] (Qac h));have hs:2097152*(i+1)=2097152*i+2097152:=Nat.mul_succ _ _;rw[cK h]at hp;unfold pW at hp;split at hp
  .obtain⟨d,hd,rfl⟩:=List.getElem_of_mem hp;have hd':d<(sL n rs i).length:=by simpa using hd
   have h1:=ih _ (Qac hd');rw[List.getElem_modify];split
   .simp only[tad];omega
   .omega
  .have:=ih p hp;omega
theorem YH(t:List D) (n:Nat):∀x,x<=n->wu 1 0 x ⟨t,[.live 1 0 (Nac n (.v (.slice none 0 0)))]⟩=⟨t,.live 1 0 (Jg 1 (Nac x (0,[]))++Nac (n-x) (.v (.slice none 0 0)))::si (Nac x (0,[]))⟩
 |0,_=>by simp[wu,Jg,si]
 |x+1,h=>by
  rw[wu,YH t n x (by omega)];unfold FE;simp only[List.getElem?_cons_zero];have hl:(Jg 1 (Nac x ((0:Nat),([]:List Int)))).length=x:=by rw[Kr];simp
  rw[List.getElem?_append_right (by omega),hl,Hae,List.getElem?_replicate,if_pos (by omega)];simp only[Iae,rad,Gm,Jad,mad,St.mk.injEq,true_and,List.cons.injEq,Ent.live.injEq];refine⟨?_,?_⟩
  .rw[waf,if_neg (by omega),hl,Hae,nae (n:=x),iG,Tad];congr 1;obtain⟨k,hk⟩:∃k,n-x=k+1:=⟨n-x-1,by omega⟩;rw[hk,List.replicate_succ,Iae,show n-(x+1)=k by omega,Jad];simp only[Jg,mad,List.nil_append];rw[Fae 1 x]
  .rw[nae (n:=x)];simp[si]
theorem kD{n:Nat}:ja (Nac n (.v (.slice none 0 0)))=true:=Ri.2 λd hd=>by rw[raf hd];rfl
def S1(n:Nat) (rs:List GRule) (i:Nat):St:=⟨ds 3 (.own 0 0::ds 9 (me rs::aa (rs.length:Int)::aa (i:Int)::ds 42 [])),.live 1 0 (Jg 1 (sL n rs i))::si (sL n rs i)⟩
theorem RR{n:Nat}{rs:List GRule}{i:Nat}:S1 n rs i=⟨ds 3 (.own 0 0::ds 9 (me rs::aa (rs.length:Int)::aa (i:Int)::ds 42 [])),.live 1 0 (Jg 1 (sL n rs i))::si (sL n rs i)⟩:=Eq.trans rfl rfl
theorem Uo{α:Type}{l:List α}{x y:α}:(l++[x]).set l.length y=l++[y]:=by simp
theorem CJ:∀{a b:Nat},a≠b->VO a b=true
 |0,0,h=>(h rfl).elim
 |0,_+1,_=>rfl
 |_+1,0,_=>rfl
 |a+1,b+1,h=>CJ (a:=a) (b:=b) λe=>h (by rw[e])
theorem dG{α:Type}{f:α->α}:∀{l:List α}{d:Nat}{p:α},l[d]?=some p->l.modify d f=l.set d (f p)
 |[],_,_,h=>by simp at h
 |a::l,0,p,h=>by simp at h;subst h;simp
 |a::l,d+1,p,h=>by simp only[List.modify_succ_cons,Rae];rw[dG (by simpa using h)]
def A2(L:LL) (j:Nat):List D:=(L.take j).map λp=>ka (kd p.2)
def S2(n:Nat) (L:LL) (j:Nat):St:=⟨ds 3 (.own 0 0::ds 40 (.own 0 0::aa (n:Int)::aa (j:Int)::ds 11 [])),.live 1 0 (A2 L j++Jg (1+j) (L.drop j))::(Nac j .gone++si (L.drop j))⟩
theorem CW{n:Nat}{L:LL}{j:Nat}:S2 n L j=⟨ds 3 (.own 0 0::ds 40 (.own 0 0::aa (n:Int)::aa (j:Int)::ds 11 [])),.live 1 0 (A2 L j++Jg (1+j) (L.drop j))::(Nac j .gone++si (L.drop j))⟩:=Eq.trans rfl rfl
theorem rW{L:LL}{j:Nat}:ja (A2 L j)=true:=by
 refine Ri.2 λd hd=>?_;obtain⟨p,-,rfl⟩:=jae.1 hd;exact Fr.h _
theorem F3{n:Nat}{L:LL}{j:Nat}(h:L.length=n) (hj:j<=n):Fit 0 (S2 n L j):=by
 refine⟨Sad _,?_,?_⟩
 .simp only[S2,tn,vo,belows,Tm.below,rad,Xac,Lad,Sac,decide_eq_true_eq];exact⟨by omega,by omega,Ia _ _ (Fr.h _),Ia _ _ (Fr.h _)⟩
 .simp only[S2,sae,List.all_append,Sac];refine⟨?_,?_,Xv⟩
  .refine IW (sd _ _ rW) (Pt ?_);simp only[rad,tad,Jad,Gm,bag];omega
  .rw[Kad];intro e he;rw[raf he];rfl
theorem uE{α:Type}{A B:List α}{x:α}{j:Nat}(h:A.length=j):(A++x::B)[j]?=some x:=by subst h;simp
theorem vE{α:Type}{A B:List α}{x y:α}{j:Nat}(h:A.length=j):(A++x::B).set j y=A++y::B:=by subst h;simp
theorem D3{n:Nat}{rs:List GRule}{i:Nat}:Fit 0 (S1 n rs i):=by
 refine⟨Sad _,?_,?_⟩
 .simp only[S1,tn,vo,belows,Tm.below,rad,Xac,Lad,Sac,decide_eq_true_eq];exact⟨by omega,Ia _ _ (Fr.h _),Ia _ _ (Fr.h _),Ia _ _ (Fr.h _)⟩
 .simp only[S1,sae,Sac];refine⟨?_,Xv⟩;exact Pt (by simp only[rad,Gm];omega)
theorem I3{t0:GScope}(hd:t0.Defs.length<=1048576) (hr:t0.Rules.length<=1048576) (hg:∀r∈t0.Rules,r.Guard.length<=1048576/\r.Value.length<=1048576) :
 Den Tryz.prog 121 [Ca t0] (qb ((sL t0.Defs.length t0.Rules t0.Rules.length).map λp=>kd p.2)):=by
 refine dk 57 iab ?_;simp only[iab,Kf.of,zs,ze];refine ss (rg ?_);have hm:Ww 24 ([]:List Int) (t0.Defs.length:Int) (t0.Defs.length:Int)=some (Nac t0.Defs.length []):=by
  unfold Ww;rw[if_pos ⟨by omega,by omega,by omega,by simp;omega⟩];simp
 obtain⟨f2,f3,f4,f5,f6⟩:=HL (e:=ka) hm;(try simp only[zz]);refine ss (rg ?_);(try simp only[zz]at f5 f6);(try simp only[zz,f2,f3,f4,f5]);refine ss (ss (rg ?_));(try simp only[zz,f2,f3,f4,f5]);refine tl (S:=⟨ds 3 (.own 0 0::ds 9 (me t0.Rules::aa (t0.Rules.length:Int)::aa 0::ds 42 [])),[.live 1 0 (Nac t0.Defs.length (.v (.slice none 0 0)))]⟩) (tq [ok 1] (by simp only[zg,pf kD])) ?_;refine OB (S:=1) (id:=0) (x:=t0.Defs.length) ?_;rw[YH _ _ _ (cad _),Hae,List.replicate_zero,vad];refine T.r4 t0.Rules.length (S1 t0.Defs.length t0.Rules) (At.same _ _ _ (sa.qc _)) (λi _=>D3) (λi hi=>?_) my ?_
 .rw[RR];refine ss (rg ?_);simp only[zz];refine ss (cd rfl ?_);simp only[zz];refine gP.mk (λhc=>?_) (λhc=>?_)
  .have hi:i<t0.Rules.length:=by omega
   refine sk ?_;simp only[zz];obtain⟨r,hr1⟩:∃r,r=t0.Rules[i]:=⟨_,rfl⟩;have hidx:idx t0.Rules (i:Int)=some r:=by rw[hr1];simp[idx,hi]
   have g2:t0.Rules[i]?=some r:=by rw[hr1];exact Lac hi
   have hrg:=hg r (by rw[hr1];exact Qac hi);have hL:(sL t0.Defs.length t0.Rules i).length=t0.Defs.length:=ON;have hLs:sL t0.Defs.length t0.Rules (i+1)=pW t0.Defs.length (sL t0.Defs.length t0.Rules i) r:=by rw[cK hi,hr1]
   have hLb:=eM (n:=t0.Defs.length) hg (i:=i) (by omega);generalize hLL:sL t0.Defs.length t0.Rules i=L at hL hLs hLb⊢;obtain⟨E,hE⟩:∃E,E=si L:=⟨_,rfl⟩;have hEl:E.length=L.length:=by rw[hE,Gm]
   rw[←hE];refine ss (bk (ss (rg ?_)));simp only[zz,g2,Dad,Uo];refine ss (rg ?_);have hol:(Jg 1 L).length=t0.Defs.length:=by rw[Kr,hL]
   have hw:ca .i64 ((i:Int)+1)=((i+1:Nat):Int):=by rw[ou ⟨by omega,by omega⟩];omega
   have skipped:¬(0<=r.Def/\r.Def<(t0.Defs.length:Int))->sL t0.Defs.length t0.Rules (i+1)=L:=λh=>by rw[hLs];exact if_neg h
   by_cases h0:0<=r.Def
   .by_cases h1:r.Def<(t0.Defs.length:Int)
    .simp only[zz,g2,Dad,Uo,hol,h0,h1];refine cd rfl ?_;simp only[zz];have hdl:r.Def.toNat<L.length:=by rw[hL];omega
     obtain⟨p,hp⟩:∃p,L[r.Def.toNat]?=some p:=⟨_,Lac hdl⟩;have hEd:r.Def.toNat<E.length:=by rw[hEl];exact hdl
     have k0:r.Def.toNat<t0.Defs.length:=by omega
     have k1:(Jg 1 L)[r.Def.toNat]?=some (.own (r.Def.toNat+1) p.1):=by rw[VA,hp,qae,Fae]
     have k2:∀y,(E++[y])[r.Def.toNat]?=some (.live 1 p.1 (p.2.map aa)):=λy=>by
      rw[List.getElem?_append_left hEd,hE];unfold si;rw[Oad,hp];rfl
     have k3:∀y e,(E++[y]).set r.Def.toNat e=E.set r.Def.toNat e++[y]:=λy e=>by rw[waf,if_pos hEd]
     have k4:∀e,(Jg 1 L).set r.Def.toNat e=(Jg 1 L).set r.Def.toNat e:=λe=>rfl;have hpb:=hLb p (List.mem_of_getElem? hp);have hDb:=sO (n:=t0.Defs.length) hrg;have k5:(p.2.length+(Q0 t0.Defs.length r).length)*8<=2 ^ 47:=by
      have:2097152*i<=2097152*1048576:=sag _ (by omega);omega
     have k6:VO (E.length+1) (r.Def.toNat+1)=true:=CJ (by omega);refine ay Rn [[],[],[],[],[],[],[],[],[],[],[],[],[2]] (by kernel_rfl) ?_;simp only[zz,zy,hol,h0,h1,k0,k1,k2,k3,k6,Dad,Uo];have hdef:Xd r (t0.Defs.length:Int)=some (Q0 t0.Defs.length r):=yr hrg _;refine lq (oq hdef) ?_ (by simp only[zg]);(try simp only[zz]at k5);simp only[zz,zy,hol,h0,h1,k0,k1,k2,k3,k5,k6,Dad,Uo];refine⟨k6,rg ?_⟩;simp only[zz,Xs,hw];refine⟨hi,?_⟩;have hst:pW t0.Defs.length L r=L.set r.Def.toNat (p.1+1,p.2++Q0 t0.Defs.length r):=by
      unfold pW;rw[if_pos ⟨h0,h1⟩,dG hp]
     have e1:(Jg 1 L).set r.Def.toNat (.own (r.Def.toNat+1) (p.1+1))=Jg 1 (sL t0.Defs.length t0.Rules (i+1)):=by
      rw[hLs,hst,←jG,Fae 1]
     have e2:E.set r.Def.toNat (.live 1 (p.1+1) (p.2.map aa++(Q0 t0.Defs.length r).map aa))=si (sL t0.Defs.length t0.Rules (i+1)):=by
      rw[hLs,hst,hE];unfold si;rw[List.map_set,Qad]
     rw[RR,e1,e2,←mad];exact At.mk _ _ _ _ (by repeat (first|exact sa.qc _|refine sa.cons (Sub.refl _) ?_|refine sa.cons (Sub.ob _) ?_))
    .simp only[zz,g2,Dad,Uo,hol,h0,h1];refine cd rfl ?_;simp only[zz];refine sk ?_;simp only[zz];refine rg ?_;simp only[zz,Xs,hw];refine⟨hi,?_⟩;rw[RR,skipped (λh=>h1 h.2),←hE,←mad];exact At.mk _ _ _ _ (by repeat (first|exact sa.qc _|refine sa.cons (Sub.refl _) ?_|refine sa.cons (Sub.ob _) ?_))
   .simp only[zz,g2,Dad,Uo,hol,h0];refine cd rfl ?_;simp only[zz];refine sk ?_;simp only[zz];refine rg ?_;simp only[zz,Xs,hw];refine⟨hi,?_⟩;rw[RR,skipped (λh=>h0 h.1),←hE,←mad];exact At.mk _ _ _ _ (by repeat (first|exact sa.qc _|refine sa.cons (Sub.refl _) ?_|refine sa.cons (Sub.ob _) ?_))
  .refine xt ?_;simp only[zz,fE];have hi:i=t0.Rules.length:=by omega
   subst hi;exact⟨rfl,At.same _ _ _ (by repeat (first|exact sa.qc _|refine sa.cons (Sub.refl _) ?_|refine sa.cons (Sub.ob _) ?_))⟩
 .simp only[zz];rw[RR];have hL:(sL t0.Defs.length t0.Rules t0.Rules.length).length=t0.Defs.length:=ON;have hLb:=eM (n:=t0.Defs.length) hg (i:=t0.Rules.length) (cad _);generalize sL t0.Defs.length t0.Rules t0.Rules.length=L at hL hLb⊢;have hol:(Jg 1 L).length=t0.Defs.length:=by rw[Kr,hL]
  refine ss (ss (rg ?_));simp only[zz,hol];refine T.r4 t0.Defs.length (S2 t0.Defs.length L) ?_ (λj hj=>F3 hL hj) (λj hj=>?_) my ?_
  .rw[CW];exact At.same _ _ _ (by repeat (first|exact sa.qc _|refine sa.cons (Sub.refl _) ?_|refine sa.cons (Sub.ob _) ?_))
  .rw[CW];refine ss (rg ?_);simp only[zz];refine ss (cd rfl ?_);simp only[zz];refine gP.mk (λhc=>?_) (λhc=>?_)
   .have hj:j<t0.Defs.length:=by omega
    have hjL:j<L.length:=by omega
    obtain⟨p,hp⟩:∃p,p=L[j]:=⟨_,rfl⟩;have hdr:L.drop j=p::L.drop (j+1):=by rw[hp];exact List.drop_eq_getElem_cons hjL
    have hpb:=hLb p (by rw[hp];exact Qac hjL);have hsort:th p.2=some (kd p.2):=VB (by
     have:2097152*t0.Rules.length<=2097152*1048576:=sag _ (by omega);omega)
    have hA:(A2 L j).length=j:=by unfold A2;rw[List.length_map,List.length_take];omega
    have hG:(Nac j Ent.gone).length=j:=by simp
    rw[hdr];simp only[Jg,si,List.map_cons];obtain⟨B,hB⟩:∃B,B=Jg (1+j+1) (L.drop (j+1)):=⟨_,rfl⟩;obtain⟨F,hF⟩:∃F,F=si (L.drop (j+1)):=⟨_,rfl⟩;have hF':(L.drop (j+1)).map (λp=>Ent.live 1 p.1 (p.2.map aa))=F:=by rw[hF];rfl
    rw[←hB,hF',Fae 1 j];have hBl:(A2 L j++.own (j+1) p.1::B).length=t0.Defs.length:=by
     rw[tad,rad,hA,hB,Kr,bag];omega
    refine sk ?_;simp only[zz];refine ss (bk (ss (rg ?_)));simp only[zz,hBl,hj,uE hA,vE hA];refine rg ?_;simp only[zz,hBl,hj,uE hA,vE hA];refine qO (vv hsort) rfl (by simp only[aae];exact uE hG) ?_;simp only[zz,hBl,hj,uE hA,vE hA,vE hG];refine rg ?_;have hw:ca .i64 ((j:Int)+1)=((j+1:Nat):Int):=by rw[ou ⟨by omega,by omega⟩];omega
    simp only[zz,Xs,hw];refine⟨hj,?_⟩;have hA1:A2 L (j+1)=A2 L j++[ka (kd p.2)]:=by
     unfold A2;rw[yad,Lac hjL,←hp,iae,Qad];rfl
    have e1:A2 L j++.sl 1 ((kd p.2).map aa)::B=A2 L (j+1)++Jg (1+(j+1)) (L.drop (j+1)):=by
     rw[hA1,Tad,hB,show 1+j+1=1+(j+1) by omega];rfl
    have e2:Nac j Ent.gone++Ent.gone::F=Nac (j+1) Ent.gone++si (L.drop (j+1)):=by
     rw[nae (n:=j),Tad,hF];rfl
    rw[CW,e1,e2];exact At.same _ _ _ (by repeat (first|exact sa.qc _|refine sa.cons (Sub.refl _) ?_|refine sa.cons (Sub.ob _) ?_))
   .refine xt ?_;simp only[zz,fE];have hj:j=t0.Defs.length:=by omega
    subst hj;exact⟨rfl,At.same _ _ _ (by repeat (first|exact sa.qc _|refine sa.cons (Sub.refl _) ?_|refine sa.cons (Sub.ob _) ?_))⟩
  .simp only[zz];rw[CW,←hL,List.drop_length];have hA:A2 L L.length=(L.map λp=>kd p.2).map ka:=by unfold A2;rw[dae,List.map_map];rfl
   rw[hA];simp only[Jg,vad];refine T.trim 1 (Sad _) (by simp) ?_ ?_ ?_
   .simp only[tn,vo,belows,Tm.below,Xac,Lad,Sac,decide_eq_true_eq];exact⟨by omega,by omega,Ia _ _ (Fr.h _),Ia _ _ (Fr.h _)⟩
   .simp only[Rad,Uaf,sae,List.all_nil,Xac];exact sd _ _ (Fr.l _)
   simp only[Rad,Uaf];refine ss (rg ?_);simp only[zz];exact rt (er (by simp only[zz,zr];exact fq (by simp only[zg])))
theorem dV{n:Nat}{rs:List GRule}:∀i,i<=rs.length->∀d,d<n->((sL n rs i)[d]?).map (·.2)=some ((((rs.take i).filter λ(r:GRule)=>r.Def==(d:Int)).map (Q0 n)).flatten)
 |0,_,d,hd=>by simp[sL,hd]
 |i+1,h,d,hd=>by
  have ih:=dV (n:=n) (rs:=rs) i (by omega) d hd;rw[cK h,yad,Lac h,iae,List.filter_append,Qad,List.flatten_append];unfold pW;split
  .rename_i hc;rw[List.getElem?_modify];by_cases hrd:rs[i].Def.toNat=d
   .have he:rs[i].Def=(d:Int):=by omega
    simp only[if_pos hrd,Fag]
    cases hx:(sL n rs i)[d]? with
    |none=>rw[hx]at ih;cases ih
    |some p=>
     rw[hx]at ih;simp only[qae,Aad]at ih;simp[he,ih]
   .have he:(rs[i].Def==(d:Int))=false:=by
     rw[beq_eq_false_iff_ne];intro he;exact hrd (by rw[he];simp)
    simp only[if_neg hrd,Fag,Option.map_id'];simp[he,ih]
  .rename_i hc;have he:(rs[i].Def==(d:Int))=false:=by
    rw[beq_eq_false_iff_ne];intro he;exact hc (by omega)
   simp[he,ih]
theorem cZ{t0:GScope}:((sL t0.Defs.length t0.Rules t0.Rules.length).map λp=>kd p.2)=kq t0:=by
 apply List.ext_getElem?;intro d;unfold kq;rw[Oad,Oad];by_cases hd:d<t0.Defs.length
 .have h:=dV (n:=t0.Defs.length) (rs:=t0.Rules) t0.Rules.length (cad _) d hd;rw[dae]at h;rw[List.getElem?_range hd,qae]
  cases hx:(sL t0.Defs.length t0.Rules t0.Rules.length)[d]? with
  |none=>rw[hx]at h;cases h
  |some p=>
   rw[hx]at h;simp only[qae,Aad]at h⊢;rw[h];rfl
 .rw[Daf (by rw[ON];omega),Daf (by simp;omega)];rfl
theorem zu{t0:GScope}{r:List (List Int)}(h:Oc t0=some r):Den Tryz.prog 121 [Ca t0] (qb r):=by
 have h':=h;unfold Oc at h';split at h'
 .rename_i hc;obtain⟨h1,h2,h3⟩:=hc;have hs:=sn ⟨h1,h2,h3⟩;rw[h]at hs;obtain rfl:=nad hs;have:=I3 h1 h2 h3;rwa [cZ]at this
 .cases h'
instance {t0 r}:Con (Oc t0=some r) (Den Tryz.prog 121 [Ca t0] (qb r)):=⟨zu⟩
end Go.Proofs.Dev
