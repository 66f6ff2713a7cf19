/-
  Contracts of the functions: each answers as its plain partial function says.
-/
import Derived.Test.YtjiaejcpmcknnaaGreatDoorK
import Derived.Test.YtjiaejcpmcknnaaGreatDoorG
import Derived.Test.YtjiaejcpmcknnaaGreatDoorPD
import Derived.Test.YtjiaejcpmcknnaaGreatDoorH1
import Derived.Test.YtjiaejcpmcknnaaGreatDoorH2
import Derived.Test.YtjiaejcpmcknnaaGreatDoorQ4
import Derived.Test.YtjiaejcpmcknnaaGreatDoorQ5
import Derived.Test.YtjiaejcpmcknnaaGreatDoorQ6
import Derived.Test.YtjiaejcpmcknnaaGreatDoorQ7
open Bool renaming and_eq_true->paa,and_true->taa,true_and->Zaa
open List renaming all_cons->Xab,all_eq_true->Uaa,append_assoc->kab,append_nil->Kaa,cons_append->Naa,eq_of_mem_replicate->Rac,getElem?_concat_length->fab,getElem?_cons_succ->lab,getElem?_eq_getElem->faa,getElem?_eq_none->zac,getElem?_map->Jab,getElem_mem->laa,length_append->Oaa,length_cons->Jaa,length_drop->Vac,length_replicate->Xaa,map_append->nab,mem_map->hac,replicate->jaa,replicate_succ'->Sab,set_append->Jad,set_cons_succ->dac,set_cons_zero->Pab,take_add_one->Raa,take_length->Nab,take_succ_cons->Vaa,take_zero->Nac
open Nat renaming add_comm->jac,le_refl->saa,mul_le_mul_left->nad,sub_self->Qab,zero_le->wab
open Option renaming map_eq_map->xad,map_some->Lab,toList_some->Eab
open Option.some renaming inj->Iaa,injEq->Laa
set_option linter.all false
set_option maxHeartbeats 1000000
set_option maxRecDepth 10000
namespace Go.Proofs.Dev
open Go Go.Tm
theorem Mo{t0 t1 r} (h:od t0 t1=some r):Den Tryz.prog 159 [Xa t0,aa t1] (ea r):=by
 refine dk 65 I5 ?_
 simp only[I5,Kf.of,zs,ze]
 unfold od at h
 exact pg (And.intro @Zd.eq_1 @ee.eq_1) (.l 2 1 (λ(q:((List Int) × Int))=>⟨[.k 1,.p 1,.k 3,.s (.own 0 0),.k 4,.p 1,.k 19,.p 2,.s (aa q.2),.p 34],[.n 1 ((q.1.map aa))]⟩) (λ(b14:(List Int))=>⟨[.k 1,.p 1,.k 3,.s (.own 0 0),.k 4,.p 1],[.n 1 ((b14.map aa))]⟩) [on 1] (.b (.j 1 (λ(j11:(List Int))=>⟨[.k 1,.p 32],[.c 0 ((j11.map aa))]⟩) (.z 1 (.j 1 (λ(j8:Bool)=>⟨[.k 1,.p 32,.k 9,.s (ba j8),.p 24],[.o 0]⟩) (.b (.t [ok 0]) (.t [ok 0])) (.b (.t [ov 0 1]) (.t [ok 0])))) (.t [ok 0])) (.t [ok 0])) (.l 2 1 (λ(q:((List Int) × Int))=>⟨[.k 1,.p 9,.k 38,.p 2,.s (aa q.2),.p 16],[.c 0 ((q.1.map aa))]⟩) (λ(b26:(List Int))=>⟨[.k 5,.p 5],[.c 0 ((b26.map aa))]⟩) [ok 0] (.b (.j 1 (λ(j23:(List Int))=>⟨[.k 1,.p 50],[.c 0 ((j23.map aa))]⟩) (.z 1 (.j 1 (λ(j20:Bool)=>⟨[.k 1,.p 50,.k 9,.s (ba j20),.p 6],[.o 0]⟩) (.b (.t [ok 0]) (.t [ok 0])) (.b (.t [ov 0 1]) (.t [ok 0])))) (.t [ok 0])) (.t [ok 0])) .o))
instance {t0 t1 r}:Con (od t0 t1=some r) (Den Tryz.prog 159 [Xa t0,aa t1] (ea r)):=⟨Mo⟩
abbrev LL:=List (Nat×List Int)
def Kj:Nat->LL->List D
 |_,[]=>[]
 |k,p::l=>.own k p.1::Kj (k+1) l
def Rv(L:LL):List Ent:=L.map λp=>.live 1 p.1 (p.2.map aa)
def kW(n:Nat) (r:GRule):List Int:=wD n (Ev xd r.Guard)++wD n (Ev xd r.Value)
def RR(n:Nat) (L:LL) (r:GRule):LL:=if 0<=r.Def/\r.Def<n then L.modify r.Def.toNat (λp=>(p.1+1,p.2++kW n r))else L
def sL(n:Nat) (rs:List GRule) (i:Nat):LL:=(rs.take i).foldl (RR n) (jaa n (0,[]))
theorem ew:∀{L:LL}{k:Nat},(Kj k L).length=L.length
 |[],_=>rfl
 |p::l,k=>by simp only[Kj,Jaa,ew (L:=l)]
theorem LI:∀{L M:LL}{k:Nat},Kj k (L++M)=Kj k L++Kj (k+L.length) M
 |[],M,k=>by simp[Kj]
 |p::l,M,k=>by
  simp only[Naa,Kj,LI (L:=l),Jaa];rw[show k+1+l.length=k+(l.length+1) by omega]
theorem MI:∀{L:LL}{k d:Nat},(Kj k L)[d]?=L[d]?.map (λp=>.own (k+d) p.1)
 |[],_,_=>by simp[Kj]
 |p::l,k,0=>by simp[Kj]
 |p::l,k,d+1=>by
  simp only[Kj,lab,MI (L:=l)];rw[show k+1+d=k+(d+1) by omega]
theorem NI:∀{L:LL}{k d:Nat}{p:Nat×List Int},(Kj k L).set d (.own (k+d) p.1)=Kj k (L.set d p)
 |[],_,_,_=>by simp[Kj]
 |q::l,k,0,p=>by simp[Kj]
 |q::l,k,d+1,p=>by
  simp only[Kj,dac];rw[show k+(d+1)=k+1+d by omega,NI (L:=l)]
theorem qy:∀{L:LL}{k j:Nat},k+L.length<=j->belows j (Kj k L)=true
 |[],_,_,_=>rfl
 |p::l,k,j,h=>by
  simp only[Jaa]at h;simp only[Kj,belows,Tm.below,paa,decide_eq_true_eq];exact⟨by omega,qy (by omega)⟩
theorem kz{L:LL}:(Rv L).length=L.length:=by simp[Rv]
theorem XC{L:LL}{j:Nat}:(Rv L).all (Ent.below j)=true:=by
 rw[Uaa];intro e he;obtain⟨p,-,rfl⟩:=hac.1 he;exact mh _ _ (Fr.l _)
theorem wV{n:Nat}{L:LL}{r:GRule}:(RR n L r).length=L.length:=by
 unfold RR;split<;>simp
theorem MF{n:Nat}:∀{rs:List GRule}{L:LL},(rs.foldl (RR n) L).length=L.length
 |[],_=>rfl
 |r::rs,L=>by simp only[List.foldl_cons,MF (rs:=rs),wV]
theorem wK{n:Nat}{rs:List GRule}{i:Nat}:(sL n rs i).length=n:=by unfold sL;rw[MF];simp
theorem kH{n:Nat}{rs:List GRule}{i:Nat}(h:i<rs.length):sL n rs (i+1)=RR n (sL n rs i) rs[i]:=by
 unfold sL;rw[Raa,faa h,Eab,List.foldl_append];rfl
theorem aL{n:Int}{l:List Int}:(wD n l).length<=l.length:=List.length_filter_le _ _
theorem SK{n:Nat}{r:GRule}(h:r.Guard.length<=1048576/\r.Value.length<=1048576):(kW n r).length<=2097152:=by
 unfold kW;have h1:=aL (n:=n) (l:=Ev xd r.Guard);have h2:=aL (n:=n) (l:=Ev xd r.Value);have h3:=Tq (p:=xd) (e:=r.Guard);have h4:=Tq (p:=xd) (e:=r.Value);simp only[Oaa];omega
theorem YI{n:Nat}{rs:List GRule}(hg:∀r∈rs,r.Guard.length<=1048576/\r.Value.length<=1048576):∀{i:Nat},i<=rs.length->∀p∈sL n rs i,p.2.length<=2097152*i:=by
 intro i
 induction i with
 |zero=>
  intro _ p hp;simp only[sL,Nac,List.foldl_nil,List.mem_replicate]at hp;rw[hp.2];simp
 |succ i ih=>
  intro h p hp;have ih:=ih (Nat.le_of_succ_le h);have hD:=SK (n:=n) (hg rs[i] (laa h));have hs:2097152*(i+1)=2097152*i+2097152:=Nat.mul_succ _ _;rw[kH h]at hp;unfold RR at hp;split at hp
  .obtain⟨d,hd,rfl⟩:=List.getElem_of_mem hp;have hd':d<(sL n rs i).length:=by simpa using hd
   have h1:=ih _ (laa hd');rw[List.getElem_modify];split
   .simp only[Oaa];omega
   .omega
  .have:=ih p hp;omega
theorem pF(t:List D) (n:Nat):∀x,x<=n->Ny 1 0 x ⟨t,[.live 1 0 (jaa n (.v (.slice none 0 0)))]⟩=⟨t,.live 1 0 (Kj 1 (jaa x (0,[]))++jaa (n-x) (.v (.slice none 0 0)))::Rv (jaa x (0,[]))⟩
 |0,_=>by simp[Ny,Kj,Rv]
 |x+1,h=>by
  rw[Ny,pF t n x (by omega)];unfold jG;simp only[List.getElem?_cons_zero];have hl:(Kj 1 (jaa x ((0:Nat),([]:List Int)))).length=x:=by rw[ew];simp
  rw[List.getElem?_append_right (by omega),hl,Qab,List.getElem?_replicate,if_pos (by omega)];simp only[Pab,Jaa,kz,Xaa,Naa,St.mk.injEq,true_and,List.cons.injEq,Ent.live.injEq];refine⟨?_,?_⟩
  .rw[Jad,if_neg (by omega),hl,Qab,Sab (n:=x),LI,kab];congr 1;obtain⟨k,hk⟩:∃k,n-x=k+1:=⟨n-x-1,by omega⟩;rw[hk,List.replicate_succ,Pab,show n-(x+1)=k by omega,Xaa];simp only[Kj,Naa,List.nil_append];rw[jac 1 x]
  .rw[Sab (n:=x)];simp[Rv]
theorem sI{n:Nat}:la (jaa n (.v (.slice none 0 0)))=true:=Zk.2 λd hd=>by rw[Rac hd];rfl
def S1(n:Nat) (rs:List GRule) (i:Nat):St:=⟨ds 3 (.own 0 0::ds 9 (cf rs::aa (rs.length:Int)::aa (i:Int)::ds 42 [])),.live 1 0 (Kj 1 (sL n rs i))::Rv (sL n rs i)⟩
theorem UN{n:Nat}{rs:List GRule}{i:Nat}:S1 n rs i=⟨ds 3 (.own 0 0::ds 9 (cf rs::aa (rs.length:Int)::aa (i:Int)::ds 42 [])),.live 1 0 (Kj 1 (sL n rs i))::Rv (sL n rs i)⟩:=Eq.trans rfl rfl
theorem tp{α:Type}{l:List α}{x y:α}:(l++[x]).set l.length y=l++[y]:=by simp
theorem TP:∀{a b:Nat},a≠b->IN a b=true
 |0,0,h=>(h rfl).elim
 |0,_+1,_=>rfl
 |_+1,0,_=>rfl
 |a+1,b+1,h=>TP (a:=a) (b:=b) λe=>h (by rw[e])
theorem ID{α:Type}{f:α->α}:∀{l:List α}{d:Nat}{p:α},l[d]?=some p->l.modify d f=l.set d (f p)
 |[],_,_,h=>by simp at h
 |a::l,0,p,h=>by simp at h;subst h;simp
 |a::l,d+1,p,h=>by simp only[List.modify_succ_cons,dac];rw[ID (by simpa using h)]
def A2(L:LL) (j:Nat):List D:=(L.take j).map λp=>ea (Sd p.2)
def S2(n:Nat) (L:LL) (j:Nat):St:=⟨ds 3 (.own 0 0::ds 40 (.own 0 0::aa (n:Int)::aa (j:Int)::ds 11 [])),.live 1 0 (A2 L j++Kj (1+j) (L.drop j))::(jaa j .gone++Rv (L.drop j))⟩
theorem dS{n:Nat}{L:LL}{j:Nat}:S2 n L j=⟨ds 3 (.own 0 0::ds 40 (.own 0 0::aa (n:Int)::aa (j:Int)::ds 11 [])),.live 1 0 (A2 L j++Kj (1+j) (L.drop j))::(jaa j .gone++Rv (L.drop j))⟩:=Eq.trans rfl rfl
theorem SR{L:LL}{j:Nat}:la (A2 L j)=true:=by
 refine Zk.2 λd hd=>?_;obtain⟨p,-,rfl⟩:=hac.1 hd;exact Fr.h _
theorem WW{n:Nat}{L:LL}{j:Nat}(h:L.length=n) (hj:j<=n):Fit 0 (S2 n L j):=by
 refine⟨wab _,?_,?_⟩
 .simp only[S2,Iu,Hw,belows,Tm.below,Jaa,taa,Zaa,paa,decide_eq_true_eq];exact⟨by omega,by omega,di _ _ (Fr.h _),di _ _ (Fr.h _)⟩
 .simp only[S2,Xab,List.all_append,paa];refine⟨?_,?_,XC⟩
  .refine kS (mh _ _ SR) (qy ?_);simp only[Jaa,Oaa,Xaa,kz,Vac];omega
  .rw[Uaa];intro e he;rw[Rac he];rfl
theorem tC{α:Type}{A B:List α}{x:α}{j:Nat}(h:A.length=j):(A++x::B)[j]?=some x:=by subst h;simp
theorem uC{α:Type}{A B:List α}{x y:α}{j:Nat}(h:A.length=j):(A++x::B).set j y=A++y::B:=by subst h;simp
theorem VW{n:Nat}{rs:List GRule}{i:Nat}:Fit 0 (S1 n rs i):=by
 refine⟨wab _,?_,?_⟩
 .simp only[S1,Iu,Hw,belows,Tm.below,Jaa,taa,Zaa,paa,decide_eq_true_eq];exact⟨by omega,di _ _ (Fr.h _),di _ _ (Fr.h _),di _ _ (Fr.h _)⟩
 .simp only[S1,Xab,paa];refine⟨?_,XC⟩;exact qy (by simp only[Jaa,kz];omega)
theorem ZW{t0:GScope}(hd:t0.Defs.length<=1048576) (hr:t0.Rules.length<=1048576) (hg:∀r∈t0.Rules,r.Guard.length<=1048576/\r.Value.length<=1048576) :
 Den Tryz.prog 121 [Ca t0] (Uc ((sL t0.Defs.length t0.Rules t0.Rules.length).map λp=>Sd p.2)):=by
 refine dk 57 H4 ?_;simp only[H4,Kf.of,zs,ze];refine ss (rg ?_);have hm:GD 24 ([]:List Int) (t0.Defs.length:Int) (t0.Defs.length:Int)=some (jaa t0.Defs.length []):=by
  unfold GD;rw[if_pos ⟨by omega,by omega,by omega,by simp;omega⟩];simp
 obtain⟨f2,f3,f4,f5,f6⟩:=QP (e:=ea) hm;(try simp only[zz]);refine ss (rg ?_);(try simp only[zz]at f5 f6);(try simp only[zz,f2,f3,f4,f5]);refine ss (ss (rg ?_));(try simp only[zz,f2,f3,f4,f5]);refine tl (S:=⟨ds 3 (.own 0 0::ds 9 (cf t0.Rules::aa (t0.Rules.length:Int)::aa 0::ds 42 [])),[.live 1 0 (jaa t0.Defs.length (.v (.slice none 0 0)))]⟩) (tq [ok 1] (by simp only[zg,Zh sI])) ?_;refine oF (S:=1) (id:=0) (x:=t0.Defs.length) ?_;rw[pF _ _ _ (saa _),Qab,List.replicate_zero,Kaa];refine T.O1 t0.Rules.length (S1 t0.Defs.length t0.Rules) (At.same _ _ _ (Ka.Yj _)) (λi _=>VW) (λi hi=>?_) oH ?_
 .rw[UN];refine ss (rg ?_);simp only[zz];refine ss (cd rfl ?_);simp only[zz];refine gP.mk (λhc=>?_) (λhc=>?_)
  .have hi:i<t0.Rules.length:=by omega
   refine sk ?_;simp only[zz];obtain⟨r,hr1⟩:∃r,r=t0.Rules[i]:=⟨_,rfl⟩;have hidx:idx t0.Rules (i:Int)=some r:=by rw[hr1];simp[idx,hi]
   have g2:t0.Rules[i]?=some r:=by rw[hr1];exact faa hi
   have hrg:=hg r (by rw[hr1];exact laa hi);have hL:(sL t0.Defs.length t0.Rules i).length=t0.Defs.length:=wK;have hLs:sL t0.Defs.length t0.Rules (i+1)=RR t0.Defs.length (sL t0.Defs.length t0.Rules i) r:=by rw[kH hi,hr1]
   have hLb:=YI (n:=t0.Defs.length) hg (i:=i) (by omega);generalize hLL:sL t0.Defs.length t0.Rules i=L at hL hLs hLb⊢;obtain⟨E,hE⟩:∃E,E=Rv L:=⟨_,rfl⟩;have hEl:E.length=L.length:=by rw[hE,kz]
   rw[←hE];refine ss (bk (ss (rg ?_)));simp only[zz,g2,fab,tp];refine ss (rg ?_);have hol:(Kj 1 L).length=t0.Defs.length:=by rw[ew,hL]
   have hw:da .i64 ((i:Int)+1)=((i+1:Nat):Int):=by rw[MR ⟨by omega,by omega⟩];omega
   have skipped:¬(0<=r.Def/\r.Def<(t0.Defs.length:Int))->sL t0.Defs.length t0.Rules (i+1)=L:=λh=>by rw[hLs];exact if_neg h
   by_cases h0:0<=r.Def
   .by_cases h1:r.Def<(t0.Defs.length:Int)
    .simp only[zz,g2,fab,tp,hol,h0,h1];refine cd rfl ?_;simp only[zz];have hdl:r.Def.toNat<L.length:=by rw[hL];omega
     obtain⟨p,hp⟩:∃p,L[r.Def.toNat]?=some p:=⟨_,faa hdl⟩;have hEd:r.Def.toNat<E.length:=by rw[hEl];exact hdl
     have k0:r.Def.toNat<t0.Defs.length:=by omega
     have k1:(Kj 1 L)[r.Def.toNat]?=some (.own (r.Def.toNat+1) p.1):=by rw[MI,hp,Lab,jac]
     have k2:∀y,(E++[y])[r.Def.toNat]?=some (.live 1 p.1 (p.2.map aa)):=λy=>by
      rw[List.getElem?_append_left hEd,hE];unfold Rv;rw[Jab,hp];rfl
     have k3:∀y e,(E++[y]).set r.Def.toNat e=E.set r.Def.toNat e++[y]:=λy e=>by rw[Jad,if_pos hEd]
     have k4:∀e,(Kj 1 L).set r.Def.toNat e=(Kj 1 L).set r.Def.toNat e:=λe=>rfl;have hpb:=hLb p (List.mem_of_getElem? hp);have hDb:=SK (n:=t0.Defs.length) hrg;have k5:(p.2.length+(kW t0.Defs.length r).length)*8<=2 ^ 47:=by
      have:2097152*i<=2097152*1048576:=nad _ (by omega);omega
     have k6:IN (E.length+1) (r.Def.toNat+1)=true:=TP (by omega);refine ay gn [[],[],[],[],[],[],[],[],[],[],[],[],[2]] (by kernel_rfl) ?_;simp only[zz,zy,hol,h0,h1,k0,k1,k2,k3,k6,fab,tp];have hdef:od r (t0.Defs.length:Int)=some (kW t0.Defs.length r):=Vp hrg _;refine lq (Mo hdef) ?_ (by simp only[zg]);(try simp only[zz]at k5);simp only[zz,zy,hol,h0,h1,k0,k1,k2,k3,k5,k6,fab,tp];refine⟨k6,rg ?_⟩;simp only[zz,Qt,hw];refine⟨hi,?_⟩;have hst:RR t0.Defs.length L r=L.set r.Def.toNat (p.1+1,p.2++kW t0.Defs.length r):=by
      unfold RR;rw[if_pos ⟨h0,h1⟩,ID hp]
     have e1:(Kj 1 L).set r.Def.toNat (.own (r.Def.toNat+1) (p.1+1))=Kj 1 (sL t0.Defs.length t0.Rules (i+1)):=by
      rw[hLs,hst,←NI,jac 1]
     have e2:E.set r.Def.toNat (.live 1 (p.1+1) (p.2.map aa++(kW t0.Defs.length r).map aa))=Rv (sL t0.Defs.length t0.Rules (i+1)):=by
      rw[hLs,hst,hE];unfold Rv;rw[List.map_set,nab]
     rw[UN,e1,e2,←Naa];exact At.mk _ _ _ _ (by repeat (first|exact Ka.Yj _|refine Ka.cons (Sub.refl _) ?_|refine Ka.cons (Sub.Nf _) ?_))
    .simp only[zz,g2,fab,tp,hol,h0,h1];refine cd rfl ?_;simp only[zz];refine sk ?_;simp only[zz];refine rg ?_;simp only[zz,Qt,hw];refine⟨hi,?_⟩;rw[UN,skipped (λh=>h1 h.2),←hE,←Naa];exact At.mk _ _ _ _ (by repeat (first|exact Ka.Yj _|refine Ka.cons (Sub.refl _) ?_|refine Ka.cons (Sub.Nf _) ?_))
   .simp only[zz,g2,fab,tp,hol,h0];refine cd rfl ?_;simp only[zz];refine sk ?_;simp only[zz];refine rg ?_;simp only[zz,Qt,hw];refine⟨hi,?_⟩;rw[UN,skipped (λh=>h0 h.1),←hE,←Naa];exact At.mk _ _ _ _ (by repeat (first|exact Ka.Yj _|refine Ka.cons (Sub.refl _) ?_|refine Ka.cons (Sub.Nf _) ?_))
  .refine xt ?_;simp only[zz,iG];have hi:i=t0.Rules.length:=by omega
   subst hi;exact⟨rfl,At.same _ _ _ (by repeat (first|exact Ka.Yj _|refine Ka.cons (Sub.refl _) ?_|refine Ka.cons (Sub.Nf _) ?_))⟩
 .simp only[zz];rw[UN];have hL:(sL t0.Defs.length t0.Rules t0.Rules.length).length=t0.Defs.length:=wK;have hLb:=YI (n:=t0.Defs.length) hg (i:=t0.Rules.length) (saa _);generalize sL t0.Defs.length t0.Rules t0.Rules.length=L at hL hLb⊢;have hol:(Kj 1 L).length=t0.Defs.length:=by rw[ew,hL]
  refine ss (ss (rg ?_));simp only[zz,hol];refine T.O1 t0.Defs.length (S2 t0.Defs.length L) ?_ (λj hj=>WW hL hj) (λj hj=>?_) oH ?_
  .rw[dS];exact At.same _ _ _ (by repeat (first|exact Ka.Yj _|refine Ka.cons (Sub.refl _) ?_|refine Ka.cons (Sub.Nf _) ?_))
  .rw[dS];refine ss (rg ?_);simp only[zz];refine ss (cd rfl ?_);simp only[zz];refine gP.mk (λhc=>?_) (λhc=>?_)
   .have hj:j<t0.Defs.length:=by omega
    have hjL:j<L.length:=by omega
    obtain⟨p,hp⟩:∃p,p=L[j]:=⟨_,rfl⟩;have hdr:L.drop j=p::L.drop (j+1):=by rw[hp];exact List.drop_eq_getElem_cons hjL
    have hpb:=hLb p (by rw[hp];exact laa hjL);have hsort:Bi p.2=some (Sd p.2):=qA (by
     have:2097152*t0.Rules.length<=2097152*1048576:=nad _ (by omega);omega)
    have hA:(A2 L j).length=j:=by unfold A2;rw[List.length_map,List.length_take];omega
    have hG:(jaa j Ent.gone).length=j:=by simp
    rw[hdr];simp only[Kj,Rv,List.map_cons];obtain⟨B,hB⟩:∃B,B=Kj (1+j+1) (L.drop (j+1)):=⟨_,rfl⟩;obtain⟨F,hF⟩:∃F,F=Rv (L.drop (j+1)):=⟨_,rfl⟩;have hF':(L.drop (j+1)).map (λp=>Ent.live 1 p.1 (p.2.map aa))=F:=by rw[hF];rfl
    rw[←hB,hF',jac 1 j];have hBl:(A2 L j++.own (j+1) p.1::B).length=t0.Defs.length:=by
     rw[Oaa,Jaa,hA,hB,ew,Vac];omega
    refine sk ?_;simp only[zz];refine ss (bk (ss (rg ?_)));simp only[zz,hBl,hj,tC hA,uC hA];refine rg ?_;simp only[zz,hBl,hj,tC hA,uC hA];refine PK (Yt hsort) rfl (by simp only[lab];exact tC hG) ?_;simp only[zz,hBl,hj,tC hA,uC hA,uC hG];refine rg ?_;have hw:da .i64 ((j:Int)+1)=((j+1:Nat):Int):=by rw[MR ⟨by omega,by omega⟩];omega
    simp only[zz,Qt,hw];refine⟨hj,?_⟩;have hA1:A2 L (j+1)=A2 L j++[ea (Sd p.2)]:=by
     unfold A2;rw[Raa,faa hjL,←hp,Eab,nab];rfl
    have e1:A2 L j++.sl 1 ((Sd p.2).map aa)::B=A2 L (j+1)++Kj (1+(j+1)) (L.drop (j+1)):=by
     rw[hA1,kab,hB,show 1+j+1=1+(j+1) by omega];rfl
    have e2:jaa j Ent.gone++Ent.gone::F=jaa (j+1) Ent.gone++Rv (L.drop (j+1)):=by
     rw[Sab (n:=j),kab,hF];rfl
    rw[dS,e1,e2];exact At.same _ _ _ (by repeat (first|exact Ka.Yj _|refine Ka.cons (Sub.refl _) ?_|refine Ka.cons (Sub.Nf _) ?_))
   .refine xt ?_;simp only[zz,iG];have hj:j=t0.Defs.length:=by omega
    subst hj;exact⟨rfl,At.same _ _ _ (by repeat (first|exact Ka.Yj _|refine Ka.cons (Sub.refl _) ?_|refine Ka.cons (Sub.Nf _) ?_))⟩
  .simp only[zz];rw[dS,←hL,List.drop_length];have hA:A2 L L.length=(L.map λp=>Sd p.2).map ea:=by unfold A2;rw[Nab,List.map_map];rfl
   rw[hA];simp only[Kj,Kaa];refine T.trim 1 (wab _) (by simp) ?_ ?_ ?_
   .simp only[Iu,Hw,belows,Tm.below,taa,Zaa,paa,decide_eq_true_eq];exact⟨by omega,by omega,di _ _ (Fr.h _),di _ _ (Fr.h _)⟩
   .simp only[Vaa,Nac,Xab,List.all_nil,taa];exact mh _ _ (Fr.l _)
   simp only[Vaa,Nac];refine ss (rg ?_);simp only[zz];exact rt (er (by simp only[zz,zr];exact fq (by simp only[zg])))
theorem NQ{n:Nat}{rs:List GRule}:∀i,i<=rs.length->∀d,d<n->((sL n rs i)[d]?).map (·.2)=some ((((rs.take i).filter λ(r:GRule)=>r.Def==(d:Int)).map (kW n)).flatten)
 |0,_,d,hd=>by simp[sL,hd]
 |i+1,h,d,hd=>by
  have ih:=NQ (n:=n) (rs:=rs) i (by omega) d hd;rw[kH h,Raa,faa h,Eab,List.filter_append,nab,List.flatten_append];unfold RR;split
  .rename_i hc;rw[List.getElem?_modify];by_cases hrd:rs[i].Def.toNat=d
   .have he:rs[i].Def=(d:Int):=by omega
    simp only[if_pos hrd,xad]
    cases hx:(sL n rs i)[d]? with
    |none=>rw[hx]at ih;cases ih
    |some p=>
     rw[hx]at ih;simp only[Lab,Laa]at ih;simp[he,ih]
   .have he:(rs[i].Def==(d:Int))=false:=by
     rw[beq_eq_false_iff_ne];intro he;exact hrd (by rw[he];simp)
    simp only[if_neg hrd,xad,Option.map_id'];simp[he,ih]
  .rename_i hc;have he:(rs[i].Def==(d:Int))=false:=by
    rw[beq_eq_false_iff_ne];intro he;exact hc (by omega)
   simp[he,ih]
theorem QU{t0:GScope}:((sL t0.Defs.length t0.Rules t0.Rules.length).map λp=>Sd p.2)=Rt t0:=by
 apply List.ext_getElem?;intro d;unfold Rt;rw[Jab,Jab];by_cases hd:d<t0.Defs.length
 .have h:=NQ (n:=t0.Defs.length) (rs:=t0.Rules) t0.Rules.length (saa _) d hd;rw[Nab]at h;rw[List.getElem?_range hd,Lab]
  cases hx:(sL t0.Defs.length t0.Rules t0.Rules.length)[d]? with
  |none=>rw[hx]at h;cases h
  |some p=>
   rw[hx]at h;simp only[Lab,Laa]at h⊢;rw[h];rfl
 .rw[zac (by rw[wK];omega),zac (by simp;omega)];rfl
theorem Zy{t0:GScope}{r:List (List Int)}(h:Ai t0=some r):Den Tryz.prog 121 [Ca t0] (Uc r):=by
 have h':=h;unfold Ai at h';split at h'
 .rename_i hc;obtain⟨h1,h2,h3⟩:=hc;have hs:=Xt ⟨h1,h2,h3⟩;rw[h]at hs;obtain rfl:=Iaa hs;have:=ZW h1 h2 h3;rwa [QU]at this
 .cases h'
instance {t0 r}:Con (Ai t0=some r) (Den Tryz.prog 121 [Ca t0] (Uc r)):=⟨Zy⟩
instance {t0 t1 r}:Con (Fj t0 t1=some r) (Den Tryz.prog 82 [Ca t0,aa t1] (ea r)):=⟨λh=>by
 refine dk 16 k82 ?_
 simp only[k82,Kf.of,zs,ze]
 unfold Fj at h
 exact pg trivial (.z 2 (.j 1 (λ(j2:Bool)=>⟨[.k 1,.p 3,.k 9,.s (ba j2),.p 4],[.o 0]⟩) (.b (.t [ok 0]) (.t [ok 0])) .o))⟩
end Go.Proofs.Dev
