/-
  Contracts of the functions: each answers as its plain partial function says.
-/
import Derived.Test.YtnlamdfggbdblaaGreatDoorK
import Derived.Test.YtnlamdfggbdblaaGreatDoorG
import Derived.Test.YtnlamdfggbdblaaGreatDoorPD
import Derived.Test.YtnlamdfggbdblaaGreatDoorH2
import Derived.Test.YtnlamdfggbdblaaGreatDoorQ4
import Derived.Test.YtnlamdfggbdblaaGreatDoorQ5
import Derived.Test.YtnlamdfggbdblaaGreatDoorQ6
import Derived.Test.YtnlamdfggbdblaaGreatDoorQ7
open Bool renaming and_eq_true->laa,and_true->paa,true_and->Uaa
open List renaming all_cons->Qab,all_eq_true->Oaa,append_assoc->eab,append_nil->Naa,cons_append->Haa,eq_of_mem_replicate->Gac,getElem?_concat_length->Zaa,getElem?_cons_succ->fab,getElem?_eq_getElem->caa,getElem?_eq_none->nac,getElem?_map->Aab,getElem_mem->iaa,length_append->Iaa,length_cons->Daa,length_drop->Lac,length_replicate->Raa,map_append->aab,mem_map->Xab,replicate->gaa,replicate_succ'->Jab,set_append->rad,set_cons_succ->Vab,set_cons_zero->Gab,take_add_one->Laa,take_length->wab,take_succ_cons->sab,take_zero->Dac
open Nat renaming add_comm->pac,le_refl->oaa,mul_le_mul_left->Xac,sub_self->Hab,zero_le->Bab
open Option renaming map_eq_map->fad,map_some->Cab,toList_some->vab
open Option.some renaming inj->Faa,injEq->Maa
set_option linter.all false
set_option maxHeartbeats 1000000
set_option maxRecDepth 10000
namespace Go.Proofs.Dev
open Go Go.Tm
theorem Mo{t0 t1 r} (h:Bd t0 t1=some r):Den Tryz.prog 267 [bb t0,aa t1] (da r):=by
 refine dk 65 N6 ?_
 simp only[N6,Kf.of,zs,ze]
 unfold Bd at h
 exact pg (And.intro @xe.eq_1 @Ae.eq_1) (.l 2 1 (λ(q:((List Int) × Int))=>⟨[.k 1,.p 1,.k 3,.s (.own 0 0),.k 4,.p 1,.k 19,.p 2,.s (aa q.2),.p 34],[.n 1 ((q.1.map aa))]⟩) (λ(b14:(List Int))=>⟨[.k 1,.p 1,.k 3,.s (.own 0 0),.k 4,.p 1],[.n 1 ((b14.map aa))]⟩) [on 1] (.b (.j 1 (λ(j11:(List Int))=>⟨[.k 1,.p 32],[.c 0 ((j11.map aa))]⟩) (.z 1 (.j 1 (λ(j8:Bool)=>⟨[.k 1,.p 32,.k 9,.s (ba j8),.p 24],[.o 0]⟩) (.b (.t [ok 0]) (.t [ok 0])) (.b (.t [ov 0 1]) (.t [ok 0])))) (.t [ok 0])) (.t [ok 0])) (.l 2 1 (λ(q:((List Int) × Int))=>⟨[.k 1,.p 9,.k 38,.p 2,.s (aa q.2),.p 16],[.c 0 ((q.1.map aa))]⟩) (λ(b26:(List Int))=>⟨[.k 5,.p 5],[.c 0 ((b26.map aa))]⟩) [ok 0] (.b (.j 1 (λ(j23:(List Int))=>⟨[.k 1,.p 50],[.c 0 ((j23.map aa))]⟩) (.z 1 (.j 1 (λ(j20:Bool)=>⟨[.k 1,.p 50,.k 9,.s (ba j20),.p 6],[.o 0]⟩) (.b (.t [ok 0]) (.t [ok 0])) (.b (.t [ov 0 1]) (.t [ok 0])))) (.t [ok 0])) (.t [ok 0])) .o))
instance {t0 t1 r}:Con (Bd t0 t1=some r) (Den Tryz.prog 267 [bb t0,aa t1] (da r)):=⟨Mo⟩
abbrev LL:=List (Nat×List Int)
def Rj:Nat->LL->List D
 |_,[]=>[]
 |k,p::l=>.own k p.1::Rj (k+1) l
def Rv(L:LL):List Ent:=L.map λp=>.live 1 p.1 (p.2.map aa)
def KV(n:Nat) (r:GRule):List Int:=pD n (Dv Pd r.Guard)++pD n (Dv Pd r.Value)
def yR(n:Nat) (L:LL) (r:GRule):LL:=if 0<=r.Def/\r.Def<n then L.modify r.Def.toNat (λp=>(p.1+1,p.2++KV n r))else L
def sL(n:Nat) (rs:List GRule) (i:Nat):LL:=(rs.take i).foldl (yR n) (gaa n (0,[]))
theorem cw:∀{L:LL}{k:Nat},(Rj k L).length=L.length
 |[],_=>rfl
 |p::l,k=>by simp only[Rj,Daa,cw (L:=l)]
theorem lI:∀{L M:LL}{k:Nat},Rj k (L++M)=Rj k L++Rj (k+L.length) M
 |[],M,k=>by simp[Rj]
 |p::l,M,k=>by
  simp only[Haa,Rj,lI (L:=l),Daa];rw[show k+1+l.length=k+(l.length+1) by omega]
theorem mI:∀{L:LL}{k d:Nat},(Rj k L)[d]?=L[d]?.map (λp=>.own (k+d) p.1)
 |[],_,_=>by simp[Rj]
 |p::l,k,0=>by simp[Rj]
 |p::l,k,d+1=>by
  simp only[Rj,fab,mI (L:=l)];rw[show k+1+d=k+(d+1) by omega]
theorem nI:∀{L:LL}{k d:Nat}{p:Nat×List Int},(Rj k L).set d (.own (k+d) p.1)=Rj k (L.set d p)
 |[],_,_,_=>by simp[Rj]
 |q::l,k,0,p=>by simp[Rj]
 |q::l,k,d+1,p=>by
  simp only[Rj,Vab];rw[show k+(d+1)=k+1+d by omega,nI (L:=l)]
theorem ny:∀{L:LL}{k j:Nat},k+L.length<=j->belows j (Rj k L)=true
 |[],_,_,_=>rfl
 |p::l,k,j,h=>by
  simp only[Daa]at h;simp only[Rj,belows,Tm.below,laa,decide_eq_true_eq];exact⟨by omega,ny (by omega)⟩
theorem kz{L:LL}:(Rv L).length=L.length:=by simp[Rv]
theorem SC{L:LL}{j:Nat}:(Rv L).all (Ent.below j)=true:=by
 rw[Oaa];intro e he;obtain⟨p,-,rfl⟩:=Xab.1 he;exact zh _ _ (Fr.l _)
theorem aV{n:Nat}{L:LL}{r:GRule}:(yR n L r).length=L.length:=by
 unfold yR;split<;>simp
theorem yF{n:Nat}:∀{rs:List GRule}{L:LL},(rs.foldl (yR n) L).length=L.length
 |[],_=>rfl
 |r::rs,L=>by simp only[List.foldl_cons,yF (rs:=rs),aV]
theorem VJ{n:Nat}{rs:List GRule}{i:Nat}:(sL n rs i).length=n:=by unfold sL;rw[yF];simp
theorem QG{n:Nat}{rs:List GRule}{i:Nat}(h:i<rs.length):sL n rs (i+1)=yR n (sL n rs i) rs[i]:=by
 unfold sL;rw[Laa,caa h,vab,List.foldl_append];rfl
theorem CK{n:Int}{l:List Int}:(pD n l).length<=l.length:=List.length_filter_le _ _
theorem tK{n:Nat}{r:GRule}(h:r.Guard.length<=1048576/\r.Value.length<=1048576):(KV n r).length<=2097152:=by
 unfold KV;have h1:=CK (n:=n) (l:=Dv Pd r.Guard);have h2:=CK (n:=n) (l:=Dv Pd r.Value);have h3:=Mq (p:=Pd) (e:=r.Guard);have h4:=Mq (p:=Pd) (e:=r.Value);simp only[Iaa];omega
theorem vI{n:Nat}{rs:List GRule}(hg:∀r∈rs,r.Guard.length<=1048576/\r.Value.length<=1048576):∀{i:Nat},i<=rs.length->∀p∈sL n rs i,p.2.length<=2097152*i:=by
 intro i
 induction i with
 |zero=>
  intro _ p hp;simp only[sL,Dac,List.foldl_nil,List.mem_replicate]at hp;rw[hp.2];simp
 |succ i ih=>
  intro h p hp;have ih:=ih (Nat.le_of_succ_le h);have hD:=tK (n:=n) (hg rs[i] (iaa h));have hs:2097152*(i+1)=2097152*i+2097152:=Nat.mul_succ _ _;rw[QG h]at hp;unfold yR at hp;split at hp
  .obtain⟨d,hd,rfl⟩:=List.getElem_of_mem hp;have hd':d<(sL n rs i).length:=by simpa using hd
   have h1:=ih _ (iaa hd');rw[List.getElem_modify];split
   .simp only[Iaa];omega
   .omega
  .have:=ih p hp;omega
theorem bF(t:List D) (n:Nat):∀x,x<=n->Oy 1 0 x ⟨t,[.live 1 0 (gaa n (.v (.slice none 0 0)))]⟩=⟨t,.live 1 0 (Rj 1 (gaa x (0,[]))++gaa (n-x) (.v (.slice none 0 0)))::Rv (gaa x (0,[]))⟩
 |0,_=>by simp[Oy,Rj,Rv]
 |x+1,h=>by
  rw[Oy,bF t n x (by omega)];unfold QF;simp only[List.getElem?_cons_zero];have hl:(Rj 1 (gaa x ((0:Nat),([]:List Int)))).length=x:=by rw[cw];simp
  rw[List.getElem?_append_right (by omega),hl,Hab,List.getElem?_replicate,if_pos (by omega)];simp only[Gab,Daa,kz,Raa,Haa,St.mk.injEq,true_and,List.cons.injEq,Ent.live.injEq];refine⟨?_,?_⟩
  .rw[rad,if_neg (by omega),hl,Hab,Jab (n:=x),lI,eab];congr 1;obtain⟨k,hk⟩:∃k,n-x=k+1:=⟨n-x-1,by omega⟩;rw[hk,List.replicate_succ,Gab,show n-(x+1)=k by omega,Raa];simp only[Rj,Haa,List.nil_append];rw[pac 1 x]
  .rw[Jab (n:=x)];simp[Rv]
theorem UH{n:Nat}:ia (gaa n (.v (.slice none 0 0)))=true:=il.2 λd hd=>by rw[Gac hd];rfl
def S1(n:Nat) (rs:List GRule) (i:Nat):St:=⟨ds 3 (.own 0 0::ds 9 (Cf rs::aa (rs.length:Int)::aa (i:Int)::ds 42 [])),.live 1 0 (Rj 1 (sL n rs i))::Rv (sL n rs i)⟩
theorem zN{n:Nat}{rs:List GRule}{i:Nat}:S1 n rs i=⟨ds 3 (.own 0 0::ds 9 (Cf rs::aa (rs.length:Int)::aa (i:Int)::ds 42 [])),.live 1 0 (Rj 1 (sL n rs i))::Rv (sL n rs i)⟩:=Eq.trans rfl rfl
theorem tp{α:Type}{l:List α}{x y:α}:(l++[x]).set l.length y=l++[y]:=by simp
theorem BP:∀{a b:Nat},a≠b->nN a b=true
 |0,0,h=>(h rfl).elim
 |0,_+1,_=>rfl
 |_+1,0,_=>rfl
 |a+1,b+1,h=>BP (a:=a) (b:=b) λe=>h (by rw[e])
theorem zD{α:Type}{f:α->α}:∀{l:List α}{d:Nat}{p:α},l[d]?=some p->l.modify d f=l.set d (f p)
 |[],_,_,h=>by simp at h
 |a::l,0,p,h=>by simp at h;subst h;simp
 |a::l,d+1,p,h=>by simp only[List.modify_succ_cons,Vab];rw[zD (by simpa using h)]
def A2(L:LL) (j:Nat):List D:=(L.take j).map λp=>da (oe p.2)
def S2(n:Nat) (L:LL) (j:Nat):St:=⟨ds 3 (.own 0 0::ds 40 (.own 0 0::aa (n:Int)::aa (j:Int)::ds 11 [])),.live 1 0 (A2 L j++Rj (1+j) (L.drop j))::(gaa j .gone++Rv (L.drop j))⟩
theorem LR{n:Nat}{L:LL}{j:Nat}:S2 n L j=⟨ds 3 (.own 0 0::ds 40 (.own 0 0::aa (n:Int)::aa (j:Int)::ds 11 [])),.live 1 0 (A2 L j++Rj (1+j) (L.drop j))::(gaa j .gone++Rv (L.drop j))⟩:=Eq.trans rfl rfl
theorem zR{L:LL}{j:Nat}:ia (A2 L j)=true:=by
 refine il.2 λd hd=>?_;obtain⟨p,-,rfl⟩:=Xab.1 hd;exact Fr.h _
theorem yW{n:Nat}{L:LL}{j:Nat}(h:L.length=n) (hj:j<=n):Fit 0 (S2 n L j):=by
 refine⟨Bab _,?_,?_⟩
 .simp only[S2,Cu,Fw,belows,Tm.below,Daa,paa,Uaa,laa,decide_eq_true_eq];exact⟨by omega,by omega,si _ _ (Fr.h _),si _ _ (Fr.h _)⟩
 .simp only[S2,Qab,List.all_append,laa];refine⟨?_,?_,SC⟩
  .refine PR (zh _ _ zR) (ny ?_);simp only[Daa,Iaa,Raa,kz,Lac];omega
  .rw[Oaa];intro e he;rw[Gac he];rfl
theorem pC{α:Type}{A B:List α}{x:α}{j:Nat}(h:A.length=j):(A++x::B)[j]?=some x:=by subst h;simp
theorem qC{α:Type}{A B:List α}{x y:α}{j:Nat}(h:A.length=j):(A++x::B).set j y=A++y::B:=by subst h;simp
theorem xW{n:Nat}{rs:List GRule}{i:Nat}:Fit 0 (S1 n rs i):=by
 refine⟨Bab _,?_,?_⟩
 .simp only[S1,Cu,Fw,belows,Tm.below,Daa,paa,Uaa,laa,decide_eq_true_eq];exact⟨by omega,si _ _ (Fr.h _),si _ _ (Fr.h _),si _ _ (Fr.h _)⟩
 .simp only[S1,Qab,laa];refine⟨?_,SC⟩;exact ny (by simp only[Daa,kz];omega)
theorem CW{t0:GScope}(hd:t0.Defs.length<=1048576) (hr:t0.Rules.length<=1048576) (hg:∀r∈t0.Rules,r.Guard.length<=1048576/\r.Value.length<=1048576) :
 Den Tryz.prog 228 [Da t0] (vc ((sL t0.Defs.length t0.Rules t0.Rules.length).map λp=>oe p.2)):=by
 refine dk 57 i6 ?_;simp only[i6,Kf.of,zs,ze];refine ss (rg ?_);have hm:sE 24 ([]:List Int) (t0.Defs.length:Int) (t0.Defs.length:Int)=some (gaa t0.Defs.length []):=by
  unfold sE;rw[if_pos ⟨by omega,by omega,by omega,by simp;omega⟩];simp
 obtain⟨f2,f3,f4,f5,f6⟩:=yP (e:=da) hm;(try simp only[zz]);refine ss (rg ?_);(try simp only[zz]at f5 f6);(try simp only[zz,f2,f3,f4,f5]);refine ss (ss (rg ?_));(try simp only[zz,f2,f3,f4,f5]);refine tl (S:=⟨ds 3 (.own 0 0::ds 9 (Cf t0.Rules::aa (t0.Rules.length:Int)::aa 0::ds 42 [])),[.live 1 0 (gaa t0.Defs.length (.v (.slice none 0 0)))]⟩) (tq [ok 1] (by simp only[zg,bg UH])) ?_;refine aF (S:=1) (id:=0) (x:=t0.Defs.length) ?_;rw[bF _ _ _ (oaa _),Hab,List.replicate_zero,Naa];refine T.A0 t0.Rules.length (S1 t0.Defs.length t0.Rules) (At.same _ _ _ (Tc.ru _)) (λi _=>xW) (λi hi=>?_) aR ?_
 .rw[zN];refine ss (rg ?_);simp only[zz];refine ss (cd rfl ?_);simp only[zz];refine gP.mk (λhc=>?_) (λhc=>?_)
  .have hi:i<t0.Rules.length:=by omega
   refine sk ?_;simp only[zz];obtain⟨r,hr1⟩:∃r,r=t0.Rules[i]:=⟨_,rfl⟩;have hidx:idx t0.Rules (i:Int)=some r:=by rw[hr1];simp[idx,hi]
   have g2:t0.Rules[i]?=some r:=by rw[hr1];exact caa hi
   have hrg:=hg r (by rw[hr1];exact iaa hi);have hL:(sL t0.Defs.length t0.Rules i).length=t0.Defs.length:=VJ;have hLs:sL t0.Defs.length t0.Rules (i+1)=yR t0.Defs.length (sL t0.Defs.length t0.Rules i) r:=by rw[QG hi,hr1]
   have hLb:=vI (n:=t0.Defs.length) hg (i:=i) (by omega);generalize hLL:sL t0.Defs.length t0.Rules i=L at hL hLs hLb⊢;obtain⟨E,hE⟩:∃E,E=Rv L:=⟨_,rfl⟩;have hEl:E.length=L.length:=by rw[hE,kz]
   rw[←hE];refine ss (bk (ss (rg ?_)));simp only[zz,g2,Zaa,tp];refine ss (rg ?_);have hol:(Rj 1 L).length=t0.Defs.length:=by rw[cw,hL]
   have hw:ea .i64 ((i:Int)+1)=((i+1:Nat):Int):=by rw[uR ⟨by omega,by omega⟩];omega
   have skipped:¬(0<=r.Def/\r.Def<(t0.Defs.length:Int))->sL t0.Defs.length t0.Rules (i+1)=L:=λh=>by rw[hLs];exact if_neg h
   by_cases h0:0<=r.Def
   .by_cases h1:r.Def<(t0.Defs.length:Int)
    .simp only[zz,g2,Zaa,tp,hol,h0,h1];refine cd rfl ?_;simp only[zz];have hdl:r.Def.toNat<L.length:=by rw[hL];omega
     obtain⟨p,hp⟩:∃p,L[r.Def.toNat]?=some p:=⟨_,caa hdl⟩;have hEd:r.Def.toNat<E.length:=by rw[hEl];exact hdl
     have k0:r.Def.toNat<t0.Defs.length:=by omega
     have k1:(Rj 1 L)[r.Def.toNat]?=some (.own (r.Def.toNat+1) p.1):=by rw[mI,hp,Cab,pac]
     have k2:∀y,(E++[y])[r.Def.toNat]?=some (.live 1 p.1 (p.2.map aa)):=λy=>by
      rw[List.getElem?_append_left hEd,hE];unfold Rv;rw[Aab,hp];rfl
     have k3:∀y e,(E++[y]).set r.Def.toNat e=E.set r.Def.toNat e++[y]:=λy e=>by rw[rad,if_pos hEd]
     have k4:∀e,(Rj 1 L).set r.Def.toNat e=(Rj 1 L).set r.Def.toNat e:=λe=>rfl;have hpb:=hLb p (List.mem_of_getElem? hp);have hDb:=tK (n:=t0.Defs.length) hrg;have k5:(p.2.length+(KV t0.Defs.length r).length)*8<=2 ^ 47:=by
      have:2097152*i<=2097152*1048576:=Xac _ (by omega);omega
     have k6:nN (E.length+1) (r.Def.toNat+1)=true:=BP (by omega);refine ay Es [[],[],[],[],[],[],[],[],[],[],[],[],[2]] (by kernel_rfl) ?_;simp only[zz,zy,hol,h0,h1,k0,k1,k2,k3,k6,Zaa,tp];have hdef:Bd r (t0.Defs.length:Int)=some (KV t0.Defs.length r):=Np hrg _;refine lq (Mo hdef) ?_ (by simp only[zg]);(try simp only[zz]at k5);simp only[zz,zy,hol,h0,h1,k0,k1,k2,k3,k5,k6,Zaa,tp];refine⟨k6,rg ?_⟩;simp only[zz,Kt,hw];refine⟨hi,?_⟩;have hst:yR t0.Defs.length L r=L.set r.Def.toNat (p.1+1,p.2++KV t0.Defs.length r):=by
      unfold yR;rw[if_pos ⟨h0,h1⟩,zD hp]
     have e1:(Rj 1 L).set r.Def.toNat (.own (r.Def.toNat+1) (p.1+1))=Rj 1 (sL t0.Defs.length t0.Rules (i+1)):=by
      rw[hLs,hst,←nI,pac 1]
     have e2:E.set r.Def.toNat (.live 1 (p.1+1) (p.2.map aa++(KV t0.Defs.length r).map aa))=Rv (sL t0.Defs.length t0.Rules (i+1)):=by
      rw[hLs,hst,hE];unfold Rv;rw[List.map_set,aab]
     rw[zN,e1,e2,←Haa];exact At.mk _ _ _ _ (by repeat (first|exact Tc.ru _|refine Tc.cons (Sub.refl _) ?_|refine Tc.cons (Sub.Gy _) ?_))
    .simp only[zz,g2,Zaa,tp,hol,h0,h1];refine cd rfl ?_;simp only[zz];refine sk ?_;simp only[zz];refine rg ?_;simp only[zz,Kt,hw];refine⟨hi,?_⟩;rw[zN,skipped (λh=>h1 h.2),←hE,←Haa];exact At.mk _ _ _ _ (by repeat (first|exact Tc.ru _|refine Tc.cons (Sub.refl _) ?_|refine Tc.cons (Sub.Gy _) ?_))
   .simp only[zz,g2,Zaa,tp,hol,h0];refine cd rfl ?_;simp only[zz];refine sk ?_;simp only[zz];refine rg ?_;simp only[zz,Kt,hw];refine⟨hi,?_⟩;rw[zN,skipped (λh=>h0 h.1),←hE,←Haa];exact At.mk _ _ _ _ (by repeat (first|exact Tc.ru _|refine Tc.cons (Sub.refl _) ?_|refine Tc.cons (Sub.Gy _) ?_))
  .refine xt ?_;simp only[zz,PF];have hi:i=t0.Rules.length:=by omega
   subst hi;exact⟨rfl,At.same _ _ _ (by repeat (first|exact Tc.ru _|refine Tc.cons (Sub.refl _) ?_|refine Tc.cons (Sub.Gy _) ?_))⟩
 .simp only[zz];rw[zN];have hL:(sL t0.Defs.length t0.Rules t0.Rules.length).length=t0.Defs.length:=VJ;have hLb:=vI (n:=t0.Defs.length) hg (i:=t0.Rules.length) (oaa _);generalize sL t0.Defs.length t0.Rules t0.Rules.length=L at hL hLb⊢;have hol:(Rj 1 L).length=t0.Defs.length:=by rw[cw,hL]
  refine ss (ss (rg ?_));simp only[zz,hol];refine T.A0 t0.Defs.length (S2 t0.Defs.length L) ?_ (λj hj=>yW hL hj) (λj hj=>?_) aR ?_
  .rw[LR];exact At.same _ _ _ (by repeat (first|exact Tc.ru _|refine Tc.cons (Sub.refl _) ?_|refine Tc.cons (Sub.Gy _) ?_))
  .rw[LR];refine ss (rg ?_);simp only[zz];refine ss (cd rfl ?_);simp only[zz];refine gP.mk (λhc=>?_) (λhc=>?_)
   .have hj:j<t0.Defs.length:=by omega
    have hjL:j<L.length:=by omega
    obtain⟨p,hp⟩:∃p,p=L[j]:=⟨_,rfl⟩;have hdr:L.drop j=p::L.drop (j+1):=by rw[hp];exact List.drop_eq_getElem_cons hjL
    have hpb:=hLb p (by rw[hp];exact iaa hjL);have hsort:Li p.2=some (oe p.2):=oA (by
     have:2097152*t0.Rules.length<=2097152*1048576:=Xac _ (by omega);omega)
    have hA:(A2 L j).length=j:=by unfold A2;rw[List.length_map,List.length_take];omega
    have hG:(gaa j Ent.gone).length=j:=by simp
    rw[hdr];simp only[Rj,Rv,List.map_cons];obtain⟨B,hB⟩:∃B,B=Rj (1+j+1) (L.drop (j+1)):=⟨_,rfl⟩;obtain⟨F,hF⟩:∃F,F=Rv (L.drop (j+1)):=⟨_,rfl⟩;have hF':(L.drop (j+1)).map (λp=>Ent.live 1 p.1 (p.2.map aa))=F:=by rw[hF];rfl
    rw[←hB,hF',pac 1 j];have hBl:(A2 L j++.own (j+1) p.1::B).length=t0.Defs.length:=by
     rw[Iaa,Daa,hA,hB,cw,Lac];omega
    refine sk ?_;simp only[zz];refine ss (bk (ss (rg ?_)));simp only[zz,hBl,hj,pC hA,qC hA];refine rg ?_;simp only[zz,hBl,hj,pC hA,qC hA];refine rK (Tt hsort) rfl (by simp only[fab];exact pC hG) ?_;simp only[zz,hBl,hj,pC hA,qC hA,qC hG];refine rg ?_;have hw:ea .i64 ((j:Int)+1)=((j+1:Nat):Int):=by rw[uR ⟨by omega,by omega⟩];omega
    simp only[zz,Kt,hw];refine⟨hj,?_⟩;have hA1:A2 L (j+1)=A2 L j++[da (oe p.2)]:=by
     unfold A2;rw[Laa,caa hjL,←hp,vab,aab];rfl
    have e1:A2 L j++.sl 1 ((oe p.2).map aa)::B=A2 L (j+1)++Rj (1+(j+1)) (L.drop (j+1)):=by
     rw[hA1,eab,hB,show 1+j+1=1+(j+1) by omega];rfl
    have e2:gaa j Ent.gone++Ent.gone::F=gaa (j+1) Ent.gone++Rv (L.drop (j+1)):=by
     rw[Jab (n:=j),eab,hF];rfl
    rw[LR,e1,e2];exact At.same _ _ _ (by repeat (first|exact Tc.ru _|refine Tc.cons (Sub.refl _) ?_|refine Tc.cons (Sub.Gy _) ?_))
   .refine xt ?_;simp only[zz,PF];have hj:j=t0.Defs.length:=by omega
    subst hj;exact⟨rfl,At.same _ _ _ (by repeat (first|exact Tc.ru _|refine Tc.cons (Sub.refl _) ?_|refine Tc.cons (Sub.Gy _) ?_))⟩
  .simp only[zz];rw[LR,←hL,List.drop_length];have hA:A2 L L.length=(L.map λp=>oe p.2).map da:=by unfold A2;rw[wab,List.map_map];rfl
   rw[hA];simp only[Rj,Naa];refine T.trim 1 (Bab _) (by simp) ?_ ?_ ?_
   .simp only[Cu,Fw,belows,Tm.below,paa,Uaa,laa,decide_eq_true_eq];exact⟨by omega,by omega,si _ _ (Fr.h _),si _ _ (Fr.h _)⟩
   .simp only[sab,Dac,Qab,List.all_nil,paa];exact zh _ _ (Fr.l _)
   simp only[sab,Dac];refine ss (rg ?_);simp only[zz];exact rt (er (by simp only[zz,zr];exact fq (by simp only[zg])))
theorem xQ{n:Nat}{rs:List GRule}:∀i,i<=rs.length->∀d,d<n->((sL n rs i)[d]?).map (·.2)=some ((((rs.take i).filter λ(r:GRule)=>r.Def==(d:Int)).map (KV n)).flatten)
 |0,_,d,hd=>by simp[sL,hd]
 |i+1,h,d,hd=>by
  have ih:=xQ (n:=n) (rs:=rs) i (by omega) d hd;rw[QG h,Laa,caa h,vab,List.filter_append,aab,List.flatten_append];unfold yR;split
  .rename_i hc;rw[List.getElem?_modify];by_cases hrd:rs[i].Def.toNat=d
   .have he:rs[i].Def=(d:Int):=by omega
    simp only[if_pos hrd,fad]
    cases hx:(sL n rs i)[d]? with
    |none=>rw[hx]at ih;cases ih
    |some p=>
     rw[hx]at ih;simp only[Cab,Maa]at ih;simp[he,ih]
   .have he:(rs[i].Def==(d:Int))=false:=by
     rw[beq_eq_false_iff_ne];intro he;exact hrd (by rw[he];simp)
    simp only[if_neg hrd,fad,Option.map_id'];simp[he,ih]
  .rename_i hc;have he:(rs[i].Def==(d:Int))=false:=by
    rw[beq_eq_false_iff_ne];intro he;exact hc (by omega)
   simp[he,ih]
theorem yU{t0:GScope}:((sL t0.Defs.length t0.Rules t0.Rules.length).map λp=>oe p.2)=Lt t0:=by
 apply List.ext_getElem?;intro d;unfold Lt;rw[Aab,Aab];by_cases hd:d<t0.Defs.length
 .have h:=xQ (n:=t0.Defs.length) (rs:=t0.Rules) t0.Rules.length (oaa _) d hd;rw[wab]at h;rw[List.getElem?_range hd,Cab]
  cases hx:(sL t0.Defs.length t0.Rules t0.Rules.length)[d]? with
  |none=>rw[hx]at h;cases h
  |some p=>
   rw[hx]at h;simp only[Cab,Maa]at h⊢;rw[h];rfl
 .rw[nac (by rw[VJ];omega),nac (by simp;omega)];rfl
theorem Zy{t0:GScope}{r:List (List Int)}(h:Ki t0=some r):Den Tryz.prog 228 [Da t0] (vc r):=by
 have h':=h;unfold Ki at h';split at h'
 .rename_i hc;obtain⟨h1,h2,h3⟩:=hc;have hs:=Rt ⟨h1,h2,h3⟩;rw[h]at hs;obtain rfl:=Faa hs;have:=CW h1 h2 h3;rwa [yU]at this
 .cases h'
instance {t0 r}:Con (Ki t0=some r) (Den Tryz.prog 228 [Da t0] (vc r)):=⟨Zy⟩
instance {t0 t1 r}:Con (Nj t0 t1=some r) (Den Tryz.prog 172 [Da t0,aa t1] (da r)):=⟨λh=>by
 refine dk 16 V4 ?_
 simp only[V4,Kf.of,zs,ze]
 unfold Nj at h
 exact pg trivial (.z 2 (.j 1 (λ(j2:Bool)=>⟨[.k 1,.p 3,.k 9,.s (ba j2),.p 4],[.o 0]⟩) (.b (.t [ok 0]) (.t [ok 0])) .o))⟩
end Go.Proofs.Dev
