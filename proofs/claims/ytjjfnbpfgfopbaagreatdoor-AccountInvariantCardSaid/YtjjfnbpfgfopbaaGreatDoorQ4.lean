/-
  Contracts of the functions: each answers as its plain partial function says.
-/
import Derived.Test.YtjjfnbpfgfopbaaGreatDoorK
import Derived.Test.YtjjfnbpfgfopbaaGreatDoorG
import Derived.Test.YtjjfnbpfgfopbaaGreatDoorPE
import Derived.Test.YtjjfnbpfgfopbaaGreatDoorH1
import Derived.Test.YtjjfnbpfgfopbaaGreatDoorH2
import Derived.Test.YtjjfnbpfgfopbaaGreatDoorL1
import Derived.Test.YtjjfnbpfgfopbaaGreatDoorQ0
import Derived.Test.YtjjfnbpfgfopbaaGreatDoorQ1
import Derived.Test.YtjjfnbpfgfopbaaGreatDoorQ2
import Derived.Test.YtjjfnbpfgfopbaaGreatDoorQ3
open Bool renaming and_eq_true->Caa
open List renaming all_cons->Gab,all_eq_true->Yaa,append_assoc->Saa,append_nil->Xaa,cons_append->Iaa,eq_of_mem_replicate->Cac,getElem?_concat_length->Waa,getElem?_eq_getElem->qaa,getElem?_map->pac,length_cons->uaa,mem_map->fab,replicate->raa,replicate_succ'->Uab,set_cons_succ->jac,take_add_one->Uaa,take_succ_cons->Aab,take_zero->nad
open Nat renaming add_comm->rad,le_refl->Haa,sub_self->yac,zero_le->sab
open Option renaming map_some->uac
open Option.some renaming inj->Raa,injEq->aab
set_option linter.all false
set_option maxHeartbeats 1000000
set_option maxRecDepth 10000
namespace Go.Proofs.Dev
open Go Go.Tm
instance zI119{t0 r}:Con (ef t0=some r) (Den Tryz.prog 199 [Zh t0] (.tup [ua r.1,ua r.2.1,ua r.2.2])):=⟨λh=>by
 refine dk 48 k199 ?_
 simp only[k199,Kf.of,zs,ze]
 unfold ef at h
 exact pg @th.eq_1 (.l 4 3 (λ(q:((List Int) × (List Int) × (List Int) × Int))=>⟨[.k 5,.s (.own 0 0),.s (.own 1 0),.s (.own 2 0),.p 4,.s (aa q.2.2.2),.p 36],[.n 1 ((q.1.map aa)),.n 1 ((q.2.1.map aa)),.n 1 ((q.2.2.1.map aa))]⟩) (λ(q:((List Int) × (List Int) × (List Int)))=>⟨[.k 5,.s (.own 0 0),.s (.own 1 0),.s (.own 2 0),.p 2],[.n 1 ((q.1.map aa)),.n 1 ((q.2.1.map aa)),.n 1 ((q.2.2.map aa))]⟩) [on 1,on 1,on 1] (.b (.j 3 (λ(q:((List Int) × (List Int) × (List Int)))=>⟨[.k 5,.p 8],[.c 0 ((q.1.map aa)),.c 1 ((q.2.1.map aa)),.c 2 ((q.2.2.map aa))]⟩) (.b (.t [ov 0 1,ok 1,ok 2]) (.b (.t [ok 0,ov 1 1,ok 2]) (.j 1 (λ(j14:Bool)=>⟨[.k 5,.p 8,.k 19,.s (ba j14),.p 16],[.o 0,.o 1,.o 2,.o 3]⟩) (.b (.t [ok 0,ok 1,ok 2,ok 3]) (.b (.t [ok 0,ok 1,ok 2,ok 3]) (.b (.t [ok 0,ok 1,ok 2,ok 3]) (.t [ok 0,ok 1,ok 2,ok 3])))) (.b (.t [ok 0,ok 1,ov 2 1]) (.t [ok 0,ok 1,ok 2]))))) (.t [ok 0,ok 1,ok 2])) (.t [ok 0,ok 1,ok 2])) .o)⟩
theorem Cp{t0 t1 r} (h:ie t0 t1=some r):Den Tryz.prog 219 [gb t0,aa t1] (ua r):=by
 refine dk 65 k219 ?_
 simp only[k219,Kf.of,zs,ze]
 unfold ie at h
 exact pg (And.intro @sf.eq_1 @tf.eq_1) (.l 2 1 (λ(q:((List Int) × Int))=>⟨[.k 1,.p 1,.k 3,.s (.own 0 0),.k 4,.p 1,.k 19,.p 2,.s (aa q.2),.p 34],[.n 1 ((q.1.map aa))]⟩) (λ(b14:(List Int))=>⟨[.k 1,.p 1,.k 3,.s (.own 0 0),.k 4,.p 1],[.n 1 ((b14.map aa))]⟩) [on 1] (.b (.j 1 (λ(j11:(List Int))=>⟨[.k 1,.p 32],[.c 0 ((j11.map aa))]⟩) (.z 1 (.j 1 (λ(j8:Bool)=>⟨[.k 1,.p 32,.k 9,.s (ba j8),.p 24],[.o 0]⟩) (.b (.t [ok 0]) (.t [ok 0])) (.b (.t [ov 0 1]) (.t [ok 0])))) (.t [ok 0])) (.t [ok 0])) (.l 2 1 (λ(q:((List Int) × Int))=>⟨[.k 1,.p 9,.k 38,.p 2,.s (aa q.2),.p 16],[.c 0 ((q.1.map aa))]⟩) (λ(b26:(List Int))=>⟨[.k 5,.p 5],[.c 0 ((b26.map aa))]⟩) [ok 0] (.b (.j 1 (λ(j23:(List Int))=>⟨[.k 1,.p 50],[.c 0 ((j23.map aa))]⟩) (.z 1 (.j 1 (λ(j20:Bool)=>⟨[.k 1,.p 50,.k 9,.s (ba j20),.p 6],[.o 0]⟩) (.b (.t [ok 0]) (.t [ok 0])) (.b (.t [ov 0 1]) (.t [ok 0])))) (.t [ok 0])) (.t [ok 0])) .o))
instance zI120{t0 t1 r}:Con (ie t0 t1=some r) (Den Tryz.prog 219 [gb t0,aa t1] (ua r)):=⟨Cp⟩
abbrev LL:=List (Nat×List Int)
def owns:Nat->LL->List D
 |_,[]=>[]
 |k,p::l=>.own k p.1::owns (k+1) l
def Lc(L:LL):List Ent:=L.map λp=>.live 1 p.1 (p.2.map aa)
def L5(n:Nat) (r:GRule):List Int:=FC n (EA Zj r.Guard)++FC n (EA Zj r.Value)
def FX(n:Nat) (L:LL) (r:GRule):LL:=if 0<=r.Def/\r.Def<n then L.modify r.Def.toNat (λp=>(p.1+1,p.2++L5 n r))else L
def sL(n:Nat) (rs:List GRule) (i:Nat):LL:=(rs.take i).foldl (FX n) (raa n (0,[]))
theorem Uq:∀{L:LL}{k:Nat},(owns k L).length=L.length
 |[],_=>rfl
 |p::l,k=>by simp only[owns,uaa,Uq (L:=l)]
theorem YE:∀{L M:LL}{k:Nat},owns k (L++M)=owns k L++owns (k+L.length) M
 |[],M,k=>by simp[owns]
 |p::l,M,k=>by
  simp only[Iaa,owns,YE (L:=l),uaa]
  grind
theorem gA:∀{L:LL}{k d:Nat},(owns k L)[d]?=L[d]?.map (λp=>.own (k+d) p.1)
 |[],_,_=>by simp[owns]
 |p::l,k,0=>by simp[owns]
 |p::l,k,d+1=>by
  simp only[owns,List.getElem?_cons_succ,gA (L:=l)]
  grind
theorem ZE:∀{L:LL}{k d:Nat}{p:Nat×List Int},(owns k L).set d (.own (k+d) p.1)=owns k (L.set d p)
 |[],_,_,_=>by simp[owns]
 |q::l,k,0,p=>by simp[owns]
 |q::l,k,d+1,p=>by
  simp only[owns,jac];rw[show k+(d+1)=k+1+d by omega,ZE (L:=l)]
theorem Ks:∀{L:LL}{k j:Nat},k+L.length<=j->belows j (owns k L)=true
 |[],_,_,_=>rfl
 |p::l,k,j,h=>by
  simp only[uaa]at h;simp only[owns,belows,Tm.below,Caa,decide_eq_true_eq];exact⟨by omega,Ks (by omega)⟩
theorem um{L:LL}:(Lc L).length=L.length:=by simp[Lc]
theorem qv{L:LL}{j:Nat}:(Lc L).all (Ent.below j)=true:=by
 rw[Yaa];intro e he;obtain⟨p,-,rfl⟩:=fab.1 he;exact Ib _ _ (Fr.l _)
theorem T3{n:Nat}{L:LL}{r:GRule}:(FX n L r).length=L.length:=by
 grind[FX]
theorem iH{n:Nat}:∀{rs:List GRule}{L:LL},(rs.foldl (FX n) L).length=L.length
 |[],_=>rfl
 |r::rs,L=>by simp only[List.foldl_cons,iH (rs:=rs),T3]
theorem AN{n:Nat}{rs:List GRule}{i:Nat}:(sL n rs i).length=n:=by grind[sL,iH]
theorem XI{n:Nat}{rs:List GRule}{i:Nat}(h:i<rs.length):sL n rs (i+1)=FX n (sL n rs i) rs[i]:=by
 grind[sL,Uaa]
theorem uZ{n:Int}{l:List Int}:(FC n l).length<=l.length:=List.length_filter_le _ _
theorem mO{n:Nat}{r:GRule}(h:r.Guard.length<=1048576/\r.Value.length<=1048576):(L5 n r).length<=2097152:=by
 grind[L5,uZ,ox]
theorem ZK{n:Nat}{rs:List GRule}(hg:∀r∈rs,r.Guard.length<=1048576/\r.Value.length<=1048576):∀{i:Nat},i<=rs.length->∀p∈sL n rs i,p.2.length<=2097152*i:=by
 intro i
 induction i with
 |zero=>
  grind[sL]
 |succ i ih=>
  intro h p hp;have ih:=ih (Nat.le_of_succ_le h);have hD:=mO (n:=n) (hg rs[i] (List.getElem_mem h));have hs:2097152*(i+1)=2097152*i+2097152:=Nat.mul_succ _ _;rw[XI h]at hp;unfold FX at hp;split at hp
  .obtain⟨d,hd,rfl⟩:=List.getElem_of_mem hp
   grind
  grind
theorem LG(t:List D) (n:Nat):∀x,x<=n->vt 1 0 x ⟨t,[.live 1 0 (raa n (.v (.slice none 0 0)))]⟩=⟨t,.live 1 0 (owns 1 (raa x (0,[]))++raa (n-x) (.v (.slice none 0 0)))::Lc (raa x (0,[]))⟩
 |0,_=>by simp[vt,owns,Lc]
 |x+1,h=>by
  rw[vt,LG t n x (by omega)];unfold FD;simp only[List.getElem?_cons_zero];have hl:(owns 1 (raa x ((0:Nat),([]:List Int)))).length=x:=by grind[Uq]
  rw[List.getElem?_append_right (by omega),hl,yac,List.getElem?_replicate,if_pos (by omega)];simp only[List.set_cons_zero,uaa,um,List.length_replicate,Iaa,St.mk.injEq,true_and,List.cons.injEq,Ent.live.injEq];refine⟨?_,?_⟩
  .rw[List.set_append,if_neg (by omega),hl,yac,Uab (n:=x),YE,Saa];congr 1;obtain⟨k,hk⟩:∃k,n-x=k+1:=⟨n-x-1,by omega⟩
   grind[owns]
  grind[Lc,Uab]
theorem YB{n:Nat}:fa (raa n (.v (.slice none 0 0)))=true:=Ci.2 λd hd=>by rw[Cac hd];rfl
def S1(n:Nat) (rs:List GRule) (i:Nat):St:=⟨ds 3 (.own 0 0::ds 9 (Ye rs::aa (rs.length:Int)::aa (i:Int)::ds 42 [])),.live 1 0 (owns 1 (sL n rs i))::Lc (sL n rs i)⟩
theorem MS{n:Nat}{rs:List GRule}{i:Nat}:S1 n rs i=⟨ds 3 (.own 0 0::ds 9 (Ye rs::aa (rs.length:Int)::aa (i:Int)::ds 42 [])),.live 1 0 (owns 1 (sL n rs i))::Lc (sL n rs i)⟩:=Eq.trans rfl rfl
theorem MI:∀{a b:Nat},a≠b->EK a b=true
 |0,0,h=>(h rfl).elim
 |0,_+1,_=>rfl
 |_+1,0,_=>rfl
 |a+1,b+1,h=>MI (a:=a) (b:=b) λe=>h (by rw[e])
theorem UE{α:Type}{f:α->α}:∀{l:List α}{d:Nat}{p:α},l[d]?=some p->l.modify d f=l.set d (f p)
 |[],_,_,h=>by simp
 |a::l,0,p,h=>by simp_all
 |a::l,d+1,p,h=>by simp only[List.modify_succ_cons,jac];rw[UE (by simpa using h)]
def A2(L:LL) (j:Nat):List D:=(L.take j).map λp=>ua (Ig p.2)
def S2(n:Nat) (L:LL) (j:Nat):St:=⟨ds 3 (.own 0 0::ds 40 (.own 0 0::aa (n:Int)::aa (j:Int)::ds 11 [])),.live 1 0 (A2 L j++owns (1+j) (L.drop j))::(raa j .gone++Lc (L.drop j))⟩
theorem WX{n:Nat}{L:LL}{j:Nat}:S2 n L j=⟨ds 3 (.own 0 0::ds 40 (.own 0 0::aa (n:Int)::aa (j:Int)::ds 11 [])),.live 1 0 (A2 L j++owns (1+j) (L.drop j))::(raa j .gone++Lc (L.drop j))⟩:=Eq.trans rfl rfl
theorem GX{L:LL}{j:Nat}:fa (A2 L j)=true:=by
 refine Ci.2 λd hd=>?_;obtain⟨p,-,rfl⟩:=fab.1 hd;exact Fr.h _
theorem o7{n:Nat}{L:LL}{j:Nat}(h:L.length=n) (hj:j<=n):Fit 0 (S2 n L j):=by
 refine⟨sab _,?_,?_⟩
 .simp_all[S2,belows,Tm.below,mj,uk,kc,Fr.h]
 .simp only[S2,Gab,List.all_append,Caa];refine⟨?_,?_,qv⟩
  .refine mY (Ib _ _ GX) (Ks ?_)
   grind[um]
  .rw[Yaa];intro e he;rw[Cac he];rfl
theorem LI{α:Type}{A B:List α}{x:α}{j:Nat}(h:A.length=j):(A++x::B)[j]?=some x:=by simp_all
theorem pD{α:Type}{A B:List α}{x y:α}{j:Nat}(h:A.length=j):(A++x::B).set j y=A++y::B:=by simp_all
theorem n7{n:Nat}{rs:List GRule}{i:Nat}:Fit 0 (S1 n rs i):=by
 refine⟨sab _,?_,?_⟩
 .simp_all[S1,belows,Tm.below,mj,uk,kc,Fr.h]
 .simp only[S1,Gab,Caa];refine⟨?_,qv⟩;exact Ks (by grind[um])
theorem w7{t0:GScope}(hd:t0.Defs.length<=1048576) (hr:t0.Rules.length<=1048576) (hg:∀r∈t0.Rules,r.Guard.length<=1048576/\r.Value.length<=1048576) :
 Den Tryz.prog 198 [Ma t0] (xc ((sL t0.Defs.length t0.Rules t0.Rules.length).map λp=>Ig p.2)):=by
 refine dk 57 k198 ?_;simp only[k198,Kf.of,zs,ze];refine ss (rg ?_);have hm:Nw 24 ([]:List Int) (t0.Defs.length:Int) (t0.Defs.length:Int)=some (raa t0.Defs.length []):=by
  grind[Nw]
 obtain⟨f2,f3,f4,f5,f6⟩:=CK (e:=ua) hm;(try simp only[zz]);refine ss (rg ?_);(try simp only[zz]at f5 f6);(try simp only[zz,f2,f3,f4,f5]);refine ss (ss (rg ?_));(try simp only[zz,f2,f3,f4,f5]);refine tl (S:=⟨ds 3 (.own 0 0::ds 9 (Ye t0.Rules::aa (t0.Rules.length:Int)::aa 0::ds 42 [])),[.live 1 0 (raa t0.Defs.length (.v (.slice none 0 0)))]⟩) (tq [ok 1] (by simp_all[zg,Og,YB])) ?_;refine IA (S:=1) (id:=0) (x:=t0.Defs.length) ?_;rw[LG _ _ _ (Haa _),yac,List.replicate_zero,Xaa];refine T.YP t0.Rules.length (S1 t0.Defs.length t0.Rules) (At.same _ _ _ (pa.qb _)) (λi _=>n7) (λi hi=>?_) Us ?_
 .rw[MS];refine ss (rg ?_);simp only[zz];refine ss (cd rfl ?_);simp only[zz];refine gP.mk (λhc=>?_) (λhc=>?_)
  .have hi:i<t0.Rules.length:=by omega
   refine sk ?_;simp only[zz];obtain⟨r,hr1⟩:∃r,r=t0.Rules[i]:=⟨_,rfl⟩;have hidx:idx t0.Rules (i:Int)=some r:=by grind[idx]
   have g2:t0.Rules[i]?=some r:=by simp_all
   have hrg:=hg r (by simp_all);have hL:(sL t0.Defs.length t0.Rules i).length=t0.Defs.length:=AN;have hLs:sL t0.Defs.length t0.Rules (i+1)=FX t0.Defs.length (sL t0.Defs.length t0.Rules i) r:=by grind[XI]
   have hLb:=ZK (n:=t0.Defs.length) hg (i:=i) (by omega);generalize hLL:sL t0.Defs.length t0.Rules i=L at hL hLs hLb⊢;obtain⟨E,hE⟩:∃E,E=Lc L:=⟨_,rfl⟩;have hEl:E.length=L.length:=by rw[hE,um]
   rw[←hE];refine ss (bk (ss (rg ?_)));simp only[zz,g2,Waa,Ih];refine ss (rg ?_);have hol:(owns 1 L).length=t0.Defs.length:=by rw[Uq,hL]
   have hw:ca .i64 ((i:Int)+1)=((i+1:Nat):Int):=by grind[Xs]
   have skipped:¬(0<=r.Def/\r.Def<(t0.Defs.length:Int))->sL t0.Defs.length t0.Rules (i+1)=L:=λh=>by rw[hLs];exact if_neg h
   by_cases h0:0<=r.Def
   .by_cases h1:r.Def<(t0.Defs.length:Int)
    .simp only[zz,g2,Waa,Ih,hol,h0,h1];refine cd rfl ?_;simp only[zz];have hdl:r.Def.toNat<L.length:=by omega
     obtain⟨p,hp⟩:∃p,L[r.Def.toNat]?=some p:=⟨_,qaa hdl⟩;have hEd:r.Def.toNat<E.length:=by omega
     have k0:r.Def.toNat<t0.Defs.length:=by omega
     have k1:(owns 1 L)[r.Def.toNat]?=some (.own (r.Def.toNat+1) p.1):=by grind[gA]
     have k2:∀y,(E++[y])[r.Def.toNat]?=some (.live 1 p.1 (p.2.map aa)):=λy=>by
      grind[Lc]
     have k3:∀y e,(E++[y]).set r.Def.toNat e=E.set r.Def.toNat e++[y]:=λy e=>by simp_all
     have k4:∀e,(owns 1 L).set r.Def.toNat e=(owns 1 L).set r.Def.toNat e:=λe=>rfl;have hpb:=hLb p (List.mem_of_getElem? hp);have hDb:=mO (n:=t0.Defs.length) hrg;have k5:(p.2.length+(L5 t0.Defs.length r).length)*8<=2 ^ 47:=by
      omega
     have k6:EK (E.length+1) (r.Def.toNat+1)=true:=MI (by omega);refine ay Yt [[],[],[],[],[],[],[],[],[],[],[],[],[2]] (by kernel_rfl) ?_;simp only[zz,zy,hol,h0,h1,k0,k1,k2,k3,k6,Waa,Ih];have hdef:ie r (t0.Defs.length:Int)=some (L5 t0.Defs.length r):=Gq hrg _;refine lq (Cp hdef) ?_ (by simp only[zg]);(try simp only[zz]at k5);simp only[zz,zy,hol,h0,h1,k0,k1,k2,k3,k5,k6,Waa,Ih];refine⟨k6,rg ?_⟩;simp only[zz,uj,hw];refine⟨hi,?_⟩;have hst:FX t0.Defs.length L r=L.set r.Def.toNat (p.1+1,p.2++L5 t0.Defs.length r):=by
      unfold FX;rw[if_pos ⟨h0,h1⟩,UE hp]
     have e1:(owns 1 L).set r.Def.toNat (.own (r.Def.toNat+1) (p.1+1))=owns 1 (sL t0.Defs.length t0.Rules (i+1)):=by
      rw[hLs,hst,←ZE,rad 1]
     have e2:E.set r.Def.toNat (.live 1 (p.1+1) (p.2.map aa++(L5 t0.Defs.length r).map aa))=Lc (sL t0.Defs.length t0.Rules (i+1)):=by
      grind[Lc,List.map_set]
     rw[MS,e1,e2,←Iaa];exact At.mk _ _ _ _ (by repeat (first|exact pa.qb _|refine pa.cons (Sub.refl _) ?_|refine pa.cons (Sub.Ka _) ?_))
    .simp only[zz,g2,Waa,Ih,hol,h0,h1];refine cd rfl ?_;simp only[zz];refine sk ?_;simp only[zz];refine rg ?_;simp only[zz,uj,hw];refine⟨hi,?_⟩;rw[MS,skipped (λh=>h1 h.2),←hE,←Iaa];exact At.mk _ _ _ _ (by repeat (first|exact pa.qb _|refine pa.cons (Sub.refl _) ?_|refine pa.cons (Sub.Ka _) ?_))
   .simp only[zz,g2,Waa,Ih,hol,h0];refine cd rfl ?_;simp only[zz];refine sk ?_;simp only[zz];refine rg ?_;simp only[zz,uj,hw];refine⟨hi,?_⟩;rw[MS,skipped (λh=>h0 h.1),←hE,←Iaa];exact At.mk _ _ _ _ (by repeat (first|exact pa.qb _|refine pa.cons (Sub.refl _) ?_|refine pa.cons (Sub.Ka _) ?_))
  .refine xt ?_;simp only[zz,Yu];have hi:i=t0.Rules.length:=by omega
   subst hi;exact⟨rfl,At.same _ _ _ (by repeat (first|exact pa.qb _|refine pa.cons (Sub.refl _) ?_|refine pa.cons (Sub.Ka _) ?_))⟩
 .simp only[zz];rw[MS];have hL:(sL t0.Defs.length t0.Rules t0.Rules.length).length=t0.Defs.length:=AN;have hLb:=ZK (n:=t0.Defs.length) hg (i:=t0.Rules.length) (Haa _);generalize sL t0.Defs.length t0.Rules t0.Rules.length=L at hL hLb⊢;have hol:(owns 1 L).length=t0.Defs.length:=by rw[Uq,hL]
  refine ss (ss (rg ?_));simp only[zz,hol];refine T.YP t0.Defs.length (S2 t0.Defs.length L) ?_ (λj hj=>o7 hL hj) (λj hj=>?_) Us ?_
  .rw[WX];exact At.same _ _ _ (by repeat (first|exact pa.qb _|refine pa.cons (Sub.refl _) ?_|refine pa.cons (Sub.Ka _) ?_))
  .rw[WX];refine ss (rg ?_);simp only[zz];refine ss (cd rfl ?_);simp only[zz];refine gP.mk (λhc=>?_) (λhc=>?_)
   .have hj:j<t0.Defs.length:=by omega
    have hjL:j<L.length:=by omega
    obtain⟨p,hp⟩:∃p,p=L[j]:=⟨_,rfl⟩;have hdr:L.drop j=p::L.drop (j+1):=by simp_all
    have hpb:=hLb p (by simp_all);have hsort:rh p.2=some (Ig p.2):=uu (by
     omega)
    have hA:(A2 L j).length=j:=by grind[A2]
    have hG:(raa j Ent.gone).length=j:=by simp
    rw[hdr];simp only[owns,Lc,List.map_cons];obtain⟨B,hB⟩:∃B,B=owns (1+j+1) (L.drop (j+1)):=⟨_,rfl⟩;obtain⟨F,hF⟩:∃F,F=Lc (L.drop (j+1)):=⟨_,rfl⟩;have hF':(L.drop (j+1)).map (λp=>Ent.live 1 p.1 (p.2.map aa))=F:=by rw[hF];rfl
    rw[←hB,hF',rad 1 j];have hBl:(A2 L j++.own (j+1) p.1::B).length=t0.Defs.length:=by
     grind[Uq]
    refine sk ?_;simp only[zz];refine ss (bk (ss (rg ?_)));simp only[zz,hBl,hj,LI hA,pD hA];refine rg ?_;simp only[zz,hBl,hj,LI hA,pD hA];refine jO (tu hsort) rfl (by simp) ?_;simp only[zz,hBl,hj,LI hA,pD hA,pD hG];refine rg ?_;have hw:ca .i64 ((j:Int)+1)=((j+1:Nat):Int):=by grind[Xs]
    simp only[zz,uj,hw];refine⟨hj,?_⟩;have hA1:A2 L (j+1)=A2 L j++[ua (Ig p.2)]:=by
     grind[A2]
    have e1:A2 L j++.sl 1 ((Ig p.2).map aa)::B=A2 L (j+1)++owns (1+(j+1)) (L.drop (j+1)):=by
     rw[hA1,Saa,hB,show 1+j+1=1+(j+1) by omega];rfl
    have e2:raa j Ent.gone++Ent.gone::F=raa (j+1) Ent.gone++Lc (L.drop (j+1)):=by
     grind[Uab]
    rw[WX,e1,e2];exact At.same _ _ _ (by repeat (first|exact pa.qb _|refine pa.cons (Sub.refl _) ?_|refine pa.cons (Sub.Ka _) ?_))
   .refine xt ?_;simp only[zz,Yu];have hj:j=t0.Defs.length:=by omega
    subst hj;exact⟨rfl,At.same _ _ _ (by repeat (first|exact pa.qb _|refine pa.cons (Sub.refl _) ?_|refine pa.cons (Sub.Ka _) ?_))⟩
  .simp only[zz];rw[WX,←hL,List.drop_length];have hA:A2 L L.length=(L.map λp=>Ig p.2).map ua:=by simp[A2]
   rw[hA];simp only[owns,Xaa];refine T.trim 1 (sab _) (by simp) ?_ ?_ ?_
   .simp_all[belows,Tm.below,mj,uk,kc,Fr.h]
   .simp only[Aab,nad,Gab,List.all_nil,Bool.and_true];exact Ib _ _ (Fr.l _)
   simp only[Aab,nad];refine ss (rg ?_);simp only[zz];exact rt (er (by simp only[zz,zr];exact fq (by simp only[zg])))
theorem kW{n:Nat}{rs:List GRule}:∀i,i<=rs.length->∀d,d<n->((sL n rs i)[d]?).map (·.2)=some ((((rs.take i).filter λ(r:GRule)=>r.Def==(d:Int)).map (L5 n)).flatten)
 |0,_,d,hd=>by grind[sL]
 |i+1,h,d,hd=>by
  have ih:=kW (n:=n) (rs:=rs) i (by omega) d hd;rw[XI h,Uaa,qaa h,Option.toList_some,List.filter_append,List.map_append,List.flatten_append]
  grind[FX]
theorem B2{t0:GScope}:((sL t0.Defs.length t0.Rules t0.Rules.length).map λp=>Ig p.2)=Jo t0:=by
 apply List.ext_getElem?;intro d;unfold Jo;rw[pac,pac];by_cases hd:d<t0.Defs.length
 .have h:=kW (n:=t0.Defs.length) (rs:=t0.Rules) t0.Rules.length (Haa _) d hd;rw[List.take_length]at h;rw[List.getElem?_range hd,uac]
  cases hx:(sL t0.Defs.length t0.Rules t0.Rules.length)[d]? with
  |none=>simp_all
  |some p=>
   rw[hx]at h;simp only[uac,aab]at h⊢;rw[h];rfl
 grind[AN]
theorem Ct{t0:GScope}{r:List (List Int)}(h:tc t0=some r):Den Tryz.prog 198 [Ma t0] (xc r):=by
 have h':=h;unfold tc at h';split at h'
 .rename_i hc;obtain⟨h1,h2,h3⟩:=hc;have hs:=dn ⟨h1,h2,h3⟩;rw[h]at hs;obtain rfl:=Raa hs
  grind[w7,B2]
 simp_all
instance zI121{t0 r}:Con (tc t0=some r) (Den Tryz.prog 198 [Ma t0] (xc r)):=⟨Ct⟩
end Go.Proofs.Dev
