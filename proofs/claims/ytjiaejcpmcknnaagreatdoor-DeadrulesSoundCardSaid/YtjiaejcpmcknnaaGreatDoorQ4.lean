/-
  Contracts of the functions: each answers as its plain partial function says.
-/
import Derived.Test.YtjiaejcpmcknnaaGreatDoorK
import Derived.Test.YtjiaejcpmcknnaaGreatDoorG
import Derived.Test.YtjiaejcpmcknnaaGreatDoorPD
import Derived.Test.YtjiaejcpmcknnaaGreatDoorH1
import Derived.Test.YtjiaejcpmcknnaaGreatDoorH2
import Derived.Test.YtjiaejcpmcknnaaGreatDoorQ0
import Derived.Test.YtjiaejcpmcknnaaGreatDoorQ1
import Derived.Test.YtjiaejcpmcknnaaGreatDoorQ2
import Derived.Test.YtjiaejcpmcknnaaGreatDoorQ3
open Bool renaming and_eq_true->Vaa,and_true->Yaa,true_and->Iab
open List renaming all_cons->lac,all_eq_true->Nab,append_assoc->Oab,append_nil->vab,cons_append->nab,eq_of_mem_replicate->Qac,getElem?_concat_length->Aab,getElem?_cons_succ->Wab,getElem?_eq_getElem->Maa,getElem?_eq_none->yad,getElem?_map->gac,getElem_mem->Qaa,length_append->uab,length_cons->sab,length_drop->Tad,length_replicate->Gab,map_append->Tab,mem_map->iac,replicate->Oaa,replicate_succ'->hac,set_append->qad,set_cons_succ->Oac,set_cons_zero->Dac,take_add_one->tab,take_length->Eac,take_succ_cons->Mab,take_zero->Lad
open Nat renaming add_comm->Bac,le_refl->dab,mul_le_mul_left->oae,sub_self->Cac,zero_le->Dab
open Option renaming map_eq_map->Bae,map_some->rac,toList_some->Vab
open Option.some renaming inj->oab,injEq->wab
set_option linter.all false
set_option maxHeartbeats 1000000
set_option maxRecDepth 10000
namespace Go.Proofs.Dev
open Go Go.Tm
instance {t0 r}:Con (Sd t0=some r) (Den Tryz.prog 39 [Wa t0] (.tup [la r.1,la r.2.1,la r.2.2])):=⟨λh=>by
 refine dk 48 k39 ?_
 simp only[k39,Kf.of,zs,ze]
 unfold Sd at h
 exact pg @Hh.eq_1 (.l 4 3 (λ(q:((List Int) × (List Int) × (List Int) × Int))=>⟨[.k 5,.s (.own 0 0),.s (.own 1 0),.s (.own 2 0),.p 4,.s (aa q.2.2.2),.p 36],[.n 1 ((q.1.map aa)),.n 1 ((q.2.1.map aa)),.n 1 ((q.2.2.1.map aa))]⟩) (λ(q:((List Int) × (List Int) × (List Int)))=>⟨[.k 5,.s (.own 0 0),.s (.own 1 0),.s (.own 2 0),.p 2],[.n 1 ((q.1.map aa)),.n 1 ((q.2.1.map aa)),.n 1 ((q.2.2.map aa))]⟩) [on 1,on 1,on 1] (.b (.j 3 (λ(q:((List Int) × (List Int) × (List Int)))=>⟨[.k 5,.p 8],[.c 0 ((q.1.map aa)),.c 1 ((q.2.1.map aa)),.c 2 ((q.2.2.map aa))]⟩) (.b (.t [ov 0 1,ok 1,ok 2]) (.b (.t [ok 0,ov 1 1,ok 2]) (.j 1 (λ(j14:Bool)=>⟨[.k 5,.p 8,.k 19,.s (ba j14),.p 16],[.o 0,.o 1,.o 2,.o 3]⟩) (.b (.t [ok 0,ok 1,ok 2,ok 3]) (.b (.t [ok 0,ok 1,ok 2,ok 3]) (.b (.t [ok 0,ok 1,ok 2,ok 3]) (.t [ok 0,ok 1,ok 2,ok 3])))) (.b (.t [ok 0,ok 1,ov 2 1]) (.t [ok 0,ok 1,ok 2]))))) (.t [ok 0,ok 1,ok 2])) (.t [ok 0,ok 1,ok 2])) .o)⟩
theorem Tq{t0 t1 r} (h:Zd t0 t1=some r):Den Tryz.prog 159 [Za t0,aa t1] (la r):=by
 refine dk 65 k159 ?_
 simp only[k159,Kf.of,zs,ze]
 unfold Zd at h
 exact pg (And.intro @mf.eq_1 @nf.eq_1) (.l 2 1 (λ(q:((List Int) × Int))=>⟨[.k 1,.p 1,.k 3,.s (.own 0 0),.k 4,.p 1,.k 19,.p 2,.s (aa q.2),.p 34],[.n 1 ((q.1.map aa))]⟩) (λ(b14:(List Int))=>⟨[.k 1,.p 1,.k 3,.s (.own 0 0),.k 4,.p 1],[.n 1 ((b14.map aa))]⟩) [on 1] (.b (.j 1 (λ(j11:(List Int))=>⟨[.k 1,.p 32],[.c 0 ((j11.map aa))]⟩) (.z 1 (.j 1 (λ(j8:Bool)=>⟨[.k 1,.p 32,.k 9,.s (ba j8),.p 24],[.o 0]⟩) (.b (.t [ok 0]) (.t [ok 0])) (.b (.t [ov 0 1]) (.t [ok 0])))) (.t [ok 0])) (.t [ok 0])) (.l 2 1 (λ(q:((List Int) × Int))=>⟨[.k 1,.p 9,.k 38,.p 2,.s (aa q.2),.p 16],[.c 0 ((q.1.map aa))]⟩) (λ(b26:(List Int))=>⟨[.k 5,.p 5],[.c 0 ((b26.map aa))]⟩) [ok 0] (.b (.j 1 (λ(j23:(List Int))=>⟨[.k 1,.p 50],[.c 0 ((j23.map aa))]⟩) (.z 1 (.j 1 (λ(j20:Bool)=>⟨[.k 1,.p 50,.k 9,.s (ba j20),.p 6],[.o 0]⟩) (.b (.t [ok 0]) (.t [ok 0])) (.b (.t [ov 0 1]) (.t [ok 0])))) (.t [ok 0])) (.t [ok 0])) .o))
instance {t0 t1 r}:Con (Zd t0 t1=some r) (Den Tryz.prog 159 [Za t0,aa t1] (la r)):=⟨Tq⟩
abbrev LL:=List (Nat×List Int)
def Og:Nat->LL->List D
 |_,[]=>[]
 |k,p::l=>.own k p.1::Og (k+1) l
def xi(L:LL):List Ent:=L.map λp=>.live 1 p.1 (p.2.map aa)
def X4(n:Nat) (r:GRule):List Int:=vE n (Eu Od r.Guard)++vE n (Eu Od r.Value)
def YX(n:Nat) (L:LL) (r:GRule):LL:=if 0<=r.Def/\r.Def<n then L.modify r.Def.toNat (λp=>(p.1+1,p.2++X4 n r))else L
def sL(n:Nat) (rs:List GRule) (i:Nat):LL:=(rs.take i).foldl (YX n) (Oaa n (0,[]))
theorem Cs:∀{L:LL}{k:Nat},(Og k L).length=L.length
 |[],_=>rfl
 |p::l,k=>by simp only[Og,sab,Cs (L:=l)]
theorem TG:∀{L M:LL}{k:Nat},Og k (L++M)=Og k L++Og (k+L.length) M
 |[],M,k=>by simp[Og]
 |p::l,M,k=>by
  simp only[nab,Og,TG (L:=l),sab];rw[show k+1+l.length=k+(l.length+1) by omega]
theorem yB:∀{L:LL}{k d:Nat},(Og k L)[d]?=L[d]?.map (λp=>.own (k+d) p.1)
 |[],_,_=>by simp[Og]
 |p::l,k,0=>by simp[Og]
 |p::l,k,d+1=>by
  simp only[Og,Wab,yB (L:=l)];rw[show k+1+d=k+(d+1) by omega]
theorem UG:∀{L:LL}{k d:Nat}{p:Nat×List Int},(Og k L).set d (.own (k+d) p.1)=Og k (L.set d p)
 |[],_,_,_=>by simp[Og]
 |q::l,k,0,p=>by simp[Og]
 |q::l,k,d+1,p=>by
  simp only[Og,Oac];rw[show k+(d+1)=k+1+d by omega,UG (L:=l)]
theorem au:∀{L:LL}{k j:Nat},k+L.length<=j->belows j (Og k L)=true
 |[],_,_,_=>rfl
 |p::l,k,j,h=>by
  simp only[sab]at h;simp only[Og,belows,Tm.below,Vaa,decide_eq_true_eq];exact⟨by omega,au (by omega)⟩
theorem kn{L:LL}:(xi L).length=L.length:=by simp[xi]
theorem Dw{L:LL}{j:Nat}:(xi L).all (Ent.below j)=true:=by
 rw[Nab];intro e he;obtain⟨p,-,rfl⟩:=iac.1 he;exact Bd _ _ (Fr.l _)
theorem N3{n:Nat}{L:LL}{r:GRule}:(YX n L r).length=L.length:=by
 unfold YX;split<;>simp
theorem uJ{n:Nat}:∀{rs:List GRule}{L:LL},(rs.foldl (YX n) L).length=L.length
 |[],_=>rfl
 |r::rs,L=>by simp only[List.foldl_cons,uJ (rs:=rs),N3]
theorem tP{n:Nat}{rs:List GRule}{i:Nat}:(sL n rs i).length=n:=by unfold sL;rw[uJ];simp
theorem rL{n:Nat}{rs:List GRule}{i:Nat}(h:i<rs.length):sL n rs (i+1)=YX n (sL n rs i) rs[i]:=by
 unfold sL;rw[tab,Maa h,Vab,List.foldl_append];rfl
theorem lQ{n:Int}{l:List Int}:(vE n l).length<=l.length:=List.length_filter_le _ _
theorem TP{n:Nat}{r:GRule}(h:r.Guard.length<=1048576/\r.Value.length<=1048576):(X4 n r).length<=2097152:=by
 unfold X4;have h1:=lQ (n:=n) (l:=Eu Od r.Guard);have h2:=lQ (n:=n) (l:=Eu Od r.Value);have h3:=Em (p:=Od) (e:=r.Guard);have h4:=Em (p:=Od) (e:=r.Value);simp only[uab];omega
theorem CN{n:Nat}{rs:List GRule}(hg:∀r∈rs,r.Guard.length<=1048576/\r.Value.length<=1048576):∀{i:Nat},i<=rs.length->∀p∈sL n rs i,p.2.length<=2097152*i:=by
 intro i
 induction i with
 |zero=>
  intro _ p hp;simp only[sL,Lad,List.foldl_nil,List.mem_replicate]at hp;rw[hp.2];simp
 |succ i ih=>
  intro h p hp;have ih:=ih (Nat.le_of_succ_le h);have hD:=TP (n:=n) (hg rs[i] (Qaa h));have hs:2097152*(i+1)=2097152*i+2097152:=Nat.mul_succ _ _;rw[rL h]at hp;unfold YX at hp;split at hp
  .obtain⟨d,hd,rfl⟩:=List.getElem_of_mem hp;have hd':d<(sL n rs i).length:=by simpa using hd
   have h1:=ih _ (Qaa hd');rw[List.getElem_modify];split
   .simp only[uab];omega
   .omega
  .have:=ih p hp;omega
theorem bJ(t:List D) (n:Nat):∀x,x<=n->Lu 1 0 x ⟨t,[.live 1 0 (Oaa n (.v (.slice none 0 0)))]⟩=⟨t,.live 1 0 (Og 1 (Oaa x (0,[]))++Oaa (n-x) (.v (.slice none 0 0)))::xi (Oaa x (0,[]))⟩
 |0,_=>by simp[Lu,Og,xi]
 |x+1,h=>by
  rw[Lu,bJ t n x (by omega)];unfold zF;simp only[List.getElem?_cons_zero];have hl:(Og 1 (Oaa x ((0:Nat),([]:List Int)))).length=x:=by rw[Cs];simp
  rw[List.getElem?_append_right (by omega),hl,Cac,List.getElem?_replicate,if_pos (by omega)];simp only[Dac,sab,kn,Gab,nab,St.mk.injEq,true_and,List.cons.injEq,Ent.live.injEq];refine⟨?_,?_⟩
  .rw[qad,if_neg (by omega),hl,Cac,hac (n:=x),TG,Oab];congr 1;obtain⟨k,hk⟩:∃k,n-x=k+1:=⟨n-x-1,by omega⟩;rw[hk,List.replicate_succ,Dac,show n-(x+1)=k by omega,Gab];simp only[Og,nab,List.nil_append];rw[Bac 1 x]
  .rw[hac (n:=x)];simp[xi]
theorem PD{n:Nat}:ia (Oaa n (.v (.slice none 0 0)))=true:=cj.2 λd hd=>by rw[Qac hd];rfl
def S1(n:Nat) (rs:List GRule) (i:Nat):St:=⟨ds 3 (.own 0 0::ds 9 (ue rs::aa (rs.length:Int)::aa (i:Int)::ds 42 [])),.live 1 0 (Og 1 (sL n rs i))::xi (sL n rs i)⟩
theorem HT{n:Nat}{rs:List GRule}{i:Nat}:S1 n rs i=⟨ds 3 (.own 0 0::ds 9 (ue rs::aa (rs.length:Int)::aa (i:Int)::ds 42 [])),.live 1 0 (Og 1 (sL n rs i))::xi (sL n rs i)⟩:=Eq.trans rfl rfl
theorem Fp{α:Type}{l:List α}{x y:α}:(l++[x]).set l.length y=l++[y]:=by simp
theorem LK:∀{a b:Nat},a≠b->yQ a b=true
 |0,0,h=>(h rfl).elim
 |0,_+1,_=>rfl
 |_+1,0,_=>rfl
 |a+1,b+1,h=>LK (a:=a) (b:=b) λe=>h (by rw[e])
theorem PG{α:Type}{f:α->α}:∀{l:List α}{d:Nat}{p:α},l[d]?=some p->l.modify d f=l.set d (f p)
 |[],_,_,h=>by simp at h
 |a::l,0,p,h=>by simp at h;subst h;simp
 |a::l,d+1,p,h=>by simp only[List.modify_succ_cons,Oac];rw[PG (by simpa using h)]
def A2(L:LL) (j:Nat):List D:=(L.take j).map λp=>la (Wc p.2)
def S2(n:Nat) (L:LL) (j:Nat):St:=⟨ds 3 (.own 0 0::ds 40 (.own 0 0::aa (n:Int)::aa (j:Int)::ds 11 [])),.live 1 0 (A2 L j++Og (1+j) (L.drop j))::(Oaa j .gone++xi (L.drop j))⟩
theorem pY{n:Nat}{L:LL}{j:Nat}:S2 n L j=⟨ds 3 (.own 0 0::ds 40 (.own 0 0::aa (n:Int)::aa (j:Int)::ds 11 [])),.live 1 0 (A2 L j++Og (1+j) (L.drop j))::(Oaa j .gone++xi (L.drop j))⟩:=Eq.trans rfl rfl
theorem aY{L:LL}{j:Nat}:ia (A2 L j)=true:=by
 refine cj.2 λd hd=>?_;obtain⟨p,-,rfl⟩:=iac.1 hd;exact Fr.h _
theorem E6{n:Nat}{L:LL}{j:Nat}(h:L.length=n) (hj:j<=n):Fit 0 (S2 n L j):=by
 refine⟨Dab _,?_,?_⟩
 .simp only[S2,Yn,gp,belows,Tm.below,sab,Yaa,Iab,Vaa,decide_eq_true_eq];exact⟨by omega,by omega,La _ _ (Fr.h _),La _ _ (Fr.h _)⟩
 .simp only[S2,lac,List.all_append,Vaa];refine⟨?_,?_,Dw⟩
  .refine uY (Bd _ _ aY) (au ?_);simp only[sab,uab,Gab,kn,Tad];omega
  .rw[Nab];intro e he;rw[Qac he];rfl
theorem pF{α:Type}{A B:List α}{x:α}{j:Nat}(h:A.length=j):(A++x::B)[j]?=some x:=by subst h;simp
theorem qF{α:Type}{A B:List α}{x y:α}{j:Nat}(h:A.length=j):(A++x::B).set j y=A++y::B:=by subst h;simp
theorem D6{n:Nat}{rs:List GRule}{i:Nat}:Fit 0 (S1 n rs i):=by
 refine⟨Dab _,?_,?_⟩
 .simp only[S1,Yn,gp,belows,Tm.below,sab,Yaa,Iab,Vaa,decide_eq_true_eq];exact⟨by omega,La _ _ (Fr.h _),La _ _ (Fr.h _),La _ _ (Fr.h _)⟩
 .simp only[S1,lac,Vaa];refine⟨?_,Dw⟩;exact au (by simp only[sab,kn];omega)
theorem H6{t0:GScope}(hd:t0.Defs.length<=1048576) (hr:t0.Rules.length<=1048576) (hg:∀r∈t0.Rules,r.Guard.length<=1048576/\r.Value.length<=1048576) :
 Den Tryz.prog 121 [Ea t0] (Eb ((sL t0.Defs.length t0.Rules t0.Rules.length).map λp=>Wc p.2)):=by
 refine dk 57 k121 ?_;simp only[k121,Kf.of,zs,ze];refine ss (rg ?_);have hm:Az 24 ([]:List Int) (t0.Defs.length:Int) (t0.Defs.length:Int)=some (Oaa t0.Defs.length []):=by
  unfold Az;rw[if_pos ⟨by omega,by omega,by omega,by simp;omega⟩];simp
 obtain⟨f2,f3,f4,f5,f6⟩:=iN (e:=la) hm;(try simp only[zz]);refine ss (rg ?_);(try simp only[zz]at f5 f6);(try simp only[zz,f2,f3,f4,f5]);refine ss (ss (rg ?_));(try simp only[zz,f2,f3,f4,f5]);refine tl (S:=⟨ds 3 (.own 0 0::ds 9 (ue t0.Rules::aa (t0.Rules.length:Int)::aa 0::ds 42 [])),[.live 1 0 (Oaa t0.Defs.length (.v (.slice none 0 0)))]⟩) (tq [ok 1] (by simp only[zg,Tg PD])) ?_;refine rC (S:=1) (id:=0) (x:=t0.Defs.length) ?_;rw[bJ _ _ _ (dab _),Cac,List.replicate_zero,vab];refine T.Z6 t0.Rules.length (S1 t0.Defs.length t0.Rules) (At.same _ _ _ (va.qc _)) (λi _=>D6) (λi hi=>?_) Jy ?_
 .rw[HT];refine ss (rg ?_);simp only[zz];refine ss (cd rfl ?_);simp only[zz];refine gP.mk (λhc=>?_) (λhc=>?_)
  .have hi:i<t0.Rules.length:=by omega
   refine sk ?_;simp only[zz];obtain⟨r,hr1⟩:∃r,r=t0.Rules[i]:=⟨_,rfl⟩;have hidx:idx t0.Rules (i:Int)=some r:=by rw[hr1];simp[idx,hi]
   have g2:t0.Rules[i]?=some r:=by rw[hr1];exact Maa hi
   have hrg:=hg r (by rw[hr1];exact Qaa hi);have hL:(sL t0.Defs.length t0.Rules i).length=t0.Defs.length:=tP;have hLs:sL t0.Defs.length t0.Rules (i+1)=YX t0.Defs.length (sL t0.Defs.length t0.Rules i) r:=by rw[rL hi,hr1]
   have hLb:=CN (n:=t0.Defs.length) hg (i:=i) (by omega);generalize hLL:sL t0.Defs.length t0.Rules i=L at hL hLs hLb⊢;obtain⟨E,hE⟩:∃E,E=xi L:=⟨_,rfl⟩;have hEl:E.length=L.length:=by rw[hE,kn]
   rw[←hE];refine ss (bk (ss (rg ?_)));simp only[zz,g2,Aab,Fp];refine ss (rg ?_);have hol:(Og 1 L).length=t0.Defs.length:=by rw[Cs,hL]
   have hw:ca .i64 ((i:Int)+1)=((i+1:Nat):Int):=by rw[Bu ⟨by omega,by omega⟩];omega
   have skipped:¬(0<=r.Def/\r.Def<(t0.Defs.length:Int))->sL t0.Defs.length t0.Rules (i+1)=L:=λh=>by rw[hLs];exact if_neg h
   by_cases h0:0<=r.Def
   .by_cases h1:r.Def<(t0.Defs.length:Int)
    .simp only[zz,g2,Aab,Fp,hol,h0,h1];refine cd rfl ?_;simp only[zz];have hdl:r.Def.toNat<L.length:=by rw[hL];omega
     obtain⟨p,hp⟩:∃p,L[r.Def.toNat]?=some p:=⟨_,Maa hdl⟩;have hEd:r.Def.toNat<E.length:=by rw[hEl];exact hdl
     have k0:r.Def.toNat<t0.Defs.length:=by omega
     have k1:(Og 1 L)[r.Def.toNat]?=some (.own (r.Def.toNat+1) p.1):=by rw[yB,hp,rac,Bac]
     have k2:∀y,(E++[y])[r.Def.toNat]?=some (.live 1 p.1 (p.2.map aa)):=λy=>by
      rw[List.getElem?_append_left hEd,hE];unfold xi;rw[gac,hp];rfl
     have k3:∀y e,(E++[y]).set r.Def.toNat e=E.set r.Def.toNat e++[y]:=λy e=>by rw[qad,if_pos hEd]
     have k4:∀e,(Og 1 L).set r.Def.toNat e=(Og 1 L).set r.Def.toNat e:=λe=>rfl;have hpb:=hLb p (List.mem_of_getElem? hp);have hDb:=TP (n:=t0.Defs.length) hrg;have k5:(p.2.length+(X4 t0.Defs.length r).length)*8<=2 ^ 47:=by
      have:2097152*i<=2097152*1048576:=oae _ (by omega);omega
     have k6:yQ (E.length+1) (r.Def.toNat+1)=true:=LK (by omega);refine ay Ho [[],[],[],[],[],[],[],[],[],[],[],[],[2]] (by kernel_rfl) ?_;simp only[zz,zy,hol,h0,h1,k0,k1,k2,k3,k6,Aab,Fp];have hdef:Zd r (t0.Defs.length:Int)=some (X4 t0.Defs.length r):=Vr hrg _;refine lq (Tq hdef) ?_ (by simp only[zg]);(try simp only[zz]at k5);simp only[zz,zy,hol,h0,h1,k0,k1,k2,k3,k5,k6,Aab,Fp];refine⟨k6,rg ?_⟩;simp only[zz,It,hw];refine⟨hi,?_⟩;have hst:YX t0.Defs.length L r=L.set r.Def.toNat (p.1+1,p.2++X4 t0.Defs.length r):=by
      unfold YX;rw[if_pos ⟨h0,h1⟩,PG hp]
     have e1:(Og 1 L).set r.Def.toNat (.own (r.Def.toNat+1) (p.1+1))=Og 1 (sL t0.Defs.length t0.Rules (i+1)):=by
      rw[hLs,hst,←UG,Bac 1]
     have e2:E.set r.Def.toNat (.live 1 (p.1+1) (p.2.map aa++(X4 t0.Defs.length r).map aa))=xi (sL t0.Defs.length t0.Rules (i+1)):=by
      rw[hLs,hst,hE];unfold xi;rw[List.map_set,Tab]
     rw[HT,e1,e2,←nab];exact At.mk _ _ _ _ (by repeat (first|exact va.qc _|refine va.cons (Sub.refl _) ?_|refine va.cons (Sub.lb _) ?_))
    .simp only[zz,g2,Aab,Fp,hol,h0,h1];refine cd rfl ?_;simp only[zz];refine sk ?_;simp only[zz];refine rg ?_;simp only[zz,It,hw];refine⟨hi,?_⟩;rw[HT,skipped (λh=>h1 h.2),←hE,←nab];exact At.mk _ _ _ _ (by repeat (first|exact va.qc _|refine va.cons (Sub.refl _) ?_|refine va.cons (Sub.lb _) ?_))
   .simp only[zz,g2,Aab,Fp,hol,h0];refine cd rfl ?_;simp only[zz];refine sk ?_;simp only[zz];refine rg ?_;simp only[zz,It,hw];refine⟨hi,?_⟩;rw[HT,skipped (λh=>h0 h.1),←hE,←nab];exact At.mk _ _ _ _ (by repeat (first|exact va.qc _|refine va.cons (Sub.refl _) ?_|refine va.cons (Sub.lb _) ?_))
  .refine xt ?_;simp only[zz,WE];have hi:i=t0.Rules.length:=by omega
   subst hi;exact⟨rfl,At.same _ _ _ (by repeat (first|exact va.qc _|refine va.cons (Sub.refl _) ?_|refine va.cons (Sub.lb _) ?_))⟩
 .simp only[zz];rw[HT];have hL:(sL t0.Defs.length t0.Rules t0.Rules.length).length=t0.Defs.length:=tP;have hLb:=CN (n:=t0.Defs.length) hg (i:=t0.Rules.length) (dab _);generalize sL t0.Defs.length t0.Rules t0.Rules.length=L at hL hLb⊢;have hol:(Og 1 L).length=t0.Defs.length:=by rw[Cs,hL]
  refine ss (ss (rg ?_));simp only[zz,hol];refine T.Z6 t0.Defs.length (S2 t0.Defs.length L) ?_ (λj hj=>E6 hL hj) (λj hj=>?_) Jy ?_
  .rw[pY];exact At.same _ _ _ (by repeat (first|exact va.qc _|refine va.cons (Sub.refl _) ?_|refine va.cons (Sub.lb _) ?_))
  .rw[pY];refine ss (rg ?_);simp only[zz];refine ss (cd rfl ?_);simp only[zz];refine gP.mk (λhc=>?_) (λhc=>?_)
   .have hj:j<t0.Defs.length:=by omega
    have hjL:j<L.length:=by omega
    obtain⟨p,hp⟩:∃p,p=L[j]:=⟨_,rfl⟩;have hdr:L.drop j=p::L.drop (j+1):=by rw[hp];exact List.drop_eq_getElem_cons hjL
    have hpb:=hLb p (by rw[hp];exact Qaa hjL);have hsort:Ch p.2=some (Wc p.2):=Qv (by
     have:2097152*t0.Rules.length<=2097152*1048576:=oae _ (by omega);omega)
    have hA:(A2 L j).length=j:=by unfold A2;rw[List.length_map,List.length_take];omega
    have hG:(Oaa j Ent.gone).length=j:=by simp
    rw[hdr];simp only[Og,xi,List.map_cons];obtain⟨B,hB⟩:∃B,B=Og (1+j+1) (L.drop (j+1)):=⟨_,rfl⟩;obtain⟨F,hF⟩:∃F,F=xi (L.drop (j+1)):=⟨_,rfl⟩;have hF':(L.drop (j+1)).map (λp=>Ent.live 1 p.1 (p.2.map aa))=F:=by rw[hF];rfl
    rw[←hB,hF',Bac 1 j];have hBl:(A2 L j++.own (j+1) p.1::B).length=t0.Defs.length:=by
     rw[uab,sab,hA,hB,Cs,Tad];omega
    refine sk ?_;simp only[zz];refine ss (bk (ss (rg ?_)));simp only[zz,hBl,hj,pF hA,qF hA];refine rg ?_;simp only[zz,hBl,hj,pF hA,qF hA];refine QP (Pv hsort) rfl (by simp only[Wab];exact pF hG) ?_;simp only[zz,hBl,hj,pF hA,qF hA,qF hG];refine rg ?_;have hw:ca .i64 ((j:Int)+1)=((j+1:Nat):Int):=by rw[Bu ⟨by omega,by omega⟩];omega
    simp only[zz,It,hw];refine⟨hj,?_⟩;have hA1:A2 L (j+1)=A2 L j++[la (Wc p.2)]:=by
     unfold A2;rw[tab,Maa hjL,←hp,Vab,Tab];rfl
    have e1:A2 L j++.sl 1 ((Wc p.2).map aa)::B=A2 L (j+1)++Og (1+(j+1)) (L.drop (j+1)):=by
     rw[hA1,Oab,hB,show 1+j+1=1+(j+1) by omega];rfl
    have e2:Oaa j Ent.gone++Ent.gone::F=Oaa (j+1) Ent.gone++xi (L.drop (j+1)):=by
     rw[hac (n:=j),Oab,hF];rfl
    rw[pY,e1,e2];exact At.same _ _ _ (by repeat (first|exact va.qc _|refine va.cons (Sub.refl _) ?_|refine va.cons (Sub.lb _) ?_))
   .refine xt ?_;simp only[zz,WE];have hj:j=t0.Defs.length:=by omega
    subst hj;exact⟨rfl,At.same _ _ _ (by repeat (first|exact va.qc _|refine va.cons (Sub.refl _) ?_|refine va.cons (Sub.lb _) ?_))⟩
  .simp only[zz];rw[pY,←hL,List.drop_length];have hA:A2 L L.length=(L.map λp=>Wc p.2).map la:=by unfold A2;rw[Eac,List.map_map];rfl
   rw[hA];simp only[Og,vab];refine T.trim 1 (Dab _) (by simp) ?_ ?_ ?_
   .simp only[Yn,gp,belows,Tm.below,Yaa,Iab,Vaa,decide_eq_true_eq];exact⟨by omega,by omega,La _ _ (Fr.h _),La _ _ (Fr.h _)⟩
   .simp only[Mab,Lad,lac,List.all_nil,Yaa];exact Bd _ _ (Fr.l _)
   simp only[Mab,Lad];refine ss (rg ?_);simp only[zz];exact rt (er (by simp only[zz,zr];exact fq (by simp only[zg])))
theorem MW{n:Nat}{rs:List GRule}:∀i,i<=rs.length->∀d,d<n->((sL n rs i)[d]?).map (·.2)=some ((((rs.take i).filter λ(r:GRule)=>r.Def==(d:Int)).map (X4 n)).flatten)
 |0,_,d,hd=>by simp[sL,hd]
 |i+1,h,d,hd=>by
  have ih:=MW (n:=n) (rs:=rs) i (by omega) d hd;rw[rL h,tab,Maa h,Vab,List.filter_append,Tab,List.flatten_append];unfold YX;split
  .rename_i hc;rw[List.getElem?_modify];by_cases hrd:rs[i].Def.toNat=d
   .have he:rs[i].Def=(d:Int):=by omega
    simp only[if_pos hrd,Bae]
    cases hx:(sL n rs i)[d]? with
    |none=>rw[hx]at ih;cases ih
    |some p=>
     rw[hx]at ih;simp only[rac,wab]at ih;simp[he,ih]
   .have he:(rs[i].Def==(d:Int))=false:=by
     rw[beq_eq_false_iff_ne];intro he;exact hrd (by rw[he];simp)
    simp only[if_neg hrd,Bae,Option.map_id'];simp[he,ih]
  .rename_i hc;have he:(rs[i].Def==(d:Int))=false:=by
    rw[beq_eq_false_iff_ne];intro he;exact hc (by omega)
   simp[he,ih]
theorem C2{t0:GScope}:((sL t0.Defs.length t0.Rules t0.Rules.length).map λp=>Wc p.2)=Tp t0:=by
 apply List.ext_getElem?;intro d;unfold Tp;rw[gac,gac];by_cases hd:d<t0.Defs.length
 .have h:=MW (n:=t0.Defs.length) (rs:=t0.Rules) t0.Rules.length (dab _) d hd;rw[Eac]at h;rw[List.getElem?_range hd,rac]
  cases hx:(sL t0.Defs.length t0.Rules t0.Rules.length)[d]? with
  |none=>rw[hx]at h;cases h
  |some p=>
   rw[hx]at h;simp only[rac,wab]at h⊢;rw[h];rfl
 .rw[yad (by rw[tP];omega),yad (by simp;omega)];rfl
theorem Nu{t0:GScope}{r:List (List Int)}(h:wc t0=some r):Den Tryz.prog 121 [Ea t0] (Eb r):=by
 have h':=h;unfold wc at h';split at h'
 .rename_i hc;obtain⟨h1,h2,h3⟩:=hc;have hs:=Xn ⟨h1,h2,h3⟩;rw[h]at hs;obtain rfl:=oab hs;have:=H6 h1 h2 h3;rwa [C2]at this
 .cases h'
instance {t0 r}:Con (wc t0=some r) (Den Tryz.prog 121 [Ea t0] (Eb r)):=⟨Nu⟩
end Go.Proofs.Dev
