/-
  Contracts of the functions: each answers as its plain partial function says.
-/
import Derived.Test.YtjjfnbpfgfopbaaGreatDoorK
import Derived.Test.YtjjfnbpfgfopbaaGreatDoorG
import Derived.Test.YtjjfnbpfgfopbaaGreatDoorPE
import Derived.Test.YtjjfnbpfgfopbaaGreatDoorH1
import Derived.Test.YtjjfnbpfgfopbaaGreatDoorH2
import Derived.Test.YtjjfnbpfgfopbaaGreatDoorL1
import Derived.Test.YtjjfnbpfgfopbaaGreatDoorQ0
import Derived.Test.YtjjfnbpfgfopbaaGreatDoorQ1
import Derived.Test.YtjjfnbpfgfopbaaGreatDoorQ2
import Derived.Test.YtjjfnbpfgfopbaaGreatDoorQ3
open Bool renaming and_eq_true->zaa,and_true->sac
open List renaming all_append->cad,all_cons->Kab,all_eq_true->Xaa,all_nil->yad,append_assoc->Oaa,append_nil->Taa,cons_append->Gaa,eq_of_mem_replicate->Iac,ext_getElem->fac,getElem?_append_right->tab,getElem?_concat_length->Uaa,getElem?_cons_succ->Rab,getElem?_cons_zero->Yaa,getElem?_eq_getElem->naa,getElem?_map->vac,getElem?_replicate->Oac,getElem_mem->taa,length_cons->qaa,length_filter_le->cab,length_replicate->Zab,map_append->uab,map_set->dad,mem_map->Paa,mem_of_getElem?->Lab,replicate->oaa,replicate_succ'->cac,replicate_zero->mad,set_append->Kac,set_cons_succ->qac,set_cons_zero->Cac,take_add_one->Raa,take_succ_cons->yab,take_zero->xad
open List.cons renaming injEq->Iad
open Nat renaming add_comm->Aad,le_refl->Haa,sub_self->Dac,zero_le->qab
open Option renaming map_some->zac
open Option.some renaming inj->Iaa,injEq->Vaa
set_option linter.all false
set_option maxHeartbeats 1000000
set_option maxRecDepth 10000
namespace Go.Proofs.Dev
open Go Go.Tm
variable {j n i d w:Nat}{rs:List GRule}{l out:List Int}{α:Type}{x:α}{y:Nat×List Int×Nat}{A B:List α}{t0:GScope}{F:Nat->List Int}{g:List (List Int)}
instance RR:C1 k199 Ef:=pg (And.intro (And.intro k199.eq_1 Ef.eq_1) Th.eq_1) (.l 4 3 (EN [40,3,11,19,33,26,289] [260,268,276]) (EN [40,3,11,19,17] [260,268,276]) [5,5,5] (.z 2 (.j 3 (EN [40,65] [2,266,530]) (.b (.t [256,4,8]) (.b (.t [0,260,8]) (.j 1 (EN [40,65,152,2,129] [0,8,16,24]) .o (.b (.t [0,4,264]) .o)))) .o)) .o)
instance Px:C2 k219 ue:=pg (And.intro (And.intro k219.eq_1 ue.eq_1) (And.intro Nf.eq_1 Of.eq_1)) (.l 2 1 (EN [8,9,24,3,32,9,152,17,10,273] [260]) (EN [8,9,24,3,32,9] [260]) [5] (.z 2 (.j 1 (EN [8,257] [2]) (.z 1 (.j 1 (EN [8,257,72,2,193] [0]) .o (.b (.t [256]) .o))) .o)) (.l 2 1 (EN [8,73,304,17,10,129] [2]) (EN [40,41] [2]) [] (.z 2 (.j 1 (EN [8,401] [2]) (.z 1 (.j 1 (EN [8,401,72,2,49] [0]) .o (.b (.t [256]) .o))) .o)) .o))
theorem jx{t0 t1 r} (h:ue t0 t1=some r):Den Tryz.prog 219 [Jf t0,ca t1] (Xa r):=Px.h h
abbrev LL:=List (Nat×List Int)
variable {L:LL}
def owns:Nat->LL->List D
 |_,[]=>[]
 |k,p::l=>.own k p.1::owns (k+1) l
def Yc(L:LL):List Ent:=L.map λp=>.live 1 p.1 (p.2.map ca)
def dOf(n:Nat) (r:GRule):List Int:=cE n (XB Hk r.Guard)++cE n (XB Hk r.Value)
def o7(n:Nat) (L:LL) (r:GRule):LL:=if 0<=r.Def/\r.Def<n then L.modify r.Def.toNat (λp=>(p.1+1,p.2++dOf n r))else L
def sL(n:Nat) (rs:List GRule) (i:Nat):LL:=(rs.take i).foldl (o7 n) (oaa n (0,[]))
theorem Fs:∀{L:LL}{k:Nat},(owns k L).length=L.length
 |[],_=>rfl
 |p::l,k=>by simp only[owns,qaa,Fs (L:=l)]
theorem IG:∀{L M:LL}{k:Nat},owns k (L++M)=owns k L++owns (k+L.length) M
 |[],M,k=>by simp[owns]
 |p::l,M,k=>by
  simp only[Gaa,owns,IG (L:=l),qaa]
  grind
theorem vB:∀{L:LL}{k d:Nat},(owns k L)[d]?=L[d]?.map (λp=>.own (k+d) p.1)
 |[],_,_=>by simp[owns]
 |p::l,k,0=>by simp[owns]
 |p::l,k,d+1=>by
  simp only[owns,Rab,vB (L:=l)]
  grind
theorem JG:∀{L:LL}{k d:Nat}{p:Nat×List Int},(owns k L).set d (.own (k+d) p.1)=owns k (L.set d p)
 |[],_,_,_=>by simp[owns]
 |q::l,k,0,p=>by simp[owns]
 |q::l,k,d+1,p=>by
  simp only[owns,qac];rw[show k+(d+1)=k+1+d by omega,JG (L:=l)]
theorem ju:∀{L:LL}{k j:Nat},k+L.length<=j->belows j (owns k L)=true
 |[],_,_,_=>rfl
 |p::l,k,j,h=>by
  simp only[qaa]at h;simp only[owns,belows,Tm.below,zaa,decide_eq_true_eq];exact⟨by omega,ju (by omega)⟩
theorem Yj:(Yc L).length=L.length:=by simp[Yc]
theorem Ru:(Yc L).all (Ent.below j)=true:=by
 rw[Xaa];intro e he;obtain⟨p,-,rfl⟩:=Paa.1 he;exact Cb _ _ (Fr.l _)
theorem stL_len{r:GRule}:(o7 n L r).length=L.length:=by
 grind[o7]
theorem WI{n:Nat}:∀{rs:List GRule}{L:LL},(rs.foldl (o7 n) L).length=L.length
 |[],_=>rfl
 |r::rs,L=>by simp only[List.foldl_cons,WI (rs:=rs),stL_len]
theorem HQ:(sL n rs i).length=n:=by grind[sL,WI]
theorem UK(h:i<rs.length):sL n rs (i+1)=o7 n (sL n rs i) rs[i]:=by
 grind[sL,Raa]
theorem daa{n:Int}:(cE n l).length<=l.length:=cab _ _
theorem CR{r:GRule}(h:r.Guard.length<=1048576/\r.Value.length<=1048576):(dOf n r).length<=2097152:=by
 grind[dOf,daa,Ky]
theorem NN(hg:∀r∈rs,r.Guard.length<=1048576/\r.Value.length<=1048576):∀{i:Nat},i<=rs.length->∀p∈sL n rs i,p.2.length<=2097152*i:=by
 intro i
 induction i with
 |zero=>
  grind[sL]
 |succ i ih=>
  intro h p hp;have ih:=ih (Nat.le_of_succ_le h);have hD:=CR (n:=n) (hg rs[i] (taa h));have hs:2097152*(i+1)=2097152*i+2097152:=Nat.mul_succ _ _;rw[UK h]at hp;unfold o7 at hp;split at hp
  .obtain⟨d,hd,rfl⟩:=List.getElem_of_mem hp
   grind
  grind
theorem wI(t:List D) (n:Nat):∀x,x<=n->Ju 1 0 x ⟨t,[.live 1 0 (oaa n (.v (.slice none 0 0)))]⟩=⟨t,.live 1 0 (owns 1 (oaa x (0,[]))++oaa (n-x) (.v (.slice none 0 0)))::Yc (oaa x (0,[]))⟩
 |0,_=>by simp[Ju,owns,Yc]
 |x+1,h=>by
  rw[Ju,wI t n x (by omega)];unfold dF;simp only[Yaa];have hl:(owns 1 (oaa x ((0:Nat),([]:List Int)))).length=x:=by grind[Fs]
  rw[tab (by omega),hl,Dac,Oac,if_pos (by omega)];simp only[Cac,qaa,Yj,Zab,Gaa,St.mk.injEq,true_and,Iad,Ent.live.injEq];refine⟨?_,?_⟩
  .rw[Kac,if_neg (by omega),hl,Dac,cac (n:=x),IG,Oaa];congr 1;obtain⟨k,hk⟩:∃k,n-x=k+1:=⟨n-x-1,by omega⟩
   grind[owns]
  grind[Yc,cac]
theorem CD:fa (oaa n (.v (.slice none 0 0)))=true:=aj.2 λd hd=>by rw[Iac hd];rfl
def S1(n:Nat) (rs:List GRule) (i:Nat):St:=⟨ds 3 (.own 0 0::ds 9 (Wj rs::ca (rs.length:Int)::ca (i:Int)::ds 42 [])),.live 1 0 (owns 1 (sL n rs i))::Yc (sL n rs i)⟩
theorem NX:S1 n rs i=⟨ds 3 (.own 0 0::ds 9 (Wj rs::ca (rs.length:Int)::ca (i:Int)::ds 42 [])),.live 1 0 (owns 1 (sL n rs i))::Yc (sL n rs i)⟩:=Eq.trans rfl rfl
theorem rp{l:List α}{y:α}:(l++[x]).set l.length y=l++[y]:=by simp
theorem GK:∀{a b:Nat},a≠b->lN a b=true
 |0,0,h=>(h rfl).elim
 |0,_+1,_=>rfl
 |_+1,0,_=>rfl
 |a+1,b+1,h=>GK (a:=a) (b:=b) λe=>h (by rw[e])
theorem BG{α:Type}{f:α->α}:∀{l:List α}{d:Nat}{p:α},l[d]?=some p->l.modify d f=l.set d (f p)
 |[],_,_,h=>by simp
 |a::l,0,p,h=>by simp_all
 |a::l,d+1,p,h=>by simp only[List.modify_succ_cons,qac];rw[BG (by simpa using h)]
def A2(L:LL) (j:Nat):List D:=(L.take j).map λp=>Xa (wg p.2)
def S2(n:Nat) (L:LL) (j:Nat):St:=⟨ds 3 (.own 0 0::ds 40 (.own 0 0::ca (n:Int)::ca (j:Int)::ds 11 [])),.live 1 0 (A2 L j++owns (1+j) (L.drop j))::(oaa j .gone++Yc (L.drop j))⟩
theorem P7:S2 n L j=⟨ds 3 (.own 0 0::ds 40 (.own 0 0::ca (n:Int)::ca (j:Int)::ds 11 [])),.live 1 0 (A2 L j++owns (1+j) (L.drop j))::(oaa j .gone++Yc (L.drop j))⟩:=Eq.trans rfl rfl
theorem v7:fa (A2 L j)=true:=by
 refine aj.2 λd hd=>?_;obtain⟨p,-,rfl⟩:=Paa.1 hd;exact Fr.h _
theorem S2_fit(h:L.length=n) (hj:j<=n):Fit 0 (S2 n L j):=by
 refine⟨qab _,?_,?_⟩
 .simp_all[S2,belows,Tm.below,Ij,Sk,cc,Fr.h]
 .simp only[S2,Kab,cad,zaa];refine⟨?_,?_,Ru⟩
  .refine o8 (Cb _ _ v7) (ju ?_)
   grind[Yj]
  .rw[Xaa];intro e he;rw[Iac he];rfl
theorem FK(h:A.length=j):(A++x::B)[j]?=some x:=by simp_all
theorem ME{y:α}(h:A.length=j):(A++x::B).set j y=A++y::B:=by simp_all
theorem S1_fit:Fit 0 (S1 n rs i):=by
 refine⟨qab _,?_,?_⟩
 .simp_all[S1,belows,Tm.below,Ij,Sk,cc,Fr.h]
 .simp only[S1,Kab,zaa];refine⟨?_,Ru⟩;exact ju (by grind[Yj])
theorem allD_T(hd:t0.Defs.length<=1048576) (hr:t0.Rules.length<=1048576) (hg:∀r∈t0.Rules,r.Guard.length<=1048576/\r.Value.length<=1048576) :
 Den Tryz.prog 198 [ee t0] (Oc ((sL t0.Defs.length t0.Rules t0.Rules.length).map λp=>wg p.2)):=by
 refine dk 57 k198 ?_;simp only[k198,Kf.of,zs,ze];refine ss (rg ?_);have hm:py 24 ([]:List Int) (t0.Defs.length:Int) (t0.Defs.length:Int)=some (oaa t0.Defs.length []):=by
  grind[py]
 obtain⟨f2,f3,f4,f5,f6⟩:=jN (e:=Xa) hm;(try simp only[zz]);refine ss (rg ?_);(try simp only[zz]at f5 f6);(try simp only[zz,f2,f3,f4,f5]);refine ss (ss (rg ?_));(try simp only[zz,f2,f3,f4,f5]);refine tl (S:=⟨ds 3 (.own 0 0::ds 9 (Wj t0.Rules::ca (t0.Rules.length:Int)::ca 0::ds 42 [])),[.live 1 0 (oaa t0.Defs.length (.v (.slice none 0 0)))]⟩) (tq [ok 1] (by simp_all[zg,ph,CD])) ?_;refine iC (S:=1) (id:=0) (x:=t0.Defs.length) ?_;rw[wI _ _ _ (Haa _),Dac,mad,Taa];refine T.lU t0.Rules.length (S1 t0.Defs.length t0.Rules) (At.same _ _ _ (la.pb _)) (λi _=>S1_fit) (λi hi=>?_) uu ?_
 .rw[NX];refine ss (rg ?_);simp only[zz];refine ss (cd rfl ?_);simp only[zz];refine gP.mk (λhc=>?_) (λhc=>?_)
  .have hi:i<t0.Rules.length:=by omega
   refine sk ?_;simp only[zz];obtain⟨r,hr1⟩:∃r,r=t0.Rules[i]:=⟨_,rfl⟩;have hidx:idx t0.Rules (i:Int)=some r:=by grind[idx]
   have g2:t0.Rules[i]?=some r:=by simp_all
   have hrg:=hg r (by simp_all);have hL:(sL t0.Defs.length t0.Rules i).length=t0.Defs.length:=HQ;have hLs:sL t0.Defs.length t0.Rules (i+1)=o7 t0.Defs.length (sL t0.Defs.length t0.Rules i) r:=by grind[UK]
   have hLb:=NN (n:=t0.Defs.length) hg (i:=i) (by omega);generalize hLL:sL t0.Defs.length t0.Rules i=L at hL hLs hLb⊢;obtain⟨E,hE⟩:∃E,E=Yc L:=⟨_,rfl⟩;have hEl:E.length=L.length:=by rw[hE,Yj]
   rw[←hE];refine ss (bk (ss (rg ?_)));simp only[zz,g2,Uaa,rp];refine ss (rg ?_);have hol:(owns 1 L).length=t0.Defs.length:=by rw[Fs,hL]
   have hw:aa .i64 ((i:Int)+1)=((i+1:Nat):Int):=by grind[zu]
   have skipped:¬(0<=r.Def/\r.Def<(t0.Defs.length:Int))->sL t0.Defs.length t0.Rules (i+1)=L:=λh=>by rw[hLs];exact if_neg h
   by_cases h0:0<=r.Def
   .by_cases h1:r.Def<(t0.Defs.length:Int)
    .simp only[zz,g2,Uaa,rp,hol,h0,h1];refine cd rfl ?_;simp only[zz];have hdl:r.Def.toNat<L.length:=by omega
     obtain⟨p,hp⟩:∃p,L[r.Def.toNat]?=some p:=⟨_,naa hdl⟩;have hEd:r.Def.toNat<E.length:=by omega
     have k0:r.Def.toNat<t0.Defs.length:=by omega
     have k1:(owns 1 L)[r.Def.toNat]?=some (.own (r.Def.toNat+1) p.1):=by grind[vB]
     have k2:∀y,(E++[y])[r.Def.toNat]?=some (.live 1 p.1 (p.2.map ca)):=λy=>by
      grind[Yc]
     have k3:∀y e,(E++[y]).set r.Def.toNat e=E.set r.Def.toNat e++[y]:=λy e=>by simp_all
     have k4:∀e,(owns 1 L).set r.Def.toNat e=(owns 1 L).set r.Def.toNat e:=λe=>rfl;have hpb:=hLb p (Lab hp);have hDb:=CR (n:=t0.Defs.length) hrg;have k5:(p.2.length+(dOf t0.Defs.length r).length)*8<=2 ^ 47:=by
      omega
     have k6:lN (E.length+1) (r.Def.toNat+1)=true:=GK (by omega);refine ay Hw [[],[],[],[],[],[],[],[],[],[],[],[],[2]] (by kernel_rfl) ?_;simp only[zz,zy,hol,h0,h1,k0,k1,k2,k3,k6,Uaa,rp];have hdef:ue r (t0.Defs.length:Int)=some (dOf t0.Defs.length r):=Tr hrg _;refine lq (jx hdef) ?_ (by simp only[zg]);(try simp only[zz]at k5);simp only[zz,zy,hol,h0,h1,k0,k1,k2,k3,k5,k6,Uaa,rp];refine⟨k6,rg ?_⟩;simp only[zz,Pj,hw];refine⟨hi,?_⟩;have hst:o7 t0.Defs.length L r=L.set r.Def.toNat (p.1+1,p.2++dOf t0.Defs.length r):=by
      unfold o7;rw[if_pos ⟨h0,h1⟩,BG hp]
     have e1:(owns 1 L).set r.Def.toNat (.own (r.Def.toNat+1) (p.1+1))=owns 1 (sL t0.Defs.length t0.Rules (i+1)):=by
      rw[hLs,hst,←JG,Aad 1]
     have e2:E.set r.Def.toNat (.live 1 (p.1+1) (p.2.map ca++(dOf t0.Defs.length r).map ca))=Yc (sL t0.Defs.length t0.Rules (i+1)):=by
      grind[Yc,dad]
     rw[NX,e1,e2,←Gaa];exact At.mk _ _ _ _ (by repeat (first|exact la.pb _|refine la.cons (Sub.refl _) ?_|refine la.cons (Sub.Ia _) ?_))
    .simp only[zz,g2,Uaa,rp,hol,h0,h1];refine cd rfl ?_;simp only[zz];refine sk ?_;simp only[zz];refine rg ?_;simp only[zz,Pj,hw];refine⟨hi,?_⟩;rw[NX,skipped (λh=>h1 h.2),←hE,←Gaa];exact At.mk _ _ _ _ (by repeat (first|exact la.pb _|refine la.cons (Sub.refl _) ?_|refine la.cons (Sub.Ia _) ?_))
   .simp only[zz,g2,Uaa,rp,hol,h0];refine cd rfl ?_;simp only[zz];refine sk ?_;simp only[zz];refine rg ?_;simp only[zz,Pj,hw];refine⟨hi,?_⟩;rw[NX,skipped (λh=>h0 h.1),←hE,←Gaa];exact At.mk _ _ _ _ (by repeat (first|exact la.pb _|refine la.cons (Sub.refl _) ?_|refine la.cons (Sub.Ia _) ?_))
  .refine xt ?_;simp only[zz,pw];have hi:i=t0.Rules.length:=by omega
   subst hi;exact⟨rfl,At.same _ _ _ (by repeat (first|exact la.pb _|refine la.cons (Sub.refl _) ?_|refine la.cons (Sub.Ia _) ?_))⟩
 .simp only[zz];rw[NX];have hL:(sL t0.Defs.length t0.Rules t0.Rules.length).length=t0.Defs.length:=HQ;have hLb:=NN (n:=t0.Defs.length) hg (i:=t0.Rules.length) (Haa _);generalize sL t0.Defs.length t0.Rules t0.Rules.length=L at hL hLb⊢;have hol:(owns 1 L).length=t0.Defs.length:=by rw[Fs,hL]
  refine ss (ss (rg ?_));simp only[zz,hol];refine T.lU t0.Defs.length (S2 t0.Defs.length L) ?_ (λj hj=>S2_fit hL hj) (λj hj=>?_) uu ?_
  .rw[P7];exact At.same _ _ _ (by repeat (first|exact la.pb _|refine la.cons (Sub.refl _) ?_|refine la.cons (Sub.Ia _) ?_))
  .rw[P7];refine ss (rg ?_);simp only[zz];refine ss (cd rfl ?_);simp only[zz];refine gP.mk (λhc=>?_) (λhc=>?_)
   .have hj:j<t0.Defs.length:=by omega
    have hjL:j<L.length:=by omega
    obtain⟨p,hp⟩:∃p,p=L[j]:=⟨_,rfl⟩;have hdr:L.drop j=p::L.drop (j+1):=by simp_all
    have hpb:=hLb p (by simp_all);have hsort:Qh p.2=some (wg p.2):=Mv (by
     omega)
    have hA:(A2 L j).length=j:=by grind[A2]
    have hG:(oaa j Ent.gone).length=j:=by simp
    rw[hdr];simp only[owns,Yc,List.map_cons];obtain⟨B,hB⟩:∃B,B=owns (1+j+1) (L.drop (j+1)):=⟨_,rfl⟩;obtain⟨F,hF⟩:∃F,F=Yc (L.drop (j+1)):=⟨_,rfl⟩;have hF':(L.drop (j+1)).map (λp=>Ent.live 1 p.1 (p.2.map ca))=F:=by rw[hF];rfl
    rw[←hB,hF',Aad 1 j];have hBl:(A2 L j++.own (j+1) p.1::B).length=t0.Defs.length:=by
     grind[Fs]
    refine sk ?_;simp only[zz];refine ss (bk (ss (rg ?_)));simp only[zz,hBl,hj,FK hA,ME hA];refine rg ?_;simp only[zz,hBl,hj,FK hA,ME hA];refine xR (Lv hsort) rfl (by simp) ?_;simp only[zz,hBl,hj,FK hA,ME hA,ME hG];refine rg ?_;have hw:aa .i64 ((j:Int)+1)=((j+1:Nat):Int):=by grind[zu]
    simp only[zz,Pj,hw];refine⟨hj,?_⟩;have hA1:A2 L (j+1)=A2 L j++[Xa (wg p.2)]:=by
     grind[A2]
    have e1:A2 L j++.sl 1 ((wg p.2).map ca)::B=A2 L (j+1)++owns (1+(j+1)) (L.drop (j+1)):=by
     rw[hA1,Oaa,hB,show 1+j+1=1+(j+1) by omega];rfl
    have e2:oaa j Ent.gone++Ent.gone::F=oaa (j+1) Ent.gone++Yc (L.drop (j+1)):=by
     grind[cac]
    rw[P7,e1,e2];exact At.same _ _ _ (by repeat (first|exact la.pb _|refine la.cons (Sub.refl _) ?_|refine la.cons (Sub.Ia _) ?_))
   .refine xt ?_;simp only[zz,pw];have hj:j=t0.Defs.length:=by omega
    subst hj;exact⟨rfl,At.same _ _ _ (by repeat (first|exact la.pb _|refine la.cons (Sub.refl _) ?_|refine la.cons (Sub.Ia _) ?_))⟩
  .simp only[zz];rw[P7,←hL,List.drop_length];have hA:A2 L L.length=(L.map λp=>wg p.2).map Xa:=by simp[A2]
   rw[hA];simp only[owns,Taa];refine T.trim 1 (qab _) (by simp) ?_ ?_ ?_
   .simp_all[belows,Tm.below,Ij,Sk,cc,Fr.h]
   .simp only[yab,xad,Kab,yad,sac];exact Cb _ _ (Fr.l _)
   simp only[yab,xad];refine ss (rg ?_);simp only[zz];exact rt (er (by simp only[zz,zr];exact fq (by simp only[zg])))
theorem Q3{n:Nat}{rs:List GRule}:∀i,i<=rs.length->∀d,d<n->((sL n rs i)[d]?).map (·.2)=some ((((rs.take i).filter λ(r:GRule)=>r.Def==(d:Int)).map (dOf n)).flatten)
 |0,_,d,hd=>by grind[sL]
 |i+1,h,d,hd=>by
  have ih:=Q3 (n:=n) (rs:=rs) i (by omega) d hd;rw[UK h,Raa,naa h,Option.toList_some,List.filter_append,uab,List.flatten_append]
  grind[o7]
theorem sL_allD:((sL t0.Defs.length t0.Rules t0.Rules.length).map λp=>wg p.2)=Np t0:=by
 apply List.ext_getElem?;intro d;unfold Np;rw[vac,vac];by_cases hd:d<t0.Defs.length
 .have h:=Q3 (n:=t0.Defs.length) (rs:=t0.Rules) t0.Rules.length (Haa _) d hd;rw[List.take_length]at h;rw[List.getElem?_range hd,zac]
  cases hx:(sL t0.Defs.length t0.Rules t0.Rules.length)[d]? with
  |none=>simp_all
  |some p=>
   rw[hx]at h;simp only[zac,Vaa]at h⊢;rw[h];rfl
 grind[HQ]
theorem Lu{r:List (List Int)}(h:tc t0=some r):Den Tryz.prog 198 [ee t0] (Oc r):=by
 have h':=h;unfold tc at h';split at h'
 .rename_i hc;obtain⟨h1,h2,h3⟩:=hc;have hs:=Qn ⟨h1,h2,h3⟩;rw[h]at hs;obtain rfl:=Iaa hs
  grind[allD_T,sL_allD]
 simp_all
instance zI198{t0 r}:Con (tc t0=some r) (Den Tryz.prog 198 [ee t0] (Oc r)):=⟨Lu⟩
instance HR:C2 k170 Xc:=pg (And.intro k170.eq_1 Xc.eq_1) (.z 2 (.j 1 (EN [8,25,72,2,33] [0]) .o .o))
instance GR:C2 k171 Ai:=pg (And.intro (And.intro k171.eq_1 Ai.eq_1) (And.intro Ph.eq_1 bp.eq_1)) (.z 2 (.j 1 (EN [8,25,168,2,553] [0]) .o (.l 2 1 (EN [16,185,88,17,10,449] [0,258]) (EN [16,185] [0,258]) [] .o (.l 2 1 (EN [16,49,19,297,8,17,10,361] [0,8,260]) (EN [64,3,297] [260]) [0,4,5] (.b (.j 1 (EN [16,385] [0,8,514]) (.z 2 (.j 1 (EN [16,385,168,2,185] [0,8,16,24]) .o (.b .o (.t [0,4,520])))) .o) (.t [8])) .o))))
def Dv(n:Nat) (F:Nat->List Int):LL:=(List.range n).map λd=>((F d).length,F d)
theorem EL:(Dv n F).length=n:=by simp[Dv]
theorem DL(h:d<n):(Dv n F)[d]?=some ((F d).length,F d):=by grind[Dv]
theorem DX{F':Nat->List Int}{x:Int}(h1:F' d=F d++[x]) (h2:∀e,e≠d->F' e=F e):(Dv n F).set d ((F d).length+1,F d++[x])=Dv n F':=by
 unfold Dv;apply fac
 all_goals grind
def NR(I:List Int) (L:LL):List Ent:=.live 1 0 (I.map ca)::.live 1 0 (owns 4 L)::Yc L
def evM(l:List Int) (v:Nat) (I:List Int) (L:LL):List Ent:=Ax l v 0 (NR I L)
theorem tK{I:List Int}:(NR I L).length=L.length+2:=by simp[NR,Yj]
theorem BC{I:List Int}:(NR I L).all (Ent.below ((NR I L).length+2))=true:=by
 rw[tK];unfold NR;simp only[Kab,zaa];exact⟨Cb _ _ (Fr.l _),ju (by omega),Ru⟩
theorem fF(t:List D) (a b c:Ent) (n:Nat):∀x,x<=n->Ju 1 3 x ⟨t,[a,b,c,.live 1 0 (oaa n (.v (.slice none 0 0)))]⟩=⟨t,a::b::c::.live 1 0 (owns 4 (oaa x (0,[]))++oaa (n-x) (.v (.slice none 0 0)))::Yc (oaa x (0,[]))⟩
 |0,_=>by simp[Ju,owns,Yc]
 |x+1,h=>by
  rw[Ju,fF t a b c n x (by omega)];unfold dF;simp only[Rab,Yaa];have hl:(owns 4 (oaa x ((0:Nat),([]:List Int)))).length=x:=by grind[Fs]
  rw[tab (by omega),hl,Dac,Oac,if_pos (by omega)];simp only[qac,Cac,qaa,Yj,Zab,Gaa,St.mk.injEq,true_and,Iad,Ent.live.injEq];refine⟨?_,?_⟩
  .rw[Kac,if_neg (by omega),hl,Dac,cac (n:=x),IG,Oaa];congr 1;obtain⟨k,hk⟩:∃k,n-x=k+1:=⟨n-x-1,by omega⟩
   grind[owns]
  grind[Yc,cac]
theorem CX(h:∀d,F d=[]):Dv n F=oaa n (0,[]):=by
 unfold Dv;apply fac
 all_goals simp_all
theorem CK:fa (oaa n (.v (.int .i64 0)))=true:=aj.2 λd hd=>by rw[Iac hd];rfl
def E1(g:List (List Int)) (y:Nat×List Int×Nat):St:=⟨ds 4 (Oc g::.own 3 0::.own 2 0::.ref 0 0 0 0::ds 19 (Oc g::ca g.length::ca y.1::ds 83 [])),evM y.2.1 y.2.2 (ZA g y.1) (Dv g.length (rh g y.1))⟩
def E2(g:List (List Int)) (l:List Int) (v i j:Nat):St:=⟨ds 4 (Oc g::.own 3 0::.own 2 0::.ref 0 0 0 0::ca i::Xa (g.getD i [])::ds 17 (Oc g::ca g.length::ca i::ds 9 (Xa (g.getD i [])::ca (g.getD i []).length::ca j::ds 71 []))),evM l v (ZA g (i+1)) (Dv g.length (Qq g i j))⟩
theorem E1_fit:Fit 0 (E1 g y):=by
 refine Sy BC (qab _) ?_
 simp_all[belows,Tm.below,tK,Ij,Sk,cc,Fr.h]
theorem E2_fit{v:Nat}:Fit 0 (E2 g l v i j):=by
 refine Sy BC (qab _) ?_
 simp_all[belows,Tm.below,tK,Ij,Sk,cc,Fr.h]
def Wx(I:List Int) (L:LL) (w:Nat) (out:List Int):List Ent:=.live 1 0 (I.map ca)::.live 1 0 (owns 4 L)::(Yc L++[.live 1 w (out.map ca)])
theorem UF{I:List Int}:(Wx I L w out).length=L.length+3:=by simp[Wx,Yj]
theorem Cw{I:List Int}:(Wx I L w out).all (Ent.below ((Wx I L w out).length+2))=true:=by
 rw[UF];unfold Wx;simp only[Kab,cad,yad,sac,zaa];exact⟨Cb _ _ (Fr.l _),ju (by omega),Ru,Cb _ _ (Fr.l _)⟩
abbrev gL(g:List (List Int)):LL:=Dv g.length (rh g g.length)
def E3(g:List (List Int)) (y:List Int×Nat×List Int×Nat):St:=⟨ds 4 (Oc g::.own 3 0::.own 2 0::.ref 0 0 0 0::ds 4 (.own ((Yc (gL g)).length+4) y.2.1::ds 100 [])),Ax y.2.2.1 y.2.2.2 0 (Wx (NM g y.1) (gL g) y.2.1 y.1)⟩
def E4(g:List (List Int)) (out:List Int) (w d:Nat) (y:Nat×List Int×Nat):St:=⟨ds 4 (Oc g::.own 3 0::.own 2 0::.ref 0 0 0 0::ds 4 (.own ((Yc (gL g)).length+4) (w+1)::ca d::ds 70 (.own (d+4) (rh g g.length d).length::ca (rh g g.length d).length::ca y.1::ds 26 []))),Ax y.2.1 y.2.2 0 (Wx (qx g out d y.1) (gL g) (w+1) (out++[(d:Int)]))⟩
theorem TP:(gL g).length=g.length:=EL
theorem E3_fit{y:List Int×Nat×List Int×Nat}:Fit 0 (E3 g y):=by
 refine Sy Cw (qab _) ?_
 simp_all[belows,Tm.below,UF,Yj,Ij,Sk,cc,Fr.h]
theorem E4_fit(hd:d<g.length) :Fit 0 (E4 g out w d y):=by
 refine Sy Cw (qab _) ?_;rw[UF,Yj,TP];simp only[Ij,Sk,belows,Tm.below,sac,Bool.true_and,zaa,decide_eq_true_eq];exact⟨cc _ _ (Fr.h _),by omega,by omega,by omega,by omega,cc _ _ (Fr.h _),by omega,cc _ _ (Fr.h _),cc _ _ (Fr.h _)⟩
theorem ev_T(hall:tc t0=some g) (hg:GOk g) :
 Den Tryz.prog 201 [ee t0] (.tup [Xa (wv g).1,ca (wv g).2]):=by
 have hgl:=hg.len;refine dk 112 k201 ?_;simp only[k201,Kf.of,zs,ze];refine ss (rg ?_);simp only[zz];refine ss (rg ?_);simp only[zz];refine vE (Lu hall) ?_ (by simp only[zg]);simp only[zz];have hm:py 24 ([]:List Int) (g.length:Int) (g.length:Int)=some (oaa g.length []):=by
  grind[py]
 obtain⟨f2,f3,f4,f5,f6⟩:=jN (e:=Xa) hm;have hm2:py 8 (0:Int) (g.length:Int) (g.length:Int)=some (oaa g.length 0):=by
  grind[py]
 obtain⟨a2,a3,a4,a5,a6⟩:=jN (e:=ca) hm2;refine ss (rg ?_);(try simp only[zz]at f5 f6 a5 a6);(try simp only[zz,f2,f3,f4,f5]);refine ss (rg ?_);(try simp only[zz,a2,a3,a4,a5]);refine ss (rg ?_);simp only[zz];refine ss (ss (rg ?_));simp only[zz];refine tl (S:=⟨ds 4 (Oc g::.own 3 0::.own 2 0::.ref 0 0 0 0::ds 19 (Oc g::ca g.length::ca 0::ds 83 [])),[.live 1 0 [.own 1 0],.live 1 0 [],.live 1 0 (oaa g.length (.v (.int .i64 0))),.live 1 0 (oaa g.length (.v (.slice none 0 0)))]⟩) (tq [ok 4,ok 3,ok 2,ok 1] (by simp_all[zg,ph,CD,CK])) ?_;refine iC (S:=1) (id:=3) (x:=g.length) ?_;rw[fF _ _ _ _ _ _ (Haa _),Dac,mad,Taa];refine T.QL (E1 g) (λy=>y.1<=g.length/\y.2.1.Perm (tQ g y.1)/\Hp y.2.1 y.2.1.length) (λy=>y.1=g.length/\y.2.1.Perm (tQ g y.1)/\Hp y.2.1 y.2.1.length) (λy=>g.length-y.1) (0,[],0) ⟨qab _,.refl _,λk _ h=>absurd h (Nat.not_lt_zero _)⟩ ?_ (λ_ _=>E1_fit) ?_ (λ_=>uu) ?_
 .grind[E1,evM,Ax,NR,CX,EU,AV,At.same,la.pb]
 .rintro⟨i,l,v⟩ ⟨h1,h2,h3⟩;dsimp only at h1 h2 h3;have hll:l.length<=1048576:=by rw[h2.length_eq];grind[rd0_len]
  unfold E1 evM Ax NR;dsimp only;refine ss (rg ?_);simp only[zz];refine ss (cd rfl ?_);simp only[zz];refine gP.mk (λhc=>?_) (λhc=>?_)
  .have hi:i<g.length:=by omega
   refine sk ?_;simp only[zz];have g2:g[i]?=some (g.getD i []):=by grind
   have hmem:g.getD i []∈g:=Lab g2;have hgi:=hg.inr _ hmem;have hgn:=hg.nd _ hmem;have hgk:(g.getD i []).length<=g.length:=NC hgn hgi;have i1:(ZA g i)[i]?=some 0:=by grind[ZA]
   have i2:(ZA g i).length=g.length:=by grind[ZA]
   refine ss (bk (ss (rg ?_)));simp only[zz,g2];generalize hgi':g.getD i []=gi at *;refine ss (rg ?_);simp only[zz,g2,i1,i2,hi];refine ss (ss (rg ?_));simp only[zz];have hdi:Qq g i gi.length=rh g (i+1):=funext λd=>by rw[←hgi'];exact DU.symm
   have hw:aa .i64 ((i:Int)+1)=((i+1:Nat):Int):=by grind[zu]
   refine T.lU gi.length (E2 g l v i) ?_ (λj _=>E2_fit) (λj hj=>?_) uu ?_
   .unfold E2 evM Ax NR;rw[show Qq g i 0=rh g i from funext λd=>FU,hgi',←zV hi,dad,hgi'];exact At.same _ _ _ (by repeat (first|exact la.pb _|refine la.cons (Sub.refl _) ?_|refine la.cons (Sub.Ia _) ?_))
   .unfold E2 evM Ax NR;rw[hgi'];refine ss (rg ?_);simp only[zz];refine ss (cd rfl ?_);simp only[zz];refine gP.mk (λhc=>?_) (λhc=>?_)
    .have hjl:j<gi.length:=by omega
     refine sk ?_;simp only[zz];obtain⟨d,hd,hdn⟩:∃d:Nat,gi[j]=(d:Int)/\d<g.length:=by
      have:=hgi gi[j] (taa hjl);exact⟨gi[j].toNat,by omega,by omega⟩
     have g3:gi[j]?=some (d:Int):=by simp_all
     have hL:(Dv g.length (Qq g i j)).length=g.length:=EL;have hp:(Dv g.length (Qq g i j))[d]?=some ((Qq g i j d).length,Qq g i j d):=DL hdn;have hLs:Dv g.length (Qq g i (j+1))=(Dv g.length (Qq g i j)).set d ((Qq g i j d).length+1,Qq g i j d++[(i:Int)]):=by
      refine(DX ?_ λe he=>?_).symm
      .simp_all[JI]
      .rw[JI (by simp_all) (by simp_all),if_neg (by grind)]
     have hpb:(Qq g i j d).length<=i+1:=SY;generalize hQ:(Qq g i j d).length=q at *;generalize hF:Qq g i j d=F at *;generalize hLL:Dv g.length (Qq g i j)=L at hL hLs hp⊢;obtain⟨E,hE⟩:∃E,E=Yc L:=⟨_,rfl⟩;have hEl:E.length=L.length:=by rw[hE,Yj]
     rw[←hE];have hol:(owns 4 L).length=g.length:=by rw[Fs,hL]
     have hEd:d<E.length:=by omega
     have k1:(owns 4 L)[d]?=some (.own (d+4) q):=by grind[vB]
     have k2:∀y,(E++[y])[d]?=some (.live 1 q (F.map ca)):=λy=>by
      grind[Yc]
     have k3:∀y e,(E++[y]).set d e=E.set d e++[y]:=λy e=>by simp_all
     have k5:(F.length+1)*8<=2 ^ 47:=by omega
     have k6:lN (E.length+4) (d+4)=true:=GK (by omega);refine ss (bk (ss (rg ?_)));simp only[zz,g3];refine rg ?_;simp only[zz,hol,hdn,k1,k2,k3,k5,k6,Uaa,rp];have hw2:aa .i64 ((j:Int)+1)=((j+1:Nat):Int):=by grind[zu]
     refine rg ?_;simp only[zz,Pj,hw2];refine⟨hjl,?_⟩;have e1:(owns 4 L).set d (.own (d+4) (q+1))=owns 4 (Dv g.length (Qq g i (j+1))):=by
      rw[hLs,←JG,Aad 4]
     have e2:E.set d (.live 1 (q+1) (F.map ca++[.v (.int .i64 i)]))=Yc (Dv g.length (Qq g i (j+1))):=by
      rw[hLs,hE];unfold Yc;rw[dad,uab];rfl
     rw[e1,e2,←Gaa,←Gaa,←Gaa,←Gaa];exact At.mk _ _ _ _ (by repeat (first|exact la.pb _|refine la.cons (Sub.refl _) ?_|refine la.cons (Sub.Ia _) ?_))
    .refine xt ?_;simp only[zz,pw];have hj:j=gi.length:=by omega
     subst hj;refine⟨rfl,?_⟩;exact At.same _ _ _ (by repeat (first|exact la.pb _|refine la.cons (Sub.refl _) ?_|refine la.cons (Sub.Ia _) ?_))
   .unfold E2 evM Ax NR;rw[hgi',hdi];simp only[zz];refine ss (rg ?_);simp only[zz];refine cd rfl ?_;by_cases hge:gi=[]
    .have hz:((gi.length:Int)==0)=true:=by simp_all
     have hrd:tQ g (i+1)=tQ g i++[(i:Int)]:=by simp_all[AN]
     simp only[zz,hz];refine rg ?_;simp only[zz];refine Gv (nS (l:=l) (x:=(i:Int)) (v:=v) (u:=0) (R:=NR (ZA g (i+1)) (Dv g.length (rh g (i+1)))) BC (by omega) h3) ?_;rintro d m' ⟨rfl,l',h4,h5,rfl⟩;unfold Ax NR;simp only[zz];refine rg ?_;simp only[zz,hw,En];refine⟨(i+1,l',v+1),⟨by omega,?_,h5⟩,by omega,?_⟩
     .grind
     .exact At.same _ _ _ (by repeat (first|exact la.pb _|refine la.cons (Sub.refl _) ?_|refine la.cons (Sub.Ia _) ?_))
    .have hz:((gi.length:Int)==0)=false:=by
      simp_all
     have hrd:tQ g (i+1)=tQ g i:=by simp_all[AN]
     simp only[zz,hz];refine sk ?_;simp only[zz];refine rg ?_;simp only[zz,hw,En];refine⟨(i+1,l,v),⟨by omega,?_,h3⟩,by omega,?_⟩
     .simp_all
     .exact At.same _ _ _ (by repeat (first|exact la.pb _|refine la.cons (Sub.refl _) ?_|refine la.cons (Sub.Ia _) ?_))
  .refine xt ?_;simp only[zz,Lp];have hi:i=g.length:=by omega
   subst hi;exact⟨(g.length,l,v),⟨rfl,h2,h3⟩,At.same _ _ _ (by repeat (first|exact la.pb _|refine la.cons (Sub.refl _) ?_|refine la.cons (Sub.Ia _) ?_))⟩
 .rintro⟨i,l,v⟩ ⟨h1,h2,h3⟩;dsimp only at h1 h2 h3;subst h1;unfold E1 evM Ax NR;dsimp only;simp only[zz];refine ss (rg ?_);simp only[zz];refine T.Hx 12 1 rfl ?_;simp only[zz];refine ss ?_;refine T.QL (E3 g) (λy=>J2 g y.1 y.2.2.1/\Hp y.2.2.1 y.2.2.1.length) (λy=>J2 g y.1 []) (λy=>g.length-y.1.length) ([],0,l,v) ⟨j2_0 h2,h3⟩ ?_ (λ_ _=>E3_fit) ?_ (λ_=>uu) ?_
  .unfold E3 Ax Wx;dsimp only;rw[←indO_0];exact At.same _ _ _ (by repeat (first|exact la.pb _|refine la.cons (Sub.refl _) ?_|refine la.cons (Sub.Ia _) ?_))
  .rintro⟨out,w,l,v⟩ ⟨hj,h3⟩;dsimp only at hj h3;unfold E3 Ax Wx;dsimp only;have hll:l.length<=1048576:=by
    rw[hj.perm.length_eq]
    grind[YS]
   refine ss (ss (rg ?_));simp only[zz];refine Ub (EX (l:=l) (v:=v) (u:=0)) ?_;simp only[zz];refine cd rfl ?_;simp only[zz];refine gP.mk (λhc=>?_) (λhc=>?_)
   .refine sk ?_;simp only[zz];obtain⟨n,hn⟩:∃n,l.length=n+1:=⟨l.length-1,by omega⟩;refine bk (ss (rg ?_));simp only[zz];refine Gv (hpop_T (l:=l) (n:=n) (v:=v) (u:=0) (R:=Wx (NM g out) (gL g) w out) Cw (by omega) hn h3) ?_;rintro _ _ ⟨x,l',rfl,h4,h5,h6,rfl⟩;obtain⟨d,rfl,hdl,hik,hol,hfin⟩:=j2_pop hg hj h4 h5;unfold Ax Wx;simp only[zz];have c0:∀o:Ent,(Yc (gL g)++[o])[(Yc (gL g)).length]?=some o:=λo=>Uaa;have c1:∀o z:Ent,(Yc (gL g)++[o]++[z])[(Yc (gL g)).length]?=some o:=λo z=>by simp
    have c2:∀o z e:Ent,(Yc (gL g)++[o]++[z]).set (Yc (gL g)).length e=Yc (gL g)++[e]++[z]:=λo z e=>by simp
    have c3:∀o z:Ent,(Yc (gL g)++[o]++[z])[(Yc (gL g)).length+1]?=some z:=λo z=>by simp
    have c5:lN ((Yc (gL g)).length+1+4) ((Yc (gL g)).length+4)=true:=GK (by omega);have hEl:(Yc (gL g)).length=g.length:=by rw[Yj,TP]
    have hF:(gL g)[d]?=some ((rh g g.length d).length,rh g g.length d):=DL hdl;have hE1:(Yc (gL g))[d]?=some (.live 1 (rh g g.length d).length ((rh g g.length d).map ca)):=by
     grind[Yc]
    have c4:∀o z:Ent,(Yc (gL g)++[o]++[z])[d]?=some (.live 1 (rh g g.length d).length ((rh g g.length d).map ca)):=λo z=>by
     grind
    have c6:∀o:Ent,(Yc (gL g)++[o])[d]?=some (.live 1 (rh g g.length d).length ((rh g g.length d).map ca)):=λo=>by
     grind
    have o1:(owns 4 (gL g))[d]?=some (.own (d+4) (rh g g.length d).length):=by grind[vB]
    have o2:(owns 4 (gL g)).length=g.length:=by rw[Fs,TP]
    have b1:(out.length+1)*8<=2 ^ 47:=by omega
    have hDn:(rh g g.length d).length<=g.length:=EF;have hpl:=h4.length_eq;refine ss (rg ?_);simp only[zz,c0,c1,c2,c3,c5,b1];refine ss (rg ?_);simp only[zz,c1,c2,c4,o1,o2,hdl];refine T.QL (E4 g out w d) (λy=>y.1<=(rh g g.length d).length/\y.2.1.Perm (l'++qB g out d y.1)/\Hp y.2.1 y.2.1.length) (λy=>y.1=(rh g g.length d).length/\y.2.1.Perm (l'++qB g out d y.1)/\Hp y.2.1 y.2.1.length) (λy=>(rh g g.length d).length-y.1) (0,l',v+1) ⟨qab _,by grind[newK_0],h6⟩ ?_ (λ_ _=>E4_fit hdl) ?_ (λ_=>stab_B stab_M) ?_
    .unfold E4 Ax Wx;dsimp only;rw[indK_0,uab,←Gaa,←Gaa,←Gaa,←Gaa];exact At.mk _ _ _ _ (by repeat (first|exact la.pb _|refine la.cons (Sub.refl _) ?_|refine la.cons (Sub.Ia _) ?_))
    .rintro⟨k,l1,v1⟩ ⟨k1,k2,k3⟩;dsimp only at k1 k2 k3;have hl1:l1.length<=1048576+1048576:=by
      rw[k2.length_eq,List.length_append]
      grind[F1]
     unfold E4 Ax Wx;dsimp only;refine ss (rg ?_);simp only[zz];refine ss (cd rfl ?_);simp only[zz];refine gP.mk (λhc=>?_) (λhc=>?_)
     .have hk:k<(rh g g.length d).length:=by omega
      refine sk ?_;simp only[zz];obtain⟨e,he,hel,hem⟩:=my.1 (taa hk);have g3:(rh g g.length d)[k]?=some (e:Int):=by simp_all
      have i1:=PZ (out:=out) hk he hel;have i2:(qx g out d k).length=g.length:=by grind[qx]
      have i3:(List.map ca (qx g out d k)).set e (.v (.int .i64 (XD g out e-1)))=List.map ca (qx g out d (k+1)):=by
       rw[←ZI hk he,dad];rfl
      have i4:(qx g out d (k+1))[e]?=some (XD g out e-1):=by
       rw[←ZI hk he,List.getElem?_set_self (by omega)]
      have i5:(qx g out d (k+1)).length=g.length:=by grind[qx]
      have hcn:0<=XD g out e/\XD g out e<=1048576:=by
       unfold XD;have h1:=cab (λd=>!out.contains d) (g.getD e []);have h2:=NC (hg.nd _ (gmem hel)) (hg.inr _ (gmem hel));omega
      have hwc:aa .i64 (XD g out e-1)=XD g out e-1:=zu ⟨by omega,by omega⟩;have hwk:aa .i64 ((k:Int)+1)=((k+1:Nat):Int):=by grind[zu]
      refine ss (bk (ss (rg ?_)));simp only[zz,c6,hk,g3];refine ss (rg ?_);simp only[zz,i1,i2,hel,hwc,i3];refine ss (rg ?_);simp only[zz,i4,i5,hel];refine cd rfl ?_;by_cases hc1:XD g out e=1
      .have hz:((XD g out e-1)==0)=true:=by simp_all
       simp only[zz,hz];refine rg ?_;simp only[zz];refine Gv (nS (l:=l1) (x:=(e:Int)) (v:=v1) (u:=0) (R:=Wx (qx g out d (k+1)) (gL g) (w+1) (out++[(d:Int)])) Cw (by omega) k3) ?_;rintro _ _ ⟨rfl,l2,h7,h8,rfl⟩;unfold Ax Wx;simp only[zz];refine rg ?_;simp only[zz,hwk,En];refine⟨(k+1,l2,v1+1),⟨by omega,?_,h8⟩,by omega,?_⟩
       .dsimp only;rw[mJ hk he,if_pos hc1,←Oaa]
        grind
       .exact At.same _ _ _ (by repeat (first|exact la.pb _|refine la.cons (Sub.refl _) ?_|refine la.cons (Sub.Ia _) ?_))
      .have hz:((XD g out e-1)==0)=false:=by
        grind
       simp only[zz,hz];refine sk ?_;simp only[zz];refine rg ?_;simp only[zz,hwk,En];refine⟨(k+1,l1,v1),⟨by omega,?_,k3⟩,by omega,?_⟩
       .dsimp only;rw[mJ hk he,if_neg hc1];omega
       .exact At.same _ _ _ (by repeat (first|exact la.pb _|refine la.cons (Sub.refl _) ?_|refine la.cons (Sub.Ia _) ?_))
     .refine xt ?_;simp only[zz,Lp];have hk:k=(rh g g.length d).length:=by omega
      subst hk;exact⟨((rh g g.length d).length,l1,v1),⟨rfl,k2,k3⟩,At.same _ _ _ (by repeat (first|exact la.pb _|refine la.cons (Sub.refl _) ?_|refine la.cons (Sub.Ia _) ?_))⟩
    .rintro⟨k,l1,v1⟩ ⟨k1,k2,k3⟩;dsimp only at k1 k2 k3;subst k1;unfold E4 Ax Wx;dsimp only;rw[hik];simp only[zz,En];refine⟨(out++[(d:Int)],w+1,l1,v1),⟨hfin l1 k2,k3⟩,by grind,?_⟩;exact At.same _ _ _ (by repeat (first|exact la.pb _|refine la.cons (Sub.refl _) ?_|refine la.cons (Sub.Ia _) ?_))
   .refine xt ?_;simp only[zz,Lp];have hl0:l=[]:=List.eq_nil_of_length_eq_zero (by omega);subst hl0;exact⟨(out,w,[],v),hj,At.same _ _ _ (by repeat (first|exact la.pb _|refine la.cons (Sub.refl _) ?_|refine la.cons (Sub.Ia _) ?_))⟩
  .rintro⟨out,w,l,v⟩ hj;dsimp only at hj;have he:=j2_end hj;unfold E3 Ax Wx;dsimp only;simp only[zz];have c0:∀o:Ent,(Yc (gL g)++[o])[(Yc (gL g)).length]?=some o:=λo=>Uaa;refine ss (ss (rg ?_));simp only[zz,c0];refine cd rfl ?_;by_cases hlt:out.length<g.length
   .have hz:decide ((out.length:Int)<(g.length:Int))=true:=decide_eq_true (by omega);rw[if_pos hlt]at he;rw[he];simp only[zz,hz];refine ss (rg ?_);simp only[zz];exact rt (er (by simp_all[zz,fq,zg]))
   .have hz:decide ((out.length:Int)<(g.length:Int))=false:=decide_eq_false (by omega);rw[if_neg hlt]at he;rw[he];simp only[zz,hz];refine sk ?_;simp only[zz];refine ss (rg ?_);simp only[zz];exact rt (er (by simp_all[zz,fq,zg]))
theorem inR_in{n:Int}{x:Int}(h:x∈cE n l):0<=x/\x<n:=by
 grind[cE]
theorem U7{s:GScope}(h:s.Defs.length<=1048576):GOk (Np s):=by
 have hl:(Np s).length=s.Defs.length:=by grind[Np]
 refine⟨by omega,λl hm e he=>?_,λl hm=>?_⟩
 .unfold Np at hm;obtain⟨d,-,rfl⟩:=Paa.1 hm;rw[hl];rw[(Ig _).2.2,List.mem_flatten]at he;obtain⟨q,hq,he⟩:=he;obtain⟨r,-,rfl⟩:=Paa.1 hq;rcases List.mem_append.1 he with h1|h1<;>exact inR_in h1
 .unfold Np at hm;obtain⟨d,-,rfl⟩:=Paa.1 hm
  grind[YI,Ig]
theorem Kv{r:List Int×Int}(h:Ee t0=some r):Den Tryz.prog 201 [ee t0] (.tup [Xa r.1,ca r.2]):=by
 unfold Ee at h
 cases hall:tc t0 with
 |none=>simp_all
 |some g=>
  rw[hall]at h;simp only[Option.bind_some,Vaa]at h;subst h;have hall':=hall;unfold tc at hall';split at hall'
  .rename_i hc;have:=Qn ⟨hc.1,hc.2.1,hc.2.2⟩;rw[hall]at this;obtain rfl:=Iaa this
   grind[ev_T,U7]
  simp_all
instance zI201{t0 r}:Con (Ee t0=some r) (Den Tryz.prog 201 [ee t0] (.tup [Xa r.1,ca r.2])):=⟨Kv⟩
end Go.Proofs.Dev
