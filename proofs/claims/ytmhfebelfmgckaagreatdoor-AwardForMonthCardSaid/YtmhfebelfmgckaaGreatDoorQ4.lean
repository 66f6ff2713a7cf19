/-
  Contracts of the functions: each answers as its plain partial function says.
-/
import Derived.Test.YtmhfebelfmgckaaGreatDoorK
import Derived.Test.YtmhfebelfmgckaaGreatDoorG
import Derived.Test.YtmhfebelfmgckaaGreatDoorPE
import Derived.Test.YtmhfebelfmgckaaGreatDoorH1
import Derived.Test.YtmhfebelfmgckaaGreatDoorH2
import Derived.Test.YtmhfebelfmgckaaGreatDoorL1
import Derived.Test.YtmhfebelfmgckaaGreatDoorQ0
import Derived.Test.YtmhfebelfmgckaaGreatDoorQ1
import Derived.Test.YtmhfebelfmgckaaGreatDoorQ2
import Derived.Test.YtmhfebelfmgckaaGreatDoorQ3
open And renaming intro->ak
open Bool renaming and_eq_true->Laa
open List renaming all_cons->nac,all_eq_true->fab,append_assoc->Yab,append_nil->eab,cons_append->Waa,eq_of_mem_replicate->sac,getElem?_concat_length->nab,getElem?_eq_getElem->Baa,getElem?_map->yac,length_cons->bab,mem_map->pac,replicate->Daa,replicate_succ'->vac,set_cons_succ->Jac,take_add_one->Xaa,take_succ_cons->xab,take_zero->sae
open Nat renaming add_comm->yad,le_refl->Paa,sub_self->wac,zero_le->pab
open Option renaming map_some->Cac
open Option.some renaming inj->wab,injEq->dab
set_option linter.all false
set_option maxHeartbeats 1000000
set_option maxRecDepth 10000
namespace Go.Proofs.Dev
open Go Go.Tm
variable {j n i:Nat}{rs:List GRule}{α:Type}{x y:α}{A B:List α}{t0:GScope}
instance EV:C1 k273 bg:=pg (ak (ak k273.eq_1 bg.eq_1) Zi.eq_1) (.l (EN [40,3,11,19,33,26,289] [260,268,276]) (EN [40,3,11,19,17] [260,268,276]) [5,5,5] (.z 2 (.j (EN [40,65] [2,266,530]) (.b (.t [256,4,8]) (.b (.t [0,260,8]) (.j (EN [40,65,152,2,129] [0,8,16,24]) .o (.b (.t [0,4,264]) .o)))) .o)) .o)
instance tB:C2 k319 Oe:=pg (ak (ak k319.eq_1 Oe.eq_1) (ak tg.eq_1 ug.eq_1)) (.l (EN [8,9,24,3,32,9,152,17,10,273] [260]) (EN [8,9,24,3,32,9] [260]) [5] (.z 2 (.j (EN [8,257] [2]) (.z 1 (.j (EN [8,257,72,2,193] [0]) .o (.b (.t [256]) .o))) .o)) (.l (EN [8,73,304,17,10,129] [2]) (EN [40,41] [2]) [] (.z 2 (.j (EN [8,401] [2]) (.z 1 (.j (EN [8,401,72,2,49] [0]) .o (.b (.t [256]) .o))) .o)) .o))
theorem VA{t0 t1 r} (h:Oe t0 t1=some r):Den Tryz.prog 319 [mg t0,da t1] (qa r):=tB.h h
abbrev LL:=List (Nat×List Int)
variable {L:LL}
def owns:Nat->LL->List D
 |_,[]=>[]
 |k,p::l=>.own k p.1::owns (k+1) l
def Cd(L:LL):List Ent:=L.map λp=>.live 1 p.1 (p.2.map da)
def dOf(n:Nat) (r:GRule):List Int:=jI n (lA Vg r.ac)++jI n (lA Vg r.Value)
def stL(n:Nat) (L:LL) (r:GRule):LL:=if 0<=r.s/\r.s<n then L.modify r.s.toNat (λp=>(p.1+1,p.2++dOf n r))else L
def sL(n:Nat) (rs:List GRule) (i:Nat):LL:=(rs.take i).foldl (stL n) (Daa n (0,[]))
theorem Mv:∀{L:LL}{k:Nat},(owns k L).length=L.length
 |[],_=>rfl
 |p::l,k=>by simp only[owns,bab,Mv (L:=l)]
theorem vK:∀{L M:LL}{k:Nat},owns k (L++M)=owns k L++owns (k+L.length) M
 |[],M,k=>by simp[owns]
 |p::l,M,k=>by
  simp only[Waa,owns,vK (L:=l),bab]
  grind
theorem uF:∀{L:LL}{k d:Nat},(owns k L)[d]?=L[d]?.map (λp=>.own (k+d) p.1)
 |[],_,_=>by simp[owns]
 |p::l,k,0=>by simp[owns]
 |p::l,k,d+1=>by
  simp only[owns,List.getElem?_cons_succ,uF (L:=l)]
  grind
theorem wK:∀{L:LL}{k d:Nat}{p:Nat×List Int},(owns k L).set d (.own (k+d) p.1)=owns k (L.set d p)
 |[],_,_,_=>by simp[owns]
 |q::l,k,0,p=>by simp[owns]
 |q::l,k,d+1,p=>by
  simp only[owns,Jac];rw[show k+(d+1)=k+1+d by omega,wK (L:=l)]
theorem sx:∀{L:LL}{k j:Nat},k+L.length<=j->belows j (owns k L)=true
 |[],_,_,_=>rfl
 |p::l,k,j,h=>by
  simp only[bab]at h;simp only[owns,belows,Tm.below,Laa,decide_eq_true_eq];exact⟨by omega,sx (by omega)⟩
theorem qm:(Cd L).length=L.length:=by simp[Cd]
theorem uy:(Cd L).all (Ent.below j)=true:=by
 rw[fab];intro e he;obtain⟨p,-,rfl⟩:=pac.1 he;exact Zd _ _ (Fr.l _)
theorem stL_len{r:GRule}:(stL n L r).length=L.length:=by
 grind[stL]
theorem TM{n:Nat}:∀{rs:List GRule}{L:LL},(rs.foldl (stL n) L).length=L.length
 |[],_=>rfl
 |r::rs,L=>by simp only[List.foldl_cons,TM (rs:=rs),stL_len]
theorem JU:(sL n rs i).length=n:=by grind[sL,TM]
theorem aP(h:i<rs.length):sL n rs (i+1)=stL n (sL n rs i) rs[i]:=by
 grind[sL,Xaa]
theorem inR_len{n:Int}{l:List Int}:(jI n l).length<=l.length:=List.length_filter_le _ _
theorem uV{r:GRule}(h:r.ac.length<=1048576/\r.Value.length<=1048576):(dOf n r).length<=2097152:=by
 grind[dOf,inR_len,yq]
theorem KR(hg:∀r∈rs,r.ac.length<=1048576/\r.Value.length<=1048576):∀{i:Nat},i<=rs.length->∀p∈sL n rs i,p.2.length<=2097152*i:=by
 intro i
 induction i with
 |zero=>
  grind[sL]
 |succ i ih=>
  intro h p hp;have ih:=ih (Nat.le_of_succ_le h);have hD:=uV (n:=n) (hg rs[i] (List.getElem_mem h));have hs:2097152*(i+1)=2097152*i+2097152:=Nat.mul_succ _ _;rw[aP h]at hp;unfold stL at hp;split at hp
  .obtain⟨d,hd,rfl⟩:=List.getElem_of_mem hp
   grind
  grind
theorem xM(t:List D) (n:Nat):∀x,x<=n->fy 1 0 x ⟨t,[.live 1 0 (Daa n (.v (.slice none 0 0)))]⟩=⟨t,.live 1 0 (owns 1 (Daa x (0,[]))++Daa (n-x) (.v (.slice none 0 0)))::Cd (Daa x (0,[]))⟩
 |0,_=>by simp[fy,owns,Cd]
 |x+1,h=>by
  rw[fy,xM t n x (by omega)];unfold hJ;simp only[List.getElem?_cons_zero];have hl:(owns 1 (Daa x ((0:Nat),([]:List Int)))).length=x:=by grind[Mv]
  rw[List.getElem?_append_right (by omega),hl,wac,List.getElem?_replicate,if_pos (by omega)];simp only[List.set_cons_zero,bab,qm,List.length_replicate,Waa,St.mk.injEq,true_and,List.cons.injEq,Ent.live.injEq];refine⟨?_,?_⟩
  .rw[List.set_append,if_neg (by omega),hl,wac,vac (n:=x),vK,Yab];congr 1;obtain⟨k,hk⟩:∃k,n-x=k+1:=⟨n-x-1,by omega⟩
   grind[owns]
  grind[Cd,vac]
theorem FH:oa (Daa n (.v (.slice none 0 0)))=true:=zk.2 λd hd=>by rw[sac hd];rfl
def S1(n:Nat) (rs:List GRule) (i:Nat):St:=⟨ds 3 (.own 0 0::ds 9 (km rs::da (rs.length:Int)::da (i:Int)::ds 42 [])),.live 1 0 (owns 1 (sL n rs i))::Cd (sL n rs i)⟩
theorem W2:S1 n rs i=⟨ds 3 (.own 0 0::ds 9 (km rs::da (rs.length:Int)::da (i:Int)::ds 42 [])),.live 1 0 (owns 1 (sL n rs i))::Cd (sL n rs i)⟩:=Eq.trans rfl rfl
theorem Cs{l:List α}:(l++[x]).set l.length y=l++[y]:=by simp
theorem NO:∀{a b:Nat},a≠b->oW a b=true
 |0,0,h=>(h rfl).elim
 |0,_+1,_=>rfl
 |_+1,0,_=>rfl
 |a+1,b+1,h=>NO (a:=a) (b:=b) λe=>h (by rw[e])
theorem pK{α:Type}{f:α->α}:∀{l:List α}{d:Nat}{p:α},l[d]?=some p->l.modify d f=l.set d (f p)
 |[],_,_,h=>by simp
 |a::l,0,p,h=>by simp_all
 |a::l,d+1,p,h=>by simp only[List.modify_succ_cons,Jac];rw[pK (by simpa using h)]
def A2(L:LL) (j:Nat):List D:=(L.take j).map λp=>qa (Pd p.2)
def S2(n:Nat) (L:LL) (j:Nat):St:=⟨ds 3 (.own 0 0::ds 40 (.own 0 0::da (n:Int)::da (j:Int)::ds 11 [])),.live 1 0 (A2 L j++owns (1+j) (L.drop j))::(Daa j .gone++Cd (L.drop j))⟩
theorem S2_q:S2 n L j=⟨ds 3 (.own 0 0::ds 40 (.own 0 0::da (n:Int)::da (j:Int)::ds 11 [])),.live 1 0 (A2 L j++owns (1+j) (L.drop j))::(Daa j .gone++Cd (L.drop j))⟩:=Eq.trans rfl rfl
theorem A2_free:oa (A2 L j)=true:=by
 refine zk.2 λd hd=>?_;obtain⟨p,-,rfl⟩:=pac.1 hd;exact Fr.h _
theorem S2_fit(h:L.length=n) (hj:j<=n):Fit 0 (S2 n L j):=by
 refine⟨pab _,?_,?_⟩
 .simp_all[S2,belows,Tm.below,Aq,Kr,Me,Fr.h]
 .simp only[S2,nac,List.all_append,Laa];refine⟨?_,?_,uy⟩
  .refine belowsA (Zd _ _ A2_free) (sx ?_)
   grind[qm]
  .rw[fab];intro e he;rw[sac he];rfl
theorem LO(h:A.length=j):(A++x::B)[j]?=some x:=by simp_all
theorem YI(h:A.length=j):(A++x::B).set j y=A++y::B:=by simp_all
theorem S1_fit:Fit 0 (S1 n rs i):=by
 refine⟨pab _,?_,?_⟩
 .simp_all[S1,belows,Tm.below,Aq,Kr,Me,Fr.h]
 .simp only[S1,nac,Laa];refine⟨?_,uy⟩;exact sx (by grind[qm])
theorem allD_T(hd:t0.d.length<=1048576) (hr:t0.f.length<=1048576) (hg:∀r∈t0.f,r.ac.length<=1048576/\r.Value.length<=1048576) :
 Den Tryz.prog 272 [De t0] (kd ((sL t0.d.length t0.f t0.f.length).map λp=>Pd p.2)):=by
 refine dk 57 k272 ?_;simp only[k272,Kf.of,zs,ze];refine ss (rg ?_);have hm:UB 24 ([]:List Int) (t0.d.length:Int) (t0.d.length:Int)=some (Daa t0.d.length []):=by
  grind[UB]
 obtain⟨f2,f3,f4,f5,f6⟩:=dR (e:=qa) hm;(try simp only[zz]);refine ss (rg ?_);(try simp only[zz]at f5 f6);(try simp only[zz,f2,f3,f4,f5]);refine ss (ss (rg ?_));(try simp only[zz,f2,f3,f4,f5]);refine tl (S:=⟨ds 3 (.own 0 0::ds 9 (km t0.f::da (t0.f.length:Int)::da 0::ds 42 [])),[.live 1 0 (Daa t0.d.length (.v (.slice none 0 0)))]⟩) (tq [ok 1] (by simp_all[zg,Gj,FH])) ?_;refine kG (S:=1) (id:=0) (x:=t0.d.length) ?_;rw[xM _ _ _ (Paa _),wac,List.replicate_zero,eab];refine T.blkI t0.f.length (S1 t0.d.length t0.f) (At.same _ _ _ (xa.Dc _)) (λi _=>S1_fit) (λi hi=>?_) oC ?_
 .rw[W2];refine ss (rg ?_);simp only[zz];refine ss (cd rfl ?_);simp only[zz];refine gP.mk (λhc=>?_) (λhc=>?_)
  .have hi:i<t0.f.length:=by omega
   refine sk ?_;simp only[zz];obtain⟨r,hr1⟩:∃r,r=t0.f[i]:=⟨_,rfl⟩;have hidx:idx t0.f (i:Int)=some r:=by grind[idx]
   have g2:t0.f[i]?=some r:=by simp_all
   have hrg:=hg r (by simp_all);have hL:(sL t0.d.length t0.f i).length=t0.d.length:=JU;have hLs:sL t0.d.length t0.f (i+1)=stL t0.d.length (sL t0.d.length t0.f i) r:=by grind[aP]
   have hLb:=KR (n:=t0.d.length) hg (i:=i) (by omega);generalize hLL:sL t0.d.length t0.f i=L at hL hLs hLb⊢;obtain⟨E,hE⟩:∃E,E=Cd L:=⟨_,rfl⟩;have hEl:E.length=L.length:=by rw[hE,qm]
   rw[←hE];refine ss (bk (ss (rg ?_)));simp only[zz,g2,nab,Cs];refine ss (rg ?_);have hol:(owns 1 L).length=t0.d.length:=by rw[Mv,hL]
   have hw:aa .i64 ((i:Int)+1)=((i+1:Nat):Int):=by grind[Rx]
   have skipped:¬(0<=r.s/\r.s<(t0.d.length:Int))->sL t0.d.length t0.f (i+1)=L:=λh=>by rw[hLs];exact if_neg h
   by_cases h0:0<=r.s
   .by_cases h1:r.s<(t0.d.length:Int)
    .simp only[zz,g2,nab,Cs,hol,h0,h1];refine cd rfl ?_;simp only[zz];have hdl:r.s.toNat<L.length:=by omega
     obtain⟨p,hp⟩:∃p,L[r.s.toNat]?=some p:=⟨_,Baa hdl⟩;have hEd:r.s.toNat<E.length:=by omega
     have k0:r.s.toNat<t0.d.length:=by omega
     have k1:(owns 1 L)[r.s.toNat]?=some (.own (r.s.toNat+1) p.1):=by grind[uF]
     have k2:∀y,(E++[y])[r.s.toNat]?=some (.live 1 p.1 (p.2.map da)):=λy=>by
      grind[Cd]
     have k3:∀y e,(E++[y]).set r.s.toNat e=E.set r.s.toNat e++[y]:=λy e=>by simp_all
     have k4:∀e,(owns 1 L).set r.s.toNat e=(owns 1 L).set r.s.toNat e:=λe=>rfl;have hpb:=hLb p (List.mem_of_getElem? hp);have hDb:=uV (n:=t0.d.length) hrg;have k5:(p.2.length+(dOf t0.d.length r).length)*8<=2 ^ 47:=by
      omega
     have k6:oW (E.length+1) (r.s.toNat+1)=true:=NO (by omega);refine ay Xx [[],[],[],[],[],[],[],[],[],[],[],[],[2]] (by kernel_rfl) ?_;simp only[zz,zy,hol,h0,h1,k0,k1,k2,k3,k6,nab,Cs];have hdef:Oe r (t0.d.length:Int)=some (dOf t0.d.length r):=Cv hrg _;refine lq (VA hdef) ?_ (by simp only[zg]);(try simp only[zz]at k5);simp only[zz,zy,hol,h0,h1,k0,k1,k2,k3,k5,k6,nab,Cs];refine⟨k6,rg ?_⟩;simp only[zz,Uw,hw];refine⟨hi,?_⟩;have hst:stL t0.d.length L r=L.set r.s.toNat (p.1+1,p.2++dOf t0.d.length r):=by
      unfold stL;rw[if_pos ⟨h0,h1⟩,pK hp]
     have e1:(owns 1 L).set r.s.toNat (.own (r.s.toNat+1) (p.1+1))=owns 1 (sL t0.d.length t0.f (i+1)):=by
      rw[hLs,hst,←wK,yad 1]
     have e2:E.set r.s.toNat (.live 1 (p.1+1) (p.2.map da++(dOf t0.d.length r).map da))=Cd (sL t0.d.length t0.f (i+1)):=by
      grind[Cd,List.map_set]
     rw[W2,e1,e2,←Waa];exact At.mk _ _ _ _ (by repeat (first|exact xa.Dc _|refine xa.cons (Sub.refl _) ?_|refine xa.cons (Sub.sb _) ?_))
    .simp only[zz,g2,nab,Cs,hol,h0,h1];refine cd rfl ?_;simp only[zz];refine sk ?_;simp only[zz];refine rg ?_;simp only[zz,Uw,hw];refine⟨hi,?_⟩;rw[W2,skipped (λh=>h1 h.2),←hE,←Waa];exact At.mk _ _ _ _ (by repeat (first|exact xa.Dc _|refine xa.cons (Sub.refl _) ?_|refine xa.cons (Sub.sb _) ?_))
   .simp only[zz,g2,nab,Cs,hol,h0];refine cd rfl ?_;simp only[zz];refine sk ?_;simp only[zz];refine rg ?_;simp only[zz,Uw,hw];refine⟨hi,?_⟩;rw[W2,skipped (λh=>h0 h.1),←hE,←Waa];exact At.mk _ _ _ _ (by repeat (first|exact xa.Dc _|refine xa.cons (Sub.refl _) ?_|refine xa.cons (Sub.sb _) ?_))
  .refine xt ?_;simp only[zz,FI];have hi:i=t0.f.length:=by omega
   subst hi;exact⟨rfl,At.same _ _ _ (by repeat (first|exact xa.Dc _|refine xa.cons (Sub.refl _) ?_|refine xa.cons (Sub.sb _) ?_))⟩
 .simp only[zz];rw[W2];have hL:(sL t0.d.length t0.f t0.f.length).length=t0.d.length:=JU;have hLb:=KR (n:=t0.d.length) hg (i:=t0.f.length) (Paa _);generalize sL t0.d.length t0.f t0.f.length=L at hL hLb⊢;have hol:(owns 1 L).length=t0.d.length:=by rw[Mv,hL]
  refine ss (ss (rg ?_));simp only[zz,hol];refine T.blkI t0.d.length (S2 t0.d.length L) ?_ (λj hj=>S2_fit hL hj) (λj hj=>?_) oC ?_
  .rw[S2_q];exact At.same _ _ _ (by repeat (first|exact xa.Dc _|refine xa.cons (Sub.refl _) ?_|refine xa.cons (Sub.sb _) ?_))
  .rw[S2_q];refine ss (rg ?_);simp only[zz];refine ss (cd rfl ?_);simp only[zz];refine gP.mk (λhc=>?_) (λhc=>?_)
   .have hj:j<t0.d.length:=by omega
    have hjL:j<L.length:=by omega
    obtain⟨p,hp⟩:∃p,p=L[j]:=⟨_,rfl⟩;have hdr:L.drop j=p::L.drop (j+1):=by simp_all
    have hpb:=hLb p (by simp_all);have hsort:Vi p.2=some (Pd p.2):=uz (by
     omega)
    have hA:(A2 L j).length=j:=by grind[A2]
    have hG:(Daa j Ent.gone).length=j:=by simp
    rw[hdr];simp only[owns,Cd,List.map_cons];obtain⟨B,hB⟩:∃B,B=owns (1+j+1) (L.drop (j+1)):=⟨_,rfl⟩;obtain⟨F,hF⟩:∃F,F=Cd (L.drop (j+1)):=⟨_,rfl⟩;have hF':(L.drop (j+1)).map (λp=>Ent.live 1 p.1 (p.2.map da))=F:=by rw[hF];rfl
    rw[←hB,hF',yad 1 j];have hBl:(A2 L j++.own (j+1) p.1::B).length=t0.d.length:=by
     grind[Mv]
    refine sk ?_;simp only[zz];refine ss (bk (ss (rg ?_)));simp only[zz,hBl,hj,LO hA,YI hA];refine rg ?_;simp only[zz,hBl,hj,LO hA,YI hA];refine nV (sz hsort) rfl (by simp) ?_;simp only[zz,hBl,hj,LO hA,YI hA,YI hG];refine rg ?_;have hw:aa .i64 ((j:Int)+1)=((j+1:Nat):Int):=by grind[Rx]
    simp only[zz,Uw,hw];refine⟨hj,?_⟩;have hA1:A2 L (j+1)=A2 L j++[qa (Pd p.2)]:=by
     grind[A2]
    have e1:A2 L j++.sl 1 ((Pd p.2).map da)::B=A2 L (j+1)++owns (1+(j+1)) (L.drop (j+1)):=by
     rw[hA1,Yab,hB,show 1+j+1=1+(j+1) by omega];rfl
    have e2:Daa j Ent.gone++Ent.gone::F=Daa (j+1) Ent.gone++Cd (L.drop (j+1)):=by
     grind[vac]
    rw[S2_q,e1,e2];exact At.same _ _ _ (by repeat (first|exact xa.Dc _|refine xa.cons (Sub.refl _) ?_|refine xa.cons (Sub.sb _) ?_))
   .refine xt ?_;simp only[zz,FI];have hj:j=t0.d.length:=by omega
    subst hj;exact⟨rfl,At.same _ _ _ (by repeat (first|exact xa.Dc _|refine xa.cons (Sub.refl _) ?_|refine xa.cons (Sub.sb _) ?_))⟩
  .simp only[zz];rw[S2_q,←hL,List.drop_length];have hA:A2 L L.length=(L.map λp=>Pd p.2).map qa:=by simp[A2]
   rw[hA];simp only[owns,eab];refine T.trim 1 (pab _) (by simp) ?_ ?_ ?_
   .simp_all[belows,Tm.below,Aq,Kr,Me,Fr.h]
   .simp only[xab,sae,nac,List.all_nil,Bool.and_true];exact Zd _ _ (Fr.l _)
   simp only[xab,sae];refine ss (rg ?_);simp only[zz];exact rt (er (by simp only[zz,zr];exact fq (by simp only[zg])))
theorem y9{n:Nat}{rs:List GRule}:∀i,i<=rs.length->∀d,d<n->((sL n rs i)[d]?).map (·.2)=some ((((rs.take i).filter λ(r:GRule)=>r.s==(d:Int)).map (dOf n)).flatten)
 |0,_,d,hd=>by grind[sL]
 |i+1,h,d,hd=>by
  have ih:=y9 (n:=n) (rs:=rs) i (by omega) d hd;rw[aP h,Xaa,Baa h,Option.toList_some,List.filter_append,List.map_append,List.flatten_append]
  grind[stL]
theorem sL_allD:((sL t0.d.length t0.f t0.f.length).map λp=>Pd p.2)=Sj t0:=by
 apply List.ext_getElem?;intro d;unfold Sj;rw[yac,yac];by_cases hd:d<t0.d.length
 .have h:=y9 (n:=t0.d.length) (rs:=t0.f) t0.f.length (Paa _) d hd;rw[List.take_length]at h;rw[List.getElem?_range hd,Cac]
  cases hx:(sL t0.d.length t0.f t0.f.length)[d]? with
  |none=>simp_all
  |some p=>
   rw[hx]at h;simp only[Cac,dab]at h⊢;rw[h];rfl
 grind[JU]
theorem my{r:List (List Int)}(h:Gc t0=some r):Den Tryz.prog 272 [De t0] (kd r):=by
 have h':=h;unfold Gc at h';split at h'
 .rename_i hc;obtain⟨h1,h2,h3⟩:=hc;have hs:=xq ⟨h1,h2,h3⟩;rw[h]at hs;obtain rfl:=wab hs
  grind[allD_T,sL_allD]
 simp_all
instance zI272{t0 r}:Con (Gc t0=some r) (Den Tryz.prog 272 [De t0] (kd r)):=⟨my⟩
end Go.Proofs.Dev
