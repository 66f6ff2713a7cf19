/-
  Contracts of the functions: each answers as its plain partial function says.
-/
import Derived.Test.YtmhfebelfmgckaaGreatDoorQ0
import Derived.Test.YtmhfebelfmgckaaGreatDoorQ1
import Derived.Test.YtmhfebelfmgckaaGreatDoorQ2
import Derived.Test.YtmhfebelfmgckaaGreatDoorQ3
open Option renaming some->M,none->q6
open And renaming intro->ak
open Bool renaming and_eq_true->E'
open List renaming all_cons->ς,all_eq_true->R',append_assoc->P?,append_nil->V!,cons_append->G!,eq_of_mem_replicate->rac,getElem?_concat_length->ο,getElem?_eq_getElem->n!,getElem?_map->wac,length_cons->H!,mem_map->X',replicate->l!,replicate_succ'->Nab,set_cons_succ->sac,take_add_one->O',take_succ_cons->gab,take_zero->qad,length->a00
open Nat renaming add_comm->rad,le_refl->x?,sub_self->vac,zero_le->M'
open Option renaming map_some->zac
open Option.some renaming inj->J!,injEq->T!
set_option linter.all false
set_option maxHeartbeats 1000000
set_option maxRecDepth 10000
namespace Go.Proofs.Dev
open Go Go.Tm
variable {j n i:Nat}{rs:List ke}{α:Type}{x y:α}{A B:List α}{t0:ek}
instance Q1:C1 bV2 Lg:=pg (ak (ak bV2.eq_1 Lg.eq_1) ik.eq_1) (.l (EN [40,3,11,19,33,26,289] [260,268,276]) (EN [40,3,11,19,17] [260,268,276]) [5,5,5] (.z 2 (.j (EN [40,65] [2,266,530]) (.b (.t [256,4,8]) (.b (.t [0,260,8]) (.j (EN [40,65,152,2,129] [0,8,16,24]) .o (.b (.t [0,4,264]) .o)))) .o)) .o)
instance oE:C2 bR6 Af:=pg (ak (ak bR6.eq_1 Af.eq_1) (ak Yg.eq_1 Zg.eq_1)) (.l (EN [8,9,24,3,32,9,152,17,10,273] [260]) (EN [8,9,24,3,32,9] [260]) [5] (.z 2 (.j (EN [8,257] [2]) (.z 1 (.j (EN [8,257,72,2,193] [0]) .o (.b (.t [256]) .o))) .o)) (.l (EN [8,73,304,17,10,129] [2]) (EN [40,41] [2]) [] (.z 2 (.j (EN [8,401] [2]) (.z 1 (.j (EN [8,401,72,2,49] [0]) .o (.b (.t [256]) .o))) .o)) .o))
def RD{t0 t1 r} (h:Af t0 t1=M r):e? Tryz.prog 319 [Ug t0,da t1] (sa r):=oE.h h
abbrev LL:=List (Nat×List Int)
variable {L:LL}
def wj:Nat->LL->List D
 |_,[]=>[]
 |k,p::l=>.own k p.1::wj (k+1) l
def pe(L:LL):List Ent:=L.map λp=>.live 1 p.1 (p.2.map da)
def dOf(n:Nat) (r:ke):List Int:=AL n (UC Eh r.ag)++AL n (UC Eh r.Value)
def stL(n:Nat) (L:LL) (r:ke):LL:=if 0<=r.u/\r.u<n then L.modify r.u.toNat (λp=>(p.1+1,p.2++dOf n r))else L
def sL(n:Nat) (rs:List ke) (i:Nat):LL:=(rs.take i).foldl (stL n) (l! n (0,[]))
theorem py:∀{L:LL}{k:Nat},(wj k L).length=a00 L
 |[],_=>rfl
 |p::l,k=>by simp only[wj,H!,py (L:=l)]
theorem lO:∀{L j4:LL}{k:Nat},wj k (L++j4)=wj k L++wj (k+a00 L) j4
 |[],j4,k=>by simp[wj]
 |p::l,j4,k=>by
  simp only[G!,wj,lO (L:=l),H!]
  grind
theorem vI:∀{L:LL}{k d:Nat},(wj k L)[d]?=L[d]?.map (λp=>.own (k+d) p.1)
 |[],_,_=>by simp[wj]
 |p::l,k,0=>by simp[wj]
 |p::l,k,d+1=>by
  simp only[wj,List.getElem?_cons_succ,vI (L:=l)]
  grind
theorem mO:∀{L:LL}{k d:Nat}{p:Nat×List Int},(wj k L).set d (.own (k+d) p.1)=wj k (L.set d p)
 |[],_,_,_=>by simp[wj]
 |q::l,k,0,p=>by simp[wj]
 |q::l,k,d+1,p=>by
  simp only[wj,sac];rw[show k+(d+1)=k+1+d by omega,mO (L:=l)]
theorem cA:∀{L:LL}{k j:Nat},k+a00 L<=j->j? j (wj k L)=true
 |[],_,_,_=>rfl
 |p::l,k,j,h=>by
  simp only[H!]at h;simp only[wj,j?,Tm.below,E',w2];exact⟨U,cA U⟩
theorem Rn:(pe L).length=a00 L:=by simp[pe]
theorem WA:(pe L).all (Ent.below j)=true:=by
 rw[R'];intro e he;obtain⟨p,-,rfl⟩:=X'.1 he;exact Sb _ _ (Fr.l _)
theorem aA7{r:ke}:(stL n L r).length=a00 L:=by
 grind[stL]
theorem YQ{n:Nat}:∀{rs:List ke}{L:LL},(rs.foldl (stL n) L).length=a00 L
 |[],_=>rfl
 |r::rs,L=>by simp only[List.foldl_cons,YQ (rs:=rs),aA7]
theorem FZ:(sL n rs i).length=n:=by grind[sL,YQ]
theorem xT(h:i<a00 rs):sL n rs (i+1)=stL n (sL n rs i) rs[i]:=by
 grind[sL,O']
theorem aK4{n:Int}{l:List Int}:(AL n l).length<=a00 l:=List.length_filter_le _ _
theorem X0{r:ke}(h:r.ag.length<=1048576/\r.Value.length<=1048576):(dOf n r).length<=2097152:=by
 grind[dOf,aK4,Us]
theorem FW(hg:∀r∈rs,a00 r.ag<=1048576/\r.Value.length<=1048576):∀{i:Nat},i<=a00 rs->∀p∈sL n rs i,a00 p.2<=2097152*i:=by
 intro i
 induction i with
 |zero=>
  grind[sL]
 |succ i ih=>
  intro h p hp;have ih:=ih (Nat.le_of_succ_le h);have hD:=X0 (n:=n) (hg rs[i] (List.getElem_mem h));have hs:2097152*(i+1)=2097152*i+2097152:=Nat.mul_succ _ _;rw[xT h]at hp;unfold stL at hp;split at hp
  .obtain⟨d,hd,rfl⟩:=List.getElem_of_mem hp
   grind
  grind
theorem zQ(t:List D) (n:Nat):∀x,x<=n->LA 1 0 x ⟨t,[.live 1 0 (l! n (.v (.slice q6 0 0)))]⟩=⟨t,.live 1 0 (wj 1 (l! x (0,[]))++l! (n-x) (.v (.slice q6 0 0)))::pe (l! x (0,[]))⟩
 |0,_=>by simp[LA,wj,pe]
 |x+1,h=>by
  rw[LA,zQ t n x U];unfold IM;simp only[List.getElem?_cons_zero];have hl:(wj 1 (l! x ((0:Nat),([]:List Int)))).length=x:=by grind[py]
  rw[List.getElem?_append_right U,hl,vac,List.getElem?_replicate,J];simp only[List.set_cons_zero,H!,Rn,List.length_replicate,G!,St.mk.injEq,G2,List.cons.injEq,Ent.live.injEq];refine⟨?_,?_⟩
  .rw[List.set_append,p5,hl,vac,Nab (n:=x),lO,P?];congr 1;obtain⟨k,hk⟩:∃k,n-x=k+1:=⟨n-x-1,U⟩
   grind[wj]
  grind[pe,Nab]
theorem TK:oa (l! n (.v (.slice q6 0 0)))=true:=bm.2 λd hd=>by rw[rac hd];rfl
def S1(n:Nat) (rs:List ke) (i:Nat):St:=⟨ds 3 (.own 0 0::ds 9 (Pn rs::da (a00 rs:Int)::da (i:Int)::ds 42 [])),.live 1 0 (wj 1 (sL n rs i))::pe (sL n rs i)⟩
def aw0:S1 n rs i=⟨ds 3 (.own 0 0::ds 9 (Pn rs::da (a00 rs:Int)::da (i:Int)::ds 42 [])),.live 1 0 (wj 1 (sL n rs i))::pe (sL n rs i)⟩:=d?
theorem Ru{l:List α}:(l++[x]).set l.length y=l++[y]:=l5
theorem XS:∀{a b:Nat},a≠b->WV a b=true
 |0,0,h=>(h rfl).elim
 |0,_+1,_=>rfl
 |_+1,0,_=>rfl
 |a+1,b+1,h=>XS (a:=a) (b:=b) λe=>h (by rw[e])
theorem dO{α:Type}{f:α->α}:∀{l:List α}{d:Nat}{p:α},l[d]?=M p->l.modify d f=l.set d (f p)
 |[],_,_,h=>l5
 |a::l,0,p,h=>l4
 |a::l,d+1,p,h=>by simp only[List.modify_succ_cons,sac];rw[dO (by simpa using h)]
def A2(L:LL) (j:Nat):List D:=(L.take j).map λp=>sa (Vd p.2)
def S2(n:Nat) (L:LL) (j:Nat):St:=⟨ds 3 (.own 0 0::ds 40 (.own 0 0::da (n:Int)::da (j:Int)::ds 11 [])),.live 1 0 (A2 L j++wj (1+j) (L.drop j))::(l! j .gone++pe (L.drop j))⟩
def aS1:S2 n L j=⟨ds 3 (.own 0 0::ds 40 (.own 0 0::da (n:Int)::da (j:Int)::ds 11 [])),.live 1 0 (A2 L j++wj (1+j) (L.drop j))::(l! j .gone++pe (L.drop j))⟩:=d?
theorem aT6:oa (A2 L j)=true:=by
 refine bm.2 λd hd=>?_;obtain⟨p,-,rfl⟩:=X'.1 hd;exact Fr.h _
theorem bs7(h:L.length=n) (hj:j<=n):δ 0 (S2 n L j):=by
 refine⟨M' _,?_,?_⟩
 .simp_all[S2,j?,Tm.below,Cn,kp,Nc,Fr.h]
 .simp only[S2,ς,List.all_append,E'];refine⟨?_,?_,WA⟩
  .refine aQ8 (Sb _ _ aT6) (cA ?_)
   grind[Rn]
  .rw[R'];intro e he;rw[rac he];rfl
theorem VS(h:A.length=j):(A++x::B)[j]?=M x:=l4
theorem tM(h:A.length=j):(A++x::B).set j y=A++y::B:=l4
theorem bs8:δ 0 (S1 n rs i):=by
 refine⟨M' _,?_,?_⟩
 .simp_all[S1,j?,Tm.below,Cn,kp,Nc,Fr.h]
 .simp only[S1,ς,E'];refine⟨?_,WA⟩;exact cA (by grind[Rn])
theorem bs4(hd:t0.d.length<=1048576) (hr:t0.f.length<=1048576) (hg:∀r∈t0.f,a00 r.ag<=1048576/\r.Value.length<=1048576) :
 e? Tryz.prog 272 [pf t0] (Qd ((sL t0.d.length t0.f t0.f.length).map λp=>Vd p.2)):=by
 refine dk 57 bV3 ?_;simp only[bV3,Kf.of,zs,ze];refine ss (rg ?_);have hm:fD 24 ([]:List Int) (a00 t0.d:Int) (a00 t0.d:Int)=M (l! t0.d.length []):=by
  grind[fD]
 obtain⟨f2,f3,f4,f5,f6⟩:=QV (e:=sa) hm;(try simp only[zz]);refine ss (rg ?_);(try simp only[zz]at f5 f6);(try simp only[zz,f2,f3,f4,f5]);refine ss (ss (rg ?_));(try simp only[zz,f2,f3,f4,f5]);refine tl (S:=⟨ds 3 (.own 0 0::ds 9 (Pn t0.f::da (a00 t0.f:Int)::da 0::ds 42 [])),[.live 1 0 (l! t0.d.length (.v (.slice q6 0 0)))]⟩) (tq [ok 1] (by simp_all[zg,Yk,TK])) ?_;refine nJ (S:=1) (id:=0) (x:=a00 t0.d) ?_;rw[zQ _ _ _ (x? _),vac,List.replicate_zero,V!];refine T.G6 t0.f.length (S1 t0.d.length t0.f) (At.same _ _ _ (ua.Ab _)) (λi _=>bs8) (λi hi=>?_) wA ?_
 .rw[aw0];refine ss (rg ?_);simp only[zz];refine ss (cd rfl ?_);simp only[zz];refine gP.mk (λhc=>?_) (λhc=>?_)
  .have hi:i<a00 t0.f:=U
   refine sk ?_;simp only[zz];obtain⟨r,hr1⟩:∃r,r=t0.f[i]:=⟨_,rfl⟩;have hidx:c! t0.f (i:Int)=M r:=by grind[c!]
   have g2:t0.f[i]?=M r:=l4
   have hrg:=hg r l4;have hL:(sL t0.d.length t0.f i).length=a00 t0.d:=FZ;have hLs:sL t0.d.length t0.f (i+1)=stL t0.d.length (sL t0.d.length t0.f i) r:=by grind[xT]
   have hLb:=FW (n:=a00 t0.d) hg (i:=i) U;generalize hLL:sL t0.d.length t0.f i=L at hL hLs hLb⊢;obtain⟨E,hE⟩:∃E,E=pe L:=⟨_,rfl⟩;have hEl:E.length=a00 L:=by rw[hE,Rn]
   rw[←hE];refine ss (bk (ss (rg ?_)));simp only[zz,g2,ο,Ru];refine ss (rg ?_);have hol:(wj 1 L).length=a00 t0.d:=by rw[py,hL]
   have hw:aa .i64 ((i:Int)+1)=((i+1:Nat):Int):=by grind[BA]
   have skipped:¬(0<=r.u/\r.u<(a00 t0.d:Int))->sL t0.d.length t0.f (i+1)=L:=λh=>by rw[hLs];exact p5 h
   by_cases h0:0<=r.u
   .by_cases h1:r.u<(a00 t0.d:Int)
    .simp only[zz,g2,ο,Ru,hol,h0,h1];refine cd rfl ?_;simp only[zz];have hdl:r.u.toNat<a00 L:=U
     obtain⟨p,hp⟩:∃p,L[r.u.toNat]?=M p:=⟨_,n! hdl⟩;have hEd:r.u.toNat<a00 E:=U
     have k0:r.u.toNat<a00 t0.d:=U
     have k1:(wj 1 L)[r.u.toNat]?=M (.own (r.u.toNat+1) p.1):=by grind[vI]
     have k2:∀y,(E++[y])[r.u.toNat]?=M (.live 1 p.1 (p.2.map da)):=λy=>by
      grind[pe]
     have k3:∀y e,(E++[y]).set r.u.toNat e=E.set r.u.toNat e++[y]:=λy e=>l4
     have k4:∀e,(wj 1 L).set r.u.toNat e=(wj 1 L).set r.u.toNat e:=λe=>rfl;have hpb:=hLb p (List.mem_of_getElem? hp);have hDb:=X0 (n:=a00 t0.d) hrg;have k5:(a00 p.2+(dOf t0.d.length r).length)*8<=2 ^ 47:=by
      omega
     have k6:WV (a00 E+1) (r.u.toNat+1)=true:=XS U;refine ay rz [[],[],[],[],[],[],[],[],[],[],[],[],[2]] U? ?_;simp only[zz,zy,hol,h0,h1,k0,k1,k2,k3,k6,ο,Ru];have hdef:Af r (a00 t0.d:Int)=M (dOf t0.d.length r):=cy hrg _;refine lq (RD hdef) ?_ (by simp only[zg]);(try simp only[zz]at k5);simp only[zz,zy,hol,h0,h1,k0,k1,k2,k3,k5,k6,ο,Ru];refine⟨k6,rg ?_⟩;simp only[zz,Kn,hw];refine⟨hi,?_⟩;have hst:stL t0.d.length L r=L.set r.u.toNat (p.1+1,p.2++dOf t0.d.length r):=by
      unfold stL;rw[J ⟨h0,h1⟩,dO hp]
     have e1:(wj 1 L).set r.u.toNat (.own (r.u.toNat+1) (p.1+1))=wj 1 (sL t0.d.length t0.f (i+1)):=by
      rw[hLs,hst,←mO,rad 1]
     have e2:E.set r.u.toNat (.live 1 (p.1+1) (p.2.map da++(dOf t0.d.length r).map da))=pe (sL t0.d.length t0.f (i+1)):=by
      grind[pe,List.map_set]
     rw[aw0,e1,e2,←G!];exact At.mk _ _ _ _ C'
    .simp only[zz,g2,ο,Ru,hol,h0,h1];refine cd rfl ?_;simp only[zz];refine sk ?_;simp only[zz];refine rg ?_;simp only[zz,Kn,hw];refine⟨hi,?_⟩;rw[aw0,skipped (λh=>h1 h.2),←hE,←G!];exact At.mk _ _ _ _ C'
   .simp only[zz,g2,ο,Ru,hol,h0];refine cd rfl ?_;simp only[zz];refine sk ?_;simp only[zz];refine rg ?_;simp only[zz,Kn,hw];refine⟨hi,?_⟩;rw[aw0,skipped (λh=>h0 h.1),←hE,←G!];exact At.mk _ _ _ _ C'
  .refine xt ?_;simp only[zz,OC];have hi:i=a00 t0.f:=U
   subst hi;exact⟨rfl,At.same _ _ _ C'⟩
 .simp only[zz];rw[aw0];have hL:(sL t0.d.length t0.f t0.f.length).length=a00 t0.d:=FZ;have hLb:=FW (n:=a00 t0.d) hg (i:=a00 t0.f) (x? _);generalize sL t0.d.length t0.f t0.f.length=L at hL hLb⊢;have hol:(wj 1 L).length=a00 t0.d:=by rw[py,hL]
  refine ss (ss (rg ?_));simp only[zz,hol];refine T.G6 t0.d.length (S2 t0.d.length L) ?_ (λj hj=>bs7 hL hj) (λj hj=>?_) wA ?_
  .rw[aS1];exact At.same _ _ _ C'
  .rw[aS1];refine ss (rg ?_);simp only[zz];refine ss (cd rfl ?_);simp only[zz];refine gP.mk (λhc=>?_) (λhc=>?_)
   .have hj:j<a00 t0.d:=U
    have hjL:j<a00 L:=U
    obtain⟨p,hp⟩:∃p,p=L[j]:=⟨_,rfl⟩;have hdr:L.drop j=p::L.drop (j+1):=l4
    have hpb:=hLb p l4;have hsort:ck p.2=M (Vd p.2):=XB (by
     omega)
    have hA:(A2 L j).length=j:=by grind[A2]
    have hG:(l! j Ent.gone).length=j:=l5
    rw[hdr];simp only[wj,pe,List.map_cons];obtain⟨B,hB⟩:∃B,B=wj (1+j+1) (L.drop (j+1)):=⟨_,rfl⟩;obtain⟨F,hF⟩:∃F,F=pe (L.drop (j+1)):=⟨_,rfl⟩;have hF':(L.drop (j+1)).map (λp=>Ent.live 1 p.1 (p.2.map da))=F:=by rw[hF];rfl
    rw[←hB,hF',rad 1 j];have hBl:(A2 L j++.own (j+1) p.1::B).length=a00 t0.d:=by
     grind[py]
    refine sk ?_;simp only[zz];refine ss (bk (ss (rg ?_)));simp only[zz,hBl,hj,VS hA,tM hA];refine rg ?_;simp only[zz,hBl,hj,VS hA,tM hA];refine O0 (WB hsort) rfl l5 ?_;simp only[zz,hBl,hj,VS hA,tM hA,tM hG];refine rg ?_;have hw:aa .i64 ((j:Int)+1)=((j+1:Nat):Int):=by grind[BA]
    simp only[zz,Kn,hw];refine⟨hj,?_⟩;have hA1:A2 L (j+1)=A2 L j++[sa (Vd p.2)]:=by
     grind[A2]
    have e1:A2 L j++.sl 1 ((Vd p.2).map da)::B=A2 L (j+1)++wj (1+(j+1)) (L.drop (j+1)):=by
     rw[hA1,P?,hB,show 1+j+1=1+(j+1) by omega];rfl
    have e2:l! j Ent.gone++Ent.gone::F=l! (j+1) Ent.gone++pe (L.drop (j+1)):=by
     grind[Nab]
    rw[aS1,e1,e2];exact At.same _ _ _ C'
   .refine xt ?_;simp only[zz,OC];have hj:j=a00 t0.d:=U
    subst hj;exact⟨rfl,At.same _ _ _ C'⟩
  .simp only[zz];rw[aS1,←hL,List.drop_length];have hA:A2 L L.length=(L.map λp=>Vd p.2).map sa:=by simp[A2]
   rw[hA];simp only[wj,V!];refine T.trim 1 (M' _) l5 ?_ ?_ ?_
   .simp_all[j?,Tm.below,Cn,kp,Nc,Fr.h]
   .simp only[gab,qad,ς,List.all_nil,Bool.and_true];exact Sb _ _ (Fr.l _)
   simp only[gab,qad];refine ss (rg ?_);simp only[zz];exact rt (er (by simp only[zz,zr];exact fq (by simp only[zg])))
theorem ag8{n:Nat}{rs:List ke}:∀i,i<=a00 rs->∀d,d<n->((sL n rs i)[d]?).map (·.2)=M ((((rs.take i).filter λ(r:ke)=>r.u==(d:Int)).map (dOf n)).flatten)
 |0,_,d,hd=>by grind[sL]
 |i+1,h,d,hd=>by
  have ih:=ag8 (n:=n) (rs:=rs) i U d hd;rw[xT h,O',n! h,Option.toList_some,List.filter_append,List.map_append,List.flatten_append]
  grind[stL]
theorem aD5:((sL t0.d.length t0.f t0.f.length).map λp=>Vd p.2)=Fl t0:=by
 apply List.ext_getElem?;intro d;unfold Fl;rw[wac,wac];by_cases hd:d<a00 t0.d
 .have h:=ag8 (n:=a00 t0.d) (rs:=t0.f) t0.f.length (x? _) d hd;rw[List.take_length]at h;rw[List.getElem?_range hd,zac]
  cases hx:(sL t0.d.length t0.f t0.f.length)[d]? with
  |none=>simp_all
  |some p=>
   rw[hx]at h;simp only[zac,T!]at h⊢;rw[h];rfl
 grind[FZ]
theorem QA{r:List (List Int)}(h:Yc t0=M r):e? Tryz.prog 272 [pf t0] (Qd r):=by
 have h':=h;unfold Yc at h';split at h'
 .rename_i hc;obtain⟨h1,h2,h3⟩:=hc;have hs:=Ts ⟨h1,h2,h3⟩;rw[h]at hs;obtain rfl:=J! hs
  grind[bs4,aD5]
 simp_all
instance aew{t0 r}:o! (Yc t0=M r) (e? Tryz.prog 272 [pf t0] (Qd r)):=⟨QA⟩
end Go.Proofs.Dev
