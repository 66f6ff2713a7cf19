/-
  Contracts of the functions: each answers as its plain partial function says.
-/
import Derived.Test.YtadinajclolmnaaGreatDoorQ0
import Derived.Test.YtadinajclolmnaaGreatDoorQ1
import Derived.Test.YtadinajclolmnaaGreatDoorQ2
import Derived.Test.YtadinajclolmnaaGreatDoorQ3
open Option renaming some->M,none->u4
open And renaming intro->ak
open Bool renaming and_eq_true->D?
open List renaming all_cons->Iag,all_eq_true->Λ,append_assoc->H!,append_nil->R?,cons_append->B',eq_of_mem_replicate->Lah,getElem?_concat_length->Iaf,getElem?_eq_getElem->x!,getElem?_map->Oag,length_cons->w!,mem_map->V!,replicate->h!,replicate_succ'->Rag,set_cons_succ->Μ,take_add_one->Ι,take_succ_cons->Χ,take_zero->Bag,length->a00
open Nat renaming add_comm->Qah,le_refl->A',sub_self->tah,zero_le->Q?
open Option renaming map_some->Β
open Option.some renaming inj->R',injEq->M?
set_option linter.all false
set_option maxHeartbeats 1000000
set_option maxRecDepth 10000
namespace Go.Proofs.Dev
open Go Go.Tm
variable {j n i:Nat}{rs:List ke}{α:Type}{x y:α}{A B:List α}{t0:fr}
instance XX:C1 bt8 Of:=pg (ak (ak bt8.eq_1 Of.eq_1) di.eq_1) (.l (EN [40,3,11,19,33,26,289] [260,268,276]) (EN [40,3,11,19,17] [260,268,276]) [5,5,5] (.z 2 (.j (EN [40,65] [2,266,530]) (.b (.t [256,4,8]) (.b (.t [0,260,8]) (.j (EN [40,65,152,2,129] [0,8,16,24]) .o (.b (.t [0,4,264]) .o)))) .o)) .o)
instance Xz:C2 bs4 Qe:=pg (ak (ak bs4.eq_1 Qe.eq_1) (ak Yf.eq_1 Zf.eq_1)) (.l (EN [8,9,24,3,32,9,152,17,10,273] [260]) (EN [8,9,24,3,32,9] [260]) [5] (.z 2 (.j (EN [8,257] [2]) (.z 1 (.j (EN [8,257,72,2,193] [0]) .o (.b (.t [256]) .o))) .o)) (.l (EN [8,73,304,17,10,129] [2]) (EN [40,41] [2]) [] (.z 2 (.j (EN [8,401] [2]) (.z 1 (.j (EN [8,401,72,2,49] [0]) .o (.b (.t [256]) .o))) .o)) .o))
def Bz{t0 t1 r} (h:Qe t0 t1=M r):k! Tryz.prog 252 [Tf t0,da t1] (pb r):=Xz.h h
abbrev LL:=List (Nat×List Int)
variable {L:LL}
def t?:Nat->LL->List D
 |_,[]=>[]
 |k,p::l=>.own k p.1::t? (k+1) l
def od(L:LL):List Ent:=L.map λp=>.live 1 p.1 (p.2.map da)
def dOf(n:Nat) (r:ke):List Int:=jH n (jF Cl r.ak)++jH n (jF Cl r.Value)
def stL(n:Nat) (L:LL) (r:ke):LL:=if 0<=r.ac/\r.ac<n then L.modify r.ac.toNat (λp=>(p.1+1,p.2++dOf n r))else L
def sL(n:Nat) (rs:List ke) (i:Nat):LL:=(rs.take i).foldl (stL n) (h! n (0,[]))
theorem vu:∀{L:LL}{k:Nat},(t? k L).length=a00 L
 |[],_=>rfl
 |p::l,k=>by simp only[t?,w!,vu (L:=l)]
theorem dK:∀{L n6:LL}{k:Nat},t? k (L++n6)=t? k L++t? (k+a00 L) n6
 |[],n6,k=>by simp[t?]
 |p::l,n6,k=>by
  simp only[B',t?,dK (L:=l),w!]
  grind
theorem AE:∀{L:LL}{k d:Nat},(t? k L)[d]?=L[d]?.map (λp=>.own (k+d) p.1)
 |[],_,_=>by simp[t?]
 |p::l,k,0=>by simp[t?]
 |p::l,k,d+1=>by
  simp only[t?,List.getElem?_cons_succ,AE (L:=l)]
  grind
theorem eK:∀{L:LL}{k d:Nat}{p:Nat×List Int},(t? k L).set d (.own (k+d) p.1)=t? k (L.set d p)
 |[],_,_,_=>by simp[t?]
 |q::l,k,0,p=>by simp[t?]
 |q::l,k,d+1,p=>by
  simp only[t?,Μ];rw[show k+(d+1)=k+1+d by omega,eK (L:=l)]
theorem Yv:∀{L:LL}{k j:Nat},k+a00 L<=j->f? j (t? k L)=true
 |[],_,_,_=>rfl
 |p::l,k,j,h=>by
  simp only[w!]at h;simp only[t?,f?,Tm.below,D?,R2];exact⟨U,Yv U⟩
theorem Hk:(od L).length=a00 L:=by simp[od]
theorem Nw:(od L).all (Ent.below j)=true:=by
 rw[Λ];intro e he;obtain⟨p,-,rfl⟩:=V!.1 he;exact ua _ _ (Fr.l _)
theorem ag6{r:ke}:(stL n L r).length=a00 L:=by
 grind[stL]
theorem RM{n:Nat}:∀{rs:List ke}{L:LL},(rs.foldl (stL n) L).length=a00 L
 |[],_=>rfl
 |r::rs,L=>by simp only[List.foldl_cons,RM (rs:=rs),ag6]
theorem uW:(sL n rs i).length=n:=by grind[sL,RM]
theorem pP(h:i<a00 rs):sL n rs (i+1)=stL n (sL n rs i) rs[i]:=by
 grind[sL,Ι]
theorem aq9{n:Int}{l:List Int}:(jH n l).length<=a00 l:=List.length_filter_le _ _
theorem vX{r:ke}(h:r.ak.length<=1048576/\r.Value.length<=1048576):(dOf n r).length<=2097152:=by
 grind[dOf,aq9,aB]
theorem VS(hg:∀r∈rs,a00 r.ak<=1048576/\r.Value.length<=1048576):∀{i:Nat},i<=a00 rs->∀p∈sL n rs i,a00 p.2<=2097152*i:=by
 intro i
 induction i with
 |zero=>
  grind[sL]
 |succ i ih=>
  intro h p hp;have ih:=ih (Nat.le_of_succ_le h);have hD:=vX (n:=n) (hg rs[i] (List.getElem_mem h));have hs:2097152*(i+1)=2097152*i+2097152:=Nat.mul_succ _ _;rw[pP h]at hp;unfold stL at hp;split at hp
  .obtain⟨d,hd,rfl⟩:=List.getElem_of_mem hp
   grind
  grind
theorem jM(t:List D) (n:Nat):∀x,x<=n->dv 1 0 x ⟨t,[.live 1 0 (h! n (.v (.slice u4 0 0)))]⟩=⟨t,.live 1 0 (t? 1 (h! x (0,[]))++h! (n-x) (.v (.slice u4 0 0)))::od (h! x (0,[]))⟩
 |0,_=>by simp[dv,t?,od]
 |x+1,h=>by
  rw[dv,jM t n x U];unfold sI;simp only[List.getElem?_cons_zero];have hl:(t? 1 (h! x ((0:Nat),([]:List Int)))).length=x:=by grind[vu]
  rw[List.getElem?_append_right U,hl,tah,List.getElem?_replicate,J];simp only[List.set_cons_zero,w!,Hk,List.length_replicate,B',St.mk.injEq,aaD,List.cons.injEq,Ent.live.injEq];refine⟨?_,?_⟩
  .rw[List.set_append,s7,hl,tah,Rag (n:=x),dK,H!];congr 1;obtain⟨k,hk⟩:∃k,n-x=k+1:=⟨n-x-1,U⟩
   grind[t?]
  grind[od,Rag]
theorem IG:ea (h! n (.v (.slice u4 0 0)))=true:=Ch.2 λd hd=>by rw[Lah hd];rfl
def S1(n:Nat) (rs:List ke) (i:Nat):St:=⟨ds 3 (.own 0 0::ds 9 (Fk rs::da (a00 rs:Int)::da (i:Int)::ds 42 [])),.live 1 0 (t? 1 (sL n rs i))::od (sL n rs i)⟩
def R8:S1 n rs i=⟨ds 3 (.own 0 0::ds 9 (Fk rs::da (a00 rs:Int)::da (i:Int)::ds 42 [])),.live 1 0 (t? 1 (sL n rs i))::od (sL n rs i)⟩:=f'
theorem xq{l:List α}:(l++[x]).set l.length y=l++[y]:=p6
theorem ZO:∀{a b:Nat},a≠b->qS a b=true
 |0,0,h=>(h rfl).elim
 |0,_+1,_=>rfl
 |_+1,0,_=>rfl
 |a+1,b+1,h=>ZO (a:=a) (b:=b) λe=>h (by rw[e])
theorem XJ{α:Type}{f:α->α}:∀{l:List α}{d:Nat}{p:α},l[d]?=M p->l.modify d f=l.set d (f p)
 |[],_,_,h=>p6
 |a::l,0,p,h=>p5
 |a::l,d+1,p,h=>by simp only[List.modify_succ_cons,Μ];rw[XJ (by simpa using h)]
def A2(L:LL) (j:Nat):List D:=(L.take j).map λp=>pb (ph p.2)
def S2(n:Nat) (L:LL) (j:Nat):St:=⟨ds 3 (.own 0 0::ds 40 (.own 0 0::da (n:Int)::da (j:Int)::ds 11 [])),.live 1 0 (A2 L j++t? (1+j) (L.drop j))::(h! j .gone++od (L.drop j))⟩
def az3:S2 n L j=⟨ds 3 (.own 0 0::ds 40 (.own 0 0::da (n:Int)::da (j:Int)::ds 11 [])),.live 1 0 (A2 L j++t? (1+j) (L.drop j))::(h! j .gone++od (L.drop j))⟩:=f'
theorem aA8:ea (A2 L j)=true:=by
 refine Ch.2 λd hd=>?_;obtain⟨p,-,rfl⟩:=V!.1 hd;exact Fr.h _
theorem bc0(h:L.length=n) (hj:j<=n):Fit 0 (S2 n L j):=by
 refine⟨Q? _,?_,?_⟩
 .simp_all[S2,f?,Tm.below,Yj,Ml,bb,Fr.h]
 .simp only[S2,Iag,List.all_append,D?];refine⟨?_,?_,Nw⟩
  .refine HD (ua _ _ aA8) (Yv ?_)
   grind[Hk]
  .rw[Λ];intro e he;rw[Lah he];rfl
theorem YO(h:A.length=j):(A++x::B)[j]?=M x:=p5
theorem VH(h:A.length=j):(A++x::B).set j y=A++y::B:=p5
theorem bc1:Fit 0 (S1 n rs i):=by
 refine⟨Q? _,?_,?_⟩
 .simp_all[S1,f?,Tm.below,Yj,Ml,bb,Fr.h]
 .simp only[S1,Iag,D?];refine⟨?_,Nw⟩;exact Yv (by grind[Hk])
theorem bb6(hd:t0.f.length<=1048576) (hr:t0.n.length<=1048576) (hg:∀r∈t0.n,a00 r.ak<=1048576/\r.Value.length<=1048576) :
 k! Tryz.prog 229 [Gd t0] (Xc ((sL t0.f.length t0.n t0.n.length).map λp=>ph p.2)):=by
 refine dk 57 bt9 ?_;simp only[bt9,Kf.of,zs,ze];refine ss (rg ?_);have hm:uz 24 ([]:List Int) (a00 t0.f:Int) (a00 t0.f:Int)=M (h! t0.f.length []):=by
  grind[uz]
 obtain⟨f2,f3,f4,f5,f6⟩:=oS (e:=pb) hm;(try simp only[zz]);refine ss (rg ?_);(try simp only[zz]at f5 f6);(try simp only[zz,f2,f3,f4,f5]);refine ss (ss (rg ?_));(try simp only[zz,f2,f3,f4,f5]);refine tl (S:=⟨ds 3 (.own 0 0::ds 9 (Fk t0.n::da (a00 t0.n:Int)::da 0::ds 42 [])),[.live 1 0 (h! t0.f.length (.v (.slice u4 0 0)))]⟩) (tq [ok 1] (by simp_all[zg,vh,IG])) ?_;refine XA (S:=1) (id:=0) (x:=a00 t0.f) ?_;rw[jM _ _ _ (A' _),tah,List.replicate_zero,R?];refine T.LB t0.n.length (S1 t0.f.length t0.n) (At.same _ _ _ (fa.Da _)) (λi _=>bc1) (λi hi=>?_) Oi ?_
 .rw[R8];refine ss (rg ?_);simp only[zz];refine ss (cd rfl ?_);simp only[zz];refine gP.mk (λhc=>?_) (λhc=>?_)
  .have hi:i<a00 t0.n:=U
   refine sk ?_;simp only[zz];obtain⟨r,hr1⟩:∃r,r=t0.n[i]:=⟨_,rfl⟩;have hidx:e! t0.n (i:Int)=M r:=by grind[e!]
   have g2:t0.n[i]?=M r:=p5
   have hrg:=hg r p5;have hL:(sL t0.f.length t0.n i).length=a00 t0.f:=uW;have hLs:sL t0.f.length t0.n (i+1)=stL t0.f.length (sL t0.f.length t0.n i) r:=by grind[pP]
   have hLb:=VS (n:=a00 t0.f) hg (i:=i) U;generalize hLL:sL t0.f.length t0.n i=L at hL hLs hLb⊢;obtain⟨E,hE⟩:∃E,E=od L:=⟨_,rfl⟩;have hEl:E.length=a00 L:=by rw[hE,Hk]
   rw[←hE];refine ss (bk (ss (rg ?_)));simp only[zz,g2,Iaf,xq];refine ss (rg ?_);have hol:(t? 1 L).length=a00 t0.f:=by rw[vu,hL]
   have hw:aa .i64 ((i:Int)+1)=((i+1:Nat):Int):=by grind[De]
   have skipped:¬(0<=r.ac/\r.ac<(a00 t0.f:Int))->sL t0.f.length t0.n (i+1)=L:=λh=>by rw[hLs];exact s7 h
   by_cases h0:0<=r.ac
   .by_cases h1:r.ac<(a00 t0.f:Int)
    .simp only[zz,g2,Iaf,xq,hol,h0,h1];refine cd rfl ?_;simp only[zz];have hdl:r.ac.toNat<a00 L:=U
     obtain⟨p,hp⟩:∃p,L[r.ac.toNat]?=M p:=⟨_,x! hdl⟩;have hEd:r.ac.toNat<a00 E:=U
     have k0:r.ac.toNat<a00 t0.f:=U
     have k1:(t? 1 L)[r.ac.toNat]?=M (.own (r.ac.toNat+1) p.1):=by grind[AE]
     have k2:∀y,(E++[y])[r.ac.toNat]?=M (.live 1 p.1 (p.2.map da)):=λy=>by
      grind[od]
     have k3:∀y e,(E++[y]).set r.ac.toNat e=E.set r.ac.toNat e++[y]:=λy e=>p5
     have k4:∀e,(t? 1 L).set r.ac.toNat e=(t? 1 L).set r.ac.toNat e:=λe=>rfl;have hpb:=hLb p (List.mem_of_getElem? hp);have hDb:=vX (n:=a00 t0.f) hrg;have k5:(a00 p.2+(dOf t0.f.length r).length)*8<=2 ^ 47:=by
      omega
     have k6:qS (a00 E+1) (r.ac.toNat+1)=true:=ZO U;refine ay Ie [[],[],[],[],[],[],[],[],[],[],[],[],[2]] aaK ?_;simp only[zz,zy,hol,h0,h1,k0,k1,k2,k3,k6,Iaf,xq];have hdef:Qe r (a00 t0.f:Int)=M (dOf t0.f.length r):=eu hrg _;refine lq (Bz hdef) ?_ (by simp only[zg]);(try simp only[zz]at k5);simp only[zz,zy,hol,h0,h1,k0,k1,k2,k3,k5,k6,Iaf,xq];refine⟨k6,rg ?_⟩;simp only[zz,Qi,hw];refine⟨hi,?_⟩;have hst:stL t0.f.length L r=L.set r.ac.toNat (p.1+1,p.2++dOf t0.f.length r):=by
      unfold stL;rw[J ⟨h0,h1⟩,XJ hp]
     have e1:(t? 1 L).set r.ac.toNat (.own (r.ac.toNat+1) (p.1+1))=t? 1 (sL t0.f.length t0.n (i+1)):=by
      rw[hLs,hst,←eK,Qah 1]
     have e2:E.set r.ac.toNat (.live 1 (p.1+1) (p.2.map da++(dOf t0.f.length r).map da))=od (sL t0.f.length t0.n (i+1)):=by
      grind[od,List.map_set]
     rw[R8,e1,e2,←B'];exact At.mk _ _ _ _ B!
    .simp only[zz,g2,Iaf,xq,hol,h0,h1];refine cd rfl ?_;simp only[zz];refine sk ?_;simp only[zz];refine rg ?_;simp only[zz,Qi,hw];refine⟨hi,?_⟩;rw[R8,skipped (λh=>h1 h.2),←hE,←B'];exact At.mk _ _ _ _ B!
   .simp only[zz,g2,Iaf,xq,hol,h0];refine cd rfl ?_;simp only[zz];refine sk ?_;simp only[zz];refine rg ?_;simp only[zz,Qi,hw];refine⟨hi,?_⟩;rw[R8,skipped (λh=>h0 h.1),←hE,←B'];exact At.mk _ _ _ _ B!
  .refine xt ?_;simp only[zz,Bw];have hi:i=a00 t0.n:=U
   subst hi;exact⟨rfl,At.same _ _ _ B!⟩
 .simp only[zz];rw[R8];have hL:(sL t0.f.length t0.n t0.n.length).length=a00 t0.f:=uW;have hLb:=VS (n:=a00 t0.f) hg (i:=a00 t0.n) (A' _);generalize sL t0.f.length t0.n t0.n.length=L at hL hLb⊢;have hol:(t? 1 L).length=a00 t0.f:=by rw[vu,hL]
  refine ss (ss (rg ?_));simp only[zz,hol];refine T.LB t0.f.length (S2 t0.f.length L) ?_ (λj hj=>bc0 hL hj) (λj hj=>?_) Oi ?_
  .rw[az3];exact At.same _ _ _ B!
  .rw[az3];refine ss (rg ?_);simp only[zz];refine ss (cd rfl ?_);simp only[zz];refine gP.mk (λhc=>?_) (λhc=>?_)
   .have hj:j<a00 t0.f:=U
    have hjL:j<a00 L:=U
    obtain⟨p,hp⟩:∃p,p=L[j]:=⟨_,rfl⟩;have hdr:L.drop j=p::L.drop (j+1):=p5
    have hpb:=hLb p p5;have hsort:Yh p.2=M (ph p.2):=Tx (by
     omega)
    have hA:(A2 L j).length=j:=by grind[A2]
    have hG:(h! j Ent.gone).length=j:=p6
    rw[hdr];simp only[t?,od,List.map_cons];obtain⟨B,hB⟩:∃B,B=t? (1+j+1) (L.drop (j+1)):=⟨_,rfl⟩;obtain⟨F,hF⟩:∃F,F=od (L.drop (j+1)):=⟨_,rfl⟩;have hF':(L.drop (j+1)).map (λp=>Ent.live 1 p.1 (p.2.map da))=F:=by rw[hF];rfl
    rw[←hB,hF',Qah 1 j];have hBl:(A2 L j++.own (j+1) p.1::B).length=a00 t0.f:=by
     grind[vu]
    refine sk ?_;simp only[zz];refine ss (bk (ss (rg ?_)));simp only[zz,hBl,hj,YO hA,VH hA];refine rg ?_;simp only[zz,hBl,hj,YO hA,VH hA];refine rX (Sx hsort) rfl p6 ?_;simp only[zz,hBl,hj,YO hA,VH hA,VH hG];refine rg ?_;have hw:aa .i64 ((j:Int)+1)=((j+1:Nat):Int):=by grind[De]
    simp only[zz,Qi,hw];refine⟨hj,?_⟩;have hA1:A2 L (j+1)=A2 L j++[pb (ph p.2)]:=by
     grind[A2]
    have e1:A2 L j++.sl 1 ((ph p.2).map da)::B=A2 L (j+1)++t? (1+(j+1)) (L.drop (j+1)):=by
     rw[hA1,H!,hB,show 1+j+1=1+(j+1) by omega];rfl
    have e2:h! j Ent.gone++Ent.gone::F=h! (j+1) Ent.gone++od (L.drop (j+1)):=by
     grind[Rag]
    rw[az3,e1,e2];exact At.same _ _ _ B!
   .refine xt ?_;simp only[zz,Bw];have hj:j=a00 t0.f:=U
    subst hj;exact⟨rfl,At.same _ _ _ B!⟩
  .simp only[zz];rw[az3,←hL,List.drop_length];have hA:A2 L L.length=(L.map λp=>ph p.2).map pb:=by simp[A2]
   rw[hA];simp only[t?,R?];refine T.trim 1 (Q? _) p6 ?_ ?_ ?_
   .simp_all[f?,Tm.below,Yj,Ml,bb,Fr.h]
   .simp only[Χ,Bag,Iag,List.all_nil,Bool.and_true];exact ua _ _ (Fr.l _)
   simp only[Χ,Bag];refine ss (rg ?_);simp only[zz];exact rt (er (by simp only[zz,zr];exact fq (by simp only[zg])))
theorem cad{n:Nat}{rs:List ke}:∀i,i<=a00 rs->∀d,d<n->((sL n rs i)[d]?).map (·.2)=M ((((rs.take i).filter λ(r:ke)=>r.ac==(d:Int)).map (dOf n)).flatten)
 |0,_,d,hd=>by grind[sL]
 |i+1,h,d,hd=>by
  have ih:=cad (n:=n) (rs:=rs) i U d hd;rw[pP h,Ι,x! h,Option.toList_some,List.filter_append,List.map_append,List.flatten_append]
  grind[stL]
theorem aj8:((sL t0.f.length t0.n t0.n.length).map λp=>ph p.2)=Yq t0:=by
 apply List.ext_getElem?;intro d;unfold Yq;rw[Oag,Oag];by_cases hd:d<a00 t0.f
 .have h:=cad (n:=a00 t0.f) (rs:=t0.n) t0.n.length (A' _) d hd;rw[List.take_length]at h;rw[List.getElem?_range hd,Β]
  cases hx:(sL t0.f.length t0.n t0.n.length)[d]? with
  |none=>simp_all
  |some p=>
   rw[hx]at h;simp only[Β,M?]at h⊢;rw[h];rfl
 grind[uW]
theorem Iw{r:List (List Int)}(h:Fc t0=M r):k! Tryz.prog 229 [Gd t0] (Xc r):=by
 have h':=h;unfold Fc at h';split at h'
 .rename_i hc;obtain⟨h1,h2,h3⟩:=hc;have hs:=Vo ⟨h1,h2,h3⟩;rw[h]at hs;obtain rfl:=R' hs
  grind[bb6,aj8]
 simp_all
instance ace{t0 r}:r? (Fc t0=M r) (k! Tryz.prog 229 [Gd t0] (Xc r)):=⟨Iw⟩
end Go.Proofs.Dev
