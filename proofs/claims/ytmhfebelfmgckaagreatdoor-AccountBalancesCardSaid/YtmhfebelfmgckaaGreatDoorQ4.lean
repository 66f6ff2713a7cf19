/-
  Contracts of the functions: each answers as its plain partial function says.
-/
import Derived.Test.YtmhfebelfmgckaaGreatDoorQ0
import Derived.Test.YtmhfebelfmgckaaGreatDoorQ1
import Derived.Test.YtmhfebelfmgckaaGreatDoorQ2
import Derived.Test.YtmhfebelfmgckaaGreatDoorQ3
open Option renaming some->M,none->s5
open And renaming intro->ak
open Bool renaming and_eq_true->E!
open List renaming all_cons->θ,all_eq_true->R',append_assoc->P',append_nil->X!,cons_append->G?,eq_of_mem_replicate->yac,getElem?_concat_length->ζ,getElem?_eq_getElem->n!,getElem?_map->Hac,length_cons->G!,mem_map->V!,replicate->k?,replicate_succ'->Yab,set_cons_succ->zac,take_add_one->N!,take_succ_cons->uab,take_zero->Dad,length->a00
open Nat renaming add_comm->Ead,le_refl->x?,sub_self->Fac,zero_le->L!
open Option renaming map_some->Kac
open Option.some renaming inj->J',injEq->T'
set_option linter.all false
set_option maxHeartbeats 1000000
set_option maxRecDepth 10000
namespace Go.Proofs.Dev
open Go Go.Tm
variable {j n i:Nat}{rs:List kv}{α:Type}{x y:α}{A B:List α}{t0:ek}
instance aey:C3 k12 Ay:=pg (ak k12.eq_1 Ay.eq_1) (.z 1 (.j (EN [48,2,81] []) .o .o))
instance Z2:C1 bV9 Og:=pg (ak (ak bV9.eq_1 Og.eq_1) rk.eq_1) (.l (EN [40,3,11,19,33,26,289] [260,268,276]) (EN [40,3,11,19,17] [260,268,276]) [5,5,5] (.z 2 (.j (EN [40,65] [2,266,530]) (.b (.t [256,4,8]) (.b (.t [0,260,8]) (.j (EN [40,65,152,2,129] [0,8,16,24]) .o (.b (.t [0,4,264]) .o)))) .o)) .o)
instance aez:C1 bR9 rv:=pg (ak bR9.eq_1 rv.eq_1) .o
instance JE:C2 bS6 Df:=pg (ak (ak bS6.eq_1 Df.eq_1) (ak fh.eq_1 gh.eq_1)) (.l (EN [8,9,24,3,32,9,152,17,10,273] [260]) (EN [8,9,24,3,32,9] [260]) [5] (.z 2 (.j (EN [8,257] [2]) (.z 1 (.j (EN [8,257,72,2,193] [0]) .o (.b (.t [256]) .o))) .o)) (.l (EN [8,73,304,17,10,129] [2]) (EN [40,41] [2]) [] (.z 2 (.j (EN [8,401] [2]) (.z 1 (.j (EN [8,401,72,2,49] [0]) .o (.b (.t [256]) .o))) .o)) .o))
def jE{t0 t1 r} (h:Df t0 t1=M r):e? Tryz.prog 319 [Yg t0,da t1] (qa r):=JE.h h
abbrev LL:=List (Nat×List Int)
variable {L:LL}
def Cj:Nat->LL->List D
 |_,[]=>[]
 |k,p::l=>.own k p.1::Cj (k+1) l
def ue(L:LL):List Ent:=L.map λp=>.live 1 p.1 (p.2.map da)
def dOf(n:Nat) (r:kv):List Int:=kM n (wD Rh r.ak)++kM n (wD Rh r.Value)
def stL(n:Nat) (L:LL) (r:kv):LL:=if 0<=r.u/\r.u<n then L.modify r.u.toNat (λp=>(p.1+1,p.2++dOf n r))else L
def sL(n:Nat) (rs:List kv) (i:Nat):LL:=(rs.take i).foldl (stL n) (k? n (0,[]))
theorem Ey:∀{L:LL}{k:Nat},(Cj k L).length=a00 L
 |[],_=>rfl
 |p::l,k=>by simp only[Cj,G!,Ey (L:=l)]
theorem QO:∀{L j6:LL}{k:Nat},Cj k (L++j6)=Cj k L++Cj (k+a00 L) j6
 |[],j6,k=>by simp[Cj]
 |p::l,j6,k=>by
  simp only[G?,Cj,QO (L:=l),G!]
  grind
theorem dJ:∀{L:LL}{k d:Nat},(Cj k L)[d]?=L[d]?.map (λp=>.own (k+d) p.1)
 |[],_,_=>by simp[Cj]
 |p::l,k,0=>by simp[Cj]
 |p::l,k,d+1=>by
  simp only[Cj,List.getElem?_cons_succ,dJ (L:=l)]
  grind
theorem RO:∀{L:LL}{k d:Nat}{p:Nat×List Int},(Cj k L).set d (.own (k+d) p.1)=Cj k (L.set d p)
 |[],_,_,_=>by simp[Cj]
 |q::l,k,0,p=>by simp[Cj]
 |q::l,k,d+1,p=>by
  simp only[Cj,zac];rw[show k+(d+1)=k+1+d by omega,RO (L:=l)]
theorem mA:∀{L:LL}{k j:Nat},k+a00 L<=j->j? j (Cj k L)=true
 |[],_,_,_=>rfl
 |p::l,k,j,h=>by
  simp only[G!]at h;simp only[Cj,j?,Tm.below,E!,w3];exact⟨U,mA U⟩
theorem Xn:(ue L).length=a00 L:=by simp[ue]
theorem nB:(ue L).all (Ent.below j)=true:=by
 rw[R'];intro e he;obtain⟨p,-,rfl⟩:=V!.1 he;exact Ub _ _ (Fr.l _)
theorem aA8{r:kv}:(stL n L r).length=a00 L:=by
 grind[stL]
theorem DR{n:Nat}:∀{rs:List kv}{L:LL},(rs.foldl (stL n) L).length=a00 L
 |[],_=>rfl
 |r::rs,L=>by simp only[List.foldl_cons,DR (rs:=rs),aA8]
theorem G0:(sL n rs i).length=n:=by grind[sL,DR]
theorem jU(h:i<a00 rs):sL n rs (i+1)=stL n (sL n rs i) rs[i]:=by
 grind[sL,N!]
theorem aL0{n:Int}{l:List Int}:(kM n l).length<=a00 l:=List.length_filter_le _ _
theorem L2{r:kv}(h:r.ak.length<=1048576/\r.Value.length<=1048576):(dOf n r).length<=2097152:=by
 grind[dOf,aL0,ct]
theorem kX(hg:∀r∈rs,a00 r.ak<=1048576/\r.Value.length<=1048576):∀{i:Nat},i<=a00 rs->∀p∈sL n rs i,a00 p.2<=2097152*i:=by
 intro i
 induction i with
 |zero=>
  grind[sL]
 |succ i ih=>
  intro h p hp;have ih:=ih (Nat.le_of_succ_le h);have hD:=L2 (n:=n) (hg rs[i] (List.getElem_mem h));have hs:2097152*(i+1)=2097152*i+2097152:=Nat.mul_succ _ _;rw[jU h]at hp;unfold stL at hp;split at hp
  .obtain⟨d,hd,rfl⟩:=List.getElem_of_mem hp
   grind
  grind
theorem gR(t:List D) (n:Nat):∀x,x<=n->XA 1 0 x ⟨t,[.live 1 0 (k? n (.v (.slice s5 0 0)))]⟩=⟨t,.live 1 0 (Cj 1 (k? x (0,[]))++k? (n-x) (.v (.slice s5 0 0)))::ue (k? x (0,[]))⟩
 |0,_=>by simp[XA,Cj,ue]
 |x+1,h=>by
  rw[XA,gR t n x U];unfold vN;simp only[List.getElem?_cons_zero];have hl:(Cj 1 (k? x ((0:Nat),([]:List Int)))).length=x:=by grind[Ey]
  rw[List.getElem?_append_right U,hl,Fac,List.getElem?_replicate,J];simp only[List.set_cons_zero,G!,Xn,List.length_replicate,G?,St.mk.injEq,R1,List.cons.injEq,Ent.live.injEq];refine⟨?_,?_⟩
  .rw[List.set_append,p6,hl,Fac,Yab (n:=x),QO,P'];congr 1;obtain⟨k,hk⟩:∃k,n-x=k+1:=⟨n-x-1,U⟩
   grind[Cj]
  grind[ue,Yab]
theorem CL:oa (k? n (.v (.slice s5 0 0)))=true:=km.2 λd hd=>by rw[yac hd];rfl
def S1(n:Nat) (rs:List kv) (i:Nat):St:=⟨ds 3 (.own 0 0::ds 9 (Vn rs::da (a00 rs:Int)::da (i:Int)::ds 42 [])),.live 1 0 (Cj 1 (sL n rs i))::ue (sL n rs i)⟩
def aw0:S1 n rs i=⟨ds 3 (.own 0 0::ds 9 (Vn rs::da (a00 rs:Int)::da (i:Int)::ds 42 [])),.live 1 0 (Cj 1 (sL n rs i))::ue (sL n rs i)⟩:=d?
theorem Zu{l:List α}:(l++[x]).set l.length y=l++[y]:=o0
theorem PT:∀{a b:Nat},a≠b->yW a b=true
 |0,0,h=>(h rfl).elim
 |0,_+1,_=>rfl
 |_+1,0,_=>rfl
 |a+1,b+1,h=>PT (a:=a) (b:=b) λe=>h (by rw[e])
theorem LO{α:Type}{f:α->α}:∀{l:List α}{d:Nat}{p:α},l[d]?=M p->l.modify d f=l.set d (f p)
 |[],_,_,h=>o0
 |a::l,0,p,h=>l5
 |a::l,d+1,p,h=>by simp only[List.modify_succ_cons,zac];rw[LO (by simpa using h)]
def A2(L:LL) (j:Nat):List D:=(L.take j).map λp=>qa (Yd p.2)
def S2(n:Nat) (L:LL) (j:Nat):St:=⟨ds 3 (.own 0 0::ds 40 (.own 0 0::da (n:Int)::da (j:Int)::ds 11 [])),.live 1 0 (A2 L j++Cj (1+j) (L.drop j))::(k? j .gone++ue (L.drop j))⟩
def aS7:S2 n L j=⟨ds 3 (.own 0 0::ds 40 (.own 0 0::da (n:Int)::da (j:Int)::ds 11 [])),.live 1 0 (A2 L j++Cj (1+j) (L.drop j))::(k? j .gone++ue (L.drop j))⟩:=d?
theorem aU1:oa (A2 L j)=true:=by
 refine km.2 λd hd=>?_;obtain⟨p,-,rfl⟩:=V!.1 hd;exact Fr.h _
theorem bt2(h:L.length=n) (hj:j<=n):Ω 0 (S2 n L j):=by
 refine⟨L! _,?_,?_⟩
 .simp_all[S2,j?,Tm.below,Jn,Ap,Rc,Fr.h]
 .simp only[S2,θ,List.all_append,E!];refine⟨?_,?_,nB⟩
  .refine aR3 (Ub _ _ aU1) (mA ?_)
   grind[Xn]
  .rw[R'];intro e he;rw[yac he];rfl
theorem NT(h:A.length=j):(A++x::B)[j]?=M x:=l5
theorem YM(h:A.length=j):(A++x::B).set j y=A++y::B:=l5
theorem bt3:Ω 0 (S1 n rs i):=by
 refine⟨L! _,?_,?_⟩
 .simp_all[S1,j?,Tm.below,Jn,Ap,Rc,Fr.h]
 .simp only[S1,θ,E!];refine⟨?_,nB⟩;exact mA (by grind[Xn])
theorem bs9(hd:t0.d.length<=1048576) (hr:t0.f.length<=1048576) (hg:∀r∈t0.f,a00 r.ak<=1048576/\r.Value.length<=1048576) :
 e? Tryz.prog 272 [sf t0] (Ud ((sL t0.d.length t0.f t0.f.length).map λp=>Yd p.2)):=by
 refine dk 57 bW0 ?_;simp only[bW0,Kf.of,zs,ze];refine ss (rg ?_);have hm:kD 24 ([]:List Int) (a00 t0.d:Int) (a00 t0.d:Int)=M (k? t0.d.length []):=by
  grind[kD]
 obtain⟨f2,f3,f4,f5,f6⟩:=vW (e:=qa) hm;(try simp only[zz]);refine ss (rg ?_);(try simp only[zz]at f5 f6);(try simp only[zz,f2,f3,f4,f5]);refine ss (ss (rg ?_));(try simp only[zz,f2,f3,f4,f5]);refine tl (S:=⟨ds 3 (.own 0 0::ds 9 (Vn t0.f::da (a00 t0.f:Int)::da 0::ds 42 [])),[.live 1 0 (k? t0.d.length (.v (.slice s5 0 0)))]⟩) (tq [ok 1] (by simp_all[zg,Jj,CL])) ?_;refine TJ (S:=1) (id:=0) (x:=a00 t0.d) ?_;rw[gR _ _ _ (x? _),Fac,List.replicate_zero,X!];refine T.X6 t0.f.length (S1 t0.d.length t0.f) (At.same _ _ _ (ua.Hb _)) (λi _=>bt3) (λi hi=>?_) FA ?_
 .rw[aw0];refine ss (rg ?_);simp only[zz];refine ss (cd rfl ?_);simp only[zz];refine gP.mk (λhc=>?_) (λhc=>?_)
  .have hi:i<a00 t0.f:=U
   refine sk ?_;simp only[zz];obtain⟨r,hr1⟩:∃r,r=t0.f[i]:=⟨_,rfl⟩;have hidx:c! t0.f (i:Int)=M r:=by grind[c!]
   have g2:t0.f[i]?=M r:=l5
   have hrg:=hg r l5;have hL:(sL t0.d.length t0.f i).length=a00 t0.d:=G0;have hLs:sL t0.d.length t0.f (i+1)=stL t0.d.length (sL t0.d.length t0.f i) r:=by grind[jU]
   have hLb:=kX (n:=a00 t0.d) hg (i:=i) U;generalize hLL:sL t0.d.length t0.f i=L at hL hLs hLb⊢;obtain⟨E,hE⟩:∃E,E=ue L:=⟨_,rfl⟩;have hEl:E.length=a00 L:=by rw[hE,Xn]
   rw[←hE];refine ss (bk (ss (rg ?_)));simp only[zz,g2,ζ,Zu];refine ss (rg ?_);have hol:(Cj 1 L).length=a00 t0.d:=by rw[Ey,hL]
   have hw:aa .i64 ((i:Int)+1)=((i+1:Nat):Int):=by grind[KA]
   have skipped:¬(0<=r.u/\r.u<(a00 t0.d:Int))->sL t0.d.length t0.f (i+1)=L:=λh=>by rw[hLs];exact p6 h
   by_cases h0:0<=r.u
   .by_cases h1:r.u<(a00 t0.d:Int)
    .simp only[zz,g2,ζ,Zu,hol,h0,h1];refine cd rfl ?_;simp only[zz];have hdl:r.u.toNat<a00 L:=U
     obtain⟨p,hp⟩:∃p,L[r.u.toNat]?=M p:=⟨_,n! hdl⟩;have hEd:r.u.toNat<a00 E:=U
     have k0:r.u.toNat<a00 t0.d:=U
     have k1:(Cj 1 L)[r.u.toNat]?=M (.own (r.u.toNat+1) p.1):=by grind[dJ]
     have k2:∀y,(E++[y])[r.u.toNat]?=M (.live 1 p.1 (p.2.map da)):=λy=>by
      grind[ue]
     have k3:∀y e,(E++[y]).set r.u.toNat e=E.set r.u.toNat e++[y]:=λy e=>l5
     have k4:∀e,(Cj 1 L).set r.u.toNat e=(Cj 1 L).set r.u.toNat e:=λe=>rfl;have hpb:=hLb p (List.mem_of_getElem? hp);have hDb:=L2 (n:=a00 t0.d) hrg;have k5:(a00 p.2+(dOf t0.d.length r).length)*8<=2 ^ 47:=by
      omega
     have k6:yW (a00 E+1) (r.u.toNat+1)=true:=PT U;refine ay Hz [[],[],[],[],[],[],[],[],[],[],[],[],[2]] Θ ?_;simp only[zz,zy,hol,h0,h1,k0,k1,k2,k3,k6,ζ,Zu];have hdef:Df r (a00 t0.d:Int)=M (dOf t0.d.length r):=ry hrg _;refine lq (jE hdef) ?_ (by simp only[zg]);(try simp only[zz]at k5);simp only[zz,zy,hol,h0,h1,k0,k1,k2,k3,k5,k6,ζ,Zu];refine⟨k6,rg ?_⟩;simp only[zz,Pn,hw];refine⟨hi,?_⟩;have hst:stL t0.d.length L r=L.set r.u.toNat (p.1+1,p.2++dOf t0.d.length r):=by
      unfold stL;rw[J ⟨h0,h1⟩,LO hp]
     have e1:(Cj 1 L).set r.u.toNat (.own (r.u.toNat+1) (p.1+1))=Cj 1 (sL t0.d.length t0.f (i+1)):=by
      rw[hLs,hst,←RO,Ead 1]
     have e2:E.set r.u.toNat (.live 1 (p.1+1) (p.2.map da++(dOf t0.d.length r).map da))=ue (sL t0.d.length t0.f (i+1)):=by
      grind[ue,List.map_set]
     rw[aw0,e1,e2,←G?];exact At.mk _ _ _ _ B?
    .simp only[zz,g2,ζ,Zu,hol,h0,h1];refine cd rfl ?_;simp only[zz];refine sk ?_;simp only[zz];refine rg ?_;simp only[zz,Pn,hw];refine⟨hi,?_⟩;rw[aw0,skipped (λh=>h1 h.2),←hE,←G?];exact At.mk _ _ _ _ B?
   .simp only[zz,g2,ζ,Zu,hol,h0];refine cd rfl ?_;simp only[zz];refine sk ?_;simp only[zz];refine rg ?_;simp only[zz,Pn,hw];refine⟨hi,?_⟩;rw[aw0,skipped (λh=>h0 h.1),←hE,←G?];exact At.mk _ _ _ _ B?
  .refine xt ?_;simp only[zz,oD];have hi:i=a00 t0.f:=U
   subst hi;exact⟨rfl,At.same _ _ _ B?⟩
 .simp only[zz];rw[aw0];have hL:(sL t0.d.length t0.f t0.f.length).length=a00 t0.d:=G0;have hLb:=kX (n:=a00 t0.d) hg (i:=a00 t0.f) (x? _);generalize sL t0.d.length t0.f t0.f.length=L at hL hLb⊢;have hol:(Cj 1 L).length=a00 t0.d:=by rw[Ey,hL]
  refine ss (ss (rg ?_));simp only[zz,hol];refine T.X6 t0.d.length (S2 t0.d.length L) ?_ (λj hj=>bt2 hL hj) (λj hj=>?_) FA ?_
  .rw[aS7];exact At.same _ _ _ B?
  .rw[aS7];refine ss (rg ?_);simp only[zz];refine ss (cd rfl ?_);simp only[zz];refine gP.mk (λhc=>?_) (λhc=>?_)
   .have hj:j<a00 t0.d:=U
    have hjL:j<a00 L:=U
    obtain⟨p,hp⟩:∃p,p=L[j]:=⟨_,rfl⟩;have hdr:L.drop j=p::L.drop (j+1):=l5
    have hpb:=hLb p l5;have hsort:lk p.2=M (Yd p.2):=wC (by
     omega)
    have hA:(A2 L j).length=j:=by grind[A2]
    have hG:(k? j Ent.gone).length=j:=o0
    rw[hdr];simp only[Cj,ue,List.map_cons];obtain⟨B,hB⟩:∃B,B=Cj (1+j+1) (L.drop (j+1)):=⟨_,rfl⟩;obtain⟨F,hF⟩:∃F,F=ue (L.drop (j+1)):=⟨_,rfl⟩;have hF':(L.drop (j+1)).map (λp=>Ent.live 1 p.1 (p.2.map da))=F:=by rw[hF];rfl
    rw[←hB,hF',Ead 1 j];have hBl:(A2 L j++.own (j+1) p.1::B).length=a00 t0.d:=by
     grind[Ey]
    refine sk ?_;simp only[zz];refine ss (bk (ss (rg ?_)));simp only[zz,hBl,hj,NT hA,YM hA];refine rg ?_;simp only[zz,hBl,hj,NT hA,YM hA];refine V1 (vC hsort) rfl o0 ?_;simp only[zz,hBl,hj,NT hA,YM hA,YM hG];refine rg ?_;have hw:aa .i64 ((j:Int)+1)=((j+1:Nat):Int):=by grind[KA]
    simp only[zz,Pn,hw];refine⟨hj,?_⟩;have hA1:A2 L (j+1)=A2 L j++[qa (Yd p.2)]:=by
     grind[A2]
    have e1:A2 L j++.sl 1 ((Yd p.2).map da)::B=A2 L (j+1)++Cj (1+(j+1)) (L.drop (j+1)):=by
     rw[hA1,P',hB,show 1+j+1=1+(j+1) by omega];rfl
    have e2:k? j Ent.gone++Ent.gone::F=k? (j+1) Ent.gone++ue (L.drop (j+1)):=by
     grind[Yab]
    rw[aS7,e1,e2];exact At.same _ _ _ B?
   .refine xt ?_;simp only[zz,oD];have hj:j=a00 t0.d:=U
    subst hj;exact⟨rfl,At.same _ _ _ B?⟩
  .simp only[zz];rw[aS7,←hL,List.drop_length];have hA:A2 L L.length=(L.map λp=>Yd p.2).map qa:=by simp[A2]
   rw[hA];simp only[Cj,X!];refine T.trim 1 (L! _) o0 ?_ ?_ ?_
   .simp_all[j?,Tm.below,Jn,Ap,Rc,Fr.h]
   .simp only[uab,Dad,θ,List.all_nil,Bool.and_true];exact Ub _ _ (Fr.l _)
   simp only[uab,Dad];refine ss (rg ?_);simp only[zz];exact rt (er (by simp only[zz,zr];exact fq (by simp only[zg])))
theorem ag7{n:Nat}{rs:List kv}:∀i,i<=a00 rs->∀d,d<n->((sL n rs i)[d]?).map (·.2)=M ((((rs.take i).filter λ(r:kv)=>r.u==(d:Int)).map (dOf n)).flatten)
 |0,_,d,hd=>by grind[sL]
 |i+1,h,d,hd=>by
  have ih:=ag7 (n:=n) (rs:=rs) i U d hd;rw[jU h,N!,n! h,Option.toList_some,List.filter_append,List.map_append,List.flatten_append]
  grind[stL]
theorem aD7:((sL t0.d.length t0.f t0.f.length).map λp=>Yd p.2)=Ll t0:=by
 apply List.ext_getElem?;intro d;unfold Ll;rw[Hac,Hac];by_cases hd:d<a00 t0.d
 .have h:=ag7 (n:=a00 t0.d) (rs:=t0.f) t0.f.length (x? _) d hd;rw[List.take_length]at h;rw[List.getElem?_range hd,Kac]
  cases hx:(sL t0.d.length t0.f t0.f.length)[d]? with
  |none=>simp_all
  |some p=>
   rw[hx]at h;simp only[Kac,T']at h⊢;rw[h];rfl
 grind[G0]
theorem cB{r:List (List Int)}(h:jd t0=M r):e? Tryz.prog 272 [sf t0] (Ud r):=by
 have h':=h;unfold jd at h';split at h'
 .rename_i hc;obtain⟨h1,h2,h3⟩:=hc;have hs:=bt ⟨h1,h2,h3⟩;rw[h]at hs;obtain rfl:=J' hs
  grind[bs9,aD7]
 simp_all
instance afa{t0 r}:o! (jd t0=M r) (e? Tryz.prog 272 [sf t0] (Ud r)):=⟨cB⟩
end Go.Proofs.Dev
