/-
  Contracts of the functions: each answers as its plain partial function says.
-/
import Derived.Test.YtmhfebelfmgckaaGreatDoorQ4
import Derived.Test.YtmhfebelfmgckaaGreatDoorQ5
import Derived.Test.YtmhfebelfmgckaaGreatDoorQ6
import Derived.Test.YtmhfebelfmgckaaGreatDoorQ7
open Option renaming some->M,none->q6
open Decidable renaming decide->s5
open And renaming intro->ak
open Go.Proofs.Tryz renaming prog->al
open Bool renaming and_eq_true->E',and_true->hac
open List renaming all_cons->ς,append_assoc->P?,cons_append->G!,ext_getElem->Qab,getElem?_concat_length->ο,getElem_mem->y!,length_cons->H!,length_nil->L!,map_append->Wab,map_cons->F?,map_nil->W?,map_set->Vac,mem_map->X',replicate->l!,replicate_succ'->Nab,length->a00
open Nat renaming reduceAdd->N!,sub_self->vac,zero_le->M'
open Option.some renaming inj->J!,injEq->T!
set_option linter.all false
set_option maxHeartbeats 1000000
set_option maxRecDepth 10000
namespace Go.Proofs.Dev
open Go Go.Tm
variable {n d w:Nat}{F:Nat->List Int}{x:Int}{L:LL}{g:List (List Int)}{y:Nat×List Int×Nat}{l out:List Int}{t0:ek}{R327 R397:(te -> Int -> Option (bz × Int))}{R368:(te -> fr -> (List Int) -> Option (bz × Int))}{R339:((List fr) -> Int -> ia -> Option (bz × Int))}{R385:((List fr) -> Int -> (List Int) -> ia -> Option (bz × Int))}
instance F1:C2 bY4 Xc:=pg (ak bY4.eq_1 Xc.eq_1) (.z 2 (.j (EN [8,25,72,2,33] [0]) .o .o))
instance B1:C2 bY3 aj:=pg (ak (ak bY3.eq_1 aj.eq_1) (ak Zj.eq_1 Iu.eq_1)) (.z 2 (.j (EN [8,25,168,2,553] [0]) .o (.l (EN [16,185,88,17,10,449] [0,258]) (EN [16,185] [0,258]) [] .o (.l (EN [16,49,19,297,8,17,10,361] [0,8,260]) (EN [64,3,297] [260]) [0,4,5] (.b (.j (EN [16,385] [0,8,514]) (.z 2 (.j (EN [16,385,168,2,185] [0,8,16,24]) .o (.b .o (.t [0,4,520])))) .o) (.t [8])) .o))))
instance ahn{t0 c10 r}:o! (vc t0 (λx900=>Ze x900 c10)=M r) (e? al 303 [vE t0,.fn 304 [] [cC c10]] (.tup [da r.1,za r.2])):=⟨λh=>Hw (q1:=[cC c10]) (IN QK) (λx900 _ hb=>Jy hb) h⟩
instance aho:C2 bW2 Ls:=pg (ak (ak bW2.eq_1 Ls.eq_1) Xm.eq_1) (.z 4 (.j (EN [8,25,200,2,729] [0]) .o (.l (EN [16,217,128,17,2,585] [0]) (EN [] []) [] (.z 5 (.j (EN [16,369,184,2,393] [0,8]) .o (.z 1 (.j (EN [16,553,200,2,193] [0,8]) .o (.z 1 (.j (EN [16,753,88,2,105] [0,8]) .o .o)))))) .o)))
def NB(n:Nat) (F:Nat->List Int):LL:=(List.range n).map λd=>((F d).length,F d)
theorem iU:(NB n F).length=n:=by simp[NB]
theorem gU(h:d<n):(NB n F)[d]?=M ((F d).length,F d):=by grind[NB]
theorem aw9{F':Nat->List Int}(h1:F' d=F d++[x]) (h2:∀e,e≠d->F' e=F e):(NB n F).set d ((F d).length+1,F d++[x])=NB n F':=by
 unfold NB;apply Qab
 all_goals grind
def N1(I:List Int) (L:LL):List Ent:=.live 1 0 (I.map da)::.live 1 0 (wj 4 L)::pe L
def evM(l:List Int) (v:Nat) (I:List Int) (L:LL):List Ent:=ZD l v 0 (N1 I L)
theorem JS{I:List Int}:(N1 I L).length=a00 L+2:=by simp[N1,Rn]
theorem AJ{I:List Int}:(N1 I L).all (Ent.below ((N1 I L).length+2))=true:=by
 rw[JS];unfold N1;simp only[ς,E'];exact⟨Sb _ _ (Fr.l _),cA U,WA⟩
theorem JM(t:List D) (a b c:Ent) (n:Nat):∀x,x<=n->LA 1 3 x ⟨t,[a,b,c,.live 1 0 (l! n (.v (.slice q6 0 0)))]⟩=⟨t,a::b::c::.live 1 0 (wj 4 (l! x (0,[]))++l! (n-x) (.v (.slice q6 0 0)))::pe (l! x (0,[]))⟩
 |0,_=>by simp[LA,wj,pe]
 |x+1,h=>by
  rw[LA,JM t a b c n x U];unfold IM;simp only[List.getElem?_cons_succ,List.getElem?_cons_zero];have hl:(wj 4 (l! x ((0:Nat),([]:List Int)))).length=x:=by grind[py]
  rw[List.getElem?_append_right U,hl,vac,List.getElem?_replicate,J];simp only[List.set_cons_succ,List.set_cons_zero,H!,Rn,List.length_replicate,G!,St.mk.injEq,G2,List.cons.injEq,Ent.live.injEq];refine⟨?_,?_⟩
  .rw[List.set_append,p5,hl,vac,Nab (n:=x),lO,P?];congr 1;obtain⟨k,hk⟩:∃k,n-x=k+1:=⟨n-x-1,U⟩
   grind[wj]
  grind[pe,Nab]
theorem ax0(h:∀d,F d=[]):NB n F=l! n (0,[]):=by
 unfold NB;apply Qab
 all_goals simp_all
theorem RS:oa (l! n (.v (.int .i64 0)))=true:=bm.2 λd hd=>by rw[List.eq_of_mem_replicate hd];rfl
def E1(g:List (List Int)) (y:Nat×List Int×Nat):St:=⟨ds 4 (Qd g::.own 3 0::.own 2 0::.ref 0 0 0 0::ds 19 (Qd g::da g.length::da y.1::ds 83 [])),evM y.2.1 y.2.2 (gI g y.1) (NB g.length (Jj g y.1))⟩
def E2(g:List (List Int)) (l:List Int) (v i j:Nat):St:=⟨ds 4 (Qd g::.own 3 0::.own 2 0::.ref 0 0 0 0::da i::sa (g.getD i [])::ds 17 (Qd g::da g.length::da i::ds 9 (sa (g.getD i [])::da (g.getD i []).length::da j::ds 71 []))),evM l v (gI g (i+1)) (NB g.length (Uw g i j))⟩
theorem bu7:δ 0 (E1 g y):=by
 refine EF AJ (M' _) ?_
 simp_all[j?,Tm.below,JS,Cn,kp,Nc,Fr.h]
theorem bu6{v i j:Nat}:δ 0 (E2 g l v i j):=by
 refine EF AJ (M' _) ?_
 simp_all[j?,Tm.below,JS,Cn,kp,Nc,Fr.h]
def wE(I:List Int) (L:LL) (w:Nat) (out:List Int):List Ent:=.live 1 0 (I.map da)::.live 1 0 (wj 4 L)::(pe L++[.live 1 w (out.map da)])
theorem BN{I:List Int}:(wE I L w out).length=a00 L+3:=by simp[wE,Rn]
theorem XC{I:List Int}:(wE I L w out).all (Ent.below ((wE I L w out).length+2))=true:=by
 rw[BN];unfold wE;simp only[ς,List.all_append,List.all_nil,hac,E'];exact⟨Sb _ _ (Fr.l _),cA U,WA,Sb _ _ (Fr.l _)⟩
abbrev gL(g:List (List Int)):LL:=NB g.length (Jj g g.length)
def E3(g:List (List Int)) (y:List Int×Nat×List Int×Nat):St:=⟨ds 4 (Qd g::.own 3 0::.own 2 0::.ref 0 0 0 0::ds 4 (.own ((pe (gL g)).length+4) y.2.1::ds 100 [])),ZD y.2.2.1 y.2.2.2 0 (wE (vV g y.1) (gL g) y.2.1 y.1)⟩
def E4(g:List (List Int)) (out:List Int) (w d:Nat) (y:Nat×List Int×Nat):St:=⟨ds 4 (Qd g::.own 3 0::.own 2 0::.ref 0 0 0 0::ds 4 (.own ((pe (gL g)).length+4) (w+1)::da d::ds 70 (.own (d+4) (Jj g g.length d).length::da (Jj g g.length d).length::da y.1::ds 26 []))),ZD y.2.1 y.2.2 0 (wE (VD g out d y.1) (gL g) (w+1) (out++[(d:Int)]))⟩
def MY:(gL g).length=a00 g:=iU
theorem bu5{y:List Int×Nat×List Int×Nat}:δ 0 (E3 g y):=by
 refine EF XC (M' _) ?_
 simp_all[j?,Tm.below,BN,Rn,Cn,kp,Nc,Fr.h]
theorem bu4(hd:d<a00 g) :δ 0 (E4 g out w d y):=by
 refine EF XC (M' _) ?_;rw[BN,Rn,MY];simp only[Cn,kp,j?,Tm.below,hac,Bool.true_and,E',w2];exact⟨Nc _ _ (Fr.h _),U,U,U,U,Nc _ _ (Fr.h _),U,Nc _ _ (Fr.h _),Nc _ _ (Fr.h _)⟩
theorem cv4(hall:Yc t0=M g) (hg:GOk g) :
 e? al 275 [pf t0] (.tup [sa (sx g).1,da (sx g).2]):=by
 have hgl:=hg.len;refine dk 112 bV1 ?_;simp only[bV1,Kf.of,zs,ze];refine ss (rg ?_);simp only[zz];refine ss (rg ?_);simp only[zz];refine dM (QA hall) ?_ (by simp only[zg]);simp only[zz];have hm:fD 24 ([]:List Int) (a00 g:Int) (a00 g:Int)=M (l! g.length []):=by
  grind[fD]
 obtain⟨f2,f3,f4,f5,f6⟩:=QV (e:=sa) hm;have hm2:fD 8 (0:Int) (a00 g:Int) (a00 g:Int)=M (l! g.length 0):=by
  grind[fD]
 obtain⟨a2,a3,a4,a5,a6⟩:=QV (e:=da) hm2;refine ss (rg ?_);(try simp only[zz]at f5 f6 a5 a6);(try simp only[zz,f2,f3,f4,f5]);refine ss (rg ?_);(try simp only[zz,a2,a3,a4,a5]);refine ss (rg ?_);simp only[zz];refine ss (ss (rg ?_));simp only[zz];refine tl (S:=⟨ds 4 (Qd g::.own 3 0::.own 2 0::.ref 0 0 0 0::ds 19 (Qd g::da g.length::da 0::ds 83 [])),[.live 1 0 [.own 1 0],.live 1 0 [],.live 1 0 (l! g.length (.v (.int .i64 0))),.live 1 0 (l! g.length (.v (.slice q6 0 0)))]⟩) (tq [ok 4,ok 3,ok 2,ok 1] (by simp_all[zg,Yk,TK,RS])) ?_;refine nJ (S:=1) (id:=3) (x:=a00 g) ?_;rw[JM _ _ _ _ _ _ (Nat.le_refl _),vac,List.replicate_zero,List.append_nil];refine T.vU (E1 g) (λy=>y.1<=a00 g/\y.2.1.Perm (fZ g y.1)/\Hp y.2.1 y.2.1.length) (λy=>y.1=a00 g/\y.2.1.Perm (fZ g y.1)/\Hp y.2.1 y.2.1.length) (λy=>g.length-y.1) (0,[],0) ⟨M' _,.refl _,λk _ h=>absurd h (Nat.not_lt_zero _)⟩ ?_ (λ_ _=>bu7) ?_ (λ_=>wA) ?_
 .grind[E1,evM,ZD,N1,ax0,l7,w8,At.same,ua.Ab]
 .rintro⟨i,l,v⟩ ⟨h1,h2,h3⟩;dsimp only at h1 h2 h3;have hll:l.length<=1048576:=by rw[h2.length_eq];grind[aF2]
  unfold E1 evM ZD N1;dsimp only;refine ss (rg ?_);simp only[zz];refine ss (cd rfl ?_);simp only[zz];refine gP.mk (λhc=>?_) (λhc=>?_)
  .have hi:i<a00 g:=U
   refine sk ?_;simp only[zz];have g2:g[i]?=M (g.getD i []):=o0
   have hmem:g.getD i []∈g:=List.mem_of_getElem? g2;have hgi:=hg.inr _ hmem;have hgn:=hg.nd _ hmem;have hgk:(g.getD i []).length<=a00 g:=TJ hgn hgi;have i1:(gI g i)[i]?=M 0:=by grind[gI]
   have i2:(gI g i).length=a00 g:=by grind[gI]
   refine ss (bk (ss (rg ?_)));simp only[zz,g2];generalize hgi':g.getD i []=gi at *;refine ss (rg ?_);simp only[zz,g2,i1,i2,hi];refine ss (ss (rg ?_));simp only[zz];have hdi:Uw g i gi.length=Jj g (i+1):=funext λd=>by rw[←hgi'];exact i7.symm
   have hw:aa .i64 ((i:Int)+1)=((i+1:Nat):Int):=by grind[BA]
   refine T.G6 gi.length (E2 g l v i) ?_ (λj _=>bu6) (λj hj=>?_) wA ?_
   .unfold E2 evM ZD N1;rw[show Uw g i 0=Jj g i from funext λd=>n7,hgi',←v8 hi,Vac,hgi'];exact At.same _ _ _ C'
   .unfold E2 evM ZD N1;rw[hgi'];refine ss (rg ?_);simp only[zz];refine ss (cd rfl ?_);simp only[zz];refine gP.mk (λhc=>?_) (λhc=>?_)
    .have hjl:j<a00 gi:=U
     refine sk ?_;simp only[zz];obtain⟨d,hd,hdn⟩:∃d:Nat,gi[j]=(d:Int)/\d<a00 g:=by
      have:=hgi gi[j] (y! hjl);exact⟨gi[j].toNat,U,U⟩
     have g3:gi[j]?=M (d:Int):=l4
     have hL:(NB g.length (Uw g i j)).length=a00 g:=iU;have hp:(NB g.length (Uw g i j))[d]?=M ((Uw g i j d).length,Uw g i j d):=gU hdn;have hLs:NB g.length (Uw g i (j+1))=(NB g.length (Uw g i j)).set d ((Uw g i j d).length+1,Uw g i j d++[(i:Int)]):=by
      refine(aw9 ?_ λe he=>?_).symm
      .simp_all[MQ]
      .rw[MQ l4 l4,p5 o0]
     have hpb:(Uw g i j d).length<=i+1:=ar7;generalize hQ:(Uw g i j d).length=q at *;generalize hF:Uw g i j d=F at *;generalize hLL:NB g.length (Uw g i j)=L at hL hLs hp⊢;obtain⟨E,hE⟩:∃E,E=pe L:=⟨_,rfl⟩;have hEl:E.length=a00 L:=by rw[hE,Rn]
     rw[←hE];have hol:(wj 4 L).length=a00 g:=by rw[py,hL]
     have hEd:d<a00 E:=U
     have k1:(wj 4 L)[d]?=M (.own (d+4) q):=by grind[vI]
     have k2:∀y,(E++[y])[d]?=M (.live 1 q (F.map da)):=λy=>by
      grind[pe]
     have k3:∀y e,(E++[y]).set d e=E.set d e++[y]:=λy e=>l4
     have k5:(a00 F+1)*8<=2 ^ 47:=U
     have k6:WV (a00 E+4) (d+4)=true:=XS U;refine ss (bk (ss (rg ?_)));simp only[zz,g3];refine rg ?_;simp only[zz,hol,hdn,k1,k2,k3,k5,k6,ο,Ru];have hw2:aa .i64 ((j:Int)+1)=((j+1:Nat):Int):=by grind[BA]
     refine rg ?_;simp only[zz,Kn,hw2];refine⟨hjl,?_⟩;have e1:(wj 4 L).set d (.own (d+4) (q+1))=wj 4 (NB g.length (Uw g i (j+1))):=by
      rw[hLs,←mO,Nat.add_comm 4]
     have e2:E.set d (.live 1 (q+1) (F.map da++[.v (.int .i64 i)]))=pe (NB g.length (Uw g i (j+1))):=by
      rw[hLs,hE];unfold pe;rw[Vac,Wab];rfl
     rw[e1,e2,←G!,←G!,←G!,←G!];exact At.mk _ _ _ _ C'
    .refine xt ?_;simp only[zz,OC];have hj:j=a00 gi:=U
     subst hj;refine⟨rfl,?_⟩;exact At.same _ _ _ C'
   .unfold E2 evM ZD N1;rw[hgi',hdi];simp only[zz];refine ss (rg ?_);simp only[zz];refine cd rfl ?_;by_cases hge:gi=[]
    .have hz:((a00 gi:Int)==0)=true:=l4
     have hrd:fZ g (i+1)=fZ g i++[(i:Int)]:=by simp_all[jW]
     simp only[zz,hz];refine rg ?_;simp only[zz];refine SB (Q2 (l:=l) (x:=(i:Int)) (v:=v) (u:=0) (R:=N1 (gI g (i+1)) (NB g.length (Jj g (i+1)))) AJ U h3) ?_;rintro d m' ⟨rfl,l',h4,h5,rfl⟩;unfold ZD N1;simp only[zz];refine rg ?_;simp only[zz,hw,Rs];refine⟨(i+1,l',v+1),⟨U,?_,h5⟩,U,?_⟩
     .grind
     .exact At.same _ _ _ C'
    .have hz:((a00 gi:Int)==0)=false:=by
      simp_all
     have hrd:fZ g (i+1)=fZ g i:=by simp_all[jW]
     simp only[zz,hz];refine sk ?_;simp only[zz];refine rg ?_;simp only[zz,hw,Rs];refine⟨(i+1,l,v),⟨U,?_,h3⟩,U,?_⟩
     .simp_all
     .exact At.same _ _ _ C'
  .refine xt ?_;simp only[zz,Dv];have hi:i=a00 g:=U
   subst hi;exact⟨(a00 g,l,v),⟨rfl,h2,h3⟩,At.same _ _ _ C'⟩
 .rintro⟨i,l,v⟩ ⟨h1,h2,h3⟩;dsimp only at h1 h2 h3;subst h1;unfold E1 evM ZD N1;dsimp only;simp only[zz];refine ss (rg ?_);simp only[zz];refine T.dE 12 1 rfl ?_;simp only[zz];refine ss ?_;refine T.vU (E3 g) (λy=>J2 g y.1 y.2.2.1/\Hp y.2.2.1 y.2.2.1.length) (λy=>J2 g y.1 []) (λy=>g.length-y.1.length) ([],0,l,v) ⟨ct2 h2,h3⟩ ?_ (λ_ _=>bu5) ?_ (λ_=>wA) ?_
  .unfold E3 ZD wE;dsimp only;rw[←bk7];exact At.same _ _ _ C'
  .rintro⟨out,w,l,v⟩ ⟨hj,h3⟩;dsimp only at hj h3;unfold E3 ZD wE;dsimp only;have hll:l.length<=1048576:=by
    rw[hj.perm.length_eq]
    grind[F4]
   refine ss (ss (rg ?_));simp only[zz];refine Ic (aw7 (l:=l) (v:=v) (u:=0)) ?_;simp only[zz];refine cd rfl ?_;simp only[zz];refine gP.mk (λhc=>?_) (λhc=>?_)
   .refine sk ?_;simp only[zz];obtain⟨n,hn⟩:∃n,a00 l=n+1:=⟨a00 l-1,U⟩;refine bk (ss (rg ?_));simp only[zz];refine SB (bl6 (l:=l) (n:=n) (v:=v) (u:=0) (R:=wE (vV g out) (gL g) w out) XC U hn h3) ?_;rintro _ _ ⟨x,l',rfl,h4,h5,h6,rfl⟩;obtain⟨d,rfl,hdl,hik,hol,hfin⟩:=bk3 hg hj h4 h5;unfold ZD wE;simp only[zz];have c0:∀o:Ent,(pe (gL g)++[o])[(pe (gL g)).length]?=M o:=λo=>ο;have c1:∀o z:Ent,(pe (gL g)++[o]++[z])[(pe (gL g)).length]?=M o:=λo z=>l5
    have c2:∀o z e:Ent,(pe (gL g)++[o]++[z]).set (pe (gL g)).length e=pe (gL g)++[e]++[z]:=λo z e=>l5
    have c3:∀o z:Ent,(pe (gL g)++[o]++[z])[(pe (gL g)).length+1]?=M z:=λo z=>l5
    have c5:WV ((pe (gL g)).length+1+4) ((pe (gL g)).length+4)=true:=XS U;have hEl:(pe (gL g)).length=a00 g:=by rw[Rn,MY]
    have hF:(gL g)[d]?=M ((Jj g g.length d).length,Jj g g.length d):=gU hdl;have hE1:(pe (gL g))[d]?=M (.live 1 (Jj g g.length d).length ((Jj g g.length d).map da)):=by
     grind[pe]
    have c4:∀o z:Ent,(pe (gL g)++[o]++[z])[d]?=M (.live 1 (Jj g g.length d).length ((Jj g g.length d).map da)):=λo z=>by
     grind
    have c6:∀o:Ent,(pe (gL g)++[o])[d]?=M (.live 1 (Jj g g.length d).length ((Jj g g.length d).map da)):=λo=>by
     grind
    have o1:(wj 4 (gL g))[d]?=M (.own (d+4) (Jj g g.length d).length):=by grind[vI]
    have o2:(wj 4 (gL g)).length=a00 g:=by rw[py,MY]
    have b1:(a00 out+1)*8<=2 ^ 47:=U
    have hDn:(Jj g g.length d).length<=a00 g:=aN;have hpl:=h4.length_eq;refine ss (rg ?_);simp only[zz,c0,c1,c2,c3,c5,b1];refine ss (rg ?_);simp only[zz,c1,c2,c4,o1,o2,hdl];refine T.vU (E4 g out w d) (λy=>y.1<=(Jj g g.length d).length/\y.2.1.Perm (l'++pI g out d y.1)/\Hp y.2.1 y.2.1.length) (λy=>y.1=(Jj g g.length d).length/\y.2.1.Perm (l'++pI g out d y.1)/\Hp y.2.1 y.2.1.length) (λy=>(Jj g g.length d).length-y.1) (0,l',v+1) ⟨M' _,by grind[bg7],h6⟩ ?_ (λ_ _=>bu4 hdl) ?_ (λ_=>bb5 bb3) ?_
    .unfold E4 ZD wE;dsimp only;rw[bk8,Wab,←G!,←G!,←G!,←G!];exact At.mk _ _ _ _ C'
    .rintro⟨k,l1,v1⟩ ⟨k1,k2,k3⟩;dsimp only at k1 k2 k3;have hl1:l1.length<=1048576+1048576:=by
      rw[k2.length_eq,List.length_append]
      grind[al2]
     unfold E4 ZD wE;dsimp only;refine ss (rg ?_);simp only[zz];refine ss (cd rfl ?_);simp only[zz];refine gP.mk (λhc=>?_) (λhc=>?_)
     .have hk:k<(Jj g g.length d).length:=U
      refine sk ?_;simp only[zz];obtain⟨e,he,hel,hem⟩:=JE.1 (y! hk);have g3:(Jj g g.length d)[k]?=M (e:Int):=l4
      have i1:=an9 (out:=out) hk he hel;have i2:(VD g out d k).length=a00 g:=by grind[VD]
      have i3:(List.map da (VD g out d k)).set e (.v (.int .i64 (vL g out e-1)))=List.map da (VD g out d (k+1)):=by
       rw[←dR hk he,Vac];rfl
      have i4:(VD g out d (k+1))[e]?=M (vL g out e-1):=by
       rw[←dR hk he,List.getElem?_set_self U]
      have i5:(VD g out d (k+1)).length=a00 g:=by grind[VD]
      have hcn:0<=vL g out e/\vL g out e<=1048576:=by
       unfold vL;have h1:=List.length_filter_le (λd=>!out.contains d) (g.getD e []);have h2:=TJ (hg.nd _ (bl9 hel)) (hg.inr _ (bl9 hel));omega
      have hwc:aa .i64 (vL g out e-1)=vL g out e-1:=BA ⟨U,U⟩;have hwk:aa .i64 ((k:Int)+1)=((k+1:Nat):Int):=by grind[BA]
      refine ss (bk (ss (rg ?_)));simp only[zz,c6,hk,g3];refine ss (rg ?_);simp only[zz,i1,i2,hel,hwc,i3];refine ss (rg ?_);simp only[zz,i4,i5,hel];refine cd rfl ?_;by_cases hc1:vL g out e=1
      .have hz:((vL g out e-1)==0)=true:=l4
       simp only[zz,hz];refine rg ?_;simp only[zz];refine SB (Q2 (l:=l1) (x:=(e:Int)) (v:=v1) (u:=0) (R:=wE (VD g out d (k+1)) (gL g) (w+1) (out++[(d:Int)])) XC U k3) ?_;rintro _ _ ⟨rfl,l2,h7,h8,rfl⟩;unfold ZD wE;simp only[zz];refine rg ?_;simp only[zz,hwk,Rs];refine⟨(k+1,l2,v1+1),⟨U,?_,h8⟩,U,?_⟩
       .dsimp only;rw[qR hk he,J hc1,←P?]
        grind
       .exact At.same _ _ _ C'
      .have hz:((vL g out e-1)==0)=false:=by
        grind
       simp only[zz,hz];refine sk ?_;simp only[zz];refine rg ?_;simp only[zz,hwk,Rs];refine⟨(k+1,l1,v1),⟨U,?_,k3⟩,U,?_⟩
       .dsimp only;rw[qR hk he,p5 hc1];omega
       .exact At.same _ _ _ C'
     .refine xt ?_;simp only[zz,Dv];have hk:k=(Jj g g.length d).length:=U
      subst hk;exact⟨((Jj g g.length d).length,l1,v1),⟨rfl,k2,k3⟩,At.same _ _ _ C'⟩
    .rintro⟨k,l1,v1⟩ ⟨k1,k2,k3⟩;dsimp only at k1 k2 k3;subst k1;unfold E4 ZD wE;dsimp only;rw[hik];simp only[zz,Rs];refine⟨(out++[(d:Int)],w+1,l1,v1),⟨hfin l1 k2,k3⟩,o0,?_⟩;exact At.same _ _ _ C'
   .refine xt ?_;simp only[zz,Dv];have hl0:l=[]:=List.eq_nil_of_length_eq_zero U;subst hl0;exact⟨(out,w,[],v),hj,At.same _ _ _ C'⟩
  .rintro⟨out,w,l,v⟩ hj;dsimp only at hj;have he:=bk4 hj;unfold E3 ZD wE;dsimp only;simp only[zz];have c0:∀o:Ent,(pe (gL g)++[o])[(pe (gL g)).length]?=M o:=λo=>ο;refine ss (ss (rg ?_));simp only[zz,c0];refine cd rfl ?_;by_cases hlt:out.length<a00 g
   .have hz:s5 ((a00 out:Int)<(a00 g:Int))=true:=s6 U;rw[J hlt]at he;rw[he];simp only[zz,hz];refine ss (rg ?_);simp only[zz];exact rt (er (by simp_all[zz,fq,zg]))
   .have hz:s5 ((a00 out:Int)<(a00 g:Int))=false:=u4 U;rw[p5 hlt]at he;rw[he];simp only[zz,hz];refine sk ?_;simp only[zz];refine ss (rg ?_);simp only[zz];exact rt (er (by simp_all[zz,fq,zg]))
theorem bk9{n:Int}(h:x∈AL n l):0<=x/\x<n:=by
 grind[AL]
theorem aR7{s:ek}(h:s.d.length<=1048576):GOk (Fl s):=by
 have hl:(Fl s).length=a00 s.d:=by grind[Fl]
 refine⟨U,λl hm e he=>?_,λl hm=>?_⟩
 .unfold Fl at hm;obtain⟨d,-,rfl⟩:=X'.1 hm;rw[hl];rw[(Mf _).2.2,List.mem_flatten]at he;obtain⟨q,hq,he⟩:=he;obtain⟨r,-,rfl⟩:=X'.1 hq;rcases List.mem_append.1 he with h1|h1<;>exact bk9 h1
 .unfold Fl at hm;obtain⟨d,-,rfl⟩:=X'.1 hm
  grind[cR,Mf]
theorem VB{r:List Int×Int}(h:Lf t0=M r):e? al 275 [pf t0] (.tup [sa r.1,da r.2]):=by
 unfold Lf at h
 cases hall:Yc t0 with
 |none=>simp_all
 |some g=>
  rw[hall]at h;simp only[Option.bind_some,T!]at h;subst h;have hall':=hall;unfold Yc at hall';split at hall'
  .rename_i hc;have:=Ts ⟨hc.1,hc.2.1,hc.2.2⟩;rw[hall]at this;obtain rfl:=J! this
   grind[cv4,aR7]
  simp_all
instance ahp{t0 r}:o! (Lf t0=M r) (e? al 275 [pf t0] (.tup [sa r.1,da r.2])):=⟨VB⟩
instance uZ:C2 bU6 Io:=pg (ak bU6.eq_1 Io.eq_1) (.z 11 (.j ⟨[.k 4,.p 1,.k 1,.p 1],[.o 1,.h 3 [.g [.p 3,.i 0]]]⟩ (.t [4,12]) .o))
instance ahq:C3 bP1 Cq:=pg (ak bP1.eq_1 Cq.eq_1) .o
instance N4:C3 bN3 Ll:=pg (ak bN3.eq_1 Ll.eq_1) .o
instance ahr:C3 bJ4 Ae:=pg (ak bJ4.eq_1 Ae.eq_1) (.b .o (.b .o (.j (EN [24,33,64,9,216,2,721] [0,8,16,24]) .o (.b .o (.z 3 (.j (EN [24,97,800,2,145] [0,8,16,24,32]) .o .o))))))
instance ahs:C3 bH8 Ma:=pg (ak bH8.eq_1 Ma.eq_1) (.z 3 (.j (EN [24,33,32,9,2,1009] [0,8,16,24]) .o (.b .o (.b .o (.j (EN [24,73,168,2,841] [0,8,16,24]) .o (.b .o (.j (EN [24,241,88,2,753] [0,8,16,24]) .o (.b .o (.b .o (.b .o (.b .o (.b .o (.b (.j ⟨[.k 6,.p 1,.s (da 0),.p 3],[.h 3 [.g [.i 0,.i 1,.i 2]]]⟩ (.t [12]) .o) (.b (.j ⟨[.k 6,.p 1,.s (da 0),.p 3],[.h 3 [.g [.i 0,.i 1,.i 2]]]⟩ (.t [12]) .o) .o))))))))))))))
instance aht:C3 bG2 Xo:=pg (ak bG2.eq_1 Xo.eq_1) (.z 4 (.j (EN [9,24,25,96,2,393] [0,8,16]) .o .o))
instance Y2:C1 bZ1 Du:=pg (ak (ak bZ1.eq_1 Du.eq_1) qk.eq_1) (.l (EN [8,57,48,17,2,409] [0,8]) (EN [16,49] [8]) [] (.b (.z 4 (.j ⟨[.k 1,.p 2,.k 2,.p 1,.k 8,.p 3],[.o 0,.o 1,.h 3 [.g [.i 0,.p 2,.i 1]]]⟩ (.b (.t [0,4,12]) (.j (EN [8,17,16,97,152,2,249] [0,8,24]) (.t [0,4,12]) .o)) .o)) (.t [4])) .o)
instance ahu{t0 c10 r}:o! (vb t0 (λx900=>Tf x900 c10)=M r) (e? al 354 [Pn t0,.fn 355 [] [Iz c10]] (za r)):=⟨λh=>Pq (q1:=[Iz c10]) (IN QK) (λx900 _ hb=>jz hb) h⟩
instance ahv:C3 bR8 bu:=pg (ak (ak bR8.eq_1 bu.eq_1) eo.eq_1) (.l (EN [8,9,8,25,8,9,2,25,64,17,10,977] [0,8,16]) (EN [8,9,8,25,8,9,2,25] [0,8,16]) [] (.z 2 (.j (EN [8,57,2,113] [0,8,16]) .o .o)) (.b .o (.b .o (.j (EN [8,265,96,2,785] [0,8,16]) .o (.b .o (.j (EN [24,345,96,2,689] [0,8,16]) .o (.b .o (.j (EN [24,441,216,2,473] [0,8,16]) .o (.b .o (.j (EN [24,657,72,2,401] [0,8,16]) .o (.b .o (.b .o (.b .o (.e (EN [24,41] [0,8,16]) .o .o))))))))))))))
instance R4:C3 bQ6 rq:=pg (ak (ak bQ6.eq_1 rq.eq_1) Nk.eq_1) (.l (EN [8,41,8,17,2,10,17] [0,8,16]) (EN [8,41,8,17,2] [0,8,16]) [] (.z 2 (.e (EN [8,65,2,137] [0,8,16]) .o .o)) (.z 1 (.j (EN [8,489,2,649] [0,8,16]) .o (.z 1 (.j (EN [8,9,8,473,208,2,441] [0,8,16]) .o (.z 1 (.j (EN [8,697,184,2,257] [0,8,16]) .o (.z 5 (.e (EN [56,17,16,801] [8,16,24]) (.b (.b .o (.t [4,8,12])) (.t [4,8,12])) .o)))))))))
instance ahw:C3 bK9 qa:=pg (ak bK9.eq_1 qa.eq_1) (.z 3 (.j (EN [8,9,8,33,56,9,2,1193] [0,8,16]) .o (.b .o (.b .o (.b .o (.b .o (.b .o (.b .o (.j (EN [8,113,376,2,817] [0,8,16]) .o .o)))))))))
instance ahx:C3 bJ3 Bb:=pg (ak bJ3.eq_1 Bb.eq_1) (.z 2 (.j (EN [24,33,64,2,185] [0,8,16,24]) .o .o))
instance ahy{t0 c10 r}:o! (gb t0 (λx900=>Re x900 c10)=M r) (e? al 313 [cx t0,.fn 314 [] [Yw c10]] (za r)):=⟨λh=>Jp (q1:=[Yw c10]) (IN QK) (λx900 _ hb=>ny hb) h⟩
instance D8:C2 bV8 Nr:=pg (ak (ak bV8.eq_1 Nr.eq_1) (ak gm.eq_1 (ak im.eq_1 (ak km.eq_1 qm.eq_1)))) (.z 3 (.j (EN [8,25,16,17,2,81] [0,8]) .o (.b .o (.b .o (.j (EN [8,49,360,2,881] [0,8]) .o (.l (EN [8,409,280,17,2,585] [0,8]) (EN [8,409] [0,8]) [] .o (.l (EN [8,849,8,17,2,417] [0,8]) (EN [8,849] [0,8]) [] .o (.l (EN [48,993,40,9,2,209] [8,16]) (EN [48,73] [8]) [4,8] .o (.l (EN [48,1145,16,9,2,81] [0]) (EN [] []) [] .o .o)))))))))
instance tZ:C2 bU5 Ho:=pg (ak (ak bU5.eq_1 Ho.eq_1) (ak wi.eq_1 (ak Cj.eq_1 zi.eq_1))) (.b .o (.b .o (.z 1 (.j (EN [8,97,344,2,545] [0,8,16,24]) .o (.l (EN [8,41,16,2,377] [0,8,16]) (EN [8,9,16,17] [8,16]) [] (.b .o (.t [4,8])) (.l (EN [8,73,2,913] [0,8]) (EN [32,9] [0]) [] (.l (EN [8,89,2,681] [0,8]) (EN [8,81] [0,8]) [] .o .o) .o))))))
instance ahz:C3 bO2 og:=pg (ak bO2.eq_1 og.eq_1) (.z 2 (.j (EN [8,9,8,33,104,2,265] [0,8,16]) .o (.z 3 (.j (EN [8,153,128,2,137] [0,8,16]) .o .o))))
instance aia:C3 bM4 Zr:=pg (ak (ak bM4.eq_1 Zr.eq_1) vo.eq_1) (.l (EN [8,9,8,33,8,2,25] [0,8,16]) (EN [8,9,8,33] [0,8,16]) [] .o (.b (.z 1 (.j (EN [24,265,88,2,513] [0,8,16]) .o .o)) (.b .o (.b .o (.z 1 (.f ⟨[.k 1,.p 111],[.o 0,.o 1,.o 2,.n 3 [],.n 3 [],.n 3 []]⟩ [0,4,8,13,13,13] (.g [[],[],[],[],[],[],[],[],[],[1,2,4,5,7,8],[1,2,4,5,7,8,9],[1,2,4,5,7,8,9,10],[4,5,7,8],[7,8]] [q6,q6,q6,q6,q6,q6,q6,q6,q6,M 3,M 4,M 5,q6,q6] (.z 1 (.j (EN [48,241,552,2,49] [16,24,32,40]) (.t [8,268,272,276]) .o)))))))))
instance W2:C1 bZ0 Cu:=pg (ak (ak bZ0.eq_1 Cu.eq_1) pk.eq_1) (.l (EN [8,41,56,9,2,129] [0,8]) (EN [16,33] [8]) [] (.b .o (.t [4])) .o)
instance K9:C1 bX3 Ds:=pg (ak (ak bX3.eq_1 Ds.eq_1) (ak Em.eq_1 (ak Fm.eq_1 Gm.eq_1))) (.l (EN [8,17,2,41] [0,8]) (EN [8,17] [0,8]) [] .o (.l (EN [8,33,2,177] [0,8]) (EN [8,33] [0,8]) [] .o (.l (EN [8,49,2,313] [0,8]) (EN [16,41] [8]) [] (.b .o (.t [4])) .o)))
theorem xB{t0 t1 r} [∀ t0 t1 r,o! (R327 t0 t1=M r) (e? al 327 [ya t0,da t1] (.tup [Da r.1,da r.2]))] [∀ t0 t1 t2 r,o! (R368 t0 t1 t2=M r) (e? al 368 [ya t0,Oi t1,sa t2] (.tup [Da r.1,da r.2]))] [∀ t0 t1 r,o! (R397 t0 t1=M r) (e? al 397 [ya t0,da t1] (.tup [Da r.1,da r.2]))] (h:eb R327 R368 R397 t0 t1=M r):e? al 327 [ya t0,da t1] (.tup [Da r.1,da r.2]):=by
 refine dk 63 bR2 ?_
 simp only[bR2,Kf.of,zs,ze]
 unfold eb at h
 exact pg jb.eq_1 (.z 5 (.j (EN [16,25,8,57,80,2,329] [0,8,16]) .o (.l (EN [16,41,8,121,104,17,10,209] [0,8,16,770]) (EN [16,41,8,121] [0,8,16,770]) [] .o .o)))
theorem vB{t0 t1 t2 r} [∀ t0 t1 r,o! (R327 t0 t1=M r) (e? al 327 [ya t0,da t1] (.tup [Da r.1,da r.2]))] [∀ t0 t1 t2 r,o! (R368 t0 t1 t2=M r) (e? al 368 [ya t0,Oi t1,sa t2] (.tup [Da r.1,da r.2]))] [∀ t0 t1 r,o! (R397 t0 t1=M r) (e? al 397 [ya t0,da t1] (.tup [Da r.1,da r.2]))] (h:Bd R327 R368 R397 t0 t1 t2=M r):e? al 368 [ya t0,Oi t1,sa t2] (.tup [Da r.1,da r.2]):=by
 refine dk 66 bO3 ?_
 simp only[bO3,Kf.of,zs,ze]
 unfold Bd at h
 exact pg trivial (.b .o (.a [[],[],[],[],[],[],[],[],[],[]] (.z 3 (.j (EN [16,41,8,9,136,2,337] [0,8,16,24]) .o .o))))
theorem qz{t0 t1 r} [∀ t0 t1 r,o! (R327 t0 t1=M r) (e? al 327 [ya t0,da t1] (.tup [Da r.1,da r.2]))] [∀ t0 t1 t2 r,o! (R368 t0 t1 t2=M r) (e? al 368 [ya t0,Oi t1,sa t2] (.tup [Da r.1,da r.2]))] [∀ t0 t1 r,o! (R397 t0 t1=M r) (e? al 397 [ya t0,da t1] (.tup [Da r.1,da r.2]))] (h:cc R327 R368 R397 t0 t1=M r):e? al 397 [ya t0,da t1] (.tup [Da r.1,da r.2]):=by
 refine dk 26 bL4 ?_
 simp only[bL4,Kf.of,zs,ze]
 unfold cc at h
 exact pg trivial (.z 5 (.j (EN [32,9,8,9,144,2,17] [8,16]) (.t [4,8]) .o))
def Fh:∀n,(∀ t0 t1 r,(ba n).1 t0 t1=M r->e? al 327 [ya t0,da t1] (.tup [Da r.1,da r.2]))/\(∀ t0 t1 t2 r,(ba n).2.1 t0 t1 t2=M r->e? al 368 [ya t0,Oi t1,sa t2] (.tup [Da r.1,da r.2]))/\(∀ t0 t1 r,(ba n).2.2 t0 t1=M r->e? al 397 [ya t0,da t1] (.tup [Da r.1,da r.2]))
|0=>⟨λ_ _ _ h=>(nomatch h),λ_ _ _ _ h=>(nomatch h),λ_ _ _ h=>(nomatch h)⟩
|n+1=>by
 obtain⟨H0,H1,H2⟩:=Fh n
 haveI I0:∀ t0 t1 r,o! ((ba n).1 t0 t1=M r) (e? al 327 [ya t0,da t1] (.tup [Da r.1,da r.2])):=λt0 t1 r=>⟨H0 t0 t1 r⟩
 haveI I1:∀ t0 t1 t2 r,o! ((ba n).2.1 t0 t1 t2=M r) (e? al 368 [ya t0,Oi t1,sa t2] (.tup [Da r.1,da r.2])):=λt0 t1 t2 r=>⟨H1 t0 t1 t2 r⟩
 haveI I2:∀ t0 t1 r,o! ((ba n).2.2 t0 t1=M r) (e? al 397 [ya t0,da t1] (.tup [Da r.1,da r.2])):=λt0 t1 r=>⟨H2 t0 t1 r⟩
 exact⟨λt0 t1 r h=>xB (R327:=(ba n).1) (R368:=(ba n).2.1) (R397:=(ba n).2.2) h,λt0 t1 t2 r h=>vB (R327:=(ba n).1) (R368:=(ba n).2.1) (R397:=(ba n).2.2) h,λt0 t1 r h=>qz (R327:=(ba n).1) (R368:=(ba n).2.1) (R397:=(ba n).2.2) h⟩
def ZC{t0 t1 r} (h:rj t0 t1=M r):e? al 327 [ya t0,da t1] (.tup [Da r.1,da r.2]):=(Fh cg).1 _ _ _ h
instance aib{t0 t1 r}:o! (rj t0 t1=M r) (e? al 327 [ya t0,da t1] (.tup [Da r.1,da r.2])):=⟨ZC⟩
def YC{t0 t1 t2 r} (h:gz t0 t1 t2=M r):e? al 368 [ya t0,Oi t1,sa t2] (.tup [Da r.1,da r.2]):=(Fh cg).2.1 _ _ _ _ h
instance aic{t0 t1 t2 r}:o! (gz t0 t1 t2=M r) (e? al 368 [ya t0,Oi t1,sa t2] (.tup [Da r.1,da r.2])):=⟨YC⟩
def FA{t0 t1 r} (h:Ov t0 t1=M r):e? al 397 [ya t0,da t1] (.tup [Da r.1,da r.2]):=(Fh cg).2.2 _ _ _ h
instance aid{t0 t1 r}:o! (Ov t0 t1=M r) (e? al 397 [ya t0,da t1] (.tup [Da r.1,da r.2])):=⟨FA⟩
theorem eK{t0 t1 t2 r} [∀ t0 t1 t2 r,o! (R339 t0 t1 t2=M r) (e? al 339 [Nf t0,da t1,Hl t2] (.tup [Da r.1,da r.2]))] [∀ t0 t1 t2 t3 r,o! (R385 t0 t1 t2 t3=M r) (e? al 385 [Nf t0,da t1,sa t2,Hl t3] (.tup [Da r.1,da r.2]))] (h:qn R339 R385 t0 t1 t2=M r):e? al 339 [Nf t0,da t1,Hl t2] (.tup [Da r.1,da r.2]):=by
 refine dk 69 bQ1 ?_
 simp only[bQ1,Kf.of,zs,ze]
 unfold qn at h
 exact pg wo.eq_1 (.z 4 (.j (EN [17,24,17,8,9,176,2,321] [0,8]) .o (.l (EN [81,19,10,153] [0,8,772]) (EN [65,16,19] [0,8,772]) [0,4,13] (.b (.a [[],[],[],[],[],[],[],[],[],[],[],[]] (.b .o (.t [0,4,264]))) .o) .o)))
theorem TL{t0 t1 t2 t3 r} [∀ t0 t1 t2 r,o! (R339 t0 t1 t2=M r) (e? al 339 [Nf t0,da t1,Hl t2] (.tup [Da r.1,da r.2]))] [∀ t0 t1 t2 t3 r,o! (R385 t0 t1 t2 t3=M r) (e? al 385 [Nf t0,da t1,sa t2,Hl t3] (.tup [Da r.1,da r.2]))] (h:iw R339 R385 t0 t1 t2 t3=M r):e? al 385 [Nf t0,da t1,sa t2,Hl t3] (.tup [Da r.1,da r.2]):=by
 refine dk 98 bM6 ?_
 simp only[bM6,Kf.of,zs,ze]
 unfold iw at h
 exact pg trivial (.b .o (.a [[],[],[],[],[],[],[],[],[],[],[]] (.z 3 (.j (EN [25,32,17,8,9,240,2,481] [0,8,16]) .o (.b .o (.b .o (.b .o (.a [[],[],[],[],[],[],[],[],[],[],[]] (.z 3 (.j (EN [64,17,16,9,688,2,17] [8,24]) (.t [4,12]) .o))))))))))
def Pw:∀n,(∀ t0 t1 t2 r,(Fa n).1 t0 t1 t2=M r->e? al 339 [Nf t0,da t1,Hl t2] (.tup [Da r.1,da r.2]))/\(∀ t0 t1 t2 t3 r,(Fa n).2 t0 t1 t2 t3=M r->e? al 385 [Nf t0,da t1,sa t2,Hl t3] (.tup [Da r.1,da r.2]))
|0=>⟨λ_ _ _ _ h=>(nomatch h),λ_ _ _ _ _ h=>(nomatch h)⟩
|n+1=>by
 obtain⟨H0,H1⟩:=Pw n
 haveI I0:∀ t0 t1 t2 r,o! ((Fa n).1 t0 t1 t2=M r) (e? al 339 [Nf t0,da t1,Hl t2] (.tup [Da r.1,da r.2])):=λt0 t1 t2 r=>⟨H0 t0 t1 t2 r⟩
 haveI I1:∀ t0 t1 t2 t3 r,o! ((Fa n).2 t0 t1 t2 t3=M r) (e? al 385 [Nf t0,da t1,sa t2,Hl t3] (.tup [Da r.1,da r.2])):=λt0 t1 t2 t3 r=>⟨H1 t0 t1 t2 t3 r⟩
 exact⟨λt0 t1 t2 r h=>eK (R339:=(Fa n).1) (R385:=(Fa n).2) h,λt0 t1 t2 t3 r h=>TL (R339:=(Fa n).1) (R385:=(Fa n).2) h⟩
def FO{t0 t1 t2 r} (h:cB t0 t1 t2=M r):e? al 339 [Nf t0,da t1,Hl t2] (.tup [Da r.1,da r.2]):=(Pw cg).1 _ _ _ _ h
instance aie{t0 t1 t2 r}:o! (cB t0 t1 t2=M r) (e? al 339 [Nf t0,da t1,Hl t2] (.tup [Da r.1,da r.2])):=⟨FO⟩
def nQ{t0 t1 t2 t3 r} (h:EO t0 t1 t2 t3=M r):e? al 385 [Nf t0,da t1,sa t2,Hl t3] (.tup [Da r.1,da r.2]):=(Pw cg).2 _ _ _ _ _ h
instance aif{t0 t1 t2 t3 r}:o! (EO t0 t1 t2 t3=M r) (e? al 385 [Nf t0,da t1,sa t2,Hl t3] (.tup [Da r.1,da r.2])):=⟨nQ⟩
instance aih:C1 ce2 rp:=pg (ak ce2.eq_1 rp.eq_1) .o
instance aii:C1 cb8 tu:=pg (ak cb8.eq_1 tu.eq_1) .o
instance aij:C2 bU9 Jl:=pg (ak bU9.eq_1 Jl.eq_1) .o
instance aik:C2 bT6 wx:=pg (ak bT6.eq_1 wx.eq_1) .o
instance YR:C3 k80 Ia:=pg (ak k80.eq_1 Ia.eq_1) (.z 4 (.j (EN [8,9,8,25,240,2,545] [0,8]) .o (.z 3 (.j (EN [40,249,216,2,329] [8]) (.t [4]) (.z 1 (.j (EN [512,2,321] []) (.j (EN [40,465,8,2,321] [0]) .o (.j (EN [40,473,2,321] [0]) .o (.j (EN [40,473,2,321] [0]) .o (.j (EN [40,473,2,321] [0]) .o .o)))) .o))))))
instance PY:C4 k82 rh:=pg (ak (ak k82.eq_1 rh.eq_1) Gn.eq_1) (.z 7 (.j (EN [16,57,248,2,497] [0,8,16]) .o (.l ⟨[.k 2,.p 2,.k 1,.p 8,.k 2,.p 1,.k 59,.p 2,.i 1,.p 25],[.o 1,.o 2,.h 3 [.g [.p 2,.s (.own 3 0)]],.ni 1 0]⟩ ⟨[.k 8,.p 5],[.o 2,.h 3 [.g [.p 2,.s (.own 2 0)]],.ni 1 0]⟩ [4,8,12,5] (.b (.b .o (.t [0,4,8,268])) (.t [4,8,12])) .o)))
instance rT:C3 k92 Vb:=pg (ak k92.eq_1 Vb.eq_1) (.z 4 (.j (EN [8,9,8,25,232,2,361] [0,8]) .o (.z 3 (.j (EN [40,241,176,2,185] [8]) (.t [4]) (.z 1 (.j (EN [640,2] []) .o .o))))))
instance eR:C5 cd5 kc:=pg (ak cd5.eq_1 kc.eq_1) (.z 5 (.j (EN [8,9,24,49,288,2,121] [0,8,16]) .o .o))
instance U2:C4 bV0 tf:=pg (ak (ak bV0.eq_1 tf.eq_1) zh.eq_1) (.l (EN [16,49,8,81,96,17,10,425] [0,8,16,770]) (EN [72,81] [16,770]) [] (.b (.e (EN [16,257] [0,8,16,770]) (.b .o (.a [[],[],[],[],[],[],[],[],[],[],[],[],[]] .o)) .o) (.t [8,12])) .o)
instance ail:C4 bT7 tw:=pg (ak (ak bT7.eq_1 tw.eq_1) Gu.eq_1) (.l (EN [16,49,8,33,27,10,33] [0,8,16,260]) (EN [72,33,11] [16,260]) [0,4,8,5] (.b (.e (EN [16,209] [0,8,16,770]) (.b (.t [0,4,8,268]) (.b .o (.t [0,4,8,268]))) .o) (.t [8,12])) .o)
instance B6:C3 k40 Wc:=pg (ak k40.eq_1 Wc.eq_1) .o
instance aim:C3 k44 Yo:=pg (ak k44.eq_1 Yo.eq_1) (.z 2 (.j (EN [48,2] []) .o .o))
instance SX:C3 k56 Ln:=pg (ak (ak k56.eq_1 Ln.eq_1) (ak mj.eq_1 nj.eq_1)) (.z 7 (.j (EN [32,17,328,2,521] [8,16]) (.t [4,8]) (.l (EN [32,41,400,17,2,409] [0,8]) (EN [40,33] [8]) [] (.b (.z 3 (.j (EN [32,465,96,2,305] [0,8]) .o (.b .o (.j (EN [32,65,376,121,96,2,209] [0,8]) .o .o)))) (.t [4])) (.l (EN [40,665,40,17,2,137] [0]) (EN [40,665] [0]) [] (.z 4 (.j (EN [40,65,640,25,96,2,33] [0]) .o .o)) .o))))
instance ain{t0 t1 t2 t3 r}:o! (Ca t0 t1 t2 t3=M r) (T5 al 227 [pf t0] [da t2,Bc t3] 6 [Hl t1] [Hl r.2] (.tup [sa r.1.1,Jv r.1.2])):=⟨λh=>by
 refine T5.of 101 bY1 ?_
 simp only[bY1,Kf.of,zs,ze]
 unfold Ca at h
 exact pg Dc.eq_1 (.l (EN [8,57,8,17,192,17,18,537] [1,770,8,16,1034]) (EN [72,17] [1,770,16,1034]) [0,12,4,8,16] (.b (.e (EN [8,297] [1,258,16,24,1034]) (.b .o (.b .o (.b .o (.b .o (.a [[],[],[],[],[],[],[],[],[],[],[],[],[],[],[]] .o))))) .o) (.t [0,4,12,16])) .o)⟩
instance aio:C4 bW5 Az:=pg (ak bW5.eq_1 Az.eq_1) (.b (.a [[],[],[1],[]] .o) (.b .o (.b .o (.a [[],[],[],[],[],[],[],[],[],[],[],[],[]] .o))))
instance aip{t0 t1 t2 t3 r}:o! (Ng t0 t1 t2 t3=M r) (e? al 157 [Kv t0,da t1,fM t2,Mv t3] (.tup [AF r.1,Hl r.2.1,Jv r.2.2])):=⟨λh=>by
 refine dk 119 cd2 ?_
 simp only[cd2,Kf.of,zs,ze]
 unfold Ng at h
 exact pg (ak wh.eq_1 xh.eq_1) (.l ⟨[.k 3,.p 19,.k 11,.p 2,.i 1,.p 87],[.o 0,.o 1,.o 2,.o 3,.o 4,.h 5 [.g [.p 4,.s (.own 6 0),.p 1]],.ni 2 0,.o 6]⟩ ⟨[.k 3,.p 19],[.o 0,.o 1,.o 2,.o 3,.o 4,.h 5 [.g [.p 4,.s (.own 6 0),.p 1]],.ni 2 0,.o 6]⟩ [0,4,8,12,16,20,9,24] (.b (.t [0,4,8,12,16,20,280,28]) .o) (.l ⟨[.k 3,.p 44,.k 1,.p 2,.i 2,.p 72],[.o 0,.o 1,.o 2,.o 3,.o 4,.h 5 [.g [.p 3,.s (.own 6 0),.p 2]],.ni 1 0,.o 6,.h 7 [.g [.p 2,.s (.own 9 0)]],.ni 2 1]⟩ ⟨[.k 3,.p 1,.k 4,.p 39],[.o 2,.o 3,.o 4,.h 5 [.g [.p 3,.s (.own 4 0),.p 2]],.ni 1 0,.o 6,.h 7 [.g [.p 2,.s (.own 7 0)]],.ni 2 1]⟩ [0,4,8,12,16,20,5,24,28,9] (.b (.z 4 (.f ⟨[.k 3,.p 120],[.o 0,.o 1,.o 2,.o 3,.o 4,.o 5,.o 6,.o 7,.o 8,.o 9,.h 10 [.g [.p 2,.s (.sl 3 (([] : List bz).map Da)),.s (.sl 1 (([] : List (List bz)).map Ku)),.s (.sl 2 (([] : List ej).map Vg)),.p 1]]]⟩ [] (.g [[],[0],[0,1],[0,1,2],[0,1,2,3],[0,1,2,3,4],[0,1,2,3,4,5],[0,1,2,3,4,5,6],[0,1,2,3,4,5,6,7],[0,1,2,3,4,5,6,7,8],[0,1,2,3,4,5,6,7,8,9],[0,1,2,3,4,5,6,7,8,9,10],[0,1,2,3,4,5,6,7,8,9,10,11],[0,1,2,3,4,5,6,7,8,9,10,11,12],[0,1,2,3,4,5,6,7,8,9,10,11,12,13]] [q6,q6,q6,q6,q6,q6,q6,q6,q6,M 10,q6,q6,q6,q6,q6] (.b (.a [[],[],[],[2],[2]] .o) (.t [0,4,8,12,16,20,280,28,32,292]))))) (.t [8,12,16,20,24,28,32,36])) (.z 1 (.f ⟨[.k 3,.p 120],[.o 0,.o 1,.o 2,.h 3 [.g [.p 2,.s (.sl 3 (([] : List bz).map Da)),.p 3]],.o 6,.o 7]⟩ [0,4,8,12,24,28] (.g [[],[0],[0,1],[0,1,2],[0,1,2,3],[0,1,2,3,4],[0,1,2,3,4,5],[0,1,2,3,4,5,6],[0,1,2,3,4,5,6,7],[0,1,2,3,4,5,6,7,8],[0,1,2,3,4,5,6,7,8,9],[0,1,2,3,4,5,6,7,8,9,10],[0,1,2,3,4,5,6,7,8,9,10,11],[0,1,2,3,4,5,6,7,8,9,10,11,12]] [q6,q6,q6,q6,q6,q6,q6,q6,M 3,q6,q6,q6,q6,q6] (.b (.a [[],[],[],[2],[2]] .o) (.a [[],[],[],[1],[]] .o)))))))⟩
instance M9:C4 ca7 Pk:=pg (ak (ak ca7.eq_1 Pk.eq_1) Zq.eq_1) (.l ⟨[.k 2,.p 6,.k 2,.p 4,.k 1,.i 2,.p 4],[.o 0,.h 1 [.g [.p 2,.k 1,.p 3]],.o 2,.ci 3 0,.ci 4 1]⟩ (EN [80,25] [16,770,1034]) [] (.b (.e (EN [16,249] [0,8,16,770,1034]) .o .o) (.t [8,12,16])) .o)
instance y8:C4 k83 Cc:=pg (ak (ak k83.eq_1 Cc.eq_1) (ak th.eq_1 (ak uh.eq_1 (ak sh.eq_1 (ak np.eq_1 (ak vh.eq_1 (ak Qi.eq_1 (ak bY2.eq_1 (ak cd3.eq_1 cd4.eq_1))))))))) (.b (.a [[],[],[1],[]] .o) (.i cd4 50 ⟨[.s (.ref 5 0 0 0)],[.O 0,.O 1,.O 2,.O 3,.O 4,.nq 12 [.x [.i 0,.i 1,.i 2,.i 3,.i 4,.i 5,.i 6,.i 7,.i 8,.i 9,.s (.own 6 0),.s (.own 7 0)]],.ni 1 10,.ni 1 11]⟩ (.z 3 (.j ⟨[.k 5,.p 1],[.O 0,.O 1,.O 2,.O 3,.O 4,.h 6 [.g [.p 5,.i 0,.i 1,.i 2,.i 3,.i 4,.p 1,.s (.own 7 0)]],.o 7,.ni 1 5]⟩ (.b (.t [0,4,8,12,16,24,28,32]) (.t [0,4,8,12,16,24,28,5])) .o)) (.i cd3 45 ⟨[.s (.tup [])],[.O 0,.O 1,.O 2,.O 3,.O 4,.O 5,.Ci 6 0,.Ci 7 1]⟩ (.l (EN [65,88,17,10,201] [1,9,17,25,33,41,1539,57]) (EN [65] [1,9,17,25,33,41,1539,57]) [] .o (.l (EN [9,288,17,10,57] [1,9,17,25,33,41,49,1795]) (EN [] [1,9,17,25,33,41,49,1795]) [] (.b (.i bY2 28 ⟨[.s (.tup [])],[.O 0,.O 1,.O 2,.O 3,.O 4,.O 5,.O 6,.Ci 7 0]⟩ (.l (EN [9,128,17,10,81] [1,9,17,25,33,41,49,1795]) (EN [] [1,9,17,25,33,41,49,1795]) [] .o .o) .o) .o) .o)) (.z 1 (.d [0,8,16,24,32] [] (.b (.a [[],[],[1],[]] .o) (.a [[],[],[],[],[],[],[],[],[],[],[],[6,8,9],[]] .o)))))))
instance BR:C4 ca8 Dl:=pg (ak (ak ca8.eq_1 Dl.eq_1) Qh.eq_1) (.l (EN [24,41,16,9,27,35,9,18,25] [0,8,16,260,268,24]) (EN [80,9,11,19] [16,260,268]) [0,4,8,5,5,12] (.b (.b .o (.t [0,4,8,268,272,20])) (.t [8,12,16])) .o)
instance aiq:C5 k41 Hj:=pg (ak (ak k41.eq_1 Hj.eq_1) ee.eq_1) (.l (EN [32,49,16,2,10,89,18,497] [0,8,16]) (EN [56,25,16,2,10,73] [16]) [] (.b .o (.t [8])) .o)
instance sW:C4 k96 Bh:=pg (ak (ak k96.eq_1 Bh.eq_1) (ak Kj.eq_1 (ak Mj.eq_1 (ak Bg.eq_1 (ak Lj.eq_1 (ak Bl.eq_1 (ak Cl.eq_1 (ak ca9.eq_1 bk2.eq_1)))))))) (.i bk2 23 ⟨[.s (.tup [])],[.O 0,.O 1,.O 2,.O 3,.O 4,.Ci 5 0]⟩ (.l (EN [8,9,32,9,10] [1,9,17,25,33,1283]) (EN [] [1,9,17,25,33,1283]) [] .o .o) (.i ca9 28 ⟨[.s (.tup [])],[.O 0,.O 1,.O 2,.O 3,.O 4,.O 5,.Ci 6 0]⟩ (.l (EN [8,17,8,41,10] [1,9,17,25,33,41,1539,56]) (EN [] [1,9,17,25,33,41,1539]) [] (.b (.i bk2 23 ⟨[.s (.tup [])],[.O 0,.O 1,.O 2,.O 3,.O 4,.O 5,.Ci 6 0,.O 7]⟩ (.l (EN [8,9,32,9,10] [1,9,17,25,33,41,1539,57]) (EN [] [1,9,17,25,33,41,1539,57]) [] .o .o) .o) .o) .o) (.z 1 (.d [0,8,16,24,32,40] [] (.b (.a [[],[],[1],[]] .o) (.z 1 (.d [0,8,16,24,32,48] [0,4,8,12,16,24] (.b (.a [[],[],[1],[]] .o) (.a [[],[],[],[],[],[],[],[],[],[6,7],[]] .o)))))))))
instance vZ:C7 k45 Vj:=pg (ak (ak k45.eq_1 Vj.eq_1) Pe.eq_1) (.l (EN [24,17,16,65,16,9,2,10,57] [0,8,16,24]) (EN [24,9,40,49,24,2] [16,24]) [] (.b (.a [[],[],[],[],[],[],[],[],[],[],[],[],[],[]] .o) (.t [8,12])) (.z 1 (.j (EN [24,49,40,33,56,2] [8]) (.t [4]) .o)))
instance J0:C6 k50 Zd:=pg (ak (ak k50.eq_1 Zd.eq_1) oh.eq_1) (.z 2 (.j (EN [24,73,192,2,385] [0,8,16]) .o (.z 3 (.j (EN [24,89,2,10,161] [0,8,16,24]) .o (.l (EN [32,81,10,9,18,265] [0,8,16,770]) (EN [104,9] [770]) [] (.b (.z 2 (.j ⟨[.k 4,.p 10,.i 0,.p 36],[.o 0,.o 1,.o 2,.o 3,.h 4 [.g [.p 1,.i 1,.i 2]]]⟩ (.b .o (.b (.a [[],[],[],[],[],[],[],[],[],[],[],[],[]] .o) .o)) (.t [0,4,8,268]))) (.t [12])) .o)))))
theorem HH{t0 t1 t2 t3 t4 t5 r} (h:Zd t0 t1 t2 t3 t4 t5=M r):Ly al 50 [Kv t0,.agg [da t1.Id,da t1.aj,da t1.s,.own 0 0],Hh t2,da t3,da t4,da t5] [(9,t1.ab.map ue)] (xd r):=by
 refine Ly.of 79 k50 ?_ (by simp[Fr.l])
 simp only[k50,Kf.of,zs,ze,Sz,F?,W?,H!,L!,N!]
 unfold Zd at h
 exact pg oh.eq_1 (.z 2 (.j (EN [24,73,192,2,385] [1,8,16,24]) .o (.z 3 (.j (EN [24,89,2,10,161] [1,8,16,24,32]) .o (.l (EN [32,81,10,9,18,265] [1,8,16,24,1026]) (EN [104,9] [1,1026]) [] (.b (.z 2 (.j ⟨[.k 4,.p 10,.i 0,.p 36],[.O 0,.o 1,.o 2,.o 3,.o 4,.h 5 [.g [.p 1,.i 1,.i 2]]]⟩ (.b .o (.b (.a [[],[],[],[],[],[],[],[],[],[],[],[],[]] .o) .o)) (.t [0,4,8,12,272]))) (.t [0,16])) .o)))))
instance air{t0 t1 t2 t3 t4 t5 r}:T? (Zd t0 t1 t2 t3 t4 t5=M r) (Ly al 50 [Kv t0,.agg [da t1.Id,da t1.aj,da t1.s,.own 0 0],Hh t2,da t3,da t4,da t5] [(9,t1.ab.map ue)] (xd r)):=⟨HH⟩
instance RX:C5 k16 Eb:=pg (ak k16.eq_1 Eb.eq_1) (.z 2 (.j (EN [24,57,72,2,161] [0,8,16]) .o .o))
theorem LG{t0 t1 t2 t3 t4 r} (h:Eb t0 t1 t2 t3 t4=M r):Ly al 16 [Kv t0,Hh t1,.agg [da t2.am.Id,da t2.am.aj,da t2.am.s,.own 0 0,.own 1 0,.own 2 0,da t2.z,da t2.as],da t3,da t4] [(9,t2.am.ab.map ue),(4,t2.ak.map ab),(7,t2.ao.map Eg)] (Gc r):=by
 refine Ly.of 35 k16 ?_ (by simp[Fr.l])
 simp only[k16,Kf.of,zs,ze,Sz,F?,W?,H!,L!,N!]
 unfold Eb at h
 exact pg trivial (.z 2 (.j (EN [24,57,72,2,161] [1,9,17,24,32,40]) .o .o))
instance ais{t0 t1 t2 t3 t4 r}:T? (Eb t0 t1 t2 t3 t4=M r) (Ly al 16 [Kv t0,Hh t1,.agg [da t2.am.Id,da t2.am.aj,da t2.am.s,.own 0 0,.own 1 0,.own 2 0,da t2.z,da t2.as],da t3,da t4] [(9,t2.am.ab.map ue),(4,t2.ak.map ab),(7,t2.ao.map Eg)] (Gc r)):=⟨LG⟩
instance pT:C6 cg1 Di:=pg (ak (ak cg1.eq_1 Di.eq_1) Zf.eq_1) (.l (EN [32,65,8,17,27,10] [0,8,16,772]) (EN [120,3] [772]) [0,4,8,13] (.b (.t [0,4,8,268]) (.t [12])) .o)
instance CT:C3 k31 Za:=pg (ak k31.eq_1 Za.eq_1) (.z 2 (.j (EN [48,2] []) .o .o))
instance V4:C6 k53 kj:=pg (ak (ak k53.eq_1 kj.eq_1) Sk.eq_1) (.z 2 (.j (EN [24,73,152,2,185] [0,8,16]) .o (.l (EN [32,9,64,3,10,129] [772]) (EN [104,3] [772]) [13] (.b (.t [256]) .o) .o)))
instance ait{t0 t1 t2 t3 r}:o! (Oo t0 t1 t2 t3=M r) (e? al 71 [Kv t0,Hh t1,Ju t2,da t3] (.tup [Ju r.1,da r.2])):=⟨λh=>by
 refine dk 96 k71 ?_
 simp only[k71,Kf.of,zs,ze]
 unfold Oo at h
 exact pg (ak nz.eq_1 (ak Dj.eq_1 (ak Ej.eq_1 cf0.eq_1))) (.z 4 (.j (EN [24,49,168,2,553] [0,8,16,24]) .o (.l (EN [24,9,16,33,19,153,112,17,10,425] [16,24,1028]) (EN [24,9,16,33,19,153] [16,24,1028]) [8,12,17] (.z 2 (.j (EN [24,353] [0,8,514]) (.b (.t [0,4,264]) .o) .o)) (.l (EN [24,65,416,17,10,273] [0,8,514]) (EN [24,65] [0,8,514]) [] (.z 2 (.j (EN [24,505] [0,8,514]) (.b (.t [0,4,264]) .o) .o)) (.b .o (.i cf0 17 ⟨[.s (.agg [da t2.am.Id,da t2.am.aj,da t2.am.s,.own 3 0,.own 4 0,.own 5 0,da t2.z,da t2.as])],[.O 0,.O 1,.O 2,.ni 9 0,.ni 4 1,.ni 7 2]⟩ (.t [0,4,8,20,24,28]) .o))))))⟩
instance S9:C5 k17 Ei:=pg (ak k17.eq_1 Ei.eq_1) (.z 2 (.j (EN [24,57,72,2,161] [0,8,16]) .o .o))
instance aiu:C0 k30 Mr:=pg (ak k30.eq_1 Mr.eq_1) (.z 6 (.d [8,16,32,40] [4,8,16,20] (.j (EN [2] []) .o .o)))
instance W4:C3 k32 Nl:=pg (ak k32.eq_1 Nl.eq_1) (.z 2 (.j (EN [48,2] []) .o .o))
instance HA:C3 k7 Sf:=pg (ak k7.eq_1 Sf.eq_1) (.z 2 (.j (EN [24,25,136,2,161] [0,8,16]) .o (.b .o (.j (EN [48,2,129] []) .o .o))))
def Wz{t0 t1 t2 r} (h:Sf t0 t1 t2=M r):e? al 7 [Kv t0,Hh t1,Ju t2] (za r):=HA.h h
end Go.Proofs.Dev
