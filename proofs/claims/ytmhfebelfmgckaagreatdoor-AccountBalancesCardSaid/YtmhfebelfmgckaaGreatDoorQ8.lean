/-
  Contracts of the functions: each answers as its plain partial function says.
-/
import Derived.Test.YtmhfebelfmgckaaGreatDoorQ4
import Derived.Test.YtmhfebelfmgckaaGreatDoorQ5
import Derived.Test.YtmhfebelfmgckaaGreatDoorQ6
import Derived.Test.YtmhfebelfmgckaaGreatDoorQ7
open Option renaming some->M,none->s5
open Decidable renaming decide->s6
open And renaming intro->ak
open Go.Proofs.Tryz renaming prog->al
open Bool renaming and_eq_true->E!,and_true->pac
open List renaming all_cons->θ,append_assoc->P',cons_append->G?,ext_getElem->bac,getElem?_concat_length->ζ,getElem_mem->y!,length_cons->G!,length_nil->M!,map_append->eac,map_cons->D?,map_nil->R?,map_set->jad,mem_map->V!,replicate->k?,replicate_succ'->Yab,length->a00
open Nat renaming reduceAdd->M?,sub_self->Fac,zero_le->L!
open Option.some renaming inj->J',injEq->T'
set_option linter.all false
set_option maxHeartbeats 1000000
set_option maxRecDepth 10000
namespace Go.Proofs.Dev
open Go Go.Tm
variable {n d w:Nat}{F:Nat->List Int}{x:Int}{L:LL}{g:List (List Int)}{y:Nat×List Int×Nat}{l out:List Int}{t0:ek}{R327 R397:(tk -> Int -> Option (bz × Int))}{R368:(tk -> fr -> (List Int) -> Option (bz × Int))}{R339:((List fr) -> Int -> ic -> Option (bz × Int))}{R385:((List fr) -> Int -> (List Int) -> ic -> Option (bz × Int))}
instance ahs:C5 cg6 Gy:=pg (ak (ak cg6.eq_1 Gy.eq_1) Vr.eq_1) (.l (EN [17,8,57,8,11,10,41,18,265] [0,1028]) (EN [9,16,57,8,11,10,25] [0,1028]) [0,17] (.z 2 (.j (EN [97,10,49] [0,258]) (.z 3 (.j (EN [153,96,2,161] [0,8,16]) .o (.b .o (.t [0,260])))) .o)) .o)
instance Q2:C2 bZ2 bd:=pg (ak bZ2.eq_1 bd.eq_1) (.z 2 (.j (EN [8,25,72,2,33] [0]) .o .o))
instance P2:C2 bZ1 lj:=pg (ak (ak bZ1.eq_1 lj.eq_1) (ak ik.eq_1 Pu.eq_1)) (.z 2 (.j (EN [8,25,168,2,553] [0]) .o (.l (EN [16,185,88,17,10,449] [0,258]) (EN [16,185] [0,258]) [] .o (.l (EN [16,49,19,297,8,17,10,361] [0,8,260]) (EN [64,3,297] [260]) [0,4,5] (.b (.j (EN [16,385] [0,8,514]) (.z 2 (.j (EN [16,385,168,2,185] [0,8,16,24]) .o (.b .o (.t [0,4,520])))) .o) (.t [8])) .o))))
instance aht{t0 c10 r}:o! (Bc t0 (λx900=>bf x900 c10)=M r) (e? al 303 [SE t0,.fn 304 [] [BC c10]] (.tup [da r.1,za r.2])):=⟨λh=>Lw (q1:=[BC c10]) (jM PJ) (λx900 _ hb=>Yy hb) h⟩
instance ahu:C2 bW9 Ss:=pg (ak (ak bW9.eq_1 Ss.eq_1) dn.eq_1) (.z 4 (.j (EN [8,25,200,2,729] [0]) .o (.l (EN [16,217,128,17,2,585] [0]) (EN [] []) [] (.z 5 (.j (EN [16,369,184,2,393] [0,8]) .o (.z 1 (.j (EN [16,553,200,2,193] [0,8]) .o (.z 1 (.j (EN [16,753,88,2,105] [0,8]) .o .o)))))) .o)))
def jC(n:Nat) (F:Nat->List Int):LL:=(List.range n).map λd=>((F d).length,F d)
theorem MU:(jC n F).length=n:=by simp[jC]
theorem LU(h:d<n):(jC n F)[d]?=M ((F d).length,F d):=by grind[jC]
theorem aw9{F':Nat->List Int}(h1:F' d=F d++[x]) (h2:∀e,e≠d->F' e=F e):(jC n F).set d ((F d).length+1,F d++[x])=jC n F':=by
 unfold jC;apply bac
 all_goals grind
def W2(I:List Int) (L:LL):List Ent:=.live 1 0 (I.map da)::.live 1 0 (Cj 4 L)::ue L
def evM(l:List Int) (v:Nat) (I:List Int) (L:LL):List Ent:=rE l v 0 (W2 I L)
theorem wT{I:List Int}:(W2 I L).length=a00 L+2:=by simp[W2,Xn]
theorem iK{I:List Int}:(W2 I L).all (Ent.below ((W2 I L).length+2))=true:=by
 rw[wT];unfold W2;simp only[θ,E!];exact⟨Ub _ _ (Fr.l _),mA U,nB⟩
theorem wN(t:List D) (a b c:Ent) (n:Nat):∀x,x<=n->XA 1 3 x ⟨t,[a,b,c,.live 1 0 (k? n (.v (.slice s5 0 0)))]⟩=⟨t,a::b::c::.live 1 0 (Cj 4 (k? x (0,[]))++k? (n-x) (.v (.slice s5 0 0)))::ue (k? x (0,[]))⟩
 |0,_=>by simp[XA,Cj,ue]
 |x+1,h=>by
  rw[XA,wN t a b c n x U];unfold vN;simp only[List.getElem?_cons_succ,List.getElem?_cons_zero];have hl:(Cj 4 (k? x ((0:Nat),([]:List Int)))).length=x:=by grind[Ey]
  rw[List.getElem?_append_right U,hl,Fac,List.getElem?_replicate,J];simp only[List.set_cons_succ,List.set_cons_zero,G!,Xn,List.length_replicate,G?,St.mk.injEq,R1,List.cons.injEq,Ent.live.injEq];refine⟨?_,?_⟩
  .rw[List.set_append,p6,hl,Fac,Yab (n:=x),QO,P'];congr 1;obtain⟨k,hk⟩:∃k,n-x=k+1:=⟨n-x-1,U⟩
   grind[Cj]
  grind[ue,Yab]
theorem ax0(h:∀d,F d=[]):jC n F=k? n (0,[]):=by
 unfold jC;apply bac
 all_goals simp_all
theorem IT:oa (k? n (.v (.int .i64 0)))=true:=km.2 λd hd=>by rw[List.eq_of_mem_replicate hd];rfl
def E1(g:List (List Int)) (y:Nat×List Int×Nat):St:=⟨ds 4 (Ud g::.own 3 0::.own 2 0::.ref 0 0 0 0::ds 19 (Ud g::da g.length::da y.1::ds 83 [])),evM y.2.1 y.2.2 (MI g y.1) (jC g.length (Oj g y.1))⟩
def E2(g:List (List Int)) (l:List Int) (v i j:Nat):St:=⟨ds 4 (Ud g::.own 3 0::.own 2 0::.ref 0 0 0 0::da i::qa (g.getD i [])::ds 17 (Ud g::da g.length::da i::ds 9 (qa (g.getD i [])::da (g.getD i []).length::da j::ds 71 []))),evM l v (MI g (i+1)) (jC g.length (fx g i j))⟩
theorem bv2:Ω 0 (E1 g y):=by
 refine fG iK (L! _) ?_
 simp_all[j?,Tm.below,wT,Jn,Ap,Rc,Fr.h]
theorem bv1{v i j:Nat}:Ω 0 (E2 g l v i j):=by
 refine fG iK (L! _) ?_
 simp_all[j?,Tm.below,wT,Jn,Ap,Rc,Fr.h]
def TE(I:List Int) (L:LL) (w:Nat) (out:List Int):List Ent:=.live 1 0 (I.map da)::.live 1 0 (Cj 4 L)::(ue L++[.live 1 w (out.map da)])
theorem jO{I:List Int}:(TE I L w out).length=a00 L+3:=by simp[TE,Xn]
theorem AD{I:List Int}:(TE I L w out).all (Ent.below ((TE I L w out).length+2))=true:=by
 rw[jO];unfold TE;simp only[θ,List.all_append,List.all_nil,pac,E!];exact⟨Ub _ _ (Fr.l _),mA U,nB,Ub _ _ (Fr.l _)⟩
abbrev gL(g:List (List Int)):LL:=jC g.length (Oj g g.length)
def E3(g:List (List Int)) (y:List Int×Nat×List Int×Nat):St:=⟨ds 4 (Ud g::.own 3 0::.own 2 0::.ref 0 0 0 0::ds 4 (.own ((ue (gL g)).length+4) y.2.1::ds 100 [])),rE y.2.2.1 y.2.2.2 0 (TE (ZV g y.1) (gL g) y.2.1 y.1)⟩
def E4(g:List (List Int)) (out:List Int) (w d:Nat) (y:Nat×List Int×Nat):St:=⟨ds 4 (Ud g::.own 3 0::.own 2 0::.ref 0 0 0 0::ds 4 (.own ((ue (gL g)).length+4) (w+1)::da d::ds 70 (.own (d+4) (Oj g g.length d).length::da (Oj g g.length d).length::da y.1::ds 26 []))),rE y.2.1 y.2.2 0 (TE (nE g out d y.1) (gL g) (w+1) (out++[(d:Int)]))⟩
def oZ:(gL g).length=a00 g:=MU
theorem bv0{y:List Int×Nat×List Int×Nat}:Ω 0 (E3 g y):=by
 refine fG AD (L! _) ?_
 simp_all[j?,Tm.below,jO,Xn,Jn,Ap,Rc,Fr.h]
theorem bu9(hd:d<a00 g) :Ω 0 (E4 g out w d y):=by
 refine fG AD (L! _) ?_;rw[jO,Xn,oZ];simp only[Jn,Ap,j?,Tm.below,pac,Bool.true_and,E!,w3];exact⟨Rc _ _ (Fr.h _),U,U,U,U,Rc _ _ (Fr.h _),U,Rc _ _ (Fr.h _),Rc _ _ (Fr.h _)⟩
theorem cx1(hall:jd t0=M g) (hg:GOk g) :
 e? al 275 [sf t0] (.tup [qa (Fx g).1,da (Fx g).2]):=by
 have hgl:=hg.len;refine dk 112 bV8 ?_;simp only[bV8,Kf.of,zs,ze];refine ss (rg ?_);simp only[zz];refine ss (rg ?_);simp only[zz];refine IM (cB hall) ?_ (by simp only[zg]);simp only[zz];have hm:kD 24 ([]:List Int) (a00 g:Int) (a00 g:Int)=M (k? g.length []):=by
  grind[kD]
 obtain⟨f2,f3,f4,f5,f6⟩:=vW (e:=qa) hm;have hm2:kD 8 (0:Int) (a00 g:Int) (a00 g:Int)=M (k? g.length 0):=by
  grind[kD]
 obtain⟨a2,a3,a4,a5,a6⟩:=vW (e:=da) hm2;refine ss (rg ?_);(try simp only[zz]at f5 f6 a5 a6);(try simp only[zz,f2,f3,f4,f5]);refine ss (rg ?_);(try simp only[zz,a2,a3,a4,a5]);refine ss (rg ?_);simp only[zz];refine ss (ss (rg ?_));simp only[zz];refine tl (S:=⟨ds 4 (Ud g::.own 3 0::.own 2 0::.ref 0 0 0 0::ds 19 (Ud g::da g.length::da 0::ds 83 [])),[.live 1 0 [.own 1 0],.live 1 0 [],.live 1 0 (k? g.length (.v (.int .i64 0))),.live 1 0 (k? g.length (.v (.slice s5 0 0)))]⟩) (tq [ok 4,ok 3,ok 2,ok 1] (by simp_all[zg,Jj,CL,IT])) ?_;refine TJ (S:=1) (id:=3) (x:=a00 g) ?_;rw[wN _ _ _ _ _ _ (Nat.le_refl _),Fac,List.replicate_zero,List.append_nil];refine T.aV (E1 g) (λy=>y.1<=a00 g/\y.2.1.Perm (EZ g y.1)/\Hp y.2.1 y.2.1.length) (λy=>y.1=a00 g/\y.2.1.Perm (EZ g y.1)/\Hp y.2.1 y.2.1.length) (λy=>g.length-y.1) (0,[],0) ⟨L! _,.refl _,λk _ h=>absurd h (Nat.not_lt_zero _)⟩ ?_ (λ_ _=>bv2) ?_ (λ_=>FA) ?_
 .grind[E1,evM,rE,W2,ax0,K7,O8,At.same,ua.Hb]
 .rintro⟨i,l,v⟩ ⟨h1,h2,h3⟩;dsimp only at h1 h2 h3;have hll:l.length<=1048576:=by rw[h2.length_eq];grind[aF4]
  unfold E1 evM rE W2;dsimp only;refine ss (rg ?_);simp only[zz];refine ss (cd rfl ?_);simp only[zz];refine gP.mk (λhc=>?_) (λhc=>?_)
  .have hi:i<a00 g:=U
   refine sk ?_;simp only[zz];have g2:g[i]?=M (g.getD i []):=o4
   have hmem:g.getD i []∈g:=List.mem_of_getElem? g2;have hgi:=hg.inr _ hmem;have hgn:=hg.nd _ hmem;have hgk:(g.getD i []).length<=a00 g:=AK hgn hgi;have i1:(MI g i)[i]?=M 0:=by grind[MI]
   have i2:(MI g i).length=a00 g:=by grind[MI]
   refine ss (bk (ss (rg ?_)));simp only[zz,g2];generalize hgi':g.getD i []=gi at *;refine ss (rg ?_);simp only[zz,g2,i1,i2,hi];refine ss (ss (rg ?_));simp only[zz];have hdi:fx g i gi.length=Oj g (i+1):=funext λd=>by rw[←hgi'];exact J7.symm
   have hw:aa .i64 ((i:Int)+1)=((i+1:Nat):Int):=by grind[KA]
   refine T.X6 gi.length (E2 g l v i) ?_ (λj _=>bv1) (λj hj=>?_) FA ?_
   .unfold E2 evM rE W2;rw[show fx g i 0=Oj g i from funext λd=>L7,hgi',←N8 hi,jad,hgi'];exact At.same _ _ _ B?
   .unfold E2 evM rE W2;rw[hgi'];refine ss (rg ?_);simp only[zz];refine ss (cd rfl ?_);simp only[zz];refine gP.mk (λhc=>?_) (λhc=>?_)
    .have hjl:j<a00 gi:=U
     refine sk ?_;simp only[zz];obtain⟨d,hd,hdn⟩:∃d:Nat,gi[j]=(d:Int)/\d<a00 g:=by
      have:=hgi gi[j] (y! hjl);exact⟨gi[j].toNat,U,U⟩
     have g3:gi[j]?=M (d:Int):=l5
     have hL:(jC g.length (fx g i j)).length=a00 g:=MU;have hp:(jC g.length (fx g i j))[d]?=M ((fx g i j d).length,fx g i j d):=LU hdn;have hLs:jC g.length (fx g i (j+1))=(jC g.length (fx g i j)).set d ((fx g i j d).length+1,fx g i j d++[(i:Int)]):=by
      refine(aw9 ?_ λe he=>?_).symm
      .simp_all[rR]
      .rw[rR l5 l5,p6 o4]
     have hpb:(fx g i j d).length<=i+1:=ar7;generalize hQ:(fx g i j d).length=q at *;generalize hF:fx g i j d=F at *;generalize hLL:jC g.length (fx g i j)=L at hL hLs hp⊢;obtain⟨E,hE⟩:∃E,E=ue L:=⟨_,rfl⟩;have hEl:E.length=a00 L:=by rw[hE,Xn]
     rw[←hE];have hol:(Cj 4 L).length=a00 g:=by rw[Ey,hL]
     have hEd:d<a00 E:=U
     have k1:(Cj 4 L)[d]?=M (.own (d+4) q):=by grind[dJ]
     have k2:∀y,(E++[y])[d]?=M (.live 1 q (F.map da)):=λy=>by
      grind[ue]
     have k3:∀y e,(E++[y]).set d e=E.set d e++[y]:=λy e=>l5
     have k5:(a00 F+1)*8<=2 ^ 47:=U
     have k6:yW (a00 E+4) (d+4)=true:=PT U;refine ss (bk (ss (rg ?_)));simp only[zz,g3];refine rg ?_;simp only[zz,hol,hdn,k1,k2,k3,k5,k6,ζ,Zu];have hw2:aa .i64 ((j:Int)+1)=((j+1:Nat):Int):=by grind[KA]
     refine rg ?_;simp only[zz,Pn,hw2];refine⟨hjl,?_⟩;have e1:(Cj 4 L).set d (.own (d+4) (q+1))=Cj 4 (jC g.length (fx g i (j+1))):=by
      rw[hLs,←RO,Nat.add_comm 4]
     have e2:E.set d (.live 1 (q+1) (F.map da++[.v (.int .i64 i)]))=ue (jC g.length (fx g i (j+1))):=by
      rw[hLs,hE];unfold ue;rw[jad,eac];rfl
     rw[e1,e2,←G?,←G?,←G?,←G?];exact At.mk _ _ _ _ B?
    .refine xt ?_;simp only[zz,oD];have hj:j=a00 gi:=U
     subst hj;refine⟨rfl,?_⟩;exact At.same _ _ _ B?
   .unfold E2 evM rE W2;rw[hgi',hdi];simp only[zz];refine ss (rg ?_);simp only[zz];refine cd rfl ?_;by_cases hge:gi=[]
    .have hz:((a00 gi:Int)==0)=true:=l5
     have hrd:EZ g (i+1)=EZ g i++[(i:Int)]:=by simp_all[LW]
     simp only[zz,hz];refine rg ?_;simp only[zz];refine qC (P3 (l:=l) (x:=(i:Int)) (v:=v) (u:=0) (R:=W2 (MI g (i+1)) (jC g.length (Oj g (i+1)))) iK U h3) ?_;rintro d m' ⟨rfl,l',h4,h5,rfl⟩;unfold rE W2;simp only[zz];refine rg ?_;simp only[zz,hw,Ws];refine⟨(i+1,l',v+1),⟨U,?_,h5⟩,U,?_⟩
     .grind
     .exact At.same _ _ _ B?
    .have hz:((a00 gi:Int)==0)=false:=by
      simp_all
     have hrd:EZ g (i+1)=EZ g i:=by simp_all[LW]
     simp only[zz,hz];refine sk ?_;simp only[zz];refine rg ?_;simp only[zz,hw,Ws];refine⟨(i+1,l,v),⟨U,?_,h3⟩,U,?_⟩
     .simp_all
     .exact At.same _ _ _ B?
  .refine xt ?_;simp only[zz,Hv];have hi:i=a00 g:=U
   subst hi;exact⟨(a00 g,l,v),⟨rfl,h2,h3⟩,At.same _ _ _ B?⟩
 .rintro⟨i,l,v⟩ ⟨h1,h2,h3⟩;dsimp only at h1 h2 h3;subst h1;unfold E1 evM rE W2;dsimp only;simp only[zz];refine ss (rg ?_);simp only[zz];refine T.wE 12 1 rfl ?_;simp only[zz];refine ss ?_;refine T.aV (E3 g) (λy=>J2 g y.1 y.2.2.1/\Hp y.2.2.1 y.2.2.1.length) (λy=>J2 g y.1 []) (λy=>g.length-y.1.length) ([],0,l,v) ⟨cu9 h2,h3⟩ ?_ (λ_ _=>bv0) ?_ (λ_=>FA) ?_
  .unfold E3 rE TE;dsimp only;rw[←bl3];exact At.same _ _ _ B?
  .rintro⟨out,w,l,v⟩ ⟨hj,h3⟩;dsimp only at hj h3;unfold E3 rE TE;dsimp only;have hll:l.length<=1048576:=by
    rw[hj.perm.length_eq]
    grind[Y4]
   refine ss (ss (rg ?_));simp only[zz];refine Lc (aw7 (l:=l) (v:=v) (u:=0)) ?_;simp only[zz];refine cd rfl ?_;simp only[zz];refine gP.mk (λhc=>?_) (λhc=>?_)
   .refine sk ?_;simp only[zz];obtain⟨n,hn⟩:∃n,a00 l=n+1:=⟨a00 l-1,U⟩;refine bk (ss (rg ?_));simp only[zz];refine qC (bm3 (l:=l) (n:=n) (v:=v) (u:=0) (R:=TE (ZV g out) (gL g) w out) AD U hn h3) ?_;rintro _ _ ⟨x,l',rfl,h4,h5,h6,rfl⟩;obtain⟨d,rfl,hdl,hik,hol,hfin⟩:=bk9 hg hj h4 h5;unfold rE TE;simp only[zz];have c0:∀o:Ent,(ue (gL g)++[o])[(ue (gL g)).length]?=M o:=λo=>ζ;have c1:∀o z:Ent,(ue (gL g)++[o]++[z])[(ue (gL g)).length]?=M o:=λo z=>o0
    have c2:∀o z e:Ent,(ue (gL g)++[o]++[z]).set (ue (gL g)).length e=ue (gL g)++[e]++[z]:=λo z e=>o0
    have c3:∀o z:Ent,(ue (gL g)++[o]++[z])[(ue (gL g)).length+1]?=M z:=λo z=>o0
    have c5:yW ((ue (gL g)).length+1+4) ((ue (gL g)).length+4)=true:=PT U;have hEl:(ue (gL g)).length=a00 g:=by rw[Xn,oZ]
    have hF:(gL g)[d]?=M ((Oj g g.length d).length,Oj g g.length d):=LU hdl;have hE1:(ue (gL g))[d]?=M (.live 1 (Oj g g.length d).length ((Oj g g.length d).map da)):=by
     grind[ue]
    have c4:∀o z:Ent,(ue (gL g)++[o]++[z])[d]?=M (.live 1 (Oj g g.length d).length ((Oj g g.length d).map da)):=λo z=>by
     grind
    have c6:∀o:Ent,(ue (gL g)++[o])[d]?=M (.live 1 (Oj g g.length d).length ((Oj g g.length d).map da)):=λo=>by
     grind
    have o1:(Cj 4 (gL g))[d]?=M (.own (d+4) (Oj g g.length d).length):=by grind[dJ]
    have o2:(Cj 4 (gL g)).length=a00 g:=by rw[Ey,oZ]
    have b1:(a00 out+1)*8<=2 ^ 47:=U
    have hDn:(Oj g g.length d).length<=a00 g:=PN;have hpl:=h4.length_eq;refine ss (rg ?_);simp only[zz,c0,c1,c2,c3,c5,b1];refine ss (rg ?_);simp only[zz,c1,c2,c4,o1,o2,hdl];refine T.aV (E4 g out w d) (λy=>y.1<=(Oj g g.length d).length/\y.2.1.Perm (l'++XI g out d y.1)/\Hp y.2.1 y.2.1.length) (λy=>y.1=(Oj g g.length d).length/\y.2.1.Perm (l'++XI g out d y.1)/\Hp y.2.1 y.2.1.length) (λy=>(Oj g g.length d).length-y.1) (0,l',v+1) ⟨L! _,by grind[bh3],h6⟩ ?_ (λ_ _=>bu9 hdl) ?_ (λ_=>bc1 bb9) ?_
    .unfold E4 rE TE;dsimp only;rw[bl4,eac,←G?,←G?,←G?,←G?];exact At.mk _ _ _ _ B?
    .rintro⟨k,l1,v1⟩ ⟨k1,k2,k3⟩;dsimp only at k1 k2 k3;have hl1:l1.length<=1048576+1048576:=by
      rw[k2.length_eq,List.length_append]
      grind[al2]
     unfold E4 rE TE;dsimp only;refine ss (rg ?_);simp only[zz];refine ss (cd rfl ?_);simp only[zz];refine gP.mk (λhc=>?_) (λhc=>?_)
     .have hk:k<(Oj g g.length d).length:=U
      refine sk ?_;simp only[zz];obtain⟨e,he,hel,hem⟩:=lF.1 (y! hk);have g3:(Oj g g.length d)[k]?=M (e:Int):=l5
      have i1:=ao0 (out:=out) hk he hel;have i2:(nE g out d k).length=a00 g:=by grind[nE]
      have i3:(List.map da (nE g out d k)).set e (.v (.int .i64 (dM g out e-1)))=List.map da (nE g out d (k+1)):=by
       rw[←HR hk he,jad];rfl
      have i4:(nE g out d (k+1))[e]?=M (dM g out e-1):=by
       rw[←HR hk he,List.getElem?_set_self U]
      have i5:(nE g out d (k+1)).length=a00 g:=by grind[nE]
      have hcn:0<=dM g out e/\dM g out e<=1048576:=by
       unfold dM;have h1:=List.length_filter_le (λd=>!out.contains d) (g.getD e []);have h2:=AK (hg.nd _ (bm6 hel)) (hg.inr _ (bm6 hel));omega
      have hwc:aa .i64 (dM g out e-1)=dM g out e-1:=KA ⟨U,U⟩;have hwk:aa .i64 ((k:Int)+1)=((k+1:Nat):Int):=by grind[KA]
      refine ss (bk (ss (rg ?_)));simp only[zz,c6,hk,g3];refine ss (rg ?_);simp only[zz,i1,i2,hel,hwc,i3];refine ss (rg ?_);simp only[zz,i4,i5,hel];refine cd rfl ?_;by_cases hc1:dM g out e=1
      .have hz:((dM g out e-1)==0)=true:=l5
       simp only[zz,hz];refine rg ?_;simp only[zz];refine qC (P3 (l:=l1) (x:=(e:Int)) (v:=v1) (u:=0) (R:=TE (nE g out d (k+1)) (gL g) (w+1) (out++[(d:Int)])) AD U k3) ?_;rintro _ _ ⟨rfl,l2,h7,h8,rfl⟩;unfold rE TE;simp only[zz];refine rg ?_;simp only[zz,hwk,Ws];refine⟨(k+1,l2,v1+1),⟨U,?_,h8⟩,U,?_⟩
       .dsimp only;rw[WR hk he,J hc1,←P']
        grind
       .exact At.same _ _ _ B?
      .have hz:((dM g out e-1)==0)=false:=by
        grind
       simp only[zz,hz];refine sk ?_;simp only[zz];refine rg ?_;simp only[zz,hwk,Ws];refine⟨(k+1,l1,v1),⟨U,?_,k3⟩,U,?_⟩
       .dsimp only;rw[WR hk he,p6 hc1];omega
       .exact At.same _ _ _ B?
     .refine xt ?_;simp only[zz,Hv];have hk:k=(Oj g g.length d).length:=U
      subst hk;exact⟨((Oj g g.length d).length,l1,v1),⟨rfl,k2,k3⟩,At.same _ _ _ B?⟩
    .rintro⟨k,l1,v1⟩ ⟨k1,k2,k3⟩;dsimp only at k1 k2 k3;subst k1;unfold E4 rE TE;dsimp only;rw[hik];simp only[zz,Ws];refine⟨(out++[(d:Int)],w+1,l1,v1),⟨hfin l1 k2,k3⟩,o4,?_⟩;exact At.same _ _ _ B?
   .refine xt ?_;simp only[zz,Hv];have hl0:l=[]:=List.eq_nil_of_length_eq_zero U;subst hl0;exact⟨(out,w,[],v),hj,At.same _ _ _ B?⟩
  .rintro⟨out,w,l,v⟩ hj;dsimp only at hj;have he:=bl0 hj;unfold E3 rE TE;dsimp only;simp only[zz];have c0:∀o:Ent,(ue (gL g)++[o])[(ue (gL g)).length]?=M o:=λo=>ζ;refine ss (ss (rg ?_));simp only[zz,c0];refine cd rfl ?_;by_cases hlt:out.length<a00 g
   .have hz:s6 ((a00 out:Int)<(a00 g:Int))=true:=s7 U;rw[J hlt]at he;rw[he];simp only[zz,hz];refine ss (rg ?_);simp only[zz];exact rt (er (by simp_all[zz,fq,zg]))
   .have hz:s6 ((a00 out:Int)<(a00 g:Int))=false:=w2 U;rw[p6 hlt]at he;rw[he];simp only[zz,hz];refine sk ?_;simp only[zz];refine ss (rg ?_);simp only[zz];exact rt (er (by simp_all[zz,fq,zg]))
theorem bl5{n:Int}(h:x∈kM n l):0<=x/\x<n:=by
 grind[kM]
theorem aS3{s:ek}(h:s.d.length<=1048576):GOk (Ll s):=by
 have hl:(Ll s).length=a00 s.d:=by grind[Ll]
 refine⟨U,λl hm e he=>?_,λl hm=>?_⟩
 .unfold Ll at hm;obtain⟨d,-,rfl⟩:=V!.1 hm;rw[hl];rw[(Of _).2.2,List.mem_flatten]at he;obtain⟨q,hq,he⟩:=he;obtain⟨r,-,rfl⟩:=V!.1 hq;rcases List.mem_append.1 he with h1|h1<;>exact bl5 h1
 .unfold Ll at hm;obtain⟨d,-,rfl⟩:=V!.1 hm
  grind[GR,Of]
theorem uC{r:List Int×Int}(h:Nf t0=M r):e? al 275 [sf t0] (.tup [qa r.1,da r.2]):=by
 unfold Nf at h
 cases hall:jd t0 with
 |none=>simp_all
 |some g=>
  rw[hall]at h;simp only[Option.bind_some,T']at h;subst h;have hall':=hall;unfold jd at hall';split at hall'
  .rename_i hc;have:=bt ⟨hc.1,hc.2.1,hc.2.2⟩;rw[hall]at this;obtain rfl:=J' this
   grind[cx1,aS3]
  simp_all
instance ahv{t0 r}:o! (Nf t0=M r) (e? al 275 [sf t0] (.tup [qa r.1,da r.2])):=⟨uC⟩
instance TZ:C2 bV3 Oo:=pg (ak bV3.eq_1 Oo.eq_1) (.z 11 (.j ⟨[.k 4,.p 1,.k 1,.p 1],[.o 1,.h 3 [.g [.p 3,.i 0]]]⟩ (.t [4,12]) .o))
instance ahw:C2 bU1 KD:=pg (ak bU1.eq_1 KD.eq_1) .o
instance ahx:C3 bP6 Mq:=pg (ak bP6.eq_1 Mq.eq_1) .o
instance B5:C3 bN8 Sl:=pg (ak bN8.eq_1 Sl.eq_1) .o
instance ahy:C3 bJ9 Ce:=pg (ak bJ9.eq_1 Ce.eq_1) (.b .o (.b .o (.j (EN [24,33,64,9,216,2,721] [0,8,16,24]) .o (.b .o (.z 3 (.j (EN [24,97,800,2,145] [0,8,16,24,32]) .o .o))))))
instance ahz:C3 bI3 Na:=pg (ak bI3.eq_1 Na.eq_1) (.z 3 (.j (EN [24,33,32,9,2,1009] [0,8,16,24]) .o (.b .o (.b .o (.j (EN [24,73,168,2,841] [0,8,16,24]) .o (.b .o (.j (EN [24,241,88,2,753] [0,8,16,24]) .o (.b .o (.b .o (.b .o (.b .o (.b .o (.b (.j ⟨[.k 6,.p 1,.s (da 0),.p 3],[.h 3 [.g [.i 0,.i 1,.i 2]]]⟩ (.t [12]) .o) (.b (.j ⟨[.k 6,.p 1,.s (da 0),.p 3],[.h 3 [.g [.i 0,.i 1,.i 2]]]⟩ (.t [12]) .o) .o))))))))))))))
instance aia:C3 bG7 lp:=pg (ak bG7.eq_1 lp.eq_1) (.z 4 (.j (EN [9,24,25,96,2,393] [0,8,16]) .o .o))
instance U3:C1 bZ9 Ju:=pg (ak (ak bZ9.eq_1 Ju.eq_1) zk.eq_1) (.l (EN [8,57,48,17,2,409] [0,8]) (EN [16,49] [8]) [] (.b (.z 4 (.j ⟨[.k 1,.p 2,.k 2,.p 1,.k 8,.p 3],[.o 0,.o 1,.h 3 [.g [.i 0,.p 2,.i 1]]]⟩ (.b (.t [0,4,12]) (.j (EN [8,17,16,97,152,2,249] [0,8,24]) (.t [0,4,12]) .o)) .o)) (.t [4])) .o)
instance aib:C3 bX1 PF:=pg (ak bX1.eq_1 PF.eq_1) (.z 4 (.j (EN [8,41,120,2,113] [0]) .o .o))
instance aic{t0 c10 r}:o! (Ab t0 (λx900=>Uf x900 c10)=M r) (e? al 354 [Vn t0,.fn 355 [] [Uz c10]] (za r)):=⟨λh=>Xq (q1:=[Uz c10]) (jM PJ) (λx900 _ hb=>Az hb) h⟩
instance aid:C3 bS8 ju:=pg (ak (ak bS8.eq_1 ju.eq_1) mo.eq_1) (.l (EN [8,9,8,25,8,9,2,25,64,17,10,977] [0,8,16]) (EN [8,9,8,25,8,9,2,25] [0,8,16]) [] (.z 2 (.j (EN [8,57,2,113] [0,8,16]) .o .o)) (.b .o (.b .o (.j (EN [8,265,96,2,785] [0,8,16]) .o (.b .o (.j (EN [24,345,96,2,689] [0,8,16]) .o (.b .o (.j (EN [24,441,216,2,473] [0,8,16]) .o (.b .o (.j (EN [24,657,72,2,401] [0,8,16]) .o (.b .o (.b .o (.b .o (.e (EN [24,41] [0,8,16]) .o .o))))))))))))))
instance F5:C3 bR2 Bq:=pg (ak (ak bR2.eq_1 Bq.eq_1) Uk.eq_1) (.l (EN [8,41,8,17,2,10,17] [0,8,16]) (EN [8,41,8,17,2] [0,8,16]) [] (.z 2 (.e (EN [8,65,2,137] [0,8,16]) .o .o)) (.z 1 (.j (EN [8,489,2,649] [0,8,16]) .o (.z 1 (.j (EN [8,9,8,473,208,2,441] [0,8,16]) .o (.z 1 (.j (EN [8,697,184,2,257] [0,8,16]) .o (.z 5 (.e (EN [56,17,16,801] [8,16,24]) (.b (.b .o (.t [4,8,12])) (.t [4,8,12])) .o)))))))))
instance aie:C3 bL4 sa:=pg (ak bL4.eq_1 sa.eq_1) (.z 3 (.j (EN [8,9,8,33,56,9,2,1193] [0,8,16]) .o (.b .o (.b .o (.b .o (.b .o (.b .o (.b .o (.j (EN [8,113,376,2,817] [0,8,16]) .o .o)))))))))
instance aif:C3 bJ8 Ib:=pg (ak bJ8.eq_1 Ib.eq_1) (.z 2 (.j (EN [24,33,64,2,185] [0,8,16,24]) .o .o))
instance R6:C3 ca5 Nv:=pg (ak ca5.eq_1 Nv.eq_1) .o
instance aih{t0 c10 r}:o! (ob t0 (λx900=>Te x900 c10)=M r) (e? al 313 [tx t0,.fn 314 [] [px c10]] (za r)):=⟨λh=>Tp (q1:=[px c10]) (jM PJ) (λx900 _ hb=>Cy hb) h⟩
instance S8:C2 bW5 Sr:=pg (ak (ak bW5.eq_1 Sr.eq_1) (ak tm.eq_1 (ak um.eq_1 (ak vm.eq_1 xm.eq_1)))) (.z 3 (.j (EN [8,25,16,17,2,81] [0,8]) .o (.b .o (.b .o (.j (EN [8,49,360,2,881] [0,8]) .o (.l (EN [8,409,280,17,2,585] [0,8]) (EN [8,409] [0,8]) [] .o (.l (EN [8,849,8,17,2,417] [0,8]) (EN [8,849] [0,8]) [] .o (.l (EN [48,993,40,9,2,209] [8,16]) (EN [48,73] [8]) [4,8] .o (.l (EN [48,1145,16,9,2,81] [0]) (EN [] []) [] .o .o)))))))))
instance SZ:C2 bV2 No:=pg (ak (ak bV2.eq_1 No.eq_1) (ak Li.eq_1 (ak Hj.eq_1 Mi.eq_1))) (.b .o (.b .o (.z 1 (.j (EN [8,97,344,2,545] [0,8,16,24]) .o (.l (EN [8,41,16,2,377] [0,8,16]) (EN [8,9,16,17] [8,16]) [] (.b .o (.t [4,8])) (.l (EN [8,73,2,913] [0,8]) (EN [32,9] [0]) [] (.l (EN [8,89,2,681] [0,8]) (EN [8,81] [0,8]) [] .o .o) .o))))))
instance aii:C3 bO7 og:=pg (ak bO7.eq_1 og.eq_1) (.z 2 (.j (EN [8,9,8,33,104,2,265] [0,8,16]) .o (.z 3 (.j (EN [8,153,128,2,137] [0,8,16]) .o .o))))
instance aij:C3 bN0 Es:=pg (ak (ak bN0.eq_1 Es.eq_1) Co.eq_1) (.l (EN [8,9,8,33,8,2,25] [0,8,16]) (EN [8,9,8,33] [0,8,16]) [] .o (.b (.z 1 (.j (EN [24,265,88,2,513] [0,8,16]) .o .o)) (.b .o (.b .o (.z 1 (.f ⟨[.k 1,.p 111],[.o 0,.o 1,.o 2,.n 3 [],.n 3 [],.n 3 []]⟩ [0,4,8,13,13,13] (.g [[],[],[],[],[],[],[],[],[],[1,2,4,5,7,8],[1,2,4,5,7,8,9],[1,2,4,5,7,8,9,10],[4,5,7,8],[7,8]] [s5,s5,s5,s5,s5,s5,s5,s5,s5,M 3,M 4,M 5,s5,s5] (.z 1 (.j (EN [48,241,552,2,49] [16,24,32,40]) (.t [8,268,272,276]) .o)))))))))
instance aik:C6 cg5 AE:=pg (ak cg5.eq_1 AE.eq_1) (.z 2 (.j (EN [41,48,17,152,2,345] [0,8]) .o (.z 3 (.j (EN [257,152,2,193] [0,8]) .o (.z 1 (.j ⟨[.k 12,.p 39],[.o 1,.h 2 [.g [.p 4,.i 0,.i 1,.p 1]]]⟩ (.t [4,8]) .o))))))
instance T3:C1 bZ8 Iu:=pg (ak (ak bZ8.eq_1 Iu.eq_1) xk.eq_1) (.l (EN [8,41,56,9,2,129] [0,8]) (EN [16,33] [8]) [] (.b .o (.t [4])) .o)
instance aaa:C1 bY2 Js:=pg (ak (ak bY2.eq_1 Js.eq_1) (ak Jm.eq_1 (ak Km.eq_1 Lm.eq_1))) (.l (EN [8,17,2,41] [0,8]) (EN [8,17] [0,8]) [] .o (.l (EN [8,33,2,177] [0,8]) (EN [8,33] [0,8]) [] .o (.l (EN [8,49,2,313] [0,8]) (EN [16,41] [8]) [] (.b .o (.t [4])) .o)))
theorem NB{t0 t1 r} [∀ t0 t1 r,o! (R327 t0 t1=M r) (e? al 327 [ya t0,da t1] (.tup [Ea r.1,da r.2]))] [∀ t0 t1 t2 r,o! (R368 t0 t1 t2=M r) (e? al 368 [ya t0,Xi t1,qa t2] (.tup [Ea r.1,da r.2]))] [∀ t0 t1 r,o! (R397 t0 t1=M r) (e? al 397 [ya t0,da t1] (.tup [Ea r.1,da r.2]))] (h:ib R327 R368 R397 t0 t1=M r):e? al 327 [ya t0,da t1] (.tup [Ea r.1,da r.2]):=by
 refine dk 63 bR8 ?_
 simp only[bR8,Kf.of,zs,ze]
 unfold ib at h
 exact pg qb.eq_1 (.z 5 (.j (EN [16,25,8,57,80,2,329] [0,8,16]) .o (.l (EN [16,41,8,121,104,17,10,209] [0,8,16,770]) (EN [16,41,8,121] [0,8,16,770]) [] .o .o)))
theorem MB{t0 t1 t2 r} [∀ t0 t1 r,o! (R327 t0 t1=M r) (e? al 327 [ya t0,da t1] (.tup [Ea r.1,da r.2]))] [∀ t0 t1 t2 r,o! (R368 t0 t1 t2=M r) (e? al 368 [ya t0,Xi t1,qa t2] (.tup [Ea r.1,da r.2]))] [∀ t0 t1 r,o! (R397 t0 t1=M r) (e? al 397 [ya t0,da t1] (.tup [Ea r.1,da r.2]))] (h:Gd R327 R368 R397 t0 t1 t2=M r):e? al 368 [ya t0,Xi t1,qa t2] (.tup [Ea r.1,da r.2]):=by
 refine dk 66 bO8 ?_
 simp only[bO8,Kf.of,zs,ze]
 unfold Gd at h
 exact pg trivial (.b .o (.a [[],[],[],[],[],[],[],[],[],[]] (.z 3 (.j (EN [16,41,8,9,136,2,337] [0,8,16,24]) .o .o))))
theorem Gz{t0 t1 r} [∀ t0 t1 r,o! (R327 t0 t1=M r) (e? al 327 [ya t0,da t1] (.tup [Ea r.1,da r.2]))] [∀ t0 t1 t2 r,o! (R368 t0 t1 t2=M r) (e? al 368 [ya t0,Xi t1,qa t2] (.tup [Ea r.1,da r.2]))] [∀ t0 t1 r,o! (R397 t0 t1=M r) (e? al 397 [ya t0,da t1] (.tup [Ea r.1,da r.2]))] (h:jc R327 R368 R397 t0 t1=M r):e? al 397 [ya t0,da t1] (.tup [Ea r.1,da r.2]):=by
 refine dk 26 bL9 ?_
 simp only[bL9,Kf.of,zs,ze]
 unfold jc at h
 exact pg trivial (.z 5 (.j (EN [32,9,8,9,144,2,17] [8,16]) (.t [4,8]) .o))
def Th:∀n,(∀ t0 t1 r,(ba n).1 t0 t1=M r->e? al 327 [ya t0,da t1] (.tup [Ea r.1,da r.2]))/\(∀ t0 t1 t2 r,(ba n).2.1 t0 t1 t2=M r->e? al 368 [ya t0,Xi t1,qa t2] (.tup [Ea r.1,da r.2]))/\(∀ t0 t1 r,(ba n).2.2 t0 t1=M r->e? al 397 [ya t0,da t1] (.tup [Ea r.1,da r.2]))
|0=>⟨λ_ _ _ h=>(nomatch h),λ_ _ _ _ h=>(nomatch h),λ_ _ _ h=>(nomatch h)⟩
|n+1=>by
 obtain⟨H0,H1,H2⟩:=Th n
 haveI I0:∀ t0 t1 r,o! ((ba n).1 t0 t1=M r) (e? al 327 [ya t0,da t1] (.tup [Ea r.1,da r.2])):=λt0 t1 r=>⟨H0 t0 t1 r⟩
 haveI I1:∀ t0 t1 t2 r,o! ((ba n).2.1 t0 t1 t2=M r) (e? al 368 [ya t0,Xi t1,qa t2] (.tup [Ea r.1,da r.2])):=λt0 t1 t2 r=>⟨H1 t0 t1 t2 r⟩
 haveI I2:∀ t0 t1 r,o! ((ba n).2.2 t0 t1=M r) (e? al 397 [ya t0,da t1] (.tup [Ea r.1,da r.2])):=λt0 t1 r=>⟨H2 t0 t1 r⟩
 exact⟨λt0 t1 r h=>NB (R327:=(ba n).1) (R368:=(ba n).2.1) (R397:=(ba n).2.2) h,λt0 t1 t2 r h=>MB (R327:=(ba n).1) (R368:=(ba n).2.1) (R397:=(ba n).2.2) h,λt0 t1 r h=>Gz (R327:=(ba n).1) (R368:=(ba n).2.1) (R397:=(ba n).2.2) h⟩
def CD{t0 t1 r} (h:Aj t0 t1=M r):e? al 327 [ya t0,da t1] (.tup [Ea r.1,da r.2]):=(Th eg).1 _ _ _ h
instance ail{t0 t1 r}:o! (Aj t0 t1=M r) (e? al 327 [ya t0,da t1] (.tup [Ea r.1,da r.2])):=⟨CD⟩
def BD{t0 t1 t2 r} (h:wz t0 t1 t2=M r):e? al 368 [ya t0,Xi t1,qa t2] (.tup [Ea r.1,da r.2]):=(Th eg).2.1 _ _ _ _ h
instance aim{t0 t1 t2 r}:o! (wz t0 t1 t2=M r) (e? al 368 [ya t0,Xi t1,qa t2] (.tup [Ea r.1,da r.2])):=⟨BD⟩
def OA{t0 t1 r} (h:Tv t0 t1=M r):e? al 397 [ya t0,da t1] (.tup [Ea r.1,da r.2]):=(Th eg).2.2 _ _ _ h
instance ain{t0 t1 r}:o! (Tv t0 t1=M r) (e? al 397 [ya t0,da t1] (.tup [Ea r.1,da r.2])):=⟨OA⟩
theorem KK{t0 t1 t2 r} [∀ t0 t1 t2 r,o! (R339 t0 t1 t2=M r) (e? al 339 [Pf t0,da t1,Nl t2] (.tup [Ea r.1,da r.2]))] [∀ t0 t1 t2 t3 r,o! (R385 t0 t1 t2 t3=M r) (e? al 385 [Pf t0,da t1,qa t2,Nl t3] (.tup [Ea r.1,da r.2]))] (h:yn R339 R385 t0 t1 t2=M r):e? al 339 [Pf t0,da t1,Nl t2] (.tup [Ea r.1,da r.2]):=by
 refine dk 69 bQ7 ?_
 simp only[bQ7,Kf.of,zs,ze]
 unfold yn at h
 exact pg Eo.eq_1 (.z 4 (.j (EN [17,24,17,8,9,176,2,321] [0,8]) .o (.l (EN [81,19,10,153] [0,8,772]) (EN [65,16,19] [0,8,772]) [0,4,13] (.b (.a [[],[],[],[],[],[],[],[],[],[],[],[]] (.b .o (.t [0,4,264]))) .o) .o)))
theorem BM{t0 t1 t2 t3 r} [∀ t0 t1 t2 r,o! (R339 t0 t1 t2=M r) (e? al 339 [Pf t0,da t1,Nl t2] (.tup [Ea r.1,da r.2]))] [∀ t0 t1 t2 t3 r,o! (R385 t0 t1 t2 t3=M r) (e? al 385 [Pf t0,da t1,qa t2,Nl t3] (.tup [Ea r.1,da r.2]))] (h:ow R339 R385 t0 t1 t2 t3=M r):e? al 385 [Pf t0,da t1,qa t2,Nl t3] (.tup [Ea r.1,da r.2]):=by
 refine dk 98 bN1 ?_
 simp only[bN1,Kf.of,zs,ze]
 unfold ow at h
 exact pg trivial (.b .o (.a [[],[],[],[],[],[],[],[],[],[],[]] (.z 3 (.j (EN [25,32,17,8,9,240,2,481] [0,8,16]) .o (.b .o (.b .o (.b .o (.a [[],[],[],[],[],[],[],[],[],[],[]] (.z 3 (.j (EN [64,17,16,9,688,2,17] [8,24]) (.t [4,12]) .o))))))))))
def Vw:∀n,(∀ t0 t1 t2 r,(Ha n).1 t0 t1 t2=M r->e? al 339 [Pf t0,da t1,Nl t2] (.tup [Ea r.1,da r.2]))/\(∀ t0 t1 t2 t3 r,(Ha n).2 t0 t1 t2 t3=M r->e? al 385 [Pf t0,da t1,qa t2,Nl t3] (.tup [Ea r.1,da r.2]))
|0=>⟨λ_ _ _ _ h=>(nomatch h),λ_ _ _ _ _ h=>(nomatch h)⟩
|n+1=>by
 obtain⟨H0,H1⟩:=Vw n
 haveI I0:∀ t0 t1 t2 r,o! ((Ha n).1 t0 t1 t2=M r) (e? al 339 [Pf t0,da t1,Nl t2] (.tup [Ea r.1,da r.2])):=λt0 t1 t2 r=>⟨H0 t0 t1 t2 r⟩
 haveI I1:∀ t0 t1 t2 t3 r,o! ((Ha n).2 t0 t1 t2 t3=M r) (e? al 385 [Pf t0,da t1,qa t2,Nl t3] (.tup [Ea r.1,da r.2])):=λt0 t1 t2 t3 r=>⟨H1 t0 t1 t2 t3 r⟩
 exact⟨λt0 t1 t2 r h=>KK (R339:=(Ha n).1) (R385:=(Ha n).2) h,λt0 t1 t2 t3 r h=>BM (R339:=(Ha n).1) (R385:=(Ha n).2) h⟩
def mP{t0 t1 t2 r} (h:xB t0 t1 t2=M r):e? al 339 [Pf t0,da t1,Nl t2] (.tup [Ea r.1,da r.2]):=(Vw eg).1 _ _ _ _ h
instance aio{t0 t1 t2 r}:o! (xB t0 t1 t2=M r) (e? al 339 [Pf t0,da t1,Nl t2] (.tup [Ea r.1,da r.2])):=⟨mP⟩
def UQ{t0 t1 t2 t3 r} (h:lP t0 t1 t2 t3=M r):e? al 385 [Pf t0,da t1,qa t2,Nl t3] (.tup [Ea r.1,da r.2]):=(Vw eg).2 _ _ _ _ _ h
instance aip{t0 t1 t2 t3 r}:o! (lP t0 t1 t2 t3=M r) (e? al 385 [Pf t0,da t1,qa t2,Nl t3] (.tup [Ea r.1,da r.2])):=⟨UQ⟩
instance aiq:C1 cf4 Ep:=pg (ak cf4.eq_1 Ep.eq_1) .o
instance air:C1 cd0 Bu:=pg (ak cd0.eq_1 Bu.eq_1) .o
instance ais:C2 bV6 Ql:=pg (ak bV6.eq_1 Ql.eq_1) .o
instance ait:C2 bU3 Lx:=pg (ak bU3.eq_1 Lx.eq_1) .o
instance MS:C3 k80 Ja:=pg (ak k80.eq_1 Ja.eq_1) (.z 4 (.j (EN [8,9,8,25,240,2,545] [0,8]) .o (.z 3 (.j (EN [40,249,216,2,329] [8]) (.t [4]) (.z 1 (.j (EN [512,2,321] []) (.j (EN [40,465,8,2,321] [0]) .o (.j (EN [40,473,2,321] [0]) .o (.j (EN [40,473,2,321] [0]) .o (.j (EN [40,473,2,321] [0]) .o .o)))) .o))))))
instance rZ:C4 k82 Bh:=pg (ak (ak k82.eq_1 Bh.eq_1) Mn.eq_1) (.z 7 (.j (EN [16,57,248,2,497] [0,8,16]) .o (.l ⟨[.k 2,.p 2,.k 1,.p 8,.k 2,.p 1,.k 59,.p 2,.i 1,.p 25],[.o 1,.o 2,.h 3 [.g [.p 2,.s (.own 3 0)]],.ni 1 0]⟩ ⟨[.k 8,.p 5],[.o 2,.h 3 [.g [.p 2,.s (.own 2 0)]],.ni 1 0]⟩ [4,8,12,5] (.b (.b .o (.t [0,4,8,268])) (.t [4,8,12])) .o)))
instance dU:C3 k92 Xb:=pg (ak k92.eq_1 Xb.eq_1) (.z 4 (.j (EN [8,9,8,25,232,2,361] [0,8]) .o (.z 3 (.j (EN [40,241,176,2,185] [8]) (.t [4]) (.z 1 (.j (EN [640,2] []) .o .o))))))
instance JR:C5 ce7 tc:=pg (ak ce7.eq_1 tc.eq_1) (.z 5 (.j (EN [8,9,24,49,288,2,121] [0,8,16]) .o .o))
instance R3:C4 bV7 Af:=pg (ak (ak bV7.eq_1 Af.eq_1) Jh.eq_1) (.l (EN [16,49,8,81,96,17,10,425] [0,8,16,770]) (EN [72,81] [16,770]) [] (.b (.e (EN [16,257] [0,8,16,770]) (.b .o (.a [[],[],[],[],[],[],[],[],[],[],[],[],[]] .o)) .o) (.t [8,12])) .o)
instance aiu:C4 bU4 Aw:=pg (ak (ak bU4.eq_1 Aw.eq_1) Mu.eq_1) (.l (EN [16,49,8,33,27,10,33] [0,8,16,260]) (EN [72,33,11] [16,260]) [0,4,8,5] (.b (.e (EN [16,209] [0,8,16,770]) (.b (.t [0,4,8,268]) (.b .o (.t [0,4,8,268]))) .o) (.t [8,12])) .o)
instance U6:C3 k40 Zc:=pg (ak k40.eq_1 Zc.eq_1) .o
instance aiv:C3 k44 np:=pg (ak k44.eq_1 np.eq_1) (.z 2 (.j (EN [48,2] []) .o .o))
instance vY:C3 k56 Wj:=pg (ak (ak k56.eq_1 Wj.eq_1) (ak uj.eq_1 vj.eq_1)) (.z 7 (.j (EN [32,17,328,2,521] [8,16]) (.t [4,8]) (.l (EN [32,41,400,17,2,409] [0,8]) (EN [40,33] [8]) [] (.b (.z 3 (.j (EN [32,465,96,2,305] [0,8]) .o (.b .o (.j (EN [32,65,376,121,96,2,209] [0,8]) .o .o)))) (.t [4])) (.l (EN [40,665,40,17,2,137] [0]) (EN [40,665] [0]) [] (.z 4 (.j (EN [40,65,640,25,96,2,33] [0]) .o .o)) .o))))
instance aiw{t0 t1 t2 t3 r}:o! (Da t0 t1 t2 t3=M r) (D6 al 227 [sf t0] [da t2,Gc t3] 6 [Nl t1] [Nl r.2] (.tup [qa r.1.1,Pv r.1.2])):=⟨λh=>by
 refine D6.of 101 bY9 ?_
 simp only[bY9,Kf.of,zs,ze]
 unfold Da at h
 exact pg Ic.eq_1 (.l (EN [8,57,8,17,192,17,18,537] [1,770,8,16,1034]) (EN [72,17] [1,770,16,1034]) [0,12,4,8,16] (.b (.e (EN [8,297] [1,258,16,24,1034]) (.b .o (.b .o (.b .o (.b .o (.a [[],[],[],[],[],[],[],[],[],[],[],[],[],[],[]] .o))))) .o) (.t [0,4,12,16])) .o)⟩
instance aix:C4 bX4 Nz:=pg (ak bX4.eq_1 Nz.eq_1) (.b (.a [[],[],[1],[]] .o) (.b .o (.b .o (.a [[],[],[],[],[],[],[],[],[],[],[],[],[]] .o))))
instance aiy{t0 t1 t2 t3 r}:o! (Qg t0 t1 t2 t3=M r) (e? al 157 [Qu t0,da t1,LM t2,Rv t3] (.tup [ZF r.1,Nl r.2.1,Pv r.2.2])):=⟨λh=>by
 refine dk 119 ce4 ?_
 simp only[ce4,Kf.of,zs,ze]
 unfold Qg at h
 exact pg (ak Hh.eq_1 Ih.eq_1) (.l ⟨[.k 3,.p 19,.k 11,.p 2,.i 1,.p 87],[.o 0,.o 1,.o 2,.o 3,.o 4,.h 5 [.g [.p 4,.s (.own 6 0),.p 1]],.ni 2 0,.o 6]⟩ ⟨[.k 3,.p 19],[.o 0,.o 1,.o 2,.o 3,.o 4,.h 5 [.g [.p 4,.s (.own 6 0),.p 1]],.ni 2 0,.o 6]⟩ [0,4,8,12,16,20,9,24] (.b (.t [0,4,8,12,16,20,280,28]) .o) (.l ⟨[.k 3,.p 44,.k 1,.p 2,.i 2,.p 72],[.o 0,.o 1,.o 2,.o 3,.o 4,.h 5 [.g [.p 3,.s (.own 6 0),.p 2]],.ni 1 0,.o 6,.h 7 [.g [.p 2,.s (.own 9 0)]],.ni 2 1]⟩ ⟨[.k 3,.p 1,.k 4,.p 39],[.o 2,.o 3,.o 4,.h 5 [.g [.p 3,.s (.own 4 0),.p 2]],.ni 1 0,.o 6,.h 7 [.g [.p 2,.s (.own 7 0)]],.ni 2 1]⟩ [0,4,8,12,16,20,5,24,28,9] (.b (.z 4 (.f ⟨[.k 3,.p 120],[.o 0,.o 1,.o 2,.o 3,.o 4,.o 5,.o 6,.o 7,.o 8,.o 9,.h 10 [.g [.p 2,.s (.sl 3 (([] : List bz).map Ea)),.s (.sl 1 (([] : List (List bz)).map Ru)),.s (.sl 2 (([] : List ej).map Zg)),.p 1]]]⟩ [] (.g [[],[0],[0,1],[0,1,2],[0,1,2,3],[0,1,2,3,4],[0,1,2,3,4,5],[0,1,2,3,4,5,6],[0,1,2,3,4,5,6,7],[0,1,2,3,4,5,6,7,8],[0,1,2,3,4,5,6,7,8,9],[0,1,2,3,4,5,6,7,8,9,10],[0,1,2,3,4,5,6,7,8,9,10,11],[0,1,2,3,4,5,6,7,8,9,10,11,12],[0,1,2,3,4,5,6,7,8,9,10,11,12,13]] [s5,s5,s5,s5,s5,s5,s5,s5,s5,M 10,s5,s5,s5,s5,s5] (.b (.a [[],[],[],[2],[2]] .o) (.t [0,4,8,12,16,20,280,28,32,292]))))) (.t [8,12,16,20,24,28,32,36])) (.z 1 (.f ⟨[.k 3,.p 120],[.o 0,.o 1,.o 2,.h 3 [.g [.p 2,.s (.sl 3 (([] : List bz).map Ea)),.p 3]],.o 6,.o 7]⟩ [0,4,8,12,24,28] (.g [[],[0],[0,1],[0,1,2],[0,1,2,3],[0,1,2,3,4],[0,1,2,3,4,5],[0,1,2,3,4,5,6],[0,1,2,3,4,5,6,7],[0,1,2,3,4,5,6,7,8],[0,1,2,3,4,5,6,7,8,9],[0,1,2,3,4,5,6,7,8,9,10],[0,1,2,3,4,5,6,7,8,9,10,11],[0,1,2,3,4,5,6,7,8,9,10,11,12]] [s5,s5,s5,s5,s5,s5,s5,s5,M 3,s5,s5,s5,s5,s5] (.b (.a [[],[],[],[2],[2]] .o) (.a [[],[],[],[1],[]] .o)))))))⟩
instance caa:C4 cb9 Vk:=pg (ak (ak cb9.eq_1 Vk.eq_1) lr.eq_1) (.l ⟨[.k 2,.p 6,.k 2,.p 4,.k 1,.i 2,.p 4],[.o 0,.h 1 [.g [.p 2,.k 1,.p 3]],.o 2,.ci 3 0,.ci 4 1]⟩ (EN [80,25] [16,770,1034]) [] (.b (.e (EN [16,249] [0,8,16,770,1034]) .o .o) (.t [8,12,16])) .o)
instance P8:C4 k83 Hc:=pg (ak (ak k83.eq_1 Hc.eq_1) (ak Dh.eq_1 (ak Eh.eq_1 (ak Ch.eq_1 (ak Cp.eq_1 (ak Fh.eq_1 (ak Zi.eq_1 (ak bZ0.eq_1 (ak ce5.eq_1 ce6.eq_1))))))))) (.b (.a [[],[],[1],[]] .o) (.i ce6 50 ⟨[.s (.ref 5 0 0 0)],[.O 0,.O 1,.O 2,.O 3,.O 4,.nq 12 [.x [.i 0,.i 1,.i 2,.i 3,.i 4,.i 5,.i 6,.i 7,.i 8,.i 9,.s (.own 6 0),.s (.own 7 0)]],.ni 1 10,.ni 1 11]⟩ (.z 3 (.j ⟨[.k 5,.p 1],[.O 0,.O 1,.O 2,.O 3,.O 4,.h 6 [.g [.p 5,.i 0,.i 1,.i 2,.i 3,.i 4,.p 1,.s (.own 7 0)]],.o 7,.ni 1 5]⟩ (.b (.t [0,4,8,12,16,24,28,32]) (.t [0,4,8,12,16,24,28,5])) .o)) (.i ce5 45 ⟨[.s (.tup [])],[.O 0,.O 1,.O 2,.O 3,.O 4,.O 5,.Ci 6 0,.Ci 7 1]⟩ (.l (EN [65,88,17,10,201] [1,9,17,25,33,41,1539,57]) (EN [65] [1,9,17,25,33,41,1539,57]) [] .o (.l (EN [9,288,17,10,57] [1,9,17,25,33,41,49,1795]) (EN [] [1,9,17,25,33,41,49,1795]) [] (.b (.i bZ0 28 ⟨[.s (.tup [])],[.O 0,.O 1,.O 2,.O 3,.O 4,.O 5,.O 6,.Ci 7 0]⟩ (.l (EN [9,128,17,10,81] [1,9,17,25,33,41,49,1795]) (EN [] [1,9,17,25,33,41,49,1795]) [] .o .o) .o) .o) .o)) (.z 1 (.d [0,8,16,24,32] [] (.b (.a [[],[],[1],[]] .o) (.a [[],[],[],[],[],[],[],[],[],[],[],[6,8,9],[]] .o)))))))
instance pS:C4 cc0 Jl:=pg (ak (ak cc0.eq_1 Jl.eq_1) ei.eq_1) (.l (EN [24,41,16,9,27,35,9,18,25] [0,8,16,260,268,24]) (EN [80,9,11,19] [16,260,268]) [0,4,8,5,5,12] (.b (.b .o (.t [0,4,8,268,272,20])) (.t [8,12,16])) .o)
instance aiz:C5 k41 Mj:=pg (ak (ak k41.eq_1 Mj.eq_1) je.eq_1) (.l (EN [32,49,16,2,10,89,18,497] [0,8,16]) (EN [56,25,16,2,10,73] [16]) [] (.b .o (.t [8])) .o)
instance UW:C4 k96 Nh:=pg (ak (ak k96.eq_1 Nh.eq_1) (ak Pj.eq_1 (ak Rj.eq_1 (ak Bg.eq_1 (ak Qj.eq_1 (ak Hl.eq_1 (ak Il.eq_1 (ak cc1.eq_1 bk7.eq_1)))))))) (.i bk7 23 ⟨[.s (.tup [])],[.O 0,.O 1,.O 2,.O 3,.O 4,.Ci 5 0]⟩ (.l (EN [8,9,32,9,10] [1,9,17,25,33,1283]) (EN [] [1,9,17,25,33,1283]) [] .o .o) (.i cc1 28 ⟨[.s (.tup [])],[.O 0,.O 1,.O 2,.O 3,.O 4,.O 5,.Ci 6 0]⟩ (.l (EN [8,17,8,41,10] [1,9,17,25,33,41,1539,56]) (EN [] [1,9,17,25,33,41,1539]) [] (.b (.i bk7 23 ⟨[.s (.tup [])],[.O 0,.O 1,.O 2,.O 3,.O 4,.O 5,.Ci 6 0,.O 7]⟩ (.l (EN [8,9,32,9,10] [1,9,17,25,33,41,1539,57]) (EN [] [1,9,17,25,33,41,1539,57]) [] .o .o) .o) .o) .o) (.z 1 (.d [0,8,16,24,32,40] [] (.b (.a [[],[],[1],[]] .o) (.z 1 (.d [0,8,16,24,32,48] [0,4,8,12,16,24] (.b (.a [[],[],[1],[]] .o) (.a [[],[],[],[],[],[],[],[],[],[6,7],[]] .o)))))))))
instance UZ:C7 k45 ck:=pg (ak (ak k45.eq_1 ck.eq_1) Re.eq_1) (.l (EN [24,17,16,65,16,9,2,10,57] [0,8,16,24]) (EN [24,9,40,49,24,2] [16,24]) [] (.b (.a [[],[],[],[],[],[],[],[],[],[],[],[],[],[]] .o) (.t [8,12])) (.z 1 (.j (EN [24,49,40,33,56,2] [8]) (.t [4]) .o)))
instance O1:C6 k50 ie:=pg (ak (ak k50.eq_1 ie.eq_1) xh.eq_1) (.z 2 (.j (EN [24,73,192,2,385] [0,8,16]) .o (.z 3 (.j (EN [24,89,2,10,161] [0,8,16,24]) .o (.l (EN [32,81,10,9,18,265] [0,8,16,770]) (EN [104,9] [770]) [] (.b (.z 2 (.j ⟨[.k 4,.p 10,.i 0,.p 36],[.o 0,.o 1,.o 2,.o 3,.h 4 [.g [.p 1,.i 1,.i 2]]]⟩ (.b .o (.b (.a [[],[],[],[],[],[],[],[],[],[],[],[],[]] .o) .o)) (.t [0,4,8,268]))) (.t [12])) .o)))))
theorem lI{t0 t1 t2 t3 t4 t5 r} (h:ie t0 t1 t2 t3 t4 t5=M r):Ou al 50 [Qu t0,.agg [da t1.Id,da t1.ai,da t1.s,.own 0 0],vf t2,da t3,da t4,da t5] [(9,t1.aa.map Kd)] (Dd r):=by
 refine Ou.of 79 k50 ?_ aaI
 simp only[k50,Kf.of,zs,ze,cz,D?,R?,G!,M!,M?]
 unfold ie at h
 exact pg xh.eq_1 (.z 2 (.j (EN [24,73,192,2,385] [1,8,16,24]) .o (.z 3 (.j (EN [24,89,2,10,161] [1,8,16,24,32]) .o (.l (EN [32,81,10,9,18,265] [1,8,16,24,1026]) (EN [104,9] [1,1026]) [] (.b (.z 2 (.j ⟨[.k 4,.p 10,.i 0,.p 36],[.O 0,.o 1,.o 2,.o 3,.o 4,.h 5 [.g [.p 1,.i 1,.i 2]]]⟩ (.b .o (.b (.a [[],[],[],[],[],[],[],[],[],[],[],[],[]] .o) .o)) (.t [0,4,8,12,272]))) (.t [0,16])) .o)))))
instance aja{t0 t1 t2 t3 t4 t5 r}:Q! (ie t0 t1 t2 t3 t4 t5=M r) (Ou al 50 [Qu t0,.agg [da t1.Id,da t1.ai,da t1.s,.own 0 0],vf t2,da t3,da t4,da t5] [(9,t1.aa.map Kd)] (Dd r)):=⟨lI⟩
instance uY:C5 k16 Za:=pg (ak k16.eq_1 Za.eq_1) (.z 2 (.j (EN [24,57,72,2,161] [0,8,16]) .o .o))
theorem mH{t0 t1 t2 t3 t4 r} (h:Za t0 t1 t2 t3 t4=M r):Ou al 16 [Qu t0,vf t1,.agg [da t2.ag.Id,da t2.ag.ai,da t2.ag.s,.own 0 0,.own 1 0,.own 2 0,da t2.z,da t2.aq],da t3,da t4] [(9,t2.ag.aa.map Kd),(4,t2.al.map fb),(7,t2.an.map ef)] (vb r):=by
 refine Ou.of 35 k16 ?_ aaI
 simp only[k16,Kf.of,zs,ze,cz,D?,R?,G!,M!,M?]
 unfold Za at h
 exact pg trivial (.z 2 (.j (EN [24,57,72,2,161] [1,9,17,24,32,40]) .o .o))
instance ajb{t0 t1 t2 t3 t4 r}:Q! (Za t0 t1 t2 t3 t4=M r) (Ou al 16 [Qu t0,vf t1,.agg [da t2.ag.Id,da t2.ag.ai,da t2.ag.s,.own 0 0,.own 1 0,.own 2 0,da t2.z,da t2.aq],da t3,da t4] [(9,t2.ag.aa.map Kd),(4,t2.al.map fb),(7,t2.an.map ef)] (vb r)):=⟨mH⟩
instance cU:C6 ch5 Oi:=pg (ak (ak ch5.eq_1 Oi.eq_1) ag.eq_1) (.l (EN [32,65,8,17,27,10] [0,8,16,772]) (EN [120,3] [772]) [0,4,8,13] (.b (.t [0,4,8,268]) (.t [12])) .o)
instance ajc{t0 c10 r}:o! (Ya t0 (λx900=>bh x900 c10)=M r) (e? al 123 [vb t0,.fn 124 [] [kx c10]] (da r)):=⟨λh=>Ij (q1:=[kx c10]) (jM PJ) (λx900 _ hb=>cu hb) h⟩
theorem SJ{t0 t1 t2 t3 r} (h:Uh t0 t1 t2 t3=M r):e? al 18 [Qu t0,vf t1,nk t2,sy t3] (.tup [nk r.1,da r.2]):=by
 refine dk 69 k18 ?_
 simp only[k18,Kf.of,zs,ze]
 unfold Uh at h
 exact pg (ak WA.eq_1 (ak VA.eq_1 (ak UA.eq_1 (ak nC.eq_1 (ak mC.eq_1 (ak lC.eq_1 (ak Xw.eq_1 (ak Ys.eq_1 (ak kC.eq_1 (ak Xs.eq_1 (ak aK6.eq_1 (ak k64.eq_1 (ak k63.eq_1 (ak k62.eq_1 (ak k61.eq_1 (ak k60.eq_1 (ak k59.eq_1 k58.eq_1))))))))))))))))) (.b .o (.b .o (.b .o (.i k58 17 ⟨[.s (.agg [da t2.ag.Id,da t2.ag.ai,da t2.ag.s,.own 5 0,.own 6 0,.own 7 0,da t2.z,da t2.aq])],[.O 0,.O 1,.O 2,.O 3,.O 4,.ni 9 0,.ni 4 1,.ni 7 2]⟩ (.t [0,4,8,12,16,28,32,36]) (.z 1 (.j ⟨[.k 6,.p 3,.k 1,.p 1,.i 4],[.o 2,.o 3,.o 4,.h 8 [.g [.p 7,.i 3]],.ci 5 0,.ci 6 1,.ci 7 2]⟩ (.b (.i k59 35 ⟨[.i 1],[.O 0,.O 1,.O 2,.O 3,.O 4,.Bi 5 1 0,.O 6,.O 7,.H 8 [.g [.p 3,.s (.own 5 1),.p 4]]]⟩ (.b (.t [0,4,8,12,16,22,24,28,32]) (.a [[],[],[],[],[],[],[],[],[],[]] (.t [0,4,8,12,16,278,24,28,32]))) (.t [8,12,16,32,276,24,28])) (.b (.i k60 49 ⟨[.i 2],[.O 0,.O 1,.O 2,.O 3,.O 4,.O 5,.Bi 6 1 0,.O 7,.H 8 [.g [.p 4,.s (.own 6 1),.p 2,.i 1]]]⟩ (.b (.t [0,4,8,12,16,20,26,28,32]) (.b (.t [0,4,8,12,16,20,26,28,32]) (.i aK6 21 ⟨[.i 1],[.O 0,.O 1,.O 2,.O 3,.O 4,.O 5,.Bi 6 1 0,.O 7,.H 8 [.g [.p 4,.s (.own 6 1),.p 3]],.O 9,.O 10,.O 11]⟩ (.b (.t [0,4,8,12,16,20,26,28,32,36,40,44]) (.t [0,4,8,12,16,20,282,28,32,36,40,44])) (.t [0,4,8,12,16,20,282,28,32])))) (.t [8,12,16,32,20,280,28])) (.b (.i k61 43 ⟨[.i 1],[.O 0,.O 1,.O 2,.O 3,.O 4,.O 5,.O 6,.Bi 7 1 0,.H 8 [.g [.p 5,.s (.own 7 1),.p 2]]]⟩ (.b (.t [0,4,8,12,16,20,24,30,32]) (.a [[],[],[],[],[],[],[],[],[],[],[],[],[],[],[],[],[],[],[],[]] (.b (.t [0,4,8,12,16,20,24,30,32]) (.a [[],[],[],[],[],[],[],[]] (.t [0,4,8,12,16,20,24,286,32]))))) (.t [8,12,16,32,20,24,284])) (.b (.i k62 47 (EN [10] [1,9,17,25,33,41,49,1795,65]) (.z 2 (.j (EN [9,16,9,120,2,233] [1,9,17,25,33,41,49,57,65,72]) .o (.b .o (.a [[],[],[],[],[],[],[],[],[],[],[],[],[],[],[],[],[],[],[],[]] .o)))) (.t [8,12,16,32,20,24,28])) (.b (.i k63 40 ⟨[.i 1],[.O 0,.O 1,.O 2,.O 3,.O 4,.O 5,.Bi 6 1 0,.O 7,.H 8 [.g [.p 4,.s (.own 6 1),.p 3]]]⟩ (.z 2 (.j (EN [16,9,8,33,80,2,201] [1,9,17,25,33,41,49,57,65,72,80,88]) .o (.b (.t [0,4,8,12,16,20,26,28,32]) (.b (.t [0,4,8,12,16,20,26,28,32]) (.i aK6 21 ⟨[.i 1],[.O 0,.O 1,.O 2,.O 3,.O 4,.O 5,.Bi 6 1 0,.O 7,.H 8 [.g [.p 4,.s (.own 6 1),.p 3]],.O 9,.O 10,.O 11]⟩ (.b (.t [0,4,8,12,16,20,26,28,32,36,40,44]) (.t [0,4,8,12,16,20,282,28,32,36,40,44])) (.t [0,4,8,12,16,20,282,28,32])))))) (.t [8,12,16,32,20,280,28])) (.b (.i k64 50 ⟨[.i 1],[.O 0,.O 1,.O 2,.O 3,.O 4,.O 5,.Bi 6 1 0,.O 7,.H 8 [.g [.p 4,.s (.own 6 1),.p 3]]]⟩ (.z 2 (.j (EN [16,9,8,33,80,2,281] [1,9,17,25,33,41,49,57,65,72,80,88]) .o (.b (.t [0,4,8,12,16,20,26,28,32]) (.b (.t [0,4,8,12,16,20,26,28,32]) (.b (.t [0,4,8,12,16,20,26,28,32]) (.i aK6 21 ⟨[.i 1],[.O 0,.O 1,.O 2,.O 3,.O 4,.O 5,.Bi 6 1 0,.O 7,.H 8 [.g [.p 4,.s (.own 6 1),.p 3]],.O 9,.O 10,.O 11,.O 12]⟩ (.b (.t [0,4,8,12,16,20,26,28,32,36,40,44,48]) (.t [0,4,8,12,16,20,282,28,32,36,40,44,48])) (.t [0,4,8,12,16,20,282,28,32]))))))) (.t [8,12,16,32,20,280,28])) (.t [8,12,16,32,20,24,28]))))))) .o))))))
instance ajd{t0 t1 t2 t3 r}:o! (Uh t0 t1 t2 t3=M r) (e? al 18 [Qu t0,vf t1,nk t2,sy t3] (.tup [nk r.1,da r.2])):=⟨SJ⟩
instance J5:C6 k53 rj:=pg (ak (ak k53.eq_1 rj.eq_1) Yk.eq_1) (.z 2 (.j (EN [24,73,152,2,185] [0,8,16]) .o (.l (EN [32,9,64,3,10,129] [772]) (EN [104,3] [772]) [13] (.b (.t [256]) .o) .o)))
instance aje:C0 k14 Rr:=pg (ak k14.eq_1 Rr.eq_1) (.z 7 (.j (EN [2] []) .o .o))
instance iaa:C5 k17 Cg:=pg (ak k17.eq_1 Cg.eq_1) (.z 2 (.j (EN [24,57,72,2,161] [0,8,16]) .o .o))
instance EC:C4 k4 oh:=pg (ak k4.eq_1 oh.eq_1) (.z 2 (.j (EN [32,33,176,2,169] [0,8,16,24]) .o (.b .o (.j (EN [64,2,169] []) .o .o))))
def SB{t0 t1 t2 t3 r} (h:oh t0 t1 t2 t3=M r):e? al 4 [Qu t0,vf t1,nk t2,kh t3] (za r):=EC.h h
end Go.Proofs.Dev
