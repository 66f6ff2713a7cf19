/-
  Contracts of the functions: each answers as its plain partial function says.
-/
import Derived.Test.YtjiaejcpmcknnaaGreatDoorK
import Derived.Test.YtjiaejcpmcknnaaGreatDoorG
import Derived.Test.YtjiaejcpmcknnaaGreatDoorPD
import Derived.Test.YtjiaejcpmcknnaaGreatDoorH1
import Derived.Test.YtjiaejcpmcknnaaGreatDoorH2
import Derived.Test.YtjiaejcpmcknnaaGreatDoorQ4
import Derived.Test.YtjiaejcpmcknnaaGreatDoorQ5
import Derived.Test.YtjiaejcpmcknnaaGreatDoorQ6
import Derived.Test.YtjiaejcpmcknnaaGreatDoorQ7
open Bool renaming and_eq_true->Sac,and_true->Xac,true_and->Lad
open List renaming all_cons->sae,append_assoc->Tad,append_nil->vad,cons_append->mad,eq_nil_of_length_eq_zero->gad,ext_getElem->lae,getElem?_append_left->Nad,getElem?_concat_length->Dad,getElem?_eq_getElem->Lac,getElem?_map->Oad,getElem_mem->Qac,length_append->tad,length_filter_le->Fad,length_replicate->Jad,map_append->Qad,map_set->saf,mem_map->jae,replicate->Nac,replicate_succ'->nae,set_append->waf,set_cons_zero->Iae
open List.Perm renaming append_right->dag
open Nat renaming add_comm->Fae,le_trans->Vad,sub_self->Hae,zero_le->Sad
open Option renaming map_some->qae
open Option.some renaming inj->nad,injEq->Aad
set_option linter.all false
set_option maxHeartbeats 1000000
set_option maxRecDepth 10000
namespace Go.Proofs.Dev
open Go Go.Tm
instance {t0 t1 t2 r}:Con (Jd t0 t1 t2=some r) (Den Tryz.prog 33 [ka t0,ka t1,Ar t2] (.tup [aa r.1,aa r.2.1,ba r.2.2])):=⟨λh=>by
 refine dk 39 k33 ?_
 simp only[k33,Kf.of,zs,ze]
 unfold Jd at h
 exact pg @Gf.eq_1 (.b .o (.l 1 1 (λ(s5:(List Int))=>⟨[.k 9,.p 1,.s (ka s5)],[.o 0]⟩) (λ(b10:(List Int))=>⟨[.k 10,.s (ka b10)],[]⟩) [ok 0] (.b (.t [ok 0]) (.t [])) .o))⟩
instance {t0 t1 r}:Con (qn t0 t1=some r) (Den Tryz.prog 67 [Ya t0,ta t1] (ba r)):=⟨λh=>by
 refine dk 55 k67 ?_
 simp only[k67,Kf.of,zs,ze]
 unfold qn at h
 exact pg @El.eq_1 (.z 3 (.j 1 (λ(j3:Bool)=>⟨[.p 1,.k 25,.s (ba j3),.p 30],[]⟩) (.b (.t []) (.t [])) (.b .o (.l 1 0 (λ(s5:Int)=>⟨[.p 26,.k 1,.p 2,.s (aa s5),.p 27],[]⟩) (λ(_:Unit)=>⟨[],[]⟩) [] (.b (.e 0 (λ(_:Unit)=>⟨[.p 30],[]⟩) (.z 3 (.j 1 (λ(j12:Bool)=>⟨[.p 30,.k 6,.s (ba j12),.p 20],[.o 0]⟩) (.b (.t [ok 0]) (.b (.t [ok 0]) (.b (.t [ok 0]) (.b (.t [ok 0]) (.t [ok 0]))))) (.b (.t []) (.b (.t []) (.b .o (.b .o (.t []))))))) (.t [])) (.t [])) .o))))⟩
instance {t0 t1 r}:Con (Dl t0 t1=some r) (Den Tryz.prog 70 [Li t0,aa t1] (ka r)):=⟨λh=>by
 refine dk 75 k70 ?_
 simp only[k70,Kf.of,zs,ze]
 unfold Dl at h
 exact pg (And.intro @qh.eq_1 @ph.eq_1) (.l 2 1 (λ(q:((List Int) × Int))=>⟨[.k 1,.p 3,.k 1,.s (.own 0 0),.p 11,.s (aa q.2),.p 59],[.n 1 ((q.1.map aa))]⟩) (λ(b28:(List Int))=>⟨[.k 5,.s (.own 0 0),.p 9],[.n 1 ((b28.map aa))]⟩) [on 1] (.b (.j 1 (λ(j25:(List Int))=>⟨[.k 1,.p 17],[.c 0 ((j25.map aa))]⟩) (.b (.t [ok 0]) (.l 2 1 (λ(q:((List Int) × Int))=>⟨[.k 1,.p 7,.k 7,.p 3,.k 10,.p 2,.s (aa q.2),.p 46],[.c 0 ((q.1.map aa))]⟩) (λ(b24:(List Int))=>⟨[.k 1,.p 6,.k 8,.p 3],[.c 0 ((b24.map aa))]⟩) [ok 0] (.b (.j 1 (λ(j21:(List Int))=>⟨[.k 1,.p 30],[.c 0 ((j21.map aa))]⟩) (.b (.t [ok 0]) (.z 2 (.j 1 (λ(j16:Bool)=>⟨[.k 1,.p 9,.k 3,.p 1,.k 1,.p 16,.k 25,.s (ba j16),.p 20],[.o 0,.o 2]⟩) (.b (.b (.t [ok 0,ok 2]) (.t [ok 0,ok 2])) (.t [ok 0,ok 2])) (.b (.t [ok 0]) (.b (.t [ov 0 2]) (.t [ov 0 1])))))) (.t [ok 0])) (.t [ok 0])) (.t [ok 0]))) (.t [ok 0])) (.t [ok 0])) .o)⟩
instance {t0 t1 r}:Con (Ra t0 t1=some r) (Den Tryz.prog 74 [Ya t0,Em t1] (.tup [ma r.1,aa r.2])):=⟨λh=>by
 refine dk 25 k74 ?_
 simp only[k74,Kf.of,zs,ze]
 unfold Ra at h
 exact pg trivial .o⟩
instance {t0 t1 r}:Con (Ue t0 t1=some r) (Den Tryz.prog 82 [Ca t0,aa t1] (ka r)):=⟨λh=>by
 refine dk 16 k82 ?_
 simp only[k82,Kf.of,zs,ze]
 unfold Ue at h
 exact pg trivial (.z 2 (.j 1 (λ(j2:Bool)=>⟨[.k 1,.p 3,.k 9,.s (ba j2),.p 4],[.o 0]⟩) (.b (.t [ok 0]) (.t [ok 0])) .o))⟩
instance {t0 t1 r}:Con (Wr t0 t1=some r) (Den Tryz.prog 83 [Ca t0,aa t1] (ka r)):=⟨λh=>by
 refine dk 93 k83 ?_
 simp only[k83,Kf.of,zs,ze]
 unfold Wr at h
 exact pg (And.intro @zt.eq_1 @Bt.eq_1) (.z 2 (.j 1 (λ(j2:Bool)=>⟨[.k 1,.p 3,.k 21,.s (ba j2),.p 69],[.o 0]⟩) (.b (.t [ok 0]) (.t [ok 0])) (.b .o (.l 2 1 (λ(q:((List Bool) × Int))=>⟨[.k 2,.p 23,.k 11,.p 2,.s (aa q.2),.p 56],[.o 0,.c 1 ((q.1.map ba))]⟩) (λ(b17:(List Bool))=>⟨[.k 2,.p 23],[.o 0,.c 1 ((b17.map ba))]⟩) [ok 0,ok 1] (.b (.t [ok 0,ok 1]) (.t [ok 0,ok 1])) (.l 2 1 (λ(q:((List Int) × Int))=>⟨[.k 2,.p 6,.s (.own 2 0),.p 37,.k 1,.p 2,.s (aa q.2),.p 45],[.o 0,.o 1,.n 1 ((q.1.map aa))]⟩) (λ(b34:(List Int))=>⟨[.k 8,.s (.own 0 0),.p 37],[.n 1 ((b34.map aa))]⟩) [ok 0,ok 1,on 1] (.b (.j 1 (λ(j31:(List Int))=>⟨[.k 2,.p 48],[.o 0,.o 1,.c 2 ((j31.map aa))]⟩) (.z 2 (.j 1 (λ(j25:Bool)=>⟨[.k 2,.p 48,.k 21,.s (ba j25),.p 23],[.o 0,.o 1,.o 2,.o 3]⟩) (.b (.b (.t [ok 0,ok 1,ok 2,ok 3]) (.t [ok 0,ok 1,ok 2,ok 3])) (.t [ok 0,ok 1,ok 2,ok 3])) (.b (.t [ok 0,ok 1,ok 2]) (.t [ok 0,ok 1,ov 2 2])))) (.t [ok 0,ok 1,ok 2])) (.t [ok 2])) .o)))))⟩
def jv(n:Nat) (F:Nat->List Int):LL:=(List.range n).map λd=>((F d).length,F d)
theorem vK{n:Nat}{F:Nat->List Int}:(jv n F).length=n:=by simp[jv]
theorem uK{n d:Nat}{F:Nat->List Int}(h:d<n):(jv n F)[d]?=some ((F d).length,F d):=by simp[jv,h]
theorem HR{n d:Nat}{F F':Nat->List Int}{x:Int}(h1:F' d=F d++[x]) (h2:∀e,e≠d->F' e=F e):(jv n F).set d ((F d).length+1,F d++[x])=jv n F':=by
 unfold jv;apply lae
 .simp
 .intro k k1 k2;rw[List.getElem_set];simp only[List.getElem_map,List.getElem_range];split
  .rename_i h;subst h;rw[h1];simp
  .rename_i h;rw[h2 k (λe=>h e.symm)]
def yO(I:List Int) (L:LL):List Ent:=.live 1 0 (I.map aa)::.live 1 0 (Jg 4 L)::si L
def W0(l:List Int) (v:Nat) (I:List Int) (L:LL):List Ent:=Vw l v 0 (yO I L)
theorem pJ{I:List Int}{L:LL}:(yO I L).length=L.length+2:=by simp[yO,Gm]
theorem aC{I:List Int}{L:LL}:(yO I L).all (Ent.below ((yO I L).length+2))=true:=by
 rw[pJ];unfold yO;simp only[sae,Sac];exact⟨sd _ _ (Fr.l _),Pt (by omega),Xv⟩
theorem HE(t:List D) (a b c:Ent) (n:Nat):∀x,x<=n->wu 1 3 x ⟨t,[a,b,c,.live 1 0 (Nac n (.v (.slice none 0 0)))]⟩=⟨t,a::b::c::.live 1 0 (Jg 4 (Nac x (0,[]))++Nac (n-x) (.v (.slice none 0 0)))::si (Nac x (0,[]))⟩
 |0,_=>by simp[wu,Jg,si]
 |x+1,h=>by
  rw[wu,HE t a b c n x (by omega)];unfold FE;simp only[List.getElem?_cons_succ,List.getElem?_cons_zero];have hl:(Jg 4 (Nac x ((0:Nat),([]:List Int)))).length=x:=by rw[Kr];simp
  rw[List.getElem?_append_right (by omega),hl,Hae,List.getElem?_replicate,if_pos (by omega)];simp only[List.set_cons_succ,Iae,List.length_cons,Gm,Jad,mad,St.mk.injEq,true_and,List.cons.injEq,Ent.live.injEq];refine⟨?_,?_⟩
  .rw[waf,if_neg (by omega),hl,Hae,nae (n:=x),iG,Tad];congr 1;obtain⟨k,hk⟩:∃k,n-x=k+1:=⟨n-x-1,by omega⟩;rw[hk,List.replicate_succ,Iae,show n-(x+1)=k by omega,Jad];simp only[Jg,mad,List.nil_append];rw[Fae 4 x]
  .rw[nae (n:=x)];simp[si]
theorem GR{n:Nat}{F:Nat->List Int}(h:∀d,F d=[]):jv n F=Nac n (0,[]):=by
 unfold jv;apply lae
 .simp
 .intro k k1 k2;simp[h]
theorem xJ{n:Nat}:ja (Nac n (.v (.int .i64 0)))=true:=Ri.2 λd hd=>by rw[List.eq_of_mem_replicate hd];rfl
def E1(g:List (List Int)) (y:Nat×List Int×Nat):St:=⟨ds 4 (qb g::.own 3 0::.own 2 0::.ref 0 0 0 0::ds 19 (qb g::aa g.length::aa y.1::ds 83 [])),W0 y.2.1 y.2.2 (HA g y.1) (jv g.length (fg g y.1))⟩
def E2(g:List (List Int)) (l:List Int) (v i j:Nat):St:=⟨ds 4 (qb g::.own 3 0::.own 2 0::.ref 0 0 0 0::aa i::ka (g.getD i [])::ds 17 (qb g::aa g.length::aa i::ds 9 (ka (g.getD i [])::aa (g.getD i []).length::aa j::ds 71 []))),W0 l v (HA g (i+1)) (jv g.length (yq g i j))⟩
theorem F2{g:List (List Int)}{y:Nat×List Int×Nat}:Fit 0 (E1 g y):=by
 refine yy aC (Sad _) ?_;rw[pJ];simp only[tn,vo,belows,Tm.below,Xac,Lad,Sac,decide_eq_true_eq];exact⟨Ia _ _ (Fr.h _),by omega,by omega,by omega,Ia _ _ (Fr.h _),Ia _ _ (Fr.h _),Ia _ _ (Fr.h _)⟩
theorem K2{g:List (List Int)}{l:List Int}{v i j:Nat}:Fit 0 (E2 g l v i j):=by
 refine yy aC (Sad _) ?_;rw[pJ];simp only[tn,vo,belows,Tm.below,Xac,Lad,Sac,decide_eq_true_eq];exact⟨Ia _ _ (Fr.h _),by omega,by omega,by omega,Ia _ _ (Fr.h _),Ia _ _ (Fr.h _),Ia _ _ (Fr.h _),Ia _ _ (Fr.h _),Ia _ _ (Fr.h _),Ia _ _ (Fr.h _),Ia _ _ (Fr.h _),Ia _ _ (Fr.h _)⟩
def Ax(I:List Int) (L:LL) (w:Nat) (out:List Int):List Ent:=.live 1 0 (I.map aa)::.live 1 0 (Jg 4 L)::(si L++[.live 1 w (out.map aa)])
theorem tF{I:List Int}{L:LL}{w:Nat}{out:List Int}:(Ax I L w out).length=L.length+3:=by simp[Ax,Gm]
theorem Zv{I:List Int}{L:LL}{w:Nat}{out:List Int}:(Ax I L w out).all (Ent.below ((Ax I L w out).length+2))=true:=by
 rw[tF];unfold Ax;simp only[sae,List.all_append,List.all_nil,Xac,Sac];exact⟨sd _ _ (Fr.l _),Pt (by omega),Xv,sd _ _ (Fr.l _)⟩
abbrev gL(g:List (List Int)):LL:=jv g.length (fg g g.length)
def E3(g:List (List Int)) (y:List Int×Nat×List Int×Nat):St:=⟨ds 4 (qb g::.own 3 0::.own 2 0::.ref 0 0 0 0::ds 4 (.own ((si (gL g)).length+4) y.2.1::ds 100 [])),Vw y.2.2.1 y.2.2.2 0 (Ax (xL g y.1) (gL g) y.2.1 y.1)⟩
def E4(g:List (List Int)) (out:List Int) (w d:Nat) (y:Nat×List Int×Nat):St:=⟨ds 4 (qb g::.own 3 0::.own 2 0::.ref 0 0 0 0::ds 4 (.own ((si (gL g)).length+4) (w+1)::aa d::ds 70 (.own (d+4) (fg g g.length d).length::aa (fg g g.length d).length::aa y.1::ds 26 []))),Vw y.2.1 y.2.2 0 (Ax (Rw g out d y.1) (gL g) (w+1) (out++[(d:Int)]))⟩
theorem kN{g:List (List Int)}:(gL g).length=g.length:=vK
theorem L2{g:List (List Int)}{y:List Int×Nat×List Int×Nat}:Fit 0 (E3 g y):=by
 refine yy Zv (Sad _) ?_;rw[tF,Gm];simp only[tn,vo,belows,Tm.below,Xac,Lad,Sac,decide_eq_true_eq];exact⟨Ia _ _ (Fr.h _),by omega,by omega,by omega,by omega⟩
theorem N2{g:List (List Int)}{out:List Int}{w d:Nat}(hd:d<g.length) {y:Nat×List Int×Nat}:Fit 0 (E4 g out w d y):=by
 refine yy Zv (Sad _) ?_;rw[tF,Gm,kN];simp only[tn,vo,belows,Tm.below,Xac,Lad,Sac,decide_eq_true_eq];exact⟨Ia _ _ (Fr.h _),by omega,by omega,by omega,by omega,Ia _ _ (Fr.h _),by omega,Ia _ _ (Fr.h _),Ia _ _ (Fr.h _)⟩
theorem ev_T{t0:GScope}{g:List (List Int)}(hall:Oc t0=some g) (hg:GOk g) :
 Den Tryz.prog 123 [Ca t0] (.tup [ka (gw g).1,aa (gw g).2]):=by
 have hgl:=hg.len;refine dk 112 jab ?_;simp only[jab,Kf.of,zs,ze];refine ss (rg ?_);simp only[zz];refine ss (rg ?_);simp only[zz];refine kE (zu hall) ?_ (by simp only[zg]);simp only[zz];have hm:Ww 24 ([]:List Int) (g.length:Int) (g.length:Int)=some (Nac g.length []):=by
  unfold Ww;rw[if_pos ⟨by omega,by omega,by omega,by simp;omega⟩];simp
 obtain⟨f2,f3,f4,f5,f6⟩:=HL (e:=ka) hm;have hm2:Ww 8 (0:Int) (g.length:Int) (g.length:Int)=some (Nac g.length 0):=by
  unfold Ww;rw[if_pos ⟨by omega,by omega,by omega,by simp;omega⟩];simp
 obtain⟨a2,a3,a4,a5,a6⟩:=HL (e:=aa) hm2;refine ss (rg ?_);(try simp only[zz]at f5 f6 a5 a6);(try simp only[zz,f2,f3,f4,f5]);refine ss (rg ?_);(try simp only[zz,a2,a3,a4,a5]);refine ss (rg ?_);simp only[zz];refine ss (ss (rg ?_));simp only[zz];refine tl (S:=⟨ds 4 (qb g::.own 3 0::.own 2 0::.ref 0 0 0 0::ds 19 (qb g::aa g.length::aa 0::ds 83 [])),[.live 1 0 [.own 1 0],.live 1 0 [],.live 1 0 (Nac g.length (.v (.int .i64 0))),.live 1 0 (Nac g.length (.v (.slice none 0 0)))]⟩) (tq [ok 4,ok 3,ok 2,ok 1] (by simp only[zg,pf kD,pf xJ])) ?_;refine OB (S:=1) (id:=3) (x:=g.length) ?_;rw[HE _ _ _ _ _ _ (Nat.le_refl _),Hae,List.replicate_zero,vad];refine T.JK (E1 g) (λy=>y.1<=g.length/\y.2.1.Perm (BN g y.1)/\Hp y.2.1 y.2.1.length) (λy=>y.1=g.length/\y.2.1.Perm (BN g y.1)/\Hp y.2.1 y.2.1.length) (λy=>g.length-y.1) (0,[],0) ⟨Sad _,.refl _,λk _ h=>absurd h (Nat.not_lt_zero _)⟩ ?_ (λ_ _=>F2) ?_ (λ_=>my) ?_
 .unfold E1 W0 Vw yO;rw[GR (λ_=>ZP),IQ,←a6];exact At.same _ _ _ (sa.qc _)
 .rintro⟨i,l,v⟩ ⟨h1,h2,h3⟩;dsimp only at h1 h2 h3;have hll:l.length<=1048576:=by rw[h2.length_eq];exact Vad NY (by omega)
  unfold E1 W0 Vw yO;dsimp only;refine ss (rg ?_);simp only[zz];refine ss (cd rfl ?_);simp only[zz];refine gP.mk (λhc=>?_) (λhc=>?_)
  .have hi:i<g.length:=by omega
   refine sk ?_;simp only[zz];have g2:g[i]?=some (g.getD i []):=by simp[hi]
   have hmem:g.getD i []∈g:=List.mem_of_getElem? g2;have hgi:=hg.inr _ hmem;have hgn:=hg.nd _ hmem;have hgk:(g.getD i []).length<=g.length:=rC hgn hgi;have i1:(HA g i)[i]?=some 0:=by unfold HA;simp[hi]
   have i2:(HA g i).length=g.length:=by unfold HA;simp
   refine ss (bk (ss (rg ?_)));simp only[zz,g2];generalize hgi':g.getD i []=gi at *;refine ss (rg ?_);simp only[zz,g2,i1,i2,hi];refine ss (ss (rg ?_));simp only[zz];have hdi:yq g i gi.length=fg g (i+1):=funext λd=>by rw[←hgi'];exact YP.symm
   have hw:ca .i64 ((i:Int)+1)=((i+1:Nat):Int):=by rw[ou ⟨by omega,by omega⟩];omega
   refine T.r4 gi.length (E2 g l v i) ?_ (λj _=>K2) (λj hj=>?_) my ?_
   .unfold E2 W0 Vw yO;rw[show yq g i 0=fg g i from funext λd=>aQ,hgi',←HQ hi,saf,hgi'];exact At.same _ _ _ (by repeat (first|exact sa.qc _|refine sa.cons (Sub.refl _) ?_|refine sa.cons (Sub.ob _) ?_))
   .unfold E2 W0 Vw yO;rw[hgi'];refine ss (rg ?_);simp only[zz];refine ss (cd rfl ?_);simp only[zz];refine gP.mk (λhc=>?_) (λhc=>?_)
    .have hjl:j<gi.length:=by omega
     refine sk ?_;simp only[zz];obtain⟨d,hd,hdn⟩:∃d:Nat,gi[j]=(d:Int)/\d<g.length:=by
      have:=hgi gi[j] (Qac hjl);exact⟨gi[j].toNat,by omega,by omega⟩
     have g3:gi[j]?=some (d:Int):=by rw[Lac hjl,hd]
     have hL:(jv g.length (yq g i j)).length=g.length:=vK;have hp:(jv g.length (yq g i j))[d]?=some ((yq g i j d).length,yq g i j d):=uK hdn;have hLs:jv g.length (yq g i (j+1))=(jv g.length (yq g i j)).set d ((yq g i j d).length+1,yq g i j d++[(i:Int)]):=by
      refine(HR ?_ λe he=>?_).symm
      .rw[mI (by rw[hgi'];exact hjl) (by rw[hgi'];exact hgn),if_pos (by simp only[hgi',hd])]
      .rw[mI (by rw[hgi'];exact hjl) (by rw[hgi'];exact hgn),if_neg (by simp only[hgi',hd];omega)]
     have hpb:(yq g i j d).length<=i+1:=SS;generalize hQ:(yq g i j d).length=q at *;generalize hF:yq g i j d=F at *;generalize hLL:jv g.length (yq g i j)=L at hL hLs hp⊢;obtain⟨E,hE⟩:∃E,E=si L:=⟨_,rfl⟩;have hEl:E.length=L.length:=by rw[hE,Gm]
     rw[←hE];have hol:(Jg 4 L).length=g.length:=by rw[Kr,hL]
     have hEd:d<E.length:=by omega
     have k1:(Jg 4 L)[d]?=some (.own (d+4) q):=by rw[VA,hp,qae,Fae]
     have k2:∀y,(E++[y])[d]?=some (.live 1 q (F.map aa)):=λy=>by
      rw[Nad hEd,hE];unfold si;rw[Oad,hp];rfl
     have k3:∀y e,(E++[y]).set d e=E.set d e++[y]:=λy e=>by rw[waf,if_pos hEd]
     have k5:(F.length+1)*8<=2 ^ 47:=by omega
     have k6:VO (E.length+4) (d+4)=true:=CJ (by omega);refine ss (bk (ss (rg ?_)));simp only[zz,g3];refine rg ?_;simp only[zz,hol,hdn,k1,k2,k3,k5,k6,Dad,Uo];have hw2:ca .i64 ((j:Int)+1)=((j+1:Nat):Int):=by rw[ou ⟨by omega,by omega⟩];omega
     refine rg ?_;simp only[zz,Xs,hw2];refine⟨hjl,?_⟩;have e1:(Jg 4 L).set d (.own (d+4) (q+1))=Jg 4 (jv g.length (yq g i (j+1))):=by
      rw[hLs,←jG,Fae 4]
     have e2:E.set d (.live 1 (q+1) (F.map aa++[.v (.int .i64 i)]))=si (jv g.length (yq g i (j+1))):=by
      rw[hLs,hE];unfold si;rw[saf,Qad];rfl
     rw[e1,e2,←mad,←mad,←mad,←mad];exact At.mk _ _ _ _ (by repeat (first|exact sa.qc _|refine sa.cons (Sub.refl _) ?_|refine sa.cons (Sub.ob _) ?_))
    .refine xt ?_;simp only[zz,fE];have hj:j=gi.length:=by omega
     subst hj;refine⟨rfl,?_⟩;exact At.same _ _ _ (by repeat (first|exact sa.qc _|refine sa.cons (Sub.refl _) ?_|refine sa.cons (Sub.ob _) ?_))
   .unfold E2 W0 Vw yO;rw[hgi',hdi];simp only[zz];refine ss (rg ?_);simp only[zz];refine cd rfl ?_;by_cases hge:gi=[]
    .have hz:((gi.length:Int)==0)=true:=by rw[hge];rfl
     have hrd:BN g (i+1)=BN g i++[(i:Int)]:=by rw[PL,hgi',if_pos hge]
     simp only[zz,hz];refine rg ?_;simp only[zz];refine pv (GO (l:=l) (x:=(i:Int)) (v:=v) (u:=0) (R:=yO (HA g (i+1)) (jv g.length (fg g (i+1)))) aC (by omega) h3) ?_;rintro d m' ⟨rfl,l',h4,h5,rfl⟩;unfold Vw yO;simp only[zz];refine rg ?_;simp only[zz,hw,pn];refine⟨(i+1,l',v+1),⟨by dsimp only;omega,?_,h5⟩,by dsimp only;omega,?_⟩
     .dsimp only;rw[hrd];exact h4.trans (dag _ h2)
     .exact At.same _ _ _ (by repeat (first|exact sa.qc _|refine sa.cons (Sub.refl _) ?_|refine sa.cons (Sub.ob _) ?_))
    .have hz:((gi.length:Int)==0)=false:=by
      rw[beq_eq_false_iff_ne];intro h;exact hge (gad (by omega))
     have hrd:BN g (i+1)=BN g i:=by rw[PL,hgi',if_neg hge]
     simp only[zz,hz];refine sk ?_;simp only[zz];refine rg ?_;simp only[zz,hw,pn];refine⟨(i+1,l,v),⟨by dsimp only;omega,?_,h3⟩,by dsimp only;omega,?_⟩
     .dsimp only;rw[hrd];exact h2
     .exact At.same _ _ _ (by repeat (first|exact sa.qc _|refine sa.cons (Sub.refl _) ?_|refine sa.cons (Sub.ob _) ?_))
  .refine xt ?_;simp only[zz,kp];have hi:i=g.length:=by omega
   subst hi;exact⟨(g.length,l,v),⟨rfl,h2,h3⟩,At.same _ _ _ (by repeat (first|exact sa.qc _|refine sa.cons (Sub.refl _) ?_|refine sa.cons (Sub.ob _) ?_))⟩
 .rintro⟨i,l,v⟩ ⟨h1,h2,h3⟩;dsimp only at h1 h2 h3;subst h1;unfold E1 W0 Vw yO;dsimp only;simp only[zz];refine ss (rg ?_);simp only[zz];refine T.RC 12 1 rfl ?_;simp only[zz];refine ss ?_;refine T.JK (E3 g) (λy=>J2 g y.1 y.2.2.1/\Hp y.2.2.1 y.2.2.1.length) (λy=>J2 g y.1 []) (λy=>g.length-y.1.length) ([],0,l,v) ⟨j2_0 h2,h3⟩ ?_ (λ_ _=>L2) ?_ (λ_=>my) ?_
  .unfold E3 Vw Ax;dsimp only;rw[←B6];exact At.same _ _ _ (by repeat (first|exact sa.qc _|refine sa.cons (Sub.refl _) ?_|refine sa.cons (Sub.ob _) ?_))
  .rintro⟨out,w,l,v⟩ ⟨hj,h3⟩;dsimp only at hj h3;unfold E3 Vw Ax;dsimp only;have hll:l.length<=1048576:=by
    rw[hj.perm.length_eq];unfold eP;rw[List.length_map];exact Vad (Fad _ _) (by simpa using hgl)
   refine ss (ss (rg ?_));simp only[zz];refine Ub (JR (l:=l) (v:=v) (u:=0)) ?_;simp only[zz];refine cd rfl ?_;simp only[zz];refine gP.mk (λhc=>?_) (λhc=>?_)
   .refine sk ?_;simp only[zz];obtain⟨n,hn⟩:∃n,l.length=n+1:=⟨l.length-1,by omega⟩;refine bk (ss (rg ?_));simp only[zz];refine pv (n6 (l:=l) (n:=n) (v:=v) (u:=0) (R:=Ax (xL g out) (gL g) w out) Zv (by omega) hn h3) ?_;rintro _ _ ⟨x,l',rfl,h4,h5,h6,rfl⟩;obtain⟨d,rfl,hdl,hik,hol,hfin⟩:=F6 hg hj h4 h5;unfold Vw Ax;simp only[zz];have c0:∀o:Ent,(si (gL g)++[o])[(si (gL g)).length]?=some o:=λo=>Dad;have c1:∀o z:Ent,(si (gL g)++[o]++[z])[(si (gL g)).length]?=some o:=λo z=>by simp
    have c2:∀o z e:Ent,(si (gL g)++[o]++[z]).set (si (gL g)).length e=si (gL g)++[e]++[z]:=λo z e=>by simp[waf]
    have c3:∀o z:Ent,(si (gL g)++[o]++[z])[(si (gL g)).length+1]?=some z:=λo z=>by simp
    have c5:VO ((si (gL g)).length+1+4) ((si (gL g)).length+4)=true:=CJ (by omega);have hEl:(si (gL g)).length=g.length:=by rw[Gm,kN]
    have hF:(gL g)[d]?=some ((fg g g.length d).length,fg g g.length d):=uK hdl;have hE1:(si (gL g))[d]?=some (.live 1 (fg g g.length d).length ((fg g g.length d).map aa)):=by
     unfold si;rw[Oad,hF];rfl
    have c4:∀o z:Ent,(si (gL g)++[o]++[z])[d]?=some (.live 1 (fg g g.length d).length ((fg g g.length d).map aa)):=λo z=>by
     rw[Tad,Nad (by omega)];exact hE1
    have c6:∀o:Ent,(si (gL g)++[o])[d]?=some (.live 1 (fg g g.length d).length ((fg g g.length d).map aa)):=λo=>by
     rw[Nad (by omega)];exact hE1
    have o1:(Jg 4 (gL g))[d]?=some (.own (d+4) (fg g g.length d).length):=by rw[VA,hF,qae,Fae]
    have o2:(Jg 4 (gL g)).length=g.length:=by rw[Kr,kN]
    have b1:(out.length+1)*8<=2 ^ 47:=by omega
    have hDn:(fg g g.length d).length<=g.length:=ZE;have hpl:=h4.length_eq;refine ss (rg ?_);simp only[zz,c0,c1,c2,c3,c5,b1];refine ss (rg ?_);simp only[zz,c1,c2,c4,o1,o2,hdl];refine T.JK (E4 g out w d) (λy=>y.1<=(fg g g.length d).length/\y.2.1.Perm (l'++SA g out d y.1)/\Hp y.2.1 y.2.1.length) (λy=>y.1=(fg g g.length d).length/\y.2.1.Perm (l'++SA g out d y.1)/\Hp y.2.1 y.2.1.length) (λy=>(fg g g.length d).length-y.1) (0,l',v+1) ⟨Sad _,by dsimp only;rw[B7,vad],h6⟩ ?_ (λ_ _=>N2 hdl) ?_ (λ_=>ZN cO) ?_
    .unfold E4 Vw Ax;dsimp only;rw[A6,Qad,←mad,←mad,←mad,←mad];exact At.mk _ _ _ _ (by repeat (first|exact sa.qc _|refine sa.cons (Sub.refl _) ?_|refine sa.cons (Sub.ob _) ?_))
    .rintro⟨k,l1,v1⟩ ⟨k1,k2,k3⟩;dsimp only at k1 k2 k3;have hl1:l1.length<=1048576+1048576:=by
      rw[k2.length_eq,tad];have:=iU (g:=g) (out:=out) (d:=d) (k:=k);simp at hpl;omega
     unfold E4 Vw Ax;dsimp only;refine ss (rg ?_);simp only[zz];refine ss (cd rfl ?_);simp only[zz];refine gP.mk (λhc=>?_) (λhc=>?_)
     .have hk:k<(fg g g.length d).length:=by omega
      refine sk ?_;simp only[zz];obtain⟨e,he,hel,hem⟩:=Ox.1 (Qac hk);have g3:(fg g g.length d)[k]?=some (e:Int):=by rw[Lac hk,he]
      have i1:=JT (out:=out) hk he hel;have i2:(Rw g out d k).length=g.length:=by unfold Rw;simp
      have i3:(List.map aa (Rw g out d k)).set e (.v (.int .i64 (ID g out e-1)))=List.map aa (Rw g out d (k+1)):=by
       rw[←yI hk he,saf];rfl
      have i4:(Rw g out d (k+1))[e]?=some (ID g out e-1):=by
       rw[←yI hk he,List.getElem?_set_self (by omega)]
      have i5:(Rw g out d (k+1)).length=g.length:=by unfold Rw;simp
      have hcn:0<=ID g out e/\ID g out e<=1048576:=by
       unfold ID;have h1:=Fad (λd=>!out.contains d) (g.getD e []);have h2:=rC (hg.nd _ (Y5 hel)) (hg.inr _ (Y5 hel));omega
      have hwc:ca .i64 (ID g out e-1)=ID g out e-1:=ou ⟨by omega,by omega⟩;have hwk:ca .i64 ((k:Int)+1)=((k+1:Nat):Int):=by rw[ou ⟨by omega,by omega⟩];omega
      refine ss (bk (ss (rg ?_)));simp only[zz,c6,hk,g3];refine ss (rg ?_);simp only[zz,i1,i2,hel,hwc,i3];refine ss (rg ?_);simp only[zz,i4,i5,hel];refine cd rfl ?_;by_cases hc1:ID g out e=1
      .have hz:((ID g out e-1)==0)=true:=by rw[hc1];rfl
       simp only[zz,hz];refine rg ?_;simp only[zz];refine pv (GO (l:=l1) (x:=(e:Int)) (v:=v1) (u:=0) (R:=Ax (Rw g out d (k+1)) (gL g) (w+1) (out++[(d:Int)])) Zv (by omega) k3) ?_;rintro _ _ ⟨rfl,l2,h7,h8,rfl⟩;unfold Vw Ax;simp only[zz];refine rg ?_;simp only[zz,hwk,pn];refine⟨(k+1,l2,v1+1),⟨by dsimp only;omega,?_,h8⟩,by dsimp only;omega,?_⟩
       .dsimp only;rw[DI hk he,if_pos hc1,←Tad];exact h7.trans (dag _ k2)
       .exact At.same _ _ _ (by repeat (first|exact sa.qc _|refine sa.cons (Sub.refl _) ?_|refine sa.cons (Sub.ob _) ?_))
      .have hz:((ID g out e-1)==0)=false:=by
        rw[beq_eq_false_iff_ne];omega
       simp only[zz,hz];refine sk ?_;simp only[zz];refine rg ?_;simp only[zz,hwk,pn];refine⟨(k+1,l1,v1),⟨by dsimp only;omega,?_,k3⟩,by dsimp only;omega,?_⟩
       .dsimp only;rw[DI hk he,if_neg hc1];exact k2
       .exact At.same _ _ _ (by repeat (first|exact sa.qc _|refine sa.cons (Sub.refl _) ?_|refine sa.cons (Sub.ob _) ?_))
     .refine xt ?_;simp only[zz,kp];have hk:k=(fg g g.length d).length:=by omega
      subst hk;exact⟨((fg g g.length d).length,l1,v1),⟨rfl,k2,k3⟩,At.same _ _ _ (by repeat (first|exact sa.qc _|refine sa.cons (Sub.refl _) ?_|refine sa.cons (Sub.ob _) ?_))⟩
    .rintro⟨k,l1,v1⟩ ⟨k1,k2,k3⟩;dsimp only at k1 k2 k3;subst k1;unfold E4 Vw Ax;dsimp only;rw[hik];simp only[zz,pn];refine⟨(out++[(d:Int)],w+1,l1,v1),⟨hfin l1 k2,k3⟩,by dsimp only;rw[tad,List.length_singleton];omega,?_⟩;exact At.same _ _ _ (by repeat (first|exact sa.qc _|refine sa.cons (Sub.refl _) ?_|refine sa.cons (Sub.ob _) ?_))
   .refine xt ?_;simp only[zz,kp];have hl0:l=[]:=gad (by omega);subst hl0;exact⟨(out,w,[],v),hj,At.same _ _ _ (by repeat (first|exact sa.qc _|refine sa.cons (Sub.refl _) ?_|refine sa.cons (Sub.ob _) ?_))⟩
  .rintro⟨out,w,l,v⟩ hj;dsimp only at hj;have he:=E6 hj;unfold E3 Vw Ax;dsimp only;simp only[zz];have c0:∀o:Ent,(si (gL g)++[o])[(si (gL g)).length]?=some o:=λo=>Dad;refine ss (ss (rg ?_));simp only[zz,c0];refine cd rfl ?_;by_cases hlt:out.length<g.length
   .have hz:decide ((out.length:Int)<(g.length:Int))=true:=decide_eq_true (by omega);rw[if_pos hlt]at he;rw[he];simp only[zz,hz];refine ss (rg ?_);simp only[zz];exact rt (er (by simp only[zz,zr];exact fq (by simp only[zg])))
   .have hz:decide ((out.length:Int)<(g.length:Int))=false:=decide_eq_false (by omega);rw[if_neg hlt]at he;rw[he];simp only[zz,hz];refine sk ?_;simp only[zz];refine ss (rg ?_);simp only[zz];exact rt (er (by simp only[zz,zr];exact fq (by simp only[zg,zz,c0])))
theorem y6{n:Int}{l:List Int}{x:Int}(h:x∈ND n l):0<=x/\x<n:=by
 unfold ND at h;have:=(List.mem_filter.1 h).2;simpa using this
theorem DW{s:GScope}(h:s.Defs.length<=1048576):GOk (kq s):=by
 have hl:(kq s).length=s.Defs.length:=by unfold kq;simp
 refine⟨by omega,λl hm e he=>?_,λl hm=>?_⟩
 .unfold kq at hm;obtain⟨d,-,rfl⟩:=jae.1 hm;rw[hl];rw[(dh _).2.2,List.mem_flatten]at he;obtain⟨q,hq,he⟩:=he;obtain⟨r,-,rfl⟩:=jae.1 hq;rcases List.mem_append.1 he with h1|h1<;>exact y6 h1
 .unfold kq at hm;obtain⟨d,-,rfl⟩:=jae.1 hm;exact xI (dh _).1
theorem uv{t0:GScope}{r:List Int×Int}(h:ie t0=some r):Den Tryz.prog 123 [Ca t0] (.tup [ka r.1,aa r.2]):=by
 unfold ie at h
 cases hall:Oc t0 with
 |none=>rw[hall]at h;cases h
 |some g=>
  rw[hall]at h;simp only[Option.bind_some,Aad]at h;subst h;have hall':=hall;unfold Oc at hall';split at hall'
  .rename_i hc;have:=sn ⟨hc.1,hc.2.1,hc.2.2⟩;rw[hall]at this;obtain rfl:=nad this;exact ev_T hall (DW hc.1)
  .cases hall'
instance {t0 r}:Con (ie t0=some r) (Den Tryz.prog 123 [Ca t0] (.tup [ka r.1,aa r.2])):=⟨uv⟩
instance {t0 c10 r}:Con (Se t0 (λx900=>Dd x900 c10)=some r) (Den Tryz.prog 169 [Et t0,.fn 170 [] [zv c10]] (.tup [aa r.1,ba r.2])):=⟨λh=>sw (q1:=[zv c10]) (iD AA) (λx900 _ hb=>Ur hb) h⟩
theorem DB{t0 t1 r} (h:xk t0 t1=some r):Den Tryz.prog 129 [sb t0,Vb t1] (.tup [aa r.1,aa r.2]):=by
 refine dk 119 mab ?_
 simp only[mab,Kf.of,zs,ze]
 unfold xk at h
 exact pg @zj.eq_1 (.b .o (.z 1 (.j 1 (λ(j5:Bool)=>⟨[.k 1,.p 3,.k 25,.s (ba j5),.p 91],[.o 0]⟩) (.b (.t [ok 0]) (.t [ok 0])) (.b .o (.l 1 0 (λ(s9:Int)=>⟨[.k 2,.p 27,.k 16,.p 2,.s (aa s9),.p 73],[.o 0]⟩) (λ(_:Unit)=>⟨[],[]⟩) [ok 0] (.b (.z 3 (.j 1 (λ(j15:Bool)=>⟨[.k 2,.p 46,.k 23,.s (ba j15),.p 49],[.o 0,.o 1]⟩) (.b (.b (.t [ok 0,ok 1]) (.t [ok 0,ok 1])) (.t [ok 0,ok 1])) (.b .o (.z 1 (.j 1 (λ(j20:Bool)=>⟨[.k 2,.p 69,.k 25,.s (ba j20),.p 24],[.o 0,.o 1]⟩) (.b (.b (.b (.t [ok 0,ok 1]) (.t [ok 0,ok 1])) (.t [ok 0,ok 1])) (.t [ok 0,ok 1])) (.b .o (.z 1 (.j 1 (λ(j23:Bool)=>⟨[.k 2,.p 94,.k 11,.s (ba j23),.p 13],[.o 0,.o 1]⟩) (.b (.t [ok 0,ok 1]) (.t [ok 0,ok 1])) (.b .o (.b .o (.t [ok 0]))))))))))) (.t [])) .o)))))
instance {t0 t1 r}:Con (xk t0 t1=some r) (Den Tryz.prog 129 [sb t0,Vb t1] (.tup [aa r.1,aa r.2])):=⟨DB⟩
theorem Gq{t0 t1 t2 r} (h:Cj t0 t1 t2=some r):Den Tryz.prog 243 [Ya t0,ta t1,ra t2] (aa r):=by
 refine dk 20 k243 ?_
 simp only[k243,Kf.of,zs,ze]
 unfold Cj at h
 exact pg trivial .o
instance {t0 t1 t2 r}:Con (Cj t0 t1 t2=some r) (Den Tryz.prog 243 [Ya t0,ta t1,ra t2] (aa r)):=⟨Gq⟩
instance {t0 t1 t2 t3 t4 r}:Con (Hg t0 t1 t2 t3 t4=some r) (Den Tryz.prog 31 [ab t0,Ca t1,ka t2,aa t3,gb t4] (Ar r)):=⟨λh=>by
 refine dk 61 k31 ?_
 simp only[k31,Kf.of,zs,ze]
 unfold Hg at h
 exact pg @De.eq_1 (.l 2 1 (λ(q:((List Bool) × Int))=>⟨[.k 6,.p 4,.k 1,.p 6,.k 8,.p 2,.s (aa q.2),.p 38],[.o 1,.c 2 ((q.1.map ba)),.o 3]⟩) (λ(b19:(List Bool))=>⟨[.k 11,.p 1],[.c 2 ((b19.map ba))]⟩) [ok 1,ok 2,ok 3] (.b (.j 1 (λ(j16:(List Bool))=>⟨[.k 6,.p 22],[.o 0,.c 1 ((j16.map ba)),.o 2]⟩) (.b (.t [ok 0,ok 1,ok 2]) (.a [[],[],[],[],[],[],[],[],[],[],[],[],[]] (.b (.t [ok 0,ok 1,ok 2]) (.t [ok 0,ok 1,ok 2])))) (.t [ok 0,ok 1,ok 2])) (.t [ok 1])) .o)⟩
instance {t0 t1 t2 t3 r}:Con (xi t0 t1 t2 t3=some r) (Den Tryz.prog 43 [Ca t0,Em t1,aa t2,aa t3] (.tup [aa r.1,Sg r.2])):=⟨λh=>by
 refine dk 83 k43 ?_
 simp only[k43,Kf.of,zs,ze]
 unfold xi at h
 exact pg @Dh.eq_1 (.l 2 1 (λ(q:((List Bool) × Int))=>⟨[.k 2,.p 6,.k 1,.p 10,.k 12,.p 2,.s (aa q.2),.p 53],[.o 0,.o 1,.o 2,.c 3 ((q.1.map ba))]⟩) (λ(b18:(List Bool))=>⟨[.k 9,.p 10],[.o 2,.c 3 ((b18.map ba))]⟩) [ok 0,ok 1,ok 2,ok 3] (.b (.e 1 (λ(j15:(List Bool))=>⟨[.k 2,.p 32],[.o 0,.o 1,.o 2,.c 3 ((j15.map ba))]⟩) (.b (.t [ok 0,ok 1,ok 2,ok 3]) (.a [[],[],[],[],[],[],[],[],[],[],[],[],[]] (.b .o (.t [ok 0,ok 1,ok 2,ok 3])))) (.t [ok 0,ok 1,ok 2,ok 3])) (.t [ok 2,ok 3])) .o)⟩
instance {t0 t1 r}:Con (Kc t0 t1=some r) (Den Tryz.prog 48 [Kj t0,gb t1] (aa r)):=⟨λh=>by
 refine dk 78 k48 ?_
 simp only[k48,Kf.of,zs,ze]
 unfold Kc at h
 exact pg @Nc.eq_1 (.l 2 1 (λ(q:((List Bool) × Int))=>⟨[.p 1,.k 4,.p 7,.k 19,.p 2,.s (aa q.2),.p 46],[.c 0 ((q.1.map ba)),.o 1]⟩) (λ(b19:(List Bool))=>⟨[.p 1,.k 4,.p 1],[.c 0 ((b19.map ba))]⟩) [ok 0,ok 1] (.b (.j 1 (λ(j16:(List Bool))=>⟨[.p 34],[.c 0 ((j16.map ba)),.o 1]⟩) (.b (.t [ok 0,ok 1]) (.b (.t [ok 0,ok 1]) (.t [ok 0,ok 1]))) (.t [ok 0,ok 1])) (.t [ok 0])) .o)⟩
instance {t0 r}:Con (Ao t0=some r) (Den Tryz.prog 91 [ab t0] (je r)):=⟨λh=>by
 refine dk 67 k91 ?_
 simp only[k91,Kf.of,zs,ze]
 unfold Ao at h
 exact pg @Hh.eq_1 (.b .o (.l 1 0 (λ(s2:Int)=>⟨[.k 1,.p 7,.k 6,.p 2,.s (aa s2),.p 51],[.o 0,.o 1]⟩) (λ(_:Unit)=>⟨[.k 2,.p 6],[.o 1]⟩) [ok 0,ok 1] (.b (.z 4 (.j 2 (λ(q:(Int × Int))=>⟨[.k 1,.p 2,.k 2,.p 1,.k 8,.p 3],[.o 0,.o 1,.h 3 [.g [.s (aa q.1),.p 2,.s (aa q.2)]]]⟩) (.b (.t [ok 0,ok 1,ok 3]) (.j 1 (λ(j12:Bool)=>⟨[.k 1,.p 2,.k 2,.p 12,.k 19,.s (ba j12),.p 31],[.o 0,.o 1,.o 3]⟩) (.b (.t [ok 0,ok 1,ok 3]) (.t [ok 0,ok 1,ok 3])) (.b (.t [ok 0,ok 1,ok 2]) (.b (.b (.t [ok 0,ok 1,ok 2]) (.t [ok 0,ok 1,ok 2])) (.t [ok 0,ok 1,ok 2]))))) (.b .o (.t [ok 0,ok 1])))) (.t [ok 1])) .o))⟩
theorem nC{t0:GScope}{t1:Int}{t2:GSignature}{r:Int}(h:Vl t0 t1 t2=some r):Den Tryz.prog 182 [Ca t0,aa t1,ta t2] (aa r):=by
 refine dk 142 Zab ?_;simp only[Zab,Kf.of,zs,ze];unfold Vl at h;refine ss (rg ?_);(try simp only[zz]);refine ss (rg ?_);obtain⟨x1,f2,f3,h⟩:=bI h;(try simp only[zz,f2,f3]);refine ss (rg ?_);(try simp only[zz]);refine ss (ss (rg ?_));obtain⟨x2,a4,h⟩:=bs h;obtain⟨f5,f6,f7⟩:=dO (e:=Za) a4;(try simp only[zz]at f7);(try simp only[zz,f5,f6,f7]);obtain⟨y8,h9,h⟩:=bs h;refine lm h9 (λq=>⟨.dead::aa t1::.dead::.ref 0 0 0 0::.dead::.ref 1 0 0 0::.dead::.ref 2 0 0 0::aa q.1::ds 11 (me x2::aa (x2.length:Int)::aa q.2::ds 122 []),[.live 5 0 [Ca t0],.live 6 0 [ta t2],.live 9 0 [Za x1]]⟩) (λb11=>⟨.dead::aa t1::.dead::.ref 0 0 0 0::.dead::.ref 1 0 0 0::.dead::.ref 2 0 0 0::aa b11::ds 136 [],[.live 5 0 [Ca t0],.live 6 0 [ta t2],.live 9 0 [Za x1]]⟩) (tz [ok 0,ok 1,ok 2]) ?_ ?_
 .rintro⟨s3,s4⟩ z10 h11 h12;simp only[Xj]at h11;refine ss (rg ?_);(try simp only[zz]);refine ss (cd rfl ?_);(try simp only[zz]);refine gi h11 (λc5 h11=>?_) λc5 h11=>?_
  .refine sk ?_;(try simp only[zz,c5]);refine jm h11 (λj8=>⟨.dead::aa t1::.dead::.ref 0 0 0 0::.dead::.ref 1 0 0 0::.dead::.ref 2 0 0 0::aa j8::ds 11 (me x2::aa (x2.length:Int)::aa s4::ds 122 []),[.live 5 0 [Ca t0],.live 6 0 [ta t2],.live 9 0 [Za x1]]⟩) (λz14 h13=>?_) λj8 h13 h11=>?_
   .refine bk (ss (rg ?_));obtain⟨x6,f16,f17,h13⟩:=bI h13;(try simp only[zz,f16,f17]);refine ss (rg ?_);(try simp only[zz]);refine cd rfl ?_;(try simp only[zz]);refine gi h13 (λc7 h13=>?_) λc7 h13=>?_
    .have e18:=eT c7;refine rg ?_;(try simp only[zz]);cases h13;exact tz [ok 0,ok 1,ok 2]
    have e19:=eF c7;refine sk ?_;(try simp only[zz,c7,e19]);cases h13;exact tz [ok 0,ok 1,ok 2]
   refine rg ?_;(try simp only[zz]);cases h11;exact tz [ok 0,ok 1,ok 2]
  refine xt ?_;(try simp only[zz,c5]);cases h11;exact tz [ok 0,ok 1,ok 2]
 rintro b11 rfl;dsimp only at h;(try simp only[zz]);refine ss (bk (ss (rg ?_)));obtain⟨x12,a20,h⟩:=bs h;simp only[zz];refine cq (qq a20) ?_ (by simp only[zg]);(try simp only[zz]);refine cd rfl ?_;(try simp only[zz]);refine gi h (λc13 h=>?_) λc13 h=>?_
 .refine ss (rg ?_);(try simp only[zz]);cases h;exact rt ez
 refine ss (rg ?_);obtain⟨x14,a21,h⟩:=bs h;obtain⟨f22,f23,f24⟩:=dO (e:=Za) a21;(try simp only[zz]at f24);obtain⟨x15,a25,h⟩:=bs h;simp only[zz,f22,f23,f24];refine cv (fm (q1:=[Av x1]) (iD AA) (λx900 _ hb=>Js hb) a25) ?_ rfl (by simp only[zg,c13,f22,f23,f24]);(try simp only[zz,f22,f23,f24]);refine cd rfl ?_;(try simp only[zz,f22,f23,f24]);refine gi h (λc16 h=>?_) λc16 h=>?_
 .refine ss (rg ?_);(try simp only[zz]);cases h;exact rt ez
 refine jm h (λj18=>⟨.dead::aa t1::.dead::.ref 0 0 0 0::.dead::.ref 1 0 0 0::.dead::.ref 2 0 0 0::aa b11::ds 37 (ba j18::ds 98 []),[.live 5 0 [Ca t0],.live 6 0 [ta t2],.live 9 0 [Za x1]]⟩) (λz27 h26=>?_) λj18 h26 h=>?_
 .refine rg ?_;(try simp only[zz]);refine gi h26 (λc17 h26=>?_) λc17 h26=>?_
  ·(try simp only[zz,c17]);cases h26;exact tz [ok 0,ok 1,ok 2]
  (try simp only[zz,c17]);cases h26;exact tz [ok 0,ok 1,ok 2]
 refine cd rfl ?_;(try simp only[zz]);refine gi h (λc19 h=>?_) λc19 h=>?_
 .refine ss (rg ?_);(try simp only[zz]);cases h;exact rt ez
 refine jm h (λj24=>⟨ds 3 (.ref 0 0 0 0::.dead::.ref 1 0 0 0::.dead::.ref 2 0 0 0::aa b11::ds 49 (ba j24::ds 86 [])),[.live 5 0 [Ca t0],.live 6 0 [ta t2],.live 9 0 [Za x1]]⟩) (λz29 h28=>?_) λj24 h28 h=>?_
 .refine dy Rn ?_;(try simp only[zz,zy]);refine gi h28 (λc20 h28=>?_) λc20 h28=>?_
  .have e30:=nT c20;(try simp only[zz,c20,e30,zy]);refine gi h28 (λc21 h28=>?_) λc21 h28=>?_
   ·(try simp only[zz,c20,e30,c21,zy]);refine gi h28 (λc22 h28=>?_) λc22 h28=>?_
    .obtain⟨x23,f33,f34,h28⟩:=bI h28;(try simp only[zz,c20,e30,c21,c22,f33,f34,zy]);cases h28;exact tz [ok 0,ok 1,ok 2]
    (try simp only[zz,c20,e30,c21,c22,zy]);cases h28;exact tz [ok 0,ok 1,ok 2]
   (try simp only[zz,c20,e30,c21,zy]);cases h28;exact tz [ok 0,ok 1,ok 2]
  have e31:=nD c20;(try simp only[zz,c20,e31,zy]);cases h28;exact tz [ok 0,ok 1,ok 2]
 refine cd rfl ?_;(try simp only[zz]);refine gi h (λc25 h=>?_) λc25 h=>?_
 .refine ss (rg ?_);(try simp only[zz]);cases h;exact rt ez
 refine jm h (λj27=>⟨ds 3 (.ref 0 0 0 0::.dead::.ref 1 0 0 0::.dead::.ref 2 0 0 0::aa b11::ds 76 (ba j27::ds 59 [])),[.live 5 0 [Ca t0],.live 6 0 [ta t2],.live 9 0 [Za x1]]⟩) (λz36 h35=>?_) λj27 h35 h=>?_
 .refine rg ?_;(try simp only[zz]);refine gi h35 (λc26 h35=>?_) λc26 h35=>?_
  ·(try simp only[zz,c26]);cases h35;exact tz [ok 0,ok 1,ok 2]
  (try simp only[zz,c26]);cases h35;exact tz [ok 0,ok 1,ok 2]
 refine cd rfl ?_;(try simp only[zz]);refine gi h (λc28 h=>?_) λc28 h=>?_
 .refine ss (rg ?_);(try simp only[zz]);cases h;exact rt ez
 refine jm h (λj31=>⟨ds 3 (.ref 0 0 0 0::.dead::.ref 1 0 0 0::.dead::.ref 2 0 0 0::aa b11::ds 85 (ba j31::ds 50 [])),[.live 5 0 [Ca t0],.live 6 0 [ta t2],.live 9 0 [Za x1]]⟩) (λz38 h37=>?_) λj31 h37 h=>?_
 .refine rg ?_;(try simp only[zz]);refine gi h37 (λc29 h37=>?_) λc29 h37=>?_
  ·(try simp only[zz,c29]);refine gi h37 (λc30 h37=>?_) λc30 h37=>?_
   ·(try simp only[zz,c29,c30]);cases h37;exact tz [ok 0,ok 1,ok 2]
   (try simp only[zz,c29,c30]);cases h37;exact tz [ok 0,ok 1,ok 2]
  (try simp only[zz,c29]);cases h37;exact tz [ok 0,ok 1,ok 2]
 refine cd rfl ?_;(try simp only[zz]);refine gi h (λc32 h=>?_) λc32 h=>?_
 .refine ss (rg ?_);(try simp only[zz]);cases h;exact rt ez
 refine ss (rg ?_);(try simp only[zz]);refine cd rfl ?_;(try simp only[zz]);refine gi h (λc33 h=>?_) λc33 h=>?_
 .refine ss (rg ?_);(try simp only[zz]);cases h;exact rt ez
 refine ss (rg ?_);obtain⟨x34,a39,h⟩:=bs h;simp only[zz];refine cq (Mt a39) ?_ (by simp only[zg,c13,c16,c19,c25,c28,c32]);(try simp only[zz]);refine cd rfl ?_;(try simp only[zz]);refine gi h (λc35 h=>?_) λc35 h=>?_
 .refine ss (rg ?_);(try simp only[zz]);cases h;exact rt ez
 refine sk ?_;(try simp only[zz,c35]);obtain⟨z41,h40,h⟩:=bs h;refine tj (λ(q:Unit)=>⟨ds 3 (.ref 0 0 0 0::.dead::.ref 1 0 0 0::.dead::.ref 2 0 0 0::ds 137 []),[.live 5 0 [Ca t0],.live 6 0 [ta t2],.live 9 0 [Za x1]]⟩) z41 ?_ ?_
 .refine ss (rg ?_);(try simp only[zz]);refine cd rfl ?_;(try simp only[zz]);refine gi h40 (λc36 h40=>?_) λc36 h40=>?_
  .refine ss (rg ?_);obtain⟨x37,a42,h40⟩:=bs h40;simp only[zz];refine cq (Gq a42) ?_ (by simp only[zg,c13,c16,c19,c25,c28,c32,c35]);(try simp only[zz]);refine ss (rg ?_);(try simp only[zz]);refine cd rfl ?_;(try simp only[zz]);refine gi h40 (λc38 h40=>?_) λc38 h40=>?_
   .have e43:=nT c38;refine ss (rg ?_);(try simp only[zz]);cases h40;cases h;exact rt ez
   have e44:=nD c38;refine sk ?_;(try simp only[zz,c38,e44]);cases h40;exact tz [ok 0,ok 1,ok 2]
  refine sk ?_;(try simp only[zz,c36]);cases h40;exact tz [ok 0,ok 1,ok 2]
 rintro⟨⟩ rfl;dsimp only at h;refine ss (dy Rn ?_);obtain⟨x39,f46,f47,h⟩:=bI h;obtain⟨x40,a48,h⟩:=bs h;simp only[zz,f46,f47,zy];refine cq (Gq a48) ?_ (by simp only[zg,c13,c16,c19,c25,c28,c32,c35]);(try simp only[zz,f46,f47,zy]);cases h;exact rt ez
instance {t0 t1 t2 r}:Con (Vl t0 t1 t2=some r) (Den Tryz.prog 182 [Ca t0,aa t1,ta t2] (aa r)):=⟨nC⟩
instance {t0 t1 t2 t3 r}:Con (qe t0 t1 t2 t3=some r) (vP Tryz.prog 84 [Ca t0] [aa t2,Ar t3] 6 [Em t1] [Em r.2] (.tup [ka r.1.1,Sg r.1.2])):=⟨λh=>by
 refine vP.of 101 k84 ?_
 simp only[k84,Kf.of,zs,ze]
 unfold qe at h
 exact pg @re.eq_1 (.l 3 2 (λ(q:((List GValue) × (List Int) × Int))=>⟨[.k 1,.p 7,.k 1,.p 2,.k 24,.p 2,.s (aa q.2.2),.p 67],[.O 0,.c 3 ((q.1.map ma)),.o 1,.o 2,.c 4 ((q.2.1.map aa))]⟩) (λ(q:((List GValue) × (List Int)))=>⟨[.k 9,.p 2],[.O 0,.c 3 ((q.1.map ma)),.o 2,.c 4 ((q.2.map aa))]⟩) [ok 0,ok 3,ok 1,ok 2,ok 4] (.b (.e 2 (λ(q:((List GValue) × (List Int)))=>⟨[.k 1,.p 37],[.O 0,.c 1 ((q.1.map ma)),.o 2,.o 3,.c 4 ((q.2.map aa))]⟩) (.b (.t [ok 0,ok 1,ok 2,ok 3,ok 4]) (.b (.t [ok 0]) (.b (.t [ok 0]) (.b (.t [ok 0]) (.a [[],[],[],[],[],[],[],[],[],[],[],[],[],[],[]] (.b (.t [ok 0]) (.t [ok 0,ok 1,ok 2,ok 3,ok 4]))))))) (.t [ok 0,ok 1,ok 2,ok 3,ok 4])) (.t [ok 0,ok 1,ok 3,ok 4])) (.t [ok 0]))⟩
instance {t0 c10 r}:Con (Va t0 (λx900=>vd x900 c10)=some r) (Den Tryz.prog 179 [Ko t0,.fn 180 [] [Bq c10]] (ba r)):=⟨λh=>Al (q1:=[Bq c10]) (iD AA) (λx900 _ hb=>Ir hb) h⟩
theorem MA{t0 t1 r} (h:Yj t0 t1=some r):Den Tryz.prog 133 [ab t0,aa t1] (.tup [aa r.1,aa r.2]):=by
 refine dk 161 qab ?_
 simp only[qab,Kf.of,zs,ze]
 unfold Yj at h
 exact pg (And.intro @Vi.eq_1 (And.intro @Wi.eq_1 (And.intro @Xi.eq_1 @Zi.eq_1))) (.z 3 (.j 1 (λ(j8:Bool)=>⟨[.k 1,.p 3,.k 2,.p 2,.s (ba j8),.p 10],[.o 0,.o 1]⟩) (.b (.b (.t [ok 0,ok 1]) (.t [ok 0,ok 1])) (.t [ok 0,ok 1])) (.b .o (.b .o (.j 1 (λ(j16:Bool)=>⟨[.k 1,.p 6,.k 45,.s (ba j16),.p 110],[.o 0,.o 1]⟩) (.b (.b (.b (.t [ok 0,ok 1]) (.t [ok 0,ok 1])) (.t [ok 0,ok 1])) (.t [ok 0,ok 1])) (.b .o (.b .o (.b .o (.l 1 0 (λ(s20:Int)=>⟨[.k 1,.p 51,.k 35,.p 2,.s (aa s20),.p 73],[.o 0,.o 1]⟩) (λ(_:Unit)=>⟨[.k 1,.p 51],[.o 0,.o 1]⟩) [ok 0,ok 1] (.b (.b .o (.t [ok 0,ok 1])) (.t [ok 0,ok 1])) (.l 1 0 (λ(s27:Int)=>⟨[.k 1,.p 106,.k 1,.p 2,.s (aa s27),.p 52],[.o 0,.o 1]⟩) (λ(_:Unit)=>⟨[.k 1,.p 106],[.o 0,.o 1]⟩) [ok 0,ok 1] (.b (.b .o (.t [ok 0,ok 1])) (.t [ok 0,ok 1])) (.l 1 0 (λ(s35:Int)=>⟨[.k 6,.p 124,.k 5,.p 1,.s (aa s35),.p 26],[.o 1,.o 2]⟩) (λ(_:Unit)=>⟨[.k 6,.p 9],[.o 1]⟩) [ok 1,ok 2] (.b (.b .o (.t [ok 0,ok 1])) (.t [ok 0])) (.l 1 0 (λ(s40:Int)=>⟨[.k 6,.p 143,.k 2,.p 1,.s (aa s40),.p 10],[.o 0]⟩) (λ(_:Unit)=>⟨[],[]⟩) [ok 0] (.b (.b .o (.t [ok 0])) (.t [])) .o))))))))))))
instance {t0 t1 r}:Con (Yj t0 t1=some r) (Den Tryz.prog 133 [ab t0,aa t1] (.tup [aa r.1,aa r.2])):=⟨MA⟩
instance {t0 t1 t2 t3 r}:Con (wi t0 t1 t2 t3=some r) (Den Tryz.prog 42 [ab t0,aa t1,wo t2,xp t3] (.tup [yv r.1,Em r.2.1,Sg r.2.2])):=⟨λh=>by
 refine dk 119 k42 ?_
 simp only[k42,Kf.of,zs,ze]
 unfold wi at h
 exact pg (And.intro @Ch.eq_1 @Uk.eq_1) (.l 2 1 (λ(q:((List GType) × Int))=>⟨[.k 3,.p 19,.k 11,.p 2,.s (aa q.2),.p 87],[.o 0,.o 1,.o 2,.o 3,.o 4,.h 5 [.g [.p 4,.s (.own 6 0),.p 1]],.n 2 ((q.1.map ra)),.o 6]⟩) (λ(b8:(List GType))=>⟨[.k 3,.p 19],[.o 0,.o 1,.o 2,.o 3,.o 4,.h 5 [.g [.p 4,.s (.own 6 0),.p 1]],.n 2 ((b8.map ra)),.o 6]⟩) [ok 0,ok 1,ok 2,ok 3,ok 4,ok 5,on 2,ok 6] (.b (.t [ok 0,ok 1,ok 2,ok 3,ok 4,ok 5,ov 6 1,ok 7]) (.t [ok 0,ok 1,ok 2,ok 3,ok 4,ok 5,ok 6,ok 7])) (.l 3 2 (λ(q:((List (List GValue)) × (List GMemberResult) × Int))=>⟨[.k 3,.p 44,.k 1,.p 2,.s (aa q.2.2),.p 72],[.o 0,.o 1,.o 2,.o 3,.o 4,.h 5 [.g [.p 3,.s (.own 6 0),.p 2]],.n 1 ((q.1.map gb)),.o 6,.h 7 [.g [.p 2,.s (.own 9 0)]],.n 2 ((q.2.1.map Tc))]⟩) (λ(q:((List (List GValue)) × (List GMemberResult)))=>⟨[.k 3,.p 1,.k 4,.p 39],[.o 2,.o 3,.o 4,.h 5 [.g [.p 3,.s (.own 4 0),.p 2]],.n 1 ((q.1.map gb)),.o 6,.h 7 [.g [.p 2,.s (.own 7 0)]],.n 2 ((q.2.map Tc))]⟩) [ok 0,ok 1,ok 2,ok 3,ok 4,ok 5,on 1,ok 6,ok 7,on 2] (.b (.z 4 (.f ⟨[.k 3,.p 120],[.o 0,.o 1,.o 2,.o 3,.o 4,.o 5,.o 6,.o 7,.o 8,.o 9,.h 10 [.g [.p 2,.s (.sl 3 (([] : List GValue).map ma)),.s (.sl 1 (([] : List (List GValue)).map gb)),.s (.sl 2 (([] : List GType).map ra)),.p 1]]]⟩ [ok 0,ok 1,ok 2,ok 3,ok 4,ok 5,ok 6,ok 7,ok 8,ok 9,ok 10] (.g [[],[0],[0,1],[0,1,2],[0,1,2,3],[0,1,2,3,4],[0,1,2,3,4,5],[0,1,2,3,4,5,6],[0,1,2,3,4,5,6,7],[0,1,2,3,4,5,6,7,8],[0,1,2,3,4,5,6,7,8,9],[0,1,2,3,4,5,6,7,8,9,10],[0,1,2,3,4,5,6,7,8,9,10,11],[0,1,2,3,4,5,6,7,8,9,10,11,12],[0,1,2,3,4,5,6,7,8,9,10,11,12,13]] [none,none,none,none,none,none,none,none,none,some 10,none,none,none,none,none] (.b (.a [[],[],[],[2],[2]] .o) (.t [ok 0,ok 1,ok 2,ok 3,ok 4,ok 5,ov 6 1,ok 7,ok 8,ov 9 1]))))) (.t [ok 2,ok 3,ok 4,ok 5,ok 6,ok 7,ok 8,ok 9])) (.z 1 (.f ⟨[.k 3,.p 120],[.o 0,.o 1,.o 2,.h 3 [.g [.p 2,.s (.sl 3 (([] : List GValue).map ma)),.p 3]],.o 6,.o 7]⟩ [ok 0,ok 1,ok 2,ok 3,ok 6,ok 7] (.g [[],[0],[0,1],[0,1,2],[0,1,2,3],[0,1,2,3,4],[0,1,2,3,4,5],[0,1,2,3,4,5,6],[0,1,2,3,4,5,6,7],[0,1,2,3,4,5,6,7,8],[0,1,2,3,4,5,6,7,8,9],[0,1,2,3,4,5,6,7,8,9,10],[0,1,2,3,4,5,6,7,8,9,10,11],[0,1,2,3,4,5,6,7,8,9,10,11,12]] [none,none,none,none,none,none,none,none,some 3,none,none,none,none,none] (.b (.a [[],[],[],[2],[2]] .o) (.a [[],[],[],[1],[]] .o)))))))⟩
instance {t0 r}:Con (xo t0=some r) (Den Tryz.prog 92 [ab t0] (je r)):=⟨λh=>by
 refine dk 30 k92 ?_
 simp only[k92,Kf.of,zs,ze]
 unfold xo at h
 exact pg @Fh.eq_1 (.b .o (.l 1 0 (λ(s2:Int)=>⟨[.k 1,.p 5,.k 7,.p 1,.s (aa s2),.p 16],[.o 0,.o 1]⟩) (λ(_:Unit)=>⟨[.k 2,.p 4],[.o 1]⟩) [ok 0,ok 1] (.b (.b .o (.t [ok 0,ok 1])) (.t [ok 1])) .o))⟩
instance {t0 r}:Con (Wk t0=some r) (Den Tryz.prog 55 [ab t0] (je r)):=⟨λh=>by
 refine dk 18 k55 ?_
 simp only[k55,Kf.of,zs,ze]
 unfold Wk at h
 exact pg trivial .o⟩
instance {t0 t1 t2 t3 r}:Con (Ug t0 t1 t2 t3=some r) (Den Tryz.prog 25 [ab t0,aa t1,aa t2,aa t3] (.tup [qb r.1,aa r.2])):=⟨λh=>by
 refine dk 103 k25 ?_
 simp only[k25,Kf.of,zs,ze]
 unfold Ug at h
 exact pg (And.intro @Pj.eq_1 @Qj.eq_1) (.b .o (.z 1 (.j 1 (λ(j7:Bool)=>⟨[.k 1,.p 7,.k 40,.s (ba j7),.p 58],[.o 0]⟩) (.b (.b (.b (.t [ok 0]) (.t [ok 0])) (.t [ok 0])) (.t [ok 0])) (.b .o (.z 1 (.j 1 (λ(j10:Bool)=>⟨[.k 1,.p 47,.k 6,.s (ba j10),.p 52],[.o 0]⟩) (.b (.t [ok 0]) (.t [ok 0])) (.b .o (.l 1 0 (λ(s15:Int)=>⟨[.k 4,.p 50,.k 13,.p 2,.s (aa s15),.p 37],[.o 0,.o 1,.o 2]⟩) (λ(_:Unit)=>⟨[.k 4,.p 9],[.o 0,.o 1]⟩) [ok 0,ok 1,ok 2] (.b (.b .o (.t [ok 0,ok 1,ok 2])) (.t [ok 0,ok 1])) (.l 2 1 (λ(q:((List (List Int)) × Int))=>⟨[.k 4,.p 7,.k 1,.p 4,.s (.own 1 0),.p 61,.k 1,.p 2,.s (aa q.2),.p 25],[.o 0,.n 1 ((q.1.map ka))]⟩) (λ(b33:(List (List Int)))=>⟨[.k 16,.s (.own 0 0),.p 61],[.n 1 ((b33.map ka))]⟩) [ok 0,on 1] (.b (.z 3 (.j 1 (λ(j29:(List Int))=>⟨[.k 4,.p 13,.k 2,.s (ka j29),.p 62],[.o 0,.o 1]⟩) (.b (.t [ok 0,ok 1]) (.t [ok 0,ok 1])) (.t [ok 0,ov 1 1]))) (.t [ok 1])) .o)))))))))⟩
instance {t0 t1 t2 t3 t4 r}:Con (Lb t0 t1 t2 t3 t4=some r) (Den Tryz.prog 37 [ab t0,aa t1,wo t2,ba t3,aa t4] (Sg r)):=⟨λh=>by
 refine dk 58 k37 ?_
 simp only[k37,Kf.of,zs,ze]
 unfold Lb at h
 exact pg trivial (.b .o (.z 1 (.j 1 (λ(j8:Bool)=>⟨[.k 1,.p 1,.k 3,.p 6,.k 36,.s (ba j8),.p 15],[.o 0,.o 1,.o 2]⟩) (.b (.b (.b (.b (.t [ok 0,ok 1,ok 2]) (.t [ok 0,ok 1,ok 2])) (.t [ok 0,ok 1,ok 2])) (.t [ok 0,ok 1,ok 2])) (.t [ok 0,ok 1,ok 2])) .o)))⟩
instance {t0 c10 r}:Con (ua t0 (λx900=>fb x900 c10)=some r) (Den Tryz.prog 34 [Gb t0,.fn 35 [] [mg c10]] (ba r)):=⟨λh=>ag (q1:=[mg c10]) (iD AA) (λx900 _ hb=>Vn hb) h⟩
theorem Pw{t0 t1 t2 t3 r} (h:Na t0 t1 t2 t3=some r):Den Tryz.prog 12 [ab t0,aa t1,aa t2,aa t3] (.tup [Gb r.1,aa r.2]):=by
 refine dk 103 k12 ?_
 simp only[k12,Kf.of,zs,ze]
 unfold Na at h
 exact pg (And.intro @jc.eq_1 (And.intro @Wc.eq_1 (And.intro @Ce.eq_1 (And.intro @Vc.eq_1 (And.intro @Xc.eq_1 (And.intro @k30.eq_1 @k29.eq_1)))))) (.b .o (.l 3 1 (λ(q:((List GCoverageHole) × (List Int) × Bool))=>⟨[.k 3,.p 5,.k 2,.p 1,.k 1,.p 4,.s (.own 2 0),.p 1,.s (ba q.2.2),.p 6],[.o 0,.o 1,.n 4 ((q.1.map Da)),.c 2 ((q.2.1.map aa))]⟩) (λ(b52:(List GCoverageHole))=>⟨[.k 16,.s (.own 0 0)],[.n 4 ((b52.map Da))]⟩) [ok 0,ok 1,on 4,ok 2] (.b (.j 1 (λ(j34:(List GCoverageHole))=>⟨[.k 3,.p 15],[.o 0,.o 1,.c 2 ((j34.map Da)),.o 3]⟩) (.i k30 1 37 (λ(i21:(List GValue))=>⟨[.s (.own 4 0)],[.O 0,.O 1,.O 2,.O 3,.n 3 ((i21.map ma))]⟩) (.l 2 1 (λ(q:((List GValue) × Int))=>⟨[.k 1,.p 2,.k 4,.s (.own 4 0),.p 2,.k 1,.p 2,.s (aa q.2),.p 26],[.O 0,.O 1,.O 2,.O 3,.n 3 ((q.1.map ma))]⟩) (λ(b20:(List GValue))=>⟨[.k 7,.s (.own 4 0),.p 2],[.O 0,.O 1,.O 2,.O 3,.n 3 ((b20.map ma))]⟩) [ok 0,ok 1,ok 2,ok 3,on 3] (.b (.t [ok 0,ok 1,ok 2,ok 3,ov 4 1]) (.t [ok 0,ok 1,ok 2,ok 3,ok 4])) (.t [ok 0,ok 1,ok 2,ok 3,ok 4])) (.z 1 (.d [.o 0,.o 1,.o 2,.o 3] [ok 0,ok 1,ok 2,ok 3] (.b (.t [ok 0,ok 1,ok 2,ok 3]) (.j 2 (λ(q:(Int × Int))=>⟨[.k 3,.p 15,.k 1,.p 1,.k 1,.p 31],[.o 0,.o 1,.o 2,.o 3,.h 4 [.g [.p 1,.s (aa q.1),.s (aa q.2),.p 1]]]⟩) (.b (.a [[],[],[],[],[],[],[],[],[],[6,7]] (.t [ok 0,ok 1,ok 2,ok 3,ok 4])) (.t [ok 0,ok 1,ok 2,ok 3,ok 4])) (.b (.t [ok 0,ok 1,ov 2 1,ok 3]) (.t [ok 0,ok 1,ok 2,ok 3]))))))) (.i k29 2 30 (λ(q:((List Int) × Bool))=>⟨[.s (ba q.2)],[.O 0,.O 1,.O 2,.C 3 ((q.1.map aa))]⟩) (.l 2 1 (λ(q:((List Int) × Int))=>⟨[.p 4,.k 1,.s (aa q.2)],[.O 0,.O 1,.O 2,.C 3 ((q.1.map aa))]⟩) (λ(b46:(List Int))=>⟨[],[.O 0,.O 1,.O 2,.C 3 ((b46.map aa))]⟩) [ok 0,ok 1,ok 2,ok 3] (.b (.b (.t [ok 0,ok 1,ok 2,ok 3]) (.t [ok 0,ok 1,ok 2,ok 3])) (.t [ok 0,ok 1,ok 2,ok 3])) (.t [ok 0,ok 1,ok 2,ok 3])) (.t [ok 0,ok 1,ok 2,ok 3]))) (.t [ok 2])) .o))
instance {t0 t1 t2 t3 r}:Con (Na t0 t1 t2 t3=some r) (Den Tryz.prog 12 [ab t0,aa t1,aa t2,aa t3] (.tup [Gb r.1,aa r.2])):=⟨Pw⟩
instance {t0 t1 t2 t3 r}:Con (ud t0 t1 t2 t3=some r) (Den Tryz.prog 13 [ab t0,aa t1,wo t2,aa t3] (.tup [aa r.1,Sg r.2])):=⟨λh=>by
 refine dk 107 k13 ?_
 simp only[k13,Kf.of,zs,ze]
 unfold ud at h
 exact pg (And.intro @Tg.eq_1 (And.intro @Sk.eq_1 (And.intro @Ip.eq_1 (And.intro @Mp.eq_1 (And.intro @Tk.eq_1 (And.intro @Gp.eq_1 (And.intro @Kp.eq_1 (And.intro @Fp.eq_1 (And.intro @Jp.eq_1 (And.intro @Lp.eq_1 (And.intro @Ti.eq_1 (And.intro @k41.eq_1 (And.intro @k40.eq_1 @k38.eq_1))))))))))))) (.b .o (.i k38 12 50 (λ(q:(ByteArray × Int × (List GField) × (List GField) × (List GRule) × ByteArray × Int × (List GField) × (List GField) × (List GRule) × (List Bool) × (List Bool)))=>⟨[.s (.ref 5 0 0 0)],[.O 0,.O 1,.O 2,.O 3,.O 4,.n 12 [.agg [.v (.string q.1),aa q.2.1,Bb q.2.2.1,Bb q.2.2.2.1,me q.2.2.2.2.1,.v (.string q.2.2.2.2.2.1),aa q.2.2.2.2.2.2.1,Bb q.2.2.2.2.2.2.2.1,Bb q.2.2.2.2.2.2.2.2.1,me q.2.2.2.2.2.2.2.2.2.1,.own 6 0,.own 7 0]],.n 1 ((q.2.2.2.2.2.2.2.2.2.2.1.map ba)),.n 1 ((q.2.2.2.2.2.2.2.2.2.2.2.map ba))]⟩) (.z 3 (.j 6 (λ(q:(ByteArray × Int × (List GField) × (List GField) × (List GRule) × (List Bool)))=>⟨[.k 5,.p 1],[.O 0,.O 1,.O 2,.O 3,.O 4,.h 6 [.g [.p 5,.s (.v (.string q.1)),.s (aa q.2.1),.s (Bb q.2.2.1),.s (Bb q.2.2.2.1),.s (me q.2.2.2.2.1),.p 1,.s (.own 7 0)]],.o 7,.n 1 ((q.2.2.2.2.2.map ba))]⟩) (.b (.t [ok 0,ok 1,ok 2,ok 3,ok 4,ok 6,ok 7,ok 8]) (.t [ok 0,ok 1,ok 2,ok 3,ok 4,ok 6,ok 7,on 1])) (.t [ok 0,ok 1,ok 2,ok 3,ok 4,ok 5,ok 6,ok 7]))) (.l 3 2 (λ(q:((List Bool) × (List Bool) × Int))=>⟨[.k 1,.p 1,.k 1,.p 5,.k 1,.p 1,.k 1,.p 15,.k 21,.p 2,.s (aa q.2.2),.p 61],[.o 0,.o 1,.o 2,.o 4,.o 5,.c 6 ((q.1.map ba)),.c 7 ((q.2.1.map ba))]⟩) (λ(q:((List Bool) × (List Bool)))=>⟨[.k 1,.p 1,.k 1,.p 5,.k 1,.p 1,.k 1,.p 15],[.o 0,.o 1,.o 2,.o 4,.o 5,.c 6 ((q.1.map ba)),.c 7 ((q.2.map ba))]⟩) [ok 0,ok 1,ok 2,ok 4,ok 5,ok 6,ok 7] (.b (.l 3 2 (λ(q:((List Bool) × (List Bool) × Int))=>⟨[.k 1,.p 13,.k 3,.p 33,.k 14,.p 2,.s (aa q.2.2),.p 44],[.o 0,.o 1,.o 2,.o 3,.o 4,.c 5 ((q.1.map ba)),.c 6 ((q.2.1.map ba))]⟩) (λ(q:((List Bool) × (List Bool)))=>⟨[.k 1,.p 13,.k 3,.p 33],[.o 0,.o 1,.o 2,.o 3,.o 4,.c 5 ((q.1.map ba)),.c 6 ((q.2.map ba))]⟩) [ok 0,ok 1,ok 2,ok 3,ok 4,ok 5,ok 6] (.b (.i k40 2 45 (λ(q:((List Bool) × (List Bool)))=>⟨[.s (.tup [])],[.O 0,.O 1,.O 2,.O 3,.O 4,.C 5 ((q.1.map ba)),.C 6 ((q.2.map ba))]⟩) (.l 2 1 (λ(q:((List Bool) × Int))=>⟨[.p 8,.k 11,.p 2,.s (aa q.2),.p 25],[.O 0,.O 1,.O 2,.O 3,.O 4,.C 5 ((q.1.map ba)),.O 6]⟩) (λ(b50:(List Bool))=>⟨[.p 8],[.O 0,.O 1,.O 2,.O 3,.O 4,.C 5 ((b50.map ba)),.O 6]⟩) [ok 0,ok 1,ok 2,ok 3,ok 4,ok 5,ok 6] (.b (.t [ok 0,ok 1,ok 2,ok 3,ok 4,ok 5,ok 6]) (.t [ok 0,ok 1,ok 2,ok 3,ok 4,ok 5,ok 6])) (.l 2 1 (λ(q:((List Bool) × Int))=>⟨[.p 1,.k 36,.p 2,.s (aa q.2),.p 7],[.O 0,.O 1,.O 2,.O 3,.O 4,.O 5,.C 6 ((q.1.map ba))]⟩) (λ(b71:(List Bool))=>⟨[],[.O 0,.O 1,.O 2,.O 3,.O 4,.O 5,.C 6 ((b71.map ba))]⟩) [ok 0,ok 1,ok 2,ok 3,ok 4,ok 5,ok 6] (.b (.i k41 1 28 (λ(i68:(List Bool))=>⟨[.s (.tup [])],[.O 0,.O 1,.O 2,.O 3,.O 4,.O 5,.C 6 ((i68.map ba))]⟩) (.l 2 1 (λ(q:((List Bool) × Int))=>⟨[.p 1,.k 16,.p 2,.s (aa q.2),.p 10],[.O 0,.O 1,.O 2,.O 3,.O 4,.O 5,.C 6 ((q.1.map ba))]⟩) (λ(b67:(List Bool))=>⟨[],[.O 0,.O 1,.O 2,.O 3,.O 4,.O 5,.C 6 ((b67.map ba))]⟩) [ok 0,ok 1,ok 2,ok 3,ok 4,ok 5,ok 6] (.b (.t [ok 0,ok 1,ok 2,ok 3,ok 4,ok 5,ok 6]) (.t [ok 0,ok 1,ok 2,ok 3,ok 4,ok 5,ok 6])) (.t [ok 0,ok 1,ok 2,ok 3,ok 4,ok 5,ok 6])) (.t [ok 0,ok 1,ok 2,ok 3,ok 4,ok 5,ok 6])) (.t [ok 0,ok 1,ok 2,ok 3,ok 4,ok 5,ok 6])) (.t [ok 0,ok 1,ok 2,ok 3,ok 4,ok 5,ok 6]))) (.t [ok 0,ok 1,ok 2,ok 3,ok 4,ok 5,ok 6])) (.t [ok 0,ok 1,ok 2,ok 3,ok 4,ok 5,ok 6])) (.l 2 1 (λ(q:((List Bool) × Int))=>⟨[.k 1,.p 16,.k 30,.p 29,.s (aa q.2),.p 34],[.o 0,.o 1,.o 2,.o 3,.o 4,.o 5,.c 6 ((q.1.map ba))]⟩) (λ(b98:(List Bool))=>⟨[.k 1,.p 16,.k 30,.p 27],[.o 0,.o 1,.o 2,.o 3,.o 4,.o 5,.c 6 ((b98.map ba))]⟩) [ok 0,ok 1,ok 2,ok 3,ok 4,ok 5,ok 6] (.b (.i k41 1 28 (λ(i95:(List Bool))=>⟨[.s (.tup [])],[.O 0,.O 1,.O 2,.O 3,.O 4,.O 5,.C 6 ((i95.map ba))]⟩) (.l 2 1 (λ(q:((List Bool) × Int))=>⟨[.p 1,.k 16,.p 2,.s (aa q.2),.p 10],[.O 0,.O 1,.O 2,.O 3,.O 4,.O 5,.C 6 ((q.1.map ba))]⟩) (λ(b94:(List Bool))=>⟨[],[.O 0,.O 1,.O 2,.O 3,.O 4,.O 5,.C 6 ((b94.map ba))]⟩) [ok 0,ok 1,ok 2,ok 3,ok 4,ok 5,ok 6] (.b (.t [ok 0,ok 1,ok 2,ok 3,ok 4,ok 5,ok 6]) (.t [ok 0,ok 1,ok 2,ok 3,ok 4,ok 5,ok 6])) (.t [ok 0,ok 1,ok 2,ok 3,ok 4,ok 5,ok 6])) (.t [ok 0,ok 1,ok 2,ok 3,ok 4,ok 5,ok 6])) (.t [ok 0,ok 1,ok 2,ok 3,ok 4,ok 5,ok 6])) (.t [ok 0,ok 1,ok 2,ok 3,ok 4,ok 5,ok 6]))) (.t [ok 0,ok 1,ok 2,ok 3,ok 4,ok 5,ok 6])) (.z 1 (.d [.o 0,.o 1,.o 2,.o 3] [ok 0,ok 1,ok 2,ok 3] .o)))))⟩
instance {t0 t1 t2 t3 r}:Con (Ee t0 t1 t2 t3=some r) (Den Tryz.prog 16 [ab t0,aa t1,aa t2,aa t3] (.tup [ka r.1,aa r.2])):=⟨λh=>by
 refine dk 80 k16 ?_
 simp only[k16,Kf.of,zs,ze]
 unfold Ee at h
 exact pg (And.intro @rh.eq_1 (And.intro @sh.eq_1 (And.intro @Mk.eq_1 (And.intro @Jo.eq_1 (And.intro @Kk.eq_1 (And.intro @Nk.eq_1 (And.intro @k49.eq_1 @k47.eq_1))))))) (.b .o (.l 3 1 (λ(q:((List Bool) × (List Int) × Bool))=>⟨[.k 10,.p 1,.k 1,.p 3,.s (ba q.2.2),.p 4],[.c 1 ((q.1.map ba)),.c 2 ((q.2.1.map aa))]⟩) (λ(b44:(List Bool))=>⟨[.k 12,.p 2],[.c 1 ((b44.map ba))]⟩) [ok 1,ok 2] (.b (.j 1 (λ(j26:(List Bool))=>⟨[.k 10,.p 5],[.c 0 ((j26.map ba)),.o 1]⟩) (.i k49 1 37 (λ(i21:(List GValue))=>⟨[.s (.own 2 0)],[.O 0,.O 1,.n 3 ((i21.map ma))]⟩) (.l 2 1 (λ(q:((List GValue) × Int))=>⟨[.k 1,.p 2,.k 4,.s (.own 2 0),.p 2,.k 1,.p 2,.s (aa q.2),.p 26],[.O 0,.O 1,.n 3 ((q.1.map ma))]⟩) (λ(b20:(List GValue))=>⟨[.k 7,.s (.own 2 0),.p 2],[.O 0,.O 1,.n 3 ((b20.map ma))]⟩) [ok 0,ok 1,on 3] (.b (.t [ok 0,ok 1,ov 2 1]) (.t [ok 0,ok 1,ok 2])) (.t [ok 0,ok 1,ok 2])) (.b (.t [ok 0,ok 1]) (.t [ok 0,ok 1]))) (.i k47 2 30 (λ(q:((List Int) × Bool))=>⟨[.s (ba q.2)],[.O 0,.C 1 ((q.1.map aa))]⟩) (.l 2 1 (λ(q:((List Int) × Int))=>⟨[.p 4,.k 1,.s (aa q.2)],[.O 0,.C 1 ((q.1.map aa))]⟩) (λ(b38:(List Int))=>⟨[],[.O 0,.C 1 ((b38.map aa))]⟩) [ok 0,ok 1] (.b (.b (.t [ok 0,ok 1]) (.t [ok 0,ok 1])) (.t [ok 0,ok 1])) (.t [ok 0,ok 1])) (.t [ok 0,ok 1]))) (.t [ok 0])) (.l 2 1 (λ(q:((List Int) × Int))=>⟨[.k 13,.p 4,.s (.own 1 0),.p 45,.k 3,.p 2,.s (aa q.2),.p 15],[.o 0,.n 1 ((q.1.map aa))]⟩) (λ(b55:(List Int))=>⟨[.k 17,.s (.own 0 0),.p 45],[.n 1 ((b55.map aa))]⟩) [ok 0,on 1] (.b (.j 1 (λ(j52:(List Int))=>⟨[.k 13,.p 56],[.o 0,.c 1 ((j52.map aa))]⟩) (.b (.t [ok 0,ov 1 1]) (.t [ok 0,ok 1])) (.t [ok 0,ok 1])) (.t [ok 1])) .o)))⟩
instance {t0 t1 t2 t3 r}:Con (Yb t0 t1 t2 t3=some r) (Den Tryz.prog 21 [ab t0,aa t1,aa t2,aa t3] (.tup [gb r.1,ba r.2.1,aa r.2.2])):=⟨λh=>by
 refine dk 102 k21 ?_
 simp only[k21,Kf.of,zs,ze]
 unfold Yb at h
 exact pg (And.intro @Gd.eq_1 (And.intro @ki.eq_1 (And.intro @Xl.eq_1 (And.intro @ji.eq_1 (And.intro @mi.eq_1 (And.intro @k49.eq_1 @k47.eq_1)))))) (.b .o (.z 1 (.j 1 (λ(j7:Bool)=>⟨[.k 1,.p 7,.k 40,.s (ba j7),.p 57],[.o 0]⟩) (.b (.b (.b (.t [ok 0]) (.t [ok 0])) (.t [ok 0])) (.t [ok 0])) (.b .o (.b .o (.l 2 0 (λ(q:((List Int) × Bool))=>⟨[.k 2,.p 1,.k 10,.p 1,.k 1,.p 2,.s (ba q.2),.p 30],[.c 1 ((q.1.map aa))]⟩) (λ(_:Unit)=>⟨[],[]⟩) [ok 1] (.b (.i k49 1 37 (λ(i29:(List GValue))=>⟨[.s (.own 1 0)],[.O 0,.n 3 ((i29.map ma))]⟩) (.l 2 1 (λ(q:((List GValue) × Int))=>⟨[.k 1,.p 2,.k 4,.s (.own 1 0),.p 2,.k 1,.p 2,.s (aa q.2),.p 26],[.O 0,.n 3 ((q.1.map ma))]⟩) (λ(b28:(List GValue))=>⟨[.k 7,.s (.own 1 0),.p 2],[.O 0,.n 3 ((b28.map ma))]⟩) [ok 0,on 3] (.b (.t [ok 0,ov 1 1]) (.t [ok 0,ok 1])) (.t [ok 0,ok 1])) (.z 1 (.j 1 (λ(j33:Bool)=>⟨[.k 2,.p 15,.k 1,.p 1,.k 85,.s (ba j33),.p 1],[.o 0]⟩) (.b (.t [ok 0]) (.t [ok 0])) (.b .o (.i k47 2 30 (λ(q:((List Int) × Bool))=>⟨[.s (ba q.2)],[.C 0 ((q.1.map aa))]⟩) (.l 2 1 (λ(q:((List Int) × Int))=>⟨[.p 4,.k 1,.s (aa q.2)],[.C 0 ((q.1.map aa))]⟩) (λ(b46:(List Int))=>⟨[],[.C 0 ((b46.map aa))]⟩) [ok 0] (.b (.b (.t [ok 0]) (.t [ok 0])) (.t [ok 0])) (.t [ok 0])) (.t [ok 0])))))) (.t [])) .o))))))⟩
end Go.Proofs.Dev
