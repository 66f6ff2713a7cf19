/-
  Contracts of the functions: each answers as its plain partial function says.
-/
import Derived.Test.YtjiaejcpmcknnaaGreatDoorK
import Derived.Test.YtjiaejcpmcknnaaGreatDoorG
import Derived.Test.YtjiaejcpmcknnaaGreatDoorPD
import Derived.Test.YtjiaejcpmcknnaaGreatDoorH1
import Derived.Test.YtjiaejcpmcknnaaGreatDoorH2
import Derived.Test.YtjiaejcpmcknnaaGreatDoorQ4
import Derived.Test.YtjiaejcpmcknnaaGreatDoorQ5
import Derived.Test.YtjiaejcpmcknnaaGreatDoorQ6
import Derived.Test.YtjiaejcpmcknnaaGreatDoorQ7
open Bool renaming and_eq_true->Vaa,and_true->Yaa,true_and->Iab
open List renaming all_cons->lac,append_assoc->Oab,append_nil->vab,cons_append->nab,eq_nil_of_length_eq_zero->gab,ext_getElem->Sab,getElem?_append_left->Qab,getElem?_concat_length->Aab,getElem?_eq_getElem->Maa,getElem?_map->gac,getElem_mem->Qaa,length_append->uab,length_filter_le->Pab,length_replicate->Gab,map_append->Tab,map_set->oad,mem_map->iac,replicate->Oaa,replicate_succ'->hac,set_append->qad,set_cons_zero->Dac
open List.Perm renaming append_right->Wad
open Nat renaming add_comm->Bac,le_trans->dac,sub_self->Cac,zero_le->Dab
open Option renaming map_some->rac
open Option.some renaming inj->oab,injEq->wab
set_option linter.all false
set_option maxHeartbeats 1000000
set_option maxRecDepth 10000
namespace Go.Proofs.Dev
open Go Go.Tm
instance zzi5 {t0 t1 r}:Con (Vn t0 t1=some r) (Den Tryz.prog 67 [Wa t0,wa t1] (ba r)):=⟨λh=>by
 refine dk 55 k67 ?_
 simp only[k67,Kf.of,zs,ze]
 unfold Vn at h
 exact pg @Ql.eq_1 (.z 3 (.j 1 (λ(j3:Bool)=>⟨[.p 1,.k 25,.s (ba j3),.p 30],[]⟩) (.b (.t []) (.t [])) (.b .o (.l 1 0 (λ(s5:Int)=>⟨[.p 26,.k 1,.p 2,.s (aa s5),.p 27],[]⟩) (λ(_:Unit)=>⟨[],[]⟩) [] (.b (.e 0 (λ(_:Unit)=>⟨[.p 30],[]⟩) (.z 3 (.j 1 (λ(j12:Bool)=>⟨[.p 30,.k 6,.s (ba j12),.p 20],[.o 0]⟩) (.b (.t [ok 0]) (.b (.t [ok 0]) (.b (.t [ok 0]) (.b (.t [ok 0]) (.t [ok 0]))))) (.b (.t []) (.b (.t []) (.b .o (.b .o (.t []))))))) (.t [])) (.t [])) .o))))⟩
instance {t0 t1 r}:Con (Pl t0 t1=some r) (Den Tryz.prog 70 [Vi t0,aa t1] (la r)):=⟨λh=>by
 refine dk 75 k70 ?_
 simp only[k70,Kf.of,zs,ze]
 unfold Pl at h
 exact pg (And.intro @vh.eq_1 @uh.eq_1) (.l 2 1 (λ(q:((List Int) × Int))=>⟨[.k 1,.p 3,.k 1,.s (.own 0 0),.p 11,.s (aa q.2),.p 59],[.n 1 ((q.1.map aa))]⟩) (λ(b28:(List Int))=>⟨[.k 5,.s (.own 0 0),.p 9],[.n 1 ((b28.map aa))]⟩) [on 1] (.b (.j 1 (λ(j25:(List Int))=>⟨[.k 1,.p 17],[.c 0 ((j25.map aa))]⟩) (.b (.t [ok 0]) (.l 2 1 (λ(q:((List Int) × Int))=>⟨[.k 1,.p 7,.k 7,.p 3,.k 10,.p 2,.s (aa q.2),.p 46],[.c 0 ((q.1.map aa))]⟩) (λ(b24:(List Int))=>⟨[.k 1,.p 6,.k 8,.p 3],[.c 0 ((b24.map aa))]⟩) [ok 0] (.b (.j 1 (λ(j21:(List Int))=>⟨[.k 1,.p 30],[.c 0 ((j21.map aa))]⟩) (.b (.t [ok 0]) (.z 2 (.j 1 (λ(j16:Bool)=>⟨[.k 1,.p 9,.k 3,.p 1,.k 1,.p 16,.k 25,.s (ba j16),.p 20],[.o 0,.o 2]⟩) (.b (.b (.t [ok 0,ok 2]) (.t [ok 0,ok 2])) (.t [ok 0,ok 2])) (.b (.t [ok 0]) (.b (.t [ov 0 2]) (.t [ov 0 1])))))) (.t [ok 0])) (.t [ok 0])) (.t [ok 0]))) (.t [ok 0])) (.t [ok 0])) .o)⟩
instance {t0 t1 r}:Con (vc t0 t1=some r) (Den Tryz.prog 82 [Ea t0,aa t1] (la r)):=⟨λh=>by
 refine dk 16 k82 ?_
 simp only[k82,Kf.of,zs,ze]
 unfold vc at h
 exact pg trivial (.z 2 (.j 1 (λ(j2:Bool)=>⟨[.k 1,.p 3,.k 9,.s (ba j2),.p 4],[.o 0]⟩) (.b (.t [ok 0]) (.t [ok 0])) .o))⟩
def Fv(n:Nat) (F:Nat->List Int):LL:=(List.range n).map λd=>((F d).length,F d)
theorem ML{n:Nat}{F:Nat->List Int}:(Fv n F).length=n:=by simp[Fv]
theorem JL{n d:Nat}{F:Nat->List Int}(h:d<n):(Fv n F)[d]?=some ((F d).length,F d):=by simp[Fv,h]
theorem vT{n d:Nat}{F F':Nat->List Int}{x:Int}(h1:F' d=F d++[x]) (h2:∀e,e≠d->F' e=F e):(Fv n F).set d ((F d).length+1,F d++[x])=Fv n F':=by
 unfold Fv;apply Sab
 .simp
 .intro k k1 k2;rw[List.getElem_set];simp only[List.getElem_map,List.getElem_range];split
  .rename_i h;subst h;rw[h1];simp
  .rename_i h;rw[h2 k (λe=>h e.symm)]
def YP(I:List Int) (L:LL):List Ent:=.live 1 0 (I.map aa)::.live 1 0 (Og 4 L)::xi L
def o5(l:List Int) (v:Nat) (I:List Int) (L:LL):List Ent:=Bx l v 0 (YP I L)
theorem xK{I:List Int}{L:LL}:(YP I L).length=L.length+2:=by simp[YP,kn]
theorem FC{I:List Int}{L:LL}:(YP I L).all (Ent.below ((YP I L).length+2))=true:=by
 rw[xK];unfold YP;simp only[lac,Vaa];exact⟨Bd _ _ (Fr.l _),au (by omega),Dw⟩
theorem AF(t:List D) (a b c:Ent) (n:Nat):∀x,x<=n->Lu 1 3 x ⟨t,[a,b,c,.live 1 0 (Oaa n (.v (.slice none 0 0)))]⟩=⟨t,a::b::c::.live 1 0 (Og 4 (Oaa x (0,[]))++Oaa (n-x) (.v (.slice none 0 0)))::xi (Oaa x (0,[]))⟩
 |0,_=>by simp[Lu,Og,xi]
 |x+1,h=>by
  rw[Lu,AF t a b c n x (by omega)];unfold zF;simp only[List.getElem?_cons_succ,List.getElem?_cons_zero];have hl:(Og 4 (Oaa x ((0:Nat),([]:List Int)))).length=x:=by rw[Cs];simp
  rw[List.getElem?_append_right (by omega),hl,Cac,List.getElem?_replicate,if_pos (by omega)];simp only[List.set_cons_succ,Dac,List.length_cons,kn,Gab,nab,St.mk.injEq,true_and,List.cons.injEq,Ent.live.injEq];refine⟨?_,?_⟩
  .rw[qad,if_neg (by omega),hl,Cac,hac (n:=x),TG,Oab];congr 1;obtain⟨k,hk⟩:∃k,n-x=k+1:=⟨n-x-1,by omega⟩;rw[hk,List.replicate_succ,Dac,show n-(x+1)=k by omega,Gab];simp only[Og,nab,List.nil_append];rw[Bac 4 x]
  .rw[hac (n:=x)];simp[xi]
theorem uT{n:Nat}{F:Nat->List Int}(h:∀d,F d=[]):Fv n F=Oaa n (0,[]):=by
 unfold Fv;apply Sab
 .simp
 .intro k k1 k2;simp[h]
theorem GK{n:Nat}:ia (Oaa n (.v (.int .i64 0)))=true:=cj.2 λd hd=>by rw[List.eq_of_mem_replicate hd];rfl
def E1(g:List (List Int)) (y:Nat×List Int×Nat):St:=⟨ds 4 (Eb g::.own 3 0::.own 2 0::.ref 0 0 0 0::ds 19 (Eb g::aa g.length::aa y.1::ds 83 [])),o5 y.2.1 y.2.2 (iB g y.1) (Fv g.length (Vg g y.1))⟩
def E2(g:List (List Int)) (l:List Int) (v i j:Nat):St:=⟨ds 4 (Eb g::.own 3 0::.own 2 0::.ref 0 0 0 0::aa i::la (g.getD i [])::ds 17 (Eb g::aa g.length::aa i::ds 9 (la (g.getD i [])::aa (g.getD i []).length::aa j::ds 71 []))),o5 l v (iB g (i+1)) (Fv g.length (br g i j))⟩
theorem S5{g:List (List Int)}{y:Nat×List Int×Nat}:Fit 0 (E1 g y):=by
 refine Vy FC (Dab _) ?_;rw[xK];simp only[Yn,gp,belows,Tm.below,Yaa,Iab,Vaa,decide_eq_true_eq];exact⟨La _ _ (Fr.h _),by omega,by omega,by omega,La _ _ (Fr.h _),La _ _ (Fr.h _),La _ _ (Fr.h _)⟩
theorem T5{g:List (List Int)}{l:List Int}{v i j:Nat}:Fit 0 (E2 g l v i j):=by
 refine Vy FC (Dab _) ?_;rw[xK];simp only[Yn,gp,belows,Tm.below,Yaa,Iab,Vaa,decide_eq_true_eq];exact⟨La _ _ (Fr.h _),by omega,by omega,by omega,La _ _ (Fr.h _),La _ _ (Fr.h _),La _ _ (Fr.h _),La _ _ (Fr.h _),La _ _ (Fr.h _),La _ _ (Fr.h _),La _ _ (Fr.h _),La _ _ (Fr.h _)⟩
def Tx(I:List Int) (L:LL) (w:Nat) (out:List Int):List Ent:=.live 1 0 (I.map aa)::.live 1 0 (Og 4 L)::(xi L++[.live 1 w (out.map aa)])
theorem iG{I:List Int}{L:LL}{w:Nat}{out:List Int}:(Tx I L w out).length=L.length+3:=by simp[Tx,kn]
theorem Fw{I:List Int}{L:LL}{w:Nat}{out:List Int}:(Tx I L w out).all (Ent.below ((Tx I L w out).length+2))=true:=by
 rw[iG];unfold Tx;simp only[lac,List.all_append,List.all_nil,Yaa,Vaa];exact⟨Bd _ _ (Fr.l _),au (by omega),Dw,Bd _ _ (Fr.l _)⟩
abbrev gL(g:List (List Int)):LL:=Fv g.length (Vg g g.length)
def E3(g:List (List Int)) (y:List Int×Nat×List Int×Nat):St:=⟨ds 4 (Eb g::.own 3 0::.own 2 0::.ref 0 0 0 0::ds 4 (.own ((xi (gL g)).length+4) y.2.1::ds 100 [])),Bx y.2.2.1 y.2.2.2 0 (Tx (SM g y.1) (gL g) y.2.1 y.1)⟩
def E4(g:List (List Int)) (out:List Int) (w d:Nat) (y:Nat×List Int×Nat):St:=⟨ds 4 (Eb g::.own 3 0::.own 2 0::.ref 0 0 0 0::ds 4 (.own ((xi (gL g)).length+4) (w+1)::aa d::ds 70 (.own (d+4) (Vg g g.length d).length::aa (Vg g g.length d).length::aa y.1::ds 26 []))),Bx y.2.1 y.2.2 0 (Tx (vx g out d y.1) (gL g) (w+1) (out++[(d:Int)]))⟩
theorem NO{g:List (List Int)}:(gL g).length=g.length:=ML
theorem U5{g:List (List Int)}{y:List Int×Nat×List Int×Nat}:Fit 0 (E3 g y):=by
 refine Vy Fw (Dab _) ?_;rw[iG,kn];simp only[Yn,gp,belows,Tm.below,Yaa,Iab,Vaa,decide_eq_true_eq];exact⟨La _ _ (Fr.h _),by omega,by omega,by omega,by omega⟩
theorem V5{g:List (List Int)}{out:List Int}{w d:Nat}(hd:d<g.length) {y:Nat×List Int×Nat}:Fit 0 (E4 g out w d y):=by
 refine Vy Fw (Dab _) ?_;rw[iG,kn,NO];simp only[Yn,gp,belows,Tm.below,Yaa,Iab,Vaa,decide_eq_true_eq];exact⟨La _ _ (Fr.h _),by omega,by omega,by omega,by omega,La _ _ (Fr.h _),by omega,La _ _ (Fr.h _),La _ _ (Fr.h _)⟩
theorem ev_T{t0:GScope}{g:List (List Int)}(hall:wc t0=some g) (hg:GOk g) :
 Den Tryz.prog 123 [Ea t0] (.tup [la (xv g).1,aa (xv g).2]):=by
 have hgl:=hg.len;refine dk 112 k123 ?_;simp only[k123,Kf.of,zs,ze];refine ss (rg ?_);simp only[zz];refine ss (rg ?_);simp only[zz];refine ZE (Nu hall) ?_ (by simp only[zg]);simp only[zz];have hm:Az 24 ([]:List Int) (g.length:Int) (g.length:Int)=some (Oaa g.length []):=by
  unfold Az;rw[if_pos ⟨by omega,by omega,by omega,by simp;omega⟩];simp
 obtain⟨f2,f3,f4,f5,f6⟩:=iN (e:=la) hm;have hm2:Az 8 (0:Int) (g.length:Int) (g.length:Int)=some (Oaa g.length 0):=by
  unfold Az;rw[if_pos ⟨by omega,by omega,by omega,by simp;omega⟩];simp
 obtain⟨a2,a3,a4,a5,a6⟩:=iN (e:=aa) hm2;refine ss (rg ?_);(try simp only[zz]at f5 f6 a5 a6);(try simp only[zz,f2,f3,f4,f5]);refine ss (rg ?_);(try simp only[zz,a2,a3,a4,a5]);refine ss (rg ?_);simp only[zz];refine ss (ss (rg ?_));simp only[zz];refine tl (S:=⟨ds 4 (Eb g::.own 3 0::.own 2 0::.ref 0 0 0 0::ds 19 (Eb g::aa g.length::aa 0::ds 83 [])),[.live 1 0 [.own 1 0],.live 1 0 [],.live 1 0 (Oaa g.length (.v (.int .i64 0))),.live 1 0 (Oaa g.length (.v (.slice none 0 0)))]⟩) (tq [ok 4,ok 3,ok 2,ok 1] (by simp only[zg,Tg PD,Tg GK])) ?_;refine rC (S:=1) (id:=3) (x:=g.length) ?_;rw[AF _ _ _ _ _ _ (Nat.le_refl _),Cac,List.replicate_zero,vab];refine T.aM (E1 g) (λy=>y.1<=g.length/\y.2.1.Perm (dP g y.1)/\Hp y.2.1 y.2.1.length) (λy=>y.1=g.length/\y.2.1.Perm (dP g y.1)/\Hp y.2.1 y.2.1.length) (λy=>g.length-y.1) (0,[],0) ⟨Dab _,.refl _,λk _ h=>absurd h (Nat.not_lt_zero _)⟩ ?_ (λ_ _=>S5) ?_ (λ_=>Jy) ?_
 .unfold E1 o5 Bx YP;rw[uT (λ_=>zR),jS,←a6];exact At.same _ _ _ (va.qc _)
 .rintro⟨i,l,v⟩ ⟨h1,h2,h3⟩;dsimp only at h1 h2 h3;have hll:l.length<=1048576:=by rw[h2.length_eq];exact dac B1 (by omega)
  unfold E1 o5 Bx YP;dsimp only;refine ss (rg ?_);simp only[zz];refine ss (cd rfl ?_);simp only[zz];refine gP.mk (λhc=>?_) (λhc=>?_)
  .have hi:i<g.length:=by omega
   refine sk ?_;simp only[zz];have g2:g[i]?=some (g.getD i []):=by simp[hi]
   have hmem:g.getD i []∈g:=List.mem_of_getElem? g2;have hgi:=hg.inr _ hmem;have hgn:=hg.nd _ hmem;have hgk:(g.getD i []).length<=g.length:=SC hgn hgi;have i1:(iB g i)[i]?=some 0:=by unfold iB;simp[hi]
   have i2:(iB g i).length=g.length:=by unfold iB;simp
   refine ss (bk (ss (rg ?_)));simp only[zz,g2];generalize hgi':g.getD i []=gi at *;refine ss (rg ?_);simp only[zz,g2,i1,i2,hi];refine ss (ss (rg ?_));simp only[zz];have hdi:br g i gi.length=Vg g (i+1):=funext λd=>by rw[←hgi'];exact yR.symm
   have hw:ca .i64 ((i:Int)+1)=((i+1:Nat):Int):=by rw[Bu ⟨by omega,by omega⟩];omega
   refine T.Z6 gi.length (E2 g l v i) ?_ (λj _=>T5) (λj hj=>?_) Jy ?_
   .unfold E2 o5 Bx YP;rw[show br g i 0=Vg g i from funext λd=>AR,hgi',←iS hi,oad,hgi'];exact At.same _ _ _ (by repeat (first|exact va.qc _|refine va.cons (Sub.refl _) ?_|refine va.cons (Sub.lb _) ?_))
   .unfold E2 o5 Bx YP;rw[hgi'];refine ss (rg ?_);simp only[zz];refine ss (cd rfl ?_);simp only[zz];refine gP.mk (λhc=>?_) (λhc=>?_)
    .have hjl:j<gi.length:=by omega
     refine sk ?_;simp only[zz];obtain⟨d,hd,hdn⟩:∃d:Nat,gi[j]=(d:Int)/\d<g.length:=by
      have:=hgi gi[j] (Qaa hjl);exact⟨gi[j].toNat,by omega,by omega⟩
     have g3:gi[j]?=some (d:Int):=by rw[Maa hjl,hd]
     have hL:(Fv g.length (br g i j)).length=g.length:=ML;have hp:(Fv g.length (br g i j))[d]?=some ((br g i j d).length,br g i j d):=JL hdn;have hLs:Fv g.length (br g i (j+1))=(Fv g.length (br g i j)).set d ((br g i j d).length+1,br g i j d++[(i:Int)]):=by
      refine(vT ?_ λe he=>?_).symm
      .rw[nJ (by rw[hgi'];exact hjl) (by rw[hgi'];exact hgn),if_pos (by simp only[hgi',hd])]
      .rw[nJ (by rw[hgi'];exact hjl) (by rw[hgi'];exact hgn),if_neg (by simp only[hgi',hd];omega)]
     have hpb:(br g i j d).length<=i+1:=DU;generalize hQ:(br g i j d).length=q at *;generalize hF:br g i j d=F at *;generalize hLL:Fv g.length (br g i j)=L at hL hLs hp⊢;obtain⟨E,hE⟩:∃E,E=xi L:=⟨_,rfl⟩;have hEl:E.length=L.length:=by rw[hE,kn]
     rw[←hE];have hol:(Og 4 L).length=g.length:=by rw[Cs,hL]
     have hEd:d<E.length:=by omega
     have k1:(Og 4 L)[d]?=some (.own (d+4) q):=by rw[yB,hp,rac,Bac]
     have k2:∀y,(E++[y])[d]?=some (.live 1 q (F.map aa)):=λy=>by
      rw[Qab hEd,hE];unfold xi;rw[gac,hp];rfl
     have k3:∀y e,(E++[y]).set d e=E.set d e++[y]:=λy e=>by rw[qad,if_pos hEd]
     have k5:(F.length+1)*8<=2 ^ 47:=by omega
     have k6:yQ (E.length+4) (d+4)=true:=LK (by omega);refine ss (bk (ss (rg ?_)));simp only[zz,g3];refine rg ?_;simp only[zz,hol,hdn,k1,k2,k3,k5,k6,Aab,Fp];have hw2:ca .i64 ((j:Int)+1)=((j+1:Nat):Int):=by rw[Bu ⟨by omega,by omega⟩];omega
     refine rg ?_;simp only[zz,It,hw2];refine⟨hjl,?_⟩;have e1:(Og 4 L).set d (.own (d+4) (q+1))=Og 4 (Fv g.length (br g i (j+1))):=by
      rw[hLs,←UG,Bac 4]
     have e2:E.set d (.live 1 (q+1) (F.map aa++[.v (.int .i64 i)]))=xi (Fv g.length (br g i (j+1))):=by
      rw[hLs,hE];unfold xi;rw[oad,Tab];rfl
     rw[e1,e2,←nab,←nab,←nab,←nab];exact At.mk _ _ _ _ (by repeat (first|exact va.qc _|refine va.cons (Sub.refl _) ?_|refine va.cons (Sub.lb _) ?_))
    .refine xt ?_;simp only[zz,WE];have hj:j=gi.length:=by omega
     subst hj;refine⟨rfl,?_⟩;exact At.same _ _ _ (by repeat (first|exact va.qc _|refine va.cons (Sub.refl _) ?_|refine va.cons (Sub.lb _) ?_))
   .unfold E2 o5 Bx YP;rw[hgi',hdi];simp only[zz];refine ss (rg ?_);simp only[zz];refine cd rfl ?_;by_cases hge:gi=[]
    .have hz:((gi.length:Int)==0)=true:=by rw[hge];rfl
     have hrd:dP g (i+1)=dP g i++[(i:Int)]:=by rw[mN,hgi',if_pos hge]
     simp only[zz,hz];refine rg ?_;simp only[zz];refine Iv (kQ (l:=l) (x:=(i:Int)) (v:=v) (u:=0) (R:=YP (iB g (i+1)) (Fv g.length (Vg g (i+1)))) FC (by omega) h3) ?_;rintro d m' ⟨rfl,l',h4,h5,rfl⟩;unfold Bx YP;simp only[zz];refine rg ?_;simp only[zz,hw,Tn];refine⟨(i+1,l',v+1),⟨by dsimp only;omega,?_,h5⟩,by dsimp only;omega,?_⟩
     .dsimp only;rw[hrd];exact h4.trans (Wad _ h2)
     .exact At.same _ _ _ (by repeat (first|exact va.qc _|refine va.cons (Sub.refl _) ?_|refine va.cons (Sub.lb _) ?_))
    .have hz:((gi.length:Int)==0)=false:=by
      rw[beq_eq_false_iff_ne];intro h;exact hge (gab (by omega))
     have hrd:dP g (i+1)=dP g i:=by rw[mN,hgi',if_neg hge]
     simp only[zz,hz];refine sk ?_;simp only[zz];refine rg ?_;simp only[zz,hw,Tn];refine⟨(i+1,l,v),⟨by dsimp only;omega,?_,h3⟩,by dsimp only;omega,?_⟩
     .dsimp only;rw[hrd];exact h2
     .exact At.same _ _ _ (by repeat (first|exact va.qc _|refine va.cons (Sub.refl _) ?_|refine va.cons (Sub.lb _) ?_))
  .refine xt ?_;simp only[zz,Wp];have hi:i=g.length:=by omega
   subst hi;exact⟨(g.length,l,v),⟨rfl,h2,h3⟩,At.same _ _ _ (by repeat (first|exact va.qc _|refine va.cons (Sub.refl _) ?_|refine va.cons (Sub.lb _) ?_))⟩
 .rintro⟨i,l,v⟩ ⟨h1,h2,h3⟩;dsimp only at h1 h2 h3;subst h1;unfold E1 o5 Bx YP;dsimp only;simp only[zz];refine ss (rg ?_);simp only[zz];refine T.yD 12 1 rfl ?_;simp only[zz];refine ss ?_;refine T.aM (E3 g) (λy=>J2 g y.1 y.2.2.1/\Hp y.2.2.1 y.2.2.1.length) (λy=>J2 g y.1 []) (λy=>g.length-y.1.length) ([],0,l,v) ⟨j2_0 h2,h3⟩ ?_ (λ_ _=>U5) ?_ (λ_=>Jy) ?_
  .unfold E3 Bx Tx;dsimp only;rw[←l9];exact At.same _ _ _ (by repeat (first|exact va.qc _|refine va.cons (Sub.refl _) ?_|refine va.cons (Sub.lb _) ?_))
  .rintro⟨out,w,l,v⟩ ⟨hj,h3⟩;dsimp only at hj h3;unfold E3 Bx Tx;dsimp only;have hll:l.length<=1048576:=by
    rw[hj.perm.length_eq];unfold IQ;rw[List.length_map];exact dac (Pab _ _) (by simpa using hgl)
   refine ss (ss (rg ?_));simp only[zz];refine Vb (wT (l:=l) (v:=v) (u:=0)) ?_;simp only[zz];refine cd rfl ?_;simp only[zz];refine gP.mk (λhc=>?_) (λhc=>?_)
   .refine sk ?_;simp only[zz];obtain⟨n,hn⟩:∃n,l.length=n+1:=⟨l.length-1,by omega⟩;refine bk (ss (rg ?_));simp only[zz];refine Iv (S8 (l:=l) (n:=n) (v:=v) (u:=0) (R:=Tx (SM g out) (gL g) w out) Fw (by omega) hn h3) ?_;rintro _ _ ⟨x,l',rfl,h4,h5,h6,rfl⟩;obtain⟨d,rfl,hdl,hik,hol,hfin⟩:=q9 hg hj h4 h5;unfold Bx Tx;simp only[zz];have c0:∀o:Ent,(xi (gL g)++[o])[(xi (gL g)).length]?=some o:=λo=>Aab;have c1:∀o z:Ent,(xi (gL g)++[o]++[z])[(xi (gL g)).length]?=some o:=λo z=>by simp
    have c2:∀o z e:Ent,(xi (gL g)++[o]++[z]).set (xi (gL g)).length e=xi (gL g)++[e]++[z]:=λo z e=>by simp[qad]
    have c3:∀o z:Ent,(xi (gL g)++[o]++[z])[(xi (gL g)).length+1]?=some z:=λo z=>by simp
    have c5:yQ ((xi (gL g)).length+1+4) ((xi (gL g)).length+4)=true:=LK (by omega);have hEl:(xi (gL g)).length=g.length:=by rw[kn,NO]
    have hF:(gL g)[d]?=some ((Vg g g.length d).length,Vg g g.length d):=JL hdl;have hE1:(xi (gL g))[d]?=some (.live 1 (Vg g g.length d).length ((Vg g g.length d).map aa)):=by
     unfold xi;rw[gac,hF];rfl
    have c4:∀o z:Ent,(xi (gL g)++[o]++[z])[d]?=some (.live 1 (Vg g g.length d).length ((Vg g g.length d).map aa)):=λo z=>by
     rw[Oab,Qab (by omega)];exact hE1
    have c6:∀o:Ent,(xi (gL g)++[o])[d]?=some (.live 1 (Vg g g.length d).length ((Vg g g.length d).map aa)):=λo=>by
     rw[Qab (by omega)];exact hE1
    have o1:(Og 4 (gL g))[d]?=some (.own (d+4) (Vg g g.length d).length):=by rw[yB,hF,rac,Bac]
    have o2:(Og 4 (gL g)).length=g.length:=by rw[Cs,NO]
    have b1:(out.length+1)*8<=2 ^ 47:=by omega
    have hDn:(Vg g g.length d).length<=g.length:=QF;have hpl:=h4.length_eq;refine ss (rg ?_);simp only[zz,c0,c1,c2,c3,c5,b1];refine ss (rg ?_);simp only[zz,c1,c2,c4,o1,o2,hdl];refine T.aM (E4 g out w d) (λy=>y.1<=(Vg g g.length d).length/\y.2.1.Perm (l'++uB g out d y.1)/\Hp y.2.1 y.2.1.length) (λy=>y.1=(Vg g g.length d).length/\y.2.1.Perm (l'++uB g out d y.1)/\Hp y.2.1 y.2.1.length) (λy=>(Vg g g.length d).length-y.1) (0,l',v+1) ⟨Dab _,by dsimp only;rw[aaa,vab],h6⟩ ?_ (λ_ _=>V5 hdl) ?_ (λ_=>DP FP) ?_
    .unfold E4 Bx Tx;dsimp only;rw[Z8,Tab,←nab,←nab,←nab,←nab];exact At.mk _ _ _ _ (by repeat (first|exact va.qc _|refine va.cons (Sub.refl _) ?_|refine va.cons (Sub.lb _) ?_))
    .rintro⟨k,l1,v1⟩ ⟨k1,k2,k3⟩;dsimp only at k1 k2 k3;have hl1:l1.length<=1048576+1048576:=by
      rw[k2.length_eq,uab];have:=MV (g:=g) (out:=out) (d:=d) (k:=k);simp at hpl;omega
     unfold E4 Bx Tx;dsimp only;refine ss (rg ?_);simp only[zz];refine ss (cd rfl ?_);simp only[zz];refine gP.mk (λhc=>?_) (λhc=>?_)
     .have hk:k<(Vg g g.length d).length:=by omega
      refine sk ?_;simp only[zz];obtain⟨e,he,hel,hem⟩:=ny.1 (Qaa hk);have g3:(Vg g g.length d)[k]?=some (e:Int):=by rw[Maa hk,he]
      have i1:=qV (out:=out) hk he hel;have i2:(vx g out d k).length=g.length:=by unfold vx;simp
      have i3:(List.map aa (vx g out d k)).set e (.v (.int .i64 (oE g out e-1)))=List.map aa (vx g out d (k+1)):=by
       rw[←xJ hk he,oad];rfl
      have i4:(vx g out d (k+1))[e]?=some (oE g out e-1):=by
       rw[←xJ hk he,List.getElem?_set_self (by omega)]
      have i5:(vx g out d (k+1)).length=g.length:=by unfold vx;simp
      have hcn:0<=oE g out e/\oE g out e<=1048576:=by
       unfold oE;have h1:=Pab (λd=>!out.contains d) (g.getD e []);have h2:=SC (hg.nd _ (N8 hel)) (hg.inr _ (N8 hel));omega
      have hwc:ca .i64 (oE g out e-1)=oE g out e-1:=Bu ⟨by omega,by omega⟩;have hwk:ca .i64 ((k:Int)+1)=((k+1:Nat):Int):=by rw[Bu ⟨by omega,by omega⟩];omega
      refine ss (bk (ss (rg ?_)));simp only[zz,c6,hk,g3];refine ss (rg ?_);simp only[zz,i1,i2,hel,hwc,i3];refine ss (rg ?_);simp only[zz,i4,i5,hel];refine cd rfl ?_;by_cases hc1:oE g out e=1
      .have hz:((oE g out e-1)==0)=true:=by rw[hc1];rfl
       simp only[zz,hz];refine rg ?_;simp only[zz];refine Iv (kQ (l:=l1) (x:=(e:Int)) (v:=v1) (u:=0) (R:=Tx (vx g out d (k+1)) (gL g) (w+1) (out++[(d:Int)])) Fw (by omega) k3) ?_;rintro _ _ ⟨rfl,l2,h7,h8,rfl⟩;unfold Bx Tx;simp only[zz];refine rg ?_;simp only[zz,hwk,Tn];refine⟨(k+1,l2,v1+1),⟨by dsimp only;omega,?_,h8⟩,by dsimp only;omega,?_⟩
       .dsimp only;rw[DJ hk he,if_pos hc1,←Oab];exact h7.trans (Wad _ k2)
       .exact At.same _ _ _ (by repeat (first|exact va.qc _|refine va.cons (Sub.refl _) ?_|refine va.cons (Sub.lb _) ?_))
      .have hz:((oE g out e-1)==0)=false:=by
        rw[beq_eq_false_iff_ne];omega
       simp only[zz,hz];refine sk ?_;simp only[zz];refine rg ?_;simp only[zz,hwk,Tn];refine⟨(k+1,l1,v1),⟨by dsimp only;omega,?_,k3⟩,by dsimp only;omega,?_⟩
       .dsimp only;rw[DJ hk he,if_neg hc1];exact k2
       .exact At.same _ _ _ (by repeat (first|exact va.qc _|refine va.cons (Sub.refl _) ?_|refine va.cons (Sub.lb _) ?_))
     .refine xt ?_;simp only[zz,Wp];have hk:k=(Vg g g.length d).length:=by omega
      subst hk;exact⟨((Vg g g.length d).length,l1,v1),⟨rfl,k2,k3⟩,At.same _ _ _ (by repeat (first|exact va.qc _|refine va.cons (Sub.refl _) ?_|refine va.cons (Sub.lb _) ?_))⟩
    .rintro⟨k,l1,v1⟩ ⟨k1,k2,k3⟩;dsimp only at k1 k2 k3;subst k1;unfold E4 Bx Tx;dsimp only;rw[hik];simp only[zz,Tn];refine⟨(out++[(d:Int)],w+1,l1,v1),⟨hfin l1 k2,k3⟩,by dsimp only;rw[uab,List.length_singleton];omega,?_⟩;exact At.same _ _ _ (by repeat (first|exact va.qc _|refine va.cons (Sub.refl _) ?_|refine va.cons (Sub.lb _) ?_))
   .refine xt ?_;simp only[zz,Wp];have hl0:l=[]:=gab (by omega);subst hl0;exact⟨(out,w,[],v),hj,At.same _ _ _ (by repeat (first|exact va.qc _|refine va.cons (Sub.refl _) ?_|refine va.cons (Sub.lb _) ?_))⟩
  .rintro⟨out,w,l,v⟩ hj;dsimp only at hj;have he:=p9 hj;unfold E3 Bx Tx;dsimp only;simp only[zz];have c0:∀o:Ent,(xi (gL g)++[o])[(xi (gL g)).length]?=some o:=λo=>Aab;refine ss (ss (rg ?_));simp only[zz,c0];refine cd rfl ?_;by_cases hlt:out.length<g.length
   .have hz:decide ((out.length:Int)<(g.length:Int))=true:=decide_eq_true (by omega);rw[if_pos hlt]at he;rw[he];simp only[zz,hz];refine ss (rg ?_);simp only[zz];exact rt (er (by simp only[zz,zr];exact fq (by simp only[zg])))
   .have hz:decide ((out.length:Int)<(g.length:Int))=false:=decide_eq_false (by omega);rw[if_neg hlt]at he;rw[he];simp only[zz,hz];refine sk ?_;simp only[zz];refine ss (rg ?_);simp only[zz];exact rt (er (by simp only[zz,zr];exact fq (by simp only[zg,zz,c0])))
theorem Y8{n:Int}{l:List Int}{x:Int}(h:x∈vE n l):0<=x/\x<n:=by
 unfold vE at h;have:=(List.mem_filter.1 h).2;simpa using this
theorem qY{s:GScope}(h:s.Defs.length<=1048576):GOk (Tp s):=by
 have hl:(Tp s).length=s.Defs.length:=by unfold Tp;simp
 refine⟨by omega,λl hm e he=>?_,λl hm=>?_⟩
 .unfold Tp at hm;obtain⟨d,-,rfl⟩:=iac.1 hm;rw[hl];rw[(qe _).2.2,List.mem_flatten]at he;obtain⟨q,hq,he⟩:=he;obtain⟨r,-,rfl⟩:=iac.1 hq;rcases List.mem_append.1 he with h1|h1<;>exact Y8 h1
 .unfold Tp at hm;obtain⟨d,-,rfl⟩:=iac.1 hm;exact wJ (qe _).1
theorem Ov{t0:GScope}{r:List Int×Int}(h:pe t0=some r):Den Tryz.prog 123 [Ea t0] (.tup [la r.1,aa r.2]):=by
 unfold pe at h
 cases hall:wc t0 with
 |none=>rw[hall]at h;cases h
 |some g=>
  rw[hall]at h;simp only[Option.bind_some,wab]at h;subst h;have hall':=hall;unfold wc at hall';split at hall'
  .rename_i hc;have:=Xn ⟨hc.1,hc.2.1,hc.2.2⟩;rw[hall]at this;obtain rfl:=oab this;exact ev_T hall (qY hc.1)
  .cases hall'
instance zzi10 {t0 r}:Con (pe t0=some r) (Den Tryz.prog 123 [Ea t0] (.tup [la r.1,aa r.2])):=⟨Ov⟩
instance zzi26 {t0 c10 r}:Con (Rb t0 (λx900=>Kd x900 c10)=some r) (Den Tryz.prog 169 [Wr t0,.fn 170 [] [Uv c10]] (.tup [aa r.1,ba r.2])):=⟨λh=>Oq (q1:=[Uv c10]) (tE JC) (λx900 _ hb=>Ms hb) h⟩
theorem gC{t0 t1 r} (h:Rk t0 t1=some r):Den Tryz.prog 129 [ob t0,Wb t1] (.tup [aa r.1,aa r.2]):=by
 refine dk 119 k129 ?_
 simp only[k129,Kf.of,zs,ze]
 unfold Rk at h
 exact pg @Kj.eq_1 (.b .o (.z 1 (.j 1 (λ(j5:Bool)=>⟨[.k 1,.p 3,.k 25,.s (ba j5),.p 91],[.o 0]⟩) (.b (.t [ok 0]) (.t [ok 0])) (.b .o (.l 1 0 (λ(s9:Int)=>⟨[.k 2,.p 27,.k 16,.p 2,.s (aa s9),.p 73],[.o 0]⟩) (λ(_:Unit)=>⟨[],[]⟩) [ok 0] (.b (.z 3 (.j 1 (λ(j15:Bool)=>⟨[.k 2,.p 46,.k 23,.s (ba j15),.p 49],[.o 0,.o 1]⟩) (.b (.b (.t [ok 0,ok 1]) (.t [ok 0,ok 1])) (.t [ok 0,ok 1])) (.b .o (.z 1 (.j 1 (λ(j20:Bool)=>⟨[.k 2,.p 69,.k 25,.s (ba j20),.p 24],[.o 0,.o 1]⟩) (.b (.b (.b (.t [ok 0,ok 1]) (.t [ok 0,ok 1])) (.t [ok 0,ok 1])) (.t [ok 0,ok 1])) (.b .o (.z 1 (.j 1 (λ(j23:Bool)=>⟨[.k 2,.p 94,.k 11,.s (ba j23),.p 13],[.o 0,.o 1]⟩) (.b (.t [ok 0,ok 1]) (.t [ok 0,ok 1])) (.b .o (.b .o (.t [ok 0]))))))))))) (.t [])) .o)))))
instance {t0 t1 r}:Con (Rk t0 t1=some r) (Den Tryz.prog 129 [ob t0,Wb t1] (.tup [aa r.1,aa r.2])):=⟨gC⟩
theorem kr{t0 t1 t2 r} (h:Nj t0 t1 t2=some r):Den Tryz.prog 243 [Wa t0,wa t1,ua t2] (aa r):=by
 refine dk 20 k243 ?_
 simp only[k243,Kf.of,zs,ze]
 unfold Nj at h
 exact pg trivial .o
instance {t0 t1 t2 r}:Con (Nj t0 t1 t2=some r) (Den Tryz.prog 243 [Wa t0,wa t1,ua t2] (aa r)):=⟨kr⟩
instance {t0 t1 t2 r}:Con (Mb t0 t1 t2=some r) (Den Tryz.prog 271 [Na t0,ra t1,ra t2] (.tup [ra r.1,aa r.2])):=⟨λh=>by
 refine dk 136 k271 ?_
 simp only[k271,Kf.of,zs,ze]
 unfold Mb at h
 exact pg trivial (.z 3 (.j 1 (λ(j2:Bool)=>⟨[.k 3,.p 4,.k 4,.p 1,.s (ba j2),.p 126],[.o 0,.o 1,.o 2,.o 3]⟩) (.b (.t [ok 0,ok 1,ok 2,ok 3]) (.t [ok 0,ok 1,ok 2,ok 3])) (.b .o (.b .o (.j 1 (λ(j8:Bool)=>⟨[.k 3,.p 9,.k 21,.s (ba j8),.p 105],[.o 0,.o 1,.o 2,.o 3]⟩) (.b (.t [ok 0,ok 1,ok 2,ok 3]) (.b (.t [ok 0,ok 1,ok 2,ok 3]) (.b (.t [ok 0,ok 1,ok 2,ok 3]) (.t [ok 0,ok 1,ok 2,ok 3])))) (.b .o (.j 1 (λ(j12:Bool)=>⟨[.k 3,.p 30,.k 11,.s (ba j12),.p 94],[.o 0,.o 1,.o 2,.o 3]⟩) (.b (.t [ok 0,ok 1,ok 2,ok 3]) (.t [ok 0,ok 1,ok 2,ok 3])) (.b .o (.b .o (.b .o (.b .o (.b .o (.b (.j 3 (λ(q:(Int × Int × Int))=>⟨[.k 6,.p 1,.s (aa 0),.p 3],[.h 3 [.g [.s (aa q.1),.s (aa q.2.1),.s (aa q.2.2)]]]⟩) (.b (.t [ok 3]) (.t [ok 3])) .o) (.b (.j 3 (λ(q:(Int × Int × Int))=>⟨[.k 6,.p 1,.s (aa 0),.p 3],[.h 3 [.g [.s (aa q.1),.s (aa q.2.1),.s (aa q.2.2)]]]⟩) (.b (.t [ok 3]) (.t [ok 3])) .o) .o))))))))))))))⟩
instance {t0 r}:Con (np t0=some r) (Den Tryz.prog 91 [Bb t0] (re r)):=⟨λh=>by
 refine dk 67 k91 ?_
 simp only[k91,Kf.of,zs,ze]
 unfold np at h
 exact pg @Mh.eq_1 (.b .o (.l 1 0 (λ(s2:Int)=>⟨[.k 1,.p 7,.k 6,.p 2,.s (aa s2),.p 51],[.o 0,.o 1]⟩) (λ(_:Unit)=>⟨[.k 2,.p 6],[.o 1]⟩) [ok 0,ok 1] (.b (.z 4 (.j 2 (λ(q:(Int × Int))=>⟨[.k 1,.p 2,.k 2,.p 1,.k 8,.p 3],[.o 0,.o 1,.h 3 [.g [.s (aa q.1),.p 2,.s (aa q.2)]]]⟩) (.b (.t [ok 0,ok 1,ok 3]) (.j 1 (λ(j12:Bool)=>⟨[.k 1,.p 2,.k 2,.p 12,.k 19,.s (ba j12),.p 31],[.o 0,.o 1,.o 3]⟩) (.b (.t [ok 0,ok 1,ok 3]) (.t [ok 0,ok 1,ok 3])) (.b (.t [ok 0,ok 1,ok 2]) (.b (.b (.t [ok 0,ok 1,ok 2]) (.t [ok 0,ok 1,ok 2])) (.t [ok 0,ok 1,ok 2]))))) (.b .o (.t [ok 0,ok 1])))) (.t [ok 1])) .o))⟩
theorem OC{t0:GScope}{t1:Int}{t2:GSignature}{r:Int}(h:vm t0 t1 t2=some r):Den Tryz.prog 182 [Ea t0,aa t1,wa t2] (aa r):=by
 refine dk 142 k182 ?_;simp only[k182,Kf.of,zs,ze];unfold vm at h;refine ss (rg ?_);(try simp only[zz]);refine ss (rg ?_);obtain⟨x1,f2,f3,h⟩:=bI h;(try simp only[zz,f2,f3]);refine ss (rg ?_);(try simp only[zz]);refine ss (ss (rg ?_));obtain⟨x2,a4,h⟩:=bs h;obtain⟨f5,f6,f7⟩:=GP (e:=Za) a4;(try simp only[zz]at f7);(try simp only[zz,f5,f6,f7]);obtain⟨y8,h9,h⟩:=bs h;refine lm h9 (λq=>⟨.dead::aa t1::.dead::.ref 0 0 0 0::.dead::.ref 1 0 0 0::.dead::.ref 2 0 0 0::aa q.1::ds 11 (ue x2::aa (x2.length:Int)::aa q.2::ds 122 []),[.live 5 0 [Ea t0],.live 6 0 [wa t2],.live 9 0 [Za x1]]⟩) (λb11=>⟨.dead::aa t1::.dead::.ref 0 0 0 0::.dead::.ref 1 0 0 0::.dead::.ref 2 0 0 0::aa b11::ds 136 [],[.live 5 0 [Ea t0],.live 6 0 [wa t2],.live 9 0 [Za x1]]⟩) (tz [ok 0,ok 1,ok 2]) ?_ ?_
 .rintro⟨s3,s4⟩ z10 h11 h12;simp only[Bk]at h11;refine ss (rg ?_);(try simp only[zz]);refine ss (cd rfl ?_);(try simp only[zz]);refine gi h11 (λc5 h11=>?_) λc5 h11=>?_
  .refine sk ?_;(try simp only[zz,c5]);refine jm h11 (λj8=>⟨.dead::aa t1::.dead::.ref 0 0 0 0::.dead::.ref 1 0 0 0::.dead::.ref 2 0 0 0::aa j8::ds 11 (ue x2::aa (x2.length:Int)::aa s4::ds 122 []),[.live 5 0 [Ea t0],.live 6 0 [wa t2],.live 9 0 [Za x1]]⟩) (λz14 h13=>?_) λj8 h13 h11=>?_
   .refine bk (ss (rg ?_));obtain⟨x6,f16,f17,h13⟩:=bI h13;(try simp only[zz,f16,f17]);refine ss (rg ?_);(try simp only[zz]);refine cd rfl ?_;(try simp only[zz]);refine gi h13 (λc7 h13=>?_) λc7 h13=>?_
    .have e18:=eT c7;refine rg ?_;(try simp only[zz]);cases h13;exact tz [ok 0,ok 1,ok 2]
    have e19:=eF c7;refine sk ?_;(try simp only[zz,c7,e19]);cases h13;exact tz [ok 0,ok 1,ok 2]
   refine rg ?_;(try simp only[zz]);cases h11;exact tz [ok 0,ok 1,ok 2]
  refine xt ?_;(try simp only[zz,c5]);cases h11;exact tz [ok 0,ok 1,ok 2]
 rintro b11 rfl;dsimp only at h;(try simp only[zz]);refine ss (bk (ss (rg ?_)));obtain⟨x12,a20,h⟩:=bs h;simp only[zz];refine cq (Vq a20) ?_ (by simp only[zg]);(try simp only[zz]);refine cd rfl ?_;(try simp only[zz]);refine gi h (λc13 h=>?_) λc13 h=>?_
 .refine ss (rg ?_);(try simp only[zz]);cases h;exact rt ez
 refine ss (rg ?_);obtain⟨x14,a21,h⟩:=bs h;obtain⟨f22,f23,f24⟩:=GP (e:=Za) a21;(try simp only[zz]at f24);obtain⟨x15,a25,h⟩:=bs h;simp only[zz,f22,f23,f24];refine cv (Dm (q1:=[Vv x1]) (tE JC) (λx900 _ hb=>vt hb) a25) ?_ rfl (by simp only[zg,c13,f22,f23,f24]);(try simp only[zz,f22,f23,f24]);refine cd rfl ?_;(try simp only[zz,f22,f23,f24]);refine gi h (λc16 h=>?_) λc16 h=>?_
 .refine ss (rg ?_);(try simp only[zz]);cases h;exact rt ez
 refine jm h (λj18=>⟨.dead::aa t1::.dead::.ref 0 0 0 0::.dead::.ref 1 0 0 0::.dead::.ref 2 0 0 0::aa b11::ds 37 (ba j18::ds 98 []),[.live 5 0 [Ea t0],.live 6 0 [wa t2],.live 9 0 [Za x1]]⟩) (λz27 h26=>?_) λj18 h26 h=>?_
 .refine rg ?_;(try simp only[zz]);refine gi h26 (λc17 h26=>?_) λc17 h26=>?_
  ·(try simp only[zz,c17]);cases h26;exact tz [ok 0,ok 1,ok 2]
  (try simp only[zz,c17]);cases h26;exact tz [ok 0,ok 1,ok 2]
 refine cd rfl ?_;(try simp only[zz]);refine gi h (λc19 h=>?_) λc19 h=>?_
 .refine ss (rg ?_);(try simp only[zz]);cases h;exact rt ez
 refine jm h (λj24=>⟨ds 3 (.ref 0 0 0 0::.dead::.ref 1 0 0 0::.dead::.ref 2 0 0 0::aa b11::ds 49 (ba j24::ds 86 [])),[.live 5 0 [Ea t0],.live 6 0 [wa t2],.live 9 0 [Za x1]]⟩) (λz29 h28=>?_) λj24 h28 h=>?_
 .refine dy Ho ?_;(try simp only[zz,zy]);refine gi h28 (λc20 h28=>?_) λc20 h28=>?_
  .have e30:=nT c20;(try simp only[zz,c20,e30,zy]);refine gi h28 (λc21 h28=>?_) λc21 h28=>?_
   ·(try simp only[zz,c20,e30,c21,zy]);refine gi h28 (λc22 h28=>?_) λc22 h28=>?_
    .obtain⟨x23,f33,f34,h28⟩:=bI h28;(try simp only[zz,c20,e30,c21,c22,f33,f34,zy]);cases h28;exact tz [ok 0,ok 1,ok 2]
    (try simp only[zz,c20,e30,c21,c22,zy]);cases h28;exact tz [ok 0,ok 1,ok 2]
   (try simp only[zz,c20,e30,c21,zy]);cases h28;exact tz [ok 0,ok 1,ok 2]
  have e31:=nD c20;(try simp only[zz,c20,e31,zy]);cases h28;exact tz [ok 0,ok 1,ok 2]
 refine cd rfl ?_;(try simp only[zz]);refine gi h (λc25 h=>?_) λc25 h=>?_
 .refine ss (rg ?_);(try simp only[zz]);cases h;exact rt ez
 refine jm h (λj27=>⟨ds 3 (.ref 0 0 0 0::.dead::.ref 1 0 0 0::.dead::.ref 2 0 0 0::aa b11::ds 76 (ba j27::ds 59 [])),[.live 5 0 [Ea t0],.live 6 0 [wa t2],.live 9 0 [Za x1]]⟩) (λz36 h35=>?_) λj27 h35 h=>?_
 .refine rg ?_;(try simp only[zz]);refine gi h35 (λc26 h35=>?_) λc26 h35=>?_
  ·(try simp only[zz,c26]);cases h35;exact tz [ok 0,ok 1,ok 2]
  (try simp only[zz,c26]);cases h35;exact tz [ok 0,ok 1,ok 2]
 refine cd rfl ?_;(try simp only[zz]);refine gi h (λc28 h=>?_) λc28 h=>?_
 .refine ss (rg ?_);(try simp only[zz]);cases h;exact rt ez
 refine jm h (λj31=>⟨ds 3 (.ref 0 0 0 0::.dead::.ref 1 0 0 0::.dead::.ref 2 0 0 0::aa b11::ds 85 (ba j31::ds 50 [])),[.live 5 0 [Ea t0],.live 6 0 [wa t2],.live 9 0 [Za x1]]⟩) (λz38 h37=>?_) λj31 h37 h=>?_
 .refine rg ?_;(try simp only[zz]);refine gi h37 (λc29 h37=>?_) λc29 h37=>?_
  ·(try simp only[zz,c29]);refine gi h37 (λc30 h37=>?_) λc30 h37=>?_
   ·(try simp only[zz,c29,c30]);cases h37;exact tz [ok 0,ok 1,ok 2]
   (try simp only[zz,c29,c30]);cases h37;exact tz [ok 0,ok 1,ok 2]
  (try simp only[zz,c29]);cases h37;exact tz [ok 0,ok 1,ok 2]
 refine cd rfl ?_;(try simp only[zz]);refine gi h (λc32 h=>?_) λc32 h=>?_
 .refine ss (rg ?_);(try simp only[zz]);cases h;exact rt ez
 refine ss (rg ?_);(try simp only[zz]);refine cd rfl ?_;(try simp only[zz]);refine gi h (λc33 h=>?_) λc33 h=>?_
 .refine ss (rg ?_);(try simp only[zz]);cases h;exact rt ez
 refine ss (rg ?_);obtain⟨x34,a39,h⟩:=bs h;simp only[zz];refine cq (Xt a39) ?_ (by simp only[zg,c13,c16,c19,c25,c28,c32]);(try simp only[zz]);refine cd rfl ?_;(try simp only[zz]);refine gi h (λc35 h=>?_) λc35 h=>?_
 .refine ss (rg ?_);(try simp only[zz]);cases h;exact rt ez
 refine sk ?_;(try simp only[zz,c35]);obtain⟨z41,h40,h⟩:=bs h;refine tj (λ(q:Unit)=>⟨ds 3 (.ref 0 0 0 0::.dead::.ref 1 0 0 0::.dead::.ref 2 0 0 0::ds 137 []),[.live 5 0 [Ea t0],.live 6 0 [wa t2],.live 9 0 [Za x1]]⟩) z41 ?_ ?_
 .refine ss (rg ?_);(try simp only[zz]);refine cd rfl ?_;(try simp only[zz]);refine gi h40 (λc36 h40=>?_) λc36 h40=>?_
  .refine ss (rg ?_);obtain⟨x37,a42,h40⟩:=bs h40;simp only[zz];refine cq (kr a42) ?_ (by simp only[zg,c13,c16,c19,c25,c28,c32,c35]);(try simp only[zz]);refine ss (rg ?_);(try simp only[zz]);refine cd rfl ?_;(try simp only[zz]);refine gi h40 (λc38 h40=>?_) λc38 h40=>?_
   .have e43:=nT c38;refine ss (rg ?_);(try simp only[zz]);cases h40;cases h;exact rt ez
   have e44:=nD c38;refine sk ?_;(try simp only[zz,c38,e44]);cases h40;exact tz [ok 0,ok 1,ok 2]
  refine sk ?_;(try simp only[zz,c36]);cases h40;exact tz [ok 0,ok 1,ok 2]
 rintro⟨⟩ rfl;dsimp only at h;refine ss (dy Ho ?_);obtain⟨x39,f46,f47,h⟩:=bI h;obtain⟨x40,a48,h⟩:=bs h;simp only[zz,f46,f47,zy];refine cq (kr a48) ?_ (by simp only[zg,c13,c16,c19,c25,c28,c32,c35]);(try simp only[zz,f46,f47,zy]);cases h;exact rt ez
instance {t0 t1 t2 r}:Con (vm t0 t1 t2=some r) (Den Tryz.prog 182 [Ea t0,aa t1,wa t2] (aa r)):=⟨OC⟩
instance {t0 t1 t2 r}:Con (za t0 t1 t2=some r) (Den Tryz.prog 223 [Na t0,jb t1,dn t2] (.tup [ra r.1,aa r.2])):=⟨λh=>by
 refine dk 162 k223 ?_
 simp only[k223,Kf.of,zs,ze]
 unfold za at h
 exact pg trivial (.z 3 (.j 1 (λ(j5:Bool)=>⟨[.k 1,.p 1,.k 1,.p 4,.k 7,.p 1,.s (ba j5),.p 149],[.o 0,.o 1,.o 2]⟩) (.b (.t [ok 0,ok 1,ok 2]) (.b (.t [ok 0,ok 1,ok 2]) (.b (.t [ok 0,ok 1,ok 2]) (.b (.t [ok 0,ok 1,ok 2]) (.t [ok 0,ok 1,ok 2]))))) (.b .o (.b .o (.b .o (.b .o (.b .o (.b .o (.j 1 (λ(j17:Bool)=>⟨[.k 1,.p 14,.k 47,.s (ba j17),.p 102],[.o 0,.o 1,.o 2]⟩) (.b (.t [ok 0,ok 1,ok 2]) (.b (.t [ok 0,ok 1,ok 2]) (.b (.t [ok 0,ok 1,ok 2]) (.t [ok 0,ok 1,ok 2])))) .o)))))))))⟩
instance {t0 c10 r}:Con (Ua t0 (λx900=>Dd x900 c10)=some r) (Den Tryz.prog 179 [zp t0,.fn 180 [] [dr c10]] (ba r)):=⟨λh=>Ll (q1:=[dr c10]) (tE JC) (λx900 _ hb=>Bs hb) h⟩
theorem nB{t0 t1 r} (h:Dk t0 t1=some r):Den Tryz.prog 133 [Bb t0,aa t1] (.tup [aa r.1,aa r.2]):=by
 refine dk 161 k133 ?_
 simp only[k133,Kf.of,zs,ze]
 unfold Dk at h
 exact pg (And.intro @ij.eq_1 (And.intro @jj.eq_1 (And.intro @kj.eq_1 @lj.eq_1))) (.z 3 (.j 1 (λ(j8:Bool)=>⟨[.k 1,.p 3,.k 2,.p 2,.s (ba j8),.p 10],[.o 0,.o 1]⟩) (.b (.b (.t [ok 0,ok 1]) (.t [ok 0,ok 1])) (.t [ok 0,ok 1])) (.b .o (.b .o (.j 1 (λ(j16:Bool)=>⟨[.k 1,.p 6,.k 45,.s (ba j16),.p 110],[.o 0,.o 1]⟩) (.b (.b (.b (.t [ok 0,ok 1]) (.t [ok 0,ok 1])) (.t [ok 0,ok 1])) (.t [ok 0,ok 1])) (.b .o (.b .o (.b .o (.l 1 0 (λ(s20:Int)=>⟨[.k 1,.p 51,.k 35,.p 2,.s (aa s20),.p 73],[.o 0,.o 1]⟩) (λ(_:Unit)=>⟨[.k 1,.p 51],[.o 0,.o 1]⟩) [ok 0,ok 1] (.b (.b .o (.t [ok 0,ok 1])) (.t [ok 0,ok 1])) (.l 1 0 (λ(s27:Int)=>⟨[.k 1,.p 106,.k 1,.p 2,.s (aa s27),.p 52],[.o 0,.o 1]⟩) (λ(_:Unit)=>⟨[.k 1,.p 106],[.o 0,.o 1]⟩) [ok 0,ok 1] (.b (.b .o (.t [ok 0,ok 1])) (.t [ok 0,ok 1])) (.l 1 0 (λ(s35:Int)=>⟨[.k 6,.p 124,.k 5,.p 1,.s (aa s35),.p 26],[.o 1,.o 2]⟩) (λ(_:Unit)=>⟨[.k 6,.p 9],[.o 1]⟩) [ok 1,ok 2] (.b (.b .o (.t [ok 0,ok 1])) (.t [ok 0])) (.l 1 0 (λ(s40:Int)=>⟨[.k 6,.p 143,.k 2,.p 1,.s (aa s40),.p 10],[.o 0]⟩) (λ(_:Unit)=>⟨[],[]⟩) [ok 0] (.b (.b .o (.t [ok 0])) (.t [])) .o))))))))))))
instance {t0 t1 r}:Con (Dk t0 t1=some r) (Den Tryz.prog 133 [Bb t0,aa t1] (.tup [aa r.1,aa r.2])):=⟨nB⟩
instance zzi7 {t0 t1 t2 r}:Con (ub t0 t1 t2=some r) (Den Tryz.prog 158 [Na t0,jb t1,dn t2] (.tup [ra r.1,aa r.2])):=⟨λh=>by
 refine dk 51 k158 ?_
 simp only[k158,Kf.of,zs,ze]
 unfold ub at h
 exact pg trivial (.z 2 (.j 1 (λ(j4:Bool)=>⟨[.k 1,.p 1,.k 1,.p 4,.k 13,.s (ba j4),.p 33],[.o 0,.o 1,.o 2]⟩) (.b (.t [ok 0,ok 1,ok 2]) (.t [ok 0,ok 1,ok 2])) (.b .o (.b .o (.z 1 (.j 1 (λ(j11:Bool)=>⟨[.k 1,.p 19,.k 16,.s (ba j11),.p 17],[.o 0,.o 1,.o 2]⟩) (.b (.t [ok 0,ok 1,ok 2]) (.t [ok 0,ok 1,ok 2])) .o))))))⟩
instance {t0 r}:Con (lp t0=some r) (Den Tryz.prog 92 [Bb t0] (re r)):=⟨λh=>by
 refine dk 30 k92 ?_
 simp only[k92,Kf.of,zs,ze]
 unfold lp at h
 exact pg @Kh.eq_1 (.b .o (.l 1 0 (λ(s2:Int)=>⟨[.k 1,.p 5,.k 7,.p 1,.s (aa s2),.p 16],[.o 0,.o 1]⟩) (λ(_:Unit)=>⟨[.k 2,.p 4],[.o 1]⟩) [ok 0,ok 1] (.b (.b .o (.t [ok 0,ok 1])) (.t [ok 1])) .o))⟩
theorem uv{R116:(GEval_evaluator -> Int -> Option (GValue × Int))} {R157:(GEval_evaluator -> GNode -> (List Int) -> Option (GValue × Int))} {R218:(GEval_evaluator -> Int -> Option (GValue × Int))} {t0 t1 r} [∀ t0 t1 r,Con (R116 t0 t1=some r) (Den Tryz.prog 116 [ta t0,aa t1] (.tup [ra r.1,aa r.2]))] [∀ t0 t1 t2 r,Con (R157 t0 t1 t2=some r) (Den Tryz.prog 157 [ta t0,Na t1,la t2] (.tup [ra r.1,aa r.2]))] [∀ t0 t1 r,Con (R218 t0 t1=some r) (Den Tryz.prog 218 [ta t0,aa t1] (.tup [ra r.1,aa r.2]))] (h:Fc R116 R157 R218 t0 t1=some r):Den Tryz.prog 116 [ta t0,aa t1] (.tup [ra r.1,aa r.2]):=by
 refine dk 63 k116 ?_
 simp only[k116,Kf.of,zs,ze]
 unfold Fc at h
 exact pg @kd.eq_1 (.z 5 (.j 1 (λ(j5:Bool)=>⟨[.k 2,.p 3,.k 1,.p 7,.k 10,.s (ba j5),.p 41],[.o 0,.o 1,.o 2]⟩) (.b (.t [ok 0,ok 1,ok 2]) (.b (.t [ok 0,ok 1,ok 2]) (.t [ok 0,ok 1,ok 2]))) (.b .o (.l 2 1 (λ(q:((List GValue) × Int))=>⟨[.k 2,.p 5,.k 1,.p 15,.k 13,.p 2,.s (aa q.2),.p 26],[.o 0,.o 1,.o 2,.c 3 ((q.1.map ra))]⟩) (λ(b19:(List GValue))=>⟨[.k 2,.p 5,.k 1,.p 15],[.o 0,.o 1,.o 2,.c 3 ((b19.map ra))]⟩) [ok 0,ok 1,ok 2,ok 3] (.b (.b .o (.t [ok 0,ok 1,ok 2,ok 3])) (.t [ok 0,ok 1,ok 2,ok 3])) .o))))
theorem tv{R116:(GEval_evaluator -> Int -> Option (GValue × Int))} {R157:(GEval_evaluator -> GNode -> (List Int) -> Option (GValue × Int))} {R218:(GEval_evaluator -> Int -> Option (GValue × Int))} {t0 t1 t2 r} [∀ t0 t1 r,Con (R116 t0 t1=some r) (Den Tryz.prog 116 [ta t0,aa t1] (.tup [ra r.1,aa r.2]))] [∀ t0 t1 t2 r,Con (R157 t0 t1 t2=some r) (Den Tryz.prog 157 [ta t0,Na t1,la t2] (.tup [ra r.1,aa r.2]))] [∀ t0 t1 r,Con (R218 t0 t1=some r) (Den Tryz.prog 218 [ta t0,aa t1] (.tup [ra r.1,aa r.2]))] (h:pf R116 R157 R218 t0 t1 t2=some r):Den Tryz.prog 157 [ta t0,Na t1,la t2] (.tup [ra r.1,aa r.2]):=by
 refine dk 66 k157 ?_
 simp only[k157,Kf.of,zs,ze]
 unfold pf at h
 exact pg trivial (.b .o (.a [[],[],[],[],[],[],[],[],[],[]] (.b .o (.z 1 (.j 1 (λ(j6:Bool)=>⟨[.k 2,.p 5,.k 1,.p 1,.k 17,.s (ba j6),.p 42],[.o 0,.o 1,.o 2,.o 3]⟩) (.b (.t [ok 0,ok 1,ok 2,ok 3]) (.t [ok 0,ok 1,ok 2,ok 3])) .o)))))
theorem Ht{R116:(GEval_evaluator -> Int -> Option (GValue × Int))} {R157:(GEval_evaluator -> GNode -> (List Int) -> Option (GValue × Int))} {R218:(GEval_evaluator -> Int -> Option (GValue × Int))} {t0 t1 r} [∀ t0 t1 r,Con (R116 t0 t1=some r) (Den Tryz.prog 116 [ta t0,aa t1] (.tup [ra r.1,aa r.2]))] [∀ t0 t1 t2 r,Con (R157 t0 t1 t2=some r) (Den Tryz.prog 157 [ta t0,Na t1,la t2] (.tup [ra r.1,aa r.2]))] [∀ t0 t1 r,Con (R218 t0 t1=some r) (Den Tryz.prog 218 [ta t0,aa t1] (.tup [ra r.1,aa r.2]))] (h:Dc R116 R157 R218 t0 t1=some r):Den Tryz.prog 218 [ta t0,aa t1] (.tup [ra r.1,aa r.2]):=by
 refine dk 26 k218 ?_
 simp only[k218,Kf.of,zs,ze]
 unfold Dc at h
 exact pg trivial (.b .o (.z 1 (.j 1 (λ(j5:Bool)=>⟨[.k 4,.p 1,.k 1,.p 1,.k 18,.s (ba j5),.p 2],[.o 1,.o 2]⟩) (.b (.t [ok 1,ok 2]) (.t [ok 1,ok 2])) .o)))
theorem Hf:∀n,(∀ t0 t1 r,(ea n).1 t0 t1=some r->Den Tryz.prog 116 [ta t0,aa t1] (.tup [ra r.1,aa r.2]))/\(∀ t0 t1 t2 r,(ea n).2.1 t0 t1 t2=some r->Den Tryz.prog 157 [ta t0,Na t1,la t2] (.tup [ra r.1,aa r.2]))/\(∀ t0 t1 r,(ea n).2.2 t0 t1=some r->Den Tryz.prog 218 [ta t0,aa t1] (.tup [ra r.1,aa r.2]))
|0=>⟨λ_ _ _ h=>(nomatch h),λ_ _ _ _ h=>(nomatch h),λ_ _ _ h=>(nomatch h)⟩
|n+1=>by
 obtain⟨H0,H1,H2⟩:=Hf n
 haveI I0:∀ t0 t1 r,Con ((ea n).1 t0 t1=some r) (Den Tryz.prog 116 [ta t0,aa t1] (.tup [ra r.1,aa r.2])):=λt0 t1 r=>⟨H0 t0 t1 r⟩
 haveI I1:∀ t0 t1 t2 r,Con ((ea n).2.1 t0 t1 t2=some r) (Den Tryz.prog 157 [ta t0,Na t1,la t2] (.tup [ra r.1,aa r.2])):=λt0 t1 t2 r=>⟨H1 t0 t1 t2 r⟩
 haveI I2:∀ t0 t1 r,Con ((ea n).2.2 t0 t1=some r) (Den Tryz.prog 218 [ta t0,aa t1] (.tup [ra r.1,aa r.2])):=λt0 t1 r=>⟨H2 t0 t1 r⟩
 exact⟨λt0 t1 r h=>uv (R116:=(ea n).1) (R157:=(ea n).2.1) (R218:=(ea n).2.2) h,λt0 t1 t2 r h=>tv (R116:=(ea n).1) (R157:=(ea n).2.1) (R218:=(ea n).2.2) h,λt0 t1 r h=>Ht (R116:=(ea n).1) (R157:=(ea n).2.1) (R218:=(ea n).2.2) h⟩
theorem Hw{t0 t1 r} (h:Zj t0 t1=some r):Den Tryz.prog 116 [ta t0,aa t1] (.tup [ra r.1,aa r.2]):=(Hf Kr).1 _ _ _ h
instance {t0 t1 r}:Con (Zj t0 t1=some r) (Den Tryz.prog 116 [ta t0,aa t1] (.tup [ra r.1,aa r.2])):=⟨Hw⟩
theorem Gw{t0 t1 t2 r} (h:qt t0 t1 t2=some r):Den Tryz.prog 157 [ta t0,Na t1,la t2] (.tup [ra r.1,aa r.2]):=(Hf Kr).2.1 _ _ _ _ h
instance {t0 t1 t2 r}:Con (qt t0 t1 t2=some r) (Den Tryz.prog 157 [ta t0,Na t1,la t2] (.tup [ra r.1,aa r.2])):=⟨Gw⟩
theorem Fu{t0 t1 r} (h:rq t0 t1=some r):Den Tryz.prog 218 [ta t0,aa t1] (.tup [ra r.1,aa r.2]):=(Hf Kr).2.2 _ _ _ h
instance {t0 t1 r}:Con (rq t0 t1=some r) (Den Tryz.prog 218 [ta t0,aa t1] (.tup [ra r.1,aa r.2])):=⟨Fu⟩
instance {t0 r}:Con (Cl t0=some r) (Den Tryz.prog 55 [Bb t0] (re r)):=⟨λh=>by
 refine dk 18 k55 ?_
 simp only[k55,Kf.of,zs,ze]
 unfold Cl at h
 exact pg trivial .o⟩
instance {t0 t1 r}:Con (ib t0 t1=some r) (Den Tryz.prog 74 [Wa t0,dn t1] (.tup [ra r.1,aa r.2])):=⟨λh=>by
 refine dk 25 k74 ?_
 simp only[k74,Kf.of,zs,ze]
 unfold ib at h
 exact pg trivial .o⟩
instance {t0 t1 t2 t3 r}:Con (qm t0 t1 t2 t3=some r) (Den Tryz.prog 25 [Bb t0,aa t1,aa t2,aa t3] (.tup [Eb r.1,aa r.2])):=⟨λh=>by
 refine dk 103 k25 ?_
 simp only[k25,Kf.of,zs,ze]
 unfold qm at h
 exact pg (And.intro @ik.eq_1 @lk.eq_1) (.b .o (.z 1 (.j 1 (λ(j7:Bool)=>⟨[.k 1,.p 7,.k 40,.s (ba j7),.p 58],[.o 0]⟩) (.b (.b (.b (.t [ok 0]) (.t [ok 0])) (.t [ok 0])) (.t [ok 0])) (.b .o (.z 1 (.j 1 (λ(j10:Bool)=>⟨[.k 1,.p 47,.k 6,.s (ba j10),.p 52],[.o 0]⟩) (.b (.t [ok 0]) (.t [ok 0])) (.b .o (.l 1 0 (λ(s15:Int)=>⟨[.k 4,.p 50,.k 13,.p 2,.s (aa s15),.p 37],[.o 0,.o 1,.o 2]⟩) (λ(_:Unit)=>⟨[.k 4,.p 9],[.o 0,.o 1]⟩) [ok 0,ok 1,ok 2] (.b (.b .o (.t [ok 0,ok 1,ok 2])) (.t [ok 0,ok 1])) (.l 2 1 (λ(q:((List (List Int)) × Int))=>⟨[.k 4,.p 7,.k 1,.p 4,.s (.own 1 0),.p 61,.k 1,.p 2,.s (aa q.2),.p 25],[.o 0,.n 1 ((q.1.map la))]⟩) (λ(b33:(List (List Int)))=>⟨[.k 16,.s (.own 0 0),.p 61],[.n 1 ((b33.map la))]⟩) [ok 0,on 1] (.b (.z 3 (.j 1 (λ(j29:(List Int))=>⟨[.k 4,.p 13,.k 2,.s (la j29),.p 62],[.o 0,.o 1]⟩) (.b (.t [ok 0,ok 1]) (.t [ok 0,ok 1])) (.t [ok 0,ov 1 1]))) (.t [ok 1])) .o)))))))))⟩
instance {t0 t1 t2 t3 t4 r}:Con (Nb t0 t1 t2 t3 t4=some r) (Den Tryz.prog 37 [Bb t0,aa t1,kp t2,ba t3,aa t4] (Wg r)):=⟨λh=>by
 refine dk 58 k37 ?_
 simp only[k37,Kf.of,zs,ze]
 unfold Nb at h
 exact pg trivial (.b .o (.z 1 (.j 1 (λ(j8:Bool)=>⟨[.k 1,.p 1,.k 3,.p 6,.k 36,.s (ba j8),.p 15],[.o 0,.o 1,.o 2]⟩) (.b (.b (.b (.b (.t [ok 0,ok 1,ok 2]) (.t [ok 0,ok 1,ok 2])) (.t [ok 0,ok 1,ok 2])) (.t [ok 0,ok 1,ok 2])) (.t [ok 0,ok 1,ok 2])) .o)))⟩
instance zzi11 {t0 t1 t2 t3 r}:Con (Xe t0 t1 t2 t3=some r) (Den Tryz.prog 43 [Ea t0,dn t1,aa t2,aa t3] (.tup [aa r.1,Wg r.2])):=⟨λh=>by
 refine dk 83 k43 ?_
 simp only[k43,Kf.of,zs,ze]
 unfold Xe at h
 exact pg @ie.eq_1 (.l 2 1 (λ(q:((List Bool) × Int))=>⟨[.k 2,.p 6,.k 1,.p 10,.k 12,.p 2,.s (aa q.2),.p 53],[.o 0,.o 1,.o 2,.c 3 ((q.1.map ba))]⟩) (λ(b18:(List Bool))=>⟨[.k 9,.p 10],[.o 2,.c 3 ((b18.map ba))]⟩) [ok 0,ok 1,ok 2,ok 3] (.b (.e 1 (λ(j15:(List Bool))=>⟨[.k 2,.p 32],[.o 0,.o 1,.o 2,.c 3 ((j15.map ba))]⟩) (.b (.t [ok 0,ok 1,ok 2,ok 3]) (.a [[],[],[],[],[],[],[],[],[],[],[],[],[]] (.b .o (.t [ok 0,ok 1,ok 2,ok 3])))) (.t [ok 0,ok 1,ok 2,ok 3])) (.t [ok 2,ok 3])) .o)⟩
instance {t0 t1 r}:Con (Qc t0 t1=some r) (Den Tryz.prog 48 [Xj t0,jb t1] (aa r)):=⟨λh=>by
 refine dk 78 k48 ?_
 simp only[k48,Kf.of,zs,ze]
 unfold Qc at h
 exact pg @Vc.eq_1 (.l 2 1 (λ(q:((List Bool) × Int))=>⟨[.p 1,.k 4,.p 7,.k 19,.p 2,.s (aa q.2),.p 46],[.c 0 ((q.1.map ba)),.o 1]⟩) (λ(b19:(List Bool))=>⟨[.p 1,.k 4,.p 1],[.c 0 ((b19.map ba))]⟩) [ok 0,ok 1] (.b (.j 1 (λ(j16:(List Bool))=>⟨[.p 34],[.c 0 ((j16.map ba)),.o 1]⟩) (.b (.t [ok 0,ok 1]) (.b (.t [ok 0,ok 1]) (.t [ok 0,ok 1]))) (.t [ok 0,ok 1])) (.t [ok 0])) .o)⟩
instance {t0 t1 t2 t3 r}:Con (De t0 t1 t2 t3=some r) (Den Tryz.prog 16 [Bb t0,aa t1,aa t2,aa t3] (.tup [la r.1,aa r.2])):=⟨λh=>by
 refine dk 80 k16 ?_
 simp only[k16,Kf.of,zs,ze]
 unfold De at h
 exact pg (And.intro @zh.eq_1 (And.intro @Ah.eq_1 (And.intro @ql.eq_1 (And.intro @xp.eq_1 (And.intro @kl.eq_1 (And.intro @xl.eq_1 (And.intro @k49.eq_1 @k47.eq_1))))))) (.b .o (.l 3 1 (λ(q:((List Bool) × (List Int) × Bool))=>⟨[.k 10,.p 1,.k 1,.p 3,.s (ba q.2.2),.p 4],[.c 1 ((q.1.map ba)),.c 2 ((q.2.1.map aa))]⟩) (λ(b44:(List Bool))=>⟨[.k 12,.p 2],[.c 1 ((b44.map ba))]⟩) [ok 1,ok 2] (.b (.j 1 (λ(j26:(List Bool))=>⟨[.k 10,.p 5],[.c 0 ((j26.map ba)),.o 1]⟩) (.i k49 1 37 (λ(i21:(List GValue))=>⟨[.s (.own 2 0)],[.O 0,.O 1,.n 3 ((i21.map ra))]⟩) (.l 2 1 (λ(q:((List GValue) × Int))=>⟨[.k 1,.p 2,.k 4,.s (.own 2 0),.p 2,.k 1,.p 2,.s (aa q.2),.p 26],[.O 0,.O 1,.n 3 ((q.1.map ra))]⟩) (λ(b20:(List GValue))=>⟨[.k 7,.s (.own 2 0),.p 2],[.O 0,.O 1,.n 3 ((b20.map ra))]⟩) [ok 0,ok 1,on 3] (.b (.t [ok 0,ok 1,ov 2 1]) (.t [ok 0,ok 1,ok 2])) (.t [ok 0,ok 1,ok 2])) (.b (.t [ok 0,ok 1]) (.t [ok 0,ok 1]))) (.i k47 2 30 (λ(q:((List Int) × Bool))=>⟨[.s (ba q.2)],[.O 0,.C 1 ((q.1.map aa))]⟩) (.l 2 1 (λ(q:((List Int) × Int))=>⟨[.p 4,.k 1,.s (aa q.2)],[.O 0,.C 1 ((q.1.map aa))]⟩) (λ(b38:(List Int))=>⟨[],[.O 0,.C 1 ((b38.map aa))]⟩) [ok 0,ok 1] (.b (.b (.t [ok 0,ok 1]) (.t [ok 0,ok 1])) (.t [ok 0,ok 1])) (.t [ok 0,ok 1])) (.t [ok 0,ok 1]))) (.t [ok 0])) (.l 2 1 (λ(q:((List Int) × Int))=>⟨[.k 13,.p 4,.s (.own 1 0),.p 45,.k 3,.p 2,.s (aa q.2),.p 15],[.o 0,.n 1 ((q.1.map aa))]⟩) (λ(b55:(List Int))=>⟨[.k 17,.s (.own 0 0),.p 45],[.n 1 ((b55.map aa))]⟩) [ok 0,on 1] (.b (.j 1 (λ(j52:(List Int))=>⟨[.k 13,.p 56],[.o 0,.c 1 ((j52.map aa))]⟩) (.b (.t [ok 0,ov 1 1]) (.t [ok 0,ok 1])) (.t [ok 0,ok 1])) (.t [ok 1])) .o)))⟩
instance {t0 t1 t2 t3 r}:Con (Hc t0 t1 t2 t3=some r) (Den Tryz.prog 21 [Bb t0,aa t1,aa t2,aa t3] (.tup [jb r.1,ba r.2.1,aa r.2.2])):=⟨λh=>by
 refine dk 102 k21 ?_
 simp only[k21,Kf.of,zs,ze]
 unfold Hc at h
 exact pg (And.intro @Ld.eq_1 (And.intro @si.eq_1 (And.intro @ym.eq_1 (And.intro @qi.eq_1 (And.intro @ti.eq_1 (And.intro @k49.eq_1 @k47.eq_1)))))) (.b .o (.z 1 (.j 1 (λ(j7:Bool)=>⟨[.k 1,.p 7,.k 40,.s (ba j7),.p 57],[.o 0]⟩) (.b (.b (.b (.t [ok 0]) (.t [ok 0])) (.t [ok 0])) (.t [ok 0])) (.b .o (.b .o (.l 2 0 (λ(q:((List Int) × Bool))=>⟨[.k 2,.p 1,.k 10,.p 1,.k 1,.p 2,.s (ba q.2),.p 30],[.c 1 ((q.1.map aa))]⟩) (λ(_:Unit)=>⟨[],[]⟩) [ok 1] (.b (.i k49 1 37 (λ(i29:(List GValue))=>⟨[.s (.own 1 0)],[.O 0,.n 3 ((i29.map ra))]⟩) (.l 2 1 (λ(q:((List GValue) × Int))=>⟨[.k 1,.p 2,.k 4,.s (.own 1 0),.p 2,.k 1,.p 2,.s (aa q.2),.p 26],[.O 0,.n 3 ((q.1.map ra))]⟩) (λ(b28:(List GValue))=>⟨[.k 7,.s (.own 1 0),.p 2],[.O 0,.n 3 ((b28.map ra))]⟩) [ok 0,on 3] (.b (.t [ok 0,ov 1 1]) (.t [ok 0,ok 1])) (.t [ok 0,ok 1])) (.z 1 (.j 1 (λ(j33:Bool)=>⟨[.k 2,.p 15,.k 1,.p 1,.k 85,.s (ba j33),.p 1],[.o 0]⟩) (.b (.t [ok 0]) (.t [ok 0])) (.b .o (.i k47 2 30 (λ(q:((List Int) × Bool))=>⟨[.s (ba q.2)],[.C 0 ((q.1.map aa))]⟩) (.l 2 1 (λ(q:((List Int) × Int))=>⟨[.p 4,.k 1,.s (aa q.2)],[.C 0 ((q.1.map aa))]⟩) (λ(b46:(List Int))=>⟨[],[.C 0 ((b46.map aa))]⟩) [ok 0] (.b (.b (.t [ok 0]) (.t [ok 0])) (.t [ok 0])) (.t [ok 0])) (.t [ok 0])))))) (.t [])) .o))))))⟩
instance {t0 t1 t2 t3 r}:Con (Ya t0 t1 t2 t3=some r) (UQ Tryz.prog 84 [Ea t0] [aa t2,Wv t3] 6 [dn t1] [dn r.2] (.tup [la r.1.1,Wg r.1.2])):=⟨λh=>by
 refine UQ.of 101 k84 ?_
 simp only[k84,Kf.of,zs,ze]
 unfold Ya at h
 exact pg @Zb.eq_1 (.l 3 2 (λ(q:((List GValue) × (List Int) × Int))=>⟨[.k 1,.p 7,.k 1,.p 2,.k 24,.p 2,.s (aa q.2.2),.p 67],[.O 0,.c 3 ((q.1.map ra)),.o 1,.o 2,.c 4 ((q.2.1.map aa))]⟩) (λ(q:((List GValue) × (List Int)))=>⟨[.k 9,.p 2],[.O 0,.c 3 ((q.1.map ra)),.o 2,.c 4 ((q.2.map aa))]⟩) [ok 0,ok 3,ok 1,ok 2,ok 4] (.b (.e 2 (λ(q:((List GValue) × (List Int)))=>⟨[.k 1,.p 37],[.O 0,.c 1 ((q.1.map ra)),.o 2,.o 3,.c 4 ((q.2.map aa))]⟩) (.b (.t [ok 0,ok 1,ok 2,ok 3,ok 4]) (.b (.t [ok 0]) (.b (.t [ok 0]) (.b (.t [ok 0]) (.a [[],[],[],[],[],[],[],[],[],[],[],[],[],[],[]] (.b (.t [ok 0]) (.t [ok 0,ok 1,ok 2,ok 3,ok 4]))))))) (.t [ok 0,ok 1,ok 2,ok 3,ok 4])) (.t [ok 0,ok 1,ok 3,ok 4])) (.t [ok 0]))⟩
end Go.Proofs.Dev
