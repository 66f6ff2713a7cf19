/-
  Contracts of the functions: each answers as its plain partial function says.
-/
import Derived.Test.YtjjfnbpfgfopbaaGreatDoorK
import Derived.Test.YtjjfnbpfgfopbaaGreatDoorG
import Derived.Test.YtjjfnbpfgfopbaaGreatDoorPE
import Derived.Test.YtjjfnbpfgfopbaaGreatDoorH1
import Derived.Test.YtjjfnbpfgfopbaaGreatDoorH2
import Derived.Test.YtjjfnbpfgfopbaaGreatDoorL1
import Derived.Test.YtjjfnbpfgfopbaaGreatDoorQ4
import Derived.Test.YtjjfnbpfgfopbaaGreatDoorQ5
import Derived.Test.YtjjfnbpfgfopbaaGreatDoorQ6
import Derived.Test.YtjjfnbpfgfopbaaGreatDoorQ7
open Bool renaming and_eq_true->Caa,and_true->Jaa
open List renaming all_cons->Gab,append_assoc->Saa,cons_append->Iaa,ext_getElem->Yab,getElem?_concat_length->Waa,getElem_mem->xaa,length_cons->uaa,length_nil->Faa,map_append->Zab,map_cons->Gaa,map_nil->xab,map_set->Rac,mem_map->fab,replicate->raa,replicate_succ'->Uab
open Nat renaming reduceAdd->Oaa,sub_self->yac,zero_le->sab
open Option.some renaming inj->Raa,injEq->aab
set_option linter.all false
set_option maxHeartbeats 1000000
set_option maxRecDepth 10000
namespace Go.Proofs.Dev
open Go Go.Tm
instance zI185{t0 t1 t2 t3 t4 r}:Con (Vq t0 t1 t2 t3 t4=some r) (Den Tryz.prog 82 [Aa t0,aa t1,Da t2,aa t3,ua t4] (Ca r)):=⟨λh=>by
 refine dk 47 k82 ?_
 simp only[k82,Kf.of,zs,ze]
 unfold Vq at h
 exact pg @Dm.eq_1 (.l 3 2 (λ(q:((List GPosting) × Int × Int))=>⟨[.p 2,.k 1,.p 7,.k 1,.s (.own 1 0),.s (aa q.2.1),.p 5,.s (aa q.2.2),.p 33],[.o 0,.n 4 ((q.1.map ta))]⟩) (λ(q:((List GPosting) × Int))=>⟨[.p 1,.k 2,.p 7,.k 1,.s (.own 1 0),.s (aa q.2),.p 3],[.o 0,.n 4 ((q.1.map ta))]⟩) [ok 0,on 4] (.b (.j 2 (λ(q:((List GPosting) × Int))=>⟨[.p 12,.s (aa q.2),.p 6],[.o 0,.c 1 ((q.1.map ta))]⟩) (.z 3 (.j 1 (λ(j8:Bool)=>⟨[.p 19,.k 12,.s (ba j8),.p 20],[.o 0,.o 1,.o 2]⟩) (.b (.t [ok 0,ok 1,ok 2]) (.t [ok 0,ok 1,ok 2])) (.b (.t [ok 0,ok 1]) (.t [ok 0,ov 1 1])))) (.t [ok 0,ok 1])) (.t [ok 0,ok 1])) .o)⟩
instance zI186{t0 c10 r}:Con (Wb t0 (λx900=>Md x900 c10)=some r) (Den Tryz.prog 175 [Cu t0,.fn 176 [] [Au c10]] (.tup [aa r.1,ba r.2])):=⟨λh=>xp (q1:=[Au c10]) (DC FA) (λx900 _ hb=>dr hb) h⟩
theorem AA{t0 t1 r} (h:Uj t0 t1=some r):Den Tryz.prog 151 [Qb t0,gh t1] (.tup [aa r.1,aa r.2]):=by
 refine dk 119 k151 ?_
 simp only[k151,Kf.of,zs,ze]
 unfold Uj at h
 exact pg @Ui.eq_1 (.b .o (.z 1 (.j 1 (λ(j5:Bool)=>⟨[.k 1,.p 3,.k 25,.s (ba j5),.p 91],[.o 0]⟩) (.b (.t [ok 0]) (.t [ok 0])) (.b .o (.l 1 0 (λ(s9:Int)=>⟨[.k 2,.p 27,.k 16,.p 2,.s (aa s9),.p 73],[.o 0]⟩) (λ(_:Unit)=>⟨[],[]⟩) [ok 0] (.b (.z 3 (.j 1 (λ(j15:Bool)=>⟨[.k 2,.p 46,.k 23,.s (ba j15),.p 49],[.o 0,.o 1]⟩) (.b (.b (.t [ok 0,ok 1]) (.t [ok 0,ok 1])) (.t [ok 0,ok 1])) (.b .o (.z 1 (.j 1 (λ(j20:Bool)=>⟨[.k 2,.p 69,.k 25,.s (ba j20),.p 24],[.o 0,.o 1]⟩) (.b (.b (.b (.t [ok 0,ok 1]) (.t [ok 0,ok 1])) (.t [ok 0,ok 1])) (.t [ok 0,ok 1])) (.b .o (.z 1 (.j 1 (λ(j23:Bool)=>⟨[.k 2,.p 94,.k 11,.s (ba j23),.p 13],[.o 0,.o 1]⟩) (.b (.t [ok 0,ok 1]) (.t [ok 0,ok 1])) (.b .o (.b .o (.t [ok 0]))))))))))) (.t [])) .o)))))
instance zI187{t0 t1 r}:Con (Uj t0 t1=some r) (Den Tryz.prog 151 [Qb t0,gh t1] (.tup [aa r.1,aa r.2])):=⟨AA⟩
instance zI188{t0 t1 r}:Con (Tc t0 t1=some r) (Den Tryz.prog 170 [Ma t0,aa t1] (ua r)):=⟨λh=>by
 refine dk 16 k170 ?_
 simp only[k170,Kf.of,zs,ze]
 unfold Tc at h
 exact pg trivial (.z 2 (.j 1 (λ(j2:Bool)=>⟨[.k 1,.p 3,.k 9,.s (ba j2),.p 4],[.o 0]⟩) (.b (.t [ok 0]) (.t [ok 0])) .o))⟩
instance zI189{t0 t1 r}:Con (Yh t0 t1=some r) (Den Tryz.prog 171 [Ma t0,aa t1] (ua r)):=⟨λh=>by
 refine dk 93 k171 ?_
 simp only[k171,Kf.of,zs,ze]
 unfold Yh at h
 exact pg (And.intro @qh.eq_1 @Yn.eq_1) (.z 2 (.j 1 (λ(j2:Bool)=>⟨[.k 1,.p 3,.k 21,.s (ba j2),.p 69],[.o 0]⟩) (.b (.t [ok 0]) (.t [ok 0])) (.b .o (.l 2 1 (λ(q:((List Bool) × Int))=>⟨[.k 2,.p 23,.k 11,.p 2,.s (aa q.2),.p 56],[.o 0,.c 1 ((q.1.map ba))]⟩) (λ(b17:(List Bool))=>⟨[.k 2,.p 23],[.o 0,.c 1 ((b17.map ba))]⟩) [ok 0,ok 1] (.b (.t [ok 0,ok 1]) (.t [ok 0,ok 1])) (.l 2 1 (λ(q:((List Int) × Int))=>⟨[.k 2,.p 6,.s (.own 2 0),.p 37,.k 1,.p 2,.s (aa q.2),.p 45],[.o 0,.o 1,.n 1 ((q.1.map aa))]⟩) (λ(b34:(List Int))=>⟨[.k 8,.s (.own 0 0),.p 37],[.n 1 ((b34.map aa))]⟩) [ok 0,ok 1,on 1] (.b (.j 1 (λ(j31:(List Int))=>⟨[.k 2,.p 48],[.o 0,.o 1,.c 2 ((j31.map aa))]⟩) (.z 2 (.j 1 (λ(j25:Bool)=>⟨[.k 2,.p 48,.k 21,.s (ba j25),.p 23],[.o 0,.o 1,.o 2,.o 3]⟩) (.b (.b (.t [ok 0,ok 1,ok 2,ok 3]) (.t [ok 0,ok 1,ok 2,ok 3])) (.t [ok 0,ok 1,ok 2,ok 3])) (.b (.t [ok 0,ok 1,ok 2]) (.t [ok 0,ok 1,ov 2 2])))) (.t [ok 0,ok 1,ok 2])) (.t [ok 2])) .o)))))⟩
instance zI190{t0 t1 r}:Con (Vr t0 t1=some r) (Den Tryz.prog 191 [Vg t0,aa t1] (.tup [aa r.1,aa r.2])):=⟨λh=>by
 refine dk 15 k191 ?_
 simp only[k191,Kf.of,zs,ze]
 unfold Vr at h
 exact pg trivial .o⟩
def ju(n:Nat) (F:Nat->List Int):LL:=(List.range n).map λd=>((F d).length,F d)
theorem qJ{n:Nat}{F:Nat->List Int}:(ju n F).length=n:=by simp[ju]
theorem pJ{n d:Nat}{F:Nat->List Int}(h:d<n):(ju n F)[d]?=some ((F d).length,F d):=by grind[ju]
theorem AS{n d:Nat}{F F':Nat->List Int}{x:Int}(h1:F' d=F d++[x]) (h2:∀e,e≠d->F' e=F e):(ju n F).set d ((F d).length+1,F d++[x])=ju n F':=by
 unfold ju;apply Yab
 all_goals grind
def vO(I:List Int) (L:LL):List Ent:=.live 1 0 (I.map aa)::.live 1 0 (owns 4 L)::Lc L
def P5(l:List Int) (v:Nat) (I:List Int) (L:LL):List Ent:=cw l v 0 (vO I L)
theorem wI{I:List Int}{L:LL}:(vO I L).length=L.length+2:=by simp[vO,um]
theorem XA{I:List Int}{L:LL}:(vO I L).all (Ent.below ((vO I L).length+2))=true:=by
 rw[wI];unfold vO;simp only[Gab,Caa];exact⟨Ib _ _ (Fr.l _),Ks (by omega),qv⟩
theorem GD(t:List D) (a b c:Ent) (n:Nat):∀x,x<=n->vt 1 3 x ⟨t,[a,b,c,.live 1 0 (raa n (.v (.slice none 0 0)))]⟩=⟨t,a::b::c::.live 1 0 (owns 4 (raa x (0,[]))++raa (n-x) (.v (.slice none 0 0)))::Lc (raa x (0,[]))⟩
 |0,_=>by simp[vt,owns,Lc]
 |x+1,h=>by
  rw[vt,GD t a b c n x (by omega)];unfold FD;simp only[List.getElem?_cons_succ,List.getElem?_cons_zero];have hl:(owns 4 (raa x ((0:Nat),([]:List Int)))).length=x:=by grind[Uq]
  rw[List.getElem?_append_right (by omega),hl,yac,List.getElem?_replicate,if_pos (by omega)];simp only[List.set_cons_succ,List.set_cons_zero,uaa,um,List.length_replicate,Iaa,St.mk.injEq,true_and,List.cons.injEq,Ent.live.injEq];refine⟨?_,?_⟩
  .rw[List.set_append,if_neg (by omega),hl,yac,Uab (n:=x),YE,Saa];congr 1;obtain⟨k,hk⟩:∃k,n-x=k+1:=⟨n-x-1,by omega⟩
   grind[owns]
  grind[Lc,Uab]
theorem zS{n:Nat}{F:Nat->List Int}(h:∀d,F d=[]):ju n F=raa n (0,[]):=by
 unfold ju;apply Yab
 all_goals simp_all
theorem HI{n:Nat}:fa (raa n (.v (.int .i64 0)))=true:=Ci.2 λd hd=>by rw[List.eq_of_mem_replicate hd];rfl
def E1(g:List (List Int)) (y:Nat×List Int×Nat):St:=⟨ds 4 (xc g::.own 3 0::.own 2 0::.ref 0 0 0 0::ds 19 (xc g::aa g.length::aa y.1::ds 83 [])),P5 y.2.1 y.2.2 (Nz g y.1) (ju g.length (Qg g y.1))⟩
def E2(g:List (List Int)) (l:List Int) (v i j:Nat):St:=⟨ds 4 (xc g::.own 3 0::.own 2 0::.ref 0 0 0 0::aa i::ua (g.getD i [])::ds 17 (xc g::aa g.length::aa i::ds 9 (ua (g.getD i [])::aa (g.getD i []).length::aa j::ds 71 []))),P5 l v (Nz g (i+1)) (ju g.length (Pp g i j))⟩
theorem I6{g:List (List Int)}{y:Nat×List Int×Nat}:Fit 0 (E1 g y):=by
 refine wx XA (sab _) ?_
 simp_all[belows,Tm.below,wI,mj,uk,kc,Fr.h]
theorem J6{g:List (List Int)}{l:List Int}{v i j:Nat}:Fit 0 (E2 g l v i j):=by
 refine wx XA (sab _) ?_
 simp_all[belows,Tm.below,wI,mj,uk,kc,Fr.h]
def yw(I:List Int) (L:LL) (w:Nat) (out:List Int):List Ent:=.live 1 0 (I.map aa)::.live 1 0 (owns 4 L)::(Lc L++[.live 1 w (out.map aa)])
theorem nE{I:List Int}{L:LL}{w:Nat}{out:List Int}:(yw I L w out).length=L.length+3:=by simp[yw,um]
theorem sv{I:List Int}{L:LL}{w:Nat}{out:List Int}:(yw I L w out).all (Ent.below ((yw I L w out).length+2))=true:=by
 rw[nE];unfold yw;simp only[Gab,List.all_append,List.all_nil,Jaa,Caa];exact⟨Ib _ _ (Fr.l _),Ks (by omega),qv,Ib _ _ (Fr.l _)⟩
abbrev gL(g:List (List Int)):LL:=ju g.length (Qg g g.length)
def E3(g:List (List Int)) (y:List Int×Nat×List Int×Nat):St:=⟨ds 4 (xc g::.own 3 0::.own 2 0::.ref 0 0 0 0::ds 4 (.own ((Lc (gL g)).length+4) y.2.1::ds 100 [])),cw y.2.2.1 y.2.2.2 0 (yw (lK g y.1) (gL g) y.2.1 y.1)⟩
def E4(g:List (List Int)) (out:List Int) (w d:Nat) (y:Nat×List Int×Nat):St:=⟨ds 4 (xc g::.own 3 0::.own 2 0::.ref 0 0 0 0::ds 4 (.own ((Lc (gL g)).length+4) (w+1)::aa d::ds 70 (.own (d+4) (Qg g g.length d).length::aa (Qg g g.length d).length::aa y.1::ds 26 []))),cw y.2.1 y.2.2 0 (yw (Vv g out d y.1) (gL g) (w+1) (out++[(d:Int)]))⟩
theorem JM{g:List (List Int)}:(gL g).length=g.length:=qJ
theorem K6{g:List (List Int)}{y:List Int×Nat×List Int×Nat}:Fit 0 (E3 g y):=by
 refine wx sv (sab _) ?_
 simp_all[belows,Tm.below,nE,um,mj,uk,kc,Fr.h]
theorem L6{g:List (List Int)}{out:List Int}{w d:Nat}(hd:d<g.length) {y:Nat×List Int×Nat}:Fit 0 (E4 g out w d y):=by
 refine wx sv (sab _) ?_;rw[nE,um,JM];simp only[mj,uk,belows,Tm.below,Jaa,Bool.true_and,Caa,decide_eq_true_eq];exact⟨kc _ _ (Fr.h _),by omega,by omega,by omega,by omega,kc _ _ (Fr.h _),by omega,kc _ _ (Fr.h _),kc _ _ (Fr.h _)⟩
theorem ev_T{t0:GScope}{g:List (List Int)}(hall:tc t0=some g) (hg:GOk g) :
 Den Tryz.prog 201 [Ma t0] (.tup [ua (au g).1,aa (au g).2]):=by
 have hgl:=hg.len;refine dk 112 k201 ?_;simp only[k201,Kf.of,zs,ze];refine ss (rg ?_);simp only[zz];refine ss (rg ?_);simp only[zz];refine XC (Ct hall) ?_ (by simp only[zg]);simp only[zz];have hm:Nw 24 ([]:List Int) (g.length:Int) (g.length:Int)=some (raa g.length []):=by
  grind[Nw]
 obtain⟨f2,f3,f4,f5,f6⟩:=CK (e:=ua) hm;have hm2:Nw 8 (0:Int) (g.length:Int) (g.length:Int)=some (raa g.length 0):=by
  grind[Nw]
 obtain⟨a2,a3,a4,a5,a6⟩:=CK (e:=aa) hm2;refine ss (rg ?_);(try simp only[zz]at f5 f6 a5 a6);(try simp only[zz,f2,f3,f4,f5]);refine ss (rg ?_);(try simp only[zz,a2,a3,a4,a5]);refine ss (rg ?_);simp only[zz];refine ss (ss (rg ?_));simp only[zz];refine tl (S:=⟨ds 4 (xc g::.own 3 0::.own 2 0::.ref 0 0 0 0::ds 19 (xc g::aa g.length::aa 0::ds 83 [])),[.live 1 0 [.own 1 0],.live 1 0 [],.live 1 0 (raa g.length (.v (.int .i64 0))),.live 1 0 (raa g.length (.v (.slice none 0 0)))]⟩) (tq [ok 4,ok 3,ok 2,ok 1] (by simp_all[zg,Og,YB,HI])) ?_;refine IA (S:=1) (id:=3) (x:=g.length) ?_;rw[GD _ _ _ _ _ _ (Nat.le_refl _),yac,List.replicate_zero,List.append_nil];refine T.zJ (E1 g) (λy=>y.1<=g.length/\y.2.1.Perm (lN g y.1)/\Hp y.2.1 y.2.1.length) (λy=>y.1=g.length/\y.2.1.Perm (lN g y.1)/\Hp y.2.1 y.2.1.length) (λy=>g.length-y.1) (0,[],0) ⟨sab _,.refl _,λk _ h=>absurd h (Nat.not_lt_zero _)⟩ ?_ (λ_ _=>I6) ?_ (λ_=>Us) ?_
 .grind[E1,P5,cw,vO,zS,qQ,dR,At.same,pa.qb]
 .rintro⟨i,l,v⟩ ⟨h1,h2,h3⟩;dsimp only at h1 h2 h3;have hll:l.length<=1048576:=by rw[h2.length_eq];grind[C1]
  unfold E1 P5 cw vO;dsimp only;refine ss (rg ?_);simp only[zz];refine ss (cd rfl ?_);simp only[zz];refine gP.mk (λhc=>?_) (λhc=>?_)
  .have hi:i<g.length:=by omega
   refine sk ?_;simp only[zz];have g2:g[i]?=some (g.getD i []):=by grind
   have hmem:g.getD i []∈g:=List.mem_of_getElem? g2;have hgi:=hg.inr _ hmem;have hgn:=hg.nd _ hmem;have hgk:(g.getD i []).length<=g.length:=pB hgn hgi;have i1:(Nz g i)[i]?=some 0:=by grind[Nz]
   have i2:(Nz g i).length=g.length:=by grind[Nz]
   refine ss (bk (ss (rg ?_)));simp only[zz,g2];generalize hgi':g.getD i []=gi at *;refine ss (rg ?_);simp only[zz,g2,i1,i2,hi];refine ss (ss (rg ?_));simp only[zz];have hdi:Pp g i gi.length=Qg g (i+1):=funext λd=>by rw[←hgi'];exact pQ.symm
   have hw:ca .i64 ((i:Int)+1)=((i+1:Nat):Int):=by grind[Xs]
   refine T.YP gi.length (E2 g l v i) ?_ (λj _=>J6) (λj hj=>?_) Us ?_
   .unfold E2 P5 cw vO;rw[show Pp g i 0=Qg g i from funext λd=>rQ,hgi',←cR hi,Rac,hgi'];exact At.same _ _ _ (by repeat (first|exact pa.qb _|refine pa.cons (Sub.refl _) ?_|refine pa.cons (Sub.Ka _) ?_))
   .unfold E2 P5 cw vO;rw[hgi'];refine ss (rg ?_);simp only[zz];refine ss (cd rfl ?_);simp only[zz];refine gP.mk (λhc=>?_) (λhc=>?_)
    .have hjl:j<gi.length:=by omega
     refine sk ?_;simp only[zz];obtain⟨d,hd,hdn⟩:∃d:Nat,gi[j]=(d:Int)/\d<g.length:=by
      have:=hgi gi[j] (xaa hjl);exact⟨gi[j].toNat,by omega,by omega⟩
     have g3:gi[j]?=some (d:Int):=by simp_all
     have hL:(ju g.length (Pp g i j)).length=g.length:=qJ;have hp:(ju g.length (Pp g i j))[d]?=some ((Pp g i j d).length,Pp g i j d):=pJ hdn;have hLs:ju g.length (Pp g i (j+1))=(ju g.length (Pp g i j)).set d ((Pp g i j d).length+1,Pp g i j d++[(i:Int)]):=by
      refine(AS ?_ λe he=>?_).symm
      .simp_all[WG]
      .rw[WG (by simp_all) (by simp_all),if_neg (by grind)]
     have hpb:(Pp g i j d).length<=i+1:=XT;generalize hQ:(Pp g i j d).length=q at *;generalize hF:Pp g i j d=F at *;generalize hLL:ju g.length (Pp g i j)=L at hL hLs hp⊢;obtain⟨E,hE⟩:∃E,E=Lc L:=⟨_,rfl⟩;have hEl:E.length=L.length:=by rw[hE,um]
     rw[←hE];have hol:(owns 4 L).length=g.length:=by rw[Uq,hL]
     have hEd:d<E.length:=by omega
     have k1:(owns 4 L)[d]?=some (.own (d+4) q):=by grind[gA]
     have k2:∀y,(E++[y])[d]?=some (.live 1 q (F.map aa)):=λy=>by
      grind[Lc]
     have k3:∀y e,(E++[y]).set d e=E.set d e++[y]:=λy e=>by simp_all
     have k5:(F.length+1)*8<=2 ^ 47:=by omega
     have k6:EK (E.length+4) (d+4)=true:=MI (by omega);refine ss (bk (ss (rg ?_)));simp only[zz,g3];refine rg ?_;simp only[zz,hol,hdn,k1,k2,k3,k5,k6,Waa,Ih];have hw2:ca .i64 ((j:Int)+1)=((j+1:Nat):Int):=by grind[Xs]
     refine rg ?_;simp only[zz,uj,hw2];refine⟨hjl,?_⟩;have e1:(owns 4 L).set d (.own (d+4) (q+1))=owns 4 (ju g.length (Pp g i (j+1))):=by
      rw[hLs,←ZE,Nat.add_comm 4]
     have e2:E.set d (.live 1 (q+1) (F.map aa++[.v (.int .i64 i)]))=Lc (ju g.length (Pp g i (j+1))):=by
      rw[hLs,hE];unfold Lc;rw[Rac,Zab];rfl
     rw[e1,e2,←Iaa,←Iaa,←Iaa,←Iaa];exact At.mk _ _ _ _ (by repeat (first|exact pa.qb _|refine pa.cons (Sub.refl _) ?_|refine pa.cons (Sub.Ka _) ?_))
    .refine xt ?_;simp only[zz,Yu];have hj:j=gi.length:=by omega
     subst hj;refine⟨rfl,?_⟩;exact At.same _ _ _ (by repeat (first|exact pa.qb _|refine pa.cons (Sub.refl _) ?_|refine pa.cons (Sub.Ka _) ?_))
   .unfold E2 P5 cw vO;rw[hgi',hdi];simp only[zz];refine ss (rg ?_);simp only[zz];refine cd rfl ?_;by_cases hge:gi=[]
    .have hz:((gi.length:Int)==0)=true:=by simp_all
     have hrd:lN g (i+1)=lN g i++[(i:Int)]:=by simp_all[OK]
     simp only[zz,hz];refine rg ?_;simp only[zz];refine nu (GO (l:=l) (x:=(i:Int)) (v:=v) (u:=0) (R:=vO (Nz g (i+1)) (ju g.length (Qg g (i+1)))) XA (by omega) h3) ?_;rintro d m' ⟨rfl,l',h4,h5,rfl⟩;unfold cw vO;simp only[zz];refine rg ?_;simp only[zz,hw,Qm];refine⟨(i+1,l',v+1),⟨by omega,?_,h5⟩,by omega,?_⟩
     .grind
     .exact At.same _ _ _ (by repeat (first|exact pa.qb _|refine pa.cons (Sub.refl _) ?_|refine pa.cons (Sub.Ka _) ?_))
    .have hz:((gi.length:Int)==0)=false:=by
      simp_all
     have hrd:lN g (i+1)=lN g i:=by simp_all[OK]
     simp only[zz,hz];refine sk ?_;simp only[zz];refine rg ?_;simp only[zz,hw,Qm];refine⟨(i+1,l,v),⟨by omega,?_,h3⟩,by omega,?_⟩
     .simp_all
     .exact At.same _ _ _ (by repeat (first|exact pa.qb _|refine pa.cons (Sub.refl _) ?_|refine pa.cons (Sub.Ka _) ?_))
  .refine xt ?_;simp only[zz,Io];have hi:i=g.length:=by omega
   subst hi;exact⟨(g.length,l,v),⟨rfl,h2,h3⟩,At.same _ _ _ (by repeat (first|exact pa.qb _|refine pa.cons (Sub.refl _) ?_|refine pa.cons (Sub.Ka _) ?_))⟩
 .rintro⟨i,l,v⟩ ⟨h1,h2,h3⟩;dsimp only at h1 h2 h3;subst h1;unfold E1 P5 cw vO;dsimp only;simp only[zz];refine ss (rg ?_);simp only[zz];refine T.mw 12 1 rfl ?_;simp only[zz];refine ss ?_;refine T.zJ (E3 g) (λy=>J2 g y.1 y.2.2.1/\Hp y.2.2.1 y.2.2.1.length) (λy=>J2 g y.1 []) (λy=>g.length-y.1.length) ([],0,l,v) ⟨j2_0 h2,h3⟩ ?_ (λ_ _=>K6) ?_ (λ_=>Us) ?_
  .unfold E3 cw yw;dsimp only;rw[←L9];exact At.same _ _ _ (by repeat (first|exact pa.qb _|refine pa.cons (Sub.refl _) ?_|refine pa.cons (Sub.Ka _) ?_))
  .rintro⟨out,w,l,v⟩ ⟨hj,h3⟩;dsimp only at hj h3;unfold E3 cw yw;dsimp only;have hll:l.length<=1048576:=by
    rw[hj.perm.length_eq]
    grind[kP]
   refine ss (ss (rg ?_));simp only[zz];refine bc (CS (l:=l) (v:=v) (u:=0)) ?_;simp only[zz];refine cd rfl ?_;simp only[zz];refine gP.mk (λhc=>?_) (λhc=>?_)
   .refine sk ?_;simp only[zz];obtain⟨n,hn⟩:∃n,l.length=n+1:=⟨l.length-1,by omega⟩;refine bk (ss (rg ?_));simp only[zz];refine nu (D9 (l:=l) (n:=n) (v:=v) (u:=0) (R:=yw (lK g out) (gL g) w out) sv (by omega) hn h3) ?_;rintro _ _ ⟨x,l',rfl,h4,h5,h6,rfl⟩;obtain⟨d,rfl,hdl,hik,hol,hfin⟩:=P9 hg hj h4 h5;unfold cw yw;simp only[zz];have c0:∀o:Ent,(Lc (gL g)++[o])[(Lc (gL g)).length]?=some o:=λo=>Waa;have c1:∀o z:Ent,(Lc (gL g)++[o]++[z])[(Lc (gL g)).length]?=some o:=λo z=>by simp
    have c2:∀o z e:Ent,(Lc (gL g)++[o]++[z]).set (Lc (gL g)).length e=Lc (gL g)++[e]++[z]:=λo z e=>by simp
    have c3:∀o z:Ent,(Lc (gL g)++[o]++[z])[(Lc (gL g)).length+1]?=some z:=λo z=>by simp
    have c5:EK ((Lc (gL g)).length+1+4) ((Lc (gL g)).length+4)=true:=MI (by omega);have hEl:(Lc (gL g)).length=g.length:=by rw[um,JM]
    have hF:(gL g)[d]?=some ((Qg g g.length d).length,Qg g g.length d):=pJ hdl;have hE1:(Lc (gL g))[d]?=some (.live 1 (Qg g g.length d).length ((Qg g g.length d).map aa)):=by
     grind[Lc]
    have c4:∀o z:Ent,(Lc (gL g)++[o]++[z])[d]?=some (.live 1 (Qg g g.length d).length ((Qg g g.length d).map aa)):=λo z=>by
     grind
    have c6:∀o:Ent,(Lc (gL g)++[o])[d]?=some (.live 1 (Qg g g.length d).length ((Qg g g.length d).map aa)):=λo=>by
     grind
    have o1:(owns 4 (gL g))[d]?=some (.own (d+4) (Qg g g.length d).length):=by grind[gA]
    have o2:(owns 4 (gL g)).length=g.length:=by rw[Uq,JM]
    have b1:(out.length+1)*8<=2 ^ 47:=by omega
    have hDn:(Qg g g.length d).length<=g.length:=ZD;have hpl:=h4.length_eq;refine ss (rg ?_);simp only[zz,c0,c1,c2,c3,c5,b1];refine ss (rg ?_);simp only[zz,c1,c2,c4,o1,o2,hdl];refine T.zJ (E4 g out w d) (λy=>y.1<=(Qg g g.length d).length/\y.2.1.Perm (l'++cA g out d y.1)/\Hp y.2.1 y.2.1.length) (λy=>y.1=(Qg g g.length d).length/\y.2.1.Perm (l'++cA g out d y.1)/\Hp y.2.1 y.2.1.length) (λy=>(Qg g g.length d).length-y.1) (0,l',v+1) ⟨sab _,by grind[newK_0],h6⟩ ?_ (λ_ _=>L6 hdl) ?_ (λ_=>stab_B stab_M) ?_
    .unfold E4 cw yw;dsimp only;rw[K9,Zab,←Iaa,←Iaa,←Iaa,←Iaa];exact At.mk _ _ _ _ (by repeat (first|exact pa.qb _|refine pa.cons (Sub.refl _) ?_|refine pa.cons (Sub.Ka _) ?_))
    .rintro⟨k,l1,v1⟩ ⟨k1,k2,k3⟩;dsimp only at k1 k2 k3;have hl1:l1.length<=1048576+1048576:=by
      rw[k2.length_eq,List.length_append]
      grind[tV]
     unfold E4 cw yw;dsimp only;refine ss (rg ?_);simp only[zz];refine ss (cd rfl ?_);simp only[zz];refine gP.mk (λhc=>?_) (λhc=>?_)
     .have hk:k<(Qg g g.length d).length:=by omega
      refine sk ?_;simp only[zz];obtain⟨e,he,hel,hem⟩:=Kw.1 (xaa hk);have g3:(Qg g g.length d)[k]?=some (e:Int):=by simp_all
      have i1:=PU (out:=out) hk he hel;have i2:(Vv g out d k).length=g.length:=by grind[Vv]
      have i3:(List.map aa (Vv g out d k)).set e (.v (.int .i64 (xC g out e-1)))=List.map aa (Vv g out d (k+1)):=by
       rw[←lH hk he,Rac];rfl
      have i4:(Vv g out d (k+1))[e]?=some (xC g out e-1):=by
       rw[←lH hk he,List.getElem?_set_self (by omega)]
      have i5:(Vv g out d (k+1)).length=g.length:=by grind[Vv]
      have hcn:0<=xC g out e/\xC g out e<=1048576:=by
       unfold xC;have h1:=List.length_filter_le (λd=>!out.contains d) (g.getD e []);have h2:=pB (hg.nd _ (B9 hel)) (hg.inr _ (B9 hel));omega
      have hwc:ca .i64 (xC g out e-1)=xC g out e-1:=Xs ⟨by omega,by omega⟩;have hwk:ca .i64 ((k:Int)+1)=((k+1:Nat):Int):=by grind[Xs]
      refine ss (bk (ss (rg ?_)));simp only[zz,c6,hk,g3];refine ss (rg ?_);simp only[zz,i1,i2,hel,hwc,i3];refine ss (rg ?_);simp only[zz,i4,i5,hel];refine cd rfl ?_;by_cases hc1:xC g out e=1
      .have hz:((xC g out e-1)==0)=true:=by simp_all
       simp only[zz,hz];refine rg ?_;simp only[zz];refine nu (GO (l:=l1) (x:=(e:Int)) (v:=v1) (u:=0) (R:=yw (Vv g out d (k+1)) (gL g) (w+1) (out++[(d:Int)])) sv (by omega) k3) ?_;rintro _ _ ⟨rfl,l2,h7,h8,rfl⟩;unfold cw yw;simp only[zz];refine rg ?_;simp only[zz,hwk,Qm];refine⟨(k+1,l2,v1+1),⟨by omega,?_,h8⟩,by omega,?_⟩
       .dsimp only;rw[wH hk he,if_pos hc1,←Saa]
        grind
       .exact At.same _ _ _ (by repeat (first|exact pa.qb _|refine pa.cons (Sub.refl _) ?_|refine pa.cons (Sub.Ka _) ?_))
      .have hz:((xC g out e-1)==0)=false:=by
        grind
       simp only[zz,hz];refine sk ?_;simp only[zz];refine rg ?_;simp only[zz,hwk,Qm];refine⟨(k+1,l1,v1),⟨by omega,?_,k3⟩,by omega,?_⟩
       .dsimp only;rw[wH hk he,if_neg hc1];omega
       .exact At.same _ _ _ (by repeat (first|exact pa.qb _|refine pa.cons (Sub.refl _) ?_|refine pa.cons (Sub.Ka _) ?_))
     .refine xt ?_;simp only[zz,Io];have hk:k=(Qg g g.length d).length:=by omega
      subst hk;exact⟨((Qg g g.length d).length,l1,v1),⟨rfl,k2,k3⟩,At.same _ _ _ (by repeat (first|exact pa.qb _|refine pa.cons (Sub.refl _) ?_|refine pa.cons (Sub.Ka _) ?_))⟩
    .rintro⟨k,l1,v1⟩ ⟨k1,k2,k3⟩;dsimp only at k1 k2 k3;subst k1;unfold E4 cw yw;dsimp only;rw[hik];simp only[zz,Qm];refine⟨(out++[(d:Int)],w+1,l1,v1),⟨hfin l1 k2,k3⟩,by grind,?_⟩;exact At.same _ _ _ (by repeat (first|exact pa.qb _|refine pa.cons (Sub.refl _) ?_|refine pa.cons (Sub.Ka _) ?_))
   .refine xt ?_;simp only[zz,Io];have hl0:l=[]:=List.eq_nil_of_length_eq_zero (by omega);subst hl0;exact⟨(out,w,[],v),hj,At.same _ _ _ (by repeat (first|exact pa.qb _|refine pa.cons (Sub.refl _) ?_|refine pa.cons (Sub.Ka _) ?_))⟩
  .rintro⟨out,w,l,v⟩ hj;dsimp only at hj;have he:=O9 hj;unfold E3 cw yw;dsimp only;simp only[zz];have c0:∀o:Ent,(Lc (gL g)++[o])[(Lc (gL g)).length]?=some o:=λo=>Waa;refine ss (ss (rg ?_));simp only[zz,c0];refine cd rfl ?_;by_cases hlt:out.length<g.length
   .have hz:decide ((out.length:Int)<(g.length:Int))=true:=decide_eq_true (by omega);rw[if_pos hlt]at he;rw[he];simp only[zz,hz];refine ss (rg ?_);simp only[zz];exact rt (er (by simp_all[zz,fq,zg]))
   .have hz:decide ((out.length:Int)<(g.length:Int))=false:=decide_eq_false (by omega);rw[if_neg hlt]at he;rw[he];simp only[zz,hz];refine sk ?_;simp only[zz];refine ss (rg ?_);simp only[zz];exact rt (er (by simp_all[zz,fq,zg]))
theorem J9{n:Int}{l:List Int}{x:Int}(h:x∈FC n l):0<=x/\x<n:=by
 grind[FC]
theorem aY{s:GScope}(h:s.Defs.length<=1048576):GOk (Jo s):=by
 have hl:(Jo s).length=s.Defs.length:=by grind[Jo]
 refine⟨by omega,λl hm e he=>?_,λl hm=>?_⟩
 .unfold Jo at hm;obtain⟨d,-,rfl⟩:=fab.1 hm;rw[hl];rw[(dh _).2.2,List.mem_flatten]at he;obtain⟨q,hq,he⟩:=he;obtain⟨r,-,rfl⟩:=fab.1 hq;rcases List.mem_append.1 he with h1|h1<;>exact J9 h1
 .unfold Jo at hm;obtain⟨d,-,rfl⟩:=fab.1 hm
  grind[kH,dh]
theorem su{t0:GScope}{r:List Int×Int}(h:ue t0=some r):Den Tryz.prog 201 [Ma t0] (.tup [ua r.1,aa r.2]):=by
 unfold ue at h
 cases hall:tc t0 with
 |none=>simp_all
 |some g=>
  rw[hall]at h;simp only[Option.bind_some,aab]at h;subst h;have hall':=hall;unfold tc at hall';split at hall'
  .rename_i hc;have:=dn ⟨hc.1,hc.2.1,hc.2.2⟩;rw[hall]at this;obtain rfl:=Raa this
   grind[ev_T,aY]
  simp_all
instance zI191{t0 r}:Con (ue t0=some r) (Den Tryz.prog 201 [Ma t0] (.tup [ua r.1,aa r.2])):=⟨su⟩
theorem Wp{t0 t1 t2 r} (h:cj t0 t1 t2=some r):Den Tryz.prog 216 [Zh t0,Oa t1,vb t2] (aa r):=by
 refine dk 20 k216 ?_
 simp only[k216,Kf.of,zs,ze]
 unfold cj at h
 exact pg trivial .o
instance zI192{t0 t1 t2 r}:Con (cj t0 t1 t2=some r) (Den Tryz.prog 216 [Zh t0,Oa t1,vb t2] (aa r)):=⟨Wp⟩
instance zI193{t0 t1 t2 r}:Con (cc t0 t1 t2=some r) (Den Tryz.prog 275 [Sb t0,ra t1,ra t2] (.tup [ra r.1,aa r.2])):=⟨λh=>by
 refine dk 136 k275 ?_
 simp only[k275,Kf.of,zs,ze]
 unfold cc at h
 exact pg trivial (.z 3 (.j 1 (λ(j2:Bool)=>⟨[.k 3,.p 4,.k 4,.p 1,.s (ba j2),.p 126],[.o 0,.o 1,.o 2,.o 3]⟩) (.b (.t [ok 0,ok 1,ok 2,ok 3]) (.t [ok 0,ok 1,ok 2,ok 3])) (.b .o (.b .o (.j 1 (λ(j8:Bool)=>⟨[.k 3,.p 9,.k 21,.s (ba j8),.p 105],[.o 0,.o 1,.o 2,.o 3]⟩) (.b (.t [ok 0,ok 1,ok 2,ok 3]) (.b (.t [ok 0,ok 1,ok 2,ok 3]) (.b (.t [ok 0,ok 1,ok 2,ok 3]) (.t [ok 0,ok 1,ok 2,ok 3])))) (.b .o (.j 1 (λ(j12:Bool)=>⟨[.k 3,.p 30,.k 11,.s (ba j12),.p 94],[.o 0,.o 1,.o 2,.o 3]⟩) (.b (.t [ok 0,ok 1,ok 2,ok 3]) (.t [ok 0,ok 1,ok 2,ok 3])) (.b .o (.b .o (.b .o (.b .o (.b .o (.b (.j 3 (λ(q:(Int × Int × Int))=>⟨[.k 6,.p 1,.s (aa 0),.p 3],[.h 3 [.g [.s (aa q.1),.s (aa q.2.1),.s (aa q.2.2)]]]⟩) (.b (.t [ok 3]) (.t [ok 3])) .o) (.b (.j 3 (λ(q:(Int × Int × Int))=>⟨[.k 6,.p 1,.s (aa 0),.p 3],[.h 3 [.g [.s (aa q.1),.s (aa q.2.1),.s (aa q.2.2)]]]⟩) (.b (.t [ok 3]) (.t [ok 3])) .o) .o))))))))))))))⟩
instance zI194{t0 r}:Con (Wn t0=some r) (Den Tryz.prog 107 [xb t0] (Xj r)):=⟨λh=>by
 refine dk 67 k107 ?_
 simp only[k107,Kf.of,zs,ze]
 unfold Wn at h
 exact pg @xh.eq_1 (.b .o (.l 1 0 (λ(s2:Int)=>⟨[.k 1,.p 7,.k 6,.p 2,.s (aa s2),.p 51],[.o 0,.o 1]⟩) (λ(_:Unit)=>⟨[.k 2,.p 6],[.o 1]⟩) [ok 0,ok 1] (.b (.z 4 (.j 2 (λ(q:(Int × Int))=>⟨[.k 1,.p 2,.k 2,.p 1,.k 8,.p 3],[.o 0,.o 1,.h 3 [.g [.s (aa q.1),.p 2,.s (aa q.2)]]]⟩) (.b (.t [ok 0,ok 1,ok 3]) (.j 1 (λ(j12:Bool)=>⟨[.k 1,.p 2,.k 2,.p 12,.k 19,.s (ba j12),.p 31],[.o 0,.o 1,.o 3]⟩) (.b (.t [ok 0,ok 1,ok 3]) (.t [ok 0,ok 1,ok 3])) (.b (.t [ok 0,ok 1,ok 2]) (.b (.b (.t [ok 0,ok 1,ok 2]) (.t [ok 0,ok 1,ok 2])) (.t [ok 0,ok 1,ok 2]))))) (.b .o (.t [ok 0,ok 1])))) (.t [ok 1])) .o))⟩
instance zI195{t0 t1 t2 r}:Con (ir t0 t1 t2=some r) (Den Tryz.prog 156 [Vg t0,aa t1,aa t2] (.tup [aa r.1,aa r.2])):=⟨λh=>by
 refine dk 33 k156 ?_
 simp only[k156,Kf.of,zs,ze]
 unfold ir at h
 exact pg trivial (.b .o (.z 1 (.j 1 (λ(j6:Bool)=>⟨[.k 1,.p 5,.k 15,.s (ba j6),.p 14],[.o 0]⟩) (.b (.b (.t [ok 0]) (.t [ok 0])) (.t [ok 0])) .o)))⟩
theorem dB{t0:GScope}{t1:Int}{t2:GSignature}{r:Int}(h:kl t0 t1 t2=some r):Den Tryz.prog 189 [Ma t0,aa t1,Oa t2] (aa r):=by
 refine dk 142 k189 ?_;simp only[k189,Kf.of,zs,ze];unfold kl at h;refine ss (rg ?_);(try simp only[zz]);refine ss (rg ?_);obtain⟨x1,f2,f3,h⟩:=bI h;(try simp only[zz,f2,f3]);refine ss (rg ?_);(try simp only[zz]);refine ss (ss (rg ?_));obtain⟨x2,a4,h⟩:=bs h;obtain⟨f5,f6,f7⟩:=KN (e:=gb) a4;(try simp only[zz]at f7);(try simp only[zz,f5,f6,f7]);obtain⟨y8,h9,h⟩:=bs h;refine lm h9 (λq=>⟨.dead::aa t1::.dead::.ref 0 0 0 0::.dead::.ref 1 0 0 0::.dead::.ref 2 0 0 0::aa q.1::ds 11 (Ye x2::aa (x2.length:Int)::aa q.2::ds 122 []),[.live 5 0 [Ma t0],.live 6 0 [Oa t2],.live 9 0 [gb x1]]⟩) (λb11=>⟨.dead::aa t1::.dead::.ref 0 0 0 0::.dead::.ref 1 0 0 0::.dead::.ref 2 0 0 0::aa b11::ds 136 [],[.live 5 0 [Ma t0],.live 6 0 [Oa t2],.live 9 0 [gb x1]]⟩) (tz [ok 0,ok 1,ok 2]) ?_ ?_
 .rintro⟨s3,s4⟩ z10 h11 h12;simp only[Kj]at h11;refine ss (rg ?_);(try simp only[zz]);refine ss (cd rfl ?_);(try simp only[zz]);refine gi h11 (λc5 h11=>?_) λc5 h11=>?_
  .refine sk ?_;(try simp only[zz,c5]);refine jm h11 (λj8=>⟨.dead::aa t1::.dead::.ref 0 0 0 0::.dead::.ref 1 0 0 0::.dead::.ref 2 0 0 0::aa j8::ds 11 (Ye x2::aa (x2.length:Int)::aa s4::ds 122 []),[.live 5 0 [Ma t0],.live 6 0 [Oa t2],.live 9 0 [gb x1]]⟩) (λz14 h13=>?_) λj8 h13 h11=>?_
   .refine bk (ss (rg ?_));obtain⟨x6,f16,f17,h13⟩:=bI h13;(try simp only[zz,f16,f17]);refine ss (rg ?_);(try simp only[zz]);refine cd rfl ?_;(try simp only[zz]);refine gi h13 (λc7 h13=>?_) λc7 h13=>?_
    .have e18:=eT c7;refine rg ?_;(try simp only[zz]);cases h13;exact tz [ok 0,ok 1,ok 2]
    have e19:=eF c7;refine sk ?_;(try simp only[zz,c7,e19]);cases h13;exact tz [ok 0,ok 1,ok 2]
   refine rg ?_;(try simp only[zz]);cases h11;exact tz [ok 0,ok 1,ok 2]
  refine xt ?_;(try simp only[zz,c5]);cases h11;exact tz [ok 0,ok 1,ok 2]
 rintro b11 rfl;dsimp only at h;(try simp only[zz]);refine ss (bk (ss (rg ?_)));obtain⟨x12,a20,h⟩:=bs h;simp only[zz];refine cq (Dp a20) ?_ (by simp only[zg]);(try simp only[zz]);refine cd rfl ?_;(try simp only[zz]);refine gi h (λc13 h=>?_) λc13 h=>?_
 .refine ss (rg ?_);(try simp only[zz]);cases h;exact rt ez
 refine ss (rg ?_);obtain⟨x14,a21,h⟩:=bs h;obtain⟨f22,f23,f24⟩:=KN (e:=gb) a21;(try simp only[zz]at f24);obtain⟨x15,a25,h⟩:=bs h;simp only[zz,f22,f23,f24];refine cv (Fl (q1:=[Bu x1]) (DC FA) (λx900 _ hb=>Jr hb) a25) ?_ rfl (by simp only[zg,c13,f22,f23,f24]);(try simp only[zz,f22,f23,f24]);refine cd rfl ?_;(try simp only[zz,f22,f23,f24]);refine gi h (λc16 h=>?_) λc16 h=>?_
 .refine ss (rg ?_);(try simp only[zz]);cases h;exact rt ez
 refine jm h (λj18=>⟨.dead::aa t1::.dead::.ref 0 0 0 0::.dead::.ref 1 0 0 0::.dead::.ref 2 0 0 0::aa b11::ds 37 (ba j18::ds 98 []),[.live 5 0 [Ma t0],.live 6 0 [Oa t2],.live 9 0 [gb x1]]⟩) (λz27 h26=>?_) λj18 h26 h=>?_
 .refine rg ?_;(try simp only[zz]);refine gi h26 (λc17 h26=>?_) λc17 h26=>?_
  ·(try simp only[zz,c17]);cases h26;exact tz [ok 0,ok 1,ok 2]
  (try simp only[zz,c17]);cases h26;exact tz [ok 0,ok 1,ok 2]
 refine cd rfl ?_;(try simp only[zz]);refine gi h (λc19 h=>?_) λc19 h=>?_
 .refine ss (rg ?_);(try simp only[zz]);cases h;exact rt ez
 refine jm h (λj24=>⟨ds 3 (.ref 0 0 0 0::.dead::.ref 1 0 0 0::.dead::.ref 2 0 0 0::aa b11::ds 49 (ba j24::ds 86 [])),[.live 5 0 [Ma t0],.live 6 0 [Oa t2],.live 9 0 [gb x1]]⟩) (λz29 h28=>?_) λj24 h28 h=>?_
 .refine dy Yt ?_;(try simp only[zz,zy]);refine gi h28 (λc20 h28=>?_) λc20 h28=>?_
  .have e30:=nT c20;(try simp only[zz,c20,e30,zy]);refine gi h28 (λc21 h28=>?_) λc21 h28=>?_
   ·(try simp only[zz,c20,e30,c21,zy]);refine gi h28 (λc22 h28=>?_) λc22 h28=>?_
    .obtain⟨x23,f33,f34,h28⟩:=bI h28;(try simp only[zz,c20,e30,c21,c22,f33,f34,zy]);cases h28;exact tz [ok 0,ok 1,ok 2]
    (try simp only[zz,c20,e30,c21,c22,zy]);cases h28;exact tz [ok 0,ok 1,ok 2]
   (try simp only[zz,c20,e30,c21,zy]);cases h28;exact tz [ok 0,ok 1,ok 2]
  have e31:=nD c20;(try simp only[zz,c20,e31,zy]);cases h28;exact tz [ok 0,ok 1,ok 2]
 refine cd rfl ?_;(try simp only[zz]);refine gi h (λc25 h=>?_) λc25 h=>?_
 .refine ss (rg ?_);(try simp only[zz]);cases h;exact rt ez
 refine jm h (λj27=>⟨ds 3 (.ref 0 0 0 0::.dead::.ref 1 0 0 0::.dead::.ref 2 0 0 0::aa b11::ds 76 (ba j27::ds 59 [])),[.live 5 0 [Ma t0],.live 6 0 [Oa t2],.live 9 0 [gb x1]]⟩) (λz36 h35=>?_) λj27 h35 h=>?_
 .refine rg ?_;(try simp only[zz]);refine gi h35 (λc26 h35=>?_) λc26 h35=>?_
  ·(try simp only[zz,c26]);cases h35;exact tz [ok 0,ok 1,ok 2]
  (try simp only[zz,c26]);cases h35;exact tz [ok 0,ok 1,ok 2]
 refine cd rfl ?_;(try simp only[zz]);refine gi h (λc28 h=>?_) λc28 h=>?_
 .refine ss (rg ?_);(try simp only[zz]);cases h;exact rt ez
 refine jm h (λj31=>⟨ds 3 (.ref 0 0 0 0::.dead::.ref 1 0 0 0::.dead::.ref 2 0 0 0::aa b11::ds 85 (ba j31::ds 50 [])),[.live 5 0 [Ma t0],.live 6 0 [Oa t2],.live 9 0 [gb x1]]⟩) (λz38 h37=>?_) λj31 h37 h=>?_
 .refine rg ?_;(try simp only[zz]);refine gi h37 (λc29 h37=>?_) λc29 h37=>?_
  ·(try simp only[zz,c29]);refine gi h37 (λc30 h37=>?_) λc30 h37=>?_
   ·(try simp only[zz,c29,c30]);cases h37;exact tz [ok 0,ok 1,ok 2]
   (try simp only[zz,c29,c30]);cases h37;exact tz [ok 0,ok 1,ok 2]
  (try simp only[zz,c29]);cases h37;exact tz [ok 0,ok 1,ok 2]
 refine cd rfl ?_;(try simp only[zz]);refine gi h (λc32 h=>?_) λc32 h=>?_
 .refine ss (rg ?_);(try simp only[zz]);cases h;exact rt ez
 refine ss (rg ?_);(try simp only[zz]);refine cd rfl ?_;(try simp only[zz]);refine gi h (λc33 h=>?_) λc33 h=>?_
 .refine ss (rg ?_);(try simp only[zz]);cases h;exact rt ez
 refine ss (rg ?_);obtain⟨x34,a39,h⟩:=bs h;simp only[zz];refine cq (Hs a39) ?_ (by simp only[zg,c13,c16,c19,c25,c28,c32]);(try simp only[zz]);refine cd rfl ?_;(try simp only[zz]);refine gi h (λc35 h=>?_) λc35 h=>?_
 .refine ss (rg ?_);(try simp only[zz]);cases h;exact rt ez
 refine sk ?_;(try simp only[zz,c35]);obtain⟨z41,h40,h⟩:=bs h;refine tj (λ(q:Unit)=>⟨ds 3 (.ref 0 0 0 0::.dead::.ref 1 0 0 0::.dead::.ref 2 0 0 0::ds 137 []),[.live 5 0 [Ma t0],.live 6 0 [Oa t2],.live 9 0 [gb x1]]⟩) z41 ?_ ?_
 .refine ss (rg ?_);(try simp only[zz]);refine cd rfl ?_;(try simp only[zz]);refine gi h40 (λc36 h40=>?_) λc36 h40=>?_
  .refine ss (rg ?_);obtain⟨x37,a42,h40⟩:=bs h40;simp only[zz];refine cq (Wp a42) ?_ (by simp only[zg,c13,c16,c19,c25,c28,c32,c35]);(try simp only[zz]);refine ss (rg ?_);(try simp only[zz]);refine cd rfl ?_;(try simp only[zz]);refine gi h40 (λc38 h40=>?_) λc38 h40=>?_
   .have e43:=nT c38;refine ss (rg ?_);(try simp only[zz]);cases h40;cases h;exact rt ez
   have e44:=nD c38;refine sk ?_;(try simp only[zz,c38,e44]);cases h40;exact tz [ok 0,ok 1,ok 2]
  refine sk ?_;(try simp only[zz,c36]);cases h40;exact tz [ok 0,ok 1,ok 2]
 rintro⟨⟩ rfl;dsimp only at h;refine ss (dy Yt ?_);obtain⟨x39,f46,f47,h⟩:=bI h;obtain⟨x40,a48,h⟩:=bs h;simp only[zz,f46,f47,zy];refine cq (Wp a48) ?_ (by simp only[zg,c13,c16,c19,c25,c28,c32,c35]);(try simp only[zz,f46,f47,zy]);cases h;exact rt ez
instance zI196{t0 t1 t2 r}:Con (kl t0 t1 t2=some r) (Den Tryz.prog 189 [Ma t0,aa t1,Oa t2] (aa r)):=⟨dB⟩
instance zI197{t0 t1 t2 r}:Con (Ea t0 t1 t2=some r) (Den Tryz.prog 255 [Sb t0,Db t1,tm t2] (.tup [ra r.1,aa r.2])):=⟨λh=>by
 refine dk 162 k255 ?_
 simp only[k255,Kf.of,zs,ze]
 unfold Ea at h
 exact pg trivial (.z 3 (.j 1 (λ(j5:Bool)=>⟨[.k 1,.p 1,.k 1,.p 4,.k 7,.p 1,.s (ba j5),.p 149],[.o 0,.o 1,.o 2]⟩) (.b (.t [ok 0,ok 1,ok 2]) (.b (.t [ok 0,ok 1,ok 2]) (.b (.t [ok 0,ok 1,ok 2]) (.b (.t [ok 0,ok 1,ok 2]) (.t [ok 0,ok 1,ok 2]))))) (.b .o (.b .o (.b .o (.b .o (.b .o (.b .o (.j 1 (λ(j17:Bool)=>⟨[.k 1,.p 14,.k 47,.s (ba j17),.p 102],[.o 0,.o 1,.o 2]⟩) (.b (.t [ok 0,ok 1,ok 2]) (.b (.t [ok 0,ok 1,ok 2]) (.b (.t [ok 0,ok 1,ok 2]) (.t [ok 0,ok 1,ok 2])))) .o)))))))))⟩
instance zI198{t0 t1 t2 r}:Con (xj t0 t1 t2=some r) (Den Tryz.prog 114 [Vg t0,aa t1,aa t2] (aa r)):=⟨λh=>by
 refine dk 16 k114 ?_
 simp only[k114,Kf.of,zs,ze]
 unfold xj at h
 exact pg trivial .o⟩
instance zI199{t0 c10 r}:Con (Ya t0 (λx900=>Hd x900 c10)=some r) (Den Tryz.prog 185 [Zn t0,.fn 186 [] [Sp c10]] (ba r)):=⟨λh=>Nk (q1:=[Sp c10]) (DC FA) (λx900 _ hb=>Qq hb) h⟩
theorem Sz{t0 t1 r} (h:Lj t0 t1=some r):Den Tryz.prog 155 [xb t0,aa t1] (.tup [aa r.1,aa r.2]):=by
 refine dk 161 k155 ?_
 simp only[k155,Kf.of,zs,ze]
 unfold Lj at h
 exact pg (And.intro @Ei.eq_1 (And.intro @Fi.eq_1 (And.intro @Gi.eq_1 @Ii.eq_1))) (.z 3 (.j 1 (λ(j8:Bool)=>⟨[.k 1,.p 3,.k 2,.p 2,.s (ba j8),.p 10],[.o 0,.o 1]⟩) (.b (.b (.t [ok 0,ok 1]) (.t [ok 0,ok 1])) (.t [ok 0,ok 1])) (.b .o (.b .o (.j 1 (λ(j16:Bool)=>⟨[.k 1,.p 6,.k 45,.s (ba j16),.p 110],[.o 0,.o 1]⟩) (.b (.b (.b (.t [ok 0,ok 1]) (.t [ok 0,ok 1])) (.t [ok 0,ok 1])) (.t [ok 0,ok 1])) (.b .o (.b .o (.b .o (.l 1 0 (λ(s20:Int)=>⟨[.k 1,.p 51,.k 35,.p 2,.s (aa s20),.p 73],[.o 0,.o 1]⟩) (λ(_:Unit)=>⟨[.k 1,.p 51],[.o 0,.o 1]⟩) [ok 0,ok 1] (.b (.b .o (.t [ok 0,ok 1])) (.t [ok 0,ok 1])) (.l 1 0 (λ(s27:Int)=>⟨[.k 1,.p 106,.k 1,.p 2,.s (aa s27),.p 52],[.o 0,.o 1]⟩) (λ(_:Unit)=>⟨[.k 1,.p 106],[.o 0,.o 1]⟩) [ok 0,ok 1] (.b (.b .o (.t [ok 0,ok 1])) (.t [ok 0,ok 1])) (.l 1 0 (λ(s35:Int)=>⟨[.k 6,.p 124,.k 5,.p 1,.s (aa s35),.p 26],[.o 1,.o 2]⟩) (λ(_:Unit)=>⟨[.k 6,.p 9],[.o 1]⟩) [ok 1,ok 2] (.b (.b .o (.t [ok 0,ok 1])) (.t [ok 0])) (.l 1 0 (λ(s40:Int)=>⟨[.k 6,.p 143,.k 2,.p 1,.s (aa s40),.p 10],[.o 0]⟩) (λ(_:Unit)=>⟨[],[]⟩) [ok 0] (.b (.b .o (.t [ok 0])) (.t [])) .o))))))))))))
instance zI200{t0 t1 r}:Con (Lj t0 t1=some r) (Den Tryz.prog 155 [xb t0,aa t1] (.tup [aa r.1,aa r.2])):=⟨Sz⟩
instance zI201{t0 t1 t2 r}:Con (Zi t0 t1 t2=some r) (Den Tryz.prog 243 [Sb t0,Db t1,tm t2] (.tup [ra r.1,aa r.2])):=⟨λh=>by
 refine dk 51 k243 ?_
 simp only[k243,Kf.of,zs,ze]
 unfold Zi at h
 exact pg trivial (.z 2 (.j 1 (λ(j4:Bool)=>⟨[.k 1,.p 1,.k 1,.p 4,.k 13,.s (ba j4),.p 33],[.o 0,.o 1,.o 2]⟩) (.b (.t [ok 0,ok 1,ok 2]) (.t [ok 0,ok 1,ok 2])) (.b .o (.b .o (.z 1 (.j 1 (λ(j11:Bool)=>⟨[.k 1,.p 19,.k 16,.s (ba j11),.p 17],[.o 0,.o 1,.o 2]⟩) (.b (.t [ok 0,ok 1,ok 2]) (.t [ok 0,ok 1,ok 2])) .o))))))⟩
instance zI202{t0 t1 t2 t3 t4 t5 r}:Con (Dq t0 t1 t2 t3 t4 t5=some r) (Den Tryz.prog 84 [aa t0,aa t1,aa t2,aa t3,aa t4,Da t5] (.tup [bb r.1,aa r.2])):=⟨λh=>by
 refine dk 70 k84 ?_
 simp only[k84,Kf.of,zs,ze]
 unfold Dq at h
 exact pg trivial (.z 2 (.j 1 (λ(j7:Bool)=>⟨[.p 5,.k 6,.p 2,.k 19,.s (ba j7),.p 43],[.o 0,.o 1]⟩) (.b (.b (.b (.t [ok 0,ok 1]) (.t [ok 0,ok 1])) (.t [ok 0,ok 1])) (.t [ok 0,ok 1])) (.b .o (.b .o (.z 1 (.j 1 (λ(j13:Bool)=>⟨[.p 32,.k 19,.s (ba j13),.p 24],[.o 0,.o 1]⟩) (.b (.b (.t [ok 0,ok 1]) (.t [ok 0,ok 1])) (.t [ok 0,ok 1])) (.b .o (.z 1 (.j 2 (λ(q:(Int × Int))=>⟨[.k 12,.p 39],[.o 1,.h 2 [.g [.p 4,.s (aa q.1),.s (aa q.2),.p 1]]]⟩) (.b (.t [ok 1,ok 2]) (.t [ok 1,ok 2])) .o)))))))))⟩
instance zI203{t0 r}:Con (Vn t0=some r) (Den Tryz.prog 108 [xb t0] (Xj r)):=⟨λh=>by
 refine dk 30 k108 ?_
 simp only[k108,Kf.of,zs,ze]
 unfold Vn at h
 exact pg @wh.eq_1 (.b .o (.l 1 0 (λ(s2:Int)=>⟨[.k 1,.p 5,.k 7,.p 1,.s (aa s2),.p 16],[.o 0,.o 1]⟩) (λ(_:Unit)=>⟨[.k 2,.p 4],[.o 1]⟩) [ok 0,ok 1] (.b (.b .o (.t [ok 0,ok 1])) (.t [ok 1])) .o))⟩
theorem Wt{R227:(GEval_evaluator -> Int -> Option (GValue × Int))} {R242:(GEval_evaluator -> GNode -> (List Int) -> Option (GValue × Int))} {R250:(GEval_evaluator -> Int -> Option (GValue × Int))} {t0 t1 r} [∀ t0 t1 r,Con (R227 t0 t1=some r) (Den Tryz.prog 227 [sa t0,aa t1] (.tup [ra r.1,aa r.2]))] [∀ t0 t1 t2 r,Con (R242 t0 t1 t2=some r) (Den Tryz.prog 242 [sa t0,Sb t1,ua t2] (.tup [ra r.1,aa r.2]))] [∀ t0 t1 r,Con (R250 t0 t1=some r) (Den Tryz.prog 250 [sa t0,aa t1] (.tup [ra r.1,aa r.2]))] (h:Bc R227 R242 R250 t0 t1=some r):Den Tryz.prog 227 [sa t0,aa t1] (.tup [ra r.1,aa r.2]):=by
 refine dk 63 k227 ?_
 simp only[k227,Kf.of,zs,ze]
 unfold Bc at h
 exact pg @Wc.eq_1 (.z 5 (.j 1 (λ(j5:Bool)=>⟨[.k 2,.p 3,.k 1,.p 7,.k 10,.s (ba j5),.p 41],[.o 0,.o 1,.o 2]⟩) (.b (.t [ok 0,ok 1,ok 2]) (.b (.t [ok 0,ok 1,ok 2]) (.t [ok 0,ok 1,ok 2]))) (.b .o (.l 2 1 (λ(q:((List GValue) × Int))=>⟨[.k 2,.p 5,.k 1,.p 15,.k 13,.p 2,.s (aa q.2),.p 26],[.o 0,.o 1,.o 2,.c 3 ((q.1.map ra))]⟩) (λ(b19:(List GValue))=>⟨[.k 2,.p 5,.k 1,.p 15],[.o 0,.o 1,.o 2,.c 3 ((b19.map ra))]⟩) [ok 0,ok 1,ok 2,ok 3] (.b (.b .o (.t [ok 0,ok 1,ok 2,ok 3])) (.t [ok 0,ok 1,ok 2,ok 3])) .o))))
theorem Vt{R227:(GEval_evaluator -> Int -> Option (GValue × Int))} {R242:(GEval_evaluator -> GNode -> (List Int) -> Option (GValue × Int))} {R250:(GEval_evaluator -> Int -> Option (GValue × Int))} {t0 t1 t2 r} [∀ t0 t1 r,Con (R227 t0 t1=some r) (Den Tryz.prog 227 [sa t0,aa t1] (.tup [ra r.1,aa r.2]))] [∀ t0 t1 t2 r,Con (R242 t0 t1 t2=some r) (Den Tryz.prog 242 [sa t0,Sb t1,ua t2] (.tup [ra r.1,aa r.2]))] [∀ t0 t1 r,Con (R250 t0 t1=some r) (Den Tryz.prog 250 [sa t0,aa t1] (.tup [ra r.1,aa r.2]))] (h:vf R227 R242 R250 t0 t1 t2=some r):Den Tryz.prog 242 [sa t0,Sb t1,ua t2] (.tup [ra r.1,aa r.2]):=by
 refine dk 66 k242 ?_
 simp only[k242,Kf.of,zs,ze]
 unfold vf at h
 exact pg trivial (.b .o (.a [[],[],[],[],[],[],[],[],[],[]] (.b .o (.z 1 (.j 1 (λ(j6:Bool)=>⟨[.k 2,.p 5,.k 1,.p 1,.k 17,.s (ba j6),.p 42],[.o 0,.o 1,.o 2,.o 3]⟩) (.b (.t [ok 0,ok 1,ok 2,ok 3]) (.t [ok 0,ok 1,ok 2,ok 3])) .o)))))
theorem Qr{R227:(GEval_evaluator -> Int -> Option (GValue × Int))} {R242:(GEval_evaluator -> GNode -> (List Int) -> Option (GValue × Int))} {R250:(GEval_evaluator -> Int -> Option (GValue × Int))} {t0 t1 r} [∀ t0 t1 r,Con (R227 t0 t1=some r) (Den Tryz.prog 227 [sa t0,aa t1] (.tup [ra r.1,aa r.2]))] [∀ t0 t1 t2 r,Con (R242 t0 t1 t2=some r) (Den Tryz.prog 242 [sa t0,Sb t1,ua t2] (.tup [ra r.1,aa r.2]))] [∀ t0 t1 r,Con (R250 t0 t1=some r) (Den Tryz.prog 250 [sa t0,aa t1] (.tup [ra r.1,aa r.2]))] (h:Ac R227 R242 R250 t0 t1=some r):Den Tryz.prog 250 [sa t0,aa t1] (.tup [ra r.1,aa r.2]):=by
 refine dk 26 k250 ?_
 simp only[k250,Kf.of,zs,ze]
 unfold Ac at h
 exact pg trivial (.b .o (.z 1 (.j 1 (λ(j5:Bool)=>⟨[.k 4,.p 1,.k 1,.p 1,.k 18,.s (ba j5),.p 2],[.o 1,.o 2]⟩) (.b (.t [ok 1,ok 2]) (.t [ok 1,ok 2])) .o)))
theorem Lf:∀n,(∀ t0 t1 r,(da n).1 t0 t1=some r->Den Tryz.prog 227 [sa t0,aa t1] (.tup [ra r.1,aa r.2]))/\(∀ t0 t1 t2 r,(da n).2.1 t0 t1 t2=some r->Den Tryz.prog 242 [sa t0,Sb t1,ua t2] (.tup [ra r.1,aa r.2]))/\(∀ t0 t1 r,(da n).2.2 t0 t1=some r->Den Tryz.prog 250 [sa t0,aa t1] (.tup [ra r.1,aa r.2]))
|0=>⟨λ_ _ _ h=>(nomatch h),λ_ _ _ _ h=>(nomatch h),λ_ _ _ h=>(nomatch h)⟩
|n+1=>by
 obtain⟨H0,H1,H2⟩:=Lf n
 haveI I0:∀ t0 t1 r,Con ((da n).1 t0 t1=some r) (Den Tryz.prog 227 [sa t0,aa t1] (.tup [ra r.1,aa r.2])):=λt0 t1 r=>⟨H0 t0 t1 r⟩
 haveI I1:∀ t0 t1 t2 r,Con ((da n).2.1 t0 t1 t2=some r) (Den Tryz.prog 242 [sa t0,Sb t1,ua t2] (.tup [ra r.1,aa r.2])):=λt0 t1 t2 r=>⟨H1 t0 t1 t2 r⟩
 haveI I2:∀ t0 t1 r,Con ((da n).2.2 t0 t1=some r) (Den Tryz.prog 250 [sa t0,aa t1] (.tup [ra r.1,aa r.2])):=λt0 t1 r=>⟨H2 t0 t1 r⟩
 exact⟨λt0 t1 r h=>Wt (R227:=(da n).1) (R242:=(da n).2.1) (R250:=(da n).2.2) h,λt0 t1 t2 r h=>Vt (R227:=(da n).1) (R242:=(da n).2.1) (R250:=(da n).2.2) h,λt0 t1 r h=>Qr (R227:=(da n).1) (R242:=(da n).2.1) (R250:=(da n).2.2) h⟩
theorem uv{t0 t1 r} (h:oj t0 t1=some r):Den Tryz.prog 227 [sa t0,aa t1] (.tup [ra r.1,aa r.2]):=(Lf Kt).1 _ _ _ h
instance zI204{t0 t1 r}:Con (oj t0 t1=some r) (Den Tryz.prog 227 [sa t0,aa t1] (.tup [ra r.1,aa r.2])):=⟨uv⟩
theorem tv{t0 t1 t2 r} (h:Ir t0 t1 t2=some r):Den Tryz.prog 242 [sa t0,Sb t1,ua t2] (.tup [ra r.1,aa r.2]):=(Lf Kt).2.1 _ _ _ _ h
instance zI205{t0 t1 t2 r}:Con (Ir t0 t1 t2=some r) (Den Tryz.prog 242 [sa t0,Sb t1,ua t2] (.tup [ra r.1,aa r.2])):=⟨tv⟩
theorem bt{t0 t1 r} (h:Wo t0 t1=some r):Den Tryz.prog 250 [sa t0,aa t1] (.tup [ra r.1,aa r.2]):=(Lf Kt).2.2 _ _ _ h
instance zI206{t0 t1 r}:Con (Wo t0 t1=some r) (Den Tryz.prog 250 [sa t0,aa t1] (.tup [ra r.1,aa r.2])):=⟨bt⟩
instance zI207{t0 r}:Con (Ik t0=some r) (Den Tryz.prog 74 [xb t0] (Xj r)):=⟨λh=>by
 refine dk 18 k74 ?_
 simp only[k74,Kf.of,zs,ze]
 unfold Ik at h
 exact pg trivial .o⟩
instance zI208{t0 t1 r}:Con (il t0 t1=some r) (Den Tryz.prog 203 [Zh t0,tm t1] (.tup [ra r.1,aa r.2])):=⟨λh=>by
 refine dk 25 k203 ?_
 simp only[k203,Kf.of,zs,ze]
 unfold il at h
 exact pg trivial .o⟩
instance zI209{t0 t1 t2 r}:Con (Ga t0 t1 t2=some r) (Den Tryz.prog 37 [xb t0,aa t1,Da t2] (aa r)):=⟨λh=>by
 refine dk 102 k37 ?_
 simp only[k37,Kf.of,zs,ze]
 unfold Ga at h
 exact pg trivial (.b .o (.z 1 (.j 1 (λ(j7:Bool)=>⟨[.k 1,.p 1,.k 1,.p 3,.k 30,.s (ba j7),.p 68],[.o 0,.o 1]⟩) (.b (.b (.b (.t [ok 0,ok 1]) (.t [ok 0,ok 1])) (.t [ok 0,ok 1])) (.t [ok 0,ok 1])) (.b .o (.b .o (.z 1 (.j 1 (λ(j15:Bool)=>⟨[.k 5,.p 31,.k 27,.s (ba j15),.p 41],[.o 1]⟩) (.b (.b (.t [ok 1]) (.t [ok 1])) (.t [ok 1])) (.b .o (.z 1 (.j 1 (λ(j30:Bool)=>⟨[.k 64,.s (ba j30),.p 40],[]⟩) (.j 1 (λ(j18:Bool)=>⟨[.k 5,.p 58,.k 1,.s (ba j18),.p 40],[.o 0]⟩) (.b (.t [ok 0]) (.t [ok 0])) (.b (.t []) (.j 1 (λ(j21:Bool)=>⟨[.k 5,.p 59,.s (ba j21),.p 40],[.o 0]⟩) (.b (.t [ok 0]) (.t [ok 0])) (.b (.t []) (.j 1 (λ(j24:Bool)=>⟨[.k 5,.p 59,.s (ba j24),.p 40],[.o 0]⟩) (.b (.t [ok 0]) (.t [ok 0])) (.b (.t []) (.j 1 (λ(j27:Bool)=>⟨[.k 5,.p 59,.s (ba j27),.p 40],[.o 0]⟩) (.b (.t [ok 0]) (.t [ok 0])) (.b (.t []) (.b (.t []) (.t [])))))))))) .o))))))))))⟩
instance zI210{t0 t1 t2 t3 r}:Con (mh t0 t1 t2 t3=some r) (Den Tryz.prog 102 [xb t0,ub t1,aa t2,aa t3] (.tup [Pr r.1,aa r.2])):=⟨λh=>by
 refine dk 99 k102 ?_
 simp only[k102,Kf.of,zs,ze]
 unfold mh at h
 exact pg @rj.eq_1 (.b .o (.b .o (.z 1 (.j 1 (λ(j6:Bool)=>⟨[.k 2,.p 7,.k 31,.s (ba j6),.p 62],[.o 0,.o 1,.o 2]⟩) (.b (.t [ok 0,ok 1,ok 2]) (.t [ok 0,ok 1,ok 2])) (.b .o (.b .o (.l 2 1 (λ(q:((List (List GValue)) × Int))=>⟨[.k 2,.p 2,.k 1,.p 8,.k 2,.p 1,.k 59,.p 2,.s (aa q.2),.p 25],[.o 1,.o 2,.h 3 [.g [.p 2,.s (.own 3 0)]],.n 1 ((q.1.map Db))]⟩) (λ(b22:(List (List GValue)))=>⟨[.k 8,.p 5],[.o 2,.h 3 [.g [.p 2,.s (.own 2 0)]],.n 1 ((b22.map Db))]⟩) [ok 1,ok 2,ok 3,on 1] (.b (.b .o (.t [ok 0,ok 1,ok 2,ov 3 1])) (.t [ok 1,ok 2,ok 3])) .o)))))))⟩
instance zI211{t0 t1 t2 t3 t4 r}:Con (Cc t0 t1 t2 t3 t4=some r) (Den Tryz.prog 145 [xb t0,aa t1,Pr t2,ba t3,aa t4] (Rg r)):=⟨λh=>by
 refine dk 58 k145 ?_
 simp only[k145,Kf.of,zs,ze]
 unfold Cc at h
 exact pg trivial (.b .o (.z 1 (.j 1 (λ(j8:Bool)=>⟨[.k 1,.p 1,.k 3,.p 6,.k 36,.s (ba j8),.p 15],[.o 0,.o 1,.o 2]⟩) (.b (.b (.b (.b (.t [ok 0,ok 1,ok 2]) (.t [ok 0,ok 1,ok 2])) (.t [ok 0,ok 1,ok 2])) (.t [ok 0,ok 1,ok 2])) (.t [ok 0,ok 1,ok 2])) .o)))⟩
instance zI212{t0 t1 t2 t3 r}:Con (Bg t0 t1 t2 t3=some r) (Den Tryz.prog 202 [Ma t0,tm t1,aa t2,aa t3] (.tup [aa r.1,Rg r.2])):=⟨λh=>by
 refine dk 83 k202 ?_
 simp only[k202,Kf.of,zs,ze]
 unfold Bg at h
 exact pg @Gk.eq_1 (.l 2 1 (λ(q:((List Bool) × Int))=>⟨[.k 2,.p 6,.k 1,.p 10,.k 12,.p 2,.s (aa q.2),.p 53],[.o 0,.o 1,.o 2,.c 3 ((q.1.map ba))]⟩) (λ(b18:(List Bool))=>⟨[.k 9,.p 10],[.o 2,.c 3 ((b18.map ba))]⟩) [ok 0,ok 1,ok 2,ok 3] (.b (.e 1 (λ(j15:(List Bool))=>⟨[.k 2,.p 32],[.o 0,.o 1,.o 2,.c 3 ((j15.map ba))]⟩) (.b (.t [ok 0,ok 1,ok 2,ok 3]) (.a [[],[],[],[],[],[],[],[],[],[],[],[],[]] (.b .o (.t [ok 0,ok 1,ok 2,ok 3])))) (.t [ok 0,ok 1,ok 2,ok 3])) (.t [ok 2,ok 3])) .o)⟩
instance zI213{t0 t1 t2 r}:Con (me t0 t1 t2=some r) (Den Tryz.prog 9 [xb t0,Da t1,zb t2] (aa r)):=⟨λh=>by
 refine dk 110 k9 ?_
 simp only[k9,Kf.of,zs,ze]
 unfold me at h
 exact pg (And.intro @Gg.eq_1 @Hg.eq_1) (.b .o (.b .o (.z 1 (.j 1 (λ(j9:Bool)=>⟨[.k 4,.p 2,.k 41,.s (ba j9),.p 65],[.o 1,.o 2]⟩) (.b (.b (.t [ok 1,ok 2]) (.t [ok 1,ok 2])) (.t [ok 1,ok 2])) (.b .o (.b .o (.l 1 0 (λ(s14:Int)=>⟨[.k 4,.p 5,.k 50,.p 2,.s (aa s14),.p 51],[.o 0,.o 1]⟩) (λ(_:Unit)=>⟨[.k 5,.p 4],[.o 1]⟩) [ok 0,ok 1] (.b (.z 3 (.j 1 (λ(j18:Bool)=>⟨[.k 4,.p 58,.k 12,.s (ba j18),.p 38],[.o 0,.o 1]⟩) (.b (.t [ok 0,ok 1]) (.t [ok 0,ok 1])) (.b .o (.j 1 (λ(j23:Bool)=>⟨[.k 4,.p 8,.k 47,.p 15,.k 12,.s (ba j23),.p 26],[.o 0,.o 1]⟩) (.b (.t [ok 0,ok 1]) (.t [ok 0,ok 1])) (.b .o (.t [ok 0,ok 1])))))) (.t [ok 1])) (.b .o (.l 1 0 (λ(s27:Int)=>⟨[.k 5,.p 83,.k 5,.p 2,.s (aa s27),.p 17],[.o 0]⟩) (λ(_:Unit)=>⟨[.k 5,.p 83],[.o 0]⟩) [ok 0] (.b (.z 2 (.j 1 (λ(j32:Bool)=>⟨[.k 5,.p 8,.k 80,.p 3,.k 12,.s (ba j32),.p 4],[.o 0]⟩) (.b (.t [ok 0]) (.t [ok 0])) (.b .o (.t [ok 0])))) (.t [ok 0])) .o)))))))))⟩
instance zI214{t0 t1 t2 r}:Con (Ie t0 t1 t2=some r) (Den Tryz.prog 69 [xb t0,ub t1,Da t2] (ba r)):=⟨λh=>by
 refine dk 20 k69 ?_
 simp only[k69,Kf.of,zs,ze]
 unfold Ie at h
 exact pg trivial .o⟩
instance zI215{t0 t1 t2 t3 r}:Con (Ua t0 t1 t2 t3=some r) (FP Tryz.prog 173 [Ma t0] [aa t2,Du t3] 6 [tm t1] [tm r.2] (.tup [ua r.1.1,Rg r.1.2])):=⟨λh=>by
 refine FP.of 101 k173 ?_
 simp only[k173,Kf.of,zs,ze]
 unfold Ua at h
 exact pg @Ce.eq_1 (.l 3 2 (λ(q:((List GValue) × (List Int) × Int))=>⟨[.k 1,.p 7,.k 1,.p 2,.k 24,.p 2,.s (aa q.2.2),.p 67],[.O 0,.c 3 ((q.1.map ra)),.o 1,.o 2,.c 4 ((q.2.1.map aa))]⟩) (λ(q:((List GValue) × (List Int)))=>⟨[.k 9,.p 2],[.O 0,.c 3 ((q.1.map ra)),.o 2,.c 4 ((q.2.map aa))]⟩) [ok 0,ok 3,ok 1,ok 2,ok 4] (.b (.e 2 (λ(q:((List GValue) × (List Int)))=>⟨[.k 1,.p 37],[.O 0,.c 1 ((q.1.map ra)),.o 2,.o 3,.c 4 ((q.2.map aa))]⟩) (.b (.t [ok 0,ok 1,ok 2,ok 3,ok 4]) (.b (.t [ok 0]) (.b (.t [ok 0]) (.b (.t [ok 0]) (.a [[],[],[],[],[],[],[],[],[],[],[],[],[],[],[]] (.b (.t [ok 0]) (.t [ok 0,ok 1,ok 2,ok 3,ok 4]))))))) (.t [ok 0,ok 1,ok 2,ok 3,ok 4])) (.t [ok 0,ok 1,ok 3,ok 4])) (.t [ok 0]))⟩
instance zI216{t0 t1 t2 t3 r}:Con (Ag t0 t1 t2 t3=some r) (Den Tryz.prog 148 [xb t0,aa t1,Pr t2,Qo t3] (.tup [zu r.1,tm r.2.1,Rg r.2.2])):=⟨λh=>by
 refine dk 119 k148 ?_
 simp only[k148,Kf.of,zs,ze]
 unfold Ag at h
 exact pg (And.intro @Ek.eq_1 @Fk.eq_1) (.l 2 1 (λ(q:((List GType) × Int))=>⟨[.k 3,.p 19,.k 11,.p 2,.s (aa q.2),.p 87],[.o 0,.o 1,.o 2,.o 3,.o 4,.h 5 [.g [.p 4,.s (.own 6 0),.p 1]],.n 2 ((q.1.map vb)),.o 6]⟩) (λ(b8:(List GType))=>⟨[.k 3,.p 19],[.o 0,.o 1,.o 2,.o 3,.o 4,.h 5 [.g [.p 4,.s (.own 6 0),.p 1]],.n 2 ((b8.map vb)),.o 6]⟩) [ok 0,ok 1,ok 2,ok 3,ok 4,ok 5,on 2,ok 6] (.b (.t [ok 0,ok 1,ok 2,ok 3,ok 4,ok 5,ov 6 1,ok 7]) (.t [ok 0,ok 1,ok 2,ok 3,ok 4,ok 5,ok 6,ok 7])) (.l 3 2 (λ(q:((List (List GValue)) × (List GMemberResult) × Int))=>⟨[.k 3,.p 44,.k 1,.p 2,.s (aa q.2.2),.p 72],[.o 0,.o 1,.o 2,.o 3,.o 4,.h 5 [.g [.p 3,.s (.own 6 0),.p 2]],.n 1 ((q.1.map Db)),.o 6,.h 7 [.g [.p 2,.s (.own 9 0)]],.n 2 ((q.2.1.map Uc))]⟩) (λ(q:((List (List GValue)) × (List GMemberResult)))=>⟨[.k 3,.p 1,.k 4,.p 39],[.o 2,.o 3,.o 4,.h 5 [.g [.p 3,.s (.own 4 0),.p 2]],.n 1 ((q.1.map Db)),.o 6,.h 7 [.g [.p 2,.s (.own 7 0)]],.n 2 ((q.2.map Uc))]⟩) [ok 0,ok 1,ok 2,ok 3,ok 4,ok 5,on 1,ok 6,ok 7,on 2] (.b (.z 4 (.f ⟨[.k 3,.p 120],[.o 0,.o 1,.o 2,.o 3,.o 4,.o 5,.o 6,.o 7,.o 8,.o 9,.h 10 [.g [.p 2,.s (.sl 3 (([] : List GValue).map ra)),.s (.sl 1 (([] : List (List GValue)).map Db)),.s (.sl 2 (([] : List GType).map vb)),.p 1]]]⟩ [ok 0,ok 1,ok 2,ok 3,ok 4,ok 5,ok 6,ok 7,ok 8,ok 9,ok 10] (.g [[],[0],[0,1],[0,1,2],[0,1,2,3],[0,1,2,3,4],[0,1,2,3,4,5],[0,1,2,3,4,5,6],[0,1,2,3,4,5,6,7],[0,1,2,3,4,5,6,7,8],[0,1,2,3,4,5,6,7,8,9],[0,1,2,3,4,5,6,7,8,9,10],[0,1,2,3,4,5,6,7,8,9,10,11],[0,1,2,3,4,5,6,7,8,9,10,11,12],[0,1,2,3,4,5,6,7,8,9,10,11,12,13]] [none,none,none,none,none,none,none,none,none,some 10,none,none,none,none,none] (.b (.a [[],[],[],[2],[2]] .o) (.t [ok 0,ok 1,ok 2,ok 3,ok 4,ok 5,ov 6 1,ok 7,ok 8,ov 9 1]))))) (.t [ok 2,ok 3,ok 4,ok 5,ok 6,ok 7,ok 8,ok 9])) (.z 1 (.f ⟨[.k 3,.p 120],[.o 0,.o 1,.o 2,.h 3 [.g [.p 2,.s (.sl 3 (([] : List GValue).map ra)),.p 3]],.o 6,.o 7]⟩ [ok 0,ok 1,ok 2,ok 3,ok 6,ok 7] (.g [[],[0],[0,1],[0,1,2],[0,1,2,3],[0,1,2,3,4],[0,1,2,3,4,5],[0,1,2,3,4,5,6],[0,1,2,3,4,5,6,7],[0,1,2,3,4,5,6,7,8],[0,1,2,3,4,5,6,7,8,9],[0,1,2,3,4,5,6,7,8,9,10],[0,1,2,3,4,5,6,7,8,9,10,11],[0,1,2,3,4,5,6,7,8,9,10,11,12]] [none,none,none,none,none,none,none,none,some 3,none,none,none,none,none] (.b (.a [[],[],[],[2],[2]] .o) (.a [[],[],[],[1],[]] .o)))))))⟩
instance zI217{t0 t1 t2 t3 r}:Con (Ud t0 t1 t2 t3=some r) (Den Tryz.prog 103 [xb t0,aa t1,Pr t2,aa t3] (.tup [ra r.1,aa r.2.1,Rg r.2.2])):=⟨λh=>by
 refine dk 53 k103 ?_
 simp only[k103,Kf.of,zs,ze]
 unfold Ud at h
 exact pg (And.intro @xk.eq_1 (And.intro @Ak.eq_1 (And.intro @uh.eq_1 (And.intro @zk.eq_1 (And.intro @Dk.eq_1 (And.intro @Ql.eq_1 (And.intro @k172.eq_1 (And.intro @k147.eq_1 @k146.eq_1)))))))) (.b (.a [[],[],[1],[]] .o) (.i k146 12 50 (λ(q:(ByteArray × Int × (List GField) × (List GField) × (List GRule) × ByteArray × Int × (List GField) × (List GField) × (List GRule) × (List Bool) × (List Bool)))=>⟨[.s (.ref 5 0 0 0)],[.O 0,.O 1,.O 2,.O 3,.O 4,.n 12 [.agg [.v (.string q.1),aa q.2.1,Cb q.2.2.1,Cb q.2.2.2.1,Ye q.2.2.2.2.1,.v (.string q.2.2.2.2.2.1),aa q.2.2.2.2.2.2.1,Cb q.2.2.2.2.2.2.2.1,Cb q.2.2.2.2.2.2.2.2.1,Ye q.2.2.2.2.2.2.2.2.2.1,.own 6 0,.own 7 0]],.n 1 ((q.2.2.2.2.2.2.2.2.2.2.1.map ba)),.n 1 ((q.2.2.2.2.2.2.2.2.2.2.2.map ba))]⟩) (.z 3 (.j 6 (λ(q:(ByteArray × Int × (List GField) × (List GField) × (List GRule) × (List Bool)))=>⟨[.k 5,.p 1],[.O 0,.O 1,.O 2,.O 3,.O 4,.h 6 [.g [.p 5,.s (.v (.string q.1)),.s (aa q.2.1),.s (Cb q.2.2.1),.s (Cb q.2.2.2.1),.s (Ye q.2.2.2.2.1),.p 1,.s (.own 7 0)]],.o 7,.n 1 ((q.2.2.2.2.2.map ba))]⟩) (.b (.t [ok 0,ok 1,ok 2,ok 3,ok 4,ok 6,ok 7,ok 8]) (.t [ok 0,ok 1,ok 2,ok 3,ok 4,ok 6,ok 7,on 1])) (.t [ok 0,ok 1,ok 2,ok 3,ok 4,ok 5,ok 6,ok 7]))) (.i k147 2 45 (λ(q:((List Bool) × (List Bool)))=>⟨[.s (.tup [])],[.O 0,.O 1,.O 2,.O 3,.O 4,.O 5,.C 6 ((q.1.map ba)),.C 7 ((q.2.map ba))]⟩) (.l 2 1 (λ(q:((List Bool) × Int))=>⟨[.p 8,.k 11,.p 2,.s (aa q.2),.p 25],[.O 0,.O 1,.O 2,.O 3,.O 4,.O 5,.C 6 ((q.1.map ba)),.O 7]⟩) (λ(b37:(List Bool))=>⟨[.p 8],[.O 0,.O 1,.O 2,.O 3,.O 4,.O 5,.C 6 ((b37.map ba)),.O 7]⟩) [ok 0,ok 1,ok 2,ok 3,ok 4,ok 5,ok 6,ok 7] (.b (.t [ok 0,ok 1,ok 2,ok 3,ok 4,ok 5,ok 6,ok 7]) (.t [ok 0,ok 1,ok 2,ok 3,ok 4,ok 5,ok 6,ok 7])) (.l 2 1 (λ(q:((List Bool) × Int))=>⟨[.p 1,.k 36,.p 2,.s (aa q.2),.p 7],[.O 0,.O 1,.O 2,.O 3,.O 4,.O 5,.O 6,.C 7 ((q.1.map ba))]⟩) (λ(b58:(List Bool))=>⟨[],[.O 0,.O 1,.O 2,.O 3,.O 4,.O 5,.O 6,.C 7 ((b58.map ba))]⟩) [ok 0,ok 1,ok 2,ok 3,ok 4,ok 5,ok 6,ok 7] (.b (.i k172 1 28 (λ(i55:(List Bool))=>⟨[.s (.tup [])],[.O 0,.O 1,.O 2,.O 3,.O 4,.O 5,.O 6,.C 7 ((i55.map ba))]⟩) (.l 2 1 (λ(q:((List Bool) × Int))=>⟨[.p 1,.k 16,.p 2,.s (aa q.2),.p 10],[.O 0,.O 1,.O 2,.O 3,.O 4,.O 5,.O 6,.C 7 ((q.1.map ba))]⟩) (λ(b54:(List Bool))=>⟨[],[.O 0,.O 1,.O 2,.O 3,.O 4,.O 5,.O 6,.C 7 ((b54.map ba))]⟩) [ok 0,ok 1,ok 2,ok 3,ok 4,ok 5,ok 6,ok 7] (.b (.t [ok 0,ok 1,ok 2,ok 3,ok 4,ok 5,ok 6,ok 7]) (.t [ok 0,ok 1,ok 2,ok 3,ok 4,ok 5,ok 6,ok 7])) (.t [ok 0,ok 1,ok 2,ok 3,ok 4,ok 5,ok 6,ok 7])) (.t [ok 0,ok 1,ok 2,ok 3,ok 4,ok 5,ok 6,ok 7])) (.t [ok 0,ok 1,ok 2,ok 3,ok 4,ok 5,ok 6,ok 7])) (.t [ok 0,ok 1,ok 2,ok 3,ok 4,ok 5,ok 6,ok 7]))) (.z 1 (.d [.o 0,.o 1,.o 2,.o 3,.o 4] [ok 0,ok 1,ok 2,ok 3,ok 4] (.b (.a [[],[],[1],[]] .o) (.a [[],[],[],[],[],[],[],[],[],[],[],[6,8,9],[]] .o)))))))⟩
instance zI218{t0 t1 t2 t3 t4 r}:Con (Zm t0 t1 t2 t3 t4=some r) (Den Tryz.prog 72 [xb t0,ub t1,Da t2,Dj t3,aa t4] (.tup [aa r.1,aa r.2])):=⟨λh=>by
 refine dk 83 k72 ?_
 simp only[k72,Kf.of,zs,ze]
 unfold Zm at h
 exact pg @Xh.eq_1 (.l 3 2 (λ(q:(Int × Int × Int))=>⟨[.k 4,.p 6,.k 2,.s (aa q.1),.s (aa q.2.1),.p 11,.s (aa q.2.2),.p 62],[.o 0,.o 1,.o 2]⟩) (λ(q:(Int × Int))=>⟨[.k 7,.p 3,.k 2,.s (aa q.1),.s (aa q.2),.p 9],[.o 2]⟩) [ok 0,ok 1,ok 2] (.b (.b .o (.b .o (.t [ok 0,ok 1,ok 2]))) (.t [ok 2])) .o)⟩
theorem Fy{t0 t1 t2 t3 t4 t5 r} (h:Wd t0 t1 t2 t3 t4 t5=some r):Den Tryz.prog 34 [xb t0,ub t1,Da t2,aa t3,aa t4,aa t5] (fb r):=by
 refine dk 79 k34 ?_
 simp only[k34,Kf.of,zs,ze]
 unfold Wd at h
 exact pg @Df.eq_1 (.z 2 (.j 1 (λ(j4:Bool)=>⟨[.k 3,.p 9,.k 24,.s (ba j4),.p 48],[.o 0,.o 1,.o 2]⟩) (.b (.b (.b (.t [ok 0,ok 1,ok 2]) (.t [ok 0,ok 1,ok 2])) (.t [ok 0,ok 1,ok 2])) (.t [ok 0,ok 1,ok 2])) (.b .o (.z 3 (.j 2 (λ(q:(Bool × (List Int)))=>⟨[.k 3,.p 11,.s (ba q.1),.s (ua q.2),.p 20],[.o 0,.o 1,.o 2,.o 3]⟩) (.b (.t [ok 0,ok 1,ok 2,ok 3]) (.t [ok 0,ok 1,ok 2,ok 3])) (.l 3 1 (λ(q:((List GAward) × Bool × Int))=>⟨[.k 4,.p 10,.s (ba q.2.1),.p 1,.s (aa q.2.2),.p 33],[.o 0,.o 1,.o 2,.c 3 ((q.1.map xi))]⟩) (λ(b28:(List GAward))=>⟨[.k 13,.p 1],[.c 3 ((b28.map xi))]⟩) [ok 0,ok 1,ok 2,ok 3] (.b (.z 2 (.j 3 (λ(q:(Bool × Int × Int))=>⟨[.k 4,.p 10,.s (ba q.1),.p 36],[.o 0,.o 1,.o 2,.o 3,.h 4 [.g [.p 1,.s (aa q.2.1),.s (aa q.2.2)]]]⟩) (.b (.t [ok 0,ok 1,ok 2,ok 3,ok 4]) (.b (.a [[],[],[],[],[],[],[],[],[],[],[],[],[]] (.t [ok 0,ok 1,ok 2,ok 3,ok 4])) (.t [ok 0,ok 1,ok 2,ok 3,ok 4]))) (.t [ok 0,ok 1,ok 2,ov 3 1]))) (.t [ok 3])) .o))))))
instance zI219{t0 t1 t2 t3 t4 t5 r}:Con (Wd t0 t1 t2 t3 t4 t5=some r) (Den Tryz.prog 34 [xb t0,ub t1,Da t2,aa t3,aa t4,aa t5] (fb r)):=⟨Fy⟩
theorem oz{t0 t1 t2 t3 t4 t5 r} (h:Wd t0 t1 t2 t3 t4 t5=some r):Xn Tryz.prog 34 [xb t0,.agg [aa t1.Id,aa t1.Scope,aa t1.Members,.own 0 0],Da t2,aa t3,aa t4,aa t5] [(9,t1.Facts.map sb)] (fb r):=by
 refine Xn.of 79 k34 ?_ (by simp[Fr.l])
 simp only[k34,Kf.of,zs,ze,Go.Tm.Lc,Gaa,xab,uaa,Faa,Oaa]
 unfold Wd at h
 exact pg @Df.eq_1 (.z 2 (.j 1 (λ(j4:Bool)=>⟨[.k 3,.p 9,.k 24,.s (ba j4),.p 48],[.O 0,.o 1,.o 2,.o 3]⟩) (.b (.b (.b (.t [ok 0,ok 1,ok 2,ok 3]) (.t [ok 0,ok 1,ok 2,ok 3])) (.t [ok 0,ok 1,ok 2,ok 3])) (.t [ok 0,ok 1,ok 2,ok 3])) (.b (.t [ok 0]) (.z 3 (.j 2 (λ(q:(Bool × (List Int)))=>⟨[.k 3,.p 11,.s (ba q.1),.s (ua q.2),.p 20],[.O 0,.o 1,.o 2,.o 3,.o 4]⟩) (.b (.t [ok 0,ok 1,ok 2,ok 3,ok 4]) (.t [ok 0,ok 1,ok 2,ok 3,ok 4])) (.l 3 1 (λ(q:((List GAward) × Bool × Int))=>⟨[.k 4,.p 10,.s (ba q.2.1),.p 1,.s (aa q.2.2),.p 33],[.O 0,.o 1,.o 2,.o 3,.c 4 ((q.1.map xi))]⟩) (λ(b28:(List GAward))=>⟨[.k 13,.p 1],[.O 0,.c 4 ((b28.map xi))]⟩) [ok 0,ok 1,ok 2,ok 3,ok 4] (.b (.z 2 (.j 3 (λ(q:(Bool × Int × Int))=>⟨[.k 4,.p 10,.s (ba q.1),.p 36],[.O 0,.o 1,.o 2,.o 3,.o 4,.h 5 [.g [.p 1,.s (aa q.2.1),.s (aa q.2.2)]]]⟩) (.b (.t [ok 0,ok 1,ok 2,ok 3,ok 4,ok 5]) (.b (.a [[],[],[],[],[],[],[],[],[],[],[],[],[]] (.t [ok 0,ok 1,ok 2,ok 3,ok 4,ok 5])) (.t [ok 0,ok 1,ok 2,ok 3,ok 4,ok 5]))) (.t [ok 0,ok 1,ok 2,ok 3,ov 4 1]))) (.t [ok 0,ok 4])) (.t [ok 0])))))))
instance zI220{t0 t1 t2 t3 t4 t5 r}:Con2 (Wd t0 t1 t2 t3 t4 t5=some r) (Xn Tryz.prog 34 [xb t0,.agg [aa t1.Id,aa t1.Scope,aa t1.Members,.own 0 0],Da t2,aa t3,aa t4,aa t5] [(9,t1.Facts.map sb)] (fb r)):=⟨oz⟩
theorem Px{t0 t1 t2 t3 t4 r} (h:Wa t0 t1 t2 t3 t4=some r):Den Tryz.prog 14 [xb t0,Da t1,zb t2,aa t3,aa t4] (Aa r):=by
 refine dk 35 k14 ?_
 simp only[k14,Kf.of,zs,ze]
 unfold Wa at h
 exact pg trivial (.z 2 (.j 1 (λ(j2:Bool)=>⟨[.k 3,.p 7,.k 9,.s (ba j2),.p 20],[.o 0,.o 1,.o 2]⟩) (.b (.t [ok 0,ok 1,ok 2]) (.t [ok 0,ok 1,ok 2])) .o))
instance zI221{t0 t1 t2 t3 t4 r}:Con (Wa t0 t1 t2 t3 t4=some r) (Den Tryz.prog 14 [xb t0,Da t1,zb t2,aa t3,aa t4] (Aa r)):=⟨Px⟩
theorem Dy{t0 t1 t2 t3 t4 r} (h:Wa t0 t1 t2 t3 t4=some r):Xn Tryz.prog 14 [xb t0,Da t1,.agg [aa t2.Household.Id,aa t2.Household.Scope,aa t2.Household.Members,.own 0 0,.own 1 0,.own 2 0,aa t2.Date,aa t2.LastMonth],aa t3,aa t4] [(9,t2.Household.Facts.map sb),(4,t2.Postings.map ta),(7,t2.Appeals.map bb)] (Aa r):=by
 refine Xn.of 35 k14 ?_ (by simp[Fr.l])
 simp only[k14,Kf.of,zs,ze,Go.Tm.Lc,Gaa,xab,uaa,Faa,Oaa]
 unfold Wa at h
 exact pg trivial (.z 2 (.j 1 (λ(j2:Bool)=>⟨[.k 3,.p 7,.k 9,.s (ba j2),.p 20],[.O 0,.O 1,.O 2,.o 3,.o 4,.o 5]⟩) (.b (.t [ok 0,ok 1,ok 2,ok 3,ok 4,ok 5]) (.t [ok 0,ok 1,ok 2,ok 3,ok 4,ok 5])) (.b (.t [ok 0,ok 1,ok 2]) (.b (.t [ok 0,ok 1,ok 2]) (.t [ok 0,ok 1,ok 2])))))
instance zI222{t0 t1 t2 t3 t4 r}:Con2 (Wa t0 t1 t2 t3 t4=some r) (Xn Tryz.prog 14 [xb t0,Da t1,.agg [aa t2.Household.Id,aa t2.Household.Scope,aa t2.Household.Members,.own 0 0,.own 1 0,.own 2 0,aa t2.Date,aa t2.LastMonth],aa t3,aa t4] [(9,t2.Household.Facts.map sb),(4,t2.Postings.map ta),(7,t2.Appeals.map bb)] (Aa r)):=⟨Dy⟩
instance zI223{t0 c10 r}:Con (xa t0 (λx900=>Rb x900 c10)=some r) (Den Tryz.prog 87 [Aa t0,.fn 88 [] [Qp c10]] (aa r)):=⟨λh=>Ng (q1:=[Qp c10]) (DC FA) (λx900 _ hb=>En hb) h⟩
theorem HA{t0 t1 t2 t3 r} (h:Qc t0 t1 t2 t3=some r):Den Tryz.prog 12 [xb t0,Da t1,zb t2,zi t3] (.tup [zb r.1,aa r.2]):=by
 refine dk 69 k12 ?_
 simp only[k12,Kf.of,zs,ze]
 unfold Qc at h
 exact pg (And.intro @Il.eq_1 (And.intro @Hl.eq_1 (And.intro @Gl.eq_1 (And.intro @Ym.eq_1 (And.intro @Xm.eq_1 (And.intro @Wm.eq_1 (And.intro @vj.eq_1 (And.intro @Vm.eq_1 (And.intro @Um.eq_1 (And.intro @Rm.eq_1 (And.intro @k83.eq_1 (And.intro @k52.eq_1 (And.intro @k51.eq_1 (And.intro @k50.eq_1 (And.intro @k49.eq_1 (And.intro @k48.eq_1 (And.intro @k47.eq_1 @k46.eq_1))))))))))))))))) (.b .o (.b .o (.b .o (.i k46 3 17 (λ(q:((List GFact) × (List GPosting) × (List GAppeal)))=>⟨[.s (.agg [aa t2.Household.Id,aa t2.Household.Scope,aa t2.Household.Members,.own 5 0,.own 6 0,.own 7 0,aa t2.Date,aa t2.LastMonth])],[.O 0,.O 1,.O 2,.O 3,.O 4,.n 9 ((q.1.map sb)),.n 4 ((q.2.1.map ta)),.n 7 ((q.2.2.map bb))]⟩) (.t [ok 0,ok 1,ok 2,ok 3,ok 4,ok 7,ok 8,ok 9]) (.z 1 (.j 5 (λ(q:((List GFact) × (List GPosting) × (List GAppeal) × Int × Int))=>⟨[.k 6,.p 3,.k 1,.p 1,.s (aa q.2.2.2.2)],[.o 2,.o 3,.o 4,.h 8 [.g [.p 7,.s (aa q.2.2.2.1)]],.c 5 ((q.1.map sb)),.c 6 ((q.2.1.map ta)),.c 7 ((q.2.2.1.map bb))]⟩) (.b (.i k47 2 35 (λ(q:((List GFact) × Int))=>⟨[.s (aa q.2)],[.O 0,.O 1,.O 2,.O 3,.O 4,.B 5 1 ((q.1.map sb)),.O 6,.O 7,.H 8 [.g [.p 3,.s (.own 5 1),.p 4]]]⟩) (.b (.t [ok 0,ok 1,ok 2,ok 3,ok 4,(some 5,0,1),ok 6,ok 7,ok 8]) (.a [[],[],[],[],[],[],[],[],[],[]] (.t [ok 0,ok 1,ok 2,ok 3,ok 4,(some 5,1,1),ok 6,ok 7,ok 8]))) (.t [ok 2,ok 3,ok 4,ok 8,ov 5 1,ok 6,ok 7])) (.b (.i k48 3 49 (λ(q:((List GPosting) × Int × Int))=>⟨[.s (aa q.2.2)],[.O 0,.O 1,.O 2,.O 3,.O 4,.O 5,.B 6 1 ((q.1.map ta)),.O 7,.H 8 [.g [.p 4,.s (.own 6 1),.p 2,.s (aa q.2.1)]]]⟩) (.b (.t [ok 0,ok 1,ok 2,ok 3,ok 4,ok 5,(some 6,0,1),ok 7,ok 8]) (.b (.t [ok 0,ok 1,ok 2,ok 3,ok 4,ok 5,(some 6,0,1),ok 7,ok 8]) (.i k83 2 21 (λ(q:((List GPosting) × Int))=>⟨[.s (aa q.2)],[.O 0,.O 1,.O 2,.O 3,.O 4,.O 5,.B 6 1 ((q.1.map ta)),.O 7,.H 8 [.g [.p 4,.s (.own 6 1),.p 3]],.O 9,.O 10,.O 11]⟩) (.b (.t [ok 0,ok 1,ok 2,ok 3,ok 4,ok 5,(some 6,0,1),ok 7,ok 8,ok 9,ok 10,ok 11]) (.t [ok 0,ok 1,ok 2,ok 3,ok 4,ok 5,(some 6,1,1),ok 7,ok 8,ok 9,ok 10,ok 11])) (.t [ok 0,ok 1,ok 2,ok 3,ok 4,ok 5,(some 6,1,1),ok 7,ok 8])))) (.t [ok 2,ok 3,ok 4,ok 8,ok 5,ov 6 1,ok 7])) (.b (.i k49 2 43 (λ(q:((List GAppeal) × Int))=>⟨[.s (aa q.2)],[.O 0,.O 1,.O 2,.O 3,.O 4,.O 5,.O 6,.B 7 1 ((q.1.map bb)),.H 8 [.g [.p 5,.s (.own 7 1),.p 2]]]⟩) (.b (.t [ok 0,ok 1,ok 2,ok 3,ok 4,ok 5,ok 6,(some 7,0,1),ok 8]) (.a [[],[],[],[],[],[],[],[],[],[],[],[],[],[],[],[],[],[],[],[]] (.b (.t [ok 0,ok 1,ok 2,ok 3,ok 4,ok 5,ok 6,(some 7,0,1),ok 8]) (.a [[],[],[],[],[],[],[],[]] (.t [ok 0,ok 1,ok 2,ok 3,ok 4,ok 5,ok 6,(some 7,1,1),ok 8]))))) (.t [ok 2,ok 3,ok 4,ok 8,ok 5,ok 6,ov 7 1])) (.b (.i k50 2 47 (λ(q:((List GAppeal) × Int))=>⟨[.s (aa q.2)],[.O 0,.O 1,.O 2,.O 3,.O 4,.O 5,.O 6,.C 7 ((q.1.map bb)),.O 8]⟩) (.z 2 (.j 1 (λ(j41:Bool)=>⟨[.p 1,.k 2,.p 1,.k 15,.s (ba j41),.p 29],[.O 0,.O 1,.O 2,.O 3,.O 4,.O 5,.O 6,.O 7,.O 8,.o 9]⟩) (.b (.t [ok 0,ok 1,ok 2,ok 3,ok 4,ok 5,ok 6,ok 7,ok 8,ok 9]) (.t [ok 0,ok 1,ok 2,ok 3,ok 4,ok 5,ok 6,ok 7,ok 8,ok 9])) (.b (.t [ok 0,ok 1,ok 2,ok 3,ok 4,ok 5,ok 6,ok 7,ok 8]) (.a [[],[],[],[],[],[],[],[],[],[],[],[],[],[],[],[],[],[],[],[]] (.b (.t [ok 0,ok 1,ok 2,ok 3,ok 4,ok 5,ok 6,ok 7,ok 8]) (.t [ok 0,ok 1,ok 2,ok 3,ok 4,ok 5,ok 6,ok 7,ok 8])))))) (.t [ok 2,ok 3,ok 4,ok 8,ok 5,ok 6,ok 7])) (.b (.i k51 2 40 (λ(q:((List GPosting) × Int))=>⟨[.s (aa q.2)],[.O 0,.O 1,.O 2,.O 3,.O 4,.O 5,.B 6 1 ((q.1.map ta)),.O 7,.H 8 [.g [.p 4,.s (.own 6 1),.p 3]]]⟩) (.z 2 (.j 1 (λ(j51:Bool)=>⟨[.k 2,.p 1,.k 1,.p 4,.k 10,.s (ba j51),.p 25],[.O 0,.O 1,.O 2,.O 3,.O 4,.O 5,.O 6,.O 7,.O 8,.o 9,.o 10,.o 11]⟩) (.b (.t [ok 0,ok 1,ok 2,ok 3,ok 4,ok 5,ok 6,ok 7,ok 8,ok 9,ok 10,ok 11]) (.t [ok 0,ok 1,ok 2,ok 3,ok 4,ok 5,ok 6,ok 7,ok 8,ok 9,ok 10,ok 11])) (.b (.t [ok 0,ok 1,ok 2,ok 3,ok 4,ok 5,(some 6,0,1),ok 7,ok 8]) (.b (.t [ok 0,ok 1,ok 2,ok 3,ok 4,ok 5,(some 6,0,1),ok 7,ok 8]) (.i k83 2 21 (λ(q:((List GPosting) × Int))=>⟨[.s (aa q.2)],[.O 0,.O 1,.O 2,.O 3,.O 4,.O 5,.B 6 1 ((q.1.map ta)),.O 7,.H 8 [.g [.p 4,.s (.own 6 1),.p 3]],.O 9,.O 10,.O 11]⟩) (.b (.t [ok 0,ok 1,ok 2,ok 3,ok 4,ok 5,(some 6,0,1),ok 7,ok 8,ok 9,ok 10,ok 11]) (.t [ok 0,ok 1,ok 2,ok 3,ok 4,ok 5,(some 6,1,1),ok 7,ok 8,ok 9,ok 10,ok 11])) (.t [ok 0,ok 1,ok 2,ok 3,ok 4,ok 5,(some 6,1,1),ok 7,ok 8])))))) (.t [ok 2,ok 3,ok 4,ok 8,ok 5,ov 6 1,ok 7])) (.b (.i k52 2 50 (λ(q:((List GPosting) × Int))=>⟨[.s (aa q.2)],[.O 0,.O 1,.O 2,.O 3,.O 4,.O 5,.B 6 1 ((q.1.map ta)),.O 7,.H 8 [.g [.p 4,.s (.own 6 1),.p 3]]]⟩) (.z 2 (.j 1 (λ(j64:Bool)=>⟨[.k 2,.p 1,.k 1,.p 4,.k 10,.s (ba j64),.p 35],[.O 0,.O 1,.O 2,.O 3,.O 4,.O 5,.O 6,.O 7,.O 8,.o 9,.o 10,.o 11]⟩) (.b (.t [ok 0,ok 1,ok 2,ok 3,ok 4,ok 5,ok 6,ok 7,ok 8,ok 9,ok 10,ok 11]) (.t [ok 0,ok 1,ok 2,ok 3,ok 4,ok 5,ok 6,ok 7,ok 8,ok 9,ok 10,ok 11])) (.b (.t [ok 0,ok 1,ok 2,ok 3,ok 4,ok 5,(some 6,0,1),ok 7,ok 8]) (.b (.t [ok 0,ok 1,ok 2,ok 3,ok 4,ok 5,(some 6,0,1),ok 7,ok 8]) (.b (.t [ok 0,ok 1,ok 2,ok 3,ok 4,ok 5,(some 6,0,1),ok 7,ok 8]) (.i k83 2 21 (λ(q:((List GPosting) × Int))=>⟨[.s (aa q.2)],[.O 0,.O 1,.O 2,.O 3,.O 4,.O 5,.B 6 1 ((q.1.map ta)),.O 7,.H 8 [.g [.p 4,.s (.own 6 1),.p 3]],.O 9,.O 10,.O 11,.O 12]⟩) (.b (.t [ok 0,ok 1,ok 2,ok 3,ok 4,ok 5,(some 6,0,1),ok 7,ok 8,ok 9,ok 10,ok 11,ok 12]) (.t [ok 0,ok 1,ok 2,ok 3,ok 4,ok 5,(some 6,1,1),ok 7,ok 8,ok 9,ok 10,ok 11,ok 12])) (.t [ok 0,ok 1,ok 2,ok 3,ok 4,ok 5,(some 6,1,1),ok 7,ok 8]))))))) (.t [ok 2,ok 3,ok 4,ok 8,ok 5,ov 6 1,ok 7])) (.t [ok 2,ok 3,ok 4,ok 8,ok 5,ok 6,ok 7]))))))) .o))))))
instance zI224{t0 t1 t2 t3 r}:Con (Qc t0 t1 t2 t3=some r) (Den Tryz.prog 12 [xb t0,Da t1,zb t2,zi t3] (.tup [zb r.1,aa r.2])):=⟨HA⟩
end Go.Proofs.Dev
