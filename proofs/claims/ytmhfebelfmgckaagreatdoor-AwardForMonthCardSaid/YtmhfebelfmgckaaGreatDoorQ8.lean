/-
  Contracts of the functions: each answers as its plain partial function says.
-/
import Derived.Test.YtmhfebelfmgckaaGreatDoorK
import Derived.Test.YtmhfebelfmgckaaGreatDoorG
import Derived.Test.YtmhfebelfmgckaaGreatDoorPE
import Derived.Test.YtmhfebelfmgckaaGreatDoorH1
import Derived.Test.YtmhfebelfmgckaaGreatDoorH2
import Derived.Test.YtmhfebelfmgckaaGreatDoorL1
import Derived.Test.YtmhfebelfmgckaaGreatDoorQ4
import Derived.Test.YtmhfebelfmgckaaGreatDoorQ5
import Derived.Test.YtmhfebelfmgckaaGreatDoorQ6
import Derived.Test.YtmhfebelfmgckaaGreatDoorQ7
open And renaming intro->ak
open Go.Proofs.Tryz renaming prog->al
open Bool renaming and_eq_true->Laa,and_true->Hac
open List renaming all_cons->nac,append_assoc->Yab,cons_append->Waa,ext_getElem->iac,getElem?_concat_length->nab,getElem_mem->Iaa,map_append->Yac,map_set->oad,mem_map->pac,replicate->Daa,replicate_succ'->vac
open Nat renaming sub_self->wac,zero_le->pab
open Option.some renaming inj->wab,injEq->dab
set_option linter.all false
set_option maxHeartbeats 1000000
set_option maxRecDepth 10000
namespace Go.Proofs.Dev
open Go Go.Tm
variable {n d w:Nat}{F:Nat->List Int}{x:Int}{L:LL}{g:List (List Int)}{y:Nat×List Int×Nat}{l out:List Int}{t0:GScope}{R327 R397:(GEval_evaluator -> Int -> Option (GValue × Int))}{R368:(GEval_evaluator -> GNode -> (List Int) -> Option (GValue × Int))}
instance yV:C2 k224 Fc:=pg (ak k224.eq_1 Fc.eq_1) (.z 2 (.j (EN [8,25,72,2,33] [0]) .o .o))
instance xV:C2 k225 Zh:=pg (ak (ak k225.eq_1 Zh.eq_1) (ak Ui.eq_1 Vr.eq_1)) (.z 2 (.j (EN [8,25,168,2,553] [0]) .o (.l (EN [16,185,88,17,10,449] [0,258]) (EN [16,185] [0,258]) [] .o (.l (EN [16,49,19,297,8,17,10,361] [0,8,260]) (EN [64,3,297] [260]) [0,4,5] (.b (.j (EN [16,385] [0,8,514]) (.z 2 (.j (EN [16,385,168,2,185] [0,8,16,24]) .o (.b .o (.t [0,4,520])))) .o) (.t [8])) .o))))
instance zI303b{t0 c10 r}:Con (Ub t0 (λx900=>qe x900 c10)=some r) (Den al 303 [BB t0,.fn 304 [] [Bz c10]] (.tup [da r.1,za r.2])):=⟨λh=>lu (q1:=[Bz c10]) (WJ DH) (λx900 _ hb=>cw hb) h⟩
instance QZ:C2 k263 pq:=pg (ak (ak k263.eq_1 pq.eq_1) El.eq_1) (.z 4 (.j (EN [8,25,200,2,729] [0]) .o (.l (EN [16,217,128,17,2,585] [0]) (EN [] []) [] (.z 5 (.j (EN [16,369,184,2,393] [0,8]) .o (.z 1 (.j (EN [16,553,200,2,193] [0,8]) .o (.z 1 (.j (EN [16,753,88,2,105] [0,8]) .o .o)))))) .o)))
def lz(n:Nat) (F:Nat->List Int):LL:=(List.range n).map λd=>((F d).length,F d)
theorem CP:(lz n F).length=n:=by simp[lz]
theorem BP(h:d<n):(lz n F)[d]?=some ((F d).length,F d):=by grind[lz]
theorem F2{F':Nat->List Int}(h1:F' d=F d++[x]) (h2:∀e,e≠d->F' e=F e):(lz n F).set d ((F d).length+1,F d++[x])=lz n F':=by
 unfold lz;apply iac
 all_goals grind
def BV(I:List Int) (L:LL):List Ent:=.live 1 0 (I.map da)::.live 1 0 (owns 4 L)::Cd L
def evM(l:List Int) (v:Nat) (I:List Int) (L:LL):List Ent:=dB l v 0 (BV I L)
theorem yO{I:List Int}:(BV I L).length=L.length+2:=by simp[BV,qm]
theorem vG{I:List Int}:(BV I L).all (Ent.below ((BV I L).length+2))=true:=by
 rw[yO];unfold BV;simp only[nac,Laa];exact⟨Zd _ _ (Fr.l _),sx (by omega),uy⟩
theorem iJ(t:List D) (a b c:Ent) (n:Nat):∀x,x<=n->fy 1 3 x ⟨t,[a,b,c,.live 1 0 (Daa n (.v (.slice none 0 0)))]⟩=⟨t,a::b::c::.live 1 0 (owns 4 (Daa x (0,[]))++Daa (n-x) (.v (.slice none 0 0)))::Cd (Daa x (0,[]))⟩
 |0,_=>by simp[fy,owns,Cd]
 |x+1,h=>by
  rw[fy,iJ t a b c n x (by omega)];unfold hJ;simp only[List.getElem?_cons_succ,List.getElem?_cons_zero];have hl:(owns 4 (Daa x ((0:Nat),([]:List Int)))).length=x:=by grind[Mv]
  rw[List.getElem?_append_right (by omega),hl,wac,List.getElem?_replicate,if_pos (by omega)];simp only[List.set_cons_succ,List.set_cons_zero,List.length_cons,qm,List.length_replicate,Waa,St.mk.injEq,true_and,List.cons.injEq,Ent.live.injEq];refine⟨?_,?_⟩
  .rw[List.set_append,if_neg (by omega),hl,wac,vac (n:=x),vK,Yab];congr 1;obtain⟨k,hk⟩:∃k,n-x=k+1:=⟨n-x-1,by omega⟩
   grind[owns]
  grind[Cd,vac]
theorem B2(h:∀d,F d=[]):lz n F=Daa n (0,[]):=by
 unfold lz;apply iac
 all_goals simp_all
theorem FO:oa (Daa n (.v (.int .i64 0)))=true:=zk.2 λd hd=>by rw[List.eq_of_mem_replicate hd];rfl
def E1(g:List (List Int)) (y:Nat×List Int×Nat):St:=⟨ds 4 (kd g::.own 3 0::.own 2 0::.ref 0 0 0 0::ds 19 (kd g::da g.length::da y.1::ds 83 [])),evM y.2.1 y.2.2 (iF g y.1) (lz g.length (Ji g y.1))⟩
def E2(g:List (List Int)) (l:List Int) (v i j:Nat):St:=⟨ds 4 (kd g::.own 3 0::.own 2 0::.ref 0 0 0 0::da i::qa (g.getD i [])::ds 17 (kd g::da g.length::da i::ds 9 (qa (g.getD i [])::da (g.getD i []).length::da j::ds 71 []))),evM l v (iF g (i+1)) (lz g.length (Bu g i j))⟩
theorem E1_fit:Fit 0 (E1 g y):=by
 refine GC vG (pab _) ?_
 simp_all[belows,Tm.below,yO,Aq,Kr,Me,Fr.h]
theorem E2_fit{v i j:Nat}:Fit 0 (E2 g l v i j):=by
 refine GC vG (pab _) ?_
 simp_all[belows,Tm.below,yO,Aq,Kr,Me,Fr.h]
def CB(I:List Int) (L:LL) (w:Nat) (out:List Int):List Ent:=.live 1 0 (I.map da)::.live 1 0 (owns 4 L)::(Cd L++[.live 1 w (out.map da)])
theorem QJ{I:List Int}:(CB I L w out).length=L.length+3:=by simp[CB,qm]
theorem qA{I:List Int}:(CB I L w out).all (Ent.below ((CB I L w out).length+2))=true:=by
 rw[QJ];unfold CB;simp only[nac,List.all_append,List.all_nil,Hac,Laa];exact⟨Zd _ _ (Fr.l _),sx (by omega),uy,Zd _ _ (Fr.l _)⟩
abbrev gL(g:List (List Int)):LL:=lz g.length (Ji g g.length)
def E3(g:List (List Int)) (y:List Int×Nat×List Int×Nat):St:=⟨ds 4 (kd g::.own 3 0::.own 2 0::.ref 0 0 0 0::ds 4 (.own ((Cd (gL g)).length+4) y.2.1::ds 100 [])),dB y.2.2.1 y.2.2.2 0 (CB (IQ g y.1) (gL g) y.2.1 y.1)⟩
def E4(g:List (List Int)) (out:List Int) (w d:Nat) (y:Nat×List Int×Nat):St:=⟨ds 4 (kd g::.own 3 0::.own 2 0::.ref 0 0 0 0::ds 4 (.own ((Cd (gL g)).length+4) (w+1)::da d::ds 70 (.own (d+4) (Ji g g.length d).length::da (Ji g g.length d).length::da y.1::ds 26 []))),dB y.2.1 y.2.2 0 (CB (YA g out d y.1) (gL g) (w+1) (out++[(d:Int)]))⟩
theorem aU:(gL g).length=g.length:=CP
theorem E3_fit{y:List Int×Nat×List Int×Nat}:Fit 0 (E3 g y):=by
 refine GC qA (pab _) ?_
 simp_all[belows,Tm.below,QJ,qm,Aq,Kr,Me,Fr.h]
theorem E4_fit(hd:d<g.length) :Fit 0 (E4 g out w d y):=by
 refine GC qA (pab _) ?_;rw[QJ,qm,aU];simp only[Aq,Kr,belows,Tm.below,Hac,Bool.true_and,Laa,decide_eq_true_eq];exact⟨Me _ _ (Fr.h _),by omega,by omega,by omega,by omega,Me _ _ (Fr.h _),by omega,Me _ _ (Fr.h _),Me _ _ (Fr.h _)⟩
theorem ev_T(hall:Gc t0=some g) (hg:GOk g) :
 Den al 275 [De t0] (.tup [qa (Qu g).1,da (Qu g).2]):=by
 have hgl:=hg.len;refine dk 112 k275 ?_;simp only[k275,Kf.of,zs,ze];refine ss (rg ?_);simp only[zz];refine ss (rg ?_);simp only[zz];refine HI (my hall) ?_ (by simp only[zg]);simp only[zz];have hm:UB 24 ([]:List Int) (g.length:Int) (g.length:Int)=some (Daa g.length []):=by
  grind[UB]
 obtain⟨f2,f3,f4,f5,f6⟩:=dR (e:=qa) hm;have hm2:UB 8 (0:Int) (g.length:Int) (g.length:Int)=some (Daa g.length 0):=by
  grind[UB]
 obtain⟨a2,a3,a4,a5,a6⟩:=dR (e:=da) hm2;refine ss (rg ?_);(try simp only[zz]at f5 f6 a5 a6);(try simp only[zz,f2,f3,f4,f5]);refine ss (rg ?_);(try simp only[zz,a2,a3,a4,a5]);refine ss (rg ?_);simp only[zz];refine ss (ss (rg ?_));simp only[zz];refine tl (S:=⟨ds 4 (kd g::.own 3 0::.own 2 0::.ref 0 0 0 0::ds 19 (kd g::da g.length::da 0::ds 83 [])),[.live 1 0 [.own 1 0],.live 1 0 [],.live 1 0 (Daa g.length (.v (.int .i64 0))),.live 1 0 (Daa g.length (.v (.slice none 0 0)))]⟩) (tq [ok 4,ok 3,ok 2,ok 1] (by simp_all[zg,Gj,FH,FO])) ?_;refine kG (S:=1) (id:=3) (x:=g.length) ?_;rw[iJ _ _ _ _ _ _ (Nat.le_refl _),wac,List.replicate_zero,List.append_nil];refine T.NP (E1 g) (λy=>y.1<=g.length/\y.2.1.Perm (pU g y.1)/\Hp y.2.1 y.2.1.length) (λy=>y.1=g.length/\y.2.1.Perm (pU g y.1)/\Hp y.2.1 y.2.1.length) (λy=>g.length-y.1) (0,[],0) ⟨pab _,.refl _,λk _ h=>absurd h (Nat.not_lt_zero _)⟩ ?_ (λ_ _=>E1_fit) ?_ (λ_=>oC) ?_
 .grind[E1,evM,dB,BV,B2,TX,EY,At.same,xa.Dc]
 .rintro⟨i,l,v⟩ ⟨h1,h2,h3⟩;dsimp only at h1 h2 h3;have hll:l.length<=1048576:=by rw[h2.length_eq];grind[rd0_len]
  unfold E1 evM dB BV;dsimp only;refine ss (rg ?_);simp only[zz];refine ss (cd rfl ?_);simp only[zz];refine gP.mk (λhc=>?_) (λhc=>?_)
  .have hi:i<g.length:=by omega
   refine sk ?_;simp only[zz];have g2:g[i]?=some (g.getD i []):=by grind
   have hmem:g.getD i []∈g:=List.mem_of_getElem? g2;have hgi:=hg.inr _ hmem;have hgn:=hg.nd _ hmem;have hgk:(g.getD i []).length<=g.length:=LG hgn hgi;have i1:(iF g i)[i]?=some 0:=by grind[iF]
   have i2:(iF g i).length=g.length:=by grind[iF]
   refine ss (bk (ss (rg ?_)));simp only[zz,g2];generalize hgi':g.getD i []=gi at *;refine ss (rg ?_);simp only[zz,g2,i1,i2,hi];refine ss (ss (rg ?_));simp only[zz];have hdi:Bu g i gi.length=Ji g (i+1):=funext λd=>by rw[←hgi'];exact SX.symm
   have hw:aa .i64 ((i:Int)+1)=((i+1:Nat):Int):=by grind[Rx]
   refine T.blkI gi.length (E2 g l v i) ?_ (λj _=>E2_fit) (λj hj=>?_) oC ?_
   .unfold E2 evM dB BV;rw[show Bu g i 0=Ji g i from funext λd=>UX,hgi',←DY hi,oad,hgi'];exact At.same _ _ _ (by repeat (first|exact xa.Dc _|refine xa.cons (Sub.refl _) ?_|refine xa.cons (Sub.sb _) ?_))
   .unfold E2 evM dB BV;rw[hgi'];refine ss (rg ?_);simp only[zz];refine ss (cd rfl ?_);simp only[zz];refine gP.mk (λhc=>?_) (λhc=>?_)
    .have hjl:j<gi.length:=by omega
     refine sk ?_;simp only[zz];obtain⟨d,hd,hdn⟩:∃d:Nat,gi[j]=(d:Int)/\d<g.length:=by
      have:=hgi gi[j] (Iaa hjl);exact⟨gi[j].toNat,by omega,by omega⟩
     have g3:gi[j]?=some (d:Int):=by simp_all
     have hL:(lz g.length (Bu g i j)).length=g.length:=CP;have hp:(lz g.length (Bu g i j))[d]?=some ((Bu g i j d).length,Bu g i j d):=BP hdn;have hLs:lz g.length (Bu g i (j+1))=(lz g.length (Bu g i j)).set d ((Bu g i j d).length+1,Bu g i j d++[(i:Int)]):=by
      refine(F2 ?_ λe he=>?_).symm
      .simp_all[JM]
      .rw[JM (by simp_all) (by simp_all),if_neg (by grind)]
     have hpb:(Bu g i j d).length<=i+1:=U4;generalize hQ:(Bu g i j d).length=q at *;generalize hF:Bu g i j d=F at *;generalize hLL:lz g.length (Bu g i j)=L at hL hLs hp⊢;obtain⟨E,hE⟩:∃E,E=Cd L:=⟨_,rfl⟩;have hEl:E.length=L.length:=by rw[hE,qm]
     rw[←hE];have hol:(owns 4 L).length=g.length:=by rw[Mv,hL]
     have hEd:d<E.length:=by omega
     have k1:(owns 4 L)[d]?=some (.own (d+4) q):=by grind[uF]
     have k2:∀y,(E++[y])[d]?=some (.live 1 q (F.map da)):=λy=>by
      grind[Cd]
     have k3:∀y e,(E++[y]).set d e=E.set d e++[y]:=λy e=>by simp_all
     have k5:(F.length+1)*8<=2 ^ 47:=by omega
     have k6:oW (E.length+4) (d+4)=true:=NO (by omega);refine ss (bk (ss (rg ?_)));simp only[zz,g3];refine rg ?_;simp only[zz,hol,hdn,k1,k2,k3,k5,k6,nab,Cs];have hw2:aa .i64 ((j:Int)+1)=((j+1:Nat):Int):=by grind[Rx]
     refine rg ?_;simp only[zz,Uw,hw2];refine⟨hjl,?_⟩;have e1:(owns 4 L).set d (.own (d+4) (q+1))=owns 4 (lz g.length (Bu g i (j+1))):=by
      rw[hLs,←wK,Nat.add_comm 4]
     have e2:E.set d (.live 1 (q+1) (F.map da++[.v (.int .i64 i)]))=Cd (lz g.length (Bu g i (j+1))):=by
      rw[hLs,hE];unfold Cd;rw[oad,Yac];rfl
     rw[e1,e2,←Waa,←Waa,←Waa,←Waa];exact At.mk _ _ _ _ (by repeat (first|exact xa.Dc _|refine xa.cons (Sub.refl _) ?_|refine xa.cons (Sub.sb _) ?_))
    .refine xt ?_;simp only[zz,FI];have hj:j=gi.length:=by omega
     subst hj;refine⟨rfl,?_⟩;exact At.same _ _ _ (by repeat (first|exact xa.Dc _|refine xa.cons (Sub.refl _) ?_|refine xa.cons (Sub.sb _) ?_))
   .unfold E2 evM dB BV;rw[hgi',hdi];simp only[zz];refine ss (rg ?_);simp only[zz];refine cd rfl ?_;by_cases hge:gi=[]
    .have hz:((gi.length:Int)==0)=true:=by simp_all
     have hrd:pU g (i+1)=pU g i++[(i:Int)]:=by simp_all[pR]
     simp only[zz,hz];refine rg ?_;simp only[zz];refine oz (PV (l:=l) (x:=(i:Int)) (v:=v) (u:=0) (R:=BV (iF g (i+1)) (lz g.length (Ji g (i+1)))) vG (by omega) h3) ?_;rintro d m' ⟨rfl,l',h4,h5,rfl⟩;unfold dB BV;simp only[zz];refine rg ?_;simp only[zz,hw,vq];refine⟨(i+1,l',v+1),⟨by omega,?_,h5⟩,by omega,?_⟩
     .grind
     .exact At.same _ _ _ (by repeat (first|exact xa.Dc _|refine xa.cons (Sub.refl _) ?_|refine xa.cons (Sub.sb _) ?_))
    .have hz:((gi.length:Int)==0)=false:=by
      simp_all
     have hrd:pU g (i+1)=pU g i:=by simp_all[pR]
     simp only[zz,hz];refine sk ?_;simp only[zz];refine rg ?_;simp only[zz,hw,vq];refine⟨(i+1,l,v),⟨by omega,?_,h3⟩,by omega,?_⟩
     .simp_all
     .exact At.same _ _ _ (by repeat (first|exact xa.Dc _|refine xa.cons (Sub.refl _) ?_|refine xa.cons (Sub.sb _) ?_))
  .refine xt ?_;simp only[zz,Ws];have hi:i=g.length:=by omega
   subst hi;exact⟨(g.length,l,v),⟨rfl,h2,h3⟩,At.same _ _ _ (by repeat (first|exact xa.Dc _|refine xa.cons (Sub.refl _) ?_|refine xa.cons (Sub.sb _) ?_))⟩
 .rintro⟨i,l,v⟩ ⟨h1,h2,h3⟩;dsimp only at h1 h2 h3;subst h1;unfold E1 evM dB BV;dsimp only;simp only[zz];refine ss (rg ?_);simp only[zz];refine T.tD 12 1 rfl ?_;simp only[zz];refine ss ?_;refine T.NP (E3 g) (λy=>J2 g y.1 y.2.2.1/\Hp y.2.2.1 y.2.2.1.length) (λy=>J2 g y.1 []) (λy=>g.length-y.1.length) ([],0,l,v) ⟨j2_0 h2,h3⟩ ?_ (λ_ _=>E3_fit) ?_ (λ_=>oC) ?_
  .unfold E3 dB CB;dsimp only;rw[←indO_0];exact At.same _ _ _ (by repeat (first|exact xa.Dc _|refine xa.cons (Sub.refl _) ?_|refine xa.cons (Sub.sb _) ?_))
  .rintro⟨out,w,l,v⟩ ⟨hj,h3⟩;dsimp only at hj h3;unfold E3 dB CB;dsimp only;have hll:l.length<=1048576:=by
    rw[hj.perm.length_eq]
    grind[yW]
   refine ss (ss (rg ?_));simp only[zz];refine mc (L2 (l:=l) (v:=v) (u:=0)) ?_;simp only[zz];refine cd rfl ?_;simp only[zz];refine gP.mk (λhc=>?_) (λhc=>?_)
   .refine sk ?_;simp only[zz];obtain⟨n,hn⟩:∃n,l.length=n+1:=⟨l.length-1,by omega⟩;refine bk (ss (rg ?_));simp only[zz];refine oz (hpop_T (l:=l) (n:=n) (v:=v) (u:=0) (R:=CB (IQ g out) (gL g) w out) qA (by omega) hn h3) ?_;rintro _ _ ⟨x,l',rfl,h4,h5,h6,rfl⟩;obtain⟨d,rfl,hdl,hik,hol,hfin⟩:=j2_pop hg hj h4 h5;unfold dB CB;simp only[zz];have c0:∀o:Ent,(Cd (gL g)++[o])[(Cd (gL g)).length]?=some o:=λo=>nab;have c1:∀o z:Ent,(Cd (gL g)++[o]++[z])[(Cd (gL g)).length]?=some o:=λo z=>by simp
    have c2:∀o z e:Ent,(Cd (gL g)++[o]++[z]).set (Cd (gL g)).length e=Cd (gL g)++[e]++[z]:=λo z e=>by simp
    have c3:∀o z:Ent,(Cd (gL g)++[o]++[z])[(Cd (gL g)).length+1]?=some z:=λo z=>by simp
    have c5:oW ((Cd (gL g)).length+1+4) ((Cd (gL g)).length+4)=true:=NO (by omega);have hEl:(Cd (gL g)).length=g.length:=by rw[qm,aU]
    have hF:(gL g)[d]?=some ((Ji g g.length d).length,Ji g g.length d):=BP hdl;have hE1:(Cd (gL g))[d]?=some (.live 1 (Ji g g.length d).length ((Ji g g.length d).map da)):=by
     grind[Cd]
    have c4:∀o z:Ent,(Cd (gL g)++[o]++[z])[d]?=some (.live 1 (Ji g g.length d).length ((Ji g g.length d).map da)):=λo z=>by
     grind
    have c6:∀o:Ent,(Cd (gL g)++[o])[d]?=some (.live 1 (Ji g g.length d).length ((Ji g g.length d).map da)):=λo=>by
     grind
    have o1:(owns 4 (gL g))[d]?=some (.own (d+4) (Ji g g.length d).length):=by grind[uF]
    have o2:(owns 4 (gL g)).length=g.length:=by rw[Mv,aU]
    have b1:(out.length+1)*8<=2 ^ 47:=by omega
    have hDn:(Ji g g.length d).length<=g.length:=xJ;have hpl:=h4.length_eq;refine ss (rg ?_);simp only[zz,c0,c1,c2,c3,c5,b1];refine ss (rg ?_);simp only[zz,c1,c2,c4,o1,o2,hdl];refine T.NP (E4 g out w d) (λy=>y.1<=(Ji g g.length d).length/\y.2.1.Perm (l'++qF g out d y.1)/\Hp y.2.1 y.2.1.length) (λy=>y.1=(Ji g g.length d).length/\y.2.1.Perm (l'++qF g out d y.1)/\Hp y.2.1 y.2.1.length) (λy=>(Ji g g.length d).length-y.1) (0,l',v+1) ⟨pab _,by grind[newK_0],h6⟩ ?_ (λ_ _=>E4_fit hdl) ?_ (λ_=>stab_B stab_M) ?_
    .unfold E4 dB CB;dsimp only;rw[indK_0,Yac,←Waa,←Waa,←Waa,←Waa];exact At.mk _ _ _ _ (by repeat (first|exact xa.Dc _|refine xa.cons (Sub.refl _) ?_|refine xa.cons (Sub.sb _) ?_))
    .rintro⟨k,l1,v1⟩ ⟨k1,k2,k3⟩;dsimp only at k1 k2 k3;have hl1:l1.length<=1048576+1048576:=by
      rw[k2.length_eq,List.length_append]
      grind[i7]
     unfold E4 dB CB;dsimp only;refine ss (rg ?_);simp only[zz];refine ss (cd rfl ?_);simp only[zz];refine gP.mk (λhc=>?_) (λhc=>?_)
     .have hk:k<(Ji g g.length d).length:=by omega
      refine sk ?_;simp only[zz];obtain⟨e,he,hel,hem⟩:=RB.1 (Iaa hk);have g3:(Ji g g.length d)[k]?=some (e:Int):=by simp_all
      have i1:=y6 (out:=out) hk he hel;have i2:(YA g out d k).length=g.length:=by grind[YA]
      have i3:(List.map da (YA g out d k)).set e (.v (.int .i64 (cI g out e-1)))=List.map da (YA g out d (k+1)):=by
       rw[←XM hk he,oad];rfl
      have i4:(YA g out d (k+1))[e]?=some (cI g out e-1):=by
       rw[←XM hk he,List.getElem?_set_self (by omega)]
      have i5:(YA g out d (k+1)).length=g.length:=by grind[YA]
      have hcn:0<=cI g out e/\cI g out e<=1048576:=by
       unfold cI;have h1:=List.length_filter_le (λd=>!out.contains d) (g.getD e []);have h2:=LG (hg.nd _ (gmem hel)) (hg.inr _ (gmem hel));omega
      have hwc:aa .i64 (cI g out e-1)=cI g out e-1:=Rx ⟨by omega,by omega⟩;have hwk:aa .i64 ((k:Int)+1)=((k+1:Nat):Int):=by grind[Rx]
      refine ss (bk (ss (rg ?_)));simp only[zz,c6,hk,g3];refine ss (rg ?_);simp only[zz,i1,i2,hel,hwc,i3];refine ss (rg ?_);simp only[zz,i4,i5,hel];refine cd rfl ?_;by_cases hc1:cI g out e=1
      .have hz:((cI g out e-1)==0)=true:=by simp_all
       simp only[zz,hz];refine rg ?_;simp only[zz];refine oz (PV (l:=l1) (x:=(e:Int)) (v:=v1) (u:=0) (R:=CB (YA g out d (k+1)) (gL g) (w+1) (out++[(d:Int)])) qA (by omega) k3) ?_;rintro _ _ ⟨rfl,l2,h7,h8,rfl⟩;unfold dB CB;simp only[zz];refine rg ?_;simp only[zz,hwk,vq];refine⟨(k+1,l2,v1+1),⟨by omega,?_,h8⟩,by omega,?_⟩
       .dsimp only;rw[nN hk he,if_pos hc1,←Yab]
        grind
       .exact At.same _ _ _ (by repeat (first|exact xa.Dc _|refine xa.cons (Sub.refl _) ?_|refine xa.cons (Sub.sb _) ?_))
      .have hz:((cI g out e-1)==0)=false:=by
        grind
       simp only[zz,hz];refine sk ?_;simp only[zz];refine rg ?_;simp only[zz,hwk,vq];refine⟨(k+1,l1,v1),⟨by omega,?_,k3⟩,by omega,?_⟩
       .dsimp only;rw[nN hk he,if_neg hc1];omega
       .exact At.same _ _ _ (by repeat (first|exact xa.Dc _|refine xa.cons (Sub.refl _) ?_|refine xa.cons (Sub.sb _) ?_))
     .refine xt ?_;simp only[zz,Ws];have hk:k=(Ji g g.length d).length:=by omega
      subst hk;exact⟨((Ji g g.length d).length,l1,v1),⟨rfl,k2,k3⟩,At.same _ _ _ (by repeat (first|exact xa.Dc _|refine xa.cons (Sub.refl _) ?_|refine xa.cons (Sub.sb _) ?_))⟩
    .rintro⟨k,l1,v1⟩ ⟨k1,k2,k3⟩;dsimp only at k1 k2 k3;subst k1;unfold E4 dB CB;dsimp only;rw[hik];simp only[zz,vq];refine⟨(out++[(d:Int)],w+1,l1,v1),⟨hfin l1 k2,k3⟩,by grind,?_⟩;exact At.same _ _ _ (by repeat (first|exact xa.Dc _|refine xa.cons (Sub.refl _) ?_|refine xa.cons (Sub.sb _) ?_))
   .refine xt ?_;simp only[zz,Ws];have hl0:l=[]:=List.eq_nil_of_length_eq_zero (by omega);subst hl0;exact⟨(out,w,[],v),hj,At.same _ _ _ (by repeat (first|exact xa.Dc _|refine xa.cons (Sub.refl _) ?_|refine xa.cons (Sub.sb _) ?_))⟩
  .rintro⟨out,w,l,v⟩ hj;dsimp only at hj;have he:=j2_end hj;unfold E3 dB CB;dsimp only;simp only[zz];have c0:∀o:Ent,(Cd (gL g)++[o])[(Cd (gL g)).length]?=some o:=λo=>nab;refine ss (ss (rg ?_));simp only[zz,c0];refine cd rfl ?_;by_cases hlt:out.length<g.length
   .have hz:decide ((out.length:Int)<(g.length:Int))=true:=decide_eq_true (by omega);rw[if_pos hlt]at he;rw[he];simp only[zz,hz];refine ss (rg ?_);simp only[zz];exact rt (er (by simp_all[zz,fq,zg]))
   .have hz:decide ((out.length:Int)<(g.length:Int))=false:=decide_eq_false (by omega);rw[if_neg hlt]at he;rw[he];simp only[zz,hz];refine sk ?_;simp only[zz];refine ss (rg ?_);simp only[zz];exact rt (er (by simp_all[zz,fq,zg]))
theorem inR_in{n:Int}(h:x∈jI n l):0<=x/\x<n:=by
 grind[jI]
theorem allD_ok{s:GScope}(h:s.d.length<=1048576):GOk (Sj s):=by
 have hl:(Sj s).length=s.d.length:=by grind[Sj]
 refine⟨by omega,λl hm e he=>?_,λl hm=>?_⟩
 .unfold Sj at hm;obtain⟨d,-,rfl⟩:=pac.1 hm;rw[hl];rw[(Gg _).2.2,List.mem_flatten]at he;obtain⟨q,hq,he⟩:=he;obtain⟨r,-,rfl⟩:=pac.1 hq;rcases List.mem_append.1 he with h1|h1<;>exact inR_in h1
 .unfold Sj at hm;obtain⟨d,-,rfl⟩:=pac.1 hm
  grind[WM,Gg]
theorem rz{r:List Int×Int}(h:Xe t0=some r):Den al 275 [De t0] (.tup [qa r.1,da r.2]):=by
 unfold Xe at h
 cases hall:Gc t0 with
 |none=>simp_all
 |some g=>
  rw[hall]at h;simp only[Option.bind_some,dab]at h;subst h;have hall':=hall;unfold Gc at hall';split at hall'
  .rename_i hc;have:=xq ⟨hc.1,hc.2.1,hc.2.2⟩;rw[hall]at this;obtain rfl:=wab this
   grind[ev_T,allD_ok]
  simp_all
instance zI275{t0 r}:Con (Xe t0=some r) (Den al 275 [De t0] (.tup [qa r.1,da r.2])):=⟨rz⟩
instance Q0:C3 k357 Fo:=pg (ak k357.eq_1 Fo.eq_1) .o
instance eval_binary_C:C3 k434 Ja:=pg (ak k434.eq_1 Ja.eq_1) (.z 3 (.j (EN [24,33,32,9,2,1009] [0,8,16,24]) .o (.b .o (.b .o (.j (EN [24,73,168,2,841] [0,8,16,24]) .o (.b .o (.j (EN [24,241,88,2,753] [0,8,16,24]) .o (.b .o (.b .o (.b .o (.b .o (.b .o (.b (.j ⟨[.k 6,.p 1,.s (da 0),.p 3],[.h 3 [.g [.i 0,.i 1,.i 2]]]⟩ (.t [12]) .o) (.b (.j ⟨[.k 6,.p 1,.s (da 0),.p 3],[.h 3 [.g [.i 0,.i 1,.i 2]]]⟩ (.t [12]) .o) .o))))))))))))))
instance WV:C1 k217 Pr:=pg (ak (ak k217.eq_1 Pr.eq_1) cj.eq_1) (.l (EN [8,57,48,17,2,409] [0,8]) (EN [16,49] [8]) [] (.b (.z 4 (.j ⟨[.k 1,.p 2,.k 2,.p 1,.k 8,.p 3],[.o 0,.o 1,.h 3 [.g [.i 0,.p 2,.i 1]]]⟩ (.b (.t [0,4,12]) (.j (EN [8,17,16,97,152,2,249] [0,8,24]) (.t [0,4,12]) .o)) .o)) (.t [4])) .o)
instance zI354{t0 c10 r}:Con (jb t0 (λx900=>ef x900 c10)=some r) (Den al 354 [km t0,.fn 355 [] [Ww c10]] (za r)):=⟨λh=>Ro (q1:=[Ww c10]) (WJ DH) (λx900 _ hb=>Dw hb) h⟩
instance P0:C3 k317 mr:=pg (ak (ak k317.eq_1 mr.eq_1) Bm.eq_1) (.l (EN [8,9,8,25,8,9,2,25,64,17,10,977] [0,8,16]) (EN [8,9,8,25,8,9,2,25] [0,8,16]) [] (.z 2 (.j (EN [8,57,2,113] [0,8,16]) .o .o)) (.b .o (.b .o (.j (EN [8,265,96,2,785] [0,8,16]) .o (.b .o (.j (EN [24,345,96,2,689] [0,8,16]) .o (.b .o (.j (EN [24,441,216,2,473] [0,8,16]) .o (.b .o (.j (EN [24,657,72,2,401] [0,8,16]) .o (.b .o (.b .o (.b .o (.e (EN [24,41] [0,8,16]) .o .o))))))))))))))
instance J5:C3 k402 pa:=pg (ak k402.eq_1 pa.eq_1) (.z 3 (.j (EN [8,9,8,33,56,9,2,1193] [0,8,16]) .o (.b .o (.b .o (.b .o (.b .o (.b .o (.b .o (.j (EN [8,113,376,2,817] [0,8,16]) .o .o)))))))))
instance zI313{t0 c10 r}:Con (Wa t0 (λx900=>fe x900 c10)=some r) (Den al 313 [Hu t0,.fn 314 [] [Eu c10]] (za r)):=⟨λh=>Nn (q1:=[Eu c10]) (WJ DH) (λx900 _ hb=>Jv hb) h⟩
instance JY:C2 k267 Jp:=pg (ak (ak k267.eq_1 Jp.eq_1) (ak Dk.eq_1 (ak Ek.eq_1 (ak Fk.eq_1 Gk.eq_1)))) (.z 3 (.j (EN [8,25,16,17,2,81] [0,8]) .o (.b .o (.b .o (.j (EN [8,49,360,2,881] [0,8]) .o (.l (EN [8,409,280,17,2,585] [0,8]) (EN [8,409] [0,8]) [] .o (.l (EN [8,849,8,17,2,417] [0,8]) (EN [8,849] [0,8]) [] .o (.l (EN [48,993,40,9,2,209] [8,16]) (EN [48,73] [8]) [4,8] .o (.l (EN [48,1145,16,9,2,81] [0]) (EN [] []) [] .o .o)))))))))
instance eval_Apply_C:C3 k369 Ff:=pg (ak k369.eq_1 Ff.eq_1) (.z 2 (.j (EN [8,9,8,33,104,2,265] [0,8,16]) .o (.z 3 (.j (EN [8,153,128,2,137] [0,8,16]) .o .o))))
instance VV:C1 k218 Nr:=pg (ak (ak k218.eq_1 Nr.eq_1) bj.eq_1) (.l (EN [8,41,56,9,2,129] [0,8]) (EN [16,33] [8]) [] (.b .o (.t [4])) .o)
theorem Ry{t0 t1 r} [∀ t0 t1 r,Con (R327 t0 t1=some r) (Den al 327 [ua t0,da t1] (.tup [Da r.1,da r.2]))] [∀ t0 t1 t2 r,Con (R368 t0 t1 t2=some r) (Den al 368 [ua t0,Oh t1,qa t2] (.tup [Da r.1,da r.2]))] [∀ t0 t1 r,Con (R397 t0 t1=some r) (Den al 397 [ua t0,da t1] (.tup [Da r.1,da r.2]))] (h:Ua R327 R368 R397 t0 t1=some r):Den al 327 [ua t0,da t1] (.tup [Da r.1,da r.2]):=by
 refine dk 63 k327 ?_
 simp only[k327,Kf.of,zs,ze]
 unfold Ua at h
 exact pg Za.eq_1 (.z 5 (.j (EN [16,25,8,57,80,2,329] [0,8,16]) .o (.l (EN [16,41,8,121,104,17,10,209] [0,8,16,770]) (EN [16,41,8,121] [0,8,16,770]) [] .o .o)))
theorem Qy{t0 t1 t2 r} [∀ t0 t1 r,Con (R327 t0 t1=some r) (Den al 327 [ua t0,da t1] (.tup [Da r.1,da r.2]))] [∀ t0 t1 t2 r,Con (R368 t0 t1 t2=some r) (Den al 368 [ua t0,Oh t1,qa t2] (.tup [Da r.1,da r.2]))] [∀ t0 t1 r,Con (R397 t0 t1=some r) (Den al 397 [ua t0,da t1] (.tup [Da r.1,da r.2]))] (h:Sc R327 R368 R397 t0 t1 t2=some r):Den al 368 [ua t0,Oh t1,qa t2] (.tup [Da r.1,da r.2]):=by
 refine dk 66 k368 ?_
 simp only[k368,Kf.of,zs,ze]
 unfold Sc at h
 exact pg trivial (.b .o (.a [[],[],[],[],[],[],[],[],[],[]] (.z 3 (.j (EN [16,41,8,9,136,2,337] [0,8,16,24]) .o .o))))
theorem Iw{t0 t1 r} [∀ t0 t1 r,Con (R327 t0 t1=some r) (Den al 327 [ua t0,da t1] (.tup [Da r.1,da r.2]))] [∀ t0 t1 t2 r,Con (R368 t0 t1 t2=some r) (Den al 368 [ua t0,Oh t1,qa t2] (.tup [Da r.1,da r.2]))] [∀ t0 t1 r,Con (R397 t0 t1=some r) (Den al 397 [ua t0,da t1] (.tup [Da r.1,da r.2]))] (h:Mb R327 R368 R397 t0 t1=some r):Den al 397 [ua t0,da t1] (.tup [Da r.1,da r.2]):=by
 refine dk 26 k397 ?_
 simp only[k397,Kf.of,zs,ze]
 unfold Mb at h
 exact pg trivial (.z 5 (.j (EN [32,9,8,9,144,2,17] [8,16]) (.t [4,8]) .o))
theorem Wg:∀n,(∀ t0 t1 r,(ba n).1 t0 t1=some r->Den al 327 [ua t0,da t1] (.tup [Da r.1,da r.2]))/\(∀ t0 t1 t2 r,(ba n).2.1 t0 t1 t2=some r->Den al 368 [ua t0,Oh t1,qa t2] (.tup [Da r.1,da r.2]))/\(∀ t0 t1 r,(ba n).2.2 t0 t1=some r->Den al 397 [ua t0,da t1] (.tup [Da r.1,da r.2]))
|0=>⟨λ_ _ _ h=>(nomatch h),λ_ _ _ _ h=>(nomatch h),λ_ _ _ h=>(nomatch h)⟩
|n+1=>by
 obtain⟨H0,H1,H2⟩:=Wg n
 haveI I0:∀ t0 t1 r,Con ((ba n).1 t0 t1=some r) (Den al 327 [ua t0,da t1] (.tup [Da r.1,da r.2])):=λt0 t1 r=>⟨H0 t0 t1 r⟩
 haveI I1:∀ t0 t1 t2 r,Con ((ba n).2.1 t0 t1 t2=some r) (Den al 368 [ua t0,Oh t1,qa t2] (.tup [Da r.1,da r.2])):=λt0 t1 t2 r=>⟨H1 t0 t1 t2 r⟩
 haveI I2:∀ t0 t1 r,Con ((ba n).2.2 t0 t1=some r) (Den al 397 [ua t0,da t1] (.tup [Da r.1,da r.2])):=λt0 t1 r=>⟨H2 t0 t1 r⟩
 exact⟨λt0 t1 r h=>Ry (R327:=(ba n).1) (R368:=(ba n).2.1) (R397:=(ba n).2.2) h,λt0 t1 t2 r h=>Qy (R327:=(ba n).1) (R368:=(ba n).2.1) (R397:=(ba n).2.2) h,λt0 t1 r h=>Iw (R327:=(ba n).1) (R368:=(ba n).2.1) (R397:=(ba n).2.2) h⟩
theorem sA{t0 t1 r} (h:ti t0 t1=some r):Den al 327 [ua t0,da t1] (.tup [Da r.1,da r.2]):=(Wg tf).1 _ _ _ h
instance zI327{t0 t1 r}:Con (ti t0 t1=some r) (Den al 327 [ua t0,da t1] (.tup [Da r.1,da r.2])):=⟨sA⟩
theorem rA{t0 t1 t2 r} (h:Bw t0 t1 t2=some r):Den al 368 [ua t0,Oh t1,qa t2] (.tup [Da r.1,da r.2]):=(Wg tf).2.1 _ _ _ _ h
instance zI368{t0 t1 t2 r}:Con (Bw t0 t1 t2=some r) (Den al 368 [ua t0,Oh t1,qa t2] (.tup [Da r.1,da r.2])):=⟨rA⟩
theorem Vx{t0 t1 r} (h:Ct t0 t1=some r):Den al 397 [ua t0,da t1] (.tup [Da r.1,da r.2]):=(Wg tf).2.2 _ _ _ h
instance zI397{t0 t1 r}:Con (Ct t0 t1=some r) (Den al 397 [ua t0,da t1] (.tup [Da r.1,da r.2])):=⟨Vx⟩
instance H6:C1 k147 xn:=pg (ak k147.eq_1 xn.eq_1) .o
instance eval_Eval_C:C2 k277 Wj:=pg (ak k277.eq_1 Wj.eq_1) .o
instance TN:C3 k80 Ra:=pg (ak k80.eq_1 Ra.eq_1) (.z 4 (.j (EN [8,9,8,25,240,2,545] [0,8]) .o (.z 3 (.j (EN [40,249,216,2,329] [8]) (.t [4]) (.z 1 (.j (EN [512,2,321] []) (.j (EN [40,465,8,2,321] [0]) .o (.j (EN [40,473,2,321] [0]) .o (.j (EN [40,473,2,321] [0]) .o (.j (EN [40,473,2,321] [0]) .o .o)))) .o))))))
instance dU:C4 k82 Ig:=pg (ak (ak k82.eq_1 Ig.eq_1) Zl.eq_1) (.z 7 (.j (EN [16,57,248,2,497] [0,8,16]) .o (.l ⟨[.k 2,.p 2,.k 1,.p 8,.k 2,.p 1,.k 59,.p 2,.i 1,.p 25],[.o 1,.o 2,.h 3 [.g [.p 2,.s (.own 3 0)]],.ni 1 0]⟩ ⟨[.k 8,.p 5],[.o 2,.h 3 [.g [.p 2,.s (.own 2 0)]],.ni 1 0]⟩ [4,8,12,5] (.b (.b .o (.t [0,4,8,268])) (.t [4,8,12])) .o)))
instance YM:C5 k154 Pb:=pg (ak k154.eq_1 Pb.eq_1) (.z 5 (.j (EN [8,9,24,49,288,2,121] [0,8,16]) .o .o))
instance SV:C4 k276 He:=pg (ak (ak k276.eq_1 He.eq_1) Qg.eq_1) (.l (EN [16,49,8,81,96,17,10,425] [0,8,16,770]) (EN [72,81] [16,770]) [] (.b (.e (EN [16,257] [0,8,16,770]) (.b .o (.a [[],[],[],[],[],[],[],[],[],[],[],[],[]] .o)) .o) (.t [8,12])) .o)
instance xX:C3 k40 Ae:=pg (ak k40.eq_1 Ae.eq_1) .o
instance zI227{t0 t1 t2 t3 r}:Con (Ca t0 t1 t2 t3=some r) (lX al 227 [De t0] [da t2,Zb t3] 6 [Uj t1] [Uj r.2] (.tup [qa r.1.1,ft r.1.2])):=⟨λh=>by
 refine lX.of 101 k227 ?_
 simp only[k227,Kf.of,zs,ze]
 unfold Ca at h
 exact pg cc.eq_1 (.l (EN [8,57,8,17,192,17,18,537] [1,770,8,16,1034]) (EN [72,17] [1,770,16,1034]) [0,12,4,8,16] (.b (.e (EN [8,297] [1,258,16,24,1034]) (.b .o (.b .o (.b .o (.b .o (.a [[],[],[],[],[],[],[],[],[],[],[],[],[],[],[]] .o))))) .o) (.t [0,4,12,16])) .o)⟩
instance zI157{t0 t1 t2 t3 r}:Con (eg t0 t1 t2 t3=some r) (Den al 157 [mA t0,da t1,JI t2,vt t3] (.tup [DC r.1,Uj r.2.1,ft r.2.2])):=⟨λh=>by
 refine dk 119 k157 ?_
 simp only[k157,Kf.of,zs,ze]
 unfold eg at h
 exact pg (ak Og.eq_1 Pg.eq_1) (.l ⟨[.k 3,.p 19,.k 11,.p 2,.i 1,.p 87],[.o 0,.o 1,.o 2,.o 3,.o 4,.h 5 [.g [.p 4,.s (.own 6 0),.p 1]],.ni 2 0,.o 6]⟩ ⟨[.k 3,.p 19],[.o 0,.o 1,.o 2,.o 3,.o 4,.h 5 [.g [.p 4,.s (.own 6 0),.p 1]],.ni 2 0,.o 6]⟩ [0,4,8,12,16,20,9,24] (.b (.t [0,4,8,12,16,20,280,28]) .o) (.l ⟨[.k 3,.p 44,.k 1,.p 2,.i 2,.p 72],[.o 0,.o 1,.o 2,.o 3,.o 4,.h 5 [.g [.p 3,.s (.own 6 0),.p 2]],.ni 1 0,.o 6,.h 7 [.g [.p 2,.s (.own 9 0)]],.ni 2 1]⟩ ⟨[.k 3,.p 1,.k 4,.p 39],[.o 2,.o 3,.o 4,.h 5 [.g [.p 3,.s (.own 4 0),.p 2]],.ni 1 0,.o 6,.h 7 [.g [.p 2,.s (.own 7 0)]],.ni 2 1]⟩ [0,4,8,12,16,20,5,24,28,9] (.b (.z 4 (.f ⟨[.k 3,.p 120],[.o 0,.o 1,.o 2,.o 3,.o 4,.o 5,.o 6,.o 7,.o 8,.o 9,.h 10 [.g [.p 2,.s (.sl 3 (([] : List GValue).map Da)),.s (.sl 1 (([] : List (List GValue)).map Xr)),.s (.sl 2 (([] : List GType).map og)),.p 1]]]⟩ [] (.g [[],[0],[0,1],[0,1,2],[0,1,2,3],[0,1,2,3,4],[0,1,2,3,4,5],[0,1,2,3,4,5,6],[0,1,2,3,4,5,6,7],[0,1,2,3,4,5,6,7,8],[0,1,2,3,4,5,6,7,8,9],[0,1,2,3,4,5,6,7,8,9,10],[0,1,2,3,4,5,6,7,8,9,10,11],[0,1,2,3,4,5,6,7,8,9,10,11,12],[0,1,2,3,4,5,6,7,8,9,10,11,12,13]] [none,none,none,none,none,none,none,none,none,some 10,none,none,none,none,none] (.b (.a [[],[],[],[2],[2]] .o) (.t [0,4,8,12,16,20,280,28,32,292]))))) (.t [8,12,16,20,24,28,32,36])) (.z 1 (.f ⟨[.k 3,.p 120],[.o 0,.o 1,.o 2,.h 3 [.g [.p 2,.s (.sl 3 (([] : List GValue).map Da)),.p 3]],.o 6,.o 7]⟩ [0,4,8,12,24,28] (.g [[],[0],[0,1],[0,1,2],[0,1,2,3],[0,1,2,3,4],[0,1,2,3,4,5],[0,1,2,3,4,5,6],[0,1,2,3,4,5,6,7],[0,1,2,3,4,5,6,7,8],[0,1,2,3,4,5,6,7,8,9],[0,1,2,3,4,5,6,7,8,9,10],[0,1,2,3,4,5,6,7,8,9,10,11],[0,1,2,3,4,5,6,7,8,9,10,11,12]] [none,none,none,none,none,none,none,none,some 3,none,none,none,none,none] (.b (.a [[],[],[],[2],[2]] .o) (.a [[],[],[],[1],[]] .o)))))))⟩
instance FY:C4 k83 bc:=pg (ak (ak k83.eq_1 bc.eq_1) (ak Lg.eq_1 (ak Mg.eq_1 (ak Kg.eq_1 (ak tn.eq_1 (ak Ng.eq_1 (ak Ph.eq_1 (ak k226.eq_1 (ak k156.eq_1 k155.eq_1))))))))) (.b (.a [[],[],[1],[]] .o) (.i k155 50 ⟨[.s (.ref 5 0 0 0)],[.O 0,.O 1,.O 2,.O 3,.O 4,.nq 12 [.x [.i 0,.i 1,.i 2,.i 3,.i 4,.i 5,.i 6,.i 7,.i 8,.i 9,.s (.own 6 0),.s (.own 7 0)]],.ni 1 10,.ni 1 11]⟩ (.z 3 (.j ⟨[.k 5,.p 1],[.O 0,.O 1,.O 2,.O 3,.O 4,.h 6 [.g [.p 5,.i 0,.i 1,.i 2,.i 3,.i 4,.p 1,.s (.own 7 0)]],.o 7,.ni 1 5]⟩ (.b (.t [0,4,8,12,16,24,28,32]) (.t [0,4,8,12,16,24,28,5])) .o)) (.i k156 45 ⟨[.s (.tup [])],[.O 0,.O 1,.O 2,.O 3,.O 4,.O 5,.Ci 6 0,.Ci 7 1]⟩ (.l (EN [65,88,17,10,201] [1,9,17,25,33,41,1539,57]) (EN [65] [1,9,17,25,33,41,1539,57]) [] .o (.l (EN [9,288,17,10,57] [1,9,17,25,33,41,49,1795]) (EN [] [1,9,17,25,33,41,49,1795]) [] (.b (.i k226 28 ⟨[.s (.tup [])],[.O 0,.O 1,.O 2,.O 3,.O 4,.O 5,.O 6,.Ci 7 0]⟩ (.l (EN [9,128,17,10,81] [1,9,17,25,33,41,49,1795]) (EN [] [1,9,17,25,33,41,49,1795]) [] .o .o) .o) .o) .o)) (.z 1 (.d [0,8,16,24,32] [] (.b (.a [[],[],[1],[]] .o) (.a [[],[],[],[],[],[],[],[],[],[],[],[6,8,9],[]] .o)))))))
end Go.Proofs.Dev
