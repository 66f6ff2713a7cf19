/-
  Contracts of the functions: each answers as its plain partial function says.
-/
import Derived.Test.YtadinajclolmnaaGreatDoorQ4
import Derived.Test.YtadinajclolmnaaGreatDoorQ5
import Derived.Test.YtadinajclolmnaaGreatDoorQ6
import Derived.Test.YtadinajclolmnaaGreatDoorQ7
open Option renaming some->M,none->u4
open Decidable renaming decide->D1
open And renaming intro->ak
open Go.Proofs.Tryz renaming prog->al
open Bool renaming and_eq_true->D?,and_true->Y'
open List renaming all_cons->Iag,append_assoc->H!,cons_append->B',ext_getElem->Yag,getElem?_concat_length->Iaf,getElem_mem->E',length_cons->w!,length_nil->A?,map_append->ψ,map_cons->w?,map_nil->D!,map_set->aai,mem_map->V!,replicate->h!,replicate_succ'->Rag,length->a00
open Nat renaming reduceAdd->l?,sub_self->tah,zero_le->Q?
open Option.some renaming inj->R',injEq->M?
set_option linter.all false
set_option maxHeartbeats 1000000
set_option maxRecDepth 10000
namespace Go.Proofs.Dev
open Go Go.Tm
variable {n d w:Nat}{F:Nat->List Int}{x:Int}{L:LL}{g:List (List Int)}{y:Nat×List Int×Nat}{l out:List Int}{t0:fr}{R260 R282:(te -> Int -> Option (bz × Int))}{R275:(te -> ia -> (List Int) -> Option (bz × Int))}
instance X7:C3 k59 Fh:=pg (ak (ak k59.eq_1 Fh.eq_1) Vk.eq_1) (.z 2 (.j (EN [9,8,33,120,2,193] [0]) .o (.l (EN [32,33,16,2,81] [0]) (EN [] []) [] .o .o)))
instance adi:C5 bD3 xu:=pg (ak (ak bD3.eq_1 xu.eq_1) jo.eq_1) (.l (EN [17,8,57,8,11,10,41,18,265] [0,1028]) (EN [9,16,57,8,11,10,25] [0,1028]) [0,17] (.z 2 (.j (EN [97,10,49] [0,258]) (.z 3 (.j (EN [153,96,2,161] [0,8,16]) .o (.b .o (.t [0,260])))) .o)) .o)
instance adj{t0 c10 r}:r? (jc t0 (λx900=>ie x900 c10)=M r) (k! al 202 [fA t0,.fn 203 [] [Zx c10]] (.tup [da r.1,ya r.2])):=⟨λh=>Tr (q1:=[Zx c10]) (gH lF) (λx900 _ hb=>Eu hb) h⟩
instance T6:C2 bx6 Co:=pg (ak (ak bx6.eq_1 Co.eq_1) Lj.eq_1) (.z 4 (.j (EN [8,25,200,2,729] [0]) .o (.l (EN [16,217,128,17,2,585] [0]) (EN [] []) [] (.z 5 (.j (EN [16,369,184,2,393] [0,8]) .o (.z 1 (.j (EN [16,553,200,2,193] [0,8]) .o (.z 1 (.j (EN [16,753,88,2,105] [0,8]) .o .o)))))) .o)))
instance Bae:C2 bw9 Av:=pg (ak bw9.eq_1 Av.eq_1) .o
instance BX:C2 bw2 ld:=pg (ak bw2.eq_1 ld.eq_1) (.z 2 (.j (EN [8,25,72,2,33] [0]) .o .o))
instance AX:C2 bw1 Ti:=pg (ak (ak bw1.eq_1 Ti.eq_1) (ak Xh.eq_1 kq.eq_1)) (.z 2 (.j (EN [8,25,168,2,553] [0]) .o (.l (EN [16,185,88,17,10,449] [0,258]) (EN [16,185] [0,258]) [] .o (.l (EN [16,49,19,297,8,17,10,361] [0,8,260]) (EN [64,3,297] [260]) [0,4,5] (.b (.j (EN [16,385] [0,8,514]) (.z 2 (.j (EN [16,385,168,2,185] [0,8,16,24]) .o (.b .o (.t [0,4,520])))) .o) (.t [8])) .o))))
def Ix(n:Nat) (F:Nat->List Int):LL:=(List.range n).map λd=>((F d).length,F d)
theorem YP:(Ix n F).length=n:=by simp[Ix]
theorem XP(h:d<n):(Ix n F)[d]?=M ((F d).length,F d):=by grind[Ix]
theorem J8{F':Nat->List Int}(h1:F' d=F d++[x]) (h2:∀e,e≠d->F' e=F e):(Ix n F).set d ((F d).length+1,F d++[x])=Ix n F':=by
 unfold Ix;apply Yag
 all_goals grind
def JX(I:List Int) (L:LL):List Ent:=.live 1 0 (I.map da)::.live 1 0 (t? 4 L)::od L
def evM(l:List Int) (v:Nat) (I:List Int) (L:LL):List Ent:=Mz l v 0 (JX I L)
theorem MO{I:List Int}:(JX I L).length=a00 L+2:=by simp[JX,Hk]
theorem HF{I:List Int}:(JX I L).all (Ent.below ((JX I L).length+2))=true:=by
 rw[MO];unfold JX;simp only[Iag,D?];exact⟨ua _ _ (Fr.l _),Yv U,Nw⟩
theorem uI(t:List D) (a b c:Ent) (n:Nat):∀x,x<=n->dv 1 3 x ⟨t,[a,b,c,.live 1 0 (h! n (.v (.slice u4 0 0)))]⟩=⟨t,a::b::c::.live 1 0 (t? 4 (h! x (0,[]))++h! (n-x) (.v (.slice u4 0 0)))::od (h! x (0,[]))⟩
 |0,_=>by simp[dv,t?,od]
 |x+1,h=>by
  rw[dv,uI t a b c n x U];unfold sI;simp only[List.getElem?_cons_succ,List.getElem?_cons_zero];have hl:(t? 4 (h! x ((0:Nat),([]:List Int)))).length=x:=by grind[vu]
  rw[List.getElem?_append_right U,hl,tah,List.getElem?_replicate,J];simp only[List.set_cons_succ,List.set_cons_zero,w!,Hk,List.length_replicate,B',St.mk.injEq,aaD,List.cons.injEq,Ent.live.injEq];refine⟨?_,?_⟩
  .rw[List.set_append,s7,hl,tah,Rag (n:=x),dK,H!];congr 1;obtain⟨k,hk⟩:∃k,n-x=k+1:=⟨n-x-1,U⟩
   grind[t?]
  grind[od,Rag]
theorem I8(h:∀d,F d=[]):Ix n F=h! n (0,[]):=by
 unfold Ix;apply Yag
 all_goals simp_all
theorem UO:ea (h! n (.v (.int .i64 0)))=true:=Ch.2 λd hd=>by rw[List.eq_of_mem_replicate hd];rfl
def E1(g:List (List Int)) (y:Nat×List Int×Nat):St:=⟨ds 4 (Xc g::.own 3 0::.own 2 0::.ref 0 0 0 0::ds 19 (Xc g::da g.length::da y.1::ds 83 [])),evM y.2.1 y.2.2 (iE g y.1) (Ix g.length (xh g y.1))⟩
def E2(g:List (List Int)) (l:List Int) (v i j:Nat):St:=⟨ds 4 (Xc g::.own 3 0::.own 2 0::.ref 0 0 0 0::da i::pb (g.getD i [])::ds 17 (Xc g::da g.length::da i::ds 9 (pb (g.getD i [])::da (g.getD i []).length::da j::ds 71 []))),evM l v (iE g (i+1)) (Ix g.length (Ts g i j))⟩
theorem be3:Fit 0 (E1 g y):=by
 refine qB HF (Q? _) ?_
 simp_all[f?,Tm.below,MO,Yj,Ml,bb,Fr.h]
theorem be2{v i j:Nat}:Fit 0 (E2 g l v i j):=by
 refine qB HF (Q? _) ?_
 simp_all[f?,Tm.below,MO,Yj,Ml,bb,Fr.h]
def iA(I:List Int) (L:LL) (w:Nat) (out:List Int):List Ent:=.live 1 0 (I.map da)::.live 1 0 (t? 4 L)::(od L++[.live 1 w (out.map da)])
theorem nJ{I:List Int}:(iA I L w out).length=a00 L+3:=by simp[iA,Hk]
theorem Py{I:List Int}:(iA I L w out).all (Ent.below ((iA I L w out).length+2))=true:=by
 rw[nJ];unfold iA;simp only[Iag,List.all_append,List.all_nil,Y',D?];exact⟨ua _ _ (Fr.l _),Yv U,Nw,ua _ _ (Fr.l _)⟩
abbrev gL(g:List (List Int)):LL:=Ix g.length (xh g g.length)
def E3(g:List (List Int)) (y:List Int×Nat×List Int×Nat):St:=⟨ds 4 (Xc g::.own 3 0::.own 2 0::.ref 0 0 0 0::ds 4 (.own ((od (gL g)).length+4) y.2.1::ds 100 [])),Mz y.2.2.1 y.2.2.2 0 (iA (OR g y.1) (gL g) y.2.1 y.1)⟩
def E4(g:List (List Int)) (out:List Int) (w d:Nat) (y:Nat×List Int×Nat):St:=⟨ds 4 (Xc g::.own 3 0::.own 2 0::.ref 0 0 0 0::ds 4 (.own ((od (gL g)).length+4) (w+1)::da d::ds 70 (.own (d+4) (xh g g.length d).length::da (xh g g.length d).length::da y.1::ds 26 []))),Mz y.2.1 y.2.2 0 (iA (Ez g out d y.1) (gL g) (w+1) (out++[(d:Int)]))⟩
def AV:(gL g).length=a00 g:=YP
theorem be1{y:List Int×Nat×List Int×Nat}:Fit 0 (E3 g y):=by
 refine qB Py (Q? _) ?_
 simp_all[f?,Tm.below,nJ,Hk,Yj,Ml,bb,Fr.h]
theorem be0(hd:d<a00 g) :Fit 0 (E4 g out w d y):=by
 refine qB Py (Q? _) ?_;rw[nJ,Hk,AV];simp only[Yj,Ml,f?,Tm.below,Y',Bool.true_and,D?,R2];exact⟨bb _ _ (Fr.h _),U,U,U,U,bb _ _ (Fr.h _),U,bb _ _ (Fr.h _),bb _ _ (Fr.h _)⟩
theorem bT8(hall:Fc t0=M g) (hg:GOk g) :
 k! al 232 [Gd t0] (.tup [pb (wx g).1,da (wx g).2]):=by
 have hgl:=hg.len;refine dk 112 bt7 ?_;simp only[bt7,Kf.of,zs,ze];refine ss (rg ?_);simp only[zz];refine ss (rg ?_);simp only[zz];refine BH (Iw hall) ?_ (by simp only[zg]);simp only[zz];have hm:uz 24 ([]:List Int) (a00 g:Int) (a00 g:Int)=M (h! g.length []):=by
  grind[uz]
 obtain⟨f2,f3,f4,f5,f6⟩:=oS (e:=pb) hm;have hm2:uz 8 (0:Int) (a00 g:Int) (a00 g:Int)=M (h! g.length 0):=by
  grind[uz]
 obtain⟨a2,a3,a4,a5,a6⟩:=oS (e:=da) hm2;refine ss (rg ?_);(try simp only[zz]at f5 f6 a5 a6);(try simp only[zz,f2,f3,f4,f5]);refine ss (rg ?_);(try simp only[zz,a2,a3,a4,a5]);refine ss (rg ?_);simp only[zz];refine ss (ss (rg ?_));simp only[zz];refine tl (S:=⟨ds 4 (Xc g::.own 3 0::.own 2 0::.ref 0 0 0 0::ds 19 (Xc g::da g.length::da 0::ds 83 [])),[.live 1 0 [.own 1 0],.live 1 0 [],.live 1 0 (h! g.length (.v (.int .i64 0))),.live 1 0 (h! g.length (.v (.slice u4 0 0)))]⟩) (tq [ok 4,ok 3,ok 2,ok 1] (by simp_all[zg,vh,IG,UO])) ?_;refine XA (S:=1) (id:=3) (x:=a00 g) ?_;rw[uI _ _ _ _ _ _ (Nat.le_refl _),tah,List.replicate_zero,List.append_nil];refine T.zL (E1 g) (λy=>y.1<=a00 g/\y.2.1.Perm (cW g y.1)/\Hp y.2.1 y.2.1.length) (λy=>y.1=a00 g/\y.2.1.Perm (cW g y.1)/\Hp y.2.1 y.2.1.length) (λy=>g.length-y.1) (0,[],0) ⟨Q? _,.refl _,λk _ h=>absurd h (Nat.not_lt_zero _)⟩ ?_ (λ_ _=>be3) ?_ (λ_=>Oi) ?_
 .grind[E1,evM,Mz,JX,I8,U1,M4,At.same,fa.Da]
 .rintro⟨i,l,v⟩ ⟨h1,h2,h3⟩;dsimp only at h1 h2 h3;have hll:l.length<=1048576:=by rw[h2.length_eq];grind[al6]
  unfold E1 evM Mz JX;dsimp only;refine ss (rg ?_);simp only[zz];refine ss (cd rfl ?_);simp only[zz];refine gP.mk (λhc=>?_) (λhc=>?_)
  .have hi:i<a00 g:=U
   refine sk ?_;simp only[zz];have g2:g[i]?=M (g.getD i []):=s5
   have hmem:g.getD i []∈g:=List.mem_of_getElem? g2;have hgi:=hg.inr _ hmem;have hgn:=hg.nd _ hmem;have hgk:(g.getD i []).length<=a00 g:=VF hgn hgi;have i1:(iE g i)[i]?=M 0:=by grind[iE]
   have i2:(iE g i).length=a00 g:=by grind[iE]
   refine ss (bk (ss (rg ?_)));simp only[zz,g2];generalize hgi':g.getD i []=gi at *;refine ss (rg ?_);simp only[zz,g2,i1,i2,hi];refine ss (ss (rg ?_));simp only[zz];have hdi:Ts g i gi.length=xh g (i+1):=funext λd=>by rw[←hgi'];exact T1.symm
   have hw:aa .i64 ((i:Int)+1)=((i+1:Nat):Int):=by grind[De]
   refine T.LB gi.length (E2 g l v i) ?_ (λj _=>be2) (λj hj=>?_) Oi ?_
   .unfold E2 evM Mz JX;rw[show Ts g i 0=xh g i from funext λd=>V1,hgi',←L4 hi,aai,hgi'];exact At.same _ _ _ B!
   .unfold E2 evM Mz JX;rw[hgi'];refine ss (rg ?_);simp only[zz];refine ss (cd rfl ?_);simp only[zz];refine gP.mk (λhc=>?_) (λhc=>?_)
    .have hjl:j<a00 gi:=U
     refine sk ?_;simp only[zz];obtain⟨d,hd,hdn⟩:∃d:Nat,gi[j]=(d:Int)/\d<a00 g:=by
      have:=hgi gi[j] (E' hjl);exact⟨gi[j].toNat,U,U⟩
     have g3:gi[j]?=M (d:Int):=p5
     have hL:(Ix g.length (Ts g i j)).length=a00 g:=YP;have hp:(Ix g.length (Ts g i j))[d]?=M ((Ts g i j d).length,Ts g i j d):=XP hdn;have hLs:Ix g.length (Ts g i (j+1))=(Ix g.length (Ts g i j)).set d ((Ts g i j d).length+1,Ts g i j d++[(i:Int)]):=by
      refine(J8 ?_ λe he=>?_).symm
      .simp_all[wM]
      .rw[wM p5 p5,s7 s5]
     have hpb:(Ts g i j d).length<=i+1:=jaa;generalize hQ:(Ts g i j d).length=q at *;generalize hF:Ts g i j d=F at *;generalize hLL:Ix g.length (Ts g i j)=L at hL hLs hp⊢;obtain⟨E,hE⟩:∃E,E=od L:=⟨_,rfl⟩;have hEl:E.length=a00 L:=by rw[hE,Hk]
     rw[←hE];have hol:(t? 4 L).length=a00 g:=by rw[vu,hL]
     have hEd:d<a00 E:=U
     have k1:(t? 4 L)[d]?=M (.own (d+4) q):=by grind[AE]
     have k2:∀y,(E++[y])[d]?=M (.live 1 q (F.map da)):=λy=>by
      grind[od]
     have k3:∀y e,(E++[y]).set d e=E.set d e++[y]:=λy e=>p5
     have k5:(a00 F+1)*8<=2 ^ 47:=U
     have k6:qS (a00 E+4) (d+4)=true:=ZO U;refine ss (bk (ss (rg ?_)));simp only[zz,g3];refine rg ?_;simp only[zz,hol,hdn,k1,k2,k3,k5,k6,Iaf,xq];have hw2:aa .i64 ((j:Int)+1)=((j+1:Nat):Int):=by grind[De]
     refine rg ?_;simp only[zz,Qi,hw2];refine⟨hjl,?_⟩;have e1:(t? 4 L).set d (.own (d+4) (q+1))=t? 4 (Ix g.length (Ts g i (j+1))):=by
      rw[hLs,←eK,Nat.add_comm 4]
     have e2:E.set d (.live 1 (q+1) (F.map da++[.v (.int .i64 i)]))=od (Ix g.length (Ts g i (j+1))):=by
      rw[hLs,hE];unfold od;rw[aai,ψ];rfl
     rw[e1,e2,←B',←B',←B',←B'];exact At.mk _ _ _ _ B!
    .refine xt ?_;simp only[zz,Bw];have hj:j=a00 gi:=U
     subst hj;refine⟨rfl,?_⟩;exact At.same _ _ _ B!
   .unfold E2 evM Mz JX;rw[hgi',hdi];simp only[zz];refine ss (rg ?_);simp only[zz];refine cd rfl ?_;by_cases hge:gi=[]
    .have hz:((a00 gi:Int)==0)=true:=p5
     have hrd:cW g (i+1)=cW g i++[(i:Int)]:=by simp_all[GS]
     simp only[zz,hz];refine rg ?_;simp only[zz];refine cr (zY (l:=l) (x:=(i:Int)) (v:=v) (u:=0) (R:=JX (iE g (i+1)) (Ix g.length (xh g (i+1)))) HF U h3) ?_;rintro d m' ⟨rfl,l',h4,h5,rfl⟩;unfold Mz JX;simp only[zz];refine rg ?_;simp only[zz,hw,Jm];refine⟨(i+1,l',v+1),⟨U,?_,h5⟩,U,?_⟩
     .grind
     .exact At.same _ _ _ B!
    .have hz:((a00 gi:Int)==0)=false:=by
      simp_all
     have hrd:cW g (i+1)=cW g i:=by simp_all[GS]
     simp only[zz,hz];refine sk ?_;simp only[zz];refine rg ?_;simp only[zz,hw,Jm];refine⟨(i+1,l,v),⟨U,?_,h3⟩,U,?_⟩
     .simp_all
     .exact At.same _ _ _ B!
  .refine xt ?_;simp only[zz,Xp];have hi:i=a00 g:=U
   subst hi;exact⟨(a00 g,l,v),⟨rfl,h2,h3⟩,At.same _ _ _ B!⟩
 .rintro⟨i,l,v⟩ ⟨h1,h2,h3⟩;dsimp only at h1 h2 h3;subst h1;unfold E1 evM Mz JX;dsimp only;simp only[zz];refine ss (rg ?_);simp only[zz];refine T.Mv 12 1 rfl ?_;simp only[zz];refine ss ?_;refine T.zL (E3 g) (λy=>J2 g y.1 y.2.2.1/\Hp y.2.2.1 y.2.2.1.length) (λy=>J2 g y.1 []) (λy=>g.length-y.1.length) ([],0,l,v) ⟨bR0 h2,h3⟩ ?_ (λ_ _=>be1) ?_ (λ_=>Oi) ?_
  .unfold E3 Mz iA;dsimp only;rw[←aT4];exact At.same _ _ _ B!
  .rintro⟨out,w,l,v⟩ ⟨hj,h3⟩;dsimp only at hj h3;unfold E3 Mz iA;dsimp only;have hll:l.length<=1048576:=by
    rw[hj.perm.length_eq]
    grind[kZ]
   refine ss (ss (rg ?_));simp only[zz];refine La (K8 (l:=l) (v:=v) (u:=0)) ?_;simp only[zz];refine cd rfl ?_;simp only[zz];refine gP.mk (λhc=>?_) (λhc=>?_)
   .refine sk ?_;simp only[zz];obtain⟨n,hn⟩:∃n,a00 l=n+1:=⟨a00 l-1,U⟩;refine bk (ss (rg ?_));simp only[zz];refine cr (aU4 (l:=l) (n:=n) (v:=v) (u:=0) (R:=iA (OR g out) (gL g) w out) Py U hn h3) ?_;rintro _ _ ⟨x,l',rfl,h4,h5,h6,rfl⟩;obtain⟨d,rfl,hdl,hik,hol,hfin⟩:=aT0 hg hj h4 h5;unfold Mz iA;simp only[zz];have c0:∀o:Ent,(od (gL g)++[o])[(od (gL g)).length]?=M o:=λo=>Iaf;have c1:∀o z:Ent,(od (gL g)++[o]++[z])[(od (gL g)).length]?=M o:=λo z=>p6
    have c2:∀o z e:Ent,(od (gL g)++[o]++[z]).set (od (gL g)).length e=od (gL g)++[e]++[z]:=λo z e=>p6
    have c3:∀o z:Ent,(od (gL g)++[o]++[z])[(od (gL g)).length+1]?=M z:=λo z=>p6
    have c5:qS ((od (gL g)).length+1+4) ((od (gL g)).length+4)=true:=ZO U;have hEl:(od (gL g)).length=a00 g:=by rw[Hk,AV]
    have hF:(gL g)[d]?=M ((xh g g.length d).length,xh g g.length d):=XP hdl;have hE1:(od (gL g))[d]?=M (.live 1 (xh g g.length d).length ((xh g g.length d).map da)):=by
     grind[od]
    have c4:∀o z:Ent,(od (gL g)++[o]++[z])[d]?=M (.live 1 (xh g g.length d).length ((xh g g.length d).map da)):=λo z=>by
     grind
    have c6:∀o:Ent,(od (gL g)++[o])[d]?=M (.live 1 (xh g g.length d).length ((xh g g.length d).map da)):=λo=>by
     grind
    have o1:(t? 4 (gL g))[d]?=M (.own (d+4) (xh g g.length d).length):=by grind[AE]
    have o2:(t? 4 (gL g)).length=a00 g:=by rw[vu,AV]
    have b1:(a00 out+1)*8<=2 ^ 47:=U
    have hDn:(xh g g.length d).length<=a00 g:=QI;have hpl:=h4.length_eq;refine ss (rg ?_);simp only[zz,c0,c1,c2,c3,c5,b1];refine ss (rg ?_);simp only[zz,c1,c2,c4,o1,o2,hdl];refine T.zL (E4 g out w d) (λy=>y.1<=(xh g g.length d).length/\y.2.1.Perm (l'++tE g out d y.1)/\Hp y.2.1 y.2.1.length) (λy=>y.1=(xh g g.length d).length/\y.2.1.Perm (l'++tE g out d y.1)/\Hp y.2.1 y.2.1.length) (λy=>(xh g g.length d).length-y.1) (0,l',v+1) ⟨Q? _,by grind[aP1],h6⟩ ?_ (λ_ _=>be0 hdl) ?_ (λ_=>Pu Ru) ?_
    .unfold E4 Mz iA;dsimp only;rw[aT5,ψ,←B',←B',←B',←B'];exact At.mk _ _ _ _ B!
    .rintro⟨k,l1,v1⟩ ⟨k1,k2,k3⟩;dsimp only at k1 k2 k3;have hl1:l1.length<=1048576+1048576:=by
      rw[k2.length_eq,List.length_append]
      grind[Zab]
     unfold E4 Mz iA;dsimp only;refine ss (rg ?_);simp only[zz];refine ss (cd rfl ?_);simp only[zz];refine gP.mk (λhc=>?_) (λhc=>?_)
     .have hk:k<(xh g g.length d).length:=U
      refine sk ?_;simp only[zz];obtain⟨e,he,hel,hem⟩:=vA.1 (E' hk);have g3:(xh g g.length d)[k]?=M (e:Int):=p5
      have i1:=rab (out:=out) hk he hel;have i2:(Ez g out d k).length=a00 g:=by grind[Ez]
      have i3:(List.map da (Ez g out d k)).set e (.v (.int .i64 (iF g out e-1)))=List.map da (Ez g out d (k+1)):=by
       rw[←VM hk he,aai];rfl
      have i4:(Ez g out d (k+1))[e]?=M (iF g out e-1):=by
       rw[←VM hk he,List.getElem?_set_self U]
      have i5:(Ez g out d (k+1)).length=a00 g:=by grind[Ez]
      have hcn:0<=iF g out e/\iF g out e<=1048576:=by
       unfold iF;have h1:=List.length_filter_le (λd=>!out.contains d) (g.getD e []);have h2:=VF (hg.nd _ (aU6 hel)) (hg.inr _ (aU6 hel));omega
      have hwc:aa .i64 (iF g out e-1)=iF g out e-1:=De ⟨U,U⟩;have hwk:aa .i64 ((k:Int)+1)=((k+1:Nat):Int):=by grind[De]
      refine ss (bk (ss (rg ?_)));simp only[zz,c6,hk,g3];refine ss (rg ?_);simp only[zz,i1,i2,hel,hwc,i3];refine ss (rg ?_);simp only[zz,i4,i5,hel];refine cd rfl ?_;by_cases hc1:iF g out e=1
      .have hz:((iF g out e-1)==0)=true:=p5
       simp only[zz,hz];refine rg ?_;simp only[zz];refine cr (zY (l:=l1) (x:=(e:Int)) (v:=v1) (u:=0) (R:=iA (Ez g out d (k+1)) (gL g) (w+1) (out++[(d:Int)])) Py U k3) ?_;rintro _ _ ⟨rfl,l2,h7,h8,rfl⟩;unfold Mz iA;simp only[zz];refine rg ?_;simp only[zz,hwk,Jm];refine⟨(k+1,l2,v1+1),⟨U,?_,h8⟩,U,?_⟩
       .dsimp only;rw[oN hk he,J hc1,←H!]
        grind
       .exact At.same _ _ _ B!
      .have hz:((iF g out e-1)==0)=false:=by
        grind
       simp only[zz,hz];refine sk ?_;simp only[zz];refine rg ?_;simp only[zz,hwk,Jm];refine⟨(k+1,l1,v1),⟨U,?_,k3⟩,U,?_⟩
       .dsimp only;rw[oN hk he,s7 hc1];omega
       .exact At.same _ _ _ B!
     .refine xt ?_;simp only[zz,Xp];have hk:k=(xh g g.length d).length:=U
      subst hk;exact⟨((xh g g.length d).length,l1,v1),⟨rfl,k2,k3⟩,At.same _ _ _ B!⟩
    .rintro⟨k,l1,v1⟩ ⟨k1,k2,k3⟩;dsimp only at k1 k2 k3;subst k1;unfold E4 Mz iA;dsimp only;rw[hik];simp only[zz,Jm];refine⟨(out++[(d:Int)],w+1,l1,v1),⟨hfin l1 k2,k3⟩,s5,?_⟩;exact At.same _ _ _ B!
   .refine xt ?_;simp only[zz,Xp];have hl0:l=[]:=List.eq_nil_of_length_eq_zero U;subst hl0;exact⟨(out,w,[],v),hj,At.same _ _ _ B!⟩
  .rintro⟨out,w,l,v⟩ hj;dsimp only at hj;have he:=aT1 hj;unfold E3 Mz iA;dsimp only;simp only[zz];have c0:∀o:Ent,(od (gL g)++[o])[(od (gL g)).length]?=M o:=λo=>Iaf;refine ss (ss (rg ?_));simp only[zz,c0];refine cd rfl ?_;by_cases hlt:out.length<a00 g
   .have hz:D1 ((a00 out:Int)<(a00 g:Int))=true:=D2 U;rw[J hlt]at he;rw[he];simp only[zz,hz];refine ss (rg ?_);simp only[zz];exact rt (er (by simp_all[zz,fq,zg]))
   .have hz:D1 ((a00 out:Int)<(a00 g:Int))=false:=R1 U;rw[s7 hlt]at he;rw[he];simp only[zz,hz];refine sk ?_;simp only[zz];refine ss (rg ?_);simp only[zz];exact rt (er (by simp_all[zz,fq,zg]))
theorem aT6{n:Int}(h:x∈jH n l):0<=x/\x<n:=by
 grind[jH]
theorem ay8{s:fr}(h:s.f.length<=1048576):GOk (Yq s):=by
 have hl:(Yq s).length=a00 s.f:=by grind[Yq]
 refine⟨U,λl hm e he=>?_,λl hm=>?_⟩
 .unfold Yq at hm;obtain⟨d,-,rfl⟩:=V!.1 hm;rw[hl];rw[(Nh _).2.2,List.mem_flatten]at he;obtain⟨q,hq,he⟩:=he;obtain⟨r,-,rfl⟩:=V!.1 hq;rcases List.mem_append.1 he with h1|h1<;>exact aT6 h1
 .unfold Yq at hm;obtain⟨d,-,rfl⟩:=V!.1 hm
  grind[UM,Nh]
theorem Rx{r:List Int×Int}(h:Ve t0=M r):k! al 232 [Gd t0] (.tup [pb r.1,da r.2]):=by
 unfold Ve at h
 cases hall:Fc t0 with
 |none=>simp_all
 |some g=>
  rw[hall]at h;simp only[Option.bind_some,M?]at h;subst h;have hall':=hall;unfold Fc at hall';split at hall'
  .rename_i hc;have:=Vo ⟨hc.1,hc.2.1,hc.2.2⟩;rw[hall]at this;obtain rfl:=R' this
   grind[bT8,ay8]
  simp_all
instance adk{t0 r}:r? (Ve t0=M r) (k! al 232 [Gd t0] (.tup [pb r.1,da r.2])):=⟨Rx⟩
instance T7:C3 bs7 Pm:=pg (ak bs7.eq_1 Pm.eq_1) .o
instance adl:C3 bo0 vc:=pg (ak bo0.eq_1 vc.eq_1) (.z 3 (.j (EN [24,33,32,9,2,1009] [0,8,16,24]) .o (.b .o (.b .o (.j (EN [24,73,168,2,841] [0,8,16,24]) .o (.b .o (.j (EN [24,241,88,2,753] [0,8,16,24]) .o (.b .o (.b .o (.b .o (.b .o (.b .o (.b (.j ⟨[.k 6,.p 1,.s (da 0),.p 3],[.h 3 [.g [.i 0,.i 1,.i 2]]]⟩ (.t [12]) .o) (.b (.j ⟨[.k 6,.p 1,.s (da 0),.p 3],[.h 3 [.g [.i 0,.i 1,.i 2]]]⟩ (.t [12]) .o) .o))))))))))))))
instance EY:C1 bA1 dq:=pg (ak (ak bA1.eq_1 dq.eq_1) ji.eq_1) (.l (EN [8,57,48,17,2,409] [0,8]) (EN [16,49] [8]) [] (.b (.z 4 (.j ⟨[.k 1,.p 2,.k 2,.p 1,.k 8,.p 3],[.o 0,.o 1,.h 3 [.g [.i 0,.p 2,.i 1]]]⟩ (.b (.t [0,4,12]) (.j (EN [8,17,16,97,152,2,249] [0,8,24]) (.t [0,4,12]) .o)) .o)) (.t [4])) .o)
instance adm:C3 bz2 Gu:=pg (ak bz2.eq_1 Gu.eq_1) (.z 4 (.j (EN [8,41,120,2,113] [0]) .o .o))
instance adn{t0 c10 r}:r? (Bb t0 (λx900=>df x900 c10)=M r) (k! al 244 [Fk t0,.fn 245 [] [Cv c10]] (ya r)):=⟨λh=>pn (q1:=[Cv c10]) (gH lF) (λx900 _ hb=>av hb) h⟩
instance S7:C3 bu7 Gp:=pg (ak (ak bu7.eq_1 Gp.eq_1) Rk.eq_1) (.l (EN [8,9,8,25,8,9,2,25,64,17,10,977] [0,8,16]) (EN [8,9,8,25,8,9,2,25] [0,8,16]) [] (.z 2 (.j (EN [8,57,2,113] [0,8,16]) .o .o)) (.b .o (.b .o (.j (EN [8,265,96,2,785] [0,8,16]) .o (.b .o (.j (EN [24,345,96,2,689] [0,8,16]) .o (.b .o (.j (EN [24,441,216,2,473] [0,8,16]) .o (.b .o (.j (EN [24,657,72,2,401] [0,8,16]) .o (.b .o (.b .o (.b .o (.e (EN [24,41] [0,8,16]) .o .o))))))))))))))
instance Raa:C3 bp9 Ja:=pg (ak bp9.eq_1 Ja.eq_1) (.z 3 (.j (EN [8,9,8,33,56,9,2,1193] [0,8,16]) .o (.b .o (.b .o (.b .o (.b .o (.b .o (.b .o (.j (EN [8,113,376,2,817] [0,8,16]) .o .o)))))))))
instance D0:C3 bA8 xk:=pg (ak bA8.eq_1 xk.eq_1) .o
instance ado{t0 c10 r}:r? (ub t0 (λx900=>Wd x900 c10)=M r) (k! al 212 [Zs t0,.fn 213 [] [Xs c10]] (ya r)):=⟨λh=>im (q1:=[Xs c10]) (gH lF) (λx900 _ hb=>ru hb) h⟩
instance S4:C2 bx2 bo:=pg (ak (ak bx2.eq_1 bo.eq_1) (ak sj.eq_1 (ak uj.eq_1 (ak vj.eq_1 wj.eq_1)))) (.z 3 (.j (EN [8,25,16,17,2,81] [0,8]) .o (.b .o (.b .o (.j (EN [8,49,360,2,881] [0,8]) .o (.l (EN [8,409,280,17,2,585] [0,8]) (EN [8,409] [0,8]) [] .o (.l (EN [8,849,8,17,2,417] [0,8]) (EN [8,849] [0,8]) [] .o (.l (EN [48,993,40,9,2,209] [8,16]) (EN [48,73] [8]) [4,8] .o (.l (EN [48,1145,16,9,2,81] [0]) (EN [] []) [] .o .o)))))))))
instance adp:C3 bq9 Qj:=pg (ak bq9.eq_1 Qj.eq_1) (.z 2 (.j (EN [8,9,8,33,104,2,265] [0,8,16]) .o (.z 3 (.j (EN [8,153,128,2,137] [0,8,16]) .o .o))))
instance adq:C6 bD2 bu:=pg (ak bD2.eq_1 bu.eq_1) (.z 2 (.j (EN [41,48,17,152,2,345] [0,8]) .o (.z 3 (.j (EN [257,152,2,193] [0,8]) .o (.z 1 (.j ⟨[.k 12,.p 39],[.o 1,.h 2 [.g [.p 4,.i 0,.i 1,.p 1]]]⟩ (.t [4,8]) .o))))))
instance DY:C1 bA0 bq:=pg (ak (ak bA0.eq_1 bq.eq_1) fi.eq_1) (.l (EN [8,41,56,9,2,129] [0,8]) (EN [16,33] [8]) [] (.b .o (.t [4])) .o)
theorem qx{t0 t1 r} [∀ t0 t1 r,r? (R260 t0 t1=M r) (k! al 260 [xa t0,da t1] (.tup [ib r.1,da r.2]))] [∀ t0 t1 t2 r,r? (R275 t0 t1 t2=M r) (k! al 275 [xa t0,nj t1,pb t2] (.tup [ib r.1,da r.2]))] [∀ t0 t1 r,r? (R282 t0 t1=M r) (k! al 282 [xa t0,da t1] (.tup [ib r.1,da r.2]))] (h:Mc R260 R275 R282 t0 t1=M r):k! al 260 [xa t0,da t1] (.tup [ib r.1,da r.2]):=by
 refine dk 63 bs0 ?_
 simp only[bs0,Kf.of,zs,ze]
 unfold Mc at h
 exact pg td.eq_1 (.z 5 (.j (EN [16,25,8,57,80,2,329] [0,8,16]) .o (.l (EN [16,41,8,121,104,17,10,209] [0,8,16,770]) (EN [16,41,8,121] [0,8,16,770]) [] .o .o)))
theorem px{t0 t1 t2 r} [∀ t0 t1 r,r? (R260 t0 t1=M r) (k! al 260 [xa t0,da t1] (.tup [ib r.1,da r.2]))] [∀ t0 t1 t2 r,r? (R275 t0 t1 t2=M r) (k! al 275 [xa t0,nj t1,pb t2] (.tup [ib r.1,da r.2]))] [∀ t0 t1 r,r? (R282 t0 t1=M r) (k! al 282 [xa t0,da t1] (.tup [ib r.1,da r.2]))] (h:bg R260 R275 R282 t0 t1 t2=M r):k! al 275 [xa t0,nj t1,pb t2] (.tup [ib r.1,da r.2]):=by
 refine dk 66 br0 ?_
 simp only[br0,Kf.of,zs,ze]
 unfold bg at h
 exact pg trivial (.b .o (.a [[],[],[],[],[],[],[],[],[],[]] (.z 3 (.j (EN [16,41,8,9,136,2,337] [0,8,16,24]) .o .o))))
theorem rv{t0 t1 r} [∀ t0 t1 r,r? (R260 t0 t1=M r) (k! al 260 [xa t0,da t1] (.tup [ib r.1,da r.2]))] [∀ t0 t1 t2 r,r? (R275 t0 t1 t2=M r) (k! al 275 [xa t0,nj t1,pb t2] (.tup [ib r.1,da r.2]))] [∀ t0 t1 r,r? (R282 t0 t1=M r) (k! al 282 [xa t0,da t1] (.tup [ib r.1,da r.2]))] (h:Jc R260 R275 R282 t0 t1=M r):k! al 282 [xa t0,da t1] (.tup [ib r.1,da r.2]):=by
 refine dk 26 bq4 ?_
 simp only[bq4,Kf.of,zs,ze]
 unfold Jc at h
 exact pg trivial (.z 5 (.j (EN [32,9,8,9,144,2,17] [8,16]) (.t [4,8]) .o))
def sg:∀n,(∀ t0 t1 r,(ca n).1 t0 t1=M r->k! al 260 [xa t0,da t1] (.tup [ib r.1,da r.2]))/\(∀ t0 t1 t2 r,(ca n).2.1 t0 t1 t2=M r->k! al 275 [xa t0,nj t1,pb t2] (.tup [ib r.1,da r.2]))/\(∀ t0 t1 r,(ca n).2.2 t0 t1=M r->k! al 282 [xa t0,da t1] (.tup [ib r.1,da r.2]))
|0=>⟨λ_ _ _ h=>(nomatch h),λ_ _ _ _ h=>(nomatch h),λ_ _ _ h=>(nomatch h)⟩
|n+1=>by
 obtain⟨H0,H1,H2⟩:=sg n
 haveI I0:∀ t0 t1 r,r? ((ca n).1 t0 t1=M r) (k! al 260 [xa t0,da t1] (.tup [ib r.1,da r.2])):=λt0 t1 r=>⟨H0 t0 t1 r⟩
 haveI I1:∀ t0 t1 t2 r,r? ((ca n).2.1 t0 t1 t2=M r) (k! al 275 [xa t0,nj t1,pb t2] (.tup [ib r.1,da r.2])):=λt0 t1 t2 r=>⟨H1 t0 t1 t2 r⟩
 haveI I2:∀ t0 t1 r,r? ((ca n).2.2 t0 t1=M r) (k! al 282 [xa t0,da t1] (.tup [ib r.1,da r.2])):=λt0 t1 r=>⟨H2 t0 t1 r⟩
 exact⟨λt0 t1 r h=>qx (R260:=(ca n).1) (R275:=(ca n).2.1) (R282:=(ca n).2.2) h,λt0 t1 t2 r h=>px (R260:=(ca n).1) (R275:=(ca n).2.1) (R282:=(ca n).2.2) h,λt0 t1 r h=>rv (R260:=(ca n).1) (R275:=(ca n).2.1) (R282:=(ca n).2.2) h⟩
def Ry{t0 t1 r} (h:ck t0 t1=M r):k! al 260 [xa t0,da t1] (.tup [ib r.1,da r.2]):=(sg Ww).1 _ _ _ h
instance adr{t0 t1 r}:r? (ck t0 t1=M r) (k! al 260 [xa t0,da t1] (.tup [ib r.1,da r.2])):=⟨Ry⟩
def Qy{t0 t1 t2 r} (h:Zu t0 t1 t2=M r):k! al 275 [xa t0,nj t1,pb t2] (.tup [ib r.1,da r.2]):=(sg Ww).2.1 _ _ _ _ h
instance ads{t0 t1 t2 r}:r? (Zu t0 t1 t2=M r) (k! al 275 [xa t0,nj t1,pb t2] (.tup [ib r.1,da r.2])):=⟨Qy⟩
def uw{t0 t1 r} (h:vr t0 t1=M r):k! al 282 [xa t0,da t1] (.tup [ib r.1,da r.2]):=(sg Ww).2.2 _ _ _ h
instance adt{t0 t1 r}:r? (vr t0 t1=M r) (k! al 282 [xa t0,da t1] (.tup [ib r.1,da r.2])):=⟨uw⟩
instance Bab:C1 bC3 Yl:=pg (ak bC3.eq_1 Yl.eq_1) .o
instance adu:C2 bt5 Om:=pg (ak bt5.eq_1 Om.eq_1) .o
instance cO:C3 k86 Qa:=pg (ak k86.eq_1 Qa.eq_1) (.z 4 (.j (EN [8,9,8,25,240,2,545] [0,8]) .o (.z 3 (.j (EN [40,249,216,2,329] [8]) (.t [4]) (.z 1 (.j (EN [512,2,321] []) (.j (EN [40,465,8,2,321] [0]) .o (.j (EN [40,473,2,321] [0]) .o (.j (EN [40,473,2,321] [0]) .o (.j (EN [40,473,2,321] [0]) .o .o)))) .o))))))
instance DV:C4 bA5 Qh:=pg (ak (ak bA5.eq_1 Qh.eq_1) ik.eq_1) (.z 7 (.j (EN [16,57,248,2,497] [0,8,16]) .o (.l ⟨[.k 2,.p 2,.k 1,.p 8,.k 2,.p 1,.k 59,.p 2,.i 1,.p 25],[.o 1,.o 2,.h 3 [.g [.p 2,.s (.own 3 0)]],.ni 1 0]⟩ ⟨[.k 8,.p 5],[.o 2,.h 3 [.g [.p 2,.s (.own 2 0)]],.ni 1 0]⟩ [4,8,12,5] (.b (.b .o (.t [0,4,8,268])) (.t [4,8,12])) .o)))
instance XM:C5 by6 Nc:=pg (ak by6.eq_1 Nc.eq_1) (.z 5 (.j (EN [8,9,24,49,288,2,121] [0,8,16]) .o .o))
instance AY:C4 bt6 dh:=pg (ak (ak bt6.eq_1 dh.eq_1) Xl.eq_1) (.l (EN [16,49,8,81,96,17,10,425] [0,8,16,770]) (EN [72,81] [16,770]) [] (.b (.e (EN [16,257] [0,8,16,770]) (.b .o (.a [[],[],[],[],[],[],[],[],[],[],[],[],[]] .o)) .o) (.t [8,12])) .o)
instance xU:C3 k70 Jh:=pg (ak (ak k70.eq_1 Jh.eq_1) (ak mh.eq_1 oh.eq_1)) (.z 7 (.j (EN [32,17,328,2,521] [8,16]) (.t [4,8]) (.l (EN [32,41,400,17,2,409] [0,8]) (EN [40,33] [8]) [] (.b (.z 3 (.j (EN [32,465,96,2,305] [0,8]) .o (.b .o (.j (EN [32,65,376,121,96,2,209] [0,8]) .o .o)))) (.t [4])) (.l (EN [40,665,40,17,2,137] [0]) (EN [40,665] [0]) [] (.z 4 (.j (EN [40,65,640,25,96,2,33] [0]) .o .o)) .o))))
instance G0:C3 bC7 qf:=pg (ak bC7.eq_1 qf.eq_1) .o
instance adv{t0 t1 t2 t3 r}:r? (jb t0 t1 t2 t3=M r) (PZ al 200 [Gd t0] [da t2,dJ t3] 6 [aA t1] [aA r.2] (.tup [pb r.1.1,kr r.1.2])):=⟨λh=>by
 refine PZ.of 101 bv9 ?_
 simp only[bv9,Kf.of,zs,ze]
 unfold jb at h
 exact pg bf.eq_1 (.l (EN [8,57,8,17,192,17,18,537] [1,770,8,16,1034]) (EN [72,17] [1,770,16,1034]) [0,12,4,8,16] (.b (.e (EN [8,297] [1,258,16,24,1034]) (.b .o (.b .o (.b .o (.b .o (.a [[],[],[],[],[],[],[],[],[],[],[],[],[],[],[]] .o))))) .o) (.t [0,4,12,16])) .o)⟩
instance adw{t0 t1 t2 t3 r}:r? (bh t0 t1 t2 t3=M r) (k! al 166 [mq t0,da t1,CH t2,nr t3] (.tup [iB r.1,aA r.2.1,kr r.2.2])):=⟨λh=>by
 refine dk 119 by3 ?_
 simp only[by3,Kf.of,zs,ze]
 unfold bh at h
 exact pg (ak Vl.eq_1 Wl.eq_1) (.l ⟨[.k 3,.p 19,.k 11,.p 2,.i 1,.p 87],[.o 0,.o 1,.o 2,.o 3,.o 4,.h 5 [.g [.p 4,.s (.own 6 0),.p 1]],.ni 2 0,.o 6]⟩ ⟨[.k 3,.p 19],[.o 0,.o 1,.o 2,.o 3,.o 4,.h 5 [.g [.p 4,.s (.own 6 0),.p 1]],.ni 2 0,.o 6]⟩ [0,4,8,12,16,20,9,24] (.b (.t [0,4,8,12,16,20,280,28]) .o) (.l ⟨[.k 3,.p 44,.k 1,.p 2,.i 2,.p 72],[.o 0,.o 1,.o 2,.o 3,.o 4,.h 5 [.g [.p 3,.s (.own 6 0),.p 2]],.ni 1 0,.o 6,.h 7 [.g [.p 2,.s (.own 9 0)]],.ni 2 1]⟩ ⟨[.k 3,.p 1,.k 4,.p 39],[.o 2,.o 3,.o 4,.h 5 [.g [.p 3,.s (.own 4 0),.p 2]],.ni 1 0,.o 6,.h 7 [.g [.p 2,.s (.own 7 0)]],.ni 2 1]⟩ [0,4,8,12,16,20,5,24,28,9] (.b (.z 4 (.f ⟨[.k 3,.p 120],[.o 0,.o 1,.o 2,.o 3,.o 4,.o 5,.o 6,.o 7,.o 8,.o 9,.h 10 [.g [.p 2,.s (.sl 3 (([] : List bz).map ib)),.s (.sl 1 (([] : List (List bz)).map oq)),.s (.sl 2 (([] : List ek).map mr)),.p 1]]]⟩ [] (.g [[],[0],[0,1],[0,1,2],[0,1,2,3],[0,1,2,3,4],[0,1,2,3,4,5],[0,1,2,3,4,5,6],[0,1,2,3,4,5,6,7],[0,1,2,3,4,5,6,7,8],[0,1,2,3,4,5,6,7,8,9],[0,1,2,3,4,5,6,7,8,9,10],[0,1,2,3,4,5,6,7,8,9,10,11],[0,1,2,3,4,5,6,7,8,9,10,11,12],[0,1,2,3,4,5,6,7,8,9,10,11,12,13]] [u4,u4,u4,u4,u4,u4,u4,u4,u4,M 10,u4,u4,u4,u4,u4] (.b (.a [[],[],[],[2],[2]] .o) (.t [0,4,8,12,16,20,280,28,32,292]))))) (.t [8,12,16,20,24,28,32,36])) (.z 1 (.f ⟨[.k 3,.p 120],[.o 0,.o 1,.o 2,.h 3 [.g [.p 2,.s (.sl 3 (([] : List bz).map ib)),.p 3]],.o 6,.o 7]⟩ [0,4,8,12,24,28] (.g [[],[0],[0,1],[0,1,2],[0,1,2,3],[0,1,2,3,4],[0,1,2,3,4,5],[0,1,2,3,4,5,6],[0,1,2,3,4,5,6,7],[0,1,2,3,4,5,6,7,8],[0,1,2,3,4,5,6,7,8,9],[0,1,2,3,4,5,6,7,8,9,10],[0,1,2,3,4,5,6,7,8,9,10,11],[0,1,2,3,4,5,6,7,8,9,10,11,12]] [u4,u4,u4,u4,u4,u4,u4,u4,M 3,u4,u4,u4,u4,u4] (.b (.a [[],[],[],[2],[2]] .o) (.a [[],[],[],[1],[]] .o)))))))⟩
instance N4:C4 bA4 Ce:=pg (ak (ak bA4.eq_1 Ce.eq_1) (ak Rl.eq_1 (ak Tl.eq_1 (ak ei.eq_1 (ak Sl.eq_1 (ak Ul.eq_1 (ak En.eq_1 (ak bw0.eq_1 (ak by4.eq_1 by5.eq_1))))))))) (.b (.a [[],[],[1],[]] .o) (.i by5 50 ⟨[.s (.ref 5 0 0 0)],[.O 0,.O 1,.O 2,.O 3,.O 4,.nq 12 [.x [.i 0,.i 1,.i 2,.i 3,.i 4,.i 5,.i 6,.i 7,.i 8,.i 9,.s (.own 6 0),.s (.own 7 0)]],.ni 1 10,.ni 1 11]⟩ (.z 3 (.j ⟨[.k 5,.p 1],[.O 0,.O 1,.O 2,.O 3,.O 4,.h 6 [.g [.p 5,.i 0,.i 1,.i 2,.i 3,.i 4,.p 1,.s (.own 7 0)]],.o 7,.ni 1 5]⟩ (.b (.t [0,4,8,12,16,24,28,32]) (.t [0,4,8,12,16,24,28,5])) .o)) (.i by4 45 ⟨[.s (.tup [])],[.O 0,.O 1,.O 2,.O 3,.O 4,.O 5,.Ci 6 0,.Ci 7 1]⟩ (.l (EN [65,88,17,10,201] [1,9,17,25,33,41,1539,57]) (EN [65] [1,9,17,25,33,41,1539,57]) [] .o (.l (EN [9,288,17,10,57] [1,9,17,25,33,41,49,1795]) (EN [] [1,9,17,25,33,41,49,1795]) [] (.b (.i bw0 28 ⟨[.s (.tup [])],[.O 0,.O 1,.O 2,.O 3,.O 4,.O 5,.O 6,.Ci 7 0]⟩ (.l (EN [9,128,17,10,81] [1,9,17,25,33,41,49,1795]) (EN [] [1,9,17,25,33,41,49,1795]) [] .o .o) .o) .o) .o)) (.z 1 (.d [0,8,16,24,32] [] (.b (.a [[],[],[1],[]] .o) (.a [[],[],[],[],[],[],[],[],[],[],[],[6,8,9],[]] .o)))))))
instance l9:C5 bC6 Qo:=pg (ak (ak bC6.eq_1 Qo.eq_1) Si.eq_1) (.l (EN [32,49,16,2,10,89,18,497] [0,8,16]) (EN [56,25,16,2,10,73] [16]) [] (.b .o (.t [8])) .o)
instance lX:C6 k83 Nf:=pg (ak (ak k83.eq_1 Nf.eq_1) jg.eq_1) (.z 2 (.j (EN [24,73,192,2,385] [0,8,16]) .o (.z 3 (.j (EN [24,89,2,10,161] [0,8,16,24]) .o (.l (EN [32,81,10,9,18,265] [0,8,16,770]) (EN [104,9] [770]) [] (.b (.z 2 (.j ⟨[.k 4,.p 10,.i 0,.p 36],[.o 0,.o 1,.o 2,.o 3,.h 4 [.g [.p 1,.i 1,.i 2]]]⟩ (.b .o (.b (.a [[],[],[],[],[],[],[],[],[],[],[],[],[]] .o) .o)) (.t [0,4,8,268]))) (.t [12])) .o)))))
theorem FD{t0 t1 t2 t3 t4 t5 r} (h:Nf t0 t1 t2 t3 t4 t5=M r):Wr al 83 [mq t0,.agg [da t1.Id,da t1.Scope,da t1.w,.own 0 0],Ge t2,da t3,da t4,da t5] [(9,t1.ab.map sd)] (Lc r):=by
 refine Wr.of 79 k83 ?_ aaW
 simp only[k83,Kf.of,zs,ze,qv,w?,D!,w!,A?,l?]
 unfold Nf at h
 exact pg jg.eq_1 (.z 2 (.j (EN [24,73,192,2,385] [1,8,16,24]) .o (.z 3 (.j (EN [24,89,2,10,161] [1,8,16,24,32]) .o (.l (EN [32,81,10,9,18,265] [1,8,16,24,1026]) (EN [104,9] [1,1026]) [] (.b (.z 2 (.j ⟨[.k 4,.p 10,.i 0,.p 36],[.O 0,.o 1,.o 2,.o 3,.o 4,.h 5 [.g [.p 1,.i 1,.i 2]]]⟩ (.b .o (.b (.a [[],[],[],[],[],[],[],[],[],[],[],[],[]] .o) .o)) (.t [0,4,8,12,272]))) (.t [0,16])) .o)))))
instance adx{t0 t1 t2 t3 t4 t5 r}:Γ (Nf t0 t1 t2 t3 t4 t5=M r) (Wr al 83 [mq t0,.agg [da t1.Id,da t1.Scope,da t1.w,.own 0 0],Ge t2,da t3,da t4,da t5] [(9,t1.ab.map sd)] (Lc r)):=⟨FD⟩
instance wU:C5 k61 qb:=pg (ak k61.eq_1 qb.eq_1) (.z 2 (.j (EN [24,57,72,2,161] [0,8,16]) .o .o))
theorem EC{t0 t1 t2 t3 t4 r} (h:qb t0 t1 t2 t3 t4=M r):Wr al 61 [mq t0,Ge t1,.agg [da t2.j.Id,da t2.j.Scope,da t2.j.w,.own 0 0,.own 1 0,.own 2 0,da t2.g,da t2.ag],da t3,da t4] [(9,t2.j.ab.map sd),(4,t2.u.map db),(7,t2.af.map me)] (zb r):=by
 refine Wr.of 35 k61 ?_ aaW
 simp only[k61,Kf.of,zs,ze,qv,w?,D!,w!,A?,l?]
 unfold qb at h
 exact pg trivial (.z 2 (.j (EN [24,57,72,2,161] [1,9,17,24,32,40]) .o .o))
instance ady{t0 t1 t2 t3 t4 r}:Γ (qb t0 t1 t2 t3 t4=M r) (Wr al 61 [mq t0,Ge t1,.agg [da t2.j.Id,da t2.j.Scope,da t2.j.w,.own 0 0,.own 1 0,.own 2 0,da t2.g,da t2.ag],da t3,da t4] [(9,t2.j.ab.map sd),(4,t2.u.map db),(7,t2.af.map me)] (zb r)):=⟨EC⟩
instance u9:C5 k45 Fl:=pg (ak k45.eq_1 Fl.eq_1) .o
instance adz{t0 c10 r}:r? (Ea t0 (λx900=>Yb x900 c10)=M r) (k! al 109 [zb t0,.fn 110 [] [Vs c10]] (da r)):=⟨λh=>uh (q1:=[Vs c10]) (gH lF) (λx900 _ hb=>Ap hb) h⟩
theorem tF{t0 t1 t2 t3 r} (h:xe t0 t1 t2 t3=M r):k! al 60 [mq t0,Ge t1,Zh t2,iu t3] (.tup [Zh r.1,da r.2]):=by
 refine dk 69 k60 ?_
 simp only[k60,Kf.of,zs,ze]
 unfold xe at h
 exact pg (ak sn.eq_1 (ak rn.eq_1 (ak qn.eq_1 (ak Po.eq_1 (ak Oo.eq_1 (ak No.eq_1 (ak uk.eq_1 (ak Mo.eq_1 (ak Ko.eq_1 (ak Jo.eq_1 (ak aq6.eq_1 (ak k82.eq_1 (ak k81.eq_1 (ak k80.eq_1 (ak k79.eq_1 (ak k78.eq_1 (ak k77.eq_1 k76.eq_1))))))))))))))))) (.b .o (.b .o (.b .o (.i k76 17 ⟨[.s (.agg [da t2.j.Id,da t2.j.Scope,da t2.j.w,.own 5 0,.own 6 0,.own 7 0,da t2.g,da t2.ag])],[.O 0,.O 1,.O 2,.O 3,.O 4,.ni 9 0,.ni 4 1,.ni 7 2]⟩ (.t [0,4,8,12,16,28,32,36]) (.z 1 (.j ⟨[.k 6,.p 3,.k 1,.p 1,.i 4],[.o 2,.o 3,.o 4,.h 8 [.g [.p 7,.i 3]],.ci 5 0,.ci 6 1,.ci 7 2]⟩ (.b (.i k77 35 ⟨[.i 1],[.O 0,.O 1,.O 2,.O 3,.O 4,.Bi 5 1 0,.O 6,.O 7,.H 8 [.g [.p 3,.s (.own 5 1),.p 4]]]⟩ (.b (.t [0,4,8,12,16,22,24,28,32]) (.a [[],[],[],[],[],[],[],[],[],[]] (.t [0,4,8,12,16,278,24,28,32]))) (.t [8,12,16,32,276,24,28])) (.b (.i k78 49 ⟨[.i 2],[.O 0,.O 1,.O 2,.O 3,.O 4,.O 5,.Bi 6 1 0,.O 7,.H 8 [.g [.p 4,.s (.own 6 1),.p 2,.i 1]]]⟩ (.b (.t [0,4,8,12,16,20,26,28,32]) (.b (.t [0,4,8,12,16,20,26,28,32]) (.i aq6 21 ⟨[.i 1],[.O 0,.O 1,.O 2,.O 3,.O 4,.O 5,.Bi 6 1 0,.O 7,.H 8 [.g [.p 4,.s (.own 6 1),.p 3]],.O 9,.O 10,.O 11]⟩ (.b (.t [0,4,8,12,16,20,26,28,32,36,40,44]) (.t [0,4,8,12,16,20,282,28,32,36,40,44])) (.t [0,4,8,12,16,20,282,28,32])))) (.t [8,12,16,32,20,280,28])) (.b (.i k79 43 ⟨[.i 1],[.O 0,.O 1,.O 2,.O 3,.O 4,.O 5,.O 6,.Bi 7 1 0,.H 8 [.g [.p 5,.s (.own 7 1),.p 2]]]⟩ (.b (.t [0,4,8,12,16,20,24,30,32]) (.a [[],[],[],[],[],[],[],[],[],[],[],[],[],[],[],[],[],[],[],[]] (.b (.t [0,4,8,12,16,20,24,30,32]) (.a [[],[],[],[],[],[],[],[]] (.t [0,4,8,12,16,20,24,286,32]))))) (.t [8,12,16,32,20,24,284])) (.b (.i k80 47 (EN [10] [1,9,17,25,33,41,49,1795,65]) (.z 2 (.j (EN [9,16,9,120,2,233] [1,9,17,25,33,41,49,57,65,72]) .o (.b .o (.a [[],[],[],[],[],[],[],[],[],[],[],[],[],[],[],[],[],[],[],[]] .o)))) (.t [8,12,16,32,20,24,28])) (.b (.i k81 40 ⟨[.i 1],[.O 0,.O 1,.O 2,.O 3,.O 4,.O 5,.Bi 6 1 0,.O 7,.H 8 [.g [.p 4,.s (.own 6 1),.p 3]]]⟩ (.z 2 (.j (EN [16,9,8,33,80,2,201] [1,9,17,25,33,41,49,57,65,72,80,88]) .o (.b (.t [0,4,8,12,16,20,26,28,32]) (.b (.t [0,4,8,12,16,20,26,28,32]) (.i aq6 21 ⟨[.i 1],[.O 0,.O 1,.O 2,.O 3,.O 4,.O 5,.Bi 6 1 0,.O 7,.H 8 [.g [.p 4,.s (.own 6 1),.p 3]],.O 9,.O 10,.O 11]⟩ (.b (.t [0,4,8,12,16,20,26,28,32,36,40,44]) (.t [0,4,8,12,16,20,282,28,32,36,40,44])) (.t [0,4,8,12,16,20,282,28,32])))))) (.t [8,12,16,32,20,280,28])) (.b (.i k82 50 ⟨[.i 1],[.O 0,.O 1,.O 2,.O 3,.O 4,.O 5,.Bi 6 1 0,.O 7,.H 8 [.g [.p 4,.s (.own 6 1),.p 3]]]⟩ (.z 2 (.j (EN [16,9,8,33,80,2,281] [1,9,17,25,33,41,49,57,65,72,80,88]) .o (.b (.t [0,4,8,12,16,20,26,28,32]) (.b (.t [0,4,8,12,16,20,26,28,32]) (.b (.t [0,4,8,12,16,20,26,28,32]) (.i aq6 21 ⟨[.i 1],[.O 0,.O 1,.O 2,.O 3,.O 4,.O 5,.Bi 6 1 0,.O 7,.H 8 [.g [.p 4,.s (.own 6 1),.p 3]],.O 9,.O 10,.O 11,.O 12]⟩ (.b (.t [0,4,8,12,16,20,26,28,32,36,40,44,48]) (.t [0,4,8,12,16,20,282,28,32,36,40,44,48])) (.t [0,4,8,12,16,20,282,28,32]))))))) (.t [8,12,16,32,20,280,28])) (.t [8,12,16,32,20,24,28]))))))) .o))))))
instance aea{t0 t1 t2 t3 r}:r? (xe t0 t1 t2 t3=M r) (k! al 60 [mq t0,Ge t1,Zh t2,iu t3] (.tup [Zh r.1,da r.2])):=⟨tF⟩
instance aeb:C4 k44 Cq:=pg (ak k44.eq_1 Cq.eq_1) (.z 7 (.j (EN [48,17,24,9,8,9,280,2,65] [16,24]) (.t [8,12]) .o))
end Go.Proofs.Dev
