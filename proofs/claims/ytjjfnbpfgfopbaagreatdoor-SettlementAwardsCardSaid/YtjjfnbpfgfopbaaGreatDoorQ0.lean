/-
  Contracts of the functions: each answers as its plain partial function says.
-/
import Derived.Test.YtjjfnbpfgfopbaaGreatDoorK
import Derived.Test.YtjjfnbpfgfopbaaGreatDoorG
import Derived.Test.YtjjfnbpfgfopbaaGreatDoorPE
import Derived.Test.YtjjfnbpfgfopbaaGreatDoorH1
import Derived.Test.YtjjfnbpfgfopbaaGreatDoorH2
import Derived.Test.YtjjfnbpfgfopbaaGreatDoorL1
open Bool renaming and_self->yae,and_true->sac
open List renaming all_append->cad,all_cons->Kab,all_eq_true->Xaa,all_nil->yad,append_assoc->Oaa,cons_append->Gaa,getElem?_append_left->mac,getElem?_append_right->tab,getElem?_concat_length->Uaa,getElem?_cons_succ->Rab,getElem?_cons_zero->Yaa,getElem?_eq_getElem->naa,getElem_cons_succ->fae,getElem_mem->taa,getElem_of_mem->waa,getElem_take->had,length_cons->qaa,length_map->Waa,length_nil->Aaa,length_take->iab,map_append->uab,map_cons->vaa,map_nil->gab,mem_map->Paa,nil_append->Qaa,nodup_cons->vab,replicate->oaa,replicate_succ'->cac,set_append->Kac,take_add_one->Raa,take_length->aab,take_zero->xad
open Nat renaming add_lt_add_iff_right->Xad,add_zero->pac,zero_add->Jab
open Option renaming toList_some->Pab
open Option.some renaming inj->Iaa
set_option linter.all false
set_option maxHeartbeats 1000000
set_option maxRecDepth 10000
namespace Go.Proofs.Dev
open Go Go.Tm
variable {a:List GAward}{i j k:Nat}{l:List GPosting}{B:List Ent}{dl:D}{w:GAward}
abbrev BL:=List (Nat×List GPosting)
variable {L:BL}
def nN:D:=.v (.slice none 0 0)
def gB(l:List GPosting) (k:Nat) (w:GAward):List GPosting:=(l.take k).filter λp=>p.Month==w.Month
def ZB(a:List GAward) (l:List GPosting) (k:Nat):BL:=a.map λw=>((gB l k w).length,gB l k w)
def tA(N:Nat):Nat->List GAward->BL->List (Value×D)
 |k,w::a,p::L=>(.int .i64 w.Month,.own (k+1+N) p.1)::tA N (k+1) a L
 |_,_,_=>[]
def FH(L:BL):List Ent:=L.map λp=>.live 4 p.1 (p.2.map Ha)
def YU(a:List GAward):List (Value×D):=a.map λw=>(.int .i64 w.Month,nN)
theorem V7:((YU a).all λe=>isKey 0 e.1)=true:=by
 rw[Xaa];intro e he;obtain⟨w,-,rfl⟩:=Paa.1 he;rfl
theorem WS:∀{a:List GAward}{w:GAward},(∀x∈a,x.Month≠w.Month)->Is (.int .i64 w.Month) nN (YU a)=YU (a++[w])
 |[],w,_=>rfl
 |x::a,w,h=>by
  simp only[YU,vaa,Gaa,Is];rw[if_neg (by simp only[Bp,beq_iff_eq];exact λe=>h x (by simp) e.symm)];congr 1;exact WS λy hy=>h y (by simp[hy])
theorem sy(hn:(a.map λw=>w.Month).Nodup) (h:i<j) (hj:j<a.length):a[i].Month≠a[j].Month:=by
 have:=List.pairwise_iff_getElem.1 hn i j (by simp;omega) (by simp;omega) h;simpa using this
def N7(B:List Ent) (dl:D) (a:List GAward) (k:Nat):St:=⟨Cc a::dl::ds 2 (nN::.mp B.length::ds 14 (Cc a::ca (a.length:Int)::ca (k:Int)::ds 79 [])),B++[.mp (YU (a.take k))]⟩
theorem Ty{es:List (Value×D)}(h:∀e∈es,Tm.below j e.2=true):Ent.below j (.mp es)=true:=by
 simp only[Ent.below,Xaa];exact h
theorem O7(hB:(B=[]/\dl=Aa l)\/(B=[.live 4 0 (l.map Ha)]/\dl=.own 0 0)):Fit B.length (N7 B dl a k):=by
 rcases hB with⟨rfl,rfl⟩|⟨rfl,rfl⟩
 all_goals
  refine⟨by simp[N7],?_,?_⟩
  .simp[N7,belows,Tm.below,Ij,Sk,cc,Fr.h,nN]
  .simp only[N7,cad,Kab,yad,sac,Bool.and_eq_true];refine⟨?_,Ty λe he=>?_⟩
   .first|rfl|simp[Ent.below,Cb _ _ (Fr.l (e:=Ha) l)]
   .obtain⟨w,-,rfl⟩:=Paa.1 he;rfl
theorem nw.setE{n:Nat}{e e':Ent}(h:WD n e e'):∀{m:List Ent}{id:Nat},m[id]?=some e->nw n m (m.set id e')
 |[],id,h1=>by simp at h1
 |x::m,0,h1=>by
  simp at h1;subst h1;exact nw.cons h (nw.refl n m)
 |x::m,id+1,h1=>nw.cons (WD.refl n x) (nw.setE h (by simpa using h1))
theorem Iq.mid{n:Nat}{q:List D}:∀{p:List D},Iq n (p++nN::q) (p++.own n 0::q)
 |[]=>Iq.cons (Ad.nil n) (Iq.refl n q)
 |d::p=>Iq.cons (Ad.refl n d) Iq.mid
def kZ(N:Nat) (a:List GAward) (x:Nat):List (Value×D):=tA N 0 (a.take x) (oaa x (0,[]))++YU (a.drop x)
theorem uM{N:Nat}{w:GAward}{q:Nat×List GPosting}:∀{a:List GAward}{L:BL}{k:Nat},a.length=L.length->tA N k (a++[w]) (L++[q])=tA N k a L++[(.int .i64 w.Month,.own (k+a.length+1+N) q.1)]
 |[],[],k,_=>by simp[tA]
 |x::a,p::L,k,h=>by
  simp only[Gaa,tA,uM (a:=a) (L:=L) (by simpa using h),qaa];rw[show k+1+a.length+1+N=k+(a.length+1)+1+N by omega]
 |[],_::_,_,h=>by simp at h
 |_::_,[],_,h=>by simp at h
theorem MR:(FH L).length=L.length:=by simp[FH]
theorem adoptB{N:Nat}{c:C}{K:Exit->St->Prop}{t:List D}(l:List GPosting) (h:T Tryz.prog N c K ⟨t,B++.mp (tA B.length 0 a (ZB a l 0))::FH (ZB a l 0)⟩):T Tryz.prog N c K ⟨t,B++[.mp (YU a)]⟩:=by
 have hg:ZB a l 0=oaa a.length (0,[]):=by
  unfold ZB gB;exact List.eq_replicate_iff.2 ⟨by simp,by simp⟩
 rw[hg]at h;have key:∀x,x<=a.length->T Tryz.prog N c K ⟨t,B++.mp (kZ B.length a x)::FH (oaa x (0,[]))⟩->T Tryz.prog N c K ⟨t,B++[.mp (YU a)]⟩:=by
  intro x
  induction x with
  |zero=>intro _ h;simpa [kZ,tA,FH] using h
  |succ x ih=>
   intro hx h;refine ih (by omega) ?_;have hd:a.drop x=a[x]::a.drop (x+1):=by simp
   have hlen:(B++.mp (kZ B.length a x)::FH (oaa x (0,[]))).length=x+1+B.length:=by simp[FH];omega
   have ht:tA B.length 0 (a.take (x+1)) (oaa (x+1) (0,[]))=tA B.length 0 (a.take x) (oaa x (0,[]))++[(.int .i64 a[x].Month,.own (x+1+B.length) 0)]:=by
    rw[Raa,naa hx,cac];have hl:(a.take x).length=x:=by rw[iab];omega
    have:=uM (N:=B.length) (w:=a[x]) (q:=(0,[])) (a:=a.take x) (L:=oaa x (0,[])) (k:=0) (by simp;omega);rw[hl]at this;simpa using this
   refine T.QX 4 (Iq.refl _ _) (m':=(B++.mp (kZ B.length a x)::FH (oaa x (0,[]))).set B.length (.mp (kZ B.length a (x+1)))) (nw.setE (e:=.mp (kZ B.length a x)) ?_ (by simp)) ?_
   .rw[hlen];simp only[WD];unfold kZ;rw[ht,hd];simp only[YU,uab,vaa,gab,Oaa,Gaa,Qaa];exact⟨trivial,Iq.mid⟩
   .have e:(B++.mp (kZ B.length a x)::FH (oaa x (0,[]))).set B.length (.mp (kZ B.length a (x+1)))++[.live 4 0 []]=B++.mp (kZ B.length a (x+1))::FH (oaa (x+1) (0,[])):=by
     rw[cac];simp[FH,Kac]
    rw[e];exact h
 refine key a.length (Nat.le_refl _) ?_;unfold kZ;simpa [YU] using h
theorem D0{N:Nat}:∀{a:List GAward}{L:BL}{k j:Nat}(hn:(a.map λw=>w.Month).Nodup) (hj:j<a.length) (hL:j<L.length),so (.int .i64 a[j].Month) (tA N k a L)=some (.own (k+j+1+N) L[j].1)
 |w::a,p::L,k,0,_,_,_=>by simp[tA,so,Bp]
 |w::a,p::L,k,j+1,hn,hj,hL=>by
  simp only[vaa,vab]at hn;simp only[qaa,Xad]at hj hL;simp only[fae,tA,so];rw[if_neg (by simp only[Bp,beq_iff_eq];exact λe=>hn.1 (Paa.2 ⟨a[j],taa hj,e⟩)),D0 hn.2 hj hL,show k+1+j+1+N=k+(j+1)+1+N by omega]
theorem qG{N:Nat}{q:Int}:∀{a:List GAward}{L:BL}{k:Nat},(∀w∈a,w.Month≠q)->so (.int .i64 q) (tA N k a L)=none
 |[],L,k,_=>by cases L<;>rfl
 |w::a,[],k,_=>rfl
 |w::a,p::L,k,h=>by
  simp only[tA,so];rw[if_neg (by simp only[Bp,beq_iff_eq];exact λe=>h w (by simp) e.symm),qG λx hx=>h x (by simp[hx])]
theorem putB{N:Nat}{v:Nat}{g:List GPosting}:∀{a:List GAward}{L:BL}{k j:Nat}(hn:(a.map λw=>w.Month).Nodup) (hj:j<a.length) (hL:j<L.length),Is (.int .i64 a[j].Month) (.own (k+j+1+N) v) (tA N k a L)=tA N k a (L.set j (v,g))
 |w::a,p::L,k,0,_,_,_=>by simp[tA,Is,Bp]
 |w::a,p::L,k,j+1,hn,hj,hL=>by
  simp only[vaa,vab]at hn;simp only[qaa,Xad]at hj hL;simp only[fae,tA,Is,List.set_cons_succ];rw[if_neg (by simp only[Bp,beq_iff_eq];exact λe=>hn.1 (Paa.2 ⟨a[j],taa hj,e⟩)),show k+(j+1)+1+N=k+1+j+1+N by omega,putB hn.2 hj hL]
theorem aS(hi:i<l.length) (w:GAward):gB l (i+1) w=if l[i].Month=w.Month then gB l i w++[l[i]]else gB l i w:=by
 unfold gB;rw[Raa,naa hi,Pab,List.filter_append,List.filter_cons];by_cases h:l[i].Month=w.Month<;>simp[h]
theorem HZ(hi:i<l.length) (h:∀w∈a,w.Month≠l[i].Month):ZB a l (i+1)=ZB a l i:=
 List.map_congr_left λw hw=>by rw[aS hi,if_neg λe=>h w hw e.symm]
theorem V9(hi:i<l.length) (hn:(a.map λw=>w.Month).Nodup) (hj:j<a.length) (h:a[j].Month=l[i].Month):ZB a l (i+1)=(ZB a l i).set j ((gB l i a[j]).length+1,gB l i a[j]++[l[i]]):=by
 apply List.ext_getElem
 .simp[ZB]
 .intro x h1 h2;simp only[ZB,Waa]at h1;rw[List.getElem_set];simp only[ZB,List.getElem_map,aS hi];by_cases hx:j=x
  .subst hx;rw[if_pos h.symm,if_pos rfl,List.length_append];rfl
  .have:l[i].Month≠a[x].Month:=by
    rw[←h];rcases Nat.lt_or_gt_of_ne hx with h3|h3
    .exact sy hn h3 h1
    .exact λe=>sy hn h3 hj e.symm
   rw[if_neg this,if_neg hx]
theorem SP:(gB l i w).length<=l.length:=by
 unfold gB;exact Nat.le_trans (List.length_filter_le _ _) (by rw[iab];omega)
def YW(B:List Ent) (dl:D) (a:List GAward) (l:List GPosting) (k:Nat):St:=⟨Cc a::ds 3 (nN::.mp B.length::ds 24 (dl::ca (l.length:Int)::ca (k:Int)::ds 69 [])),B++.mp (tA B.length 0 a (ZB a l k))::FH (ZB a l k)⟩
theorem LJ{N:Nat}:∀{a:List GAward}{L:BL}{k:Nat},((tA N k a L).all λe=>isKey 0 e.1)=true
 |[],L,k=>by cases L<;>rfl
 |w::a,[],k=>rfl
 |w::a,p::L,k=>by
  simp only[tA,Kab,LJ,sac];rfl
theorem zC{N:Nat}:∀{a:List GAward}{L:BL}{k j:Nat},k+L.length+1+N<=j->∀e∈tA N k a L,Tm.below j e.2=true
 |[],L,k,j,_,e,he=>by cases L<;>simp[tA]at he
 |w::a,[],k,j,_,e,he=>by simp[tA]at he
 |w::a,p::L,k,j,h,e,he=>by
  simp only[qaa]at h;simp only[tA,List.mem_cons]at he;rcases he with rfl|he
  .simp only[Tm.below,decide_eq_true_eq];omega
  .exact zC (by omega) e he
theorem QI:(FH L).all (Ent.below j)=true:=by
 rw[Xaa];intro e he;obtain⟨p,-,rfl⟩:=Paa.1 he;exact Cb _ _ (Fr.l _)
theorem fQ:∀{a b:Nat},a≠b->lN a b=true
 |0,0,h=>(h rfl).elim
 |0,_+1,_=>rfl
 |_+1,0,_=>rfl
 |a+1,b+1,h=>fQ (a:=a) (b:=b) λe=>h (by rw[e])
theorem Cy{α:Type}{l:List α}{x y:α}:(l++[x]).set l.length y=l++[y]:=by simp
theorem Q7(hB:(B=[]/\dl=Aa l)\/(B=[.live 4 0 (l.map Ha)]/\dl=.own 0 0)):Fit B.length (YW B dl a l k):=by
 have hj:0+(ZB a l k).length+1+B.length<=(YW B dl a l k).m.length:=by simp[YW,FH];omega
 refine⟨by simp[YW],?_,?_⟩
 .rcases hB with⟨rfl,rfl⟩|⟨rfl,rfl⟩<;>simp[YW,belows,Tm.below,Ij,Sk,cc,Fr.h,nN]
 .show(B++_::_).all _=true;rw[cad,Kab,Ty (zC hj),QI];rcases hB with⟨rfl,rfl⟩|⟨rfl,rfl⟩
  .rfl
  .simp[Ent.below,Cb _ _ (Fr.l (e:=Ha) l)]
noncomputable def knB(a:List GAward) (l:List GPosting) (k:Nat):List (Value×D):=(a.take k).map λw=>(.int .i64 w.Month,eb ⟨w.Month,0,(Pg l w).Received,(Pg l w).Waived⟩)
theorem SZ{q:Int}(hn:(a.map λw=>w.Month).Nodup) (hi:i<a.length) (hq:q=a[i].Month):so (.int .i64 q) (knB a l i)=none:=by
 have key:∀(b:List GAward) (f:GAward->D),(∀w∈b,w.Month≠q)->so (.int .i64 q) (b.map λw=>(.int .i64 w.Month,f w))=none:=by
  intro b f
  induction b with
  |nil=>intro _;rfl
  |cons w b ih=>
   intro h;simp only[vaa,so];rw[if_neg (by simp only[Bp,beq_iff_eq];exact λe=>h w (by simp) e.symm),ih λx hx=>h x (by simp[hx])]
 refine key _ _ λw hw e=>?_;obtain⟨j,hj,rfl⟩:=waa hw;rw[iab]at hj;rw[had,hq]at e;exact sy hn (show j<i by omega) hi e
theorem knB_put{d:D}(hn:(a.map λw=>w.Month).Nodup) (hi:i<a.length) (hw:w=a[i]) (hd:d=eb ⟨w.Month,0,(Pg l w).Received,(Pg l w).Waived⟩):Is (.int .i64 w.Month) d (knB a l i)=knB a l (i+1):=by
 have key:∀(b:List GAward) (f:GAward->D),(∀x∈b,x.Month≠w.Month)->Is (.int .i64 w.Month) d (b.map λw=>(.int .i64 w.Month,f w))=(b.map λw=>(.int .i64 w.Month,f w))++[(.int .i64 w.Month,d)]:=by
  intro b f
  induction b with
  |nil=>intro _;rfl
  |cons x b ih=>
   intro h;simp only[vaa,Is,Gaa];rw[if_neg (by simp only[Bp,beq_iff_eq];exact λe=>h x (by simp) e.symm),ih λy hy=>h y (by simp[hy])]
 unfold knB;rw[key _ _ λx hx e=>?_,Raa,naa hi,hd,hw]
 .simp only[Pab,uab,vaa,gab]
 .obtain⟨j,hj,rfl⟩:=waa hx;rw[iab]at hj;rw[had,hw]at e;exact sy hn (show j<i by omega) hi e
noncomputable def VT(B:List Ent) (a:List GAward) (l:List GPosting) (E:List (Value×D)) (F:List Ent) (k:Nat):St:=⟨ds 5 (.mp B.length::ds 6 (.mp (F.length+1+B.length)::.own (F.length+1+1+B.length) k::ds 39 (Cc a::ca (a.length:Int)::ca (k:Int)::ds 46 []))),B++.mp E::(F++[.mp (knB a l k),.live 4 k (((a.take k).map (Pg l)).map eb)])⟩
theorem R7{E:List (Value×D)}{F:List Ent}{G:BL}(hB:(B=[]/\dl=Aa l)\/(B=[.live 4 0 (l.map Ha)]/\dl=.own 0 0)) (hE:E=tA B.length 0 a G) (hF:F=FH G):Fit B.length (VT B a l E F k):=by
 obtain⟨M,hM⟩:∃M,M=(VT B a l E F k).m.length:=⟨_,rfl⟩;have hj:0+G.length+1+B.length<=M:=by rw[hM];simp[VT,hF,FH];omega
 have hk:F.length+3+B.length=M:=by rw[hM];simp[VT];omega
 refine⟨by simp[VT],?_,?_⟩
 .rw[←hM];simp[VT,belows,Tm.below,Ij,Sk,cc,Fr.h,nN];omega
 .rw[←hM];show(B++_::_).all _=true;rw[cad,Kab,cad,hE,Ty (zC hj),hF,QI];have h1:Ent.below M (.mp (knB a l k))=true:=Ty λe he=>by
   obtain⟨w,-,rfl⟩:=Paa.1 he;exact cc _ _ (Fr.h (e:=eb) _)
  have h2:Ent.below M (.live 4 k (((a.take k).map (Pg l)).map eb))=true:=Cb _ _ (Fr.l _);rcases hB with⟨rfl,rfl⟩|⟨rfl,rfl⟩
  .simp only[yad,Kab,h1,h2,yae]
  .have h3:Ent.below M (.live 4 0 (l.map Ha))=true:=Cb _ _ (Fr.l _);simp only[yad,Kab,h1,h2,h3,yae]
theorem bal_T(hB:(B=[]/\dl=Aa l)\/(B=[.live 4 0 (l.map Ha)]/\dl=.own 0 0)) (ha:a.length<=1048576) (hl:l.length<=1048576) (hn:(a.map λw=>w.Month).Nodup) :
 T Tryz.prog B.length k55.F.code (EI B.length k55.F.results ⟨[Ya (a.map (Pg l))],B⟩) ⟨[Cc a,dl]++Tm.ds 100 [],B⟩:=by
 simp only[k55,Kf.of,zs,ze];refine ss (rg ?_);simp only[zz];refine ss (rg ?_);simp only[zz];refine ss (ss (rg ?_));simp only[zz];refine T.lU a.length (N7 B dl a) ?_ (λi _=>?_) (λi hi=>?_) uu ?_
 .simp only[N7,xad,YU,gab];exact At.same _ _ _ (by repeat (first|exact la.pb _|refine la.cons (Sub.refl _) ?_|refine la.cons (Sub.Ia _) ?_))
 .exact O7 hB
 .obtain⟨E,hE⟩:∃E,E=YU (a.take i):=⟨_,rfl⟩;have hall:(E.all λe=>isKey 0 e.1)=true:=by rw[hE];exact V7
  rcases hB with⟨rfl,rfl⟩|⟨rfl,rfl⟩
  all_goals
   simp only[N7,zz,←hE];refine ss (rg ?_);simp only[zz];refine ss (cd rfl ?_);simp only[zz];refine gP.mk (λhc=>?_) (λhc=>?_)
   .have hi:i<a.length:=by omega
    obtain⟨w,hw⟩:∃w,w=a[i]:=⟨_,rfl⟩;have g2:a[i]?=some w:=by rw[hw];exact naa hi
    refine sk ?_;simp only[zz];refine ss (bk (ss (rg ?_)));simp only[zz,g2,hi];refine rg ?_;simp only[zz,hall];refine rg ?_;have hw1:aa .i64 ((i:Int)+1)=((i+1:Nat):Int):=va (by omega);have hput:Is (.int .i64 w.Month) (.v (.slice none 0 0)) E=YU (a.take (i+1)):=by
     rw[hE,Raa,g2];refine WS λx hx he=>?_;obtain⟨j,hj,rfl⟩:=waa hx;rw[iab]at hj;rw[had,hw]at he;exact sy hn (show j<i by omega) hi he
    simp only[zz,Pj,hw1,hput];refine⟨hi,?_⟩
    first
     |exact At.cut 1 (by repeat (first|exact la.pb _|refine la.cons (Sub.refl _) ?_|refine la.cons (Sub.Ia _) ?_)) rfl
     |exact At.cut 2 (by repeat (first|exact la.pb _|refine la.cons (Sub.refl _) ?_|refine la.cons (Sub.Ia _) ?_)) rfl
   .refine xt ?_;simp only[zz,pw];have hi:i=a.length:=by omega
    subst hi;refine⟨rfl,?_⟩;simp only[N7,←hE];exact At.same _ _ _ (by repeat (first|exact la.pb _|refine la.cons (Sub.refl _) ?_|refine la.cons (Sub.Ia _) ?_))
 .simp only[zz];rw[N7,aab];refine adoptB l ?_;refine ss (ss (rg ?_));have hlen:∀m',Fc (B++m') dl=some l.length:=by
   intro m';rcases hB with⟨rfl,rfl⟩|⟨rfl,rfl⟩<;>simp[Fc,Aa]
  simp only[zz,hlen];refine T.lU l.length (YW B dl a l) ?_ (λi _=>Q7 hB) (λi hi=>?_) uu ?_
  .simp only[YW];exact At.same _ _ _ (by repeat (first|exact la.pb _|refine la.cons (Sub.refl _) ?_|refine la.cons (Sub.Ia _) ?_))
  .simp only[YW];obtain⟨E,hE⟩:∃E,E=tA B.length 0 a (ZB a l i):=⟨_,rfl⟩;obtain⟨F,hF⟩:∃F,F=FH (ZB a l i):=⟨_,rfl⟩;have hall:(E.all λe=>isKey 0 e.1)=true:=by rw[hE];exact LJ
   have hFl:F.length=a.length:=by rw[hF,MR,ZB,Waa]
   have hgl:(ZB a l i).length=a.length:=by simp[ZB]
   have hlk:∀j (h:j<a.length),so (.int .i64 a[j].Month) E=some (.own (j+1+B.length) (gB l i a[j]).length):=λj h=>by
    rw[hE,D0 hn h (by omega),Jab];simp[ZB]
   have hput:∀j (h:j<a.length) v g,Is (.int .i64 a[j].Month) (.own (j+1+B.length) v) E=tA B.length 0 a ((ZB a l i).set j (v,g)):=λj h v g=>by
    rw[hE,←putB (v:=v) (g:=g) hn h (by omega),Jab]
   have hno:∀q,(∀w∈a,w.Month≠q)->so (.int .i64 q) E=none:=λq h=>by rw[hE];exact qG h
   simp only[←hE,←hF];rcases hB with⟨rfl,rfl⟩|⟨rfl,rfl⟩
   all_goals
    simp only[Aaa,qaa,Jab,pac]at hlk hput;simp only[zz];refine ss (rg ?_);simp only[zz];refine ss (cd rfl ?_);simp only[zz];refine gP.mk (λhc=>?_) (λhc=>?_)
    .have hi:i<l.length:=by omega
     obtain⟨p,hp⟩:∃p,p=l[i]:=⟨_,rfl⟩;have g2:l[i]?=some p:=by rw[hp];exact naa hi
     refine sk ?_;simp only[zz];refine ss (bk (ss (rg ?_)));simp only[zz,g2,hi,Uaa,Cy];refine ss (rg ?_);simp only[zz,hall,Uaa,Cy];have hw1:aa .i64 ((i:Int)+1)=((i+1:Nat):Int):=va (by omega);by_cases hj:∃j,∃h:j<a.length,a[j].Month=p.Month
     .obtain⟨j,hj,he⟩:=hj;obtain⟨g,hg⟩:∃g,g=gB l i a[j]:=⟨_,rfl⟩;have hgl:=SP (l:=l) (i:=i) (w:=a[j]);rw[←hg]at hgl;have k1:=hlk j hj;rw[he,←hg]at k1;have k2:∀y,(F++[y])[j]?=some (.live 4 g.length (g.map Ha)):=λy=>by
       rw[mac (by omega),hF];simp[FH,ZB,hj,←hg]
      have k3:∀y e,(F++[y]).set j e=F.set j e++[y]:=λy e=>by rw[Kac,if_pos (by omega)]
      have k5:(g.length+1)*32<=2 ^ 47:=by omega
      have k6:lN F.length j=true:=fQ (by omega);have k7:lN F.length (F.length+1)=true:=fQ (by omega);have k8:∀x y,(F++[x]++[y])[j]?=some (.live 4 g.length (g.map Ha)):=λx y=>by
       rw[mac (by simp;omega),k2]
      have k9:∀x y,(F++[x]++[y])[F.length+1]?=some y:=λx y=>by
       rw[tab (by simp)];simp
      have k10:∀x y e,(F++[x]++[y]).set j e=F.set j e++[x]++[y]:=λx y e=>by rw[Kac,if_pos (by simp;omega),k3]
      simp only[zz,k1,mB];refine ss (rg ?_);simp only[zz];refine cd rfl ?_;simp only[zz];refine ay Hw [[],[],[],[],[],[],[2]] (by kernel_rfl) ?_;simp only[zz,zy,hall,k1,k2,k3,k5,k6,k7,k8,k9,k10,Uaa,Cy];refine rg ?_;have k11:=hput j hj (g.length+1) (g++[p]);rw[he]at k11;have k12:FH ((ZB a l i).set j (g.length+1,g++[p]))=F.set j (.live 4 (g.length+1) (g.map Ha++[Ha p])):=by
       rw[hF];simp[FH,List.map_set]
      simp only[zz]at k12;have k13:=V9 hi hn hj (he.trans (by rw[hp]));rw[←hg,←hp]at k13;simp only[zz,Pj,hw1,k11];refine⟨hi,?_⟩;rw[YW,k13,k12,Oaa]
      first
       |exact At.mk _ _ (_::_) _ (by repeat (first|exact la.pb _|refine la.cons (Sub.refl _) ?_|refine la.cons (Sub.Ia _) ?_))
       |exact At.mk _ _ (_::_::_) _ (by repeat (first|exact la.pb _|refine la.cons (Sub.refl _) ?_|refine la.cons (Sub.Ia _) ?_))
     .have hno1:∀w∈a,w.Month≠p.Month:=λw hw e=>by
       obtain⟨j,hj1,rfl⟩:=waa hw;exact hj ⟨j,hj1,e⟩
      have k1:=hno _ hno1;simp only[zz,k1,mB];refine ss (rg ?_);simp only[zz];refine cd rfl ?_;simp only[zz];refine sk ?_;simp only[zz];refine rg ?_;simp only[zz,Pj,hw1];refine⟨hi,?_⟩;rw[YW,HZ hi (by rw[←hp];exact hno1),←hE,←hF]
      first
       |exact At.mk _ _ (.mp E::F) _ (by repeat (first|exact la.pb _|refine la.cons (Sub.refl _) ?_|refine la.cons (Sub.Ia _) ?_))
       |exact At.mk _ _ (_::.mp E::F) _ (by repeat (first|exact la.pb _|refine la.cons (Sub.refl _) ?_|refine la.cons (Sub.Ia _) ?_))
    .refine xt ?_;simp only[zz,pw];have hi:i=l.length:=by omega
     subst hi;refine⟨rfl,?_⟩;simp only[YW,←hE,←hF];exact At.same _ _ _ (by repeat (first|exact la.pb _|refine la.cons (Sub.refl _) ?_|refine la.cons (Sub.Ia _) ?_))
  .simp only[zz];rw[YW];obtain⟨G,hG⟩:∃G,G=ZB a l l.length:=⟨_,rfl⟩;obtain⟨E,hE⟩:∃E,E=tA B.length 0 a G:=⟨_,rfl⟩;obtain⟨F,hF⟩:∃F,F=FH G:=⟨_,rfl⟩;rw[←hG,←hE,←hF];refine ss (rg ?_);simp only[zz];refine ss (rg ?_);simp only[zz];refine ss (ss (rg ?_));simp only[zz];refine T.Hx 13 4 rfl ?_;simp only[zz];refine T.lU a.length (VT B a l E F) ?_ (λi _=>R7 hB hE hF) (λi hi=>?_) uu ?_
   .simp only[VT,knB,xad,gab,Oaa,Gaa,Qaa];rw[show B.length+(F.length+1)=F.length+1+B.length by omega,show F.length+1+B.length+1=F.length+1+1+B.length by omega];exact At.same _ _ _ (by repeat (first|exact la.pb _|refine la.cons (Sub.refl _) ?_|refine la.cons (Sub.Ia _) ?_))
   .simp only[VT];have gF:∀(t:List Ent) k,(F++t)[F.length+k]?=t[k]?:=λt k=>by rw[tab (by omega)];simp
    have gF0:∀(t:List Ent),(F++t)[F.length]?=t[0]?:=λt=>by rw[tab (by omega)];simp
    have sF:∀(t:List Ent) k e,(F++t).set (F.length+k) e=F++t.set k e:=λt k e=>by rw[Kac,if_neg (by omega)];simp
    have sF0:∀(t:List Ent) e,(F++t).set F.length e=F++t.set 0 e:=λt e=>by rw[Kac,if_neg (by omega)];simp
    have hFl:F.length=a.length:=by rw[hF,MR,hG,ZB,Waa]
    have hlk:∀j (h:j<a.length),so (.int .i64 a[j].Month) E=some (.own (j+1+B.length) (gB l l.length a[j]).length):=λj h=>by
     rw[hE,hG,D0 hn h (by simpa [ZB] using h),Jab];simp[ZB]
    have hall:(E.all λe=>isKey 0 e.1)=true:=by rw[hE];exact LJ
    obtain⟨Q,hQ⟩:∃Q,Q=knB a l i:=⟨_,rfl⟩;have hallQ:(Q.all λe=>isKey 0 e.1)=true:=by
     rw[hQ,Xaa];intro e he;obtain⟨w,-,rfl⟩:=Paa.1 he;rfl
    obtain⟨R,hR⟩:∃R,R=(a.take i).map (Pg l):=⟨_,rfl⟩;simp only[←hQ,←hR];rcases hB with⟨rfl,rfl⟩|⟨rfl,rfl⟩
    all_goals
     simp only[Aaa,qaa,Jab,pac]at hlk;simp only[zz];refine ss (rg ?_);simp only[zz];refine ss (cd rfl ?_);simp only[zz];refine gP.mk (λhc=>?_) (λhc=>?_)
     .have hi:i<a.length:=by omega
      obtain⟨w,hw⟩:∃w,w=a[i]:=⟨_,rfl⟩;have g2:a[i]?=some w:=by rw[hw];exact naa hi
      have hw1:aa .i64 ((i:Int)+1)=((i+1:Nat):Int):=va (by omega);refine sk ?_;simp only[zz];refine ss (bk (ss (rg ?_)));simp only[zz,g2,hi,Oaa,gF,sF,gF0,sF0];refine ss (rg ?_);have hkQ:so (.int .i64 w.Month) Q=none:=by rw[hQ];exact SZ hn hi (by rw[hw])
      simp only[zz,hallQ,Oaa,gF,sF,gF0,sF0,hkQ,mB]
      first|refine ss (rg ?_)|refine ss (ss (rg ?_))|refine ss (ss (ss (rg ?_)))
      simp only[zz]
      first|refine ss (cd rfl ?_)|refine cd rfl ?_
      simp only[zz];obtain⟨g,hg⟩:∃g,g=gB l l.length w:=⟨_,rfl⟩;have k1:=hlk i hi;rw[←hw,←hg]at k1
      first|refine ss (rg ?_)|refine ss (ss (rg ?_))|refine ss (ss (ss (rg ?_)))
      simp only[zz,hall,k1,Oaa,gF,sF,gF0,sF0,mB];refine ss (dy Hw ?_);simp only[zz,zy,Oaa,gF,sF,gF0,sF0];have c1:fb g w.Month=some (oE w.Month g [1,2,3]):=by
       unfold fb;rw[if_pos (by have:=SP (l:=l) (i:=l.length) (w:=w);rw[hg];omega)]
      have c2:xh g w.Month=some (ZQ w.Month g):=by
       unfold xh;rw[if_pos (by have:=SP (l:=l) (i:=l.length) (w:=w);rw[hg];omega)];rfl
      have kF:∀t:List Ent,(F++t)[i]?=some (.live 4 g.length (g.map Ha)):=λt=>by
       rw[mac (by omega),hF,hG];simp[FH,ZB,hi,←hw,←hg]
      refine lv (eu c1) ?_ rfl (by simp;omega) (by simp[Kz,Ud]) (by simp only[zg,zy,kF]);simp only[zz,zy,Oaa,gF,sF,gF0,sF0];refine lv (Yv c2) ?_ rfl (by simp;omega) (by simp[Kz,Ud]) (by simp only[zg,zy,kF]);simp only[zz,zy,Oaa,gF,sF,gF0,sF0];have hputQ:Is (.int .i64 w.Month) (.agg [.v (.int .i64 w.Month),.v (.int .i64 0),.v (.int .i64 (oE w.Month g [1,2,3])),.v (.int .i64 (ZQ w.Month g))]) Q=knB a l (i+1):=by
       rw[hQ];refine(knB_put hn hi hw ?_).trans rfl;simp only[Pg,hg,gB,aab];rfl
      first|refine rg ?_|refine ss (rg ?_)|refine ss (ss (rg ?_))
      simp only[zz,hallQ,hputQ,Oaa,gF,sF,gF0,sF0]
      first|refine rg ?_|refine ss (rg ?_)|refine ss (ss (rg ?_))
      simp only[zz,Oaa,gF,sF,gF0,sF0]
      first|refine rg ?_|refine ss (rg ?_)|refine ss (ss (rg ?_))
      simp only[zz,Oaa,gF,sF,gF0,sF0];have hR1:R.length=i:=by rw[hR,Waa,iab];omega
      have k5:(R.length+1)*32<=2 ^ 47:=by omega
      have hd:∀x,x=(Pg l w).Due->R.map eb++[.agg [.v (.int .i64 w.Month),.v (.int .i64 x),.v (.int .i64 (oE w.Month g [1,2,3])),.v (.int .i64 (ZQ w.Month g))]]=((a.take (i+1)).map (Pg l)).map eb:=λx hx=>by
       rw[hR,Raa,g2,hx];simp only[Pab,uab,vaa,gab,Pg,hg,gB,aab];rfl
      first|refine ss (cd rfl ?_)|refine cd rfl ?_
      refine gP.mk (λhx=>?_) (λhx=>?_)
      .first|refine rg ?_|refine ss (rg ?_)
       simp only[zz,Oaa,gF,sF,gF0,sF0]
       first|refine ss (rg ?_)|refine rg ?_
       simp only[zz,k5,Oaa,gF,sF,gF0,sF0];refine rg ?_;have hd:=hd (oE w.Month g [1,2,3]) (by
        simp only[Pg];rw[if_neg (by simpa using hx),hg,gB,aab])
       simp only[zz,Pj,hw1,hd];refine⟨hi,?_⟩;simp only[VT];refine⟨by repeat (first|exact la.pb _|refine la.cons (Sub.refl _) ?_|refine la.cons (Sub.Ia _) ?_),[?_,?_,?_],?_⟩
       rotate_left 3
       simp only[Qaa,Gaa,Oaa];rfl
      .refine sk ?_;simp only[zz,Oaa,gF,sF,gF0,sF0]
       first|refine ss (rg ?_)|refine rg ?_
       simp only[zz,k5,Oaa,gF,sF,gF0,sF0];refine rg ?_;have hd:=hd w.Cents (by
        simp only[Pg];rw[if_pos (by simpa using hx)])
       simp only[zz,Pj,hw1,hd];refine⟨hi,?_⟩;simp only[VT];refine⟨by repeat (first|exact la.pb _|refine la.cons (Sub.refl _) ?_|refine la.cons (Sub.Ia _) ?_),[?_,?_,?_],?_⟩
       rotate_left 3
       simp only[Qaa,Gaa,Oaa];rfl
     .refine xt ?_;simp only[zz,pw];have hi:i=a.length:=by omega
      subst hi;refine⟨rfl,?_⟩;simp only[VT,←hQ,←hR];exact At.same _ _ _ (by repeat (first|exact la.pb _|refine la.cons (Sub.refl _) ?_|refine la.cons (Sub.Ia _) ?_))
   .simp only[zz];rw[VT,aab];have gF:∀(t:List Ent) k,(F++t)[F.length+k]?=t[k]?:=λt k=>by rw[tab (by omega)];simp
    rcases hB with⟨rfl,rfl⟩|⟨rfl,rfl⟩
    all_goals
     simp only[zz];refine ss (rg ?_);simp only[zz];refine T.ret (XE ?_);simp only[zz,zr,Qt];have hb:lr [(some 0,0,0)] (F.length+1+1+1)=true:=by simp[lr]
     first
      |exact Tells.q [] rfl (by decide) (by simp only[zg,gF,lr,yad,Rab,Yaa])
      |exact Tells.q [(some 0,0,0)] rfl (by decide) (by simp only[zg,gF,hb,Rab,Yaa])
theorem QJ{t0 t1 r}(h:Qm t0 t1=some r):Zo Tryz.prog 55 [Cc t0,.own 0 0] [(4,t1.map Ha)] (Ya r):=by
 unfold Qm at h;split at h
 .rename_i hc;obtain rfl:=Iaa h;exact Zo.of 100 k55 (bal_T (.inr ⟨rfl,rfl⟩) hc.1 hc.2.1 hc.2.2) (by simp[Fr.l])
 .cases h
instance zI55{t0 t1 r}:Con2 (Qm t0 t1=some r) (Zo Tryz.prog 55 [Cc t0,.own 0 0] [(4,t1.map Ha)] (Ya r)):=⟨QJ⟩
theorem PH{t0 t1 r}(h:Qm t0 t1=some r):Den Tryz.prog 55 [Cc t0,Aa t1] (Ya r):=by
 unfold Qm at h;split at h
 .rename_i hc;obtain rfl:=Iaa h;exact rF FrL.h ((DA k55 (ds:=[Cc t0,Aa t1]) (m:=[]) 100 rfl (bal_T (.inl ⟨rfl,rfl⟩) hc.1 hc.2.1 hc.2.2)).mono λd m' h=>by
   obtain⟨rfl,rfl⟩:=h;exact .same (Fr.h (e:=Ya) _) .nil)
 .cases h
instance zI55b{t0 t1 r}:Con (Qm t0 t1=some r) (Den Tryz.prog 55 [Cc t0,Aa t1] (Ya r)):=⟨PH⟩
end Go.Proofs.Dev
