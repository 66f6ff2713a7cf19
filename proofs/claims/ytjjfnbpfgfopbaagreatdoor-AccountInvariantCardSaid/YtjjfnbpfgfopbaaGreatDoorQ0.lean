/-
  Contracts of the functions: each answers as its plain partial function says.
-/
import Derived.Test.YtjjfnbpfgfopbaaGreatDoorK
import Derived.Test.YtjjfnbpfgfopbaaGreatDoorG
import Derived.Test.YtjjfnbpfgfopbaaGreatDoorPE
import Derived.Test.YtjjfnbpfgfopbaaGreatDoorH1
import Derived.Test.YtjjfnbpfgfopbaaGreatDoorH2
import Derived.Test.YtjjfnbpfgfopbaaGreatDoorL1
open Bool renaming and_self->Naa,and_true->Jaa
open List renaming all_append->Qac,all_cons->Gab,all_eq_true->Yaa,all_nil->oad,append_assoc->Saa,cons_append->Iaa,getElem?_append_left->eac,getElem?_append_right->wab,getElem?_concat_length->Waa,getElem?_cons_succ->Dab,getElem?_cons_zero->Zaa,getElem?_eq_getElem->qaa,getElem_cons_succ->Uad,getElem_mem->xaa,getElem_of_mem->Aaa,getElem_take->Vac,length_cons->uaa,length_map->lab,length_nil->Faa,length_take->vab,map_append->Zab,map_cons->Gaa,map_nil->xab,mem_map->fab,nil_append->Vaa,nodup_cons->Iab,replicate->raa,replicate_succ'->Uab,set_append->Fac,take_add_one->Uaa,take_length->yab,take_zero->nad
open Nat renaming add_lt_add_iff_right->Oad,add_zero->iac,zero_add->Fab
open Option renaming toList_some->Kab
open Option.some renaming inj->Raa
set_option linter.all false
set_option maxHeartbeats 1000000
set_option maxRecDepth 10000
namespace Go.Proofs.Dev
open Go Go.Tm
instance zI1{t0 t1 r}:Con (xl t0 t1=some r) (Den Tryz.prog 16 [Ca t0,Ca t1] (ba r)):=⟨λh=>by
 refine dk 30 k16 ?_
 simp only[k16,Kf.of,zs,ze]
 unfold xl at h
 exact pg @Sj.eq_1 (.b .o (.l 1 0 (λ(s2:Int)=>⟨[.p 4,.k 1,.s (aa s2)],[]⟩) (λ(_:Unit)=>⟨[],[]⟩) [] (.z 1 (.j 1 (λ(j4:Bool)=>⟨[.p 20,.s (ba j4),.p 11],[]⟩) (.b (.t []) (.t [])) (.b (.b .o (.t [])) (.t [])))) .o))⟩
instance zI2{t0 r}:Con (sn t0=some r) (Den Tryz.prog 35 [Da t0] (ba r)):=⟨λh=>by
 refine dk 7 k35 ?_
 simp only[k35,Kf.of,zs,ze]
 unfold sn at h
 exact pg trivial .o⟩
instance zI3{t0 r}:Con (Tg t0=some r) (Den Tryz.prog 113 [aa t0] (ba r)):=⟨λh=>by
 refine dk 8 k113 ?_
 simp only[k113,Kf.of,zs,ze]
 unfold Tg at h
 exact pg trivial (.z 1 (.j 1 (λ(j2:Bool)=>⟨[.k 2,.s (ba j2),.p 6],[]⟩) (.b (.t []) (.t [])) .o))⟩
instance zI4{t0 r}:Con (cmp_isNaN_int t0=some r) (Den Tryz.prog 163 [aa t0] (ba r)):=⟨λh=>by
 refine dk 5 k163 ?_
 simp only[k163,Kf.of,zs,ze]
 unfold cmp_isNaN_int at h
 exact pg trivial .o⟩
theorem Jr{t0 t1 r} (h:Gf t0 t1=some r):Den Tryz.prog 214 [gb t0,Bu t1] (ba r):=by
 refine dk 7 k214 ?_
 simp only[k214,Kf.of,zs,ze]
 unfold Gf at h
 exact pg trivial .o
instance zI5{t0 t1 r}:Con (Gf t0 t1=some r) (Den Tryz.prog 214 [gb t0,Bu t1] (ba r)):=⟨Jr⟩
instance zI6{t0 t1 r}:Con (pq t0 t1=some r) (Den Tryz.prog 259 [aa t0,Oa t1] (.tup [vb r.1,aa r.2])):=⟨λh=>by
 refine dk 32 k259 ?_
 simp only[k259,Kf.of,zs,ze]
 unfold pq at h
 exact pg trivial (.b .o (.z 2 (.j 1 (λ(j4:Bool)=>⟨[.k 4,.p 1,.k 1,.p 1,.k 23,.s (ba j4),.p 3],[.o 1]⟩) (.b (.t [ok 1]) (.t [ok 1])) .o)))⟩
instance zI7{t0 r}:Con (xg t0=some r) (Den Tryz.prog 286 [ba t0] (ra r)):=⟨λh=>by
 refine dk 5 k286 ?_
 simp only[k286,Kf.of,zs,ze]
 unfold xg at h
 exact pg trivial .o⟩
abbrev BL:=List (Nat×List GPosting)
def FK:D:=.v (.slice none 0 0)
def gB(l:List GPosting) (k:Nat) (w:GAward):List GPosting:=(l.take k).filter λp=>p.Month==w.Month
def GA(a:List GAward) (l:List GPosting) (k:Nat):BL:=a.map λw=>((gB l k w).length,gB l k w)
def iz(N:Nat):Nat->List GAward->BL->List (Value×D)
 |k,w::a,p::L=>(.int .i64 w.Month,.own (k+1+N) p.1)::iz N (k+1) a L
 |_,_,_=>[]
def fG(L:BL):List Ent:=L.map λp=>.live 4 p.1 (p.2.map ta)
def LQ(a:List GAward):List (Value×D):=a.map λw=>(.int .i64 w.Month,FK)
theorem cY{a:List GAward}:((LQ a).all λe=>isKey 0 e.1)=true:=by
 rw[Yaa];intro e he;obtain⟨w,-,rfl⟩:=fab.1 he;rfl
theorem iP:∀{a:List GAward}{w:GAward},(∀x∈a,x.Month≠w.Month)->Xq (.int .i64 w.Month) FK (LQ a)=LQ (a++[w])
 |[],w,_=>rfl
 |x::a,w,h=>by
  simp only[LQ,Gaa,Iaa,Xq];rw[if_neg (by simp only[wo,beq_iff_eq];exact λe=>h x (by simp) e.symm)];congr 1;exact iP λy hy=>h y (by simp[hy])
theorem Qw{a:List GAward}(hn:(a.map λw=>w.Month).Nodup) {i j:Nat}(h:i<j) (hj:j<a.length):a[i].Month≠a[j].Month:=by
 have:=List.pairwise_iff_getElem.1 hn i j (by simp;omega) (by simp;omega) h;simpa using this
def UX(B:List Ent) (dl:D) (a:List GAward) (k:Nat):St:=⟨fb a::dl::ds 2 (FK::.mp B.length::ds 14 (fb a::aa (a.length:Int)::aa (k:Int)::ds 79 [])),B++[.mp (LQ (a.take k))]⟩
theorem yx{j:Nat}{es:List (Value×D)}(h:∀e∈es,Tm.below j e.2=true):Ent.below j (.mp es)=true:=by
 simp only[Ent.below,Yaa];exact h
theorem VX{a:List GAward}{l:List GPosting}{B:List Ent}{dl:D}{k:Nat}(hB:(B=[]/\dl=Ca l)\/(B=[.live 4 0 (l.map ta)]/\dl=.own 0 0)):Fit B.length (UX B dl a k):=by
 rcases hB with⟨rfl,rfl⟩|⟨rfl,rfl⟩
 all_goals
  refine⟨by simp[UX],?_,?_⟩
  .simp[UX,belows,Tm.below,mj,uk,kc,Fr.h,FK]
  .simp only[UX,Qac,Gab,oad,Jaa,Bool.and_eq_true];refine⟨?_,yx λe he=>?_⟩
   .first|rfl|simp[Ent.below,Ib _ _ (Fr.l (e:=ta) l)]
   .obtain⟨w,-,rfl⟩:=fab.1 he;rfl
theorem Vu.setE{n:Nat}{e e':Ent}(h:wC n e e'):∀{m:List Ent}{id:Nat},m[id]?=some e->Vu n m (m.set id e')
 |[],id,h1=>by simp at h1
 |x::m,0,h1=>by
  simp at h1;subst h1;exact Vu.cons h (Vu.refl n m)
 |x::m,id+1,h1=>Vu.cons (wC.refl n x) (Vu.setE h (by simpa using h1))
theorem Ip.mid{n:Nat}{q:List D}:∀{p:List D},Ip n (p++FK::q) (p++.own n 0::q)
 |[]=>Ip.cons (Ad.nil n) (Ip.refl n q)
 |d::p=>Ip.cons (Ad.refl n d) Ip.mid
def nU(N:Nat) (a:List GAward) (x:Nat):List (Value×D):=iz N 0 (a.take x) (raa x (0,[]))++LQ (a.drop x)
theorem WJ{N:Nat}{w:GAward}{q:Nat×List GPosting}:∀{a:List GAward}{L:BL}{k:Nat},a.length=L.length->iz N k (a++[w]) (L++[q])=iz N k a L++[(.int .i64 w.Month,.own (k+a.length+1+N) q.1)]
 |[],[],k,_=>by simp[iz]
 |x::a,p::L,k,h=>by
  simp only[Iaa,iz,WJ (a:=a) (L:=L) (by simpa using h),uaa];rw[show k+1+a.length+1+N=k+(a.length+1)+1+N by omega]
 |[],_::_,_,h=>by simp at h
 |_::_,[],_,h=>by simp at h
theorem uO{L:BL}:(fG L).length=L.length:=by simp[fG]
theorem v7{N:Nat}{c:C}{K:Exit->St->Prop}{t:List D}{B:List Ent}{a:List GAward}(l:List GPosting) (h:T Tryz.prog N c K ⟨t,B++.mp (iz B.length 0 a (GA a l 0))::fG (GA a l 0)⟩):T Tryz.prog N c K ⟨t,B++[.mp (LQ a)]⟩:=by
 have hg:GA a l 0=raa a.length (0,[]):=by
  unfold GA gB;exact List.eq_replicate_iff.2 ⟨by simp,by simp⟩
 rw[hg]at h;have key:∀x,x<=a.length->T Tryz.prog N c K ⟨t,B++.mp (nU B.length a x)::fG (raa x (0,[]))⟩->T Tryz.prog N c K ⟨t,B++[.mp (LQ a)]⟩:=by
  intro x
  induction x with
  |zero=>intro _ h;simpa [nU,iz,fG] using h
  |succ x ih=>
   intro hx h;refine ih (by omega) ?_;have hd:a.drop x=a[x]::a.drop (x+1):=by simp
   have hlen:(B++.mp (nU B.length a x)::fG (raa x (0,[]))).length=x+1+B.length:=by simp[fG];omega
   have ht:iz B.length 0 (a.take (x+1)) (raa (x+1) (0,[]))=iz B.length 0 (a.take x) (raa x (0,[]))++[(.int .i64 a[x].Month,.own (x+1+B.length) 0)]:=by
    rw[Uaa,qaa hx,Uab];have hl:(a.take x).length=x:=by rw[vab];omega
    have:=WJ (N:=B.length) (w:=a[x]) (q:=(0,[])) (a:=a.take x) (L:=raa x (0,[])) (k:=0) (by simp;omega);rw[hl]at this;simpa using this
   refine T.OS 4 (Ip.refl _ _) (m':=(B++.mp (nU B.length a x)::fG (raa x (0,[]))).set B.length (.mp (nU B.length a (x+1)))) (Vu.setE (e:=.mp (nU B.length a x)) ?_ (by simp)) ?_
   .rw[hlen];simp only[wC];unfold nU;rw[ht,hd];simp only[LQ,Zab,Gaa,xab,Saa,Iaa,Vaa];exact⟨trivial,Ip.mid⟩
   .have e:(B++.mp (nU B.length a x)::fG (raa x (0,[]))).set B.length (.mp (nU B.length a (x+1)))++[.live 4 0 []]=B++.mp (nU B.length a (x+1))::fG (raa (x+1) (0,[])):=by
     rw[Uab];simp[fG,Fac]
    rw[e];exact h
 refine key a.length (Nat.le_refl _) ?_;unfold nU;simpa [LQ] using h
theorem ZU{N:Nat}:∀{a:List GAward}{L:BL}{k j:Nat}(hn:(a.map λw=>w.Month).Nodup) (hj:j<a.length) (hL:j<L.length),Bn (.int .i64 a[j].Month) (iz N k a L)=some (.own (k+j+1+N) L[j].1)
 |w::a,p::L,k,0,_,_,_=>by simp[iz,Bn,wo]
 |w::a,p::L,k,j+1,hn,hj,hL=>by
  simp only[Gaa,Iab]at hn;simp only[uaa,Oad]at hj hL;simp only[Uad,iz,Bn];rw[if_neg (by simp only[wo,beq_iff_eq];exact λe=>hn.1 (fab.2 ⟨a[j],xaa hj,e⟩)),ZU hn.2 hj hL,show k+1+j+1+N=k+(j+1)+1+N by omega]
theorem FE{N:Nat}{q:Int}:∀{a:List GAward}{L:BL}{k:Nat},(∀w∈a,w.Month≠q)->Bn (.int .i64 q) (iz N k a L)=none
 |[],L,k,_=>by cases L<;>rfl
 |w::a,[],k,_=>rfl
 |w::a,p::L,k,h=>by
  simp only[iz,Bn];rw[if_neg (by simp only[wo,beq_iff_eq];exact λe=>h w (by simp) e.symm),FE λx hx=>h x (by simp[hx])]
theorem putB{N:Nat}{v:Nat}{g:List GPosting}:∀{a:List GAward}{L:BL}{k j:Nat}(hn:(a.map λw=>w.Month).Nodup) (hj:j<a.length) (hL:j<L.length),Xq (.int .i64 a[j].Month) (.own (k+j+1+N) v) (iz N k a L)=iz N k a (L.set j (v,g))
 |w::a,p::L,k,0,_,_,_=>by simp[iz,Xq,wo]
 |w::a,p::L,k,j+1,hn,hj,hL=>by
  simp only[Gaa,Iab]at hn;simp only[uaa,Oad]at hj hL;simp only[Uad,iz,Xq,List.set_cons_succ];rw[if_neg (by simp only[wo,beq_iff_eq];exact λe=>hn.1 (fab.2 ⟨a[j],xaa hj,e⟩)),show k+(j+1)+1+N=k+1+j+1+N by omega,putB hn.2 hj hL]
theorem zO{l:List GPosting}{i:Nat}(hi:i<l.length) (w:GAward):gB l (i+1) w=if l[i].Month=w.Month then gB l i w++[l[i]]else gB l i w:=by
 unfold gB;rw[Uaa,qaa hi,Kab,List.filter_append,List.filter_cons];by_cases h:l[i].Month=w.Month<;>simp[h]
theorem JU{a:List GAward}{l:List GPosting}{i:Nat}(hi:i<l.length) (h:∀w∈a,w.Month≠l[i].Month):GA a l (i+1)=GA a l i:=
 List.map_congr_left λw hw=>by rw[zO hi,if_neg λe=>h w hw e.symm]
theorem mZ{a:List GAward}{l:List GPosting}{i j:Nat}(hi:i<l.length) (hn:(a.map λw=>w.Month).Nodup) (hj:j<a.length) (h:a[j].Month=l[i].Month):GA a l (i+1)=(GA a l i).set j ((gB l i a[j]).length+1,gB l i a[j]++[l[i]]):=by
 apply List.ext_getElem
 .simp[GA]
 .intro x h1 h2;simp only[GA,lab]at h1;rw[List.getElem_set];simp only[GA,List.getElem_map,zO hi];by_cases hx:j=x
  .subst hx;rw[if_pos h.symm,if_pos rfl,List.length_append];rfl
  .have:l[i].Month≠a[x].Month:=by
    rw[←h];rcases Nat.lt_or_gt_of_ne hx with h3|h3
    .exact Qw hn h3 h1
    .exact λe=>Qw hn h3 hj e.symm
   rw[if_neg this,if_neg hx]
theorem IM{l:List GPosting}{i:Nat}{w:GAward}:(gB l i w).length<=l.length:=by
 unfold gB;exact Nat.le_trans (List.length_filter_le _ _) (by rw[vab];omega)
def nS(B:List Ent) (dl:D) (a:List GAward) (l:List GPosting) (k:Nat):St:=⟨fb a::ds 3 (FK::.mp B.length::ds 24 (dl::aa (l.length:Int)::aa (k:Int)::ds 69 [])),B++.mp (iz B.length 0 a (GA a l k))::fG (GA a l k)⟩
theorem QH{N:Nat}:∀{a:List GAward}{L:BL}{k:Nat},((iz N k a L).all λe=>isKey 0 e.1)=true
 |[],L,k=>by cases L<;>rfl
 |w::a,[],k=>rfl
 |w::a,p::L,k=>by
  simp only[iz,Gab,QH,Jaa];rfl
theorem WA{N:Nat}:∀{a:List GAward}{L:BL}{k j:Nat},k+L.length+1+N<=j->∀e∈iz N k a L,Tm.below j e.2=true
 |[],L,k,j,_,e,he=>by cases L<;>simp[iz]at he
 |w::a,[],k,j,_,e,he=>by simp[iz]at he
 |w::a,p::L,k,j,h,e,he=>by
  simp only[uaa]at h;simp only[iz,List.mem_cons]at he;rcases he with rfl|he
  .simp only[Tm.below,decide_eq_true_eq];omega
  .exact WA (by omega) e he
theorem aH{L:BL}{j:Nat}:(fG L).all (Ent.below j)=true:=by
 rw[Yaa];intro e he;obtain⟨p,-,rfl⟩:=fab.1 he;exact Ib _ _ (Fr.l _)
theorem WM:∀{a b:Nat},a≠b->EK a b=true
 |0,0,h=>(h rfl).elim
 |0,_+1,_=>rfl
 |_+1,0,_=>rfl
 |a+1,b+1,h=>WM (a:=a) (b:=b) λe=>h (by rw[e])
theorem Ih{α:Type}{l:List α}{x y:α}:(l++[x]).set l.length y=l++[y]:=by simp
theorem XX{a:List GAward}{l:List GPosting}{B:List Ent}{dl:D}{k:Nat}(hB:(B=[]/\dl=Ca l)\/(B=[.live 4 0 (l.map ta)]/\dl=.own 0 0)):Fit B.length (nS B dl a l k):=by
 have hj:0+(GA a l k).length+1+B.length<=(nS B dl a l k).m.length:=by simp[nS,fG];omega
 refine⟨by simp[nS],?_,?_⟩
 .rcases hB with⟨rfl,rfl⟩|⟨rfl,rfl⟩<;>simp[nS,belows,Tm.below,mj,uk,kc,Fr.h,FK]
 .show(B++_::_).all _=true;rw[Qac,Gab,yx (WA hj),aH];rcases hB with⟨rfl,rfl⟩|⟨rfl,rfl⟩
  .rfl
  .simp[Ent.below,Ib _ _ (Fr.l (e:=ta) l)]
noncomputable def AZ(a:List GAward) (l:List GPosting) (k:Nat):List (Value×D):=(a.take k).map λw=>(.int .i64 w.Month,Ia ⟨w.Month,0,(Kp l w).Received,(Kp l w).Waived⟩)
theorem SU{a:List GAward}{l:List GPosting}{i:Nat}{q:Int}(hn:(a.map λw=>w.Month).Nodup) (hi:i<a.length) (hq:q=a[i].Month):Bn (.int .i64 q) (AZ a l i)=none:=by
 have key:∀(b:List GAward) (f:GAward->D),(∀w∈b,w.Month≠q)->Bn (.int .i64 q) (b.map λw=>(.int .i64 w.Month,f w))=none:=by
  intro b f
  induction b with
  |nil=>intro _;rfl
  |cons w b ih=>
   intro h;simp only[Gaa,Bn];rw[if_neg (by simp only[wo,beq_iff_eq];exact λe=>h w (by simp) e.symm),ih λx hx=>h x (by simp[hx])]
 refine key _ _ λw hw e=>?_;obtain⟨j,hj,rfl⟩:=Aaa hw;rw[vab]at hj;rw[Vac,hq]at e;exact Qw hn (show j<i by omega) hi e
theorem BZ{a:List GAward}{l:List GPosting}{i:Nat}{w:GAward}{d:D}(hn:(a.map λw=>w.Month).Nodup) (hi:i<a.length) (hw:w=a[i]) (hd:d=Ia ⟨w.Month,0,(Kp l w).Received,(Kp l w).Waived⟩):Xq (.int .i64 w.Month) d (AZ a l i)=AZ a l (i+1):=by
 have key:∀(b:List GAward) (f:GAward->D),(∀x∈b,x.Month≠w.Month)->Xq (.int .i64 w.Month) d (b.map λw=>(.int .i64 w.Month,f w))=(b.map λw=>(.int .i64 w.Month,f w))++[(.int .i64 w.Month,d)]:=by
  intro b f
  induction b with
  |nil=>intro _;rfl
  |cons x b ih=>
   intro h;simp only[Gaa,Xq,Iaa];rw[if_neg (by simp only[wo,beq_iff_eq];exact λe=>h x (by simp) e.symm),ih λy hy=>h y (by simp[hy])]
 unfold AZ;rw[key _ _ λx hx e=>?_,Uaa,qaa hi,hd,hw]
 .simp only[Kab,Zab,Gaa,xab]
 .obtain⟨j,hj,rfl⟩:=Aaa hx;rw[vab]at hj;rw[Vac,hw]at e;exact Qw hn (show j<i by omega) hi e
noncomputable def MP(B:List Ent) (a:List GAward) (l:List GPosting) (E:List (Value×D)) (F:List Ent) (k:Nat):St:=⟨ds 5 (.mp B.length::ds 6 (.mp (F.length+1+B.length)::.own (F.length+1+1+B.length) k::ds 39 (fb a::aa (a.length:Int)::aa (k:Int)::ds 46 []))),B++.mp E::(F++[.mp (AZ a l k),.live 4 k (((a.take k).map (Kp l)).map Ia)])⟩
theorem YX{a:List GAward}{l:List GPosting}{B:List Ent}{dl:D}{E:List (Value×D)}{F:List Ent}{G:BL}{k:Nat}(hB:(B=[]/\dl=Ca l)\/(B=[.live 4 0 (l.map ta)]/\dl=.own 0 0)) (hE:E=iz B.length 0 a G) (hF:F=fG G):Fit B.length (MP B a l E F k):=by
 obtain⟨M,hM⟩:∃M,M=(MP B a l E F k).m.length:=⟨_,rfl⟩;have hj:0+G.length+1+B.length<=M:=by rw[hM];simp[MP,hF,fG];omega
 have hk:F.length+3+B.length=M:=by rw[hM];simp[MP];omega
 refine⟨by simp[MP],?_,?_⟩
 .rw[←hM];simp[MP,belows,Tm.below,mj,uk,kc,Fr.h,FK];omega
 .rw[←hM];show(B++_::_).all _=true;rw[Qac,Gab,Qac,hE,yx (WA hj),hF,aH];have h1:Ent.below M (.mp (AZ a l k))=true:=yx λe he=>by
   obtain⟨w,-,rfl⟩:=fab.1 he;exact kc _ _ (Fr.h (e:=Ia) _)
  have h2:Ent.below M (.live 4 k (((a.take k).map (Kp l)).map Ia))=true:=Ib _ _ (Fr.l _);rcases hB with⟨rfl,rfl⟩|⟨rfl,rfl⟩
  .simp only[oad,Gab,h1,h2,Naa]
  .have h3:Ent.below M (.live 4 0 (l.map ta))=true:=Ib _ _ (Fr.l _);simp only[oad,Gab,h1,h2,h3,Naa]
theorem F5{a:List GAward}{l:List GPosting}{B:List Ent}{dl:D}(hB:(B=[]/\dl=Ca l)\/(B=[.live 4 0 (l.map ta)]/\dl=.own 0 0)) (ha:a.length<=1048576) (hl:l.length<=1048576) (hn:(a.map λw=>w.Month).Nodup) :
 T Tryz.prog B.length k55.F.code (EI B.length k55.F.results ⟨[Aa (a.map (Kp l))],B⟩) ⟨[fb a,dl]++Tm.ds 100 [],B⟩:=by
 simp only[k55,Kf.of,zs,ze];refine ss (rg ?_);simp only[zz];refine ss (rg ?_);simp only[zz];refine ss (ss (rg ?_));simp only[zz];refine T.YP a.length (UX B dl a) ?_ (λi _=>?_) (λi hi=>?_) Us ?_
 .simp only[UX,nad,LQ,xab];exact At.same _ _ _ (by repeat (first|exact pa.qb _|refine pa.cons (Sub.refl _) ?_|refine pa.cons (Sub.Ka _) ?_))
 .exact VX hB
 .obtain⟨E,hE⟩:∃E,E=LQ (a.take i):=⟨_,rfl⟩;have hall:(E.all λe=>isKey 0 e.1)=true:=by rw[hE];exact cY
  rcases hB with⟨rfl,rfl⟩|⟨rfl,rfl⟩
  all_goals
   simp only[UX,zz,←hE];refine ss (rg ?_);simp only[zz];refine ss (cd rfl ?_);simp only[zz];refine gP.mk (λhc=>?_) (λhc=>?_)
   .have hi:i<a.length:=by omega
    obtain⟨w,hw⟩:∃w,w=a[i]:=⟨_,rfl⟩;have g2:a[i]?=some w:=by rw[hw];exact qaa hi
    refine sk ?_;simp only[zz];refine ss (bk (ss (rg ?_)));simp only[zz,g2,hi];refine rg ?_;simp only[zz,hall];refine rg ?_;have hw1:ca .i64 ((i:Int)+1)=((i+1:Nat):Int):=Ha (by omega);have hput:Xq (.int .i64 w.Month) (.v (.slice none 0 0)) E=LQ (a.take (i+1)):=by
     rw[hE,Uaa,g2];refine iP λx hx he=>?_;obtain⟨j,hj,rfl⟩:=Aaa hx;rw[vab]at hj;rw[Vac,hw]at he;exact Qw hn (show j<i by omega) hi he
    simp only[zz,uj,hw1,hput];refine⟨hi,?_⟩
    first
     |exact At.cut 1 (by repeat (first|exact pa.qb _|refine pa.cons (Sub.refl _) ?_|refine pa.cons (Sub.Ka _) ?_)) rfl
     |exact At.cut 2 (by repeat (first|exact pa.qb _|refine pa.cons (Sub.refl _) ?_|refine pa.cons (Sub.Ka _) ?_)) rfl
   .refine xt ?_;simp only[zz,Yu];have hi:i=a.length:=by omega
    subst hi;refine⟨rfl,?_⟩;simp only[UX,←hE];exact At.same _ _ _ (by repeat (first|exact pa.qb _|refine pa.cons (Sub.refl _) ?_|refine pa.cons (Sub.Ka _) ?_))
 .simp only[zz];rw[UX,yab];refine v7 l ?_;refine ss (ss (rg ?_));have hlen:∀m',Dc (B++m') dl=some l.length:=by
   intro m';rcases hB with⟨rfl,rfl⟩|⟨rfl,rfl⟩<;>simp[Dc,Ca]
  simp only[zz,hlen];refine T.YP l.length (nS B dl a l) ?_ (λi _=>XX hB) (λi hi=>?_) Us ?_
  .simp only[nS];exact At.same _ _ _ (by repeat (first|exact pa.qb _|refine pa.cons (Sub.refl _) ?_|refine pa.cons (Sub.Ka _) ?_))
  .simp only[nS];obtain⟨E,hE⟩:∃E,E=iz B.length 0 a (GA a l i):=⟨_,rfl⟩;obtain⟨F,hF⟩:∃F,F=fG (GA a l i):=⟨_,rfl⟩;have hall:(E.all λe=>isKey 0 e.1)=true:=by rw[hE];exact QH
   have hFl:F.length=a.length:=by rw[hF,uO,GA,lab]
   have hgl:(GA a l i).length=a.length:=by simp[GA]
   have hlk:∀j (h:j<a.length),Bn (.int .i64 a[j].Month) E=some (.own (j+1+B.length) (gB l i a[j]).length):=λj h=>by
    rw[hE,ZU hn h (by omega),Fab];simp[GA]
   have hput:∀j (h:j<a.length) v g,Xq (.int .i64 a[j].Month) (.own (j+1+B.length) v) E=iz B.length 0 a ((GA a l i).set j (v,g)):=λj h v g=>by
    rw[hE,←putB (v:=v) (g:=g) hn h (by omega),Fab]
   have hno:∀q,(∀w∈a,w.Month≠q)->Bn (.int .i64 q) E=none:=λq h=>by rw[hE];exact FE h
   simp only[←hE,←hF];rcases hB with⟨rfl,rfl⟩|⟨rfl,rfl⟩
   all_goals
    simp only[Faa,uaa,Fab,iac]at hlk hput;simp only[zz];refine ss (rg ?_);simp only[zz];refine ss (cd rfl ?_);simp only[zz];refine gP.mk (λhc=>?_) (λhc=>?_)
    .have hi:i<l.length:=by omega
     obtain⟨p,hp⟩:∃p,p=l[i]:=⟨_,rfl⟩;have g2:l[i]?=some p:=by rw[hp];exact qaa hi
     refine sk ?_;simp only[zz];refine ss (bk (ss (rg ?_)));simp only[zz,g2,hi,Waa,Ih];refine ss (rg ?_);simp only[zz,hall,Waa,Ih];have hw1:ca .i64 ((i:Int)+1)=((i+1:Nat):Int):=Ha (by omega);by_cases hj:∃j,∃h:j<a.length,a[j].Month=p.Month
     .obtain⟨j,hj,he⟩:=hj;obtain⟨g,hg⟩:∃g,g=gB l i a[j]:=⟨_,rfl⟩;have hgl:=IM (l:=l) (i:=i) (w:=a[j]);rw[←hg]at hgl;have k1:=hlk j hj;rw[he,←hg]at k1;have k2:∀y,(F++[y])[j]?=some (.live 4 g.length (g.map ta)):=λy=>by
       rw[eac (by omega),hF];simp[fG,GA,hj,←hg]
      have k3:∀y e,(F++[y]).set j e=F.set j e++[y]:=λy e=>by rw[Fac,if_pos (by omega)]
      have k5:(g.length+1)*32<=2 ^ 47:=by omega
      have k6:EK F.length j=true:=WM (by omega);have k7:EK F.length (F.length+1)=true:=WM (by omega);have k8:∀x y,(F++[x]++[y])[j]?=some (.live 4 g.length (g.map ta)):=λx y=>by
       rw[eac (by simp;omega),k2]
      have k9:∀x y,(F++[x]++[y])[F.length+1]?=some y:=λx y=>by
       rw[wab (by simp)];simp
      have k10:∀x y e,(F++[x]++[y]).set j e=F.set j e++[x]++[y]:=λx y e=>by rw[Fac,if_pos (by simp;omega),k3]
      simp only[zz,k1,Yz];refine ss (rg ?_);simp only[zz];refine cd rfl ?_;simp only[zz];refine ay Yt [[],[],[],[],[],[],[2]] (by kernel_rfl) ?_;simp only[zz,zy,hall,k1,k2,k3,k5,k6,k7,k8,k9,k10,Waa,Ih];refine rg ?_;have k11:=hput j hj (g.length+1) (g++[p]);rw[he]at k11;have k12:fG ((GA a l i).set j (g.length+1,g++[p]))=F.set j (.live 4 (g.length+1) (g.map ta++[ta p])):=by
       rw[hF];simp[fG,List.map_set]
      simp only[zz]at k12;have k13:=mZ hi hn hj (he.trans (by rw[hp]));rw[←hg,←hp]at k13;simp only[zz,uj,hw1,k11];refine⟨hi,?_⟩;rw[nS,k13,k12,Saa]
      first
       |exact At.mk _ _ (_::_) _ (by repeat (first|exact pa.qb _|refine pa.cons (Sub.refl _) ?_|refine pa.cons (Sub.Ka _) ?_))
       |exact At.mk _ _ (_::_::_) _ (by repeat (first|exact pa.qb _|refine pa.cons (Sub.refl _) ?_|refine pa.cons (Sub.Ka _) ?_))
     .have hno1:∀w∈a,w.Month≠p.Month:=λw hw e=>by
       obtain⟨j,hj1,rfl⟩:=Aaa hw;exact hj ⟨j,hj1,e⟩
      have k1:=hno _ hno1;simp only[zz,k1,Yz];refine ss (rg ?_);simp only[zz];refine cd rfl ?_;simp only[zz];refine sk ?_;simp only[zz];refine rg ?_;simp only[zz,uj,hw1];refine⟨hi,?_⟩;rw[nS,JU hi (by rw[←hp];exact hno1),←hE,←hF]
      first
       |exact At.mk _ _ (.mp E::F) _ (by repeat (first|exact pa.qb _|refine pa.cons (Sub.refl _) ?_|refine pa.cons (Sub.Ka _) ?_))
       |exact At.mk _ _ (_::.mp E::F) _ (by repeat (first|exact pa.qb _|refine pa.cons (Sub.refl _) ?_|refine pa.cons (Sub.Ka _) ?_))
    .refine xt ?_;simp only[zz,Yu];have hi:i=l.length:=by omega
     subst hi;refine⟨rfl,?_⟩;simp only[nS,←hE,←hF];exact At.same _ _ _ (by repeat (first|exact pa.qb _|refine pa.cons (Sub.refl _) ?_|refine pa.cons (Sub.Ka _) ?_))
  .simp only[zz];rw[nS];obtain⟨G,hG⟩:∃G,G=GA a l l.length:=⟨_,rfl⟩;obtain⟨E,hE⟩:∃E,E=iz B.length 0 a G:=⟨_,rfl⟩;obtain⟨F,hF⟩:∃F,F=fG G:=⟨_,rfl⟩;rw[←hG,←hE,←hF];refine ss (rg ?_);simp only[zz];refine ss (rg ?_);simp only[zz];refine ss (ss (rg ?_));simp only[zz];refine T.mw 13 4 rfl ?_;simp only[zz];refine T.YP a.length (MP B a l E F) ?_ (λi _=>YX hB hE hF) (λi hi=>?_) Us ?_
   .simp only[MP,AZ,nad,xab,Saa,Iaa,Vaa];rw[show B.length+(F.length+1)=F.length+1+B.length by omega,show F.length+1+B.length+1=F.length+1+1+B.length by omega];exact At.same _ _ _ (by repeat (first|exact pa.qb _|refine pa.cons (Sub.refl _) ?_|refine pa.cons (Sub.Ka _) ?_))
   .simp only[MP];have gF:∀(t:List Ent) k,(F++t)[F.length+k]?=t[k]?:=λt k=>by rw[wab (by omega)];simp
    have gF0:∀(t:List Ent),(F++t)[F.length]?=t[0]?:=λt=>by rw[wab (by omega)];simp
    have sF:∀(t:List Ent) k e,(F++t).set (F.length+k) e=F++t.set k e:=λt k e=>by rw[Fac,if_neg (by omega)];simp
    have sF0:∀(t:List Ent) e,(F++t).set F.length e=F++t.set 0 e:=λt e=>by rw[Fac,if_neg (by omega)];simp
    have hFl:F.length=a.length:=by rw[hF,uO,hG,GA,lab]
    have hlk:∀j (h:j<a.length),Bn (.int .i64 a[j].Month) E=some (.own (j+1+B.length) (gB l l.length a[j]).length):=λj h=>by
     rw[hE,hG,ZU hn h (by simpa [GA] using h),Fab];simp[GA]
    have hall:(E.all λe=>isKey 0 e.1)=true:=by rw[hE];exact QH
    obtain⟨Q,hQ⟩:∃Q,Q=AZ a l i:=⟨_,rfl⟩;have hallQ:(Q.all λe=>isKey 0 e.1)=true:=by
     rw[hQ,Yaa];intro e he;obtain⟨w,-,rfl⟩:=fab.1 he;rfl
    obtain⟨R,hR⟩:∃R,R=(a.take i).map (Kp l):=⟨_,rfl⟩;simp only[←hQ,←hR];rcases hB with⟨rfl,rfl⟩|⟨rfl,rfl⟩
    all_goals
     simp only[Faa,uaa,Fab,iac]at hlk;simp only[zz];refine ss (rg ?_);simp only[zz];refine ss (cd rfl ?_);simp only[zz];refine gP.mk (λhc=>?_) (λhc=>?_)
     .have hi:i<a.length:=by omega
      obtain⟨w,hw⟩:∃w,w=a[i]:=⟨_,rfl⟩;have g2:a[i]?=some w:=by rw[hw];exact qaa hi
      have hw1:ca .i64 ((i:Int)+1)=((i+1:Nat):Int):=Ha (by omega);refine sk ?_;simp only[zz];refine ss (bk (ss (rg ?_)));simp only[zz,g2,hi,Saa,gF,sF,gF0,sF0];refine ss (rg ?_);have hkQ:Bn (.int .i64 w.Month) Q=none:=by rw[hQ];exact SU hn hi (by rw[hw])
      simp only[zz,hallQ,Saa,gF,sF,gF0,sF0,hkQ,Yz]
      first|refine ss (rg ?_)|refine ss (ss (rg ?_))|refine ss (ss (ss (rg ?_)))
      simp only[zz]
      first|refine ss (cd rfl ?_)|refine cd rfl ?_
      simp only[zz];obtain⟨g,hg⟩:∃g,g=gB l l.length w:=⟨_,rfl⟩;have k1:=hlk i hi;rw[←hw,←hg]at k1
      first|refine ss (rg ?_)|refine ss (ss (rg ?_))|refine ss (ss (ss (rg ?_)))
      simp only[zz,hall,k1,Saa,gF,sF,gF0,sF0,Yz];refine ss (dy Yt ?_);simp only[zz,zy,Saa,gF,sF,gF0,sF0];have c1:lf g w.Month=some (OC w.Month g [1,2,3]):=by
       unfold lf;rw[if_pos (by have:=IM (l:=l) (i:=l.length) (w:=w);rw[hg];omega)]
      have c2:Xg g w.Month=some (RN w.Month g):=by
       unfold Xg;rw[if_pos (by have:=IM (l:=l) (i:=l.length) (w:=w);rw[hg];omega)];rfl
      have kF:∀t:List Ent,(F++t)[i]?=some (.live 4 g.length (g.map ta)):=λt=>by
       rw[eac (by omega),hF,hG];simp[fG,GA,hi,←hw,←hg]
      refine lv (Is c1) ?_ rfl (by simp;omega) (by simp[Ay,Nd]) (by simp only[zg,zy,kF]);simp only[zz,zy,Saa,gF,sF,gF0,sF0];refine lv (Ju c2) ?_ rfl (by simp;omega) (by simp[Ay,Nd]) (by simp only[zg,zy,kF]);simp only[zz,zy,Saa,gF,sF,gF0,sF0];have hputQ:Xq (.int .i64 w.Month) (.agg [.v (.int .i64 w.Month),.v (.int .i64 0),.v (.int .i64 (OC w.Month g [1,2,3])),.v (.int .i64 (RN w.Month g))]) Q=AZ a l (i+1):=by
       rw[hQ];refine(BZ hn hi hw ?_).trans rfl;simp only[Kp,hg,gB,yab];rfl
      first|refine rg ?_|refine ss (rg ?_)|refine ss (ss (rg ?_))
      simp only[zz,hallQ,hputQ,Saa,gF,sF,gF0,sF0]
      first|refine rg ?_|refine ss (rg ?_)|refine ss (ss (rg ?_))
      simp only[zz,Saa,gF,sF,gF0,sF0]
      first|refine rg ?_|refine ss (rg ?_)|refine ss (ss (rg ?_))
      simp only[zz,Saa,gF,sF,gF0,sF0];have hR1:R.length=i:=by rw[hR,lab,vab];omega
      have k5:(R.length+1)*32<=2 ^ 47:=by omega
      have hd:∀x,x=(Kp l w).Due->R.map Ia++[.agg [.v (.int .i64 w.Month),.v (.int .i64 x),.v (.int .i64 (OC w.Month g [1,2,3])),.v (.int .i64 (RN w.Month g))]]=((a.take (i+1)).map (Kp l)).map Ia:=λx hx=>by
       rw[hR,Uaa,g2,hx];simp only[Kab,Zab,Gaa,xab,Kp,hg,gB,yab];rfl
      first|refine ss (cd rfl ?_)|refine cd rfl ?_
      refine gP.mk (λhx=>?_) (λhx=>?_)
      .first|refine rg ?_|refine ss (rg ?_)
       simp only[zz,Saa,gF,sF,gF0,sF0]
       first|refine ss (rg ?_)|refine rg ?_
       simp only[zz,k5,Saa,gF,sF,gF0,sF0];refine rg ?_;have hd:=hd (OC w.Month g [1,2,3]) (by
        simp only[Kp];rw[if_neg (by simpa using hx),hg,gB,yab])
       simp only[zz,uj,hw1,hd];refine⟨hi,?_⟩;simp only[MP];refine⟨by repeat (first|exact pa.qb _|refine pa.cons (Sub.refl _) ?_|refine pa.cons (Sub.Ka _) ?_),[?_,?_,?_],?_⟩
       rotate_left 3
       simp only[Vaa,Iaa,Saa];rfl
      .refine sk ?_;simp only[zz,Saa,gF,sF,gF0,sF0]
       first|refine ss (rg ?_)|refine rg ?_
       simp only[zz,k5,Saa,gF,sF,gF0,sF0];refine rg ?_;have hd:=hd w.Cents (by
        simp only[Kp];rw[if_pos (by simpa using hx)])
       simp only[zz,uj,hw1,hd];refine⟨hi,?_⟩;simp only[MP];refine⟨by repeat (first|exact pa.qb _|refine pa.cons (Sub.refl _) ?_|refine pa.cons (Sub.Ka _) ?_),[?_,?_,?_],?_⟩
       rotate_left 3
       simp only[Vaa,Iaa,Saa];rfl
     .refine xt ?_;simp only[zz,Yu];have hi:i=a.length:=by omega
      subst hi;refine⟨rfl,?_⟩;simp only[MP,←hQ,←hR];exact At.same _ _ _ (by repeat (first|exact pa.qb _|refine pa.cons (Sub.refl _) ?_|refine pa.cons (Sub.Ka _) ?_))
   .simp only[zz];rw[MP,yab];have gF:∀(t:List Ent) k,(F++t)[F.length+k]?=t[k]?:=λt k=>by rw[wab (by omega)];simp
    rcases hB with⟨rfl,rfl⟩|⟨rfl,rfl⟩
    all_goals
     simp only[zz];refine ss (rg ?_);simp only[zz];refine T.ret (xD ?_);simp only[zz,zr,Xr];have hb:bq [(some 0,0,0)] (F.length+1+1+1)=true:=by simp[bq]
     first
      |exact Tells.q [] rfl (by decide) (by simp only[zg,gF,bq,oad,Dab,Zaa])
      |exact Tells.q [(some 0,0,0)] rfl (by decide) (by simp only[zg,gF,hb,Dab,Zaa])
theorem VH{t0 t1 r}(h:qm t0 t1=some r):Xn Tryz.prog 55 [fb t0,.own 0 0] [(4,t1.map ta)] (Aa r):=by
 unfold qm at h;split at h
 .rename_i hc;obtain rfl:=Raa h;exact Xn.of 100 k55 (F5 (.inr ⟨rfl,rfl⟩) hc.1 hc.2.1 hc.2.2) (by simp[Fr.l])
 .cases h
instance zI8{t0 t1 r}:Con2 (qm t0 t1=some r) (Xn Tryz.prog 55 [fb t0,.own 0 0] [(4,t1.map ta)] (Aa r)):=⟨VH⟩
theorem nG{t0 t1 r}(h:qm t0 t1=some r):Den Tryz.prog 55 [fb t0,Ca t1] (Aa r):=by
 unfold qm at h;split at h
 .rename_i hc;obtain rfl:=Raa h;exact ND FrL.h ((rz k55 (ds:=[fb t0,Ca t1]) (m:=[]) 100 rfl (F5 (.inl ⟨rfl,rfl⟩) hc.1 hc.2.1 hc.2.2)).mono λd m' h=>by
   obtain⟨rfl,rfl⟩:=h;exact .same (Fr.h (e:=Aa) _) .nil)
 .cases h
instance zI9{t0 t1 r}:Con (qm t0 t1=some r) (Den Tryz.prog 55 [fb t0,Ca t1] (Aa r)):=⟨nG⟩
instance zI10{t0 t1 r}:Con (cmp_Less_int t0 t1=some r) (Den Tryz.prog 130 [aa t0,aa t1] (ba r)):=⟨λh=>by
 refine dk 15 k130 ?_
 simp only[k130,Kf.of,zs,ze]
 unfold cmp_Less_int at h
 exact pg trivial (.z 1 (.j 1 (λ(j5:Bool)=>⟨[.k 4,.s (ba j5),.p 12],[]⟩) (.b (.b (.t []) (.t [])) (.t [])) .o))⟩
end Go.Proofs.Dev
