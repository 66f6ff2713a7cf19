/-
  Contracts of the functions: each answers as its plain partial function says.
-/
import Derived.Test.YtadinajclolmnaaGreatDoorPF
import Derived.Test.YtadinajclolmnaaGreatDoorH1
import Derived.Test.YtadinajclolmnaaGreatDoorH2
import Derived.Test.YtadinajclolmnaaGreatDoorL1
import Derived.Test.YtadinajclolmnaaGreatDoorL3
open Option renaming some->M,none->u4
open Go.Proofs.Tryz renaming prog->al
open Bool renaming and_true->Y',true->a29
open List renaming all_append->Zah,all_cons->Iag,all_eq_true->Λ,all_nil->baj,append_assoc->H!,cons_append->B',getElem?_concat_length->Iaf,getElem?_cons_succ->xag,getElem?_cons_zero->Aaf,getElem_cons_succ->Zai,getElem_of_mem->O',length_cons->w!,length_nil->A?,map_append->ψ,map_cons->w?,map_nil->D!,mem_map->V!,nil_append->G?,nodup_cons->dah,replicate->h!,replicate_succ'->Rag,take_add_one->Ι,take_length->υ,take_zero->Bag,length->a00
open Nat renaming add_lt_add_iff_right->Qai,add_zero->Hag,zero_add->Z!
open Option.some renaming inj->R'
set_option linter.all false
set_option maxHeartbeats 1000000
set_option maxRecDepth 10000
namespace Go.Proofs.Dev
open Go Go.Tm
variable {a:List nb}{i j:Nat}{l:List cb}{B:List Ent}{dl:D}{w:nb}
abbrev BL:=List (Nat×List cb)
variable {L:BL}
def rS:D:=.v (.slice u4 0 0)
def gB(l:List cb) (k:Nat) (w:nb):List cb:=(l.take k).filter λp=>p.d==w.d
def NF(a:List nb) (l:List cb) (k:Nat):BL:=a.map λw=>((gB l k w).length,gB l k w)
def uD(N:Nat):Nat->List nb->BL->List (Value×D)
 |k,w::a,p::L=>(.int .i64 w.d,.own (k+1+N) p.1)::uD N (k+1) a L
 |_,_,_=>[]
def GM(L:BL):List Ent:=L.map λp=>.live 4 p.1 (p.2.map db)
def D3(a:List nb):List (Value×D):=a.map λw=>(.int .i64 w.d,rS)
theorem ay7:((D3 a).all λe=>u! 0 e.1)=a29:=by
 rw[Λ];intro e he;obtain⟨w,-,rfl⟩:=V!.1 he;rfl
theorem iZ:∀{a:List nb}{w:nb},(∀x∈a,x.d≠w.d)->Er (.int .i64 w.d) rS (D3 a)=D3 (a++[w])
 |[],w,_=>rfl
 |x::a,w,h=>by
  simp only[D3,w?,B',Er];rw[s7 (by grind[Iq])];congr 1;exact iZ λy hy=>h y s5
theorem vE(hn:(a.map λw=>w.d).Nodup) (h:i<j) (hj:j<a00 a):a[i].d≠a[j].d:=by
 grind[List.pairwise_iff_getElem]
def S1b(B:List Ent) (dl:D) (a:List nb) (k:Nat):St:=⟨Lc a::dl::ds 2 (rS::.mp B.length::ds 14 (Lc a::da (a00 a:Int)::da (k:Int)::ds 79 [])),B++[.mp (D3 (a.take k))]⟩
theorem tB{es:List (Value×D)}(h:∀e∈es,Tm.below j e.2=a29):Ent.below j (.mp es)=a29:=by
 grind[Ent.below]
theorem az4{k:Nat}(hB:(B=[]/\dl=Ra l)\/(B=[.live 4 0 (l.map db)]/\dl=.own 0 0)):Fit B.length (S1b B dl a k):=by
 rcases hB with⟨rfl,rfl⟩|⟨rfl,rfl⟩
 all_goals
  refine⟨by simp[S1b],?_,?_⟩
  .simp[S1b,f?,Tm.below,Yj,Ml,bb,Fr.h,rS]
  .simp only[S1b,Zah,Iag,baj,Y',Bool.and_eq_true];refine⟨?_,tB λe he=>?_⟩
   .grind[Ent.below,ua,Fr.l]
   .obtain⟨w,-,rfl⟩:=V!.1 he;rfl
theorem Kv.setE{n:Nat}{e e':Ent}(h:tD n e e'):∀{m:List Ent}{id:Nat},m[id]?=M e->Kv n m (m.set id e')
 |[],id,h1=>by simp at h1
 |x::m,0,h1=>by
  grind[Kv.cons,Kv.refl]
 |x::m,id+1,h1=>Kv.cons (tD.refl n x) (Kv.setE h p5)
def pk.mid{n:Nat}{q:List D}:∀{p:List D},pk n (p++rS::q) (p++.own n 0::q)
 |[]=>pk.cons (Ad.nil n) (pk.refl n q)
 |d::p=>pk.cons (Ad.refl n d) pk.mid
def enX(N:Nat) (a:List nb) (x:Nat):List (Value×D):=uD N 0 (a.take x) (h! x (0,[]))++D3 (a.drop x)
theorem XQ{N:Nat}{w:nb}{q:Nat×List cb}:∀{a:List nb}{L:BL}{k:Nat},a00 a=a00 L->uD N k (a++[w]) (L++[q])=uD N k a L++[(.int .i64 w.d,.own (k+a00 a+1+N) q.1)]
 |[],[],k,_=>by simp[uD]
 |x::a,p::L,k,h=>by
  simp only[B',uD,XQ (a:=a) (L:=L) p5,w!]
  grind
 |[],_::_,_,h=>s5
 |_::_,[],_,h=>s5
theorem IX:(GM L).length=a00 L:=by simp[GM]
theorem bb7{N:Nat}{c:C}{K:Exit->St->Prop}{t:List D}(l:List cb) (h:T al N c K ⟨t,B++.mp (uD B.length 0 a (NF a l 0))::GM (NF a l 0)⟩):T al N c K ⟨t,B++[.mp (D3 a)]⟩:=by
 have hg:NF a l 0=h! a.length (0,[]):=by
  simp_all[NF,gB,List.eq_replicate_iff]
 rw[hg]at h;have key:∀x,x<=a00 a->T al N c K ⟨t,B++.mp (enX B.length a x)::GM (h! x (0,[]))⟩->T al N c K ⟨t,B++[.mp (D3 a)]⟩:=by
  intro x
  induction x with
  |zero=>grind[enX,uD,GM]
  |succ x ih=>
   intro hx h;refine ih U ?_;have hd:a.drop x=a[x]::a.drop (x+1):=p6
   have hlen:(B++.mp (enX B.length a x)::GM (h! x (0,[]))).length=x+1+a00 B:=by grind[GM]
   have ht:uD B.length 0 (a.take (x+1)) (h! (x+1) (0,[]))=uD B.length 0 (a.take x) (h! x (0,[]))++[(.int .i64 a[x].d,.own (x+1+a00 B) 0)]:=by
    grind[Rag,XQ]
   refine T.rI 4 (pk.refl _ _) (m':=(B++.mp (enX B.length a x)::GM (h! x (0,[]))).set B.length (.mp (enX B.length a (x+1)))) (Kv.setE (e:=.mp (enX B.length a x)) ?_ p6) ?_
   .rw[hlen];simp only[tD];unfold enX;rw[ht,hd];simp only[D3,ψ,w?,D!,H!,B',G?]
    simp_all[pk.mid]
   grind[GM,Rag]
 grind[enX,D3]
theorem Fab{N:Nat}:∀{a:List nb}{L:BL}{k j:Nat}(hn:(a.map λw=>w.d).Nodup) (hj:j<a00 a) (hL:j<a00 L),fo (.int .i64 a[j].d) (uD N k a L)=M (.own (k+j+1+N) L[j].1)
 |w::a,p::L,k,0,_,_,_=>by simp[uD,fo,Iq]
 |w::a,p::L,k,j+1,hn,hj,hL=>by
  simp only[w?,dah]at hn;simp only[w!,Qai]at hj hL;simp only[Zai,uD,fo];rw[s7 (by simp_all[Iq]),Fab hn.2 hj hL,show k+1+j+1+N=k+(j+1)+1+N by omega]
theorem MJ{N:Nat}{q:Int}:∀{a:List nb}{L:BL}{k:Nat},(∀w∈a,w.d≠q)->fo (.int .i64 q) (uD N k a L)=u4
 |[],L,k,_=>by cases L<;>rfl
 |w::a,[],k,_=>rfl
 |w::a,p::L,k,h=>by
  simp only[uD,fo];rw[s7 (by grind[Iq]),MJ λx hx=>h x s5]
theorem bi5{N:Nat}{v:Nat}{g:List cb}:∀{a:List nb}{L:BL}{k j:Nat}(hn:(a.map λw=>w.d).Nodup) (hj:j<a00 a) (hL:j<a00 L),Er (.int .i64 a[j].d) (.own (k+j+1+N) v) (uD N k a L)=uD N k a (L.set j (v,g))
 |w::a,p::L,k,0,_,_,_=>by simp[uD,Er,Iq]
 |w::a,p::L,k,j+1,hn,hj,hL=>by
  simp only[w?,dah]at hn;simp only[w!,Qai]at hj hL;simp only[Zai,uD,Er,List.set_cons_succ];rw[s7 (by simp_all[Iq]),show k+(j+1)+1+N=k+1+j+1+N by omega,bi5 hn.2 hj hL]
theorem qY(hi:i<a00 l) (w:nb):gB l (i+1) w=if l[i].d=w.d then gB l i w++[l[i]]else gB l i w:=by
 grind[gB,Ι]
theorem mab(hi:i<a00 l) (h:∀w∈a,w.d≠l[i].d):NF a l (i+1)=NF a l i:=
 List.map_congr_left λw hw=>by rw[qY hi,s7 λe=>h w hw e.symm]
theorem ar7(hi:i<a00 l) (hn:(a.map λw=>w.d).Nodup) (hj:j<a00 a) (h:a[j].d=l[i].d):NF a l (i+1)=(NF a l i).set j ((gB l i a[j]).length+1,gB l i a[j]++[l[i]]):=by
 apply List.ext_getElem
 .simp[NF]
 .intro x h1 h2;simp only[NF,List.length_map]at h1;rw[List.getElem_set];simp only[NF,List.getElem_map,qY hi];by_cases hx:j=x
  .simp_all
  .have:l[i].d≠a[x].d:=by
    grind[vE]
   simp_all
theorem zV:(gB l i w).length<=a00 l:=by
 grind[gB]
def S8(B:List Ent) (dl:D) (a:List nb) (l:List cb) (k:Nat):St:=⟨Lc a::ds 3 (rS::.mp B.length::ds 24 (dl::da (a00 l:Int)::da (k:Int)::ds 69 [])),B++.mp (uD B.length 0 a (NF a l k))::GM (NF a l k)⟩
theorem UN{N:Nat}:∀{a:List nb}{L:BL}{k:Nat},((uD N k a L).all λe=>u! 0 e.1)=a29
 |[],L,k=>by cases L<;>rfl
 |w::a,[],k=>rfl
 |w::a,p::L,k=>by
  simp only[uD,Iag,UN,Y'];rfl
theorem GF{N:Nat}:∀{a:List nb}{L:BL}{k j:Nat},k+a00 L+1+N<=j->∀e∈uD N k a L,Tm.below j e.2=a29
 |[],L,k,j,_,e,he=>by grind[uD]
 |w::a,[],k,j,_,e,he=>by grind[uD]
 |w::a,p::L,k,j,h,e,he=>by
  simp only[w!]at h;simp only[uD,List.mem_cons]at he;rcases he with rfl|he
  .grind[Tm.below]
  .exact GF U e he
theorem HM:(GM L).all (Ent.below j)=a29:=by
 rw[Λ];intro e he;obtain⟨p,-,rfl⟩:=V!.1 he;exact ua _ _ (Fr.l _)
theorem OV:∀{a b:Nat},a≠b->qS a b=a29
 |0,0,h=>(h rfl).elim
 |0,_+1,_=>rfl
 |_+1,0,_=>rfl
 |a+1,b+1,h=>OV (a:=a) (b:=b) λe=>h (by rw[e])
theorem NA{α:Type}{l:List α}{x y:α}:(l++[x]).set l.length y=l++[y]:=p6
theorem az2{k:Nat}(hB:(B=[]/\dl=Ra l)\/(B=[.live 4 0 (l.map db)]/\dl=.own 0 0)):Fit B.length (S8 B dl a l k):=by
 have hj:0+(NF a l k).length+1+a00 B<=(S8 B dl a l k).m.length:=by grind[S8,GM]
 refine⟨U,?_,?_⟩
 .rcases hB with⟨rfl,rfl⟩|⟨rfl,rfl⟩<;>simp[S8,f?,Tm.below,Yj,Ml,bb,Fr.h,rS]
 .show(B++_::_).all _=a29;rw[Zah,Iag,tB (GF hj),HM];rcases hB with⟨rfl,rfl⟩|⟨rfl,rfl⟩
  all_goals grind[Ent.below,ua,Fr.l]
noncomputable def knB(a:List nb) (l:List cb) (k:Nat):List (Value×D):=(a.take k).map λw=>(.int .i64 w.d,Cb ⟨w.d,0,(Ks l w).a4,(Ks l w).bc⟩)
theorem wab{q:Int}(hn:(a.map λw=>w.d).Nodup) (hi:i<a00 a) (hq:q=a[i].d):fo (.int .i64 q) (knB a l i)=u4:=by
 have key:∀(b:List nb) (f:nb->D),(∀w∈b,w.d≠q)->fo (.int .i64 q) (b.map λw=>(.int .i64 w.d,f w))=u4:=by
  intro b f
  induction b with
  |nil=>intro _;rfl
  |cons w b ih=>
   grind[fo,Iq]
 refine key _ _ λw hw e=>?_;obtain⟨j,hj,rfl⟩:=O' hw
 grind[vE]
theorem ap8{d:D}(hn:(a.map λw=>w.d).Nodup) (hi:i<a00 a) (hw:w=a[i]) (hd:d=Cb ⟨w.d,0,(Ks l w).a4,(Ks l w).bc⟩):Er (.int .i64 w.d) d (knB a l i)=knB a l (i+1):=by
 have key:∀(b:List nb) (f:nb->D),(∀x∈b,x.d≠w.d)->Er (.int .i64 w.d) d (b.map λw=>(.int .i64 w.d,f w))=(b.map λw=>(.int .i64 w.d,f w))++[(.int .i64 w.d,d)]:=by
  intro b f
  induction b with
  |nil=>intro _;rfl
  |cons x b ih=>
   grind[Er,Iq]
 unfold knB;rw[key _ _ λx hx e=>?_,Ι,List.getElem?_eq_getElem hi,hd,hw]
 .grind
 .obtain⟨j,hj,rfl⟩:=O' hx
  grind[vE]
noncomputable def F7(B:List Ent) (a:List nb) (l:List cb) (E:List (Value×D)) (F:List Ent) (k:Nat):St:=⟨ds 5 (.mp B.length::ds 6 (.mp (a00 F+1+a00 B)::.own (a00 F+1+1+a00 B) k::ds 39 (Lc a::da (a00 a:Int)::da (k:Int)::ds 46 []))),B++.mp E::(F++[.mp (knB a l k),.live 4 k (((a.take k).map (Ks l)).map Cb)])⟩
theorem az1{k:Nat}{E:List (Value×D)}{F:List Ent}{G:BL}(hB:(B=[]/\dl=Ra l)\/(B=[.live 4 0 (l.map db)]/\dl=.own 0 0)) (hE:E=uD B.length 0 a G) (hF:F=GM G):Fit B.length (F7 B a l E F k):=by
 obtain⟨n6,hM⟩:∃n6,n6=(F7 B a l E F k).m.length:=⟨_,rfl⟩;have hj:0+a00 G+1+a00 B<=n6:=by grind[F7,GM]
 have hk:F.length+3+a00 B=n6:=by grind[F7]
 refine⟨U,?_,?_⟩
 .rw[←hM];simp[F7,f?,Tm.below,Yj,Ml,bb,Fr.h,rS];omega
 .rw[←hM];show(B++_::_).all _=a29;rw[Zah,Iag,Zah,hE,tB (GF hj),hF,HM];have h1:Ent.below n6 (.mp (knB a l k))=a29:=tB λe he=>by
   obtain⟨w,-,rfl⟩:=V!.1 he;exact bb _ _ (Fr.h (e:=Cb) _)
  have h2:Ent.below n6 (.live 4 k (((a.take k).map (Ks l)).map Cb))=a29:=ua _ _ (Fr.l _);rcases hB with⟨rfl,rfl⟩|⟨rfl,rfl⟩
  all_goals grind[Ent.below,ua,Fr.l]
theorem aG5(hB:(B=[]/\dl=Ra l)\/(B=[.live 4 0 (l.map db)]/\dl=.own 0 0)) (ha:a.length<=1048576) (hl:l.length<=1048576) (hn:(a.map λw=>w.d).Nodup) :
 T al B.length k84.F.code (EI B.length k84.F.results ⟨[zb (a.map (Ks l))],B⟩) ⟨[Lc a,dl]++Tm.ds 100 [],B⟩:=by
 simp only[k84,Kf.of,zs,ze];refine ss (rg ?_);simp only[zz];refine ss (rg ?_);simp only[zz];refine ss (ss (rg ?_));simp only[zz];refine T.LB a.length (S1b B dl a) ?_ (λi _=>?_) (λi hi=>?_) Oi ?_
 .simp only[S1b,Bag,D3,D!];exact At.same _ _ _ B!
 .exact az4 hB
 .obtain⟨E,hE⟩:∃E,E=D3 (a.take i):=⟨_,rfl⟩;have hall:(E.all λe=>u! 0 e.1)=a29:=by grind[ay7]
  rcases hB with⟨rfl,rfl⟩|⟨rfl,rfl⟩
  all_goals
   simp only[S1b,zz,←hE];refine ss (rg ?_);simp only[zz];refine ss (cd rfl ?_);simp only[zz];refine gP.mk (λhc=>?_) (λhc=>?_)
   .have hi:i<a00 a:=U
    obtain⟨w,hw⟩:∃w,w=a[i]:=⟨_,rfl⟩;have g2:a[i]?=M w:=p5
    refine sk ?_;simp only[zz];refine ss (bk (ss (rg ?_)));simp only[zz,g2,hi];refine rg ?_;simp only[zz,hall];refine rg ?_;have hw1:aa .i64 ((i:Int)+1)=((i+1:Nat):Int):=Ha U;have hput:Er (.int .i64 w.d) (.v (.slice u4 0 0)) E=D3 (a.take (i+1)):=by
     rw[hE,Ι,g2];refine iZ λx hx he=>?_;obtain⟨j,hj,rfl⟩:=O' hx
     grind[vE]
    simp only[zz,Qi,hw1,hput];refine⟨hi,?_⟩
    first
     |exact At.cut 1 B! rfl
     |exact At.cut 2 B! rfl
   .refine xt ?_;simp only[zz,Bw];have hi:i=a00 a:=U
    subst hi;refine⟨rfl,?_⟩;simp only[S1b,←hE];exact At.same _ _ _ B!
 .simp only[zz];rw[S1b,υ];refine bb7 l ?_;refine ss (ss (rg ?_));have hlen:∀m',pa (B++m') dl=M l.length:=by
   intro m';rcases hB with⟨rfl,rfl⟩|⟨rfl,rfl⟩<;>simp[pa,Ra]
  simp only[zz,hlen];refine T.LB l.length (S8 B dl a l) ?_ (λi _=>az2 hB) (λi hi=>?_) Oi ?_
  .simp only[S8];exact At.same _ _ _ B!
  .simp only[S8];obtain⟨E,hE⟩:∃E,E=uD B.length 0 a (NF a l i):=⟨_,rfl⟩;obtain⟨F,hF⟩:∃F,F=GM (NF a l i):=⟨_,rfl⟩;have hall:(E.all λe=>u! 0 e.1)=a29:=by grind[UN]
   have hFl:F.length=a00 a:=by grind[NF,IX]
   have hgl:(NF a l i).length=a00 a:=by simp[NF]
   have hlk:∀j (h:j<a00 a),fo (.int .i64 a[j].d) E=M (.own (j+1+a00 B) (gB l i a[j]).length):=λj h=>by
    simp_all[NF,Fab]
   have hput:∀j (h:j<a00 a) v g,Er (.int .i64 a[j].d) (.own (j+1+a00 B) v) E=uD B.length 0 a ((NF a l i).set j (v,g)):=λj h v g=>by
    rw[hE,←bi5 (v:=v) (g:=g) hn h U,Z!]
   have hno:∀q,(∀w∈a,w.d≠q)->fo (.int .i64 q) E=u4:=λq h=>by grind[MJ]
   simp only[←hE,←hF];rcases hB with⟨rfl,rfl⟩|⟨rfl,rfl⟩
   all_goals
    simp only[A?,w!,Z!,Hag]at hlk hput;simp only[zz];refine ss (rg ?_);simp only[zz];refine ss (cd rfl ?_);simp only[zz];refine gP.mk (λhc=>?_) (λhc=>?_)
    .have hi:i<a00 l:=U
     obtain⟨p,hp⟩:∃p,p=l[i]:=⟨_,rfl⟩;have g2:l[i]?=M p:=p5
     refine sk ?_;simp only[zz];refine ss (bk (ss (rg ?_)));simp only[zz,g2,hi,Iaf,NA];refine ss (rg ?_);simp only[zz,hall,Iaf,NA];have hw1:aa .i64 ((i:Int)+1)=((i+1:Nat):Int):=Ha U;by_cases hj:∃j,∃h:j<a00 a,a[j].d=p.d
     .obtain⟨j,hj,he⟩:=hj;obtain⟨g,hg⟩:∃g,g=gB l i a[j]:=⟨_,rfl⟩;have hgl:=zV (l:=l) (i:=i) (w:=a[j]);rw[←hg]at hgl;have k1:=hlk j hj;rw[he,←hg]at k1;have k2:∀y,(F++[y])[j]?=M (.live 4 g.length (g.map db)):=λy=>by
       grind[GM,NF]
      have k3:∀y e,(F++[y]).set j e=F.set j e++[y]:=λy e=>p5
      have k5:(a00 g+1)*32<=2 ^ 47:=U
      have k6:qS F.length j=a29:=OV U;have k7:qS F.length (a00 F+1)=a29:=OV U;have k8:∀x y,(F++[x]++[y])[j]?=M (.live 4 g.length (g.map db)):=λx y=>by
       grind
      have k9:∀x y,(F++[x]++[y])[a00 F+1]?=M y:=λx y=>by
       simp
      have k10:∀x y e,(F++[x]++[y]).set j e=F.set j e++[x]++[y]:=λx y e=>p5
      simp only[zz,k1,sz];refine ss (rg ?_);simp only[zz];refine cd rfl ?_;simp only[zz];refine ay Ie [[],[],[],[],[],[],[2]] aaK ?_;simp only[zz,zy,hall,k1,k2,k3,k5,k6,k7,k8,k9,k10,Iaf,NA];refine rg ?_;have k11:=hput j hj (a00 g+1) (g++[p]);rw[he]at k11;have k12:GM ((NF a l i).set j (a00 g+1,g++[p]))=F.set j (.live 4 (a00 g+1) (g.map db++[db p])):=by
       grind[GM,List.map_set]
      simp only[zz]at k12;have k13:=ar7 hi hn hj (he.trans (by rw[hp]));rw[←hg,←hp]at k13;simp only[zz,Qi,hw1,k11];refine⟨hi,?_⟩;rw[S8,k13,k12,H!]
      first
       |exact At.mk _ _ (_::_) _ B!
       |exact At.mk _ _ (_::_::_) _ B!
     .have hno1:∀w∈a,w.d≠p.d:=λw hw e=>by
       obtain⟨j,hj1,rfl⟩:=O' hw
       simp_all
      have k1:=hno _ hno1;simp only[zz,k1,sz];refine ss (rg ?_);simp only[zz];refine cd rfl ?_;simp only[zz];refine sk ?_;simp only[zz];refine rg ?_;simp only[zz,Qi,hw1];refine⟨hi,?_⟩;rw[S8,mab hi p5,←hE,←hF]
      first
       |exact At.mk _ _ (.mp E::F) _ B!
       |exact At.mk _ _ (_::.mp E::F) _ B!
    .refine xt ?_;simp only[zz,Bw];have hi:i=a00 l:=U
     subst hi;refine⟨rfl,?_⟩;simp only[S8,←hE,←hF];exact At.same _ _ _ B!
  .simp only[zz];rw[S8];obtain⟨G,hG⟩:∃G,G=NF a l l.length:=⟨_,rfl⟩;obtain⟨E,hE⟩:∃E,E=uD B.length 0 a G:=⟨_,rfl⟩;obtain⟨F,hF⟩:∃F,F=GM G:=⟨_,rfl⟩;rw[←hG,←hE,←hF];refine ss (rg ?_);simp only[zz];refine ss (rg ?_);simp only[zz];refine ss (ss (rg ?_));simp only[zz];refine T.Mv 13 4 rfl ?_;simp only[zz];refine T.LB a.length (F7 B a l E F) ?_ (λi _=>az1 hB hE hF) (λi hi=>?_) Oi ?_
   .simp only[F7,knB,Bag,D!,H!,B',G?];rw[show B.length+(a00 F+1)=a00 F+1+a00 B by omega,show F.length+1+a00 B+1=a00 F+1+1+a00 B by omega];exact At.same _ _ _ B!
   .simp only[F7];have gF:∀(t:List Ent) k,(F++t)[a00 F+k]?=t[k]?:=λt k=>s5
    have gF0:∀(t:List Ent),(F++t)[a00 F]?=t[0]?:=λt=>s5
    have sF:∀(t:List Ent) k e,(F++t).set (a00 F+k) e=F++t.set k e:=λt k e=>p6
    have sF0:∀(t:List Ent) e,(F++t).set F.length e=F++t.set 0 e:=λt e=>p6
    have hFl:F.length=a00 a:=by grind[NF,IX]
    have hlk:∀j (h:j<a00 a),fo (.int .i64 a[j].d) E=M (.own (j+1+a00 B) (gB l l.length a[j]).length):=λj h=>by
     simp_all[NF,Fab]
    have hall:(E.all λe=>u! 0 e.1)=a29:=by grind[UN]
    obtain⟨Q,hQ⟩:∃Q,Q=knB a l i:=⟨_,rfl⟩;have hallQ:(Q.all λe=>u! 0 e.1)=a29:=by
     rw[hQ,Λ];intro e he;obtain⟨w,-,rfl⟩:=V!.1 he;rfl
    obtain⟨R,hR⟩:∃R,R=(a.take i).map (Ks l):=⟨_,rfl⟩;simp only[←hQ,←hR];rcases hB with⟨rfl,rfl⟩|⟨rfl,rfl⟩
    all_goals
     simp only[A?,w!,Z!,Hag]at hlk;simp only[zz];refine ss (rg ?_);simp only[zz];refine ss (cd rfl ?_);simp only[zz];refine gP.mk (λhc=>?_) (λhc=>?_)
     .have hi:i<a00 a:=U
      obtain⟨w,hw⟩:∃w,w=a[i]:=⟨_,rfl⟩;have g2:a[i]?=M w:=p5
      have hw1:aa .i64 ((i:Int)+1)=((i+1:Nat):Int):=Ha U;refine sk ?_;simp only[zz];refine ss (bk (ss (rg ?_)));simp only[zz,g2,hi,H!,gF,sF,gF0,sF0];refine ss (rg ?_);have hkQ:fo (.int .i64 w.d) Q=u4:=by grind[wab]
      simp only[zz,hallQ,H!,gF,sF,gF0,sF0,hkQ,sz]
      first|refine ss (rg ?_)|refine ss (ss (rg ?_))|refine ss (ss (ss (rg ?_)))
      simp only[zz]
      first|refine ss (cd rfl ?_)|refine cd rfl ?_
      simp only[zz];obtain⟨g,hg⟩:∃g,g=gB l l.length w:=⟨_,rfl⟩;have k1:=hlk i hi;rw[←hw,←hg]at k1
      first|refine ss (rg ?_)|refine ss (ss (rg ?_))|refine ss (ss (ss (rg ?_)))
      simp only[zz,hall,k1,H!,gF,sF,gF0,sF0,sz];refine ss (dy Ie ?_);simp only[zz,zy,H!,gF,sF,gF0,sF0];have c1:Qf g w.d=M (mK w.d g [1,2,3]):=by
       unfold Qf;rw[J (by grind[zV])]
      have c2:Eh g w.d=M (v7 w.d g):=by
       unfold Eh;rw[J (by grind[zV])];rfl
      have kF:∀t:List Ent,(F++t)[i]?=M (.live 4 g.length (g.map db)):=λt=>by
       grind[GM,NF]
      refine lv (Vv c1) ?_ rfl s5 (by simp[xC,je]) (by simp_all[zg,zy]);simp only[zz,zy,H!,gF,sF,gF0,sF0];refine lv (py c2) ?_ rfl s5 (by simp[xC,je]) (by simp_all[zg,zy]);simp only[zz,zy,H!,gF,sF,gF0,sF0];have hputQ:Er (.int .i64 w.d) (.agg [.v (.int .i64 w.d),.v (.int .i64 0),.v (.int .i64 (mK w.d g [1,2,3])),.v (.int .i64 (v7 w.d g))]) Q=knB a l (i+1):=by
       rw[hQ];refine(ap8 hn hi hw ?_).trans rfl;simp only[Ks,hg,gB,υ];rfl
      first|refine rg ?_|refine ss (rg ?_)|refine ss (ss (rg ?_))
      simp only[zz,hallQ,hputQ,H!,gF,sF,gF0,sF0]
      first|refine rg ?_|refine ss (rg ?_)|refine ss (ss (rg ?_))
      simp only[zz,H!,gF,sF,gF0,sF0]
      first|refine rg ?_|refine ss (rg ?_)|refine ss (ss (rg ?_))
      simp only[zz,H!,gF,sF,gF0,sF0];have hR1:R.length=i:=p5
      have k5:(a00 R+1)*32<=2 ^ 47:=U
      have hd:∀x,x=(Ks l w).bd->R.map Cb++[.agg [.v (.int .i64 w.d),.v (.int .i64 x),.v (.int .i64 (mK w.d g [1,2,3])),.v (.int .i64 (v7 w.d g))]]=((a.take (i+1)).map (Ks l)).map Cb:=λx hx=>by
       rw[hR,Ι,g2,hx];simp only[Option.toList_some,ψ,w?,D!,Ks,hg,gB,υ];rfl
      first|refine ss (cd rfl ?_)|refine cd rfl ?_
      refine gP.mk (λhx=>?_) (λhx=>?_)
      .first|refine rg ?_|refine ss (rg ?_)
       simp only[zz,H!,gF,sF,gF0,sF0]
       first|refine ss (rg ?_)|refine rg ?_
       simp only[zz,k5,H!,gF,sF,gF0,sF0];refine rg ?_;have hd:=hd (mK w.d g [1,2,3]) (by
        simp_all[Ks,gB])
       simp only[zz,Qi,hw1,hd];refine⟨hi,?_⟩;simp only[F7];refine⟨B!,[?_,?_,?_],?_⟩
       rotate_left 3
       simp only[G?,B',H!];rfl
      .refine sk ?_;simp only[zz,H!,gF,sF,gF0,sF0]
       first|refine ss (rg ?_)|refine rg ?_
       simp only[zz,k5,H!,gF,sF,gF0,sF0];refine rg ?_;have hd:=hd w.ae (by
        simp_all[Ks])
       simp only[zz,Qi,hw1,hd];refine⟨hi,?_⟩;simp only[F7];refine⟨B!,[?_,?_,?_],?_⟩
       rotate_left 3
       simp only[G?,B',H!];rfl
     .refine xt ?_;simp only[zz,Bw];have hi:i=a00 a:=U
      subst hi;refine⟨rfl,?_⟩;simp only[F7,←hQ,←hR];exact At.same _ _ _ B!
   .simp only[zz];rw[F7,υ];have gF:∀(t:List Ent) k,(F++t)[a00 F+k]?=t[k]?:=λt k=>s5
    rcases hB with⟨rfl,rfl⟩|⟨rfl,rfl⟩
    all_goals
     simp only[zz];refine ss (rg ?_);simp only[zz];refine T.ret (mI ?_);simp only[zz,zr,Ev];have hb:Bt [(M 0,0,0)] (a00 F+1+1+1)=a29:=by simp[Bt]
     first
      |exact i!.q [] rfl s6 (by simp only[zg,gF,Bt,baj,xag,Aaf])
      |exact i!.q [(M 0,0,0)] rfl s6 (by simp only[zg,gF,hb,xag,Aaf])
theorem dO{t0 t1 r}(h:On t0 t1=M r):Wr al 84 [Lc t0,.own 0 0] [(4,t1.map db)] (zb r):=by
 unfold On at h;split at h
 .rename_i hc;obtain rfl:=R' h;exact Wr.of 100 k84 (aG5 (.inr ⟨rfl,rfl⟩) hc.1 hc.2.1 hc.2.2) aaW
 .cases h
instance aal{t0 t1 r}:Γ (On t0 t1=M r) (Wr al 84 [Lc t0,.own 0 0] [(4,t1.map db)] (zb r)):=⟨dO⟩
theorem yL{t0 t1 r}(h:On t0 t1=M r):k! al 84 [Lc t0,Ra t1] (zb r):=by
 unfold On at h;split at h
 .rename_i hc;obtain rfl:=R' h;exact BI Ξ.h ((JD k84 (ds:=[Lc t0,Ra t1]) (m:=[]) 100 rfl (aG5 (.inl ⟨rfl,rfl⟩) hc.1 hc.2.1 hc.2.2)).mono λd m' h=>by
   obtain⟨rfl,rfl⟩:=h;exact .same (Fr.h (e:=zb) _) .nil)
 .cases h
instance aam{t0 t1 r}:r? (On t0 t1=M r) (k! al 84 [Lc t0,Ra t1] (zb r)):=⟨yL⟩
end Go.Proofs.Dev
