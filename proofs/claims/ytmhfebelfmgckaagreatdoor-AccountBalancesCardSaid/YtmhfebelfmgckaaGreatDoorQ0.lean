/-
  Contracts of the functions: each answers as its plain partial function says.
-/
import Derived.Test.YtmhfebelfmgckaaGreatDoorG
import Derived.Test.YtmhfebelfmgckaaGreatDoorH1
import Derived.Test.YtmhfebelfmgckaaGreatDoorH2
import Derived.Test.YtmhfebelfmgckaaGreatDoorL1
open Option renaming some->M,none->s5
open And renaming intro->ak
open Go.Proofs.Tryz renaming prog->al
open Bool renaming and_true->pac,true->a38
open List renaming all_append->iad,all_cons->θ,all_eq_true->R',all_nil->sae,append_assoc->P',cons_append->G?,getElem?_concat_length->ζ,getElem?_cons_succ->Kab,getElem?_cons_zero->eab,getElem_cons_succ->nae,getElem_of_mem->H',length_cons->G!,length_nil->M!,map_append->eac,map_cons->D?,map_nil->R?,mem_map->V!,nil_append->O!,nodup_cons->Tac,replicate->k?,replicate_succ'->Yab,take_add_one->N!,take_length->ν,take_zero->Dad,length->a00
open Nat renaming add_lt_add_iff_right->fae,add_zero->vac,zero_add->Y!
open Option.some renaming inj->J'
set_option linter.all false
set_option maxHeartbeats 1000000
set_option maxRecDepth 10000
namespace Go.Proofs.Dev
open Go Go.Tm
variable {a:List ke}{i j:Nat}{l:List hO}{B:List Ent}{dl:D}{w:ke}
instance K0:C1 k36 Pt:=pg (ak k36.eq_1 Pt.eq_1) .o
instance aag{t0 r}:o! (Qz t0=M r) (jN al 37 [] [] 2 (t0.map Xi) (Qu r)):=⟨λh=>by
 refine jN.at 21 k37.ok k37.nm PJ PJ (Fr.l _) rfl ?_
 simp only[k37,Kf.of,zs,ze]
 unfold Qz at h
 exact pg trivial .o⟩
instance aah:C2 k49 Du:=pg (ak (ak k49.eq_1 Du.eq_1) Uo.eq_1) (.l (EN [33,8,2] []) (EN [] []) [] (.z 1 (.j (EN [161,2,89] []) .o .o)) .o)
instance N6:C1 k57 Qn:=pg (ak k57.eq_1 Qn.eq_1) (.z 1 (.j (EN [16,2,49] []) .o .o))
instance aai:C1 cf7 Dw:=pg (ak cf7.eq_1 Dw.eq_1) (.b .o (.j (EN [8,9,56,2,41] [0]) .o .o))
instance P0:C1 cd7 Wo:=pg (ak cd7.eq_1 Wo.eq_1) .o
instance fY:C2 cc2 Ve:=pg (ak cc2.eq_1 Ve.eq_1) (.z 3 (.j (EN [16,33,112,2,49] [0,8]) .o .o))
instance H7:C1 ca1 Kr:=pg (ak ca1.eq_1 Kr.eq_1) .o
instance nY:C1 bZ7 ij:=pg (ak bZ7.eq_1 ij.eq_1) (.z 1 (.j (EN [16,2,49] []) .o .o))
instance nR:C2 bW2 dh:=pg (ak bW2.eq_1 dh.eq_1) (.z 3 (.j (EN [16,17,16,9,112,2,49] [0]) .o .o))
instance aaj:C2 bU9 Ag:=pg (ak (ak bU9.eq_1 Ag.eq_1) aE.eq_1) (.l (EN [33,8,3,10,18,321] [260]) (EN [8,25,8,3,10] [260]) [5] (.z 3 (.j (EN [49,10,9] [2]) (.j (EN [65,120,2,193] [0]) .o (.j (EN [49,8,129] [2]) (.b (.t [256]) .o) .o)) (.t [256]))) (.j (EN [40,9] [2]) (.b (.t [256]) .o) .o))
instance aak:C2 bU8 Py:=pg (ak bU8.eq_1 Py.eq_1) (.z 1 (.j (EN [32,2,73] []) .o .o))
instance aal:C2 bU7 Dv:=pg (ak (ak bU7.eq_1 Dv.eq_1) xw.eq_1) (.l (EN [33,8,2,97] []) (EN [] []) [] .o .o)
theorem By{t0 t1 r} (h:Ld t0 t1=M r):e? al 351 [rf t0,ox t1] (za r):=by
 refine dk 7 bQ0 ?_
 simp only[bQ0,Kf.of,zs,ze]
 unfold Ld at h
 exact pg trivial .o
instance aam{t0 t1 r}:o! (Ld t0 t1=M r) (e? al 351 [rf t0,ox t1] (za r)):=⟨By⟩
instance Z9:C2 bN5 Gs:=pg (ak (ak bN5.eq_1 Gs.eq_1) Fm.eq_1) (.l (EN [33,8,2] []) (EN [] []) [] (.z 4 (.j (EN [113,144,2,97] []) .o (.b .o (.j (EN [257,96,2] []) .o .o)))) .o)
instance aan:C2 bK8 Cv:=pg (ak (ak bK8.eq_1 Cv.eq_1) Hs.eq_1) (.l (EN [33,8,2,105] []) (EN [] []) [] .o .o)
instance aao:C1 bE9 Pq:=pg (ak bE9.eq_1 Pq.eq_1) (.z 2 (.j (EN [17,112,2,145] []) .o (.b .o (.j (EN [16,2,105] []) .o .o))))
instance aap:C2 bE7 Oc:=pg (ak bE7.eq_1 Oc.eq_1) (.b (.j (EN [32,2] []) .o .o) (.b (.j (EN [32,2] []) .o .o) (.b (.j (EN [32,2] []) .o .o) (.b (.j (EN [32,2] []) .o .o) (.b .o (.b .o (.j (EN [16,17,632,2,153] [0,8]) .o (.b (.j (EN [32,2,625] []) .o .o) .o))))))))
abbrev BL:=List (Nat×List hO)
variable {L:BL}
def zW:D:=.v (.slice s5 0 0)
def gB(l:List hO) (k:Nat) (w:ke):List hO:=(l.take k).filter λp=>p.j==w.j
def oK(a:List ke) (l:List hO) (k:Nat):BL:=a.map λw=>((gB l k w).length,gB l k w)
def aI(N:Nat):Nat->List ke->BL->List (Value×D)
 |k,w::a,p::L=>(.int .i64 w.j,.own (k+1+N) p.1)::aI N (k+1) a L
 |_,_,_=>[]
def zR(L:BL):List Ent:=L.map λp=>.live 4 p.1 (p.2.map fb)
def o8(a:List ke):List (Value×D):=a.map λw=>(.int .i64 w.j,zW)
theorem aS2:((o8 a).all λe=>u? 0 e.1)=a38:=by
 rw[R'];intro e he;obtain⟨w,-,rfl⟩:=V!.1 he;rfl
theorem W4:∀{a:List ke}{w:ke},(∀x∈a,x.j≠w.j)->Iy (.int .i64 w.j) zW (o8 a)=o8 (a++[w])
 |[],w,_=>rfl
 |x::a,w,h=>by
  simp only[o8,D?,G?,Iy];rw[p6 (by grind[sv])];congr 1;exact W4 λy hy=>h y o4
theorem YI(hn:(a.map λw=>w.j).Nodup) (h:i<j) (hj:j<a00 a):a[i].j≠a[j].j:=by
 grind[List.pairwise_iff_getElem]
def S1b(B:List Ent) (dl:D) (a:List ke) (k:Nat):St:=⟨Dd a::dl::ds 2 (zW::.mp B.length::ds 14 (Dd a::da (a00 a:Int)::da (k:Int)::ds 79 [])),B++[.mp (o8 (a.take k))]⟩
theorem gG{es:List (Value×D)}(h:∀e∈es,Tm.below j e.2=a38):Ent.below j (.mp es)=a38:=by
 grind[Ent.below]
theorem aS8{k:Nat}(hB:(B=[]/\dl=Ga l)\/(B=[.live 4 0 (l.map fb)]/\dl=.own 0 0)):Ω B.length (S1b B dl a k):=by
 rcases hB with⟨rfl,rfl⟩|⟨rfl,rfl⟩
 all_goals
  refine⟨by simp[S1b],?_,?_⟩
  .simp[S1b,j?,Tm.below,Jn,Ap,Rc,Fr.h,zW]
  .simp only[S1b,iad,θ,sae,pac,Bool.and_eq_true];refine⟨?_,gG λe he=>?_⟩
   .grind[Ent.below,Ub,Fr.l]
   .obtain⟨w,-,rfl⟩:=V!.1 he;rfl
theorem lD.setE{n:Nat}{e e':Ent}(h:WL n e e'):∀{m:List Ent}{id:Nat},m[id]?=M e->lD n m (m.set id e')
 |[],id,h1=>by simp at h1
 |x::m,0,h1=>by
  grind[lD.cons,lD.refl]
 |x::m,id+1,h1=>lD.cons (WL.refl n x) (lD.setE h l5)
def Uw.mid{n:Nat}{q:List D}:∀{p:List D},Uw n (p++zW::q) (p++.own n 0::q)
 |[]=>Uw.cons (Ad.nil n) (Uw.refl n q)
 |d::p=>Uw.cons (Ad.refl n d) Uw.mid
def enX(N:Nat) (a:List ke) (x:Nat):List (Value×D):=aI N 0 (a.take x) (k? x (0,[]))++o8 (a.drop x)
theorem HV{N:Nat}{w:ke}{q:Nat×List hO}:∀{a:List ke}{L:BL}{k:Nat},a00 a=a00 L->aI N k (a++[w]) (L++[q])=aI N k a L++[(.int .i64 w.j,.own (k+a00 a+1+N) q.1)]
 |[],[],k,_=>by simp[aI]
 |x::a,p::L,k,h=>by
  simp only[G?,aI,HV (a:=a) (L:=L) l5,G!]
  grind
 |[],_::_,_,h=>o4
 |_::_,[],_,h=>o4
theorem V2:(zR L).length=a00 L:=by simp[zR]
theorem bt0{N:Nat}{c:C}{K:Exit->St->Prop}{t:List D}(l:List hO) (h:T al N c K ⟨t,B++.mp (aI B.length 0 a (oK a l 0))::zR (oK a l 0)⟩):T al N c K ⟨t,B++[.mp (o8 a)]⟩:=by
 have hg:oK a l 0=k? a.length (0,[]):=by
  simp_all[oK,gB,List.eq_replicate_iff]
 rw[hg]at h;have key:∀x,x<=a00 a->T al N c K ⟨t,B++.mp (enX B.length a x)::zR (k? x (0,[]))⟩->T al N c K ⟨t,B++[.mp (o8 a)]⟩:=by
  intro x
  induction x with
  |zero=>grind[enX,aI,zR]
  |succ x ih=>
   intro hx h;refine ih U ?_;have hd:a.drop x=a[x]::a.drop (x+1):=o0
   have hlen:(B++.mp (enX B.length a x)::zR (k? x (0,[]))).length=x+1+a00 B:=by grind[zR]
   have ht:aI B.length 0 (a.take (x+1)) (k? (x+1) (0,[]))=aI B.length 0 (a.take x) (k? x (0,[]))++[(.int .i64 a[x].j,.own (x+1+a00 B) 0)]:=by
    grind[Yab,HV]
   refine T.adoptM 4 (Uw.refl _ _) (m':=(B++.mp (enX B.length a x)::zR (k? x (0,[]))).set B.length (.mp (enX B.length a (x+1)))) (lD.setE (e:=.mp (enX B.length a x)) ?_ o0) ?_
   .rw[hlen];simp only[WL];unfold enX;rw[ht,hd];simp only[o8,eac,D?,R?,P',G?,O!]
    simp_all[Uw.mid]
   grind[zR,Yab]
 grind[enX,o8]
theorem am6{N:Nat}:∀{a:List ke}{L:BL}{k j:Nat}(hn:(a.map λw=>w.j).Nodup) (hj:j<a00 a) (hL:j<a00 L),Wt (.int .i64 a[j].j) (aI N k a L)=M (.own (k+j+1+N) L[j].1)
 |w::a,p::L,k,0,_,_,_=>by simp[aI,Wt,sv]
 |w::a,p::L,k,j+1,hn,hj,hL=>by
  simp only[D?,Tac]at hn;simp only[G!,fae]at hj hL;simp only[nae,aI,Wt];rw[p6 (by simp_all[sv]),am6 hn.2 hj hL,show k+1+j+1+N=k+(j+1)+1+N by omega]
theorem AO{N:Nat}{q:Int}:∀{a:List ke}{L:BL}{k:Nat},(∀w∈a,w.j≠q)->Wt (.int .i64 q) (aI N k a L)=s5
 |[],L,k,_=>by cases L<;>rfl
 |w::a,[],k,_=>rfl
 |w::a,p::L,k,h=>by
  simp only[aI,Wt];rw[p6 (by grind[sv]),AO λx hx=>h x o4]
theorem by9{N:Nat}{v:Nat}{g:List hO}:∀{a:List ke}{L:BL}{k j:Nat}(hn:(a.map λw=>w.j).Nodup) (hj:j<a00 a) (hL:j<a00 L),Iy (.int .i64 a[j].j) (.own (k+j+1+N) v) (aI N k a L)=aI N k a (L.set j (v,g))
 |w::a,p::L,k,0,_,_,_=>by simp[aI,Iy,sv]
 |w::a,p::L,k,j+1,hn,hj,hL=>by
  simp only[D?,Tac]at hn;simp only[G!,fae]at hj hL;simp only[nae,aI,Iy,List.set_cons_succ];rw[p6 (by simp_all[sv]),show k+(j+1)+1+N=k+1+j+1+N by omega,by9 hn.2 hj hL]
theorem I3(hi:i<a00 l) (w:ke):gB l (i+1) w=if l[i].j=w.j then gB l i w++[l[i]]else gB l i w:=by
 grind[gB,N!]
theorem ao5(hi:i<a00 l) (h:∀w∈a,w.j≠l[i].j):oK a l (i+1)=oK a l i:=
 List.map_congr_left λw hw=>by rw[I3 hi,p6 λe=>h w hw e.symm]
theorem aL6(hi:i<a00 l) (hn:(a.map λw=>w.j).Nodup) (hj:j<a00 a) (h:a[j].j=l[i].j):oK a l (i+1)=(oK a l i).set j ((gB l i a[j]).length+1,gB l i a[j]++[l[i]]):=by
 apply List.ext_getElem
 .simp[oK]
 .intro x h1 h2;simp only[oK,List.length_map]at h1;rw[List.getElem_set];simp only[oK,List.getElem_map,I3 hi];by_cases hx:j=x
  .simp_all
  .have:l[i].j≠a[x].j:=by
    grind[YI]
   simp_all
theorem nZ:(gB l i w).length<=a00 l:=by
 grind[gB]
def S2b(B:List Ent) (dl:D) (a:List ke) (l:List hO) (k:Nat):St:=⟨Dd a::ds 3 (zW::.mp B.length::ds 24 (dl::da (a00 l:Int)::da (k:Int)::ds 69 [])),B++.mp (aI B.length 0 a (oK a l k))::zR (oK a l k)⟩
theorem HS{N:Nat}:∀{a:List ke}{L:BL}{k:Nat},((aI N k a L).all λe=>u? 0 e.1)=a38
 |[],L,k=>by cases L<;>rfl
 |w::a,[],k=>rfl
 |w::a,p::L,k=>by
  simp only[aI,θ,HS,pac];rfl
theorem gK{N:Nat}:∀{a:List ke}{L:BL}{k j:Nat},k+a00 L+1+N<=j->∀e∈aI N k a L,Tm.below j e.2=a38
 |[],L,k,j,_,e,he=>by grind[aI]
 |w::a,[],k,j,_,e,he=>by grind[aI]
 |w::a,p::L,k,j,h,e,he=>by
  simp only[G!]at h;simp only[aI,List.mem_cons]at he;rcases he with rfl|he
  .grind[Tm.below]
  .exact gK U e he
theorem AR:(zR L).all (Ent.below j)=a38:=by
 rw[R'];intro e he;obtain⟨p,-,rfl⟩:=V!.1 he;exact Ub _ _ (Fr.l _)
theorem xZ:∀{a b:Nat},a≠b->yW a b=a38
 |0,0,h=>(h rfl).elim
 |0,_+1,_=>rfl
 |_+1,0,_=>rfl
 |a+1,b+1,h=>xZ (a:=a) (b:=b) λe=>h (by rw[e])
theorem HF{α:Type}{l:List α}{x y:α}:(l++[x]).set l.length y=l++[y]:=o0
theorem aS6{k:Nat}(hB:(B=[]/\dl=Ga l)\/(B=[.live 4 0 (l.map fb)]/\dl=.own 0 0)):Ω B.length (S2b B dl a l k):=by
 have hj:0+(oK a l k).length+1+a00 B<=(S2b B dl a l k).m.length:=by grind[S2b,zR]
 refine⟨U,?_,?_⟩
 .rcases hB with⟨rfl,rfl⟩|⟨rfl,rfl⟩<;>simp[S2b,j?,Tm.below,Jn,Ap,Rc,Fr.h,zW]
 .show(B++_::_).all _=a38;rw[iad,θ,gG (gK hj),AR];rcases hB with⟨rfl,rfl⟩|⟨rfl,rfl⟩
  all_goals grind[Ent.below,Ub,Fr.l]
noncomputable def knB(a:List ke) (l:List hO) (k:Nat):List (Value×D):=(a.take k).map λw=>(.int .i64 w.j,Bb ⟨w.j,0,(Yt l w).a1,(Yt l w).a3⟩)
theorem an4{q:Int}(hn:(a.map λw=>w.j).Nodup) (hi:i<a00 a) (hq:q=a[i].j):Wt (.int .i64 q) (knB a l i)=s5:=by
 have key:∀(b:List ke) (f:ke->D),(∀w∈b,w.j≠q)->Wt (.int .i64 q) (b.map λw=>(.int .i64 w.j,f w))=s5:=by
  intro b f
  induction b with
  |nil=>intro _;rfl
  |cons w b ih=>
   grind[Wt,sv]
 refine key _ _ λw hw e=>?_;obtain⟨j,hj,rfl⟩:=H' hw
 grind[YI]
theorem aK1{d:D}(hn:(a.map λw=>w.j).Nodup) (hi:i<a00 a) (hw:w=a[i]) (hd:d=Bb ⟨w.j,0,(Yt l w).a1,(Yt l w).a3⟩):Iy (.int .i64 w.j) d (knB a l i)=knB a l (i+1):=by
 have key:∀(b:List ke) (f:ke->D),(∀x∈b,x.j≠w.j)->Iy (.int .i64 w.j) d (b.map λw=>(.int .i64 w.j,f w))=(b.map λw=>(.int .i64 w.j,f w))++[(.int .i64 w.j,d)]:=by
  intro b f
  induction b with
  |nil=>intro _;rfl
  |cons x b ih=>
   grind[Iy,sv]
 unfold knB;rw[key _ _ λx hx e=>?_,N!,List.getElem?_eq_getElem hi,hd,hw]
 .grind
 .obtain⟨j,hj,rfl⟩:=H' hx
  grind[YI]
noncomputable def S3b(B:List Ent) (a:List ke) (l:List hO) (E:List (Value×D)) (F:List Ent) (k:Nat):St:=⟨ds 5 (.mp B.length::ds 6 (.mp (a00 F+1+a00 B)::.own (a00 F+1+1+a00 B) k::ds 39 (Dd a::da (a00 a:Int)::da (k:Int)::ds 46 []))),B++.mp E::(F++[.mp (knB a l k),.live 4 k (((a.take k).map (Yt l)).map Bb)])⟩
theorem aS5{k:Nat}{E:List (Value×D)}{F:List Ent}{G:BL}(hB:(B=[]/\dl=Ga l)\/(B=[.live 4 0 (l.map fb)]/\dl=.own 0 0)) (hE:E=aI B.length 0 a G) (hF:F=zR G):Ω B.length (S3b B a l E F k):=by
 obtain⟨j6,hM⟩:∃j6,j6=(S3b B a l E F k).m.length:=⟨_,rfl⟩;have hj:0+a00 G+1+a00 B<=j6:=by grind[S3b,zR]
 have hk:F.length+3+a00 B=j6:=by grind[S3b]
 refine⟨U,?_,?_⟩
 .rw[←hM];simp[S3b,j?,Tm.below,Jn,Ap,Rc,Fr.h,zW];omega
 .rw[←hM];show(B++_::_).all _=a38;rw[iad,θ,iad,hE,gG (gK hj),hF,AR];have h1:Ent.below j6 (.mp (knB a l k))=a38:=gG λe he=>by
   obtain⟨w,-,rfl⟩:=V!.1 he;exact Rc _ _ (Fr.h (e:=Bb) _)
  have h2:Ent.below j6 (.live 4 k (((a.take k).map (Yt l)).map Bb))=a38:=Ub _ _ (Fr.l _);rcases hB with⟨rfl,rfl⟩|⟨rfl,rfl⟩
  all_goals grind[Ent.below,Ub,Fr.l]
theorem aZ5(hB:(B=[]/\dl=Ga l)\/(B=[.live 4 0 (l.map fb)]/\dl=.own 0 0)) (ha:a.length<=1048576) (hl:l.length<=1048576) (hn:(a.map λw=>w.j).Nodup) :
 T al B.length k51.F.code (EI B.length k51.F.results ⟨[vb (a.map (Yt l))],B⟩) ⟨[Dd a,dl]++Tm.ds 100 [],B⟩:=by
 simp only[k51,Kf.of,zs,ze];refine ss (rg ?_);simp only[zz];refine ss (rg ?_);simp only[zz];refine ss (ss (rg ?_));simp only[zz];refine T.X6 a.length (S1b B dl a) ?_ (λi _=>?_) (λi hi=>?_) FA ?_
 .simp only[S1b,Dad,o8,R?];exact At.same _ _ _ B?
 .exact aS8 hB
 .obtain⟨E,hE⟩:∃E,E=o8 (a.take i):=⟨_,rfl⟩;have hall:(E.all λe=>u? 0 e.1)=a38:=by grind[aS2]
  rcases hB with⟨rfl,rfl⟩|⟨rfl,rfl⟩
  all_goals
   simp only[S1b,zz,←hE];refine ss (rg ?_);simp only[zz];refine ss (cd rfl ?_);simp only[zz];refine gP.mk (λhc=>?_) (λhc=>?_)
   .have hi:i<a00 a:=U
    obtain⟨w,hw⟩:∃w,w=a[i]:=⟨_,rfl⟩;have g2:a[i]?=M w:=l5
    refine sk ?_;simp only[zz];refine ss (bk (ss (rg ?_)));simp only[zz,g2,hi];refine rg ?_;simp only[zz,hall];refine rg ?_;have hw1:aa .i64 ((i:Int)+1)=((i+1:Nat):Int):=pa U;have hput:Iy (.int .i64 w.j) (.v (.slice s5 0 0)) E=o8 (a.take (i+1)):=by
     rw[hE,N!,g2];refine W4 λx hx he=>?_;obtain⟨j,hj,rfl⟩:=H' hx
     grind[YI]
    simp only[zz,Pn,hw1,hput];refine⟨hi,?_⟩
    first
     |exact At.cut 1 B? rfl
     |exact At.cut 2 B? rfl
   .refine xt ?_;simp only[zz,oD];have hi:i=a00 a:=U
    subst hi;refine⟨rfl,?_⟩;simp only[S1b,←hE];exact At.same _ _ _ B?
 .simp only[zz];rw[S1b,ν];refine bt0 l ?_;refine ss (ss (rg ?_));have hlen:∀m',Hd (B++m') dl=M l.length:=by
   intro m';rcases hB with⟨rfl,rfl⟩|⟨rfl,rfl⟩<;>simp[Hd,Ga]
  simp only[zz,hlen];refine T.X6 l.length (S2b B dl a l) ?_ (λi _=>aS6 hB) (λi hi=>?_) FA ?_
  .simp only[S2b];exact At.same _ _ _ B?
  .simp only[S2b];obtain⟨E,hE⟩:∃E,E=aI B.length 0 a (oK a l i):=⟨_,rfl⟩;obtain⟨F,hF⟩:∃F,F=zR (oK a l i):=⟨_,rfl⟩;have hall:(E.all λe=>u? 0 e.1)=a38:=by grind[HS]
   have hFl:F.length=a00 a:=by grind[oK,V2]
   have hgl:(oK a l i).length=a00 a:=by simp[oK]
   have hlk:∀j (h:j<a00 a),Wt (.int .i64 a[j].j) E=M (.own (j+1+a00 B) (gB l i a[j]).length):=λj h=>by
    simp_all[oK,am6]
   have hput:∀j (h:j<a00 a) v g,Iy (.int .i64 a[j].j) (.own (j+1+a00 B) v) E=aI B.length 0 a ((oK a l i).set j (v,g)):=λj h v g=>by
    rw[hE,←by9 (v:=v) (g:=g) hn h U,Y!]
   have hno:∀q,(∀w∈a,w.j≠q)->Wt (.int .i64 q) E=s5:=λq h=>by grind[AO]
   simp only[←hE,←hF];rcases hB with⟨rfl,rfl⟩|⟨rfl,rfl⟩
   all_goals
    simp only[M!,G!,Y!,vac]at hlk hput;simp only[zz];refine ss (rg ?_);simp only[zz];refine ss (cd rfl ?_);simp only[zz];refine gP.mk (λhc=>?_) (λhc=>?_)
    .have hi:i<a00 l:=U
     obtain⟨p,hp⟩:∃p,p=l[i]:=⟨_,rfl⟩;have g2:l[i]?=M p:=l5
     refine sk ?_;simp only[zz];refine ss (bk (ss (rg ?_)));simp only[zz,g2,hi,ζ,HF];refine ss (rg ?_);simp only[zz,hall,ζ,HF];have hw1:aa .i64 ((i:Int)+1)=((i+1:Nat):Int):=pa U;by_cases hj:∃j,∃h:j<a00 a,a[j].j=p.j
     .obtain⟨j,hj,he⟩:=hj;obtain⟨g,hg⟩:∃g,g=gB l i a[j]:=⟨_,rfl⟩;have hgl:=nZ (l:=l) (i:=i) (w:=a[j]);rw[←hg]at hgl;have k1:=hlk j hj;rw[he,←hg]at k1;have k2:∀y,(F++[y])[j]?=M (.live 4 g.length (g.map fb)):=λy=>by
       grind[zR,oK]
      have k3:∀y e,(F++[y]).set j e=F.set j e++[y]:=λy e=>l5
      have k5:(a00 g+1)*32<=2 ^ 47:=U
      have k6:yW F.length j=a38:=xZ U;have k7:yW F.length (a00 F+1)=a38:=xZ U;have k8:∀x y,(F++[x]++[y])[j]?=M (.live 4 g.length (g.map fb)):=λx y=>by
       grind
      have k9:∀x y,(F++[x]++[y])[a00 F+1]?=M y:=λx y=>by
       simp
      have k10:∀x y e,(F++[x]++[y]).set j e=F.set j e++[x]++[y]:=λx y e=>l5
      simp only[zz,k1,VI];refine ss (rg ?_);simp only[zz];refine cd rfl ?_;simp only[zz];refine ay Hz [[],[],[],[],[],[],[2]] Θ ?_;simp only[zz,zy,hall,k1,k2,k3,k5,k6,k7,k8,k9,k10,ζ,HF];refine rg ?_;have k11:=hput j hj (a00 g+1) (g++[p]);rw[he]at k11;have k12:zR ((oK a l i).set j (a00 g+1,g++[p]))=F.set j (.live 4 (a00 g+1) (g.map fb++[fb p])):=by
       grind[zR,List.map_set]
      simp only[zz]at k12;have k13:=aL6 hi hn hj (he.trans (by rw[hp]));rw[←hg,←hp]at k13;simp only[zz,Pn,hw1,k11];refine⟨hi,?_⟩;rw[S2b,k13,k12,P']
      first
       |exact At.mk _ _ (_::_) _ B?
       |exact At.mk _ _ (_::_::_) _ B?
     .have hno1:∀w∈a,w.j≠p.j:=λw hw e=>by
       obtain⟨j,hj1,rfl⟩:=H' hw
       simp_all
      have k1:=hno _ hno1;simp only[zz,k1,VI];refine ss (rg ?_);simp only[zz];refine cd rfl ?_;simp only[zz];refine sk ?_;simp only[zz];refine rg ?_;simp only[zz,Pn,hw1];refine⟨hi,?_⟩;rw[S2b,ao5 hi l5,←hE,←hF]
      first
       |exact At.mk _ _ (.mp E::F) _ B?
       |exact At.mk _ _ (_::.mp E::F) _ B?
    .refine xt ?_;simp only[zz,oD];have hi:i=a00 l:=U
     subst hi;refine⟨rfl,?_⟩;simp only[S2b,←hE,←hF];exact At.same _ _ _ B?
  .simp only[zz];rw[S2b];obtain⟨G,hG⟩:∃G,G=oK a l l.length:=⟨_,rfl⟩;obtain⟨E,hE⟩:∃E,E=aI B.length 0 a G:=⟨_,rfl⟩;obtain⟨F,hF⟩:∃F,F=zR G:=⟨_,rfl⟩;rw[←hG,←hE,←hF];refine ss (rg ?_);simp only[zz];refine ss (rg ?_);simp only[zz];refine ss (ss (rg ?_));simp only[zz];refine T.wE 13 4 rfl ?_;simp only[zz];refine T.X6 a.length (S3b B a l E F) ?_ (λi _=>aS5 hB hE hF) (λi hi=>?_) FA ?_
   .simp only[S3b,knB,Dad,R?,P',G?,O!];rw[show B.length+(a00 F+1)=a00 F+1+a00 B by omega,show F.length+1+a00 B+1=a00 F+1+1+a00 B by omega];exact At.same _ _ _ B?
   .simp only[S3b];have gF:∀(t:List Ent) k,(F++t)[a00 F+k]?=t[k]?:=λt k=>o4
    have gF0:∀(t:List Ent),(F++t)[a00 F]?=t[0]?:=λt=>o4
    have sF:∀(t:List Ent) k e,(F++t).set (a00 F+k) e=F++t.set k e:=λt k e=>o0
    have sF0:∀(t:List Ent) e,(F++t).set F.length e=F++t.set 0 e:=λt e=>o0
    have hFl:F.length=a00 a:=by grind[oK,V2]
    have hlk:∀j (h:j<a00 a),Wt (.int .i64 a[j].j) E=M (.own (j+1+a00 B) (gB l l.length a[j]).length):=λj h=>by
     simp_all[oK,am6]
    have hall:(E.all λe=>u? 0 e.1)=a38:=by grind[HS]
    obtain⟨Q,hQ⟩:∃Q,Q=knB a l i:=⟨_,rfl⟩;have hallQ:(Q.all λe=>u? 0 e.1)=a38:=by
     rw[hQ,R'];intro e he;obtain⟨w,-,rfl⟩:=V!.1 he;rfl
    obtain⟨R,hR⟩:∃R,R=(a.take i).map (Yt l):=⟨_,rfl⟩;simp only[←hQ,←hR];rcases hB with⟨rfl,rfl⟩|⟨rfl,rfl⟩
    all_goals
     simp only[M!,G!,Y!,vac]at hlk;simp only[zz];refine ss (rg ?_);simp only[zz];refine ss (cd rfl ?_);simp only[zz];refine gP.mk (λhc=>?_) (λhc=>?_)
     .have hi:i<a00 a:=U
      obtain⟨w,hw⟩:∃w,w=a[i]:=⟨_,rfl⟩;have g2:a[i]?=M w:=l5
      have hw1:aa .i64 ((i:Int)+1)=((i+1:Nat):Int):=pa U;refine sk ?_;simp only[zz];refine ss (bk (ss (rg ?_)));simp only[zz,g2,hi,P',gF,sF,gF0,sF0];refine ss (rg ?_);have hkQ:Wt (.int .i64 w.j) Q=s5:=by grind[an4]
      simp only[zz,hallQ,P',gF,sF,gF0,sF0,hkQ,VI]
      first|refine ss (rg ?_)|refine ss (ss (rg ?_))|refine ss (ss (ss (rg ?_)))
      simp only[zz]
      first|refine ss (cd rfl ?_)|refine cd rfl ?_
      simp only[zz];obtain⟨g,hg⟩:∃g,g=gB l l.length w:=⟨_,rfl⟩;have k1:=hlk i hi;rw[←hw,←hg]at k1
      first|refine ss (rg ?_)|refine ss (ss (rg ?_))|refine ss (ss (ss (rg ?_)))
      simp only[zz,hall,k1,P',gF,sF,gF0,sF0,VI];refine ss (dy Hz ?_);simp only[zz,zy,P',gF,sF,gF0,sF0];have c1:Sg g w.j=M (ZO w.j g [1,2,3]):=by
       unfold Sg;rw[J (by grind[nZ])]
      have c2:Uj g w.j=M (υ w.j g):=by
       unfold Uj;rw[J (by grind[nZ])];rfl
      have kF:∀t:List Ent,(F++t)[i]?=M (.live 4 g.length (g.map fb)):=λt=>by
       grind[zR,oK]
      refine lv (jA c1) ?_ rfl o4 (by simp[iH,df]) (by simp_all[zg,zy]);simp only[zz,zy,P',gF,sF,gF0,sF0];refine lv (HC c2) ?_ rfl o4 (by simp[iH,df]) (by simp_all[zg,zy]);simp only[zz,zy,P',gF,sF,gF0,sF0];have hputQ:Iy (.int .i64 w.j) (.agg [.v (.int .i64 w.j),.v (.int .i64 0),.v (.int .i64 (ZO w.j g [1,2,3])),.v (.int .i64 (υ w.j g))]) Q=knB a l (i+1):=by
       rw[hQ];refine(aK1 hn hi hw ?_).trans rfl;simp only[Yt,hg,gB,ν];rfl
      first|refine rg ?_|refine ss (rg ?_)|refine ss (ss (rg ?_))
      simp only[zz,hallQ,hputQ,P',gF,sF,gF0,sF0]
      first|refine rg ?_|refine ss (rg ?_)|refine ss (ss (rg ?_))
      simp only[zz,P',gF,sF,gF0,sF0]
      first|refine rg ?_|refine ss (rg ?_)|refine ss (ss (rg ?_))
      simp only[zz,P',gF,sF,gF0,sF0];have hR1:R.length=i:=l5
      have k5:(a00 R+1)*32<=2 ^ 47:=U
      have hd:∀x,x=(Yt l w).a8->R.map Bb++[.agg [.v (.int .i64 w.j),.v (.int .i64 x),.v (.int .i64 (ZO w.j g [1,2,3])),.v (.int .i64 (υ w.j g))]]=((a.take (i+1)).map (Yt l)).map Bb:=λx hx=>by
       rw[hR,N!,g2,hx];simp only[Option.toList_some,eac,D?,R?,Yt,hg,gB,ν];rfl
      first|refine ss (cd rfl ?_)|refine cd rfl ?_
      refine gP.mk (λhx=>?_) (λhx=>?_)
      .first|refine rg ?_|refine ss (rg ?_)
       simp only[zz,P',gF,sF,gF0,sF0]
       first|refine ss (rg ?_)|refine rg ?_
       simp only[zz,k5,P',gF,sF,gF0,sF0];refine rg ?_;have hd:=hd (ZO w.j g [1,2,3]) (by
        simp_all[Yt,gB])
       simp only[zz,Pn,hw1,hd];refine⟨hi,?_⟩;simp only[S3b];refine⟨B?,[?_,?_,?_],?_⟩
       rotate_left 3
       simp only[O!,G?,P'];rfl
      .refine sk ?_;simp only[zz,P',gF,sF,gF0,sF0]
       first|refine ss (rg ?_)|refine rg ?_
       simp only[zz,k5,P',gF,sF,gF0,sF0];refine rg ?_;have hd:=hd w.ae (by
        simp_all[Yt])
       simp only[zz,Pn,hw1,hd];refine⟨hi,?_⟩;simp only[S3b];refine⟨B?,[?_,?_,?_],?_⟩
       rotate_left 3
       simp only[O!,G?,P'];rfl
     .refine xt ?_;simp only[zz,oD];have hi:i=a00 a:=U
      subst hi;refine⟨rfl,?_⟩;simp only[S3b,←hQ,←hR];exact At.same _ _ _ B?
   .simp only[zz];rw[S3b,ν];have gF:∀(t:List Ent) k,(F++t)[a00 F+k]?=t[k]?:=λt k=>o4
    rcases hB with⟨rfl,rfl⟩|⟨rfl,rfl⟩
    all_goals
     simp only[zz];refine ss (rg ?_);simp only[zz];refine T.ret (kN ?_);simp only[zz,zr,Vz];have hb:Gx [(M 0,0,0)] (a00 F+1+1+1)=a38:=by simp[Gx]
     first
      |exact f'.q [] rfl p5 (by simp only[zg,gF,Gx,sae,Kab,eab])
      |exact f'.q [(M 0,0,0)] rfl p5 (by simp only[zg,gF,hb,Kab,eab])
theorem PS{t0 t1 r}(h:Ir t0 t1=M r):Ou al 51 [Dd t0,.own 0 0] [(4,t1.map fb)] (vb r):=by
 unfold Ir at h;split at h
 .rename_i hc;obtain rfl:=J' h;exact Ou.of 100 k51 (aZ5 (.inr ⟨rfl,rfl⟩) hc.1 hc.2.1 hc.2.2) aaI
 .cases h
instance aaq{t0 t1 r}:Q! (Ir t0 t1=M r) (Ou al 51 [Dd t0,.own 0 0] [(4,t1.map fb)] (vb r)):=⟨PS⟩
theorem tQ{t0 t1 r}(h:Ir t0 t1=M r):e? al 51 [Dd t0,Ga t1] (vb r):=by
 unfold Ir at h;split at h
 .rename_i hc;obtain rfl:=J' h;exact CN U!.h ((oI k51 (ds:=[Dd t0,Ga t1]) (m:=[]) 100 rfl (aZ5 (.inl ⟨rfl,rfl⟩) hc.1 hc.2.1 hc.2.2)).mono λd m' h=>by
   obtain⟨rfl,rfl⟩:=h;exact .same (Fr.h (e:=vb) _) .nil)
 .cases h
instance aar{t0 t1 r}:o! (Ir t0 t1=M r) (e? al 51 [Dd t0,Ga t1] (vb r)):=⟨tQ⟩
instance haa:C2 ch4 Ns:=pg (ak (ak ch4.eq_1 Ns.eq_1) Vm.eq_1) (.l (EN [33,8,2,10,169] []) (EN [40,2] []) [] (.z 2 (.j (EN [41,2,9] []) .o .o)) .o)
instance I7:C1 cf5 gk:=pg (ak cf5.eq_1 gk.eq_1) .o
instance aas:C1 cf3 re:=pg (ak (ak cf3.eq_1 re.eq_1) Jc.eq_1) (.z 2 (.j (EN [8,9,128,2,209] [0]) .o (.l (EN [8,137,16,17,2,177] [0]) (EN [] []) [] (.z 4 (.j (EN [8,17,136,25,160,2,9] [0]) .o .o)) .o)))
instance aat:C4 cb8 jG:=pg (ak (ak cb8.eq_1 jG.eq_1) Mz.eq_1) (.l ⟨[.k 8,.p 3,.i 1],[.o 2,.h 3 [.g [.p 4,.s (.own 2 0),.p 1]],.ni 2 0,.o 4]⟩ ⟨[.k 8,.p 2],[.o 2,.h 3 [.g [.p 4,.s (.own 2 0),.p 1]],.ni 2 0]⟩ [8,12,9,16] (.b (.t [0,4,264,12]) .o) .o)
instance aau:C3 bN6 uw:=pg (ak (ak bN6.eq_1 uw.eq_1) Rl.eq_1) (.l (EN [8,9,2,25,8,10,9] [0]) (EN [] []) [] (.z 1 (.j (EN [8,9,8,145,2,105] [0]) .o .o)) .o)
end Go.Proofs.Dev
