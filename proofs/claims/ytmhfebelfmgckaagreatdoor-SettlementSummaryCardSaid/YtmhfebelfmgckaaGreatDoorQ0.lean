/-
  Contracts of the functions: each answers as its plain partial function says.
-/
import Derived.Test.YtmhfebelfmgckaaGreatDoorG
import Derived.Test.YtmhfebelfmgckaaGreatDoorH1
import Derived.Test.YtmhfebelfmgckaaGreatDoorH2
import Derived.Test.YtmhfebelfmgckaaGreatDoorL1
open Option renaming some->M,none->q6
open And renaming intro->ak
open Go.Proofs.Tryz renaming prog->al
open Bool renaming and_true->hac,true->a35
open List renaming all_append->Uac,all_cons->ς,all_eq_true->R',all_nil->fae,append_assoc->P?,cons_append->G!,getElem?_concat_length->ο,getElem?_cons_succ->zab,getElem?_cons_zero->ξ,getElem_cons_succ->aae,getElem_of_mem->H',length_cons->H!,length_nil->L!,map_append->Wab,map_cons->F?,map_nil->W?,mem_map->X',nil_append->N',nodup_cons->yac,replicate->l!,replicate_succ'->Nab,take_add_one->O',take_length->η,take_zero->qad,length->a00
open Nat renaming add_lt_add_iff_right->Tad,add_zero->oac,zero_add->Y?
open Option.some renaming inj->J!
set_option linter.all false
set_option maxHeartbeats 1000000
set_option maxRecDepth 10000
namespace Go.Proofs.Dev
open Go Go.Tm
variable {a:List ka}{i j:Nat}{l:List ic}{B:List Ent}{dl:D}{w:ka}
instance aag:C2 cg5 Jm:=pg (ak (ak cg5.eq_1 Jm.eq_1) sq.eq_1) (.l (EN [33,8,9,10,18] [2]) (EN [8,25,8,9,10] [2]) [] (.z 3 (.j (EN [49,10,17] [2]) (.j (EN [73,120,2,193] [0]) .o (.b (.b (.t [256]) .o) .o)) (.t [256]))) (.j (EN [40,9] [2]) (.b (.t [256]) .o) .o))
instance aah:C2 cf9 xw:=pg (ak (ak cf9.eq_1 xw.eq_1) wq.eq_1) (.l (EN [33,8,2,10,233] []) (EN [40,2] []) [] (.z 2 (.j (EN [41,2,9] []) (.j (EN [57,160,2,65] []) .o .o) .o)) .o)
instance XP:C2 ce0 xe:=pg (ak ce0.eq_1 xe.eq_1) (.z 3 (.j (EN [16,17,16,9,112,2,49] [0]) .o .o))
instance OZ:C1 cc5 Po:=pg (ak cc5.eq_1 Po.eq_1) .o
instance aai:C2 bZ8 tt:=pg (ak (ak bZ8.eq_1 tt.eq_1) (ak Zp.eq_1 aq.eq_1)) (.l (EN [33,8,3,10,353] [260]) (EN [33,8,3] [260]) [5] (.z 2 (.j (EN [65] [2]) (.b (.t [256]) .o) .o)) (.l (EN [57,10,153] [2]) (EN [40,17] [2]) [256] (.z 2 (.j (EN [249] [2]) (.b (.t [256]) .o) .o)) .o))
instance aaj:C1 bX2 aK:=pg (ak bX2.eq_1 aK.eq_1) (.z 1 (.j (EN [16,2,49] []) .o .o))
instance IQ:C2 bV5 Xg:=pg (ak bV5.eq_1 Xg.eq_1) (.z 3 (.j (EN [16,17,16,9,112,2,49] [0]) .o .o))
instance aak:C2 bU1 Ay:=pg (ak bU1.eq_1 Ay.eq_1) (.z 1 (.j (EN [32,2,73] []) .o .o))
instance aal:C2 bU0 yv:=pg (ak (ak bU0.eq_1 yv.eq_1) qw.eq_1) (.l (EN [33,8,2,97] []) (EN [] []) [] .o .o)
theorem Hw{t0}{t1:se->Option Bool}{k1:Nat}{q1:List D}(hc1:oa q1=a35)(hp1:∀ x0 r,t1 x0=M r->e? al k1 ([Lv x0]++q1) (za r)){r} (h:vc t0 t1=M r):e? al 303 [vE t0,.fn k1 [] q1] (.tup [da r.1,za r.2]):=by
 haveI I1:∀ x0 r,o! (t1 x0=M r) (e? al k1 ([Lv x0]++q1) (za r)):=λx0 r=>⟨hp1 x0 r⟩
 have s1:∀ f:D->D->Prop,YD f q1 q1=True:=λ_=>Yk hc1
 have z1:∀ a b n,JB a b n q1=q1:=λ_ _ _=>mh _ _ _ _ hc1
 refine e?.at 18 bk0.ok bk0.nm (IN (frF hc1 QK)) rfl ?_
 simp only[bk0,Kf.of,zs,ze]
 unfold vc at h
 exact pg Xb.eq_1 (.l (EN [8,25,32,17,2,73] []) (EN [] []) [] .o .o)
instance aam:C2 bL2 fy:=pg (ak bL2.eq_1 fy.eq_1) (.b (.j (EN [32,2] []) .o .o) (.b (.j (EN [32,2] []) .o .o) (.b (.j (EN [32,2] []) .o .o) (.b .o (.j (EN [16,17,488,2,121] [0,8]) .o (.b (.j (EN [32,2,481] []) .o .o) .o))))))
instance aan:C2 bK3 xv:=pg (ak (ak bK3.eq_1 xv.eq_1) As.eq_1) (.l (EN [33,8,2,105] []) (EN [] []) [] .o .o)
instance aao:C4 bH1 Pu:=pg (ak bH1.eq_1 Pu.eq_1) (.b .o (.b .o (.b .o (.z 1 (.j (EN [8,17,232,2,17] []) .o .o)))))
instance aap:C1 bG9 Bp:=pg (ak bG9.eq_1 Bp.eq_1) (.z 1 (.j (EN [16,2,81] []) .o .o))
instance aaq:C1 bE9 bj:=pg (ak bE9.eq_1 bj.eq_1) .o
instance oW:C2 bD6 Fk:=pg (ak bD6.eq_1 Fk.eq_1) (.z 2 (.j ⟨[.p 4,.k 3,.w 0,.p 4],[]⟩ .o (.z 2 (.j (EN [57,8,105,104,2,217] []) .o .o))))
instance uQ:C1 k33 Db:=pg (ak k33.eq_1 Db.eq_1) .o
abbrev BL:=List (Nat×List ic)
variable {L:BL}
def XV:D:=.v (.slice q6 0 0)
def gB(l:List ic) (k:Nat) (w:ka):List ic:=(l.take k).filter λp=>p.q==w.q
def GJ(a:List ka) (l:List ic) (k:Nat):BL:=a.map λw=>((gB l k w).length,gB l k w)
def AH(N:Nat):Nat->List ka->BL->List (Value×D)
 |k,w::a,p::L=>(.int .i64 w.q,.own (k+1+N) p.1)::AH N (k+1) a L
 |_,_,_=>[]
def UQ(L:BL):List Ent:=L.map λp=>.live 4 p.1 (p.2.map ab)
def N7(a:List ka):List (Value×D):=a.map λw=>(.int .i64 w.q,XV)
theorem aR6:((N7 a).all λe=>u? 0 e.1)=a35:=by
 rw[R'];intro e he;obtain⟨w,-,rfl⟩:=X'.1 he;rfl
theorem B4:∀{a:List ka}{w:ka},(∀x∈a,x.q≠w.q)->Ry (.int .i64 w.q) XV (N7 a)=N7 (a++[w])
 |[],w,_=>rfl
 |x::a,w,h=>by
  simp only[N7,F?,G!,Ry];rw[p5 (by grind[dv])];congr 1;exact B4 λy hy=>h y o0
theorem qI(hn:(a.map λw=>w.q).Nodup) (h:i<j) (hj:j<a00 a):a[i].q≠a[j].q:=by
 grind[List.pairwise_iff_getElem]
def S1b(B:List Ent) (dl:D) (a:List ka) (k:Nat):St:=⟨xd a::dl::ds 2 (XV::.mp B.length::ds 14 (xd a::da (a00 a:Int)::da (k:Int)::ds 79 [])),B++[.mp (N7 (a.take k))]⟩
theorem FF{es:List (Value×D)}(h:∀e∈es,Tm.below j e.2=a35):Ent.below j (.mp es)=a35:=by
 grind[Ent.below]
theorem aS2{k:Nat}(hB:(B=[]/\dl=Ha l)\/(B=[.live 4 0 (l.map ab)]/\dl=.own 0 0)):δ B.length (S1b B dl a k):=by
 rcases hB with⟨rfl,rfl⟩|⟨rfl,rfl⟩
 all_goals
  refine⟨by simp[S1b],?_,?_⟩
  .simp[S1b,j?,Tm.below,Cn,kp,Nc,Fr.h,XV]
  .simp only[S1b,Uac,ς,fae,hac,Bool.and_eq_true];refine⟨?_,FF λe he=>?_⟩
   .grind[Ent.below,Sb,Fr.l]
   .obtain⟨w,-,rfl⟩:=X'.1 he;rfl
theorem MC.setE{n:Nat}{e e':Ent}(h:qL n e e'):∀{m:List Ent}{id:Nat},m[id]?=M e->MC n m (m.set id e')
 |[],id,h1=>by simp at h1
 |x::m,0,h1=>by
  grind[MC.cons,MC.refl]
 |x::m,id+1,h1=>MC.cons (qL.refl n x) (MC.setE h l4)
def Ow.mid{n:Nat}{q:List D}:∀{p:List D},Ow n (p++XV::q) (p++.own n 0::q)
 |[]=>Ow.cons (Ad.nil n) (Ow.refl n q)
 |d::p=>Ow.cons (Ad.refl n d) Ow.mid
def enX(N:Nat) (a:List ka) (x:Nat):List (Value×D):=AH N 0 (a.take x) (l! x (0,[]))++N7 (a.drop x)
theorem dV{N:Nat}{w:ka}{q:Nat×List ic}:∀{a:List ka}{L:BL}{k:Nat},a00 a=a00 L->AH N k (a++[w]) (L++[q])=AH N k a L++[(.int .i64 w.q,.own (k+a00 a+1+N) q.1)]
 |[],[],k,_=>by simp[AH]
 |x::a,p::L,k,h=>by
  simp only[G!,AH,dV (a:=a) (L:=L) l4,H!]
  grind
 |[],_::_,_,h=>o0
 |_::_,[],_,h=>o0
theorem L1:(UQ L).length=a00 L:=by simp[UQ]
theorem bs5{N:Nat}{c:C}{K:Exit->St->Prop}{t:List D}(l:List ic) (h:T al N c K ⟨t,B++.mp (AH B.length 0 a (GJ a l 0))::UQ (GJ a l 0)⟩):T al N c K ⟨t,B++[.mp (N7 a)]⟩:=by
 have hg:GJ a l 0=l! a.length (0,[]):=by
  simp_all[GJ,gB,List.eq_replicate_iff]
 rw[hg]at h;have key:∀x,x<=a00 a->T al N c K ⟨t,B++.mp (enX B.length a x)::UQ (l! x (0,[]))⟩->T al N c K ⟨t,B++[.mp (N7 a)]⟩:=by
  intro x
  induction x with
  |zero=>grind[enX,AH,UQ]
  |succ x ih=>
   intro hx h;refine ih U ?_;have hd:a.drop x=a[x]::a.drop (x+1):=l5
   have hlen:(B++.mp (enX B.length a x)::UQ (l! x (0,[]))).length=x+1+a00 B:=by grind[UQ]
   have ht:AH B.length 0 (a.take (x+1)) (l! (x+1) (0,[]))=AH B.length 0 (a.take x) (l! x (0,[]))++[(.int .i64 a[x].q,.own (x+1+a00 B) 0)]:=by
    grind[Nab,dV]
   refine T.adoptM 4 (Ow.refl _ _) (m':=(B++.mp (enX B.length a x)::UQ (l! x (0,[]))).set B.length (.mp (enX B.length a (x+1)))) (MC.setE (e:=.mp (enX B.length a x)) ?_ l5) ?_
   .rw[hlen];simp only[qL];unfold enX;rw[ht,hd];simp only[N7,Wab,F?,W?,P?,G!,N']
    simp_all[Ow.mid]
   grind[UQ,Nab]
 grind[enX,N7]
theorem am6{N:Nat}:∀{a:List ka}{L:BL}{k j:Nat}(hn:(a.map λw=>w.q).Nodup) (hj:j<a00 a) (hL:j<a00 L),Pt (.int .i64 a[j].q) (AH N k a L)=M (.own (k+j+1+N) L[j].1)
 |w::a,p::L,k,0,_,_,_=>by simp[AH,Pt,dv]
 |w::a,p::L,k,j+1,hn,hj,hL=>by
  simp only[F?,yac]at hn;simp only[H!,Tad]at hj hL;simp only[aae,AH,Pt];rw[p5 (by simp_all[dv]),am6 hn.2 hj hL,show k+1+j+1+N=k+(j+1)+1+N by omega]
theorem TN{N:Nat}{q:Int}:∀{a:List ka}{L:BL}{k:Nat},(∀w∈a,w.q≠q)->Pt (.int .i64 q) (AH N k a L)=q6
 |[],L,k,_=>by cases L<;>rfl
 |w::a,[],k,_=>rfl
 |w::a,p::L,k,h=>by
  simp only[AH,Pt];rw[p5 (by grind[dv]),TN λx hx=>h x o0]
theorem by5{N:Nat}{v:Nat}{g:List ic}:∀{a:List ka}{L:BL}{k j:Nat}(hn:(a.map λw=>w.q).Nodup) (hj:j<a00 a) (hL:j<a00 L),Ry (.int .i64 a[j].q) (.own (k+j+1+N) v) (AH N k a L)=AH N k a (L.set j (v,g))
 |w::a,p::L,k,0,_,_,_=>by simp[AH,Ry,dv]
 |w::a,p::L,k,j+1,hn,hj,hL=>by
  simp only[F?,yac]at hn;simp only[H!,Tad]at hj hL;simp only[aae,AH,Ry,List.set_cons_succ];rw[p5 (by simp_all[dv]),show k+(j+1)+1+N=k+1+j+1+N by omega,by5 hn.2 hj hL]
theorem B2(hi:i<a00 l) (w:ka):gB l (i+1) w=if l[i].q=w.q then gB l i w++[l[i]]else gB l i w:=by
 grind[gB,O']
theorem ao5(hi:i<a00 l) (h:∀w∈a,w.q≠l[i].q):GJ a l (i+1)=GJ a l i:=
 List.map_congr_left λw hw=>by rw[B2 hi,p5 λe=>h w hw e.symm]
theorem aL0(hi:i<a00 l) (hn:(a.map λw=>w.q).Nodup) (hj:j<a00 a) (h:a[j].q=l[i].q):GJ a l (i+1)=(GJ a l i).set j ((gB l i a[j]).length+1,gB l i a[j]++[l[i]]):=by
 apply List.ext_getElem
 .simp[GJ]
 .intro x h1 h2;simp only[GJ,List.length_map]at h1;rw[List.getElem_set];simp only[GJ,List.getElem_map,B2 hi];by_cases hx:j=x
  .simp_all
  .have:l[i].q≠a[x].q:=by
    grind[qI]
   simp_all
theorem LY:(gB l i w).length<=a00 l:=by
 grind[gB]
def S2b(B:List Ent) (dl:D) (a:List ka) (l:List ic) (k:Nat):St:=⟨xd a::ds 3 (XV::.mp B.length::ds 24 (dl::da (a00 l:Int)::da (k:Int)::ds 69 [])),B++.mp (AH B.length 0 a (GJ a l k))::UQ (GJ a l k)⟩
theorem UR{N:Nat}:∀{a:List ka}{L:BL}{k:Nat},((AH N k a L).all λe=>u? 0 e.1)=a35
 |[],L,k=>by cases L<;>rfl
 |w::a,[],k=>rfl
 |w::a,p::L,k=>by
  simp only[AH,ς,UR,hac];rfl
theorem zJ{N:Nat}:∀{a:List ka}{L:BL}{k j:Nat},k+a00 L+1+N<=j->∀e∈AH N k a L,Tm.below j e.2=a35
 |[],L,k,j,_,e,he=>by grind[AH]
 |w::a,[],k,j,_,e,he=>by grind[AH]
 |w::a,p::L,k,j,h,e,he=>by
  simp only[H!]at h;simp only[AH,List.mem_cons]at he;rcases he with rfl|he
  .grind[Tm.below]
  .exact zJ U e he
theorem VQ:(UQ L).all (Ent.below j)=a35:=by
 rw[R'];intro e he;obtain⟨p,-,rfl⟩:=X'.1 he;exact Sb _ _ (Fr.l _)
theorem WY:∀{a b:Nat},a≠b->WV a b=a35
 |0,0,h=>(h rfl).elim
 |0,_+1,_=>rfl
 |_+1,0,_=>rfl
 |a+1,b+1,h=>WY (a:=a) (b:=b) λe=>h (by rw[e])
theorem fF{α:Type}{l:List α}{x y:α}:(l++[x]).set l.length y=l++[y]:=l5
theorem aS0{k:Nat}(hB:(B=[]/\dl=Ha l)\/(B=[.live 4 0 (l.map ab)]/\dl=.own 0 0)):δ B.length (S2b B dl a l k):=by
 have hj:0+(GJ a l k).length+1+a00 B<=(S2b B dl a l k).m.length:=by grind[S2b,UQ]
 refine⟨U,?_,?_⟩
 .rcases hB with⟨rfl,rfl⟩|⟨rfl,rfl⟩<;>simp[S2b,j?,Tm.below,Cn,kp,Nc,Fr.h,XV]
 .show(B++_::_).all _=a35;rw[Uac,ς,FF (zJ hj),VQ];rcases hB with⟨rfl,rfl⟩|⟨rfl,rfl⟩
  all_goals grind[Ent.below,Sb,Fr.l]
noncomputable def knB(a:List ka) (l:List ic) (k:Nat):List (Value×D):=(a.take k).map λw=>(.int .i64 w.q,Zc ⟨w.q,0,(Qt l w).a0,(Qt l w).a3⟩)
theorem an2{q:Int}(hn:(a.map λw=>w.q).Nodup) (hi:i<a00 a) (hq:q=a[i].q):Pt (.int .i64 q) (knB a l i)=q6:=by
 have key:∀(b:List ka) (f:ka->D),(∀w∈b,w.q≠q)->Pt (.int .i64 q) (b.map λw=>(.int .i64 w.q,f w))=q6:=by
  intro b f
  induction b with
  |nil=>intro _;rfl
  |cons w b ih=>
   grind[Pt,dv]
 refine key _ _ λw hw e=>?_;obtain⟨j,hj,rfl⟩:=H' hw
 grind[qI]
theorem aJ8{d:D}(hn:(a.map λw=>w.q).Nodup) (hi:i<a00 a) (hw:w=a[i]) (hd:d=Zc ⟨w.q,0,(Qt l w).a0,(Qt l w).a3⟩):Ry (.int .i64 w.q) d (knB a l i)=knB a l (i+1):=by
 have key:∀(b:List ka) (f:ka->D),(∀x∈b,x.q≠w.q)->Ry (.int .i64 w.q) d (b.map λw=>(.int .i64 w.q,f w))=(b.map λw=>(.int .i64 w.q,f w))++[(.int .i64 w.q,d)]:=by
  intro b f
  induction b with
  |nil=>intro _;rfl
  |cons x b ih=>
   grind[Ry,dv]
 unfold knB;rw[key _ _ λx hx e=>?_,O',List.getElem?_eq_getElem hi,hd,hw]
 .grind
 .obtain⟨j,hj,rfl⟩:=H' hx
  grind[qI]
noncomputable def S3b(B:List Ent) (a:List ka) (l:List ic) (E:List (Value×D)) (F:List Ent) (k:Nat):St:=⟨ds 5 (.mp B.length::ds 6 (.mp (a00 F+1+a00 B)::.own (a00 F+1+1+a00 B) k::ds 39 (xd a::da (a00 a:Int)::da (k:Int)::ds 46 []))),B++.mp E::(F++[.mp (knB a l k),.live 4 k (((a.take k).map (Qt l)).map Zc)])⟩
theorem aR9{k:Nat}{E:List (Value×D)}{F:List Ent}{G:BL}(hB:(B=[]/\dl=Ha l)\/(B=[.live 4 0 (l.map ab)]/\dl=.own 0 0)) (hE:E=AH B.length 0 a G) (hF:F=UQ G):δ B.length (S3b B a l E F k):=by
 obtain⟨j4,hM⟩:∃j4,j4=(S3b B a l E F k).m.length:=⟨_,rfl⟩;have hj:0+a00 G+1+a00 B<=j4:=by grind[S3b,UQ]
 have hk:F.length+3+a00 B=j4:=by grind[S3b]
 refine⟨U,?_,?_⟩
 .rw[←hM];simp[S3b,j?,Tm.below,Cn,kp,Nc,Fr.h,XV];omega
 .rw[←hM];show(B++_::_).all _=a35;rw[Uac,ς,Uac,hE,FF (zJ hj),hF,VQ];have h1:Ent.below j4 (.mp (knB a l k))=a35:=FF λe he=>by
   obtain⟨w,-,rfl⟩:=X'.1 he;exact Nc _ _ (Fr.h (e:=Zc) _)
  have h2:Ent.below j4 (.live 4 k (((a.take k).map (Qt l)).map Zc))=a35:=Sb _ _ (Fr.l _);rcases hB with⟨rfl,rfl⟩|⟨rfl,rfl⟩
  all_goals grind[Ent.below,Sb,Fr.l]
theorem aY8(hB:(B=[]/\dl=Ha l)\/(B=[.live 4 0 (l.map ab)]/\dl=.own 0 0)) (ha:a.length<=1048576) (hl:l.length<=1048576) (hn:(a.map λw=>w.q).Nodup) :
 T al B.length k51.F.code (EI B.length k51.F.results ⟨[Gc (a.map (Qt l))],B⟩) ⟨[xd a,dl]++Tm.ds 100 [],B⟩:=by
 simp only[k51,Kf.of,zs,ze];refine ss (rg ?_);simp only[zz];refine ss (rg ?_);simp only[zz];refine ss (ss (rg ?_));simp only[zz];refine T.G6 a.length (S1b B dl a) ?_ (λi _=>?_) (λi hi=>?_) wA ?_
 .simp only[S1b,qad,N7,W?];exact At.same _ _ _ C'
 .exact aS2 hB
 .obtain⟨E,hE⟩:∃E,E=N7 (a.take i):=⟨_,rfl⟩;have hall:(E.all λe=>u? 0 e.1)=a35:=by grind[aR6]
  rcases hB with⟨rfl,rfl⟩|⟨rfl,rfl⟩
  all_goals
   simp only[S1b,zz,←hE];refine ss (rg ?_);simp only[zz];refine ss (cd rfl ?_);simp only[zz];refine gP.mk (λhc=>?_) (λhc=>?_)
   .have hi:i<a00 a:=U
    obtain⟨w,hw⟩:∃w,w=a[i]:=⟨_,rfl⟩;have g2:a[i]?=M w:=l4
    refine sk ?_;simp only[zz];refine ss (bk (ss (rg ?_)));simp only[zz,g2,hi];refine rg ?_;simp only[zz,hall];refine rg ?_;have hw1:aa .i64 ((i:Int)+1)=((i+1:Nat):Int):=pa U;have hput:Ry (.int .i64 w.q) (.v (.slice q6 0 0)) E=N7 (a.take (i+1)):=by
     rw[hE,O',g2];refine B4 λx hx he=>?_;obtain⟨j,hj,rfl⟩:=H' hx
     grind[qI]
    simp only[zz,Kn,hw1,hput];refine⟨hi,?_⟩
    first
     |exact At.cut 1 C' rfl
     |exact At.cut 2 C' rfl
   .refine xt ?_;simp only[zz,OC];have hi:i=a00 a:=U
    subst hi;refine⟨rfl,?_⟩;simp only[S1b,←hE];exact At.same _ _ _ C'
 .simp only[zz];rw[S1b,η];refine bs5 l ?_;refine ss (ss (rg ?_));have hlen:∀m',Cd (B++m') dl=M l.length:=by
   intro m';rcases hB with⟨rfl,rfl⟩|⟨rfl,rfl⟩<;>simp[Cd,Ha]
  simp only[zz,hlen];refine T.G6 l.length (S2b B dl a l) ?_ (λi _=>aS0 hB) (λi hi=>?_) wA ?_
  .simp only[S2b];exact At.same _ _ _ C'
  .simp only[S2b];obtain⟨E,hE⟩:∃E,E=AH B.length 0 a (GJ a l i):=⟨_,rfl⟩;obtain⟨F,hF⟩:∃F,F=UQ (GJ a l i):=⟨_,rfl⟩;have hall:(E.all λe=>u? 0 e.1)=a35:=by grind[UR]
   have hFl:F.length=a00 a:=by grind[GJ,L1]
   have hgl:(GJ a l i).length=a00 a:=by simp[GJ]
   have hlk:∀j (h:j<a00 a),Pt (.int .i64 a[j].q) E=M (.own (j+1+a00 B) (gB l i a[j]).length):=λj h=>by
    simp_all[GJ,am6]
   have hput:∀j (h:j<a00 a) v g,Ry (.int .i64 a[j].q) (.own (j+1+a00 B) v) E=AH B.length 0 a ((GJ a l i).set j (v,g)):=λj h v g=>by
    rw[hE,←by5 (v:=v) (g:=g) hn h U,Y?]
   have hno:∀q,(∀w∈a,w.q≠q)->Pt (.int .i64 q) E=q6:=λq h=>by grind[TN]
   simp only[←hE,←hF];rcases hB with⟨rfl,rfl⟩|⟨rfl,rfl⟩
   all_goals
    simp only[L!,H!,Y?,oac]at hlk hput;simp only[zz];refine ss (rg ?_);simp only[zz];refine ss (cd rfl ?_);simp only[zz];refine gP.mk (λhc=>?_) (λhc=>?_)
    .have hi:i<a00 l:=U
     obtain⟨p,hp⟩:∃p,p=l[i]:=⟨_,rfl⟩;have g2:l[i]?=M p:=l4
     refine sk ?_;simp only[zz];refine ss (bk (ss (rg ?_)));simp only[zz,g2,hi,ο,fF];refine ss (rg ?_);simp only[zz,hall,ο,fF];have hw1:aa .i64 ((i:Int)+1)=((i+1:Nat):Int):=pa U;by_cases hj:∃j,∃h:j<a00 a,a[j].q=p.q
     .obtain⟨j,hj,he⟩:=hj;obtain⟨g,hg⟩:∃g,g=gB l i a[j]:=⟨_,rfl⟩;have hgl:=LY (l:=l) (i:=i) (w:=a[j]);rw[←hg]at hgl;have k1:=hlk j hj;rw[he,←hg]at k1;have k2:∀y,(F++[y])[j]?=M (.live 4 g.length (g.map ab)):=λy=>by
       grind[UQ,GJ]
      have k3:∀y e,(F++[y]).set j e=F.set j e++[y]:=λy e=>l4
      have k5:(a00 g+1)*32<=2 ^ 47:=U
      have k6:WV F.length j=a35:=WY U;have k7:WV F.length (a00 F+1)=a35:=WY U;have k8:∀x y,(F++[x]++[y])[j]?=M (.live 4 g.length (g.map ab)):=λx y=>by
       grind
      have k9:∀x y,(F++[x]++[y])[a00 F+1]?=M y:=λx y=>by
       simp
      have k10:∀x y e,(F++[x]++[y]).set j e=F.set j e++[x]++[y]:=λx y e=>l4
      simp only[zz,k1,XK];refine ss (rg ?_);simp only[zz];refine cd rfl ?_;simp only[zz];refine ay rz [[],[],[],[],[],[],[2]] U? ?_;simp only[zz,zy,hall,k1,k2,k3,k5,k6,k7,k8,k9,k10,ο,fF];refine rg ?_;have k11:=hput j hj (a00 g+1) (g++[p]);rw[he]at k11;have k12:UQ ((GJ a l i).set j (a00 g+1,g++[p]))=F.set j (.live 4 (a00 g+1) (g.map ab++[ab p])):=by
       grind[UQ,List.map_set]
      simp only[zz]at k12;have k13:=aL0 hi hn hj (he.trans (by rw[hp]));rw[←hg,←hp]at k13;simp only[zz,Kn,hw1,k11];refine⟨hi,?_⟩;rw[S2b,k13,k12,P?]
      first
       |exact At.mk _ _ (_::_) _ C'
       |exact At.mk _ _ (_::_::_) _ C'
     .have hno1:∀w∈a,w.q≠p.q:=λw hw e=>by
       obtain⟨j,hj1,rfl⟩:=H' hw
       simp_all
      have k1:=hno _ hno1;simp only[zz,k1,XK];refine ss (rg ?_);simp only[zz];refine cd rfl ?_;simp only[zz];refine sk ?_;simp only[zz];refine rg ?_;simp only[zz,Kn,hw1];refine⟨hi,?_⟩;rw[S2b,ao5 hi l4,←hE,←hF]
      first
       |exact At.mk _ _ (.mp E::F) _ C'
       |exact At.mk _ _ (_::.mp E::F) _ C'
    .refine xt ?_;simp only[zz,OC];have hi:i=a00 l:=U
     subst hi;refine⟨rfl,?_⟩;simp only[S2b,←hE,←hF];exact At.same _ _ _ C'
  .simp only[zz];rw[S2b];obtain⟨G,hG⟩:∃G,G=GJ a l l.length:=⟨_,rfl⟩;obtain⟨E,hE⟩:∃E,E=AH B.length 0 a G:=⟨_,rfl⟩;obtain⟨F,hF⟩:∃F,F=UQ G:=⟨_,rfl⟩;rw[←hG,←hE,←hF];refine ss (rg ?_);simp only[zz];refine ss (rg ?_);simp only[zz];refine ss (ss (rg ?_));simp only[zz];refine T.dE 13 4 rfl ?_;simp only[zz];refine T.G6 a.length (S3b B a l E F) ?_ (λi _=>aR9 hB hE hF) (λi hi=>?_) wA ?_
   .simp only[S3b,knB,qad,W?,P?,G!,N'];rw[show B.length+(a00 F+1)=a00 F+1+a00 B by omega,show F.length+1+a00 B+1=a00 F+1+1+a00 B by omega];exact At.same _ _ _ C'
   .simp only[S3b];have gF:∀(t:List Ent) k,(F++t)[a00 F+k]?=t[k]?:=λt k=>o0
    have gF0:∀(t:List Ent),(F++t)[a00 F]?=t[0]?:=λt=>o0
    have sF:∀(t:List Ent) k e,(F++t).set (a00 F+k) e=F++t.set k e:=λt k e=>l5
    have sF0:∀(t:List Ent) e,(F++t).set F.length e=F++t.set 0 e:=λt e=>l5
    have hFl:F.length=a00 a:=by grind[GJ,L1]
    have hlk:∀j (h:j<a00 a),Pt (.int .i64 a[j].q) E=M (.own (j+1+a00 B) (gB l l.length a[j]).length):=λj h=>by
     simp_all[GJ,am6]
    have hall:(E.all λe=>u? 0 e.1)=a35:=by grind[UR]
    obtain⟨Q,hQ⟩:∃Q,Q=knB a l i:=⟨_,rfl⟩;have hallQ:(Q.all λe=>u? 0 e.1)=a35:=by
     rw[hQ,R'];intro e he;obtain⟨w,-,rfl⟩:=X'.1 he;rfl
    obtain⟨R,hR⟩:∃R,R=(a.take i).map (Qt l):=⟨_,rfl⟩;simp only[←hQ,←hR];rcases hB with⟨rfl,rfl⟩|⟨rfl,rfl⟩
    all_goals
     simp only[L!,H!,Y?,oac]at hlk;simp only[zz];refine ss (rg ?_);simp only[zz];refine ss (cd rfl ?_);simp only[zz];refine gP.mk (λhc=>?_) (λhc=>?_)
     .have hi:i<a00 a:=U
      obtain⟨w,hw⟩:∃w,w=a[i]:=⟨_,rfl⟩;have g2:a[i]?=M w:=l4
      have hw1:aa .i64 ((i:Int)+1)=((i+1:Nat):Int):=pa U;refine sk ?_;simp only[zz];refine ss (bk (ss (rg ?_)));simp only[zz,g2,hi,P?,gF,sF,gF0,sF0];refine ss (rg ?_);have hkQ:Pt (.int .i64 w.q) Q=q6:=by grind[an2]
      simp only[zz,hallQ,P?,gF,sF,gF0,sF0,hkQ,XK]
      first|refine ss (rg ?_)|refine ss (ss (rg ?_))|refine ss (ss (ss (rg ?_)))
      simp only[zz]
      first|refine ss (cd rfl ?_)|refine cd rfl ?_
      simp only[zz];obtain⟨g,hg⟩:∃g,g=gB l l.length w:=⟨_,rfl⟩;have k1:=hlk i hi;rw[←hw,←hg]at k1
      first|refine ss (rg ?_)|refine ss (ss (rg ?_))|refine ss (ss (ss (rg ?_)))
      simp only[zz,hall,k1,P?,gF,sF,gF0,sF0,XK];refine ss (dy rz ?_);simp only[zz,zy,P?,gF,sF,gF0,sF0];have c1:Pg g w.q=M (uO w.q g [1,2,3]):=by
       unfold Pg;rw[J (by grind[LY])]
      have c2:Qj g w.q=M (ω w.q g):=by
       unfold Qj;rw[J (by grind[LY])];rfl
      have kF:∀t:List Ent,(F++t)[i]?=M (.live 4 g.length (g.map ab)):=λt=>by
       grind[UQ,GJ]
      refine lv (Yz c1) ?_ rfl o0 (by simp[HG,af]) (by simp_all[zg,zy]);simp only[zz,zy,P?,gF,sF,gF0,sF0];refine lv (lC c2) ?_ rfl o0 (by simp[HG,af]) (by simp_all[zg,zy]);simp only[zz,zy,P?,gF,sF,gF0,sF0];have hputQ:Ry (.int .i64 w.q) (.agg [.v (.int .i64 w.q),.v (.int .i64 0),.v (.int .i64 (uO w.q g [1,2,3])),.v (.int .i64 (ω w.q g))]) Q=knB a l (i+1):=by
       rw[hQ];refine(aJ8 hn hi hw ?_).trans rfl;simp only[Qt,hg,gB,η];rfl
      first|refine rg ?_|refine ss (rg ?_)|refine ss (ss (rg ?_))
      simp only[zz,hallQ,hputQ,P?,gF,sF,gF0,sF0]
      first|refine rg ?_|refine ss (rg ?_)|refine ss (ss (rg ?_))
      simp only[zz,P?,gF,sF,gF0,sF0]
      first|refine rg ?_|refine ss (rg ?_)|refine ss (ss (rg ?_))
      simp only[zz,P?,gF,sF,gF0,sF0];have hR1:R.length=i:=l4
      have k5:(a00 R+1)*32<=2 ^ 47:=U
      have hd:∀x,x=(Qt l w).a2->R.map Zc++[.agg [.v (.int .i64 w.q),.v (.int .i64 x),.v (.int .i64 (uO w.q g [1,2,3])),.v (.int .i64 (ω w.q g))]]=((a.take (i+1)).map (Qt l)).map Zc:=λx hx=>by
       rw[hR,O',g2,hx];simp only[Option.toList_some,Wab,F?,W?,Qt,hg,gB,η];rfl
      first|refine ss (cd rfl ?_)|refine cd rfl ?_
      refine gP.mk (λhx=>?_) (λhx=>?_)
      .first|refine rg ?_|refine ss (rg ?_)
       simp only[zz,P?,gF,sF,gF0,sF0]
       first|refine ss (rg ?_)|refine rg ?_
       simp only[zz,k5,P?,gF,sF,gF0,sF0];refine rg ?_;have hd:=hd (uO w.q g [1,2,3]) (by
        simp_all[Qt,gB])
       simp only[zz,Kn,hw1,hd];refine⟨hi,?_⟩;simp only[S3b];refine⟨C',[?_,?_,?_],?_⟩
       rotate_left 3
       simp only[N',G!,P?];rfl
      .refine sk ?_;simp only[zz,P?,gF,sF,gF0,sF0]
       first|refine ss (rg ?_)|refine rg ?_
       simp only[zz,k5,P?,gF,sF,gF0,sF0];refine rg ?_;have hd:=hd w.ad (by
        simp_all[Qt])
       simp only[zz,Kn,hw1,hd];refine⟨hi,?_⟩;simp only[S3b];refine⟨C',[?_,?_,?_],?_⟩
       rotate_left 3
       simp only[N',G!,P?];rfl
     .refine xt ?_;simp only[zz,OC];have hi:i=a00 a:=U
      subst hi;refine⟨rfl,?_⟩;simp only[S3b,←hQ,←hR];exact At.same _ _ _ C'
   .simp only[zz];rw[S3b,η];have gF:∀(t:List Ent) k,(F++t)[a00 F+k]?=t[k]?:=λt k=>o0
    rcases hB with⟨rfl,rfl⟩|⟨rfl,rfl⟩
    all_goals
     simp only[zz];refine ss (rg ?_);simp only[zz];refine T.ret (BM ?_);simp only[zz,zr,Jz];have hb:tx [(M 0,0,0)] (a00 F+1+1+1)=a35:=by simp[tx]
     first
      |exact f'.q [] rfl o4 (by simp only[zg,gF,tx,fae,zab,ξ])
      |exact f'.q [(M 0,0,0)] rfl o4 (by simp only[zg,gF,hb,zab,ξ])
theorem dS{t0 t1 r}(h:Cr t0 t1=M r):Ly al 51 [xd t0,.own 0 0] [(4,t1.map ab)] (Gc r):=by
 unfold Cr at h;split at h
 .rename_i hc;obtain rfl:=J! h;exact Ly.of 100 k51 (aY8 (.inr ⟨rfl,rfl⟩) hc.1 hc.2.1 hc.2.2) (by simp[Fr.l])
 .cases h
instance aar{t0 t1 r}:T? (Cr t0 t1=M r) (Ly al 51 [xd t0,.own 0 0] [(4,t1.map ab)] (Gc r)):=⟨dS⟩
theorem KP{t0 t1 r}(h:Cr t0 t1=M r):e? al 51 [xd t0,Ha t1] (Gc r):=by
 unfold Cr at h;split at h
 .rename_i hc;obtain rfl:=J! h;exact OM V?.h ((KH k51 (ds:=[xd t0,Ha t1]) (m:=[]) 100 rfl (aY8 (.inl ⟨rfl,rfl⟩) hc.1 hc.2.1 hc.2.2)).mono λd m' h=>by
   obtain⟨rfl,rfl⟩:=h;exact .same (Fr.h (e:=Gc) _) .nil)
 .cases h
instance aas{t0 t1 r}:o! (Cr t0 t1=M r) (e? al 51 [xd t0,Ha t1] (Gc r)):=⟨KP⟩
instance aat:C1 cb6 uv:=pg (ak (ak cb6.eq_1 uv.eq_1) Zv.eq_1) (.z 2 (.j (EN [8,9,120,2,257] [0]) .o (.l (EN [8,17,2,105] [0]) (EN [] []) [] (.z 3 (.j (EN [8,137,248,2] [0]) .o .o)) .o)))
instance aau:C3 bN1 pw:=pg (ak (ak bN1.eq_1 pw.eq_1) Kl.eq_1) (.l (EN [8,9,2,25,8,10,9] [0]) (EN [] []) [] (.z 1 (.j (EN [8,9,8,145,2,105] [0]) .o .o)) .o)
end Go.Proofs.Dev
