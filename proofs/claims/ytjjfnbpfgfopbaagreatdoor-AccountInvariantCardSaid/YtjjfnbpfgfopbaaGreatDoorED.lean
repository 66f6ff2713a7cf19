/-
  The engine: a part of the proof that trees of values are carried along by the program: no condition.
-/
import Derived.Test.YtjjfnbpfgfopbaaGreatDoorEC
open Bool renaming and_eq_true->Caa
open Eq renaming trans->paa
open List renaming all_eq_true->Yaa,cons_append->Iaa,getElem?_cons_succ->Dab,getElem?_cons_zero->Zaa,getElem?_eq_some_iff->iab,getElem?_mapIdx->bae,map_congr_left->Qab,map_id->Bae,mem_of_getElem?->Hab,nil_append->Vaa,replicate->raa
open Nat renaming add_sub_cancel_left->Iac,sub_zero->vad,zero_le->sab
open Option renaming map_some->uac
open Option.some renaming inj->Raa,injEq->aab
open Prod.mk renaming injEq->Paa
set_option linter.all false
namespace Go.Tm
variable {P:Program}
def Ox(P:Program) (k:Nat) (ds:List D) (S:Nat) (l:List D):Prop:=∀m,CallT P k ds m λd m'=>d=.own m.length 0/\m'=m++[.live S 0 l]
theorem M8{k S:Nat}{l ds:List D}(r:fa ds=true) (hl:fa l=true) (h:CallT P k ds [] λd m'=>d=.own 0 0/\m'=[.live S 0 l]):Ox P k ds S l:=by
 refine λm=>⟨h.1,λG w vs hv hi=>?_⟩;have A:=h.2 (Gh.bare G.F) w vs (VsRel.free (G:=G) (G':=Gh.bare G.F) ⟨λ_ h=>h,λ_ _=>rfl⟩ r hv) (Oz hi.F (hi.gl.bare λ_ h=>h));refine A.mono ?_;rintro e w' ⟨v,d,m',G',rfl,⟨rfl,rfl⟩,t,g,c⟩;obtain⟨fV,fS,fN,fC,fB⟩:=g.ent 0 _ rfl;have hGn:=hi.n;have noO:∀b,¬df (Gh.bare G.F) [] b:=λb=>Cx;have owned0:∀b,G'.B 0=some b->df G' [.live S 0 l] b:=λb hb=>⟨0,_,rfl,rfl,hb⟩;have newb:∀b,G'.B 0=some b->w.heap.size<=b:=λb hb=>by
  rcases Nat.lt_or_ge b w.heap.size with h|h
  .exact(noO b (c.newB b h (owned0 b hb))).elim
  omega
 have hF:∀b,b<w.heap.size->G'.F b->G.F b:=λb hb hf=>by
  rcases c.newF b hb hf with h|h
  .exact h
  simp_all
 have p:SubF G' w' ⟨G'.F,G.n+1,λi=>if i=G.n then G'.B 0 else G.B i,λi=>if i=G.n then 0 else G.V i,λi=>if i=G.n then G'.S 0 else G.S i,λi=>if i=G.n then G'.N 0 else G.N i,λi=>if i=G.n then G'.C 0 else G.C i⟩ w':=⟨λ_ h=>h,λ_ _=>rfl⟩;have o:Le G w ⟨G'.F,G.n+1,λi=>if i=G.n then G'.B 0 else G.B i,λi=>if i=G.n then 0 else G.V i,λi=>if i=G.n then G'.S 0 else G.S i,λi=>if i=G.n then G'.N 0 else G.N i,λi=>if i=G.n then G'.C 0 else G.C i⟩ w':=by
  refine⟨λb hb=>c.le.F b hb,λb hb=>c.le.heap b hb,by simp,λi hi=>.inl ?_⟩
  grind
 have a:∀i x,(m++[.live S 0 l])[i]?=some x->(m[i]?=some x/\i≠G.n)\/(i=G.n/\x=.live S 0 l):=by
  grind
 have z:∀i x,m[i]?=some x->x.isLive=true->∀b,G.B i=some b->b<w.heap.size/\¬G.F b:=λi x hx hl b hb=>(hi.ent i x hx).lt hl hb;refine⟨v,_,_,⟨G'.F,G.n+1,λi=>if i=G.n then G'.B 0 else G.B i,λi=>if i=G.n then 0 else G.V i,λi=>if i=G.n then G'.S 0 else G.S i,λi=>if i=G.n then G'.N 0 else G.N i,λi=>if i=G.n then G'.C 0 else G.C i⟩,rfl,⟨rfl,rfl⟩,?_,⟨by simp_all,g.F,?_,?_,g.gl.bare λ_ h=>h⟩,⟨o,c.os,c.tape,c.output,c.size,?_,?_,?_⟩⟩
 .simp only[VRel]at t⊢
  grind
 .intro i x hx;rcases a i x hx with⟨f,h2⟩|⟨rfl,rfl⟩
  .by_cases s:x.isLive=true
   .refine(hi.ent i x f).mono o (by grind) (λb hb=>?_) (λb hb _ hf=>?_)
    .exact c.keep b (z i x f s b hb).1 (noO b)
    grind
   .cases x with
    |gone=>trivial
    |_=>grind[Ent.isLive]
  .refine⟨by simp,by simp_all,by simp_all,by simp_all,?_⟩;rcases fB with h|⟨b,cs,T,f,h2,q,E,H⟩
   .simp_all
   .exact .inr ⟨b,cs,T,by simp_all,h2,q,by simp_all,by simpa using Qa.free p rfl hl H⟩
 .intro i j x y hx I u J b hb hb';rcases a i x hx with⟨f,h2⟩|⟨rfl,rfl⟩<;>rcases a j y I with⟨q,E⟩|⟨rfl,rfl⟩
  .exact hi.apart i j x y f q u J b (by simp_all) (by simp_all)
  all_goals grind
 .intro b hb hno;exact c.keep b hb (noO b)
 .simp_all
 .rintro b hb ⟨i,x,hx,u,hB⟩;rcases a i x hx with⟨f,h2⟩|⟨rfl,rfl⟩
  .exact⟨i,x,f,u,by simp_all⟩
  grind
theorem Ox.den{k S:Nat}{l ds:List D}(a:fa ds=true) (hl:fa l=true) (h:Ox P k ds S l):Den P k ds (.sl S l):=by
 refine ND a ((h []).mono ?_);rintro d m' ⟨rfl,rfl⟩;exact .bf (by simp) rfl (Sbs.free hl) .nil
theorem CJ{k:Nat}{ds:List D}{R:D->List Ent->Prop}{d2:D}{m2:List Ent}(h:CallT P k ds [] R) (ht:∀d m',R d m'->Tells 0 ⟨[d],m'⟩ ⟨[d2],m2⟩):CallT P k ds [] λd m'=>d=d2/\m'=m2:=by
 refine⟨h.1,λG w vs hv hi=>(h.2 G w vs hv hi).mono ?_⟩;rintro e w' ⟨v,d,m',G',rfl,m,hvd,b,o⟩;have hr:Rel G' w' { tmps:=#[v],defers:=[] } ⟨[d],m'⟩:=⟨by simp only[VsRel];simp_all,b,rfl⟩;obtain⟨a,c,l⟩:=jq (ht d m' m) (sab _) hr;have g:=c.t;simp only[VsRel]at g;obtain⟨u,us,he,j,_⟩:=g;injection he with he _;subst he;have f:=(o.lX (sab _)).trans l;have i:0=G.n:=by rw[hi.n];rfl
 rw[i]at f;exact⟨_,d2,m2,a,rfl,⟨rfl,rfl⟩,j,c.inv,f.toStep⟩
def O6(rs:List RV) (S:Nat) (l:List D) (e:Exit) (s:St):Prop:=
 match e with
 |.normal=>∃S',Tells 0 s S'/\∃ds,Eb S' rs=some ds/\Tells 0 ⟨[yn ds],S'.m⟩ ⟨[.own 0 0],[.live S 0 l]⟩
 |.ret=>∃S',Tells 0 s S'/\∃ds,Eb S' rs=some ds/\Tells 0 ⟨[yn ds],S'.m⟩ ⟨[.own 0 0],[.live S 0 l]⟩
 |_=>False
def oU(r:Option (List D)) (m:List Ent) (S:Nat) (l:List D):Prop:=∃ds,r=some ds/\Tells 0 ⟨[yn ds],m⟩ ⟨[.own 0 0],[.live S 0 l]⟩
theorem Wr{rs:List RV}{S:Nat}{l:List D}{s:St}(h:oU (Eb s rs) s.m S l):O6 rs S l .ret s:=by
 obtain⟨ds,a,h2⟩:=h;exact⟨s,.refl s,ds,a,h2⟩
theorem Yr{ds:List D}{m:List Ent}{S:Nat}{l:List D}:oU (some ds) m S l=Tells 0 ⟨[yn ds],m⟩ ⟨[.own 0 0],[.live S 0 l]⟩:=by simp[oU]
@[congr] theorem C8{r a:Option (List D)} {m:List Ent} {S:Nat} {l:List D} (h:r=a):oU r m S l=oU a m S l:=by rw[h]
instance {rs:List RV}{S:Nat}{l:List D}:StbC 0 (O6 rs S l):=⟨by
 rintro s S' h ⟨S1,a,h2⟩;exact⟨S1,h.trans a,h2⟩⟩
theorem Ox.at{k S:Nat}{F:Fun}{ds l:List D}(n:Nat) (i:ou P k=some F) (b:((P.funcs[k]?).map λfn=>fn.name == "runtime.NumGoroutine")=some false)
 (c:fa ds=true) (hl:fa l=true) (hn:F.ntmps=ds.length+n) (h:T P 0 F.code (O6 F.results S l) ⟨ds++Tm.ds n [],[]⟩):Ox P k ds S l:=by
 refine M8 c hl (CJ (R:=λd m'=>Tells 0 ⟨[d],m'⟩ ⟨[.own 0 0],[.live S 0 l]⟩) (Aj i b ?_) λ_ _ h=>h);rw[hn,Iac,←UA];refine T.tT (h.mono ?_);have key:∀(e:Exit) (s:St),(∀s',Cy F.results (λd m'=>Tells 0 ⟨[d],m'⟩ ⟨[.own 0 0],[.live S 0 l]⟩) e s' = ∃ds,Eb s' F.results=some ds/\Tells 0 ⟨[yn ds],s'.m⟩ ⟨[.own 0 0],[.live S 0 l]⟩)->(∃S',Tells 0 s S'/\∃ds,Eb S' F.results=some ds/\Tells 0 ⟨[yn ds],S'.m⟩ ⟨[.own 0 0],[.live S 0 l]⟩)->lJ 0 (Cy F.results λd m'=>Tells 0 ⟨[d],m'⟩ ⟨[.own 0 0],[.live S 0 l]⟩) e s:=by
  intro e s he ⟨S,g,h2⟩ G w a hN hr;obtain⟨G',h3,h4⟩:=jq g hN hr
  grind
 intro e s f
 cases e with
 |normal=>exact key _ s (λ_=>rfl) f
 |ret=>exact key _ s (λ_=>rfl) f
 |_=>exact(f:False).elim
theorem callX_O{k S:Nat}{ds ds' l:List D}{m:List Ent}{f:D->List Ent->Prop}(h:Ox P k ds' S l) (hf:f (.own m.length 0) (m++[.live S 0 l])) (a:pa ds ds'):Je P k ds m f:=
 bc (dQ a (h m)) hf
inductive Q where
 |p (n:Nat)
 |k (n:Nat)
 |s (d:D)
 |y (i:Nat)
 |g (q:List Q)
inductive M1 where
 |o (j:Nat)
 |O (j:Nat)
 |H (j:Nat) (q:List Q)
 |C (j:Nat) (l:List D)
 |B (j u:Nat) (l:List D)
 |c (j:Nat) (l:List D)
 |n (S:Nat) (l:List D)
 |h (j:Nat) (q:List Q)
 |m (j:Nat) (l:List (Value×D))
structure Ed where
 q:List Q
 m:List M1
inductive Hi:Type 1 where
 |o
 |b (l r:Hi)
 |z (n:Nat) (x:Hi)
 |t (ρ:Yl)
 |a (ps:List (List Nat)) (x:Hi)
 |g (ps:List (List Nat)) (pl:List (Option Nat)) (x:Hi)
 |f (S:Ed) (ρ:Yl) (x:Hi)
 |d (M:List M1) (ρ:Yl) (x:Hi)
 |j {X:Type} (n:Nat) (S:X->Ed) (l r:Hi)
 |e {X:Type} (n:Nat) (S:X->Ed) (l r:Hi)
 |l {σ β:Type} (n m:Nat) (S:σ->Ed) (B:β->Ed) (ρ:Yl) (x y:Hi)
 |u {σ:Type} (n:Nat) (S:σ->Ed) (ρ:Yl) (x:Hi)
 |i {X:Type} {P:Program} {k:Nat} (K:Kf P k) (n w:Nat) (S:X->Ed) (x y:Hi)
 |c {P:Program} {k:Nat} (K:Kf P k) (w:Nat) (x:Hi)
 |v (x:Hi)
def Ul:List M1->Nat->Nat->Option (Nat×Bool)
 |[],_,_=>none
 |.o k::l,j,i=>bif k==j then some (i,false)else Ul l j (i+1)
 |.c k _::l,j,i=>bif k==j then some (i,false)else Ul l j (i+1)
 |.h k _::l,j,i=>bif k==j then some (i,false)else Ul l j (i+1)
 |.O k::l,j,i=>bif k==j then some (i,true)else Ul l j (i+1)
 |.H k _::l,j,i=>bif k==j then some (i,true)else Ul l j (i+1)
 |.C k _::l,j,i=>bif k==j then some (i,true)else Ul l j (i+1)
 |.B k _ _::l,j,i=>bif k==j then some (i,true)else Ul l j (i+1)
 |.n _ _::l,j,i=>Ul l j (i+1)
 |.m k _::l,j,i=>bif k==j then some (i,false)else Ul l j (i+1)
def rnP(o:Option (Nat×Bool)) (v:Nat) (f:Nat->Nat->D):D:=match o with|some (i,b)=>f i (bif b then v else 0)|none=>.dead
mutual
def js(ks:List M1) (m:List Ent):Nat->D->D
 |n+1,.own j v=>DX ks m n v m[j]? (Ul ks j 0)
 |n+1,.ref j v x s=>B6 ks m n v x s m[j]? (Ul ks j 0)
 |_+1,.view j v lo k=>rnP (Ul ks j 0) v λi v=>.view i v lo k
 |_+1,.mp j=>rnP (Ul ks j 0) 0 λi _=>.mp i
 |n+1,.agg l=>.agg (du ks m n l)
 |n+1,.tup l=>.tup (du ks m n l)
 |n+1,.fn k a c=>.fn k (du ks m n a) (du ks m n c)
 |n+1,.pt d=>.pt (js ks m n d)
 |_,d=>d
def DX(ks:List M1) (m:List Ent) (n v:Nat):Option Ent->Option (Nat×Bool)->D
 |_,some (i,b)=>.own i (bif b then v else 0)
 |some (.live S _ l),none=>.sl S (du ks m n l)
 |_,none=>.dead
def B6(ks:List M1) (m:List Ent) (n v x s:Nat):Option Ent->Option (Nat×Bool)->D
 |_,some (i,b)=>.ref i (bif b then v else 0) x s
 |some (.live _ _ (d::_)),none=>.pt (js ks m n d)
 |_,none=>.dead
def du(ks:List M1) (m:List Ent) (n:Nat):List D->List D
 |[]=>[]
 |d::l=>js ks m n d::du ks m n l
end
mutual
theorem tF(ks:List M1) (m:List Ent):∀(n:Nat) (d:D),la d=true->js ks m n d=d
 |n+1,.agg l,h=>by simp only[la]at h;simp only[js,Ue ks m n l h]
 |n+1,.tup l,h=>by simp only[la]at h;simp only[js,Ue ks m n l h]
 |n+1,.fn k a c,h=>by simp only[la,Caa]at h;simp only[js,Ue ks m n a h.1,Ue ks m n c h.2]
 |n+1,.pt d,h=>by simp only[la]at h;simp only[js,tF ks m n d h]
 |_,.own _ _,h=>by grind[la]
 |_,.view _ _ _ _,h=>by grind[la]
 |_,.ref _ _ _ _,h=>by grind[la]
 |_,.mp _,h=>by grind[la]
 |n,.v _,_=>by grind[js]
 |n,.sl _ _,_=>by grind[js]
 |n,.ifc _ _,_=>by grind[js]
 |n,.dead,_=>by grind[js]
 |0,.agg _,_=>by simp only[js]
 |0,.tup _,_=>by simp only[js]
 |0,.fn _ _ _,_=>by simp only[js]
 |0,.pt _,_=>by simp only[js]
theorem Ue(ks:List M1) (m:List Ent) (n:Nat):∀l:List D,fa l=true->du ks m n l=l
 |[],_=>by grind[du]
 |d::l,h=>by simp only[fa,Caa]at h;simp only[du,tF ks m n d h.1,Ue ks m n l h.2]
end
def mK:List D->List D
 |[]=>[]
 |_::l=>.dead::mK l
def nv(ks:List M1) (m:List Ent) (u:List D):List Q->List D->List D
 |[],l=>mK l
 |_::_,[]=>[]
 |.p 0::q,l=>nv ks m u q l
 |.p (n+1)::q,d::l=>js ks m 9 d::nv ks m u (.p n::q) l
 |.k 0::q,l=>nv ks m u q l
 |.k (n+1)::q,d::l=>.dead::nv ks m u (.k n::q) l
 |.s e::q,d::l=>e::nv ks m u q l
 |.y i::q,_::l=>js ks m 9 (u.getD i .dead)::nv ks m u q l
 |.g r::q,.agg b::l=>.agg (nv ks m u r b)::nv ks m u q l
 |.g _::q,d::l=>d::nv ks m u q l
def eO(ks:List M1) (m:List Ent):Option Ent->Ent
 |some (.live S v l)=>.live S 0 (du ks m 9 l)
 |some e=>e
 |none=>.gone
def eX(b:List D):Option Ent->Ent
 |some (.live S v _)=>.live S v b
 |some e=>e
 |none=>.gone
def eV(ks:List M1) (m:List Ent):Option Ent->Ent
 |some (.live S v l)=>.live S v (du ks m 9 l)
 |some e=>e
 |none=>.gone
def eW(ks:List M1) (m:List Ent) (q:List Q):Option Ent->Ent
 |some (.live S v l)=>.live S v (nv ks m [] q l)
 |some e=>e
 |none=>.gone
def eC(b:List D):Option Ent->Ent
 |some (.live S v _)=>.live S 0 b
 |some e=>e
 |none=>.gone
def eH(ks:List M1) (m:List Ent) (q:List Q):Option Ent->Ent
 |some (.live S v l)=>.live S 0 (nv ks m [] q l)
 |some e=>e
 |none=>.gone
def eB(u:Nat) (b:List D):Option Ent->Ent
 |some (.live S _ _)=>.live S u b
 |some e=>e
 |none=>.gone
def jU(ks:List M1) (m:List Ent):M1->Ent
 |.o j=>eO ks m m[j]?
 |.c j l=>eC l m[j]?
 |.n S l=>.live S 0 l
 |.h j q=>eH ks m q m[j]?
 |.O j=>eV ks m m[j]?
 |.C j l=>eX l m[j]?
 |.B j u l=>eB u l m[j]?
 |.H j q=>eW ks m q m[j]?
 |.m _ l=>.mp l
def edM(ks:List M1) (m:List Ent):List M1->List Ent
 |[]=>[]
 |x::l=>jU ks m x::edM ks m l
def eFz(ks:List M1) (m:List Ent):Option Ent->Ent
 |some (.live S _ l)=>.live S 0 (du ks m 9 l)
 |some e=>e
 |none=>.gone
def eGz(ks:List M1) (m:List Ent):Option Ent->Ent
 |some (.live S v l)=>.live S v (du ks m 9 l)
 |some e=>e
 |none=>.gone
def AX(ks:List M1) (m:List Ent):List M1->List Ent
 |[]=>[]
 |.o j::l=>eFz ks m m[j]?::AX ks m l
 |.O j::l=>eGz ks m m[j]?::AX ks m l
 |_::l=>AX ks m l
def fd(ks:List M1) (s:St):St:=⟨du ks s.m 9 s.t,AX ks s.m ks⟩
def ed(E:Ed) (s:St):St:=⟨nv E.m s.m s.t E.q s.t,edM E.m s.m E.m⟩
section
variable {ks l:List M1} {i j k n S:Nat} {d e:D} {b c u:List D} {q:List Q} {t:List D} {m r:List Ent} {f:Nat->Nat->D} {x:M1} {v lo y:Nat} {a:Ent}
theorem d_ed:ed ⟨q,ks⟩ ⟨t,m⟩=⟨nv ks m t q t,edM ks m ks⟩:=paa rfl rfl
theorem IT:Ul [] j i=none:=paa rfl rfl
theorem JT:Ul (.o k::l) j i=bif k==j then some (i,false)else Ul l j (i+1):=paa rfl rfl
theorem OT:Ul (.O k::l) j i=bif k==j then some (i,true)else Ul l j (i+1):=paa rfl rfl
theorem PT:Ul (.H k q::l) j i=bif k==j then some (i,true)else Ul l j (i+1):=paa rfl rfl
theorem QT:Ul (.C k b::l) j i=bif k==j then some (i,true)else Ul l j (i+1):=paa rfl rfl
theorem KT:Ul (.c k b::l) j i=bif k==j then some (i,false)else Ul l j (i+1):=paa rfl rfl
theorem MT:Ul (.h k q::l) j i=bif k==j then some (i,false)else Ul l j (i+1):=paa rfl rfl
theorem NT:Ul (.n S b::l) j i=Ul l j (i+1):=paa rfl rfl
theorem RT{a:List (Value×D)}:Ul (.m k a::l) j i=bif k==j then some (i,false)else Ul l j (i+1):=paa rfl rfl
theorem d_e8{a:List (Value×D)}:jU ks m (.m j a)=.mp a:=paa rfl rfl
theorem d_f7{a:List (Value×D)}:eO ks m (some (.mp a))=.mp a:=paa rfl rfl
theorem g_e3{a:List (Value×D)}:eFz ks m (some (.mp a))=.mp a:=paa rfl rfl
theorem Z7:rnP (some (i,true)) v f=f i v:=paa rfl rfl
theorem a8:rnP (some (i,false)) v f=f i 0:=paa rfl rfl
theorem Y7:rnP none v f=.dead:=paa rfl rfl
theorem d_e1:jU ks m (.o j)=eO ks m m[j]?:=paa rfl rfl
theorem d_f1:eO ks m (some (.live S v b))=.live S 0 (du ks m 9 b):=paa rfl rfl
theorem d_f2:eC c (some (.live S v b))=.live S 0 c:=paa rfl rfl
theorem d_f3:eH ks m q (some (.live S v b))=.live S 0 (nv ks m [] q b):=paa rfl rfl
theorem d_e2:jU ks m (.c j c)=eC c m[j]?:=paa rfl rfl
theorem d_e3:jU ks m (.n S b)=.live S 0 b:=paa rfl rfl
theorem d_e5:jU ks m (.O j)=eV ks m m[j]?:=paa rfl rfl
theorem d_e6:jU ks m (.H j q)=eW ks m q m[j]?:=paa rfl rfl
theorem d_f4:eV ks m (some (.live S v b))=.live S v (du ks m 9 b):=paa rfl rfl
theorem d_f5:eW ks m q (some (.live S v b))=.live S v (nv ks m [] q b):=paa rfl rfl
theorem d_po9:Ul (.B k v b::l) j i=bif k==j then some (i,true)else Ul l j (i+1):=paa rfl rfl
theorem d_e9:jU ks m (.B j v c)=eB v c m[j]?:=paa rfl rfl
theorem d_f9:eB k c (some (.live S v b))=.live S k c:=paa rfl rfl
theorem d_e7:jU ks m (.C j c)=eX c m[j]?:=paa rfl rfl
theorem d_f6:eX c (some (.live S v b))=.live S v c:=paa rfl rfl
theorem d_e4:jU ks m (.h j q)=eH ks m q m[j]?:=paa rfl rfl
theorem d_m0:edM ks m []=[]:=paa rfl rfl
theorem d_m1:edM ks m (x::l)=jU ks m x::edM ks m l:=paa rfl rfl
theorem d_k0:mK []=[]:=paa rfl rfl
theorem d_k1:mK (d::b)=.dead::mK b:=paa rfl rfl
theorem d_q0:nv ks m u [] b=mK b:=by grind[nv]
theorem d_q1:nv ks m u (.p 0::q) b=nv ks m u q b:=by cases b<;>cases q<;>simp only[nv,mK]
theorem d_q2:nv ks m u (.p (n+1)::q) (d::b)=js ks m 9 d::nv ks m u (.p n::q) b:=by grind[nv]
theorem d_q3:nv ks m u (.k 0::q) b=nv ks m u q b:=by cases b<;>cases q<;>simp only[nv,mK]
theorem d_q4:nv ks m u (.k (n+1)::q) (d::b)=.dead::nv ks m u (.k n::q) b:=by grind[nv]
theorem d_q5:nv ks m u (.s e::q) (d::b)=e::nv ks m u q b:=by grind[nv]
theorem d_q6{g:List Q}:nv ks m u (.g g::q) (.agg c::b)=.agg (nv ks m u g c)::nv ks m u q b:=by grind[nv]
theorem d_q7{i:Nat}:nv ks m u (.y i::q) (d::b)=js ks m 9 (u.getD i .dead)::nv ks m u q b:=by grind[nv]
theorem g_fd:fd ks ⟨t,m⟩=⟨du ks m 9 t,AX ks m ks⟩:=paa rfl rfl
theorem EU:js ks m (n+1) (.own j v)=DX ks m n v m[j]? (Ul ks j 0):=by grind[js]
theorem FU:js ks m (n+1) (.ref j v y k)=B6 ks m n v y k m[j]? (Ul ks j 0):=by grind[js]
theorem NM:js ks m (n+1) (.view j v lo k)=rnP (Ul ks j 0) v λi v=>.view i v lo k:=by grind[js]
theorem W8:js ks m (n+1) (.mp j)=rnP (Ul ks j 0) 0 λi _=>.mp i:=by grind[js]
theorem yU:js ks m (n+1) (.agg b)=.agg (du ks m n b):=by grind[js]
theorem HU:js ks m (n+1) (.tup b)=.tup (du ks m n b):=by grind[js]
theorem P8:js ks m (n+1) (.fn k b c)=.fn k (du ks m n b) (du ks m n c):=by grind[js]
theorem o9:js ks m (n+1) (.pt d)=.pt (js ks m n d):=by grind[js]
theorem g_v{x:Value}:js ks m n (.v x)=.v x:=by grind[js]
theorem w9:js ks m n (.sl S b)=.sl S b:=by grind[js]
theorem CU:js ks m n (.ifc S d)=.ifc S d:=by grind[js]
theorem LM:js ks m n .dead=.dead:=by grind[js]
theorem Q8{α:Type}{e:α->D} [Fr e] {x:α}:js ks m n (e x)=e x:=tF ks m n _ (Fr.h x)
theorem R8:du ks m n []=[]:=by grind[du]
theorem S8:du ks m n (d::b)=js ks m n d::du ks m n b:=by grind[du]
theorem T8{α:Type}{e:α->D} [Fr e] {x:List α}:du ks m n (x.map e)=x.map e:=Ue ks m n _ (Fr.l x)
theorem Z8{o:Option Ent}:DX ks m n v o (some (i,false))=.own i 0:=by simp_all[DX]
theorem c9{o:Option Ent}:DX ks m n v o (some (i,true))=.own i v:=by simp_all[DX]
theorem e9:DX ks m n v (some (.live S k b)) none=.sl S (du ks m n b):=by grind[DX]
theorem l9:DX ks m n v (some .gone) none=.dead:=by simp[DX]
theorem d_fA{a:List (Value×D)}:eV ks m (some (.mp a))=.mp a:=paa rfl rfl
theorem g_e4{a:List (Value×D)}:eGz ks m (some (.mp a))=.mp a:=paa rfl rfl
theorem p9{o:Option Ent}:B6 ks m n v y k o (some (i,false))=.ref i 0 y k:=by simp_all[B6]
theorem q9{o:Option Ent}:B6 ks m n v y k o (some (i,true))=.ref i v y k:=by simp_all[B6]
theorem r9:B6 ks m n v y k (some (.live S j (d::b))) none=.pt (js ks m n d):=by grind[B6]
theorem g_e1:eFz ks m (some (.live S v b))=.live S 0 (du ks m 9 b):=paa rfl rfl
theorem g_e2:eGz ks m (some (.live S v b))=.live S v (du ks m 9 b):=paa rfl rfl
theorem g_m0:AX ks m []=[]:=paa rfl rfl
theorem g_m1:AX ks m (.o j::l)=eFz ks m m[j]?::AX ks m l:=paa rfl rfl
theorem g_m2:AX ks m (.O j::l)=eGz ks m m[j]?::AX ks m l:=paa rfl rfl
theorem W7{α:Type}{x y:α}:(bif true then x else y)=x:=paa rfl rfl
theorem X7{α:Type}{x y:α}:(bif false then x else y)=y:=paa rfl rfl
end
theorem zf:type_of% (And.intro (And.intro (And.intro (And.intro (And.intro (And.intro @g_fd @EU) (And.intro @FU @NM)) (And.intro (And.intro @W8 @yU) (And.intro @HU @P8))) (And.intro (And.intro (And.intro @o9 @g_v) (And.intro @w9 @CU)) (And.intro (And.intro @LM @Q8) (And.intro @R8 @S8)))) (And.intro (And.intro (And.intro (And.intro @T8 @Z8) (And.intro @c9 (And.intro @e9 @l9))) (And.intro (And.intro @p9 @q9) (And.intro @r9 @g_e1))) (And.intro (And.intro (And.intro (And.intro @g_e2 @g_e4) @g_m0) (And.intro (And.intro @g_m1 (And.intro @RT @g_e3)) @g_m2)) (And.intro (And.intro @IT @JT) (And.intro @KT @MT))))) (And.intro (And.intro (And.intro (And.intro @NT @OT) (And.intro @PT @QT)) (And.intro (And.intro @Z7 @a8) (And.intro @Y7 @W7))) (And.intro (And.intro @X7 @Zaa.{0}) @Dab.{0}))):=(And.intro (And.intro (And.intro (And.intro (And.intro (And.intro @g_fd @EU) (And.intro @FU @NM)) (And.intro (And.intro @W8 @yU) (And.intro @HU @P8))) (And.intro (And.intro (And.intro @o9 @g_v) (And.intro @w9 @CU)) (And.intro (And.intro @LM @Q8) (And.intro @R8 @S8)))) (And.intro (And.intro (And.intro (And.intro @T8 @Z8) (And.intro @c9 (And.intro @e9 @l9))) (And.intro (And.intro @p9 @q9) (And.intro @r9 @g_e1))) (And.intro (And.intro (And.intro (And.intro @g_e2 @g_e4) @g_m0) (And.intro (And.intro @g_m1 (And.intro @RT @g_e3)) @g_m2)) (And.intro (And.intro @IT @JT) (And.intro @KT @MT))))) (And.intro (And.intro (And.intro (And.intro @NT @OT) (And.intro @PT @QT)) (And.intro (And.intro @Z7 @a8) (And.intro @Y7 @W7))) (And.intro (And.intro @X7 @Zaa.{0}) @Dab.{0})))def zd:=(And.intro (And.intro (And.intro (And.intro (And.intro (And.intro (And.intro @d_ed @IT) (And.intro @JT @KT)) (And.intro (And.intro @MT @NT) (And.intro @OT @PT))) (And.intro (And.intro (And.intro @QT @Z7) (And.intro @a8 @Y7)) (And.intro (And.intro @d_e1 @d_e2) (And.intro @d_e3 @d_e4)))) (And.intro (And.intro (And.intro (And.intro @d_e5 @d_e6) (And.intro (And.intro @d_e7 (And.intro @d_po9 (And.intro @d_e9 @d_f9))) @d_f1)) (And.intro (And.intro @d_f2 @d_f3) (And.intro (And.intro @d_f4 @d_fA) @d_f5))) (And.intro (And.intro (And.intro (And.intro @d_f6 (And.intro @RT (And.intro @d_e8 @d_f7))) @d_m0) (And.intro @d_m1 @d_k0)) (And.intro (And.intro @d_k1 @d_q0) (And.intro @d_q1 @d_q2))))) (And.intro (And.intro (And.intro (And.intro (And.intro @d_q3 @d_q4) (And.intro @d_q5 @d_q6)) (And.intro (And.intro @d_q7 @EU) (And.intro @FU @NM))) (And.intro (And.intro (And.intro @W8 @yU) (And.intro @HU @P8)) (And.intro (And.intro @o9 @g_v) (And.intro @w9 @CU)))) (And.intro (And.intro (And.intro (And.intro @LM @Q8) (And.intro @R8 @S8)) (And.intro (And.intro @T8 @Z8) (And.intro @c9 (And.intro @e9 @l9)))) (And.intro (And.intro (And.intro @p9 @q9) (And.intro @r9 @List.getD_cons_succ.{0})) (And.intro (And.intro @List.getD_cons_zero.{0} @W7) (And.intro @X7 @Zaa.{0})))))) @Dab.{0})
class HiC:Type 1 where
 h:Hi
def Yi[i:HiC] (p:Prop):Prop:=p
structure Wh (n:Nat) (p:Prop):Prop where
 h:p
structure Lh (n:Nat) (p:Prop):Prop where
 h:p
def EQ(p:Prop):Prop:=p
theorem EQ.out{p:Prop}(h:EQ p):p:=h
structure Lk {α β:Type}(c:α->β) (z:β) (w:α) (p:Prop):Prop where
 l:∀v,z=c v->v=w
 k:p
theorem cN{p:Prop}(h:¬p):¬p:=h
class Con (p:Prop) (q:outParam Prop):Prop where
 h:p->q
class Enc (α:Type) (e:outParam (α->D)):Prop where
 h:True
section
variable {P:Program} {N:Nat} {h x:Hi} {a b:C} {K:Exit->St->Prop} {s:St}
theorem gj{X:Type}{n:Nat}{S:X->Ed}(g:@Yi ⟨.j n S h x⟩ (Tm.T P N (.seq a b) K s)):@Yi ⟨.j n S h x⟩ (Tm.T P N (.seq a b) K s):=g
theorem ge{X:Type}{n:Nat}{S:X->Ed}(g:@Yi ⟨.e n S h x⟩ (Tm.T P N (.seq a b) K s)):@Yi ⟨.e n S h x⟩ (Tm.T P N (.seq a b) K s):=g
theorem gq{p:Prop}{a b:St->Prop}{s1 s2:St}(g:@Yi ⟨h⟩ (gP p (a s1) (b s2))):@Yi ⟨h⟩ (gQ p a s1 b s2):=g
theorem gy1{R:List (List Nat)->St->Prop}{fp:List (List Nat)}{p:List Nat}{d:Option Tmp}{i:I}(g:@Yi ⟨h⟩ (qR R fp p d i s)):@Yi ⟨h⟩ (qR R fp p d i s):=g
theorem gy2{R:List (List Nat)->St->Prop}{fp:List (List Nat)}{p:List Nat}{d:Option Tmp}{i:I}(g:@Yi ⟨h⟩ (skY R fp p d i s)):@Yi ⟨h⟩ (skY R fp p d i s):=g
theorem gy3{R:List (List Nat)->St->Prop}{fp:List (List Nat)}{p:List Nat}{k:FuncId}{d:Option Tmp}{i:List Operand}(g:@Yi ⟨h⟩ (sT P R fp p k d i s)):@Yi ⟨h⟩ (sT P R fp p k d i s):=g
theorem gy4{R:List (List Nat)->St->Prop}{fp:List (List Nat)}{p:List Nat}{d:Option Tmp}{i:List Operand}(g:@Yi ⟨h⟩ (cnY R fp p d i s)):@Yi ⟨h⟩ (cnY R fp p d i s):=g
theorem gy5{ps:List (List Nat)}{q:Nat}{l:List RI}{R:St->Prop}{fp:List (List Nat)}(g:@Yi ⟨h⟩ (Pt P ps q l R fp s)):@Yi ⟨h⟩ (Pt P ps q l R fp s):=g
theorem gg{p A B:Prop}(g:@Yi ⟨h⟩ (gP p A B)):@Yi ⟨h⟩ (gP p A B):=g
theorem gcd{c:Operand}(g:@Yi ⟨h⟩ (Tm.T P N (.cond c a b) K s)):@Yi ⟨h⟩ (Tm.T P N (.cond c a b) K s):=g
theorem gcx{k:Nat}{ds:List D}{m:List Ent}{f:D->List Ent->Prop}(g:@Yi ⟨h⟩ (Je P k ds m f)):@Yi ⟨h⟩ (Je P k ds m f):=g
theorem gcl{k:Nat}{ds:List D}{i:List Nat}{R:St->Prop}{d:Option Tmp}(g:@Yi ⟨h⟩ (lu P k ds i R s d)):@Yi ⟨h⟩ (lu P k ds i R s d):=g
theorem gl{σ β:Type}{n m:Nat}{S:σ->Ed}{B:β->Ed}{ρ:Yl}{y:Hi}{id:Nat}(g:@Yi ⟨.l n m S B ρ x y⟩ (Tm.T P N (.block id (.loop a)) K s)):@Yi ⟨.l n m S B ρ x y⟩ (Tm.T P N (.block id (.loop a)) K s):=g
theorem gu{σ:Type}{n:Nat}{S:σ->Ed}{ρ:Yl}{id:Nat}(g:@Yi ⟨.u n S ρ x⟩ (Tm.T P N (.block id (.loop a)) K s)):@Yi ⟨.u n S ρ x⟩ (Tm.T P N (.block id (.loop a)) K s):=g
theorem gf{E:Ed}{ρ:Yl}{q:Prop}(g:@Yi ⟨.f E ρ x⟩ q):@Yi ⟨.f E ρ x⟩ q:=g
theorem ga{ps:List (List Nat)}{q:Prop}(g:@Yi ⟨.a ps x⟩ q):@Yi ⟨.a ps x⟩ q:=g
theorem gao{ps:List (List Nat)}{pl:List (Option Nat)}{q:Prop}(g:@Yi ⟨.g ps pl x⟩ q):@Yi ⟨.g ps pl x⟩ q:=g
theorem yss(g:@Yi ⟨h⟩ (Tm.T P N a (KS P N b K) s)):@Yi ⟨h⟩ (Tm.T P N (.seq a b) K s):=T.Tj g
theorem yz{n:Nat}(g:@Yi ⟨.z n h⟩ (Tm.T P N a (KS P N b K) s)):@Yi ⟨.z (n+1) h⟩ (Tm.T P N (.seq a b) K s):=T.Tj g
theorem yz0{p:Prop}(g:@Yi ⟨h⟩ p):@Yi ⟨.z 0 h⟩ p:=g
theorem yrg{l:List RI}(g:@Yi ⟨h⟩ (Zg P l (K .normal) s)):@Yi ⟨h⟩ (Tm.T P N (.UI l) K s):=T.rg g
theorem ydy{q:Nat}{l:List RI}(hm:P.follows .mixedOrders=true) (g:@Yi ⟨h⟩ (Pt P [] q l (K .normal) [] s)):@Yi ⟨h⟩ (Tm.T P N (.draw q l) K s):=T.dy hm g
theorem yay{q:Nat}{l:List RI}{cuts:List Nat}{bs ps:List (List Nat)}(hm:P.follows .mixedOrders=true) (b:Et bs l q ps []=true) (g:@Yi ⟨h⟩ (Pt P ps q l (K .normal) [] s)):@Yi ⟨.a ps h⟩ (Tm.T P N (.any cuts q bs l) K s):=T.ay hm ps b g
theorem yao{q:Nat}{l:List RI}{cuts:List Nat}{bs ps:List (List Nat)}{pl:List (Option Nat)}(hm:P.follows .mixedOrders=true) (a:Et bs l q ps pl=true) (b:jz s.m pl=true) (g:@Yi ⟨h⟩ (Pg P pl ps q l (K .normal) [] s)):@Yi ⟨.g ps pl h⟩ (Tm.T P N (.any cuts q bs l) K s):=T.ao hm ps pl a b g
theorem ysk(g:@Yi ⟨h⟩ (K .normal s)):@Yi ⟨h⟩ (Tm.T P N .skip K s):=T.skip g
theorem yxt{id:Nat}(g:@Yi ⟨h⟩ (K (.exit id) s)):@Yi ⟨h⟩ (Tm.T P N (.exit id) K s):=T.exit g
theorem ybk{id:Nat}(g:@Yi ⟨h⟩ (Tm.T P N a (KB id K) s)):@Yi ⟨h⟩ (Tm.T P N (.block id a) K s):=T.bk g
theorem ycd{c:Operand}{t:Bool}(ht:s.ev c=.v (.bool t)) (g:@Yi ⟨h⟩ (gP (t=true) (Tm.T P N a K s) (Tm.T P N b K s))):@Yi ⟨h⟩ (Tm.T P N (.cond c a b) K s):=T.cd ht g
theorem ygi{p q c d:Prop} [Decidable q] {α:Type}{A B:Option α}{r:α}(f:q->A=some r->@Yi ⟨h⟩ c) (h2:¬q->B=some r->@Yi ⟨x⟩ d) (a:p=q:=by rfl) (e:(if q then A else B)=some r):@Yi ⟨.b h x⟩ (gP p c d):=gP.ite e (iff_of_eq a) f h2
theorem ygo{p q b c:Prop} [Decidable q] {α:Type}{A B:Option α}{r:α}(d:q->A=some r->@Yi ⟨.o⟩ b) (h2:¬q->B=some r->@Yi ⟨.o⟩ c) (a:p=q:=by rfl) (e:(if q then A else B)=some r):@Yi ⟨.o⟩ (gP p b c):=gP.ite e (iff_of_eq a) d h2
theorem ygc{p q c d:Prop} [Decidable q] {α:Type}{A B:Option α}{r:α}(f:q->A=some r->@Yi ⟨h⟩ c) (h2:¬q->B=some r->@Yi ⟨x⟩ d) (a:p↔q) (e:(if q then A else B)=some r):@Yi ⟨.b h x⟩ (gP p c d):=gP.ite e a f h2
theorem ygoc{p q b c:Prop} [Decidable q] {α:Type}{A B:Option α}{r:α}(d:q->A=some r->@Yi ⟨.o⟩ b) (h2:¬q->B=some r->@Yi ⟨.o⟩ c) (a:p↔q) (e:(if q then A else B)=some r):@Yi ⟨.o⟩ (gP p b c):=gP.ite e a d h2
theorem ycq{k:Nat}{p:Prop}{ds ds':List D}{o:D}{m:List Ent}{f:D->List Ent->Prop} [c:Con p (Den P k ds' o)] (e:p) (hf:@Yi ⟨h⟩ (f o m)) (a:dz (Sq [] [] 9) ds ds'):@Yi ⟨h⟩ (Je P k ds m f):=XC (c.h e) hf a
theorem ycv{k:Nat}{p:Prop}{ds ds':List D}{o:D}{m:List Ent}{f:D->List Ent->Prop} [c:Con p (Den P k ds' o)] (e:p) (hf:@Yi ⟨h⟩ (f o m)) (a:flat o=true) (b:dz (Sq [] m 9) ds ds'):@Yi ⟨h⟩ (Je P k ds m f):=OD (c.h e) hf a b
theorem ylq{k:Nat}{p:Prop}{ds ds':List D}{o:D}{R:St->Prop}{dst:Option Tmp} [c:Con p (Den P k ds' o)] (e:p) (hf:@Yi ⟨h⟩ (R (s.put dst o))) (a:dz (Sq [] [] 9) ds ds'):@Yi ⟨h⟩ (lu P k ds [] R s dst):=XH (c.h e) hf a
theorem ylv{k:Nat}{p:Prop}{ids:List Nat}{ds ds':List D}{o:D}{R:St->Prop}{dst:Option Tmp} [c:Con p (Den P k ds' o)] (e:p) (hf:@Yi ⟨h⟩ (R (s.put dst o))) (a:flat o=true) (hi:(ids.all λi=>decide (i<s.m.length))=true) (ht:Ay ids ds=true) (b:dz (Lq s.m) ds ds'):@Yi ⟨h⟩ (lu P k ds ids R s dst):=MD (c.h e) hf a hi ht b
theorem r5{s' S:St}{ρ:Yl}(g:dz (Sq ρ s'.m 9) s'.t S.t/\HB ρ s'.m ρ S.m) (hk:Hw ρ N=true) (a:(ρ.filterMap (·.1)).Nodup):@Yi ⟨.t ρ⟩ (Tells N s' S):=Tells.q ρ hk a g
theorem yrt(g:K .ret s):@Yi ⟨h⟩ (Tm.T P N .ret K s):=T.ret g
theorem yen{rs:List RV}{o:D}(g:YJ (Eb s rs) s.m o):@Yi ⟨h⟩ (jG rs o .normal s):=N6 g
theorem yf{S:Ed}{S':St}{ρ:Yl}(hS:ed S s=S') (g:@Yi ⟨.t ρ⟩ (Tells N s S')) (g2:@Yi ⟨h⟩ (Tm.T P N a K S')):@Yi ⟨.f S ρ h⟩ (Tm.T P N a K s):=T.LF g g2
theorem gd{M:List M1}{ρ:Yl}{q:Prop}(g:@Yi ⟨.d M ρ x⟩ q):@Yi ⟨.d M ρ x⟩ q:=g
theorem yd{M:List M1}{S':St}{ρ:Yl}(hS:fd M s=S') (g:@Yi ⟨.t ρ⟩ (Tells N s S')) (g2:@Yi ⟨h⟩ (Tm.T P N a K S')):@Yi ⟨.d M ρ h⟩ (Tm.T P N a K s):=T.LF g g2
theorem yj[StbC N K] {X β:Type}{n:Nat}{S:X->Ed}{S':X->St}{o:Option X}{f:X->Option β}{r:β}(hS:∀z,ed (S z) s=S' z)
 (ha:∀z,o=some z->True->@Yi ⟨h⟩ (Tm.T P N a (KJ N K S' (.inl z:X⊕Unit)) s)) (hb:Wh n (∀z,f z=some r->@Yi ⟨x⟩ (Tm.T P N b K (S' z)))) (e:o.bind f=some r):@Yi ⟨.j n S h x⟩ (Tm.T P N (.seq a b) K s):=
 jn S' e (λz c=>ha z c trivial) λz _ c=>hb.h z c
theorem ye[StbC N K] {X R:Type}{n:Nat}{S:X->Ed}{S':X->St}{o:Option (X⊕R)}{f:X⊕R->Option R}{r:R}{p:Prop}(k:p) (hS:∀z,ed (S z) s=S' z)
 (ha:∀z,o=some z->Lk Sum.inr z r p->@Yi ⟨h⟩ (Tm.T P N a (KJ N K S' z) s)) (hb:Wh n (∀z,f (.inl z)=some r->@Yi ⟨x⟩ (Tm.T P N b K (S' z)))) (hf:∀v,f (.inr v)=some v:=by intros;rfl) (e:o.bind f=some r):@Yi ⟨.e n S h x⟩ (Tm.T P N (.seq a b) K s):=by
 obtain⟨z,c,h2⟩:=qi e;refine T.join S' z (ha z c ⟨?_,k⟩) ?_
 .grind
 .rintro y rfl;exact hb.h y h2
theorem yl[StbC N K] {σ β R:Type}{n m id:Nat}{x0:σ}{step:σ->Option (Ex σ β R)}{S:σ->Ed}{B:β->Ed}{S':σ->St}{c:β->St}{f:β⊕R->Option R}{r:R}{p:Prop}{τ:Yl}(k:p)
 (hS:∀z,ed (S z) s=S' z) (hB:∀z,ed (B z) s=c z) (ht:@Yi ⟨.t τ⟩ (Tells N s (S' x0)))
 (ha:Lh n (∀q z,step q=some z->Lk Ex.ret z r p->@Yi ⟨h⟩ (Tm.T P N a (KL N id K S' c z) (S' q)))) (hb:Wh m (∀z,f (.inl z)=some r->@Yi ⟨x⟩ (K .normal (c z)))) (hf:∀v,f (.inr v)=some v:=by intros;rfl) (e:(ja step x0).bind f=some r) :
 @Yi ⟨.l n m S B τ h x⟩ (Tm.T P N (.block id (.loop a)) K s):=by
 obtain⟨y,d,h2⟩:=qi e;refine lm d S' c ht (λq z g hv=>ha.h q z g ⟨?_,k⟩) ?_
 .grind
 .rintro b rfl;exact hb.h b h2
theorem yl'[StbC N K] {σ β R ρ:Type}{n m id:Nat}{x0:σ}{step:σ->Option (Ex σ β ρ)}{S:σ->Ed}{B:β->Ed}{S':σ->St}{c:β->St}{f:β⊕ρ->Option R}{r:R}{τ:Yl}
 (hS:∀z,ed (S z) s=S' z) (hB:∀z,ed (B z) s=c z) (ht:@Yi ⟨.t τ⟩ (Tells N s (S' x0)))
 (ha:Lh n (∀q z,step q=some z->True->@Yi ⟨h⟩ (Tm.T P N a (KL N id K S' c z) (S' q)))) (hb:Wh m (∀z,f (.inl z)=some r->@Yi ⟨x⟩ (K .normal (c z)))) (e:(ja step x0).bind f=some r) :
 @Yi ⟨.l n m S B τ h x⟩ (Tm.T P N (.block id (.loop a)) K s):=by
 obtain⟨y,d,h2⟩:=qi e;refine lm d S' c ht (λq z g _=>ha.h q z g trivial) ?_;rintro b rfl;exact hb.h b h2
theorem yu[StbC N K] {σ R:Type}{n id:Nat}{x0:σ}{step:σ->Option (Ex σ Empty R)}{S:σ->Ed}{S':σ->St}{f:Empty⊕R->Option R}{r:R}{p:Prop}{τ:Yl}(k:p)
 (hS:∀z,ed (S z) s=S' z) (ht:@Yi ⟨.t τ⟩ (Tells N s (S' x0)))
 (ha:Lh n (∀q z,step q=some z->Lk Ex.ret z r p->@Yi ⟨h⟩ (Tm.T P N a (KL N id K S' (λq:Empty=>q.elim) z) (S' q)))) (hf:∀v,f (.inr v)=some v:=by intros;rfl) (e:(ja step x0).bind f=some r) :
 @Yi ⟨.u n S τ h⟩ (Tm.T P N (.block id (.loop a)) K s):=by
 obtain⟨y,b,h2⟩:=qi e;refine lm b S' (λq:Empty=>q.elim) ht (λq z c hv=>ha.h q z c ⟨?_,k⟩) (λq=>q.elim)
 grind
theorem vw{n:Nat}{p:Prop}(h:p):Wh n p:=⟨h⟩
theorem vl{n:Nat}{p:Prop}(h:p):Lh n p:=⟨h⟩
theorem yT:@Yi ⟨h⟩ True:=trivial
end
section
variable {α β:Type} {e:α->D} {l r:List α} {i:Int} {y:α} {b:Nat} {g:List α->Option β} {z:β}
theorem bA[Enc α e] (h:(app b l r).bind g=some z):∃x,(l.length+r.length)*b<=2 ^ 47/\l.map e++r.map e=x.map e/\g x=some z:=by
 obtain⟨x,a,h2⟩:=qi h;exact⟨x,(Gv (e:=e) a).1,(Gv a).2,h2⟩
theorem bP[Enc α e] (h:(put l i y).bind g=some z):∃x,i.toNat<l.length/\(l.map e).set i.toNat (e y)=x.map e/\g x=some z:=by
 obtain⟨x,a,h2⟩:=qi h;exact⟨x,(IV (e:=e) a).1,(IV a).2,h2⟩
theorem bM[Enc α e] {n c:Int}(h:(Nw b y n c).bind g=some z):∃x,0<=n/\n<=c/\c<=2 ^ 62/\c.toNat*b<=2 ^ 48/\raa n.toNat (e y)=x.map e/\g x=some z:=by
 obtain⟨x,a,h2⟩:=qi h;obtain⟨h3,h4,h5,h6,h7⟩:=CK (e:=e) a
 grind
theorem bZ(h:(Tr l 0).bind g=some z):g []=some z:=by
 grind[Tr]
theorem bH[Enc α e] (h:(Tr l i).bind g=some z):∃x,0<=i/\i.toNat<=l.length/\(l.map e).take i.toNat=x.map e/\((l.map e).drop 0).take (i.toNat-0)=x.map e/\g x=some z:=by
 obtain⟨x,a,h2⟩:=qi h;obtain⟨h3,h4,h5⟩:=Q4 (e:=e) a
 grind
theorem bL[Enc α e] (h:(Zy l i).bind g=some z):∃x,0<=i/\i.toNat<=l.length/\i.toNat+x.length<=l.length/\l.length-i.toNat=x.length/\((l.map e).take l.length).drop i.toNat=x.map e/\((l.map e).drop i.toNat).take x.length=x.map e/\g x=some z:=by
 obtain⟨x,a,h2⟩:=qi h;obtain⟨h3,h4,h5,h6,h7⟩:=subl_o (e:=e) a
 grind[yO]
theorem bQ{k:IntKind}{a c:Int}{g:Int->Option β}(h:(quo k a c).bind g=some z):∃x,¬c=0/\ca k (a.tdiv c)=x/\g x=some z:=by
 obtain⟨x,h1,h2⟩:=qi h
 grind[quo_f]
theorem bR{k:IntKind}{a c:Int}{g:Int->Option β}(h:(rem k a c).bind g=some z):∃x,¬c=0/\a.tmod c=x/\g x=some z:=by
 obtain⟨x,b,h2⟩:=qi h;exact⟨x,(A6 b).1,(A6 b).2,h2⟩
theorem bX{s:ByteArray}{i:Int}{g:Int->Option β}(h:(Bv s i).bind g=some z):∃x,Bv s i=some x/\g x=some z:=qi h
end
theorem cT{a b:Bool}(h:a=b):a=b:=h
variable {P:Program}
theorem ZH{k:Nat}{ds:List D}{m:List Ent}{R:D->List Ent->Prop}{d2:D}{m2:List Ent}(h:CallT P k ds m R) (ht:∀d m',R d m'->Tells m.length ⟨[d],m'⟩ ⟨[d2],m2⟩):CallT P k ds m λd m'=>d=d2/\m'=m2:=by
 refine⟨h.1,λG w vs hv hi=>(h.2 G w vs hv hi).mono ?_⟩;rintro e w' ⟨v,d,m',G',rfl,o,hvd,b,p⟩;have hr:Rel G' w' { tmps:=#[v],defers:=[] } ⟨[d],m'⟩:=⟨by simp only[VsRel];simp_all,b,rfl⟩;have hN:m.length=G.n:=hi.n.symm;have c:=p.lX (Nat.le_of_eq hN);obtain⟨a,f,l⟩:=jq (ht d m' o) c.n hr;have i:=f.t;simp only[VsRel]at i;obtain⟨u,us,he,j,_⟩:=i;injection he with he _;subst he;have g:=c.trans l;rw[hN]at g;exact⟨_,d2,m2,a,rfl,⟨rfl,rfl⟩,j,f.inv,g.toStep⟩
def EI(N:Nat) (rs:List RV) (S:St) (e:Exit) (s:St):Prop:=
 match e with
 |.normal=>∃S',Tells N s S'/\∃ds,Eb S' rs=some ds/\Tells N ⟨[yn ds],S'.m⟩ S
 |.ret=>∃S',Tells N s S'/\∃ds,Eb S' rs=some ds/\Tells N ⟨[yn ds],S'.m⟩ S
 |_=>False
def ZJ(N:Nat) (r:Option (List D)) (m:List Ent) (S:St):Prop:=∃ds,r=some ds/\Tells N ⟨[yn ds],m⟩ S
theorem xD{N:Nat}{rs:List RV}{S s:St}(h:ZJ N (Eb s rs) s.m S):EI N rs S .ret s:=by
 obtain⟨ds,a,h2⟩:=h;exact⟨s,.refl s,ds,a,h2⟩
theorem M6{N:Nat}{rs:List RV}{S s:St}(h:ZJ N (Eb s rs) s.m S):EI N rs S .normal s:=by
 obtain⟨ds,a,h2⟩:=h;exact⟨s,.refl s,ds,a,h2⟩
theorem Xr{N:Nat}{ds:List D}{m:List Ent}{S:St}:ZJ N (some ds) m S=Tells N ⟨[yn ds],m⟩ S:=by simp[ZJ]
@[congr] theorem B8{N:Nat} {r a:Option (List D)} {m:List Ent} {S:St} (h:r=a):ZJ N r m S=ZJ N a m S:=by rw[h]
instance {N:Nat}{rs:List RV}{S:St}:StbC N (EI N rs S):=⟨by
 rintro s S' h ⟨S1,a,h2⟩;exact⟨S1,h.trans a,h2⟩⟩
theorem rz{k:Nat}(KF:Kf P k) {ds:List D}{m m2:List Ent}{d2:D}(w:Nat) (hw:KF.F.ntmps=ds.length+w) (h:T P m.length KF.F.code (EI m.length KF.F.results ⟨[d2],m2⟩) ⟨ds++Tm.ds w [],m⟩):CallT P k ds m λd m'=>d=d2/\m'=m2:=by
 refine ZH (R:=λd m'=>Tells m.length ⟨[d],m'⟩ ⟨[d2],m2⟩) (Aj KF.ok KF.nm ?_) λ_ _ h=>h;rw[hw,Iac,←UA];refine T.tT (h.mono ?_);have key:∀(e:Exit) (s:St),(∀s',Cy KF.F.results (λd m'=>Tells m.length ⟨[d],m'⟩ ⟨[d2],m2⟩) e s' = ∃ds,Eb s' KF.F.results=some ds/\Tells m.length ⟨[yn ds],s'.m⟩ ⟨[d2],m2⟩)->(∃S',Tells m.length s S'/\∃ds,Eb S' KF.F.results=some ds/\Tells m.length ⟨[yn ds],S'.m⟩ ⟨[d2],m2⟩)->lJ m.length (Cy KF.F.results λd m'=>Tells m.length ⟨[d],m'⟩ ⟨[d2],m2⟩) e s:=by
  intro e s he ⟨S,h1,h2⟩ G w a hN hr
  grind[jq]
 intro e s b
 cases e with
 |normal=>exact key _ s (λ_=>rfl) b
 |ret=>exact key _ s (λ_=>rfl) b
 |_=>exact(b:False).elim
theorem gO{a:Int}{k:IntKind}:vg .shr .u64 a k 1=some (.int .u64 (a.fdiv 2)):=by
 have h:((2 ^ (min (1:Int).toNat IntKind.u64.bits):Nat):Int)=2:=by decide
 grind[vg]
def mL:List Int:=[31,28,31,30,31,30,31,31,30,31,30,31]
def e_mL(n:Int):D:=.v (.int .i64 n)
theorem Q5{s:St}:s.ev (.global 2)=.pt (.agg (mL.map e_mL)):=paa rfl rfl
theorem gU{n:Int}:e_mL n=.v (.int .i64 n):=paa rfl rfl
def lst{α:Type}(l:List α):Option (List α):=some l
def mka{α:Type}(b:Nat) (z:α) (n:Int):Option (List α):=if 0<n/\n.toNat*b<=2 ^ 47 then some (raa n.toNat z)else none
def tY{α:Type}(l:List α) (lo:Int) (v:List α) (z:α):Option (List α):=if 0<=lo/\lo.toNat+v.length<=l.length then some (l.take lo.toNat++raa v.length z++l.drop (lo.toNat+v.length))else none
section
variable {α β:Type} {e:α->D} {l v:List α} {i:Int} {y:α} {b:Nat} {g:List α->Option β} {z:β}
theorem bK[Enc α e] (h:(mka b y i).bind g=some z):∃x,0<i/\i.toNat*b<=2 ^ 47/\raa i.toNat (e y)=x.map e/\g x=some z:=by
 obtain⟨x,a,h2⟩:=qi h;unfold mka at a;split at a
 .rename_i hc;obtain rfl:=Raa a;exact⟨_,hc.1,hc.2,List.map_replicate.symm,h2⟩
 simp_all
theorem bC[Enc α e] (h:(tY l i v y).bind g=some z):∃x,(l.map e).take i.toNat++raa v.length (e y)++(l.map e).drop (i.toNat+v.length)=x.map e/\g x=some z:=by
 obtain⟨x,a,h2⟩:=qi h;unfold tY at a;split at a
 .obtain rfl:=Raa a;exact⟨_,by simp,h2⟩
 simp_all
theorem bV[Enc α e] (h:(lst l).bind g=some z):∃x,l.map e=x.map e/\g x=some z:=by
 obtain⟨x,a,h2⟩:=qi h;obtain rfl:=Raa a
 grind
theorem bG{g:Int->Option β}(h:(idx mL i).bind g=some z):∃x,0<=i/\mL[i.toNat]?=some x/\i.toNat<12/\g x=some z:=bO h
theorem zn:type_of% (And.intro (And.intro @gO @Q5) (And.intro @gU @vad)):=And.intro (And.intro @gO @Q5) (And.intro @gU @vad)
end
def KX(P:Program) (k:Nat) (S:Nat) (l l':List D):Prop:=∀m id Na,m[id]?=some (.live S Na l)->CallT P k [.own id Na] m λd m'=>d=.own id (Na+1)/\m'=m.set id (.live S (Na+1) l')
section
open Go.Sort
theorem VT{k:FuncId}(f:Enters P k) {zs ys:List Int}(a:ys.length<=zs.length)
 (d:∀w b off cap,Holds (Value.int .i64) w b off zs.toArray->zs.length<=cap->Calls P k #[.slice (some ⟨b,off,none⟩) zs.length cap] w λe w'=>e=.returned (.slice (some ⟨b,off,none⟩) ys.length cap)/\∃n xs,xs.length+ys.length=zs.length/\w'=grow (putRow (Value.int .i64) (Sort.ahead w n) b off (ys++xs).toArray) #[])
 (c:∀w cap,Calls P k #[.slice none 0 cap] w λe w'=>e=.returned (.slice none 0 cap)/\w'=w):KX P k 1 (zs.map eI) (ys.map eI):=
 λm id Na hm=>XL f hm a d c
end
section
variable {h:Hi} {k id S Na:Nat} {p:Prop} {pre post l l' ds:List D} {o:D} {m:List Ent} {f:D->List Ent->Prop}
theorem ycA[c:Con p (KX P k S l l')] (e:p) (hf:@Yi ⟨h⟩ (f (.own id (Na+1)) (m.set id (.live S (Na+1) l')))) (hm:m[id]?=some (.live S Na l)):@Yi ⟨h⟩ (Je P k [.own id Na] m f):=bc (c.h e m id Na hm) hf
theorem ycf{d d':D}{q:List D} [c:Con p (Den P k ([d']++q) o)] (e:p) (hq:fa q=true) (hf:@Yi ⟨h⟩ (f o m)) (a:Sq [] [] 9 d d'):@Yi ⟨h⟩ (Je P k (d::q) m f):=iT (c.h e) hq hf a
theorem ycC[c:Con p (wD P k pre post S l o)] (e:p) (hf:@Yi ⟨h⟩ (f o (m.set id .gone))) (a:ds=pre++.own id Na::post) (hm:m[id]?=some (.live S Na l)):@Yi ⟨h⟩ (Je P k ds m f):=jO (c.h e) a hm hf
theorem ycW[c:Con p (uS P k pre post S l l' o)] (e:p) (hf:@Yi ⟨h⟩ (f o (m.set id (.live S Na l')))) (a:ds=pre++.own id Na::post) (hm:m[id]?=some (.live S Na l)):@Yi ⟨h⟩ (Je P k ds m f):=qY (c.h e) a hm hf
end
def St.hd(s:St):D:=s.t.headD .dead
theorem yi{X β:Type}{h x:Hi}{k:Nat}{KF:Kf P k}{n w:Nat}{S:X->Ed}{d2:X->D}{m2:X->List Ent}{m:List Ent}{ds:List D}{f:D->List Ent->Prop}{o:Option X}{g:X->Option β}{r:β}
 (hS:∀z,ed (S z) ⟨[.dead],m⟩=⟨[d2 z],m2 z⟩) (hw:KF.F.ntmps=ds.length+w)
 (ha:∀z,o=some z->True->@Yi ⟨h⟩ (T P m.length KF.F.code (EI m.length KF.F.results ⟨[d2 z],m2 z⟩) ⟨ds++Tm.ds w [],m⟩))
 (hb:Wh n (∀z,g z=some r->@Yi ⟨x⟩ (f (d2 z) (m2 z)))) (e:o.bind g=some r):@Yi ⟨.i KF n w S h x⟩ (Je P k ds m f):=by
 obtain⟨z,a,h2⟩:=qi e;exact bc (rz KF w hw (ha z a trivial)) (hb.h z h2)
theorem gi0{X:Type}{h x:Hi}{k j:Nat}{KF:Kf P j}{n w:Nat}{S:X->Ed}{m:List Ent}{ds:List D}{f:D->List Ent->Prop}(g:@Yi ⟨.i KF n w S h x⟩ (Je P k ds m f)):@Yi ⟨.i KF n w S h x⟩ (Je P k ds m f):=g
structure Ck (p q:Prop):Prop where
 h:p
 k:q
instance {N:Nat}{K:Exit->St->Prop}:StbC N (lJ N K):=⟨by
 intro s S h k G w a hN hr;obtain⟨b,d,h2⟩:=jq h hN hr;obtain⟨s',c,e,f,g⟩:=k b w a h2.n d;exact⟨s',c,e,f,h2.trans g⟩⟩
def MQ(r:Option (List D)) (f:D->List Ent->Prop) (m:List Ent):Prop:=∃ds,r=some ds/\f (yn ds) m
theorem NQ{ds:List D}{f:D->List Ent->Prop}{m:List Ent}:MQ (some ds) f m=f (yn ds) m:=by simp[MQ]
@[congr] theorem z8{r a:Option (List D)} {f:D->List Ent->Prop} {m:List Ent} (h:r=a):MQ r f m=MQ a f m:=by rw[h]
theorem yc{X β:Type}{h:Hi}{k:Nat}{KF:Kf P k}{w:Nat}{m:List Ent}{ds:List D}{f:D->List Ent->Prop}{o:Option X}{g:X->Option β}{r:β}{q:Prop}(b:q) (hw:KF.F.ntmps=ds.length+w)
 (ha:∀z,o=some z->Ck (g z=some r) q->@Yi ⟨h⟩ (T P m.length KF.F.code (lJ m.length (Cy KF.F.results f)) ⟨ds++Tm.ds w [],m⟩)) (e:o.bind g=some r):@Yi ⟨.c KF w h⟩ (Je P k ds m f):=by
 obtain⟨z,a,h2⟩:=qi e;refine Aj KF.ok KF.nm ?_;rw[hw,Iac,←UA];exact T.tT (ha z a ⟨h2,b⟩)
theorem gc0{h:Hi}{k j:Nat}{KF:Kf P j}{w:Nat}{m:List Ent}{ds:List D}{f:D->List Ent->Prop}(g:@Yi ⟨.c KF w h⟩ (Je P k ds m f)):@Yi ⟨.c KF w h⟩ (Je P k ds m f):=g
theorem gv{x:Hi}{p:Prop}(g:@Yi ⟨.v x⟩ p):@Yi ⟨.v x⟩ p:=g
theorem yvr{x:Hi}{M:Nat}{rs:List RV}{f:D->List Ent->Prop}{s:St}(g:@Yi ⟨x⟩ (MQ (Eb s rs) f s.m)):@Yi ⟨.v x⟩ (lJ M (Cy rs f) .ret s):=by
 obtain⟨ds,a,h2⟩:=g;exact lJ.of (show Cy rs f .ret s from⟨ds,a,h2⟩)
theorem yvn{x:Hi}{M:Nat}{rs:List RV}{f:D->List Ent->Prop}{s:St}(g:@Yi ⟨x⟩ (MQ (Eb s rs) f s.m)):@Yi ⟨.v x⟩ (lJ M (Cy rs f) .normal s):=by
 obtain⟨ds,a,h2⟩:=g;exact lJ.of (show Cy rs f .normal s from⟨ds,a,h2⟩)
theorem yno{α:Type}{r:α}{p:Prop}(h:none=some r):p:=nomatch h
theorem yrr{h:Hi}{K:Exit->St->Prop}{s:St}{N:Nat}(g:@Yi ⟨h⟩ (K .ret s)):@Yi ⟨h⟩ (Tm.T P N .ret K s):=T.ret g
theorem yrI{N:Nat}{h:Hi}{rs:List RV}{S s:St}(g:@Yi ⟨h⟩ (ZJ N (Eb s rs) s.m S)):@Yi ⟨h⟩ (EI N rs S .ret s):=xD g
theorem ynI{N:Nat}{h:Hi}{rs:List RV}{S s:St}(g:@Yi ⟨h⟩ (ZJ N (Eb s rs) s.m S)):@Yi ⟨h⟩ (EI N rs S .normal s):=M6 g
class FrO (d:D):Prop where
 h:la d=true
instance {α:Type}{e:α->D} [Fr e] {x:α}:FrO (e x):=⟨Fr.h x⟩
instance {l:List D} [FrL l]:FrO (.tup l):=⟨FrL.h⟩
def dep:Nat->D->Bool
 |0,_=>false
 |k+1,.agg l=>l.all (dep k)
 |k+1,.tup l=>l.all (dep k)
 |_+1,.sl _ _=>true
 |k+1,.pt d=>dep k d
 |_+1,.v _=>true
 |_,_=>false
theorem Dw(m:List Ent):∀{k:Nat}{d:D},la d=true->dep k d=true->bf k m d=d
 |0,_,_,h=>by grind[dep]
 |k+1,.agg l,a,h2=>by
  simp only[dep,Yaa]at h2;simp only[la,Ci]at a;simp only[bf];congr 1;exact(Qab λd hd=>Dw m (a d hd) (h2 d hd)).trans (Bae _)
 |k+1,.tup l,a,h2=>by
  simp only[dep,Yaa]at h2;simp only[la,Ci]at a;simp only[bf];congr 1;exact(Qab λd hd=>Dw m (a d hd) (h2 d hd)).trans (Bae _)
 |_+1,.sl _ l,a,_=>by
  simp_all[la,bf]
 |k+1,.pt d,a,h2=>by
  simp only[dep]at h2;simp only[la]at a;simp only[bf,Dw m a h2]
 |_+1,.v _,_,_=>rfl
 |k+1,.own ..,_,h=>by grind[dep]
 |k+1,.view ..,_,h=>by grind[dep]
 |k+1,.ref ..,_,h=>by grind[dep]
 |k+1,.fn ..,_,h=>by grind[dep]
 |k+1,.mp ..,_,h=>by grind[dep]
 |k+1,.ifc ..,_,h=>by grind[dep]
 |k+1,.dead,_,h=>by grind[dep]
theorem qF{id Na:Nat}:∀{l:List D},fa l=true->l.map (qC id Na)=l
 |[],_=>rfl
 |d::l,h=>by
  simp only[fa,Caa]at h;rw[List.map_cons,qF h.2];congr 1;have h1:=h.1;cases d<;>simp_all[qC,la]
def FP(P:Program) (k:Nat) (pre post:List D) (S:Nat) (l l':List D) (o:D):Prop:=fa pre=true/\fa post=true/\∀m id Na,m[id]?=some (.live S Na l)->CallT P k (pre++.ref id Na 0 0::post) m λd m'=>d=o/\m'=m.set id (.live S Na l')
theorem FP.of{k:Nat}{pre post:List D}{S:Nat}{l l':List D}{o:D}(n:Nat) (K:Kf P k) (h:T P 1 K.F.code (EI 1 K.F.results ⟨[o],[.live S 0 l']⟩) ⟨(pre++.ref 0 0 0 0::post)++Tm.ds n [],[.live S 0 l]⟩)
 (c:fa pre=true:=by exact FrL.h) (a:fa post=true:=by exact FrL.h) (hl:fa l=true:=by exact FrL.h) (ho:la o=true:=by exact FrO.h) (f:fa l'=true:=by exact FrL.h) (hd:dep 8 o=true:=by rfl) (b:l'.all (dep 8)=true:=by rfl)
 (hn:K.F.ntmps=(pre++.ref 0 0 0 0::post).length+n:=by rfl):FP P k pre post S l l' o:=by
 refine⟨c,a,λm id Na e=>?_⟩;have h1:=rz K n hn (m:=[.live S 0 l]) (m2:=[.live S 0 l']) (d2:=o) h;have g:(pre++.ref id Na 0 0::post).map (qC id Na)=pre++.ref 0 0 0 0::post:=by
  simp_all[qC,qF]
 refine(gT e hl (m1:=[.live S 0 l']) rfl (by rw[g];omega)).mono ?_;rintro d m' ⟨rfl,rfl⟩;refine⟨Dw _ ho hd,?_⟩;congr 2;rw[Yaa]at b;exact(Qab λd hd=>Dw _ (Ci.1 f d hd) (b d hd)).trans (Bae _)
theorem ycE{pre post:List D}{S id Na k:Nat}{l l' ds:List D}{o:D}{m:List Ent}{f:D->List Ent->Prop}{h:Hi}{p:Prop} [c:Con p (FP P k pre post S l l' o)] (e:p) (hf:@Yi ⟨h⟩ (f o (m.set id (.live S Na l')))) (a:ds=pre++.ref id Na 0 0::post) (hm:m[id]?=some (.live S Na l)):@Yi ⟨h⟩ (Je P k ds m f):=by
 subst a;exact bc ((c.h e).2.2 m id Na hm) hf
theorem gce{h:Hi}{k:FuncId}{ds:List D}{ids:List Nat}{fp:List (List Nat)}{p:List Nat}{x:Nat}{f:D->Ent->Prop}{s:St}(g:@Yi ⟨h⟩ (JB P k ds ids fp p x f s)):@Yi ⟨h⟩ (JB P k ds ids fp p x f s):=g
theorem ywE{pre post:List D}{S Na k:Nat}{l l' ds:List D}{o:D}{h:Hi}{q:Prop}{ids:List Nat}{fp:List (List Nat)}{p:List Nat}{x:Nat}{f:D->Ent->Prop}{s:St} [c:Con q (FP P k pre post S l l' o)] (e:q) (hf:@Yi ⟨h⟩ (f o (.live S Na l')))
 (a:ds=pre++.ref x Na 0 0::post) (hm:s.m[x]?=some (.live S Na l)) (hx:(ids.elem x&&gz fp ids p)=true) (hi:ids=[x]):@Yi ⟨h⟩ (JB P k ds ids fp p x f s):=by
 subst a;subst hi;have hlt:x<s.m.length:=(iab.1 hm).1;refine⟨hx,o,_,⟨λid hid=>by simp_all,λm hmm=>?_⟩,hf⟩;exact(c.h e).2.2 m x Na (by simp_all)
theorem ydp{h:Hi}{N:Nat}{q:Nat}{l:List RI}{K:Exit->St->Prop}{s:St}{ps:List (List Nat)}{pl:List (Option Nat)}(hm:P.follows .mixedOrders=true) (c:ps=nw q) (a:yy pl l=true) (b:jz s.m pl=true) (g:@Yi ⟨h⟩ (Pg P pl ps q l (K .normal) [] s)):@Yi ⟨.g ps pl h⟩ (Tm.T P N (.draw q l) K s):=T.dp hm ps pl c a b g
def DS(m:List Ent):D->D->Prop
 |.agg a,.agg b=>dz (Lq m) a b
 |d,e=>Lq m d e
def xL(ids:List Nat) (ds:List D):Bool:=ds.all λd=>match d with|.agg a=>Ay ids a|d=>Ay ids [d]
theorem PO{m m':List Ent}{ids:List Nat}(hm:∀id∈ids,m'[id]?=m[id]?):∀{a b:List D},dz (DS m) a b->xL ids a=true->Sbs [] m' a b
 |[],[],_,_=>.nil
 |d::l,e::r,h,ht=>by
  simp only[xL,List.all_cons,Caa]at ht;have i:=PO hm h.2 (by grind[xL]);have c:=h.1;have f:=ht.1;unfold DS at c;split at c
  .exact .agg (jD hm c f) i
  .rename_i hne;have g:Ay ids [d]=true:=by
    grind[Ay,Nd]
   exact Sbs.app (a:=[d]) (b:=[e]) (jD hm ⟨c,trivial⟩ g) i
 |[],_::_,h,_=>h.elim
 |_::_,[],h,_=>h.elim
theorem dT{k:Nat}{ids:List Nat}{ds ds':List D}{o:D}{R:St->Prop}{s:St}{dst:Option Tmp}(h:Den P k ds' o) (hf:R (s.put dst o)) (a:flat o=true) (hi:(ids.all λi=>decide (i<s.m.length))=true) (ht:xL ids ds=true) (b:dz (DS s.m) ds ds'):lu P k ds ids R s dst:=by
 refine⟨o,⟨λid hid=>?_,λm hm=>?_⟩,hf⟩
 .simp_all
 .exact Hy h (PO hm b ht) a ⟨rfl,rfl⟩
theorem ylw{k:Nat}{h:Hi}{s:St}{p:Prop}{ids:List Nat}{ds ds':List D}{o:D}{R:St->Prop}{dst:Option Tmp} [c:Con p (Den P k ds' o)] (e:p) (hf:@Yi ⟨h⟩ (R (s.put dst o))) (a:flat o=true) (hi:(ids.all λi=>decide (i<s.m.length))=true) (ht:xL ids ds=true) (b:dz (DS s.m) ds ds'):@Yi ⟨h⟩ (lu P k ds ids R s dst):=dT (c.h e) hf a hi ht b
section
variable {m:List Ent} {S x y lo n s:Nat} {a b:List D} {e:D}
theorem TU:DS m (.agg a) (.agg b)=dz (Lq m) a b:=paa rfl rfl
theorem UU:DS m (.own x y) (.sl S b)=Lq m (.own x y) (.sl S b):=paa rfl rfl
theorem JO:DS m (.view x y lo n) (.sl S b)=Lq m (.view x y lo n) (.sl S b):=paa rfl rfl
theorem VU{z:Nat}:DS m (.ref x y z s) (.pt e)=Lq m (.ref x y z s) (.pt e):=paa rfl rfl
theorem l2_v{z:Value}:DS m (.v z) e=Lq m (.v z) e:=by cases e<;>rfl
theorem V5{z:List D}:DS m (.sl S z) e=Lq m (.sl S z) e:=by cases e<;>rfl
theorem U5{z:D}:DS m (.pt z) e=Lq m (.pt z) e:=by cases e<;>rfl
theorem zw:type_of% (And.intro (And.intro (And.intro @TU @UU) (And.intro @JO @VU)) (And.intro (And.intro @l2_v @V5) @U5)):=And.intro (And.intro (And.intro @TU @UU) (And.intro @JO @VU)) (And.intro (And.intro @l2_v @V5) @U5)
end
section
variable {P:Program}
end
def wq(m:List Ent):Yl->List (Nat×List D)->Prop
 |[],[]=>True
 |(some j,v,0)::os,(S,l)::L=>m[j]?=some (.live S v l)/\wq m os L
 |_,_=>False
def Lc(L:List (Nat×List D)):List Ent:=L.map λp=>.live p.1 0 p.2
theorem X2{ρ:Yl}{m:List Ent}{a b:List D}(h:Sbs ρ [] a b):Sbs ρ m a b:=by
 induction h with
 |nil=>exact .nil
 |same hf h c=>exact .same hf c
 |dead h c=>exact .dead c
 |nils h c=>exact .nils c
 |mw i hi h c=>exact .mw i hi c
 |agg ha h d c=>exact .agg d c
 |tup ha h d c=>exact .tup d c
 |sl ha h d c=>exact .sl d c
 |own hi h c=>exact .own hi c
 |ref hi h c=>exact .ref hi c
 |view hi h c=>exact .view hi c
 |mp hi h c=>exact .mp hi c
 |bf hm|fview hm|fref hm=>simp at hm
 |pt ha h d c=>exact .pt d c
 |fn ha hc h d e c=>exact .fn d e c
 |ifc ha h d c=>exact .ifc d c
theorem vK{m:List Ent}:∀{ρ:Yl}{L:List (Nat×List D)},wq m ρ L->ρ.length=L.length/\∀(i S:Nat) (l:List D),L[i]?=some (S,l)->∃j v,ρ[i]?=some (some j,v,0)/\m[j]?=some (Ent.live S v l)
 |[],[],_=>by simp
 |(some j,v,0)::os,(S,l)::L,h=>by
  obtain⟨a,h2⟩:=vK h.2;refine⟨by simp[a],λi S' l' hi=>?_⟩
  cases i with
  |zero=>
   have b:=h.1;simp only[Zaa,aab,Paa]at hi;obtain⟨rfl,rfl⟩:=hi;exact⟨j,v,rfl,b⟩
  |succ i=>exact h2 i S' l' (by simpa using hi)
 |[],_::_,h=>h.elim
 |(some _,_,0)::_,[],h=>h.elim
 |(some _,_,_+1)::_,[],h=>h.elim
 |(none,_,_)::_,[],h=>by simp[wq]at h
 |(none,_,_)::_,_::_,h=>by simp[wq]at h
 |(some _,_,_+1)::_,_::_,h=>by simp[wq]at h
mutual
def KK:D->Yl
 |.own id Na=>[(some id,Na,0)]
 |.agg l=>tr l
 |_=>[]
def tr:List D->Yl
 |[]=>[]
 |d::l=>KK d++tr l
end
mutual
theorem AH:∀{d:D},la d=true->KK d=[]
 |.agg l,h=>by simp only[la]at h;simp only[KK,BH h]
 |.own ..,h=>by simp[la]at h
 |.v _,_|.tup _,_|.sl ..,_|.pt _,_|.ref ..,_|.view ..,_|.fn ..,_|.mp _,_|.ifc ..,_|.dead,_=>by simp[KK]
theorem BH:∀{l:List D},fa l=true->tr l=[]
 |[],_=>by simp[tr]
 |d::l,h=>by
  simp only[fa,Caa]at h;simp only[tr,AH h.1,BH h.2,List.append_nil]
end
variable {P:Program}
def Xn(P:Program) (k:Nat) (a:List D) (L:List (Nat×List D)) (o:D):Prop:=
 ∀m ρ ds,dz (Sq ρ [] 9) ds a->wq m ρ L->(ρ.filterMap (·.1)).Nodup->CallT P k ds m λd m'=>d=o/\m'=m
def Tq(ρ:Yl) (m:List Ent):List Ent:=m.mapIdx λi e=>if bq ρ i then .gone else e
theorem eA{ρ:Yl}{m:List Ent}{i:Nat}{e:Ent}(h:(Tq ρ m)[i]?=some e) (hl:e.isLive=true):m[i]?=some e/\bq ρ i=false:=by
 unfold Tq at h;rw[bae]at h
 cases hm:m[i]? with
 |none=>simp[hm]at h
 |some x=>
  simp only[hm,uac,aab]at h;split at h
  .subst h;cases hl
  .subst h;simp_all
theorem IK{ρ:Yl}{j i:Nat}{v:Nat×Nat}(h:(ρ:List (Option Nat×Nat×Nat))[i]?=some (some j,v)):bq ρ j=false:=by
 cases hb:bq ρ j
 .rfl
 .exact absurd rfl (ZO hb i j v h)
theorem OI{ρ:Yl}{j:Nat}(h:bq ρ j=false):∃(i:Nat) (v:Nat×Nat),ρ[i]?=some (some j,v):=by
 unfold bq at h;rw[List.all_eq_false]at h;obtain⟨⟨a,v⟩,hx,h⟩:=h;obtain⟨i,hi⟩:=List.getElem?_of_mem hx
 cases a with
 |none=>simp at h
 |some k=>exact⟨i,v,by simp_all⟩
theorem RU{G:Gh}{w:World}{m:List Ent}(ρ:Yl) (hi:Inv G w m):Inv G w (Tq ρ m):=by
 refine⟨by simp[Tq,hi.n],hi.F,λi e he=>?_,λi j e e' c h2 a b=>?_,hi.gl⟩
 .by_cases hl:e.isLive=true
  .exact hi.ent i e (eA he hl).1
  .cases e with
   |gone=>trivial
   |_=>simp[Ent.isLive]at hl
 .exact hi.apart i j e e' (eA c a).1 (eA h2 b).1 a b
theorem fT{k:Nat}{ρ:Yl}{L:List (Nat×List D)}{m:List Ent}{ds ds0:List D}{o:D}(hL:wq m ρ L) (hn:(ρ.filterMap (·.1)).Nodup) (hs:Sbs ρ [] ds ds0) (hf:∀p∈L,fa p.2=true) (ho:la o=true)
 (h:CallT P k ds0 (Lc L) λd m'=>d=o/\m'=Lc L):CallT P k ds m λd m'=>d=o/\m'=m:=by
 refine⟨h.1,λG w vs hv hi=>?_⟩;obtain⟨hlen,hget⟩:=vK hL;have hi1:=RU ρ hi;have E:∀(i:Nat) o',ρ[i]?=some o'->∃j v S l,o'=(some j,v,0)/\L[i]?=some (S,l)/\m[j]?=some (Ent.live S v l):=by
  intro i o' hio;have K:i<L.length:=by rw[←hlen];exact(iab.1 hio).1
  obtain⟨j,v,a,h2⟩:=hget i L[i].1 L[i].2 (by simp[K]);exact⟨j,v,L[i].1,L[i].2,by simp_all,by simp[K],h2⟩
 have hgo:∀(i j:Nat) v,ρ[i]?=some (some j,v)->∃e:Ent,(Tq ρ m)[j]?=some e/\e.isLive=true/\(∀S U l,e=.live S U l->U=v.1):=by
  intro i j v t;obtain⟨j',U,S,l,a,h2,Z⟩:=E i _ t;simp only[Paa,aab]at a;obtain⟨rfl,rfl⟩:=a;refine⟨.live S U l,?_,rfl,λS1 v1 l1 he=>?_⟩
  .simp only[Tq,bae,Z,uac,IK t];rfl
  .injection he with _ h _;exact h.symm
 have hv1:=((X2 (m:=Tq ρ m) hs).rel hi1 hgo).1 vs hv;have lentB:∀(i j:Nat) v,ρ[i]?=some (some j,v)->(pb G (Tq ρ m) ρ).B i=G.B j/\(pb G (Tq ρ m) ρ).S i=G.S j/\(pb G (Tq ρ m) ρ).N i=G.N j/\(pb G (Tq ρ m) ρ).C i=G.C j/\(pb G (Tq ρ m) ρ).V i=v.2:=by
  intro i j v t;simp[pb,t]
 have X:∀b,(pb G (Tq ρ m) ρ).F b↔G.F b:=by
  intro b;refine⟨?_,λh=>.inl h⟩;rintro(h|⟨⟨i,e,he,hl,W⟩,hne⟩)
  .exact h
  .obtain⟨-,M⟩:=eA he hl;obtain⟨R,U,A⟩:=OI M;exact absurd W (hne R i U A)
 have r:∀(i:Nat) e,(Lc L)[i]?=some e->∃j v S l,ρ[i]?=some (some j,v,0)/\m[j]?=some (Ent.live S v l)/\e=.live S 0 l/\fa l=true:=by
  intro i e he;simp only[Lc,List.getElem?_map,Option.map_eq_some_iff]at he;obtain⟨⟨S,l⟩,a,rfl⟩:=he;obtain⟨j,v,h2,Z⟩:=hget i S l a;exact⟨j,v,S,l,h2,Z,rfl,hf _ (Hab a)⟩
 have hsub0:SubF G w (pb G (Tq ρ m) ρ) w:=⟨λb h=>.inl h,λ_ _=>rfl⟩;have hi0:Inv (pb G (Tq ρ m) ρ) w (Lc L):=by
  refine⟨by simp[pb,Lc,hlen],λb hb=>hi.F b ((X b).1 hb),λi e he=>?_,λi R e e' he q _ _ b hb g=>?_,hi.gl.bare λ_ h=>.inl h⟩
  .obtain⟨j,v,S,l,a,h2,rfl,hfl⟩:=r i e he;obtain⟨a1,a2,a3,a4,H⟩:=hi.ent _ _ h2;obtain⟨b1,b2,b3,b4,b5⟩:=lentB _ _ _ a;refine⟨b5,by rw[b2,a2],by rw[b3,a3],by rw[b4];exact a4,?_⟩;rw[b1,b4];rcases H with H|⟨b',cs,T,g,hF,I,hsz,hrw⟩
   .exact .inl H
   .exact .inr ⟨b',cs,T,g,λh=>hF ((X _).1 h),I,hsz,Qa.free hsub0 rfl hfl hrw⟩
  .obtain⟨j,v,S,l,a,h2,rfl,-⟩:=r i e he;obtain⟨j',U,S',l',h1',h2',rfl,-⟩:=r R e' q;rw[(lentB _ _ _ a).1]at hb;rw[(lentB _ _ _ h1').1]at g;obtain rfl:=hi.apart j j' _ _ h2 h2' rfl rfl b hb g;exact xH hn _ _ _ _ _ a h1'
 have s:∀b,df (pb G (Tq ρ m) ρ) (Lc L) b->∃(j:Nat) (e:Ent),m[j]?=some e/\e.isLive=true/\G.B j=some b/\bq ρ j=false:=by
  rintro b ⟨i,e,he,hl,W⟩;obtain⟨j,v,S,l,a,h2,rfl,-⟩:=r i e he;rw[(lentB _ _ _ a).1]at W;exact⟨j,_,h2,rfl,W,IK a⟩
 refine(h.2 _ w vs hv1 hi0).mono ?_;rintro e w' ⟨v,d,m',G',rfl,⟨rfl,rfl⟩,hvd,J,f⟩;have olt:∀i x,m[i]?=some x->x.isLive=true->∀b,G.B i=some b->b<w.heap.size/\¬G.F b:=λi x hx hl b hb=>(hi.ent i x hx).lt hl hb;have same:∀(i j:Nat) vv,ρ[i]?=some (some j,vv)->G'.B i=G.B j/\G'.S i=G.S j/\G'.N i=G.N j/\G'.C i=G.C j:=by
  intro i j vv t;have hi2:i<(pb G (Tq ρ m) ρ).n:=Xy t;obtain⟨j',U,S,l,a,h2,Z⟩:=E i _ t;have he:(Lc L)[i]?=some (.live S 0 l):=by simp[Lc,h2]
  have hV:=(J.ent i _ he).1;obtain⟨b1,b2,b3,b4,b5⟩:=lentB _ _ _ t;rcases f.le.id i hi2 with⟨c1,c2,c3,c4,c5⟩|c
  .exact⟨by rw[c2,b1],by rw[c3,b2],by rw[c4,b3],by rw[c5,b4]⟩
  .rw[hV]at c;omega
 have nF:∀i x,m[i]?=some x->x.isLive=true->∀b,G.B i=some b->¬G'.F b:=by
  intro i x hx hl b hb hF;have K:=olt i x hx hl b hb;cases O:bq ρ i
  .obtain⟨R,vv,A⟩:=OI O;obtain⟨j',U,S,l,a,h2,Z⟩:=E R _ A;have he:(Lc L)[R]?=some (.live S 0 l):=by simp[Lc,h2]
   obtain⟨-,-,-,-,H⟩:=J.ent R _ he;have W:=(same _ _ _ A).1;rcases H with H|⟨b',cs,T,g,hF',-⟩
   .rw[W,hb]at H;simp at H
   .rw[W,hb]at g;injection g with g;subst g;exact hF' hF
  .rcases f.newF b K.1 hF with a|a
   .exact K.2 ((X _).1 a)
   .obtain⟨j,e',q,z,y,u⟩:=s b a;obtain rfl:=hi.apart i j _ _ hx q hl z b hb y;rw[O]at u;cases u
 have hle:Le G w { G with F:=G'.F } w':=⟨λb hb=>f.le.F b (.inl hb),λb hb=>f.le.heap b (.inl hb),Nat.le_refl _,λi _=>.inl (by simp)⟩;have hsub:SubF G w { G with F:=G'.F } w':=⟨λb hb=>f.le.F b (.inl hb),λb hb=>f.le.heap b (.inl hb)⟩;have Q:SubF G' w' { G with F:=G'.F } w':=⟨λ_ h=>h,λ_ _=>rfl⟩;refine⟨v,d,m,{ G with F:=G'.F },rfl,⟨rfl,rfl⟩,VRel.free Q ho hvd,⟨hi.n,J.F,?_,hi.apart,J.gl.bare λ_ h=>h⟩,⟨hle,f.os,f.tape,f.output,f.size,?_,?_,?_⟩⟩
 .intro i x hx;by_cases Y:x.isLive=true
  .cases O:bq ρ i
   .obtain⟨R,vv,A⟩:=OI O;obtain⟨j',U,S,l,a,h2,Z⟩:=E R _ A;simp only[Paa,aab]at a;obtain⟨rfl,rfl⟩:=a;rw[Z]at hx;injection hx with hx;subst hx;have he:(Lc L)[R]?=some (.live S 0 l):=by simp[Lc,h2]
    obtain⟨a1,a2,a3,a4,H⟩:=J.ent R _ he;obtain⟨b1,b2,b3,b4⟩:=same _ _ _ A;obtain⟨e1,e2,e3,e4,-⟩:=hi.ent _ _ Z;refine⟨e1,e2,e3,e4,?_⟩;rw[b1,b4]at H;rcases H with H|⟨b',cs,T,g,hF',I,hsz,hrw⟩
    .exact .inl H
    .exact .inr ⟨b',cs,T,g,hF',I,hsz,Qa.free Q rfl (hf _ (Hab h2)) hrw⟩
   .refine(hi.ent i x hx).mono hle (by simp) (λb hb=>?_) (λb hb _ hF=>absurd hF (nF i x hx Y b hb));refine f.keep b (olt i x hx Y b hb).1 λM=>?_;obtain⟨j,e',q,z,y,u⟩:=s b M;obtain rfl:=hi.apart i j _ _ hx q Y z b hb y;rw[O]at u;cases u
  .cases x with
   |gone=>trivial
   |_=>simp[Ent.isLive]at Y
 .intro b hb hno;refine f.keep b hb λM=>?_;obtain⟨j,e',q,z,y,-⟩:=s b M;exact hno ⟨j,e',q,z,y⟩
 .intro b hb hF;rcases f.newF b hb hF with a|a
  .exact .inl ((X _).1 a)
  .obtain⟨j,e',q,z,y,-⟩:=s b a;exact .inr ⟨j,e',q,z,y⟩
 .rintro b hb ⟨i,x,hx,lx,W⟩;exact⟨i,x,hx,lx,W⟩
theorem Xn.of{k:Nat}{a:List D}{L:List (Nat×List D)}{o:D}(n:Nat) (K:Kf P k) (h:T P L.length K.F.code (EI L.length K.F.results ⟨[o],Lc L⟩) ⟨a++Tm.ds n [],Lc L⟩)
 (hf:∀p∈L,fa p.2=true) (ho:la o=true:=by exact FrO.h) (hn:K.F.ntmps=a.length+n:=by rfl):Xn P k a L o:=by
 intro m ρ ds d c b;have e:(Lc L).length=L.length:=by simp[Lc]
 exact fT c b (Mt (Ts 9) d) hf ho (rz K n hn (by rw[e];exact h))
class Con2 (p:Prop) (q:outParam Prop):Prop where
 h:p->q
section
variable {h:Hi} {k S:Nat} {p:Prop} {l ds ds':List D} {L:List (Nat×List D)} {o:D} {m:List Ent} {ρ:Yl} {f:D->List Ent->Prop} {R:St->Prop} {s:St} {dst:Option Tmp} {ids:List Nat}
theorem ycO[c:Con2 p (Ox P k ds' S l)] (e:p) (hf:@Yi ⟨h⟩ (f (.own m.length 0) (m++[.live S 0 l]))) (a:dz (Sq [] [] 9) ds ds'):@Yi ⟨h⟩ (Je P k ds m f):=
 bc ⟨(c.h e m).1,λG w vs hv hi=>(c.h e m).2 G w vs ((sA (Mt (Ts 9) a)).1 vs hv) hi⟩ hf
theorem ycM[c:Con2 p (Xn P k ds' L o)] (e:p) (hf:@Yi ⟨h⟩ (f o m)) (hr:tr ds=ρ) (b:dz (Sq ρ [] 9) ds ds') (a:wq m ρ L) (hn:(ρ.filterMap (·.1)).Nodup):@Yi ⟨h⟩ (Je P k ds m f):=
 bc (c.h e m ρ ds b a hn) hf
theorem DE{m m':List Ent}:∀{ρ:Yl}{L:List (Nat×List D)},(∀j∈ρ.filterMap (·.1),m'[j]?=m[j]?)->wq m ρ L->wq m' ρ L
 |[],[],_,_=>trivial
 |(some j,v,0)::os,(S,l)::L,hm,h=>⟨(hm j (by simp)).trans h.1,DE (λi hi=>hm i (by simp_all)) h.2⟩
 |[],_::_,_,h=>h.elim
 |(some _,_,0)::_,[],_,h=>h.elim
 |(some _,_,_+1)::_,[],_,h=>h.elim
 |(none,_,_)::_,[],_,h=>by simp[wq]at h
 |(none,_,_)::_,_::_,_,h=>by simp[wq]at h
 |(some _,_,_+1)::_,_::_,_,h=>by simp[wq]at h
theorem ylM[c:Con2 p (Xn P k ds' L o)] (e:p) (hf:@Yi ⟨h⟩ (R (s.put dst o))) (hr:tr ds=ρ) (d:dz (Sq ρ [] 9) ds ds') (b:wq s.m ρ L) (hn:(ρ.filterMap (·.1)).Nodup) (hi:(ids.all λi=>decide (i<s.m.length))=true) (hj:((ρ.filterMap (·.1)).all λj=>ids.elem j)=true):@Yi ⟨h⟩ (lu P k ds ids R s dst):=by
 refine⟨o,⟨λi hid=>by simp_all,λm hm=>?_⟩,hf⟩;refine c.h e m ρ ds d (DE (λj a=>hm j ?_) b) hn;simp only[Yaa]at hj;exact List.elem_iff.1 (hj j a)
end
section
variable {l:List D} {id Na S:Nat} {x:Value} {os:Yl}
theorem r6:tr []=[]:=by simp[tr]
theorem u6:tr (.own id Na::l)=(some id,Na,0)::tr l:=by simp[tr,KK]
theorem o_v:tr (.v x::l)=tr l:=by simp[tr,KK]
theorem o_fr{α:Type}{e:α->D} [Fr e] {y:α}:tr (e y::l)=tr l:=by simp[tr,AH (Fr.h (e:=e) y)]
theorem o_sl{α:Type}{e:α->D} [Fr e] {y:List α}:tr (.sl S (y.map e)::l)=tr l:=by simp[tr,KK]
theorem q6{a:List D}:tr (.agg a::l)=tr a++tr l:=by simp[tr,KK]
theorem zM:type_of% (And.intro (And.intro (And.intro @r6 @u6) (And.intro @o_v @o_sl)) (And.intro (And.intro @q6 @Iaa.{0}) @Vaa.{0})):=And.intro (And.intro (And.intro @r6 @u6) (And.intro @o_v @o_sl)) (And.intro (And.intro @q6 @Iaa.{0}) @Vaa.{0})
end
theorem Y5{m:List Ent}:wq m [] []:=trivial
theorem X5{m:List Ent}{j v S:Nat}{l:List D}{os:Yl}{L:List (Nat×List D)}(h:m[j]?=some (.live S v l)) (h2:wq m os L):wq m ((some j,v,0)::os) ((S,l)::L):=⟨h,h2⟩
def C3(a n:Int):Int:=a.fdiv ((2 ^ (min n.toNat IntKind.i64.bits):Nat):Int)
def B3(a n:Int):Option Int:=if n<0 then none else some (C3 a n)
def WU(a b:Int):Int:=ca .i64 (Nat.land (a % oB .i64).toNat (b % oB .i64).toNat:Nat)
theorem iO{a n:Int}:vg .shr .i64 a .i64 n=if n<0 then none else some (.int .i64 (C3 a n)):=by
 simp only[vg,cond_eq_ite,decide_eq_true_eq,C3]
theorem fO{a b:Int}:vg .and .i64 a .i64 b=some (.int .i64 (WU a b)):=by simp[vg,OA,WU]
theorem iX{α:Type}{e:α->D}{l:List α}:(l.map e).take l.length=l.map e:=List.take_of_length_le (by simp)
theorem bT{a n:Int}{β:Type}{g:Int->Option β}{z:β}(h:(B3 a n).bind g=some z):∃x,¬n<0/\C3 a n=x/\g x=some z:=by
 obtain⟨x,b,h2⟩:=qi h;unfold B3 at b;split at b
 .cases b
 .exact⟨x,by assumption,Raa b,h2⟩
theorem K5:((1:Nat):Int)=1:=rfl
theorem zT:type_of% (And.intro (And.intro @iO @fO) (And.intro @iX @K5)):=And.intro (And.intro @iO @fO) (And.intro @iX @K5)
theorem T.nilown{P:Program}{N:Nat}{c:C}{K:Exit->St->Prop}{i id Na S:Nat}{s:St}(d:s.t[i]?=some (.own id Na)) (hm:s.m[id]?=some (.live S Na [])) (h:T P N c K ⟨s.t.set i (.sl S []),s.m⟩):T P N c K s:=by
 intro code hc G w a hN hr;obtain⟨u,hu,hv⟩:=hr.t.getElem d;obtain⟨eV,-,eN,eC,-⟩:=hr.inv.ent id _ hm;have b:VRel G w (.sl S []) u:=by
  simp only[VRel]at hv⊢
  grind
 refine h code hc G w a hN ⟨hr.t.swap (by simp_all) (iab.1 d).1 b,hr.inv,hr.defers⟩
end Go.Tm
