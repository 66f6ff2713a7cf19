/-
  The engine: a part of the proof that trees of values are carried along by the program: no condition.
-/
import Derived.Test.YtadinajclolmnaaGreatDoorEC
open Go renaming Program->a35
open Option renaming some->M,none->u4
open Decidable renaming decide->D1
open Go.Tm.D renaming dead->a!
open Go.Tm.Ent renaming live->i?
open And renaming intro->ak
open Bool renaming and_eq_true->D?,true->a29,false->a30
open Eq renaming trans->P!
open List renaming all_eq_true->Λ,cons_append->B',getD_cons_succ->P?,getD_cons_zero->U!,getElem?_cons_succ->xag,getElem?_cons_zero->Aaf,getElem?_eq_some_iff->Τ,getElem?_mapIdx->gaj,lookup->laj,map_congr_left->cag,map_id->Eai,mem_of_getElem?->mag,nil_append->G?,replicate->h!
open Nat renaming add_sub_cancel_left->Pag,sub_zero->Rah,zero_le->Q?
open Option renaming map_some->Β
open Option.some renaming inj->R',injEq->M?
open Prod.mk renaming injEq->F!
set_option linter.all false
namespace Go.Tm
variable {k id j N Ca:Nat}{l ds' pre post l':List D}{R:List (List Nat)->St->Prop}{d2 o:D}{rs:List RV}{s s':St}{m:List Ent}{f:D->List Ent->Prop}{fp ps:List (List Nat)}{i:List Operand}{ρ cuts ids n6 τ:List Nat}{pl:List (Option Nat)}{n a:Int}{dst:Option Tmp}{X σ:Type}{x0:σ}{K:Exit->St->Prop}{L:List (Nat×List D)}{S':σ->St}
variable {P:a35}
def IB(P:a35) (k:Nat) (ds:List D) (S:Nat) (l:List D):Prop:=∀m,CallT P k ds m λd m'=>d=.own m.length 0/\m'=m++[i? S 0 l]
theorem aW2{S:Nat}{ds:List D}(r:ea ds=a29) (hl:ea l=a29) (h:CallT P k ds [] λd m'=>d=.own 0 0/\m'=[i? S 0 l]):IB P k ds S l:=by
 refine λm=>⟨h.1,λG w vs hv hi=>?_⟩;have A:=h.2 (Gh.bare G.F) w vs (VsRel.free (G:=G) (G':=Gh.bare G.F) ⟨λ_ h=>h,λ_ _=>rfl⟩ r hv) (Tv hi.F (hi.gl.bare λ_ h=>h));refine A.mono ?_;rintro e w' ⟨v,d,m',G',rfl,⟨rfl,rfl⟩,t,g,c⟩;obtain⟨fV,fS,fN,fC,fB⟩:=g.ent 0 _ rfl;have hGn:=hi.n;have noO:∀b,¬Oc (Gh.bare G.F) [] b:=λb=>sy;have owned0:∀b,G'.B 0=M b->Oc G' [i? S 0 l] b:=λb hb=>⟨0,_,rfl,rfl,hb⟩;have newb:∀b,G'.B 0=M b->w.heap.size<=b:=λb hb=>by
  rcases Nat.lt_or_ge b w.heap.size with h|h
  .exact(noO b (c.newB b h (owned0 b hb))).elim
  omega
 have hF:∀b,b<w.heap.size->G'.F b->G.F b:=λb hb hf=>by
  rcases c.newF b hb hf with h|h
  .exact h
  simp_all
 have p:Ν G' w' ⟨G'.F,G.n+1,λi=>if i=G.n then G'.B 0 else G.B i,λi=>if i=G.n then 0 else G.V i,λi=>if i=G.n then G'.S 0 else G.S i,λi=>if i=G.n then G'.N 0 else G.N i,λi=>if i=G.n then G'.C 0 else G.C i⟩ w':=⟨λ_ h=>h,λ_ _=>rfl⟩;have o:Le G w ⟨G'.F,G.n+1,λi=>if i=G.n then G'.B 0 else G.B i,λi=>if i=G.n then 0 else G.V i,λi=>if i=G.n then G'.S 0 else G.S i,λi=>if i=G.n then G'.N 0 else G.N i,λi=>if i=G.n then G'.C 0 else G.C i⟩ w':=by
  refine⟨λb hb=>c.le.F b hb,λb hb=>c.le.heap b hb,p6,λi hi=>.inl ?_⟩
  grind
 have a:∀i x,(m++[i? S 0 l])[i]?=M x->(m[i]?=M x/\i≠G.n)\/(i=G.n/\x=i? S 0 l):=by
  grind
 have z:∀i x,m[i]?=M x->x.isLive=a29->∀b,G.B i=M b->b<w.heap.size/\¬G.F b:=λi x hx hl b hb=>(hi.ent i x hx).lt hl hb;refine⟨v,_,_,⟨G'.F,G.n+1,λi=>if i=G.n then G'.B 0 else G.B i,λi=>if i=G.n then 0 else G.V i,λi=>if i=G.n then G'.S 0 else G.S i,λi=>if i=G.n then G'.N 0 else G.N i,λi=>if i=G.n then G'.C 0 else G.C i⟩,rfl,⟨rfl,rfl⟩,?_,⟨p5,g.F,?_,?_,g.gl.bare λ_ h=>h⟩,⟨o,c.os,c.tape,c.output,c.size,?_,?_,?_⟩⟩
 .simp only[VRel]at t⊢
  grind
 .intro i x hx;rcases a i x hx with⟨f,h2⟩|⟨rfl,rfl⟩
  .by_cases s:x.isLive=a29
   .refine(hi.ent i x f).mono o s5 (λb hb=>?_) (λb hb _ hf=>?_)
    .exact c.keep b (z i x f s b hb).1 (noO b)
    grind
   .cases x with
    |gone=>trivial
    |_=>grind[Ent.isLive]
  .refine⟨p6,p5,p5,p5,?_⟩;rcases fB with h|⟨b,cs,T,f,h2,q,E,H⟩
   .simp_all
   .exact .inr ⟨b,cs,T,p5,h2,q,p5,by simpa using Va.free p rfl hl H⟩
 .intro i j x y hx I u o4 b hb hb';rcases a i x hx with⟨f,h2⟩|⟨rfl,rfl⟩<;>rcases a j y I with⟨q,E⟩|⟨rfl,rfl⟩
  .exact hi.apart i j x y f q u o4 b p5 p5
  all_goals grind
 .intro b hb hno;exact c.keep b hb (noO b)
 .simp_all
 .rintro b hb ⟨i,x,hx,u,hB⟩;rcases a i x hx with⟨f,h2⟩|⟨rfl,rfl⟩
  .exact⟨i,x,f,u,p5⟩
  grind
theorem IB.den{S:Nat}{ds:List D}(a:ea ds=a29) (hl:ea l=a29) (h:IB P k ds S l):k! P k ds (.sl S l):=by
 refine BI a ((h []).mono ?_);rintro d m' ⟨rfl,rfl⟩;exact .ob p6 rfl (t!.free hl) .nil
theorem zQ{ds:List D}{R:D->List Ent->Prop}{m2:List Ent}(h:CallT P k ds [] R) (ht:∀d m',R d m'->i! 0 ⟨[d],m'⟩ ⟨[d2],m2⟩):CallT P k ds [] λd m'=>d=d2/\m'=m2:=by
 refine⟨h.1,λG w vs hv hi=>(h.2 G w vs hv hi).mono ?_⟩;rintro e w' ⟨v,d,m',G',rfl,m,hvd,b,o⟩;have hr:p! G' w' { tmps:=#[v],defers:=[] } ⟨[d],m'⟩:=⟨by simp only[VsRel];simp_all,b,rfl⟩;obtain⟨a,c,l⟩:=It (ht d m' m) (Q? _) hr;have g:=c.t;simp only[VsRel]at g;obtain⟨u,us,he,j,_⟩:=g;injection he with he _;subst he;have f:=(o.CZ (Q? _)).trans l;have i:0=G.n:=by rw[hi.n];rfl
 rw[i]at f;exact⟨_,d2,m2,a,rfl,⟨rfl,rfl⟩,j,c.inv,f.toStep⟩
def bd7(rs:List RV) (S:Nat) (l:List D) (e:Exit) (s:St):Prop:=
 match e with
 |.normal=>∃S',i! 0 s S'/\∃ds,qa S' rs=M ds/\i! 0 ⟨[ig ds],S'.m⟩ ⟨[.own 0 0],[i? S 0 l]⟩
 |.ret=>∃S',i! 0 s S'/\∃ds,qa S' rs=M ds/\i! 0 ⟨[ig ds],S'.m⟩ ⟨[.own 0 0],[i? S 0 l]⟩
 |_=>False
def Baa(r:Option (List D)) (m:List Ent) (S:Nat) (l:List D):Prop:=∃ds,r=M ds/\i! 0 ⟨[ig ds],m⟩ ⟨[.own 0 0],[i? S 0 l]⟩
theorem Bv{S:Nat}(h:Baa (qa s rs) s.m S l):bd7 rs S l .ret s:=by
 obtain⟨ds,a,h2⟩:=h;exact⟨s,.refl s,ds,a,h2⟩
theorem Fv{ds:List D}{S:Nat}:Baa (M ds) m S l=i! 0 ⟨[ig ds],m⟩ ⟨[.own 0 0],[i? S 0 l]⟩:=by simp[Baa]
@[congr] theorem aX6{r a:Option (List D)} {m:List Ent} {S:Nat} {l:List D} (h:r=a):Baa r m S l=Baa a m S l:=by rw[h]
instance {rs:List RV}{S:Nat}{l:List D}:T? 0 (bd7 rs S l):=⟨by
 rintro s S' h ⟨S1,a,h2⟩;exact⟨S1,h.trans a,h2⟩⟩
theorem IB.at{S:Nat}{F:S?}{ds:List D}(n:Nat) (i:cu P k=M F) (b:((P.funcs[k]?).map λfn=>fn.name == "runtime.NumGoroutine")=M a30)
 (c:ea ds=a29) (hl:ea l=a29) (hn:F.ntmps=ds.length+n) (h:T P 0 F.code (bd7 F.results S l) ⟨ds++Tm.ds n [],[]⟩):IB P k ds S l:=by
 refine aW2 c hl (zQ (R:=λd m'=>i! 0 ⟨[d],m'⟩ ⟨[.own 0 0],[i? S 0 l]⟩) (Lb i b ?_) λ_ _ h=>h);rw[hn,Pag,←DF];refine T.K7 (h.mono ?_);have key:∀(e:Exit) (s:St),(∀s',Um F.results (λd m'=>i! 0 ⟨[d],m'⟩ ⟨[.own 0 0],[i? S 0 l]⟩) e s' = ∃ds,qa s' F.results=M ds/\i! 0 ⟨[ig ds],s'.m⟩ ⟨[.own 0 0],[i? S 0 l]⟩)->(∃S',i! 0 s S'/\∃ds,qa S' F.results=M ds/\i! 0 ⟨[ig ds],S'.m⟩ ⟨[.own 0 0],[i? S 0 l]⟩)->EP 0 (Um F.results λd m'=>i! 0 ⟨[d],m'⟩ ⟨[.own 0 0],[i? S 0 l]⟩) e s:=by
  intro e s he ⟨S,g,h2⟩ G w a hN hr;obtain⟨G',h3,h4⟩:=It g hN hr
  grind
 intro e s f
 cases e with
 |normal=>exact key _ s (λ_=>rfl) f
 |ret=>exact key _ s (λ_=>rfl) f
 |_=>exact(f:False).elim
def bO0{S:Nat}{ds:List D}(h:IB P k ds' S l) (hf:f (.own m.length 0) (m++[i? S 0 l])) (a:fa ds ds'):Ae P k ds m f:=
 La (T0 a (h m)) hf
inductive Q where
 |p (n:Nat)
 |k (n:Nat)
 |s (d:D)
 |y (i:Nat)
 |g (q:List Q)
 |i (n:Nat)
 |w (n:Nat)
 |u (q:List Q)
 |x (q:List Q)
abbrev Cm:=D×List D×List (Value×D)
inductive M1 where
 |o (j:Nat)
 |O (j:Nat)
 |H (j:Nat) (q:List Q)
 |C (j:Nat) (l:List D)
 |B (j u:Nat) (l:List D)
 |c (j:Nat) (l:List D)
 |n (S:Nat) (l:List D)
 |h (j:Nat) (q:List Q)
 |m (j:Nat) (l:List (Value×D))
 |ci (j i:Nat)
 |Ci (j i:Nat)
 |Bi (j u i:Nat)
 |ni (S i:Nat)
 |mi (j i:Nat)
 |nq (S:Nat) (q:List Q)
structure Ed where
 q:List Q
 m:List M1
variable {S:Ed}
def qT:Nat->Nat->Q
 |0,i=>.k i
 |1,i=>.p i
 |2,i=>.i i
 |3,i=>.s (.own i 0)
 |4,i=>.y i
 |_,i=>.s (.own i 1)
def qN:List Nat->List Q
 |[]=>[]
 |n::l=>qT (n % 8) (n / 8)::qN l
def mT:Nat->Nat->M1
 |0,r=>.o r
 |1,r=>.O r
 |2,r=>.ci (r / 32) (r % 32)
 |3,r=>.Ci (r / 32) (r % 32)
 |4,r=>.ni (r / 32) (r % 32)
 |5,r=>.mi (r / 32) (r % 32)
 |_,r=>.h (r / 32) [.i (r % 32)]
def mN:List Nat->List M1
 |[]=>[]
 |n::l=>mT (n % 8) (n / 8)::mN l
def EN(q m:List Nat):Ed:=⟨qN q,mN m⟩
def tT:Nat->Nat->Option Nat×Nat×Nat
 |0,r=>(M (r % 64),r / 64,0)
 |1,r=>(u4,r,0)
 |_,r=>(M (r % 64),r / 64,1)
def tN:List Nat->List (Option Nat×Nat×Nat)
 |[]=>[]
 |n::l=>tT (n % 4) (n / 4)::tN l
def tI:Nat->List Ent->List (Option Nat×Nat×Nat)
 |_,[]=>[]
 |i,_::l=>(M i,0,0)::tI (i+1) l
inductive Hi:Type 1 where
 |o
 |b (l r:Hi)
 |z (n:Nat) (x:Hi)
 |t (ρ:List Nat)
 |a (ps:List (List Nat)) (x:Hi)
 |g (ps:List (List Nat)) (pl:List (Option Nat)) (x:Hi)
 |f (S:Ed) (ρ:List Nat) (x:Hi)
 |d (n6:List Nat) (ρ:List Nat) (x:Hi)
 |j (S:Ed) (l r:Hi)
 |e (S:Ed) (l r:Hi)
 |l (S B:Ed) (ρ:List Nat) (x y:Hi)
 |u (S:Ed) (ρ:List Nat) (x:Hi)
 |i {P:a35} {k:Nat} (K:Kf P k) (w:Nat) (S:Ed) (x y:Hi)
 |c {P:a35} {k:Nat} (K:Kf P k) (w:Nat) (x:Hi)
 |v (x:Hi)
 |s (k:Nat) (x:Hi)
 |r (x:Hi)
variable {h x:Hi}
def Ag:List M1->Nat->Nat->Option (Nat×Bool)
 |[],_,_=>u4
 |.o k::l,j,i=>bif k==j then M (i,a30)else Ag l j (i+1)
 |.c k _::l,j,i=>bif k==j then M (i,a30)else Ag l j (i+1)
 |.h k _::l,j,i=>bif k==j then M (i,a30)else Ag l j (i+1)
 |.O k::l,j,i=>bif k==j then M (i,a29)else Ag l j (i+1)
 |.H k _::l,j,i=>bif k==j then M (i,a29)else Ag l j (i+1)
 |.C k _::l,j,i=>bif k==j then M (i,a29)else Ag l j (i+1)
 |.B k _ _::l,j,i=>bif k==j then M (i,a29)else Ag l j (i+1)
 |.n _ _::l,j,i=>Ag l j (i+1)
 |.m k _::l,j,i=>bif k==j then M (i,a30)else Ag l j (i+1)
 |.ci k _::l,j,i=>bif k==j then M (i,a30)else Ag l j (i+1)
 |.Ci k _::l,j,i=>bif k==j then M (i,a29)else Ag l j (i+1)
 |.Bi k _ _::l,j,i=>bif k==j then M (i,a29)else Ag l j (i+1)
 |.ni _ _::l,j,i=>Ag l j (i+1)
 |.nq _ _::l,j,i=>Ag l j (i+1)
 |.mi k _::l,j,i=>bif k==j then M (i,a30)else Ag l j (i+1)
def rnP(o:Option (Nat×Bool)) (v:Nat) (f:Nat->Nat->D):D:=match o with|some (i,b)=>f i (bif b then v else 0)|none=>a!
mutual
def yv(ks:List M1) (m:List Ent):Nat->D->D
 |n+1,.own j v=>rfO ks m n v m[j]? (Ag ks j 0)
 |n+1,.ref j v x s=>rfR ks m n v x s m[j]? (Ag ks j 0)
 |_+1,.view j v lo k=>rnP (Ag ks j 0) v λi v=>.view i v lo k
 |_+1,.mp j=>rnP (Ag ks j 0) 0 λi _=>.mp i
 |n+1,.agg l=>.agg (qw ks m n l)
 |n+1,.tup l=>.tup (qw ks m n l)
 |n+1,.fn k a c=>.fn k (qw ks m n a) (qw ks m n c)
 |n+1,.pt d=>.pt (yv ks m n d)
 |_,d=>d
def rfO(ks:List M1) (m:List Ent) (n v:Nat):Option Ent->Option (Nat×Bool)->D
 |_,M (i,b)=>.own i (bif b then v else 0)
 |some (i? S _ l),u4=>.sl S (qw ks m n l)
 |_,u4=>a!
def rfR(ks:List M1) (m:List Ent) (n v x s:Nat):Option Ent->Option (Nat×Bool)->D
 |_,M (i,b)=>.ref i (bif b then v else 0) x s
 |some (i? _ _ (d::_)),u4=>.pt (yv ks m n d)
 |_,u4=>a!
def qw(ks:List M1) (m:List Ent) (n:Nat):List D->List D
 |[]=>[]
 |d::l=>yv ks m n d::qw ks m n l
end
mutual
theorem FE(ks:List M1) (m:List Ent):∀(n:Nat) (d:D),sa d=a29->yv ks m n d=d
 |n+1,.agg l,h=>by simp only[sa]at h;simp only[yv,Bf ks m n l h]
 |n+1,.tup l,h=>by simp only[sa]at h;simp only[yv,Bf ks m n l h]
 |n+1,.fn k a c,h=>by simp only[sa,D?]at h;simp only[yv,Bf ks m n a h.1,Bf ks m n c h.2]
 |n+1,.pt d,h=>by simp only[sa]at h;simp only[yv,FE ks m n d h]
 |_,.own _ _,h=>by grind[sa]
 |_,.view _ _ _ _,h=>by grind[sa]
 |_,.ref _ _ _ _,h=>by grind[sa]
 |_,.mp _,h=>by grind[sa]
 |n,.v _,_=>by grind[yv]
 |n,.sl _ _,_=>by grind[yv]
 |n,.ifc _ _,_=>by grind[yv]
 |n,a!,_=>by grind[yv]
 |0,.agg _,_=>by simp only[yv]
 |0,.tup _,_=>by simp only[yv]
 |0,.fn _ _ _,_=>by simp only[yv]
 |0,.pt _,_=>by simp only[yv]
theorem Bf(ks:List M1) (m:List Ent) (n:Nat):∀l:List D,ea l=a29->qw ks m n l=l
 |[],_=>by grind[qw]
 |d::l,h=>by simp only[ea,D?]at h;simp only[qw,FE ks m n d h.1,Bf ks m n l h.2]
end
def PR:List D->List D
 |[]=>[]
 |_::l=>a!::PR l
def gC(c:List Cm) (n:Nat):Cm:=c.getD n (a!,[],[])
def U64:D->D
 |.v (.int _ n)=>.v (.int .u64 n)
 |d=>d
mutual
def qD(c:List Cm):Q->D
 |.i n=>(gC c n).1
 |.w n=>U64 (gC c n).1
 |.s d=>d
 |.u l=>.tup (iU c l)
 |.x l=>.agg (iU c l)
 |_=>a!
def iU(c:List Cm):List Q->List D
 |[]=>[]
 |x::l=>qD c x::iU c l
end
def ct(c:List Cm) (ks:List M1) (m:List Ent) (u:List D):List Q->List D->List D
 |[],l=>PR l
 |_::_,[]=>[]
 |.p 0::q,l=>ct c ks m u q l
 |.p (n+1)::q,d::l=>yv ks m 9 d::ct c ks m u (.p n::q) l
 |.k 0::q,l=>ct c ks m u q l
 |.k (n+1)::q,d::l=>a!::ct c ks m u (.k n::q) l
 |.s e::q,d::l=>e::ct c ks m u q l
 |.y i::q,_::l=>yv ks m 9 (u.getD i a!)::ct c ks m u q l
 |.i n::q,_::l=>(gC c n).1::ct c ks m u q l
 |.w n::q,_::l=>U64 (gC c n).1::ct c ks m u q l
 |.u r::q,_::l=>.tup (iU c r)::ct c ks m u q l
 |.x r::q,_::l=>.agg (iU c r)::ct c ks m u q l
 |.g r::q,.agg b::l=>.agg (ct c ks m u r b)::ct c ks m u q l
 |.g _::q,d::l=>d::ct c ks m u q l
def eO(ks:List M1) (m:List Ent):Option Ent->Ent
 |some (i? S v l)=>i? S 0 (qw ks m 9 l)
 |some e=>e
 |none=>.gone
def eX(b:List D):Option Ent->Ent
 |some (i? S v _)=>i? S v b
 |some e=>e
 |none=>.gone
def eV(ks:List M1) (m:List Ent):Option Ent->Ent
 |some (i? S v l)=>i? S v (qw ks m 9 l)
 |some e=>e
 |none=>.gone
def eW(c:List Cm) (ks:List M1) (m:List Ent) (q:List Q):Option Ent->Ent
 |some (i? S v l)=>i? S v (ct c ks m [] q l)
 |some e=>e
 |none=>.gone
def eC(b:List D):Option Ent->Ent
 |some (i? S v _)=>i? S 0 b
 |some e=>e
 |none=>.gone
def eH(c:List Cm) (ks:List M1) (m:List Ent) (q:List Q):Option Ent->Ent
 |some (i? S v l)=>i? S 0 (ct c ks m [] q l)
 |some e=>e
 |none=>.gone
def eB(u:Nat) (b:List D):Option Ent->Ent
 |some (i? S _ _)=>i? S u b
 |some e=>e
 |none=>.gone
def VQ(c:List Cm) (ks:List M1) (m:List Ent):M1->Ent
 |.o j=>eO ks m m[j]?
 |.c j l=>eC l m[j]?
 |.n S l=>i? S 0 l
 |.h j q=>eH c ks m q m[j]?
 |.O j=>eV ks m m[j]?
 |.C j l=>eX l m[j]?
 |.B j u l=>eB u l m[j]?
 |.H j q=>eW c ks m q m[j]?
 |.m _ l=>.mp l
 |.ci j i=>eC (gC c i).2.1 m[j]?
 |.ni S i=>i? S 0 (gC c i).2.1
 |.Ci j i=>eX (gC c i).2.1 m[j]?
 |.Bi j u i=>eB u (gC c i).2.1 m[j]?
 |.mi _ i=>.mp (gC c i).2.2
 |.nq S q=>i? S 0 (iU c q)
def edM(c:List Cm) (ks:List M1) (m:List Ent):List M1->List Ent
 |[]=>[]
 |x::l=>VQ c ks m x::edM c ks m l
def eFz(ks:List M1) (m:List Ent):Option Ent->Ent
 |some (i? S _ l)=>i? S 0 (qw ks m 9 l)
 |some e=>e
 |none=>.gone
def eGz(ks:List M1) (m:List Ent):Option Ent->Ent
 |some (i? S v l)=>i? S v (qw ks m 9 l)
 |some e=>e
 |none=>.gone
def edF(ks:List M1) (m:List Ent):List M1->List Ent
 |[]=>[]
 |.o j::l=>eFz ks m m[j]?::edF ks m l
 |.O j::l=>eGz ks m m[j]?::edF ks m l
 |_::l=>edF ks m l
def fd(ks:List M1) (s:St):St:=⟨qw ks s.m 9 s.t,edF ks s.m ks⟩
def ed(c:List Cm) (E:Ed) (s:St):St:=⟨ct c E.m s.m s.t E.q s.t,edM c E.m s.m E.m⟩
section
variable {cs:List Cm} {ks l:List M1} {i j k n S:Nat} {d e:D} {b c u:List D} {q:List Q} {t:List D} {m r:List Ent} {f:Nat->Nat->D} {x:M1} {v lo y:Nat} {a:Ent}
def bX4:ed cs ⟨q,ks⟩ ⟨t,m⟩=⟨ct cs ks m t q t,edM cs ks m ks⟩:=f'
def aF0:Ag [] j i=u4:=f'
def aE9:Ag (.o k::l) j i=bif k==j then M (i,a30)else Ag l j (i+1):=f'
def aE5:Ag (.O k::l) j i=bif k==j then M (i,a29)else Ag l j (i+1):=f'
def aE4:Ag (.H k q::l) j i=bif k==j then M (i,a29)else Ag l j (i+1):=f'
def aE3:Ag (.C k b::l) j i=bif k==j then M (i,a29)else Ag l j (i+1):=f'
def aE8:Ag (.c k b::l) j i=bif k==j then M (i,a30)else Ag l j (i+1):=f'
def aE7:Ag (.h k q::l) j i=bif k==j then M (i,a30)else Ag l j (i+1):=f'
def aE6:Ag (.n S b::l) j i=Ag l j (i+1):=f'
def aE2{a:List (Value×D)}:Ag (.m k a::l) j i=bif k==j then M (i,a30)else Ag l j (i+1):=f'
def bX6{a:List (Value×D)}:VQ cs ks m (.m j a)=.mp a:=f'
def bW6{a:List (Value×D)}:eO ks m (M (.mp a))=.mp a:=f'
def bT1{a:List (Value×D)}:eFz ks m (M (.mp a))=.mp a:=f'
def bJ3:rnP (M (i,a29)) v f=f i v:=f'
def bJ2:rnP (M (i,a30)) v f=f i 0:=f'
def bJ4:rnP u4 v f=a!:=f'
def bY3:VQ cs ks m (.o j)=eO ks m m[j]?:=f'
def bX2:eO ks m (M (i? S v b))=i? S 0 (qw ks m 9 b):=f'
def bX1:eC c (M (i? S v b))=i? S 0 c:=f'
def bX0:eH cs ks m q (M (i? S v b))=i? S 0 (ct cs ks m [] q b):=f'
def bY2:VQ cs ks m (.c j c)=eC c m[j]?:=f'
def bY1:VQ cs ks m (.n S b)=i? S 0 b:=f'
def bX9:VQ cs ks m (.O j)=eV ks m m[j]?:=f'
def bX8:VQ cs ks m (.H j q)=eW cs ks m q m[j]?:=f'
def bW9:eV ks m (M (i? S v b))=i? S v (qw ks m 9 b):=f'
def bW8:eW cs ks m q (M (i? S v b))=i? S v (ct cs ks m [] q b):=f'
def bK3:Ag (.B k v b::l) j i=bif k==j then M (i,a29)else Ag l j (i+1):=f'
def bX5:VQ cs ks m (.B j v c)=eB v c m[j]?:=f'
def bW5:eB k c (M (i? S v b))=i? S k c:=f'
def bX7:VQ cs ks m (.C j c)=eX c m[j]?:=f'
def bW7:eX c (M (i? S v b))=i? S v c:=f'
def bY0:VQ cs ks m (.h j q)=eH cs ks m q m[j]?:=f'
def bV2:edM cs ks m []=[]:=f'
def bV1:edM cs ks m (x::l)=VQ cs ks m x::edM cs ks m l:=f'
def bV4:PR []=[]:=f'
def bV3:PR (d::b)=a!::PR b:=f'
theorem bV0:ct cs ks m u [] b=PR b:=by grind[ct]
theorem bU9:ct cs ks m u (.p 0::q) b=ct cs ks m u q b:=by cases b<;>cases q<;>simp only[ct,PR]
theorem bU8:ct cs ks m u (.p (n+1)::q) (d::b)=yv ks m 9 d::ct cs ks m u (.p n::q) b:=by grind[ct]
theorem bU7:ct cs ks m u (.k 0::q) b=ct cs ks m u q b:=by cases b<;>cases q<;>simp only[ct,PR]
theorem bU6:ct cs ks m u (.k (n+1)::q) (d::b)=a!::ct cs ks m u (.k n::q) b:=by grind[ct]
theorem bU5:ct cs ks m u (.s e::q) (d::b)=e::ct cs ks m u q b:=by grind[ct]
theorem bU4{g:List Q}:ct cs ks m u (.g g::q) (.agg c::b)=.agg (ct cs ks m u g c)::ct cs ks m u q b:=by grind[ct]
theorem bU3{i:Nat}:ct cs ks m u (.y i::q) (d::b)=yv ks m 9 (u.getD i a!)::ct cs ks m u q b:=by grind[ct]
theorem bX3{a b:List Nat}:EN a b=⟨qN a,mN b⟩:=f'
def bK2:qN []=[]:=f'
def bK1{a:List Nat}:qN (n::a)=qT (n % 8) (n / 8)::qN a:=f'
def bK0:qT 0 i=.k i:=f'
def bJ9:qT 1 i=.p i:=f'
def bJ8:qT 2 i=.i i:=f'
def bJ7:qT 3 i=.s (.own i 0):=f'
def bJ6:qT 4 i=.y i:=f'
def bJ5:qT 5 i=.s (.own i 1):=f'
def aF9:mN []=[]:=f'
def aF8{a:List Nat}:mN (n::a)=mT (n % 8) (n / 8)::mN a:=f'
def aF7:mT 0 i=.o i:=f'
def aF6:mT 1 i=.O i:=f'
def aF5:mT 2 i=.ci (i / 32) (i % 32):=f'
def aF4:mT 3 i=.Ci (i / 32) (i % 32):=f'
def aF3:mT 4 i=.ni (i / 32) (i % 32):=f'
def aF2:mT 5 i=.mi (i / 32) (i % 32):=f'
def aF1:mT 6 i=.h (i / 32) [.i (i % 32)]:=f'
def bI9:tN []=[]:=f'
def bI8{a:List Nat}:tN (n::a)=tT (n % 4) (n / 4)::tN a:=f'
def bI7:tT 0 i=(M (i % 64),i / 64,0):=f'
def bI6:tT 1 i=(u4,i,0):=f'
def bI5:tT 2 i=(M (i % 64),i / 64,1):=f'
def bJ1:tI i []=[]:=f'
def bJ0:tI i (a::r)=(M i,0,0)::tI (i+1) r:=f'
def bW3{x:Cm}{l:List Cm}:gC (x::l) 0=x:=f'
def bW2{x:Cm}{l:List Cm}:gC (x::l) (n+1)=gC l n:=f'
def bK8:Ag (.ci k n::l) j i=bif k==j then M (i,a30)else Ag l j (i+1):=f'
def bK7:Ag (.Ci k n::l) j i=bif k==j then M (i,a29)else Ag l j (i+1):=f'
def bK6:Ag (.Bi k v n::l) j i=bif k==j then M (i,a29)else Ag l j (i+1):=f'
def bK5:Ag (.ni k n::l) j i=Ag l j (i+1):=f'
def bK4:Ag (.mi k n::l) j i=bif k==j then M (i,a30)else Ag l j (i+1):=f'
def bW1:VQ cs ks m (.ci j n)=eC (gC cs n).2.1 m[j]?:=f'
def bW0:VQ cs ks m (.Ci j n)=eX (gC cs n).2.1 m[j]?:=f'
def bV9:VQ cs ks m (.Bi j v n)=eB v (gC cs n).2.1 m[j]?:=f'
def bV8:VQ cs ks m (.ni S n)=i? S 0 (gC cs n).2.1:=f'
def bV6:Ag (.nq k q::l) j i=Ag l j (i+1):=f'
def bV5:VQ cs ks m (.nq S q)=i? S 0 (iU cs q):=f'
def bV7:VQ cs ks m (.mi j n)=.mp (gC cs n).2.2:=f'
theorem bU2{i:Nat}:ct cs ks m u (.i i::q) (d::b)=(gC cs i).1::ct cs ks m u q b:=by grind[ct]
theorem bU1{i:Nat}:ct cs ks m u (.w i::q) (d::b)=U64 (gC cs i).1::ct cs ks m u q b:=by grind[ct]
theorem bU0{r:List Q}:ct cs ks m u (.u r::q) (d::b)=.tup (iU cs r)::ct cs ks m u q b:=by grind[ct]
theorem bT9{r:List Q}:ct cs ks m u (.x r::q) (d::b)=.agg (iU cs r)::ct cs ks m u q b:=by grind[ct]
theorem bZ0{i:Nat}:qD cs (.i i)=(gC cs i).1:=by simp only[qD]
theorem bY9{i:Nat}:qD cs (.w i)=U64 (gC cs i).1:=by simp only[qD]
theorem bY8:qD cs (.s d)=d:=by simp only[qD]
theorem bY7:qD cs (.u q)=.tup (iU cs q):=by simp only[qD]
theorem bY6:qD cs (.x q)=.agg (iU cs q):=by simp only[qD]
theorem bY5:iU cs []=[]:=by simp only[iU]
theorem bY4{x:Q}:iU cs (x::q)=qD cs x::iU cs q:=by simp only[iU]
theorem Nv{k:IntKind}{n:Int}:U64 (.v (.int k n))=.v (.int .u64 n):=f'
def bS9:fd ks ⟨t,m⟩=⟨qw ks m 9 t,edF ks m ks⟩:=f'
theorem aD2:yv ks m (n+1) (.own j v)=rfO ks m n v m[j]? (Ag ks j 0):=by grind[yv]
theorem aD1:yv ks m (n+1) (.ref j v y k)=rfR ks m n v y k m[j]? (Ag ks j 0):=by grind[yv]
theorem iab:yv ks m (n+1) (.view j v lo k)=rnP (Ag ks j 0) v λi v=>.view i v lo k:=by grind[yv]
theorem bF7:yv ks m (n+1) (.mp j)=rnP (Ag ks j 0) 0 λi _=>.mp i:=by grind[yv]
theorem aD5:yv ks m (n+1) (.agg b)=.agg (qw ks m n b):=by grind[yv]
theorem aD0:yv ks m (n+1) (.tup b)=.tup (qw ks m n b):=by grind[yv]
theorem bG4:yv ks m (n+1) (.fn k b c)=.fn k (qw ks m n b) (qw ks m n c):=by grind[yv]
theorem bF1:yv ks m (n+1) (.pt d)=.pt (yv ks m n d):=by grind[yv]
theorem g_v{x:Value}:yv ks m n (.v x)=.v x:=by grind[yv]
theorem bE7:yv ks m n (.sl S b)=.sl S b:=by grind[yv]
theorem aD3:yv ks m n (.ifc S d)=.ifc S d:=by grind[yv]
theorem eab:yv ks m n a!=a!:=by grind[yv]
theorem bG3{α:Type}{e:α->D} [Fr e] {x:α}:yv ks m n (e x)=e x:=FE ks m n _ (Fr.h x)
theorem bG2:qw ks m n []=[]:=by grind[qw]
theorem bG1:qw ks m n (d::b)=yv ks m n d::qw ks m n b:=by grind[qw]
theorem bF9{α:Type}{e:α->D} [Fr e] {x:List α}:qw ks m n (x.map e)=x.map e:=Bf ks m n _ (Fr.l x)
theorem bF5{o:Option Ent}:rfO ks m n v o (M (i,a30))=.own i 0:=by simp_all[rfO]
theorem bF4{o:Option Ent}:rfO ks m n v o (M (i,a29))=.own i v:=by simp_all[rfO]
theorem bF3:rfO ks m n v (M (i? S k b)) u4=.sl S (qw ks m n b):=by grind[rfO]
theorem bF2:rfO ks m n v (M .gone) u4=a!:=by simp[rfO]
theorem bW4{a:List (Value×D)}:eV ks m (M (.mp a))=.mp a:=f'
def bT0{a:List (Value×D)}:eGz ks m (M (.mp a))=.mp a:=f'
theorem bF0{o:Option Ent}:rfR ks m n v y k o (M (i,a30))=.ref i 0 y k:=by simp_all[rfR]
theorem bE9{o:Option Ent}:rfR ks m n v y k o (M (i,a29))=.ref i v y k:=by simp_all[rfR]
theorem bE8:rfR ks m n v y k (M (i? S j (d::b))) u4=.pt (yv ks m n d):=by grind[rfR]
theorem bT3:eFz ks m (M (i? S v b))=i? S 0 (qw ks m 9 b):=f'
def bT2:eGz ks m (M (i? S v b))=i? S v (qw ks m 9 b):=f'
def bS8:edF ks m []=[]:=f'
def bS7:edF ks m (.o j::l)=eFz ks m m[j]?::edF ks m l:=f'
def bS6:edF ks m (.O j::l)=eGz ks m m[j]?::edF ks m l:=f'
def bL0{α:Type}{x y:α}:(bif a29 then x else y)=x:=f'
def bK9{α:Type}{x y:α}:(bif a30 then x else y)=y:=f'
end
def zl0:type_of% @Aaf.{0}:=@Aaf.{0}
def zl1:type_of% @xag.{0}:=@xag.{0}
def zl2:type_of% @P?.{0}:=@P?.{0}
def zl3:type_of% @U!.{0}:=@U!.{0}
def zf:=(ak (ak (ak (ak (ak @bS9 (ak @aD2 @aD1)) (ak (ak @iab @bF7) (ak @aD5 @aD0))) (ak (ak (ak @bG4 @bF1) (ak @g_v @bE7)) (ak (ak @aD3 @eab) (ak @bG3 @bG2)))) (ak (ak (ak @bG1 (ak @bF9 @bF5)) (ak (ak @bF4 @bF3) (ak @bF2 @bF0))) (ak (ak (ak @bE9 @bE8) (ak @bT3 @bT2)) (ak (ak @bT0 @bS8) (ak @bS7 @aE2))))) (ak (ak (ak (ak @bT1 (ak @bS6 @aF0)) (ak (ak @aE9 @aE8) (ak @aE7 @aE6))) (ak (ak (ak @aE5 @aE4) (ak @aE3 @bJ3)) (ak (ak @bJ2 @bJ4) (ak @bL0 @bK9)))) (ak (ak (ak (ak @zl0 @zl1) (ak @aF9 @aF8)) (ak (ak @aF7 @aF6) (ak @aF5 @aF4))) (ak (ak (ak @aF3 @aF2) (ak @aF1 @bK8)) (ak (ak @bK7 @bK6) (ak @bK5 @bK4))))))
def zd:=(ak (ak @bV6 @bV5) (ak (ak (ak (ak @bU1 @bU0) (ak @bT9 (ak @bZ0 @bY9))) (ak (ak @bY8 (ak @bY7 @bY6)) (ak @bY5 (ak @bY4 @Nv)))) (ak (ak (ak (ak (ak (ak @bX4 (ak @aF0 @aE9)) (ak @aE8 (ak @aE7 @aE6))) (ak (ak @aE5 (ak @aE4 @aE3)) (ak (ak @bJ3 @bJ2) (ak @bJ4 @bY3)))) (ak (ak (ak @bY2 (ak @bY1 @bY0)) (ak @bX9 (ak @bX8 @bX7))) (ak (ak @bK3 (ak @bX5 @bW5)) (ak (ak @bX2 @bX1) (ak @bX0 @bW9))))) (ak (ak (ak (ak @bW4 (ak @bW8 @bW7)) (ak @aE2 (ak @bX6 @bW6))) (ak (ak @bV2 (ak @bV1 @bV4)) (ak (ak @bV3 @bV0) (ak @bU9 @bU8)))) (ak (ak (ak @bU7 (ak @bU6 @bU5)) (ak @bU4 (ak @bU3 @aD2))) (ak (ak @aD1 (ak @iab @bF7)) (ak (ak @aD5 @aD0) (ak @bG4 @bF1)))))) (ak (ak (ak (ak (ak @g_v (ak @bE7 @aD3)) (ak @eab (ak @bG3 @bG2))) (ak (ak @bG1 (ak @bF9 @bF5)) (ak (ak @bF4 @bF3) (ak @bF2 @bF0)))) (ak (ak (ak @bE9 (ak @bE8 @zl2)) (ak @zl3 (ak @bL0 @bK9))) (ak (ak @zl0 (ak @zl1 @bX3)) (ak (ak @bK2 @bK1) (ak @bK0 @bJ9))))) (ak (ak (ak (ak @bJ8 (ak @bJ7 @bJ6)) (ak @bJ5 (ak @aF9 @aF8))) (ak (ak @aF7 (ak @aF6 @aF5)) (ak (ak @aF4 @aF3) (ak @aF2 @aF1)))) (ak (ak (ak @bW3 (ak @bW2 @bK8)) (ak @bK7 (ak @bK6 @bK5))) (ak (ak @bK4 (ak @bW1 @bW0)) (ak (ak @bV9 @bV8) (ak @bV7 @bU2)))))))))
def zt:=(ak (ak @bI9 (ak @bI8 @bI7)) (ak (ak @bI6 @bI5) (ak @bJ1 @bJ0)))
class HiC:Type 1 where
 h:Hi
def Yi[i:HiC] (p:Prop):Prop:=p
structure Wh (p:Prop):Prop where
 h:p
structure Lh (p:Prop):Prop where
 h:p
def EQ(p:Prop):Prop:=p
def EQ.out{p:Prop}(h:EQ p):p:=h
structure Lk {α β:Type}(c:α->β) (z:β) (w:α) (p:Prop):Prop where
 l:∀v,z=c v->v=w
 k:p
variable {β:Type}{w:Nat}{g:X->Option β}{c:σ->List Cm}
def cN{p:Prop}(h:¬p):¬p:=h
class r? (p:Prop) (q:outParam Prop):Prop where
 h:p->q
class j! (α:Type) (e:outParam (α->D)):Prop where
 h:∀x,sa (e x)=a29
instance {α:Type}{e:α->D} [i:j! α e]:Fr e:=⟨i.h⟩
theorem Gv{α:Type}{e p:α->D}(h:∀x,e x=p x) (g:∀x,sa (p x)=a29:=by intro x;simp only[sa,ea,Fr.l,Bool.and_self,Bool.and_true]) (x:α):sa (e x)=a29:=by rw[h];exact g x
class Cm1 (α:Type) (e:outParam (α->Cm)):Prop where
 h:True
class Cmp (α:Type) (e:outParam (α->List Cm)):Prop where
 h:True
section
variable {α β:Type}
instance {e:α->D} [j! α e]:Cm1 α λx=>(e x,[],[]):=⟨trivial⟩
instance {e:α->D} [j! α e]:Cm1 (List (Int×α)) λx=>(a!,[],em e x):=⟨trivial⟩
instance {e:α->D} [j! α e]:Cm1 (List α) λx=>(a!,x.map e,[]):=⟨trivial⟩
instance {e:α->D}{f:List α->D} [j! α e] [j! (List α) f]:Cm1 (List α) λx=>(f x,x.map e,[]):=⟨trivial⟩
instance {e:α->Cm} [Cm1 α e]:Cmp α λx=>[e x]:=⟨trivial⟩
instance {e:α->Cm}{f:β->List Cm} [Cm1 α e] [Cmp β f]:Cmp (α×β) λx=>e x.1::f x.2:=⟨trivial⟩
instance:Cmp Unit λ_=>[]:=⟨trivial⟩
instance:Cmp Empty λ_=>[]:=⟨trivial⟩
end
class C! (α:Type) (e:outParam (α->D)):Prop where
 h:True
class aA2 (α:Type) (e:outParam (α->List D)):Prop where
 h:True
variable {α:Type}{e:α->D}{A B:Option α}{r:α}
section
variable {α β:Type}
instance {e:α->D} [j! α e]:aA2 α λx=>[e x]:=⟨trivial⟩
instance {e:α->D}{f:β->List D} [j! α e] [aA2 β f]:aA2 (α×β) λx=>e x.1::f x.2:=⟨trivial⟩
instance {e:α->D} [j! α e]:C! α e:=⟨trivial⟩
instance {e:α->D}{f:β->List D} [j! α e] [aA2 β f]:C! (α×β) λx=>.tup (e x.1::f x.2):=⟨trivial⟩
instance:C! Unit λ_=>.tup []:=⟨trivial⟩
end
section
variable {P:a35} {N:Nat} {h x:Hi} {a b:C} {K:Exit->St->Prop} {s:St}
def gj(g:@Yi ⟨.j S h x⟩ (Tm.T P N (.seq a b) K s)):@Yi ⟨.j S h x⟩ (Tm.T P N (.seq a b) K s):=g
def ge(g:@Yi ⟨.e S h x⟩ (Tm.T P N (.seq a b) K s)):@Yi ⟨.e S h x⟩ (Tm.T P N (.seq a b) K s):=g
def gq{p:Prop}{a b:St->Prop}{s1 s2:St}(g:@Yi ⟨h⟩ (gP p (a s1) (b s2))):@Yi ⟨h⟩ (gQ p a s1 b s2):=g
def gy1{p:List Nat}{d:Option Tmp}{i:I}(g:@Yi ⟨h⟩ (E5 R fp p d i s)):@Yi ⟨h⟩ (E5 R fp p d i s):=g
def gy2{p:List Nat}{d:Option Tmp}{i:I}(g:@Yi ⟨h⟩ (skY R fp p d i s)):@Yi ⟨h⟩ (skY R fp p d i s):=g
def gy3{p:List Nat}{k:FuncId}{d:Option Tmp}(g:@Yi ⟨h⟩ (P9 P R fp p k d i s)):@Yi ⟨h⟩ (P9 P R fp p k d i s):=g
def gy4{p:List Nat}{d:Option Tmp}(g:@Yi ⟨h⟩ (cnY R fp p d i s)):@Yi ⟨h⟩ (cnY R fp p d i s):=g
def gy5{q:Nat}{l:List RI}{R:St->Prop}(g:@Yi ⟨h⟩ (Aw P ps q l R fp s)):@Yi ⟨h⟩ (Aw P ps q l R fp s):=g
def gg{p A B:Prop}(g:@Yi ⟨h⟩ (gP p A B)):@Yi ⟨h⟩ (gP p A B):=g
def gcd{c:Operand}(g:@Yi ⟨h⟩ (Tm.T P N (.cond c a b) K s)):@Yi ⟨h⟩ (Tm.T P N (.cond c a b) K s):=g
def gcx{ds:List D}(g:@Yi ⟨h⟩ (Ae P k ds m f)):@Yi ⟨h⟩ (Ae P k ds m f):=g
def gcl{ds:List D}{i:List Nat}{R:St->Prop}{d:Option Tmp}(g:@Yi ⟨h⟩ (Px P k ds i R s d)):@Yi ⟨h⟩ (Px P k ds i R s d):=g
def gl{B:Ed}{y:Hi}(g:@Yi ⟨.l S B ρ x y⟩ (Tm.T P N (.block id (.loop a)) K s)):@Yi ⟨.l S B ρ x y⟩ (Tm.T P N (.block id (.loop a)) K s):=g
def gu(g:@Yi ⟨.u S ρ x⟩ (Tm.T P N (.block id (.loop a)) K s)):@Yi ⟨.u S ρ x⟩ (Tm.T P N (.block id (.loop a)) K s):=g
def gf{E:Ed}{q:Prop}(g:@Yi ⟨.f E ρ x⟩ q):@Yi ⟨.f E ρ x⟩ q:=g
def ga{q:Prop}(g:@Yi ⟨.a ps x⟩ q):@Yi ⟨.a ps x⟩ q:=g
def gao{q:Prop}(g:@Yi ⟨.g ps pl x⟩ q):@Yi ⟨.g ps pl x⟩ q:=g
def yss(g:@Yi ⟨h⟩ (Tm.T P N a (KS P N b K) s)):@Yi ⟨h⟩ (Tm.T P N (.seq a b) K s):=T.kl g
def yz{n:Nat}(g:@Yi ⟨.z n h⟩ (Tm.T P N a (KS P N b K) s)):@Yi ⟨.z (n+1) h⟩ (Tm.T P N (.seq a b) K s):=T.kl g
def yz0{p:Prop}(g:@Yi ⟨h⟩ p):@Yi ⟨.z 0 h⟩ p:=g
def yrg{l:List RI}(g:@Yi ⟨h⟩ (nf P l (K .normal) s)):@Yi ⟨h⟩ (Tm.T P N (.vD l) K s):=T.rg g
def ydy{q:Nat}{l:List RI}(hm:P.follows .mixedOrders=a29) (g:@Yi ⟨h⟩ (Aw P [] q l (K .normal) [] s)):@Yi ⟨h⟩ (Tm.T P N (.draw q l) K s):=T.dy hm g
def yay{q:Nat}{l:List RI}{bs:List (List Nat)}(hm:P.follows .mixedOrders=a29) (b:Mt bs l q ps []=a29) (g:@Yi ⟨h⟩ (Aw P ps q l (K .normal) [] s)):@Yi ⟨.a ps h⟩ (Tm.T P N (.any cuts q bs l) K s):=T.ay hm ps b g
def yao{q:Nat}{l:List RI}{bs:List (List Nat)}(hm:P.follows .mixedOrders=a29) (a:Mt bs l q ps pl=a29) (b:uB s.m pl=a29) (g:@Yi ⟨h⟩ (wh P pl ps q l (K .normal) [] s)):@Yi ⟨.g ps pl h⟩ (Tm.T P N (.any cuts q bs l) K s):=T.ao hm ps pl a b g
def ysk(g:@Yi ⟨h⟩ (K .normal s)):@Yi ⟨h⟩ (Tm.T P N .skip K s):=T.skip g
def yxt(g:@Yi ⟨h⟩ (K (.exit id) s)):@Yi ⟨h⟩ (Tm.T P N (.exit id) K s):=T.exit g
def ybk(g:@Yi ⟨h⟩ (Tm.T P N a (KB id K) s)):@Yi ⟨h⟩ (Tm.T P N (.block id a) K s):=T.bk g
def ycd{c:Operand}{t:Bool}(ht:s.ev c=.v (.bool t)) (g:@Yi ⟨h⟩ (gP (t=a29) (Tm.T P N a K s) (Tm.T P N b K s))):@Yi ⟨h⟩ (Tm.T P N (.cond c a b) K s):=T.cd ht g
theorem ygi{p q c d:Prop} [Decidable q] (f:q->A=M r->@Yi ⟨h⟩ c) (h2:¬q->B=M r->@Yi ⟨x⟩ d) (a:p=q:=by rfl) (e:(if q then A else B)=M r):@Yi ⟨.b h x⟩ (gP p c d):=gP.ite e (iff_of_eq a) f h2
theorem ygo{p q b c:Prop} [Decidable q] (d:q->A=M r->@Yi ⟨h⟩ b) (h2:¬q->B=M r->@Yi ⟨h⟩ c) (a:p=q:=by rfl) (e:(if q then A else B)=M r):@Yi ⟨h⟩ (gP p b c):=gP.ite e (iff_of_eq a) d h2
def ygc{p q c d:Prop} [Decidable q] (f:q->A=M r->@Yi ⟨h⟩ c) (h2:¬q->B=M r->@Yi ⟨x⟩ d) (a:p↔q) (e:(if q then A else B)=M r):@Yi ⟨.b h x⟩ (gP p c d):=gP.ite e a f h2
def bO2{p q b c:Prop} [Decidable q] (d:q->A=M r->@Yi ⟨h⟩ b) (h2:¬q->B=M r->@Yi ⟨h⟩ c) (a:p↔q) (e:(if q then A else B)=M r):@Yi ⟨h⟩ (gP p b c):=gP.ite e a d h2
def ycq{p:Prop}{ds:List D}[c:r? p (k! P k ds' o)] (e:p) (hf:@Yi ⟨h⟩ (f o m)) (a:lC (Sq [] [] 9) ds ds'):@Yi ⟨h⟩ (Ae P k ds m f):=BH (c.h e) hf a
def ycv{p:Prop}{ds:List D}[c:r? p (k! P k ds' o)] (e:p) (hf:@Yi ⟨h⟩ (f o m)) (a:flat o=a29) (b:lC (Sq [] m 9) ds ds'):@Yi ⟨h⟩ (Ae P k ds m f):=CI (c.h e) hf a b
def ylq{p:Prop}{ds:List D}{R:St->Prop}[c:r? p (k! P k ds' o)] (e:p) (hf:@Yi ⟨h⟩ (R (s.put dst o))) (a:lC (Sq [] [] 9) ds ds'):@Yi ⟨h⟩ (Px P k ds [] R s dst):=gO (c.h e) hf a
def ylv{p:Prop}{ds:List D}{R:St->Prop}[c:r? p (k! P k ds' o)] (e:p) (hf:@Yi ⟨h⟩ (R (s.put dst o))) (a:flat o=a29) (hi:(ids.all λi=>D1 (i<s.m.length))=a29) (ht:xC ids ds=a29) (b:lC (Lq s.m) ds ds'):@Yi ⟨h⟩ (Px P k ds ids R s dst):=AI (c.h e) hf a hi ht b
def ytz{S:St}{l:List Nat}{ρ:Wq}(hl:tN (j::l)=ρ) (g:lC (Sq ρ s'.m 9) s'.t S.t/\qF ρ s'.m ρ S.m) (hk:pz ρ N=a29) (a:(ρ.filterMap (·.1)).Nodup):@Yi ⟨.t (j::l)⟩ (i! N s' S):=i!.q ρ hk a g
def yti{S:St}{ρ:Wq}(hl:tI 0 S.m=ρ) (g:lC (Sq ρ s'.m 9) s'.t S.t/\qF ρ s'.m ρ S.m) (hk:pz ρ N=a29) (a:(ρ.filterMap (·.1)).Nodup):@Yi ⟨h⟩ (i! N s' S):=i!.q ρ hk a g
def yrt(g:K .ret s):@Yi ⟨h⟩ (Tm.T P N .ret K s):=T.ret g
def yen(g:cR (qa s rs) s.m o):@Yi ⟨h⟩ (Fx rs o .normal s):=bd8 g
def yf{S':St}(hS:ed [] S s=S') (g:@Yi ⟨.t ρ⟩ (i! N s S')) (g2:@Yi ⟨h⟩ (Tm.T P N a K S')):@Yi ⟨.f S ρ h⟩ (Tm.T P N a K s):=T.QK g g2
def gd{q:Prop}(g:@Yi ⟨.d n6 ρ x⟩ q):@Yi ⟨.d n6 ρ x⟩ q:=g
def yd{S':St}(hS:fd (mN n6) s=S') (g:@Yi ⟨.t ρ⟩ (i! N s S')) (g2:@Yi ⟨h⟩ (Tm.T P N a K S')):@Yi ⟨.d n6 ρ h⟩ (Tm.T P N a K s):=T.QK g g2
def yj[T? N K] {c:X->List Cm} [Cmp X c] {S':X->St}{o:Option X}{f:X->Option β}{r:β}(hS:∀z,ed (c z) S s=S' z)
 (ha:∀z,o=M z->True->@Yi ⟨h⟩ (Tm.T P N a (KJ N K S' (.inl z:X⊕Unit)) s)) (hb:Wh (∀z,f z=M r->@Yi ⟨x⟩ (Tm.T P N b K (S' z)))) (e:o.bind f=M r):@Yi ⟨.j S h x⟩ (Tm.T P N (.seq a b) K s):=
 jn S' e (λz d=>ha z d trivial) λz _ d=>hb.h z d
theorem ye[T? N K] {R:Type}{c:X->List Cm} [Cmp X c] {S':X->St}{o:Option (X⊕R)}{f:X⊕R->Option R}{r:R}{p:Prop}(k:p) (hS:∀z,ed (c z) S s=S' z)
 (ha:∀z,o=M z->Lk Sum.inr z r p->@Yi ⟨h⟩ (Tm.T P N a (KJ N K S' z) s)) (hb:Wh (∀z,f (.inl z)=M r->@Yi ⟨x⟩ (Tm.T P N b K (S' z)))) (hf:∀v,f (.inr v)=M v:=by intros;rfl) (e:o.bind f=M r):@Yi ⟨.e S h x⟩ (Tm.T P N (.seq a b) K s):=by
 obtain⟨z,d,h2⟩:=Uj e;refine T.join S' z (ha z d ⟨?_,k⟩) ?_
 .grind
 .rintro y rfl;exact hb.h y h2
theorem yl[T? N K] {R:Type}[Cmp σ c] {g:β->List Cm} [Cmp β g] {step:σ->Option (Ex σ β R)}{B:Ed}{d:β->St}{f:β⊕R->Option R}{r:R}{p:Prop}(k:p)
 (hS:∀z,ed (c z) S s=S' z) (hB:∀z,ed (g z) B s=d z) (ht:@Yi ⟨.t τ⟩ (i! N s (S' x0)))
 (ha:Lh (∀q z,step q=M z->Lk Ex.ret z r p->@Yi ⟨h⟩ (Tm.T P N a (KL N id K S' d z) (S' q)))) (hb:Wh (∀z,f (.inl z)=M r->@Yi ⟨x⟩ (K .normal (d z)))) (hf:∀v,f (.inr v)=M v:=by intros;rfl) (e:(ja step x0).bind f=M r) :
 @Yi ⟨.l S B τ h x⟩ (Tm.T P N (.block id (.loop a)) K s):=by
 obtain⟨y,i,h2⟩:=Uj e;refine lm i S' d ht (λq z j hv=>ha.h q z j ⟨?_,k⟩) ?_
 .grind
 .rintro b rfl;exact hb.h b h2
theorem yl'[T? N K] {R ρ:Type}[Cmp σ c] {g:β->List Cm} [Cmp β g] {step:σ->Option (Ex σ β ρ)}{B:Ed}{d:β->St}{f:β⊕ρ->Option R}{r:R}
 (hS:∀z,ed (c z) S s=S' z) (hB:∀z,ed (g z) B s=d z) (ht:@Yi ⟨.t τ⟩ (i! N s (S' x0)))
 (ha:Lh (∀q z,step q=M z->True->@Yi ⟨h⟩ (Tm.T P N a (KL N id K S' d z) (S' q)))) (hb:Wh (∀z,f (.inl z)=M r->@Yi ⟨x⟩ (K .normal (d z)))) (e:(ja step x0).bind f=M r) :
 @Yi ⟨.l S B τ h x⟩ (Tm.T P N (.block id (.loop a)) K s):=by
 obtain⟨y,i,h2⟩:=Uj e;refine lm i S' d ht (λq z j _=>ha.h q z j trivial) ?_;rintro b rfl;exact hb.h b h2
theorem yu[T? N K] {R:Type}[Cmp σ c] {step:σ->Option (Ex σ Empty R)}{f:Empty⊕R->Option R}{r:R}{p:Prop}(k:p)
 (hS:∀z,ed (c z) S s=S' z) (ht:@Yi ⟨.t τ⟩ (i! N s (S' x0)))
 (ha:Lh (∀q z,step q=M z->Lk Ex.ret z r p->@Yi ⟨h⟩ (Tm.T P N a (KL N id K S' (λq:Empty=>q.elim) z) (S' q)))) (hf:∀v,f (.inr v)=M v:=by intros;rfl) (e:(ja step x0).bind f=M r) :
 @Yi ⟨.u S τ h⟩ (Tm.T P N (.block id (.loop a)) K s):=by
 obtain⟨y,b,h2⟩:=Uj e;refine lm b S' (λq:Empty=>q.elim) ht (λq z d hv=>ha.h q z d ⟨?_,k⟩) (λq=>q.elim)
 grind
def pF{p:α×β->Prop}(h:∀a b,p (a,b)) (z:α×β):p z:=h z.1 z.2
def vw{p:Prop}(h:p):Wh p:=⟨h⟩
def vl{p:Prop}(h:p):Lh p:=⟨h⟩
def yT:@Yi ⟨h⟩ True:=trivial
end
section
variable {α β:Type} {e:α->D} {l r:List α} {i:Int} {y:α} {b:Nat} {g:List α->Option β} {z:β}
theorem bA[j! α e] (h:(app b l r).bind g=M z):∃x,((l.length+r.length)*b<=2 ^ 47/\x.length*b<=2 ^ 47)/\l.map e++r.map e=x.map e/\g x=M z:=by
 obtain⟨x,a,h2⟩:=Uj h;have c:=(kz (e:=e) a).1;exact⟨x,⟨c,by rw[(mQ a).2,List.length_append];exact c⟩,(kz a).2,h2⟩
theorem bP[j! α e] (h:(put l i y).bind g=M z):∃x,i.toNat<l.length/\(l.map e).set i.toNat (e y)=x.map e/\g x=M z:=by
 obtain⟨x,a,h2⟩:=Uj h;exact⟨x,(vac (e:=e) a).1,(vac a).2,h2⟩
theorem bM[j! α e] {c:Int}(h:(uz b y n c).bind g=M z):∃x,0<=n/\n<=c/\c<=2 ^ 62/\c.toNat*b<=2 ^ 48/\h! n.toNat (e y)=x.map e/\g x=M z:=by
 obtain⟨x,a,h2⟩:=Uj h;obtain⟨h3,h4,h5,h6,h7⟩:=oS (e:=e) a
 grind
theorem bZ(h:(Rr l 0).bind g=M z):g []=M z:=by
 grind[Rr]
theorem bH[j! α e] (h:(Rr l i).bind g=M z):∃x,Rr l i=M x/\0<=i/\i.toNat<=l.length/\(l.map e).take i.toNat=x.map e/\((l.map e).drop 0).take (i.toNat-0)=x.map e/\g x=M z:=by
 obtain⟨x,a,h2⟩:=Uj h;obtain⟨h3,h4,h5⟩:=ae5 (e:=e) a;refine⟨x,a,?_⟩
 grind
theorem bD{x:List α}(q:Rr l i=M x) (h:(Rr l i).bind g=M z):g x=M z:=by rw[q]at h;exact h
theorem bL[j! α e] (h:(jC l i).bind g=M z):∃x,0<=i/\i.toNat<=l.length/\i.toNat+x.length<=l.length/\l.length-i.toNat=x.length/\((l.map e).take l.length).drop i.toNat=x.map e/\((l.map e).drop i.toNat).take x.length=x.map e/\g x=M z:=by
 obtain⟨x,a,h2⟩:=Uj h;obtain⟨h3,h4,h5,h6,h7⟩:=aJ5 (e:=e) a
 grind[oY]
theorem bQ{k:IntKind}{c:Int}{g:Int->Option β}(h:(quo k a c).bind g=M z):∃x,¬c=0/\aa k (a.tdiv c)=x/\g x=M z:=by
 obtain⟨x,h1,h2⟩:=Uj h
 grind[bh7]
theorem bR{k:IntKind}{c:Int}{g:Int->Option β}(h:(rem k a c).bind g=M z):∃x,¬c=0/\a.tmod c=x/\g x=M z:=by
 obtain⟨x,b,h2⟩:=Uj h;exact⟨x,(aB4 b).1,(aB4 b).2,h2⟩
def bX{s:ByteArray}{i:Int}{g:Int->Option β}(h:(xy s i).bind g=M z):∃x,xy s i=M x/\g x=M z:=Uj h
end
def cT{a b:Bool}(h:a=b):a=b:=h
variable {P:a35}
theorem jO{ds:List D}{R:D->List Ent->Prop}{m2:List Ent}(h:CallT P k ds m R) (ht:∀d m',R d m'->i! m.length ⟨[d],m'⟩ ⟨[d2],m2⟩):CallT P k ds m λd m'=>d=d2/\m'=m2:=by
 refine⟨h.1,λG w vs hv hi=>(h.2 G w vs hv hi).mono ?_⟩;rintro e w' ⟨v,d,m',G',rfl,o,hvd,b,p⟩;have hr:p! G' w' { tmps:=#[v],defers:=[] } ⟨[d],m'⟩:=⟨by simp only[VsRel];simp_all,b,rfl⟩;have hN:m.length=G.n:=hi.n.symm;have c:=p.CZ (Nat.le_of_eq hN);obtain⟨a,f,l⟩:=It (ht d m' o) c.n hr;have i:=f.t;simp only[VsRel]at i;obtain⟨u,us,he,j,_⟩:=i;injection he with he _;subst he;have g:=c.trans l;rw[hN]at g;exact⟨_,d2,m2,a,rfl,⟨rfl,rfl⟩,j,f.inv,g.toStep⟩
def EI(N:Nat) (rs:List RV) (S:St) (e:Exit) (s:St):Prop:=
 match e with
 |.normal=>∃S',i! N s S'/\∃ds,qa S' rs=M ds/\i! N ⟨[ig ds],S'.m⟩ S
 |.ret=>∃S',i! N s S'/\∃ds,qa S' rs=M ds/\i! N ⟨[ig ds],S'.m⟩ S
 |_=>False
def dR(N:Nat) (r:Option (List D)) (m:List Ent) (S:St):Prop:=∃ds,r=M ds/\i! N ⟨[ig ds],m⟩ S
theorem mI{S:St}(h:dR N (qa s rs) s.m S):EI N rs S .ret s:=by
 obtain⟨ds,a,h2⟩:=h;exact⟨s,.refl s,ds,a,h2⟩
theorem bd9{S:St}(h:dR N (qa s rs) s.m S):EI N rs S .normal s:=by
 obtain⟨ds,a,h2⟩:=h;exact⟨s,.refl s,ds,a,h2⟩
theorem Ev{ds:List D}{S:St}:dR N (M ds) m S=i! N ⟨[ig ds],m⟩ S:=by simp[dR]
@[congr] theorem aX8{N:Nat} {r a:Option (List D)} {m:List Ent} {S:St} (h:r=a):dR N r m S=dR N a m S:=by rw[h]
instance {N:Nat}{rs:List RV}{S:St}:T? N (EI N rs S):=⟨by
 rintro s S' h ⟨S1,a,h2⟩;exact⟨S1,h.trans a,h2⟩⟩
theorem JD(KF:Kf P k) {ds:List D}{m2:List Ent}(w:Nat) (hw:KF.F.ntmps=ds.length+w) (h:T P m.length KF.F.code (EI m.length KF.F.results ⟨[d2],m2⟩) ⟨ds++Tm.ds w [],m⟩):CallT P k ds m λd m'=>d=d2/\m'=m2:=by
 refine jO (R:=λd m'=>i! m.length ⟨[d],m'⟩ ⟨[d2],m2⟩) (Lb KF.ok KF.nm ?_) λ_ _ h=>h;rw[hw,Pag,←DF];refine T.K7 (h.mono ?_);have key:∀(e:Exit) (s:St),(∀s',Um KF.F.results (λd m'=>i! m.length ⟨[d],m'⟩ ⟨[d2],m2⟩) e s' = ∃ds,qa s' KF.F.results=M ds/\i! m.length ⟨[ig ds],s'.m⟩ ⟨[d2],m2⟩)->(∃S',i! m.length s S'/\∃ds,qa S' KF.F.results=M ds/\i! m.length ⟨[ig ds],S'.m⟩ ⟨[d2],m2⟩)->EP m.length (Um KF.F.results λd m'=>i! m.length ⟨[d],m'⟩ ⟨[d2],m2⟩) e s:=by
  intro e s he ⟨S,h1,h2⟩ G w a hN hr
  grind[It]
 intro e s b
 cases e with
 |normal=>exact key _ s (λ_=>rfl) b
 |ret=>exact key _ s (λ_=>rfl) b
 |_=>exact(b:False).elim
theorem pX{k:IntKind}:Fa .shr .u64 a k 1=M (.int .u64 (a.fdiv 2)):=by
 have h:((2 ^ (min (1:Int).toNat IntKind.u64.bits):Nat):Int)=2:=s6
 grind[Fa]
def mL:List Int:=[31,28,31,30,31,30,31,31,30,31,30,31]
def bH9(n:Int):D:=.v (.int .i64 n)
def aE0:s.ev (.global 0)=.pt (.agg (mL.map bH9)):=f'
def uaa:bH9 n=.v (.int .i64 n):=f'
def lst{α:Type}(l:List α):Option (List α):=M l
def mka{α:Type}(b:Nat) (z:α) (n:Int):Option (List α):=if 0<n/\n.toNat*b<=2 ^ 47 then M (h! n.toNat z)else u4
def ax3{α:Type}(l:List α) (lo:Int) (v:List α) (z:α):Option (List α):=if 0<=lo/\lo.toNat+v.length<=l.length then M (l.take lo.toNat++h! v.length z++l.drop (lo.toNat+v.length))else u4
section
variable {α β:Type} {e:α->D} {l v:List α} {i:Int} {y:α} {b:Nat} {g:List α->Option β} {z:β}
theorem bK[j! α e] (h:(mka b y i).bind g=M z):∃x,0<i/\i.toNat*b<=2 ^ 47/\h! i.toNat (e y)=x.map e/\g x=M z:=by
 obtain⟨x,a,h2⟩:=Uj h;unfold mka at a;split at a
 .rename_i hc;obtain rfl:=R' a;exact⟨_,hc.1,hc.2,List.map_replicate.symm,h2⟩
 simp_all
theorem bC[j! α e] (h:(ax3 l i v y).bind g=M z):∃x,(l.map e).take i.toNat++h! v.length (e y)++(l.map e).drop (i.toNat+v.length)=x.map e/\g x=M z:=by
 obtain⟨x,a,h2⟩:=Uj h;unfold ax3 at a;split at a
 .obtain rfl:=R' a;exact⟨_,p6,h2⟩
 simp_all
theorem bV[j! α e] (h:(lst l).bind g=M z):∃x,l.map e=x.map e/\g x=M z:=by
 obtain⟨x,a,h2⟩:=Uj h;obtain rfl:=R' a
 grind
def bG{g:Int->Option β}(h:(e! mL i).bind g=M z):∃x,0<=i/\mL[i.toNat]?=M x/\i.toNat<12/\g x=M z:=bO h
def zn:type_of% (ak @Nv (ak (ak @pX @aE0) (ak @uaa @Rah))):=ak @Nv (ak (ak @pX @aE0) (ak @uaa @Rah))
end
def aA4(P:a35) (k:Nat) (S:Nat) (l l':List D):Prop:=∀m id Ca,m[id]?=M (i? S Ca l)->CallT P k [.own id Ca] m λd m'=>d=.own id (Ca+1)/\m'=m.set id (i? S (Ca+1) l')
section
open Go.Sort
def haa{k:FuncId}(f:P' P k) {zs ys:List Int}(a:ys.length<=zs.length)
 (d:∀w b off cap,Holds (Value.int .i64) w b off zs.toArray->zs.length<=cap->Calls P k #[.slice (M ⟨b,off,u4⟩) zs.length cap] w λe w'=>e=.returned (.slice (M ⟨b,off,u4⟩) ys.length cap)/\∃n xs,xs.length+ys.length=zs.length/\w'=grow (putRow (Value.int .i64) (Sort.ahead w n) b off (ys++xs).toArray) #[])
 (c:∀w cap,Calls P k #[.slice u4 0 cap] w λe w'=>e=.returned (.slice u4 0 cap)/\w'=w):aA4 P k 1 (zs.map eI) (ys.map eI):=
 λm id Ca hm=>HU f hm a d c
end
section
variable {h:Hi} {k id S Ca:Nat} {p:Prop} {pre post l l' ds:List D} {o:D} {m:List Ent} {f:D->List Ent->Prop}
def ycA[c:r? p (aA4 P k S l l')] (e:p) (hf:@Yi ⟨h⟩ (f (.own id (Ca+1)) (m.set id (i? S (Ca+1) l')))) (hm:m[id]?=M (i? S Ca l)):@Yi ⟨h⟩ (Ae P k [.own id Ca] m f):=La (c.h e m id Ca hm) hf
def ycf{d d':D}{q:List D} [c:r? p (k! P k ([d']++q) o)] (e:p) (hq:ea q=a29) (hf:@Yi ⟨h⟩ (f o m)) (a:Sq [] [] 9 d d'):@Yi ⟨h⟩ (Ae P k (d::q) m f):=H9 (c.h e) hq hf a
def ycC[c:r? p (kI P k pre post S l o)] (e:p) (hf:@Yi ⟨h⟩ (f o (m.set id .gone))) (a:ds=pre++.own id Ca::post) (hm:m[id]?=M (i? S Ca l)):@Yi ⟨h⟩ (Ae P k ds m f):=rX (c.h e) a hm hf
def ycW[c:r? p (B8 P k pre post S l l' o)] (e:p) (hf:@Yi ⟨h⟩ (f o (m.set id (i? S Ca l')))) (a:ds=pre++.own id Ca::post) (hm:m[id]?=M (i? S Ca l)):@Yi ⟨h⟩ (Ae P k ds m f):=ax6 (c.h e) a hm hf
end
def St.hd(s:St):D:=s.t.headD a!
theorem yi{c:X->List Cm} [Cmp X c] {KF:Kf P k}{d2:X->D}{m2:X->List Ent}{ds:List D}{o:Option X}{r:β}
 (hS:∀z,ed (c z) S ⟨[a!],m⟩=⟨[d2 z],m2 z⟩) (hw:KF.F.ntmps=ds.length+w)
 (ha:∀z,o=M z->True->@Yi ⟨h⟩ (T P m.length KF.F.code (EI m.length KF.F.results ⟨[d2 z],m2 z⟩) ⟨ds++Tm.ds w [],m⟩))
 (hb:Wh (∀z,g z=M r->@Yi ⟨x⟩ (f (d2 z) (m2 z)))) (e:o.bind g=M r):@Yi ⟨.i KF w S h x⟩ (Ae P k ds m f):=by
 obtain⟨z,a,h2⟩:=Uj e;exact La (JD KF w hw (ha z a trivial)) (hb.h z h2)
def gi0{KF:Kf P j}{ds:List D}(g:@Yi ⟨.i KF w S h x⟩ (Ae P k ds m f)):@Yi ⟨.i KF w S h x⟩ (Ae P k ds m f):=g
structure Ck (p q:Prop):Prop where
 h:p
 k:q
instance {N:Nat}{K:Exit->St->Prop}:T? N (EP N K):=⟨by
 intro s S h k G w a hN hr;obtain⟨b,d,h2⟩:=It h hN hr;obtain⟨s',c,e,f,g⟩:=k b w a h2.n d;exact⟨s',c,e,f,h2.trans g⟩⟩
def F3(r:Option (List D)) (f:D->List Ent->Prop) (m:List Ent):Prop:=∃ds,r=M ds/\f (ig ds) m
theorem G3{ds:List D}:F3 (M ds) f m=f (ig ds) m:=by simp[F3]
@[congr] theorem aY0{r a:Option (List D)} {f:D->List Ent->Prop} {m:List Ent} (h:r=a):F3 r f m=F3 a f m:=by rw[h]
theorem yc{KF:Kf P k}{ds:List D}{o:Option X}{r:β}{q:Prop}(b:q) (hw:KF.F.ntmps=ds.length+w)
 (ha:∀z,o=M z->Ck (g z=M r) q->@Yi ⟨h⟩ (T P m.length KF.F.code (EP m.length (Um KF.F.results f)) ⟨ds++Tm.ds w [],m⟩)) (e:o.bind g=M r):@Yi ⟨.c KF w h⟩ (Ae P k ds m f):=by
 obtain⟨z,a,h2⟩:=Uj e;refine Lb KF.ok KF.nm ?_;rw[hw,Pag,←DF];exact T.K7 (ha z a ⟨h2,b⟩)
def gc0{KF:Kf P j}{ds:List D}(g:@Yi ⟨.c KF w h⟩ (Ae P k ds m f)):@Yi ⟨.c KF w h⟩ (Ae P k ds m f):=g
def gv{p:Prop}(g:@Yi ⟨.v x⟩ p):@Yi ⟨.v x⟩ p:=g
theorem yvr{n6:Nat}(g:@Yi ⟨x⟩ (F3 (qa s rs) f s.m)):@Yi ⟨.v x⟩ (EP n6 (Um rs f) .ret s):=by
 obtain⟨ds,a,h2⟩:=g;exact EP.of (show Um rs f .ret s from⟨ds,a,h2⟩)
theorem yvn{n6:Nat}(g:@Yi ⟨x⟩ (F3 (qa s rs) f s.m)):@Yi ⟨.v x⟩ (EP n6 (Um rs f) .normal s):=by
 obtain⟨ds,a,h2⟩:=g;exact EP.of (show Um rs f .normal s from⟨ds,a,h2⟩)
def yno{p:Prop}(h:u4=M r):p:=nomatch h
def yrr(g:@Yi ⟨h⟩ (K .ret s)):@Yi ⟨h⟩ (Tm.T P N .ret K s):=T.ret g
def yrI{S:St}(g:@Yi ⟨h⟩ (dR N (qa s rs) s.m S)):@Yi ⟨h⟩ (EI N rs S .ret s):=mI g
def ynI{S:St}(g:@Yi ⟨h⟩ (dR N (qa s rs) s.m S)):@Yi ⟨h⟩ (EI N rs S .normal s):=bd9 g
class FrO (d:D):Prop where
 h:sa d=a29
variable {d:Option Tmp}
instance {α:Type}{e:α->D} [Fr e] {x:α}:FrO (e x):=⟨Fr.h x⟩
instance {l:List D} [Ξ l]:FrO (.tup l):=⟨Ξ.h⟩
def dep:Nat->D->Bool
 |0,_=>a30
 |k+1,.agg l=>l.all (dep k)
 |k+1,.tup l=>l.all (dep k)
 |_+1,.sl _ _=>a29
 |k+1,.pt d=>dep k d
 |_+1,.v _=>a29
 |_,_=>a30
theorem lA(m:List Ent):∀{k:Nat}{d:D},sa d=a29->dep k d=a29->ob k m d=d
 |0,_,_,h=>by grind[dep]
 |k+1,.agg l,a,h2=>by
  simp only[dep,Λ]at h2;simp only[sa,Ch]at a;simp only[ob];congr 1;exact(cag λd hd=>lA m (a d hd) (h2 d hd)).trans (Eai _)
 |k+1,.tup l,a,h2=>by
  simp only[dep,Λ]at h2;simp only[sa,Ch]at a;simp only[ob];congr 1;exact(cag λd hd=>lA m (a d hd) (h2 d hd)).trans (Eai _)
 |_+1,.sl _ l,a,_=>by
  simp_all[sa,ob]
 |k+1,.pt d,a,h2=>by
  simp only[dep]at h2;simp only[sa]at a;simp only[ob,lA m a h2]
 |_+1,.v _,_,_=>rfl
 |k+1,.own ..,_,h=>by grind[dep]
 |k+1,.view ..,_,h=>by grind[dep]
 |k+1,.ref ..,_,h=>by grind[dep]
 |k+1,.fn ..,_,h=>by grind[dep]
 |k+1,.mp ..,_,h=>by grind[dep]
 |k+1,.ifc ..,_,h=>by grind[dep]
 |k+1,a!,_,h=>by grind[dep]
theorem qK{id Ca:Nat}:∀{l:List D},ea l=a29->l.map (KA id Ca)=l
 |[],_=>rfl
 |d::l,h=>by
  simp only[ea,D?]at h;rw[List.map_cons,qK h.2];congr 1;have h1:=h.1;cases d<;>simp_all[KA,sa]
def PZ(P:a35) (k:Nat) (pre post:List D) (S:Nat) (l l':List D) (o:D):Prop:=ea pre=a29/\ea post=a29/\∀m id Ca,m[id]?=M (i? S Ca l)->CallT P k (pre++.ref id Ca 0 0::post) m λd m'=>d=o/\m'=m.set id (i? S Ca l')
theorem PZ.of{S:Nat}(n:Nat) (K:Kf P k) (h:T P 1 K.F.code (EI 1 K.F.results ⟨[o],[i? S 0 l']⟩) ⟨(pre++.ref 0 0 0 0::post)++Tm.ds n [],[i? S 0 l]⟩)
 (c:ea pre=a29:=by exact Ξ.h) (a:ea post=a29:=by exact Ξ.h) (hl:ea l=a29:=by exact Ξ.h) (ho:sa o=a29:=by exact FrO.h) (f:ea l'=a29:=by exact Ξ.h) (hd:dep 8 o=a29:=by rfl) (b:l'.all (dep 8)=a29:=by rfl)
 (hn:K.F.ntmps=(pre++.ref 0 0 0 0::post).length+n:=by rfl):PZ P k pre post S l l' o:=by
 refine⟨c,a,λm id Ca e=>?_⟩;have h1:=JD K n hn (m:=[i? S 0 l]) (m2:=[i? S 0 l']) (d2:=o) h;have e1:(pre++.ref id Ca 0 0::post).map (KA id Ca)=pre++.ref 0 0 0 0::post:=by
  simp_all[KA,qK]
 refine(AQ e hl (m1:=[i? S 0 l']) rfl (by rw[e1];omega)).mono ?_;rintro d m' ⟨rfl,rfl⟩;refine⟨lA _ ho hd,?_⟩;congr 2;rw[Λ]at b;exact(cag λd hd=>lA _ (Ch.1 f d hd) (b d hd)).trans (Eai _)
theorem ycE{S:Nat}{ds:List D}{p:Prop} [c:r? p (PZ P k pre post S l l' o)] (e:p) (hf:@Yi ⟨h⟩ (f o (m.set id (i? S Ca l')))) (a:ds=pre++.ref id Ca 0 0::post) (hm:m[id]?=M (i? S Ca l)):@Yi ⟨h⟩ (Ae P k ds m f):=by
 subst a;exact La ((c.h e).2.2 m id Ca hm) hf
def gce{k:FuncId}{ds:List D}{p:List Nat}{x:Nat}{f:D->Ent->Prop}(g:@Yi ⟨h⟩ (rG P k ds ids fp p x f s)):@Yi ⟨h⟩ (rG P k ds ids fp p x f s):=g
theorem ywE{S:Nat}{ds:List D}{q:Prop}{p:List Nat}{x:Nat}{f:D->Ent->Prop}[c:r? q (PZ P k pre post S l l' o)] (e:q) (hf:@Yi ⟨h⟩ (f o (i? S Ca l')))
 (a:ds=pre++.ref x Ca 0 0::post) (hm:s.m[x]?=M (i? S Ca l)) (hx:(ids.elem x&&Mx fp ids p)=a29) (hi:ids=[x]):@Yi ⟨h⟩ (rG P k ds ids fp p x f s):=by
 subst a;subst hi;have hlt:x<s.m.length:=(Τ.1 hm).1;refine⟨hx,o,_,⟨λid hid=>p5,λm hmm=>?_⟩,hf⟩;exact(c.h e).2.2 m x Ca p5
def ydp{q:Nat}{l:List RI}(hm:P.follows .mixedOrders=a29) (c:ps=au q) (a:vC pl l=a29) (b:uB s.m pl=a29) (g:@Yi ⟨h⟩ (wh P pl ps q l (K .normal) [] s)):@Yi ⟨.g ps pl h⟩ (Tm.T P N (.draw q l) K s):=T.dp hm ps pl c a b g
def L8(m:List Ent):D->D->Prop
 |.agg a,.agg b=>lC (Lq m) a b
 |d,e=>Lq m d e
def AT(ids:List Nat) (ds:List D):Bool:=ds.all λd=>match d with|.agg a=>xC ids a|d=>xC ids [d]
theorem KY{m m':List Ent}{ids:List Nat}(hm:∀id∈ids,m'[id]?=m[id]?):∀{a b:List D},lC (L8 m) a b->AT ids a=a29->t! [] m' a b
 |[],[],_,_=>.nil
 |d::l,e::r,h,ht=>by
  simp only[AT,List.all_cons,D?]at ht;have i:=KY hm h.2 (by grind[AT]);have c:=h.1;have f:=ht.1;unfold L8 at c;split at c
  .exact .agg (QH hm c f) i
  .rename_i hne;have g:xC ids [d]=a29:=by
    grind[xC,je]
   exact t!.app (a:=[d]) (b:=[e]) (QH hm ⟨c,trivial⟩ g) i
 |[],_::_,h,_=>h.elim
 |_::_,[],h,_=>h.elim
theorem E9{ds:List D}{R:St->Prop}(h:k! P k ds' o) (hf:R (s.put dst o)) (a:flat o=a29) (hi:(ids.all λi=>D1 (i<s.m.length))=a29) (ht:AT ids ds=a29) (b:lC (L8 s.m) ds ds'):Px P k ds ids R s dst:=by
 refine⟨o,⟨λid hid=>?_,λm hm=>?_⟩,hf⟩
 .simp_all
 .exact JC h (KY hm b ht) a ⟨rfl,rfl⟩
def ylw{p:Prop}{ds:List D}{R:St->Prop}[c:r? p (k! P k ds' o)] (e:p) (hf:@Yi ⟨h⟩ (R (s.put dst o))) (a:flat o=a29) (hi:(ids.all λi=>D1 (i<s.m.length))=a29) (ht:AT ids ds=a29) (b:lC (L8 s.m) ds ds'):@Yi ⟨h⟩ (Px P k ds ids R s dst):=E9 (c.h e) hf a hi ht b
section
variable {m:List Ent} {S x y lo n s:Nat} {a b:List D} {e:D}
def xab:L8 m (.agg a) (.agg b)=lC (Lq m) a b:=f'
def yab:L8 m (.own x y) (.sl S b)=Lq m (.own x y) (.sl S b):=f'
def CY:L8 m (.view x y lo n) (.sl S b)=Lq m (.view x y lo n) (.sl S b):=f'
def zab{z:Nat}:L8 m (.ref x y z s) (.pt e)=Lq m (.ref x y z s) (.pt e):=f'
theorem bm1{z:Value}:L8 m (.v z) e=Lq m (.v z) e:=by cases e<;>rfl
theorem aC7{z:List D}:L8 m (.sl S z) e=Lq m (.sl S z) e:=by cases e<;>rfl
theorem aC8{z:D}:L8 m (.pt z) e=Lq m (.pt z) e:=by cases e<;>rfl
def zw:type_of% (ak (ak (ak @xab @yab) (ak @CY @zab)) (ak (ak @bm1 @aC7) @aC8)):=ak (ak (ak @xab @yab) (ak @CY @zab)) (ak (ak @bm1 @aC7) @aC8)
end
section
variable {P:a35}
end
def Xt(m:List Ent):Wq->List (Nat×List D)->Prop
 |[],[]=>True
 |(M j,v,0)::os,(S,l)::L=>m[j]?=M (i? S v l)/\Xt m os L
 |_,_=>False
def qv(L:List (Nat×List D)):List Ent:=L.map λp=>i? p.1 0 p.2
theorem ai5{ρ:Wq}{a b:List D}(h:t! ρ [] a b):t! ρ m a b:=by
 induction h with
 |nil=>exact .nil
 |same hf h c=>exact .same hf c
 |dead h c=>exact .dead c
 |nils h c=>exact .nils c
 |Mv i hi h c=>exact .Mv i hi c
 |agg ha h d c=>exact .agg d c
 |tup ha h d c=>exact .tup d c
 |sl ha h d c=>exact .sl d c
 |own hi h c=>exact .own hi c
 |ref hi h c=>exact .ref hi c
 |view hi h c=>exact .view hi c
 |mp hi h c=>exact .mp hi c
 |ob hm|fview hm|fref hm=>simp at hm
 |pt ha h d c=>exact .pt d c
 |fn ha hc h d e c=>exact .fn d e c
 |ifc ha h d c=>exact .ifc d c
theorem aS{m:List Ent}:∀{ρ:Wq}{L:List (Nat×List D)},Xt m ρ L->ρ.length=L.length/\∀(i S:Nat) (l:List D),L[i]?=M (S,l)->∃j v,ρ[i]?=M (M j,v,0)/\m[j]?=M (Ent.live S v l)
 |[],[],_=>p6
 |(M j,v,0)::os,(S,l)::L,h=>by
  obtain⟨a,h2⟩:=aS h.2;refine⟨by simp[a],λi S' l' hi=>?_⟩
  cases i with
  |zero=>
   have b:=h.1;simp only[Aaf,M?,F!]at hi;obtain⟨rfl,rfl⟩:=hi;exact⟨j,v,rfl,b⟩
  |succ i=>exact h2 i S' l' (by simpa using hi)
 |[],_::_,h=>h.elim
 |(M _,_,0)::_,[],h=>h.elim
 |(M _,_,_+1)::_,[],h=>h.elim
 |(u4,_,_)::_,[],h=>by simp[Xt]at h
 |(u4,_,_)::_,_::_,h=>by simp[Xt]at h
 |(M _,_,_+1)::_,_::_,h=>by simp[Xt]at h
mutual
def zS:D->Wq
 |.own id Ca=>[(M id,Ca,0)]
 |.agg l=>Mu l
 |_=>[]
def Mu:List D->Wq
 |[]=>[]
 |d::l=>zS d++Mu l
end
mutual
theorem wN:∀{d:D},sa d=a29->zS d=[]
 |.agg l,h=>by simp only[sa]at h;simp only[zS,xN h]
 |.own ..,h=>by simp[sa]at h
 |.v _,_|.tup _,_|.sl ..,_|.pt _,_|.ref ..,_|.view ..,_|.fn ..,_|.mp _,_|.ifc ..,_|a!,_=>by simp[zS]
theorem xN:∀{l:List D},ea l=a29->Mu l=[]
 |[],_=>by simp[Mu]
 |d::l,h=>by
  simp only[ea,D?]at h;simp only[Mu,wN h.1,xN h.2,List.append_nil]
end
variable {P:a35}
def Wr(P:a35) (k:Nat) (a:List D) (L:List (Nat×List D)) (o:D):Prop:=
 ∀m ρ ds,lC (Sq ρ [] 9) ds a->Xt m ρ L->(ρ.filterMap (·.1)).Nodup->CallT P k ds m λd m'=>d=o/\m'=m
def tu(ρ:Wq) (m:List Ent):List Ent:=m.mapIdx λi e=>if Bt ρ i then .gone else e
theorem yE{ρ:Wq}{i:Nat}{e:Ent}(h:(tu ρ m)[i]?=M e) (hl:e.isLive=a29):m[i]?=M e/\Bt ρ i=a30:=by
 unfold tu at h;rw[gaj]at h
 cases hm:m[i]? with
 |none=>simp[hm]at h
 |some x=>
  simp only[hm,Β,M?]at h;split at h
  .subst h;cases hl
  .subst h;simp_all
theorem xS{ρ:Wq}{i:Nat}{v:Nat×Nat}(h:(ρ:List (Option Nat×Nat×Nat))[i]?=M (M j,v)):Bt ρ j=a30:=by
 cases hb:Bt ρ j
 .rfl
 .exact absurd rfl (aZ hb i j v h)
theorem dP{ρ:Wq}(h:Bt ρ j=a30):∃(i:Nat) (v:Nat×Nat),ρ[i]?=M (M j,v):=by
 unfold Bt at h;rw[List.all_eq_false]at h;obtain⟨⟨a,v⟩,hx,h⟩:=h;obtain⟨i,hi⟩:=List.getElem?_of_mem hx
 cases a with
 |none=>simp at h
 |some k=>exact⟨i,v,p5⟩
theorem tab{G:Gh}{w:World}(ρ:Wq) (hi:Inv G w m):Inv G w (tu ρ m):=by
 refine⟨by simp[tu,hi.n],hi.F,λi e he=>?_,λi j e e' c h2 a b=>?_,hi.gl⟩
 .by_cases hl:e.isLive=a29
  .exact hi.ent i e (yE he hl).1
  .cases e with
   |gone=>trivial
   |_=>simp[Ent.isLive]at hl
 .exact hi.apart i j e e' (yE c a).1 (yE h2 b).1 a b
theorem F9{ρ:Wq}{ds ds0:List D}(hL:Xt m ρ L) (hn:(ρ.filterMap (·.1)).Nodup) (hs:t! ρ [] ds ds0) (hf:∀p∈L,ea p.2=a29) (ho:sa o=a29)
 (h:CallT P k ds0 (qv L) λd m'=>d=o/\m'=qv L):CallT P k ds m λd m'=>d=o/\m'=m:=by
 refine⟨h.1,λG w vs hv hi=>?_⟩;obtain⟨hlen,hget⟩:=aS hL;have hi1:=tab ρ hi;have E:∀(i:Nat) o',ρ[i]?=M o'->∃j v S l,o'=(M j,v,0)/\L[i]?=M (S,l)/\m[j]?=M (Ent.live S v l):=by
  intro i o' hio;have o4:i<L.length:=by rw[←hlen];exact(Τ.1 hio).1
  obtain⟨j,v,a,h2⟩:=hget i L[i].1 L[i].2 (by simp[o4]);exact⟨j,v,L[i].1,L[i].2,p5,by simp[o4],h2⟩
 have hgo:∀(i j:Nat) v,ρ[i]?=M (M j,v)->∃e:Ent,(tu ρ m)[j]?=M e/\e.isLive=a29/\(∀S R l,e=i? S R l->R=v.1):=by
  intro i j v t;obtain⟨j',R,S,l,a,h2,Y⟩:=E i _ t;simp only[F!,M?]at a;obtain⟨rfl,rfl⟩:=a;refine⟨i? S R l,?_,rfl,λS1 v1 l1 he=>?_⟩
  .simp only[tu,gaj,Y,Β,xS t];rfl
  .injection he with _ h _;exact h.symm
 have hv1:=((ai5 (m:=tu ρ m) hs).rel hi1 hgo).1 vs hv;have lentB:∀(i j:Nat) v,ρ[i]?=M (M j,v)->(Fb G (tu ρ m) ρ).B i=G.B j/\(Fb G (tu ρ m) ρ).S i=G.S j/\(Fb G (tu ρ m) ρ).N i=G.N j/\(Fb G (tu ρ m) ρ).C i=G.C j/\(Fb G (tu ρ m) ρ).V i=v.2:=by
  intro i j v t;simp[Fb,t]
 have W:∀b,(Fb G (tu ρ m) ρ).F b↔G.F b:=by
  intro b;refine⟨?_,λh=>.inl h⟩;rintro(h|⟨⟨i,e,he,hl,o0⟩,hne⟩)
  .exact h
  .obtain⟨-,K⟩:=yE he hl;obtain⟨Q,R,A⟩:=dP K;exact absurd o0 (hne Q i R A)
 have r:∀(i:Nat) e,(qv L)[i]?=M e->∃j v S l,ρ[i]?=M (M j,v,0)/\m[j]?=M (Ent.live S v l)/\e=i? S 0 l/\ea l=a29:=by
  intro i e he;simp only[qv,List.getElem?_map,Option.map_eq_some_iff]at he;obtain⟨⟨S,l⟩,a,rfl⟩:=he;obtain⟨j,v,h2,Y⟩:=hget i S l a;exact⟨j,v,S,l,h2,Y,rfl,hf _ (mag a)⟩
 have hsub0:Ν G w (Fb G (tu ρ m) ρ) w:=⟨λb h=>.inl h,λ_ _=>rfl⟩;have hi0:Inv (Fb G (tu ρ m) ρ) w (qv L):=by
  refine⟨by simp[Fb,qv,hlen],λb hb=>hi.F b ((W b).1 hb),λi e he=>?_,λi Q e e' he q _ _ b hb g=>?_,hi.gl.bare λ_ h=>.inl h⟩
  .obtain⟨j,v,S,l,a,h2,rfl,hfl⟩:=r i e he;obtain⟨a1,a2,a3,a4,a5⟩:=hi.ent _ _ h2;obtain⟨b1,b2,b3,b4,b5⟩:=lentB _ _ _ a;refine⟨b5,by rw[b2,a2],by rw[b3,a3],by rw[b4];exact a4,?_⟩;rw[b1,b4];rcases a5 with a5|⟨b',cs,T,g,Z,H,hsz,hrw⟩
   .exact .inl a5
   .exact .inr ⟨b',cs,T,g,λh=>Z ((W _).1 h),H,hsz,Va.free hsub0 rfl hfl hrw⟩
  .obtain⟨j,v,S,l,a,h2,rfl,-⟩:=r i e he;obtain⟨j',R,S',l',h1',h2',rfl,-⟩:=r Q e' q;rw[(lentB _ _ _ a).1]at hb;rw[(lentB _ _ _ h1').1]at g;obtain rfl:=hi.apart j j' _ _ h2 h2' rfl rfl b hb g;exact pN hn _ _ _ _ _ a h1'
 have s:∀b,Oc (Fb G (tu ρ m) ρ) (qv L) b->∃(j:Nat) (e:Ent),m[j]?=M e/\e.isLive=a29/\G.B j=M b/\Bt ρ j=a30:=by
  rintro b ⟨i,e,he,hl,o0⟩;obtain⟨j,v,S,l,a,h2,rfl,-⟩:=r i e he;rw[(lentB _ _ _ a).1]at o0;exact⟨j,_,h2,rfl,o0,xS a⟩
 refine(h.2 _ w vs hv1 hi0).mono ?_;rintro e w' ⟨v,d,m',G',rfl,⟨rfl,rfl⟩,hvd,I,f⟩;have olt:∀i x,m[i]?=M x->x.isLive=a29->∀b,G.B i=M b->b<w.heap.size/\¬G.F b:=λi x hx hl b hb=>(hi.ent i x hx).lt hl hb;have same:∀(i j:Nat) vv,ρ[i]?=M (M j,vv)->G'.B i=G.B j/\G'.S i=G.S j/\G'.N i=G.N j/\G'.C i=G.C j:=by
  intro i j vv t;have hi2:i<(Fb G (tu ρ m) ρ).n:=mD t;obtain⟨j',R,S,l,a,h2,Y⟩:=E i _ t;have he:(qv L)[i]?=M (i? S 0 l):=by simp[qv,h2]
  have hV:=(I.ent i _ he).1;obtain⟨b1,b2,b3,b4,b5⟩:=lentB _ _ _ t;rcases f.le.id i hi2 with⟨c1,c2,c3,c4,c5⟩|c
  .exact⟨by rw[c2,b1],by rw[c3,b2],by rw[c4,b3],by rw[c5,b4]⟩
  .rw[hV]at c;omega
 have nF:∀i x,m[i]?=M x->x.isLive=a29->∀b,G.B i=M b->¬G'.F b:=by
  intro i x hx hl b hb Z;have o4:=olt i x hx hl b hb;cases n6:Bt ρ i
  .obtain⟨Q,vv,A⟩:=dP n6;obtain⟨j',R,S,l,a,h2,Y⟩:=E Q _ A;have he:(qv L)[Q]?=M (i? S 0 l):=by simp[qv,h2]
   obtain⟨-,-,-,-,a5⟩:=I.ent Q _ he;have o0:=(same _ _ _ A).1;rcases a5 with a5|⟨b',cs,T,g,hF',-⟩
   .rw[o0,hb]at a5;simp at a5
   .rw[o0,hb]at g;injection g with g;subst g;exact hF' Z
  .rcases f.newF b o4.1 Z with a|a
   .exact o4.2 ((W _).1 a)
   .obtain⟨j,e',q,z,y,u⟩:=s b a;obtain rfl:=hi.apart i j _ _ hx q hl z b hb y;rw[n6]at u;cases u
 have hle:Le G w { G with F:=G'.F } w':=⟨λb hb=>f.le.F b (.inl hb),λb hb=>f.le.heap b (.inl hb),Nat.le_refl _,λi _=>.inl p6⟩;have hsub:Ν G w { G with F:=G'.F } w':=⟨λb hb=>f.le.F b (.inl hb),λb hb=>f.le.heap b (.inl hb)⟩;have O:Ν G' w' { G with F:=G'.F } w':=⟨λ_ h=>h,λ_ _=>rfl⟩;refine⟨v,d,m,{ G with F:=G'.F },rfl,⟨rfl,rfl⟩,VRel.free O ho hvd,⟨hi.n,I.F,?_,hi.apart,I.gl.bare λ_ h=>h⟩,⟨hle,f.os,f.tape,f.output,f.size,?_,?_,?_⟩⟩
 .intro i x hx;by_cases X:x.isLive=a29
  .cases n6:Bt ρ i
   .obtain⟨Q,vv,A⟩:=dP n6;obtain⟨j',R,S,l,a,h2,Y⟩:=E Q _ A;simp only[F!,M?]at a;obtain⟨rfl,rfl⟩:=a;rw[Y]at hx;injection hx with hx;subst hx;have he:(qv L)[Q]?=M (i? S 0 l):=by simp[qv,h2]
    obtain⟨a1,a2,a3,a4,a5⟩:=I.ent Q _ he;obtain⟨b1,b2,b3,b4⟩:=same _ _ _ A;obtain⟨e1,e2,e3,e4,-⟩:=hi.ent _ _ Y;refine⟨e1,e2,e3,e4,?_⟩;rw[b1,b4]at a5;rcases a5 with a5|⟨b',cs,T,g,hF',H,hsz,hrw⟩
    .exact .inl a5
    .exact .inr ⟨b',cs,T,g,hF',H,hsz,Va.free O rfl (hf _ (mag h2)) hrw⟩
   .refine(hi.ent i x hx).mono hle p6 (λb hb=>?_) (λb hb _ Z=>absurd Z (nF i x hx X b hb));refine f.keep b (olt i x hx X b hb).1 λK=>?_;obtain⟨j,e',q,z,y,u⟩:=s b K;obtain rfl:=hi.apart i j _ _ hx q X z b hb y;rw[n6]at u;cases u
  .cases x with
   |gone=>trivial
   |_=>simp[Ent.isLive]at X
 .intro b hb hno;refine f.keep b hb λK=>?_;obtain⟨j,e',q,z,y,-⟩:=s b K;exact hno ⟨j,e',q,z,y⟩
 .intro b hb Z;rcases f.newF b hb Z with a|a
  .exact .inl ((W _).1 a)
  .obtain⟨j,e',q,z,y,-⟩:=s b a;exact .inr ⟨j,e',q,z,y⟩
 .rintro b hb ⟨i,x,hx,lx,o0⟩;exact⟨i,x,hx,lx,o0⟩
theorem Wr.of{a:List D}(n:Nat) (K:Kf P k) (h:T P L.length K.F.code (EI L.length K.F.results ⟨[o],qv L⟩) ⟨a++Tm.ds n [],qv L⟩)
 (hf:∀p∈L,ea p.2=a29) (ho:sa o=a29:=by exact FrO.h) (hn:K.F.ntmps=a.length+n:=by rfl):Wr P k a L o:=by
 intro m ρ ds d c b;have e:(qv L).length=L.length:=by simp[qv]
 exact F9 c b (Yw (gw 9) d) hf ho (JD K n hn (by rw[e];exact h))
class Γ (p:Prop) (q:outParam Prop):Prop where
 h:p->q
variable {p q:Prop}
section
variable {h:Hi} {k S:Nat} {p:Prop} {l ds ds':List D} {L:List (Nat×List D)} {o:D} {m:List Ent} {ρ:Wq} {f:D->List Ent->Prop} {R:St->Prop} {s:St} {dst:Option Tmp} {ids:List Nat}
def ycO[c:Γ p (IB P k ds' S l)] (e:p) (hf:@Yi ⟨h⟩ (f (.own m.length 0) (m++[i? S 0 l]))) (a:lC (Sq [] [] 9) ds ds'):@Yi ⟨h⟩ (Ae P k ds m f):=
 La ⟨(c.h e m).1,λG w vs hv hi=>(c.h e m).2 G w vs ((RE (Yw (gw 9) a)).1 vs hv) hi⟩ hf
def ycM[c:Γ p (Wr P k ds' L o)] (e:p) (hf:@Yi ⟨h⟩ (f o m)) (hr:Mu ds=ρ) (b:lC (Sq ρ [] 9) ds ds') (a:Xt m ρ L) (hn:(ρ.filterMap (·.1)).Nodup):@Yi ⟨h⟩ (Ae P k ds m f):=
 La (c.h e m ρ ds b a hn) hf
theorem JJ{m m':List Ent}:∀{ρ:Wq}{L:List (Nat×List D)},(∀j∈ρ.filterMap (·.1),m'[j]?=m[j]?)->Xt m ρ L->Xt m' ρ L
 |[],[],_,_=>trivial
 |(M j,v,0)::os,(S,l)::L,hm,h=>⟨(hm j p6).trans h.1,JJ (λi hi=>hm i p5) h.2⟩
 |[],_::_,_,h=>h.elim
 |(M _,_,0)::_,[],_,h=>h.elim
 |(M _,_,_+1)::_,[],_,h=>h.elim
 |(u4,_,_)::_,[],_,h=>by simp[Xt]at h
 |(u4,_,_)::_,_::_,_,h=>by simp[Xt]at h
 |(M _,_,_+1)::_,_::_,_,h=>by simp[Xt]at h
theorem ylM[c:Γ p (Wr P k ds' L o)] (e:p) (hf:@Yi ⟨h⟩ (R (s.put dst o))) (hr:Mu ds=ρ) (d:lC (Sq ρ [] 9) ds ds') (b:Xt s.m ρ L) (hn:(ρ.filterMap (·.1)).Nodup) (hi:(ids.all λi=>D1 (i<s.m.length))=a29) (hj:((ρ.filterMap (·.1)).all λj=>ids.elem j)=a29):@Yi ⟨h⟩ (Px P k ds ids R s dst):=by
 refine⟨o,⟨λi hid=>p5,λm hm=>?_⟩,hf⟩;refine c.h e m ρ ds d (JJ (λj a=>hm j ?_) b) hn;simp only[Λ]at hj;exact List.elem_iff.1 (hj j a)
end
section
variable {l:List D} {id Ca S:Nat} {x:Value} {os:Wq}
theorem aB8:Mu []=[]:=by simp[Mu]
theorem aB7:Mu (.own id Ca::l)=(M id,Ca,0)::Mu l:=by simp[Mu,zS]
theorem o_v:Mu (.v x::l)=Mu l:=by simp[Mu,zS]
theorem bj9[Fr e] {y:α}:Mu (e y::l)=Mu l:=by simp[Mu,wN (Fr.h (e:=e) y)]
theorem bj8[Fr e] {y:List α}:Mu (.sl S (y.map e)::l)=Mu l:=by simp[Mu,zS]
theorem aB9{a:List D}:Mu (.agg a::l)=Mu a++Mu l:=by simp[Mu,zS]
theorem zM:type_of% (ak (ak (ak @aB8 @aB7) (ak @o_v @bj8)) (ak (ak @aB9 @B'.{0}) @G?.{0})):=ak (ak (ak @aB8 @aB7) (ak @o_v @bj8)) (ak (ak @aB9 @B'.{0}) @G?.{0})
end
def aC4:Xt m [] []:=trivial
def aC5{v S:Nat}{os:Wq}(h:m[j]?=M (i? S v l)) (h2:Xt m os L):Xt m ((M j,v,0)::os) ((S,l)::L):=⟨h,h2⟩
def ai1(a n:Int):Int:=a.fdiv ((2 ^ (min n.toNat IntKind.i64.bits):Nat):Int)
def Ead(a n:Int):Option Int:=if n<0 then u4 else M (ai1 a n)
def Aab(a b:Int):Int:=aa .i64 (Nat.land (a % wv .i64).toNat (b % wv .i64).toNat:Nat)
theorem qX:Fa .shr .i64 a .i64 n=if n<0 then u4 else M (.int .i64 (ai1 a n)):=by
 simp only[Fa,cond_eq_ite,R2,ai1]
theorem oX{b:Int}:Fa .and .i64 a .i64 b=M (.int .i64 (Aab a b)):=by simp[Fa,cx,Aab]
theorem oae{l:List α}:(l.map e).take l.length=l.map e:=List.take_of_length_le p6
theorem bT{g:Int->Option β}{z:β}(h:(Ead a n).bind g=M z):∃x,¬n<0/\ai1 a n=x/\g x=M z:=by
 obtain⟨x,b,h2⟩:=Uj h;unfold Ead at b;split at b
 .cases b
 .exact⟨x,by assumption,R' b,h2⟩
def aG0:((1:Nat):Int)=1:=rfl
def zT:type_of% (ak (ak @qX @oX) (ak @oae @aG0)):=ak (ak @qX @oX) (ak @oae @aG0)
theorem T.nilown{P:a35}{c:C}{i S:Nat}(d:s.t[i]?=M (.own id Ca)) (hm:s.m[id]?=M (i? S Ca [])) (h:T P N c K ⟨s.t.set i (.sl S []),s.m⟩):T P N c K s:=by
 intro code hc G w a hN hr;obtain⟨u,hu,hv⟩:=hr.t.getElem d;obtain⟨eV,-,eN,eC,-⟩:=hr.inv.ent id _ hm;have b:VRel G w (.sl S []) u:=by
  simp only[VRel]at hv⊢
  grind
 refine h code hc G w a hN ⟨hr.t.swap p5 (Τ.1 d).1 b,hr.inv,hr.defers⟩
open Go
section
variable {P:a35} {ops:Array Oper}
theorem Cae{o:Oper}{a:Act}{w:World}{K K':Act->World->Prop}{Q b:Exit->Act->World->Prop}(h:∀a w,K a w->K' a w) (d:∀c a w,Q (.panic c) a w->b (.panic c) a w) (ho:LetsOut Q->LetsOut b)
 (hh:o.wp P a w K Q):o.wp P a w K' b:=by
 unfold Oper.wp at *;generalize (execOp a.eval o).run P w=r at *
 cases r with
 |ok n w'=>
  cases n<;>simp only[Oper.upon]at hh⊢ <;>
   first
    |exact h _ _ hh
    |exact Calls.mono hh (λe w'' he=>by cases e<;>first|exact h _ _ he|exact d _ _ _ he|exact ho he)
    |exact Rows.mono hh (λ_ _ he=>h _ _ he)
 |halt x w'=>cases x<;>simp only[Oper.upon]at hh⊢<;>first|exact d _ _ _ hh|exact hh
def bf2(P:a35) (ops:Array Oper) (Q:Exit->Act->World->Prop) (lb:List Oper):Exit->Act->World->Prop
 |.normal,a,w=>wpList P ops Q lb a w
 |e,a,w=>Q e a w
theorem sD{Q:Exit->Act->World->Prop}{lb:List Oper}:∀{b:List Oper}{a:Act}{w:World},wpList P ops (bf2 P ops Q lb) b a w->wpList P ops Q (b++lb) a w
 |[],_,_,h=>h
 |o::b,a,w,h=>by
  simp only[wpList,B']at h⊢;split
  .rename_i hw;rw[J hw]at h;refine h.imp (λh=>Cae (λa w h=>sD h) (λ_ _ _ h=>h) (λh=>h) h) (λh=>⟨h.1,h.2⟩)
  .rename_i hw;rw[s7 hw]at h;exact sD h
theorem uG:∀{l:List Oper}{a b:List RI},Ud P ops l=M (a++b)->∃c lb,l=c++lb/\Ud P ops c=M a/\Ud P ops lb=M b
 |l,[],b,h=>⟨[],l,rfl,rfl,h⟩
 |[],r::a,b,h=>by simp[Ud]at h
 |o::l,r::a,b,h=>by
  simp only[Ud]at h;split at h
  .rename_i r' rs d h2;simp only[B',M?,List.cons.injEq]at h;obtain⟨rfl,h⟩:=h;obtain⟨c,lb,rfl,e,f⟩:=uG (a:=a) (b:=b) (by rw[h2,h]);refine⟨o::c,lb,rfl,?_,f⟩;simp only[Ud,d,e]
  .cases h
theorem i!.ghost{S:St}(h:i! N s S):∀{G:Gh}{w:World}{a:Act},N<=G.n->p! G w a s->∃G',p! G' w a S/\x' N G w s.m G' w S.m:=by
 induction h with
 |refl s=>exact λhN hr=>⟨_,hr,x'.refl _ _ _ hN⟩
 |step ρ hk h t c=>
  intro G w a hN hr;obtain⟨G',b,h2⟩:=c (Ht hk h hr).2.n (Ht hk h hr).1;exact⟨G',b,(Ht hk h hr).2.trans h2⟩
end
def KT(P:a35) (N:Nat) (b:List RI) (R:St->Prop) (s:St):Prop:=∃S,i! N s S/\nf P b R S
theorem T.split{P:a35}{l a b:List RI}(hl:l=a++b) (h:nf P a (KT P N b (K .normal)) s):Tm.T P N (.vD l) K s:=by
 subst hl;refine T.intro λcode g hc G w act hN hr=>?_;obtain⟨id,ops,rfl,f⟩:=II g hc;refine wp_region_list ?_;obtain⟨la,lb,hl,ha,hb⟩:=uG f;rw[hl];refine sD (bw ha (Ir h) hr λs' G' w' a' k h2 m=>?_);obtain⟨S,ht,o⟩:=k;have c:=m.CZ hN;obtain⟨G2,i,d⟩:=ht.ghost c.n h2;exact bw hb (Ir o) i λj e w'' a'' p q k3=>⟨j,e,by simpa only[ng] using p,q,(c.trans d).trans (k3.CZ d.n)⟩
section
variable {P:a35} {N:Nat} {h x:Hi} {a b l:List RI} {K:Exit->St->Prop} {R:St->Prop} {s:St}
def gsp(g:@Yi ⟨.s k x⟩ q):@Yi ⟨.s k x⟩ q:=g
theorem ysp(ha:l.take k=a) (hb:l.drop k=b) (g:@Yi ⟨h⟩ (nf P a (KT P N b (K .normal)) s)):@Yi ⟨.s k h⟩ (Tm.T P N (.vD l) K s):=
 T.split (by rw[←ha,←hb,List.take_append_drop]) g
def grr(g:@Yi ⟨h⟩ (nf P l (K .normal) s)):@Yi ⟨.r h⟩ (Tm.T P N (.vD l) K s):=T.rg g
def grd{q:Nat}(hm:P.follows .mixedOrders=a29) (g:@Yi ⟨h⟩ (Aw P [] q l (K .normal) [] s)):@Yi ⟨.r h⟩ (Tm.T P N (.draw q l) K s):=T.dy hm g
def yfp{S':St}(hS:ed [] S s=S') (g:@Yi ⟨.t ρ⟩ (i! N s S')) (g2:@Yi ⟨h⟩ (nf P b R S')):@Yi ⟨.f S ρ h⟩ (KT P N b R s):=⟨_,g,g2⟩
def bO3{S':St}(hS:fd (mN n6) s=S') (g:@Yi ⟨.t ρ⟩ (i! N s S')) (g2:@Yi ⟨h⟩ (nf P b R S')):@Yi ⟨.d n6 ρ h⟩ (KT P N b R s):=⟨_,g,g2⟩
end
section
variable {P:a35} {m:List Ent} {d:D} {t t':TypeId} {k:FuncId} {tb:List (TypeId×FuncId×Option (Bool×Nat))}
theorem Pab:Xv m ((t,k,u4)::tb) (.ifc t d)=.fn k [d] []:=by
 simp[Xv,laj]
theorem OY{o:FuncId×Option (Bool×Nat)}(h:(t==t')=a30):Xv m ((t',o)::tb) (.ifc t d)=Xv m tb (.ifc t d):=by
 simp only[Xv,laj,h]
theorem DC{i:Tmp}{args:List Operand}{l:List RI}{K:St->Prop}{t:List D}:nf P (.call dst u4 (.meth (.tmp i) tb) args::l) K ⟨t,m⟩=(match Xv m tb (t.getD i a!)with|.fn k first caps=>Ae P k (first++args.map (St.ev ⟨t,m⟩)++caps) m (KO (nf P l K) ⟨t,m⟩ dst)|_=>False):=by
 simp only[nf,d?,St.ec,St.ev];rfl
def zme:type_of% (ak @Pab (ak @OY @DC)):=ak @Pab (ak @OY @DC)
end
end Go.Tm
