/-
  The engine: a part of the proof that trees of values are carried along by the program: no condition.
-/
import Derived.Test.YtmhfebelfmgckaaGreatDoorEC
open And renaming intro->ak
open Bool renaming and_eq_true->Laa
open Eq renaming trans->Caa
open List renaming all_eq_true->fab,cons_append->Waa,getD_cons_succ->iab,getD_cons_zero->vab,getElem?_cons_succ->cac,getElem?_cons_zero->oab,getElem?_eq_some_iff->gab,getElem?_mapIdx->nae,map_congr_left->Aac,map_id->Sae,mem_of_getElem?->Hab,nil_append->qab,replicate->Daa
open Nat renaming add_sub_cancel_left->Oac,sub_zero->qad,zero_le->pab
open Option renaming map_some->Cac
open Option.some renaming inj->wab,injEq->dab
open Prod.mk renaming injEq->Vaa
set_option linter.all false
namespace Go.Tm
variable {k S id j N Oa:Nat}{l ds' pre post l':List D}{R:List (List Nat)->St->Prop}{d2 o:D}{rs:List RV}{s s':St}{m:List Ent}{f:D->List Ent->Prop}{fp ps:List (List Nat)}{i:List Operand}{ρ cuts ids M τ:List Nat}{pl:List (Option Nat)}{n a:Int}{dst:Option Tmp}{X σ:Type}{x0:σ}{K:Exit->St->Prop}{L:List (Nat×List D)}{S':σ->St}
variable {P:Program}
def QS(P:Program) (k:Nat) (ds:List D) (S:Nat) (l:List D):Prop:=∀m,CallT P k ds m λd m'=>d=.own m.length 0/\m'=m++[.live S 0 l]
theorem frameO{ds:List D}(r:oa ds=true) (hl:oa l=true) (h:CallT P k ds [] λd m'=>d=.own 0 0/\m'=[.live S 0 l]):QS P k ds S l:=by
 refine λm=>⟨h.1,λG w vs hv hi=>?_⟩;have A:=h.2 (Gh.bare G.F) w vs (VsRel.free (G:=G) (G':=Gh.bare G.F) ⟨λ_ h=>h,λ_ _=>rfl⟩ r hv) (jF hi.F (hi.gl.bare λ_ h=>h));refine A.mono ?_;rintro e w' ⟨v,d,m',G',rfl,⟨rfl,rfl⟩,t,g,c⟩;obtain⟨fV,fS,fN,fC,fB⟩:=g.ent 0 _ rfl;have hGn:=hi.n;have noO:∀b,¬Zf (Gh.bare G.F) [] b:=λb=>HC;have owned0:∀b,G'.B 0=some b->Zf G' [.live S 0 l] b:=λb hb=>⟨0,_,rfl,rfl,hb⟩;have newb:∀b,G'.B 0=some b->w.heap.size<=b:=λb hb=>by
  rcases Nat.lt_or_ge b w.heap.size with h|h
  .exact(noO b (c.newB b h (owned0 b hb))).elim
  omega
 have hF:∀b,b<w.heap.size->G'.F b->G.F b:=λb hb hf=>by
  rcases c.newF b hb hf with h|h
  .exact h
  simp_all
 have p:SubF G' w' ⟨G'.F,G.n+1,λi=>if i=G.n then G'.B 0 else G.B i,λi=>if i=G.n then 0 else G.V i,λi=>if i=G.n then G'.S 0 else G.S i,λi=>if i=G.n then G'.N 0 else G.N i,λi=>if i=G.n then G'.C 0 else G.C i⟩ w':=⟨λ_ h=>h,λ_ _=>rfl⟩;have o:Le G w ⟨G'.F,G.n+1,λi=>if i=G.n then G'.B 0 else G.B i,λi=>if i=G.n then 0 else G.V i,λi=>if i=G.n then G'.S 0 else G.S i,λi=>if i=G.n then G'.N 0 else G.N i,λi=>if i=G.n then G'.C 0 else G.C i⟩ w':=by
  refine⟨λb hb=>c.le.F b hb,λb hb=>c.le.heap b hb,by simp,λi hi=>.inl ?_⟩
  grind
 have a:∀i x,(m++[.live S 0 l])[i]?=some x->(m[i]?=some x/\i≠G.n)\/(i=G.n/\x=.live S 0 l):=by
  grind
 have z:∀i x,m[i]?=some x->x.isLive=true->∀b,G.B i=some b->b<w.heap.size/\¬G.F b:=λi x hx hl b hb=>(hi.ent i x hx).lt hl hb;refine⟨v,_,_,⟨G'.F,G.n+1,λi=>if i=G.n then G'.B 0 else G.B i,λi=>if i=G.n then 0 else G.V i,λi=>if i=G.n then G'.S 0 else G.S i,λi=>if i=G.n then G'.N 0 else G.N i,λi=>if i=G.n then G'.C 0 else G.C i⟩,rfl,⟨rfl,rfl⟩,?_,⟨by simp_all,g.F,?_,?_,g.gl.bare λ_ h=>h⟩,⟨o,c.os,c.tape,c.output,c.size,?_,?_,?_⟩⟩
 .simp only[VRel]at t⊢
  grind
 .intro i x hx;rcases a i x hx with⟨f,h2⟩|⟨rfl,rfl⟩
  .by_cases s:x.isLive=true
   .refine(hi.ent i x f).mono o (by grind) (λb hb=>?_) (λb hb _ hf=>?_)
    .exact c.keep b (z i x f s b hb).1 (noO b)
    grind
   .cases x with
    |gone=>trivial
    |_=>grind[Ent.isLive]
  .refine⟨by simp,by simp_all,by simp_all,by simp_all,?_⟩;rcases fB with h|⟨b,cs,T,f,h2,q,E,H⟩
   .simp_all
   .exact .inr ⟨b,cs,T,by simp_all,h2,q,by simp_all,by simpa using Qa.free p rfl hl H⟩
 .intro i j x y hx I u J b hb hb';rcases a i x hx with⟨f,h2⟩|⟨rfl,rfl⟩<;>rcases a j y I with⟨q,E⟩|⟨rfl,rfl⟩
  .exact hi.apart i j x y f q u J b (by simp_all) (by simp_all)
  all_goals grind
 .intro b hb hno;exact c.keep b hb (noO b)
 .simp_all
 .rintro b hb ⟨i,x,hx,u,hB⟩;rcases a i x hx with⟨f,h2⟩|⟨rfl,rfl⟩
  .exact⟨i,x,f,u,by simp_all⟩
  grind
theorem QS.den{ds:List D}(a:oa ds=true) (hl:oa l=true) (h:QS P k ds S l):Den P k ds (.sl S l):=by
 refine SP a ((h []).mono ?_);rintro d m' ⟨rfl,rfl⟩;exact .Yf (by simp) rfl (Sbs.free hl) .nil
theorem TP{ds:List D}{R:D->List Ent->Prop}{m2:List Ent}(h:CallT P k ds [] R) (ht:∀d m',R d m'->Tells 0 ⟨[d],m'⟩ ⟨[d2],m2⟩):CallT P k ds [] λd m'=>d=d2/\m'=m2:=by
 refine⟨h.1,λG w vs hv hi=>(h.2 G w vs hv hi).mono ?_⟩;rintro e w' ⟨v,d,m',G',rfl,m,hvd,b,o⟩;have hr:Rel G' w' { tmps:=#[v],defers:=[] } ⟨[d],m'⟩:=⟨by simp only[VsRel];simp_all,b,rfl⟩;obtain⟨a,c,l⟩:=Vu (ht d m' m) (pab _) hr;have g:=c.t;simp only[VsRel]at g;obtain⟨u,us,he,j,_⟩:=g;injection he with he _;subst he;have f:=(o.toN (pab _)).trans l;have i:0=G.n:=by rw[hi.n];rfl
 rw[i]at f;exact⟨_,d2,m2,a,rfl,⟨rfl,rfl⟩,j,c.inv,f.toStep⟩
def EndO(rs:List RV) (S:Nat) (l:List D) (e:Exit) (s:St):Prop:=
 match e with
 |.normal=>∃S',Tells 0 s S'/\∃ds,Db S' rs=some ds/\Tells 0 ⟨[Zq ds],S'.m⟩ ⟨[.own 0 0],[.live S 0 l]⟩
 |.ret=>∃S',Tells 0 s S'/\∃ds,Db S' rs=some ds/\Tells 0 ⟨[Zq ds],S'.m⟩ ⟨[.own 0 0],[.live S 0 l]⟩
 |_=>False
def endO(r:Option (List D)) (m:List Ent) (S:Nat) (l:List D):Prop:=∃ds,r=some ds/\Tells 0 ⟨[Zq ds],m⟩ ⟨[.own 0 0],[.live S 0 l]⟩
theorem EndO_ret'(h:endO (Db s rs) s.m S l):EndO rs S l .ret s:=by
 obtain⟨ds,a,h2⟩:=h;exact⟨s,.refl s,ds,a,h2⟩
theorem endO_some{ds:List D}:endO (some ds) m S l=Tells 0 ⟨[Zq ds],m⟩ ⟨[.own 0 0],[.live S 0 l]⟩:=by simp[endO]
instance {rs:List RV}{S:Nat}{l:List D}:StbC 0 (EndO rs S l):=⟨by
 rintro s S' h ⟨S1,a,h2⟩;exact⟨S1,h.trans a,h2⟩⟩
theorem QS.at{F:Fun}{ds:List D}(n:Nat) (i:pz P k=some F) (b:((P.funcs[k]?).map λfn=>fn.name == "runtime.NumGoroutine")=some false)
 (c:oa ds=true) (hl:oa l=true) (hn:F.ntmps=ds.length+n) (h:T P 0 F.code (EndO F.results S l) ⟨ds++Tm.ds n [],[]⟩):QS P k ds S l:=by
 refine frameO c hl (TP (R:=λd m'=>Tells 0 ⟨[d],m'⟩ ⟨[.own 0 0],[.live S 0 l]⟩) (gm i b ?_) λ_ _ h=>h);rw[hn,Oac,←sG];refine T.D4 (h.mono ?_);have key:∀(e:Exit) (s:St),(∀s',PD F.results (λd m'=>Tells 0 ⟨[d],m'⟩ ⟨[.own 0 0],[.live S 0 l]⟩) e s' = ∃ds,Db s' F.results=some ds/\Tells 0 ⟨[Zq ds],s'.m⟩ ⟨[.own 0 0],[.live S 0 l]⟩)->(∃S',Tells 0 s S'/\∃ds,Db S' F.results=some ds/\Tells 0 ⟨[Zq ds],S'.m⟩ ⟨[.own 0 0],[.live S 0 l]⟩)->yP 0 (PD F.results λd m'=>Tells 0 ⟨[d],m'⟩ ⟨[.own 0 0],[.live S 0 l]⟩) e s:=by
  intro e s he ⟨S,g,h2⟩ G w a hN hr;obtain⟨G',h3,h4⟩:=Vu g hN hr
  grind
 intro e s f
 cases e with
 |normal=>exact key _ s (λ_=>rfl) f
 |ret=>exact key _ s (λ_=>rfl) f
 |_=>exact(f:False).elim
theorem callX_O{ds:List D}(h:QS P k ds' S l) (hf:f (.own m.length 0) (m++[.live S 0 l])) (a:xa ds ds'):Cf P k ds m f:=
 mc (EX a (h m)) hf
inductive Q where
 |p (n:Nat)
 |k (n:Nat)
 |s (d:D)
 |y (i:Nat)
 |g (q:List Q)
 |i (n:Nat)
 |w (n:Nat)
 |u (q:List Q)
 |x (q:List Q)
abbrev Cm:=D×List D×List (Value×D)
inductive M1 where
 |o (j:Nat)
 |O (j:Nat)
 |H (j:Nat) (q:List Q)
 |C (j:Nat) (l:List D)
 |B (j u:Nat) (l:List D)
 |c (j:Nat) (l:List D)
 |n (S:Nat) (l:List D)
 |h (j:Nat) (q:List Q)
 |m (j:Nat) (l:List (Value×D))
 |ci (j i:Nat)
 |Ci (j i:Nat)
 |Bi (j u i:Nat)
 |ni (S i:Nat)
 |mi (j i:Nat)
 |nq (S:Nat) (q:List Q)
structure Ed where
 q:List Q
 m:List M1
def qT:Nat->Nat->Q
 |0,i=>.k i
 |1,i=>.p i
 |2,i=>.i i
 |3,i=>.s (.own i 0)
 |4,i=>.y i
 |_,i=>.s (.own i 1)
def qN:List Nat->List Q
 |[]=>[]
 |n::l=>qT (n % 8) (n / 8)::qN l
def mT:Nat->Nat->M1
 |0,r=>.o r
 |1,r=>.O r
 |2,r=>.ci (r / 32) (r % 32)
 |3,r=>.Ci (r / 32) (r % 32)
 |4,r=>.ni (r / 32) (r % 32)
 |5,r=>.mi (r / 32) (r % 32)
 |_,r=>.h (r / 32) [.i (r % 32)]
def mN:List Nat->List M1
 |[]=>[]
 |n::l=>mT (n % 8) (n / 8)::mN l
def EN(q m:List Nat):Ed:=⟨qN q,mN m⟩
def tT:Nat->Nat->Option Nat×Nat×Nat
 |0,r=>(some (r % 64),r / 64,0)
 |1,r=>(none,r,0)
 |_,r=>(some (r % 64),r / 64,1)
def tN:List Nat->List (Option Nat×Nat×Nat)
 |[]=>[]
 |n::l=>tT (n % 4) (n / 4)::tN l
def tI:Nat->List Ent->List (Option Nat×Nat×Nat)
 |_,[]=>[]
 |i,_::l=>(some i,0,0)::tI (i+1) l
inductive Hi:Type 1 where
 |o
 |b (l r:Hi)
 |z (n:Nat) (x:Hi)
 |t (ρ:List Nat)
 |a (ps:List (List Nat)) (x:Hi)
 |g (ps:List (List Nat)) (pl:List (Option Nat)) (x:Hi)
 |f (S:Ed) (ρ:List Nat) (x:Hi)
 |d (M:List Nat) (ρ:List Nat) (x:Hi)
 |j (S:Ed) (l r:Hi)
 |e (S:Ed) (l r:Hi)
 |l (S B:Ed) (ρ:List Nat) (x y:Hi)
 |u (S:Ed) (ρ:List Nat) (x:Hi)
 |i {P:Program} {k:Nat} (K:Kf P k) (w:Nat) (S:Ed) (x y:Hi)
 |c {P:Program} {k:Nat} (K:Kf P k) (w:Nat) (x:Hi)
 |v (x:Hi)
variable {h x:Hi}
def dh:List M1->Nat->Nat->Option (Nat×Bool)
 |[],_,_=>none
 |.o k::l,j,i=>bif k==j then some (i,false)else dh l j (i+1)
 |.c k _::l,j,i=>bif k==j then some (i,false)else dh l j (i+1)
 |.h k _::l,j,i=>bif k==j then some (i,false)else dh l j (i+1)
 |.O k::l,j,i=>bif k==j then some (i,true)else dh l j (i+1)
 |.H k _::l,j,i=>bif k==j then some (i,true)else dh l j (i+1)
 |.C k _::l,j,i=>bif k==j then some (i,true)else dh l j (i+1)
 |.B k _ _::l,j,i=>bif k==j then some (i,true)else dh l j (i+1)
 |.n _ _::l,j,i=>dh l j (i+1)
 |.m k _::l,j,i=>bif k==j then some (i,false)else dh l j (i+1)
 |.ci k _::l,j,i=>bif k==j then some (i,false)else dh l j (i+1)
 |.Ci k _::l,j,i=>bif k==j then some (i,true)else dh l j (i+1)
 |.Bi k _ _::l,j,i=>bif k==j then some (i,true)else dh l j (i+1)
 |.ni _ _::l,j,i=>dh l j (i+1)
 |.nq _ _::l,j,i=>dh l j (i+1)
 |.mi k _::l,j,i=>bif k==j then some (i,false)else dh l j (i+1)
def rnP(o:Option (Nat×Bool)) (v:Nat) (f:Nat->Nat->D):D:=match o with|some (i,b)=>f i (bif b then v else 0)|none=>.dead
mutual
def Zw(ks:List M1) (m:List Ent):Nat->D->D
 |n+1,.own j v=>rfO ks m n v m[j]? (dh ks j 0)
 |n+1,.ref j v x s=>rfR ks m n v x s m[j]? (dh ks j 0)
 |_+1,.view j v lo k=>rnP (dh ks j 0) v λi v=>.view i v lo k
 |_+1,.mp j=>rnP (dh ks j 0) 0 λi _=>.mp i
 |n+1,.agg l=>.agg (iz ks m n l)
 |n+1,.tup l=>.tup (iz ks m n l)
 |n+1,.fn k a c=>.fn k (iz ks m n a) (iz ks m n c)
 |n+1,.pt d=>.pt (Zw ks m n d)
 |_,d=>d
def rfO(ks:List M1) (m:List Ent) (n v:Nat):Option Ent->Option (Nat×Bool)->D
 |_,some (i,b)=>.own i (bif b then v else 0)
 |some (.live S _ l),none=>.sl S (iz ks m n l)
 |_,none=>.dead
def rfR(ks:List M1) (m:List Ent) (n v x s:Nat):Option Ent->Option (Nat×Bool)->D
 |_,some (i,b)=>.ref i (bif b then v else 0) x s
 |some (.live _ _ (d::_)),none=>.pt (Zw ks m n d)
 |_,none=>.dead
def iz(ks:List M1) (m:List Ent) (n:Nat):List D->List D
 |[]=>[]
 |d::l=>Zw ks m n d::iz ks m n l
end
mutual
theorem YK(ks:List M1) (m:List Ent):∀(n:Nat) (d:D),va d=true->Zw ks m n d=d
 |n+1,.agg l,h=>by simp only[va]at h;simp only[Zw,Dg ks m n l h]
 |n+1,.tup l,h=>by simp only[va]at h;simp only[Zw,Dg ks m n l h]
 |n+1,.fn k a c,h=>by simp only[va,Laa]at h;simp only[Zw,Dg ks m n a h.1,Dg ks m n c h.2]
 |n+1,.pt d,h=>by simp only[va]at h;simp only[Zw,YK ks m n d h]
 |_,.own _ _,h=>by grind[va]
 |_,.view _ _ _ _,h=>by grind[va]
 |_,.ref _ _ _ _,h=>by grind[va]
 |_,.mp _,h=>by grind[va]
 |n,.v _,_=>by grind[Zw]
 |n,.sl _ _,_=>by grind[Zw]
 |n,.ifc _ _,_=>by grind[Zw]
 |n,.dead,_=>by grind[Zw]
 |0,.agg _,_=>by simp only[Zw]
 |0,.tup _,_=>by simp only[Zw]
 |0,.fn _ _ _,_=>by simp only[Zw]
 |0,.pt _,_=>by simp only[Zw]
theorem Dg(ks:List M1) (m:List Ent) (n:Nat):∀l:List D,oa l=true->iz ks m n l=l
 |[],_=>by grind[iz]
 |d::l,h=>by simp only[oa,Laa]at h;simp only[iz,YK ks m n d h.1,Dg ks m n l h.2]
end
def NQ:List D->List D
 |[]=>[]
 |_::l=>.dead::NQ l
def gC(c:List Cm) (n:Nat):Cm:=c.getD n (.dead,[],[])
def U64:D->D
 |.v (.int _ n)=>.v (.int .u64 n)
 |d=>d
mutual
def qD(c:List Cm):Q->D
 |.i n=>(gC c n).1
 |.w n=>U64 (gC c n).1
 |.s d=>d
 |.u l=>.tup (BS c l)
 |.x l=>.agg (BS c l)
 |_=>.dead
def BS(c:List Cm):List Q->List D
 |[]=>[]
 |x::l=>qD c x::BS c l
end
def Ju(c:List Cm) (ks:List M1) (m:List Ent) (u:List D):List Q->List D->List D
 |[],l=>NQ l
 |_::_,[]=>[]
 |.p 0::q,l=>Ju c ks m u q l
 |.p (n+1)::q,d::l=>Zw ks m 9 d::Ju c ks m u (.p n::q) l
 |.k 0::q,l=>Ju c ks m u q l
 |.k (n+1)::q,d::l=>.dead::Ju c ks m u (.k n::q) l
 |.s e::q,d::l=>e::Ju c ks m u q l
 |.y i::q,_::l=>Zw ks m 9 (u.getD i .dead)::Ju c ks m u q l
 |.i n::q,_::l=>(gC c n).1::Ju c ks m u q l
 |.w n::q,_::l=>U64 (gC c n).1::Ju c ks m u q l
 |.u r::q,_::l=>.tup (BS c r)::Ju c ks m u q l
 |.x r::q,_::l=>.agg (BS c r)::Ju c ks m u q l
 |.g r::q,.agg b::l=>.agg (Ju c ks m u r b)::Ju c ks m u q l
 |.g _::q,d::l=>d::Ju c ks m u q l
def eO(ks:List M1) (m:List Ent):Option Ent->Ent
 |some (.live S v l)=>.live S 0 (iz ks m 9 l)
 |some e=>e
 |none=>.gone
def eX(b:List D):Option Ent->Ent
 |some (.live S v _)=>.live S v b
 |some e=>e
 |none=>.gone
def eV(ks:List M1) (m:List Ent):Option Ent->Ent
 |some (.live S v l)=>.live S v (iz ks m 9 l)
 |some e=>e
 |none=>.gone
def eW(c:List Cm) (ks:List M1) (m:List Ent) (q:List Q):Option Ent->Ent
 |some (.live S v l)=>.live S v (Ju c ks m [] q l)
 |some e=>e
 |none=>.gone
def eC(b:List D):Option Ent->Ent
 |some (.live S v _)=>.live S 0 b
 |some e=>e
 |none=>.gone
def eH(c:List Cm) (ks:List M1) (m:List Ent) (q:List Q):Option Ent->Ent
 |some (.live S v l)=>.live S 0 (Ju c ks m [] q l)
 |some e=>e
 |none=>.gone
def eB(u:Nat) (b:List D):Option Ent->Ent
 |some (.live S _ _)=>.live S u b
 |some e=>e
 |none=>.gone
def sQ(c:List Cm) (ks:List M1) (m:List Ent):M1->Ent
 |.o j=>eO ks m m[j]?
 |.c j l=>eC l m[j]?
 |.n S l=>.live S 0 l
 |.h j q=>eH c ks m q m[j]?
 |.O j=>eV ks m m[j]?
 |.C j l=>eX l m[j]?
 |.B j u l=>eB u l m[j]?
 |.H j q=>eW c ks m q m[j]?
 |.m _ l=>.mp l
 |.ci j i=>eC (gC c i).2.1 m[j]?
 |.ni S i=>.live S 0 (gC c i).2.1
 |.Ci j i=>eX (gC c i).2.1 m[j]?
 |.Bi j u i=>eB u (gC c i).2.1 m[j]?
 |.mi _ i=>.mp (gC c i).2.2
 |.nq S q=>.live S 0 (BS c q)
def edM(c:List Cm) (ks:List M1) (m:List Ent):List M1->List Ent
 |[]=>[]
 |x::l=>sQ c ks m x::edM c ks m l
def eFz(ks:List M1) (m:List Ent):Option Ent->Ent
 |some (.live S _ l)=>.live S 0 (iz ks m 9 l)
 |some e=>e
 |none=>.gone
def eGz(ks:List M1) (m:List Ent):Option Ent->Ent
 |some (.live S v l)=>.live S v (iz ks m 9 l)
 |some e=>e
 |none=>.gone
def edF(ks:List M1) (m:List Ent):List M1->List Ent
 |[]=>[]
 |.o j::l=>eFz ks m m[j]?::edF ks m l
 |.O j::l=>eGz ks m m[j]?::edF ks m l
 |_::l=>edF ks m l
def fd(ks:List M1) (s:St):St:=⟨iz ks s.m 9 s.t,edF ks s.m ks⟩
def ed(c:List Cm) (E:Ed) (s:St):St:=⟨Ju c E.m s.m s.t E.q s.t,edM c E.m s.m E.m⟩
section
variable {cs:List Cm} {ks l:List M1} {i j k n S:Nat} {d e:D} {b c u:List D} {q:List Q} {t:List D} {m r:List Ent} {f:Nat->Nat->D} {x:M1} {v lo y:Nat} {a:Ent}
theorem d_ed:ed cs ⟨q,ks⟩ ⟨t,m⟩=⟨Ju cs ks m t q t,edM cs ks m ks⟩:=Caa rfl rfl
theorem d_po0:dh [] j i=none:=Caa rfl rfl
theorem d_po1:dh (.o k::l) j i=bif k==j then some (i,false)else dh l j (i+1):=Caa rfl rfl
theorem d_po5:dh (.O k::l) j i=bif k==j then some (i,true)else dh l j (i+1):=Caa rfl rfl
theorem d_po6:dh (.H k q::l) j i=bif k==j then some (i,true)else dh l j (i+1):=Caa rfl rfl
theorem d_po7:dh (.C k b::l) j i=bif k==j then some (i,true)else dh l j (i+1):=Caa rfl rfl
theorem d_po2:dh (.c k b::l) j i=bif k==j then some (i,false)else dh l j (i+1):=Caa rfl rfl
theorem d_po3:dh (.h k q::l) j i=bif k==j then some (i,false)else dh l j (i+1):=Caa rfl rfl
theorem d_po4:dh (.n S b::l) j i=dh l j (i+1):=Caa rfl rfl
theorem d_po8{a:List (Value×D)}:dh (.m k a::l) j i=bif k==j then some (i,false)else dh l j (i+1):=Caa rfl rfl
theorem d_e8{a:List (Value×D)}:sQ cs ks m (.m j a)=.mp a:=Caa rfl rfl
theorem d_f7{a:List (Value×D)}:eO ks m (some (.mp a))=.mp a:=Caa rfl rfl
theorem g_e3{a:List (Value×D)}:eFz ks m (some (.mp a))=.mp a:=Caa rfl rfl
theorem d_rs:rnP (some (i,true)) v f=f i v:=Caa rfl rfl
theorem d_rt:rnP (some (i,false)) v f=f i 0:=Caa rfl rfl
theorem d_rn:rnP none v f=.dead:=Caa rfl rfl
theorem d_e1:sQ cs ks m (.o j)=eO ks m m[j]?:=Caa rfl rfl
theorem d_f1:eO ks m (some (.live S v b))=.live S 0 (iz ks m 9 b):=Caa rfl rfl
theorem d_f2:eC c (some (.live S v b))=.live S 0 c:=Caa rfl rfl
theorem d_f3:eH cs ks m q (some (.live S v b))=.live S 0 (Ju cs ks m [] q b):=Caa rfl rfl
theorem d_e2:sQ cs ks m (.c j c)=eC c m[j]?:=Caa rfl rfl
theorem d_e3:sQ cs ks m (.n S b)=.live S 0 b:=Caa rfl rfl
theorem d_e5:sQ cs ks m (.O j)=eV ks m m[j]?:=Caa rfl rfl
theorem d_e6:sQ cs ks m (.H j q)=eW cs ks m q m[j]?:=Caa rfl rfl
theorem d_f4:eV ks m (some (.live S v b))=.live S v (iz ks m 9 b):=Caa rfl rfl
theorem d_f5:eW cs ks m q (some (.live S v b))=.live S v (Ju cs ks m [] q b):=Caa rfl rfl
theorem d_po9:dh (.B k v b::l) j i=bif k==j then some (i,true)else dh l j (i+1):=Caa rfl rfl
theorem d_e9:sQ cs ks m (.B j v c)=eB v c m[j]?:=Caa rfl rfl
theorem d_f9:eB k c (some (.live S v b))=.live S k c:=Caa rfl rfl
theorem d_e7:sQ cs ks m (.C j c)=eX c m[j]?:=Caa rfl rfl
theorem d_f6:eX c (some (.live S v b))=.live S v c:=Caa rfl rfl
theorem d_e4:sQ cs ks m (.h j q)=eH cs ks m q m[j]?:=Caa rfl rfl
theorem d_m0:edM cs ks m []=[]:=Caa rfl rfl
theorem d_m1:edM cs ks m (x::l)=sQ cs ks m x::edM cs ks m l:=Caa rfl rfl
theorem d_k0:NQ []=[]:=Caa rfl rfl
theorem d_k1:NQ (d::b)=.dead::NQ b:=Caa rfl rfl
theorem d_q0:Ju cs ks m u [] b=NQ b:=by grind[Ju]
theorem d_q1:Ju cs ks m u (.p 0::q) b=Ju cs ks m u q b:=by cases b<;>cases q<;>simp only[Ju,NQ]
theorem d_q2:Ju cs ks m u (.p (n+1)::q) (d::b)=Zw ks m 9 d::Ju cs ks m u (.p n::q) b:=by grind[Ju]
theorem d_q3:Ju cs ks m u (.k 0::q) b=Ju cs ks m u q b:=by cases b<;>cases q<;>simp only[Ju,NQ]
theorem d_q4:Ju cs ks m u (.k (n+1)::q) (d::b)=.dead::Ju cs ks m u (.k n::q) b:=by grind[Ju]
theorem d_q5:Ju cs ks m u (.s e::q) (d::b)=e::Ju cs ks m u q b:=by grind[Ju]
theorem d_q6{g:List Q}:Ju cs ks m u (.g g::q) (.agg c::b)=.agg (Ju cs ks m u g c)::Ju cs ks m u q b:=by grind[Ju]
theorem d_q7{i:Nat}:Ju cs ks m u (.y i::q) (d::b)=Zw ks m 9 (u.getD i .dead)::Ju cs ks m u q b:=by grind[Ju]
theorem d_en{a b:List Nat}:EN a b=⟨qN a,mN b⟩:=Caa rfl rfl
theorem d_qn0:qN []=[]:=Caa rfl rfl
theorem d_qn1{a:List Nat}:qN (n::a)=qT (n % 8) (n / 8)::qN a:=Caa rfl rfl
theorem d_qt0:qT 0 i=.k i:=Caa rfl rfl
theorem d_qt1:qT 1 i=.p i:=Caa rfl rfl
theorem d_qt2:qT 2 i=.i i:=Caa rfl rfl
theorem d_qt3:qT 3 i=.s (.own i 0):=Caa rfl rfl
theorem d_qt4:qT 4 i=.y i:=Caa rfl rfl
theorem d_qt5:qT 5 i=.s (.own i 1):=Caa rfl rfl
theorem d_mn0:mN []=[]:=Caa rfl rfl
theorem d_mn1{a:List Nat}:mN (n::a)=mT (n % 8) (n / 8)::mN a:=Caa rfl rfl
theorem d_mt0:mT 0 i=.o i:=Caa rfl rfl
theorem d_mt1:mT 1 i=.O i:=Caa rfl rfl
theorem d_mt2:mT 2 i=.ci (i / 32) (i % 32):=Caa rfl rfl
theorem d_mt3:mT 3 i=.Ci (i / 32) (i % 32):=Caa rfl rfl
theorem d_mt4:mT 4 i=.ni (i / 32) (i % 32):=Caa rfl rfl
theorem d_mt5:mT 5 i=.mi (i / 32) (i % 32):=Caa rfl rfl
theorem d_mt6:mT 6 i=.h (i / 32) [.i (i % 32)]:=Caa rfl rfl
theorem d_tn0:tN []=[]:=Caa rfl rfl
theorem d_tn1{a:List Nat}:tN (n::a)=tT (n % 4) (n / 4)::tN a:=Caa rfl rfl
theorem d_tt0:tT 0 i=(some (i % 64),i / 64,0):=Caa rfl rfl
theorem d_tt1:tT 1 i=(none,i,0):=Caa rfl rfl
theorem d_tt2:tT 2 i=(some (i % 64),i / 64,1):=Caa rfl rfl
theorem d_ti0:tI i []=[]:=Caa rfl rfl
theorem d_ti1:tI i (a::r)=(some i,0,0)::tI (i+1) r:=Caa rfl rfl
theorem d_gc{x:Cm}{l:List Cm}:gC (x::l) 0=x:=Caa rfl rfl
theorem d_gs{x:Cm}{l:List Cm}:gC (x::l) (n+1)=gC l n:=Caa rfl rfl
theorem d_i1:dh (.ci k n::l) j i=bif k==j then some (i,false)else dh l j (i+1):=Caa rfl rfl
theorem d_i2:dh (.Ci k n::l) j i=bif k==j then some (i,true)else dh l j (i+1):=Caa rfl rfl
theorem d_i3:dh (.Bi k v n::l) j i=bif k==j then some (i,true)else dh l j (i+1):=Caa rfl rfl
theorem d_i4:dh (.ni k n::l) j i=dh l j (i+1):=Caa rfl rfl
theorem d_i5:dh (.mi k n::l) j i=bif k==j then some (i,false)else dh l j (i+1):=Caa rfl rfl
theorem d_i6:sQ cs ks m (.ci j n)=eC (gC cs n).2.1 m[j]?:=Caa rfl rfl
theorem d_i7:sQ cs ks m (.Ci j n)=eX (gC cs n).2.1 m[j]?:=Caa rfl rfl
theorem d_i8:sQ cs ks m (.Bi j v n)=eB v (gC cs n).2.1 m[j]?:=Caa rfl rfl
theorem d_i9:sQ cs ks m (.ni S n)=.live S 0 (gC cs n).2.1:=Caa rfl rfl
theorem d_iB:dh (.nq k q::l) j i=dh l j (i+1):=Caa rfl rfl
theorem d_iC:sQ cs ks m (.nq S q)=.live S 0 (BS cs q):=Caa rfl rfl
theorem d_iA:sQ cs ks m (.mi j n)=.mp (gC cs n).2.2:=Caa rfl rfl
theorem d_q8{i:Nat}:Ju cs ks m u (.i i::q) (d::b)=(gC cs i).1::Ju cs ks m u q b:=by grind[Ju]
theorem d_q9{i:Nat}:Ju cs ks m u (.w i::q) (d::b)=U64 (gC cs i).1::Ju cs ks m u q b:=by grind[Ju]
theorem d_qa{r:List Q}:Ju cs ks m u (.u r::q) (d::b)=.tup (BS cs r)::Ju cs ks m u q b:=by grind[Ju]
theorem d_qb{r:List Q}:Ju cs ks m u (.x r::q) (d::b)=.agg (BS cs r)::Ju cs ks m u q b:=by grind[Ju]
theorem d_b1{i:Nat}:qD cs (.i i)=(gC cs i).1:=by simp only[qD]
theorem d_b2{i:Nat}:qD cs (.w i)=U64 (gC cs i).1:=by simp only[qD]
theorem d_b3:qD cs (.s d)=d:=by simp only[qD]
theorem d_b4:qD cs (.u q)=.tup (BS cs q):=by simp only[qD]
theorem d_b5:qD cs (.x q)=.agg (BS cs q):=by simp only[qD]
theorem d_b6:BS cs []=[]:=by simp only[BS]
theorem d_b7{x:Q}:BS cs (x::q)=qD cs x::BS cs q:=by simp only[BS]
theorem jA{k:IntKind}{n:Int}:U64 (.v (.int k n))=.v (.int .u64 n):=Caa rfl rfl
theorem g_fd:fd ks ⟨t,m⟩=⟨iz ks m 9 t,edF ks m ks⟩:=Caa rfl rfl
theorem g_own:Zw ks m (n+1) (.own j v)=rfO ks m n v m[j]? (dh ks j 0):=by grind[Zw]
theorem g_ref:Zw ks m (n+1) (.ref j v y k)=rfR ks m n v y k m[j]? (dh ks j 0):=by grind[Zw]
theorem Y5:Zw ks m (n+1) (.view j v lo k)=rnP (dh ks j 0) v λi v=>.view i v lo k:=by grind[Zw]
theorem g_mp:Zw ks m (n+1) (.mp j)=rnP (dh ks j 0) 0 λi _=>.mp i:=by grind[Zw]
theorem g_agg:Zw ks m (n+1) (.agg b)=.agg (iz ks m n b):=by grind[Zw]
theorem g_tup:Zw ks m (n+1) (.tup b)=.tup (iz ks m n b):=by grind[Zw]
theorem g_fn:Zw ks m (n+1) (.fn k b c)=.fn k (iz ks m n b) (iz ks m n c):=by grind[Zw]
theorem g_pt:Zw ks m (n+1) (.pt d)=.pt (Zw ks m n d):=by grind[Zw]
theorem g_v{x:Value}:Zw ks m n (.v x)=.v x:=by grind[Zw]
theorem g_sl:Zw ks m n (.sl S b)=.sl S b:=by grind[Zw]
theorem g_ifc:Zw ks m n (.ifc S d)=.ifc S d:=by grind[Zw]
theorem V5:Zw ks m n .dead=.dead:=by grind[Zw]
theorem g_fr{α:Type}{e:α->D} [Fr e] {x:α}:Zw ks m n (e x)=e x:=YK ks m n _ (Fr.h x)
theorem g_l0:iz ks m n []=[]:=by grind[iz]
theorem g_l1:iz ks m n (d::b)=Zw ks m n d::iz ks m n b:=by grind[iz]
theorem g_lm{α:Type}{e:α->D} [Fr e] {x:List α}:iz ks m n (x.map e)=x.map e:=Dg ks m n _ (Fr.l x)
theorem g_o1{o:Option Ent}:rfO ks m n v o (some (i,false))=.own i 0:=by simp_all[rfO]
theorem g_o2{o:Option Ent}:rfO ks m n v o (some (i,true))=.own i v:=by simp_all[rfO]
theorem g_o3:rfO ks m n v (some (.live S k b)) none=.sl S (iz ks m n b):=by grind[rfO]
theorem g_o4:rfO ks m n v (some .gone) none=.dead:=by simp[rfO]
theorem d_fA{a:List (Value×D)}:eV ks m (some (.mp a))=.mp a:=Caa rfl rfl
theorem g_e4{a:List (Value×D)}:eGz ks m (some (.mp a))=.mp a:=Caa rfl rfl
theorem g_r1{o:Option Ent}:rfR ks m n v y k o (some (i,false))=.ref i 0 y k:=by simp_all[rfR]
theorem g_r2{o:Option Ent}:rfR ks m n v y k o (some (i,true))=.ref i v y k:=by simp_all[rfR]
theorem g_r3:rfR ks m n v y k (some (.live S j (d::b))) none=.pt (Zw ks m n d):=by grind[rfR]
theorem g_e1:eFz ks m (some (.live S v b))=.live S 0 (iz ks m 9 b):=Caa rfl rfl
theorem g_e2:eGz ks m (some (.live S v b))=.live S v (iz ks m 9 b):=Caa rfl rfl
theorem g_m0:edF ks m []=[]:=Caa rfl rfl
theorem g_m1:edF ks m (.o j::l)=eFz ks m m[j]?::edF ks m l:=Caa rfl rfl
theorem g_m2:edF ks m (.O j::l)=eGz ks m m[j]?::edF ks m l:=Caa rfl rfl
theorem d_c1{α:Type}{x y:α}:(bif true then x else y)=x:=Caa rfl rfl
theorem d_c2{α:Type}{x y:α}:(bif false then x else y)=y:=Caa rfl rfl
end
theorem zl0:type_of% @oab.{0}:=@oab.{0}
theorem zl1:type_of% @cac.{0}:=@cac.{0}
theorem zl2:type_of% @iab.{0}:=@iab.{0}
theorem zl3:type_of% @vab.{0}:=@vab.{0}
def zf:=(ak (ak (ak (ak (ak @g_fd (ak @g_own @g_ref)) (ak (ak @Y5 @g_mp) (ak @g_agg @g_tup))) (ak (ak (ak @g_fn @g_pt) (ak @g_v @g_sl)) (ak (ak @g_ifc @V5) (ak @g_fr @g_l0)))) (ak (ak (ak @g_l1 (ak @g_lm @g_o1)) (ak (ak @g_o2 @g_o3) (ak @g_o4 @g_r1))) (ak (ak (ak @g_r2 @g_r3) (ak @g_e1 @g_e2)) (ak (ak @g_e4 @g_m0) (ak @g_m1 @d_po8))))) (ak (ak (ak (ak @g_e3 (ak @g_m2 @d_po0)) (ak (ak @d_po1 @d_po2) (ak @d_po3 @d_po4))) (ak (ak (ak @d_po5 @d_po6) (ak @d_po7 @d_rs)) (ak (ak @d_rt @d_rn) (ak @d_c1 @d_c2)))) (ak (ak (ak (ak @zl0 @zl1) (ak @d_mn0 @d_mn1)) (ak (ak @d_mt0 @d_mt1) (ak @d_mt2 @d_mt3))) (ak (ak (ak @d_mt4 @d_mt5) (ak @d_mt6 @d_i1)) (ak (ak @d_i2 @d_i3) (ak @d_i4 @d_i5))))))
def zd:=(ak (ak @d_iB @d_iC) (ak (ak (ak (ak @d_q9 @d_qa) (ak @d_qb (ak @d_b1 @d_b2))) (ak (ak @d_b3 (ak @d_b4 @d_b5)) (ak @d_b6 (ak @d_b7 @jA)))) (ak (ak (ak (ak (ak (ak @d_ed (ak @d_po0 @d_po1)) (ak @d_po2 (ak @d_po3 @d_po4))) (ak (ak @d_po5 (ak @d_po6 @d_po7)) (ak (ak @d_rs @d_rt) (ak @d_rn @d_e1)))) (ak (ak (ak @d_e2 (ak @d_e3 @d_e4)) (ak @d_e5 (ak @d_e6 @d_e7))) (ak (ak @d_po9 (ak @d_e9 @d_f9)) (ak (ak @d_f1 @d_f2) (ak @d_f3 @d_f4))))) (ak (ak (ak (ak @d_fA (ak @d_f5 @d_f6)) (ak @d_po8 (ak @d_e8 @d_f7))) (ak (ak @d_m0 (ak @d_m1 @d_k0)) (ak (ak @d_k1 @d_q0) (ak @d_q1 @d_q2)))) (ak (ak (ak @d_q3 (ak @d_q4 @d_q5)) (ak @d_q6 (ak @d_q7 @g_own))) (ak (ak @g_ref (ak @Y5 @g_mp)) (ak (ak @g_agg @g_tup) (ak @g_fn @g_pt)))))) (ak (ak (ak (ak (ak @g_v (ak @g_sl @g_ifc)) (ak @V5 (ak @g_fr @g_l0))) (ak (ak @g_l1 (ak @g_lm @g_o1)) (ak (ak @g_o2 @g_o3) (ak @g_o4 @g_r1)))) (ak (ak (ak @g_r2 (ak @g_r3 @zl2)) (ak @zl3 (ak @d_c1 @d_c2))) (ak (ak @zl0 (ak @zl1 @d_en)) (ak (ak @d_qn0 @d_qn1) (ak @d_qt0 @d_qt1))))) (ak (ak (ak (ak @d_qt2 (ak @d_qt3 @d_qt4)) (ak @d_qt5 (ak @d_mn0 @d_mn1))) (ak (ak @d_mt0 (ak @d_mt1 @d_mt2)) (ak (ak @d_mt3 @d_mt4) (ak @d_mt5 @d_mt6)))) (ak (ak (ak @d_gc (ak @d_gs @d_i1)) (ak @d_i2 (ak @d_i3 @d_i4))) (ak (ak @d_i5 (ak @d_i6 @d_i7)) (ak (ak @d_i8 @d_i9) (ak @d_iA @d_q8)))))))))
def zt:=(ak (ak @d_tn0 (ak @d_tn1 @d_tt0)) (ak (ak @d_tt1 @d_tt2) (ak @d_ti0 @d_ti1)))
class HiC:Type 1 where
 h:Hi
def Yi[i:HiC] (p:Prop):Prop:=p
structure Wh (p:Prop):Prop where
 h:p
structure Lh (p:Prop):Prop where
 h:p
def EQ(p:Prop):Prop:=p
theorem EQ.out{p:Prop}(h:EQ p):p:=h
structure Lk {α β:Type}(c:α->β) (z:β) (w:α) (p:Prop):Prop where
 l:∀v,z=c v->v=w
 k:p
variable {β:Type}{w:Nat}{g:X->Option β}{c:σ->List Cm}
theorem cN{p:Prop}(h:¬p):¬p:=h
class Con (p:Prop) (q:outParam Prop):Prop where
 h:p->q
class Enc (α:Type) (e:outParam (α->D)):Prop where
 h:∀x,va (e x)=true
instance {α:Type}{e:α->D} [i:Enc α e]:Fr e:=⟨i.h⟩
theorem gz{α:Type}{e p:α->D}(h:∀x,e x=p x) (g:∀x,va (p x)=true:=by intro x;simp only[va,oa,Fr.l,Bool.and_self,Bool.and_true]) (x:α):va (e x)=true:=by rw[h];exact g x
class Cm1 (α:Type) (e:outParam (α->Cm)):Prop where
 h:True
class Cmp (α:Type) (e:outParam (α->List Cm)):Prop where
 h:True
section
variable {α β:Type}
instance {e:α->D} [Enc α e]:Cm1 α λx=>(e x,[],[]):=⟨trivial⟩
instance {e:α->D} [Enc α e]:Cm1 (List (Int×α)) λx=>(.dead,[],em e x):=⟨trivial⟩
instance {e:α->D} [Enc α e]:Cm1 (List α) λx=>(.dead,x.map e,[]):=⟨trivial⟩
instance {e:α->D}{f:List α->D} [Enc α e] [Enc (List α) f]:Cm1 (List α) λx=>(f x,x.map e,[]):=⟨trivial⟩
instance {e:α->Cm} [Cm1 α e]:Cmp α λx=>[e x]:=⟨trivial⟩
instance {e:α->Cm}{f:β->List Cm} [Cm1 α e] [Cmp β f]:Cmp (α×β) λx=>e x.1::f x.2:=⟨trivial⟩
instance:Cmp Unit λ_=>[]:=⟨trivial⟩
instance:Cmp Empty λ_=>[]:=⟨trivial⟩
end
class EncR (α:Type) (e:outParam (α->D)):Prop where
 h:True
class EncT (α:Type) (e:outParam (α->List D)):Prop where
 h:True
variable {α:Type}{e:α->D}{A B:Option α}{r:α}
section
variable {α β:Type}
instance {e:α->D} [Enc α e]:EncT α λx=>[e x]:=⟨trivial⟩
instance {e:α->D}{f:β->List D} [Enc α e] [EncT β f]:EncT (α×β) λx=>e x.1::f x.2:=⟨trivial⟩
instance {e:α->D} [Enc α e]:EncR α e:=⟨trivial⟩
instance {e:α->D}{f:β->List D} [Enc α e] [EncT β f]:EncR (α×β) λx=>.tup (e x.1::f x.2):=⟨trivial⟩
instance:EncR Unit λ_=>.tup []:=⟨trivial⟩
end
section
variable {P:Program} {N:Nat} {h x:Hi} {a b:C} {K:Exit->St->Prop} {s:St}
theorem gj{S:Ed}(g:@Yi ⟨.j S h x⟩ (Tm.T P N (.seq a b) K s)):@Yi ⟨.j S h x⟩ (Tm.T P N (.seq a b) K s):=g
theorem ge{S:Ed}(g:@Yi ⟨.e S h x⟩ (Tm.T P N (.seq a b) K s)):@Yi ⟨.e S h x⟩ (Tm.T P N (.seq a b) K s):=g
theorem gq{p:Prop}{a b:St->Prop}{s1 s2:St}(g:@Yi ⟨h⟩ (gP p (a s1) (b s2))):@Yi ⟨h⟩ (gQ p a s1 b s2):=g
theorem gy1{p:List Nat}{d:Option Tmp}{i:I}(g:@Yi ⟨h⟩ (WY R fp p d i s)):@Yi ⟨h⟩ (WY R fp p d i s):=g
theorem gy2{p:List Nat}{d:Option Tmp}{i:I}(g:@Yi ⟨h⟩ (skY R fp p d i s)):@Yi ⟨h⟩ (skY R fp p d i s):=g
theorem gy3{p:List Nat}{k:FuncId}{d:Option Tmp}(g:@Yi ⟨h⟩ (B4 P R fp p k d i s)):@Yi ⟨h⟩ (B4 P R fp p k d i s):=g
theorem gy4{p:List Nat}{d:Option Tmp}(g:@Yi ⟨h⟩ (cnY R fp p d i s)):@Yi ⟨h⟩ (cnY R fp p d i s):=g
theorem gy5{q:Nat}{l:List RI}{R:St->Prop}(g:@Yi ⟨h⟩ (My P ps q l R fp s)):@Yi ⟨h⟩ (My P ps q l R fp s):=g
theorem gg{p A B:Prop}(g:@Yi ⟨h⟩ (gP p A B)):@Yi ⟨h⟩ (gP p A B):=g
theorem gcd{c:Operand}(g:@Yi ⟨h⟩ (Tm.T P N (.cond c a b) K s)):@Yi ⟨h⟩ (Tm.T P N (.cond c a b) K s):=g
theorem gcx{ds:List D}(g:@Yi ⟨h⟩ (Cf P k ds m f)):@Yi ⟨h⟩ (Cf P k ds m f):=g
theorem gcl{ds:List D}{i:List Nat}{R:St->Prop}{d:Option Tmp}(g:@Yi ⟨h⟩ (nz P k ds i R s d)):@Yi ⟨h⟩ (nz P k ds i R s d):=g
theorem gl{S B:Ed}{y:Hi}(g:@Yi ⟨.l S B ρ x y⟩ (Tm.T P N (.block id (.loop a)) K s)):@Yi ⟨.l S B ρ x y⟩ (Tm.T P N (.block id (.loop a)) K s):=g
theorem gu{S:Ed}(g:@Yi ⟨.u S ρ x⟩ (Tm.T P N (.block id (.loop a)) K s)):@Yi ⟨.u S ρ x⟩ (Tm.T P N (.block id (.loop a)) K s):=g
theorem gf{E:Ed}{q:Prop}(g:@Yi ⟨.f E ρ x⟩ q):@Yi ⟨.f E ρ x⟩ q:=g
theorem ga{q:Prop}(g:@Yi ⟨.a ps x⟩ q):@Yi ⟨.a ps x⟩ q:=g
theorem gao{q:Prop}(g:@Yi ⟨.g ps pl x⟩ q):@Yi ⟨.g ps pl x⟩ q:=g
theorem yss(g:@Yi ⟨h⟩ (Tm.T P N a (KS P N b K) s)):@Yi ⟨h⟩ (Tm.T P N (.seq a b) K s):=T.S9 g
theorem yz{n:Nat}(g:@Yi ⟨.z n h⟩ (Tm.T P N a (KS P N b K) s)):@Yi ⟨.z (n+1) h⟩ (Tm.T P N (.seq a b) K s):=T.S9 g
theorem yz0{p:Prop}(g:@Yi ⟨h⟩ p):@Yi ⟨.z 0 h⟩ p:=g
theorem yrg{l:List RI}(g:@Yi ⟨h⟩ (Oi P l (K .normal) s)):@Yi ⟨h⟩ (Tm.T P N (.IS l) K s):=T.rg g
theorem ydy{q:Nat}{l:List RI}(hm:P.follows .mixedOrders=true) (g:@Yi ⟨h⟩ (My P [] q l (K .normal) [] s)):@Yi ⟨h⟩ (Tm.T P N (.draw q l) K s):=T.dy hm g
theorem yay{q:Nat}{l:List RI}{bs:List (List Nat)}(hm:P.follows .mixedOrders=true) (b:oy bs l q ps []=true) (g:@Yi ⟨h⟩ (My P ps q l (K .normal) [] s)):@Yi ⟨.a ps h⟩ (Tm.T P N (.any cuts q bs l) K s):=T.ay hm ps b g
theorem yao{q:Nat}{l:List RI}{bs:List (List Nat)}(hm:P.follows .mixedOrders=true) (a:oy bs l q ps pl=true) (b:Yw s.m pl=true) (g:@Yi ⟨h⟩ (Gi P pl ps q l (K .normal) [] s)):@Yi ⟨.g ps pl h⟩ (Tm.T P N (.any cuts q bs l) K s):=T.ao hm ps pl a b g
theorem ysk(g:@Yi ⟨h⟩ (K .normal s)):@Yi ⟨h⟩ (Tm.T P N .skip K s):=T.skip g
theorem yxt(g:@Yi ⟨h⟩ (K (.exit id) s)):@Yi ⟨h⟩ (Tm.T P N (.exit id) K s):=T.exit g
theorem ybk(g:@Yi ⟨h⟩ (Tm.T P N a (KB id K) s)):@Yi ⟨h⟩ (Tm.T P N (.block id a) K s):=T.bk g
theorem ycd{c:Operand}{t:Bool}(ht:s.ev c=.v (.bool t)) (g:@Yi ⟨h⟩ (gP (t=true) (Tm.T P N a K s) (Tm.T P N b K s))):@Yi ⟨h⟩ (Tm.T P N (.cond c a b) K s):=T.cd ht g
theorem ygi{p q c d:Prop} [Decidable q] (f:q->A=some r->@Yi ⟨h⟩ c) (h2:¬q->B=some r->@Yi ⟨x⟩ d) (a:p=q:=by rfl) (e:(if q then A else B)=some r):@Yi ⟨.b h x⟩ (gP p c d):=gP.ite e (iff_of_eq a) f h2
theorem ygo{p q b c:Prop} [Decidable q] (d:q->A=some r->@Yi ⟨h⟩ b) (h2:¬q->B=some r->@Yi ⟨h⟩ c) (a:p=q:=by rfl) (e:(if q then A else B)=some r):@Yi ⟨h⟩ (gP p b c):=gP.ite e (iff_of_eq a) d h2
theorem ygc{p q c d:Prop} [Decidable q] (f:q->A=some r->@Yi ⟨h⟩ c) (h2:¬q->B=some r->@Yi ⟨x⟩ d) (a:p↔q) (e:(if q then A else B)=some r):@Yi ⟨.b h x⟩ (gP p c d):=gP.ite e a f h2
theorem ygoc{p q b c:Prop} [Decidable q] (d:q->A=some r->@Yi ⟨h⟩ b) (h2:¬q->B=some r->@Yi ⟨h⟩ c) (a:p↔q) (e:(if q then A else B)=some r):@Yi ⟨h⟩ (gP p b c):=gP.ite e a d h2
theorem ycq{p:Prop}{ds:List D}[c:Con p (Den P k ds' o)] (e:p) (hf:@Yi ⟨h⟩ (f o m)) (a:QD (Sq [] [] 9) ds ds'):@Yi ⟨h⟩ (Cf P k ds m f):=HI (c.h e) hf a
theorem ycv{p:Prop}{ds:List D}[c:Con p (Den P k ds' o)] (e:p) (hf:@Yi ⟨h⟩ (f o m)) (a:flat o=true) (b:QD (Sq [] m 9) ds ds'):@Yi ⟨h⟩ (Cf P k ds m f):=mJ (c.h e) hf a b
theorem ylq{p:Prop}{ds:List D}{R:St->Prop}[c:Con p (Den P k ds' o)] (e:p) (hf:@Yi ⟨h⟩ (R (s.put dst o))) (a:QD (Sq [] [] 9) ds ds'):@Yi ⟨h⟩ (nz P k ds [] R s dst):=XN (c.h e) hf a
theorem ylv{p:Prop}{ds:List D}{R:St->Prop}[c:Con p (Den P k ds' o)] (e:p) (hf:@Yi ⟨h⟩ (R (s.put dst o))) (a:flat o=true) (hi:(ids.all λi=>decide (i<s.m.length))=true) (ht:VH ids ds=true) (b:QD (Lq s.m) ds ds'):@Yi ⟨h⟩ (nz P k ds ids R s dst):=kJ (c.h e) hf a hi ht b
theorem ytz{S:St}{l:List Nat}{ρ:Xs}(hl:tN (j::l)=ρ) (g:QD (Sq ρ s'.m 9) s'.t S.t/\jG ρ s'.m ρ S.m) (hk:HA ρ N=true) (a:(ρ.filterMap (·.1)).Nodup):@Yi ⟨.t (j::l)⟩ (Tells N s' S):=Tells.q ρ hk a g
theorem yti{S:St}{ρ:Xs}(hl:tI 0 S.m=ρ) (g:QD (Sq ρ s'.m 9) s'.t S.t/\jG ρ s'.m ρ S.m) (hk:HA ρ N=true) (a:(ρ.filterMap (·.1)).Nodup):@Yi ⟨h⟩ (Tells N s' S):=Tells.q ρ hk a g
theorem yrt(g:K .ret s):@Yi ⟨h⟩ (Tm.T P N .ret K s):=T.ret g
theorem yen(g:vQ (Db s rs) s.m o):@Yi ⟨h⟩ (jz rs o .normal s):=EndF_n g
theorem yf{S:Ed}{S':St}(hS:ed [] S s=S') (g:@Yi ⟨.t ρ⟩ (Tells N s S')) (g2:@Yi ⟨h⟩ (Tm.T P N a K S')):@Yi ⟨.f S ρ h⟩ (Tm.T P N a K s):=T.vL g g2
theorem gd{q:Prop}(g:@Yi ⟨.d M ρ x⟩ q):@Yi ⟨.d M ρ x⟩ q:=g
theorem yd{S':St}(hS:fd (mN M) s=S') (g:@Yi ⟨.t ρ⟩ (Tells N s S')) (g2:@Yi ⟨h⟩ (Tm.T P N a K S')):@Yi ⟨.d M ρ h⟩ (Tm.T P N a K s):=T.vL g g2
theorem yj[StbC N K] {c:X->List Cm} [Cmp X c] {S:Ed}{S':X->St}{o:Option X}{f:X->Option β}{r:β}(hS:∀z,ed (c z) S s=S' z)
 (ha:∀z,o=some z->True->@Yi ⟨h⟩ (Tm.T P N a (KJ N K S' (.inl z:X⊕Unit)) s)) (hb:Wh (∀z,f z=some r->@Yi ⟨x⟩ (Tm.T P N b K (S' z)))) (e:o.bind f=some r):@Yi ⟨.j S h x⟩ (Tm.T P N (.seq a b) K s):=
 jn S' e (λz d=>ha z d trivial) λz _ d=>hb.h z d
theorem ye[StbC N K] {R:Type}{c:X->List Cm} [Cmp X c] {S:Ed}{S':X->St}{o:Option (X⊕R)}{f:X⊕R->Option R}{r:R}{p:Prop}(k:p) (hS:∀z,ed (c z) S s=S' z)
 (ha:∀z,o=some z->Lk Sum.inr z r p->@Yi ⟨h⟩ (Tm.T P N a (KJ N K S' z) s)) (hb:Wh (∀z,f (.inl z)=some r->@Yi ⟨x⟩ (Tm.T P N b K (S' z)))) (hf:∀v,f (.inr v)=some v:=by intros;rfl) (e:o.bind f=some r):@Yi ⟨.e S h x⟩ (Tm.T P N (.seq a b) K s):=by
 obtain⟨z,d,h2⟩:=Ap e;refine T.join S' z (ha z d ⟨?_,k⟩) ?_
 .grind
 .rintro y rfl;exact hb.h y h2
theorem yl[StbC N K] {R:Type}[Cmp σ c] {g:β->List Cm} [Cmp β g] {step:σ->Option (Ex σ β R)}{S B:Ed}{d:β->St}{f:β⊕R->Option R}{r:R}{p:Prop}(k:p)
 (hS:∀z,ed (c z) S s=S' z) (hB:∀z,ed (g z) B s=d z) (ht:@Yi ⟨.t τ⟩ (Tells N s (S' x0)))
 (ha:Lh (∀q z,step q=some z->Lk Ex.ret z r p->@Yi ⟨h⟩ (Tm.T P N a (KL N id K S' d z) (S' q)))) (hb:Wh (∀z,f (.inl z)=some r->@Yi ⟨x⟩ (K .normal (d z)))) (hf:∀v,f (.inr v)=some v:=by intros;rfl) (e:(ca step x0).bind f=some r) :
 @Yi ⟨.l S B τ h x⟩ (Tm.T P N (.block id (.loop a)) K s):=by
 obtain⟨y,i,h2⟩:=Ap e;refine lm i S' d ht (λq z j hv=>ha.h q z j ⟨?_,k⟩) ?_
 .grind
 .rintro b rfl;exact hb.h b h2
theorem yl'[StbC N K] {R ρ:Type}[Cmp σ c] {g:β->List Cm} [Cmp β g] {step:σ->Option (Ex σ β ρ)}{S B:Ed}{d:β->St}{f:β⊕ρ->Option R}{r:R}
 (hS:∀z,ed (c z) S s=S' z) (hB:∀z,ed (g z) B s=d z) (ht:@Yi ⟨.t τ⟩ (Tells N s (S' x0)))
 (ha:Lh (∀q z,step q=some z->True->@Yi ⟨h⟩ (Tm.T P N a (KL N id K S' d z) (S' q)))) (hb:Wh (∀z,f (.inl z)=some r->@Yi ⟨x⟩ (K .normal (d z)))) (e:(ca step x0).bind f=some r) :
 @Yi ⟨.l S B τ h x⟩ (Tm.T P N (.block id (.loop a)) K s):=by
 obtain⟨y,i,h2⟩:=Ap e;refine lm i S' d ht (λq z j _=>ha.h q z j trivial) ?_;rintro b rfl;exact hb.h b h2
theorem yu[StbC N K] {R:Type}[Cmp σ c] {step:σ->Option (Ex σ Empty R)}{S:Ed}{f:Empty⊕R->Option R}{r:R}{p:Prop}(k:p)
 (hS:∀z,ed (c z) S s=S' z) (ht:@Yi ⟨.t τ⟩ (Tells N s (S' x0)))
 (ha:Lh (∀q z,step q=some z->Lk Ex.ret z r p->@Yi ⟨h⟩ (Tm.T P N a (KL N id K S' (λq:Empty=>q.elim) z) (S' q)))) (hf:∀v,f (.inr v)=some v:=by intros;rfl) (e:(ca step x0).bind f=some r) :
 @Yi ⟨.u S τ h⟩ (Tm.T P N (.block id (.loop a)) K s):=by
 obtain⟨y,b,h2⟩:=Ap e;refine lm b S' (λq:Empty=>q.elim) ht (λq z d hv=>ha.h q z d ⟨?_,k⟩) (λq=>q.elim)
 grind
theorem pF{p:α×β->Prop}(h:∀a b,p (a,b)) (z:α×β):p z:=h z.1 z.2
theorem vw{p:Prop}(h:p):Wh p:=⟨h⟩
theorem vl{p:Prop}(h:p):Lh p:=⟨h⟩
theorem yT:@Yi ⟨h⟩ True:=trivial
end
section
variable {α β:Type} {e:α->D} {l r:List α} {i:Int} {y:α} {b:Nat} {g:List α->Option β} {z:β}
theorem bA[Enc α e] (h:(app b l r).bind g=some z):∃x,((l.length+r.length)*b<=2 ^ 47/\x.length*b<=2 ^ 47)/\l.map e++r.map e=x.map e/\g x=some z:=by
 obtain⟨x,a,h2⟩:=Ap h;have c:=(jV (e:=e) a).1;exact⟨x,⟨c,by rw[(IP a).2,List.length_append];exact c⟩,(jV a).2,h2⟩
theorem bP[Enc α e] (h:(put l i y).bind g=some z):∃x,i.toNat<l.length/\(l.map e).set i.toNat (e y)=x.map e/\g x=some z:=by
 obtain⟨x,a,h2⟩:=Ap h;exact⟨x,(M7 (e:=e) a).1,(M7 a).2,h2⟩
theorem bM[Enc α e] {c:Int}(h:(UB b y n c).bind g=some z):∃x,0<=n/\n<=c/\c<=2 ^ 62/\c.toNat*b<=2 ^ 48/\Daa n.toNat (e y)=x.map e/\g x=some z:=by
 obtain⟨x,a,h2⟩:=Ap h;obtain⟨h3,h4,h5,h6,h7⟩:=dR (e:=e) a
 grind
theorem bZ(h:(ju l 0).bind g=some z):g []=some z:=by
 grind[ju]
theorem bH[Enc α e] (h:(ju l i).bind g=some z):∃x,ju l i=some x/\0<=i/\i.toNat<=l.length/\(l.map e).take i.toNat=x.map e/\((l.map e).drop 0).take (i.toNat-0)=x.map e/\g x=some z:=by
 obtain⟨x,a,h2⟩:=Ap h;obtain⟨h3,h4,h5⟩:=trunc_f (e:=e) a;refine⟨x,a,?_⟩
 grind
theorem bD{x:List α}(q:ju l i=some x) (h:(ju l i).bind g=some z):g x=some z:=by rw[q]at h;exact h
theorem bL[Enc α e] (h:(dH l i).bind g=some z):∃x,0<=i/\i.toNat<=l.length/\i.toNat+x.length<=l.length/\l.length-i.toNat=x.length/\((l.map e).take l.length).drop i.toNat=x.map e/\((l.map e).drop i.toNat).take x.length=x.map e/\g x=some z:=by
 obtain⟨x,a,h2⟩:=Ap h;obtain⟨h3,h4,h5,h6,h7⟩:=subl_o (e:=e) a
 grind[JV]
theorem bQ{k:IntKind}{c:Int}{g:Int->Option β}(h:(quo k a c).bind g=some z):∃x,¬c=0/\aa k (a.tdiv c)=x/\g x=some z:=by
 obtain⟨x,h1,h2⟩:=Ap h
 grind[quo_f]
theorem bR{k:IntKind}{c:Int}{g:Int->Option β}(h:(rem k a c).bind g=some z):∃x,¬c=0/\a.tmod c=x/\g x=some z:=by
 obtain⟨x,b,h2⟩:=Ap h;exact⟨x,(rem_f b).1,(rem_f b).2,h2⟩
theorem bX{s:ByteArray}{i:Int}{g:Int->Option β}(h:(Jx s i).bind g=some z):∃x,Jx s i=some x/\g x=some z:=Ap h
end
theorem cT{a b:Bool}(h:a=b):a=b:=h
variable {P:Program}
theorem ZN{ds:List D}{R:D->List Ent->Prop}{m2:List Ent}(h:CallT P k ds m R) (ht:∀d m',R d m'->Tells m.length ⟨[d],m'⟩ ⟨[d2],m2⟩):CallT P k ds m λd m'=>d=d2/\m'=m2:=by
 refine⟨h.1,λG w vs hv hi=>(h.2 G w vs hv hi).mono ?_⟩;rintro e w' ⟨v,d,m',G',rfl,o,hvd,b,p⟩;have hr:Rel G' w' { tmps:=#[v],defers:=[] } ⟨[d],m'⟩:=⟨by simp only[VsRel];simp_all,b,rfl⟩;have hN:m.length=G.n:=hi.n.symm;have c:=p.toN (Nat.le_of_eq hN);obtain⟨a,f,l⟩:=Vu (ht d m' o) c.n hr;have i:=f.t;simp only[VsRel]at i;obtain⟨u,us,he,j,_⟩:=i;injection he with he _;subst he;have g:=c.trans l;rw[hN]at g;exact⟨_,d2,m2,a,rfl,⟨rfl,rfl⟩,j,f.inv,g.toStep⟩
def EI(N:Nat) (rs:List RV) (S:St) (e:Exit) (s:St):Prop:=
 match e with
 |.normal=>∃S',Tells N s S'/\∃ds,Db S' rs=some ds/\Tells N ⟨[Zq ds],S'.m⟩ S
 |.ret=>∃S',Tells N s S'/\∃ds,Db S' rs=some ds/\Tells N ⟨[Zq ds],S'.m⟩ S
 |_=>False
def wQ(N:Nat) (r:Option (List D)) (m:List Ent) (S:St):Prop:=∃ds,r=some ds/\Tells N ⟨[Zq ds],m⟩ S
theorem EI_ret{S:St}(h:wQ N (Db s rs) s.m S):EI N rs S .ret s:=by
 obtain⟨ds,a,h2⟩:=h;exact⟨s,.refl s,ds,a,h2⟩
theorem EI_nor{S:St}(h:wQ N (Db s rs) s.m S):EI N rs S .normal s:=by
 obtain⟨ds,a,h2⟩:=h;exact⟨s,.refl s,ds,a,h2⟩
theorem QM{ds:List D}{S:St}:wQ N (some ds) m S=Tells N ⟨[Zq ds],m⟩ S:=by simp[wQ]
@[congr] theorem endI_congr{N:Nat} {r a:Option (List D)} {m:List Ent} {S:St} (h:r=a):wQ N r m S=wQ N a m S:=by rw[h]
instance {N:Nat}{rs:List RV}{S:St}:StbC N (EI N rs S):=⟨by
 rintro s S' h ⟨S1,a,h2⟩;exact⟨S1,h.trans a,h2⟩⟩
theorem lJ(KF:Kf P k) {ds:List D}{m2:List Ent}(w:Nat) (hw:KF.F.ntmps=ds.length+w) (h:T P m.length KF.F.code (EI m.length KF.F.results ⟨[d2],m2⟩) ⟨ds++Tm.ds w [],m⟩):CallT P k ds m λd m'=>d=d2/\m'=m2:=by
 refine ZN (R:=λd m'=>Tells m.length ⟨[d],m'⟩ ⟨[d2],m2⟩) (gm KF.ok KF.nm ?_) λ_ _ h=>h;rw[hw,Oac,←sG];refine T.D4 (h.mono ?_);have key:∀(e:Exit) (s:St),(∀s',PD KF.F.results (λd m'=>Tells m.length ⟨[d],m'⟩ ⟨[d2],m2⟩) e s' = ∃ds,Db s' KF.F.results=some ds/\Tells m.length ⟨[Zq ds],s'.m⟩ ⟨[d2],m2⟩)->(∃S',Tells m.length s S'/\∃ds,Db S' KF.F.results=some ds/\Tells m.length ⟨[Zq ds],S'.m⟩ ⟨[d2],m2⟩)->yP m.length (PD KF.F.results λd m'=>Tells m.length ⟨[d],m'⟩ ⟨[d2],m2⟩) e s:=by
  intro e s he ⟨S,h1,h2⟩ G w a hN hr
  grind[Vu]
 intro e s b
 cases e with
 |normal=>exact key _ s (λ_=>rfl) b
 |ret=>exact key _ s (λ_=>rfl) b
 |_=>exact(b:False).elim
theorem lV{k:IntKind}:Yh .shr .u64 a k 1=some (.int .u64 (a.fdiv 2)):=by
 have h:((2 ^ (min (1:Int).toNat IntKind.u64.bits):Nat):Int)=2:=by decide
 grind[Yh]
def mL:List Int:=[31,28,31,30,31,30,31,31,30,31,30,31]
def e_mL(n:Int):D:=.v (.int .i64 n)
theorem ev_g0:s.ev (.global 0)=.pt (.agg (mL.map e_mL)):=Caa rfl rfl
theorem B5:e_mL n=.v (.int .i64 n):=Caa rfl rfl
def lst{α:Type}(l:List α):Option (List α):=some l
def mka{α:Type}(b:Nat) (z:α) (n:Int):Option (List α):=if 0<n/\n.toNat*b<=2 ^ 47 then some (Daa n.toNat z)else none
def clrO{α:Type}(l:List α) (lo:Int) (v:List α) (z:α):Option (List α):=if 0<=lo/\lo.toNat+v.length<=l.length then some (l.take lo.toNat++Daa v.length z++l.drop (lo.toNat+v.length))else none
section
variable {α β:Type} {e:α->D} {l v:List α} {i:Int} {y:α} {b:Nat} {g:List α->Option β} {z:β}
theorem bK[Enc α e] (h:(mka b y i).bind g=some z):∃x,0<i/\i.toNat*b<=2 ^ 47/\Daa i.toNat (e y)=x.map e/\g x=some z:=by
 obtain⟨x,a,h2⟩:=Ap h;unfold mka at a;split at a
 .rename_i hc;obtain rfl:=wab a;exact⟨_,hc.1,hc.2,List.map_replicate.symm,h2⟩
 simp_all
theorem bC[Enc α e] (h:(clrO l i v y).bind g=some z):∃x,(l.map e).take i.toNat++Daa v.length (e y)++(l.map e).drop (i.toNat+v.length)=x.map e/\g x=some z:=by
 obtain⟨x,a,h2⟩:=Ap h;unfold clrO at a;split at a
 .obtain rfl:=wab a;exact⟨_,by simp,h2⟩
 simp_all
theorem bV[Enc α e] (h:(lst l).bind g=some z):∃x,l.map e=x.map e/\g x=some z:=by
 obtain⟨x,a,h2⟩:=Ap h;obtain rfl:=wab a
 grind
theorem bG{g:Int->Option β}(h:(idx mL i).bind g=some z):∃x,0<=i/\mL[i.toNat]?=some x/\i.toNat<12/\g x=some z:=bO h
theorem zn:type_of% (ak @jA (ak (ak @lV @ev_g0) (ak @B5 @qad))):=ak @jA (ak (ak @lV @ev_g0) (ak @B5 @qad))
end
def DenA(P:Program) (k:Nat) (S:Nat) (l l':List D):Prop:=∀m id Oa,m[id]?=some (.live S Oa l)->CallT P k [.own id Oa] m λd m'=>d=.own id (Oa+1)/\m'=m.set id (.live S (Oa+1) l')
section
open Go.Sort
theorem S4{k:FuncId}(f:Enters P k) {zs ys:List Int}(a:ys.length<=zs.length)
 (d:∀w b off cap,Holds (Value.int .i64) w b off zs.toArray->zs.length<=cap->Calls P k #[.slice (some ⟨b,off,none⟩) zs.length cap] w λe w'=>e=.returned (.slice (some ⟨b,off,none⟩) ys.length cap)/\∃n xs,xs.length+ys.length=zs.length/\w'=grow (putRow (Value.int .i64) (Sort.ahead w n) b off (ys++xs).toArray) #[])
 (c:∀w cap,Calls P k #[.slice none 0 cap] w λe w'=>e=.returned (.slice none 0 cap)/\w'=w):DenA P k 1 (zs.map eI) (ys.map eI):=
 λm id Oa hm=>gT f hm a d c
end
section
variable {h:Hi} {k id S Oa:Nat} {p:Prop} {pre post l l' ds:List D} {o:D} {m:List Ent} {f:D->List Ent->Prop}
theorem ycA[c:Con p (DenA P k S l l')] (e:p) (hf:@Yi ⟨h⟩ (f (.own id (Oa+1)) (m.set id (.live S (Oa+1) l')))) (hm:m[id]?=some (.live S Oa l)):@Yi ⟨h⟩ (Cf P k [.own id Oa] m f):=mc (c.h e m id Oa hm) hf
theorem ycf{d d':D}{q:List D} [c:Con p (Den P k ([d']++q) o)] (e:p) (hq:oa q=true) (hf:@Yi ⟨h⟩ (f o m)) (a:Sq [] [] 9 d d'):@Yi ⟨h⟩ (Cf P k (d::q) m f):=S3 (c.h e) hq hf a
theorem ycC[c:Con p (cJ P k pre post S l o)] (e:p) (hf:@Yi ⟨h⟩ (f o (m.set id .gone))) (a:ds=pre++.own id Oa::post) (hm:m[id]?=some (.live S Oa l)):@Yi ⟨h⟩ (Cf P k ds m f):=nV (c.h e) a hm hf
theorem ycW[c:Con p (W1 P k pre post S l l' o)] (e:p) (hf:@Yi ⟨h⟩ (f o (m.set id (.live S Oa l')))) (a:ds=pre++.own id Oa::post) (hm:m[id]?=some (.live S Oa l)):@Yi ⟨h⟩ (Cf P k ds m f):=callX_W (c.h e) a hm hf
end
def St.hd(s:St):D:=s.t.headD .dead
theorem yi{c:X->List Cm} [Cmp X c] {KF:Kf P k}{S:Ed}{d2:X->D}{m2:X->List Ent}{ds:List D}{o:Option X}{r:β}
 (hS:∀z,ed (c z) S ⟨[.dead],m⟩=⟨[d2 z],m2 z⟩) (hw:KF.F.ntmps=ds.length+w)
 (ha:∀z,o=some z->True->@Yi ⟨h⟩ (T P m.length KF.F.code (EI m.length KF.F.results ⟨[d2 z],m2 z⟩) ⟨ds++Tm.ds w [],m⟩))
 (hb:Wh (∀z,g z=some r->@Yi ⟨x⟩ (f (d2 z) (m2 z)))) (e:o.bind g=some r):@Yi ⟨.i KF w S h x⟩ (Cf P k ds m f):=by
 obtain⟨z,a,h2⟩:=Ap e;exact mc (lJ KF w hw (ha z a trivial)) (hb.h z h2)
theorem gi0{KF:Kf P j}{S:Ed}{ds:List D}(g:@Yi ⟨.i KF w S h x⟩ (Cf P k ds m f)):@Yi ⟨.i KF w S h x⟩ (Cf P k ds m f):=g
structure Ck (p q:Prop):Prop where
 h:p
 k:q
instance {N:Nat}{K:Exit->St->Prop}:StbC N (yP N K):=⟨by
 intro s S h k G w a hN hr;obtain⟨b,d,h2⟩:=Vu h hN hr;obtain⟨s',c,e,f,g⟩:=k b w a h2.n d;exact⟨s',c,e,f,h2.trans g⟩⟩
def nY(r:Option (List D)) (f:D->List Ent->Prop) (m:List Ent):Prop:=∃ds,r=some ds/\f (Zq ds) m
theorem oY{ds:List D}:nY (some ds) f m=f (Zq ds) m:=by simp[nY]
@[congr] theorem endC_congr{r a:Option (List D)} {f:D->List Ent->Prop} {m:List Ent} (h:r=a):nY r f m=nY a f m:=by rw[h]
theorem yc{KF:Kf P k}{ds:List D}{o:Option X}{r:β}{q:Prop}(b:q) (hw:KF.F.ntmps=ds.length+w)
 (ha:∀z,o=some z->Ck (g z=some r) q->@Yi ⟨h⟩ (T P m.length KF.F.code (yP m.length (PD KF.F.results f)) ⟨ds++Tm.ds w [],m⟩)) (e:o.bind g=some r):@Yi ⟨.c KF w h⟩ (Cf P k ds m f):=by
 obtain⟨z,a,h2⟩:=Ap e;refine gm KF.ok KF.nm ?_;rw[hw,Oac,←sG];exact T.D4 (ha z a ⟨h2,b⟩)
theorem gc0{KF:Kf P j}{ds:List D}(g:@Yi ⟨.c KF w h⟩ (Cf P k ds m f)):@Yi ⟨.c KF w h⟩ (Cf P k ds m f):=g
theorem gv{p:Prop}(g:@Yi ⟨.v x⟩ p):@Yi ⟨.v x⟩ p:=g
theorem yvr{M:Nat}(g:@Yi ⟨x⟩ (nY (Db s rs) f s.m)):@Yi ⟨.v x⟩ (yP M (PD rs f) .ret s):=by
 obtain⟨ds,a,h2⟩:=g;exact yP.of (show PD rs f .ret s from⟨ds,a,h2⟩)
theorem yvn{M:Nat}(g:@Yi ⟨x⟩ (nY (Db s rs) f s.m)):@Yi ⟨.v x⟩ (yP M (PD rs f) .normal s):=by
 obtain⟨ds,a,h2⟩:=g;exact yP.of (show PD rs f .normal s from⟨ds,a,h2⟩)
theorem yno{p:Prop}(h:none=some r):p:=nomatch h
theorem yrr(g:@Yi ⟨h⟩ (K .ret s)):@Yi ⟨h⟩ (Tm.T P N .ret K s):=T.ret g
theorem yrI{S:St}(g:@Yi ⟨h⟩ (wQ N (Db s rs) s.m S)):@Yi ⟨h⟩ (EI N rs S .ret s):=EI_ret g
theorem ynI{S:St}(g:@Yi ⟨h⟩ (wQ N (Db s rs) s.m S)):@Yi ⟨h⟩ (EI N rs S .normal s):=EI_nor g
class FrO (d:D):Prop where
 h:va d=true
variable {d:Option Tmp}
instance {α:Type}{e:α->D} [Fr e] {x:α}:FrO (e x):=⟨Fr.h x⟩
instance {l:List D} [FrL l]:FrO (.tup l):=⟨FrL.h⟩
def dep:Nat->D->Bool
 |0,_=>false
 |k+1,.agg l=>l.all (dep k)
 |k+1,.tup l=>l.all (dep k)
 |_+1,.sl _ _=>true
 |k+1,.pt d=>dep k d
 |_+1,.v _=>true
 |_,_=>false
theorem EB(m:List Ent):∀{k:Nat}{d:D},va d=true->dep k d=true->Yf k m d=d
 |0,_,_,h=>by grind[dep]
 |k+1,.agg l,a,h2=>by
  simp only[dep,fab]at h2;simp only[va,zk]at a;simp only[Yf];congr 1;exact(Aac λd hd=>EB m (a d hd) (h2 d hd)).trans (Sae _)
 |k+1,.tup l,a,h2=>by
  simp only[dep,fab]at h2;simp only[va,zk]at a;simp only[Yf];congr 1;exact(Aac λd hd=>EB m (a d hd) (h2 d hd)).trans (Sae _)
 |_+1,.sl _ l,a,_=>by
  simp_all[va,Yf]
 |k+1,.pt d,a,h2=>by
  simp only[dep]at h2;simp only[va]at a;simp only[Yf,EB m a h2]
 |_+1,.v _,_,_=>rfl
 |k+1,.own ..,_,h=>by grind[dep]
 |k+1,.view ..,_,h=>by grind[dep]
 |k+1,.ref ..,_,h=>by grind[dep]
 |k+1,.fn ..,_,h=>by grind[dep]
 |k+1,.mp ..,_,h=>by grind[dep]
 |k+1,.ifc ..,_,h=>by grind[dep]
 |k+1,.dead,_,h=>by grind[dep]
theorem UK{id Oa:Nat}:∀{l:List D},oa l=true->l.map (RH id Oa)=l
 |[],_=>rfl
 |d::l,h=>by
  simp only[oa,Laa]at h;rw[List.map_cons,UK h.2];congr 1;have h1:=h.1;cases d<;>simp_all[RH,va]
def lX(P:Program) (k:Nat) (pre post:List D) (S:Nat) (l l':List D) (o:D):Prop:=oa pre=true/\oa post=true/\∀m id Oa,m[id]?=some (.live S Oa l)->CallT P k (pre++.ref id Oa 0 0::post) m λd m'=>d=o/\m'=m.set id (.live S Oa l')
theorem lX.of(n:Nat) (K:Kf P k) (h:T P 1 K.F.code (EI 1 K.F.results ⟨[o],[.live S 0 l']⟩) ⟨(pre++.ref 0 0 0 0::post)++Tm.ds n [],[.live S 0 l]⟩)
 (c:oa pre=true:=by exact FrL.h) (a:oa post=true:=by exact FrL.h) (hl:oa l=true:=by exact FrL.h) (ho:va o=true:=by exact FrO.h) (f:oa l'=true:=by exact FrL.h) (hd:dep 8 o=true:=by rfl) (b:l'.all (dep 8)=true:=by rfl)
 (hn:K.F.ntmps=(pre++.ref 0 0 0 0::post).length+n:=by rfl):lX P k pre post S l l' o:=by
 refine⟨c,a,λm id Oa e=>?_⟩;have h1:=lJ K n hn (m:=[.live S 0 l]) (m2:=[.live S 0 l']) (d2:=o) h;have e1:(pre++.ref id Oa 0 0::post).map (RH id Oa)=pre++.ref 0 0 0 0::post:=by
  simp_all[RH,UK]
 refine(R3 e hl (m1:=[.live S 0 l']) rfl (by rw[e1];omega)).mono ?_;rintro d m' ⟨rfl,rfl⟩;refine⟨EB _ ho hd,?_⟩;congr 2;rw[fab]at b;exact(Aac λd hd=>EB _ (zk.1 f d hd) (b d hd)).trans (Sae _)
theorem ycE{ds:List D}{p:Prop} [c:Con p (lX P k pre post S l l' o)] (e:p) (hf:@Yi ⟨h⟩ (f o (m.set id (.live S Oa l')))) (a:ds=pre++.ref id Oa 0 0::post) (hm:m[id]?=some (.live S Oa l)):@Yi ⟨h⟩ (Cf P k ds m f):=by
 subst a;exact mc ((c.h e).2.2 m id Oa hm) hf
theorem gce{k:FuncId}{ds:List D}{p:List Nat}{x:Nat}{f:D->Ent->Prop}(g:@Yi ⟨h⟩ (rH P k ds ids fp p x f s)):@Yi ⟨h⟩ (rH P k ds ids fp p x f s):=g
theorem ywE{ds:List D}{q:Prop}{p:List Nat}{x:Nat}{f:D->Ent->Prop}[c:Con q (lX P k pre post S l l' o)] (e:q) (hf:@Yi ⟨h⟩ (f o (.live S Oa l')))
 (a:ds=pre++.ref x Oa 0 0::post) (hm:s.m[x]?=some (.live S Oa l)) (hx:(ids.elem x&&BE fp ids p)=true) (hi:ids=[x]):@Yi ⟨h⟩ (rH P k ds ids fp p x f s):=by
 subst a;subst hi;have hlt:x<s.m.length:=(gab.1 hm).1;refine⟨hx,o,_,⟨λid hid=>by simp_all,λm hmm=>?_⟩,hf⟩;exact(c.h e).2.2 m x Oa (by simp_all)
theorem ydp{q:Nat}{l:List RI}(hm:P.follows .mixedOrders=true) (c:ps=kB q) (a:FD pl l=true) (b:Yw s.m pl=true) (g:@Yi ⟨h⟩ (Gi P pl ps q l (K .normal) [] s)):@Yi ⟨.g ps pl h⟩ (Tm.T P N (.draw q l) K s):=T.dp hm ps pl c a b g
def N2(m:List Ent):D->D->Prop
 |.agg a,.agg b=>QD (Lq m) a b
 |d,e=>Lq m d e
def bS(ids:List Nat) (ds:List D):Bool:=ds.all λd=>match d with|.agg a=>VH ids a|d=>VH ids [d]
theorem dW{m m':List Ent}{ids:List Nat}(hm:∀id∈ids,m'[id]?=m[id]?):∀{a b:List D},QD (N2 m) a b->bS ids a=true->Sbs [] m' a b
 |[],[],_,_=>.nil
 |d::l,e::r,h,ht=>by
  simp only[bS,List.all_cons,Laa]at ht;have i:=dW hm h.2 (by grind[bS]);have c:=h.1;have f:=ht.1;unfold N2 at c;split at c
  .exact .agg (UI hm c f) i
  .rename_i hne;have g:VH ids [d]=true:=by
    grind[VH,Ke]
   exact Sbs.app (a:=[d]) (b:=[e]) (UI hm ⟨c,trivial⟩ g) i
 |[],_::_,h,_=>h.elim
 |_::_,[],h,_=>h.elim
theorem P3{ds:List D}{R:St->Prop}(h:Den P k ds' o) (hf:R (s.put dst o)) (a:flat o=true) (hi:(ids.all λi=>decide (i<s.m.length))=true) (ht:bS ids ds=true) (b:QD (N2 s.m) ds ds'):nz P k ds ids R s dst:=by
 refine⟨o,⟨λid hid=>?_,λm hm=>?_⟩,hf⟩
 .simp_all
 .exact UD h (dW hm b ht) a ⟨rfl,rfl⟩
theorem ylw{p:Prop}{ds:List D}{R:St->Prop}[c:Con p (Den P k ds' o)] (e:p) (hf:@Yi ⟨h⟩ (R (s.put dst o))) (a:flat o=true) (hi:(ids.all λi=>decide (i<s.m.length))=true) (ht:bS ids ds=true) (b:QD (N2 s.m) ds ds'):@Yi ⟨h⟩ (nz P k ds ids R s dst):=P3 (c.h e) hf a hi ht b
section
variable {m:List Ent} {S x y lo n s:Nat} {a b:List D} {e:D}
theorem E6:N2 m (.agg a) (.agg b)=QD (Lq m) a b:=Caa rfl rfl
theorem F6:N2 m (.own x y) (.sl S b)=Lq m (.own x y) (.sl S b):=Caa rfl rfl
theorem TV:N2 m (.view x y lo n) (.sl S b)=Lq m (.view x y lo n) (.sl S b):=Caa rfl rfl
theorem G6{z:Nat}:N2 m (.ref x y z s) (.pt e)=Lq m (.ref x y z s) (.pt e):=Caa rfl rfl
theorem l2_v{z:Value}:N2 m (.v z) e=Lq m (.v z) e:=by cases e<;>rfl
theorem l2_sl{z:List D}:N2 m (.sl S z) e=Lq m (.sl S z) e:=by cases e<;>rfl
theorem l2_pt{z:D}:N2 m (.pt z) e=Lq m (.pt z) e:=by cases e<;>rfl
theorem zw:type_of% (ak (ak (ak @E6 @F6) (ak @TV @G6)) (ak (ak @l2_v @l2_sl) @l2_pt)):=ak (ak (ak @E6 @F6) (ak @TV @G6)) (ak (ak @l2_v @l2_sl) @l2_pt)
end
section
variable {P:Program}
end
def uv(m:List Ent):Xs->List (Nat×List D)->Prop
 |[],[]=>True
 |(some j,v,0)::os,(S,l)::L=>m[j]?=some (.live S v l)/\uv m os L
 |_,_=>False
def oA(L:List (Nat×List D)):List Ent:=L.map λp=>.live p.1 0 p.2
theorem sbs_nil{ρ:Xs}{a b:List D}(h:Sbs ρ [] a b):Sbs ρ m a b:=by
 induction h with
 |nil=>exact .nil
 |same hf h c=>exact .same hf c
 |dead h c=>exact .dead c
 |nils h c=>exact .nils c
 |tD i hi h c=>exact .tD i hi c
 |agg ha h d c=>exact .agg d c
 |tup ha h d c=>exact .tup d c
 |sl ha h d c=>exact .sl d c
 |own hi h c=>exact .own hi c
 |ref hi h c=>exact .ref hi c
 |view hi h c=>exact .view hi c
 |mp hi h c=>exact .mp hi c
 |Yf hm|fview hm|fref hm=>simp at hm
 |pt ha h d c=>exact .pt d c
 |fn ha hc h d e c=>exact .fn d e c
 |ifc ha h d c=>exact .ifc d c
theorem TQ{m:List Ent}:∀{ρ:Xs}{L:List (Nat×List D)},uv m ρ L->ρ.length=L.length/\∀(i S:Nat) (l:List D),L[i]?=some (S,l)->∃j v,ρ[i]?=some (some j,v,0)/\m[j]?=some (Ent.live S v l)
 |[],[],_=>by simp
 |(some j,v,0)::os,(S,l)::L,h=>by
  obtain⟨a,h2⟩:=TQ h.2;refine⟨by simp[a],λi S' l' hi=>?_⟩
  cases i with
  |zero=>
   have b:=h.1;simp only[oab,dab,Vaa]at hi;obtain⟨rfl,rfl⟩:=hi;exact⟨j,v,rfl,b⟩
  |succ i=>exact h2 i S' l' (by simpa using hi)
 |[],_::_,h=>h.elim
 |(some _,_,0)::_,[],h=>h.elim
 |(some _,_,_+1)::_,[],h=>h.elim
 |(none,_,_)::_,[],h=>by simp[uv]at h
 |(none,_,_)::_,_::_,h=>by simp[uv]at h
 |(some _,_,_+1)::_,_::_,h=>by simp[uv]at h
mutual
def mR:D->Xs
 |.own id Oa=>[(some id,Oa,0)]
 |.agg l=>jw l
 |_=>[]
def jw:List D->Xs
 |[]=>[]
 |d::l=>mR d++jw l
end
mutual
theorem wN:∀{d:D},va d=true->mR d=[]
 |.agg l,h=>by simp only[va]at h;simp only[mR,xN h]
 |.own ..,h=>by simp[va]at h
 |.v _,_|.tup _,_|.sl ..,_|.pt _,_|.ref ..,_|.view ..,_|.fn ..,_|.mp _,_|.ifc ..,_|.dead,_=>by simp[mR]
theorem xN:∀{l:List D},oa l=true->jw l=[]
 |[],_=>by simp[jw]
 |d::l,h=>by
  simp only[oa,Laa]at h;simp only[jw,wN h.1,xN h.2,List.append_nil]
end
variable {P:Program}
def NL(P:Program) (k:Nat) (a:List D) (L:List (Nat×List D)) (o:D):Prop:=
 ∀m ρ ds,QD (Sq ρ [] 9) ds a->uv m ρ L->(ρ.filterMap (·.1)).Nodup->CallT P k ds m λd m'=>d=o/\m'=m
def Lv(ρ:Xs) (m:List Ent):List Ent:=m.mapIdx λi e=>if Kw ρ i then .gone else e
theorem sF{ρ:Xs}{i:Nat}{e:Ent}(h:(Lv ρ m)[i]?=some e) (hl:e.isLive=true):m[i]?=some e/\Kw ρ i=false:=by
 unfold Lv at h;rw[nae]at h
 cases hm:m[i]? with
 |none=>simp[hm]at h
 |some x=>
  simp only[hm,Cac,dab]at h;split at h
  .subst h;cases hl
  .subst h;simp_all
theorem lR{ρ:Xs}{i:Nat}{v:Nat×Nat}(h:(ρ:List (Option Nat×Nat×Nat))[i]?=some (some j,v)):Kw ρ j=false:=by
 cases hb:Kw ρ j
 .rfl
 .exact absurd rfl (rW hb i j v h)
theorem OO{ρ:Xs}(h:Kw ρ j=false):∃(i:Nat) (v:Nat×Nat),ρ[i]?=some (some j,v):=by
 unfold Kw at h;rw[List.all_eq_false]at h;obtain⟨⟨a,v⟩,hx,h⟩:=h;obtain⟨i,hi⟩:=List.getElem?_of_mem hx
 cases a with
 |none=>simp at h
 |some k=>exact⟨i,v,by simp_all⟩
theorem B6{G:Gh}{w:World}(ρ:Xs) (hi:Inv G w m):Inv G w (Lv ρ m):=by
 refine⟨by simp[Lv,hi.n],hi.F,λi e he=>?_,λi j e e' c h2 a b=>?_,hi.gl⟩
 .by_cases hl:e.isLive=true
  .exact hi.ent i e (sF he hl).1
  .cases e with
   |gone=>trivial
   |_=>simp[Ent.isLive]at hl
 .exact hi.apart i j e e' (sF c a).1 (sF h2 b).1 a b
theorem Q3{ρ:Xs}{ds ds0:List D}(hL:uv m ρ L) (hn:(ρ.filterMap (·.1)).Nodup) (hs:Sbs ρ [] ds ds0) (hf:∀p∈L,oa p.2=true) (ho:va o=true)
 (h:CallT P k ds0 (oA L) λd m'=>d=o/\m'=oA L):CallT P k ds m λd m'=>d=o/\m'=m:=by
 refine⟨h.1,λG w vs hv hi=>?_⟩;obtain⟨hlen,hget⟩:=TQ hL;have hi1:=B6 ρ hi;have E:∀(i:Nat) o',ρ[i]?=some o'->∃j v S l,o'=(some j,v,0)/\L[i]?=some (S,l)/\m[j]?=some (Ent.live S v l):=by
  intro i o' hio;have J:i<L.length:=by rw[←hlen];exact(gab.1 hio).1
  obtain⟨j,v,a,h2⟩:=hget i L[i].1 L[i].2 (by simp[J]);exact⟨j,v,L[i].1,L[i].2,by simp_all,by simp[J],h2⟩
 have hgo:∀(i j:Nat) v,ρ[i]?=some (some j,v)->∃e:Ent,(Lv ρ m)[j]?=some e/\e.isLive=true/\(∀S R l,e=.live S R l->R=v.1):=by
  intro i j v t;obtain⟨j',R,S,l,a,h2,Y⟩:=E i _ t;simp only[Vaa,dab]at a;obtain⟨rfl,rfl⟩:=a;refine⟨.live S R l,?_,rfl,λS1 v1 l1 he=>?_⟩
  .simp only[Lv,nae,Y,Cac,lR t];rfl
  .injection he with _ h _;exact h.symm
 have hv1:=((sbs_nil (m:=Lv ρ m) hs).rel hi1 hgo).1 vs hv;have lentB:∀(i j:Nat) v,ρ[i]?=some (some j,v)->(ob G (Lv ρ m) ρ).B i=G.B j/\(ob G (Lv ρ m) ρ).S i=G.S j/\(ob G (Lv ρ m) ρ).N i=G.N j/\(ob G (Lv ρ m) ρ).C i=G.C j/\(ob G (Lv ρ m) ρ).V i=v.2:=by
  intro i j v t;simp[ob,t]
 have W:∀b,(ob G (Lv ρ m) ρ).F b↔G.F b:=by
  intro b;refine⟨?_,λh=>.inl h⟩;rintro(h|⟨⟨i,e,he,hl,U⟩,hne⟩)
  .exact h
  .obtain⟨-,K⟩:=sF he hl;obtain⟨Q,R,A⟩:=OO K;exact absurd U (hne Q i R A)
 have r:∀(i:Nat) e,(oA L)[i]?=some e->∃j v S l,ρ[i]?=some (some j,v,0)/\m[j]?=some (Ent.live S v l)/\e=.live S 0 l/\oa l=true:=by
  intro i e he;simp only[oA,List.getElem?_map,Option.map_eq_some_iff]at he;obtain⟨⟨S,l⟩,a,rfl⟩:=he;obtain⟨j,v,h2,Y⟩:=hget i S l a;exact⟨j,v,S,l,h2,Y,rfl,hf _ (Hab a)⟩
 have hsub0:SubF G w (ob G (Lv ρ m) ρ) w:=⟨λb h=>.inl h,λ_ _=>rfl⟩;have hi0:Inv (ob G (Lv ρ m) ρ) w (oA L):=by
  refine⟨by simp[ob,oA,hlen],λb hb=>hi.F b ((W b).1 hb),λi e he=>?_,λi Q e e' he q _ _ b hb g=>?_,hi.gl.bare λ_ h=>.inl h⟩
  .obtain⟨j,v,S,l,a,h2,rfl,hfl⟩:=r i e he;obtain⟨a1,a2,a3,a4,a5⟩:=hi.ent _ _ h2;obtain⟨b1,b2,b3,b4,b5⟩:=lentB _ _ _ a;refine⟨b5,by rw[b2,a2],by rw[b3,a3],by rw[b4];exact a4,?_⟩;rw[b1,b4];rcases a5 with a5|⟨b',cs,T,g,Z,H,hsz,hrw⟩
   .exact .inl a5
   .exact .inr ⟨b',cs,T,g,λh=>Z ((W _).1 h),H,hsz,Qa.free hsub0 rfl hfl hrw⟩
  .obtain⟨j,v,S,l,a,h2,rfl,-⟩:=r i e he;obtain⟨j',R,S',l',h1',h2',rfl,-⟩:=r Q e' q;rw[(lentB _ _ _ a).1]at hb;rw[(lentB _ _ _ h1').1]at g;obtain rfl:=hi.apart j j' _ _ h2 h2' rfl rfl b hb g;exact oN hn _ _ _ _ _ a h1'
 have s:∀b,Zf (ob G (Lv ρ m) ρ) (oA L) b->∃(j:Nat) (e:Ent),m[j]?=some e/\e.isLive=true/\G.B j=some b/\Kw ρ j=false:=by
  rintro b ⟨i,e,he,hl,U⟩;obtain⟨j,v,S,l,a,h2,rfl,-⟩:=r i e he;rw[(lentB _ _ _ a).1]at U;exact⟨j,_,h2,rfl,U,lR a⟩
 refine(h.2 _ w vs hv1 hi0).mono ?_;rintro e w' ⟨v,d,m',G',rfl,⟨rfl,rfl⟩,hvd,I,f⟩;have olt:∀i x,m[i]?=some x->x.isLive=true->∀b,G.B i=some b->b<w.heap.size/\¬G.F b:=λi x hx hl b hb=>(hi.ent i x hx).lt hl hb;have same:∀(i j:Nat) vv,ρ[i]?=some (some j,vv)->G'.B i=G.B j/\G'.S i=G.S j/\G'.N i=G.N j/\G'.C i=G.C j:=by
  intro i j vv t;have hi2:i<(ob G (Lv ρ m) ρ).n:=tE t;obtain⟨j',R,S,l,a,h2,Y⟩:=E i _ t;have he:(oA L)[i]?=some (.live S 0 l):=by simp[oA,h2]
  have hV:=(I.ent i _ he).1;obtain⟨b1,b2,b3,b4,b5⟩:=lentB _ _ _ t;rcases f.le.id i hi2 with⟨c1,c2,c3,c4,c5⟩|c
  .exact⟨by rw[c2,b1],by rw[c3,b2],by rw[c4,b3],by rw[c5,b4]⟩
  .rw[hV]at c;omega
 have nF:∀i x,m[i]?=some x->x.isLive=true->∀b,G.B i=some b->¬G'.F b:=by
  intro i x hx hl b hb Z;have J:=olt i x hx hl b hb;cases M:Kw ρ i
  .obtain⟨Q,vv,A⟩:=OO M;obtain⟨j',R,S,l,a,h2,Y⟩:=E Q _ A;have he:(oA L)[Q]?=some (.live S 0 l):=by simp[oA,h2]
   obtain⟨-,-,-,-,a5⟩:=I.ent Q _ he;have U:=(same _ _ _ A).1;rcases a5 with a5|⟨b',cs,T,g,hF',-⟩
   .rw[U,hb]at a5;simp at a5
   .rw[U,hb]at g;injection g with g;subst g;exact hF' Z
  .rcases f.newF b J.1 Z with a|a
   .exact J.2 ((W _).1 a)
   .obtain⟨j,e',q,z,y,u⟩:=s b a;obtain rfl:=hi.apart i j _ _ hx q hl z b hb y;rw[M]at u;cases u
 have hle:Le G w { G with F:=G'.F } w':=⟨λb hb=>f.le.F b (.inl hb),λb hb=>f.le.heap b (.inl hb),Nat.le_refl _,λi _=>.inl (by simp)⟩;have hsub:SubF G w { G with F:=G'.F } w':=⟨λb hb=>f.le.F b (.inl hb),λb hb=>f.le.heap b (.inl hb)⟩;have O:SubF G' w' { G with F:=G'.F } w':=⟨λ_ h=>h,λ_ _=>rfl⟩;refine⟨v,d,m,{ G with F:=G'.F },rfl,⟨rfl,rfl⟩,VRel.free O ho hvd,⟨hi.n,I.F,?_,hi.apart,I.gl.bare λ_ h=>h⟩,⟨hle,f.os,f.tape,f.output,f.size,?_,?_,?_⟩⟩
 .intro i x hx;by_cases X:x.isLive=true
  .cases M:Kw ρ i
   .obtain⟨Q,vv,A⟩:=OO M;obtain⟨j',R,S,l,a,h2,Y⟩:=E Q _ A;simp only[Vaa,dab]at a;obtain⟨rfl,rfl⟩:=a;rw[Y]at hx;injection hx with hx;subst hx;have he:(oA L)[Q]?=some (.live S 0 l):=by simp[oA,h2]
    obtain⟨a1,a2,a3,a4,a5⟩:=I.ent Q _ he;obtain⟨b1,b2,b3,b4⟩:=same _ _ _ A;obtain⟨e1,e2,e3,e4,-⟩:=hi.ent _ _ Y;refine⟨e1,e2,e3,e4,?_⟩;rw[b1,b4]at a5;rcases a5 with a5|⟨b',cs,T,g,hF',H,hsz,hrw⟩
    .exact .inl a5
    .exact .inr ⟨b',cs,T,g,hF',H,hsz,Qa.free O rfl (hf _ (Hab h2)) hrw⟩
   .refine(hi.ent i x hx).mono hle (by simp) (λb hb=>?_) (λb hb _ Z=>absurd Z (nF i x hx X b hb));refine f.keep b (olt i x hx X b hb).1 λK=>?_;obtain⟨j,e',q,z,y,u⟩:=s b K;obtain rfl:=hi.apart i j _ _ hx q X z b hb y;rw[M]at u;cases u
  .cases x with
   |gone=>trivial
   |_=>simp[Ent.isLive]at X
 .intro b hb hno;refine f.keep b hb λK=>?_;obtain⟨j,e',q,z,y,-⟩:=s b K;exact hno ⟨j,e',q,z,y⟩
 .intro b hb Z;rcases f.newF b hb Z with a|a
  .exact .inl ((W _).1 a)
  .obtain⟨j,e',q,z,y,-⟩:=s b a;exact .inr ⟨j,e',q,z,y⟩
 .rintro b hb ⟨i,x,hx,lx,U⟩;exact⟨i,x,hx,lx,U⟩
theorem NL.of{a:List D}(n:Nat) (K:Kf P k) (h:T P L.length K.F.code (EI L.length K.F.results ⟨[o],oA L⟩) ⟨a++Tm.ds n [],oA L⟩)
 (hf:∀p∈L,oa p.2=true) (ho:va o=true:=by exact FrO.h) (hn:K.F.ntmps=a.length+n:=by rfl):NL P k a L o:=by
 intro m ρ ds d c b;have e:(oA L).length=L.length:=by simp[oA]
 exact Q3 c b (Fy (Mx 9) d) hf ho (lJ K n hn (by rw[e];exact h))
class Con2 (p:Prop) (q:outParam Prop):Prop where
 h:p->q
variable {p q:Prop}
section
variable {h:Hi} {k S:Nat} {p:Prop} {l ds ds':List D} {L:List (Nat×List D)} {o:D} {m:List Ent} {ρ:Xs} {f:D->List Ent->Prop} {R:St->Prop} {s:St} {dst:Option Tmp} {ids:List Nat}
theorem ycO[c:Con2 p (QS P k ds' S l)] (e:p) (hf:@Yi ⟨h⟩ (f (.own m.length 0) (m++[.live S 0 l]))) (a:QD (Sq [] [] 9) ds ds'):@Yi ⟨h⟩ (Cf P k ds m f):=
 mc ⟨(c.h e m).1,λG w vs hv hi=>(c.h e m).2 G w vs ((LF (Fy (Mx 9) a)).1 vs hv) hi⟩ hf
theorem ycM[c:Con2 p (NL P k ds' L o)] (e:p) (hf:@Yi ⟨h⟩ (f o m)) (hr:jw ds=ρ) (b:QD (Sq ρ [] 9) ds ds') (a:uv m ρ L) (hn:(ρ.filterMap (·.1)).Nodup):@Yi ⟨h⟩ (Cf P k ds m f):=
 mc (c.h e m ρ ds b a hn) hf
theorem fK{m m':List Ent}:∀{ρ:Xs}{L:List (Nat×List D)},(∀j∈ρ.filterMap (·.1),m'[j]?=m[j]?)->uv m ρ L->uv m' ρ L
 |[],[],_,_=>trivial
 |(some j,v,0)::os,(S,l)::L,hm,h=>⟨(hm j (by simp)).trans h.1,fK (λi hi=>hm i (by simp_all)) h.2⟩
 |[],_::_,_,h=>h.elim
 |(some _,_,0)::_,[],_,h=>h.elim
 |(some _,_,_+1)::_,[],_,h=>h.elim
 |(none,_,_)::_,[],_,h=>by simp[uv]at h
 |(none,_,_)::_,_::_,_,h=>by simp[uv]at h
 |(some _,_,_+1)::_,_::_,_,h=>by simp[uv]at h
theorem ylM[c:Con2 p (NL P k ds' L o)] (e:p) (hf:@Yi ⟨h⟩ (R (s.put dst o))) (hr:jw ds=ρ) (d:QD (Sq ρ [] 9) ds ds') (b:uv s.m ρ L) (hn:(ρ.filterMap (·.1)).Nodup) (hi:(ids.all λi=>decide (i<s.m.length))=true) (hj:((ρ.filterMap (·.1)).all λj=>ids.elem j)=true):@Yi ⟨h⟩ (nz P k ds ids R s dst):=by
 refine⟨o,⟨λi hid=>by simp_all,λm hm=>?_⟩,hf⟩;refine c.h e m ρ ds d (fK (λj a=>hm j ?_) b) hn;simp only[fab]at hj;exact List.elem_iff.1 (hj j a)
end
section
variable {l:List D} {id Oa S:Nat} {x:Value} {os:Xs}
theorem o_nil:jw []=[]:=by simp[jw]
theorem o_own:jw (.own id Oa::l)=(some id,Oa,0)::jw l:=by simp[jw,mR]
theorem o_v:jw (.v x::l)=jw l:=by simp[jw,mR]
theorem o_fr[Fr e] {y:α}:jw (e y::l)=jw l:=by simp[jw,wN (Fr.h (e:=e) y)]
theorem o_sl[Fr e] {y:List α}:jw (.sl S (y.map e)::l)=jw l:=by simp[jw,mR]
theorem o_agg{a:List D}:jw (.agg a::l)=jw a++jw l:=by simp[jw,mR]
theorem zM:type_of% (ak (ak (ak @o_nil @o_own) (ak @o_v @o_sl)) (ak (ak @o_agg @Waa.{0}) @qab.{0})):=ak (ak (ak @o_nil @o_own) (ak @o_v @o_sl)) (ak (ak @o_agg @Waa.{0}) @qab.{0})
end
theorem lentN:uv m [] []:=trivial
theorem lentC{v:Nat}{os:Xs}(h:m[j]?=some (.live S v l)) (h2:uv m os L):uv m ((some j,v,0)::os) ((S,l)::L):=⟨h,h2⟩
def shrV(a n:Int):Int:=a.fdiv ((2 ^ (min n.toNat IntKind.i64.bits):Nat):Int)
def shrO(a n:Int):Option Int:=if n<0 then none else some (shrV a n)
def landV(a b:Int):Int:=aa .i64 (Nat.land (a % JG .i64).toNat (b % JG .i64).toNat:Nat)
theorem mV:Yh .shr .i64 a .i64 n=if n<0 then none else some (.int .i64 (shrV a n)):=by
 simp only[Yh,cond_eq_ite,decide_eq_true_eq,shrV]
theorem kV{b:Int}:Yh .and .i64 a .i64 b=some (.int .i64 (landV a b)):=by simp[Yh,mG,landV]
theorem yaa{l:List α}:(l.map e).take l.length=l.map e:=List.take_of_length_le (by simp)
theorem bT{g:Int->Option β}{z:β}(h:(shrO a n).bind g=some z):∃x,¬n<0/\shrV a n=x/\g x=some z:=by
 obtain⟨x,b,h2⟩:=Ap h;unfold shrO at b;split at b
 .cases b
 .exact⟨x,by assumption,wab b,h2⟩
theorem cast1:((1:Nat):Int)=1:=rfl
theorem zT:type_of% (ak (ak @mV @kV) (ak @yaa @cast1)):=ak (ak @mV @kV) (ak @yaa @cast1)
theorem T.nilown{P:Program}{c:C}{i:Nat}(d:s.t[i]?=some (.own id Oa)) (hm:s.m[id]?=some (.live S Oa [])) (h:T P N c K ⟨s.t.set i (.sl S []),s.m⟩):T P N c K s:=by
 intro code hc G w a hN hr;obtain⟨u,hu,hv⟩:=hr.t.getElem d;obtain⟨eV,-,eN,eC,-⟩:=hr.inv.ent id _ hm;have b:VRel G w (.sl S []) u:=by
  simp only[VRel]at hv⊢
  grind
 refine h code hc G w a hN ⟨hr.t.swap (by simp_all) (gab.1 d).1 b,hr.inv,hr.defers⟩
end Go.Tm
