/-
  The engine: a part of the proof that trees of values are carried along by the program: no condition.
-/
import Derived.Test.YtmhfebelfmgckaaGreatDoorEC
open Go renaming Program->a42
open Option renaming some->M,none->q6
open Decidable renaming decide->s5
open Go.Tm.D renaming dead->d!
open Go.Tm.Ent renaming live->k?
open And renaming intro->ak
open Bool renaming and_eq_true->E',true->a35,false->a36
open Eq renaming trans->I?
open List renaming all_eq_true->R',cons_append->G!,getD_cons_succ->Κ,getD_cons_zero->dab,getElem?_cons_succ->zab,getElem?_cons_zero->ξ,getElem?_eq_some_iff->Paa,getElem?_mapIdx->kae,map_congr_left->gac,map_id->Nae,mem_of_getElem?->uab,nil_append->N',replicate->l!
open Nat renaming add_sub_cancel_left->Jac,sub_zero->had,zero_le->M'
open Option renaming map_some->zac
open Option.some renaming inj->J!,injEq->T!
open Prod.mk renaming injEq->H?
set_option linter.all false
namespace Go.Tm
variable {k S id j N Ta:Nat}{l ds' pre post l':List D}{R:List (List Nat)->St->Prop}{d2 o:D}{rs:List RV}{s s':St}{m:List Ent}{f:D->List Ent->Prop}{fp ps:List (List Nat)}{i:List Operand}{ρ cuts ids j4 τ:List Nat}{pl:List (Option Nat)}{n a:Int}{dst:Option Tmp}{X σ:Type}{x0:σ}{K:Exit->St->Prop}{L:List (Nat×List D)}{S':σ->St}
variable {P:a42}
def PF(P:a42) (k:Nat) (ds:List D) (S:Nat) (l:List D):Prop:=∀m,CallT P k ds m λd m'=>d=.own m.length 0/\m'=m++[k? S 0 l]
theorem bn0{ds:List D}(r:oa ds=a35) (hl:oa l=a35) (h:CallT P k ds [] λd m'=>d=.own 0 0/\m'=[k? S 0 l]):PF P k ds S l:=by
 refine λm=>⟨h.1,λG w vs hv hi=>?_⟩;have A:=h.2 (Gh.bare G.F) w vs (VsRel.free (G:=G) (G':=Gh.bare G.F) ⟨λ_ h=>h,λ_ _=>rfl⟩ r hv) (iI hi.F (hi.gl.bare λ_ h=>h));refine A.mono ?_;rintro e w' ⟨v,d,m',G',rfl,⟨rfl,rfl⟩,t,g,c⟩;obtain⟨fV,fS,fN,fC,fB⟩:=g.ent 0 _ rfl;have hGn:=hi.n;have noO:∀b,¬Jg (Gh.bare G.F) [] b:=λb=>GF;have owned0:∀b,G'.B 0=M b->Jg G' [k? S 0 l] b:=λb hb=>⟨0,_,rfl,rfl,hb⟩;have newb:∀b,G'.B 0=M b->w.heap.size<=b:=λb hb=>by
  rcases Nat.lt_or_ge b w.heap.size with h|h
  .exact(noO b (c.newB b h (owned0 b hb))).elim
  omega
 have hF:∀b,b<w.heap.size->G'.F b->G.F b:=λb hb hf=>by
  rcases c.newF b hb hf with h|h
  .exact h
  simp_all
 have p:V' G' w' ⟨G'.F,G.n+1,λi=>if i=G.n then G'.B 0 else G.B i,λi=>if i=G.n then 0 else G.V i,λi=>if i=G.n then G'.S 0 else G.S i,λi=>if i=G.n then G'.N 0 else G.N i,λi=>if i=G.n then G'.C 0 else G.C i⟩ w':=⟨λ_ h=>h,λ_ _=>rfl⟩;have o:Le G w ⟨G'.F,G.n+1,λi=>if i=G.n then G'.B 0 else G.B i,λi=>if i=G.n then 0 else G.V i,λi=>if i=G.n then G'.S 0 else G.S i,λi=>if i=G.n then G'.N 0 else G.N i,λi=>if i=G.n then G'.C 0 else G.C i⟩ w':=by
  refine⟨λb hb=>c.le.F b hb,λb hb=>c.le.heap b hb,l5,λi hi=>.inl ?_⟩
  grind
 have a:∀i x,(m++[k? S 0 l])[i]?=M x->(m[i]?=M x/\i≠G.n)\/(i=G.n/\x=k? S 0 l):=by
  grind
 have z:∀i x,m[i]?=M x->x.isLive=a35->∀b,G.B i=M b->b<w.heap.size/\¬G.F b:=λi x hx hl b hb=>(hi.ent i x hx).lt hl hb;refine⟨v,_,_,⟨G'.F,G.n+1,λi=>if i=G.n then G'.B 0 else G.B i,λi=>if i=G.n then 0 else G.V i,λi=>if i=G.n then G'.S 0 else G.S i,λi=>if i=G.n then G'.N 0 else G.N i,λi=>if i=G.n then G'.C 0 else G.C i⟩,rfl,⟨rfl,rfl⟩,?_,⟨l4,g.F,?_,?_,g.gl.bare λ_ h=>h⟩,⟨o,c.os,c.tape,c.output,c.size,?_,?_,?_⟩⟩
 .simp only[VRel]at t⊢
  grind
 .intro i x hx;rcases a i x hx with⟨f,h2⟩|⟨rfl,rfl⟩
  .by_cases s:x.isLive=a35
   .refine(hi.ent i x f).mono o o0 (λb hb=>?_) (λb hb _ hf=>?_)
    .exact c.keep b (z i x f s b hb).1 (noO b)
    grind
   .cases x with
    |gone=>trivial
    |_=>grind[Ent.isLive]
  .refine⟨l5,l4,l4,l4,?_⟩;rcases fB with h|⟨b,cs,T,f,h2,q,E,H⟩
   .simp_all
   .exact .inr ⟨b,cs,T,l4,h2,q,l4,by simpa using Va.free p rfl hl H⟩
 .intro i j x y hx I u j8 b hb hb';rcases a i x hx with⟨f,h2⟩|⟨rfl,rfl⟩<;>rcases a j y I with⟨q,E⟩|⟨rfl,rfl⟩
  .exact hi.apart i j x y f q u j8 b l4 l4
  all_goals grind
 .intro b hb hno;exact c.keep b hb (noO b)
 .simp_all
 .rintro b hb ⟨i,x,hx,u,hB⟩;rcases a i x hx with⟨f,h2⟩|⟨rfl,rfl⟩
  .exact⟨i,x,f,u,l4⟩
  grind
theorem PF.den{ds:List D}(a:oa ds=a35) (hl:oa l=a35) (h:PF P k ds S l):e? P k ds (.sl S l):=by
 refine OM a ((h []).mono ?_);rintro d m' ⟨rfl,rfl⟩;exact .Ig l5 rfl (q!.free hl) .nil
theorem BU{ds:List D}{R:D->List Ent->Prop}{m2:List Ent}(h:CallT P k ds [] R) (ht:∀d m',R d m'->f' 0 ⟨[d],m'⟩ ⟨[d2],m2⟩):CallT P k ds [] λd m'=>d=d2/\m'=m2:=by
 refine⟨h.1,λG w vs hv hi=>(h.2 G w vs hv hi).mono ?_⟩;rintro e w' ⟨v,d,m',G',rfl,m,hvd,b,o⟩;have hr:p! G' w' { tmps:=#[v],defers:=[] } ⟨[d],m'⟩:=⟨by simp only[VsRel];simp_all,b,rfl⟩;obtain⟨a,c,l⟩:=Cx (ht d m' m) (M' _) hr;have g:=c.t;simp only[VsRel]at g;obtain⟨u,us,he,j,_⟩:=g;injection he with he _;subst he;have f:=(o.toN (M' _)).trans l;have i:0=G.n:=by rw[hi.n];rfl
 rw[i]at f;exact⟨_,d2,m2,a,rfl,⟨rfl,rfl⟩,j,c.inv,f.toStep⟩
def bu1(rs:List RV) (S:Nat) (l:List D) (e:Exit) (s:St):Prop:=
 match e with
 |.normal=>∃S',f' 0 s S'/\∃ds,Rb S' rs=M ds/\f' 0 ⟨[Ot ds],S'.m⟩ ⟨[.own 0 0],[k? S 0 l]⟩
 |.ret=>∃S',f' 0 s S'/\∃ds,Rb S' rs=M ds/\f' 0 ⟨[Ot ds],S'.m⟩ ⟨[.own 0 0],[k? S 0 l]⟩
 |_=>False
def aq1(r:Option (List D)) (m:List Ent) (S:Nat) (l:List D):Prop:=∃ds,r=M ds/\f' 0 ⟨[Ot ds],m⟩ ⟨[.own 0 0],[k? S 0 l]⟩
theorem Hz(h:aq1 (Rb s rs) s.m S l):bu1 rs S l .ret s:=by
 obtain⟨ds,a,h2⟩:=h;exact⟨s,.refl s,ds,a,h2⟩
theorem Kz{ds:List D}:aq1 (M ds) m S l=f' 0 ⟨[Ot ds],m⟩ ⟨[.own 0 0],[k? S 0 l]⟩:=by simp[aq1]
@[congr] theorem bn8{r a:Option (List D)} {m:List Ent} {S:Nat} {l:List D} (h:r=a):aq1 r m S l=aq1 a m S l:=by rw[h]
instance {rs:List RV}{S:Nat}{l:List D}:K? 0 (bu1 rs S l):=⟨by
 rintro s S' h ⟨S1,a,h2⟩;exact⟨S1,h.trans a,h2⟩⟩
theorem PF.at{F:Fun}{ds:List D}(n:Nat) (i:TB P k=M F) (b:((P.funcs[k]?).map λfn=>fn.name == "runtime.NumGoroutine")=M a36)
 (c:oa ds=a35) (hl:oa l=a35) (hn:F.ntmps=ds.length+n) (h:T P 0 F.code (bu1 F.results S l) ⟨ds++Tm.ds n [],[]⟩):PF P k ds S l:=by
 refine bn0 c hl (BU (R:=λd m'=>f' 0 ⟨[d],m'⟩ ⟨[.own 0 0],[k? S 0 l]⟩) (Nn i b ?_) λ_ _ h=>h);rw[hn,Jac,←xJ];refine T.clo (h.mono ?_);have key:∀(e:Exit) (s:St),(∀s',JG F.results (λd m'=>f' 0 ⟨[d],m'⟩ ⟨[.own 0 0],[k? S 0 l]⟩) e s' = ∃ds,Rb s' F.results=M ds/\f' 0 ⟨[Ot ds],s'.m⟩ ⟨[.own 0 0],[k? S 0 l]⟩)->(∃S',f' 0 s S'/\∃ds,Rb S' F.results=M ds/\f' 0 ⟨[Ot ds],S'.m⟩ ⟨[.own 0 0],[k? S 0 l]⟩)->bU 0 (JG F.results λd m'=>f' 0 ⟨[d],m'⟩ ⟨[.own 0 0],[k? S 0 l]⟩) e s:=by
  intro e s he ⟨S,g,h2⟩ G w a hN hr;obtain⟨G',h3,h4⟩:=Cx g hN hr
  grind
 intro e s f
 cases e with
 |normal=>exact key _ s (λ_=>rfl) f
 |ret=>exact key _ s (λ_=>rfl) f
 |_=>exact(f:False).elim
def cr0{ds:List D}(h:PF P k ds' S l) (hf:f (.own m.length 0) (m++[k? S 0 l])) (a:ua ds ds'):kg P k ds m f:=
 Ic (L6 a (h m)) hf
inductive Q where
 |p (n:Nat)
 |k (n:Nat)
 |s (d:D)
 |y (i:Nat)
 |g (q:List Q)
 |i (n:Nat)
 |w (n:Nat)
 |u (q:List Q)
 |x (q:List Q)
abbrev Cm:=D×List D×List (Value×D)
inductive M1 where
 |o (j:Nat)
 |O (j:Nat)
 |H (j:Nat) (q:List Q)
 |C (j:Nat) (l:List D)
 |B (j u:Nat) (l:List D)
 |c (j:Nat) (l:List D)
 |n (S:Nat) (l:List D)
 |h (j:Nat) (q:List Q)
 |m (j:Nat) (l:List (Value×D))
 |ci (j i:Nat)
 |Ci (j i:Nat)
 |Bi (j u i:Nat)
 |ni (S i:Nat)
 |mi (j i:Nat)
 |nq (S:Nat) (q:List Q)
structure Ed where
 q:List Q
 m:List M1
def qT:Nat->Nat->Q
 |0,i=>.k i
 |1,i=>.p i
 |2,i=>.i i
 |3,i=>.s (.own i 0)
 |4,i=>.y i
 |_,i=>.s (.own i 1)
def qN:List Nat->List Q
 |[]=>[]
 |n::l=>qT (n % 8) (n / 8)::qN l
def mT:Nat->Nat->M1
 |0,r=>.o r
 |1,r=>.O r
 |2,r=>.ci (r / 32) (r % 32)
 |3,r=>.Ci (r / 32) (r % 32)
 |4,r=>.ni (r / 32) (r % 32)
 |5,r=>.mi (r / 32) (r % 32)
 |_,r=>.h (r / 32) [.i (r % 32)]
def mN:List Nat->List M1
 |[]=>[]
 |n::l=>mT (n % 8) (n / 8)::mN l
def EN(q m:List Nat):Ed:=⟨qN q,mN m⟩
def tT:Nat->Nat->Option Nat×Nat×Nat
 |0,r=>(M (r % 64),r / 64,0)
 |1,r=>(q6,r,0)
 |_,r=>(M (r % 64),r / 64,1)
def tN:List Nat->List (Option Nat×Nat×Nat)
 |[]=>[]
 |n::l=>tT (n % 4) (n / 4)::tN l
def tI:Nat->List Ent->List (Option Nat×Nat×Nat)
 |_,[]=>[]
 |i,_::l=>(M i,0,0)::tI (i+1) l
inductive Hi:Type 1 where
 |o
 |b (l r:Hi)
 |z (n:Nat) (x:Hi)
 |t (ρ:List Nat)
 |a (ps:List (List Nat)) (x:Hi)
 |g (ps:List (List Nat)) (pl:List (Option Nat)) (x:Hi)
 |f (S:Ed) (ρ:List Nat) (x:Hi)
 |d (j4:List Nat) (ρ:List Nat) (x:Hi)
 |j (S:Ed) (l r:Hi)
 |e (S:Ed) (l r:Hi)
 |l (S B:Ed) (ρ:List Nat) (x y:Hi)
 |u (S:Ed) (ρ:List Nat) (x:Hi)
 |i {P:a42} {k:Nat} (K:Kf P k) (w:Nat) (S:Ed) (x y:Hi)
 |c {P:a42} {k:Nat} (K:Kf P k) (w:Nat) (x:Hi)
 |v (x:Hi)
variable {h x:Hi}
def Oh:List M1->Nat->Nat->Option (Nat×Bool)
 |[],_,_=>q6
 |.o k::l,j,i=>bif k==j then M (i,a36)else Oh l j (i+1)
 |.c k _::l,j,i=>bif k==j then M (i,a36)else Oh l j (i+1)
 |.h k _::l,j,i=>bif k==j then M (i,a36)else Oh l j (i+1)
 |.O k::l,j,i=>bif k==j then M (i,a35)else Oh l j (i+1)
 |.H k _::l,j,i=>bif k==j then M (i,a35)else Oh l j (i+1)
 |.C k _::l,j,i=>bif k==j then M (i,a35)else Oh l j (i+1)
 |.B k _ _::l,j,i=>bif k==j then M (i,a35)else Oh l j (i+1)
 |.n _ _::l,j,i=>Oh l j (i+1)
 |.m k _::l,j,i=>bif k==j then M (i,a36)else Oh l j (i+1)
 |.ci k _::l,j,i=>bif k==j then M (i,a36)else Oh l j (i+1)
 |.Ci k _::l,j,i=>bif k==j then M (i,a35)else Oh l j (i+1)
 |.Bi k _ _::l,j,i=>bif k==j then M (i,a35)else Oh l j (i+1)
 |.ni _ _::l,j,i=>Oh l j (i+1)
 |.nq _ _::l,j,i=>Oh l j (i+1)
 |.mi k _::l,j,i=>bif k==j then M (i,a36)else Oh l j (i+1)
def rnP(o:Option (Nat×Bool)) (v:Nat) (f:Nat->Nat->D):D:=match o with|some (i,b)=>f i (bif b then v else 0)|none=>d!
mutual
def Oz(ks:List M1) (m:List Ent):Nat->D->D
 |n+1,.own j v=>rfO ks m n v m[j]? (Oh ks j 0)
 |n+1,.ref j v x s=>rfR ks m n v x s m[j]? (Oh ks j 0)
 |_+1,.view j v lo k=>rnP (Oh ks j 0) v λi v=>.view i v lo k
 |_+1,.mp j=>rnP (Oh ks j 0) 0 λi _=>.mp i
 |n+1,.agg l=>.agg (JB ks m n l)
 |n+1,.tup l=>.tup (JB ks m n l)
 |n+1,.fn k a c=>.fn k (JB ks m n a) (JB ks m n c)
 |n+1,.pt d=>.pt (Oz ks m n d)
 |_,d=>d
def rfO(ks:List M1) (m:List Ent) (n v:Nat):Option Ent->Option (Nat×Bool)->D
 |_,M (i,b)=>.own i (bif b then v else 0)
 |some (k? S _ l),q6=>.sl S (JB ks m n l)
 |_,q6=>d!
def rfR(ks:List M1) (m:List Ent) (n v x s:Nat):Option Ent->Option (Nat×Bool)->D
 |_,M (i,b)=>.ref i (bif b then v else 0) x s
 |some (k? _ _ (d::_)),q6=>.pt (Oz ks m n d)
 |_,q6=>d!
def JB(ks:List M1) (m:List Ent) (n:Nat):List D->List D
 |[]=>[]
 |d::l=>Oz ks m n d::JB ks m n l
end
mutual
theorem SO(ks:List M1) (m:List Ent):∀(n:Nat) (d:D),xa d=a35->Oz ks m n d=d
 |n+1,.agg l,h=>by simp only[xa]at h;simp only[Oz,mh ks m n l h]
 |n+1,.tup l,h=>by simp only[xa]at h;simp only[Oz,mh ks m n l h]
 |n+1,.fn k a c,h=>by simp only[xa,E']at h;simp only[Oz,mh ks m n a h.1,mh ks m n c h.2]
 |n+1,.pt d,h=>by simp only[xa]at h;simp only[Oz,SO ks m n d h]
 |_,.own _ _,h=>by grind[xa]
 |_,.view _ _ _ _,h=>by grind[xa]
 |_,.ref _ _ _ _,h=>by grind[xa]
 |_,.mp _,h=>by grind[xa]
 |n,.v _,_=>by grind[Oz]
 |n,.sl _ _,_=>by grind[Oz]
 |n,.ifc _ _,_=>by grind[Oz]
 |n,d!,_=>by grind[Oz]
 |0,.agg _,_=>by simp only[Oz]
 |0,.tup _,_=>by simp only[Oz]
 |0,.fn _ _ _,_=>by simp only[Oz]
 |0,.pt _,_=>by simp only[Oz]
theorem mh(ks:List M1) (m:List Ent) (n:Nat):∀l:List D,oa l=a35->JB ks m n l=l
 |[],_=>by grind[JB]
 |d::l,h=>by simp only[oa,E']at h;simp only[JB,SO ks m n d h.1,mh ks m n l h.2]
end
def AV:List D->List D
 |[]=>[]
 |_::l=>d!::AV l
def gC(c:List Cm) (n:Nat):Cm:=c.getD n (d!,[],[])
def U64:D->D
 |.v (.int _ n)=>.v (.int .u64 n)
 |d=>d
mutual
def qD(c:List Cm):Q->D
 |.i n=>(gC c n).1
 |.w n=>U64 (gC c n).1
 |.s d=>d
 |.u l=>.tup (yX c l)
 |.x l=>.agg (yX c l)
 |_=>d!
def yX(c:List Cm):List Q->List D
 |[]=>[]
 |x::l=>qD c x::yX c l
end
def gx(c:List Cm) (ks:List M1) (m:List Ent) (u:List D):List Q->List D->List D
 |[],l=>AV l
 |_::_,[]=>[]
 |.p 0::q,l=>gx c ks m u q l
 |.p (n+1)::q,d::l=>Oz ks m 9 d::gx c ks m u (.p n::q) l
 |.k 0::q,l=>gx c ks m u q l
 |.k (n+1)::q,d::l=>d!::gx c ks m u (.k n::q) l
 |.s e::q,d::l=>e::gx c ks m u q l
 |.y i::q,_::l=>Oz ks m 9 (u.getD i d!)::gx c ks m u q l
 |.i n::q,_::l=>(gC c n).1::gx c ks m u q l
 |.w n::q,_::l=>U64 (gC c n).1::gx c ks m u q l
 |.u r::q,_::l=>.tup (yX c r)::gx c ks m u q l
 |.x r::q,_::l=>.agg (yX c r)::gx c ks m u q l
 |.g r::q,.agg b::l=>.agg (gx c ks m u r b)::gx c ks m u q l
 |.g _::q,d::l=>d::gx c ks m u q l
def eO(ks:List M1) (m:List Ent):Option Ent->Ent
 |some (k? S v l)=>k? S 0 (JB ks m 9 l)
 |some e=>e
 |none=>.gone
def eX(b:List D):Option Ent->Ent
 |some (k? S v _)=>k? S v b
 |some e=>e
 |none=>.gone
def eV(ks:List M1) (m:List Ent):Option Ent->Ent
 |some (k? S v l)=>k? S v (JB ks m 9 l)
 |some e=>e
 |none=>.gone
def eW(c:List Cm) (ks:List M1) (m:List Ent) (q:List Q):Option Ent->Ent
 |some (k? S v l)=>k? S v (gx c ks m [] q l)
 |some e=>e
 |none=>.gone
def eC(b:List D):Option Ent->Ent
 |some (k? S v _)=>k? S 0 b
 |some e=>e
 |none=>.gone
def eH(c:List Cm) (ks:List M1) (m:List Ent) (q:List Q):Option Ent->Ent
 |some (k? S v l)=>k? S 0 (gx c ks m [] q l)
 |some e=>e
 |none=>.gone
def eB(u:Nat) (b:List D):Option Ent->Ent
 |some (k? S _ _)=>k? S u b
 |some e=>e
 |none=>.gone
def aV(c:List Cm) (ks:List M1) (m:List Ent):M1->Ent
 |.o j=>eO ks m m[j]?
 |.c j l=>eC l m[j]?
 |.n S l=>k? S 0 l
 |.h j q=>eH c ks m q m[j]?
 |.O j=>eV ks m m[j]?
 |.C j l=>eX l m[j]?
 |.B j u l=>eB u l m[j]?
 |.H j q=>eW c ks m q m[j]?
 |.m _ l=>.mp l
 |.ci j i=>eC (gC c i).2.1 m[j]?
 |.ni S i=>k? S 0 (gC c i).2.1
 |.Ci j i=>eX (gC c i).2.1 m[j]?
 |.Bi j u i=>eB u (gC c i).2.1 m[j]?
 |.mi _ i=>.mp (gC c i).2.2
 |.nq S q=>k? S 0 (yX c q)
def edM(c:List Cm) (ks:List M1) (m:List Ent):List M1->List Ent
 |[]=>[]
 |x::l=>aV c ks m x::edM c ks m l
def eFz(ks:List M1) (m:List Ent):Option Ent->Ent
 |some (k? S _ l)=>k? S 0 (JB ks m 9 l)
 |some e=>e
 |none=>.gone
def eGz(ks:List M1) (m:List Ent):Option Ent->Ent
 |some (k? S v l)=>k? S v (JB ks m 9 l)
 |some e=>e
 |none=>.gone
def edF(ks:List M1) (m:List Ent):List M1->List Ent
 |[]=>[]
 |.o j::l=>eFz ks m m[j]?::edF ks m l
 |.O j::l=>eGz ks m m[j]?::edF ks m l
 |_::l=>edF ks m l
def fd(ks:List M1) (s:St):St:=⟨JB ks s.m 9 s.t,edF ks s.m ks⟩
def ed(c:List Cm) (E:Ed) (s:St):St:=⟨gx c E.m s.m s.t E.q s.t,edM c E.m s.m E.m⟩
section
variable {cs:List Cm} {ks l:List M1} {i j k n S:Nat} {d e:D} {b c u:List D} {q:List Q} {t:List D} {m r:List Ent} {f:Nat->Nat->D} {x:M1} {v lo y:Nat} {a:Ent}
def cz0:ed cs ⟨q,ks⟩ ⟨t,m⟩=⟨gx cs ks m t q t,edM cs ks m ks⟩:=d?
def aX3:Oh [] j i=q6:=d?
def aX2:Oh (.o k::l) j i=bif k==j then M (i,a36)else Oh l j (i+1):=d?
def aW8:Oh (.O k::l) j i=bif k==j then M (i,a35)else Oh l j (i+1):=d?
def aW7:Oh (.H k q::l) j i=bif k==j then M (i,a35)else Oh l j (i+1):=d?
def aW6:Oh (.C k b::l) j i=bif k==j then M (i,a35)else Oh l j (i+1):=d?
def aX1:Oh (.c k b::l) j i=bif k==j then M (i,a36)else Oh l j (i+1):=d?
def aX0:Oh (.h k q::l) j i=bif k==j then M (i,a36)else Oh l j (i+1):=d?
def aW9:Oh (.n S b::l) j i=Oh l j (i+1):=d?
def aW5{a:List (Value×D)}:Oh (.m k a::l) j i=bif k==j then M (i,a36)else Oh l j (i+1):=d?
def cz2{a:List (Value×D)}:aV cs ks m (.m j a)=.mp a:=d?
def cy2{a:List (Value×D)}:eO ks m (M (.mp a))=.mp a:=d?
def cu7{a:List (Value×D)}:eFz ks m (M (.mp a))=.mp a:=d?
def cm9:rnP (M (i,a35)) v f=f i v:=d?
def cm8:rnP (M (i,a36)) v f=f i 0:=d?
def cn0:rnP q6 v f=d!:=d?
def cz9:aV cs ks m (.o j)=eO ks m m[j]?:=d?
def cy8:eO ks m (M (k? S v b))=k? S 0 (JB ks m 9 b):=d?
def cy7:eC c (M (k? S v b))=k? S 0 c:=d?
def cy6:eH cs ks m q (M (k? S v b))=k? S 0 (gx cs ks m [] q b):=d?
def cz8:aV cs ks m (.c j c)=eC c m[j]?:=d?
def cz7:aV cs ks m (.n S b)=k? S 0 b:=d?
def cz5:aV cs ks m (.O j)=eV ks m m[j]?:=d?
def cz4:aV cs ks m (.H j q)=eW cs ks m q m[j]?:=d?
def cy5:eV ks m (M (k? S v b))=k? S v (JB ks m 9 b):=d?
def cy4:eW cs ks m q (M (k? S v b))=k? S v (gx cs ks m [] q b):=d?
def cn9:Oh (.B k v b::l) j i=bif k==j then M (i,a35)else Oh l j (i+1):=d?
def cz1:aV cs ks m (.B j v c)=eB v c m[j]?:=d?
def cy1:eB k c (M (k? S v b))=k? S k c:=d?
def cz3:aV cs ks m (.C j c)=eX c m[j]?:=d?
def cy3:eX c (M (k? S v b))=k? S v c:=d?
def cz6:aV cs ks m (.h j q)=eH cs ks m q m[j]?:=d?
def cw8:edM cs ks m []=[]:=d?
def cw7:edM cs ks m (x::l)=aV cs ks m x::edM cs ks m l:=d?
def cx0:AV []=[]:=d?
def cw9:AV (d::b)=d!::AV b:=d?
theorem cw6:gx cs ks m u [] b=AV b:=by grind[gx]
theorem cw5:gx cs ks m u (.p 0::q) b=gx cs ks m u q b:=by cases b<;>cases q<;>simp only[gx,AV]
theorem cw4:gx cs ks m u (.p (n+1)::q) (d::b)=Oz ks m 9 d::gx cs ks m u (.p n::q) b:=by grind[gx]
theorem cw3:gx cs ks m u (.k 0::q) b=gx cs ks m u q b:=by cases b<;>cases q<;>simp only[gx,AV]
theorem cw2:gx cs ks m u (.k (n+1)::q) (d::b)=d!::gx cs ks m u (.k n::q) b:=by grind[gx]
theorem cw1:gx cs ks m u (.s e::q) (d::b)=e::gx cs ks m u q b:=by grind[gx]
theorem cw0{g:List Q}:gx cs ks m u (.g g::q) (.agg c::b)=.agg (gx cs ks m u g c)::gx cs ks m u q b:=by grind[gx]
theorem cv9{i:Nat}:gx cs ks m u (.y i::q) (d::b)=Oz ks m 9 (u.getD i d!)::gx cs ks m u q b:=by grind[gx]
theorem cy9{a b:List Nat}:EN a b=⟨qN a,mN b⟩:=d?
def cn8:qN []=[]:=d?
def cn7{a:List Nat}:qN (n::a)=qT (n % 8) (n / 8)::qN a:=d?
def cn6:qT 0 i=.k i:=d?
def cn5:qT 1 i=.p i:=d?
def cn4:qT 2 i=.i i:=d?
def cn3:qT 3 i=.s (.own i 0):=d?
def cn2:qT 4 i=.y i:=d?
def cn1:qT 5 i=.s (.own i 1):=d?
def aY2:mN []=[]:=d?
def aY1{a:List Nat}:mN (n::a)=mT (n % 8) (n / 8)::mN a:=d?
def aY0:mT 0 i=.o i:=d?
def aX9:mT 1 i=.O i:=d?
def aX8:mT 2 i=.ci (i / 32) (i % 32):=d?
def aX7:mT 3 i=.Ci (i / 32) (i % 32):=d?
def aX6:mT 4 i=.ni (i / 32) (i % 32):=d?
def aX5:mT 5 i=.mi (i / 32) (i % 32):=d?
def aX4:mT 6 i=.h (i / 32) [.i (i % 32)]:=d?
def cm5:tN []=[]:=d?
def cm4{a:List Nat}:tN (n::a)=tT (n % 4) (n / 4)::tN a:=d?
def cm3:tT 0 i=(M (i % 64),i / 64,0):=d?
def cm2:tT 1 i=(q6,i,0):=d?
def cm1:tT 2 i=(M (i % 64),i / 64,1):=d?
def cm7:tI i []=[]:=d?
def cm6:tI i (a::r)=(M i,0,0)::tI (i+1) r:=d?
def cx9{x:Cm}{l:List Cm}:gC (x::l) 0=x:=d?
def cx8{x:Cm}{l:List Cm}:gC (x::l) (n+1)=gC l n:=d?
def co4:Oh (.ci k n::l) j i=bif k==j then M (i,a36)else Oh l j (i+1):=d?
def co3:Oh (.Ci k n::l) j i=bif k==j then M (i,a35)else Oh l j (i+1):=d?
def co2:Oh (.Bi k v n::l) j i=bif k==j then M (i,a35)else Oh l j (i+1):=d?
def co1:Oh (.ni k n::l) j i=Oh l j (i+1):=d?
def co0:Oh (.mi k n::l) j i=bif k==j then M (i,a36)else Oh l j (i+1):=d?
def cx7:aV cs ks m (.ci j n)=eC (gC cs n).2.1 m[j]?:=d?
def cx6:aV cs ks m (.Ci j n)=eX (gC cs n).2.1 m[j]?:=d?
def cx5:aV cs ks m (.Bi j v n)=eB v (gC cs n).2.1 m[j]?:=d?
def cx4:aV cs ks m (.ni S n)=k? S 0 (gC cs n).2.1:=d?
def cx2:Oh (.nq k q::l) j i=Oh l j (i+1):=d?
def cx1:aV cs ks m (.nq S q)=k? S 0 (yX cs q):=d?
def cx3:aV cs ks m (.mi j n)=.mp (gC cs n).2.2:=d?
theorem cv8{i:Nat}:gx cs ks m u (.i i::q) (d::b)=(gC cs i).1::gx cs ks m u q b:=by grind[gx]
theorem cv7{i:Nat}:gx cs ks m u (.w i::q) (d::b)=U64 (gC cs i).1::gx cs ks m u q b:=by grind[gx]
theorem cv6{r:List Q}:gx cs ks m u (.u r::q) (d::b)=.tup (yX cs r)::gx cs ks m u q b:=by grind[gx]
theorem cv5{r:List Q}:gx cs ks m u (.x r::q) (d::b)=.agg (yX cs r)::gx cs ks m u q b:=by grind[gx]
theorem cA6{i:Nat}:qD cs (.i i)=(gC cs i).1:=by simp only[qD]
theorem cA5{i:Nat}:qD cs (.w i)=U64 (gC cs i).1:=by simp only[qD]
theorem cA4:qD cs (.s d)=d:=by simp only[qD]
theorem cA3:qD cs (.u q)=.tup (yX cs q):=by simp only[qD]
theorem cA2:qD cs (.x q)=.agg (yX cs q):=by simp only[qD]
theorem cA1:yX cs []=[]:=by simp only[yX]
theorem cA0{x:Q}:yX cs (x::q)=qD cs x::yX cs q:=by simp only[yX]
theorem SC{k:IntKind}{n:Int}:U64 (.v (.int k n))=.v (.int .u64 n):=d?
def cu5:fd ks ⟨t,m⟩=⟨JB ks m 9 t,edF ks m ks⟩:=d?
theorem aV7:Oz ks m (n+1) (.own j v)=rfO ks m n v m[j]? (Oh ks j 0):=by grind[Oz]
theorem aV6:Oz ks m (n+1) (.ref j v y k)=rfR ks m n v y k m[j]? (Oh ks j 0):=by grind[Oz]
theorem ao7:Oz ks m (n+1) (.view j v lo k)=rnP (Oh ks j 0) v λi v=>.view i v lo k:=by grind[Oz]
theorem ci5:Oz ks m (n+1) (.mp j)=rnP (Oh ks j 0) 0 λi _=>.mp i:=by grind[Oz]
theorem aW0:Oz ks m (n+1) (.agg b)=.agg (JB ks m n b):=by grind[Oz]
theorem aV5:Oz ks m (n+1) (.tup b)=.tup (JB ks m n b):=by grind[Oz]
theorem cj2:Oz ks m (n+1) (.fn k b c)=.fn k (JB ks m n b) (JB ks m n c):=by grind[Oz]
theorem ch9:Oz ks m (n+1) (.pt d)=.pt (Oz ks m n d):=by grind[Oz]
theorem g_v{x:Value}:Oz ks m n (.v x)=.v x:=by grind[Oz]
theorem ch5:Oz ks m n (.sl S b)=.sl S b:=by grind[Oz]
theorem aV8:Oz ks m n (.ifc S d)=.ifc S d:=by grind[Oz]
theorem ap0:Oz ks m n d!=d!:=by grind[Oz]
theorem cj1{α:Type}{e:α->D} [Fr e] {x:α}:Oz ks m n (e x)=e x:=SO ks m n _ (Fr.h x)
theorem cj0:JB ks m n []=[]:=by grind[JB]
theorem ci9:JB ks m n (d::b)=Oz ks m n d::JB ks m n b:=by grind[JB]
theorem ci7{α:Type}{e:α->D} [Fr e] {x:List α}:JB ks m n (x.map e)=x.map e:=mh ks m n _ (Fr.l x)
theorem ci3{o:Option Ent}:rfO ks m n v o (M (i,a36))=.own i 0:=by simp_all[rfO]
theorem ci2{o:Option Ent}:rfO ks m n v o (M (i,a35))=.own i v:=by simp_all[rfO]
theorem ci1:rfO ks m n v (M (k? S k b)) q6=.sl S (JB ks m n b):=by grind[rfO]
theorem ci0:rfO ks m n v (M .gone) q6=d!:=by simp[rfO]
theorem cy0{a:List (Value×D)}:eV ks m (M (.mp a))=.mp a:=d?
def cu6{a:List (Value×D)}:eGz ks m (M (.mp a))=.mp a:=d?
theorem ch8{o:Option Ent}:rfR ks m n v y k o (M (i,a36))=.ref i 0 y k:=by simp_all[rfR]
theorem ch7{o:Option Ent}:rfR ks m n v y k o (M (i,a35))=.ref i v y k:=by simp_all[rfR]
theorem ch6:rfR ks m n v y k (M (k? S j (d::b))) q6=.pt (Oz ks m n d):=by grind[rfR]
theorem cu9:eFz ks m (M (k? S v b))=k? S 0 (JB ks m 9 b):=d?
def cu8:eGz ks m (M (k? S v b))=k? S v (JB ks m 9 b):=d?
def cu4:edF ks m []=[]:=d?
def cu3:edF ks m (.o j::l)=eFz ks m m[j]?::edF ks m l:=d?
def cu2:edF ks m (.O j::l)=eGz ks m m[j]?::edF ks m l:=d?
def co6{α:Type}{x y:α}:(bif a35 then x else y)=x:=d?
def co5{α:Type}{x y:α}:(bif a36 then x else y)=y:=d?
end
def zl0:type_of% @ξ.{0}:=@ξ.{0}
def zl1:type_of% @zab.{0}:=@zab.{0}
def zl2:type_of% @Κ.{0}:=@Κ.{0}
def zl3:type_of% @dab.{0}:=@dab.{0}
def zf:=(ak (ak (ak (ak (ak @cu5 (ak @aV7 @aV6)) (ak (ak @ao7 @ci5) (ak @aW0 @aV5))) (ak (ak (ak @cj2 @ch9) (ak @g_v @ch5)) (ak (ak @aV8 @ap0) (ak @cj1 @cj0)))) (ak (ak (ak @ci9 (ak @ci7 @ci3)) (ak (ak @ci2 @ci1) (ak @ci0 @ch8))) (ak (ak (ak @ch7 @ch6) (ak @cu9 @cu8)) (ak (ak @cu6 @cu4) (ak @cu3 @aW5))))) (ak (ak (ak (ak @cu7 (ak @cu2 @aX3)) (ak (ak @aX2 @aX1) (ak @aX0 @aW9))) (ak (ak (ak @aW8 @aW7) (ak @aW6 @cm9)) (ak (ak @cm8 @cn0) (ak @co6 @co5)))) (ak (ak (ak (ak @zl0 @zl1) (ak @aY2 @aY1)) (ak (ak @aY0 @aX9) (ak @aX8 @aX7))) (ak (ak (ak @aX6 @aX5) (ak @aX4 @co4)) (ak (ak @co3 @co2) (ak @co1 @co0))))))
def zd:=(ak (ak @cx2 @cx1) (ak (ak (ak (ak @cv7 @cv6) (ak @cv5 (ak @cA6 @cA5))) (ak (ak @cA4 (ak @cA3 @cA2)) (ak @cA1 (ak @cA0 @SC)))) (ak (ak (ak (ak (ak (ak @cz0 (ak @aX3 @aX2)) (ak @aX1 (ak @aX0 @aW9))) (ak (ak @aW8 (ak @aW7 @aW6)) (ak (ak @cm9 @cm8) (ak @cn0 @cz9)))) (ak (ak (ak @cz8 (ak @cz7 @cz6)) (ak @cz5 (ak @cz4 @cz3))) (ak (ak @cn9 (ak @cz1 @cy1)) (ak (ak @cy8 @cy7) (ak @cy6 @cy5))))) (ak (ak (ak (ak @cy0 (ak @cy4 @cy3)) (ak @aW5 (ak @cz2 @cy2))) (ak (ak @cw8 (ak @cw7 @cx0)) (ak (ak @cw9 @cw6) (ak @cw5 @cw4)))) (ak (ak (ak @cw3 (ak @cw2 @cw1)) (ak @cw0 (ak @cv9 @aV7))) (ak (ak @aV6 (ak @ao7 @ci5)) (ak (ak @aW0 @aV5) (ak @cj2 @ch9)))))) (ak (ak (ak (ak (ak @g_v (ak @ch5 @aV8)) (ak @ap0 (ak @cj1 @cj0))) (ak (ak @ci9 (ak @ci7 @ci3)) (ak (ak @ci2 @ci1) (ak @ci0 @ch8)))) (ak (ak (ak @ch7 (ak @ch6 @zl2)) (ak @zl3 (ak @co6 @co5))) (ak (ak @zl0 (ak @zl1 @cy9)) (ak (ak @cn8 @cn7) (ak @cn6 @cn5))))) (ak (ak (ak (ak @cn4 (ak @cn3 @cn2)) (ak @cn1 (ak @aY2 @aY1))) (ak (ak @aY0 (ak @aX9 @aX8)) (ak (ak @aX7 @aX6) (ak @aX5 @aX4)))) (ak (ak (ak @cx9 (ak @cx8 @co4)) (ak @co3 (ak @co2 @co1))) (ak (ak @co0 (ak @cx7 @cx6)) (ak (ak @cx5 @cx4) (ak @cx3 @cv8)))))))))
def zt:=(ak (ak @cm5 (ak @cm4 @cm3)) (ak (ak @cm2 @cm1) (ak @cm7 @cm6)))
class HiC:Type 1 where
 h:Hi
def Yi[i:HiC] (p:Prop):Prop:=p
structure Wh (p:Prop):Prop where
 h:p
structure Lh (p:Prop):Prop where
 h:p
def EQ(p:Prop):Prop:=p
def EQ.out{p:Prop}(h:EQ p):p:=h
structure Lk {α β:Type}(c:α->β) (z:β) (w:α) (p:Prop):Prop where
 l:∀v,z=c v->v=w
 k:p
variable {β:Type}{w:Nat}{g:X->Option β}{c:σ->List Cm}
def cN{p:Prop}(h:¬p):¬p:=h
class o! (p:Prop) (q:outParam Prop):Prop where
 h:p->q
class f? (α:Type) (e:outParam (α->D)):Prop where
 h:∀x,xa (e x)=a35
instance {α:Type}{e:α->D} [i:f? α e]:Fr e:=⟨i.h⟩
theorem IB{α:Type}{e p:α->D}(h:∀x,e x=p x) (g:∀x,xa (p x)=a35:=by intro x;simp only[xa,oa,Fr.l,Bool.and_self,Bool.and_true]) (x:α):xa (e x)=a35:=by rw[h];exact g x
class Cm1 (α:Type) (e:outParam (α->Cm)):Prop where
 h:True
class Cmp (α:Type) (e:outParam (α->List Cm)):Prop where
 h:True
section
variable {α β:Type}
instance {e:α->D} [f? α e]:Cm1 α λx=>(e x,[],[]):=⟨trivial⟩
instance {e:α->D} [f? α e]:Cm1 (List (Int×α)) λx=>(d!,[],em e x):=⟨trivial⟩
instance {e:α->D} [f? α e]:Cm1 (List α) λx=>(d!,x.map e,[]):=⟨trivial⟩
instance {e:α->D}{f:List α->D} [f? α e] [f? (List α) f]:Cm1 (List α) λx=>(f x,x.map e,[]):=⟨trivial⟩
instance {e:α->Cm} [Cm1 α e]:Cmp α λx=>[e x]:=⟨trivial⟩
instance {e:α->Cm}{f:β->List Cm} [Cm1 α e] [Cmp β f]:Cmp (α×β) λx=>e x.1::f x.2:=⟨trivial⟩
instance:Cmp Unit λ_=>[]:=⟨trivial⟩
instance:Cmp Empty λ_=>[]:=⟨trivial⟩
end
class A! (α:Type) (e:outParam (α->D)):Prop where
 h:True
class aT0 (α:Type) (e:outParam (α->List D)):Prop where
 h:True
variable {α:Type}{e:α->D}{A B:Option α}{r:α}
section
variable {α β:Type}
instance {e:α->D} [f? α e]:aT0 α λx=>[e x]:=⟨trivial⟩
instance {e:α->D}{f:β->List D} [f? α e] [aT0 β f]:aT0 (α×β) λx=>e x.1::f x.2:=⟨trivial⟩
instance {e:α->D} [f? α e]:A! α e:=⟨trivial⟩
instance {e:α->D}{f:β->List D} [f? α e] [aT0 β f]:A! (α×β) λx=>.tup (e x.1::f x.2):=⟨trivial⟩
instance:A! Unit λ_=>.tup []:=⟨trivial⟩
end
section
variable {P:a42} {N:Nat} {h x:Hi} {a b:C} {K:Exit->St->Prop} {s:St}
def gj{S:Ed}(g:@Yi ⟨.j S h x⟩ (Tm.T P N (.seq a b) K s)):@Yi ⟨.j S h x⟩ (Tm.T P N (.seq a b) K s):=g
def ge{S:Ed}(g:@Yi ⟨.e S h x⟩ (Tm.T P N (.seq a b) K s)):@Yi ⟨.e S h x⟩ (Tm.T P N (.seq a b) K s):=g
def gq{p:Prop}{a b:St->Prop}{s1 s2:St}(g:@Yi ⟨h⟩ (gP p (a s1) (b s2))):@Yi ⟨h⟩ (gQ p a s1 b s2):=g
def gy1{p:List Nat}{d:Option Tmp}{i:I}(g:@Yi ⟨h⟩ (Q8 R fp p d i s)):@Yi ⟨h⟩ (Q8 R fp p d i s):=g
def gy2{p:List Nat}{d:Option Tmp}{i:I}(g:@Yi ⟨h⟩ (skY R fp p d i s)):@Yi ⟨h⟩ (skY R fp p d i s):=g
def gy3{p:List Nat}{k:FuncId}{d:Option Tmp}(g:@Yi ⟨h⟩ (clY P R fp p k d i s)):@Yi ⟨h⟩ (clY P R fp p k d i s):=g
def gy4{p:List Nat}{d:Option Tmp}(g:@Yi ⟨h⟩ (cnY R fp p d i s)):@Yi ⟨h⟩ (cnY R fp p d i s):=g
def gy5{q:Nat}{l:List RI}{R:St->Prop}(g:@Yi ⟨h⟩ (qB P ps q l R fp s)):@Yi ⟨h⟩ (qB P ps q l R fp s):=g
def gg{p A B:Prop}(g:@Yi ⟨h⟩ (gP p A B)):@Yi ⟨h⟩ (gP p A B):=g
def gcd{c:Operand}(g:@Yi ⟨h⟩ (Tm.T P N (.cond c a b) K s)):@Yi ⟨h⟩ (Tm.T P N (.cond c a b) K s):=g
def gcx{ds:List D}(g:@Yi ⟨h⟩ (kg P k ds m f)):@Yi ⟨h⟩ (kg P k ds m f):=g
def gcl{ds:List D}{i:List Nat}{R:St->Prop}{d:Option Tmp}(g:@Yi ⟨h⟩ (RB P k ds i R s d)):@Yi ⟨h⟩ (RB P k ds i R s d):=g
def gl{S B:Ed}{y:Hi}(g:@Yi ⟨.l S B ρ x y⟩ (Tm.T P N (.block id (.loop a)) K s)):@Yi ⟨.l S B ρ x y⟩ (Tm.T P N (.block id (.loop a)) K s):=g
def gu{S:Ed}(g:@Yi ⟨.u S ρ x⟩ (Tm.T P N (.block id (.loop a)) K s)):@Yi ⟨.u S ρ x⟩ (Tm.T P N (.block id (.loop a)) K s):=g
def gf{E:Ed}{q:Prop}(g:@Yi ⟨.f E ρ x⟩ q):@Yi ⟨.f E ρ x⟩ q:=g
def ga{q:Prop}(g:@Yi ⟨.a ps x⟩ q):@Yi ⟨.a ps x⟩ q:=g
def gao{q:Prop}(g:@Yi ⟨.g ps pl x⟩ q):@Yi ⟨.g ps pl x⟩ q:=g
def yss(g:@Yi ⟨h⟩ (Tm.T P N a (KS P N b K) s)):@Yi ⟨h⟩ (Tm.T P N (.seq a b) K s):=T.No g
def yz{n:Nat}(g:@Yi ⟨.z n h⟩ (Tm.T P N a (KS P N b K) s)):@Yi ⟨.z (n+1) h⟩ (Tm.T P N (.seq a b) K s):=T.No g
def yz0{p:Prop}(g:@Yi ⟨h⟩ p):@Yi ⟨.z 0 h⟩ p:=g
def yrg{l:List RI}(g:@Yi ⟨h⟩ (Rj P l (K .normal) s)):@Yi ⟨h⟩ (Tm.T P N (.sT l) K s):=T.rg g
def ydy{q:Nat}{l:List RI}(hm:P.follows .mixedOrders=a35) (g:@Yi ⟨h⟩ (qB P [] q l (K .normal) [] s)):@Yi ⟨h⟩ (Tm.T P N (.draw q l) K s):=T.dy hm g
def yay{q:Nat}{l:List RI}{bs:List (List Nat)}(hm:P.follows .mixedOrders=a35) (b:SA bs l q ps []=a35) (g:@Yi ⟨h⟩ (qB P ps q l (K .normal) [] s)):@Yi ⟨.a ps h⟩ (Tm.T P N (.any cuts q bs l) K s):=T.ay hm ps b g
def yao{q:Nat}{l:List RI}{bs:List (List Nat)}(hm:P.follows .mixedOrders=a35) (a:SA bs l q ps pl=a35) (b:Nz s.m pl=a35) (g:@Yi ⟨h⟩ (Gj P pl ps q l (K .normal) [] s)):@Yi ⟨.g ps pl h⟩ (Tm.T P N (.any cuts q bs l) K s):=T.ao hm ps pl a b g
def ysk(g:@Yi ⟨h⟩ (K .normal s)):@Yi ⟨h⟩ (Tm.T P N .skip K s):=T.skip g
def yxt(g:@Yi ⟨h⟩ (K (.exit id) s)):@Yi ⟨h⟩ (Tm.T P N (.exit id) K s):=T.exit g
def ybk(g:@Yi ⟨h⟩ (Tm.T P N a (KB id K) s)):@Yi ⟨h⟩ (Tm.T P N (.block id a) K s):=T.bk g
def ycd{c:Operand}{t:Bool}(ht:s.ev c=.v (.bool t)) (g:@Yi ⟨h⟩ (gP (t=a35) (Tm.T P N a K s) (Tm.T P N b K s))):@Yi ⟨h⟩ (Tm.T P N (.cond c a b) K s):=T.cd ht g
theorem ygi{p q c d:Prop} [Decidable q] (f:q->A=M r->@Yi ⟨h⟩ c) (h2:¬q->B=M r->@Yi ⟨x⟩ d) (a:p=q:=by rfl) (e:(if q then A else B)=M r):@Yi ⟨.b h x⟩ (gP p c d):=gP.ite e (iff_of_eq a) f h2
theorem ygo{p q b c:Prop} [Decidable q] (d:q->A=M r->@Yi ⟨h⟩ b) (h2:¬q->B=M r->@Yi ⟨h⟩ c) (a:p=q:=by rfl) (e:(if q then A else B)=M r):@Yi ⟨h⟩ (gP p b c):=gP.ite e (iff_of_eq a) d h2
def ygc{p q c d:Prop} [Decidable q] (f:q->A=M r->@Yi ⟨h⟩ c) (h2:¬q->B=M r->@Yi ⟨x⟩ d) (a:p↔q) (e:(if q then A else B)=M r):@Yi ⟨.b h x⟩ (gP p c d):=gP.ite e a f h2
def cr2{p q b c:Prop} [Decidable q] (d:q->A=M r->@Yi ⟨h⟩ b) (h2:¬q->B=M r->@Yi ⟨h⟩ c) (a:p↔q) (e:(if q then A else B)=M r):@Yi ⟨h⟩ (gP p b c):=gP.ite e a d h2
def ycq{p:Prop}{ds:List D}[c:o! p (e? P k ds' o)] (e:p) (hf:@Yi ⟨h⟩ (f o m)) (a:KG (Sq [] [] 9) ds ds'):@Yi ⟨h⟩ (kg P k ds m f):=dM (c.h e) hf a
def ycv{p:Prop}{ds:List D}[c:o! p (e? P k ds' o)] (e:p) (hf:@Yi ⟨h⟩ (f o m)) (a:flat o=a35) (b:KG (Sq [] m 9) ds ds'):@Yi ⟨h⟩ (kg P k ds m f):=PM (c.h e) hf a b
def ylq{p:Prop}{ds:List D}{R:St->Prop}[c:o! p (e? P k ds' o)] (e:p) (hf:@Yi ⟨h⟩ (R (s.put dst o))) (a:KG (Sq [] [] 9) ds ds'):@Yi ⟨h⟩ (RB P k ds [] R s dst):=iS (c.h e) hf a
def ylv{p:Prop}{ds:List D}{R:St->Prop}[c:o! p (e? P k ds' o)] (e:p) (hf:@Yi ⟨h⟩ (R (s.put dst o))) (a:flat o=a35) (hi:(ids.all λi=>s5 (i<s.m.length))=a35) (ht:HG ids ds=a35) (b:KG (Lq s.m) ds ds'):@Yi ⟨h⟩ (RB P k ds ids R s dst):=NM (c.h e) hf a hi ht b
def ytz{S:St}{l:List Nat}{ρ:Ev}(hl:tN (j::l)=ρ) (g:KG (Sq ρ s'.m 9) s'.t S.t/\mJ ρ s'.m ρ S.m) (hk:yD ρ N=a35) (a:(ρ.filterMap (·.1)).Nodup):@Yi ⟨.t (j::l)⟩ (f' N s' S):=f'.q ρ hk a g
def yti{S:St}{ρ:Ev}(hl:tI 0 S.m=ρ) (g:KG (Sq ρ s'.m 9) s'.t S.t/\mJ ρ s'.m ρ S.m) (hk:yD ρ N=a35) (a:(ρ.filterMap (·.1)).Nodup):@Yi ⟨h⟩ (f' N s' S):=f'.q ρ hk a g
def yrt(g:K .ret s):@Yi ⟨h⟩ (Tm.T P N .ret K s):=T.ret g
def yen(g:iV (Rb s rs) s.m o):@Yi ⟨h⟩ (LB rs o .normal s):=bu2 g
def yf{S:Ed}{S':St}(hS:ed [] S s=S') (g:@Yi ⟨.t ρ⟩ (f' N s S')) (g2:@Yi ⟨h⟩ (Tm.T P N a K S')):@Yi ⟨.f S ρ h⟩ (Tm.T P N a K s):=T.qP g g2
def gd{q:Prop}(g:@Yi ⟨.d j4 ρ x⟩ q):@Yi ⟨.d j4 ρ x⟩ q:=g
def yd{S':St}(hS:fd (mN j4) s=S') (g:@Yi ⟨.t ρ⟩ (f' N s S')) (g2:@Yi ⟨h⟩ (Tm.T P N a K S')):@Yi ⟨.d j4 ρ h⟩ (Tm.T P N a K s):=T.qP g g2
def yj[K? N K] {c:X->List Cm} [Cmp X c] {S:Ed}{S':X->St}{o:Option X}{f:X->Option β}{r:β}(hS:∀z,ed (c z) S s=S' z)
 (ha:∀z,o=M z->True->@Yi ⟨h⟩ (Tm.T P N a (KJ N K S' (.inl z:X⊕Unit)) s)) (hb:Wh (∀z,f z=M r->@Yi ⟨x⟩ (Tm.T P N b K (S' z)))) (e:o.bind f=M r):@Yi ⟨.j S h x⟩ (Tm.T P N (.seq a b) K s):=
 jn S' e (λz d=>ha z d trivial) λz _ d=>hb.h z d
theorem ye[K? N K] {R:Type}{c:X->List Cm} [Cmp X c] {S:Ed}{S':X->St}{o:Option (X⊕R)}{f:X⊕R->Option R}{r:R}{p:Prop}(k:p) (hS:∀z,ed (c z) S s=S' z)
 (ha:∀z,o=M z->Lk Sum.inr z r p->@Yi ⟨h⟩ (Tm.T P N a (KJ N K S' z) s)) (hb:Wh (∀z,f (.inl z)=M r->@Yi ⟨x⟩ (Tm.T P N b K (S' z)))) (hf:∀v,f (.inr v)=M v:=by intros;rfl) (e:o.bind f=M r):@Yi ⟨.e S h x⟩ (Tm.T P N (.seq a b) K s):=by
 obtain⟨z,d,h2⟩:=Rl e;refine T.join S' z (ha z d ⟨?_,k⟩) ?_
 .grind
 .rintro y rfl;exact hb.h y h2
theorem yl[K? N K] {R:Type}[Cmp σ c] {g:β->List Cm} [Cmp β g] {step:σ->Option (Ex σ β R)}{S B:Ed}{d:β->St}{f:β⊕R->Option R}{r:R}{p:Prop}(k:p)
 (hS:∀z,ed (c z) S s=S' z) (hB:∀z,ed (g z) B s=d z) (ht:@Yi ⟨.t τ⟩ (f' N s (S' x0)))
 (ha:Lh (∀q z,step q=M z->Lk Ex.ret z r p->@Yi ⟨h⟩ (Tm.T P N a (KL N id K S' d z) (S' q)))) (hb:Wh (∀z,f (.inl z)=M r->@Yi ⟨x⟩ (K .normal (d z)))) (hf:∀v,f (.inr v)=M v:=by intros;rfl) (e:(ca step x0).bind f=M r) :
 @Yi ⟨.l S B τ h x⟩ (Tm.T P N (.block id (.loop a)) K s):=by
 obtain⟨y,i,h2⟩:=Rl e;refine lm i S' d ht (λq z j hv=>ha.h q z j ⟨?_,k⟩) ?_
 .grind
 .rintro b rfl;exact hb.h b h2
theorem yl'[K? N K] {R ρ:Type}[Cmp σ c] {g:β->List Cm} [Cmp β g] {step:σ->Option (Ex σ β ρ)}{S B:Ed}{d:β->St}{f:β⊕ρ->Option R}{r:R}
 (hS:∀z,ed (c z) S s=S' z) (hB:∀z,ed (g z) B s=d z) (ht:@Yi ⟨.t τ⟩ (f' N s (S' x0)))
 (ha:Lh (∀q z,step q=M z->True->@Yi ⟨h⟩ (Tm.T P N a (KL N id K S' d z) (S' q)))) (hb:Wh (∀z,f (.inl z)=M r->@Yi ⟨x⟩ (K .normal (d z)))) (e:(ca step x0).bind f=M r) :
 @Yi ⟨.l S B τ h x⟩ (Tm.T P N (.block id (.loop a)) K s):=by
 obtain⟨y,i,h2⟩:=Rl e;refine lm i S' d ht (λq z j _=>ha.h q z j trivial) ?_;rintro b rfl;exact hb.h b h2
theorem yu[K? N K] {R:Type}[Cmp σ c] {step:σ->Option (Ex σ Empty R)}{S:Ed}{f:Empty⊕R->Option R}{r:R}{p:Prop}(k:p)
 (hS:∀z,ed (c z) S s=S' z) (ht:@Yi ⟨.t τ⟩ (f' N s (S' x0)))
 (ha:Lh (∀q z,step q=M z->Lk Ex.ret z r p->@Yi ⟨h⟩ (Tm.T P N a (KL N id K S' (λq:Empty=>q.elim) z) (S' q)))) (hf:∀v,f (.inr v)=M v:=by intros;rfl) (e:(ca step x0).bind f=M r) :
 @Yi ⟨.u S τ h⟩ (Tm.T P N (.block id (.loop a)) K s):=by
 obtain⟨y,b,h2⟩:=Rl e;refine lm b S' (λq:Empty=>q.elim) ht (λq z d hv=>ha.h q z d ⟨?_,k⟩) (λq=>q.elim)
 grind
def pF{p:α×β->Prop}(h:∀a b,p (a,b)) (z:α×β):p z:=h z.1 z.2
def vw{p:Prop}(h:p):Wh p:=⟨h⟩
def vl{p:Prop}(h:p):Lh p:=⟨h⟩
def yT:@Yi ⟨h⟩ True:=trivial
end
section
variable {α β:Type} {e:α->D} {l r:List α} {i:Int} {y:α} {b:Nat} {g:List α->Option β} {z:β}
theorem bA[f? α e] (h:(app b l r).bind g=M z):∃x,((l.length+r.length)*b<=2 ^ 47/\x.length*b<=2 ^ 47)/\l.map e++r.map e=x.map e/\g x=M z:=by
 obtain⟨x,a,h2⟩:=Rl h;have c:=(tD (e:=e) a).1;exact⟨x,⟨c,by rw[(pU a).2,List.length_append];exact c⟩,(tD a).2,h2⟩
theorem bP[f? α e] (h:(put l i y).bind g=M z):∃x,i.toNat<l.length/\(l.map e).set i.toNat (e y)=x.map e/\g x=M z:=by
 obtain⟨x,a,h2⟩:=Rl h;exact⟨x,(aj3 (e:=e) a).1,(aj3 a).2,h2⟩
theorem bM[f? α e] {c:Int}(h:(fD b y n c).bind g=M z):∃x,0<=n/\n<=c/\c<=2 ^ 62/\c.toNat*b<=2 ^ 48/\l! n.toNat (e y)=x.map e/\g x=M z:=by
 obtain⟨x,a,h2⟩:=Rl h;obtain⟨h3,h4,h5,h6,h7⟩:=QV (e:=e) a
 grind
theorem bZ(h:(Fw l 0).bind g=M z):g []=M z:=by
 grind[Fw]
theorem bH[f? α e] (h:(Fw l i).bind g=M z):∃x,Fw l i=M x/\0<=i/\i.toNat<=l.length/\(l.map e).take i.toNat=x.map e/\((l.map e).drop 0).take (i.toNat-0)=x.map e/\g x=M z:=by
 obtain⟨x,a,h2⟩:=Rl h;obtain⟨h3,h4,h5⟩:=ay5 (e:=e) a;refine⟨x,a,?_⟩
 grind
theorem bD{x:List α}(q:Fw l i=M x) (h:(Fw l i).bind g=M z):g x=M z:=by rw[q]at h;exact h
theorem bL[f? α e] (h:(pK l i).bind g=M z):∃x,0<=i/\i.toNat<=l.length/\i.toNat+x.length<=l.length/\l.length-i.toNat=x.length/\((l.map e).take l.length).drop i.toNat=x.map e/\((l.map e).drop i.toNat).take x.length=x.map e/\g x=M z:=by
 obtain⟨x,a,h2⟩:=Rl h;obtain⟨h3,h4,h5,h6,h7⟩:=ba9 (e:=e) a
 grind[Z1]
theorem bQ{k:IntKind}{c:Int}{g:Int->Option β}(h:(quo k a c).bind g=M z):∃x,¬c=0/\aa k (a.tdiv c)=x/\g x=M z:=by
 obtain⟨x,h1,h2⟩:=Rl h
 grind[bx6]
theorem bR{k:IntKind}{c:Int}{g:Int->Option β}(h:(rem k a c).bind g=M z):∃x,¬c=0/\a.tmod c=x/\g x=M z:=by
 obtain⟨x,b,h2⟩:=Rl h;exact⟨x,(aU0 b).1,(aU0 b).2,h2⟩
def bX{s:ByteArray}{i:Int}{g:Int->Option β}(h:(tA s i).bind g=M z):∃x,tA s i=M x/\g x=M z:=Rl h
end
def cT{a b:Bool}(h:a=b):a=b:=h
variable {P:a42}
theorem kS{ds:List D}{R:D->List Ent->Prop}{m2:List Ent}(h:CallT P k ds m R) (ht:∀d m',R d m'->f' m.length ⟨[d],m'⟩ ⟨[d2],m2⟩):CallT P k ds m λd m'=>d=d2/\m'=m2:=by
 refine⟨h.1,λG w vs hv hi=>(h.2 G w vs hv hi).mono ?_⟩;rintro e w' ⟨v,d,m',G',rfl,o,hvd,b,p⟩;have hr:p! G' w' { tmps:=#[v],defers:=[] } ⟨[d],m'⟩:=⟨by simp only[VsRel];simp_all,b,rfl⟩;have hN:m.length=G.n:=hi.n.symm;have c:=p.toN (Nat.le_of_eq hN);obtain⟨a,f,l⟩:=Cx (ht d m' o) c.n hr;have i:=f.t;simp only[VsRel]at i;obtain⟨u,us,he,j,_⟩:=i;injection he with he _;subst he;have g:=c.trans l;rw[hN]at g;exact⟨_,d2,m2,a,rfl,⟨rfl,rfl⟩,j,f.inv,g.toStep⟩
def EI(N:Nat) (rs:List RV) (S:St) (e:Exit) (s:St):Prop:=
 match e with
 |.normal=>∃S',f' N s S'/\∃ds,Rb S' rs=M ds/\f' N ⟨[Ot ds],S'.m⟩ S
 |.ret=>∃S',f' N s S'/\∃ds,Rb S' rs=M ds/\f' N ⟨[Ot ds],S'.m⟩ S
 |_=>False
def jV(N:Nat) (r:Option (List D)) (m:List Ent) (S:St):Prop:=∃ds,r=M ds/\f' N ⟨[Ot ds],m⟩ S
theorem BM{S:St}(h:jV N (Rb s rs) s.m S):EI N rs S .ret s:=by
 obtain⟨ds,a,h2⟩:=h;exact⟨s,.refl s,ds,a,h2⟩
theorem bu3{S:St}(h:jV N (Rb s rs) s.m S):EI N rs S .normal s:=by
 obtain⟨ds,a,h2⟩:=h;exact⟨s,.refl s,ds,a,h2⟩
theorem Jz{ds:List D}{S:St}:jV N (M ds) m S=f' N ⟨[Ot ds],m⟩ S:=by simp[jV]
@[congr] theorem bn9{N:Nat} {r a:Option (List D)} {m:List Ent} {S:St} (h:r=a):jV N r m S=jV N a m S:=by rw[h]
instance {N:Nat}{rs:List RV}{S:St}:K? N (EI N rs S):=⟨by
 rintro s S' h ⟨S1,a,h2⟩;exact⟨S1,h.trans a,h2⟩⟩
theorem KH(KF:Kf P k) {ds:List D}{m2:List Ent}(w:Nat) (hw:KF.F.ntmps=ds.length+w) (h:T P m.length KF.F.code (EI m.length KF.F.results ⟨[d2],m2⟩) ⟨ds++Tm.ds w [],m⟩):CallT P k ds m λd m'=>d=d2/\m'=m2:=by
 refine kS (R:=λd m'=>f' m.length ⟨[d],m'⟩ ⟨[d2],m2⟩) (Nn KF.ok KF.nm ?_) λ_ _ h=>h;rw[hw,Jac,←xJ];refine T.clo (h.mono ?_);have key:∀(e:Exit) (s:St),(∀s',JG KF.F.results (λd m'=>f' m.length ⟨[d],m'⟩ ⟨[d2],m2⟩) e s' = ∃ds,Rb s' KF.F.results=M ds/\f' m.length ⟨[Ot ds],s'.m⟩ ⟨[d2],m2⟩)->(∃S',f' m.length s S'/\∃ds,Rb S' KF.F.results=M ds/\f' m.length ⟨[Ot ds],S'.m⟩ ⟨[d2],m2⟩)->bU m.length (JG KF.F.results λd m'=>f' m.length ⟨[d],m'⟩ ⟨[d2],m2⟩) e s:=by
  intro e s he ⟨S,h1,h2⟩ G w a hN hr
  grind[Cx]
 intro e s b
 cases e with
 |normal=>exact key _ s (λ_=>rfl) b
 |ret=>exact key _ s (λ_=>rfl) b
 |_=>exact(b:False).elim
theorem M0{k:IntKind}:Zi .shr .u64 a k 1=M (.int .u64 (a.fdiv 2)):=by
 have h:((2 ^ (min (1:Int).toNat IntKind.u64.bits):Nat):Int)=2:=o4
 grind[Zi]
def mL:List Int:=[31,28,31,30,31,30,31,31,30,31,30,31]
def ck8(n:Int):D:=.v (.int .i64 n)
def aW2:s.ev (.global 0)=.pt (.agg (mL.map ck8)):=d?
def aq5:ck8 n=.v (.int .i64 n):=d?
def lst{α:Type}(l:List α):Option (List α):=M l
def mka{α:Type}(b:Nat) (z:α) (n:Int):Option (List α):=if 0<n/\n.toNat*b<=2 ^ 47 then M (l! n.toNat z)else q6
def aP8{α:Type}(l:List α) (lo:Int) (v:List α) (z:α):Option (List α):=if 0<=lo/\lo.toNat+v.length<=l.length then M (l.take lo.toNat++l! v.length z++l.drop (lo.toNat+v.length))else q6
section
variable {α β:Type} {e:α->D} {l v:List α} {i:Int} {y:α} {b:Nat} {g:List α->Option β} {z:β}
theorem bK[f? α e] (h:(mka b y i).bind g=M z):∃x,0<i/\i.toNat*b<=2 ^ 47/\l! i.toNat (e y)=x.map e/\g x=M z:=by
 obtain⟨x,a,h2⟩:=Rl h;unfold mka at a;split at a
 .rename_i hc;obtain rfl:=J! a;exact⟨_,hc.1,hc.2,List.map_replicate.symm,h2⟩
 simp_all
theorem bC[f? α e] (h:(aP8 l i v y).bind g=M z):∃x,(l.map e).take i.toNat++l! v.length (e y)++(l.map e).drop (i.toNat+v.length)=x.map e/\g x=M z:=by
 obtain⟨x,a,h2⟩:=Rl h;unfold aP8 at a;split at a
 .obtain rfl:=J! a;exact⟨_,l5,h2⟩
 simp_all
theorem bV[f? α e] (h:(lst l).bind g=M z):∃x,l.map e=x.map e/\g x=M z:=by
 obtain⟨x,a,h2⟩:=Rl h;obtain rfl:=J! a
 grind
def bG{g:Int->Option β}(h:(c! mL i).bind g=M z):∃x,0<=i/\mL[i.toNat]?=M x/\i.toNat<12/\g x=M z:=bO h
def zn:type_of% (ak @SC (ak (ak @M0 @aW2) (ak @aq5 @had))):=ak @SC (ak (ak @M0 @aW2) (ak @aq5 @had))
end
def aT3(P:a42) (k:Nat) (S:Nat) (l l':List D):Prop:=∀m id Ta,m[id]?=M (k? S Ta l)->CallT P k [.own id Ta] m λd m'=>d=.own id (Ta+1)/\m'=m.set id (k? S (Ta+1) l')
section
open Go.Sort
def ar9{k:FuncId}(f:I! P k) {zs ys:List Int}(a:ys.length<=zs.length)
 (d:∀w b off cap,Holds (Value.int .i64) w b off zs.toArray->zs.length<=cap->Calls P k #[.slice (M ⟨b,off,q6⟩) zs.length cap] w λe w'=>e=.returned (.slice (M ⟨b,off,q6⟩) ys.length cap)/\∃n xs,xs.length+ys.length=zs.length/\w'=grow (putRow (Value.int .i64) (Sort.ahead w n) b off (ys++xs).toArray) #[])
 (c:∀w cap,Calls P k #[.slice q6 0 cap] w λe w'=>e=.returned (.slice q6 0 cap)/\w'=w):aT3 P k 1 (zs.map eI) (ys.map eI):=
 λm id Ta hm=>aY f hm a d c
end
section
variable {h:Hi} {k id S Ta:Nat} {p:Prop} {pre post l l' ds:List D} {o:D} {m:List Ent} {f:D->List Ent->Prop}
def ycA[c:o! p (aT3 P k S l l')] (e:p) (hf:@Yi ⟨h⟩ (f (.own id (Ta+1)) (m.set id (k? S (Ta+1) l')))) (hm:m[id]?=M (k? S Ta l)):@Yi ⟨h⟩ (kg P k [.own id Ta] m f):=Ic (c.h e m id Ta hm) hf
def ycf{d d':D}{q:List D} [c:o! p (e? P k ([d']++q) o)] (e:p) (hq:oa q=a35) (hf:@Yi ⟨h⟩ (f o m)) (a:Sq [] [] 9 d d'):@Yi ⟨h⟩ (kg P k (d::q) m f):=at7 (c.h e) hq hf a
def ycC[c:o! p (AM P k pre post S l o)] (e:p) (hf:@Yi ⟨h⟩ (f o (m.set id .gone))) (a:ds=pre++.own id Ta::post) (hm:m[id]?=M (k? S Ta l)):@Yi ⟨h⟩ (kg P k ds m f):=O0 (c.h e) a hm hf
def ycW[c:o! p (ax4 P k pre post S l l' o)] (e:p) (hf:@Yi ⟨h⟩ (f o (m.set id (k? S Ta l')))) (a:ds=pre++.own id Ta::post) (hm:m[id]?=M (k? S Ta l)):@Yi ⟨h⟩ (kg P k ds m f):=aQ2 (c.h e) a hm hf
end
def St.hd(s:St):D:=s.t.headD d!
theorem yi{c:X->List Cm} [Cmp X c] {KF:Kf P k}{S:Ed}{d2:X->D}{m2:X->List Ent}{ds:List D}{o:Option X}{r:β}
 (hS:∀z,ed (c z) S ⟨[d!],m⟩=⟨[d2 z],m2 z⟩) (hw:KF.F.ntmps=ds.length+w)
 (ha:∀z,o=M z->True->@Yi ⟨h⟩ (T P m.length KF.F.code (EI m.length KF.F.results ⟨[d2 z],m2 z⟩) ⟨ds++Tm.ds w [],m⟩))
 (hb:Wh (∀z,g z=M r->@Yi ⟨x⟩ (f (d2 z) (m2 z)))) (e:o.bind g=M r):@Yi ⟨.i KF w S h x⟩ (kg P k ds m f):=by
 obtain⟨z,a,h2⟩:=Rl e;exact Ic (KH KF w hw (ha z a trivial)) (hb.h z h2)
def gi0{KF:Kf P j}{S:Ed}{ds:List D}(g:@Yi ⟨.i KF w S h x⟩ (kg P k ds m f)):@Yi ⟨.i KF w S h x⟩ (kg P k ds m f):=g
structure Ck (p q:Prop):Prop where
 h:p
 k:q
instance {N:Nat}{K:Exit->St->Prop}:K? N (bU N K):=⟨by
 intro s S h k G w a hN hr;obtain⟨b,d,h2⟩:=Cx h hN hr;obtain⟨s',c,e,f,g⟩:=k b w a h2.n d;exact⟨s',c,e,f,h2.trans g⟩⟩
def O7(r:Option (List D)) (f:D->List Ent->Prop) (m:List Ent):Prop:=∃ds,r=M ds/\f (Ot ds) m
theorem P7{ds:List D}:O7 (M ds) f m=f (Ot ds) m:=by simp[O7]
@[congr] theorem bo1{r a:Option (List D)} {f:D->List Ent->Prop} {m:List Ent} (h:r=a):O7 r f m=O7 a f m:=by rw[h]
theorem yc{KF:Kf P k}{ds:List D}{o:Option X}{r:β}{q:Prop}(b:q) (hw:KF.F.ntmps=ds.length+w)
 (ha:∀z,o=M z->Ck (g z=M r) q->@Yi ⟨h⟩ (T P m.length KF.F.code (bU m.length (JG KF.F.results f)) ⟨ds++Tm.ds w [],m⟩)) (e:o.bind g=M r):@Yi ⟨.c KF w h⟩ (kg P k ds m f):=by
 obtain⟨z,a,h2⟩:=Rl e;refine Nn KF.ok KF.nm ?_;rw[hw,Jac,←xJ];exact T.clo (ha z a ⟨h2,b⟩)
def gc0{KF:Kf P j}{ds:List D}(g:@Yi ⟨.c KF w h⟩ (kg P k ds m f)):@Yi ⟨.c KF w h⟩ (kg P k ds m f):=g
def gv{p:Prop}(g:@Yi ⟨.v x⟩ p):@Yi ⟨.v x⟩ p:=g
theorem yvr{j4:Nat}(g:@Yi ⟨x⟩ (O7 (Rb s rs) f s.m)):@Yi ⟨.v x⟩ (bU j4 (JG rs f) .ret s):=by
 obtain⟨ds,a,h2⟩:=g;exact bU.of (show JG rs f .ret s from⟨ds,a,h2⟩)
theorem yvn{j4:Nat}(g:@Yi ⟨x⟩ (O7 (Rb s rs) f s.m)):@Yi ⟨.v x⟩ (bU j4 (JG rs f) .normal s):=by
 obtain⟨ds,a,h2⟩:=g;exact bU.of (show JG rs f .normal s from⟨ds,a,h2⟩)
def yno{p:Prop}(h:q6=M r):p:=nomatch h
def yrr(g:@Yi ⟨h⟩ (K .ret s)):@Yi ⟨h⟩ (Tm.T P N .ret K s):=T.ret g
def yrI{S:St}(g:@Yi ⟨h⟩ (jV N (Rb s rs) s.m S)):@Yi ⟨h⟩ (EI N rs S .ret s):=BM g
def ynI{S:St}(g:@Yi ⟨h⟩ (jV N (Rb s rs) s.m S)):@Yi ⟨h⟩ (EI N rs S .normal s):=bu3 g
class FrO (d:D):Prop where
 h:xa d=a35
variable {d:Option Tmp}
instance {α:Type}{e:α->D} [Fr e] {x:α}:FrO (e x):=⟨Fr.h x⟩
instance {l:List D} [V? l]:FrO (.tup l):=⟨V?.h⟩
def dep:Nat->D->Bool
 |0,_=>a36
 |k+1,.agg l=>l.all (dep k)
 |k+1,.tup l=>l.all (dep k)
 |_+1,.sl _ _=>a35
 |k+1,.pt d=>dep k d
 |_+1,.v _=>a35
 |_,_=>a36
theorem yE(m:List Ent):∀{k:Nat}{d:D},xa d=a35->dep k d=a35->Ig k m d=d
 |0,_,_,h=>by grind[dep]
 |k+1,.agg l,a,h2=>by
  simp only[dep,R']at h2;simp only[xa,bm]at a;simp only[Ig];congr 1;exact(gac λd hd=>yE m (a d hd) (h2 d hd)).trans (Nae _)
 |k+1,.tup l,a,h2=>by
  simp only[dep,R']at h2;simp only[xa,bm]at a;simp only[Ig];congr 1;exact(gac λd hd=>yE m (a d hd) (h2 d hd)).trans (Nae _)
 |_+1,.sl _ l,a,_=>by
  simp_all[xa,Ig]
 |k+1,.pt d,a,h2=>by
  simp only[dep]at h2;simp only[xa]at a;simp only[Ig,yE m a h2]
 |_+1,.v _,_,_=>rfl
 |k+1,.own ..,_,h=>by grind[dep]
 |k+1,.view ..,_,h=>by grind[dep]
 |k+1,.ref ..,_,h=>by grind[dep]
 |k+1,.fn ..,_,h=>by grind[dep]
 |k+1,.mp ..,_,h=>by grind[dep]
 |k+1,.ifc ..,_,h=>by grind[dep]
 |k+1,d!,_,h=>by grind[dep]
theorem QO{id Ta:Nat}:∀{l:List D},oa l=a35->l.map (kL id Ta)=l
 |[],_=>rfl
 |d::l,h=>by
  simp only[oa,E']at h;rw[List.map_cons,QO h.2];congr 1;have h1:=h.1;cases d<;>simp_all[kL,xa]
def T5(P:a42) (k:Nat) (pre post:List D) (S:Nat) (l l':List D) (o:D):Prop:=oa pre=a35/\oa post=a35/\∀m id Ta,m[id]?=M (k? S Ta l)->CallT P k (pre++.ref id Ta 0 0::post) m λd m'=>d=o/\m'=m.set id (k? S Ta l')
theorem T5.of(n:Nat) (K:Kf P k) (h:T P 1 K.F.code (EI 1 K.F.results ⟨[o],[k? S 0 l']⟩) ⟨(pre++.ref 0 0 0 0::post)++Tm.ds n [],[k? S 0 l]⟩)
 (c:oa pre=a35:=by exact V?.h) (a:oa post=a35:=by exact V?.h) (hl:oa l=a35:=by exact V?.h) (ho:xa o=a35:=by exact FrO.h) (f:oa l'=a35:=by exact V?.h) (hd:dep 8 o=a35:=by rfl) (b:l'.all (dep 8)=a35:=by rfl)
 (hn:K.F.ntmps=(pre++.ref 0 0 0 0::post).length+n:=by rfl):T5 P k pre post S l l' o:=by
 refine⟨c,a,λm id Ta e=>?_⟩;have h1:=KH K n hn (m:=[k? S 0 l]) (m2:=[k? S 0 l']) (d2:=o) h;have e1:(pre++.ref id Ta 0 0::post).map (kL id Ta)=pre++.ref 0 0 0 0::post:=by
  simp_all[kL,QO]
 refine(au0 e hl (m1:=[k? S 0 l']) rfl (by rw[e1];omega)).mono ?_;rintro d m' ⟨rfl,rfl⟩;refine⟨yE _ ho hd,?_⟩;congr 2;rw[R']at b;exact(gac λd hd=>yE _ (bm.1 f d hd) (b d hd)).trans (Nae _)
theorem ycE{ds:List D}{p:Prop} [c:o! p (T5 P k pre post S l l' o)] (e:p) (hf:@Yi ⟨h⟩ (f o (m.set id (k? S Ta l')))) (a:ds=pre++.ref id Ta 0 0::post) (hm:m[id]?=M (k? S Ta l)):@Yi ⟨h⟩ (kg P k ds m f):=by
 subst a;exact Ic ((c.h e).2.2 m id Ta hm) hf
def gce{k:FuncId}{ds:List D}{p:List Nat}{x:Nat}{f:D->Ent->Prop}(g:@Yi ⟨h⟩ (DK P k ds ids fp p x f s)):@Yi ⟨h⟩ (DK P k ds ids fp p x f s):=g
theorem ywE{ds:List D}{q:Prop}{p:List Nat}{x:Nat}{f:D->Ent->Prop}[c:o! q (T5 P k pre post S l l' o)] (e:q) (hf:@Yi ⟨h⟩ (f o (k? S Ta l')))
 (a:ds=pre++.ref x Ta 0 0::post) (hm:s.m[x]?=M (k? S Ta l)) (hx:(ids.elem x&&zH fp ids p)=a35) (hi:ids=[x]):@Yi ⟨h⟩ (DK P k ds ids fp p x f s):=by
 subst a;subst hi;have hlt:x<s.m.length:=(Paa.1 hm).1;refine⟨hx,o,_,⟨λid hid=>l4,λm hmm=>?_⟩,hf⟩;exact(c.h e).2.2 m x Ta l4
def ydp{q:Nat}{l:List RI}(hm:P.follows .mixedOrders=a35) (c:ps=eE q) (a:yG pl l=a35) (b:Nz s.m pl=a35) (g:@Yi ⟨h⟩ (Gj P pl ps q l (K .normal) [] s)):@Yi ⟨.g ps pl h⟩ (Tm.T P N (.draw q l) K s):=T.dp hm ps pl c a b g
def Lq2(m:List Ent):D->D->Prop
 |.agg a,.agg b=>KG (Lq m) a b
 |d,e=>Lq m d e
def XW(ids:List Nat) (ds:List D):Bool:=ds.all λd=>match d with|.agg a=>HG ids a|d=>HG ids [d]
theorem I3{m m':List Ent}{ids:List Nat}(hm:∀id∈ids,m'[id]?=m[id]?):∀{a b:List D},KG (Lq2 m) a b->XW ids a=a35->q! [] m' a b
 |[],[],_,_=>.nil
 |d::l,e::r,h,ht=>by
  simp only[XW,List.all_cons,E']at ht;have i:=I3 hm h.2 (by grind[XW]);have c:=h.1;have f:=ht.1;unfold Lq2 at c;split at c
  .exact .agg (pM hm c f) i
  .rename_i hne;have g:HG ids [d]=a35:=by
    grind[HG,af]
   exact q!.app (a:=[d]) (b:=[e]) (pM hm ⟨c,trivial⟩ g) i
 |[],_::_,h,_=>h.elim
 |_::_,[],h,_=>h.elim
theorem au2{ds:List D}{R:St->Prop}(h:e? P k ds' o) (hf:R (s.put dst o)) (a:flat o=a35) (hi:(ids.all λi=>s5 (i<s.m.length))=a35) (ht:XW ids ds=a35) (b:KG (Lq2 s.m) ds ds'):RB P k ds ids R s dst:=by
 refine⟨o,⟨λid hid=>?_,λm hm=>?_⟩,hf⟩
 .simp_all
 .exact RG h (I3 hm b ht) a ⟨rfl,rfl⟩
def ylw{p:Prop}{ds:List D}{R:St->Prop}[c:o! p (e? P k ds' o)] (e:p) (hf:@Yi ⟨h⟩ (R (s.put dst o))) (a:flat o=a35) (hi:(ids.all λi=>s5 (i<s.m.length))=a35) (ht:XW ids ds=a35) (b:KG (Lq2 s.m) ds ds'):@Yi ⟨h⟩ (RB P k ds ids R s dst):=au2 (c.h e) hf a hi ht b
section
variable {m:List Ent} {S x y lo n s:Nat} {a b:List D} {e:D}
def an1:Lq2 m (.agg a) (.agg b)=KG (Lq m) a b:=d?
def an0:Lq2 m (.own x y) (.sl S b)=Lq m (.own x y) (.sl S b):=d?
def V2:Lq2 m (.view x y lo n) (.sl S b)=Lq m (.view x y lo n) (.sl S b):=d?
def am9{z:Nat}:Lq2 m (.ref x y z s) (.pt e)=Lq m (.ref x y z s) (.pt e):=d?
theorem bB1{z:Value}:Lq2 m (.v z) e=Lq m (.v z) e:=by cases e<;>rfl
theorem aV3{z:List D}:Lq2 m (.sl S z) e=Lq m (.sl S z) e:=by cases e<;>rfl
theorem aV4{z:D}:Lq2 m (.pt z) e=Lq m (.pt z) e:=by cases e<;>rfl
def zw:type_of% (ak (ak (ak @an1 @an0) (ak @V2 @am9)) (ak (ak @bB1 @aV3) @aV4)):=ak (ak (ak @an1 @an0) (ak @V2 @am9)) (ak (ak @bB1 @aV3) @aV4)
end
section
variable {P:a42}
end
def Tx(m:List Ent):Ev->List (Nat×List D)->Prop
 |[],[]=>True
 |(M j,v,0)::os,(S,l)::L=>m[j]?=M (k? S v l)/\Tx m os L
 |_,_=>False
def Sz(L:List (Nat×List D)):List Ent:=L.map λp=>k? p.1 0 p.2
theorem aC2{ρ:Ev}{a b:List D}(h:q! ρ [] a b):q! ρ m a b:=by
 induction h with
 |nil=>exact .nil
 |same hf h c=>exact .same hf c
 |dead h c=>exact .dead c
 |nils h c=>exact .nils c
 |dE i hi h c=>exact .dE i hi c
 |agg ha h d c=>exact .agg d c
 |tup ha h d c=>exact .tup d c
 |sl ha h d c=>exact .sl d c
 |own hi h c=>exact .own hi c
 |ref hi h c=>exact .ref hi c
 |view hi h c=>exact .view hi c
 |mp hi h c=>exact .mp hi c
 |Ig hm|fview hm|fref hm=>simp at hm
 |pt ha h d c=>exact .pt d c
 |fn ha hc h d e c=>exact .fn d e c
 |ifc ha h d c=>exact .ifc d c
theorem HV{m:List Ent}:∀{ρ:Ev}{L:List (Nat×List D)},Tx m ρ L->ρ.length=L.length/\∀(i S:Nat) (l:List D),L[i]?=M (S,l)->∃j v,ρ[i]?=M (M j,v,0)/\m[j]?=M (Ent.live S v l)
 |[],[],_=>l5
 |(M j,v,0)::os,(S,l)::L,h=>by
  obtain⟨a,h2⟩:=HV h.2;refine⟨by simp[a],λi S' l' hi=>?_⟩
  cases i with
  |zero=>
   have b:=h.1;simp only[ξ,T!,H?]at hi;obtain⟨rfl,rfl⟩:=hi;exact⟨j,v,rfl,b⟩
  |succ i=>exact h2 i S' l' (by simpa using hi)
 |[],_::_,h=>h.elim
 |(M _,_,0)::_,[],h=>h.elim
 |(M _,_,_+1)::_,[],h=>h.elim
 |(q6,_,_)::_,[],h=>by simp[Tx]at h
 |(q6,_,_)::_,_::_,h=>by simp[Tx]at h
 |(M _,_,_+1)::_,_::_,h=>by simp[Tx]at h
mutual
def cW:D->Ev
 |.own id Ta=>[(M id,Ta,0)]
 |.agg l=>Qy l
 |_=>[]
def Qy:List D->Ev
 |[]=>[]
 |d::l=>cW d++Qy l
end
mutual
theorem wR:∀{d:D},xa d=a35->cW d=[]
 |.agg l,h=>by simp only[xa]at h;simp only[cW,xR h]
 |.own ..,h=>by simp[xa]at h
 |.v _,_|.tup _,_|.sl ..,_|.pt _,_|.ref ..,_|.view ..,_|.fn ..,_|.mp _,_|.ifc ..,_|d!,_=>by simp[cW]
theorem xR:∀{l:List D},oa l=a35->Qy l=[]
 |[],_=>by simp[Qy]
 |d::l,h=>by
  simp only[oa,E']at h;simp only[Qy,wR h.1,xR h.2,List.append_nil]
end
variable {P:a42}
def Ly(P:a42) (k:Nat) (a:List D) (L:List (Nat×List D)) (o:D):Prop:=
 ∀m ρ ds,KG (Sq ρ [] 9) ds a->Tx m ρ L->(ρ.filterMap (·.1)).Nodup->CallT P k ds m λd m'=>d=o/\m'=m
def oy(ρ:Ev) (m:List Ent):List Ent:=m.mapIdx λi e=>if tx ρ i then .gone else e
theorem sI{ρ:Ev}{i:Nat}{e:Ent}(h:(oy ρ m)[i]?=M e) (hl:e.isLive=a35):m[i]?=M e/\tx ρ i=a36:=by
 unfold oy at h;rw[kae]at h
 cases hm:m[i]? with
 |none=>simp[hm]at h
 |some x=>
  simp only[hm,zac,T!]at h;split at h
  .subst h;cases hl
  .subst h;simp_all
theorem bW{ρ:Ev}{i:Nat}{v:Nat×Nat}(h:(ρ:List (Option Nat×Nat×Nat))[i]?=M (M j,v)):tx ρ j=a36:=by
 cases hb:tx ρ j
 .rfl
 .exact absurd rfl (U3 hb i j v h)
theorem YS{ρ:Ev}(h:tx ρ j=a36):∃(i:Nat) (v:Nat×Nat),ρ[i]?=M (M j,v):=by
 unfold tx at h;rw[List.all_eq_false]at h;obtain⟨⟨a,v⟩,hx,h⟩:=h;obtain⟨i,hi⟩:=List.getElem?_of_mem hx
 cases a with
 |none=>simp at h
 |some k=>exact⟨i,v,l4⟩
theorem an7{G:Gh}{w:World}(ρ:Ev) (hi:Inv G w m):Inv G w (oy ρ m):=by
 refine⟨by simp[oy,hi.n],hi.F,λi e he=>?_,λi j e e' c h2 a b=>?_,hi.gl⟩
 .by_cases hl:e.isLive=a35
  .exact hi.ent i e (sI he hl).1
  .cases e with
   |gone=>trivial
   |_=>simp[Ent.isLive]at hl
 .exact hi.apart i j e e' (sI c a).1 (sI h2 b).1 a b
theorem au1{ρ:Ev}{ds ds0:List D}(hL:Tx m ρ L) (hn:(ρ.filterMap (·.1)).Nodup) (hs:q! ρ [] ds ds0) (hf:∀p∈L,oa p.2=a35) (ho:xa o=a35)
 (h:CallT P k ds0 (Sz L) λd m'=>d=o/\m'=Sz L):CallT P k ds m λd m'=>d=o/\m'=m:=by
 refine⟨h.1,λG w vs hv hi=>?_⟩;obtain⟨hlen,hget⟩:=HV hL;have hi1:=an7 ρ hi;have E:∀(i:Nat) o',ρ[i]?=M o'->∃j v S l,o'=(M j,v,0)/\L[i]?=M (S,l)/\m[j]?=M (Ent.live S v l):=by
  intro i o' hio;have j8:i<L.length:=by rw[←hlen];exact(Paa.1 hio).1
  obtain⟨j,v,a,h2⟩:=hget i L[i].1 L[i].2 (by simp[j8]);exact⟨j,v,L[i].1,L[i].2,l4,by simp[j8],h2⟩
 have hgo:∀(i j:Nat) v,ρ[i]?=M (M j,v)->∃e:Ent,(oy ρ m)[j]?=M e/\e.isLive=a35/\(∀S R l,e=k? S R l->R=v.1):=by
  intro i j v t;obtain⟨j',R,S,l,a,h2,Y⟩:=E i _ t;simp only[H?,T!]at a;obtain⟨rfl,rfl⟩:=a;refine⟨k? S R l,?_,rfl,λS1 v1 l1 he=>?_⟩
  .simp only[oy,kae,Y,zac,bW t];rfl
  .injection he with _ h _;exact h.symm
 have hv1:=((aC2 (m:=oy ρ m) hs).rel hi1 hgo).1 vs hv;have lentB:∀(i j:Nat) v,ρ[i]?=M (M j,v)->(zb G (oy ρ m) ρ).B i=G.B j/\(zb G (oy ρ m) ρ).S i=G.S j/\(zb G (oy ρ m) ρ).N i=G.N j/\(zb G (oy ρ m) ρ).C i=G.C j/\(zb G (oy ρ m) ρ).V i=v.2:=by
  intro i j v t;simp[zb,t]
 have W:∀b,(zb G (oy ρ m) ρ).F b↔G.F b:=by
  intro b;refine⟨?_,λh=>.inl h⟩;rintro(h|⟨⟨i,e,he,hl,j6⟩,hne⟩)
  .exact h
  .obtain⟨-,K⟩:=sI he hl;obtain⟨Q,R,A⟩:=YS K;exact absurd j6 (hne Q i R A)
 have r:∀(i:Nat) e,(Sz L)[i]?=M e->∃j v S l,ρ[i]?=M (M j,v,0)/\m[j]?=M (Ent.live S v l)/\e=k? S 0 l/\oa l=a35:=by
  intro i e he;simp only[Sz,List.getElem?_map,Option.map_eq_some_iff]at he;obtain⟨⟨S,l⟩,a,rfl⟩:=he;obtain⟨j,v,h2,Y⟩:=hget i S l a;exact⟨j,v,S,l,h2,Y,rfl,hf _ (uab a)⟩
 have hsub0:V' G w (zb G (oy ρ m) ρ) w:=⟨λb h=>.inl h,λ_ _=>rfl⟩;have hi0:Inv (zb G (oy ρ m) ρ) w (Sz L):=by
  refine⟨by simp[zb,Sz,hlen],λb hb=>hi.F b ((W b).1 hb),λi e he=>?_,λi Q e e' he q _ _ b hb g=>?_,hi.gl.bare λ_ h=>.inl h⟩
  .obtain⟨j,v,S,l,a,h2,rfl,hfl⟩:=r i e he;obtain⟨a1,a2,a3,a4,a5⟩:=hi.ent _ _ h2;obtain⟨b1,b2,b3,b4,b5⟩:=lentB _ _ _ a;refine⟨b5,by rw[b2,a2],by rw[b3,a3],by rw[b4];exact a4,?_⟩;rw[b1,b4];rcases a5 with a5|⟨b',cs,T,g,Z,H,hsz,hrw⟩
   .exact .inl a5
   .exact .inr ⟨b',cs,T,g,λh=>Z ((W _).1 h),H,hsz,Va.free hsub0 rfl hfl hrw⟩
  .obtain⟨j,v,S,l,a,h2,rfl,-⟩:=r i e he;obtain⟨j',R,S',l',h1',h2',rfl,-⟩:=r Q e' q;rw[(lentB _ _ _ a).1]at hb;rw[(lentB _ _ _ h1').1]at g;obtain rfl:=hi.apart j j' _ _ h2 h2' rfl rfl b hb g;exact rR hn _ _ _ _ _ a h1'
 have s:∀b,Jg (zb G (oy ρ m) ρ) (Sz L) b->∃(j:Nat) (e:Ent),m[j]?=M e/\e.isLive=a35/\G.B j=M b/\tx ρ j=a36:=by
  rintro b ⟨i,e,he,hl,j6⟩;obtain⟨j,v,S,l,a,h2,rfl,-⟩:=r i e he;rw[(lentB _ _ _ a).1]at j6;exact⟨j,_,h2,rfl,j6,bW a⟩
 refine(h.2 _ w vs hv1 hi0).mono ?_;rintro e w' ⟨v,d,m',G',rfl,⟨rfl,rfl⟩,hvd,I,f⟩;have olt:∀i x,m[i]?=M x->x.isLive=a35->∀b,G.B i=M b->b<w.heap.size/\¬G.F b:=λi x hx hl b hb=>(hi.ent i x hx).lt hl hb;have same:∀(i j:Nat) vv,ρ[i]?=M (M j,vv)->G'.B i=G.B j/\G'.S i=G.S j/\G'.N i=G.N j/\G'.C i=G.C j:=by
  intro i j vv t;have hi2:i<(zb G (oy ρ m) ρ).n:=qH t;obtain⟨j',R,S,l,a,h2,Y⟩:=E i _ t;have he:(Sz L)[i]?=M (k? S 0 l):=by simp[Sz,h2]
  have hV:=(I.ent i _ he).1;obtain⟨b1,b2,b3,b4,b5⟩:=lentB _ _ _ t;rcases f.le.id i hi2 with⟨c1,c2,c3,c4,c5⟩|c
  .exact⟨by rw[c2,b1],by rw[c3,b2],by rw[c4,b3],by rw[c5,b4]⟩
  .rw[hV]at c;omega
 have nF:∀i x,m[i]?=M x->x.isLive=a35->∀b,G.B i=M b->¬G'.F b:=by
  intro i x hx hl b hb Z;have j8:=olt i x hx hl b hb;cases j4:tx ρ i
  .obtain⟨Q,vv,A⟩:=YS j4;obtain⟨j',R,S,l,a,h2,Y⟩:=E Q _ A;have he:(Sz L)[Q]?=M (k? S 0 l):=by simp[Sz,h2]
   obtain⟨-,-,-,-,a5⟩:=I.ent Q _ he;have j6:=(same _ _ _ A).1;rcases a5 with a5|⟨b',cs,T,g,hF',-⟩
   .rw[j6,hb]at a5;simp at a5
   .rw[j6,hb]at g;injection g with g;subst g;exact hF' Z
  .rcases f.newF b j8.1 Z with a|a
   .exact j8.2 ((W _).1 a)
   .obtain⟨j,e',q,z,y,u⟩:=s b a;obtain rfl:=hi.apart i j _ _ hx q hl z b hb y;rw[j4]at u;cases u
 have hle:Le G w { G with F:=G'.F } w':=⟨λb hb=>f.le.F b (.inl hb),λb hb=>f.le.heap b (.inl hb),Nat.le_refl _,λi _=>.inl l5⟩;have hsub:V' G w { G with F:=G'.F } w':=⟨λb hb=>f.le.F b (.inl hb),λb hb=>f.le.heap b (.inl hb)⟩;have O:V' G' w' { G with F:=G'.F } w':=⟨λ_ h=>h,λ_ _=>rfl⟩;refine⟨v,d,m,{ G with F:=G'.F },rfl,⟨rfl,rfl⟩,VRel.free O ho hvd,⟨hi.n,I.F,?_,hi.apart,I.gl.bare λ_ h=>h⟩,⟨hle,f.os,f.tape,f.output,f.size,?_,?_,?_⟩⟩
 .intro i x hx;by_cases X:x.isLive=a35
  .cases j4:tx ρ i
   .obtain⟨Q,vv,A⟩:=YS j4;obtain⟨j',R,S,l,a,h2,Y⟩:=E Q _ A;simp only[H?,T!]at a;obtain⟨rfl,rfl⟩:=a;rw[Y]at hx;injection hx with hx;subst hx;have he:(Sz L)[Q]?=M (k? S 0 l):=by simp[Sz,h2]
    obtain⟨a1,a2,a3,a4,a5⟩:=I.ent Q _ he;obtain⟨b1,b2,b3,b4⟩:=same _ _ _ A;obtain⟨e1,e2,e3,e4,-⟩:=hi.ent _ _ Y;refine⟨e1,e2,e3,e4,?_⟩;rw[b1,b4]at a5;rcases a5 with a5|⟨b',cs,T,g,hF',H,hsz,hrw⟩
    .exact .inl a5
    .exact .inr ⟨b',cs,T,g,hF',H,hsz,Va.free O rfl (hf _ (uab h2)) hrw⟩
   .refine(hi.ent i x hx).mono hle l5 (λb hb=>?_) (λb hb _ Z=>absurd Z (nF i x hx X b hb));refine f.keep b (olt i x hx X b hb).1 λK=>?_;obtain⟨j,e',q,z,y,u⟩:=s b K;obtain rfl:=hi.apart i j _ _ hx q X z b hb y;rw[j4]at u;cases u
  .cases x with
   |gone=>trivial
   |_=>simp[Ent.isLive]at X
 .intro b hb hno;refine f.keep b hb λK=>?_;obtain⟨j,e',q,z,y,-⟩:=s b K;exact hno ⟨j,e',q,z,y⟩
 .intro b hb Z;rcases f.newF b hb Z with a|a
  .exact .inl ((W _).1 a)
  .obtain⟨j,e',q,z,y,-⟩:=s b a;exact .inr ⟨j,e',q,z,y⟩
 .rintro b hb ⟨i,x,hx,lx,j6⟩;exact⟨i,x,hx,lx,j6⟩
theorem Ly.of{a:List D}(n:Nat) (K:Kf P k) (h:T P L.length K.F.code (EI L.length K.F.results ⟨[o],Sz L⟩) ⟨a++Tm.ds n [],Sz L⟩)
 (hf:∀p∈L,oa p.2=a35) (ho:xa o=a35:=by exact FrO.h) (hn:K.F.ntmps=a.length+n:=by rfl):Ly P k a L o:=by
 intro m ρ ds d c b;have e:(Sz L).length=L.length:=by simp[Sz]
 exact au1 c b (jB (vA 9) d) hf ho (KH K n hn (by rw[e];exact h))
class T? (p:Prop) (q:outParam Prop):Prop where
 h:p->q
variable {p q:Prop}
section
variable {h:Hi} {k S:Nat} {p:Prop} {l ds ds':List D} {L:List (Nat×List D)} {o:D} {m:List Ent} {ρ:Ev} {f:D->List Ent->Prop} {R:St->Prop} {s:St} {dst:Option Tmp} {ids:List Nat}
def ycO[c:T? p (PF P k ds' S l)] (e:p) (hf:@Yi ⟨h⟩ (f (.own m.length 0) (m++[k? S 0 l]))) (a:KG (Sq [] [] 9) ds ds'):@Yi ⟨h⟩ (kg P k ds m f):=
 Ic ⟨(c.h e m).1,λG w vs hv hi=>(c.h e m).2 G w vs ((OI (jB (vA 9) a)).1 vs hv) hi⟩ hf
def ycM[c:T? p (Ly P k ds' L o)] (e:p) (hf:@Yi ⟨h⟩ (f o m)) (hr:Qy ds=ρ) (b:KG (Sq ρ [] 9) ds ds') (a:Tx m ρ L) (hn:(ρ.filterMap (·.1)).Nodup):@Yi ⟨h⟩ (kg P k ds m f):=
 Ic (c.h e m ρ ds b a hn) hf
theorem RN{m m':List Ent}:∀{ρ:Ev}{L:List (Nat×List D)},(∀j∈ρ.filterMap (·.1),m'[j]?=m[j]?)->Tx m ρ L->Tx m' ρ L
 |[],[],_,_=>trivial
 |(M j,v,0)::os,(S,l)::L,hm,h=>⟨(hm j l5).trans h.1,RN (λi hi=>hm i l4) h.2⟩
 |[],_::_,_,h=>h.elim
 |(M _,_,0)::_,[],_,h=>h.elim
 |(M _,_,_+1)::_,[],_,h=>h.elim
 |(q6,_,_)::_,[],_,h=>by simp[Tx]at h
 |(q6,_,_)::_,_::_,_,h=>by simp[Tx]at h
 |(M _,_,_+1)::_,_::_,_,h=>by simp[Tx]at h
theorem ylM[c:T? p (Ly P k ds' L o)] (e:p) (hf:@Yi ⟨h⟩ (R (s.put dst o))) (hr:Qy ds=ρ) (d:KG (Sq ρ [] 9) ds ds') (b:Tx s.m ρ L) (hn:(ρ.filterMap (·.1)).Nodup) (hi:(ids.all λi=>s5 (i<s.m.length))=a35) (hj:((ρ.filterMap (·.1)).all λj=>ids.elem j)=a35):@Yi ⟨h⟩ (RB P k ds ids R s dst):=by
 refine⟨o,⟨λi hid=>l4,λm hm=>?_⟩,hf⟩;refine c.h e m ρ ds d (RN (λj a=>hm j ?_) b) hn;simp only[R']at hj;exact List.elem_iff.1 (hj j a)
end
section
variable {l:List D} {id Ta S:Nat} {x:Value} {os:Ev}
theorem aU5:Qy []=[]:=by simp[Qy]
theorem aU4:Qy (.own id Ta::l)=(M id,Ta,0)::Qy l:=by simp[Qy,cW]
theorem o_v:Qy (.v x::l)=Qy l:=by simp[Qy,cW]
theorem bz9[Fr e] {y:α}:Qy (e y::l)=Qy l:=by simp[Qy,wR (Fr.h (e:=e) y)]
theorem bz8[Fr e] {y:List α}:Qy (.sl S (y.map e)::l)=Qy l:=by simp[Qy,cW]
theorem aU6{a:List D}:Qy (.agg a::l)=Qy a++Qy l:=by simp[Qy,cW]
theorem zM:type_of% (ak (ak (ak @aU5 @aU4) (ak @o_v @bz8)) (ak (ak @aU6 @G!.{0}) @N'.{0})):=ak (ak (ak @aU5 @aU4) (ak @o_v @bz8)) (ak (ak @aU6 @G!.{0}) @N'.{0})
end
def aV0:Tx m [] []:=trivial
def aV1{v:Nat}{os:Ev}(h:m[j]?=M (k? S v l)) (h2:Tx m os L):Tx m ((M j,v,0)::os) ((S,l)::L):=⟨h,h2⟩
def aC0(a n:Int):Int:=a.fdiv ((2 ^ (min n.toNat IntKind.i64.bits):Nat):Int)
def bw6(a n:Int):Option Int:=if n<0 then q6 else M (aC0 a n)
def aV2(a b:Int):Int:=aa .i64 (Nat.land (a % RJ .i64).toNat (b % RJ .i64).toNat:Nat)
theorem N0:Zi .shr .i64 a .i64 n=if n<0 then q6 else M (.int .i64 (aC0 a n)):=by
 simp only[Zi,cond_eq_ite,w2,aC0]
theorem L0{b:Int}:Zi .and .i64 a .i64 b=M (.int .i64 (aV2 a b)):=by simp[Zi,qJ,aV2]
theorem ac8{l:List α}:(l.map e).take l.length=l.map e:=List.take_of_length_le l5
theorem bT{g:Int->Option β}{z:β}(h:(bw6 a n).bind g=M z):∃x,¬n<0/\aC0 a n=x/\g x=M z:=by
 obtain⟨x,b,h2⟩:=Rl h;unfold bw6 at b;split at b
 .cases b
 .exact⟨x,by assumption,J! b,h2⟩
def aY3:((1:Nat):Int)=1:=rfl
def zT:type_of% (ak (ak @N0 @L0) (ak @ac8 @aY3)):=ak (ak @N0 @L0) (ak @ac8 @aY3)
theorem T.nilown{P:a42}{c:C}{i:Nat}(d:s.t[i]?=M (.own id Ta)) (hm:s.m[id]?=M (k? S Ta [])) (h:T P N c K ⟨s.t.set i (.sl S []),s.m⟩):T P N c K s:=by
 intro code hc G w a hN hr;obtain⟨u,hu,hv⟩:=hr.t.getElem d;obtain⟨eV,-,eN,eC,-⟩:=hr.inv.ent id _ hm;have b:VRel G w (.sl S []) u:=by
  simp only[VRel]at hv⊢
  grind
 refine h code hc G w a hN ⟨hr.t.swap l4 (Paa.1 d).1 b,hr.inv,hr.defers⟩
end Go.Tm
