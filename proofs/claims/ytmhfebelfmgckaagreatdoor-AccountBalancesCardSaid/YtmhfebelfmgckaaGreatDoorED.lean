/-
  The engine: a part of the proof that trees of values are carried along by the program: no condition.
-/
import Derived.Test.YtmhfebelfmgckaaGreatDoorEC
open Go renaming Program->a44
open Option renaming some->M,none->s5
open Decidable renaming decide->s6
open Go.Tm.D renaming dead->d!
open Go.Tm.Ent renaming live->l!
open And renaming intro->ak
open Bool renaming and_eq_true->E!,true->a38,false->a39
open Eq renaming trans->I!
open List renaming all_eq_true->R',cons_append->G?,getD_cons_succ->Η,getD_cons_zero->tab,getElem?_cons_succ->Kab,getElem?_cons_zero->eab,getElem?_eq_some_iff->dab,getElem?_mapIdx->wae,map_congr_left->oac,map_id->Zae,mem_of_getElem?->Gab,nil_append->O!,replicate->k?
open Nat renaming add_sub_cancel_left->Wac,sub_zero->vad,zero_le->L!
open Option renaming map_some->Kac
open Option.some renaming inj->J',injEq->T'
open Prod.mk renaming injEq->H!
set_option linter.all false
namespace Go.Tm
variable {k S id j N Va:Nat}{l ds' pre post l':List D}{R:List (List Nat)->St->Prop}{d2 o:D}{rs:List RV}{s s':St}{m:List Ent}{f:D->List Ent->Prop}{fp ps:List (List Nat)}{i:List Operand}{ρ cuts ids j6 τ:List Nat}{pl:List (Option Nat)}{n a:Int}{dst:Option Tmp}{X σ:Type}{x0:σ}{K:Exit->St->Prop}{L:List (Nat×List D)}{S':σ->St}
variable {P:a44}
def qG(P:a44) (k:Nat) (ds:List D) (S:Nat) (l:List D):Prop:=∀m,CallT P k ds m λd m'=>d=.own m.length 0/\m'=m++[l! S 0 l]
theorem bn7{ds:List D}(r:oa ds=a38) (hl:oa l=a38) (h:CallT P k ds [] λd m'=>d=.own 0 0/\m'=[l! S 0 l]):qG P k ds S l:=by
 refine λm=>⟨h.1,λG w vs hv hi=>?_⟩;have A:=h.2 (Gh.bare G.F) w vs (VsRel.free (G:=G) (G':=Gh.bare G.F) ⟨λ_ h=>h,λ_ _=>rfl⟩ r hv) (NI hi.F (hi.gl.bare λ_ h=>h));refine A.mono ?_;rintro e w' ⟨v,d,m',G',rfl,⟨rfl,rfl⟩,t,g,c⟩;obtain⟨fV,fS,fN,fC,fB⟩:=g.ent 0 _ rfl;have hGn:=hi.n;have noO:∀b,¬Mg (Gh.bare G.F) [] b:=λb=>iG;have owned0:∀b,G'.B 0=M b->Mg G' [l! S 0 l] b:=λb hb=>⟨0,_,rfl,rfl,hb⟩;have newb:∀b,G'.B 0=M b->w.heap.size<=b:=λb hb=>by
  rcases Nat.lt_or_ge b w.heap.size with h|h
  .exact(noO b (c.newB b h (owned0 b hb))).elim
  omega
 have hF:∀b,b<w.heap.size->G'.F b->G.F b:=λb hb hf=>by
  rcases c.newF b hb hf with h|h
  .exact h
  simp_all
 have p:U' G' w' ⟨G'.F,G.n+1,λi=>if i=G.n then G'.B 0 else G.B i,λi=>if i=G.n then 0 else G.V i,λi=>if i=G.n then G'.S 0 else G.S i,λi=>if i=G.n then G'.N 0 else G.N i,λi=>if i=G.n then G'.C 0 else G.C i⟩ w':=⟨λ_ h=>h,λ_ _=>rfl⟩;have o:Le G w ⟨G'.F,G.n+1,λi=>if i=G.n then G'.B 0 else G.B i,λi=>if i=G.n then 0 else G.V i,λi=>if i=G.n then G'.S 0 else G.S i,λi=>if i=G.n then G'.N 0 else G.N i,λi=>if i=G.n then G'.C 0 else G.C i⟩ w':=by
  refine⟨λb hb=>c.le.F b hb,λb hb=>c.le.heap b hb,o0,λi hi=>.inl ?_⟩
  grind
 have a:∀i x,(m++[l! S 0 l])[i]?=M x->(m[i]?=M x/\i≠G.n)\/(i=G.n/\x=l! S 0 l):=by
  grind
 have z:∀i x,m[i]?=M x->x.isLive=a38->∀b,G.B i=M b->b<w.heap.size/\¬G.F b:=λi x hx hl b hb=>(hi.ent i x hx).lt hl hb;refine⟨v,_,_,⟨G'.F,G.n+1,λi=>if i=G.n then G'.B 0 else G.B i,λi=>if i=G.n then 0 else G.V i,λi=>if i=G.n then G'.S 0 else G.S i,λi=>if i=G.n then G'.N 0 else G.N i,λi=>if i=G.n then G'.C 0 else G.C i⟩,rfl,⟨rfl,rfl⟩,?_,⟨l5,g.F,?_,?_,g.gl.bare λ_ h=>h⟩,⟨o,c.os,c.tape,c.output,c.size,?_,?_,?_⟩⟩
 .simp only[VRel]at t⊢
  grind
 .intro i x hx;rcases a i x hx with⟨f,h2⟩|⟨rfl,rfl⟩
  .by_cases s:x.isLive=a38
   .refine(hi.ent i x f).mono o o4 (λb hb=>?_) (λb hb _ hf=>?_)
    .exact c.keep b (z i x f s b hb).1 (noO b)
    grind
   .cases x with
    |gone=>trivial
    |_=>grind[Ent.isLive]
  .refine⟨o0,l5,l5,l5,?_⟩;rcases fB with h|⟨b,cs,T,f,h2,q,E,H⟩
   .simp_all
   .exact .inr ⟨b,cs,T,l5,h2,q,l5,by simpa using Xa.free p rfl hl H⟩
 .intro i j x y hx I u j9 b hb hb';rcases a i x hx with⟨f,h2⟩|⟨rfl,rfl⟩<;>rcases a j y I with⟨q,E⟩|⟨rfl,rfl⟩
  .exact hi.apart i j x y f q u j9 b l5 l5
  all_goals grind
 .intro b hb hno;exact c.keep b hb (noO b)
 .simp_all
 .rintro b hb ⟨i,x,hx,u,hB⟩;rcases a i x hx with⟨f,h2⟩|⟨rfl,rfl⟩
  .exact⟨i,x,f,u,l5⟩
  grind
theorem qG.den{ds:List D}(a:oa ds=a38) (hl:oa l=a38) (h:qG P k ds S l):e? P k ds (.sl S l):=by
 refine CN a ((h []).mono ?_);rintro d m' ⟨rfl,rfl⟩;exact .Lg o0 rfl (q!.free hl) .nil
theorem iV{ds:List D}{R:D->List Ent->Prop}{m2:List Ent}(h:CallT P k ds [] R) (ht:∀d m',R d m'->f' 0 ⟨[d],m'⟩ ⟨[d2],m2⟩):CallT P k ds [] λd m'=>d=d2/\m'=m2:=by
 refine⟨h.1,λG w vs hv hi=>(h.2 G w vs hv hi).mono ?_⟩;rintro e w' ⟨v,d,m',G',rfl,m,hvd,b,o⟩;have hr:o? G' w' { tmps:=#[v],defers:=[] } ⟨[d],m'⟩:=⟨by simp only[VsRel];simp_all,b,rfl⟩;obtain⟨a,c,l⟩:=Ox (ht d m' m) (L! _) hr;have g:=c.t;simp only[VsRel]at g;obtain⟨u,us,he,j,_⟩:=g;injection he with he _;subst he;have f:=(o.toN (L! _)).trans l;have i:0=G.n:=by rw[hi.n];rfl
 rw[i]at f;exact⟨_,d2,m2,a,rfl,⟨rfl,rfl⟩,j,c.inv,f.toStep⟩
def bu6(rs:List RV) (S:Nat) (l:List D) (e:Exit) (s:St):Prop:=
 match e with
 |.normal=>∃S',f' 0 s S'/\∃ds,Tb S' rs=M ds/\f' 0 ⟨[Vt ds],S'.m⟩ ⟨[.own 0 0],[l! S 0 l]⟩
 |.ret=>∃S',f' 0 s S'/\∃ds,Tb S' rs=M ds/\f' 0 ⟨[Vt ds],S'.m⟩ ⟨[.own 0 0],[l! S 0 l]⟩
 |_=>False
def aq1(r:Option (List D)) (m:List Ent) (S:Nat) (l:List D):Prop:=∃ds,r=M ds/\f' 0 ⟨[Vt ds],m⟩ ⟨[.own 0 0],[l! S 0 l]⟩
theorem Tz(h:aq1 (Tb s rs) s.m S l):bu6 rs S l .ret s:=by
 obtain⟨ds,a,h2⟩:=h;exact⟨s,.refl s,ds,a,h2⟩
theorem Wz{ds:List D}:aq1 (M ds) m S l=f' 0 ⟨[Vt ds],m⟩ ⟨[.own 0 0],[l! S 0 l]⟩:=by simp[aq1]
@[congr] theorem bo5{r a:Option (List D)} {m:List Ent} {S:Nat} {l:List D} (h:r=a):aq1 r m S l=aq1 a m S l:=by rw[h]
instance {rs:List RV}{S:Nat}{l:List D}:K! 0 (bu6 rs S l):=⟨by
 rintro s S' h ⟨S1,a,h2⟩;exact⟨S1,h.trans a,h2⟩⟩
theorem qG.at{F:Fun}{ds:List D}(n:Nat) (i:rC P k=M F) (b:((P.funcs[k]?).map λfn=>fn.name == "runtime.NumGoroutine")=M a39)
 (c:oa ds=a38) (hl:oa l=a38) (hn:F.ntmps=ds.length+n) (h:T P 0 F.code (bu6 F.results S l) ⟨ds++Tm.ds n [],[]⟩):qG P k ds S l:=by
 refine bn7 c hl (iV (R:=λd m'=>f' 0 ⟨[d],m'⟩ ⟨[.own 0 0],[l! S 0 l]⟩) (Tn i b ?_) λ_ _ h=>h);rw[hn,Wac,←eK];refine T.clo (h.mono ?_);have key:∀(e:Exit) (s:St),(∀s',kH F.results (λd m'=>f' 0 ⟨[d],m'⟩ ⟨[.own 0 0],[l! S 0 l]⟩) e s' = ∃ds,Tb s' F.results=M ds/\f' 0 ⟨[Vt ds],s'.m⟩ ⟨[.own 0 0],[l! S 0 l]⟩)->(∃S',f' 0 s S'/\∃ds,Tb S' F.results=M ds/\f' 0 ⟨[Vt ds],S'.m⟩ ⟨[.own 0 0],[l! S 0 l]⟩)->HU 0 (kH F.results λd m'=>f' 0 ⟨[d],m'⟩ ⟨[.own 0 0],[l! S 0 l]⟩) e s:=by
  intro e s he ⟨S,g,h2⟩ G w a hN hr;obtain⟨G',h3,h4⟩:=Ox g hN hr
  grind
 intro e s f
 cases e with
 |normal=>exact key _ s (λ_=>rfl) f
 |ret=>exact key _ s (λ_=>rfl) f
 |_=>exact(f:False).elim
def cs8{ds:List D}(h:qG P k ds' S l) (hf:f (.own m.length 0) (m++[l! S 0 l])) (a:ua ds ds'):kg P k ds m f:=
 Lc (l7 a (h m)) hf
inductive Q where
 |p (n:Nat)
 |k (n:Nat)
 |s (d:D)
 |y (i:Nat)
 |g (q:List Q)
 |i (n:Nat)
 |w (n:Nat)
 |u (q:List Q)
 |x (q:List Q)
abbrev Cm:=D×List D×List (Value×D)
inductive M1 where
 |o (j:Nat)
 |O (j:Nat)
 |H (j:Nat) (q:List Q)
 |C (j:Nat) (l:List D)
 |B (j u:Nat) (l:List D)
 |c (j:Nat) (l:List D)
 |n (S:Nat) (l:List D)
 |h (j:Nat) (q:List Q)
 |m (j:Nat) (l:List (Value×D))
 |ci (j i:Nat)
 |Ci (j i:Nat)
 |Bi (j u i:Nat)
 |ni (S i:Nat)
 |mi (j i:Nat)
 |nq (S:Nat) (q:List Q)
structure Ed where
 q:List Q
 m:List M1
def qT:Nat->Nat->Q
 |0,i=>.k i
 |1,i=>.p i
 |2,i=>.i i
 |3,i=>.s (.own i 0)
 |4,i=>.y i
 |_,i=>.s (.own i 1)
def qN:List Nat->List Q
 |[]=>[]
 |n::l=>qT (n % 8) (n / 8)::qN l
def mT:Nat->Nat->M1
 |0,r=>.o r
 |1,r=>.O r
 |2,r=>.ci (r / 32) (r % 32)
 |3,r=>.Ci (r / 32) (r % 32)
 |4,r=>.ni (r / 32) (r % 32)
 |5,r=>.mi (r / 32) (r % 32)
 |_,r=>.h (r / 32) [.i (r % 32)]
def mN:List Nat->List M1
 |[]=>[]
 |n::l=>mT (n % 8) (n / 8)::mN l
def EN(q m:List Nat):Ed:=⟨qN q,mN m⟩
def tT:Nat->Nat->Option Nat×Nat×Nat
 |0,r=>(M (r % 64),r / 64,0)
 |1,r=>(s5,r,0)
 |_,r=>(M (r % 64),r / 64,1)
def tN:List Nat->List (Option Nat×Nat×Nat)
 |[]=>[]
 |n::l=>tT (n % 4) (n / 4)::tN l
def tI:Nat->List Ent->List (Option Nat×Nat×Nat)
 |_,[]=>[]
 |i,_::l=>(M i,0,0)::tI (i+1) l
inductive Hi:Type 1 where
 |o
 |b (l r:Hi)
 |z (n:Nat) (x:Hi)
 |t (ρ:List Nat)
 |a (ps:List (List Nat)) (x:Hi)
 |g (ps:List (List Nat)) (pl:List (Option Nat)) (x:Hi)
 |f (S:Ed) (ρ:List Nat) (x:Hi)
 |d (j6:List Nat) (ρ:List Nat) (x:Hi)
 |j (S:Ed) (l r:Hi)
 |e (S:Ed) (l r:Hi)
 |l (S B:Ed) (ρ:List Nat) (x y:Hi)
 |u (S:Ed) (ρ:List Nat) (x:Hi)
 |i {P:a44} {k:Nat} (K:Kf P k) (w:Nat) (S:Ed) (x y:Hi)
 |c {P:a44} {k:Nat} (K:Kf P k) (w:Nat) (x:Hi)
 |v (x:Hi)
variable {h x:Hi}
def ai:List M1->Nat->Nat->Option (Nat×Bool)
 |[],_,_=>s5
 |.o k::l,j,i=>bif k==j then M (i,a39)else ai l j (i+1)
 |.c k _::l,j,i=>bif k==j then M (i,a39)else ai l j (i+1)
 |.h k _::l,j,i=>bif k==j then M (i,a39)else ai l j (i+1)
 |.O k::l,j,i=>bif k==j then M (i,a38)else ai l j (i+1)
 |.H k _::l,j,i=>bif k==j then M (i,a38)else ai l j (i+1)
 |.C k _::l,j,i=>bif k==j then M (i,a38)else ai l j (i+1)
 |.B k _ _::l,j,i=>bif k==j then M (i,a38)else ai l j (i+1)
 |.n _ _::l,j,i=>ai l j (i+1)
 |.m k _::l,j,i=>bif k==j then M (i,a39)else ai l j (i+1)
 |.ci k _::l,j,i=>bif k==j then M (i,a39)else ai l j (i+1)
 |.Ci k _::l,j,i=>bif k==j then M (i,a38)else ai l j (i+1)
 |.Bi k _ _::l,j,i=>bif k==j then M (i,a38)else ai l j (i+1)
 |.ni _ _::l,j,i=>ai l j (i+1)
 |.nq _ _::l,j,i=>ai l j (i+1)
 |.mi k _::l,j,i=>bif k==j then M (i,a39)else ai l j (i+1)
def rnP(o:Option (Nat×Bool)) (v:Nat) (f:Nat->Nat->D):D:=match o with|some (i,b)=>f i (bif b then v else 0)|none=>d!
mutual
def Zz(ks:List M1) (m:List Ent):Nat->D->D
 |n+1,.own j v=>rfO ks m n v m[j]? (ai ks j 0)
 |n+1,.ref j v x s=>rfR ks m n v x s m[j]? (ai ks j 0)
 |_+1,.view j v lo k=>rnP (ai ks j 0) v λi v=>.view i v lo k
 |_+1,.mp j=>rnP (ai ks j 0) 0 λi _=>.mp i
 |n+1,.agg l=>.agg (XB ks m n l)
 |n+1,.tup l=>.tup (XB ks m n l)
 |n+1,.fn k a c=>.fn k (XB ks m n a) (XB ks m n c)
 |n+1,.pt d=>.pt (Zz ks m n d)
 |_,d=>d
def rfO(ks:List M1) (m:List Ent) (n v:Nat):Option Ent->Option (Nat×Bool)->D
 |_,M (i,b)=>.own i (bif b then v else 0)
 |some (l! S _ l),s5=>.sl S (XB ks m n l)
 |_,s5=>d!
def rfR(ks:List M1) (m:List Ent) (n v x s:Nat):Option Ent->Option (Nat×Bool)->D
 |_,M (i,b)=>.ref i (bif b then v else 0) x s
 |some (l! _ _ (d::_)),s5=>.pt (Zz ks m n d)
 |_,s5=>d!
def XB(ks:List M1) (m:List Ent) (n:Nat):List D->List D
 |[]=>[]
 |d::l=>Zz ks m n d::XB ks m n l
end
mutual
theorem yP(ks:List M1) (m:List Ent):∀(n:Nat) (d:D),xa d=a38->Zz ks m n d=d
 |n+1,.agg l,h=>by simp only[xa]at h;simp only[Zz,Dg ks m n l h]
 |n+1,.tup l,h=>by simp only[xa]at h;simp only[Zz,Dg ks m n l h]
 |n+1,.fn k a c,h=>by simp only[xa,E!]at h;simp only[Zz,Dg ks m n a h.1,Dg ks m n c h.2]
 |n+1,.pt d,h=>by simp only[xa]at h;simp only[Zz,yP ks m n d h]
 |_,.own _ _,h=>by grind[xa]
 |_,.view _ _ _ _,h=>by grind[xa]
 |_,.ref _ _ _ _,h=>by grind[xa]
 |_,.mp _,h=>by grind[xa]
 |n,.v _,_=>by grind[Zz]
 |n,.sl _ _,_=>by grind[Zz]
 |n,.ifc _ _,_=>by grind[Zz]
 |n,d!,_=>by grind[Zz]
 |0,.agg _,_=>by simp only[Zz]
 |0,.tup _,_=>by simp only[Zz]
 |0,.fn _ _ _,_=>by simp only[Zz]
 |0,.pt _,_=>by simp only[Zz]
theorem Dg(ks:List M1) (m:List Ent) (n:Nat):∀l:List D,oa l=a38->XB ks m n l=l
 |[],_=>by grind[XB]
 |d::l,h=>by simp only[oa,E!]at h;simp only[XB,yP ks m n d h.1,Dg ks m n l h.2]
end
def fW:List D->List D
 |[]=>[]
 |_::l=>d!::fW l
def gC(c:List Cm) (n:Nat):Cm:=c.getD n (d!,[],[])
def U64:D->D
 |.v (.int _ n)=>.v (.int .u64 n)
 |d=>d
mutual
def qD(c:List Cm):Q->D
 |.i n=>(gC c n).1
 |.w n=>U64 (gC c n).1
 |.s d=>d
 |.u l=>.tup (cY c l)
 |.x l=>.agg (cY c l)
 |_=>d!
def cY(c:List Cm):List Q->List D
 |[]=>[]
 |x::l=>qD c x::cY c l
end
def vx(c:List Cm) (ks:List M1) (m:List Ent) (u:List D):List Q->List D->List D
 |[],l=>fW l
 |_::_,[]=>[]
 |.p 0::q,l=>vx c ks m u q l
 |.p (n+1)::q,d::l=>Zz ks m 9 d::vx c ks m u (.p n::q) l
 |.k 0::q,l=>vx c ks m u q l
 |.k (n+1)::q,d::l=>d!::vx c ks m u (.k n::q) l
 |.s e::q,d::l=>e::vx c ks m u q l
 |.y i::q,_::l=>Zz ks m 9 (u.getD i d!)::vx c ks m u q l
 |.i n::q,_::l=>(gC c n).1::vx c ks m u q l
 |.w n::q,_::l=>U64 (gC c n).1::vx c ks m u q l
 |.u r::q,_::l=>.tup (cY c r)::vx c ks m u q l
 |.x r::q,_::l=>.agg (cY c r)::vx c ks m u q l
 |.g r::q,.agg b::l=>.agg (vx c ks m u r b)::vx c ks m u q l
 |.g _::q,d::l=>d::vx c ks m u q l
def eO(ks:List M1) (m:List Ent):Option Ent->Ent
 |some (l! S v l)=>l! S 0 (XB ks m 9 l)
 |some e=>e
 |none=>.gone
def eX(b:List D):Option Ent->Ent
 |some (l! S v _)=>l! S v b
 |some e=>e
 |none=>.gone
def eV(ks:List M1) (m:List Ent):Option Ent->Ent
 |some (l! S v l)=>l! S v (XB ks m 9 l)
 |some e=>e
 |none=>.gone
def eW(c:List Cm) (ks:List M1) (m:List Ent) (q:List Q):Option Ent->Ent
 |some (l! S v l)=>l! S v (vx c ks m [] q l)
 |some e=>e
 |none=>.gone
def eC(b:List D):Option Ent->Ent
 |some (l! S v _)=>l! S 0 b
 |some e=>e
 |none=>.gone
def eH(c:List Cm) (ks:List M1) (m:List Ent) (q:List Q):Option Ent->Ent
 |some (l! S v l)=>l! S 0 (vx c ks m [] q l)
 |some e=>e
 |none=>.gone
def eB(u:Nat) (b:List D):Option Ent->Ent
 |some (l! S _ _)=>l! S u b
 |some e=>e
 |none=>.gone
def FV(c:List Cm) (ks:List M1) (m:List Ent):M1->Ent
 |.o j=>eO ks m m[j]?
 |.c j l=>eC l m[j]?
 |.n S l=>l! S 0 l
 |.h j q=>eH c ks m q m[j]?
 |.O j=>eV ks m m[j]?
 |.C j l=>eX l m[j]?
 |.B j u l=>eB u l m[j]?
 |.H j q=>eW c ks m q m[j]?
 |.m _ l=>.mp l
 |.ci j i=>eC (gC c i).2.1 m[j]?
 |.ni S i=>l! S 0 (gC c i).2.1
 |.Ci j i=>eX (gC c i).2.1 m[j]?
 |.Bi j u i=>eB u (gC c i).2.1 m[j]?
 |.mi _ i=>.mp (gC c i).2.2
 |.nq S q=>l! S 0 (cY c q)
def edM(c:List Cm) (ks:List M1) (m:List Ent):List M1->List Ent
 |[]=>[]
 |x::l=>FV c ks m x::edM c ks m l
def eFz(ks:List M1) (m:List Ent):Option Ent->Ent
 |some (l! S _ l)=>l! S 0 (XB ks m 9 l)
 |some e=>e
 |none=>.gone
def eGz(ks:List M1) (m:List Ent):Option Ent->Ent
 |some (l! S v l)=>l! S v (XB ks m 9 l)
 |some e=>e
 |none=>.gone
def edF(ks:List M1) (m:List Ent):List M1->List Ent
 |[]=>[]
 |.o j::l=>eFz ks m m[j]?::edF ks m l
 |.O j::l=>eGz ks m m[j]?::edF ks m l
 |_::l=>edF ks m l
def fd(ks:List M1) (s:St):St:=⟨XB ks s.m 9 s.t,edF ks s.m ks⟩
def ed(c:List Cm) (E:Ed) (s:St):St:=⟨vx c E.m s.m s.t E.q s.t,edM c E.m s.m E.m⟩
section
variable {cs:List Cm} {ks l:List M1} {i j k n S:Nat} {d e:D} {b c u:List D} {q:List Q} {t:List D} {m r:List Ent} {f:Nat->Nat->D} {x:M1} {v lo y:Nat} {a:Ent}
def cA7:ed cs ⟨q,ks⟩ ⟨t,m⟩=⟨vx cs ks m t q t,edM cs ks m ks⟩:=d?
def aY0:ai [] j i=s5:=d?
def aX9:ai (.o k::l) j i=bif k==j then M (i,a39)else ai l j (i+1):=d?
def aX5:ai (.O k::l) j i=bif k==j then M (i,a38)else ai l j (i+1):=d?
def aX4:ai (.H k q::l) j i=bif k==j then M (i,a38)else ai l j (i+1):=d?
def aX3:ai (.C k b::l) j i=bif k==j then M (i,a38)else ai l j (i+1):=d?
def aX8:ai (.c k b::l) j i=bif k==j then M (i,a39)else ai l j (i+1):=d?
def aX7:ai (.h k q::l) j i=bif k==j then M (i,a39)else ai l j (i+1):=d?
def aX6:ai (.n S b::l) j i=ai l j (i+1):=d?
def aX2{a:List (Value×D)}:ai (.m k a::l) j i=bif k==j then M (i,a39)else ai l j (i+1):=d?
def cA9{a:List (Value×D)}:FV cs ks m (.m j a)=.mp a:=d?
def cz9{a:List (Value×D)}:eO ks m (M (.mp a))=.mp a:=d?
def cw4{a:List (Value×D)}:eFz ks m (M (.mp a))=.mp a:=d?
def co5:rnP (M (i,a38)) v f=f i v:=d?
def co4:rnP (M (i,a39)) v f=f i 0:=d?
def co6:rnP s5 v f=d!:=d?
def cB6:FV cs ks m (.o j)=eO ks m m[j]?:=d?
def cA5:eO ks m (M (l! S v b))=l! S 0 (XB ks m 9 b):=d?
def cA4:eC c (M (l! S v b))=l! S 0 c:=d?
def cA3:eH cs ks m q (M (l! S v b))=l! S 0 (vx cs ks m [] q b):=d?
def cB5:FV cs ks m (.c j c)=eC c m[j]?:=d?
def cB4:FV cs ks m (.n S b)=l! S 0 b:=d?
def cB2:FV cs ks m (.O j)=eV ks m m[j]?:=d?
def cB1:FV cs ks m (.H j q)=eW cs ks m q m[j]?:=d?
def cA2:eV ks m (M (l! S v b))=l! S v (XB ks m 9 b):=d?
def cA1:eW cs ks m q (M (l! S v b))=l! S v (vx cs ks m [] q b):=d?
def cp5:ai (.B k v b::l) j i=bif k==j then M (i,a38)else ai l j (i+1):=d?
def cA8:FV cs ks m (.B j v c)=eB v c m[j]?:=d?
def cz8:eB k c (M (l! S v b))=l! S k c:=d?
def cB0:FV cs ks m (.C j c)=eX c m[j]?:=d?
def cA0:eX c (M (l! S v b))=l! S v c:=d?
def cB3:FV cs ks m (.h j q)=eH cs ks m q m[j]?:=d?
def cy5:edM cs ks m []=[]:=d?
def cy4:edM cs ks m (x::l)=FV cs ks m x::edM cs ks m l:=d?
def cy7:fW []=[]:=d?
def cy6:fW (d::b)=d!::fW b:=d?
theorem cy3:vx cs ks m u [] b=fW b:=by grind[vx]
theorem cy2:vx cs ks m u (.p 0::q) b=vx cs ks m u q b:=by cases b<;>cases q<;>simp only[vx,fW]
theorem cy1:vx cs ks m u (.p (n+1)::q) (d::b)=Zz ks m 9 d::vx cs ks m u (.p n::q) b:=by grind[vx]
theorem cy0:vx cs ks m u (.k 0::q) b=vx cs ks m u q b:=by cases b<;>cases q<;>simp only[vx,fW]
theorem cx9:vx cs ks m u (.k (n+1)::q) (d::b)=d!::vx cs ks m u (.k n::q) b:=by grind[vx]
theorem cx8:vx cs ks m u (.s e::q) (d::b)=e::vx cs ks m u q b:=by grind[vx]
theorem cx7{g:List Q}:vx cs ks m u (.g g::q) (.agg c::b)=.agg (vx cs ks m u g c)::vx cs ks m u q b:=by grind[vx]
theorem cx6{i:Nat}:vx cs ks m u (.y i::q) (d::b)=Zz ks m 9 (u.getD i d!)::vx cs ks m u q b:=by grind[vx]
theorem cA6{a b:List Nat}:EN a b=⟨qN a,mN b⟩:=d?
def cp4:qN []=[]:=d?
def cp3{a:List Nat}:qN (n::a)=qT (n % 8) (n / 8)::qN a:=d?
def cp2:qT 0 i=.k i:=d?
def cp1:qT 1 i=.p i:=d?
def cp0:qT 2 i=.i i:=d?
def co9:qT 3 i=.s (.own i 0):=d?
def co8:qT 4 i=.y i:=d?
def co7:qT 5 i=.s (.own i 1):=d?
def aY9:mN []=[]:=d?
def aY8{a:List Nat}:mN (n::a)=mT (n % 8) (n / 8)::mN a:=d?
def aY7:mT 0 i=.o i:=d?
def aY6:mT 1 i=.O i:=d?
def aY5:mT 2 i=.ci (i / 32) (i % 32):=d?
def aY4:mT 3 i=.Ci (i / 32) (i % 32):=d?
def aY3:mT 4 i=.ni (i / 32) (i % 32):=d?
def aY2:mT 5 i=.mi (i / 32) (i % 32):=d?
def aY1:mT 6 i=.h (i / 32) [.i (i % 32)]:=d?
def co1:tN []=[]:=d?
def co0{a:List Nat}:tN (n::a)=tT (n % 4) (n / 4)::tN a:=d?
def cn9:tT 0 i=(M (i % 64),i / 64,0):=d?
def cn8:tT 1 i=(s5,i,0):=d?
def cn7:tT 2 i=(M (i % 64),i / 64,1):=d?
def co3:tI i []=[]:=d?
def co2:tI i (a::r)=(M i,0,0)::tI (i+1) r:=d?
def cz6{x:Cm}{l:List Cm}:gC (x::l) 0=x:=d?
def cz5{x:Cm}{l:List Cm}:gC (x::l) (n+1)=gC l n:=d?
def cq0:ai (.ci k n::l) j i=bif k==j then M (i,a39)else ai l j (i+1):=d?
def cp9:ai (.Ci k n::l) j i=bif k==j then M (i,a38)else ai l j (i+1):=d?
def cp8:ai (.Bi k v n::l) j i=bif k==j then M (i,a38)else ai l j (i+1):=d?
def cp7:ai (.ni k n::l) j i=ai l j (i+1):=d?
def cp6:ai (.mi k n::l) j i=bif k==j then M (i,a39)else ai l j (i+1):=d?
def cz4:FV cs ks m (.ci j n)=eC (gC cs n).2.1 m[j]?:=d?
def cz3:FV cs ks m (.Ci j n)=eX (gC cs n).2.1 m[j]?:=d?
def cz2:FV cs ks m (.Bi j v n)=eB v (gC cs n).2.1 m[j]?:=d?
def cz1:FV cs ks m (.ni S n)=l! S 0 (gC cs n).2.1:=d?
def cy9:ai (.nq k q::l) j i=ai l j (i+1):=d?
def cy8:FV cs ks m (.nq S q)=l! S 0 (cY cs q):=d?
def cz0:FV cs ks m (.mi j n)=.mp (gC cs n).2.2:=d?
theorem cx5{i:Nat}:vx cs ks m u (.i i::q) (d::b)=(gC cs i).1::vx cs ks m u q b:=by grind[vx]
theorem cx4{i:Nat}:vx cs ks m u (.w i::q) (d::b)=U64 (gC cs i).1::vx cs ks m u q b:=by grind[vx]
theorem cx3{r:List Q}:vx cs ks m u (.u r::q) (d::b)=.tup (cY cs r)::vx cs ks m u q b:=by grind[vx]
theorem cx2{r:List Q}:vx cs ks m u (.x r::q) (d::b)=.agg (cY cs r)::vx cs ks m u q b:=by grind[vx]
theorem cC3{i:Nat}:qD cs (.i i)=(gC cs i).1:=by simp only[qD]
theorem cC2{i:Nat}:qD cs (.w i)=U64 (gC cs i).1:=by simp only[qD]
theorem cC1:qD cs (.s d)=d:=by simp only[qD]
theorem cC0:qD cs (.u q)=.tup (cY cs q):=by simp only[qD]
theorem cB9:qD cs (.x q)=.agg (cY cs q):=by simp only[qD]
theorem cB8:cY cs []=[]:=by simp only[cY]
theorem cB7{x:Q}:cY cs (x::q)=qD cs x::cY cs q:=by simp only[cY]
theorem tD{k:IntKind}{n:Int}:U64 (.v (.int k n))=.v (.int .u64 n):=d?
def cw2:fd ks ⟨t,m⟩=⟨XB ks m 9 t,edF ks m ks⟩:=d?
theorem aW4:Zz ks m (n+1) (.own j v)=rfO ks m n v m[j]? (ai ks j 0):=by grind[Zz]
theorem aW3:Zz ks m (n+1) (.ref j v y k)=rfR ks m n v y k m[j]? (ai ks j 0):=by grind[Zz]
theorem ao7:Zz ks m (n+1) (.view j v lo k)=rnP (ai ks j 0) v λi v=>.view i v lo k:=by grind[Zz]
theorem ck0:Zz ks m (n+1) (.mp j)=rnP (ai ks j 0) 0 λi _=>.mp i:=by grind[Zz]
theorem aW7:Zz ks m (n+1) (.agg b)=.agg (XB ks m n b):=by grind[Zz]
theorem aW2:Zz ks m (n+1) (.tup b)=.tup (XB ks m n b):=by grind[Zz]
theorem ck7:Zz ks m (n+1) (.fn k b c)=.fn k (XB ks m n b) (XB ks m n c):=by grind[Zz]
theorem cj4:Zz ks m (n+1) (.pt d)=.pt (Zz ks m n d):=by grind[Zz]
theorem g_v{x:Value}:Zz ks m n (.v x)=.v x:=by grind[Zz]
theorem cj0:Zz ks m n (.sl S b)=.sl S b:=by grind[Zz]
theorem aW5:Zz ks m n (.ifc S d)=.ifc S d:=by grind[Zz]
theorem ap0:Zz ks m n d!=d!:=by grind[Zz]
theorem ck6{α:Type}{e:α->D} [Fr e] {x:α}:Zz ks m n (e x)=e x:=yP ks m n _ (Fr.h x)
theorem ck5:XB ks m n []=[]:=by grind[XB]
theorem ck4:XB ks m n (d::b)=Zz ks m n d::XB ks m n b:=by grind[XB]
theorem ck2{α:Type}{e:α->D} [Fr e] {x:List α}:XB ks m n (x.map e)=x.map e:=Dg ks m n _ (Fr.l x)
theorem cj8{o:Option Ent}:rfO ks m n v o (M (i,a39))=.own i 0:=by simp_all[rfO]
theorem cj7{o:Option Ent}:rfO ks m n v o (M (i,a38))=.own i v:=by simp_all[rfO]
theorem cj6:rfO ks m n v (M (l! S k b)) s5=.sl S (XB ks m n b):=by grind[rfO]
theorem cj5:rfO ks m n v (M .gone) s5=d!:=by simp[rfO]
theorem cz7{a:List (Value×D)}:eV ks m (M (.mp a))=.mp a:=d?
def cw3{a:List (Value×D)}:eGz ks m (M (.mp a))=.mp a:=d?
theorem cj3{o:Option Ent}:rfR ks m n v y k o (M (i,a39))=.ref i 0 y k:=by simp_all[rfR]
theorem cj2{o:Option Ent}:rfR ks m n v y k o (M (i,a38))=.ref i v y k:=by simp_all[rfR]
theorem cj1:rfR ks m n v y k (M (l! S j (d::b))) s5=.pt (Zz ks m n d):=by grind[rfR]
theorem cw6:eFz ks m (M (l! S v b))=l! S 0 (XB ks m 9 b):=d?
def cw5:eGz ks m (M (l! S v b))=l! S v (XB ks m 9 b):=d?
def cw1:edF ks m []=[]:=d?
def cw0:edF ks m (.o j::l)=eFz ks m m[j]?::edF ks m l:=d?
def cv9:edF ks m (.O j::l)=eGz ks m m[j]?::edF ks m l:=d?
def cq2{α:Type}{x y:α}:(bif a38 then x else y)=x:=d?
def cq1{α:Type}{x y:α}:(bif a39 then x else y)=y:=d?
end
def zl0:type_of% @eab.{0}:=@eab.{0}
def zl1:type_of% @Kab.{0}:=@Kab.{0}
def zl2:type_of% @Η.{0}:=@Η.{0}
def zl3:type_of% @tab.{0}:=@tab.{0}
def zf:=(ak (ak (ak (ak (ak @cw2 (ak @aW4 @aW3)) (ak (ak @ao7 @ck0) (ak @aW7 @aW2))) (ak (ak (ak @ck7 @cj4) (ak @g_v @cj0)) (ak (ak @aW5 @ap0) (ak @ck6 @ck5)))) (ak (ak (ak @ck4 (ak @ck2 @cj8)) (ak (ak @cj7 @cj6) (ak @cj5 @cj3))) (ak (ak (ak @cj2 @cj1) (ak @cw6 @cw5)) (ak (ak @cw3 @cw1) (ak @cw0 @aX2))))) (ak (ak (ak (ak @cw4 (ak @cv9 @aY0)) (ak (ak @aX9 @aX8) (ak @aX7 @aX6))) (ak (ak (ak @aX5 @aX4) (ak @aX3 @co5)) (ak (ak @co4 @co6) (ak @cq2 @cq1)))) (ak (ak (ak (ak @zl0 @zl1) (ak @aY9 @aY8)) (ak (ak @aY7 @aY6) (ak @aY5 @aY4))) (ak (ak (ak @aY3 @aY2) (ak @aY1 @cq0)) (ak (ak @cp9 @cp8) (ak @cp7 @cp6))))))
def zd:=(ak (ak @cy9 @cy8) (ak (ak (ak (ak @cx4 @cx3) (ak @cx2 (ak @cC3 @cC2))) (ak (ak @cC1 (ak @cC0 @cB9)) (ak @cB8 (ak @cB7 @tD)))) (ak (ak (ak (ak (ak (ak @cA7 (ak @aY0 @aX9)) (ak @aX8 (ak @aX7 @aX6))) (ak (ak @aX5 (ak @aX4 @aX3)) (ak (ak @co5 @co4) (ak @co6 @cB6)))) (ak (ak (ak @cB5 (ak @cB4 @cB3)) (ak @cB2 (ak @cB1 @cB0))) (ak (ak @cp5 (ak @cA8 @cz8)) (ak (ak @cA5 @cA4) (ak @cA3 @cA2))))) (ak (ak (ak (ak @cz7 (ak @cA1 @cA0)) (ak @aX2 (ak @cA9 @cz9))) (ak (ak @cy5 (ak @cy4 @cy7)) (ak (ak @cy6 @cy3) (ak @cy2 @cy1)))) (ak (ak (ak @cy0 (ak @cx9 @cx8)) (ak @cx7 (ak @cx6 @aW4))) (ak (ak @aW3 (ak @ao7 @ck0)) (ak (ak @aW7 @aW2) (ak @ck7 @cj4)))))) (ak (ak (ak (ak (ak @g_v (ak @cj0 @aW5)) (ak @ap0 (ak @ck6 @ck5))) (ak (ak @ck4 (ak @ck2 @cj8)) (ak (ak @cj7 @cj6) (ak @cj5 @cj3)))) (ak (ak (ak @cj2 (ak @cj1 @zl2)) (ak @zl3 (ak @cq2 @cq1))) (ak (ak @zl0 (ak @zl1 @cA6)) (ak (ak @cp4 @cp3) (ak @cp2 @cp1))))) (ak (ak (ak (ak @cp0 (ak @co9 @co8)) (ak @co7 (ak @aY9 @aY8))) (ak (ak @aY7 (ak @aY6 @aY5)) (ak (ak @aY4 @aY3) (ak @aY2 @aY1)))) (ak (ak (ak @cz6 (ak @cz5 @cq0)) (ak @cp9 (ak @cp8 @cp7))) (ak (ak @cp6 (ak @cz4 @cz3)) (ak (ak @cz2 @cz1) (ak @cz0 @cx5)))))))))
def zt:=(ak (ak @co1 (ak @co0 @cn9)) (ak (ak @cn8 @cn7) (ak @co3 @co2)))
class HiC:Type 1 where
 h:Hi
def Yi[i:HiC] (p:Prop):Prop:=p
structure Wh (p:Prop):Prop where
 h:p
structure Lh (p:Prop):Prop where
 h:p
def EQ(p:Prop):Prop:=p
def EQ.out{p:Prop}(h:EQ p):p:=h
structure Lk {α β:Type}(c:α->β) (z:β) (w:α) (p:Prop):Prop where
 l:∀v,z=c v->v=w
 k:p
variable {β:Type}{w:Nat}{g:X->Option β}{c:σ->List Cm}
def cN{p:Prop}(h:¬p):¬p:=h
class o! (p:Prop) (q:outParam Prop):Prop where
 h:p->q
class g! (α:Type) (e:outParam (α->D)):Prop where
 h:∀x,xa (e x)=a38
instance {α:Type}{e:α->D} [i:g! α e]:Fr e:=⟨i.h⟩
theorem aC{α:Type}{e p:α->D}(h:∀x,e x=p x) (g:∀x,xa (p x)=a38:=by intro x;simp only[xa,oa,Fr.l,Bool.and_self,Bool.and_true]) (x:α):xa (e x)=a38:=by rw[h];exact g x
class Cm1 (α:Type) (e:outParam (α->Cm)):Prop where
 h:True
class Cmp (α:Type) (e:outParam (α->List Cm)):Prop where
 h:True
section
variable {α β:Type}
instance {e:α->D} [g! α e]:Cm1 α λx=>(e x,[],[]):=⟨trivial⟩
instance {e:α->D} [g! α e]:Cm1 (List (Int×α)) λx=>(d!,[],em e x):=⟨trivial⟩
instance {e:α->D} [g! α e]:Cm1 (List α) λx=>(d!,x.map e,[]):=⟨trivial⟩
instance {e:α->D}{f:List α->D} [g! α e] [g! (List α) f]:Cm1 (List α) λx=>(f x,x.map e,[]):=⟨trivial⟩
instance {e:α->Cm} [Cm1 α e]:Cmp α λx=>[e x]:=⟨trivial⟩
instance {e:α->Cm}{f:β->List Cm} [Cm1 α e] [Cmp β f]:Cmp (α×β) λx=>e x.1::f x.2:=⟨trivial⟩
instance:Cmp Unit λ_=>[]:=⟨trivial⟩
instance:Cmp Empty λ_=>[]:=⟨trivial⟩
end
class A! (α:Type) (e:outParam (α->D)):Prop where
 h:True
class aT6 (α:Type) (e:outParam (α->List D)):Prop where
 h:True
variable {α:Type}{e:α->D}{A B:Option α}{r:α}
section
variable {α β:Type}
instance {e:α->D} [g! α e]:aT6 α λx=>[e x]:=⟨trivial⟩
instance {e:α->D}{f:β->List D} [g! α e] [aT6 β f]:aT6 (α×β) λx=>e x.1::f x.2:=⟨trivial⟩
instance {e:α->D} [g! α e]:A! α e:=⟨trivial⟩
instance {e:α->D}{f:β->List D} [g! α e] [aT6 β f]:A! (α×β) λx=>.tup (e x.1::f x.2):=⟨trivial⟩
instance:A! Unit λ_=>.tup []:=⟨trivial⟩
end
section
variable {P:a44} {N:Nat} {h x:Hi} {a b:C} {K:Exit->St->Prop} {s:St}
def gj{S:Ed}(g:@Yi ⟨.j S h x⟩ (Tm.T P N (.seq a b) K s)):@Yi ⟨.j S h x⟩ (Tm.T P N (.seq a b) K s):=g
def ge{S:Ed}(g:@Yi ⟨.e S h x⟩ (Tm.T P N (.seq a b) K s)):@Yi ⟨.e S h x⟩ (Tm.T P N (.seq a b) K s):=g
def gq{p:Prop}{a b:St->Prop}{s1 s2:St}(g:@Yi ⟨h⟩ (gP p (a s1) (b s2))):@Yi ⟨h⟩ (gQ p a s1 b s2):=g
def gy1{p:List Nat}{d:Option Tmp}{i:I}(g:@Yi ⟨h⟩ (q9 R fp p d i s)):@Yi ⟨h⟩ (q9 R fp p d i s):=g
def gy2{p:List Nat}{d:Option Tmp}{i:I}(g:@Yi ⟨h⟩ (skY R fp p d i s)):@Yi ⟨h⟩ (skY R fp p d i s):=g
def gy3{p:List Nat}{k:FuncId}{d:Option Tmp}(g:@Yi ⟨h⟩ (clY P R fp p k d i s)):@Yi ⟨h⟩ (clY P R fp p k d i s):=g
def gy4{p:List Nat}{d:Option Tmp}(g:@Yi ⟨h⟩ (cnY R fp p d i s)):@Yi ⟨h⟩ (cnY R fp p d i s):=g
def gy5{q:Nat}{l:List RI}{R:St->Prop}(g:@Yi ⟨h⟩ (HB P ps q l R fp s)):@Yi ⟨h⟩ (HB P ps q l R fp s):=g
def gg{p A B:Prop}(g:@Yi ⟨h⟩ (gP p A B)):@Yi ⟨h⟩ (gP p A B):=g
def gcd{c:Operand}(g:@Yi ⟨h⟩ (Tm.T P N (.cond c a b) K s)):@Yi ⟨h⟩ (Tm.T P N (.cond c a b) K s):=g
def gcx{ds:List D}(g:@Yi ⟨h⟩ (kg P k ds m f)):@Yi ⟨h⟩ (kg P k ds m f):=g
def gcl{ds:List D}{i:List Nat}{R:St->Prop}{d:Option Tmp}(g:@Yi ⟨h⟩ (pC P k ds i R s d)):@Yi ⟨h⟩ (pC P k ds i R s d):=g
def gl{S B:Ed}{y:Hi}(g:@Yi ⟨.l S B ρ x y⟩ (Tm.T P N (.block id (.loop a)) K s)):@Yi ⟨.l S B ρ x y⟩ (Tm.T P N (.block id (.loop a)) K s):=g
def gu{S:Ed}(g:@Yi ⟨.u S ρ x⟩ (Tm.T P N (.block id (.loop a)) K s)):@Yi ⟨.u S ρ x⟩ (Tm.T P N (.block id (.loop a)) K s):=g
def gf{E:Ed}{q:Prop}(g:@Yi ⟨.f E ρ x⟩ q):@Yi ⟨.f E ρ x⟩ q:=g
def ga{q:Prop}(g:@Yi ⟨.a ps x⟩ q):@Yi ⟨.a ps x⟩ q:=g
def gao{q:Prop}(g:@Yi ⟨.g ps pl x⟩ q):@Yi ⟨.g ps pl x⟩ q:=g
def yss(g:@Yi ⟨h⟩ (Tm.T P N a (KS P N b K) s)):@Yi ⟨h⟩ (Tm.T P N (.seq a b) K s):=T.Vo g
def yz{n:Nat}(g:@Yi ⟨.z n h⟩ (Tm.T P N a (KS P N b K) s)):@Yi ⟨.z (n+1) h⟩ (Tm.T P N (.seq a b) K s):=T.Vo g
def yz0{p:Prop}(g:@Yi ⟨h⟩ p):@Yi ⟨.z 0 h⟩ p:=g
def yrg{l:List RI}(g:@Yi ⟨h⟩ (Vj P l (K .normal) s)):@Yi ⟨h⟩ (Tm.T P N (.eU l) K s):=T.rg g
def ydy{q:Nat}{l:List RI}(hm:P.follows .mixedOrders=a38) (g:@Yi ⟨h⟩ (HB P [] q l (K .normal) [] s)):@Yi ⟨h⟩ (Tm.T P N (.draw q l) K s):=T.dy hm g
def yay{q:Nat}{l:List RI}{bs:List (List Nat)}(hm:P.follows .mixedOrders=a38) (b:iB bs l q ps []=a38) (g:@Yi ⟨h⟩ (HB P ps q l (K .normal) [] s)):@Yi ⟨.a ps h⟩ (Tm.T P N (.any cuts q bs l) K s):=T.ay hm ps b g
def yao{q:Nat}{l:List RI}{bs:List (List Nat)}(hm:P.follows .mixedOrders=a38) (a:iB bs l q ps pl=a38) (b:Yz s.m pl=a38) (g:@Yi ⟨h⟩ (Lj P pl ps q l (K .normal) [] s)):@Yi ⟨.g ps pl h⟩ (Tm.T P N (.any cuts q bs l) K s):=T.ao hm ps pl a b g
def ysk(g:@Yi ⟨h⟩ (K .normal s)):@Yi ⟨h⟩ (Tm.T P N .skip K s):=T.skip g
def yxt(g:@Yi ⟨h⟩ (K (.exit id) s)):@Yi ⟨h⟩ (Tm.T P N (.exit id) K s):=T.exit g
def ybk(g:@Yi ⟨h⟩ (Tm.T P N a (KB id K) s)):@Yi ⟨h⟩ (Tm.T P N (.block id a) K s):=T.bk g
def ycd{c:Operand}{t:Bool}(ht:s.ev c=.v (.bool t)) (g:@Yi ⟨h⟩ (gP (t=a38) (Tm.T P N a K s) (Tm.T P N b K s))):@Yi ⟨h⟩ (Tm.T P N (.cond c a b) K s):=T.cd ht g
theorem ygi{p q c d:Prop} [Decidable q] (f:q->A=M r->@Yi ⟨h⟩ c) (h2:¬q->B=M r->@Yi ⟨x⟩ d) (a:p=q:=by rfl) (e:(if q then A else B)=M r):@Yi ⟨.b h x⟩ (gP p c d):=gP.ite e (iff_of_eq a) f h2
theorem ygo{p q b c:Prop} [Decidable q] (d:q->A=M r->@Yi ⟨h⟩ b) (h2:¬q->B=M r->@Yi ⟨h⟩ c) (a:p=q:=by rfl) (e:(if q then A else B)=M r):@Yi ⟨h⟩ (gP p b c):=gP.ite e (iff_of_eq a) d h2
def ygc{p q c d:Prop} [Decidable q] (f:q->A=M r->@Yi ⟨h⟩ c) (h2:¬q->B=M r->@Yi ⟨x⟩ d) (a:p↔q) (e:(if q then A else B)=M r):@Yi ⟨.b h x⟩ (gP p c d):=gP.ite e a f h2
def ct0{p q b c:Prop} [Decidable q] (d:q->A=M r->@Yi ⟨h⟩ b) (h2:¬q->B=M r->@Yi ⟨h⟩ c) (a:p↔q) (e:(if q then A else B)=M r):@Yi ⟨h⟩ (gP p b c):=gP.ite e a d h2
def ycq{p:Prop}{ds:List D}[c:o! p (e? P k ds' o)] (e:p) (hf:@Yi ⟨h⟩ (f o m)) (a:lH (Sq [] [] 9) ds ds'):@Yi ⟨h⟩ (kg P k ds m f):=IM (c.h e) hf a
def ycv{p:Prop}{ds:List D}[c:o! p (e? P k ds' o)] (e:p) (hf:@Yi ⟨h⟩ (f o m)) (a:flat o=a38) (b:lH (Sq [] m 9) ds ds'):@Yi ⟨h⟩ (kg P k ds m f):=DN (c.h e) hf a b
def ylq{p:Prop}{ds:List D}{R:St->Prop}[c:o! p (e? P k ds' o)] (e:p) (hf:@Yi ⟨h⟩ (R (s.put dst o))) (a:lH (Sq [] [] 9) ds ds'):@Yi ⟨h⟩ (pC P k ds [] R s dst):=RS (c.h e) hf a
def ylv{p:Prop}{ds:List D}{R:St->Prop}[c:o! p (e? P k ds' o)] (e:p) (hf:@Yi ⟨h⟩ (R (s.put dst o))) (a:flat o=a38) (hi:(ids.all λi=>s6 (i<s.m.length))=a38) (ht:iH ids ds=a38) (b:lH (Lq s.m) ds ds'):@Yi ⟨h⟩ (pC P k ds ids R s dst):=BN (c.h e) hf a hi ht b
def ytz{S:St}{l:List Nat}{ρ:Iv}(hl:tN (j::l)=ρ) (g:lH (Sq ρ s'.m 9) s'.t S.t/\RJ ρ s'.m ρ S.m) (hk:RD ρ N=a38) (a:(ρ.filterMap (·.1)).Nodup):@Yi ⟨.t (j::l)⟩ (f' N s' S):=f'.q ρ hk a g
def yti{S:St}{ρ:Iv}(hl:tI 0 S.m=ρ) (g:lH (Sq ρ s'.m 9) s'.t S.t/\RJ ρ s'.m ρ S.m) (hk:RD ρ N=a38) (a:(ρ.filterMap (·.1)).Nodup):@Yi ⟨h⟩ (f' N s' S):=f'.q ρ hk a g
def yrt(g:K .ret s):@Yi ⟨h⟩ (Tm.T P N .ret K s):=T.ret g
def yen(g:JV (Tb s rs) s.m o):@Yi ⟨h⟩ (cC rs o .normal s):=bu7 g
def yf{S:Ed}{S':St}(hS:ed [] S s=S') (g:@Yi ⟨.t ρ⟩ (f' N s S')) (g2:@Yi ⟨h⟩ (Tm.T P N a K S')):@Yi ⟨.f S ρ h⟩ (Tm.T P N a K s):=T.UP g g2
def gd{q:Prop}(g:@Yi ⟨.d j6 ρ x⟩ q):@Yi ⟨.d j6 ρ x⟩ q:=g
def yd{S':St}(hS:fd (mN j6) s=S') (g:@Yi ⟨.t ρ⟩ (f' N s S')) (g2:@Yi ⟨h⟩ (Tm.T P N a K S')):@Yi ⟨.d j6 ρ h⟩ (Tm.T P N a K s):=T.UP g g2
def yj[K! N K] {c:X->List Cm} [Cmp X c] {S:Ed}{S':X->St}{o:Option X}{f:X->Option β}{r:β}(hS:∀z,ed (c z) S s=S' z)
 (ha:∀z,o=M z->True->@Yi ⟨h⟩ (Tm.T P N a (KJ N K S' (.inl z:X⊕Unit)) s)) (hb:Wh (∀z,f z=M r->@Yi ⟨x⟩ (Tm.T P N b K (S' z)))) (e:o.bind f=M r):@Yi ⟨.j S h x⟩ (Tm.T P N (.seq a b) K s):=
 jn S' e (λz d=>ha z d trivial) λz _ d=>hb.h z d
theorem ye[K! N K] {R:Type}{c:X->List Cm} [Cmp X c] {S:Ed}{S':X->St}{o:Option (X⊕R)}{f:X⊕R->Option R}{r:R}{p:Prop}(k:p) (hS:∀z,ed (c z) S s=S' z)
 (ha:∀z,o=M z->Lk Sum.inr z r p->@Yi ⟨h⟩ (Tm.T P N a (KJ N K S' z) s)) (hb:Wh (∀z,f (.inl z)=M r->@Yi ⟨x⟩ (Tm.T P N b K (S' z)))) (hf:∀v,f (.inr v)=M v:=by intros;rfl) (e:o.bind f=M r):@Yi ⟨.e S h x⟩ (Tm.T P N (.seq a b) K s):=by
 obtain⟨z,d,h2⟩:=Zp e;refine T.join S' z (ha z d ⟨?_,k⟩) ?_
 .grind
 .rintro y rfl;exact hb.h y h2
theorem yl[K! N K] {R:Type}[Cmp σ c] {g:β->List Cm} [Cmp β g] {step:σ->Option (Ex σ β R)}{S B:Ed}{d:β->St}{f:β⊕R->Option R}{r:R}{p:Prop}(k:p)
 (hS:∀z,ed (c z) S s=S' z) (hB:∀z,ed (g z) B s=d z) (ht:@Yi ⟨.t τ⟩ (f' N s (S' x0)))
 (ha:Lh (∀q z,step q=M z->Lk Ex.ret z r p->@Yi ⟨h⟩ (Tm.T P N a (KL N id K S' d z) (S' q)))) (hb:Wh (∀z,f (.inl z)=M r->@Yi ⟨x⟩ (K .normal (d z)))) (hf:∀v,f (.inr v)=M v:=by intros;rfl) (e:(ca step x0).bind f=M r) :
 @Yi ⟨.l S B τ h x⟩ (Tm.T P N (.block id (.loop a)) K s):=by
 obtain⟨y,i,h2⟩:=Zp e;refine lm i S' d ht (λq z j hv=>ha.h q z j ⟨?_,k⟩) ?_
 .grind
 .rintro b rfl;exact hb.h b h2
theorem yl'[K! N K] {R ρ:Type}[Cmp σ c] {g:β->List Cm} [Cmp β g] {step:σ->Option (Ex σ β ρ)}{S B:Ed}{d:β->St}{f:β⊕ρ->Option R}{r:R}
 (hS:∀z,ed (c z) S s=S' z) (hB:∀z,ed (g z) B s=d z) (ht:@Yi ⟨.t τ⟩ (f' N s (S' x0)))
 (ha:Lh (∀q z,step q=M z->True->@Yi ⟨h⟩ (Tm.T P N a (KL N id K S' d z) (S' q)))) (hb:Wh (∀z,f (.inl z)=M r->@Yi ⟨x⟩ (K .normal (d z)))) (e:(ca step x0).bind f=M r) :
 @Yi ⟨.l S B τ h x⟩ (Tm.T P N (.block id (.loop a)) K s):=by
 obtain⟨y,i,h2⟩:=Zp e;refine lm i S' d ht (λq z j _=>ha.h q z j trivial) ?_;rintro b rfl;exact hb.h b h2
theorem yu[K! N K] {R:Type}[Cmp σ c] {step:σ->Option (Ex σ Empty R)}{S:Ed}{f:Empty⊕R->Option R}{r:R}{p:Prop}(k:p)
 (hS:∀z,ed (c z) S s=S' z) (ht:@Yi ⟨.t τ⟩ (f' N s (S' x0)))
 (ha:Lh (∀q z,step q=M z->Lk Ex.ret z r p->@Yi ⟨h⟩ (Tm.T P N a (KL N id K S' (λq:Empty=>q.elim) z) (S' q)))) (hf:∀v,f (.inr v)=M v:=by intros;rfl) (e:(ca step x0).bind f=M r) :
 @Yi ⟨.u S τ h⟩ (Tm.T P N (.block id (.loop a)) K s):=by
 obtain⟨y,b,h2⟩:=Zp e;refine lm b S' (λq:Empty=>q.elim) ht (λq z d hv=>ha.h q z d ⟨?_,k⟩) (λq=>q.elim)
 grind
def pF{p:α×β->Prop}(h:∀a b,p (a,b)) (z:α×β):p z:=h z.1 z.2
def vw{p:Prop}(h:p):Wh p:=⟨h⟩
def vl{p:Prop}(h:p):Lh p:=⟨h⟩
def yT:@Yi ⟨h⟩ True:=trivial
end
section
variable {α β:Type} {e:α->D} {l r:List α} {i:Int} {y:α} {b:Nat} {g:List α->Option β} {z:β}
theorem bA[g! α e] (h:(app b l r).bind g=M z):∃x,((l.length+r.length)*b<=2 ^ 47/\x.length*b<=2 ^ 47)/\l.map e++r.map e=x.map e/\g x=M z:=by
 obtain⟨x,a,h2⟩:=Zp h;have c:=(MD (e:=e) a).1;exact⟨x,⟨c,by rw[(TU a).2,List.length_append];exact c⟩,(MD a).2,h2⟩
theorem bP[g! α e] (h:(put l i y).bind g=M z):∃x,i.toNat<l.length/\(l.map e).set i.toNat (e y)=x.map e/\g x=M z:=by
 obtain⟨x,a,h2⟩:=Zp h;exact⟨x,(aj2 (e:=e) a).1,(aj2 a).2,h2⟩
theorem bM[g! α e] {c:Int}(h:(kD b y n c).bind g=M z):∃x,0<=n/\n<=c/\c<=2 ^ 62/\c.toNat*b<=2 ^ 48/\k? n.toNat (e y)=x.map e/\g x=M z:=by
 obtain⟨x,a,h2⟩:=Zp h;obtain⟨h3,h4,h5,h6,h7⟩:=vW (e:=e) a
 grind
theorem bZ(h:(Jw l 0).bind g=M z):g []=M z:=by
 grind[Jw]
theorem bH[g! α e] (h:(Jw l i).bind g=M z):∃x,Jw l i=M x/\0<=i/\i.toNat<=l.length/\(l.map e).take i.toNat=x.map e/\((l.map e).drop 0).take (i.toNat-0)=x.map e/\g x=M z:=by
 obtain⟨x,a,h2⟩:=Zp h;obtain⟨h3,h4,h5⟩:=ay6 (e:=e) a;refine⟨x,a,?_⟩
 grind
theorem bD{x:List α}(q:Jw l i=M x) (h:(Jw l i).bind g=M z):g x=M z:=by rw[q]at h;exact h
theorem bL[g! α e] (h:(KG l i).bind g=M z):∃x,0<=i/\i.toNat<=l.length/\i.toNat+x.length<=l.length/\l.length-i.toNat=x.length/\((l.map e).take l.length).drop i.toNat=x.map e/\((l.map e).drop i.toNat).take x.length=x.map e/\g x=M z:=by
 obtain⟨x,a,h2⟩:=Zp h;obtain⟨h3,h4,h5,h6,h7⟩:=bb5 (e:=e) a
 grind[H3]
theorem bQ{k:IntKind}{c:Int}{g:Int->Option β}(h:(quo k a c).bind g=M z):∃x,¬c=0/\aa k (a.tdiv c)=x/\g x=M z:=by
 obtain⟨x,h1,h2⟩:=Zp h
 grind[by0]
theorem bR{k:IntKind}{c:Int}{g:Int->Option β}(h:(rem k a c).bind g=M z):∃x,¬c=0/\a.tmod c=x/\g x=M z:=by
 obtain⟨x,b,h2⟩:=Zp h;exact⟨x,(aU7 b).1,(aU7 b).2,h2⟩
def bX{s:ByteArray}{i:Int}{g:Int->Option β}(h:(CA s i).bind g=M z):∃x,CA s i=M x/\g x=M z:=Zp h
end
def cT{a b:Bool}(h:a=b):a=b:=h
variable {P:a44}
theorem TS{ds:List D}{R:D->List Ent->Prop}{m2:List Ent}(h:CallT P k ds m R) (ht:∀d m',R d m'->f' m.length ⟨[d],m'⟩ ⟨[d2],m2⟩):CallT P k ds m λd m'=>d=d2/\m'=m2:=by
 refine⟨h.1,λG w vs hv hi=>(h.2 G w vs hv hi).mono ?_⟩;rintro e w' ⟨v,d,m',G',rfl,o,hvd,b,p⟩;have hr:o? G' w' { tmps:=#[v],defers:=[] } ⟨[d],m'⟩:=⟨by simp only[VsRel];simp_all,b,rfl⟩;have hN:m.length=G.n:=hi.n.symm;have c:=p.toN (Nat.le_of_eq hN);obtain⟨a,f,l⟩:=Ox (ht d m' o) c.n hr;have i:=f.t;simp only[VsRel]at i;obtain⟨u,us,he,j,_⟩:=i;injection he with he _;subst he;have g:=c.trans l;rw[hN]at g;exact⟨_,d2,m2,a,rfl,⟨rfl,rfl⟩,j,f.inv,g.toStep⟩
def EI(N:Nat) (rs:List RV) (S:St) (e:Exit) (s:St):Prop:=
 match e with
 |.normal=>∃S',f' N s S'/\∃ds,Tb S' rs=M ds/\f' N ⟨[Vt ds],S'.m⟩ S
 |.ret=>∃S',f' N s S'/\∃ds,Tb S' rs=M ds/\f' N ⟨[Vt ds],S'.m⟩ S
 |_=>False
def KV(N:Nat) (r:Option (List D)) (m:List Ent) (S:St):Prop:=∃ds,r=M ds/\f' N ⟨[Vt ds],m⟩ S
theorem kN{S:St}(h:KV N (Tb s rs) s.m S):EI N rs S .ret s:=by
 obtain⟨ds,a,h2⟩:=h;exact⟨s,.refl s,ds,a,h2⟩
theorem bu8{S:St}(h:KV N (Tb s rs) s.m S):EI N rs S .normal s:=by
 obtain⟨ds,a,h2⟩:=h;exact⟨s,.refl s,ds,a,h2⟩
theorem Vz{ds:List D}{S:St}:KV N (M ds) m S=f' N ⟨[Vt ds],m⟩ S:=by simp[KV]
@[congr] theorem bo6{N:Nat} {r a:Option (List D)} {m:List Ent} {S:St} (h:r=a):KV N r m S=KV N a m S:=by rw[h]
instance {N:Nat}{rs:List RV}{S:St}:K! N (EI N rs S):=⟨by
 rintro s S' h ⟨S1,a,h2⟩;exact⟨S1,h.trans a,h2⟩⟩
theorem oI(KF:Kf P k) {ds:List D}{m2:List Ent}(w:Nat) (hw:KF.F.ntmps=ds.length+w) (h:T P m.length KF.F.code (EI m.length KF.F.results ⟨[d2],m2⟩) ⟨ds++Tm.ds w [],m⟩):CallT P k ds m λd m'=>d=d2/\m'=m2:=by
 refine TS (R:=λd m'=>f' m.length ⟨[d],m'⟩ ⟨[d2],m2⟩) (Tn KF.ok KF.nm ?_) λ_ _ h=>h;rw[hw,Wac,←eK];refine T.clo (h.mono ?_);have key:∀(e:Exit) (s:St),(∀s',kH KF.F.results (λd m'=>f' m.length ⟨[d],m'⟩ ⟨[d2],m2⟩) e s' = ∃ds,Tb s' KF.F.results=M ds/\f' m.length ⟨[Vt ds],s'.m⟩ ⟨[d2],m2⟩)->(∃S',f' m.length s S'/\∃ds,Tb S' KF.F.results=M ds/\f' m.length ⟨[Vt ds],S'.m⟩ ⟨[d2],m2⟩)->HU m.length (kH KF.F.results λd m'=>f' m.length ⟨[d],m'⟩ ⟨[d2],m2⟩) e s:=by
  intro e s he ⟨S,h1,h2⟩ G w a hN hr
  grind[Ox]
 intro e s b
 cases e with
 |normal=>exact key _ s (λ_=>rfl) b
 |ret=>exact key _ s (λ_=>rfl) b
 |_=>exact(b:False).elim
theorem T1{k:IntKind}:kj .shr .u64 a k 1=M (.int .u64 (a.fdiv 2)):=by
 have h:((2 ^ (min (1:Int).toNat IntKind.u64.bits):Nat):Int)=2:=p5
 grind[kj]
def mL:List Int:=[31,28,31,30,31,30,31,31,30,31,30,31]
def cm3(n:Int):D:=.v (.int .i64 n)
def aW9:s.ev (.global 0)=.pt (.agg (mL.map cm3)):=d?
def aq5:cm3 n=.v (.int .i64 n):=d?
def lst{α:Type}(l:List α):Option (List α):=M l
def mka{α:Type}(b:Nat) (z:α) (n:Int):Option (List α):=if 0<n/\n.toNat*b<=2 ^ 47 then M (k? n.toNat z)else s5
def aQ3{α:Type}(l:List α) (lo:Int) (v:List α) (z:α):Option (List α):=if 0<=lo/\lo.toNat+v.length<=l.length then M (l.take lo.toNat++k? v.length z++l.drop (lo.toNat+v.length))else s5
section
variable {α β:Type} {e:α->D} {l v:List α} {i:Int} {y:α} {b:Nat} {g:List α->Option β} {z:β}
theorem bK[g! α e] (h:(mka b y i).bind g=M z):∃x,0<i/\i.toNat*b<=2 ^ 47/\k? i.toNat (e y)=x.map e/\g x=M z:=by
 obtain⟨x,a,h2⟩:=Zp h;unfold mka at a;split at a
 .rename_i hc;obtain rfl:=J' a;exact⟨_,hc.1,hc.2,List.map_replicate.symm,h2⟩
 simp_all
theorem bC[g! α e] (h:(aQ3 l i v y).bind g=M z):∃x,(l.map e).take i.toNat++k? v.length (e y)++(l.map e).drop (i.toNat+v.length)=x.map e/\g x=M z:=by
 obtain⟨x,a,h2⟩:=Zp h;unfold aQ3 at a;split at a
 .obtain rfl:=J' a;exact⟨_,o0,h2⟩
 simp_all
theorem bV[g! α e] (h:(lst l).bind g=M z):∃x,l.map e=x.map e/\g x=M z:=by
 obtain⟨x,a,h2⟩:=Zp h;obtain rfl:=J' a
 grind
def bG{g:Int->Option β}(h:(c! mL i).bind g=M z):∃x,0<=i/\mL[i.toNat]?=M x/\i.toNat<12/\g x=M z:=bO h
def zn:type_of% (ak @tD (ak (ak @T1 @aW9) (ak @aq5 @vad))):=ak @tD (ak (ak @T1 @aW9) (ak @aq5 @vad))
end
def aT9(P:a44) (k:Nat) (S:Nat) (l l':List D):Prop:=∀m id Va,m[id]?=M (l! S Va l)->CallT P k [.own id Va] m λd m'=>d=.own id (Va+1)/\m'=m.set id (l! S (Va+1) l')
section
open Go.Sort
def ar9{k:FuncId}(f:I' P k) {zs ys:List Int}(a:ys.length<=zs.length)
 (d:∀w b off cap,Holds (Value.int .i64) w b off zs.toArray->zs.length<=cap->Calls P k #[.slice (M ⟨b,off,s5⟩) zs.length cap] w λe w'=>e=.returned (.slice (M ⟨b,off,s5⟩) ys.length cap)/\∃n xs,xs.length+ys.length=zs.length/\w'=grow (putRow (Value.int .i64) (Sort.ahead w n) b off (ys++xs).toArray) #[])
 (c:∀w cap,Calls P k #[.slice s5 0 cap] w λe w'=>e=.returned (.slice s5 0 cap)/\w'=w):aT9 P k 1 (zs.map eI) (ys.map eI):=
 λm id Va hm=>DY f hm a d c
end
section
variable {h:Hi} {k id S Va:Nat} {p:Prop} {pre post l l' ds:List D} {o:D} {m:List Ent} {f:D->List Ent->Prop}
def ycA[c:o! p (aT9 P k S l l')] (e:p) (hf:@Yi ⟨h⟩ (f (.own id (Va+1)) (m.set id (l! S (Va+1) l')))) (hm:m[id]?=M (l! S Va l)):@Yi ⟨h⟩ (kg P k [.own id Va] m f):=Lc (c.h e m id Va hm) hf
def ycf{d d':D}{q:List D} [c:o! p (e? P k ([d']++q) o)] (e:p) (hq:oa q=a38) (hf:@Yi ⟨h⟩ (f o m)) (a:Sq [] [] 9 d d'):@Yi ⟨h⟩ (kg P k (d::q) m f):=au0 (c.h e) hq hf a
def ycC[c:o! p (jN P k pre post S l o)] (e:p) (hf:@Yi ⟨h⟩ (f o (m.set id .gone))) (a:ds=pre++.own id Va::post) (hm:m[id]?=M (l! S Va l)):@Yi ⟨h⟩ (kg P k ds m f):=V1 (c.h e) a hm hf
def ycW[c:o! p (ax4 P k pre post S l l' o)] (e:p) (hf:@Yi ⟨h⟩ (f o (m.set id (l! S Va l')))) (a:ds=pre++.own id Va::post) (hm:m[id]?=M (l! S Va l)):@Yi ⟨h⟩ (kg P k ds m f):=aQ7 (c.h e) a hm hf
end
def St.hd(s:St):D:=s.t.headD d!
theorem yi{c:X->List Cm} [Cmp X c] {KF:Kf P k}{S:Ed}{d2:X->D}{m2:X->List Ent}{ds:List D}{o:Option X}{r:β}
 (hS:∀z,ed (c z) S ⟨[d!],m⟩=⟨[d2 z],m2 z⟩) (hw:KF.F.ntmps=ds.length+w)
 (ha:∀z,o=M z->True->@Yi ⟨h⟩ (T P m.length KF.F.code (EI m.length KF.F.results ⟨[d2 z],m2 z⟩) ⟨ds++Tm.ds w [],m⟩))
 (hb:Wh (∀z,g z=M r->@Yi ⟨x⟩ (f (d2 z) (m2 z)))) (e:o.bind g=M r):@Yi ⟨.i KF w S h x⟩ (kg P k ds m f):=by
 obtain⟨z,a,h2⟩:=Zp e;exact Lc (oI KF w hw (ha z a trivial)) (hb.h z h2)
def gi0{KF:Kf P j}{S:Ed}{ds:List D}(g:@Yi ⟨.i KF w S h x⟩ (kg P k ds m f)):@Yi ⟨.i KF w S h x⟩ (kg P k ds m f):=g
structure Ck (p q:Prop):Prop where
 h:p
 k:q
instance {N:Nat}{K:Exit->St->Prop}:K! N (HU N K):=⟨by
 intro s S h k G w a hN hr;obtain⟨b,d,h2⟩:=Ox h hN hr;obtain⟨s',c,e,f,g⟩:=k b w a h2.n d;exact⟨s',c,e,f,h2.trans g⟩⟩
def p8(r:Option (List D)) (f:D->List Ent->Prop) (m:List Ent):Prop:=∃ds,r=M ds/\f (Vt ds) m
theorem q8{ds:List D}:p8 (M ds) f m=f (Vt ds) m:=by simp[p8]
@[congr] theorem bo8{r a:Option (List D)} {f:D->List Ent->Prop} {m:List Ent} (h:r=a):p8 r f m=p8 a f m:=by rw[h]
theorem yc{KF:Kf P k}{ds:List D}{o:Option X}{r:β}{q:Prop}(b:q) (hw:KF.F.ntmps=ds.length+w)
 (ha:∀z,o=M z->Ck (g z=M r) q->@Yi ⟨h⟩ (T P m.length KF.F.code (HU m.length (kH KF.F.results f)) ⟨ds++Tm.ds w [],m⟩)) (e:o.bind g=M r):@Yi ⟨.c KF w h⟩ (kg P k ds m f):=by
 obtain⟨z,a,h2⟩:=Zp e;refine Tn KF.ok KF.nm ?_;rw[hw,Wac,←eK];exact T.clo (ha z a ⟨h2,b⟩)
def gc0{KF:Kf P j}{ds:List D}(g:@Yi ⟨.c KF w h⟩ (kg P k ds m f)):@Yi ⟨.c KF w h⟩ (kg P k ds m f):=g
def gv{p:Prop}(g:@Yi ⟨.v x⟩ p):@Yi ⟨.v x⟩ p:=g
theorem yvr{j6:Nat}(g:@Yi ⟨x⟩ (p8 (Tb s rs) f s.m)):@Yi ⟨.v x⟩ (HU j6 (kH rs f) .ret s):=by
 obtain⟨ds,a,h2⟩:=g;exact HU.of (show kH rs f .ret s from⟨ds,a,h2⟩)
theorem yvn{j6:Nat}(g:@Yi ⟨x⟩ (p8 (Tb s rs) f s.m)):@Yi ⟨.v x⟩ (HU j6 (kH rs f) .normal s):=by
 obtain⟨ds,a,h2⟩:=g;exact HU.of (show kH rs f .normal s from⟨ds,a,h2⟩)
def yno{p:Prop}(h:s5=M r):p:=nomatch h
def yrr(g:@Yi ⟨h⟩ (K .ret s)):@Yi ⟨h⟩ (Tm.T P N .ret K s):=T.ret g
def yrI{S:St}(g:@Yi ⟨h⟩ (KV N (Tb s rs) s.m S)):@Yi ⟨h⟩ (EI N rs S .ret s):=kN g
def ynI{S:St}(g:@Yi ⟨h⟩ (KV N (Tb s rs) s.m S)):@Yi ⟨h⟩ (EI N rs S .normal s):=bu8 g
class FrO (d:D):Prop where
 h:xa d=a38
variable {d:Option Tmp}
instance {α:Type}{e:α->D} [Fr e] {x:α}:FrO (e x):=⟨Fr.h x⟩
instance {l:List D} [U! l]:FrO (.tup l):=⟨U!.h⟩
def dep:Nat->D->Bool
 |0,_=>a39
 |k+1,.agg l=>l.all (dep k)
 |k+1,.tup l=>l.all (dep k)
 |_+1,.sl _ _=>a38
 |k+1,.pt d=>dep k d
 |_+1,.v _=>a38
 |_,_=>a39
theorem VE(m:List Ent):∀{k:Nat}{d:D},xa d=a38->dep k d=a38->Lg k m d=d
 |0,_,_,h=>by grind[dep]
 |k+1,.agg l,a,h2=>by
  simp only[dep,R']at h2;simp only[xa,km]at a;simp only[Lg];congr 1;exact(oac λd hd=>VE m (a d hd) (h2 d hd)).trans (Zae _)
 |k+1,.tup l,a,h2=>by
  simp only[dep,R']at h2;simp only[xa,km]at a;simp only[Lg];congr 1;exact(oac λd hd=>VE m (a d hd) (h2 d hd)).trans (Zae _)
 |_+1,.sl _ l,a,_=>by
  simp_all[xa,Lg]
 |k+1,.pt d,a,h2=>by
  simp only[dep]at h2;simp only[xa]at a;simp only[Lg,VE m a h2]
 |_+1,.v _,_,_=>rfl
 |k+1,.own ..,_,h=>by grind[dep]
 |k+1,.view ..,_,h=>by grind[dep]
 |k+1,.ref ..,_,h=>by grind[dep]
 |k+1,.fn ..,_,h=>by grind[dep]
 |k+1,.mp ..,_,h=>by grind[dep]
 |k+1,.ifc ..,_,h=>by grind[dep]
 |k+1,d!,_,h=>by grind[dep]
theorem wP{id Va:Nat}:∀{l:List D},oa l=a38->l.map (RL id Va)=l
 |[],_=>rfl
 |d::l,h=>by
  simp only[oa,E!]at h;rw[List.map_cons,wP h.2];congr 1;have h1:=h.1;cases d<;>simp_all[RL,xa]
def D6(P:a44) (k:Nat) (pre post:List D) (S:Nat) (l l':List D) (o:D):Prop:=oa pre=a38/\oa post=a38/\∀m id Va,m[id]?=M (l! S Va l)->CallT P k (pre++.ref id Va 0 0::post) m λd m'=>d=o/\m'=m.set id (l! S Va l')
theorem D6.of(n:Nat) (K:Kf P k) (h:T P 1 K.F.code (EI 1 K.F.results ⟨[o],[l! S 0 l']⟩) ⟨(pre++.ref 0 0 0 0::post)++Tm.ds n [],[l! S 0 l]⟩)
 (c:oa pre=a38:=by exact U!.h) (a:oa post=a38:=by exact U!.h) (hl:oa l=a38:=by exact U!.h) (ho:xa o=a38:=by exact FrO.h) (f:oa l'=a38:=by exact U!.h) (hd:dep 8 o=a38:=by rfl) (b:l'.all (dep 8)=a38:=by rfl)
 (hn:K.F.ntmps=(pre++.ref 0 0 0 0::post).length+n:=by rfl):D6 P k pre post S l l' o:=by
 refine⟨c,a,λm id Va e=>?_⟩;have h1:=oI K n hn (m:=[l! S 0 l]) (m2:=[l! S 0 l']) (d2:=o) h;have e1:(pre++.ref id Va 0 0::post).map (RL id Va)=pre++.ref 0 0 0 0::post:=by
  simp_all[RL,wP]
 refine(au1 e hl (m1:=[l! S 0 l']) rfl (by rw[e1];omega)).mono ?_;rintro d m' ⟨rfl,rfl⟩;refine⟨VE _ ho hd,?_⟩;congr 2;rw[R']at b;exact(oac λd hd=>VE _ (km.1 f d hd) (b d hd)).trans (Zae _)
theorem ycE{ds:List D}{p:Prop} [c:o! p (D6 P k pre post S l l' o)] (e:p) (hf:@Yi ⟨h⟩ (f o (m.set id (l! S Va l')))) (a:ds=pre++.ref id Va 0 0::post) (hm:m[id]?=M (l! S Va l)):@Yi ⟨h⟩ (kg P k ds m f):=by
 subst a;exact Lc ((c.h e).2.2 m id Va hm) hf
def gce{k:FuncId}{ds:List D}{p:List Nat}{x:Nat}{f:D->Ent->Prop}(g:@Yi ⟨h⟩ (nL P k ds ids fp p x f s)):@Yi ⟨h⟩ (nL P k ds ids fp p x f s):=g
theorem ywE{ds:List D}{q:Prop}{p:List Nat}{x:Nat}{f:D->Ent->Prop}[c:o! q (D6 P k pre post S l l' o)] (e:q) (hf:@Yi ⟨h⟩ (f o (l! S Va l')))
 (a:ds=pre++.ref x Va 0 0::post) (hm:s.m[x]?=M (l! S Va l)) (hx:(ids.elem x&&ZH fp ids p)=a38) (hi:ids=[x]):@Yi ⟨h⟩ (nL P k ds ids fp p x f s):=by
 subst a;subst hi;have hlt:x<s.m.length:=(dab.1 hm).1;refine⟨hx,o,_,⟨λid hid=>l5,λm hmm=>?_⟩,hf⟩;exact(c.h e).2.2 m x Va l5
def ydp{q:Nat}{l:List RI}(hm:P.follows .mixedOrders=a38) (c:ps=xE q) (a:WG pl l=a38) (b:Yz s.m pl=a38) (g:@Yi ⟨h⟩ (Lj P pl ps q l (K .normal) [] s)):@Yi ⟨.g ps pl h⟩ (Tm.T P N (.draw q l) K s):=T.dp hm ps pl c a b g
def Lq2(m:List Ent):D->D->Prop
 |.agg a,.agg b=>lH (Lq m) a b
 |d,e=>Lq m d e
def DX(ids:List Nat) (ds:List D):Bool:=ds.all λd=>match d with|.agg a=>iH ids a|d=>iH ids [d]
theorem B4{m m':List Ent}{ids:List Nat}(hm:∀id∈ids,m'[id]?=m[id]?):∀{a b:List D},lH (Lq2 m) a b->DX ids a=a38->q! [] m' a b
 |[],[],_,_=>.nil
 |d::l,e::r,h,ht=>by
  simp only[DX,List.all_cons,E!]at ht;have i:=B4 hm h.2 (by grind[DX]);have c:=h.1;have f:=ht.1;unfold Lq2 at c;split at c
  .exact .agg (UM hm c f) i
  .rename_i hne;have g:iH ids [d]=a38:=by
    grind[iH,df]
   exact q!.app (a:=[d]) (b:=[e]) (UM hm ⟨c,trivial⟩ g) i
 |[],_::_,h,_=>h.elim
 |_::_,[],h,_=>h.elim
theorem au3{ds:List D}{R:St->Prop}(h:e? P k ds' o) (hf:R (s.put dst o)) (a:flat o=a38) (hi:(ids.all λi=>s6 (i<s.m.length))=a38) (ht:DX ids ds=a38) (b:lH (Lq2 s.m) ds ds'):pC P k ds ids R s dst:=by
 refine⟨o,⟨λid hid=>?_,λm hm=>?_⟩,hf⟩
 .simp_all
 .exact rH h (B4 hm b ht) a ⟨rfl,rfl⟩
def ylw{p:Prop}{ds:List D}{R:St->Prop}[c:o! p (e? P k ds' o)] (e:p) (hf:@Yi ⟨h⟩ (R (s.put dst o))) (a:flat o=a38) (hi:(ids.all λi=>s6 (i<s.m.length))=a38) (ht:DX ids ds=a38) (b:lH (Lq2 s.m) ds ds'):@Yi ⟨h⟩ (pC P k ds ids R s dst):=au3 (c.h e) hf a hi ht b
section
variable {m:List Ent} {S x y lo n s:Nat} {a b:List D} {e:D}
def an3:Lq2 m (.agg a) (.agg b)=lH (Lq m) a b:=d?
def an2:Lq2 m (.own x y) (.sl S b)=Lq m (.own x y) (.sl S b):=d?
def S3:Lq2 m (.view x y lo n) (.sl S b)=Lq m (.view x y lo n) (.sl S b):=d?
def an1{z:Nat}:Lq2 m (.ref x y z s) (.pt e)=Lq m (.ref x y z s) (.pt e):=d?
theorem bB6{z:Value}:Lq2 m (.v z) e=Lq m (.v z) e:=by cases e<;>rfl
theorem aW0{z:List D}:Lq2 m (.sl S z) e=Lq m (.sl S z) e:=by cases e<;>rfl
theorem aW1{z:D}:Lq2 m (.pt z) e=Lq m (.pt z) e:=by cases e<;>rfl
def zw:type_of% (ak (ak (ak @an3 @an2) (ak @S3 @an1)) (ak (ak @bB6 @aW0) @aW1)):=ak (ak (ak @an3 @an2) (ak @S3 @an1)) (ak (ak @bB6 @aW0) @aW1)
end
section
variable {P:a44}
end
def jy(m:List Ent):Iv->List (Nat×List D)->Prop
 |[],[]=>True
 |(M j,v,0)::os,(S,l)::L=>m[j]?=M (l! S v l)/\jy m os L
 |_,_=>False
def cz(L:List (Nat×List D)):List Ent:=L.map λp=>l! p.1 0 p.2
theorem aC4{ρ:Iv}{a b:List D}(h:q! ρ [] a b):q! ρ m a b:=by
 induction h with
 |nil=>exact .nil
 |same hf h c=>exact .same hf c
 |dead h c=>exact .dead c
 |nils h c=>exact .nils c
 |wE i hi h c=>exact .wE i hi c
 |agg ha h d c=>exact .agg d c
 |tup ha h d c=>exact .tup d c
 |sl ha h d c=>exact .sl d c
 |own hi h c=>exact .own hi c
 |ref hi h c=>exact .ref hi c
 |view hi h c=>exact .view hi c
 |mp hi h c=>exact .mp hi c
 |Lg hm|fview hm|fref hm=>simp at hm
 |pt ha h d c=>exact .pt d c
 |fn ha hc h d e c=>exact .fn d e c
 |ifc ha h d c=>exact .ifc d c
theorem mW{m:List Ent}:∀{ρ:Iv}{L:List (Nat×List D)},jy m ρ L->ρ.length=L.length/\∀(i S:Nat) (l:List D),L[i]?=M (S,l)->∃j v,ρ[i]?=M (M j,v,0)/\m[j]?=M (Ent.live S v l)
 |[],[],_=>o0
 |(M j,v,0)::os,(S,l)::L,h=>by
  obtain⟨a,h2⟩:=mW h.2;refine⟨by simp[a],λi S' l' hi=>?_⟩
  cases i with
  |zero=>
   have b:=h.1;simp only[eab,T',H!]at hi;obtain⟨rfl,rfl⟩:=hi;exact⟨j,v,rfl,b⟩
  |succ i=>exact h2 i S' l' (by simpa using hi)
 |[],_::_,h=>h.elim
 |(M _,_,0)::_,[],h=>h.elim
 |(M _,_,_+1)::_,[],h=>h.elim
 |(s5,_,_)::_,[],h=>by simp[jy]at h
 |(s5,_,_)::_,_::_,h=>by simp[jy]at h
 |(M _,_,_+1)::_,_::_,h=>by simp[jy]at h
mutual
def EW:D->Iv
 |.own id Va=>[(M id,Va,0)]
 |.agg l=>jz l
 |_=>[]
def jz:List D->Iv
 |[]=>[]
 |d::l=>EW d++jz l
end
mutual
theorem iS:∀{d:D},xa d=a38->EW d=[]
 |.agg l,h=>by simp only[xa]at h;simp only[EW,jS h]
 |.own ..,h=>by simp[xa]at h
 |.v _,_|.tup _,_|.sl ..,_|.pt _,_|.ref ..,_|.view ..,_|.fn ..,_|.mp _,_|.ifc ..,_|d!,_=>by simp[EW]
theorem jS:∀{l:List D},oa l=a38->jz l=[]
 |[],_=>by simp[jz]
 |d::l,h=>by
  simp only[oa,E!]at h;simp only[jz,iS h.1,jS h.2,List.append_nil]
end
variable {P:a44}
def Ou(P:a44) (k:Nat) (a:List D) (L:List (Nat×List D)) (o:D):Prop:=
 ∀m ρ ds,lH (Sq ρ [] 9) ds a->jy m ρ L->(ρ.filterMap (·.1)).Nodup->CallT P k ds m λd m'=>d=o/\m'=m
def Dy(ρ:Iv) (m:List Ent):List Ent:=m.mapIdx λi e=>if Gx ρ i then .gone else e
theorem bJ{ρ:Iv}{i:Nat}{e:Ent}(h:(Dy ρ m)[i]?=M e) (hl:e.isLive=a38):m[i]?=M e/\Gx ρ i=a39:=by
 unfold Dy at h;rw[wae]at h
 cases hm:m[i]? with
 |none=>simp[hm]at h
 |some x=>
  simp only[hm,Kac,T']at h;split at h
  .subst h;cases hl
  .subst h;simp_all
theorem DW{ρ:Iv}{i:Nat}{v:Nat×Nat}(h:(ρ:List (Option Nat×Nat×Nat))[i]?=M (M j,v)):Gx ρ j=a39:=by
 cases hb:Gx ρ j
 .rfl
 .exact absurd rfl (Q4 hb i j v h)
theorem QT{ρ:Iv}(h:Gx ρ j=a39):∃(i:Nat) (v:Nat×Nat),ρ[i]?=M (M j,v):=by
 unfold Gx at h;rw[List.all_eq_false]at h;obtain⟨⟨a,v⟩,hx,h⟩:=h;obtain⟨i,hi⟩:=List.getElem?_of_mem hx
 cases a with
 |none=>simp at h
 |some k=>exact⟨i,v,l5⟩
theorem an8{G:Gh}{w:World}(ρ:Iv) (hi:Inv G w m):Inv G w (Dy ρ m):=by
 refine⟨by simp[Dy,hi.n],hi.F,λi e he=>?_,λi j e e' c h2 a b=>?_,hi.gl⟩
 .by_cases hl:e.isLive=a38
  .exact hi.ent i e (bJ he hl).1
  .cases e with
   |gone=>trivial
   |_=>simp[Ent.isLive]at hl
 .exact hi.apart i j e e' (bJ c a).1 (bJ h2 b).1 a b
theorem au2{ρ:Iv}{ds ds0:List D}(hL:jy m ρ L) (hn:(ρ.filterMap (·.1)).Nodup) (hs:q! ρ [] ds ds0) (hf:∀p∈L,oa p.2=a38) (ho:xa o=a38)
 (h:CallT P k ds0 (cz L) λd m'=>d=o/\m'=cz L):CallT P k ds m λd m'=>d=o/\m'=m:=by
 refine⟨h.1,λG w vs hv hi=>?_⟩;obtain⟨hlen,hget⟩:=mW hL;have hi1:=an8 ρ hi;have E:∀(i:Nat) o',ρ[i]?=M o'->∃j v S l,o'=(M j,v,0)/\L[i]?=M (S,l)/\m[j]?=M (Ent.live S v l):=by
  intro i o' hio;have j9:i<L.length:=by rw[←hlen];exact(dab.1 hio).1
  obtain⟨j,v,a,h2⟩:=hget i L[i].1 L[i].2 (by simp[j9]);exact⟨j,v,L[i].1,L[i].2,l5,by simp[j9],h2⟩
 have hgo:∀(i j:Nat) v,ρ[i]?=M (M j,v)->∃e:Ent,(Dy ρ m)[j]?=M e/\e.isLive=a38/\(∀S R l,e=l! S R l->R=v.1):=by
  intro i j v t;obtain⟨j',R,S,l,a,h2,Y⟩:=E i _ t;simp only[H!,T']at a;obtain⟨rfl,rfl⟩:=a;refine⟨l! S R l,?_,rfl,λS1 v1 l1 he=>?_⟩
  .simp only[Dy,wae,Y,Kac,DW t];rfl
  .injection he with _ h _;exact h.symm
 have hv1:=((aC4 (m:=Dy ρ m) hs).rel hi1 hgo).1 vs hv;have lentB:∀(i j:Nat) v,ρ[i]?=M (M j,v)->(Eb G (Dy ρ m) ρ).B i=G.B j/\(Eb G (Dy ρ m) ρ).S i=G.S j/\(Eb G (Dy ρ m) ρ).N i=G.N j/\(Eb G (Dy ρ m) ρ).C i=G.C j/\(Eb G (Dy ρ m) ρ).V i=v.2:=by
  intro i j v t;simp[Eb,t]
 have W:∀b,(Eb G (Dy ρ m) ρ).F b↔G.F b:=by
  intro b;refine⟨?_,λh=>.inl h⟩;rintro(h|⟨⟨i,e,he,hl,j8⟩,hne⟩)
  .exact h
  .obtain⟨-,K⟩:=bJ he hl;obtain⟨Q,R,A⟩:=QT K;exact absurd j8 (hne Q i R A)
 have r:∀(i:Nat) e,(cz L)[i]?=M e->∃j v S l,ρ[i]?=M (M j,v,0)/\m[j]?=M (Ent.live S v l)/\e=l! S 0 l/\oa l=a38:=by
  intro i e he;simp only[cz,List.getElem?_map,Option.map_eq_some_iff]at he;obtain⟨⟨S,l⟩,a,rfl⟩:=he;obtain⟨j,v,h2,Y⟩:=hget i S l a;exact⟨j,v,S,l,h2,Y,rfl,hf _ (Gab a)⟩
 have hsub0:U' G w (Eb G (Dy ρ m) ρ) w:=⟨λb h=>.inl h,λ_ _=>rfl⟩;have hi0:Inv (Eb G (Dy ρ m) ρ) w (cz L):=by
  refine⟨by simp[Eb,cz,hlen],λb hb=>hi.F b ((W b).1 hb),λi e he=>?_,λi Q e e' he q _ _ b hb g=>?_,hi.gl.bare λ_ h=>.inl h⟩
  .obtain⟨j,v,S,l,a,h2,rfl,hfl⟩:=r i e he;obtain⟨a1,a2,a3,a4,a5⟩:=hi.ent _ _ h2;obtain⟨b1,b2,b3,b4,b5⟩:=lentB _ _ _ a;refine⟨b5,by rw[b2,a2],by rw[b3,a3],by rw[b4];exact a4,?_⟩;rw[b1,b4];rcases a5 with a5|⟨b',cs,T,g,Z,H,hsz,hrw⟩
   .exact .inl a5
   .exact .inr ⟨b',cs,T,g,λh=>Z ((W _).1 h),H,hsz,Xa.free hsub0 rfl hfl hrw⟩
  .obtain⟨j,v,S,l,a,h2,rfl,-⟩:=r i e he;obtain⟨j',R,S',l',h1',h2',rfl,-⟩:=r Q e' q;rw[(lentB _ _ _ a).1]at hb;rw[(lentB _ _ _ h1').1]at g;obtain rfl:=hi.apart j j' _ _ h2 h2' rfl rfl b hb g;exact XR hn _ _ _ _ _ a h1'
 have s:∀b,Mg (Eb G (Dy ρ m) ρ) (cz L) b->∃(j:Nat) (e:Ent),m[j]?=M e/\e.isLive=a38/\G.B j=M b/\Gx ρ j=a39:=by
  rintro b ⟨i,e,he,hl,j8⟩;obtain⟨j,v,S,l,a,h2,rfl,-⟩:=r i e he;rw[(lentB _ _ _ a).1]at j8;exact⟨j,_,h2,rfl,j8,DW a⟩
 refine(h.2 _ w vs hv1 hi0).mono ?_;rintro e w' ⟨v,d,m',G',rfl,⟨rfl,rfl⟩,hvd,I,f⟩;have olt:∀i x,m[i]?=M x->x.isLive=a38->∀b,G.B i=M b->b<w.heap.size/\¬G.F b:=λi x hx hl b hb=>(hi.ent i x hx).lt hl hb;have same:∀(i j:Nat) vv,ρ[i]?=M (M j,vv)->G'.B i=G.B j/\G'.S i=G.S j/\G'.N i=G.N j/\G'.C i=G.C j:=by
  intro i j vv t;have hi2:i<(Eb G (Dy ρ m) ρ).n:=PH t;obtain⟨j',R,S,l,a,h2,Y⟩:=E i _ t;have he:(cz L)[i]?=M (l! S 0 l):=by simp[cz,h2]
  have hV:=(I.ent i _ he).1;obtain⟨b1,b2,b3,b4,b5⟩:=lentB _ _ _ t;rcases f.le.id i hi2 with⟨c1,c2,c3,c4,c5⟩|c
  .exact⟨by rw[c2,b1],by rw[c3,b2],by rw[c4,b3],by rw[c5,b4]⟩
  .rw[hV]at c;omega
 have nF:∀i x,m[i]?=M x->x.isLive=a38->∀b,G.B i=M b->¬G'.F b:=by
  intro i x hx hl b hb Z;have j9:=olt i x hx hl b hb;cases j6:Gx ρ i
  .obtain⟨Q,vv,A⟩:=QT j6;obtain⟨j',R,S,l,a,h2,Y⟩:=E Q _ A;have he:(cz L)[Q]?=M (l! S 0 l):=by simp[cz,h2]
   obtain⟨-,-,-,-,a5⟩:=I.ent Q _ he;have j8:=(same _ _ _ A).1;rcases a5 with a5|⟨b',cs,T,g,hF',-⟩
   .rw[j8,hb]at a5;simp at a5
   .rw[j8,hb]at g;injection g with g;subst g;exact hF' Z
  .rcases f.newF b j9.1 Z with a|a
   .exact j9.2 ((W _).1 a)
   .obtain⟨j,e',q,z,y,u⟩:=s b a;obtain rfl:=hi.apart i j _ _ hx q hl z b hb y;rw[j6]at u;cases u
 have hle:Le G w { G with F:=G'.F } w':=⟨λb hb=>f.le.F b (.inl hb),λb hb=>f.le.heap b (.inl hb),Nat.le_refl _,λi _=>.inl o0⟩;have hsub:U' G w { G with F:=G'.F } w':=⟨λb hb=>f.le.F b (.inl hb),λb hb=>f.le.heap b (.inl hb)⟩;have O:U' G' w' { G with F:=G'.F } w':=⟨λ_ h=>h,λ_ _=>rfl⟩;refine⟨v,d,m,{ G with F:=G'.F },rfl,⟨rfl,rfl⟩,VRel.free O ho hvd,⟨hi.n,I.F,?_,hi.apart,I.gl.bare λ_ h=>h⟩,⟨hle,f.os,f.tape,f.output,f.size,?_,?_,?_⟩⟩
 .intro i x hx;by_cases X:x.isLive=a38
  .cases j6:Gx ρ i
   .obtain⟨Q,vv,A⟩:=QT j6;obtain⟨j',R,S,l,a,h2,Y⟩:=E Q _ A;simp only[H!,T']at a;obtain⟨rfl,rfl⟩:=a;rw[Y]at hx;injection hx with hx;subst hx;have he:(cz L)[Q]?=M (l! S 0 l):=by simp[cz,h2]
    obtain⟨a1,a2,a3,a4,a5⟩:=I.ent Q _ he;obtain⟨b1,b2,b3,b4⟩:=same _ _ _ A;obtain⟨e1,e2,e3,e4,-⟩:=hi.ent _ _ Y;refine⟨e1,e2,e3,e4,?_⟩;rw[b1,b4]at a5;rcases a5 with a5|⟨b',cs,T,g,hF',H,hsz,hrw⟩
    .exact .inl a5
    .exact .inr ⟨b',cs,T,g,hF',H,hsz,Xa.free O rfl (hf _ (Gab h2)) hrw⟩
   .refine(hi.ent i x hx).mono hle o0 (λb hb=>?_) (λb hb _ Z=>absurd Z (nF i x hx X b hb));refine f.keep b (olt i x hx X b hb).1 λK=>?_;obtain⟨j,e',q,z,y,u⟩:=s b K;obtain rfl:=hi.apart i j _ _ hx q X z b hb y;rw[j6]at u;cases u
  .cases x with
   |gone=>trivial
   |_=>simp[Ent.isLive]at X
 .intro b hb hno;refine f.keep b hb λK=>?_;obtain⟨j,e',q,z,y,-⟩:=s b K;exact hno ⟨j,e',q,z,y⟩
 .intro b hb Z;rcases f.newF b hb Z with a|a
  .exact .inl ((W _).1 a)
  .obtain⟨j,e',q,z,y,-⟩:=s b a;exact .inr ⟨j,e',q,z,y⟩
 .rintro b hb ⟨i,x,hx,lx,j8⟩;exact⟨i,x,hx,lx,j8⟩
theorem Ou.of{a:List D}(n:Nat) (K:Kf P k) (h:T P L.length K.F.code (EI L.length K.F.results ⟨[o],cz L⟩) ⟨a++Tm.ds n [],cz L⟩)
 (hf:∀p∈L,oa p.2=a38) (ho:xa o=a38:=by exact FrO.h) (hn:K.F.ntmps=a.length+n:=by rfl):Ou P k a L o:=by
 intro m ρ ds d c b;have e:(cz L).length=L.length:=by simp[cz]
 exact au2 c b (AB (EA 9) d) hf ho (oI K n hn (by rw[e];exact h))
class Q! (p:Prop) (q:outParam Prop):Prop where
 h:p->q
variable {p q:Prop}
section
variable {h:Hi} {k S:Nat} {p:Prop} {l ds ds':List D} {L:List (Nat×List D)} {o:D} {m:List Ent} {ρ:Iv} {f:D->List Ent->Prop} {R:St->Prop} {s:St} {dst:Option Tmp} {ids:List Nat}
def ycO[c:Q! p (qG P k ds' S l)] (e:p) (hf:@Yi ⟨h⟩ (f (.own m.length 0) (m++[l! S 0 l]))) (a:lH (Sq [] [] 9) ds ds'):@Yi ⟨h⟩ (kg P k ds m f):=
 Lc ⟨(c.h e m).1,λG w vs hv hi=>(c.h e m).2 G w vs ((vJ (AB (EA 9) a)).1 vs hv) hi⟩ hf
def ycM[c:Q! p (Ou P k ds' L o)] (e:p) (hf:@Yi ⟨h⟩ (f o m)) (hr:jz ds=ρ) (b:lH (Sq ρ [] 9) ds ds') (a:jy m ρ L) (hn:(ρ.filterMap (·.1)).Nodup):@Yi ⟨h⟩ (kg P k ds m f):=
 Lc (c.h e m ρ ds b a hn) hf
theorem yO{m m':List Ent}:∀{ρ:Iv}{L:List (Nat×List D)},(∀j∈ρ.filterMap (·.1),m'[j]?=m[j]?)->jy m ρ L->jy m' ρ L
 |[],[],_,_=>trivial
 |(M j,v,0)::os,(S,l)::L,hm,h=>⟨(hm j o0).trans h.1,yO (λi hi=>hm i l5) h.2⟩
 |[],_::_,_,h=>h.elim
 |(M _,_,0)::_,[],_,h=>h.elim
 |(M _,_,_+1)::_,[],_,h=>h.elim
 |(s5,_,_)::_,[],_,h=>by simp[jy]at h
 |(s5,_,_)::_,_::_,_,h=>by simp[jy]at h
 |(M _,_,_+1)::_,_::_,_,h=>by simp[jy]at h
theorem ylM[c:Q! p (Ou P k ds' L o)] (e:p) (hf:@Yi ⟨h⟩ (R (s.put dst o))) (hr:jz ds=ρ) (d:lH (Sq ρ [] 9) ds ds') (b:jy s.m ρ L) (hn:(ρ.filterMap (·.1)).Nodup) (hi:(ids.all λi=>s6 (i<s.m.length))=a38) (hj:((ρ.filterMap (·.1)).all λj=>ids.elem j)=a38):@Yi ⟨h⟩ (pC P k ds ids R s dst):=by
 refine⟨o,⟨λi hid=>l5,λm hm=>?_⟩,hf⟩;refine c.h e m ρ ds d (yO (λj a=>hm j ?_) b) hn;simp only[R']at hj;exact List.elem_iff.1 (hj j a)
end
section
variable {l:List D} {id Va S:Nat} {x:Value} {os:Iv}
theorem aV3:jz []=[]:=by simp[jz]
theorem aV2:jz (.own id Va::l)=(M id,Va,0)::jz l:=by simp[jz,EW]
theorem o_v:jz (.v x::l)=jz l:=by simp[jz,EW]
theorem bA2[Fr e] {y:α}:jz (e y::l)=jz l:=by simp[jz,iS (Fr.h (e:=e) y)]
theorem bA1[Fr e] {y:List α}:jz (.sl S (y.map e)::l)=jz l:=by simp[jz,EW]
theorem aV4{a:List D}:jz (.agg a::l)=jz a++jz l:=by simp[jz,EW]
theorem zM:type_of% (ak (ak (ak @aV3 @aV2) (ak @o_v @bA1)) (ak (ak @aV4 @G?.{0}) @O!.{0})):=ak (ak (ak @aV3 @aV2) (ak @o_v @bA1)) (ak (ak @aV4 @G?.{0}) @O!.{0})
end
def aV8:jy m [] []:=trivial
def aV9{v:Nat}{os:Iv}(h:m[j]?=M (l! S v l)) (h2:jy m os L):jy m ((M j,v,0)::os) ((S,l)::L):=⟨h,h2⟩
def aC2(a n:Int):Int:=a.fdiv ((2 ^ (min n.toNat IntKind.i64.bits):Nat):Int)
def bc8(a n:Int):Option Int:=if n<0 then s5 else M (aC2 a n)
def an0(a b:Int):Int:=aa .i64 (Nat.land (a % yK .i64).toNat (b % yK .i64).toNat:Nat)
theorem U1:kj .shr .i64 a .i64 n=if n<0 then s5 else M (.int .i64 (aC2 a n)):=by
 simp only[kj,cond_eq_ite,w3,aC2]
theorem Q1{b:Int}:kj .and .i64 a .i64 b=M (.int .i64 (an0 a b)):=by simp[kj,XJ,an0]
theorem ac3{l:List α}:(l.map e).take l.length=l.map e:=List.take_of_length_le o0
theorem bT{g:Int->Option β}{z:β}(h:(bc8 a n).bind g=M z):∃x,¬n<0/\aC2 a n=x/\g x=M z:=by
 obtain⟨x,b,h2⟩:=Zp h;unfold bc8 at b;split at b
 .cases b
 .exact⟨x,by assumption,J' b,h2⟩
def aZ0:((1:Nat):Int)=1:=rfl
def zT:type_of% (ak (ak @U1 @Q1) (ak @ac3 @aZ0)):=ak (ak @U1 @Q1) (ak @ac3 @aZ0)
theorem T.nilown{P:a44}{c:C}{i:Nat}(d:s.t[i]?=M (.own id Va)) (hm:s.m[id]?=M (l! S Va [])) (h:T P N c K ⟨s.t.set i (.sl S []),s.m⟩):T P N c K s:=by
 intro code hc G w a hN hr;obtain⟨u,hu,hv⟩:=hr.t.getElem d;obtain⟨eV,-,eN,eC,-⟩:=hr.inv.ent id _ hm;have b:VRel G w (.sl S []) u:=by
  simp only[VRel]at hv⊢
  grind
 refine h code hc G w a hN ⟨hr.t.swap l5 (dab.1 d).1 b,hr.inv,hr.defers⟩
end Go.Tm
