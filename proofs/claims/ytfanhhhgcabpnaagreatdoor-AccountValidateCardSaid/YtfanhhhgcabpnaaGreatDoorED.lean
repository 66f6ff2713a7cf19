/-
  The engine: a part of the proof that trees of values are carried along by the program: no condition.
-/
import Derived.Test.YtfanhhhgcabpnaaGreatDoorEC
open Bool renaming and_eq_true→xn
open Eq renaming trans→rn
open List renaming all_eq_true→qo,getElem?_cons_succ→qp,getElem?_cons_zero→mo,map_congr_left→tr,map_cons→Vn,map_id→Ns,replicate→yn
open Nat renaming add_sub_cancel_left→Vp,lt_or_ge→vo,sub_zero→Nq,zero_le→Jp
open Option.some renaming inj→eo
set_option linter.all false
namespace Go.Tm
variable {P:Program}
def DenO(P:Program) (k:Nat) (ds:List D) (S:Nat) (l:List D):Prop:=∀m,CallT P k ds m fun d m'=>d=.own m.length 0∧m'=m++[.live S 0 l]
theorem frameO{k S:Nat}{l ds:List D}(hds:idfrees ds=true) (hl:idfrees l=true) (h:CallT P k ds [] fun d m'=>d=.own 0 0∧m'=[.live S 0 l]):DenO P k ds S l:=by
 refine fun m=>⟨h.1,fun G w vs hv hi=>?_⟩;have h0:=h.2 (Gh.bare G.F) w vs (VsRel.free (G:=G) (G':=Gh.bare G.F) ⟨fun _ h=>h,fun _ _=>rfl⟩ hds hv) (inv_bare hi.F (hi.gl.bare fun _ h=>h));refine h0.mono ?_;rintro e w' ⟨v,d,m',G',rfl,⟨rfl,rfl⟩,hvd,hi',hs⟩;obtain⟨fV,fS,fN,fC,fB⟩:=hi'.ent 0 _ rfl;have hGn:=hi.n;have noO:∀b,¬Owned (Gh.bare G.F) [] b:=fun b=>owned_nil;have owned0:∀b,G'.B 0=some b→Owned G' [.live S 0 l] b:=fun b hb=>⟨0,_,rfl,rfl,hb⟩;have newb:∀b,G'.B 0=some b→w.heap.size≤b:=fun b hb=>by
  rcases vo b w.heap.size with h|h
  ·exact(noO b (hs.newB b h (owned0 b hb))).elim
  ·exact h
 have hF:∀b,b<w.heap.size→G'.F b→G.F b:=fun b hb hf=>by
  rcases hs.newF b hb hf with h|h
  ·exact h
  ·exact(noO b h).elim
 have hsub:SubF G' w' ⟨G'.F,G.n+1,fun i=>if i=G.n then G'.B 0 else G.B i,fun i=>if i=G.n then 0 else G.V i,fun i=>if i=G.n then G'.S 0 else G.S i,fun i=>if i=G.n then G'.N 0 else G.N i,fun i=>if i=G.n then G'.C 0 else G.C i⟩ w':=⟨fun _ h=>h,fun _ _=>rfl⟩;have hle:Le G w ⟨G'.F,G.n+1,fun i=>if i=G.n then G'.B 0 else G.B i,fun i=>if i=G.n then 0 else G.V i,fun i=>if i=G.n then G'.S 0 else G.S i,fun i=>if i=G.n then G'.N 0 else G.N i,fun i=>if i=G.n then G'.C 0 else G.C i⟩ w':=by
  refine⟨fun b hb=>hs.le.F b hb,fun b hb=>hs.le.heap b hb,by simp,fun i hi=>.inl ?_⟩;have:i≠G.n:=by omega
  simp[this]
 have hget:∀i x,(m++[.live S 0 l])[i]?=some x→(m[i]?=some x∧i≠G.n)∨(i=G.n∧x=.live S 0 l):=by
  intro i x hx;rw[hGn];rcases vo i m.length with h|h
  ·rw[List.getElem?_append_left h]at hx;exact .inl ⟨hx,by omega⟩
  ·rw[List.getElem?_append_right h]at hx;have:i-m.length=0:=by
    rcases Nat.eq_zero_or_pos (i-m.length)with h'|h'
    ·exact h'
    ·rw[List.getElem?_eq_none (by simp;omega)]at hx;cases hx
   rw[this]at hx;exact .inr ⟨by omega,by simpa using hx.symm⟩
 have olt:∀i x,m[i]?=some x→x.isLive=true→∀b,G.B i=some b→b<w.heap.size∧¬G.F b:=fun i x hx hl b hb=>(hi.ent i x hx).lt hl hb;refine⟨v,_,_,⟨G'.F,G.n+1,fun i=>if i=G.n then G'.B 0 else G.B i,fun i=>if i=G.n then 0 else G.V i,fun i=>if i=G.n then G'.S 0 else G.S i,fun i=>if i=G.n then G'.N 0 else G.N i,fun i=>if i=G.n then G'.C 0 else G.C i⟩,rfl,⟨rfl,rfl⟩,?_,⟨by simp[hi.n],hi'.F,?_,?_,hi'.gl.bare fun _ h=>h⟩,⟨hle,hs.os,hs.tape,hs.output,hs.size,?_,?_,?_⟩⟩
 ·simp only[VRel]at hvd⊢;obtain⟨a,n,c,rfl,h1,h2,h3⟩:=hvd;exact⟨a,n,c,rfl,by simp[hGn],by simp,fun _=>by simpa [hGn] using h3 fV⟩
 ·intro i x hx;rcases hget i x hx with⟨h1,h2⟩|⟨rfl,rfl⟩
  ·by_cases hlx:x.isLive=true
   ·refine(hi.ent i x h1).mono hle (by simp[h2]) (fun b hb=>?_) (fun b hb _ hf=>?_)
    ·exact hs.keep b (olt i x h1 hlx b hb).1 (noO b)
    ·exact hF b (olt i x h1 hlx b hb).1 hf
   ·cases x with
    |gone=>trivial
    |_=>simp[Ent.isLive]at hlx
  ·refine⟨by simp,by simpa using fS,by simpa using fN,by simpa using fC,?_⟩;rcases fB with h|⟨b,cs,T,h1,h2,h3,h4,h5⟩
   ·exact .inl (by simpa using h)
   ·exact .inr ⟨b,cs,T,by simpa using h1,h2,h3,by simpa using h4,by simpa using RowAt.free hsub rfl hl h5⟩
 ·intro i j x y hx hy lx ly b hb hb';rcases hget i x hx with⟨h1,h2⟩|⟨rfl,rfl⟩<;>rcases hget j y hy with⟨h3,h4⟩|⟨rfl,rfl⟩
  ·exact hi.apart i j x y h1 h3 lx ly b (by simpa [h2] using hb) (by simpa [h4] using hb')
  ·have:=newb b (by simpa using hb');have:=(olt i x h1 lx b (by simpa [h2] using hb)).1;omega
  ·have:=newb b (by simpa using hb);have:=(olt j y h3 ly b (by simpa [h4] using hb')).1;omega
  ·rfl
 ·intro b hb hno;exact hs.keep b hb (noO b)
 ·intro b hb hf;exact .inl (hF b hb hf)
 ·rintro b hb ⟨i,x,hx,lx,hB⟩;rcases hget i x hx with⟨h1,h2⟩|⟨rfl,rfl⟩
  ·exact⟨i,x,h1,lx,by simpa [h2] using hB⟩
  ·have:=newb b (by simpa using hB);omega
theorem DenO.den{k S:Nat}{l ds:List D}(hds:idfrees ds=true) (hl:idfrees l=true) (h:DenO P k ds S l):Den P k ds (.sl S l):=by
 refine callS_of hds ((h []).mono ?_);rintro d m' ⟨rfl,rfl⟩;exact .froz (by simp) rfl (Sbs.free hl) .nil
theorem callT_tells{k:Nat}{ds:List D}{R:D→List Ent→Prop}{d2:D}{m2:List Ent}(h:CallT P k ds [] R) (ht:∀d m',R d m'→Tells 0 ⟨[d],m'⟩ ⟨[d2],m2⟩):CallT P k ds [] fun d m'=>d=d2∧m'=m2:=by
 refine⟨h.1,fun G w vs hv hi=>(h.2 G w vs hv hi).mono ?_⟩;rintro e w' ⟨v,d,m',G',rfl,hR,hvd,hi',hs⟩;have hr:Rel G' w' { tmps:=#[v],defers:=[] } ⟨[d],m'⟩:=⟨by simp only[VsRel];exact⟨v,[],rfl,hvd,rfl⟩,hi',rfl⟩;obtain⟨G'',h3,h4⟩:=tells_rel (ht d m' hR) (Jp _) hr;have hT:=h3.t;simp only[VsRel]at hT;obtain⟨u,us,he,h1,_⟩:=hT;injection he with he _;subst he;have h5:=(hs.toN (Jp _)).trans h4;have h0:0=G.n:=by rw[hi.n];rfl
 rw[h0]at h5;exact⟨_,d2,m2,G'',rfl,⟨rfl,rfl⟩,h1,h3.inv,h5.toStep⟩
def EndO(rs:List RV) (S:Nat) (l:List D) (e:Exit) (s:St):Prop:=
 match e with
 |.normal=>∃S',Tells 0 s S'∧∃ds,ressD S' rs=some ds∧Tells 0 ⟨[tupD ds],S'.m⟩ ⟨[.own 0 0],[.live S 0 l]⟩
 |.ret=>∃S',Tells 0 s S'∧∃ds,ressD S' rs=some ds∧Tells 0 ⟨[tupD ds],S'.m⟩ ⟨[.own 0 0],[.live S 0 l]⟩
 |_=>False
def endO(r:Option (List D)) (m:List Ent) (S:Nat) (l:List D):Prop:=∃ds,r=some ds∧Tells 0 ⟨[tupD ds],m⟩ ⟨[.own 0 0],[.live S 0 l]⟩
theorem EndO_ret'{rs:List RV}{S:Nat}{l:List D}{s:St}(h:endO (ressD s rs) s.m S l):EndO rs S l .ret s:=by
 obtain⟨ds,h1,h2⟩:=h;exact⟨s,.refl s,ds,h1,h2⟩
theorem endO_some{ds:List D}{m:List Ent}{S:Nat}{l:List D}:endO (some ds) m S l=Tells 0 ⟨[tupD ds],m⟩ ⟨[.own 0 0],[.live S 0 l]⟩:=by simp[endO]
instance {rs:List RV}{S:Nat}{l:List D}:StbC 0 (EndO rs S l):=⟨by
 rintro s S' h ⟨S1,h1,h2⟩;exact⟨S1,h.trans h1,h2⟩⟩
theorem DenO.at{k S:Nat}{F:Fun}{ds l:List D}(n:Nat) (hF:compF P k=some F) (hname:((P.funcs[k]?).map fun fn=>fn.name == "runtime.NumGoroutine")=some false)
 (hds:idfrees ds=true) (hl:idfrees l=true) (hn:F.ntmps=ds.length+n) (h:T P 0 F.code (EndO F.results S l) ⟨ds++Tm.ds n [],[]⟩):DenO P k ds S l:=by
 refine frameO hds hl (callT_tells (R:=fun d m'=>Tells 0 ⟨[d],m'⟩ ⟨[.own 0 0],[.live S 0 l]⟩) (callT_of hF hname ?_) fun _ _ h=>h);rw[hn,Vp,←ds_rep];refine T.clo (h.mono ?_);have key:∀(e:Exit) (s:St),(∀s',EndT F.results (fun d m'=>Tells 0 ⟨[d],m'⟩ ⟨[.own 0 0],[.live S 0 l]⟩) e s' = ∃ds,ressD s' F.results=some ds∧Tells 0 ⟨[tupD ds],s'.m⟩ ⟨[.own 0 0],[.live S 0 l]⟩)→(∃S',Tells 0 s S'∧∃ds,ressD S' F.results=some ds∧Tells 0 ⟨[tupD ds],S'.m⟩ ⟨[.own 0 0],[.live S 0 l]⟩)→Clo 0 (EndT F.results fun d m'=>Tells 0 ⟨[d],m'⟩ ⟨[.own 0 0],[.live S 0 l]⟩) e s:=by
  intro e s he ⟨S,h1,h2⟩ G w a hN hr;obtain⟨G',h3,h4⟩:=tells_rel h1 hN hr;exact⟨S,G',by rw[he];exact h2,h3,h4⟩
 intro e s hs
 cases e with
 |normal=>exact key _ s (fun _=>rfl) hs
 |ret=>exact key _ s (fun _=>rfl) hs
 |_=>exact(hs:False).elim
theorem callX_O{k S:Nat}{ds ds' l:List D}{m:List Ent}{f:D→List Ent→Prop}(h:DenO P k ds' S l) (hf:f (.own m.length 0) (m++[.live S 0 l])) (hs:Subs ds ds'):callX P k ds m f:=
 callX_eq (callT_sub hs (h m)) hf
end Go.Tm
namespace Go.Tm
inductive Q where
 |p (n:Nat)
 |k (n:Nat)
 |s (d:D)
 |y (i:Nat)
 |g (q:List Q)
inductive M1 where
 |o (j:Nat)
 |O (j:Nat)
 |H (j:Nat) (q:List Q)
 |C (j:Nat) (l:List D)
 |c (j:Nat) (l:List D)
 |n (S:Nat) (l:List D)
 |h (j:Nat) (q:List Q)
 |m (j:Nat) (l:List (Value×D))
structure Ed where
 q:List Q
 m:List M1
inductive Hi:Type 1 where
 |o
 |b (l r:Hi)
 |z (n:Nat) (x:Hi)
 |t (ρ:Org)
 |a (ps:List (List Nat)) (x:Hi)
 |g (ps:List (List Nat)) (pl:List (Option Nat)) (x:Hi)
 |f (S:Ed) (ρ:Org) (x:Hi)
 |d (M:List M1) (ρ:Org) (x:Hi)
 |j {X:Type} (n:Nat) (S:X→Ed) (l r:Hi)
 |e {X:Type} (n:Nat) (S:X→Ed) (l r:Hi)
 |l {σ β:Type} (n m:Nat) (S:σ→Ed) (B:β→Ed) (ρ:Org) (x y:Hi)
 |u {σ:Type} (n:Nat) (S:σ→Ed) (ρ:Org) (x:Hi)
 |i {X:Type} {P:Program} {k:Nat} (K:Kf P k) (n w:Nat) (S:X→Ed) (x y:Hi)
 |c {P:Program} {k:Nat} (K:Kf P k) (w:Nat) (x:Hi)
 |v (x:Hi)
def posM:List M1→Nat→Nat→Option (Nat×Bool)
 |[],_,_=>none
 |.o k::l,j,i=>bif k==j then some (i,false)else posM l j (i+1)
 |.c k _::l,j,i=>bif k==j then some (i,false)else posM l j (i+1)
 |.h k _::l,j,i=>bif k==j then some (i,false)else posM l j (i+1)
 |.O k::l,j,i=>bif k==j then some (i,true)else posM l j (i+1)
 |.H k _::l,j,i=>bif k==j then some (i,true)else posM l j (i+1)
 |.C k _::l,j,i=>bif k==j then some (i,true)else posM l j (i+1)
 |.n _ _::l,j,i=>posM l j (i+1)
 |.m k _::l,j,i=>bif k==j then some (i,false)else posM l j (i+1)
def rnP(o:Option (Nat×Bool)) (v:Nat) (f:Nat→Nat→D):D:=match o with|some (i,b)=>f i (bif b then v else 0)|none=>.dead
mutual
def rfD(ks:List M1) (m:List Ent):Nat→D→D
 |n+1,.own j v=>rfO ks m n v m[j]? (posM ks j 0)
 |n+1,.ref j v x s=>rfR ks m n v x s m[j]? (posM ks j 0)
 |_+1,.view j v lo k=>rnP (posM ks j 0) v fun i v=>.view i v lo k
 |_+1,.mp j=>rnP (posM ks j 0) 0 fun i _=>.mp i
 |n+1,.agg l=>.agg (rfL ks m n l)
 |n+1,.tup l=>.tup (rfL ks m n l)
 |n+1,.fn k a c=>.fn k (rfL ks m n a) (rfL ks m n c)
 |n+1,.pt d=>.pt (rfD ks m n d)
 |_,d=>d
def rfO(ks:List M1) (m:List Ent) (n v:Nat):Option Ent→Option (Nat×Bool)→D
 |_,some (i,b)=>.own i (bif b then v else 0)
 |some (.live S _ l),none=>.sl S (rfL ks m n l)
 |_,none=>.dead
def rfR(ks:List M1) (m:List Ent) (n v x s:Nat):Option Ent→Option (Nat×Bool)→D
 |_,some (i,b)=>.ref i (bif b then v else 0) x s
 |some (.live _ _ (d::_)),none=>.pt (rfD ks m n d)
 |_,none=>.dead
def rfL(ks:List M1) (m:List Ent) (n:Nat):List D→List D
 |[]=>[]
 |d::l=>rfD ks m n d::rfL ks m n l
end
mutual
theorem rfD_free(ks:List M1) (m:List Ent):∀(n:Nat) (d:D),idfree d=true→rfD ks m n d=d
 |n+1,.agg l,h=>by simp only[idfree]at h;simp only[rfD,rfL_free ks m n l h]
 |n+1,.tup l,h=>by simp only[idfree]at h;simp only[rfD,rfL_free ks m n l h]
 |n+1,.fn k a c,h=>by simp only[idfree,xn]at h;simp only[rfD,rfL_free ks m n a h.1,rfL_free ks m n c h.2]
 |n+1,.pt d,h=>by simp only[idfree]at h;simp only[rfD,rfD_free ks m n d h]
 |_,.own _ _,h=>by simp[idfree]at h
 |_,.view _ _ _ _,h=>by simp[idfree]at h
 |_,.ref _ _ _ _,h=>by simp[idfree]at h
 |_,.mp _,h=>by simp[idfree]at h
 |n,.v _,_=>by cases n<;>simp only[rfD]
 |n,.sl _ _,_=>by cases n<;>simp only[rfD]
 |n,.ifc _ _,_=>by cases n<;>simp only[rfD]
 |n,.dead,_=>by cases n<;>simp only[rfD]
 |0,.agg _,_=>by simp only[rfD]
 |0,.tup _,_=>by simp only[rfD]
 |0,.fn _ _ _,_=>by simp only[rfD]
 |0,.pt _,_=>by simp only[rfD]
theorem rfL_free(ks:List M1) (m:List Ent) (n:Nat):∀l:List D,idfrees l=true→rfL ks m n l=l
 |[],_=>by simp only[rfL]
 |d::l,h=>by simp only[idfrees,xn]at h;simp only[rfL,rfD_free ks m n d h.1,rfL_free ks m n l h.2]
end
def kAll:List D→List D
 |[]=>[]
 |_::l=>.dead::kAll l
def edL(ks:List M1) (m:List Ent) (u:List D):List Q→List D→List D
 |[],l=>kAll l
 |_::_,[]=>[]
 |.p 0::q,l=>edL ks m u q l
 |.p (n+1)::q,d::l=>rfD ks m 9 d::edL ks m u (.p n::q) l
 |.k 0::q,l=>edL ks m u q l
 |.k (n+1)::q,d::l=>.dead::edL ks m u (.k n::q) l
 |.s e::q,d::l=>e::edL ks m u q l
 |.y i::q,_::l=>rfD ks m 9 (u.getD i .dead)::edL ks m u q l
 |.g r::q,.agg b::l=>.agg (edL ks m u r b)::edL ks m u q l
 |.g _::q,d::l=>d::edL ks m u q l
def eO(ks:List M1) (m:List Ent):Option Ent→Ent
 |some (.live S v l)=>.live S 0 (rfL ks m 9 l)
 |some e=>e
 |none=>.gone
def eX(b:List D):Option Ent→Ent
 |some (.live S v _)=>.live S v b
 |some e=>e
 |none=>.gone
def eV(ks:List M1) (m:List Ent):Option Ent→Ent
 |some (.live S v l)=>.live S v (rfL ks m 9 l)
 |some e=>e
 |none=>.gone
def eW(ks:List M1) (m:List Ent) (q:List Q):Option Ent→Ent
 |some (.live S v l)=>.live S v (edL ks m [] q l)
 |some e=>e
 |none=>.gone
def eC(b:List D):Option Ent→Ent
 |some (.live S v _)=>.live S 0 b
 |some e=>e
 |none=>.gone
def eH(ks:List M1) (m:List Ent) (q:List Q):Option Ent→Ent
 |some (.live S v l)=>.live S 0 (edL ks m [] q l)
 |some e=>e
 |none=>.gone
def edE(ks:List M1) (m:List Ent):M1→Ent
 |.o j=>eO ks m m[j]?
 |.c j l=>eC l m[j]?
 |.n S l=>.live S 0 l
 |.h j q=>eH ks m q m[j]?
 |.O j=>eV ks m m[j]?
 |.C j l=>eX l m[j]?
 |.H j q=>eW ks m q m[j]?
 |.m _ l=>.mp l
def edM(ks:List M1) (m:List Ent):List M1→List Ent
 |[]=>[]
 |x::l=>edE ks m x::edM ks m l
def eFz(ks:List M1) (m:List Ent):Option Ent→Ent
 |some (.live S _ l)=>.live S 0 (rfL ks m 9 l)
 |some e=>e
 |none=>.gone
def eGz(ks:List M1) (m:List Ent):Option Ent→Ent
 |some (.live S v l)=>.live S v (rfL ks m 9 l)
 |some e=>e
 |none=>.gone
def edF(ks:List M1) (m:List Ent):List M1→List Ent
 |[]=>[]
 |.o j::l=>eFz ks m m[j]?::edF ks m l
 |.O j::l=>eGz ks m m[j]?::edF ks m l
 |_::l=>edF ks m l
def fd(ks:List M1) (s:St):St:=⟨rfL ks s.m 9 s.t,edF ks s.m ks⟩
def ed(E:Ed) (s:St):St:=⟨edL E.m s.m s.t E.q s.t,edM E.m s.m E.m⟩
section
variable {ks l:List M1} {i j k n S:Nat} {d e:D} {b c u:List D} {q:List Q} {t:List D} {m r:List Ent} {f:Nat→Nat→D} {x:M1} {v lo y:Nat} {a:Ent}
theorem d_ed:ed ⟨q,ks⟩ ⟨t,m⟩=⟨edL ks m t q t,edM ks m ks⟩:=rn rfl rfl
theorem d_po0:posM [] j i=none:=rn rfl rfl
theorem d_po1:posM (.o k::l) j i=bif k==j then some (i,false)else posM l j (i+1):=rn rfl rfl
theorem d_po5:posM (.O k::l) j i=bif k==j then some (i,true)else posM l j (i+1):=rn rfl rfl
theorem d_po6:posM (.H k q::l) j i=bif k==j then some (i,true)else posM l j (i+1):=rn rfl rfl
theorem d_po7:posM (.C k b::l) j i=bif k==j then some (i,true)else posM l j (i+1):=rn rfl rfl
theorem d_po2:posM (.c k b::l) j i=bif k==j then some (i,false)else posM l j (i+1):=rn rfl rfl
theorem d_po3:posM (.h k q::l) j i=bif k==j then some (i,false)else posM l j (i+1):=rn rfl rfl
theorem d_po4:posM (.n S b::l) j i=posM l j (i+1):=rn rfl rfl
theorem d_po8{a:List (Value×D)}:posM (.m k a::l) j i=bif k==j then some (i,false)else posM l j (i+1):=rn rfl rfl
theorem d_e8{a:List (Value×D)}:edE ks m (.m j a)=.mp a:=rn rfl rfl
theorem d_f7{a:List (Value×D)}:eO ks m (some (.mp a))=.mp a:=rn rfl rfl
theorem g_e3{a:List (Value×D)}:eFz ks m (some (.mp a))=.mp a:=rn rfl rfl
theorem d_rs:rnP (some (i,true)) v f=f i v:=rn rfl rfl
theorem d_rt:rnP (some (i,false)) v f=f i 0:=rn rfl rfl
theorem d_rn:rnP none v f=.dead:=rn rfl rfl
theorem d_e1:edE ks m (.o j)=eO ks m m[j]?:=rn rfl rfl
theorem d_f1:eO ks m (some (.live S v b))=.live S 0 (rfL ks m 9 b):=rn rfl rfl
theorem d_f2:eC c (some (.live S v b))=.live S 0 c:=rn rfl rfl
theorem d_f3:eH ks m q (some (.live S v b))=.live S 0 (edL ks m [] q b):=rn rfl rfl
theorem d_e2:edE ks m (.c j c)=eC c m[j]?:=rn rfl rfl
theorem d_e3:edE ks m (.n S b)=.live S 0 b:=rn rfl rfl
theorem d_e5:edE ks m (.O j)=eV ks m m[j]?:=rn rfl rfl
theorem d_e6:edE ks m (.H j q)=eW ks m q m[j]?:=rn rfl rfl
theorem d_f4:eV ks m (some (.live S v b))=.live S v (rfL ks m 9 b):=rn rfl rfl
theorem d_f5:eW ks m q (some (.live S v b))=.live S v (edL ks m [] q b):=rn rfl rfl
theorem d_e7:edE ks m (.C j c)=eX c m[j]?:=rn rfl rfl
theorem d_f6:eX c (some (.live S v b))=.live S v c:=rn rfl rfl
theorem d_e4:edE ks m (.h j q)=eH ks m q m[j]?:=rn rfl rfl
theorem d_m0:edM ks m []=[]:=rn rfl rfl
theorem d_m1:edM ks m (x::l)=edE ks m x::edM ks m l:=rn rfl rfl
theorem d_k0:kAll []=[]:=rn rfl rfl
theorem d_k1:kAll (d::b)=.dead::kAll b:=rn rfl rfl
theorem d_q0:edL ks m u [] b=kAll b:=by simp only[edL]
theorem d_q1:edL ks m u (.p 0::q) b=edL ks m u q b:=by cases b<;>cases q<;>simp only[edL,kAll]
theorem d_q2:edL ks m u (.p (n+1)::q) (d::b)=rfD ks m 9 d::edL ks m u (.p n::q) b:=by simp only[edL]
theorem d_q3:edL ks m u (.k 0::q) b=edL ks m u q b:=by cases b<;>cases q<;>simp only[edL,kAll]
theorem d_q4:edL ks m u (.k (n+1)::q) (d::b)=.dead::edL ks m u (.k n::q) b:=by simp only[edL]
theorem d_q5:edL ks m u (.s e::q) (d::b)=e::edL ks m u q b:=by simp only[edL]
theorem d_q6{g:List Q}:edL ks m u (.g g::q) (.agg c::b)=.agg (edL ks m u g c)::edL ks m u q b:=by simp only[edL]
theorem d_q7{i:Nat}:edL ks m u (.y i::q) (d::b)=rfD ks m 9 (u.getD i .dead)::edL ks m u q b:=by simp only[edL]
theorem g_fd:fd ks ⟨t,m⟩=⟨rfL ks m 9 t,edF ks m ks⟩:=rn rfl rfl
theorem g_own:rfD ks m (n+1) (.own j v)=rfO ks m n v m[j]? (posM ks j 0):=by simp only[rfD]
theorem g_ref:rfD ks m (n+1) (.ref j v y k)=rfR ks m n v y k m[j]? (posM ks j 0):=by simp only[rfD]
theorem g_view:rfD ks m (n+1) (.view j v lo k)=rnP (posM ks j 0) v fun i v=>.view i v lo k:=by simp only[rfD]
theorem g_mp:rfD ks m (n+1) (.mp j)=rnP (posM ks j 0) 0 fun i _=>.mp i:=by simp only[rfD]
theorem g_agg:rfD ks m (n+1) (.agg b)=.agg (rfL ks m n b):=by simp only[rfD]
theorem g_tup:rfD ks m (n+1) (.tup b)=.tup (rfL ks m n b):=by simp only[rfD]
theorem g_fn:rfD ks m (n+1) (.fn k b c)=.fn k (rfL ks m n b) (rfL ks m n c):=by simp only[rfD]
theorem g_pt:rfD ks m (n+1) (.pt d)=.pt (rfD ks m n d):=by simp only[rfD]
theorem g_v{x:Value}:rfD ks m n (.v x)=.v x:=by cases n<;>simp only[rfD]
theorem g_sl:rfD ks m n (.sl S b)=.sl S b:=by cases n<;>simp only[rfD]
theorem g_ifc:rfD ks m n (.ifc S d)=.ifc S d:=by cases n<;>simp only[rfD]
theorem g_dead:rfD ks m n .dead=.dead:=by cases n<;>simp only[rfD]
theorem g_fr{α:Type}{e:α→D} [Fr e] {x:α}:rfD ks m n (e x)=e x:=rfD_free ks m n _ (Fr.h x)
theorem g_l0:rfL ks m n []=[]:=by simp only[rfL]
theorem g_l1:rfL ks m n (d::b)=rfD ks m n d::rfL ks m n b:=by simp only[rfL]
theorem g_lm{α:Type}{e:α→D} [Fr e] {x:List α}:rfL ks m n (x.map e)=x.map e:=rfL_free ks m n _ (Fr.l x)
theorem g_o1{o:Option Ent}:rfO ks m n v o (some (i,false))=.own i 0:=by cases o<;>simp only[rfO,cond_false]
theorem g_o2{o:Option Ent}:rfO ks m n v o (some (i,true))=.own i v:=by cases o<;>simp only[rfO,cond_true]
theorem g_o3:rfO ks m n v (some (.live S k b)) none=.sl S (rfL ks m n b):=by simp only[rfO]
theorem g_r1{o:Option Ent}:rfR ks m n v y k o (some (i,false))=.ref i 0 y k:=by cases o<;>simp only[rfR,cond_false]
theorem g_r2{o:Option Ent}:rfR ks m n v y k o (some (i,true))=.ref i v y k:=by cases o<;>simp only[rfR,cond_true]
theorem g_r3:rfR ks m n v y k (some (.live S j (d::b))) none=.pt (rfD ks m n d):=by simp only[rfR]
theorem g_e1:eFz ks m (some (.live S v b))=.live S 0 (rfL ks m 9 b):=rn rfl rfl
theorem g_e2:eGz ks m (some (.live S v b))=.live S v (rfL ks m 9 b):=rn rfl rfl
theorem g_m0:edF ks m []=[]:=rn rfl rfl
theorem g_m1:edF ks m (.o j::l)=eFz ks m m[j]?::edF ks m l:=rn rfl rfl
theorem g_m2:edF ks m (.O j::l)=eGz ks m m[j]?::edF ks m l:=rn rfl rfl
theorem d_c1{α:Type}{x y:α}:(bif true then x else y)=x:=rn rfl rfl
theorem d_c2{α:Type}{x y:α}:(bif false then x else y)=y:=rn rfl rfl
end
theorem zf:type_of% (And.intro (And.intro (And.intro (And.intro (And.intro (And.intro @g_fd @g_own) (And.intro @g_ref @g_view)) (And.intro (And.intro @g_mp @g_agg) (And.intro @g_tup @g_fn))) (And.intro (And.intro (And.intro @g_pt @g_v) (And.intro @g_sl @g_ifc)) (And.intro (And.intro @g_dead @g_fr) (And.intro @g_l0 @g_l1)))) (And.intro (And.intro (And.intro (And.intro @g_lm @g_o1) (And.intro @g_o2 @g_o3)) (And.intro (And.intro @g_r1 @g_r2) (And.intro @g_r3 @g_e1))) (And.intro (And.intro (And.intro @g_e2 @g_m0) (And.intro (And.intro @g_m1 (And.intro @d_po8 @g_e3)) @g_m2)) (And.intro (And.intro @d_po0 @d_po1) (And.intro @d_po2 @d_po3))))) (And.intro (And.intro (And.intro (And.intro @d_po4 @d_po5) (And.intro @d_po6 @d_po7)) (And.intro (And.intro @d_rs @d_rt) (And.intro @d_rn @d_c1))) (And.intro (And.intro @d_c2 @mo.{0}) @qp.{0}))):=(And.intro (And.intro (And.intro (And.intro (And.intro (And.intro @g_fd @g_own) (And.intro @g_ref @g_view)) (And.intro (And.intro @g_mp @g_agg) (And.intro @g_tup @g_fn))) (And.intro (And.intro (And.intro @g_pt @g_v) (And.intro @g_sl @g_ifc)) (And.intro (And.intro @g_dead @g_fr) (And.intro @g_l0 @g_l1)))) (And.intro (And.intro (And.intro (And.intro @g_lm @g_o1) (And.intro @g_o2 @g_o3)) (And.intro (And.intro @g_r1 @g_r2) (And.intro @g_r3 @g_e1))) (And.intro (And.intro (And.intro @g_e2 @g_m0) (And.intro (And.intro @g_m1 (And.intro @d_po8 @g_e3)) @g_m2)) (And.intro (And.intro @d_po0 @d_po1) (And.intro @d_po2 @d_po3))))) (And.intro (And.intro (And.intro (And.intro @d_po4 @d_po5) (And.intro @d_po6 @d_po7)) (And.intro (And.intro @d_rs @d_rt) (And.intro @d_rn @d_c1))) (And.intro (And.intro @d_c2 @mo.{0}) @qp.{0})))def zd:=(And.intro (And.intro (And.intro (And.intro (And.intro (And.intro (And.intro @d_ed @d_po0) (And.intro @d_po1 @d_po2)) (And.intro (And.intro @d_po3 @d_po4) (And.intro @d_po5 @d_po6))) (And.intro (And.intro (And.intro @d_po7 @d_rs) (And.intro @d_rt @d_rn)) (And.intro (And.intro @d_e1 @d_e2) (And.intro @d_e3 @d_e4)))) (And.intro (And.intro (And.intro (And.intro @d_e5 @d_e6) (And.intro @d_e7 @d_f1)) (And.intro (And.intro @d_f2 @d_f3) (And.intro @d_f4 @d_f5))) (And.intro (And.intro (And.intro (And.intro @d_f6 (And.intro @d_po8 (And.intro @d_e8 @d_f7))) @d_m0) (And.intro @d_m1 @d_k0)) (And.intro (And.intro @d_k1 @d_q0) (And.intro @d_q1 @d_q2))))) (And.intro (And.intro (And.intro (And.intro (And.intro @d_q3 @d_q4) (And.intro @d_q5 @d_q6)) (And.intro (And.intro @d_q7 @g_own) (And.intro @g_ref @g_view))) (And.intro (And.intro (And.intro @g_mp @g_agg) (And.intro @g_tup @g_fn)) (And.intro (And.intro @g_pt @g_v) (And.intro @g_sl @g_ifc)))) (And.intro (And.intro (And.intro (And.intro @g_dead @g_fr) (And.intro @g_l0 @g_l1)) (And.intro (And.intro @g_lm @g_o1) (And.intro @g_o2 @g_o3))) (And.intro (And.intro (And.intro @g_r1 @g_r2) (And.intro @g_r3 @List.getD_cons_succ.{0})) (And.intro (And.intro @List.getD_cons_zero.{0} @d_c1) (And.intro @d_c2 @mo.{0})))))) @qp.{0})
class HiC:Type 1 where
 h:Hi
def Yi[i:HiC] (p:Prop):Prop:=p
structure Wh (n:Nat) (p:Prop):Prop where
 h:p
structure Lh (n:Nat) (p:Prop):Prop where
 h:p
def EQ(p:Prop):Prop:=p
theorem EQ.out{p:Prop}(h:EQ p):p:=h
structure Lk {α β:Type}(c:α→β) (z:β) (w:α) (p:Prop):Prop where
 l:∀v,z=c v→v=w
 k:p
theorem cN{p:Prop}(h:¬p):¬p:=h
class Con (p:Prop) (q:outParam Prop):Prop where
 h:p→q
class Enc (α:Type) (e:outParam (α→D)):Prop where
 h:True
section
variable {P:Program} {N:Nat} {h x:Hi} {a b:C} {K:Exit→St→Prop} {s:St}
theorem gj{X:Type}{n:Nat}{S:X→Ed}(g:@Yi ⟨.j n S h x⟩ (Tm.T P N (.seq a b) K s)):@Yi ⟨.j n S h x⟩ (Tm.T P N (.seq a b) K s):=g
theorem ge{X:Type}{n:Nat}{S:X→Ed}(g:@Yi ⟨.e n S h x⟩ (Tm.T P N (.seq a b) K s)):@Yi ⟨.e n S h x⟩ (Tm.T P N (.seq a b) K s):=g
theorem gq{p:Prop}{R1 R2:St→Prop}{s1 s2:St}(g:@Yi ⟨h⟩ (gP p (R1 s1) (R2 s2))):@Yi ⟨h⟩ (gQ p R1 s1 R2 s2):=g
theorem gy1{R:List (List Nat)→St→Prop}{fp:List (List Nat)}{p:List Nat}{d:Option Tmp}{i:I}(g:@Yi ⟨h⟩ (opY R fp p d i s)):@Yi ⟨h⟩ (opY R fp p d i s):=g
theorem gy2{R:List (List Nat)→St→Prop}{fp:List (List Nat)}{p:List Nat}{d:Option Tmp}{i:I}(g:@Yi ⟨h⟩ (skY R fp p d i s)):@Yi ⟨h⟩ (skY R fp p d i s):=g
theorem gy3{R:List (List Nat)→St→Prop}{fp:List (List Nat)}{p:List Nat}{k:FuncId}{d:Option Tmp}{i:List Operand}(g:@Yi ⟨h⟩ (clY P R fp p k d i s)):@Yi ⟨h⟩ (clY P R fp p k d i s):=g
theorem gy4{R:List (List Nat)→St→Prop}{fp:List (List Nat)}{p:List Nat}{d:Option Tmp}{i:List Operand}(g:@Yi ⟨h⟩ (cnY R fp p d i s)):@Yi ⟨h⟩ (cnY R fp p d i s):=g
theorem gy5{ps:List (List Nat)}{q:Nat}{l:List RI}{R:St→Prop}{fp:List (List Nat)}(g:@Yi ⟨h⟩ (DrY P ps q l R fp s)):@Yi ⟨h⟩ (DrY P ps q l R fp s):=g
theorem gg{p A B:Prop}(g:@Yi ⟨h⟩ (gP p A B)):@Yi ⟨h⟩ (gP p A B):=g
theorem gcd{c:Operand}(g:@Yi ⟨h⟩ (Tm.T P N (.cond c a b) K s)):@Yi ⟨h⟩ (Tm.T P N (.cond c a b) K s):=g
theorem gcx{k:Nat}{ds:List D}{m:List Ent}{f:D→List Ent→Prop}(g:@Yi ⟨h⟩ (callX P k ds m f)):@Yi ⟨h⟩ (callX P k ds m f):=g
theorem gcl{k:Nat}{ds:List D}{i:List Nat}{R:St→Prop}{d:Option Tmp}(g:@Yi ⟨h⟩ (callL P k ds i R s d)):@Yi ⟨h⟩ (callL P k ds i R s d):=g
theorem gl{σ β:Type}{n m:Nat}{S:σ→Ed}{B:β→Ed}{ρ:Org}{y:Hi}{id:Nat}(g:@Yi ⟨.l n m S B ρ x y⟩ (Tm.T P N (.block id (.loop a)) K s)):@Yi ⟨.l n m S B ρ x y⟩ (Tm.T P N (.block id (.loop a)) K s):=g
theorem gu{σ:Type}{n:Nat}{S:σ→Ed}{ρ:Org}{id:Nat}(g:@Yi ⟨.u n S ρ x⟩ (Tm.T P N (.block id (.loop a)) K s)):@Yi ⟨.u n S ρ x⟩ (Tm.T P N (.block id (.loop a)) K s):=g
theorem gf{E:Ed}{ρ:Org}{q:Prop}(g:@Yi ⟨.f E ρ x⟩ q):@Yi ⟨.f E ρ x⟩ q:=g
theorem ga{ps:List (List Nat)}{q:Prop}(g:@Yi ⟨.a ps x⟩ q):@Yi ⟨.a ps x⟩ q:=g
theorem gao{ps:List (List Nat)}{pl:List (Option Nat)}{q:Prop}(g:@Yi ⟨.g ps pl x⟩ q):@Yi ⟨.g ps pl x⟩ q:=g
theorem yss(g:@Yi ⟨h⟩ (Tm.T P N a (KS P N b K) s)):@Yi ⟨h⟩ (Tm.T P N (.seq a b) K s):=T.seqS g
theorem yz{n:Nat}(g:@Yi ⟨.z n h⟩ (Tm.T P N a (KS P N b K) s)):@Yi ⟨.z (n+1) h⟩ (Tm.T P N (.seq a b) K s):=T.seqS g
theorem yz0{p:Prop}(g:@Yi ⟨h⟩ p):@Yi ⟨.z 0 h⟩ p:=g
theorem yrg{l:List RI}(g:@Yi ⟨h⟩ (RegZ P l (K .normal) s)):@Yi ⟨h⟩ (Tm.T P N (.reg l) K s):=T.rg g
theorem ydy{q:Nat}{l:List RI}(hm:P.follows .mixedOrders=true) (g:@Yi ⟨h⟩ (DrY P [] q l (K .normal) [] s)):@Yi ⟨h⟩ (Tm.T P N (.draw q l) K s):=T.dy hm g
theorem yay{q:Nat}{l:List RI}{cuts:List Nat}{bs ps:List (List Nat)}(hm:P.follows .mixedOrders=true) (hok:drawOkO bs l q ps []=true) (g:@Yi ⟨h⟩ (DrY P ps q l (K .normal) [] s)):@Yi ⟨.a ps h⟩ (Tm.T P N (.any cuts q bs l) K s):=T.ay hm ps hok g
theorem yao{q:Nat}{l:List RI}{cuts:List Nat}{bs ps:List (List Nat)}{pl:List (Option Nat)}(hm:P.follows .mixedOrders=true) (hok:drawOkO bs l q ps pl=true) (hpl:plB s.m pl=true) (g:@Yi ⟨h⟩ (DrYO P pl ps q l (K .normal) [] s)):@Yi ⟨.g ps pl h⟩ (Tm.T P N (.any cuts q bs l) K s):=T.ao hm ps pl hok hpl g
theorem ysk(g:@Yi ⟨h⟩ (K .normal s)):@Yi ⟨h⟩ (Tm.T P N .skip K s):=T.skip g
theorem yxt{id:Nat}(g:@Yi ⟨h⟩ (K (.exit id) s)):@Yi ⟨h⟩ (Tm.T P N (.exit id) K s):=T.exit g
theorem ybk{id:Nat}(g:@Yi ⟨h⟩ (Tm.T P N a (KB id K) s)):@Yi ⟨h⟩ (Tm.T P N (.block id a) K s):=T.bk g
theorem ycd{c:Operand}{t:Bool}(ht:s.ev c=.v (.bool t)) (g:@Yi ⟨h⟩ (gP (t=true) (Tm.T P N a K s) (Tm.T P N b K s))):@Yi ⟨h⟩ (Tm.T P N (.cond c a b) K s):=T.cd ht g
theorem ygi{p q A' B':Prop} [Decidable q] {α:Type}{A B:Option α}{r:α}(h1:q→A=some r→@Yi ⟨h⟩ A') (h2:¬q→B=some r→@Yi ⟨x⟩ B') (hpq:p=q:=by rfl) (e:(if q then A else B)=some r):@Yi ⟨.b h x⟩ (gP p A' B'):=gP.ite e (iff_of_eq hpq) h1 h2
theorem ygo{p q A' B':Prop} [Decidable q] {α:Type}{A B:Option α}{r:α}(h1:q→A=some r→@Yi ⟨.o⟩ A') (h2:¬q→B=some r→@Yi ⟨.o⟩ B') (hpq:p=q:=by rfl) (e:(if q then A else B)=some r):@Yi ⟨.o⟩ (gP p A' B'):=gP.ite e (iff_of_eq hpq) h1 h2
theorem ygc{p q A' B':Prop} [Decidable q] {α:Type}{A B:Option α}{r:α}(h1:q→A=some r→@Yi ⟨h⟩ A') (h2:¬q→B=some r→@Yi ⟨x⟩ B') (hpq:p↔q) (e:(if q then A else B)=some r):@Yi ⟨.b h x⟩ (gP p A' B'):=gP.ite e hpq h1 h2
theorem ygoc{p q A' B':Prop} [Decidable q] {α:Type}{A B:Option α}{r:α}(h1:q→A=some r→@Yi ⟨.o⟩ A') (h2:¬q→B=some r→@Yi ⟨.o⟩ B') (hpq:p↔q) (e:(if q then A else B)=some r):@Yi ⟨.o⟩ (gP p A' B'):=gP.ite e hpq h1 h2
theorem ycq{k:Nat}{p:Prop}{ds ds':List D}{o:D}{m:List Ent}{f:D→List Ent→Prop} [c:Con p (Den P k ds' o)] (e:p) (hf:@Yi ⟨h⟩ (f o m)) (hs:SqL (Sq [] [] 9) ds ds'):@Yi ⟨h⟩ (callX P k ds m f):=callX_q (c.h e) hf hs
theorem ycv{k:Nat}{p:Prop}{ds ds':List D}{o:D}{m:List Ent}{f:D→List Ent→Prop} [c:Con p (Den P k ds' o)] (e:p) (hf:@Yi ⟨h⟩ (f o m)) (hfl:flat o=true) (hs:SqL (Sq [] m 9) ds ds'):@Yi ⟨h⟩ (callX P k ds m f):=callX_ql (c.h e) hf hfl hs
theorem ylq{k:Nat}{p:Prop}{ds ds':List D}{o:D}{R:St→Prop}{dst:Option Tmp} [c:Con p (Den P k ds' o)] (e:p) (hf:@Yi ⟨h⟩ (R (s.put dst o))) (hs:SqL (Sq [] [] 9) ds ds'):@Yi ⟨h⟩ (callL P k ds [] R s dst):=callL_q (c.h e) hf hs
theorem ylv{k:Nat}{p:Prop}{ids:List Nat}{ds ds':List D}{o:D}{R:St→Prop}{dst:Option Tmp} [c:Con p (Den P k ds' o)] (e:p) (hf:@Yi ⟨h⟩ (R (s.put dst o))) (hfl:flat o=true) (hi:(ids.all fun i=>decide (i<s.m.length))=true) (ht:tidsB ids ds=true) (hs:SqL (Lq s.m) ds ds'):@Yi ⟨h⟩ (callL P k ds ids R s dst):=callL_ql (c.h e) hf hfl hi ht hs
theorem ytz{s' S:St}{ρ:Org}(g:SqL (Sq ρ s'.m 9) s'.t S.t∧EtQ ρ s'.m ρ S.m) (hk:keepB ρ N=true) (h3:(ρ.filterMap (·.1)).Nodup):@Yi ⟨.t ρ⟩ (Tells N s' S):=Tells.q ρ hk h3 g
theorem yrt(g:K .ret s):@Yi ⟨h⟩ (Tm.T P N .ret K s):=T.ret g
theorem yen{rs:List RV}{o:D}(g:endF (ressD s rs) s.m o):@Yi ⟨h⟩ (EndF rs o .normal s):=EndF_n g
theorem yf{S:Ed}{S':St}{ρ:Org}(hS:ed S s=S') (g:@Yi ⟨.t ρ⟩ (Tells N s S')) (g2:@Yi ⟨h⟩ (Tm.T P N a K S')):@Yi ⟨.f S ρ h⟩ (Tm.T P N a K s):=T.tells g g2
theorem gd{M:List M1}{ρ:Org}{q:Prop}(g:@Yi ⟨.d M ρ x⟩ q):@Yi ⟨.d M ρ x⟩ q:=g
theorem yd{M:List M1}{S':St}{ρ:Org}(hS:fd M s=S') (g:@Yi ⟨.t ρ⟩ (Tells N s S')) (g2:@Yi ⟨h⟩ (Tm.T P N a K S')):@Yi ⟨.d M ρ h⟩ (Tm.T P N a K s):=T.tells g g2
theorem yj[StbC N K] {X β:Type}{n:Nat}{S:X→Ed}{S':X→St}{o:Option X}{f:X→Option β}{r:β}(hS:∀z,ed (S z) s=S' z)
 (ha:∀z,o=some z→True→@Yi ⟨h⟩ (Tm.T P N a (KJ N K S' (.inl z:X⊕Unit)) s)) (hb:Wh n (∀z,f z=some r→@Yi ⟨x⟩ (Tm.T P N b K (S' z)))) (e:o.bind f=some r):@Yi ⟨.j n S h x⟩ (Tm.T P N (.seq a b) K s):=
 jn S' e (fun z hz=>ha z hz trivial) fun z _ hz=>hb.h z hz
theorem ye[StbC N K] {X R:Type}{n:Nat}{S:X→Ed}{S':X→St}{o:Option (X⊕R)}{f:X⊕R→Option R}{r:R}{p:Prop}(k:p) (hS:∀z,ed (S z) s=S' z)
 (ha:∀z,o=some z→Lk Sum.inr z r p→@Yi ⟨h⟩ (Tm.T P N a (KJ N K S' z) s)) (hb:Wh n (∀z,f (.inl z)=some r→@Yi ⟨x⟩ (Tm.T P N b K (S' z)))) (hf:∀v,f (.inr v)=some v:=by intros;rfl) (e:o.bind f=some r):@Yi ⟨.e n S h x⟩ (Tm.T P N (.seq a b) K s):=by
 obtain⟨z,h1,h2⟩:=bsome e;refine T.join S' z (ha z h1 ⟨?_,k⟩) ?_
 ·rintro v rfl;rw[hf]at h2;exact eo h2
 ·rintro y rfl;exact hb.h y h2
theorem yl[StbC N K] {σ β R:Type}{n m id:Nat}{x0:σ}{step:σ→Option (Ex σ β R)}{S:σ→Ed}{B:β→Ed}{S':σ→St}{B':β→St}{f:β⊕R→Option R}{r:R}{p:Prop}{τ:Org}(k:p)
 (hS:∀z,ed (S z) s=S' z) (hB:∀z,ed (B z) s=B' z) (ht:@Yi ⟨.t τ⟩ (Tells N s (S' x0)))
 (ha:Lh n (∀q z,step q=some z→Lk Ex.ret z r p→@Yi ⟨h⟩ (Tm.T P N a (KL N id K S' B' z) (S' q)))) (hb:Wh m (∀z,f (.inl z)=some r→@Yi ⟨x⟩ (K .normal (B' z)))) (hf:∀v,f (.inr v)=some v:=by intros;rfl) (e:(loopO step x0).bind f=some r) :
 @Yi ⟨.l n m S B τ h x⟩ (Tm.T P N (.block id (.loop a)) K s):=by
 obtain⟨y,h1,h2⟩:=bsome e;refine lm h1 S' B' ht (fun q z hz hv=>ha.h q z hz ⟨?_,k⟩) ?_
 ·rintro v rfl;obtain rfl:=hv _ rfl;rw[hf]at h2;exact eo h2
 ·rintro b rfl;exact hb.h b h2
theorem yl'[StbC N K] {σ β R ρ:Type}{n m id:Nat}{x0:σ}{step:σ→Option (Ex σ β ρ)}{S:σ→Ed}{B:β→Ed}{S':σ→St}{B':β→St}{f:β⊕ρ→Option R}{r:R}{τ:Org}
 (hS:∀z,ed (S z) s=S' z) (hB:∀z,ed (B z) s=B' z) (ht:@Yi ⟨.t τ⟩ (Tells N s (S' x0)))
 (ha:Lh n (∀q z,step q=some z→True→@Yi ⟨h⟩ (Tm.T P N a (KL N id K S' B' z) (S' q)))) (hb:Wh m (∀z,f (.inl z)=some r→@Yi ⟨x⟩ (K .normal (B' z)))) (e:(loopO step x0).bind f=some r) :
 @Yi ⟨.l n m S B τ h x⟩ (Tm.T P N (.block id (.loop a)) K s):=by
 obtain⟨y,h1,h2⟩:=bsome e;refine lm h1 S' B' ht (fun q z hz _=>ha.h q z hz trivial) ?_;rintro b rfl;exact hb.h b h2
theorem yu[StbC N K] {σ R:Type}{n id:Nat}{x0:σ}{step:σ→Option (Ex σ Empty R)}{S:σ→Ed}{S':σ→St}{f:Empty⊕R→Option R}{r:R}{p:Prop}{τ:Org}(k:p)
 (hS:∀z,ed (S z) s=S' z) (ht:@Yi ⟨.t τ⟩ (Tells N s (S' x0)))
 (ha:Lh n (∀q z,step q=some z→Lk Ex.ret z r p→@Yi ⟨h⟩ (Tm.T P N a (KL N id K S' (fun q:Empty=>q.elim) z) (S' q)))) (hf:∀v,f (.inr v)=some v:=by intros;rfl) (e:(loopO step x0).bind f=some r) :
 @Yi ⟨.u n S τ h⟩ (Tm.T P N (.block id (.loop a)) K s):=by
 obtain⟨y,h1,h2⟩:=bsome e;refine lm h1 S' (fun q:Empty=>q.elim) ht (fun q z hz hv=>ha.h q z hz ⟨?_,k⟩) (fun q=>q.elim);rintro v rfl;obtain rfl:=hv _ rfl;rw[hf]at h2;exact eo h2
theorem vw{n:Nat}{p:Prop}(h:p):Wh n p:=⟨h⟩
theorem vl{n:Nat}{p:Prop}(h:p):Lh n p:=⟨h⟩
theorem yT:@Yi ⟨h⟩ True:=trivial
end
section
variable {α β:Type} {e:α→D} {l r:List α} {i:Int} {y:α} {b:Nat} {g:List α→Option β} {z:β}
theorem bA[Enc α e] (h:(app b l r).bind g=some z):∃x,(l.length+r.length)*b≤2 ^ 47∧l.map e++r.map e=x.map e∧g x=some z:=by
 obtain⟨x,h1,h2⟩:=bsome h;exact⟨x,(app_f (e:=e) h1).1,(app_f h1).2,h2⟩
theorem bP[Enc α e] (h:(put l i y).bind g=some z):∃x,i.toNat<l.length∧(l.map e).set i.toNat (e y)=x.map e∧g x=some z:=by
 obtain⟨x,h1,h2⟩:=bsome h;exact⟨x,(put_f (e:=e) h1).1,(put_f h1).2,h2⟩
theorem bM[Enc α e] {n c:Int}(h:(mks b y n c).bind g=some z):∃x,0≤n∧n≤c∧c≤2 ^ 62∧c.toNat*b≤2 ^ 48∧yn n.toNat (e y)=x.map e∧g x=some z:=by
 obtain⟨x,h1,h2⟩:=bsome h;obtain⟨h3,h4,h5,h6,h7⟩:=mks_f (e:=e) h1;exact⟨x,h3,h4,h5,h6,h7,h2⟩
theorem bZ(h:(subh l 0).bind g=some z):g []=some z:=by
 obtain⟨x,h1,h2⟩:=bsome h;unfold subh at h1;split at h1
 ·rw[←eo h1]at h2;simpa using h2
 ·cases h1
theorem bH[Enc α e] (h:(subh l i).bind g=some z):∃x,0≤i∧i.toNat≤l.length∧(l.map e).take i.toNat=x.map e∧((l.map e).drop 0).take (i.toNat-0)=x.map e∧g x=some z:=by
 obtain⟨x,h1,h2⟩:=bsome h;obtain⟨h3,h4,h5⟩:=trunc_f (e:=e) h1;exact⟨x,h3,h4,h5,(subh_f h1).2.2,h2⟩
theorem bL[Enc α e] (h:(subl l i).bind g=some z):∃x,0≤i∧i.toNat≤l.length∧i.toNat+x.length≤l.length∧l.length-i.toNat=x.length∧((l.map e).take l.length).drop i.toNat=x.map e∧((l.map e).drop i.toNat).take x.length=x.map e∧g x=some z:=by
 obtain⟨x,h1,h2⟩:=bsome h;obtain⟨h3,h4,h5,h6,h7⟩:=subl_o (e:=e) h1;exact⟨x,h3,h4,h5,h6,(front_f h1).2.2,h7,h2⟩
theorem bQ{k:IntKind}{a c:Int}{g:Int→Option β}(h:(quo k a c).bind g=some z):∃x,¬c=0∧wrapF k (a.tdiv c)=x∧g x=some z:=by
 obtain⟨x,h1,h2⟩:=bsome h;exact⟨x,(quo_f h1).1,(quo_f h1).2,h2⟩
theorem bR{k:IntKind}{a c:Int}{g:Int→Option β}(h:(rem k a c).bind g=some z):∃x,¬c=0∧a.tmod c=x∧g x=some z:=by
 obtain⟨x,h1,h2⟩:=bsome h;exact⟨x,(rem_f h1).1,(rem_f h1).2,h2⟩
theorem bX{s:ByteArray}{i:Int}{g:Int→Option β}(h:(sidx s i).bind g=some z):∃x,sidx s i=some x∧g x=some z:=bsome h
end
theorem cT{a b:Bool}(h:a=b):a=b:=h
end Go.Tm
namespace Go.Tm
variable {P:Program}
theorem callT_tellsN{k:Nat}{ds:List D}{m:List Ent}{R:D→List Ent→Prop}{d2:D}{m2:List Ent}(h:CallT P k ds m R) (ht:∀d m',R d m'→Tells m.length ⟨[d],m'⟩ ⟨[d2],m2⟩):CallT P k ds m fun d m'=>d=d2∧m'=m2:=by
 refine⟨h.1,fun G w vs hv hi=>(h.2 G w vs hv hi).mono ?_⟩;rintro e w' ⟨v,d,m',G',rfl,hR,hvd,hi',hs⟩;have hr:Rel G' w' { tmps:=#[v],defers:=[] } ⟨[d],m'⟩:=⟨by simp only[VsRel];exact⟨v,[],rfl,hvd,rfl⟩,hi',rfl⟩;have hN:m.length=G.n:=hi.n.symm;have h0:=hs.toN (Nat.le_of_eq hN);obtain⟨G'',h3,h4⟩:=tells_rel (ht d m' hR) h0.n hr;have hT:=h3.t;simp only[VsRel]at hT;obtain⟨u,us,he,h1,_⟩:=hT;injection he with he _;subst he;have h5:=h0.trans h4;rw[hN]at h5;exact⟨_,d2,m2,G'',rfl,⟨rfl,rfl⟩,h1,h3.inv,h5.toStep⟩
def EI(N:Nat) (rs:List RV) (S:St) (e:Exit) (s:St):Prop:=
 match e with
 |.normal=>∃S',Tells N s S'∧∃ds,ressD S' rs=some ds∧Tells N ⟨[tupD ds],S'.m⟩ S
 |.ret=>∃S',Tells N s S'∧∃ds,ressD S' rs=some ds∧Tells N ⟨[tupD ds],S'.m⟩ S
 |_=>False
def endI(N:Nat) (r:Option (List D)) (m:List Ent) (S:St):Prop:=∃ds,r=some ds∧Tells N ⟨[tupD ds],m⟩ S
theorem EI_ret{N:Nat}{rs:List RV}{S s:St}(h:endI N (ressD s rs) s.m S):EI N rs S .ret s:=by
 obtain⟨ds,h1,h2⟩:=h;exact⟨s,.refl s,ds,h1,h2⟩
theorem EI_nor{N:Nat}{rs:List RV}{S s:St}(h:endI N (ressD s rs) s.m S):EI N rs S .normal s:=by
 obtain⟨ds,h1,h2⟩:=h;exact⟨s,.refl s,ds,h1,h2⟩
theorem endI_some{N:Nat}{ds:List D}{m:List Ent}{S:St}:endI N (some ds) m S=Tells N ⟨[tupD ds],m⟩ S:=by simp[endI]
instance {N:Nat}{rs:List RV}{S:St}:StbC N (EI N rs S):=⟨by
 rintro s S' h ⟨S1,h1,h2⟩;exact⟨S1,h.trans h1,h2⟩⟩
theorem callT_in{k:Nat}(KF:Kf P k) {ds:List D}{m m2:List Ent}{d2:D}(w:Nat) (hw:KF.F.ntmps=ds.length+w) (h:T P m.length KF.F.code (EI m.length KF.F.results ⟨[d2],m2⟩) ⟨ds++Tm.ds w [],m⟩):CallT P k ds m fun d m'=>d=d2∧m'=m2:=by
 refine callT_tellsN (R:=fun d m'=>Tells m.length ⟨[d],m'⟩ ⟨[d2],m2⟩) (callT_of KF.ok KF.nm ?_) fun _ _ h=>h;rw[hw,Vp,←ds_rep];refine T.clo (h.mono ?_);have key:∀(e:Exit) (s:St),(∀s',EndT KF.F.results (fun d m'=>Tells m.length ⟨[d],m'⟩ ⟨[d2],m2⟩) e s' = ∃ds,ressD s' KF.F.results=some ds∧Tells m.length ⟨[tupD ds],s'.m⟩ ⟨[d2],m2⟩)→(∃S',Tells m.length s S'∧∃ds,ressD S' KF.F.results=some ds∧Tells m.length ⟨[tupD ds],S'.m⟩ ⟨[d2],m2⟩)→Clo m.length (EndT KF.F.results fun d m'=>Tells m.length ⟨[d],m'⟩ ⟨[d2],m2⟩) e s:=by
  intro e s he ⟨S,h1,h2⟩ G w a hN hr;obtain⟨G',h3,h4⟩:=tells_rel h1 hN hr;exact⟨S,G',by rw[he];exact h2,h3,h4⟩
 intro e s hs
 cases e with
 |normal=>exact key _ s (fun _=>rfl) hs
 |ret=>exact key _ s (fun _=>rfl) hs
 |_=>exact(hs:False).elim
theorem bj_shr1{a:Int}{k:IntKind}:binJ .shr .u64 a k 1=some (.int .u64 (a.fdiv 2)):=by
 have h:((2 ^ (min (1:Int).toNat IntKind.u64.bits):Nat):Int)=2:=by decide
 simp only[binJ,h];rfl
def mL:List Int:=[31,28,31,30,31,30,31,31,30,31,30,31]
def e_mL(n:Int):D:=.v (.int .i64 n)
theorem ev_g0{s:St}:s.ev (.global 0)=.pt (.agg (mL.map e_mL)):=rn rfl rfl
theorem e_mL_q{n:Int}:e_mL n=.v (.int .i64 n):=rn rfl rfl
def lst{α:Type}(l:List α):Option (List α):=some l
def mka{α:Type}(b:Nat) (z:α) (n:Int):Option (List α):=if 0<n∧n.toNat*b≤2 ^ 47 then some (yn n.toNat z)else none
def clrO{α:Type}(l:List α) (lo:Int) (v:List α) (z:α):Option (List α):=if 0≤lo∧lo.toNat+v.length≤l.length then some (l.take lo.toNat++yn v.length z++l.drop (lo.toNat+v.length))else none
section
variable {α β:Type} {e:α→D} {l v:List α} {i:Int} {y:α} {b:Nat} {g:List α→Option β} {z:β}
theorem bK[Enc α e] (h:(mka b y i).bind g=some z):∃x,0<i∧i.toNat*b≤2 ^ 47∧yn i.toNat (e y)=x.map e∧g x=some z:=by
 obtain⟨x,h1,h2⟩:=bsome h;unfold mka at h1;split at h1
 ·rename_i hc;obtain rfl:=eo h1;exact⟨_,hc.1,hc.2,List.map_replicate.symm,h2⟩
 ·cases h1
theorem bC[Enc α e] (h:(clrO l i v y).bind g=some z):∃x,(l.map e).take i.toNat++yn v.length (e y)++(l.map e).drop (i.toNat+v.length)=x.map e∧g x=some z:=by
 obtain⟨x,h1,h2⟩:=bsome h;unfold clrO at h1;split at h1
 ·obtain rfl:=eo h1;exact⟨_,by simp[List.map_take,List.map_drop],h2⟩
 ·cases h1
theorem bV[Enc α e] (h:(lst l).bind g=some z):∃x,l.map e=x.map e∧g x=some z:=by
 obtain⟨x,h1,h2⟩:=bsome h;obtain rfl:=eo h1;exact⟨l,rfl,h2⟩
theorem bG{g:Int→Option β}(h:(idx mL i).bind g=some z):∃x,0≤i∧mL[i.toNat]?=some x∧i.toNat<12∧g x=some z:=bO h
theorem zn:type_of% (And.intro (And.intro @bj_shr1 @ev_g0) (And.intro @e_mL_q @Nq)):=And.intro (And.intro @bj_shr1 @ev_g0) (And.intro @e_mL_q @Nq)
end
def DenA(P:Program) (k:Nat) (S:Nat) (l l':List D):Prop:=∀m id ver,m[id]?=some (.live S ver l)→CallT P k [.own id ver] m fun d m'=>d=.own id (ver+1)∧m'=m.set id (.live S (ver+1) l')
section
open Go.Sort
theorem denA_row{k:FuncId}(hE:Enters P k) {zs ys:List Int}(hlen:ys.length≤zs.length)
 (h1:∀w b off cap,Holds (Value.int .i64) w b off zs.toArray→zs.length≤cap→Calls P k #[.slice (some ⟨b,off,none⟩) zs.length cap] w fun e w'=>e=.returned (.slice (some ⟨b,off,none⟩) ys.length cap)∧∃n xs,xs.length+ys.length=zs.length∧w'=grow (putRow (Value.int .i64) (Sort.ahead w n) b off (ys++xs).toArray) #[])
 (h0:∀w cap,Calls P k #[.slice none 0 cap] w fun e w'=>e=.returned (.slice none 0 cap)∧w'=w):DenA P k 1 (zs.map eI) (ys.map eI):=
 fun m id ver hm=>callT_rowA hE hm hlen h1 h0
end
section
variable {h:Hi} {k id S ver:Nat} {p:Prop} {pre post l l' ds:List D} {o:D} {m:List Ent} {f:D→List Ent→Prop}
theorem ycA[c:Con p (DenA P k S l l')] (e:p) (hf:@Yi ⟨h⟩ (f (.own id (ver+1)) (m.set id (.live S (ver+1) l')))) (hm:m[id]?=some (.live S ver l)):@Yi ⟨h⟩ (callX P k [.own id ver] m f):=callX_eq (c.h e m id ver hm) hf
theorem ycf{d d':D}{q:List D} [c:Con p (Den P k ([d']++q) o)] (e:p) (hq:idfrees q=true) (hf:@Yi ⟨h⟩ (f o m)) (hs:Sq [] [] 9 d d'):@Yi ⟨h⟩ (callX P k (d::q) m f):=callX_c1 (c.h e) hq hf hs
theorem ycC[c:Con p (DenC P k pre post S l o)] (e:p) (hf:@Yi ⟨h⟩ (f o (m.set id .gone))) (hds:ds=pre++.own id ver::post) (hm:m[id]?=some (.live S ver l)):@Yi ⟨h⟩ (callX P k ds m f):=callX_C (c.h e) hds hm hf
theorem ycW[c:Con p (DenW P k pre post S l l' o)] (e:p) (hf:@Yi ⟨h⟩ (f o (m.set id (.live S ver l')))) (hds:ds=pre++.own id ver::post) (hm:m[id]?=some (.live S ver l)):@Yi ⟨h⟩ (callX P k ds m f):=callX_W (c.h e) hds hm hf
end
def St.hd(s:St):D:=s.t.headD .dead
theorem yi{X β:Type}{h x:Hi}{k:Nat}{KF:Kf P k}{n w:Nat}{S:X→Ed}{d2:X→D}{m2:X→List Ent}{m:List Ent}{ds:List D}{f:D→List Ent→Prop}{o:Option X}{g:X→Option β}{r:β}
 (hS:∀z,ed (S z) ⟨[.dead],m⟩=⟨[d2 z],m2 z⟩) (hw:KF.F.ntmps=ds.length+w)
 (ha:∀z,o=some z→True→@Yi ⟨h⟩ (T P m.length KF.F.code (EI m.length KF.F.results ⟨[d2 z],m2 z⟩) ⟨ds++Tm.ds w [],m⟩))
 (hb:Wh n (∀z,g z=some r→@Yi ⟨x⟩ (f (d2 z) (m2 z)))) (e:o.bind g=some r):@Yi ⟨.i KF n w S h x⟩ (callX P k ds m f):=by
 obtain⟨z,h1,h2⟩:=bsome e;exact callX_eq (callT_in KF w hw (ha z h1 trivial)) (hb.h z h2)
theorem gi0{X:Type}{h x:Hi}{k j:Nat}{KF:Kf P j}{n w:Nat}{S:X→Ed}{m:List Ent}{ds:List D}{f:D→List Ent→Prop}(g:@Yi ⟨.i KF n w S h x⟩ (callX P k ds m f)):@Yi ⟨.i KF n w S h x⟩ (callX P k ds m f):=g
structure Ck (p q:Prop):Prop where
 h:p
 k:q
instance {N:Nat}{K:Exit→St→Prop}:StbC N (Clo N K):=⟨by
 intro s S h k G w a hN hr;obtain⟨G1,h1,h2⟩:=tells_rel h hN hr;obtain⟨s',G2,h3,h4,h5⟩:=k G1 w a h2.n h1;exact⟨s',G2,h3,h4,h2.trans h5⟩⟩
def endC(r:Option (List D)) (f:D→List Ent→Prop) (m:List Ent):Prop:=∃ds,r=some ds∧f (tupD ds) m
theorem endC_some{ds:List D}{f:D→List Ent→Prop}{m:List Ent}:endC (some ds) f m=f (tupD ds) m:=by simp[endC]
theorem yc{X β:Type}{h:Hi}{k:Nat}{KF:Kf P k}{w:Nat}{m:List Ent}{ds:List D}{f:D→List Ent→Prop}{o:Option X}{g:X→Option β}{r:β}{q:Prop}(k':q) (hw:KF.F.ntmps=ds.length+w)
 (ha:∀z,o=some z→Ck (g z=some r) q→@Yi ⟨h⟩ (T P m.length KF.F.code (Clo m.length (EndT KF.F.results f)) ⟨ds++Tm.ds w [],m⟩)) (e:o.bind g=some r):@Yi ⟨.c KF w h⟩ (callX P k ds m f):=by
 obtain⟨z,h1,h2⟩:=bsome e;refine callT_of KF.ok KF.nm ?_;rw[hw,Vp,←ds_rep];exact T.clo (ha z h1 ⟨h2,k'⟩)
theorem gc0{h:Hi}{k j:Nat}{KF:Kf P j}{w:Nat}{m:List Ent}{ds:List D}{f:D→List Ent→Prop}(g:@Yi ⟨.c KF w h⟩ (callX P k ds m f)):@Yi ⟨.c KF w h⟩ (callX P k ds m f):=g
theorem gv{x:Hi}{p:Prop}(g:@Yi ⟨.v x⟩ p):@Yi ⟨.v x⟩ p:=g
theorem yvr{x:Hi}{M:Nat}{rs:List RV}{f:D→List Ent→Prop}{s:St}(g:@Yi ⟨x⟩ (endC (ressD s rs) f s.m)):@Yi ⟨.v x⟩ (Clo M (EndT rs f) .ret s):=by
 obtain⟨ds,h1,h2⟩:=g;exact Clo.of (show EndT rs f .ret s from⟨ds,h1,h2⟩)
theorem yvn{x:Hi}{M:Nat}{rs:List RV}{f:D→List Ent→Prop}{s:St}(g:@Yi ⟨x⟩ (endC (ressD s rs) f s.m)):@Yi ⟨.v x⟩ (Clo M (EndT rs f) .normal s):=by
 obtain⟨ds,h1,h2⟩:=g;exact Clo.of (show EndT rs f .normal s from⟨ds,h1,h2⟩)
theorem yno{α:Type}{r:α}{p:Prop}(h:none=some r):p:=nomatch h
theorem yrr{h:Hi}{K:Exit→St→Prop}{s:St}{N:Nat}(g:@Yi ⟨h⟩ (K .ret s)):@Yi ⟨h⟩ (Tm.T P N .ret K s):=T.ret g
theorem yrI{N:Nat}{h:Hi}{rs:List RV}{S s:St}(g:@Yi ⟨h⟩ (endI N (ressD s rs) s.m S)):@Yi ⟨h⟩ (EI N rs S .ret s):=EI_ret g
theorem ynI{N:Nat}{h:Hi}{rs:List RV}{S s:St}(g:@Yi ⟨h⟩ (endI N (ressD s rs) s.m S)):@Yi ⟨h⟩ (EI N rs S .normal s):=EI_nor g
class FrO (d:D):Prop where
 h:idfree d=true
instance {α:Type}{e:α→D} [Fr e] {x:α}:FrO (e x):=⟨Fr.h x⟩
instance {l:List D} [FrL l]:FrO (.tup l):=⟨FrL.h⟩
def dep:Nat→D→Bool
 |0,_=>false
 |k+1,.agg l=>l.all (dep k)
 |k+1,.tup l=>l.all (dep k)
 |_+1,.sl _ _=>true
 |k+1,.pt d=>dep k d
 |_+1,.v _=>true
 |_,_=>false
theorem froz_dep(m:List Ent):∀{k:Nat}{d:D},idfree d=true→dep k d=true→froz k m d=d
 |0,_,_,h=>by simp[dep]at h
 |k+1,.agg l,h1,h2=>by
  simp only[dep,qo]at h2;simp only[idfree,idfrees_iff]at h1;simp only[froz];congr 1;exact(tr fun d hd=>froz_dep m (h1 d hd) (h2 d hd)).trans (Ns _)
 |k+1,.tup l,h1,h2=>by
  simp only[dep,qo]at h2;simp only[idfree,idfrees_iff]at h1;simp only[froz];congr 1;exact(tr fun d hd=>froz_dep m (h1 d hd) (h2 d hd)).trans (Ns _)
 |_+1,.sl _ l,h1,_=>by
  simp only[idfree]at h1;simp only[froz,h1,if_true]
 |k+1,.pt d,h1,h2=>by
  simp only[dep]at h2;simp only[idfree]at h1;simp only[froz,froz_dep m h1 h2]
 |_+1,.v _,_,_=>rfl
 |k+1,.own ..,_,h=>by simp[dep]at h
 |k+1,.view ..,_,h=>by simp[dep]at h
 |k+1,.ref ..,_,h=>by simp[dep]at h
 |k+1,.fn ..,_,h=>by simp[dep]at h
 |k+1,.mp ..,_,h=>by simp[dep]at h
 |k+1,.ifc ..,_,h=>by simp[dep]at h
 |k+1,.dead,_,h=>by simp[dep]at h
theorem reref_free{id ver:Nat}:∀{l:List D},idfrees l=true→l.map (reref id ver)=l
 |[],_=>rfl
 |d::l,h=>by
  simp only[idfrees,xn]at h;rw[Vn,reref_free h.2];congr 1;have h1:=h.1;cases d<;>simp_all[reref,idfree]
def DenE(P:Program) (k:Nat) (pre post:List D) (S:Nat) (l l':List D) (o:D):Prop:=idfrees pre=true∧idfrees post=true∧∀m id ver,m[id]?=some (.live S ver l)→CallT P k (pre++.ref id ver 0 0::post) m fun d m'=>d=o∧m'=m.set id (.live S ver l')
theorem DenE.of{k:Nat}{pre post:List D}{S:Nat}{l l':List D}{o:D}(n:Nat) (K:Kf P k) (h:T P 1 K.F.code (EI 1 K.F.results ⟨[o],[.live S 0 l']⟩) ⟨(pre++.ref 0 0 0 0::post)++Tm.ds n [],[.live S 0 l]⟩)
 (hpre:idfrees pre=true:=by exact FrL.h) (hpost:idfrees post=true:=by exact FrL.h) (hl:idfrees l=true:=by exact FrL.h) (ho:idfree o=true:=by exact FrO.h) (hl':idfrees l'=true:=by exact FrL.h) (hd:dep 8 o=true:=by rfl) (hd':l'.all (dep 8)=true:=by rfl)
 (hn:K.F.ntmps=(pre++.ref 0 0 0 0::post).length+n:=by rfl):DenE P k pre post S l l' o:=by
 refine⟨hpre,hpost,fun m id ver hid=>?_⟩;have h1:=callT_in K n hn (m:=[.live S 0 l]) (m2:=[.live S 0 l']) (d2:=o) h;have e1:(pre++.ref id ver 0 0::post).map (reref id ver)=pre++.ref 0 0 0 0::post:=by
  rw[List.map_append,Vn,reref_free hpre,reref_free hpost];simp[reref]
 refine(callW_of hid hl (m1:=[.live S 0 l']) rfl (by rw[e1];exact h1)).mono ?_;rintro d m' ⟨rfl,rfl⟩;refine⟨froz_dep _ ho hd,?_⟩;congr 2;rw[qo]at hd';exact(tr fun d hd=>froz_dep _ (idfrees_iff.1 hl' d hd) (hd' d hd)).trans (Ns _)
theorem ycE{pre post:List D}{S id ver k:Nat}{l l' ds:List D}{o:D}{m:List Ent}{f:D→List Ent→Prop}{h:Hi}{p:Prop} [c:Con p (DenE P k pre post S l l' o)] (e:p) (hf:@Yi ⟨h⟩ (f o (m.set id (.live S ver l')))) (hds:ds=pre++.ref id ver 0 0::post) (hm:m[id]?=some (.live S ver l)):@Yi ⟨h⟩ (callX P k ds m f):=by
 subst hds;exact callX_eq ((c.h e).2.2 m id ver hm) hf
theorem gce{h:Hi}{k:FuncId}{ds:List D}{ids:List Nat}{fp:List (List Nat)}{p:List Nat}{x:Nat}{f:D→Ent→Prop}{s:St}(g:@Yi ⟨h⟩ (callE P k ds ids fp p x f s)):@Yi ⟨h⟩ (callE P k ds ids fp p x f s):=g
theorem ywE{pre post:List D}{S ver k:Nat}{l l' ds:List D}{o:D}{h:Hi}{q:Prop}{ids:List Nat}{fp:List (List Nat)}{p:List Nat}{x:Nat}{f:D→Ent→Prop}{s:St} [c:Con q (DenE P k pre post S l l' o)] (e:q) (hf:@Yi ⟨h⟩ (f o (.live S ver l')))
 (hds:ds=pre++.ref x ver 0 0::post) (hm:s.m[x]?=some (.live S ver l)) (hx:(ids.elem x&&apB fp ids p)=true) (hi:ids=[x]):@Yi ⟨h⟩ (callE P k ds ids fp p x f s):=by
 subst hds;subst hi;have hlt:x<s.m.length:=(List.getElem?_eq_some_iff.1 hm).1;refine⟨hx,o,_,⟨fun id hid=>by simp at hid;omega,fun m hmm=>?_⟩,hf⟩;exact(c.h e).2.2 m x ver (by rw[hmm x (by simp)];exact hm)
theorem ydp{h:Hi}{N:Nat}{q:Nat}{l:List RI}{K:Exit→St→Prop}{s:St}{ps:List (List Nat)}{pl:List (Option Nat)}(hm:P.follows .mixedOrders=true) (hps:ps=allPairs q) (hcl:onlyC pl l=true) (hpl:plB s.m pl=true) (g:@Yi ⟨h⟩ (DrYO P pl ps q l (K .normal) [] s)):@Yi ⟨.g ps pl h⟩ (Tm.T P N (.draw q l) K s):=T.dp hm ps pl hps hcl hpl g
def Lq2(m:List Ent):D→D→Prop
 |.agg a,.agg b=>SqL (Lq m) a b
 |d,e=>Lq m d e
def tids2(ids:List Nat) (ds:List D):Bool:=ds.all fun d=>match d with|.agg a=>tidsB ids a|d=>tidsB ids [d]
theorem lq2_sbs{m m':List Ent}{ids:List Nat}(hm:∀id∈ids,m'[id]?=m[id]?):∀{a b:List D},SqL (Lq2 m) a b→tids2 ids a=true→Sbs [] m' a b
 |[],[],_,_=>.nil
 |d::l,e::r,h,ht=>by
  simp only[tids2,List.all_cons,xn]at ht;have ih:=lq2_sbs hm h.2 (by simpa only[tids2] using ht.2);have h1:=h.1;have ht1:=ht.1;unfold Lq2 at h1;split at h1
  ·exact .agg (lqL_sbs hm h1 ht1) ih
  ·rename_i hne;have ht2:tidsB ids [d]=true:=by
    split at ht1
    ·rename_i a;simp[tidsB,topId]
    ·exact ht1
   exact Sbs.app (a:=[d]) (b:=[e]) (lqL_sbs hm ⟨h1,trivial⟩ ht2) ih
 |[],_::_,h,_=>h.elim
 |_::_,[],h,_=>h.elim
theorem callL_q2{k:Nat}{ids:List Nat}{ds ds':List D}{o:D}{R:St→Prop}{s:St}{dst:Option Tmp}(h:Den P k ds' o) (hf:R (s.put dst o)) (hfl:flat o=true) (hi:(ids.all fun i=>decide (i<s.m.length))=true) (ht:tids2 ids ds=true) (hs:SqL (Lq2 s.m) ds ds'):callL P k ds ids R s dst:=by
 refine⟨o,⟨fun id hid=>?_,fun m hm=>?_⟩,hf⟩
 ·rw[qo]at hi;simpa using hi id hid
 ·exact callX_lend h (lq2_sbs hm hs ht) hfl ⟨rfl,rfl⟩
theorem ylw{k:Nat}{h:Hi}{s:St}{p:Prop}{ids:List Nat}{ds ds':List D}{o:D}{R:St→Prop}{dst:Option Tmp} [c:Con p (Den P k ds' o)] (e:p) (hf:@Yi ⟨h⟩ (R (s.put dst o))) (hfl:flat o=true) (hi:(ids.all fun i=>decide (i<s.m.length))=true) (ht:tids2 ids ds=true) (hs:SqL (Lq2 s.m) ds ds'):@Yi ⟨h⟩ (callL P k ds ids R s dst):=callL_q2 (c.h e) hf hfl hi ht hs
section
variable {m:List Ent} {S x y lo n s:Nat} {a b:List D} {e:D}
theorem l2_agg:Lq2 m (.agg a) (.agg b)=SqL (Lq m) a b:=rn rfl rfl
theorem l2_own:Lq2 m (.own x y) (.sl S b)=Lq m (.own x y) (.sl S b):=rn rfl rfl
theorem l2_view:Lq2 m (.view x y lo n) (.sl S b)=Lq m (.view x y lo n) (.sl S b):=rn rfl rfl
theorem l2_ref{z:Nat}:Lq2 m (.ref x y z s) (.pt e)=Lq m (.ref x y z s) (.pt e):=rn rfl rfl
theorem l2_v{z:Value}:Lq2 m (.v z) e=Lq m (.v z) e:=by cases e<;>rfl
theorem l2_sl{z:List D}:Lq2 m (.sl S z) e=Lq m (.sl S z) e:=by cases e<;>rfl
theorem l2_pt{z:D}:Lq2 m (.pt z) e=Lq m (.pt z) e:=by cases e<;>rfl
theorem zw:type_of% (And.intro (And.intro (And.intro @l2_agg @l2_own) (And.intro @l2_view @l2_ref)) (And.intro (And.intro @l2_v @l2_sl) @l2_pt)):=And.intro (And.intro (And.intro @l2_agg @l2_own) (And.intro @l2_view @l2_ref)) (And.intro (And.intro @l2_v @l2_sl) @l2_pt)
end
end Go.Tm
