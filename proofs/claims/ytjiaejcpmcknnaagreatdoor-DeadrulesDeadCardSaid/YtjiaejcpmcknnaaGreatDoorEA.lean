/-
  The engine: a part of the proof that trees of values are carried along by the program: no condition.
-/
import Derived.Calls
import Derived.Below
import Derived.Laws.Sem
import Derived.Laws.Entries
import Derived.Laws.Cells
import Derived.Laws.CopyRow
import Derived.Laws.AppendOwn
import Derived.Laws.Tables
import Derived.Laws.MakeOwn
import Derived.Laws.StructEq
import Derived.MapKept
import Derived.Tactics
open Array renaming all_eq_true->Oac,getElem?_eq_some_iff->oac,getElem?_toList->fac,length_toList->Kab,map->Yac,range->Tac,size_append->Qac,toList_map->zad,toList_zipIdx->kad
open Int renaming natCast_nonneg->Kac
open List renaming append_assoc->kab,cons_append->Naa,drop_drop->Mac,eq_nil_of_length_eq_zero->Caa,getElem?_append->Rab,getElem?_drop->rad,getElem?_toArray->Cab,getElem_of_mem->Daa,length_nil->bab,map_cons->Maa,range->yaa,replicate->jaa,size_toArray->nac,tail->Yad,tail_drop->Qad
open Nat renaming add_comm->jac,add_mul->Zab,add_zero->kac,le_mul_of_pos_right->bac,le_refl->saa,le_trans->yab,lt_of_lt_of_le->Paa,mod_lt->yac,mul_le_mul_right->Gaa,sub_mul->Wad,zero_add->jab,zero_le->wab
open Option renaming bind_eq_some_iff->xab,map_eq_some_iff->haa
open Prod renaming fst->uad
open Prod.mk renaming injEq->Baa
set_option linter.all false
namespace Go.Tm
open Go.RowKit (Below)
inductive D where
 |v (x:Value)
 |agg (l:List D)
 |tup (l:List D)
 |sl (S:Nat) (l:List D)
 |pt (d:D)
 |ref (id Ja idx sub:Nat)
 |own (id Ja:Nat)
 |view (id Ja lo n:Nat)
 |fn (f:FuncId) (first caps:List D)
 |mp (id:Nat)
 |ifc (t:TypeId) (d:D)
 |dead
instance:Inhabited D:=⟨.dead⟩
structure Gh where
 F:Nat->Prop
 n:Nat
 B:Nat->Option Nat
 V:Nat->Nat
 S:Nat->Nat
 N:Nat->Nat
 C:Nat->Nat×Nat
def one:Value->Bool
 |.agg _|.tuple _=>false
 |_=>true
def iv(w:World) (b off:Nat) (u:Value):Prop:=∀(j:Nat) c,u.cells[j]?=some c->one c=true/\w.cell? ⟨b,off+j,none⟩=some c
mutual
def VRel(G:Gh) (w:World):D->Value->Prop
 |.v x,u=>u=x
 |.agg l,u=>∃cs:List Value,u=.agg cs.toArray/\VsRel G w l cs/\∀c∈cs,one c=true
 |.tup l,u=>∃cs:List Value,u=.tuple cs.toArray/\VsRel G w l cs
 |.sl S l,u=>∃a n cap,u=.slice a n cap/\n=l.length/\n<=cap/\
  (l=[]\/∃b off,a=some ⟨b,off,none⟩/\G.F b/\Qa G w b S l off)
 |.pt d,u=>∃b off x,u=.pointer (some ⟨b,off,none⟩)/\G.F b/\VRel G w d x/\iv w b off x
 |.ref id Ja idx sub,u=>∃a,u=.pointer (some a)/\id<G.n/\Ja<=G.V id/\(G.V id=Ja->∃b,G.B id=some b/\a=⟨b,idx*G.S id+sub+(G.C id).2,none⟩)
 |.own id Ja,u=>∃a n c,u=.slice a n c/\id<G.n/\Ja<=G.V id/\(G.V id=Ja->a=(G.B id).map (λb=>⟨b,(G.C id).2,none⟩)/\n=G.N id/\c=(G.C id).1)
 |.view id Ja lo n,u=>∃a c,u=.slice a n c/\n<=c/\id<G.n/\Ja<=G.V id/\(G.V id=Ja->n=0\/∃b,G.B id=some b/\a=some ⟨b,lo*G.S id+(G.C id).2,none⟩)
 |.fn f first caps,u=>∃fs cs:List Value,u=.func (.func f) fs.toArray cs.toArray/\VsRel G w first fs/\VsRel G w caps cs
 |.mp id,u=>∃b,u=.map (some b)/\id<G.n/\(G.V id=0->G.B id=some b)
 |.ifc t d,u=>∃x,u=.iface t x/\VRel G w d x
 |.dead,_=>True
def VsRel(G:Gh) (w:World):List D->List Value->Prop
 |[],us=>us=[]
 |d::l,us=>∃u r,us=u::r/\VRel G w d u/\VsRel G w l r
def Qa(G:Gh) (w:World) (b S:Nat):List D->Nat->Prop
 |[],_=>True
 |d::l,off=>(∃u,VRel G w d u/\u.cells.size=S/\iv w b off u)/\Qa G w b S l (off+S)
end
structure Le (G:Gh) (w:World) (G':Gh) (w':World):Prop where
 F:∀b,G.F b->G'.F b
 heap:∀b,G.F b->w'.heap[b]?=w.heap[b]?
 n:G.n<=G'.n
 id:∀i,i<G.n->(G'.V i=G.V i/\G'.B i=G.B i/\G'.S i=G.S i/\G'.N i=G.N i/\G'.C i=G.C i)\/G.V i<G'.V i
theorem Le.refl(G:Gh) (w:World):Le G w G w:=⟨λ_ h=>h,λ_ _=>rfl,saa _,λ_ _=>.inl ⟨rfl,rfl,rfl,rfl,rfl⟩⟩
theorem Le.Ja{G G':Gh}{w w':World}(h:Le G w G' w') {i:Nat}(hi:i<G.n):G.V i<=G'.V i:=by
 rcases h.id i hi with h|h<;>omega
theorem Le.trans{G G' G'':Gh}{w w' w'':World}(h:Le G w G' w') (k:Le G' w' G'' w''):Le G w G'' w'' where
 F b hb:=k.F b (h.F b hb)
 heap b hb:=(k.heap b (h.F b hb)).trans (h.heap b hb)
 n:=yab h.n k.n
 id i hi:=by
  have h1:=h.id i hi;have h2:=k.id i (Paa hi h.n)
  grind
theorem vG{w w':World}{b off:Nat}(h:w'.heap[b]?=w.heap[b]?):w'.cell? ⟨b,off,none⟩=w.cell? ⟨b,off,none⟩:=by
 grind[World.cell?]
theorem iv.mono{w w':World}{b off:Nat}{u:Value}(h:iv w b off u) (hb:w'.heap[b]?=w.heap[b]?):iv w' b off u:=
 λj c hc=>by rw[vG hb];exact h j c hc
mutual
theorem VRel.mono{G G':Gh}{w w':World}(hle:Le G w G' w'):∀{d:D}{u:Value},VRel G w d u->VRel G' w' d u
 |.v x,u,h=>by simpa [VRel] using h
 |.agg l,u,h=>by
  simp only[VRel]at h⊢;obtain⟨cs,rfl,h,h1⟩:=h;exact⟨cs,rfl,VsRel.mono hle h,h1⟩
 |.tup l,u,h=>by
  simp only[VRel]at h⊢;obtain⟨cs,rfl,h⟩:=h;exact⟨cs,rfl,VsRel.mono hle h⟩
 |.sl S l,u,h=>by
  simp only[VRel]at h⊢;obtain⟨a,n,cap,rfl,hn,hc,h⟩:=h;refine⟨a,n,cap,rfl,hn,hc,?_⟩;rcases h with h|⟨b,off,rfl,hF,hr⟩
  .simp_all
  .exact .inr ⟨b,off,rfl,hle.F b hF,Qa.mono hle (hle.heap b hF) hr⟩
 |.pt d,u,h=>by
  simp only[VRel]at h⊢;obtain⟨b,off,x,rfl,hF,hd,hh⟩:=h;exact⟨b,off,x,rfl,hle.F b hF,VRel.mono hle hd,hh.mono (hle.heap b hF)⟩
 |.ref id Ja idx sub,u,h=>by
  simp only[VRel]at h⊢;obtain⟨a,hu,hi,hv,h⟩:=h;refine⟨a,hu,Paa hi hle.n,yab hv (hle.Ja hi),λe=>?_⟩;rcases hle.id id hi with⟨h1,h2,h3,h4,h5⟩|hlt
  all_goals grind
 |.own id Ja,u,h=>by
  simp only[VRel]at h⊢;obtain⟨a,n,c,hu,hi,hv,h⟩:=h;refine⟨a,n,c,hu,Paa hi hle.n,yab hv (hle.Ja hi),λe=>?_⟩;rcases hle.id id hi with⟨h1,h2,h3,h4,h5⟩|hlt
  all_goals grind
 |.view id Ja lo n,u,h=>by
  simp only[VRel]at h⊢;obtain⟨a,c,hu,hc,hi,hv,h⟩:=h;refine⟨a,c,hu,hc,Paa hi hle.n,yab hv (hle.Ja hi),λe=>?_⟩;rcases hle.id id hi with⟨h1,h2,h3,h4,h5⟩|hlt
  all_goals grind
 |.fn f first caps,u,h=>by
  simp only[VRel]at h⊢;obtain⟨fs,cs,rfl,h1,h2⟩:=h;exact⟨fs,cs,rfl,VsRel.mono hle h1,VsRel.mono hle h2⟩
 |.mp id,u,h=>by
  simp only[VRel]at h⊢;obtain⟨b,hu,hi,h⟩:=h;refine⟨b,hu,Paa hi hle.n,λe=>?_⟩;rcases hle.id id hi with⟨h1,h2,h3,h4,h5⟩|hlt
  all_goals simp_all
 |.ifc t d,u,h=>by
  simp only[VRel]at h⊢;obtain⟨x,rfl,h⟩:=h;exact⟨x,rfl,VRel.mono hle h⟩
 |.dead,u,h=>by simp[VRel]
theorem VsRel.mono{G G':Gh}{w w':World}(hle:Le G w G' w'):∀{l:List D}{us:List Value},VsRel G w l us->VsRel G' w' l us
 |[],us,h=>by simpa [VsRel] using h
 |d::l,us,h=>by
  simp only[VsRel]at h⊢;obtain⟨u,r,rfl,h1,h2⟩:=h;exact⟨u,r,rfl,VRel.mono hle h1,VsRel.mono hle h2⟩
theorem Qa.mono{G G':Gh}{w w':World}(hle:Le G w G' w') {b S:Nat}(hb:w'.heap[b]?=w.heap[b]?) :
 ∀{l:List D} {off:Nat},Qa G w b S l off->Qa G' w' b S l off
 |[],off,h=>by simp[Qa]
 |d::l,off,h=>by
  simp only[Qa]at h⊢;obtain⟨⟨u,h1,h2,h3⟩,h4⟩:=h;exact⟨⟨u,VRel.mono hle h1,h2,h3.mono hb⟩,Qa.mono hle hb h4⟩
end
inductive Ent where
 |live (S Ja:Nat) (l:List D)
 |mp (es:List (Value×D))
 |gone
def nd(G:Gh) (w:World):List (Value×D)->List MapEntry->Prop
 |[],es=>es=[]
 |(k,d)::l,es=>∃e r,es=e::r/\e.key=k/\VRel G w d e.val/\nd G w l r
theorem nd.mono{G G':Gh}{w w':World}(hle:Le G w G' w'):∀{l:List (Value×D)}{es:List MapEntry},nd G w l es->nd G' w' l es
 |[],es,h=>h
 |(k,d)::l,es,h=>by
  obtain⟨e,r,h0,h1,h2,h3⟩:=h;exact⟨e,r,h0,h1,h2.mono hle,h3.mono hle⟩
def Xm(G:Gh) (w:World) (i:Nat):Ent->Prop
 |.live S Ja l=>G.V i=Ja/\G.S i=S/\G.N i=l.length/\l.length<=(G.C i).1/\
  ((G.B i=none/\G.C i=(0,0))\/∃b cs T,G.B i=some b/\¬G.F b/\w.heap[b]?=some (.cells cs T (0,0))/\(G.C i).1*S+(G.C i).2<=cs.size/\Qa G w b S l (G.C i).2)
 |.mp es=>G.V i=0/\∃b entries clock,G.B i=some b/\¬G.F b/\w.heap[b]?=some (.map entries clock)/\nd G w es entries.toList
 |.gone=>True
def Ent.isLive:Ent->Bool
 |.gone=>false
 |_=>true
def gtab:Nat->Option D
 |2=>some (.agg ([31,28,31,30,31,30,31,31,30,31,30,31].map λn=>.v (.int .i64 n)))
 |_=>none
def GOK(G:Gh) (w:World):Prop:=∀g d,gtab g=some d->VRel G w (.pt d) (.pointer (some ⟨g,0,none⟩))
theorem GOK.mono{G G':Gh}{w w':World}(hle:Le G w G' w') (h:GOK G w):GOK G' w':=λg d hd=>(h g d hd).mono hle
structure Inv (G:Gh) (w:World) (m:List Ent):Prop where
 n:G.n=m.length
 F:∀b,G.F b->b<w.heap.size
 ent:∀i e,m[i]?=some e->Xm G w i e
 apart:∀i j e e',m[i]?=some e->m[j]?=some e'->e.isLive=true->e'.isLive=true->∀b,G.B i=some b->G.B j=some b->i=j
 gl:GOK G w
def Xd(G:Gh) (m:List Ent) (b:Nat):Prop:=∃i e,m[i]?=some e/\e.isLive=true/\G.B i=some b
structure Step (G:Gh) (w:World) (m:List Ent) (G':Gh) (w':World) (m':List Ent):Prop where
 le:Le G w G' w'
 os:w'.os=w.os
 tape:w'.tape=w.tape
 output:w'.output=w.output
 size:w.heap.size<=w'.heap.size
 keep:∀b,b<w.heap.size->¬Xd G m b->w'.heap[b]?=w.heap[b]?
 newF:∀b,b<w.heap.size->G'.F b->G.F b\/Xd G m b
 newB:∀b,b<w.heap.size->Xd G' m' b->Xd G m b
theorem Step.refl(G:Gh) (w:World) (m:List Ent):Step G w m G w m:=
 ⟨Le.refl _ _,rfl,rfl,rfl,saa _,λ_ _ _=>rfl,λ_ _ h=>.inl h,λ_ _ h=>h⟩
theorem Step.trans{G G' G'':Gh}{w w' w'':World}{m m' m'':List Ent}(h:Step G w m G' w' m') (k:Step G' w' m' G'' w'' m''):Step G w m G'' w'' m'' where
 le:=h.le.trans k.le
 os:=k.os.trans h.os
 tape:=k.tape.trans h.tape
 output:=k.output.trans h.output
 size:=yab h.size k.size
 keep b hb ho:=(k.keep b (Paa hb h.size) λh'=>ho (h.newB b hb h')).trans (h.keep b hb ho)
 newF b hb hF:=by
  rcases k.newF b (Paa hb h.size) hF with h'|h'
  .exact h.newF b hb h'
  .exact .inr (h.newB b hb h')
 newB b hb h':=h.newB b hb (k.newB b (Paa hb h.size) h')
structure St where
 t:List D
 m:List Ent
structure Rel (G:Gh) (w:World) (a:Act) (s:St):Prop where
 t:VsRel G w s.t a.tmps.toList
 inv:Inv G w s.m
 defers:a.defers=[]
def St.ev(s:St):Operand->D
 |.tmp t=>s.t.getD t .dead
 |.const x=>.v x
 |.func f=>.fn f [] []
 |.global g=>(gtab g).elim .dead .pt
def St.put(s:St) (dst:Option Tmp) (d:D):St:=
 match dst with
 |some i=>{ s with t:=s.t.set i d }
 |none=>s
theorem VsRel.length{G:Gh}{w:World}:∀{l:List D}{us:List Value},VsRel G w l us->us.length=l.length
 |[],us,h=>by simp[VsRel]at h;simp[h]
 |d::l,us,h=>by
  simp only[VsRel]at h;obtain⟨u,r,rfl,_,h2⟩:=h;simp[VsRel.length h2]
theorem VsRel.get{G:Gh}{w:World}:∀{l:List D}{us:List Value}(i:Nat),VsRel G w l us->VRel G w (l.getD i .dead) (us.getD i undef)
 |[],us,i,h=>by simp[VRel]
 |d::l,us,i,h=>by
  simp only[VsRel]at h;obtain⟨u,r,rfl,h1,h2⟩:=h
  cases i with
  |zero=>simpa using h1
  |succ i=>simpa using VsRel.get i h2
theorem VsRel.set{G:Gh}{w:World}{d:D}{x:Value}(hx:VRel G w d x):∀{l:List D}{us:List Value}(i:Nat),VsRel G w l us->VsRel G w (l.set i d) (us.set i x)
 |[],us,i,h=>by simp[VsRel]at h;simp[h,VsRel]
 |e::l,us,i,h=>by
  simp only[VsRel]at h;obtain⟨u,r,rfl,h1,h2⟩:=h
  cases i with
  |zero=>simp only[List.set_cons_zero,VsRel];grind
  |succ i=>simp only[List.set_cons_succ,VsRel];exact⟨u,_,rfl,h1,VsRel.set hx i h2⟩
theorem Rel.ev{G:Gh}{w:World}{a:Act}{s:St}(h:Rel G w a s) (x:Operand):VRel G w (s.ev x) (a.eval x):=by
 cases x with
 |tmp t=>
  have:=VsRel.get t h.t
  simp_all[St.ev,Act.eval]
 |const x=>simp[St.ev,Act.eval,VRel]
 |global g=>
  simp only[St.ev,Act.eval]
  cases hg:gtab g with
  |none=>simp[VRel]
  |some d=>exact h.inv.gl g d hg
 |func f=>
  simp only[St.ev,Act.eval,VRel];exact⟨[],[],rfl,by simp[VsRel],by simp[VsRel]⟩
theorem Rel.put{G:Gh}{w:World}{a:Act}{s:St}(h:Rel G w a s) (dst:Option Tmp) {d:D}{x:Value}(hx:VRel G w d x):Rel G w (a.put dst x) (s.put dst d):=by
 cases dst with
 |none=>exact h
 |some i=>
  refine⟨?_,h.inv,h.defers⟩;have:=VsRel.set hx i h.t
  grind[St.put,Act.put]
theorem Rel.step{G G':Gh}{w w':World}{a:Act}{s:St}{m':List Ent}(h:Rel G w a s) (hs:Le G w G' w') (hi:Inv G' w' m'):Rel G' w' a { s with m:=m' }:=
 ⟨h.t.mono hs,hi,h.defers⟩
def kf{α:Type}:Sem α->Option α
 |.pure a=>some a
 |_=>none
def D.cells:D->List D
 |.agg l=>l
 |d=>[d]
def D.ok:D->Bool
 |.v x=>one x
 |.tup _|.dead=>false
 |_=>true
def part(A:Bool) (n off:Nat) (l:List D):Option D:=
 match A with
 |true=>if off+n<=l.length then some (.agg ((l.drop off).take n))else none
 |false=>l[off]?
def pn(l:List D) (off:Nat) (r:List D):List D:=l.take off++r++l.drop (off+r.length)
def D.oe(old:D) (sub:Nat) (r:List D):D:=
 match old with
 |.agg l=>.agg (pn l sub r)
 |_=>r.headD .dead
def leaf:Value->D
 |.agg cs=>.agg (cs.toList.map .v)
 |x=>.v x
inductive I where
 |mv (x:Operand)
 |pick (c a b:Operand)
 |bin (op:BinOp) (x y:Operand)
 |beq (neg:Bool) (x y:Operand)
 |un (op:UnOp) (x:Operand)
 |conv (k:IntKind) (x:Operand)
 |alloc (S:Nat) (z:D)
 |box (S:Nat) (x:Operand)
 |build (z:List D) (ps:List (Nat×Nat×Operand))
 |bslice (S:Nat) (n:Nat) (z:D) (ps:List (Nat×Operand))
 |load (A:Bool) (n:Nat) (x:Operand)
 |store (n:Nat) (x y:Operand)
 |nilc (x:Operand)
 |slice (S:Nat) (x:Operand) (lo hi mx:Option Operand)
 |faddr (A:Bool) (n off:Nat) (x:Operand)
 |field (A:Bool) (n off:Nat) (x:Operand)
 |iaddr (S:Nat) (x i:Operand)
 |aaddr (A:Bool) (S len:Nat) (x i:Operand)
 |index (A:Bool) (S len:Nat) (x i:Operand)
 |extract (x:Operand) (i:Nat)
 |len (x:Operand)
 |slen (x:Operand)
 |append (S bytes:Nat) (x y:Operand)
 |mkslice (S bytes:Nat) (z:D) (l c:Operand)
 |mkfunc (f:FuncId) (first caps:List Operand)
 |fail
 |mm (isMax:Bool) (xs:List Operand)
 |ceq (neg:Bool) (ks:List Nat) (x y:Operand)
 |strb (S:Nat) (x:Operand)
 |Cs (x i:Operand)
 |sslice (x:Operand) (lo hi:Option Operand)
 |mkmap
 |mlook (K:Nat) (ok:Bool) (z:D) (x k:Operand)
 |mput (K:Nat) (m k x:Operand)
 |mlen (x:Operand)
 |trunc (S:Nat) (x:Operand) (lo hi:Option Operand)
 |mkifc (t:TypeId) (x:Operand)
 |tassert (ok:Bool) (t:TypeId) (z:D) (x:Operand)
 |clr (S:Nat) (z:D) (x:Operand)
 |capn (x:Operand)
 |Mr (neg:Bool) (x:Operand)
 |mkapp (S bytes:Nat) (z:D) (x n:Operand)
def contents(S:Nat) (m:List Ent):D->Option (List D)
 |.v (.slice none 0 0)=>some []
 |.sl S' l=>if S'=S then some l else none
 |.own id Ja=>
  match m[id]? with
  |some (.live S' ver' l)=>if S'=S/\ver'=Ja then some l else none
  |_=>none
 |.view id Ja lo n=>
  match m[id]? with
  |some (.live S' ver' l)=>if S'=S/\ver'=Ja/\lo+n<=l.length then some ((l.drop lo).take n)else none
  |_=>none
 |_=>none
def Bc(m:List Ent):D->Option Nat
 |.v (.slice none 0 0)=>some 0
 |.sl _ l=>some l.length
 |.own id Ja=>
  match m[id]? with
  |some (.live _ ver' l)=>if ver'=Ja then some l.length else none
  |_=>none
 |.view id _ _ n=>
  match m[id]? with
  |some _=>some n
  |none=>none
 |_=>none
def uq(s:St):List (Nat×Nat×Operand)->List D->Option (List D)
 |[],cells=>some cells
 |(off,n,x)::ps,cells=>
  if(s.ev x).ok=true/\(s.ev x).cells.length=n/\off+n<=cells.length then uq s ps (pn cells off (s.ev x).cells)else none
def Yb(s:St) (S:Nat):List (Nat×Operand)->List D->Option (List D)
 |[],l=>some l
 |(i,x)::ps,l=>
  if(s.ev x).ok=true/\(s.ev x).cells.length=S/\i<l.length then Yb s S ps (l.set i (s.ev x))else none
def bound(s:St) (d:Nat):Option Operand->Option Nat
 |none=>some d
 |some x=>
  match s.ev x with
  |.v (.int _ n)=>if 0<=n then some n.toNat else none
  |_=>none
def Iq(S:Nat) (m:List Ent) (d:D) (lo hi:Nat):Option D:=
 match d with
 |.v (.slice none 0 0)=>if lo=0/\hi=0 then some d else none
 |.sl S' l=>if S'=S/\lo<=hi/\hi<=l.length then some (.sl S ((l.drop lo).take (hi-lo)))else none
 |.own id Ja=>
  match m[id]? with
  |some (.live S' ver' l)=>if S'=S/\ver'=Ja/\lo<=hi/\hi<=l.length then some (.view id Ja lo (hi-lo))else none
  |_=>none
 |.view id Ja l0 n=>
  match m[id]? with
  |some (.live S' ver' l)=>if S'=S/\ver'=Ja/\lo<=hi/\hi<=n/\l0+n<=l.length then some (.view id Ja (l0+lo) (hi-lo))else none
  |_=>none
 |_=>none
mutual
def na:D->Bool
 |.v _=>true
 |.agg l=>la l
 |.tup l=>la l
 |.sl _ l=>la l
 |.pt d=>na d
 |.ref ..=>false
 |.own ..=>false
 |.view ..=>false
 |.fn _ a b=>la a&&la b
 |.mp _=>false
 |.ifc _ d=>na d
 |.dead=>true
def la:List D->Bool
 |[]=>true
 |d::l=>na d&&la l
end
def isV:D->Bool
 |.v _=>true
 |_=>false
def leaves:List D->Option (List Value)
 |[]=>some []
 |.v x::l=>(leaves l).map (x::·)
 |_::_=>none
def wq:Nat->D->D->Option Bool
 |0,.v (.int j a),.v (.int k b)=>if j=k then some (a==b)else none
 |1,.v (.bool a),.v (.bool b)=>some (a==b)
 |2,.v (.string a),.v (.string b)=>some (a.toList==b.toList)
 |_,_,_=>none
def Ic:List Nat->List D->List D->Option Bool
 |[],[],[]=>some true
 |k::ks,x::xs,y::ys=>
  match wq k x y,Ic ks xs ys with
  |some a,some b=>some (a&&b)
  |_,_=>none
 |_,_,_=>none
def isKey:Nat->Value->Bool
 |0,.int .i64 _=>true
 |2,.string _=>true
 |_,_=>false
def aw:Value->Value->Bool
 |.int _ a,.int _ b=>a==b
 |.string a,.string b=>a==b
 |_,_=>false
def Fx(k:Value):List (Value×D)->Option D
 |[]=>none
 |(q,d)::l=>if aw k q=true then some d else Fx k l
def VE(k:Value) (x:D):List (Value×D)->List (Value×D)
 |[]=>[(k,x)]
 |(q,d)::l=>if aw k q=true then(k,x)::l else(q,d)::VE k x l
def ia(s:St):I->Option (D×List Ent)
 |.mv x=>some (s.ev x,s.m)
 |.pick c a b=>
  match s.ev c with
  |.v (.bool t)=>some (bif t then s.ev a else s.ev b,s.m)
  |_=>none
 |.bin op x y=>
  match s.ev x,s.ev y with
  |.v (.int j a),.v (.int k b)=>(kf (binOp op 0 (.int j a) (.int k b))).map λr=>(.v r,s.m)
  |.v (.string a),.v (.string b)=>(kf (binOp op 0 (.string a) (.string b))).map λr=>(.v r,s.m)
  |_,_=>none
 |.beq neg x y=>
  match s.ev x,s.ev y with
  |.v (.bool a),.v (.bool b)=>some (.v (.bool ((a==b) !=neg)),s.m)
  |_,_=>none
 |.un op x=>
  match s.ev x with
  |.v a=>(kf (Op.unary op a)).map λr=>(.v r,s.m)
  |_=>none
 |.conv k x=>
  match s.ev x with
  |.v (.int _ n)=>some (.v (.int k (k.wrap n)),s.m)
  |_=>none
 |.alloc S z=>some (.ref s.m.length 0 0 0,s.m++[.live S 0 [z]])
 |.box S x=>if(s.ev x).ok=true/\(s.ev x).cells.length=S then some (.ref s.m.length 0 0 0,s.m++[.live S 0 [s.ev x]])else none
 |.build z ps=>(uq s ps z).map λl=>(.agg l,s.m)
 |.bslice S n z ps=>(Yb s S ps (jaa n z)).map λl=>(.own s.m.length 0,s.m++[.live S 0 l])
 |.load A n x=>
  match s.ev x with
  |.pt d=>
   match A,d with
   |true,.agg l=>if l.length=n then some (d,s.m)else none
   |true,_=>none
   |false,.agg _=>none
   |false,d=>if d.ok=true then some (d,s.m)else none
  |.ref id Ja idx sub=>
   match s.m[id]? with
   |some (.live _ ver' l)=>if ver'=Ja then(l[idx]?).bind λd=>if d.ok=true then(part A n sub d.cells).map λr=>(r,s.m)else none else none
   |_=>none
  |_=>none
 |.store n x y=>
  match s.ev x with
  |.ref id Ja idx sub=>
   match s.m[id]? with
   |some (.live S ver' l)=>
    if ver'=Ja/\(s.ev y).ok=true/\(s.ev y).cells.length=n then
     (l[idx]?).bind λd=>if d.ok=true/\0<n/\sub+n<=d.cells.length then some (.dead,s.m.set id (.live S ver' (l.set idx (d.oe sub (s.ev y).cells))))else none
    else none
   |_=>none
  |_=>none
 |.nilc x=>
  match s.ev x with
  |.ref ..=>some (s.ev x,s.m)
  |.pt _=>some (s.ev x,s.m)
  |_=>none
 |.slice S x lo hi mx=>
  match Bc s.m (s.ev x)with
  |some n=>
   match bound s 0 lo,bound s n hi,bound s n mx with
   |some l,some h,some k=>if h<=k/\k<=n then(Iq S s.m (s.ev x) l h).map λr=>(r,s.m)else none
   |_,_,_=>none
  |none=>none
 |.faddr A n off x=>
  match s.ev x with
  |.pt (.agg l)=>(part A n off l).map λr=>(.pt r,s.m)
  |.ref id Ja idx sub=>some (.ref id Ja idx (sub+off),s.m)
  |_=>none
 |.field A n off x=>
  match s.ev x with
  |.agg l=>(part A n off l).map λr=>(r,s.m)
  |_=>none
 |.iaddr S x i=>
  match s.ev i with
  |.v (.int _ k)=>
   if 0<=k then
    match s.ev x with
    |.sl S' l=>if S'=S then(l[k.toNat]?).map λd=>(.pt d,s.m)else none
    |.own id Ja=>
     match s.m[id]? with
     |some (.live S' ver' l)=>if S'=S/\ver'=Ja/\k.toNat<l.length then some (.ref id Ja k.toNat 0,s.m)else none
     |_=>none
    |.view id Ja lo n=>
     match s.m[id]? with
     |some (.live S' ver' l)=>if S'=S/\ver'=Ja/\k.toNat<n/\lo+n<=l.length then some (.ref id Ja (lo+k.toNat) 0,s.m)else none
     |_=>none
    |_=>none
   else none
  |_=>none
 |.aaddr A S len x i=>
  match s.ev i with
  |.v (.int _ k)=>
   if 0<=k/\k.toNat<len then
    match s.ev x with
    |.pt (.agg l)=>(part A S (k.toNat*S) l).map λr=>(.pt r,s.m)
    |.ref id Ja idx sub=>some (.ref id Ja idx (sub+k.toNat*S),s.m)
    |_=>none
   else none
  |_=>none
 |.index A S len x i=>
  match s.ev i with
  |.v (.int _ k)=>
   if 0<=k/\k.toNat<len then
    match s.ev x with
    |.agg l=>(part A S (k.toNat*S) l).map λr=>(r,s.m)
    |_=>none
   else none
  |_=>none
 |.extract x i=>
  match s.ev x with
  |.tup l=>(l[i]?).map λd=>(d,s.m)
  |_=>none
 |.len x=>(Bc s.m (s.ev x)).map λ(n:Nat)=>(D.v (.int .i64 (n:Int)),s.m)
 |.slen x=>
  match s.ev x with
  |.v (.string b)=>some (.v (.int .i64 (b.size:Int)),s.m)
  |_=>none
 |.append S bytes x y=>
  match contents S s.m (s.ev y)with
  |some r=>
   match s.ev x with
   |.v (.slice none 0 0)=>if r.length*bytes<=2 ^ 47 then some (.own s.m.length 0,s.m++[.live S 0 r])else none
   |.own id Ja=>
    match s.m[id]? with
    |some (.live S' ver' l)=>if S'=S/\ver'=Ja/\(l.length+r.length)*bytes<=2 ^ 47 then some (.own id (Ja+1),s.m.set id (.live S (Ja+1) (l++r)))else none
    |_=>none
   |_=>none
  |none=>none
 |.mkslice S bytes z l c=>
  match s.ev l,s.ev c with
  |.v (.int .i64 n),.v (.int .i64 k)=>
   if 0<=n/\n<=k/\k<=2 ^ 62/\k.toNat*bytes<=2 ^ 48 then some (.own s.m.length 0,s.m++[.live S 0 (jaa n.toNat z)])else none
  |_,_=>none
 |.mkfunc f first caps=>some (.fn f (first.map s.ev) (caps.map s.ev),s.m)
 |.fail=>none
 |.mm isMax xs=>
  match leaves (xs.map s.ev)with
  |some vs=>(kf (if isMax then Builtin.max_ #[] 0 vs.toArray else Builtin.min_ #[] 0 vs.toArray)).map λr=>(.v r,s.m)
  |none=>none
 |.ceq neg ks x y=>
  match s.ev x,s.ev y with
  |.agg l,.agg r=>(Ic ks l r).map λt=>(.v (.bool (t !=neg)),s.m)
  |_,_=>none
 |.strb S x=>
  match s.ev x with
  |.own id Ja=>
   match s.m[id]? with
   |some (.live S' ver' l)=>if S'=S/\ver'=Ja/\0<l.length/\l.all isV=true then some (.sl S l,s.m.set id .gone)else none
   |_=>none
  |_=>none
 |.Cs x i=>
  match s.ev x,s.ev i with
  |.v (.string b),.v (.int _ k)=>if h:0<=k/\k.toNat<b.size then some (.v (.int .u8 (b[k.toNat]'h.2).toNat),s.m)else none
  |_,_=>none
 |.sslice x lo hi=>
  match s.ev x with
  |.v (.string b)=>
   match bound s 0 lo,bound s b.size hi with
   |some l,some h=>if l<=h/\h<=b.size then some (.v (.string (b.extract l h)),s.m)else none
   |_,_=>none
  |_=>none
 |.mkmap=>some (.mp s.m.length,s.m++[.mp []])
 |.mlook K ok z x k=>
  match s.ev k with
  |.v kv=>
   if isKey K kv=true then
    match s.ev x with
    |.v (.map none)=>some (if ok then .tup [z,.v (.bool false)]else z,s.m)
    |.mp id=>
     match s.m[id]? with
     |some (.mp es)=>
      if(es.all λe=>isKey K e.1)=true then
       match Fx kv es with
       |some d=>some (if ok then .tup [d,.v (.bool true)]else d,s.m)
       |none=>some (if ok then .tup [z,.v (.bool false)]else z,s.m)
      else none
     |_=>none
    |_=>none
   else none
  |_=>none
 |.mput K m k x=>
  match s.ev k,s.ev m with
  |.v kv,.mp id=>
   match s.m[id]? with
   |some (.mp es)=>if isKey K kv=true/\(es.all λe=>isKey K e.1)=true then some (.dead,s.m.set id (.mp (VE kv (s.ev x) es)))else none
   |_=>none
  |_,_=>none
 |.mlen x=>
  match s.ev x with
  |.v (.map none)=>some (.v (.int .i64 0),s.m)
  |.mp id=>
   match s.m[id]? with
   |some (.mp es)=>some (.v (.int .i64 (es.length:Int)),s.m)
   |_=>none
  |_=>none
 |.trunc S x lo hi=>
  match s.ev x with
  |.own id Ja=>
   match s.m[id]? with
   |some (.live S' ver' l)=>
    match bound s 0 lo,bound s l.length hi with
    |some a,some h=>if a<=h/\S'=S/\ver'=Ja/\h<=l.length then some (.own id (Ja+1),s.m.set id (.live S (Ja+1) ((l.take h).drop a)))else none
    |_,_=>none
   |_=>none
  |d=>
   match Bc s.m d with
   |some n=>
    match bound s 0 lo,bound s n hi,bound s n none with
    |some l,some h,some k=>if h<=k/\k<=n then(Iq S s.m d l h).map λr=>(r,s.m)else none
    |_,_,_=>none
   |none=>none
 |.mkifc t x=>some (.ifc t (s.ev x),s.m)
 |.tassert ok t z x=>
  match s.ev x with
  |.ifc t' d=>if t'=t then some (if ok then .tup [d,.v (.bool true)]else d,s.m)else if ok=true then some (.tup [z,.v (.bool false)],s.m)else none
  |_=>none
 |.clr S z x=>
  match s.ev x with
  |.v (.slice none 0 0)=>some (.dead,s.m)
  |.view id Ja lo n=>
   match s.m[id]? with
   |some (.live S' ver' l)=>if S'=S/\ver'=Ja/\lo+n<=l.length then some (.dead,s.m.set id (.live S Ja (l.take lo++jaa n z++l.drop (lo+n))))else none
   |_=>none
  |_=>none
 |.capn x=>
  match s.ev x with
  |.v (.slice none 0 0)=>some (.v (.int .i64 0),s.m)
  |_=>none
 |.Mr neg x=>
  match s.ev x with
  |.v (.slice a _ _)=>some (.v (.bool (a.isNone !=neg)),s.m)
  |.sl _ (_::_)=>some (.v (.bool neg),s.m)
  |.own id Ja=>
   match s.m[id]? with
   |some (.live _ ver' (_::_))=>if ver'=Ja then some (.v (.bool neg),s.m)else none
   |_=>none
  |_=>none
 |.mkapp S bytes z x n=>
  match s.ev x,s.ev n with
  |.v (.slice none 0 0),.v (.int .i64 k)=>if 0<k/\k.toNat*bytes<=2 ^ 47 then some (.own s.m.length 0,s.m++[.live S 0 (jaa k.toNat z)])else none
  |_,_=>none
inductive Cal where
 |tmp (t:Tmp)
 |const (v:Value)
 |global (g:Nat)
 |func (f:FuncId)
 |meth (r:Operand) (tb:List (TypeId×FuncId×Option (Bool×Nat)))
def Cal.of:Operand->Cal
 |.tmp t=>.tmp t
 |.const v=>.const v
 |.global g=>.global g
 |.func f=>.func f
def St.cv(s:St):Cal->D
 |.tmp t=>s.ev (.tmp t)
 |.const v=>s.ev (.const v)
 |.global g=>s.ev (.global g)
 |.func f=>s.ev (.func f)
 |.meth ..=>.dead
def yW(m:List Ent) (tb:List (TypeId×FuncId×Option (Bool×Nat))):D->D
 |.ifc t d=>
  match tb.lookup t with
  |some (k,none)=>.fn k [d] []
  |some (k,some r)=>
   match ia ⟨[d],m⟩ (.load r.1 r.2 (.tmp 0))with
   |some (d',_)=>.fn k [d'] []
   |none=>.dead
  |none=>.dead
 |_=>.dead
def St.ec(s:St):Cal->D
 |.tmp t=>s.ev (.tmp t)
 |.const v=>s.ev (.const v)
 |.global g=>s.ev (.global g)
 |.func f=>s.ev (.func f)
 |.meth r tb=>yW s.m tb (s.ev r)
theorem EO{s:St}{f:Cal}{k:FuncId}{a b:List D}(h:s.cv f=.fn k a b):s.ec f=.fn k a b:=by
 cases f<;>simp[St.cv]at h<;>exact h
theorem V2{s:St}(x:Operand):s.ec (.of x)=s.ev x:=by cases x<;>rfl
open Go.RowKit (Below)
theorem td{G:Gh}{w:World}{b S:Nat}:∀{l:List D}{off:Nat},Qa G w b S l off↔∀(i:Nat) d,l[i]?=some d->∃u,VRel G w d u/\u.cells.size=S/\iv w b (off+i*S) u
 |[],off=>by simp[Qa]
 |d::l,off=>by
  simp only[Qa];constructor
  .rintro⟨h1,h2⟩ i e he
   cases i with
   |zero=>simp_all
   |succ i=>
    have:=td.1 h2 i e (by simp_all)
    grind
  .intro h;refine⟨by simpa using h 0 d rfl,td.2 λi e he=>?_⟩;have:=h (i+1) e (by simp_all)
   grind
def Ze(G:Gh) (w:World) (S:Nat) (l:List D) (cs:Array Value) (o:Nat:=0):Prop:=
 ∀(i:Nat) d,l[i]?=some d->∃u,VRel G w d u/\u.cells.size=S/\∀(j:Nat) c,u.cells[j]?=some c->one c=true/\cs[i*S+j+o]?=some c
theorem Ze.mono{G G':Gh}{w w':World}{S o:Nat}{l:List D}{cs:Array Value}(h:Ze G w S l cs o) (hle:Le G w G' w'):Ze G' w' S l cs o:=
 λi d hd=>let ⟨u,h1,h2,h3⟩:=h i d hd;⟨u,h1.mono hle,h2,h3⟩
theorem wx{w:World}{b j:Nat}{cs:Array Value}{T:TypeId}{fr:Nat×Nat}(h:w.heap[b]?=some (.cells cs T fr)):w.cell? ⟨b,j,none⟩=cs[j]?:=by
 grind[World.cell?]
theorem cj{G:Gh}{w:World}{b S o:Nat}{l:List D}{cs:Array Value}{T:TypeId}{fr:Nat×Nat}(h:w.heap[b]?=some (.cells cs T fr)) (hr:Ze G w S l cs o):Qa G w b S l o:=
 td.2 λi d hd=>by
  obtain⟨u,h1,h2,h3⟩:=hr i d hd;exact⟨u,h1,h2,λj c hc=>⟨(h3 j c hc).1,by grind[wx]⟩⟩
theorem ts{G:Gh}{w:World}{b S o:Nat}{l:List D}{cs:Array Value}{T:TypeId}{fr:Nat×Nat}(h:w.heap[b]?=some (.cells cs T fr)) (hr:Qa G w b S l o):Ze G w S l cs o:=by
 intro i d hd;obtain⟨u,h1,h2,h3⟩:=td.1 hr i d hd;refine⟨u,h1,h2,λj c hc=>⟨(h3 j c hc).1,?_⟩⟩;have:=(h3 j c hc).2
 grind[wx]
def Gh.add(G:Gh) (b:Option Nat) (S N C:Nat):Gh:=
 ⟨G.F,G.n+1,λi=>if i=G.n then b else G.B i,λi=>if i=G.n then 0 else G.V i,λi=>if i=G.n then S else G.S i,
  λi=>if i=G.n then N else G.N i,λi=>if i=G.n then(C,0)else G.C i⟩
theorem Le.add{G:Gh}{w w':World}(hb:∀b,G.F b->w'.heap[b]?=w.heap[b]?) (b:Option Nat) (S N C:Nat):Le G w (G.add b S N C) w' where
 F _ h:=h
 heap:=hb
 n:=by simp[Gh.add]
 id i hi:=by
  grind[Gh.add]
theorem Xm.mono{G G':Gh}{w w':World}(hle:Le G w G' w') {i:Nat}{e:Ent}(h:Xm G w i e)
 (hi:G'.V i=G.V i/\G'.B i=G.B i/\G'.S i=G.S i/\G'.N i=G.N i/\G'.C i=G.C i) (hb:∀b,G.B i=some b->w'.heap[b]?=w.heap[b]?)
 (hF:∀b,G.B i=some b->e.isLive=true->G'.F b->G.F b):Xm G' w' i e:=by
 obtain⟨h1,h2,h3,h4,h5⟩:=hi
 cases e with
 |live S Ja l=>
  simp only[Xm]at h⊢;obtain⟨a1,a2,a3,a4,a5⟩:=h;rw[h1,h2,h3,h4,h5];refine⟨a1,a2,a3,a4,?_⟩;rcases a5 with a5|⟨b,cs,T,b1,b2,b3,b4,b5⟩
  .simp_all
  .exact .inr ⟨b,cs,T,b1,λhf=>b2 (hF b b1 rfl hf),by simp_all,b4,Qa.mono hle (hb b b1) b5⟩
 |mp es=>
  simp only[Xm]at h⊢;obtain⟨a1,b,en,cl,a2,a3,a4,a5⟩:=h;rw[h1,h2];exact⟨a1,b,en,cl,a2,λhf=>a3 (hF b a2 rfl hf),by simp_all,a5.mono hle⟩
 |gone=>trivial
theorem Xm.lt{G:Gh}{w:World}{i:Nat}{e:Ent}(h:Xm G w i e) (hl:e.isLive=true) {b:Nat}(hb:G.B i=some b):b<w.heap.size/\¬G.F b:=by
 have key:∀o,w.heap[b]?=some o->b<w.heap.size:=λo ho=>by
  grind
 cases e with
 |live S Ja l=>
  obtain⟨_,_,_,_,h|⟨b',cs,T,b1,b2,b3,_⟩⟩:=h
  all_goals simp_all
 |mp es=>
  obtain⟨_,b',en,cl,a2,a3,a4,_⟩:=h
  simp_all
 |gone=>cases hl
theorem Xd.lt{G:Gh}{w:World}{m:List Ent}(hi:Inv G w m) {b:Nat}(h:Xd G m b):b<w.heap.size/\¬G.F b:=by
 obtain⟨i,e,h1,h2,h3⟩:=h;exact(hi.ent i e h1).lt h2 h3
structure Same (w w':World):Prop where
 heap:w'.heap=w.heap
 os:w'.os=w.os
 tape:w'.tape=w.tape
 output:w'.output=w.output
theorem Same.drew(w:World):Same w w.drew:=⟨rfl,rfl,rfl,rfl⟩
theorem Same.le{w w':World}(h:Same w w') (G:Gh):Le G w G w':=⟨λ_ h=>h,λ_ _=>by rw[h.heap],saa _,λ_ _=>.inl ⟨rfl,rfl,rfl,rfl,rfl⟩⟩
theorem Same.step{w w':World}(h:Same w w') (G:Gh) (m:List Ent):Step G w m G w' m:=
 ⟨h.le G,h.os,h.tape,h.output,by rw[h.heap];omega,λ_ _ _=>by rw[h.heap],λ_ _ h=>.inl h,λ_ _ h=>h⟩
theorem Same.inv{w w':World}(h:Same w w') {G:Gh}{m:List Ent}(hi:Inv G w m):Inv G w' m:=
 ⟨hi.n,λb hb=>by rw[h.heap];exact hi.F b hb,λi e he=>(hi.ent i e he).mono (h.le G) ⟨rfl,rfl,rfl,rfl,rfl⟩ (λ_ _=>by rw[h.heap]) (λ_ _ _ h=>h),hi.apart,hi.gl.mono (h.le G)⟩
theorem My{G:Gh}{w w':World}{m:List Ent}(hi:Inv G w m) (b:Option Nat) (S N C:Nat) (e:Ent) (hl:e.isLive=true)
 (hos:w'.os=w.os) (htape:w'.tape=w.tape) (hout:w'.output=w.output) (hsize:w.heap.size<=w'.heap.size)
 (hkeep:∀k,k<w.heap.size->w'.heap[k]?=w.heap[k]?) (hb:∀k,b=some k->w.heap.size<=k)
 (he:Xm (G.add b S N C) w' G.n e) :
 Inv (G.add b S N C) w' (m++[e])/\Step G w m (G.add b S N C) w' (m++[e]):=by
 have hle:Le G w (G.add b S N C) w':=Le.add (λk hk=>hkeep k (hi.F k hk)) b S N C;have hnew:∀i,i≠G.n->(G.add b S N C).B i=G.B i:=λi h=>by grind[Gh.add]
 have hat:(G.add b S N C).B G.n=b:=by simp[Gh.add]
 have hget:∀i x,(m++[e])[i]?=some x->(m[i]?=some x/\i≠G.n)\/(i=G.n/\x=e):=by
  intro i x hx;rw[Rab]at hx;split at hx
  .exact .inl ⟨hx,by rw[hi.n];omega⟩
  .rename_i hlt;have:i=m.length:=by
    grind
   subst this;simp at hx;exact .inr ⟨hi.n.symm,hx.symm⟩
 have hold:∀i x,m[i]?=some x->x.isLive=true->∀k,G.B i=some k->k<w.heap.size:=λi x hx hl k hk=>((hi.ent i x hx).lt hl hk).1;refine⟨⟨by simp[Gh.add,hi.n],λk hk=>Paa (hi.F k hk) hsize,?_,?_,hi.gl.mono hle⟩,⟨hle,hos,htape,hout,hsize,λk hk _=>hkeep k hk,λ_ _ h=>.inl h,?_⟩⟩
 .intro i x hx;rcases hget i x hx with⟨h1,h2⟩|⟨rfl,rfl⟩
  .by_cases hlx:x.isLive=true
   .refine(hi.ent i x h1).mono hle (by grind[Gh.add]) (λk hk=>hkeep k (hold i x h1 hlx k hk)) (λ_ _ _ h=>h)
   .cases x with
    |gone=>trivial
    |_=>grind[Ent.isLive]
  omega
 .intro i j x y hx hy lx ly k hk hk';rcases hget i x hx with⟨h1,h2⟩|⟨rfl,rfl⟩<;>rcases hget j y hy with⟨h3,h4⟩|⟨rfl,rfl⟩
  .exact hi.apart i j x y h1 h3 lx ly k (by simp_all) (by simp_all)
  all_goals grind
 .rintro k hk ⟨i,x,hx,lx,hB⟩;rcases hget i x hx with⟨h1,h2⟩|⟨rfl,rfl⟩
  .exact⟨i,x,h1,lx,by simp_all⟩
  grind
theorem Ro{G:Gh}{w:World}{m:List Ent}(hi:Inv G w m) (S:Nat) (l:List D) (C:Nat) (cs:Array Value) (T:TypeId)
 (hr:Ze G w S l cs) (hC:l.length<=C) (hcs:C*S<=cs.size) :
 Inv (G.add (some w.heap.size) S l.length C) (w.alloc (.cells cs T)) (m++[.live S 0 l])/\Step G w m (G.add (some w.heap.size) S l.length C) (w.alloc (.cells cs T)) (m++[.live S 0 l]):=by
 have hkeep:∀k,k<w.heap.size->(w.alloc (.cells cs T)).heap[k]?=w.heap[k]?:=λk hk=>Below.heap_alloc _ _ _ hk;refine My hi _ _ _ _ _ rfl rfl rfl rfl (by simp) hkeep (λk h=>by simp_all) ?_;have hle:Le G w (G.add (some w.heap.size) S l.length C) (w.alloc (.cells cs T)):=Le.add (λk hk=>hkeep k (hi.F k hk)) _ _ _ _;have hblk:(w.alloc (.cells cs T)).heap[w.heap.size]?=some (.cells cs T (0,0)):=by
  show(w.heap.push (.cells cs T))[w.heap.size]?=_;simp
 refine⟨by simp[Gh.add],by simp[Gh.add],by simp[Gh.add],by grind[Gh.add],.inr ⟨w.heap.size,cs,T,by simp[Gh.add],λh=>?_,hblk,by grind[Gh.add],by simpa [Gh.add] using cj hblk (hr.mono hle)⟩⟩;have:=hi.F _ h;omega
def Gh.oe(G:Gh) (i:Nat) (b:Option Nat) (V N:Nat) (C:Nat×Nat):Gh:=
 ⟨G.F,G.n,λj=>if j=i then b else G.B j,λj=>if j=i then V else G.V j,G.S,λj=>if j=i then N else G.N j,λj=>if j=i then C else G.C j⟩
theorem He{G:Gh}{w w':World}{m:List Ent}(hi:Inv G w m) {id:Nat}{e e':Ent}(hm:m[id]?=some e) (hl:e.isLive=true) (hl':e'.isLive=true) (b:Option Nat) (V N:Nat) (C:Nat×Nat)
 (hV:G.V id<V\/(V=G.V id/\b=G.B id/\N=G.N id/\C=G.C id))
 (hos:w'.os=w.os) (htape:w'.tape=w.tape) (hout:w'.output=w.output) (hsize:w.heap.size<=w'.heap.size)
 (hkeep:∀k,k<w.heap.size->G.B id≠some k->w'.heap[k]?=w.heap[k]?) (hb:∀k,b=some k->G.B id=some k\/w.heap.size<=k)
 (he:Xm (G.oe id b V N C) w' id e') :
 Inv (G.oe id b V N C) w' (m.set id e')/\Step G w m (G.oe id b V N C) w' (m.set id e'):=by
 have hFb:∀k,G.F k->G.B id≠some k:=λk hF hB=>((hi.ent id e hm).lt hl hB).2 hF;have hle:Le G w (G.oe id b V N C) w':=by
  refine⟨λ_ h=>h,λk hk=>hkeep k (hi.F k hk) (hFb k hk),saa _,λi _=>?_⟩
  grind[Gh.oe]
 have hnew:∀i,i≠id->(G.oe id b V N C).B i=G.B i:=λi h=>by grind[Gh.oe]
 have hat:(G.oe id b V N C).B id=b:=by simp[Gh.oe]
 have hlen:id<m.length:=by
  grind
 have hget:∀i x,(m.set id e')[i]?=some x->(m[i]?=some x/\i≠id)\/(i=id/\x=e'):=by
  grind
 have hold:∀i x,m[i]?=some x->x.isLive=true->∀k,G.B i=some k->k<w.heap.size:=λi x hx hl k hk=>((hi.ent i x hx).lt hl hk).1;refine⟨⟨by simp[Gh.oe,hi.n],λk hk=>Paa (hi.F k hk) hsize,?_,?_,hi.gl.mono hle⟩,⟨hle,hos,htape,hout,hsize,?_,λ_ _ h=>.inl h,?_⟩⟩
 .intro i x hx;rcases hget i x hx with⟨h1,h2⟩|⟨rfl,rfl⟩
  .by_cases hlx:x.isLive=true
   .refine(hi.ent i x h1).mono hle (by grind[Gh.oe]) (λk hk=>hkeep k (hold i x h1 hlx k hk) λhB=>h2 (hi.apart i id x e h1 hm hlx hl k hk hB)) (λ_ _ _ h=>h)
   .cases x with
    |gone=>trivial
    |_=>grind[Ent.isLive]
  omega
 .intro i j x y hx hy lx ly k hk hk';have other:∀i x,m[i]?=some x->i≠id->x.isLive=true->G.B i=some k->b=some k->False:=λi x h1 h2 lx hk hbk=>by
   rcases hb k hbk with h|h
   .exact h2 (hi.apart i id x e h1 hm lx hl k hk h)
   grind
  rcases hget i x hx with⟨h1,h2⟩|⟨rfl,rfl⟩<;>rcases hget j y hy with⟨h3,h4⟩|⟨rfl,rfl⟩
  .exact hi.apart i j x y h1 h3 lx ly k (by simp_all) (by simp_all)
  all_goals simp_all
 .intro k hk ho;exact hkeep k hk λhB=>ho ⟨id,e,hm,hl,hB⟩
 .rintro k hk ⟨i,x,hx,lx,hB⟩;rcases hget i x hx with⟨h1,h2⟩|⟨rfl,rfl⟩
  .exact⟨i,x,h1,lx,by simp_all⟩
  .rw[hat]at hB;rcases hb k hB with h|h
   .exact⟨i,e,hm,hl,h⟩
   omega
def shapeOf(P:Program) (t:TypeId):Option (Bool×Nat):=
 match P.underlying t,P.info? t with
 |some (.struct _),some i=>some (true,i.size)
 |some (.array _ _),some i=>some (true,i.size)
 |some _,some i=>some (false,i.size)
 |_,_=>none
def zeroOf(P:Program) (t:TypeId):Option Value:=
 match P.info? t with
 |some i=>
  match i.zero with
  |some z=>if z.cells.toList.all one=true/\z.cells.size=i.size/\0<i.size then some z else none
  |none=>none
 |none=>none
def partsOf(places:List (Nat×Nat)):List (Nat×Operand)->Option (List (Nat×Nat×Operand))
 |[]=>some []
 |(i,x)::ps=>
  match places[i]?,partsOf places ps with
  |some (off,n),some r=>some ((off,n,x)::r)
  |_,_=>none
def YC(P:Program) (t:TypeId):Option Nat:=
 match P.underlying t with
 |some (.int _)=>some 0
 |some .bool=>some 1
 |some .string=>some 2
 |_=>none
def ZC(P:Program):List Field->Nat->Option (List Nat)
 |[],_=>some []
 |f::fs,off=>
  if f.name≠ "_"/\f.offset=off then
   match YC P f.type,ZC P fs (off+1)with
   |some k,some ks=>some (k::ks)
   |_,_=>none
  else none
def Nu(P:Program):List Field->Nat->Option (List Nat)
 |[],_=>some []
 |f::fs,off=>
  if f.name≠ "_"/\f.offset=off then
   match P.underlying f.type with
   |some (.struct gs)=>
    match ZC P gs.toList 0,P.info? f.type with
    |some ks,some i=>if i.size=ks.length/\P.stoodInHeld f.type=false then(Nu P fs (off+ks.length)).map (ks++·)else none
    |_,_=>none
   |_=>
    match YC P f.type,Nu P fs (off+1)with
    |some k,some ks=>some (k::ks)
    |_,_=>none
  else none
def Ep(P:Program) (t:TypeId):Option Nat:=
 match P.underlying t with
 |some (.int .i64)=>some 0
 |some .string=>some 2
 |_=>none
def zF(P:Program):Op->Option I
 |.move x=>some (.mv x)
 |.assign x=>some (.mv x)
 |.pick c a b=>some (.pick c a b)
 |.alloc t=>(zeroOf P t).map λz=>.alloc z.cells.size (leaf z)
 |.box t x=>some (.box (P.cellsOf t) x)
 |.build t ps=>
  match P.underlying t,zeroOf P t with
  |some (.struct fs),some z=>
   match fs.toList.mapM λf=>(P.info? f.type).map λi=>(f.offset,i.size)with
   |some places=>(partsOf places ps.toList).map λr=>.build (z.cells.toList.map .v) r
   |none=>none
  |some (.array _ e),some z=>(P.info? e).map λi=>.build (z.cells.toList.map .v) (ps.toList.map λ(k,x)=>(k*i.size,i.size,x))
  |_,_=>none
 |.buildSlice t n ps=>
  match P.underlying t with
  |some (.slice e)=>
   match zeroOf P e with
   |some z=>if n*z.cells.size<=2 ^ 24 then some (.bslice z.cells.size n (leaf z) ps.toList)else none
   |none=>none
  |_=>none
 |.load t x=>(shapeOf P t).map λr=>.load r.1 r.2 x
 |.store t x y=>(P.info? t).map λi=>.store i.size x y
 |.nilCheck x=>some (.nilc x)
 |.binOp op t x y _=>
  match P.underlying t with
  |some .bool=>if op=.eql then some (.beq false x y)else if op=.neq then some (.beq true x y)else none
  |some (.struct fs)=>
   if(op=.eql\/op=.neq)/\P.stoodInHeld t=false/\P.eqGuardType P.depth t=false then
    match Nu P fs.toList 0 with
    |some ks=>some (.ceq (decide (op=.neq)) ks x y)
    |none=>none
   else none
  |some (.slice _)=>
   match op,y with
   |.eql,.const (.slice none 0 0)=>some (.Mr false x)
   |.neq,.const (.slice none 0 0)=>some (.Mr true x)
   |_,_=>none
  |some _=>some (.bin op x y)
  |none=>none
 |.unOp op _ x=>some (.un op x)
 |.convert s d x=>
  match P.underlying s,P.underlying d with
  |some (.int _),some (.int k)=>some (.conv k x)
  |some (.slice _),some (.slice e)=>
   match P.underlying e,P.info? e with
   |some (.int .u8),some i=>if s=d then some (.strb i.size x)else none
   |_,_=>none
  |_,_=>none
 |.makeFunc (.func f) first caps=>some (.mkfunc f first.toList caps.toList)
 |.makeSlice t l c=>
  match P.underlying t with
  |some (.slice e)=>
   match zeroOf P e with
   |some z=>some (.mkslice z.cells.size (P.bytesOf e) (leaf z) l c)
   |none=>none
  |_=>none
 |.slice t x lo hi mx=>
  match P.underlying t with
  |some (.slice e)=>if mx.isSome&&hi.isNone then none else(P.info? e).map λi=>.slice i.size x lo hi mx
  |some .string=>if mx.isSome then none else some (.sslice x lo hi)
  |_=>none
 |.fieldAddr s x f=>
  match P.underlying s with
  |some (.struct fs)=>
   match fs[f]? with
   |some fl=>
    match shapeOf P fl.type with
    |some r=>if r.2≠0 then some (.faddr r.1 r.2 fl.offset x)else none
    |none=>none
   |none=>none
  |_=>none
 |.field s x f=>
  match P.underlying s with
  |some (.struct fs)=>
   match fs[f]? with
   |some fl=>(shapeOf P fl.type).map λr=>.field r.1 r.2 fl.offset x
   |none=>none
  |_=>none
 |.indexAddr t x i=>
  match P.underlying t with
  |some (.slice e)=>(P.info? e).map λj=>.iaddr j.size x i
  |some (.array n e)=>(shapeOf P e).map λr=>.aaddr r.1 r.2 n x i
  |_=>none
 |.index t x i=>
  match P.underlying t with
  |some (.array n e)=>(shapeOf P e).map λr=>.index r.1 r.2 n x i
  |some .string=>some (.Cs x i)
  |_=>none
 |.extract x i=>some (.extract x i)
 |.panic _=>some .fail
 |.makeMap _ none=>some .mkmap
 |.lookup t x k ok=>
  match P.underlying t with
  |some (.map kt et)=>
   match Ep P kt,zeroOf P et with
   |some K,some z=>some (.mlook K ok (leaf z) x k)
   |_,_=>none
  |_=>none
 |.mapUpdate t m k x=>
  match P.underlying t with
  |some (.map kt _)=>(Ep P kt).map λK=>.mput K m k x
  |_=>none
 |.call c=>
  match c.callee,c.args.toList,c.argTypes.toList with
  |.builtin .len,[x],[t]=>
   match P.underlying t with
   |some (.slice _)=>some (.len x)
   |some .string=>some (.slen x)
   |some (.map _ _)=>some (.mlen x)
   |_=>none
  |.builtin .max,xs,_=>some (.mm true xs)
  |.builtin .min,xs,_=>some (.mm false xs)
  |.builtin .append,[x,y],[t,u]=>
   match P.underlying t,P.underlying u with
   |some (.slice e),some (.slice _)=>
    if t=u then
     match P.info? e,zeroOf P e with
     |some i,some _=>if 0<i.bytes then some (.append i.size i.bytes x y)else none
     |_,_=>none
    else none
   |some (.slice e),some (.int .i64)=>
    match P.info? e,zeroOf P e with
    |some i,some z=>if 0<i.bytes then some (.mkapp i.size i.bytes (leaf z) x y)else none
    |_,_=>none
   |_,_=>none
  |.builtin .clear,[x],[t]=>
   match P.underlying t with
   |some (.slice e)=>(zeroOf P e).map λz=>.clr z.cells.size (leaf z) x
   |_=>none
  |.builtin .cap,[x],[t]=>
   match P.underlying t with
   |some (.slice _)=>some (.capn x)
   |_=>none
  |_,_,_=>none
 |.makeInterface t x=>
  match P.underlying t with
  |some (.interface _)=>none
  |some _=>some (.mkifc t x)
  |none=>none
 |.typeAssert x _ t ok=>
  match P.underlying t,zeroOf P t with
  |some (.interface _),_=>none
  |some _,some z=>some (.tassert ok t (leaf z) x)
  |_,_=>none
 |_=>none
def QT(P:Program) (name:String) (t:TypeId):Option (FuncId×Option (Bool×Nat)):=
 match P.info? t with
 |some i=>
  match i.methods.find? (·.name==name)with
  |some m=>
   match m.path.isEmpty,m.func,P.underlying t with
   |true,some (f,true),some (.pointer _)=>some (f,none)
   |true,some (f,false),some (.pointer e)=>(shapeOf P e).map λr=>(f,some r)
   |true,some (f,false),some _=>some (f,none)
   |_,_,_=>none
  |none=>none
 |none=>none
def jZ(P:Program) (name:String):List (TypeId×FuncId×Option (Bool×Nat)):=(yaa P.types.size).filterMap λt=>(QT P name t).map λr=>(t,r)
def rG(P:Program):Op->Option (Cal×List Operand)
 |.call ⟨.value f,args,_⟩=>some (.of f,args.toList)
 |.call ⟨.invoke r n,args,_⟩=>some (.meth r (jZ P n),args.toList)
 |_=>none
inductive RI where
 |op (dst:Option Tmp) (g:Option (Tmp×Bool)) (i:I)
 |call (dst:Option Tmp) (g:Option (Tmp×Bool)) (f:Cal) (args:List Operand)
def guardOf(ops:Array Oper):Option (Nat×Bool)->Option (Option (Tmp×Bool))
 |none=>some none
 |some (j,b)=>
  match (ops[j]?).bind (·.dst)with
  |some t=>some (some (t,b))
  |none=>none
def gX(ops:Array Oper) (dt:Tmp):Bool:=ops.toList.any λo=>
 match o.op with
 |.call ⟨.builtin .append,args,_⟩=>
  match args.toList with
  |.tmp t::_=>t==dt
  |_=>false
 |_=>false
def S8(o:Oper):Option (Tmp×Tmp):=
 match o.op,o.dst with
 |.move (.tmp s),some d=>some (s,d)
 |.assign (.tmp s),some d=>some (s,d)
 |_,_=>none
def NY(ops:Array Oper) (x:Operand) (dt:Tmp):Bool:=
 match x with
 |.tmp y=>ops.toList.any λo=>
  match S8 o with
  |some (s,v)=>s==dt&&(v==y || ops.toList.any λp=>
   match S8 p with
   |some (s',d')=>s'==v&&d'==y
   |none=>false)
  |none=>false
 |_=>false
def iS(ops:Array Oper) (x:Operand):Bool:=
 match x with
 |.tmp y=>ops.toList.any λo=>
  match o.op with
  |.call ⟨.builtin .append,_,_⟩=>o.dst==some y
  |_=>false
 |_=>false
def fA(P:Program) (ops:Array Oper) (o:Oper):Option I:=
 match o.op,o.dst with
 |.slice t x lo hi none,some dt=>
  if gX ops dt=true\/NY ops x dt=true\/iS ops x=true then
   match P.underlying t with
   |some (.slice e)=>(P.info? e).map λi=>.trunc i.size x lo hi
   |_=>none
  else none
 |_,_=>none
def xr(P:Program) (ops:Array Oper) (o:Oper) (op:Op):Option I:=
 match fA P ops o with
 |some i=>some i
 |none=>zF P op
def Ln(P:Program) (ops:Array Oper) (o:Oper):Option RI:=
 match guardOf ops o.guard with
 |none=>none
 |some g=>
  match rG P o.op with
  |some (f,args)=>some (.call o.dst g f args)
  |none=>(xr P ops o o.op).map λi=>.op o.dst g i
def nh(P:Program) (ops:Array Oper):List Oper->Option (List RI)
 |[]=>some []
 |o::l=>
  match Ln P ops o,nh P ops l with
  |some r,some rs=>some (r::rs)
  |_,_=>none
def Od:Operand->List Tmp
 |.tmp t=>[t]
 |_=>[]
def AB:Option Operand->List Tmp
 |some x=>Od x
 |none=>[]
def Cal.tmps:Cal->List Tmp
 |.tmp t=>[t]
 |.meth r _=>Od r
 |_=>[]
def I.reads:I->List Tmp
 |.mv x|.un _ x|.conv _ x|.box _ x|.load _ _ x|.nilc x|.faddr _ _ _ x|.field _ _ _ x|.extract x _|.len x|.slen x=>Od x
 |.pick c a b=>Od c++Od a++Od b
 |.bin _ x y|.beq _ x y|.store _ x y|.iaddr _ x y|.aaddr _ _ _ x y|.index _ _ _ x y|.append _ _ x y|.mkslice _ _ _ x y=>Od x++Od y
 |.alloc _ _=>[]
 |.build _ ps=>ps.flatMap λp=>Od p.2.2
 |.bslice _ _ _ ps=>ps.flatMap λp=>Od p.2
 |.slice _ x a b c=>Od x++AB a++AB b++AB c
 |.mkfunc _ a b=>a.flatMap Od++b.flatMap Od
 |.fail=>[]
 |.mm _ xs=>xs.flatMap Od
 |.ceq _ _ x y=>Od x++Od y
 |.strb _ x=>Od x
 |.Cs x i=>Od x++Od i
 |.sslice x a b=>Od x++AB a++AB b
 |.mkmap=>[]
 |.mlook _ _ _ x k=>Od x++Od k
 |.mput _ m k x=>Od m++Od k++Od x
 |.mlen x=>Od x
 |.trunc _ x lo hi=>Od x++AB lo++AB hi
 |.mkifc _ x|.tassert _ _ _ x|.clr _ _ x|.capn x|.Mr _ x=>Od x
 |.mkapp _ _ _ x y=>Od x++Od y
def I.cls:I->Nat
 |.load ..|.slice ..|.iaddr ..|.len _|.mlook ..|.mlen _|.Mr ..=>1
 |.alloc ..|.box ..|.bslice ..|.mkslice ..|.mkmap=>2
 |.store ..|.append ..|.strb ..|.mput ..|.trunc ..|.clr ..|.mkapp ..=>3
 |_=>0
def RI.dst:RI->Option Tmp
 |.op d _ _=>d
 |.call d _ _ _=>d
def NG:Option (Tmp×Bool)->List Tmp
 |some (t,_)=>[t]
 |none=>[]
def RI.reads:RI->List Tmp
 |.op _ g i=>NG g++i.reads
 |.call _ g f args=>NG g++f.tmps++args.flatMap Od
def RI.cls:RI->Nat
 |.op _ _ i=>i.cls
 |.call ..=>1
def NP(acc:List Nat) (b:List Nat):Nat:=b.foldl (λs e=>s ||| 2 ^ e ||| acc.getD e 0) 0
def lu(acc:List Nat):List (List Nat)->List Nat
 |[]=>acc
 |b::bs=>lu (acc++[NP acc b]) bs
def uv(bs:List (List Nat)):List Nat:=lu [] bs
def Ax(x y:RI):Bool:=
 (
  match x.dst with
  |some t=>y.reads.contains t || y.dst==some t
  |none=>false) ||
 (
  match y.dst with
  |some t=>x.reads.contains t
  |none=>false) ||
 (x.cls==2&&y.cls==2)
def rA(bs:List (List Nat)) (rl:List RI) (q:Nat):Bool:=
 let ms:=uv bs
 bs.length==rl.length&&(q<=rl.length) &&
 ((yaa bs.length).all λi=>(bs.getD i []).all λe=>decide (e<i)) &&
 ((
  yaa rl.length).all λj=>match rl[j]? with
  |none=>false
  |some y=>if j<q then decide (y.cls<=2)&&(yaa j).all λi=>match rl[i]? with
   |none=>false
   |some x=>!Ax x y || (ms.getD j 0).testBit i
   else(yaa j).all λi=>(ms.getD j 0).testBit i)
def qH(bs:List (List Nat)) (rl:List RI) (cuts:List Nat) (q:Nat):Bool:=
 let ms:=uv bs
 (cuts.all λp=>(yaa rl.length).all λj=>decide (j<p) || (yaa p).all λi=>(ms.getD j 0).testBit i) &&
 bs.length==rl.length&&(q<=rl.length) &&
 ((yaa bs.length).all λi=>(bs.getD i []).all λe=>decide (e<i)) &&
 ((yaa rl.length).all λj=>decide (j<q) || (yaa j).all λi=>(ms.getD j 0).testBit i)
def QR(bs:List (List Nat)) (n:Nat):Nat:=
 let ms:=uv bs
 (yaa n).foldl (λq j=>if(yaa j).all (λi=>(ms.getD j 0).testBit i)then q else j+1) 0
def CJ(bs:List (List Nat)) (n q:Nat):List Nat:=
 let ms:=uv bs
 (yaa q).filter λp=>decide (0<p)&&(yaa n).all λj=>decide (j<p) || (yaa p).all λi=>(ms.getD j 0).testBit i
inductive C where
 |skip
 |mJ (l:List RI)
 |draw (q:Nat) (l:List RI)
 |any (cuts:List Nat) (q:Nat) (bs:List (List Nat)) (l:List RI)
 |seq (a b:C)
 |cond (c:Operand) (a b:C)
 |block (id:Nat) (a:C)
 |loop (a:C)
 |exit (id:Nat)
 |ret
 |stuck
def mb(ops:Array Oper):List (List Nat):=ops.toList.map λo=>(o.after.toList.filter λe=>Region.binds .any e).map (·.on)
def comp(P:Program):Code->Option C
 |.skip=>some .skip
 |.region _ ops false=>(nh P ops ops.toList).map .mJ
 |.region _ ops true=>
  match nh P ops ops.toList with
  |some rl=>
   if rA (mb ops) rl (QR (mb ops) rl.length)=true then some (.draw (QR (mb ops) rl.length) rl)
   else if qH (mb ops) rl (CJ (mb ops) rl.length (QR (mb ops) rl.length)) (QR (mb ops) rl.length)=true then
    some (.any (CJ (mb ops) rl.length (QR (mb ops) rl.length)) (QR (mb ops) rl.length) (mb ops) rl)else none
  |none=>none
 |.seq a b=>
  match comp P a,comp P b with
  |some x,some y=>some (.seq x y)
  |_,_=>none
 |.cond c a b=>
  match comp P a,comp P b with
  |some x,some y=>some (.cond c x y)
  |_,_=>none
 |.block id a=>(comp P a).map (.block id)
 |.loop a=>(comp P a).map .loop
 |.exit id=>some (.exit id)
 |.ret=>some .ret
 |.label _=>some .skip
 |.rangeFunc ..=>some .stuck
 |_=>none
inductive RV where
 |tmp (t:Tmp)
 |cell (A:Bool) (n:Nat) (a:Tmp)
structure Fun where
 ntmps:Nat
 results:List RV
 code:C
def zJ(P:Program):ResultVar->Option RV
 |.tmp t=>some (.tmp t)
 |.cell a t=>(shapeOf P t).map λr=>.cell r.1 r.2 a
def Gu(P:Program):List ResultVar->Option (List RV)
 |[]=>some []
 |r::l=>
  match zJ P r,Gu P l with
  |some x,some y=>some (x::y)
  |_,_=>none
def Vt(P:Program) (f:FuncId):Option Fun:=
 match P.funcs[f]? with
 |some fn=>
  match fn.body,Gu P fn.results.toList with
  |some b,some r=>(comp P b).map λc=>⟨fn.ntmps,r,c⟩
  |_,_=>none
 |none=>none
open Go.RowKit (Below)
def Good(G:Gh) (w:World) (m:List Ent) (r:Result Next) (d:D) (m':List Ent):Prop:=
 ∃nx w' G',r=.ok nx w'/\((∃u,nx=.value u/\VRel G' w' d u)\/(nx=.skip/\d=.dead))/\Inv G' w' m'/\Step G w m G' w' m'
theorem za{G:Gh}{w:World}{m:List Ent}{d:D}{u:Value}{r:Result Next}(hi:Inv G w m) (hr:r=.ok (.value u) w) (hd:VRel G w d u):Good G w m r d m:=
 ⟨_,w,G,hr,.inl ⟨u,rfl,hd⟩,hi,Step.refl _ _ _⟩
theorem bq{α:Type}{P:Program}{s:Sem α}{a:α}(h:kf s=some a) (w:World):s.run P w=.ok a w:=by
 cases s<;>simp[kf]at h
 simp_all
theorem Pc{P:Program}{t:TypeId}{i:TypeInfo}(h:P.info? t=some i) (w:World):(sizeOf t).run P w=.ok i.size w:=by
 simp[sizeOf,typeInfo,h]
theorem ck{P:Program}{t:TypeId}{z:Value}(h:zeroOf P t=some z) (w:World):(zeroValue t).run P w=.ok z w/\z.cells.all one=true/\0<z.cells.size/\∃i,P.info? t=some i/\i.size=z.cells.size/\i.zero=some z:=by
 unfold zeroOf at h;split at h
 .rename_i i hi;split at h
  .rename_i z' hz;split at h
   all_goals simp_all[zeroValue,typeInfo]
  .cases h
 .cases h
def Zo:TypeDesc->Bool
 |.struct _|.array _ _=>true
 |_=>false
theorem qq{P:Program}{t:TypeId}{r:Bool×Nat}(h:shapeOf P t=some r):∃d i,P.underlying t=some d/\P.info? t=some i/\r=(Zo d,i.size):=by
 unfold shapeOf at h;split at h<;>first|(cases h;done)|skip
 .rename_i hd hi;injection h with h;subst h;exact⟨_,_,hd,hi,rfl⟩
 .rename_i hd hi;injection h with h;subst h;exact⟨_,_,hd,hi,rfl⟩
 .rename_i d i h1 h2 hd hi;injection h with h;subst h;refine⟨_,_,hd,hi,?_⟩;cases d<;>first|rfl|exact(h1 _ rfl).elim|simp_all
theorem As{P:Program}{t:TypeId}{d:TypeDesc}(h:P.underlying t=some d) (w:World):(isAgg t).run P w=.ok (Zo d) w:=by
 unfold isAgg;simp only[Sem.run_bind,run_underlying h,Result.andThen_ok];cases d<;>rfl
theorem VsRel.getElem{G:Gh}{w:World}:∀{l:List D}{us:List Value}{i:Nat}{d:D},VsRel G w l us->l[i]?=some d->∃u,us[i]?=some u/\VRel G w d u
 |[],us,i,d,h,hd=>by simp at hd
 |e::l,us,i,d,h,hd=>by
  simp only[VsRel]at h;obtain⟨u,r,rfl,h1,h2⟩:=h
  cases i with
  |zero=>simp at hd;subst hd;exact⟨u,by simp,h1⟩
  |succ i=>simpa using VsRel.getElem (i:=i) h2 (by simpa using hd)
theorem VsRel.drop{G:Gh}{w:World}:∀{l:List D}{us:List Value}(k:Nat),VsRel G w l us->VsRel G w (l.drop k) (us.drop k)
 |[],us,k,h=>by simp[VsRel]at h;simp[h,VsRel]
 |e::l,us,k,h=>by
  cases k with
  |zero=>simpa using h
  |succ k=>
   simp only[VsRel]at h;obtain⟨u,r,rfl,h1,h2⟩:=h;simpa using VsRel.drop k h2
theorem VsRel.take{G:Gh}{w:World}:∀{l:List D}{us:List Value}(k:Nat),VsRel G w l us->VsRel G w (l.take k) (us.take k)
 |[],us,k,h=>by simp[VsRel]at h;simp[h,VsRel]
 |e::l,us,k,h=>by
  cases k with
  |zero=>simp[VsRel]
  |succ k=>
   simp only[VsRel]at h;obtain⟨u,r,rfl,h1,h2⟩:=h;simp only[List.take_succ_cons,VsRel];exact⟨u,_,rfl,h1,VsRel.take k h2⟩
theorem VsRel.append{G:Gh}{w:World}:∀{l l':List D}{us us':List Value},VsRel G w l us->VsRel G w l' us'->VsRel G w (l++l') (us++us')
 |[],l',us,us',h,h'=>by simp[VsRel]at h;simp_all
 |e::l,l',us,us',h,h'=>by
  simp only[VsRel]at h;obtain⟨u,r,rfl,h1,h2⟩:=h;simp only[Naa,VsRel];exact⟨u,_,rfl,h1,VsRel.append h2 h'⟩
theorem VRel.cells{G:Gh}{w:World}{d:D}{u:Value}(h:VRel G w d u) (hok:d.ok=true):VsRel G w d.cells u.cells.toList/\∀c∈u.cells.toList,one c=true:=by
 have single:u.cells = #[u]->one u=true->d.cells=[d]->VsRel G w d.cells u.cells.toList/\∀c∈u.cells.toList,one c=true:=by
  intro h1 h2 h3;rw[h1,h3];refine⟨?_,by simp_all⟩;simp only[VsRel]
  simp_all
 cases d with
 |v x=>
  simp only[VRel]at h;subst h;simp only[D.ok]at hok;cases u<;>first|exact single rfl rfl rfl|grind[one]
 |agg l=>
  simp only[VRel]at h;obtain⟨cs,rfl,h,h1⟩:=h
  grind[Value.cells,D.cells]
 |tup l=>grind[D.ok]
 |sl S l=>obtain⟨a,n,cap,rfl,-⟩:=(by simpa only[VRel] using h:∃a n cap,u=.slice a n cap/\_);exact single rfl rfl rfl
 |pt d=>obtain⟨b,off,x,rfl,-⟩:=(by simpa only[VRel] using h:∃b off x,u=.pointer (some ⟨b,off,none⟩)/\_);exact single rfl rfl rfl
 |ref id Ja idx sub=>obtain⟨a,rfl,-⟩:=(by simpa only[VRel] using h:∃a,u=.pointer (some a)/\_);exact single rfl rfl rfl
 |own id Ja=>obtain⟨a,n,c,rfl,-⟩:=(by simpa only[VRel] using h:∃a n c,u=.slice a n c/\_);exact single rfl rfl rfl
 |view id Ja lo n=>obtain⟨a,c,rfl,-⟩:=(by simpa only[VRel] using h:∃a c,u=.slice a n c/\_);exact single rfl rfl rfl
 |fn f a b=>obtain⟨fs,cs,rfl,-⟩:=(by simpa only[VRel] using h:∃fs cs:List Value,u=.func (.func f) fs.toArray cs.toArray/\_);exact single rfl rfl rfl
 |mp id=>obtain⟨b,rfl,-⟩:=(by simpa only[VRel] using h:∃b,u=.map (some b)/\_);exact single rfl rfl rfl
 |ifc t e=>obtain⟨x,rfl,-⟩:=(by simpa only[VRel] using h:∃x,u=.iface t x/\_);exact single rfl rfl rfl
 |dead=>grind[D.ok]
open Go.RowKit (Below)
section
variable {P:Program} {G:Gh} {w:World} {a:Act} {s:St} {d:D} {m':List Ent}
theorem OM(op:BinOp) (t:TypeId) (x y:Operand) (j k:IntKind) (p q:Int) (w:World):(eqGuard op t x y (.int j p) (.int k q)).run P w=.ok () w:=by
 simp_all[eqGuard]
theorem QG(op:BinOp) (t:TypeId) (x y:Operand) (p q:ByteArray) (w:World):(eqGuard op t x y (.string p) (.string q)).run P w=.ok () w:=by
 simp_all[eqGuard]
theorem sD(op:BinOp) (t:TypeId) (x y:Operand) (p q:Bool) (w:World):(eqGuard op t x y (.bool p) (.bool q)).run P w=.ok () w:=by
 simp_all[eqGuard]
theorem XL(op:BinOp) (t:TypeId) (j k:IntKind) (p q:Int):binOp op t (.int j p) (.int k q)=binOp op 0 (.int j p) (.int k q):=by cases op<;>rfl
theorem oG(op:BinOp) (t:TypeId) (p q:ByteArray):binOp op t (.string p) (.string q)=binOp op 0 (.string p) (.string q):=by cases op<;>rfl
theorem y3(hr:Rel G w a s) {op:BinOp}{t:TypeId}{x y:Operand}{yt:TypeId}{o:Oper}(ho:o.op=.binOp op t x y yt) (he:ia s (.bin op x y)=some (d,m')) :
 Good G w s.m ((execOp a.eval o).run P w) d m':=by
 have hx:=hr.ev x;have hy:=hr.ev y;simp only[ia]at he;unfold execOp;simp only[ho];generalize s.ev x=dx at *;generalize s.ev y=dy at *;split at he
 .simp only[VRel]at hx hy;simp only[hx,hy,haa,Baa]at he⊢;obtain⟨r,hp,rfl,rfl⟩:=he;refine za (u:=r) hr.inv ?_ (by simp[VRel])
  simp_all[OM,XL,bq]
 .simp only[VRel]at hx hy;simp only[hx,hy,haa,Baa]at he⊢;obtain⟨r,hp,rfl,rfl⟩:=he;refine za (u:=r) hr.inv ?_ (by simp[VRel])
  simp_all[QG,oG,bq]
 simp_all
theorem run_equal_bool(t:TypeId) (ht:P.underlying t=some .bool) (p q:Bool) (w:World):(Op.equal t (.bool p) (.bool q)).run P w=.ok (p==q) w:=by
 unfold Op.equal Op.maxDepth;rw[show(10000:Nat)=9999+1 from rfl,Op.equalIn]
 simp_all[run_underlying]
theorem qW(hr:Rel G w a s) {op:BinOp}{t:TypeId}{x y:Operand}{yt:TypeId}{o:Oper}(ho:o.op=.binOp op t x y yt) (ht:P.underlying t=some .bool) {neg:Bool}
 (hop:(op=.eql/\neg=false)\/(op=.neq/\neg=true)) (he:ia s (.beq neg x y)=some (d,m')) :
 Good G w s.m ((execOp a.eval o).run P w) d m':=by
 have hx:=hr.ev x;have hy:=hr.ev y;simp only[ia]at he;unfold execOp;simp only[ho];generalize s.ev x=dx at *;generalize s.ev y=dy at *;split at he
 .simp only[VRel]at hx hy;simp only[hx,hy]at he⊢;injection he with he;injection he with h1 h2;subst h1;subst h2;rename_i p q;rcases hop with⟨rfl,rfl⟩|⟨rfl,rfl⟩
  .refine za (u:=.bool (p==q)) hr.inv ?_ (by simp[VRel]);have hb:binOp .eql t (.bool p) (.bool q)=(do pure (.bool (←Op.equal t (.bool p) (.bool q)))):=rfl
   simp_all[sD,run_equal_bool]
  .refine za (u:=.bool (!(p==q))) hr.inv ?_ (by simp[VRel]);have hb:binOp .neq t (.bool p) (.bool q)=(do pure (.bool (!(←Op.equal t (.bool p) (.bool q))))):=rfl
   simp_all[sD,run_equal_bool]
 simp_all
theorem g_un(hr:Rel G w a s) {op:UnOp}{t:TypeId}{x:Operand}{o:Oper}(ho:o.op=.unOp op t x) (he:ia s (.un op x)=some (d,m')) :
 Good G w s.m ((execOp a.eval o).run P w) d m':=by
 have hx:=hr.ev x;simp only[ia]at he;unfold execOp;simp only[ho];generalize s.ev x=dx at *;split at he
 .simp only[VRel]at hx;simp only[hx,haa,Baa]at he⊢;obtain⟨r,hp,rfl,rfl⟩:=he;refine za (u:=r) hr.inv ?_ (by simp[VRel]);simp[bq hp]
 simp_all
theorem M3(hr:Rel G w a s) {x:Operand}{o:Oper}(ho:o.op=.move x\/o.op=.assign x) (he:ia s (.mv x)=some (d,m')) :
 Good G w s.m ((execOp a.eval o).run P w) d m':=by
 have hx:=hr.ev x;simp only[ia]at he;injection he with he;injection he with h1 h2;subst h1;subst h2;refine za (u:=a.eval x) hr.inv ?_ hx;unfold execOp;rcases ho with ho|ho<;>simp[ho]
theorem uY(hr:Rel G w a s) {c x y:Operand}{o:Oper}(ho:o.op=.pick c x y) (he:ia s (.pick c x y)=some (d,m')) :
 Good G w s.m ((execOp a.eval o).run P w) d m':=by
 have hc:=hr.ev c;have hx:=hr.ev x;have hy:=hr.ev y;simp only[ia]at he;unfold execOp;simp only[ho];generalize s.ev c=dc at *;split at he
 .simp only[VRel]at hc;simp only[hc]at he⊢;injection he with he;injection he with h1 h2;subst h1;subst h2;rename_i b;refine za (u:=if b then a.eval x else a.eval y) hr.inv ?_ ?_
  .simp[asBool]
  grind
 simp_all
theorem fY(hr:Rel G w a s) {k:IntKind}{x:Operand}{o:Oper}{src dst:TypeId}{j:IntKind}(ho:o.op=.convert src dst x) (h1:P.underlying src=some (.int j)) (h2:P.underlying dst=some (.int k)) (he:ia s (.conv k x)=some (d,m')) :
 Good G w s.m ((execOp a.eval o).run P w) d m':=by
 have hx:=hr.ev x;simp only[ia]at he;unfold execOp;simp only[ho];generalize s.ev x=dx at *;split at he
 .simp only[VRel]at hx;simp only[hx]at he⊢;injection he with he;injection he with h3 h4;subst h3;subst h4;rename_i n;refine za (u:=.int k (k.wrap n)) hr.inv ?_ (by simp[VRel])
  simp_all[convert,Conv.intToInt,run_underlying]
 simp_all
theorem FM(hr:Rel G w a s) {x:Operand}{i:Nat}{o:Oper}(ho:o.op=.extract x i) (he:ia s (.extract x i)=some (d,m')) :
 Good G w s.m ((execOp a.eval o).run P w) d m':=by
 have hx:=hr.ev x;simp only[ia]at he;unfold execOp;simp only[ho];generalize s.ev x=dx at *;split at he
 .simp only[VRel]at hx;obtain⟨cs,hx,hv⟩:=hx;simp only[hx,haa,Baa]at he⊢;obtain⟨e,hl,rfl,rfl⟩:=he;obtain⟨u,hu,hd⟩:=hv.getElem hl;refine za (u:=u) hr.inv ?_ hd;simp[Instr.extract,hu]
 simp_all
theorem tP(hr:Rel G w a s) {f:FuncId}{first caps:Array Operand}{o:Oper}(ho:o.op=.makeFunc (.func f) first caps) (he:ia s (.mkfunc f first.toList caps.toList)=some (d,m')) :
 Good G w s.m ((execOp a.eval o).run P w) d m':=by
 simp only[ia]at he;injection he with he;injection he with h1 h2;subst h1;subst h2;have all:∀l:List Operand,VsRel G w (l.map s.ev) (l.map a.eval):=by
  intro l
  induction l with
  |nil=>simp[VsRel]
  |cons x l ih=>simp only[Maa,VsRel];exact⟨_,_,rfl,hr.ev x,ih⟩
 refine za (u:=.func (.func f) (first.map a.eval) (caps.map a.eval)) hr.inv ?_ ?_
 .simp_all[execOp,Instr.makeFunc]
 .simp only[VRel]
  grind[zad]
theorem qY(hr:Rel G w a s) {x:Operand}{o:Oper}(ho:o.op=.nilCheck x) (he:ia s (.nilc x)=some (d,m')) :
 Good G w s.m ((execOp a.eval o).run P w) d m':=by
 have hx:=hr.ev x;simp only[ia]at he;unfold execOp;simp only[ho];generalize s.ev x=dx at *;split at he
 .injection he with he;injection he with h1 h2;subst h1;subst h2;have hx':=hx;simp only[VRel]at hx;obtain⟨p,hx,-⟩:=hx;exact za (u:=a.eval x) hr.inv (by simp[hx]) hx'
 .injection he with he;injection he with h1 h2;subst h1;subst h2;have hx':=hx;simp only[VRel]at hx;obtain⟨b,off,u,hx,-⟩:=hx;exact za (u:=a.eval x) hr.inv (by simp[hx]) hx'
 simp_all
theorem Su(off:Nat):∀(vs:List Value) (k:Nat) (cells:Array Value),off+k+vs.length<=cells.size->
 ((vs.zipIdx k).foldl (λcs (x:Value×Nat)=>cs.setIfInBounds (off+x.2) x.1) cells).toList=cells.toList.take (off+k)++vs++cells.toList.drop (off+k+vs.length)
 |[],k,cells,h=>by simp
 |v::vs,k,cells,h=>by
  simp only[List.length_cons]at h;rw[List.zipIdx_cons,List.foldl_cons,Su off vs (k+1) _ (by grind)]
  grind[list_seg_step]
def Fits(place:Nat->Option (Nat×Nat)):List (Nat×Operand)->List (Nat×Nat×Operand)->Prop
 |[],qs=>qs=[]
 |(i,x)::ps,qs=>∃off n r,qs=(off,n,x)::r/\place i=some (off,n)/\Fits place ps r
theorem XJ(hr:Rel G w a s) {place:Nat->Option (Nat×Nat)}:∀{ps:List (Nat×Operand)}{qs:List (Nat×Nat×Operand)}{l l':List D}{cells:Array Value},
 Fits place ps qs->uq s qs l=some l'->VsRel G w l cells.toList->(∀c∈cells.toList,one c=true)->
 ∃cells':Array Value,Instr.fill place cells (ps.map λp=>(p.1,a.eval p.2))=some cells'/\VsRel G w l' cells'.toList/\∀c∈cells'.toList,one c=true
 |[],_,l,l',cells,hps,hb,hv,h1=>by
  simp only[Fits]at hps;subst hps;simp only[uq]at hb;injection hb with hb;subst hb;exact⟨cells,rfl,hv,h1⟩
 |(i,x)::ps,_,l,l',cells,hps,hb,hv,h1=>by
  simp only[Fits]at hps;obtain⟨off,n,qs,rfl,hp,hps⟩:=hps;simp only[uq]at hb;split at hb
  .rename_i hc;obtain⟨hok,hlen,hoff⟩:=hc;obtain⟨hcells,hones⟩:=(hr.ev x).cells hok;have hl1:=hcells.length;have hl2:=hv.length;have hsz:(a.eval x).cells.size=n:=by simp_all
   have hsz2:cells.size=l.length:=by omega
   have hf:=Su off (a.eval x).cells.toList 0 cells (by omega);refine ?_;have key:=XJ hr (place:=place) (ps:=ps) (qs:=qs) (l:=pn l off (s.ev x).cells) (l':=l')
    (cells:=(a.eval x).cells.zipIdx.foldl (λcs (x:Value×Nat)=>cs.setIfInBounds (off+x.2) x.1) cells) hps hb
   have hlist:((a.eval x).cells.zipIdx.foldl (λcs (x:Value×Nat)=>cs.setIfInBounds (off+x.2) x.1) cells).toList=cells.toList.take off++(a.eval x).cells.toList++cells.toList.drop (off+(a.eval x).cells.toList.length):=by
    grind[kad]
   obtain⟨cells',hc1,hc2,hc3⟩:=key (by
    rw[hlist,pn,←hl1];exact((hv.take off).append hcells).append (hv.drop _)) (by
    grind)
   simp_all[Instr.fill]
  simp_all
theorem fv:∀(l:List Value),VsRel G w (l.map .v) l
 |[]=>by simp[VsRel]
 |x::l=>by simp only[Maa,VsRel];exact⟨x,l,rfl,by simp[VRel],fv l⟩
theorem fD(places:List (Nat×Nat)):∀{ps:List (Nat×Operand)}{qs:List (Nat×Nat×Operand)},partsOf places ps=some qs->Fits (places[·]?) ps qs
 |[],qs,h=>by simp[partsOf]at h;simp[Fits,h]
 |(i,x)::ps,qs,h=>by
  simp only[partsOf]at h;split at h
  .rename_i off n r h1 h2;injection h with h;subst h;simp only[Fits];exact⟨off,n,r,rfl,h1,fD places h2⟩
  .cases h
theorem dD(n:Nat):∀(ps:List (Nat×Operand)),Fits (λk=>some (k*n,n)) ps (ps.map λ(k,x)=>(k*n,n,x))
 |[]=>by simp[Fits]
 |(i,x)::ps=>by simp only[Fits,Maa];exact⟨_,_,_,rfl,rfl,dD n ps⟩
theorem ZS(hr:Rel G w a s) {t:TypeId}{ps:Array (Nat×Operand)}{fs:Array Field}{z:Value}{places:List (Nat×Nat)}{qs:List (Nat×Nat×Operand)}{o:Oper}(ho:o.op=.build t ps)
 (ht:P.underlying t=some (.struct fs)) (hz:zeroOf P t=some z) (hp:(fs.toList.mapM λf=>(P.info? f.type).map λi=>(f.offset,i.size))=some places) (hq:partsOf places ps.toList=some qs)
 (he:ia s (.build (z.cells.toList.map .v) qs)=some (d,m')):Good G w s.m ((execOp a.eval o).run P w) d m':=by
 simp only[ia,haa,Baa]at he;obtain⟨l',hb,rfl,rfl⟩:=he;obtain⟨hz1,hz2,-⟩:=ck hz w;obtain⟨cells',h1,h2,h3⟩:=XJ hr (ps:=ps.toList) (place:=(places[·]?)) (cells:=z.cells) (fD places hq) hb (fv _) (λc hc=>by simp only[Oac]at hz2;obtain⟨i,hi,rfl⟩:=Daa hc;simp_all);refine za (u:=.agg cells') hr.inv ?_ ?_
 .simp_all[execOp,Instr.build,run_places,run_underlying,Array.mapM_eq_mapM_toList]
 .simp only[VRel];grind
theorem rP(hr:Rel G w a s) {t e:TypeId}{n:Nat}{ps:Array (Nat×Operand)}{i:TypeInfo}{z:Value}{o:Oper}(ho:o.op=.build t ps)
 (ht:P.underlying t=some (.array n e)) (hz:zeroOf P t=some z) (hi:P.info? e=some i)
 (he:ia s (.build (z.cells.toList.map .v) (ps.toList.map λ(k,x)=>(k*i.size,i.size,x)))=some (d,m')):Good G w s.m ((execOp a.eval o).run P w) d m':=by
 simp only[ia,haa,Baa]at he;obtain⟨l',hb,rfl,rfl⟩:=he;obtain⟨hz1,hz2,-⟩:=ck hz w;obtain⟨cells',h1,h2,h3⟩:=XJ hr (ps:=ps.toList) (place:=λk=>some (k*i.size,i.size)) (cells:=z.cells) (dD i.size ps.toList) hb (fv _) (λc hc=>by simp only[Oac]at hz2;obtain⟨i,hi,rfl⟩:=Daa hc;simp_all);refine za (u:=.agg cells') hr.inv ?_ ?_
 .simp_all[execOp,Instr.build,run_underlying,Pc]
 .simp only[VRel];grind
end
open Go.RowKit (Below)
section
variable {P:Program} {G:Gh} {w:World} {a:Act} {s:St} {d:D} {m':List Ent}
theorem MD{l:List D}{cs:List Value}(h:VsRel G w l cs) (h1:∀c∈cs,one c=true) {n off:Nat}{r:D}(hp:part true n off l=some r) :
 off+n<=cs.length/\VRel G w r (.agg ((cs.drop off).take n).toArray):=by
 simp only[part]at hp;split at hp
 .rename_i hlt;injection hp with hp;subst hp;refine⟨by rw[h.length];omega,?_⟩;simp only[VRel];exact⟨(cs.drop off).take n,rfl,(h.drop off).take n,λc hc=>h1 c (List.mem_of_mem_drop (List.mem_of_mem_take hc))⟩
 simp_all
theorem ND{l:List D}{cs:List Value}(h:VsRel G w l cs) {n off:Nat}{r:D}(hp:part false n off l=some r):∃u,cs[off]?=some u/\VRel G w r u:=
 h.getElem hp
theorem WG{l:List D}{cs:List Value}(h:VsRel G w l cs) (h1:∀c∈cs,one c=true) {A:Bool}{n off:Nat}{r:D}(hp:part A n off l=some r) {b o:Nat}(hh:iv w b o (.agg cs.toArray)) :
 ∃u,VRel G w r u/\iv w b (o+off) u:=by
 have hget:∀(k:Nat) c,cs[k]?=some c->one c=true/\w.cell? ⟨b,o+k,none⟩=some c:=λk c hc=>hh k c (by grind[Value.cells])
 cases A with
 |true=>
  obtain⟨hlt,hv⟩:=MD h h1 hp;refine⟨_,hv,λj c hc=>?_⟩
  grind[Value.cells]
 |false=>
  obtain⟨u,hu,hv⟩:=ND h hp;obtain⟨g1,g2⟩:=hget off u hu;refine⟨u,hv,λj c hc=>?_⟩;have hcells:u.cells = #[u]:=by cases u<;>first|rfl|grind[one]
  grind
theorem lh(b o n:Nat):(⟨b,o,none⟩:Addr).add n=⟨b,o+n,none⟩:=by
 grind[Addr.add]
theorem jE{t:TypeId}{ds:TypeDesc}{i:TypeInfo}(hd:P.underlying t=some ds) (hi:P.info? t=some i) {b o:Nat}{u:Value}(hh:iv w b o u)
 (hA:(Zo ds=true/\∃cs,u=.agg cs/\cs.size=i.size)\/(Zo ds=false/\u.cells = #[u])) :
 (Instr.loadAt t (.pointer (some ⟨b,o,none⟩))).run P w=.ok u w:=by
 unfold Instr.loadAt loadVar;rcases hA with⟨h1,cs,rfl,h2⟩|⟨h1,h2⟩
 .have hl:=run_loadCells_list (P:=P) w ⟨b,o,none⟩ cs.toList (λj v hv=>by rw[lh];exact(hh j v (by grind[Value.cells])).2)
  simp_all[Instr.sureAddr,As,Pc]
 .have hc:=(hh 0 u (by simp_all)).2
  simp_all[Instr.sureAddr,As]
theorem AD(hr:Rel G w a s) {t:TypeId}{x:Operand}{r:Bool×Nat}(hs:shapeOf P t=some r) (he:ia s (.load r.1 r.2 x)=some (d,m')) :
 ∃p u,a.eval x=.pointer (some p)/\(loadVar t p).run P w=.ok u w/\VRel G w d u/\m'=s.m:=by
 obtain⟨ds,i,hd,hi,rfl⟩:=qq hs;have hx:=hr.ev x;simp only[ia]at he;have fin:∀{b off:Nat} {u:Value},a.eval x=.pointer (some ⟨b,off,none⟩)->iv w b off u->((Zo ds=true/\∃cs,u=.agg cs/\cs.size=i.size)\/(Zo ds=false/\u.cells = #[u]))->
  VRel G w d u->m'=s.m->∃p u,a.eval x=.pointer (some p)/\(loadVar t p).run P w=.ok u w/\VRel G w d u/\m'=s.m:=by
  rintro b off u hp hh hA hv rfl;refine⟨_,u,hp,?_,hv,rfl⟩;have:=jE hd hi hh hA
  grind[Instr.loadAt,Instr.sureAddr]
 generalize s.ev x=dx at *;split at he
 .rename_i e;simp only[VRel]at hx;obtain⟨b,off,u,hp,hF,hv,hh⟩:=hx
  cases hAA:Zo ds with
  |true=>
   rw[hAA]at he;cases e<;>simp only[reduceCtorEq]at he;rename_i l;split at he
   .rename_i hl;injection he with he;injection he with h1 h2;subst h1;have hv':=hv;simp only[VRel]at hv;obtain⟨cs,rfl,hv,ho1⟩:=hv;exact fin hp hh (.inl ⟨hAA,_,rfl,by simpa [hv.length] using hl⟩) hv' h2.symm
   simp_all
  |false=>
   rw[hAA]at he;by_cases hagg:∃l,e=.agg l
   .grind
   .have hc1:e.cells=[e]:=by cases e<;>first|rfl|simp_all
    have he':e.ok=true/\e=d/\s.m=m':=by
     grind
    obtain⟨hok,rfl,h2⟩:=he';obtain⟨hvc,hones⟩:=hv.cells hok;rw[hc1]at hvc;simp only[VsRel]at hvc;obtain⟨c,rr,hcl,hvc,rfl⟩:=hvc;have g1:one c=true:=hones c (by simp_all);refine fin hp (u:=c) (λj c' hc'=>?_) (.inr ⟨hAA,by cases c<;>first|rfl|grind[one]⟩) hvc h2.symm;have hcells:c.cells = #[c]:=by cases c<;>first|rfl|grind[one]
    rw[hcells]at hc';have hcl':u.cells[0]?=some c:=by grind
    cases j with
    |zero=>simp at hc';subst hc';exact hh 0 c hcl'
    |succ j=>simp_all
 .rename_i id Ja idx sub;split at he
  .rename_i S ver' l hm;split at he
   .rename_i hver;subst hver;simp only[xab]at he;obtain⟨e,hl,he⟩:=he;split at he
    .rename_i hok;simp only[haa,Baa]at he;obtain⟨rr,hp,rfl,rfl⟩:=he;simp only[VRel]at hx;obtain⟨p,hp',hid,_,hx⟩:=hx;obtain⟨a1,a2,a3,a4,a5⟩:=hr.inv.ent _ _ hm;obtain⟨b,hb,rfl⟩:=hx a1;rcases a5 with a5|⟨b',cs,T,hb',hF,hblk,hsz,hrow⟩
     .simp_all
     .rw[hb]at hb';injection hb' with hb';subst hb';obtain⟨u,hv,husz,hh⟩:=td.1 hrow idx e hl;obtain⟨hcs,hones⟩:=hv.cells hok;rw[jac]at hh;have hh':iv w b (idx*S+(G.C id).2) (.agg u.cells.toList.toArray):=by
       simpa [iv,Value.cells] using hh
      have hres:=WG hcs hones hp hh';rw[a2,Nat.add_right_comm]at hp'
      cases hAA:Zo ds with
      |true=>
       rw[hAA]at hp;obtain⟨hlt,hvv⟩:=MD hcs hones hp;refine fin hp' (λj c hc=>?_) (.inl ⟨hAA,_,rfl,?_⟩) hvv rfl
       .simp only[Value.cells,Cab,List.getElem?_take,rad]at hc;split at hc
        .have:=hh (sub+j) c (by rw[←fac];exact hc)
         grind
        simp_all
       grind
      |false=>
       rw[hAA]at hp;obtain⟨u',hu',hvv⟩:=ND hcs hp;have hu'':u.cells[sub]?=some u':=by simp_all
       have g1:=(hh sub u' hu'').1;have hcells:u'.cells = #[u']:=by cases u'<;>first|rfl|grind[one]
       refine fin hp' (λj c hc=>?_) (.inr ⟨hAA,hcells⟩) hvv rfl;rw[hcells]at hc
       cases j with
       |zero=>simp at hc;subst hc;exact hh sub u' hu''
       |succ j=>simp at hc
    simp_all
   simp_all
  simp_all
 simp_all
theorem mY(hr:Rel G w a s) {t:TypeId}{x:Operand}{r:Bool×Nat}{o:Oper}(ho:o.op=.load t x) (hs:shapeOf P t=some r) (he:ia s (.load r.1 r.2 x)=some (d,m')) :
 Good G w s.m ((execOp a.eval o).run P w) d m':=by
 obtain⟨p,u,hp,hrun,hv,rfl⟩:=AD (P:=P) hr hs he;refine za (u:=u) hr.inv ?_ hv
 simp_all[execOp,Instr.loadAt,Instr.sureAddr]
end
open Go.RowKit (Below)
section
variable {P:Program} {G:Gh} {w:World} {a:Act} {s:St} {d:D} {m':List Ent}
theorem WI{t:TypeId}{ds:TypeDesc}{i:TypeInfo}(hd:P.underlying t=some ds) (hi:P.info? t=some i) {l:List D}{cs:List Value}(hv:VsRel G w l cs) (h1:∀c∈cs,one c=true)
 {off:Nat} {r:D} (hp:part (Zo ds) i.size off l=some r):∃u,(Go.part t cs.toArray off).run P w=.ok u w/\VRel G w r u:=by
 unfold Go.part;simp only[Sem.run_bind,As hd,Result.andThen_ok]
 cases hA:Zo ds with
 |true=>
  rw[hA]at hp;obtain⟨hlt,hr⟩:=MD hv h1 hp
  simp_all[Pc]
 |false=>
  rw[hA]at hp;obtain⟨u,hu,hr⟩:=ND hv hp
  simp_all
theorem bT(hr:Rel G w a s) {t:TypeId}{x:Operand}{f:Nat}{fs:Array Field}{fl:Field}{r:Bool×Nat}{o:Oper}(ho:o.op=.field t x f)
 (ht:P.underlying t=some (.struct fs)) (hf:fs[f]?=some fl) (hs:shapeOf P fl.type=some r) (he:ia s (.field r.1 r.2 fl.offset x)=some (d,m')) :
 Good G w s.m ((execOp a.eval o).run P w) d m':=by
 obtain⟨ds,i,hd,hi,rfl⟩:=qq hs;have hx:=hr.ev x;simp only[ia]at he;unfold execOp;simp only[ho];generalize s.ev x=dx at *;split at he
 .rename_i l;simp only[VRel]at hx;obtain⟨cs,hx,hv,h1⟩:=hx;simp only[haa,Baa]at he;obtain⟨e,hp,rfl,rfl⟩:=he;obtain⟨u,hu,hv'⟩:=WI (P:=P) hd hi hv h1 hp;refine za (u:=u) hr.inv ?_ hv'
  simp_all[Instr.field,asAgg,run_underlying]
 simp_all
theorem fT(hr:Rel G w a s) {t e:TypeId}{n:Nat}{x y:Operand}{r:Bool×Nat}{o:Oper}(ho:o.op=.index t x y)
 (ht:P.underlying t=some (.array n e)) (hs:shapeOf P e=some r) (he:ia s (.index r.1 r.2 n x y)=some (d,m')) :
 Good G w s.m ((execOp a.eval o).run P w) d m':=by
 obtain⟨ds,i,hd,hi,rfl⟩:=qq hs;have hx:=hr.ev x;have hy:=hr.ev y;simp only[ia]at he;unfold execOp;simp only[ho];generalize s.ev x=dx at *;generalize s.ev y=dy at *;split at he
 .rename_i jk k;simp only[VRel]at hy;split at he
  .rename_i hk;split at he
   .rename_i l;simp only[VRel]at hx;obtain⟨cs,hx,hv,h1⟩:=hx;simp only[haa,Baa]at he;obtain⟨e,hp,rfl,rfl⟩:=he;obtain⟨u,hu,hv'⟩:=WI (P:=P) hd hi hv h1 hp;refine za (u:=u) hr.inv ?_ hv';have hk':0<=k/\k<n:=⟨hk.1,by omega⟩
    simp_all[Instr.index,asIntOf,run_underlying,Pc]
   simp_all
  simp_all
 simp_all
theorem aT(hr:Rel G w a s) {t:TypeId}{x:Operand}{f:Nat}{fs:Array Field}{fl:Field}{r:Bool×Nat}{o:Oper}(ho:o.op=.fieldAddr t x f)
 (ht:P.underlying t=some (.struct fs)) (hf:fs[f]?=some fl) (hs:shapeOf P fl.type=some r) (h0:r.2≠0) (he:ia s (.faddr r.1 r.2 fl.offset x)=some (d,m')) :
 Good G w s.m ((execOp a.eval o).run P w) d m':=by
 obtain⟨ds,i,hd,hi,rfl⟩:=qq hs;have hx:=hr.ev x;simp only[ia]at he;have run:∀p,a.eval x=.pointer (some p)->(execOp a.eval o).run P w=.ok (.value (.pointer (some (p.add fl.offset)))) w:=by
  simp_all[execOp,Instr.fieldAt,Instr.sureAddr,fieldPlace,run_underlying,Pc]
 generalize s.ev x=dx at *;split at he
 .rename_i l;simp only[VRel]at hx;obtain⟨b,off,u,hp,hF,⟨cs,rfl,hv,h1⟩,hh⟩:=hx;simp only[haa,Baa]at he;obtain⟨e,hpt,rfl,rfl⟩:=he;obtain⟨u',hv',hh'⟩:=WG hv h1 hpt hh;refine za hr.inv (run _ hp) ?_;rw[lh];simp only[VRel]
  grind
 .rename_i id Ja idx sub;injection he with he;injection he with h1 h2;subst h1;subst h2;simp only[VRel]at hx;obtain⟨p,hp,hid,hver,hx⟩:=hx;refine za hr.inv (run _ hp) ?_;simp only[VRel];refine⟨_,rfl,hid,hver,λe=>?_⟩;obtain⟨b,hb,rfl⟩:=hx e
  grind[lh]
 simp_all
theorem XS(hr:Rel G w a s) {t e:TypeId}{n:Nat}{x y:Operand}{r:Bool×Nat}{o:Oper}(ho:o.op=.indexAddr t x y)
 (ht:P.underlying t=some (.array n e)) (hs:shapeOf P e=some r) (he:ia s (.aaddr r.1 r.2 n x y)=some (d,m')) :
 Good G w s.m ((execOp a.eval o).run P w) d m':=by
 obtain⟨ds,i,hd,hi,rfl⟩:=qq hs;have hx:=hr.ev x;have hy:=hr.ev y;simp only[ia]at he;generalize s.ev x=dx at *;generalize s.ev y=dy at *;split at he
 .rename_i jk k;simp only[VRel]at hy;split at he
  .rename_i hk;have hk':0<=k/\k<n:=⟨hk.1,by omega⟩;have run:∀p,a.eval x=.pointer (some p)->(execOp a.eval o).run P w=.ok (.value (.pointer (some (p.add (k.toNat*i.size))))) w:=by
    intro p hp;unfold execOp;simp only[ho,hp,hy];simp[Instr.indexAt,asIntOf,run_underlying ht,Instr.sureAddr,hk',Pc hi]
   split at he
   .rename_i l;simp only[VRel]at hx;obtain⟨b,off,u,hp,hF,⟨cs,rfl,hv,h1⟩,hh⟩:=hx;simp only[haa,Baa]at he;obtain⟨e,hpt,rfl,rfl⟩:=he;obtain⟨u',hv',hh'⟩:=WG hv h1 hpt hh;refine za hr.inv (run _ hp) ?_;rw[lh];simp only[VRel]
    grind
   .rename_i id Ja idx sub;injection he with he;injection he with h1 h2;subst h1;subst h2;simp only[VRel]at hx;obtain⟨p,hp,hid,hver,hx⟩:=hx;refine za hr.inv (run _ hp) ?_;simp only[VRel];refine⟨_,rfl,hid,hver,λe=>?_⟩;obtain⟨b,hb,rfl⟩:=hx e
    grind[lh]
   simp_all
  simp_all
 simp_all
theorem dT(hr:Rel G w a s) {t e:TypeId}{i:TypeInfo}{x y:Operand}{o:Oper}(ho:o.op=.indexAddr t x y)
 (ht:P.underlying t=some (.slice e)) (hi:P.info? e=some i) (he:ia s (.iaddr i.size x y)=some (d,m')) :
 Good G w s.m ((execOp a.eval o).run P w) d m':=by
 have hx:=hr.ev x;have hy:=hr.ev y;simp only[ia]at he;generalize s.ev x=dx at *;generalize s.ev y=dy at *;split at he
 .rename_i jk k;simp only[VRel]at hy;split at he
  .rename_i hk;have run:∀p n c,a.eval x=.slice (some p) n c->k<n->(execOp a.eval o).run P w=.ok (.value (.pointer (some (p.add (k.toNat*i.size))))) w:=by
    intro p n c hp hlt;have hk':0<=k/\k<n:=⟨hk,hlt⟩;unfold execOp;simp only[ho,hp,hy];simp[Instr.indexAt,asIntOf,run_underlying ht,hk',Pc hi]
   split at he
   .rename_i S' l;split at he
    .rename_i hS;subst hS;simp only[haa,Baa]at he;obtain⟨e',hl,rfl,rfl⟩:=he;simp only[VRel]at hx;obtain⟨p,n,c,hp,hn,hc,hx⟩:=hx;have hlt:k.toNat<l.length:=by
      grind
     rcases hx with rfl|⟨b,off,rfl,hF,hrow⟩
     .simp_all
     .obtain⟨u,hv,hsz,hh⟩:=td.1 hrow _ _ hl;refine za hr.inv (run _ _ _ hp (by omega)) ?_;rw[lh];simp only[VRel]
      grind
    simp_all
   .rename_i id Ja;split at he
    .rename_i S' ver' l hm;split at he
     .rename_i hc;obtain⟨rfl,rfl,hlt⟩:=hc;injection he with he;injection he with h1 h2;subst h1;subst h2;simp only[VRel]at hx;obtain⟨p,n,c,hp,hid,hver,hx⟩:=hx;obtain⟨a1,a2,a3,a4,a5⟩:=hr.inv.ent _ _ hm;obtain⟨rfl,rfl,rfl⟩:=hx a1;rcases a5 with a5|⟨b',cs,T,hb',hF,hblk,hsz,hrow⟩
      .grind
      .rw[hb']at hp;refine za hr.inv (run _ _ _ hp (by omega)) ?_;rw[lh];simp only[VRel]
       grind
     simp_all
    simp_all
   .rename_i id Ja lo n;split at he
    .rename_i S' ver' l hm;split at he
     .rename_i hc;obtain⟨rfl,rfl,hlt,hlo⟩:=hc;injection he with he;injection he with h1 h2;subst h1;subst h2;simp only[VRel]at hx;obtain⟨p,c,hp,hnc,hid,hver,hx⟩:=hx;obtain⟨a1,a2,a3,a4,a5⟩:=hr.inv.ent _ _ hm;rcases hx a1 with hx|⟨b,hb,rfl⟩
      .omega
      .refine za hr.inv (run _ _ _ hp ((Int.toNat_lt hk).1 hlt)) ?_;rw[lh];simp only[VRel]
       grind
     simp_all
    simp_all
   simp_all
  simp_all
 simp_all
theorem Yx(hi:Inv G w s.m) {x:D}{u:Value}(hx:VRel G w x u) {n:Nat}(h:Bc s.m x=some n):∃p c,u=.slice p n c/\n<=c:=by
 unfold Bc at h;split at h
 .injection h with h;subst h;simp only[VRel]at hx;simp_all
 .injection h with h;subst h;simp only[VRel]at hx
  grind
 .split at h
  .rename_i id Ja S ver' l hm;split at h
   .rename_i hv;subst hv;injection h with h;subst h;simp only[VRel]at hx;obtain⟨p,n,c,hp,hid,hver,hx⟩:=hx;obtain⟨a1,a2,a3,a4,a5⟩:=hi.ent _ _ hm
    grind
   .cases h
  .cases h
 .split at h
  .injection h with h;subst h;simp only[VRel]at hx
   grind
  .cases h
 .cases h
theorem H3(hr:Rel G w a s) {t e:TypeId}{x:Operand}{o:Oper}(ho:o.op=.call { callee:=.builtin .len,args:=#[x],argTypes:=#[t] })
 (ht:P.underlying t=some (.slice e)) (he:ia s (.len x)=some (d,m')):Good G w s.m ((execOp a.eval o).run P w) d m':=by
 have hx:=hr.ev x;simp only[ia,haa,Baa]at he;obtain⟨n,hn,rfl,rfl⟩:=he;refine za (u:=.int .i64 n) hr.inv ?_ (by simp[VRel]);unfold execOp;simp only[ho];obtain⟨p,c,hp,-⟩:=Yx hr.inv hx hn
 simp_all[resolve,invoke,builtin,Builtin.len_,goInt,run_underlying]
theorem BY(hr:Rel G w a s) {t:TypeId}{x:Operand}{o:Oper}(ho:o.op=.call { callee:=.builtin .len,args:=#[x],argTypes:=#[t] })
 (ht:P.underlying t=some .string) (he:ia s (.slen x)=some (d,m')):Good G w s.m ((execOp a.eval o).run P w) d m':=by
 have hx:=hr.ev x;simp only[ia]at he;unfold execOp;simp only[ho];generalize s.ev x=dx at *;split at he
 .rename_i b;injection he with he;injection he with h1 h2;subst h1;subst h2;simp only[VRel]at hx;refine za (u:=.int .i64 b.size) hr.inv ?_ (by simp[VRel])
  simp_all[resolve,invoke,builtin,Builtin.len_,goInt,run_underlying]
 simp_all
theorem YF(x:Value) (y:Nat) (code:BoundsCode) {j:IntKind}{n:Int}(h:x=.int j n) (h0:0<=n) (h1:n<=y) (w:World):(Instr.sliceBound x y code).run P w=.ok n.toNat w:=by
 simp_all[Instr.sliceBound,asIntOf]
theorem iE(hr:Rel G w a s) {n cap:Nat}(hcap:n<=cap) {lo hi mx:Option Operand}(hmx:mx.isSome=true->hi.isSome=true) {l h k:Nat}(hl:bound s 0 lo=some l) (hh:bound s n hi=some h) (hk:bound s n mx=some k)
 (h1:h<=k) (h2:k<=n) (h3:l<=h):∃m,(Instr.sliceBounds true n cap (lo.map a.eval) (hi.map a.eval) (mx.map a.eval)).run P w=.ok (l,h,m) w/\h<=m/\m<=cap/\(mx=none->m=cap):=by
 have one:∀{x:Option Operand} {dflt r:Nat},bound s dflt x=some r->(x=none/\r=dflt)\/∃y j,x=some y/\a.eval y=.int j (r:Int):=by
  intro x dflt r hb
  cases x with
  |none=>simp[bound]at hb;simp_all
  |some y=>
   have hy:=hr.ev y;simp only[bound]at hb;generalize s.ev y=dy at *;split at hb
   .rename_i j q;split at hb
    .rename_i hq;injection hb with hb;simp only[VRel]at hy
     grind
    simp_all
   simp_all
 have rb:∀(x:Value) (y:Nat) (code:BoundsCode) (j:IntKind) (r:Nat),x=.int j (r:Int)->r<=y->(Instr.sliceBound x y code).run P w=.ok r w:=λx y code j r hx hr'=>by
  have:=YF (P:=P) x y code hx (Kac r) (by omega) w
  simp_all
 unfold Instr.sliceBounds;rcases one hk with⟨rfl,rfl⟩|⟨yk,jk,rfl,ek⟩
 .refine⟨cap,?_,by omega,saa _,λ_=>rfl⟩;rcases one hl with⟨rfl,rfl⟩|⟨yl,jl,rfl,el⟩<;>rcases one hh with⟨rfl,rfl⟩|⟨yh,jh,rfl,eh⟩
  .simp
  .simp[rb _ cap _ _ _ eh (by omega)]
  .simp_all
  .simp[rb _ cap _ _ _ eh (by omega),rb _ h _ _ _ el h3]
 .refine⟨k,?_,h1,by omega,λh=>by cases h⟩;rcases one hl with⟨rfl,rfl⟩|⟨yl,jl,rfl,el⟩<;>rcases one hh with⟨rfl,rfl⟩|⟨yh,jh,rfl,eh⟩
  .simp_all
  .simp[rb _ cap _ _ _ ek (by omega),rb _ k _ _ _ eh h1]
  .simp_all
  .simp[rb _ cap _ _ _ ek (by omega),rb _ k _ _ _ eh h1,rb _ h _ _ _ el h3]
theorem Zr{G:Gh}{w:World}{b S:Nat}{l:List D}{off:Nat}(h:Qa G w b S l off) (lo:Nat):Qa G w b S (l.drop lo) (off+lo*S):=
 td.2 λi d hd=>by
  grind[td]
theorem js{G:Gh}{w:World}{b S:Nat}{l:List D}{off:Nat}(h:Qa G w b S l off) (n:Nat):Qa G w b S (l.take n) off:=
 td.2 λi d hd=>td.1 h i d (by grind)
theorem XK(hr:Rel G w a s) {t e:TypeId}{i:TypeInfo}{x:Operand}{lo hi mx:Option Operand}{o:Oper}(ho:o.op=.slice t x lo hi mx)
 (ht:P.underlying t=some (.slice e)) (hi':P.info? e=some i) (hmx:mx.isSome=true->hi.isSome=true) (he:ia s (.slice i.size x lo hi mx)=some (d,m')) :
 Good G w s.m ((execOp a.eval o).run P w) d m':=by
 have hx:=hr.ev x;simp only[ia]at he;generalize s.ev x=dx at *;split at he
 .rename_i n hn;split at he
  .rename_i l h k hl hh hk;split at he
   .rename_i hc;obtain⟨h1,h2⟩:=hc;simp only[haa,Baa]at he;obtain⟨r,hs,rfl,rfl⟩:=he;obtain⟨p,cap,hp,hcap⟩:=Yx hr.inv hx hn;have hlh:l<=h:=by
     unfold Iq at hs
     grind
    obtain⟨m,hb,hm,hmc,-⟩:=iE (P:=P) hr hcap hmx hl hh hk h1 h2 hlh;have run:(execOp a.eval o).run P w=.ok (.value (.slice (if m=l then p else p.map (·.add (l*i.size))) (h-l) (m-l))) w:=by
     simp_all[execOp,Instr.sliceAt,Instr.slice,run_underlying,Pc]
    refine za hr.inv run ?_;unfold Iq at hs;split at hs
    .split at hs
     .rename_i hc;obtain⟨rfl,rfl⟩:=hc;injection hs with hs;subst hs;simp only[VRel]at hx⊢
      grind
     simp_all
    .rename_i S' ll;split at hs
     .rename_i hc;obtain⟨rfl,-,hle⟩:=hc;injection hs with hs;subst hs;simp only[VRel]at hx⊢;obtain⟨p',n',c',hp',hn',hc',hx⟩:=hx;rw[hp]at hp';injection hp' with q1 q2 q3;subst q1;subst q2;subst q3;refine⟨_,_,_,rfl,by grind,by omega,?_⟩
      .rcases hx with rfl|⟨b,off,rfl,hF,hrow⟩
       .simp
       .by_cases hml:m=l
        .simp_all
        grind[js,Zr,lh]
     simp_all
    .rename_i id Ja;split at hs
     .rename_i S' ver' ll hmm;split at hs
      .rename_i hc;obtain⟨rfl,rfl,-,hle⟩:=hc;injection hs with hs;subst hs;simp only[VRel]at hx⊢;obtain⟨p',n',c',hp',hid,hver,hx⟩:=hx;rw[hp]at hp';injection hp' with q1 q2 q3;subst q1;subst q2;subst q3;refine⟨_,_,rfl,by omega,hid,hver,λe=>?_⟩;obtain⟨rfl,q2,q3⟩:=hx e;obtain⟨a1,a2,a3,a4,a5⟩:=hr.inv.ent _ _ hmm;by_cases hml:m=l
       .omega
       .by_cases hz:h-l=0
        .omega
        .rcases a5 with a5|⟨b',cs,T,hb',hF,hblk,hsz,hrow⟩
         all_goals simp_all[lh,jac]
      simp_all
     simp_all
    .rename_i id Ja l0 n0;split at hs
     .rename_i S' ver' ll hmm;split at hs
      .rename_i hc;obtain⟨rfl,rfl,-,hle,hl0⟩:=hc;injection hs with hs;subst hs;simp only[VRel]at hx⊢;obtain⟨p',c',hp',hnc,hid,hver,hx⟩:=hx;rw[hp]at hp';injection hp' with q1 q2 q3;subst q1;subst q2;subst q3;refine⟨_,_,rfl,by omega,hid,hver,λe=>?_⟩;obtain⟨a1,a2,a3,a4,a5⟩:=hr.inv.ent _ _ hmm;by_cases hml:m=l
       .omega
       .by_cases hz:h-l=0
        .omega
        .rcases hx e with hx|⟨b',hb',rfl⟩
         all_goals grind[lh]
      simp_all
     simp_all
    simp_all
   simp_all
  simp_all
 simp_all
end
open Go.RowKit (Below)
section
variable {P:Program} {G:Gh} {w:World} {a:Act} {s:St} {d:D} {m':List Ent}
theorem SF{u:Value}(h:one u=true):u.cells = #[u]:=by cases u<;>first|rfl|grind[one]
theorem ju(z:Value) (h:z.cells.all one=true):VRel G w (leaf z) z:=by
 unfold leaf;split
 .rename_i cs;simp only[VRel];refine⟨cs.toList,rfl,fv _,λc hc=>?_⟩;simp only[Value.cells,Oac]at h;obtain⟨i,hi,rfl⟩:=Daa hc
  simp_all
 .simp[VRel]
theorem mG{cs:Array Value}(h:cs.all one=true) (j:Nat) (c:Value) (hc:cs[j]?=some c):one c=true:=by
 grind
theorem Nw{S:Nat}{d:D}{u:Value}(hv:VRel G w d u) (hs:u.cells.size=S) (h1:∀(j:Nat) c,u.cells[j]?=some c->one c=true):Ze G w S [d] u.cells:=by
 intro i e he
 grind
theorem yL{w':World}{S:Nat}{C:Nat}(hn:G.n=s.m.length):VRel (G.add (some w.heap.size) S 1 C) w' (.ref s.m.length 0 0 0) (.pointer (some ⟨w.heap.size,0,none⟩)):=by
 simp only[VRel];exact⟨_,rfl,by grind[Gh.add],wab _,λ_=>⟨w.heap.size,by grind[Gh.add],by grind[Gh.add]⟩⟩
theorem tL{w':World}{S N C:Nat}(hn:G.n=s.m.length):VRel (G.add (some w.heap.size) S N C) w' (.own s.m.length 0) (.slice (some ⟨w.heap.size,0,none⟩) N C):=by
 simp only[VRel];exact⟨_,_,_,rfl,by grind[Gh.add],wab _,λ_=>⟨by simp[Gh.add,hn],by grind[Gh.add],by grind[Gh.add]⟩⟩
theorem YS(hr:Rel G w a s) {t:TypeId}{z:Value}{o:Oper}(ho:o.op=.alloc t) (hz:zeroOf P t=some z) (he:ia s (.alloc z.cells.size (leaf z))=some (d,m')) :
 Good G w s.m ((execOp a.eval o).run P w) d m':=by
 simp only[ia]at he;injection he with he;injection he with h1 h2;subst h1;subst h2;obtain⟨hz1,hz2,hz3,-⟩:=ck hz w;obtain⟨g1,g2⟩:=Ro hr.inv z.cells.size [leaf z] 1 z.cells t (Nw (ju z hz2) rfl (mG hz2)) (by simp) (by simp);refine⟨_,_,_,?_,.inl ⟨_,rfl,yL (C:=1) hr.inv.n⟩,g1,g2⟩
 simp_all[execOp,Instr.alloc,newVar,newRow]
theorem A3(hr:Rel G w a s) {t:TypeId}{x:Operand}{S:Nat}{o:Oper}(ho:o.op=.box t x) (he:ia s (.box S x)=some (d,m')) :
 Good G w s.m ((execOp a.eval o).run P w) d m':=by
 simp only[ia]at he;split at he
 .rename_i hc;injection he with he;injection he with h1 h2;subst h1;subst h2;have hx:=hr.ev x;obtain⟨hv,h1⟩:=hx.cells hc.1;have hsz:(a.eval x).cells.size=S:=by rw[←Kab,hv.length];omega
  obtain⟨g1,g2⟩:=Ro hr.inv S [s.ev x] 1 (a.eval x).cells t (Nw hx hsz (λj c hj=>h1 c (by grind))) (by simp) (by omega);refine⟨_,_,_,?_,.inl ⟨_,rfl,yL (C:=1) hr.inv.n⟩,g1,g2⟩
  simp_all[execOp,Instr.box,newVar,newRow]
 simp_all
theorem Es(cells vs:List Value) (off k:Nat) (h:off+vs.length<=cells.length) :
 (cells.take off++vs++cells.drop (off+vs.length))[k]?=if off<=k/\k<off+vs.length then vs[k-off]? else cells[k]?:=by
 rw[kab,Rab]
 grind
theorem Ze.set{S o:Nat}{l:List D}{cs cs':Array Value}(h:Ze G w S l cs o) {i:Nat}{d:D}{u:Value}(hi:i<l.length) (hv:VRel G w d u) (hs:u.cells.size=S)
 (h1:∀(j:Nat) c,u.cells[j]?=some c->one c=true) (hin:∀(j:Nat) c,u.cells[j]?=some c->cs'[i*S+j+o]?=some c)
 (hout:∀k,(k<i*S+o\/i*S+S+o<=k)->cs'[k]?=cs[k]?):Ze G w S (l.set i d) cs' o:=by
 intro j e he;by_cases hij:i=j
 .grind
 .rw[List.getElem?_set_ne hij]at he;obtain⟨v,g1,g2,g3⟩:=h j e he;refine⟨v,g1,g2,λk c hc=>⟨(g3 k c hc).1,?_⟩⟩;have hk:k<S:=by grind
  rw[hout _ ?_]
  .simp_all
  .rcases Nat.lt_or_gt_of_ne hij with h'|h'
   .right;have:=Gaa S (show i+1<=j from h')
    grind
   .left;have:=Gaa S (show j+1<=i from h')
    grind
theorem wA(off:Nat) (vs:Array Value) (cells:Array Value) (h:off+vs.size<=cells.size) :
 (vs.zipIdx.foldl (λcs (x:Value×Nat)=>cs.setIfInBounds (off+x.2) x.1) cells).toList=cells.toList.take off++vs.toList++cells.toList.drop (off+vs.toList.length):=by
 have hf:=Su off vs.toList 0 cells (by omega)
 grind[kad]
theorem OG(hr:Rel G w a s) {S:Nat}:∀{ps:List (Nat×Operand)}{l l':List D}{cells:Array Value},
 Yb s S ps l=some l'->Ze G w S l cells->cells.size=l.length*S->
 ∃cells':Array Value,Instr.fill (λi=>some (i*S,S)) cells (ps.map λp=>(p.1,a.eval p.2))=some cells'/\Ze G w S l' cells'/\cells'.size=l'.length*S/\l'.length=l.length
 |[],l,l',cells,hb,hv,h1=>by
  simp only[Yb]at hb;injection hb with hb;subst hb;exact⟨cells,rfl,hv,h1,rfl⟩
 |(i,x)::ps,l,l',cells,hb,hv,h1=>by
  simp only[Yb]at hb;split at hb
  .rename_i hc;obtain⟨hok,hlen,hi⟩:=hc;obtain⟨hcells,hones⟩:=(hr.ev x).cells hok;have hl1:=hcells.length;have hsz:(a.eval x).cells.size=S:=by simp_all
   have hbound:i*S+S<=cells.size:=by
    rw[h1,←Nat.succ_mul];exact Gaa S hi
   have hlist:=wA (i*S) (a.eval x).cells cells (by omega);have hget:=λk=>Es cells.toList (a.eval x).cells.toList (i*S) k (by simp_all);have hsize:((a.eval x).cells.zipIdx.foldl (λcs (x:Value×Nat)=>cs.setIfInBounds (i*S+x.2) x.1) cells).size=cells.size:=by
    grind[Kab]
   have hnew:Ze G w S (l.set i (s.ev x)) ((a.eval x).cells.zipIdx.foldl (λcs (x:Value×Nat)=>cs.setIfInBounds (i*S+x.2) x.1) cells):=by
    refine hv.set hi (hr.ev x) hsz (λj c hj=>hones c (by grind)) (λj c hj=>?_) (λk hk=>?_)
    .have hjlt:j<S:=by grind
     rw[←fac,hlist,hget,if_pos (by omega)]
     simp_all
    .rw[←fac,hlist,hget,if_neg (by omega),fac]
   obtain⟨cells',hc1,hc2,hc3,hc4⟩:=OG hr hb hnew (by simp_all)
   simp_all[Instr.fill]
  simp_all
theorem nq{z:Value}(hz:z.cells.all one=true) (n:Nat):Ze G w z.cells.size (jaa n (leaf z)) ((Tac (n*z.cells.size)).map (z.cells[· % z.cells.size]!)):=by
 intro i e he;rw[List.getElem?_replicate]at he;split at he
 .rename_i hi;injection he with he;subst he;refine⟨z,ju z hz,rfl,λj c hc=>⟨mG hz j c hc,?_⟩⟩;obtain⟨hj,rfl⟩:=oac.1 hc;have hlt:i*z.cells.size+j<n*z.cells.size:=by
   have:=Gaa z.cells.size (show i+1<=n from hi)
   grind
  grind[Nat.mul_comm,Nat.add_mul_mod_self_left,Nat.mod_eq_of_lt]
 simp_all
theorem qP(hr:Rel G w a s) {t e:TypeId}{n:Nat}{ps:Array (Nat×Operand)}{z:Value}{o:Oper}(ho:o.op=.buildSlice t n ps)
 (ht:P.underlying t=some (.slice e)) (hz:zeroOf P e=some z) (hsmall:n*z.cells.size<=2 ^ 24) (he:ia s (.bslice z.cells.size n (leaf z) ps.toList)=some (d,m')) :
 Good G w s.m ((execOp a.eval o).run P w) d m':=by
 simp only[ia,haa,Baa]at he;obtain⟨l,hb,rfl,rfl⟩:=he;obtain⟨hz1,hz2,hz3,i,hi,hsz,hzz⟩:=ck hz w;obtain⟨cells,hf,hrow,hcs,hlen⟩:=OG hr hb (nq hz2 n) (by simp);simp only[List.length_replicate]at hlen;obtain⟨g1,g2⟩:=Ro hr.inv z.cells.size l n cells e hrow (by omega) (by simp_all);refine⟨_,_,_,?_,.inl ⟨_,rfl,tL (N:=l.length) (C:=n) hr.inv.n⟩,g1,g2⟩;unfold execOp;simp only[ho];have hnb:¬(2 ^ 24<n*i.size):=by simp_all
 by_cases h0:n*i.size=0
 .have hn0:n=0:=by
   grind[Nat.mul_eq_zero]
  subst hn0;rw[hsz.symm]at hf;rw[Nat.zero_mul,show Tac 0 = #[]from rfl,Array.map_empty]at hf;have hf':Instr.fill (λk=>some (k*i.size,i.size)) #[] (ps.toList.map λp=>(p.1,a.eval p.2))=some cells:=hf;have hr0:∀f:Nat->Value,Yac f (Tac 0) = #[]:=λf=>by simp
  simp[Instr.buildSlice,run_underlying ht,Pc hi,hr0,hf',newRow,hlen]
 .rw[hsz.symm]at hf;simp[Instr.buildSlice,run_underlying ht,Pc hi,hnb,h0,hz1,hf,newRow,hlen,hsz.symm]
theorem GM(hr:Rel G w a s) {t e:TypeId}{l c:Operand}{z:Value}{o:Oper}(ho:o.op=.makeSlice t l c)
 (ht:P.underlying t=some (.slice e)) (hz:zeroOf P e=some z) (he:ia s (.mkslice z.cells.size (P.bytesOf e) (leaf z) l c)=some (d,m')) :
 Good G w s.m ((execOp a.eval o).run P w) d m':=by
 have hl:=hr.ev l;have hc:=hr.ev c;simp only[ia]at he;unfold execOp;simp only[ho];generalize s.ev l=dl at *;generalize s.ev c=dc at *;split at he
 .rename_i n k;split at he
  .rename_i hk;obtain⟨k1,k2,k3,k4⟩:=hk;injection he with he;injection he with h1 h2;subst h1;subst h2;simp only[VRel]at hl hc;obtain⟨hz1,hz2,hz3,i,hi,hsz,hzz⟩:=ck hz w;have hby:P.bytesOf e=i.bytes:=by grind[Program.bytesOf]
   rw[hby]at k4;have hrun:=run_make (P:=P) w t e i z ht hi hzz .i64 .i64 n k k1 k2 (by
    grind) (by omega)
   have hrow:Ze G w z.cells.size (jaa n.toNat (leaf z)) (madeCells z.cells (k.toNat*i.size)):=by
    intro j e' hj;have hlt:j<n.toNat:=by
     grind
    have:=nq (G:=G) (w:=w) hz2 k.toNat j e' (by grind);rw[hsz];exact this
   obtain⟨g1,g2⟩:=Ro hr.inv z.cells.size (jaa n.toNat (leaf z)) k.toNat _ e hrow (by grind) (by simp_all[size_madeCells]);refine⟨_,_,_,?_,.inl ⟨_,rfl,tL (N:=(jaa n.toNat (leaf z)).length) (C:=k.toNat) hr.inv.n⟩,g1,g2⟩
   simp_all
  simp_all
 simp_all
theorem iK(v:Value):v.oneCell'=one v:=by cases v<;>rfl
theorem vu(i:Nat):G.oe i (G.B i) (G.V i) (G.N i) (G.C i)=G:=by
 cases G;simp only[Gh.oe,Gh.mk.injEq,true_and]
 grind
theorem mT(hr:Rel G w a s) {t:TypeId}{i:TypeInfo}{x y:Operand}{o:Oper}(ho:o.op=.store t x y) (hi:P.info? t=some i) (he:ia s (.store i.size x y)=some (d,m')) :
 Good G w s.m ((execOp a.eval o).run P w) d m':=by
 have hx:=hr.ev x;have hy:=hr.ev y;simp only[ia]at he;generalize s.ev x=dx at *;generalize s.ev y=dy at *;split at he
 .rename_i id Ja idx sub;split at he
  .rename_i S ver' l hm;split at he
   .rename_i hc;obtain⟨rfl,hok,hn⟩:=hc;simp only[xab]at he;obtain⟨e,hl,he⟩:=he;split at he
    .rename_i hc;obtain⟨heok,hn0,hsub⟩:=hc;injection he with he;injection he with h1 h2;subst h1;subst h2;simp only[VRel]at hx;obtain⟨p,hp,hid,hver,hx⟩:=hx;obtain⟨a1,a2,a3,a4,a5⟩:=hr.inv.ent _ _ hm;obtain⟨b,hb,rfl⟩:=hx a1;rcases a5 with a5|⟨b',cs,T,hb',hF,hblk,hsz,hrow⟩
     .simp_all
     .rw[hb]at hb';injection hb' with hb';subst hb';obtain⟨hyc,hy1⟩:=hy.cells hok;have hylen:(a.eval y).cells.toList.length=i.size:=by rw[hyc.length];omega
      have hin:=ts hblk hrow;obtain⟨u,hv,husz,huin⟩:=hin idx e hl;obtain⟨huc,hu1⟩:=hv.cells heok;have hulen:u.cells.toList.length=S:=by omega
      have hidx:idx<l.length:=by
       grind
      have helen:e.cells.length=S:=by rw[←huc.length];omega
      have hS:idx*S+S+(G.C id).2<=cs.size:=by
       have h1:=Gaa S (show idx+1<=(G.C id).1 by omega)
       grind
      rw[a2]at hp;have hst:=run_storeCells_at P b (idx*S+sub+(G.C id).2) T (a.eval y).cells.toList 0 cs w hblk (by omega) (λv hv=>by grind[iK]);simp only[kac]at hst;have hnewcs:∃cs':Array Value,cs'=(cs.toList.take (idx*S+sub+(G.C id).2)++(a.eval y).cells.toList++cs.toList.drop (idx*S+sub+(G.C id).2+(a.eval y).cells.toList.length)).toArray:=⟨_,rfl⟩;obtain⟨cs',hcs'⟩:=hnewcs;rw[←hcs']at hst;have hget:∀k,cs'[k]?=if idx*S+sub+(G.C id).2<=k/\k<idx*S+sub+(G.C id).2+i.size then(a.eval y).cells.toList[k-(idx*S+sub+(G.C id).2)]? else cs[k]?:=by
       intro k;rw[hcs',Cab,Es _ _ _ _ (by grind),hylen];simp
      have hsz':cs'.size=cs.size:=by
       grind
      have run:(execOp a.eval o).run P w=.ok .skip (w.setRow b cs'):=by
       simp_all[execOp,Instr.storeAt,Instr.sureAddr,storeVar,Pc]
      have hkeep:∀k,G.B id≠some k->(w.setRow b cs').heap[k]?=w.heap[k]?:=λk hk=>setRow_other w b k cs' λh=>hk (by simp_all);have hle:Le G w G (w.setRow b cs'):=⟨λ_ h=>h,λk hk=>hkeep k λh=>by simp_all,saa _,λ_ _=>.inl ⟨rfl,rfl,rfl,rfl,rfl⟩⟩;have hblk':=setRow_heap w b cs cs' T (0,0) hblk;clear hst hcs';generalize hys:(a.eval y).cells.toList=ys at hyc hy1 hylen hget;have hnew:∃u':Value,VRel G (w.setRow b cs') (e.oe sub dy.cells) u'/\u'.cells.size=S/\∀(j:Nat) c,u'.cells[j]?=some c->one c=true/\cs'[idx*S+j+(G.C id).2]?=some c:=by
       by_cases hagg:∃le,e=.agg le
       .obtain⟨le,rfl⟩:=hagg;simp only[VRel]at hv;obtain⟨us,rfl,hvs,hus1⟩:=hv;simp only[D.cells]at helen hsub;have huslen:us.length=S:=by grind[Value.cells]
        refine⟨.agg (us.take sub++ys++us.drop (sub+ys.length)).toArray,?_,?_,?_⟩
        .simp only[D.oe,VRel,pn];refine⟨_,rfl,?_,?_⟩
         .rw[←hyc.length];exact((((hvs.take sub).append hyc).append (hvs.drop _)).mono hle)
         grind
        .grind[Value.cells]
        .intro j c hj;simp only[Value.cells,Cab]at hj;rw[Es _ _ _ _ (by omega),hylen]at hj
         grind[Value.cells]
       .have hc1:e.cells=[e]:=by cases e<;>first|rfl|simp_all
        have hup:e.oe sub dy.cells=dy.cells.headD .dead:=by cases e<;>first|rfl|simp_all
        rw[hc1]at helen hsub;simp only[List.length_singleton]at helen hsub;have hn1:i.size=1:=by omega
        have hs0:sub=0:=by omega
        subst hs0;rw[hn1]at hn hylen;obtain⟨e1,he1⟩:∃e1,dy.cells=[e1]:=by
         cases hdc:dy.cells with
         |nil=>simp_all
         |cons q r=>simp_all
        rw[he1]at hyc;simp only[VsRel]at hyc;obtain⟨c1,r1,hcl,hv1,rfl⟩:=hyc;have g1:=hy1 c1 (by simp_all);rw[hup,he1];refine⟨c1,by simpa using hv1.mono hle,by grind[SF],λj c hj=>?_⟩;rw[SF g1]at hj
        grind
      obtain⟨u',hu'v,hu's,hu'c⟩:=hnew;have hrow':Ze G (w.setRow b cs') S (l.set idx (e.oe sub dy.cells)) cs' (G.C id).2:=by
       refine Ze.set ((?_:Ze G (w.setRow b cs') S l cs (G.C id).2)) hidx hu'v hu's (λj c hj=>(hu'c j c hj).1) (λj c hj=>(hu'c j c hj).2) (λk hk=>?_)
       .exact hin.mono hle
       grind
      have hent:Xm G (w.setRow b cs') id (.live S ver' (l.set idx (e.oe sub dy.cells))):=
       ⟨a1,a2,by simp_all,by simp_all,.inr ⟨b,cs',T,hb,hF,hblk',by omega,cj hblk' hrow'⟩⟩
      have key:=He (w':=w.setRow b cs') hr.inv (e':=.live S ver' (l.set idx (e.oe sub dy.cells))) hm rfl rfl (G.B id) (G.V id) (G.N id) (G.C id) (.inr ⟨rfl,rfl,rfl,rfl⟩) rfl rfl rfl
       (by simp) (λk _ hk=>hkeep k hk) (λk hk=>.inl hk) (by grind[vu])
      rw[vu]at key;exact⟨_,_,G,run,.inr ⟨rfl,rfl⟩,key.1,key.2⟩
    simp_all
   simp_all
  simp_all
 simp_all
end
open Go.RowKit (Below)
section
variable {P:Program} {G:Gh} {w:World} {a:Act} {s:St} {d:D} {m':List Ent}
theorem TI{b S:Nat}{l:List D}{off:Nat}(h:Qa G w b S l off):∃news:List Value,news.length=l.length*S/\(∀c∈news,one c=true)/\(∀(j:Nat) v,news[j]?=some v->w.cell? ⟨b,off+j,none⟩=some v)/\Ze G w S l news.toArray:=by
 have hcell:∀k,k<l.length*S->∃c,one c=true/\w.cell? ⟨b,off+k,none⟩=some c:=by
  intro k hk;have hS:0<S:=by
   grind
  have hi:k / S<l.length:=Nat.div_lt_of_lt_mul (by grind);obtain⟨u,hv,hs,hh⟩:=td.1 h (k / S) l[k / S] (List.getElem?_eq_getElem hi);have hj:k % S<u.cells.size:=by simp_all[yac]
  obtain⟨g1,g2⟩:=hh (k % S) u.cells[k % S] (Array.getElem?_eq_getElem hj)
  grind[Nat.div_add_mod]
 refine⟨(yaa (l.length*S)).map λk=>(w.cell? ⟨b,off+k,none⟩).getD undef,by simp,?_,?_,?_⟩
 .grind
 .grind
 .intro i d hd;obtain⟨u,hv,hs,hh⟩:=td.1 h i d hd;refine⟨u,hv,hs,λj c hc=>⟨(hh j c hc).1,?_⟩⟩;have hi:i<l.length:=by
   grind
  have hj:j<S:=by grind
  have hlt:i*S+j<l.length*S:=by
   have:=Gaa S (show i+1<=l.length from hi)
   grind
  rw[Cab,List.getElem?_map,kac,List.getElem?_range hlt];have:=(hh j c hc).2
  grind
theorem XF(S:Nat) (cs:Array Value):Ze G w S [] cs:=λi d hd=>by simp at hd
structure Src (P:Program) (G:Gh) (w:World) (S:Nat) (r:List D) (u:Value) (news:List Value):Prop where
 len:news.length=r.length*S
 ones:∀c∈news,one c=true
 row:Ze G w S r news.toArray
 form:∃p c,u=.slice p r.length c
 run:∀w',w'.heap=w.heap->(Builtin.firstCells S r.length u).run P w'=.ok news.toArray w'
theorem pE{b S:Nat}{r:List D}{off c:Nat}(h:Qa G w b S r off):∃news,Src P G w S r (.slice (some ⟨b,off,none⟩) r.length c) news:=by
 obtain⟨news,h1,h2,h3,h4⟩:=TI h;refine⟨news,h1,h2,h4,⟨_,_,rfl⟩,λw' hw=>?_⟩
 grind[World.cell?,Builtin.firstCells,run_loadCells_list,lh]
theorem wu{S:Nat}{p:Option Addr}{c:Nat}:Src P G w S [] (.slice p 0 c) []:=by
 refine⟨by simp,by simp,XF _ _,⟨_,_,rfl⟩,λw' _=>?_⟩;cases p<;>simp[Builtin.firstCells,loadCells,loadCellsFrom]
theorem Vy(hi:Inv G w s.m) {x:D}{u:Value}(hx:VRel G w x u) {S:Nat}{r:List D}(h:contents S s.m x=some r):∃news,Src P G w S r u news:=by
 unfold contents at h;split at h
 .injection h with h;subst h;simp only[VRel]at hx;subst hx;exact⟨[],wu⟩
 .rename_i S' l;split at h
  .rename_i hS;subst hS;injection h with h;subst h;simp only[VRel]at hx;obtain⟨p,n,c,rfl,rfl,hc,hx⟩:=hx;rcases hx with rfl|⟨b,off,rfl,hF,hrow⟩
   .exact⟨[],wu⟩
   simp_all[pE]
  .cases h
 .rename_i id Ja;split at h
  .rename_i S' ver' l hm;split at h
   .rename_i hc;obtain⟨rfl,rfl⟩:=hc;injection h with h;subst h;simp only[VRel]at hx;obtain⟨p,n,c,rfl,hid,hver,hx⟩:=hx;obtain⟨a1,a2,a3,a4,a5⟩:=hi.ent _ _ hm;obtain⟨rfl,rfl,rfl⟩:=hx a1;rw[a3];rcases a5 with a5|⟨b',cs,T,hb',hF,hblk,hsz,hrow⟩
    .have h00:=congrArg uad a5.2;dsimp only at h00;have:l=[]:=Caa (by omega);subst this;exact⟨[],wu⟩
    simp_all[pE]
   .cases h
  .cases h
 .rename_i id Ja lo n;split at h
  .rename_i S' ver' l hm;split at h
   .rename_i hc;obtain⟨rfl,rfl,hle⟩:=hc;injection h with h;subst h;simp only[VRel]at hx;obtain⟨p,c,rfl,hnc,hid,hver,hx⟩:=hx;obtain⟨a1,a2,a3,a4,a5⟩:=hi.ent _ _ hm;have hlen:((l.drop lo).take n).length=n:=by grind
    rcases hx a1 with rfl|⟨b,hb,rfl⟩
    .simp;exact⟨[],wu⟩
    .rcases a5 with a5|⟨b',cs,T,hb',hF,hblk,hsz,hrow⟩
     .simp_all
     .rw[hb]at hb';injection hb' with hb';subst hb';have:=pE (P:=P) (c:=c) (js (Zr hrow lo) n)
      grind
   .cases h
  .cases h
 .cases h
theorem Sz{t ty e:TypeId}{i:TypeInfo}(ht:P.underlying t=some (.slice e)) (hi:P.info? e=some i) {S:Nat}{u:Value}{news:List Value}(hu:Src P G w S [] u news) (hS:i.size=S) :
 (Builtin.append_ #[t,t] ty #[.slice none 0 0,u]).run P w=.ok (.slice none 0 0) w:=by
 obtain⟨p,c,rfl⟩:=hu.form;have hr:=hu.run w rfl;subst hS;simp only[bab]at hr;simp[Builtin.append_,run_underlying ht,sizeOf,typeInfo,hi,Builtin.lenOf,hr]
theorem jH{t ty e:TypeId}{i:TypeInfo}(ht:P.underlying t=some (.slice e)) (hi:P.info? e=some i) {S:Nat}{r:List D}{u:Value}{news:List Value}(hu:Src P G w S r u news) (hS:i.size=S)
 {g f sLen sCap:Nat} {cur:Array Value} {T:TypeId} (hg:w.heap[g]?=some (.cells cur T (0,0))) (hroom:sLen+r.length<=sCap) (hfit:f+sLen*S+news.length<=cur.size) :
 (Builtin.append_ #[t,t] ty #[.slice (some ⟨g,f,none⟩) sLen sCap,u]).run P w =
  .ok (.slice (some ⟨g,f,none⟩) (sLen+r.length) sCap) (w.setRow g (cur.toList.take (f+sLen*S)++news++cur.toList.drop (f+sLen*S+news.length)).toArray):=by
 obtain⟨p,c,rfl⟩:=hu.form;have hr:=hu.run w rfl;subst hS;have hst:=run_storeCells_at P g (f+sLen*i.size) T news 0 cur w hg (by omega) (λv hv=>by rw[iK];exact hu.ones v hv);simp only[kac]at hst;simp[Builtin.append_,run_underlying ht,sizeOf,typeInfo,hi,Builtin.lenOf,hroom,hr,lh,hst]
theorem Rz{t ty e:TypeId}{i:TypeInfo}{z:Value}(ht:P.underlying t=some (.slice e)) (hi:P.info? e=some i) (hz:i.zero=some z) {S:Nat}{r l:List D}{u x:Value}{news olds:List Value}(hu:Src P G w S r u news) (hx:Src P G w S l x olds) (hS:i.size=S)
 {p:Option Addr} {sCap:Nat} (hxe:x=.slice p l.length sCap) (hroom:sCap<l.length+r.length) (hb:(l.length+r.length)*i.bytes<=140737488355328) (h63:l.length+r.length<=9223372036854775807) :
 (Builtin.append_ #[t,t] ty #[x,u]).run P w =
  .ok (.slice (some ⟨w.heap.size,0,none⟩) (l.length+r.length) (grownCap w (l.length+r.length) sCap e))
   (w.drew.alloc (.cells (olds.toArray++news.toArray++Builtin.zeroCells z.cells (grownCap w (l.length+r.length) sCap e-(l.length+r.length))) e)):=by
 obtain⟨q,c,rfl⟩:=hu.form;subst hxe;have hr:=hu.run w.drew rfl;have hr':=hx.run w.drew rfl;subst hS;have hn:¬(l.length+r.length<=sCap):=by omega
 have h63':¬(9223372036854775807<((l.length:Int)+(r.length:Int))):=by omega
 have hfit:=growslice_fits (old:=sCap) hroom hb;have h48':¬(281474976710656<Builtin.nextslicecap (l.length+r.length) sCap*i.bytes):=by omega
 simp[Builtin.append_,run_underlying ht,sizeOf,typeInfo,zeroValue,hi,hz,Builtin.lenOf,hn,h63',h48',Question.forced,hr,hr',newRow,grownCap]
 grind
theorem Ze.append{S:Nat}{l r:List D}{olds news:List Value}(h1:Ze G w S l olds.toArray) (h2:Ze G w S r news.toArray) (hl:olds.length=l.length*S) (rest:Array Value) :
 Ze G w S (l++r) (olds.toArray++news.toArray++rest):=by
 intro i d hd;rw[Rab]at hd;split at hd
 .rename_i hi;obtain⟨u,g1,g2,g3⟩:=h1 i d hd
  grind
 .rename_i hi;obtain⟨u,g1,g2,g3⟩:=h2 (i-l.length) d hd;refine⟨u,g1,g2,λj c hc=>⟨(g3 j c hc).1,?_⟩⟩;have:=(g3 j c hc).2;have hlt:(i-l.length)*S+j<news.length:=by
   grind
  have hge:l.length*S<=i*S:=Gaa S (by omega);have hidx:i*S+j-olds.length=(i-l.length)*S+j:=by grind[Wad]
  grind
theorem vC{b:Option Nat}{id V N:Nat}{C:Nat×Nat}{w':World}(hid:id<G.n):VRel (G.oe id b V N C) w' (.own id V) (.slice (b.map λb=>⟨b,C.2,none⟩) N C.1):=by
 simp only[VRel];exact⟨_,_,_,rfl,hid,by simp[Gh.oe],λ_=>⟨by simp[Gh.oe],by simp[Gh.oe],by simp[Gh.oe]⟩⟩
theorem Iz{b:Option Nat}{S N C:Nat}{w':World}(hn:G.n=s.m.length):VRel (G.add b S N C) w' (.own s.m.length 0) (.slice (b.map λb=>⟨b,0,none⟩) N C):=by
 simp only[VRel];exact⟨_,_,_,rfl,by grind[Gh.add],wab _,λ_=>⟨by simp[Gh.add,hn],by grind[Gh.add],by grind[Gh.add]⟩⟩
theorem Jt(w:World) (need old:Nat) (e:TypeId):need<=grownCap w need old e:=grownCap_ge w need old e
theorem Fy(z:Array Value) (n:Nat):(Builtin.zeroCells z n).size=n*z.size:=size_zeroCells z n
theorem gF{t u ty e:TypeId}{i:TypeInfo}{z:Value}(ht:P.underlying t=some (.slice e)) (hu:P.underlying u=some (.int .i64)) (hi:P.info? e=some i) (hz:i.zero=some z) (hS:0<i.size) (hb0:0<i.bytes) {k:Int}(hk:0<k) (hb:k.toNat*i.bytes<=140737488355328) :
 (Builtin.append_ #[t,u] ty #[.slice none 0 0,.int .i64 k]).run P w =
  .ok (.slice (some ⟨w.heap.size,0,none⟩) k.toNat (grownCap w k.toNat 0 e))
   (w.drew.alloc (.cells (Builtin.zeroCells z.cells k.toNat++Builtin.zeroCells z.cells (grownCap w k.toNat 0 e-k.toNat)) e)):=by
 obtain⟨n,rfl⟩:∃n:Nat,k=(n:Int):=⟨k.toNat,by omega⟩;simp only[Int.toNat_natCast]at hb⊢;have hn0:0<n:=by omega
 have hnb:n<=n*i.bytes:=bac _ hb0;have hw:IntKind.i64.wrap (n:Int)=n:=by
  grind[IntKind.wrap_i64]
 have hn:¬(n<=0):=by omega
 have h63':¬(9223372036854775807<(n:Int)):=by omega
 have hfit:=growslice_fits (need:=0+n) (old:=0) (by omega) (by rw[jab];omega);rw[jab]at hfit;have h48':¬(281474976710656<Builtin.nextslicecap n 0*i.bytes):=by omega
 have h48:¬((281474976710656:Int)<(n:Int)*(i.bytes:Int)):=by omega
 have hneg:¬((n:Int)<0):=by omega
 have hns:¬(n*i.size=0):=Nat.ne_of_gt (Nat.mul_pos hn0 hS);have hn1:¬(n=0):=by omega
 simp[Builtin.append_,run_underlying ht,run_underlying hu,sizeOf,typeInfo,zeroValue,hi,hz,asInt,asIntOf,hw,hneg,h48,hn,h63',h48',Question.forced,newRow,grownCap,Builtin.firstCells,hn0]
 simp_all
theorem iT(hr:Rel G w a s) {t u e:TypeId}{i:TypeInfo}{z:Value}{x y:Operand}{o:Oper}(ho:o.op=.call { callee:=.builtin .append,args:=#[x,y],argTypes:=#[t,u] })
 (ht:P.underlying t=some (.slice e)) (hu:P.underlying u=some (.int .i64)) (hi:P.info? e=some i) (hz:zeroOf P e=some z) (hb0:0<i.bytes) (he:ia s (.mkapp i.size i.bytes (leaf z) x y)=some (d,m')) :
 Good G w s.m ((execOp a.eval o).run P w) d m':=by
 obtain⟨hz1,hz2,hz3,i',hi',hsz,hzz⟩:=ck hz w;rw[hi]at hi';injection hi' with hi';subst hi';have hx:=hr.ev x;have hy:=hr.ev y;simp only[ia]at he;unfold execOp;simp only[ho];generalize s.ev x=dx at *;generalize s.ev y=dy at *;split at he
 .rename_i k;split at he
  .rename_i hk;obtain⟨hk,hb⟩:=hk;injection he with he;injection he with h1 h2;subst h1;subst h2;simp only[VRel]at hx hy;have hrun:=gF (w:=w) (ty:=o.type) ht hu hi hzz (by omega) hb0 hk (by omega);have hcap:=Jt w k.toNat 0 e;have hrow:Ze G w i.size (jaa k.toNat (leaf z)) (Builtin.zeroCells z.cells k.toNat++Builtin.zeroCells z.cells (grownCap w k.toNat 0 e-k.toNat)):=by
    rw[hsz];intro j q hq;obtain⟨u,g1,g2,g3⟩:=nq (G:=G) (w:=w) hz2 k.toNat j q hq
    grind[Builtin.zeroCells]
   have hd:=(Same.drew w).inv hr.inv;obtain⟨g1,g2⟩:=Ro hd i.size (jaa k.toNat (leaf z)) (grownCap w k.toNat 0 e) _ e (hrow.mono ((Same.drew w).le G)) (by simp_all) (by
    simp only[Qac,Fy,←hsz];rw[←Zab]
    simp_all)
   refine⟨.value (.slice (some ⟨w.heap.size,0,none⟩) k.toNat (grownCap w k.toNat 0 e)),_,_,?_,.inl ⟨_,rfl,?_⟩,g1,((Same.drew w).step G s.m).trans g2⟩
   .simp_all[resolve,invoke,builtin]
   .have:=Iz (b:=some w.heap.size) (S:=i.size) (N:=k.toNat) (C:=grownCap w k.toNat 0 e) (w':=w.drew.alloc (.cells (Builtin.zeroCells z.cells k.toNat++Builtin.zeroCells z.cells (grownCap w k.toNat 0 e-k.toNat)) e)) hr.inv.n
    simp_all
  simp_all
 simp_all
theorem pP(hr:Rel G w a s) {t e:TypeId}{i:TypeInfo}{z:Value}{x y:Operand}{o:Oper}(ho:o.op=.call { callee:=.builtin .append,args:=#[x,y],argTypes:=#[t,t] })
 (ht:P.underlying t=some (.slice e)) (hi:P.info? e=some i) (hz:zeroOf P e=some z) (hb0:0<i.bytes) (he:ia s (.append i.size i.bytes x y)=some (d,m')) :
 Good G w s.m ((execOp a.eval o).run P w) d m':=by
 obtain⟨hz1,hz2,hz3,i',hi',hsz,hzz⟩:=ck hz w;rw[hi]at hi';injection hi' with hi';subst hi';have hx:=hr.ev x;have hy:=hr.ev y;simp only[ia]at he;unfold execOp;simp only[ho];generalize s.ev x=dx at *;generalize s.ev y=dy at *;split at he
 .rename_i r hcont;obtain⟨news,hu⟩:=Vy (P:=P) hr.inv hy hcont;have lift:∀v w',(Builtin.append_ #[t,t] o.type #[a.eval x,a.eval y]).run P w=.ok v w'->
   (Sem.run P (do let d←resolve a.eval { callee:=.builtin .append,args:=#[x,y],argTypes:=#[t,t] } o.type;invoke d.target d.args) w)=.ok (.value v) w':=by
   simp_all[resolve,invoke,builtin]
  have b47:(2:Nat) ^ 47=140737488355328:=by decide
  split at he
  .split at he
   .rename_i hbytes;injection he with he;injection he with h1 h2;subst h1;subst h2;simp only[VRel]at hx;by_cases hr0:r=[]
    .subst hr0;have hrun:=Sz (w:=w) (ty:=o.type) ht hi hu rfl;rw[←hx]at hrun;have hadd:=My (w':=w) hr.inv none i.size 0 0 (.live i.size 0 []) rfl rfl rfl rfl (saa _) (λ_ _=>rfl) (λk h=>by cases h)
      ⟨by simp[Gh.add],by simp[Gh.add],by simp[Gh.add],by simp,.inl ⟨by simp[Gh.add],by simp[Gh.add]⟩⟩
     refine⟨_,_,_,lift _ _ hrun,.inl ⟨_,rfl,?_⟩,hadd.1,hadd.2⟩;rw[hx];exact Iz (b:=none) hr.inv.n
    .have hpos:0<r.length:=List.length_pos_iff.2 hr0;have hmul:r.length<=r.length*i.bytes:=bac _ hb0;have hrun:=Rz (w:=w) (ty:=o.type) ht hi hzz (l:=[]) hu wu rfl (p:=none) (sCap:=0) rfl (by omega) (by simp_all) (by grind);simp only[bab,jab]at hrun;rw[←hx]at hrun;have hcap:=Jt w r.length 0 e;have hrow:Ze G w i.size r ([].toArray++news.toArray++Builtin.zeroCells z.cells (grownCap w r.length 0 e-r.length)):=Ze.append (l:=[]) (XF _ _) hu.row (by simp) _;have hd:=(Same.drew w).inv hr.inv;obtain⟨g1,g2⟩:=Ro hd i.size r (grownCap w r.length 0 e) _ e (hrow.mono ((Same.drew w).le G)) hcap (by
      simp only[Qac,nac,bab,jab,hu.len,Fy,←hsz];rw[←Zab]
      simp_all)
     refine⟨_,_,_,lift _ _ hrun,.inl ⟨_,rfl,?_⟩,g1,((Same.drew w).step G s.m).trans g2⟩;exact Iz (b:=some w.heap.size) hr.inv.n
   simp_all
  .rename_i id Ja;split at he
   .rename_i S' ver' l hm;split at he
    .rename_i hc;obtain⟨rfl,rfl,hbytes⟩:=hc;injection he with he;injection he with h1 h2;subst h1;subst h2;have hcx:contents i.size s.m (.own id ver')=some l:=by grind[contents]
     obtain⟨olds,hsx⟩:=Vy (P:=P) hr.inv hx hcx;simp only[VRel]at hx;obtain⟨p,n,c,hp,hid,hver,hx⟩:=hx;obtain⟨a1,a2,a3,a4,a5⟩:=hr.inv.ent _ _ hm;obtain⟨rfl,rfl,rfl⟩:=hx a1;have hmul:l.length+r.length<=(l.length+r.length)*i.bytes:=bac _ hb0;by_cases hroom:l.length+r.length<=(G.C id).1
     .rcases a5 with a5|⟨b',cs,T,hb',hF,hblk,hcs,hrow⟩
      ·
        have h00:=congrArg uad a5.2;dsimp only at h00;have hl0:l=[]:=Caa (by omega);have hr0:r=[]:=Caa (by omega);subst hl0;subst hr0;have hrun:=Sz (w:=w) (ty:=o.type) ht hi hu rfl;have hxe:a.eval x=.slice none 0 0:=by simp_all
        rw[←hxe]at hrun;have key:=He (w':=w) hr.inv (e':=.live i.size (ver'+1) ([]++[])) hm rfl rfl none (ver'+1) 0 (0,0) (.inl (by omega)) rfl rfl rfl (saa _) (λ_ _ _=>rfl) (λk h=>by cases h)
         ⟨by simp[Gh.oe],by grind[Gh.oe],by simp[Gh.oe],by simp,.inl ⟨by simp[Gh.oe],by simp[Gh.oe]⟩⟩
        exact⟨_,_,_,lift _ _ hrun,.inl ⟨_,rfl,by grind[vC]⟩,key.1,key.2⟩
      ·
        have hmulC:=Gaa i.size hroom;rw[Zab]at hmulC;have hfit:(G.C id).2+l.length*i.size+news.length<=cs.size:=by rw[hu.len];omega
        have hrun:=jH (ty:=o.type) ht hi hu rfl (sLen:=l.length) (sCap:=(G.C id).1) hblk hroom hfit;have hxe:a.eval x=.slice (some ⟨b',(G.C id).2,none⟩) l.length (G.C id).1:=by simp_all
        rw[←hxe]at hrun;obtain⟨cs',hcs'⟩:∃cs':Array Value,cs'=(cs.toList.take ((G.C id).2+l.length*i.size)++news++cs.toList.drop ((G.C id).2+l.length*i.size+news.length)).toArray:=⟨_,rfl⟩;rw[←hcs']at hrun;have hget:∀k,cs'[k]?=if(G.C id).2+l.length*i.size<=k/\k<(G.C id).2+l.length*i.size+news.length then news[k-((G.C id).2+l.length*i.size)]? else cs[k]?:=by
         intro k;rw[hcs',Cab,Es _ _ _ _ (by omega)];simp
        have hsz':cs'.size=cs.size:=by
         grind
        have hkeep:∀k,G.B id≠some k->(w.setRow b' cs').heap[k]?=w.heap[k]?:=λk hk=>setRow_other w b' k cs' λh=>hk (by simp_all);have hle:Le G w (G.oe id (some b') (ver'+1) (l.length+r.length) (G.C id)) (w.setRow b' cs'):=by
         refine⟨λ_ h=>h,λk hk=>hkeep k λh=>by simp_all,saa _,λj _=>?_⟩
         grind[Gh.oe]
        have hblk':=setRow_heap w b' cs cs' T (0,0) hblk;have hin:=ts hblk hrow;have hrow':Ze G w i.size (l++r) cs' (G.C id).2:=by
         intro j q hq;rw[Rab]at hq;split at hq
         .rename_i hj;obtain⟨u,g1,g2,g3⟩:=hin j q hq;refine⟨u,g1,g2,λk c hk=>⟨(g3 k c hk).1,?_⟩⟩;have hks:k<i.size:=by grind
          have hmj:=Gaa i.size (show j+1<=l.length from hj)
          grind
         .rename_i hj;obtain⟨u,g1,g2,g3⟩:=hu.row (j-l.length) q hq;refine⟨u,g1,g2,λk c hk=>⟨(g3 k c hk).1,?_⟩⟩;have hk':=(g3 k c hk).2;have hlt:(j-l.length)*i.size+k<news.length:=by grind
          have hge:l.length*i.size<=j*i.size:=Gaa i.size (by omega);have hidx:j*i.size+k+(G.C id).2-((G.C id).2+l.length*i.size)=(j-l.length)*i.size+k:=by grind[Wad]
          grind
        have key:=He (w':=w.setRow b' cs') hr.inv (e':=.live i.size (ver'+1) (l++r)) hm rfl rfl (some b') (ver'+1) (l.length+r.length) (G.C id) (.inl (by omega)) rfl rfl rfl
         (by simp) (λk _ hk=>hkeep k hk) (λk hk=>.inl (by simp_all))
         ⟨by simp[Gh.oe],by grind[Gh.oe],by simp[Gh.oe],by grind[Gh.oe],.inr ⟨b',cs',T,by simp[Gh.oe],hF,hblk',by grind[Gh.oe],by simpa [Gh.oe] using cj hblk' (hrow'.mono hle)⟩⟩
        exact⟨_,_,_,lift _ _ hrun,.inl ⟨_,rfl,vC (b:=some b') hid⟩,key.1,key.2⟩
     ·
       have hrun:=Rz (w:=w) (ty:=o.type) ht hi hzz hu hsx rfl (sCap:=(G.C id).1) (by rw[hp,a3]) (by omega) (by omega) (by omega);have hcap:=Jt w (l.length+r.length) (G.C id).1 e;have hrow:Ze G w i.size (l++r) (olds.toArray++news.toArray++Builtin.zeroCells z.cells (grownCap w (l.length+r.length) (G.C id).1 e-(l.length+r.length))):=Ze.append hsx.row hu.row hsx.len _;generalize hcells:(olds.toArray++news.toArray++Builtin.zeroCells z.cells (grownCap w (l.length+r.length) (G.C id).1 e-(l.length+r.length)))=cells at hrow hrun;have hcsz:grownCap w (l.length+r.length) (G.C id).1 e*i.size<=cells.size:=by
        rw[←hcells];simp only[Qac,nac,hu.len,hsx.len,Fy,←hsz];rw[←Zab,←Zab]
        simp_all
       have hkeep:∀k,k<w.heap.size->(w.drew.alloc (.cells cells e)).heap[k]?=w.heap[k]?:=λk hk=>Below.heap_alloc w.drew _ _ hk;have hblk':(w.drew.alloc (.cells cells e)).heap[w.heap.size]?=some (.cells cells e (0,0)):=heap_alloc_new w.drew _;have hle:Le G w (G.oe id (some w.heap.size) (ver'+1) (l.length+r.length) (grownCap w (l.length+r.length) (G.C id).1 e,0)) (w.drew.alloc (.cells cells e)):=by
        refine⟨λ_ h=>h,λk hk=>hkeep k (hr.inv.F k hk),saa _,λj _=>?_⟩
        grind[Gh.oe]
       have key:=He (w':=w.drew.alloc (.cells cells e)) hr.inv (e':=.live i.size (ver'+1) (l++r)) hm rfl rfl (some w.heap.size) (ver'+1) (l.length+r.length) (grownCap w (l.length+r.length) (G.C id).1 e,0)
        (.inl (by omega)) rfl rfl rfl (by simp) (λk hk _=>hkeep k hk) (λk hk=>.inr (by simp_all))
        ⟨by simp[Gh.oe],by grind[Gh.oe],by simp[Gh.oe],by grind[Gh.oe],.inr ⟨w.heap.size,cells,e,by simp[Gh.oe],λhF=>by have:=hr.inv.F _ hF;omega,hblk',by grind[Gh.oe],by simpa [Gh.oe] using cj hblk' (hrow.mono hle)⟩⟩
       exact⟨_,_,_,lift _ _ hrun,.inl ⟨_,rfl,vC (b:=some w.heap.size) (C:=(_,0)) hid⟩,key.1,key.2⟩
    simp_all
   simp_all
  simp_all
 simp_all
theorem oT(hr:Rel G w a s) {t e:TypeId}{i:TypeInfo}{x:Operand}{lo hi:Option Operand}{o:Oper}(ho:o.op=.slice t x lo hi none)
 (ht:P.underlying t=some (.slice e)) (hi':P.info? e=some i) (he:ia s (.trunc i.size x lo hi)=some (d,m')):Good G w s.m ((execOp a.eval o).run P w) d m':=by
 have hx:=hr.ev x;have other:(∀id Ja,s.ev x≠.own id Ja)->Good G w s.m ((execOp a.eval o).run P w) d m':=λhne=>by
  grind[ia,XK]
 cases hdx:s.ev x with
 |own id Ja=>
  simp only[ia,hdx]at he;split at he
  .rename_i S' ver' l hm;split at he
   .rename_i al h hl hh;split at he
    .rename_i hc;obtain⟨hlh,rfl,rfl,hle⟩:=hc;injection he with he;injection he with e1 e2;subst e1;subst e2;rw[hdx]at hx;have hn:Bc s.m (.own id ver')=some l.length:=by grind[Bc]
     obtain⟨p,cap,hp,hcap⟩:=Yx hr.inv hx hn;obtain⟨m,hb,hmh,hmc,hmn⟩:=iE (P:=P) hr hcap (mx:=none) (by simp) hl hh (k:=l.length) rfl hle (saa _) hlh;have hmn:=hmn rfl;subst hmn;simp only[VRel]at hx;obtain⟨p',n',c',hp',hid,hver,hx⟩:=hx;rw[hp]at hp';injection hp' with q1 q2 q3;subst q1;subst q2;subst q3;obtain⟨a1,a2,a3,a4,a5⟩:=hr.inv.ent _ _ hm;obtain⟨hpe,-,hce⟩:=hx a1;obtain⟨C,hC⟩:∃C:Nat×Nat,C=if m=al then(0,(G.C id).2)else(m-al,(G.C id).2+al*i.size):=⟨_,rfl⟩;have hC1:C.1=m-al:=by grind
     have run:(execOp a.eval o).run P w=.ok (.value (.slice ((G.B id).map λb=>⟨b,C.2,none⟩) (h-al) C.1)) w:=by
      have e0:(execOp a.eval o).run P w=.ok (.value (.slice (if m=al then p else p.map (·.add (al*i.size))) (h-al) (m-al))) w:=by
       unfold execOp;simp only[ho,hp];simp at hb;simp[Instr.sliceAt,Instr.slice,run_underlying ht,hb,Pc hi']
      rw[e0,hC1,hpe,hC];split
      .rfl
      .cases G.B id with
       |none=>rfl
       |some b=>simp[lh]
     have hlw:Le G w (G.oe id (G.B id) (ver'+1) (h-al) C) w:=by
      refine⟨λ_ h=>h,λ_ _=>rfl,saa _,λj _=>?_⟩
      grind[Gh.oe]
     have hlen:((l.take h).drop al).length=h-al:=by grind
     have key:=He (w':=w) hr.inv (e':=.live i.size (ver'+1) ((l.take h).drop al)) hm rfl rfl (G.B id) (ver'+1) (h-al) C (.inl (by omega)) rfl rfl rfl (saa _) (λ_ _ _=>rfl) (λk hk=>.inl hk)
      ⟨by simp[Gh.oe],by grind[Gh.oe],by grind[Gh.oe],by grind[Gh.oe],by
       rcases a5 with a5|⟨b',cs,T,hb',hF,hblk,hcs,hrow⟩
       .refine .inl ⟨by grind[Gh.oe],?_⟩;have h0:=a5.2;have h1:=congrArg uad h0
        grind[Gh.oe]
       .refine .inr ⟨b',cs,T,by grind[Gh.oe],hF,hblk,?_,?_⟩
        .simp only[Gh.oe,if_pos];rw[hC];split
         .omega
         .dsimp only;have h1:(m-al)*i.size+al*i.size=m*i.size:=by rw[←Zab];grind
          grind
        .have e0:((G.oe id (G.B id) (ver'+1) (h-al) C).C id).2=C.2:=by simp[Gh.oe]
         rw[e0];by_cases hma:m=al
         .have hnil:(l.take h).drop al=[]:=Caa (by omega);rw[hnil];simp[Qa]
         .have e2:C.2=(G.C id).2+al*i.size:=by grind
          rw[e2];exact(Zr (js hrow h) al).mono hlw rfl⟩
     exact⟨_,_,_,run,.inl ⟨_,rfl,vC hid⟩,key.1,key.2⟩
    simp_all
   simp_all
  simp_all
 |_=>exact other (by intro id Ja h;rw[hdx]at h;cases h)
end
open Go.RowKit (Below)
section
variable {P:Program} {G:Gh} {w:World} {a:Act} {s:St} {d:D} {m':List Ent}
theorem uB(hr:Rel G w a s):∀{xs:List Operand}{vs:List Value},leaves (xs.map s.ev)=some vs->xs.map a.eval=vs
 |[],vs,h=>by grind[leaves]
 |x::xs,vs,h=>by
  have hx:=hr.ev x;simp only[Maa]at h;generalize s.ev x=dx at *;cases dx<;>simp only[leaves,reduceCtorEq]at h;simp only[haa]at h;obtain⟨us,h1,rfl⟩:=h;simp only[VRel]at hx;simp[hx,uB hr h1]
theorem L3(hr:Rel G w a s) {isMax:Bool}{xs:Array Operand}{sq:Array TypeId}{o:Oper}(ho:o.op=.call { callee:=.builtin (if isMax then .max else .min),args:=xs,argTypes:=sq })
 (he:ia s (.mm isMax xs.toList)=some (d,m')):Good G w s.m ((execOp a.eval o).run P w) d m':=by
 simp only[ia]at he;split at he
 .rename_i vs hvs;simp only[haa,Baa]at he;obtain⟨r,hp,rfl,rfl⟩:=he;have hl:=uB hr hvs;have harr:xs.map a.eval=vs.toArray:=by
   grind
  refine za (u:=r) hr.inv ?_ (by simp[VRel]);unfold execOp;simp only[ho]
  cases isMax with
  |true=>
   have:∀t n,Builtin.max_ t n vs.toArray=Builtin.max_ #[] 0 vs.toArray:=λ_ _=>rfl
   simp_all[resolve,invoke,builtin,bq]
  |false=>
   have:∀t n,Builtin.min_ t n vs.toArray=Builtin.min_ #[] 0 vs.toArray:=λ_ _=>rfl
   simp_all[resolve,invoke,builtin,bq]
 simp_all
theorem Uz{t:TypeId}{ds:TypeDesc}(hd:P.underlying t=some ds) (hA:Zo ds=false) {cs:Array Value}{off:Nat}{u:Value}(hu:cs[off]?=some u):(Go.part t cs off).run P w=.ok u w:=by
 simp_all[Go.part,As]
theorem QJ{dep:Nat}{t:TypeId}{k:Nat}{x y:D}{b:Bool}{u v:Value}{w:World}(hk:YC P t=some k) (hb:wq k x y=some b) (hx:VRel G w x u) (hy:VRel G w y v) :
 (Op.equalIn (dep+1) t u v).run P w=.ok b w/\∃ds,P.underlying t=some ds/\Zo ds=false:=by
 unfold YC at hk;split at hk
 .rename_i k' hd;injection hk with hk;subst hk;refine⟨?_,_,hd,rfl⟩;cases x<;>cases y<;>simp only[wq,reduceCtorEq]at hb;rename_i x y;cases x<;>cases y<;>simp only[wq,reduceCtorEq]at hb;split at hb
  .rename_i hk;injection hb with hb;simp only[VRel]at hx hy
   grind[run_equalIn_int]
  simp_all
 .rename_i hd;injection hk with hk;subst hk;refine⟨?_,_,hd,rfl⟩;cases x<;>cases y<;>simp only[wq,reduceCtorEq]at hb;rename_i x y;cases x<;>cases y<;>simp only[wq,reduceCtorEq]at hb;injection hb with hb;simp only[VRel]at hx hy
  grind[run_equalIn_bool']
 .rename_i hd;injection hk with hk;subst hk;refine⟨?_,_,hd,rfl⟩;cases x<;>cases y<;>simp only[wq,reduceCtorEq]at hb;rename_i x y;cases x<;>cases y<;>simp only[wq,reduceCtorEq]at hb;injection hb with hb;simp only[VRel]at hx hy
  grind[run_equalIn_string]
 simp_all
theorem iB{dep:Nat}{xs ys:List Value}{w:World}{f:Field}{fs:List Field}{k off:Nat}{ks:List Nat}{l r:List D}{t:Bool}(hname:f.name≠ "_") (hoff:f.offset=off) (hk:YC P f.type=some k)
 (he:Ic (k::ks) l r=some t) (hl:VsRel G w l (xs.drop off)) (hr:VsRel G w r (ys.drop off))
 (ih:∀{l r:List D} {t:Bool},Ic ks l r=some t->VsRel G w l (xs.drop (off+1))->VsRel G w r (ys.drop (off+1))->(Op.eqFields (dep+1) xs.toArray ys.toArray fs).run P w=.ok t w) :
 (Op.eqFields (dep+1) xs.toArray ys.toArray (f::fs)).run P w=.ok t w:=by
 cases l with
 |nil=>grind[Ic]
 |cons x l=>
  cases r with
  |nil=>grind[Ic]
  |cons y r=>
   simp only[Ic]at he;split at he
   .rename_i b c hb hcc;injection he with he;subst he;simp only[VsRel]at hl hr;obtain⟨u,us,hu,hx,hl⟩:=hl;obtain⟨v,vs,hv,hy,hr⟩:=hr;have hxu:xs[off]?=some u:=by have:=congrArg (λl=>l[0]?) hu;grind
    have hyv:ys[off]?=some v:=by have:=congrArg (λl=>l[0]?) hv;grind
    have hxs:xs.drop (off+1)=us:=by have:=congrArg Yad hu;grind[Qad]
    have hys:ys.drop (off+1)=vs:=by have:=congrArg Yad hv;grind[Qad]
    have ih:=ih hcc (by simp_all) (by simp_all);obtain⟨e3,ds,hd,hA⟩:=QJ (P:=P) (dep:=dep) hk hb hx hy;have e1:=Uz (w:=w) (P:=P) (cs:=xs.toArray) (off:=off) hd hA (by simpa using hxu);have e2:=Uz (w:=w) (P:=P) (cs:=ys.toArray) (off:=off) hd hA (by simpa using hyv);simp only[Op.eqFields,hname,hoff,ne_eq,not_false_eq_true,if_true,Sem.run_bind,e1,e2,e3,Result.andThen_ok];cases b
    all_goals simp_all
   simp_all
theorem lz{dep:Nat}{xs ys:List Value}{w:World}:∀{fs:List Field}{ks:List Nat}{off:Nat}{l r:List D}{t:Bool},ZC P fs off=some ks->Ic ks l r=some t->VsRel G w l (xs.drop off)->VsRel G w r (ys.drop off)->
 (Op.eqFields (dep+1) xs.toArray ys.toArray fs).run P w=.ok t w
 |[],ks,off,l,r,t,hp,he,hl,hr=>by
  simp only[ZC]at hp;injection hp with hp;subst hp;cases l<;>cases r<;>simp[Ic]at he
  simp_all[Op.eqFields]
 |f::fs,ks,off,l,r,t,hp,he,hl,hr=>by
  simp only[ZC]at hp;split at hp
  .rename_i hc;split at hp
   .rename_i k ks' hk hp';injection hp with hp;subst hp;exact iB hc.1 hc.2 hk he hl hr λh1 h2 h3=>lz hp' h1 h2 h3
   simp_all
  simp_all
theorem qv:∀{k1 k2:List Nat}{l r:List D}{t:Bool},Ic (k1++k2) l r=some t->
 ∃t1 t2,Ic k1 (l.take k1.length) (r.take k1.length)=some t1/\Ic k2 (l.drop k1.length) (r.drop k1.length)=some t2/\t=(t1&&t2)
 |[],k2,l,r,t,h=>⟨true,t,by simp[Ic],by simp_all,by simp⟩
 |k::k1,k2,l,r,t,h=>by
  cases l with
  |nil=>grind[Ic]
  |cons x l=>
   cases r with
   |nil=>grind[Ic]
   |cons y r=>
    simp only[Naa,Ic]at h;split at h
    .rename_i b c hb hc;injection h with h;subst h;obtain⟨t1,t2,h1,h2,rfl⟩:=qv hc
     grind[Ic]
    .cases h
theorem Tz{t:TypeId}{gs:Array Field}(hd:P.underlying t=some (.struct gs)) {i:TypeInfo}(hi:P.info? t=some i) {cs:List Value}{off:Nat}{w:World}:(Go.part t cs.toArray off).run P w=.ok (.agg ((cs.drop off).take i.size).toArray) w:=by
 unfold Go.part;have hsz:(sizeOf t).run P w=.ok i.size w:=by simp[sizeOf,typeInfo,hi]
 have hA:Zo (.struct gs)=true:=rfl
 simp_all[As]
theorem Ft{dep:Nat}{xs ys:List Value}{w:World}:∀{fs:List Field}{ks:List Nat}{off:Nat}{l r:List D}{t:Bool},Nu P fs off=some ks->Ic ks l r=some t->VsRel G w l (xs.drop off)->VsRel G w r (ys.drop off)->
 (Op.eqFields (dep+1+1) xs.toArray ys.toArray fs).run P w=.ok t w
 |[],ks,off,l,r,t,hp,he,hl,hr=>by
  simp only[Nu]at hp;injection hp with hp;subst hp;cases l<;>cases r<;>simp[Ic]at he
  simp_all[Op.eqFields]
 |f::fs,ks,off,l,r,t,hp,he,hl,hr=>by
  simp only[Nu]at hp;split at hp
  .rename_i hc;split at hp
   .rename_i gs hd;split at hp
    .rename_i ks1 i hk1 hi;split at hp
     .rename_i hsz;simp only[haa]at hp;obtain⟨ks2,hp2,rfl⟩:=hp;obtain⟨t1,t2,h1,h2,rfl⟩:=qv he;have hfo:P.fieldsOf f.type=gs:=by grind[Program.fieldsOf]
      have e1:=Tz (w:=w) hd hi (cs:=xs) (off:=off);have e2:=Tz (w:=w) hd hi (cs:=ys) (off:=off);rw[hsz.1]at e1 e2;have e3:(Op.equalIn (dep+1+1) f.type (.agg ((xs.drop off).take ks1.length).toArray) (.agg ((ys.drop off).take ks1.length).toArray)).run P w=.ok t1 w:=by
       rw[run_equalIn_struct w _ f.type _ _ (by simp_all) hsz.2,hfo];exact lz (dep:=dep) (G:=G) (off:=0) hk1 h1 (by simpa using hl.take ks1.length) (by simpa using hr.take ks1.length)
      have ih:=Ft (dep:=dep) (xs:=xs) (ys:=ys) hp2 h2 (by simpa [Mac] using hl.drop ks1.length) (by simpa [Mac] using hr.drop ks1.length);simp only[Op.eqFields,hc.1,hc.2,ne_eq,not_false_eq_true,if_true,Sem.run_bind,e1,e2,e3,Result.andThen_ok];cases t1
      all_goals simp_all
     simp_all
    simp_all
   .split at hp
    .rename_i k ks' hk hp';injection hp with hp;subst hp;exact iB hc.1 hc.2 hk he hl hr λh1 h2 h3=>Ft hp' h1 h2 h3
    simp_all
  simp_all
theorem B3(hr:Rel G w a s) {op:BinOp}{t:TypeId}{x y:Operand}{yt:TypeId}{fs:Array Field}{ks:List Nat}{o:Oper}(ho:o.op=.binOp op t x y yt) (ht:P.underlying t=some (.struct fs)) (hop:op=.eql\/op=.neq)
 (h1:P.stoodInHeld t=false) (h2:P.eqGuardType P.depth t=false) (hk:Nu P fs.toList 0=some ks) (he:ia s (.ceq (decide (op=.neq)) ks x y)=some (d,m')) :
 Good G w s.m ((execOp a.eval o).run P w) d m':=by
 have hx:=hr.ev x;have hy:=hr.ev y;simp only[ia]at he;unfold execOp;simp only[ho];generalize s.ev x=dx at *;generalize s.ev y=dy at *;split at he
 .rename_i l r;simp only[VRel]at hx hy;obtain⟨xs,hx,hl,-⟩:=hx;obtain⟨ys,hy,hr',-⟩:=hy;simp only[haa,Baa]at he;obtain⟨b,hb,rfl,rfl⟩:=he;have hfo:P.fieldsOf t=fs:=by grind[Program.fieldsOf]
  have hrun:(Op.equalIn 10000 t (.agg xs.toArray) (.agg ys.toArray)).run P w=.ok b w:=by
   rw[show(10000:Nat)=9997+1+1+1 from rfl,run_equalIn_struct w _ t _ _ (by simp_all) h1,hfo];exact Ft (dep:=9997) (G:=G) (off:=0) hk hb (by simp_all) (by simp_all)
  have hg:=run_eqGuard_agg (P:=P) w op t x y xs.toArray ys.toArray h2;rcases hop with rfl|rfl
  .refine za (u:=.bool b) hr.inv ?_ (by simp[VRel])
   simp_all[run_eql_struct]
  .refine za (u:=.bool (!b)) hr.inv ?_ (by simp[VRel])
   simp_all[run_neq_struct]
 simp_all
theorem zY(hr:Rel G w a s) {t:TypeId}{x y:Operand}{o:Oper}(ho:o.op=.index t x y) (ht:P.underlying t=some .string) (he:ia s (.Cs x y)=some (d,m')) :
 Good G w s.m ((execOp a.eval o).run P w) d m':=by
 have hx:=hr.ev x;have hy:=hr.ev y;simp only[ia]at he;unfold execOp;simp only[ho];generalize s.ev x=dx at *;generalize s.ev y=dy at *;split at he
 .rename_i b jk k;split at he
  .rename_i hk;injection he with he;injection he with h1 h2;subst h1;subst h2;simp only[VRel]at hx hy;refine za (u:=.int .u8 (b[k.toNat]'hk.2).toNat) hr.inv ?_ (by simp[VRel])
   simp_all[Instr.index,asIntOf,run_underlying]
  simp_all
 simp_all
theorem wP(hr:Rel G w a s) {t:TypeId}{x:Operand}{lo hi:Option Operand}{o:Oper}(ho:o.op=.slice t x lo hi none) (ht:P.underlying t=some .string) (he:ia s (.sslice x lo hi)=some (d,m')) :
 Good G w s.m ((execOp a.eval o).run P w) d m':=by
 have hx:=hr.ev x;simp only[ia]at he;have one:∀{x:Option Operand} {dflt r:Nat},bound s dflt x=some r->(x=none/\r=dflt)\/∃y j,x=some y/\a.eval y=.int j (r:Int):=by
  intro x dflt r hb
  cases x with
  |none=>simp[bound]at hb;simp_all
  |some y=>
   have hy:=hr.ev y;simp only[bound]at hb;generalize s.ev y=dy at *;split at hb
   .rename_i j q;split at hb
    .rename_i hq;injection hb with hb;simp only[VRel]at hy
     grind
    simp_all
   simp_all
 have rb:∀(x:Value) (y:Nat) (code:BoundsCode) (j:IntKind) (r:Nat),x=.int j (r:Int)->r<=y->(Instr.sliceBound x y code).run P w=.ok r w:=λx y code j r hx hr'=>by
  have:=YF (P:=P) x y code hx (Kac r) (by omega) w
  simp_all
 unfold execOp;simp only[ho];generalize s.ev x=dx at *;split at he
 .rename_i b;split at he
  .rename_i l h hl hh;split at he
   .rename_i hc;injection he with he;injection he with h1 h2;subst h1;subst h2;simp only[VRel]at hx;refine za (u:=.string (b.extract l h)) hr.inv ?_ (by simp[VRel]);rcases one hl with⟨rfl,rfl⟩|⟨yl,jl,rfl,el⟩<;>rcases one hh with⟨rfl,rfl⟩|⟨yh,jh,rfl,eh⟩
    all_goals simp_all[Instr.sliceAt,Instr.slice,Instr.sliceBounds,run_underlying]
   simp_all
  simp_all
 simp_all
theorem uG(w:World) (b n k:Nat) (p:Addr):(w.freeze ⟨b,n,none⟩ k).cell? p=w.cell? p:=by
 grind[World.freeze,World.cell?]
theorem qz(w:World) (b n k j:Nat) (h:j≠b):(w.freeze ⟨b,n,none⟩ k).heap[j]?=w.heap[j]?:=by
 grind[World.freeze]
theorem aJ(w:World) (b n k:Nat):(w.freeze ⟨b,n,none⟩ k).heap.size=w.heap.size:=by
 grind[World.freeze]
theorem UI(w:World) (b n k:Nat):(w.freeze ⟨b,n,none⟩ k).os=w.os/\(w.freeze ⟨b,n,none⟩ k).tape=w.tape/\(w.freeze ⟨b,n,none⟩ k).output=w.output:=by
 unfold World.freeze
 grind
def Gh.fz(G:Gh) (id:Nat):Gh:={ G with F:=λb=>G.F b\/G.B id=some b,V:=λi=>if i=id then G.V i+1 else G.V i }
theorem Le.fzW{G:Gh}{w w':World}(id:Nat) (h:∀b,G.F b->w'.heap[b]?=w.heap[b]?):Le G w (G.fz id) w':=by
 refine⟨λ_ h=>.inl h,h,saa _,λi _=>?_⟩
 grind[Gh.fz]
theorem JM{G:Gh}{w w':World}{m:List Ent}(hi:Inv G w m) {id:Nat}{e:Ent}(hm:m[id]?=some e) (hl:e.isLive=true)
 (hos:w'.os=w.os) (htape:w'.tape=w.tape) (hout:w'.output=w.output) (hsize:w'.heap.size=w.heap.size) (hkeep:∀k,G.B id≠some k->w'.heap[k]?=w.heap[k]?) :
 Inv (G.fz id) w' (m.set id .gone)/\Step G w m (G.fz id) w' (m.set id .gone):=by
 have hle:Le G w (G.fz id) w':=Le.fzW id λb hb=>hkeep b λh=>((hi.ent id e hm).lt hl h).2 hb;have hget:∀i x,(m.set id .gone)[i]?=some x->(i=id/\x=.gone)\/(i≠id/\m[i]?=some x):=by
  grind
 refine⟨⟨by simp[Gh.fz,hi.n],?_,?_,?_,hi.gl.mono hle⟩,⟨hle,hos,htape,hout,by omega,?_,?_,?_⟩⟩
 .rintro b (h|h)
  .rw[hsize];exact hi.F b h
  .rw[hsize];exact((hi.ent _ _ hm).lt hl h).1
 .intro i x hx;rcases hget i x hx with⟨rfl,rfl⟩|⟨hne,hx'⟩
  .trivial
  .by_cases hlx:x.isLive=true
   .refine(hi.ent i x hx').mono hle (by grind[Gh.fz]) (λb hb=>hkeep b λh=>hne (hi.apart i id x e hx' hm hlx hl b hb h)) ?_;rintro b hb _ (h|h)
    .exact h
    .exact(hne (hi.apart i id x e hx' hm hlx hl b hb h)).elim
   .cases x with
    |gone=>trivial
    |_=>grind[Ent.isLive]
 .intro i j x y hx hy lx ly b hb hb';rcases hget i x hx with⟨rfl,rfl⟩|⟨_,hx'⟩
  .cases lx
  .rcases hget j y hy with⟨rfl,rfl⟩|⟨_,hy'⟩
   .cases ly
   .exact hi.apart i j x y hx' hy' lx ly b hb hb'
 .intro b _ ho;exact hkeep b λh=>ho ⟨id,e,hm,hl,h⟩
 .rintro b _ (h|h)
  .simp_all
  .exact .inr ⟨id,e,hm,hl,h⟩
 .rintro b _ ⟨i,x,hx,lx,hB⟩;rcases hget i x hx with⟨rfl,rfl⟩|⟨_,hx'⟩
  .cases lx
  .exact⟨i,x,hx',lx,hB⟩
theorem KR{G G':Gh}{w w':World}{d:D}{u:Value}(h:isV d=true) (hv:VRel G w d u):VRel G' w' d u:=by
 cases d<;>simp[isV]at h;simpa [VRel] using hv
theorem CY(hr:Rel G w a s) {t e:TypeId}{S:Nat}{x:Operand}{o:Oper}(ho:o.op=.convert t t x) (ht:P.underlying t=some (.slice e)) (hu:P.underlying e=some (.int .u8)) (he:ia s (.strb S x)=some (d,m')) :
 Good G w s.m ((execOp a.eval o).run P w) d m':=by
 have hx:=hr.ev x;simp only[ia]at he;generalize s.ev x=dx at *;split at he
 .rename_i id Ja;split at he
  .rename_i S ver' l hm;split at he
   .rename_i hc;obtain⟨rfl,rfl,hpos,hv⟩:=hc;injection he with he;injection he with h1 h2;subst h1;subst h2;simp only[VRel]at hx;obtain⟨p,n,c,hp,hid,hver,hx⟩:=hx;have hinv:=hr.inv;obtain⟨a1,a2,a3,a4,a5⟩:=hinv.ent _ _ hm;obtain⟨rfl,rfl,rfl⟩:=hx a1;rcases a5 with a5|⟨b,cs,T,hb,hF,hblk,hsz,hrow⟩
    .simp_all
    .rw[hb]at hp;have hp':a.eval x=.slice (some ⟨b,(G.C id).2,none⟩) (G.N id) (G.C id).1:=hp;have hshape:w.shape? b=some (T,cs.size):=by grind[World.shape?]
     have hrun:(execOp a.eval o).run P w=.ok (.value (a.eval x)) (w.freeze ⟨b,cs.size,none⟩ 1):=by
      simp_all[execOp,convert,markStringish,run_underlying]
     obtain⟨r1,r2,r3⟩:=UI w b cs.size 1;obtain⟨g1,g2⟩:=JM (w':=w.freeze ⟨b,cs.size,none⟩ 1) hinv hm rfl r1 r2 r3 (aJ _ _ _ _) λk hk=>qz w b _ _ k λh=>hk (by simp_all);refine⟨_,_,_,hrun,.inl ⟨_,rfl,?_⟩,g1,g2⟩;rw[hp'];simp only[VRel];refine⟨_,_,_,rfl,a3,by omega,.inr ⟨b,(G.C id).2,rfl,.inr hb,td.2 λi e he=>?_⟩⟩;obtain⟨u,k1,k2,k3⟩:=td.1 hrow i e he;exact⟨u,KR (List.all_eq_true.1 hv e (List.mem_of_getElem? he)) k1,k2,λj c hj=>⟨(k3 j c hj).1,by rw[uG];exact(k3 j c hj).2⟩⟩
   simp_all
  simp_all
 simp_all
theorem vz{t:TypeId}{K:Nat}(h:Ep P t=some K):(K=0/\P.underlying t=some (.int .i64))\/(K=2/\P.underlying t=some .string):=by
 grind[Ep]
theorem run_checkKey{t:TypeId}{K:Nat}(h:Ep P t=some K) {kv:Value}(hk:isKey K kv=true) (b:Bool) (w:World):(Instr.checkKey b 10000 t kv).run P w=.ok () w:=by
 rw[show(10000:Nat)=9999+1 from rfl,Instr.checkKey];rcases vz h with⟨rfl,ht⟩|⟨rfl,ht⟩
 all_goals simp_all[run_underlying]
theorem OQ{t:TypeId}{K:Nat}(h:Ep P t=some K) {p q:Value}(hp:isKey K p=true) (hq:isKey K q=true):∃ds,P.underlying t=some ds/\Instr.sameNow ds p q=some (aw p q):=by
 rcases vz h with⟨rfl,ht⟩|⟨rfl,ht⟩
 .refine⟨_,ht,?_⟩;cases p<;>simp[isKey]at hp;cases q<;>simp[isKey]at hq
  grind[Instr.sameNow,aw]
 .refine⟨_,ht,?_⟩;cases p<;>simp[isKey]at hp;cases q<;>simp[isKey]at hq;simp[Instr.sameNow,aw]
theorem cD{t:TypeId}{K:Nat}(h:Ep P t=some K) {kv:Value}(hk:isKey K kv=true) {ds:TypeDesc}(hds:P.underlying t=some ds):∀{es:List (Value×D)}{en:List MapEntry}(i:Nat),(es.all λe=>isKey K e.1)=true->nd G w es en->
 (Fx kv es=none/\Instr.findNow ds kv en i=some none)\/∃d j e,Fx kv es=some d/\Instr.findNow ds kv en i=some (some (i+j,e.val))/\en[j]?=some e/\VRel G w d e.val/\aw kv e.key=true/\isKey K e.key=true/\
  ∀(G':Gh) (w':World) (x:D) (u:Value),nd G' w' es en->VRel G' w' x u->nd G' w' (VE kv x es) (en.modify j λe=>{ e with key:=kv,val:=u })
 |[],en,i,_,hm=>by
  simp only[nd]at hm;subst hm;exact .inl ⟨rfl,rfl⟩
 |(q,d)::es,en,i,hall,hm=>by
  simp only[nd]at hm;obtain⟨e,r,rfl,rfl,hv,hm⟩:=hm;simp only[List.all_cons,Bool.and_eq_true]at hall;obtain⟨ds',hds',hsn⟩:=OQ h hk hall.1;rw[hds]at hds';injection hds' with hds';subst hds';simp only[Fx,Instr.findNow,hsn];by_cases hkq:aw kv e.key=true
  .rw[if_pos hkq,hkq];refine .inr ⟨d,0,e,rfl,rfl,rfl,hv,hkq,hall.1,λG' w' x u hm' hx=>?_⟩;simp only[VE,if_pos hkq,List.modify_zero_cons,nd]at hm'⊢
   grind
  .have hf:aw kv e.key=false:=by simp_all
   rw[if_neg hkq,hf];simp only;rcases cD h hk hds (i+1) hall.2 hm with⟨h1,h2⟩|⟨d',j,e',h1,h2,h3,h4,h5,h5',h6⟩
   .simp_all
   .refine .inr ⟨d',j+1,e',h1,by grind,by simp_all,h4,h5,h5',λG' w' x u hm' hx=>?_⟩;simp only[VE,if_neg hkq,List.modify_succ_cons,nd]at hm'⊢
    grind
theorem Gx{kv:Value}{x:D}:∀{es:List (Value×D)},Fx kv es=none->VE kv x es=es++[(kv,x)]
 |[],_=>rfl
 |(q,d)::es,h=>by
  simp only[Fx]at h;split at h
  .cases h
  .rename_i hk;simp only[VE,if_neg hk,Gx h,Naa]
theorem yB{G:Gh}{w:World}{kv:Value}{x:D}{u:Value}{b:Nat}(hx:VRel G w x u):∀{es:List (Value×D)}{en:List MapEntry},nd G w es en->nd G w (es++[(kv,x)]) (en++[⟨kv,u,b⟩])
 |[],en,h=>by
  simp only[nd]at h;subst h;simp only[List.nil_append,nd]
  grind
 |(q,d)::es,en,h=>by
  simp only[nd]at h;obtain⟨e,r,rfl,h1,h2,h3⟩:=h;simp only[Naa,nd];exact⟨e,_,rfl,h1,h2,yB hx h3⟩
theorem kT(hr:Rel G w a s) {t:TypeId}{o:Oper}(ho:o.op=.makeMap t none) (he:ia s .mkmap=some (d,m')):Good G w s.m ((execOp a.eval o).run P w) d m':=by
 simp only[ia]at he;injection he with he;injection he with h1 h2;subst h1;subst h2;have hblk:(w.alloc (.map #[] 0)).heap[w.heap.size]?=some (.map #[] 0):=heap_alloc_new w _;obtain⟨g1,g2⟩:=My (w':=w.alloc (.map #[] 0)) hr.inv (some w.heap.size) 0 0 0 (.mp []) rfl rfl rfl rfl (by simp) (λk hk=>Below.heap_alloc _ _ _ hk) (λk h=>by simp_all)
  ⟨by simp[Gh.add],w.heap.size,#[],0,by simp[Gh.add],λhF=>by have:=hr.inv.F _ hF;omega,hblk,by simp[nd]⟩
 refine⟨.value (.map (some w.heap.size)),_,_,?_,.inl ⟨_,rfl,?_⟩,g1,g2⟩
 .simp_all[execOp,Instr.makeMap]
 .simp only[VRel];exact⟨w.heap.size,rfl,by simp[Gh.add,hr.inv.n],λ_=>by simp[Gh.add,hr.inv.n]⟩
theorem run_findKey{t:TypeId}{K:Nat}(h:Ep P t=some K) {kv:Value}{en:List MapEntry}{ds:TypeDesc}(hds:P.underlying t=some ds) {r:Option (Nat×Value)}(hf:Instr.findNow ds kv en 0=some r) (w:World) :
 (Instr.findKey t kv en).run P w=.ok r w:=by
 simp_all[Instr.findKey,run_underlying]
theorem lT(hr:Rel G w a s) {t kt et:TypeId}{K:Nat}{ok:Bool}{z:Value}{x k:Operand}{o:Oper}(ho:o.op=.lookup t x k ok) (ht:P.underlying t=some (.map kt et)) (hK:Ep P kt=some K) (hz:zeroOf P et=some z)
 (he:ia s (.mlook K ok (leaf z) x k)=some (d,m')):Good G w s.m ((execOp a.eval o).run P w) d m':=by
 have hx:=hr.ev x;have hk:=hr.ev k;obtain⟨hz1,hz2,hz3,-⟩:=ck hz w;simp only[ia]at he;unfold execOp;simp only[ho];generalize s.ev x=dx at *;generalize s.ev k=dk at *;split at he
 .rename_i kv;simp only[VRel]at hk;split at he
  .rename_i hkey;have hck:=λb=>run_checkKey hK hkey b w;have hds:∃ds,P.underlying kt=some ds:=by grind[vz]
   obtain⟨ds,hds⟩:=hds;have fin:∀(u:Value) (e:D) (b:Bool),VRel G w e u->some (if ok=true then D.tup [e,.v (.bool b)]else e,s.m)=some (d,m')->
    (Sem.run P (do let r←Instr.lookup t (a.eval x) kv ok;pure (Next.value r)) w=.ok (.value (if ok=true then .tuple #[u,.bool b]else u)) w)->Good G w s.m (Sem.run P (do let r←Instr.lookup t (a.eval x) kv ok;pure (Next.value r)) w) d m':=by
    intro u e b hv hd hrun;injection hd with hd;injection hd with h1 h2;subst h1;subst h2;refine za hr.inv hrun ?_
    cases ok with
    |true=>
     simp only[if_true,VRel];refine⟨[u,.bool b],rfl,?_⟩;simp only[VsRel];exact⟨u,_,rfl,hv,_,_,rfl,by simp[VRel],rfl⟩
    |false=>simp_all
   rw[hk];split at he
   .simp only[VRel]at hx;refine fin z (leaf z) false (ju z hz2) he ?_;rw[hx];have hf:Instr.findNow ds kv [] 0=some none:=rfl
    simp_all[Instr.lookup,run_underlying,run_findKey]
   .rename_i id;split at he
    .rename_i es hm;split at he
     .rename_i hall;simp only[VRel]at hx;obtain⟨b,hxv,hid,hb⟩:=hx;obtain⟨a1,b',en,cl,a2,a3,a4,a5⟩:=hr.inv.ent _ _ hm;rw[hb a1]at a2;injection a2 with a2;subst a2;rcases cD hK hkey hds 0 hall a5 with⟨h1,h2⟩|⟨d',j,e',h1,h2,h3,h4,h5,h5',h6⟩
      .rw[h1]at he;refine fin z (leaf z) false (ju z hz2) he ?_;rw[hxv];simp[Instr.lookup,run_underlying ht,getObj,Sem.run,a4,hck,run_findKey hK hds h2,hz1]
      .rw[h1]at he;refine fin e'.val d' true h4 he ?_;rw[hxv];simp[Instr.lookup,run_underlying ht,getObj,Sem.run,a4,hck,run_findKey hK hds h2]
     simp_all
    simp_all
   simp_all
  simp_all
 simp_all
theorem nY(hr:Rel G w a s) {t kt et:TypeId}{x:Operand}{o:Oper}(ho:o.op=.call { callee:=.builtin .len,args:=#[x],argTypes:=#[t] })
 (ht:P.underlying t=some (.map kt et)) (he:ia s (.mlen x)=some (d,m')):Good G w s.m ((execOp a.eval o).run P w) d m':=by
 have hx:=hr.ev x;simp only[ia]at he;unfold execOp;simp only[ho];generalize s.ev x=dx at *;split at he
 .injection he with he;injection he with h1 h2;subst h1;subst h2;simp only[VRel]at hx;refine za (u:=.int .i64 0) hr.inv ?_ (by simp[VRel])
  simp_all[resolve,invoke,builtin,Builtin.len_,goInt,run_underlying]
 .rename_i id;split at he
  .rename_i es hm;injection he with he;injection he with h1 h2;subst h1;subst h2;simp only[VRel]at hx;obtain⟨b,hxv,hid,hb⟩:=hx;obtain⟨a1,b',en,cl,a2,a3,a4,a5⟩:=hr.inv.ent _ _ hm;rw[hb a1]at a2;injection a2 with a2;subst a2;have hlen:en.size=es.length:=by
    have:∀{es:List (Value×D)} {en:List MapEntry},nd G w es en->en.length=es.length:=by
     intro es
     induction es with
     |nil=>intro en h;simp only[nd]at h;grind
     |cons p es ih=>
      intro en h;obtain⟨k,d⟩:=p;simp only[nd]at h
      grind
    grind
   refine za (u:=.int .i64 es.length) hr.inv ?_ (by simp[VRel])
   simp_all[resolve,invoke,builtin,Builtin.len_,goInt,getObj,Sem.run,run_underlying]
  simp_all
 simp_all
theorem qB{K:Nat}{v:Value}(h:isKey K v=true):(∃a,v=.int .i64 a)\/∃b,v=.string b:=by
 unfold isKey at h
 grind
theorem bytes_beq{b c:ByteArray}(h:(b==c)=true):b=c:=by
 cases b with|mk b=>cases c with|mk c=>
  have h':(b==c)=true:=h
  simp_all
theorem lH{K:Nat}{p q:Value}(hp:isKey K p=true) (hq:isKey K q=true) (h:aw p q=true):Instr.sameBits 10000 q p=true:=by
 rcases qB hp with⟨a,rfl⟩|⟨a,rfl⟩<;>rcases qB hq with⟨b,rfl⟩|⟨b,rfl⟩<;>simp only[aw,Bool.false_eq_true]at h
 all_goals grind[Instr.sameBits,bytes_beq]
theorem pY(hr:Rel G w a s) {t kt et:TypeId}{K:Nat}{m k x:Operand}{o:Oper}(ho:o.op=.mapUpdate t m k x) (ht:P.underlying t=some (.map kt et)) (hK:Ep P kt=some K)
 (he:ia s (.mput K m k x)=some (d,m')):Good G w s.m ((execOp a.eval o).run P w) d m':=by
 have hx:=hr.ev x;have hk:=hr.ev k;have hmv:=hr.ev m;simp only[ia]at he;unfold execOp;simp only[ho];generalize s.ev x=dx at *;generalize s.ev k=dk at *;generalize s.ev m=dm at *;split at he
 .rename_i kv id;split at he
  .rename_i es hm;split at he
   .rename_i hc;obtain⟨hkey,hall⟩:=hc;injection he with he;injection he with h1 h2;subst h1;subst h2;simp only[VRel]at hk hmv;obtain⟨b,hxv,hid,hb⟩:=hmv;obtain⟨a1,b',en,cl,a2,a3,a4,a5⟩:=hr.inv.ent _ _ hm;rw[hb a1]at a2;injection a2 with a2;subst a2;have hblt:b<w.heap.size:=(oac.1 a4).1;have hck:=λc=>run_checkKey hK hkey c w;have hds:∃ds,P.underlying kt=some ds:=by grind[vz]
    obtain⟨ds,hds⟩:=hds;have fin:∀(en':Array MapEntry) (cl':Nat),(∀G' w',Le G w G' w'->nd G' w' (VE kv dx es) en'.toList)->(Instr.mapUpdate t (.map (some b)) kv (a.eval x)).run P w=.ok () { w with heap:=w.heap.setIfInBounds b (.map en' cl') }->
     Good G w s.m (Sem.run P (do Instr.mapUpdate t (a.eval m) (a.eval k) (a.eval x);pure Next.skip) w) .dead (s.m.set id (.mp (VE kv dx es))):=by
     intro en' cl' hrel hrun;have hother:∀j,j≠b->({ w with heap:=w.heap.setIfInBounds b (.map en' cl') }:World).heap[j]?=w.heap[j]?:=λj hj=>by
      grind
     have hself:({ w with heap:=w.heap.setIfInBounds b (.map en' cl') }:World).heap[b]?=some (.map en' cl'):=by
      simp_all
     have hle:Le G w G { w with heap:=w.heap.setIfInBounds b (.map en' cl') }:=⟨λ_ h=>h,λj hj=>hother j λh=>a3 (h▸hj),saa _,λ_ _=>.inl ⟨rfl,rfl,rfl,rfl,rfl⟩⟩;have key:=He (w':={ w with heap:=w.heap.setIfInBounds b (.map en' cl') }) hr.inv (e':=.mp (VE kv dx es)) hm rfl rfl (G.B id) (G.V id) (G.N id) (G.C id) (.inr ⟨rfl,rfl,rfl,rfl⟩) rfl rfl rfl
      (by simp) (λj _ hj=>hother j λh=>hj (by simp_all)) (λj hj=>.inl hj)
      (by rw[vu];exact⟨a1,b,en',cl',hb a1,a3,hself,hrel _ _ hle⟩)
     rw[vu]at key;refine⟨_,_,G,?_,.inr ⟨rfl,rfl⟩,key.1,key.2⟩
     simp_all
    rcases cD hK hkey hds 0 hall a5 with⟨h1,h2⟩|⟨d',j,e',h1,h2,h3,h4,h5,h5',h6⟩
    .refine fin (en.push ⟨kv,a.eval x,cl⟩) (cl+1) (λG' w' hle=>?_) ?_
     .rw[Gx h1,Array.toList_push];exact yB (hx.mono hle) (a5.mono hle)
     simp_all[Instr.mapUpdate,getObj,setObj,Sem.run,run_underlying,run_findKey]
    .refine fin (en.modify j λe=>{ e with key:=kv,val:=a.eval x }) cl (λG' w' hle=>?_) ?_
     .rw[Array.toList_modify];exact h6 G' w' dx (a.eval x) (a5.mono hle) (hx.mono hle)
     .have hej:en[j]?=some e':=by simp_all
      have hsb:=lH hkey h5' h5
      simp_all[Instr.mapUpdate,getObj,setObj,Sem.run,Instr.keyThatStays,run_underlying,run_findKey]
   simp_all
  simp_all
 simp_all
theorem fR{α:Type}{l:List α}{i:Nat}{x:α}(h:l[i]?=some x):l.set i x=l:=by
 apply List.ext_getElem?
 grind
theorem jT(hr:Rel G w a s) {t:TypeId}{x:Operand}{o:Oper}(ho:o.op=.makeInterface t x) (hc:∃i,P.underlying t=some i/\∀ms,i≠.interface ms)
 (he:ia s (.mkifc t x)=some (d,m')):Good G w s.m ((execOp a.eval o).run P w) d m':=by
 simp only[ia]at he;injection he with he;injection he with h1 h2;subst h1;subst h2;obtain⟨i,ht,hi⟩:=hc;refine za (u:=.iface t (a.eval x)) hr.inv ?_ (by simp only[VRel];exact⟨_,rfl,hr.ev x⟩);unfold execOp;simp only[ho];cases i<;>first|exact(hi _ rfl).elim|simp[Instr.makeInterface,run_underlying ht]
theorem HM(hr:Rel G w a s) {xt t:TypeId}{ok:Bool}{z:Value}{x:Operand}{o:Oper}(ho:o.op=.typeAssert x xt t ok) (hc:∃i,P.underlying t=some i/\∀ms,i≠.interface ms)
 (hz:zeroOf P t=some z) (he:ia s (.tassert ok t (leaf z) x)=some (d,m')):Good G w s.m ((execOp a.eval o).run P w) d m':=by
 have hx:=hr.ev x;simp only[ia]at he;generalize s.ev x=dx at *;obtain⟨i,ht,hi⟩:=hc;obtain⟨hz1,hz2,-,-⟩:=ck hz w;split at he
 .rename_i t' e;simp only[VRel]at hx;obtain⟨u,hu,hv⟩:=hx;have hrun:∀r,(Instr.typeAssert (.iface t' u) xt t ok).run P w=r->(execOp a.eval o).run P w=r.andThen λv w=>.ok (.value v) w:=by
   simp_all[execOp]
  split at he
  .rename_i htt;subst htt;injection he with he;injection he with h1 h2;subst h1;subst h2;have:(Instr.typeAssert (.iface t' u) xt t' ok).run P w=.ok (if ok=true then .tuple #[u,.bool true]else u) w:=by
    cases i<;>first|exact(hi _ rfl).elim|(cases ok<;>simp[Instr.typeAssert,run_underlying ht])
   refine za hr.inv (hrun _ this) ?_
   cases ok with
   |true=>
    simp only[if_true,VRel];refine⟨[u,.bool true],rfl,?_⟩;simp only[VsRel];exact⟨u,_,rfl,hv,_,_,rfl,by simp[VRel],rfl⟩
   |false=>simp_all
  .rename_i htt;split at he
   .rename_i hok;subst hok;injection he with he;injection he with h1 h2;subst h1;subst h2;have:(Instr.typeAssert (.iface t' u) xt t true).run P w=.ok (.tuple #[z,.bool false]) w:=by
     cases i<;>first|exact(hi _ rfl).elim|simp[Instr.typeAssert,run_underlying ht,htt,hz1]
    refine za hr.inv (hrun _ this) ?_;simp only[VRel];refine⟨[z,.bool false],rfl,?_⟩;simp only[VsRel];exact⟨z,_,rfl,ju z hz2,_,_,rfl,by simp[VRel],rfl⟩
   simp_all
 simp_all
theorem eY(hr:Rel G w a s) {t e:TypeId}{x:Operand}{o:Oper}(ho:o.op=.call { callee:=.builtin .cap,args:=#[x],argTypes:=#[t] })
 (ht:P.underlying t=some (.slice e)) (he:ia s (.capn x)=some (d,m')):Good G w s.m ((execOp a.eval o).run P w) d m':=by
 have hx:=hr.ev x;simp only[ia]at he;generalize s.ev x=dx at *;split at he
 .injection he with he;injection he with h1 h2;subst h1;subst h2;simp only[VRel]at hx;refine za (u:=.int .i64 0) hr.inv ?_ (by simp[VRel]);unfold execOp;simp only[ho];simp[resolve,invoke,builtin,Builtin.cap_,hx,run_underlying ht];rfl
 simp_all
theorem iF{t e:TypeId}(ht:P.underlying t=some (.slice e)) (a:Option Addr) (n c:Nat) (w:World):(Op.equal t (.slice a n c) (.slice none 0 0)).run P w=.ok a.isNone w:=by
 unfold Op.equal Op.maxDepth;rw[show(10000:Nat)=9999+1 from rfl,Op.equalIn];simp only[Sem.run_bind,run_underlying ht,Result.andThen_ok];cases a<;>rfl
theorem rI(op:BinOp) (t:TypeId) (x y:Operand) (p q:Option Addr) (n c k l:Nat) (w:World):(eqGuard op t x y (.slice p n c) (.slice q k l)).run P w=.ok () w:=by
 simp_all[eqGuard]
theorem WK(hr:Rel G w a s) {op:BinOp}{t e yt:TypeId}{x:Operand}{neg:Bool}{o:Oper}(ho:o.op=.binOp op t x (.const (.slice none 0 0)) yt)
 (ht:P.underlying t=some (.slice e)) (hop:(op=.eql/\neg=false)\/(op=.neq/\neg=true)) (he:ia s (.Mr neg x)=some (d,m')):Good G w s.m ((execOp a.eval o).run P w) d m':=by
 have hx:=hr.ev x;simp only[ia]at he;have hrun:∀(p:Option Addr) (n c:Nat),a.eval x=.slice p n c->(execOp a.eval o).run P w=.ok (.value (.bool (p.isNone !=neg))) w:=by
  intro p n c h;unfold execOp;simp only[ho];have hc:a.eval (.const (.slice none 0 0))=.slice none 0 0:=rfl;rcases hop with⟨rfl,rfl⟩|⟨rfl,rfl⟩<;>simp[h,hc,binOp,iF ht,rI]
 generalize s.ev x=dx at *;split at he
 .injection he with he;injection he with h1 h2;subst h1;subst h2;simp only[VRel]at hx;exact za hr.inv (hrun _ _ _ hx) (by simp[VRel])
 .injection he with he;injection he with h1 h2;subst h1;subst h2;simp only[VRel]at hx;obtain⟨p,n,c,hx,-,-,hp⟩:=hx;rcases hp with hp|⟨b,off,rfl,-⟩
  .grind
  .exact za hr.inv (hrun _ _ _ hx) (by simp[VRel])
 .rename_i id Ja;simp only[VRel]at hx;obtain⟨p,n,c,hx,-,-,hf⟩:=hx;split at he
  .rename_i S ver' e l hm;split at he
   .rename_i hver;injection he with he;injection he with h1 h2;subst h1;subst h2;subst hver;have hent:=hr.inv.ent _ _ hm;simp only[Xm]at hent;obtain⟨g1,-,-,g4,g5⟩:=hent;obtain⟨ha,-,-⟩:=hf g1;rcases g5 with⟨-,g5⟩|⟨b,cs,T,hb,-⟩
    .simp_all
    .rw[hb]at ha;simp only[Option.map_some]at ha;subst ha;exact za hr.inv (hrun _ _ _ hx) (by simp[VRel])
   simp_all
  simp_all
 simp_all
theorem C3(hr:Rel G w a s) {t e:TypeId}{z:Value}{x:Operand}{o:Oper}(ho:o.op=.call { callee:=.builtin .clear,args:=#[x],argTypes:=#[t] })
 (ht:P.underlying t=some (.slice e)) (hz:zeroOf P e=some z) (he:ia s (.clr z.cells.size (leaf z) x)=some (d,m')):Good G w s.m ((execOp a.eval o).run P w) d m':=by
 have hx:=hr.ev x;simp only[ia]at he;generalize s.ev x=dx at *;obtain⟨hz1,hz2,hz3,-⟩:=ck hz w;have hrun0:∀(p:Option Addr) c,a.eval x=.slice p 0 c->(execOp a.eval o).run P w=.ok (.value (.tuple #[])) w:=by
  intro p c h;unfold execOp;simp only[ho];cases p<;>simp[resolve,invoke,builtin,Builtin.clear_,h,run_underlying ht]
 split at he
 .injection he with he;injection he with h1 h2;subst h1;subst h2;simp only[VRel]at hx;exact za hr.inv (hrun0 _ _ hx) (by simp[VRel])
 .rename_i id Ja lo n;split at he
  .rename_i S ver' l hm;split at he
   .rename_i hc;obtain⟨rfl,rfl,hlo⟩:=hc;injection he with he;injection he with h1 h2;subst h1;subst h2;simp only[VRel]at hx;obtain⟨p,c,hp,hnc,hid,hver,hx⟩:=hx;obtain⟨a1,a2,a3,a4,a5⟩:=hr.inv.ent _ _ hm;by_cases hn:n=0
    .subst hn;have hl:l.take lo++jaa 0 (leaf z)++l.drop (lo+0)=l:=by simp
     rw[hl,fR hm];exact za hr.inv (hrun0 _ _ hp) (by simp[VRel])
    .rcases hx a1 with hx|⟨b,hb,rfl⟩
     .omega
     rw[a2]at hp;rcases a5 with a5|⟨b',cs,T,hb',hF,hblk,hsz,hrow⟩
     .simp_all
     rw[hb]at hb';injection hb' with hb';subst hb';have hin:=ts hblk hrow;have hfit:lo*z.cells.size+(G.C id).2+n*z.cells.size<=cs.size:=by
      have h1:=Gaa z.cells.size (show lo+n<=(G.C id).1 by omega)
      grind
     obtain⟨zs,hzs⟩:∃zs,zs=Builtin.zeroCells z.cells n:=⟨_,rfl⟩;have hzn:zs.toList.length=n*z.cells.size:=by grind[size_zeroCells]
     have hzrow:Ze G w z.cells.size (jaa n (leaf z)) zs:=by rw[hzs];exact nq hz2 n
     have hz1':∀v∈zs.toList,one v=true:=by
      intro v hv;rw[hzs]at hv;simp only[Builtin.zeroCells,zad,List.mem_map]at hv;obtain⟨k,-,rfl⟩:=hv
      grind[yac]
     have hst:=run_storeCells_at P b (lo*z.cells.size+(G.C id).2) T zs.toList 0 cs w hblk (by omega) (λv hv=>by grind[iK]);simp only[kac]at hst;obtain⟨cs',hcs'⟩:∃cs':Array Value,cs'=(cs.toList.take (lo*z.cells.size+(G.C id).2)++zs.toList++cs.toList.drop (lo*z.cells.size+(G.C id).2+zs.toList.length)).toArray:=⟨_,rfl⟩;rw[←hcs']at hst;have hget:∀k,cs'[k]?=if lo*z.cells.size+(G.C id).2<=k/\k<lo*z.cells.size+(G.C id).2+n*z.cells.size then zs[k-(lo*z.cells.size+(G.C id).2)]? else cs[k]?:=by
      intro k;rw[hcs',Cab,Es _ _ _ _ (by simp_all),hzn];simp
     have hsz':cs'.size=cs.size:=by
      grind
     have run:(execOp a.eval o).run P w=.ok (.value (.tuple #[])) (w.setRow b cs'):=by
      unfold execOp;simp only[ho];rw[hzs]at hst;obtain⟨n',rfl⟩:∃n',n=n'+1:=⟨n-1,by omega⟩
      simp_all[resolve,invoke,builtin,Builtin.clear_,run_underlying]
     have hkeep:∀k,G.B id≠some k->(w.setRow b cs').heap[k]?=w.heap[k]?:=λk hk=>setRow_other w b k cs' λh=>hk (by simp_all);have hle:Le G w G (w.setRow b cs'):=⟨λ_ h=>h,λk hk=>hkeep k λh=>by simp_all,saa _,λ_ _=>.inl ⟨rfl,rfl,rfl,rfl,rfl⟩⟩;have hblk':=setRow_heap w b cs cs' T (0,0) hblk;clear hst hcs';have hrow':Ze G (w.setRow b cs') z.cells.size (l.take lo++jaa n (leaf z)++l.drop (lo+n)) cs' (G.C id).2:=by
      intro k e' he';have hlt:k<lo\/(lo<=k/\k<lo+n)\/lo+n<=k:=by omega
      have hmul:∀{p q:Nat},p<q->p*z.cells.size+z.cells.size<=q*z.cells.size:=λ{p q} h=>by
       have:=Gaa z.cells.size (show p+1<=q from h)
       grind
      have hadd:(lo+n)*z.cells.size=lo*z.cells.size+n*z.cells.size:=Zab _ _ _;rcases hlt with h|⟨h,h'⟩|h
      .rw[kab,List.getElem?_append_left (by grind),List.getElem?_take_of_lt h]at he';obtain⟨u,k1,k2,k3⟩:=hin k e' he';refine⟨u,k1.mono hle,k2,λj c hj=>⟨(k3 j c hj).1,?_⟩⟩
       grind
      .have he2:(jaa n (leaf z))[k-lo]?=some e':=by
        grind
       obtain⟨u,k1,k2,k3⟩:=hzrow (k-lo) e' he2;refine⟨u,k1.mono hle,k2,λj c hj=>⟨(k3 j c hj).1,?_⟩⟩;have hj':j<z.cells.size:=by grind
       have h1:=hmul (show k-lo<n by omega);have h2:k*z.cells.size=lo*z.cells.size+(k-lo)*z.cells.size:=by rw[←Zab];simp_all
       rw[hget,if_pos (by omega),show k*z.cells.size+j+(G.C id).2-(lo*z.cells.size+(G.C id).2)=(k-lo)*z.cells.size+j by omega]
       simp_all
      .have he2:l[k]?=some e':=by
        rw[List.getElem?_append_right (by grind),rad]at he'
        grind
       obtain⟨u,k1,k2,k3⟩:=hin k e' he2;refine⟨u,k1.mono hle,k2,λj c hj=>⟨(k3 j c hj).1,?_⟩⟩
       grind
     have hlen:(l.take lo++jaa n (leaf z)++l.drop (lo+n)).length=l.length:=by grind
     have hent:Xm G (w.setRow b cs') id (.live z.cells.size (G.V id) (l.take lo++jaa n (leaf z)++l.drop (lo+n))):=
      ⟨rfl,a2,by omega,by omega,.inr ⟨b,cs',T,hb,hF,hblk',by omega,cj hblk' hrow'⟩⟩
     have key:=He (w':=w.setRow b cs') hr.inv (e':=.live z.cells.size (G.V id) (l.take lo++jaa n (leaf z)++l.drop (lo+n))) hm rfl rfl (G.B id) (G.V id) (G.N id) (G.C id) (.inr ⟨rfl,rfl,rfl,rfl⟩) rfl rfl rfl
      (by simp) (λk _ hk=>hkeep k hk) (λk hk=>.inl hk) (by grind[vu])
     rw[vu]at key;rw[a1]at key;exact⟨_,_,G,run,.inl ⟨_,rfl,by simp[VRel]⟩,key.1,key.2⟩
   simp_all
  simp_all
 simp_all
end
open Go.RowKit (Below)
section
variable {P:Program} {G:Gh} {w:World} {a:Act} {s:St} {d:D} {m':List Ent}
theorem mV{o:Oper}{i:I}(hc:zF P o.op=some i) (hr:Rel G w a s) (he:ia s i=some (d,m')):Good G w s.m ((execOp a.eval o).run P w) d m':=by
 unfold zF at hc;split at hc
 case h_1 x ho=>grind[M3]
 case h_2 x ho=>simp_all[M3]
 case h_3 c x y ho=>grind[uY]
 case h_4 t ho=>
  simp only[haa]at hc;obtain⟨z,hz,rfl⟩:=hc
  grind[YS]
 case h_5 t x ho=>grind[A3]
 case h_6 t ps ho=>
  split at hc
  .rename_i fs z ht hz;split at hc
   .rename_i places hp;simp only[haa]at hc;obtain⟨qs,hq,rfl⟩:=hc
    grind[ZS]
   simp_all
  .rename_i n e z ht hz;simp only[haa]at hc;obtain⟨i,hi,rfl⟩:=hc
   grind[rP]
  simp_all
 case h_7 t n ps ho=>
  grind[qP]
 case h_8 t x ho=>
  simp only[haa]at hc;obtain⟨r,hs,rfl⟩:=hc
  grind[mY]
 case h_9 t x y ho=>
  simp only[haa]at hc;obtain⟨i,hi,rfl⟩:=hc
  grind[mT]
 case h_10 x ho=>grind[qY]
 case h_11 op t x y yt ho=>
  split at hc
  .rename_i ht;split at hc
   .rename_i h;subst h;injection hc with hc;subst hc;exact qW hr ho ht (.inl ⟨rfl,rfl⟩) he
   .split at hc
    .rename_i h;subst h;injection hc with hc;subst hc;exact qW hr ho ht (.inr ⟨rfl,rfl⟩) he
    simp_all
  .grind[B3]
  .rename_i e ht;split at hc
   .injection hc with hc;subst hc;exact WK hr ho ht (.inl ⟨rfl,rfl⟩) he
   .injection hc with hc;subst hc;exact WK hr ho ht (.inr ⟨rfl,rfl⟩) he
   simp_all
  all_goals grind[y3]
 case h_12 op t x ho=>grind[g_un]
 case h_13 src dst x ho=>
  grind[fY,CY]
 case h_14 f first caps ho=>grind[tP]
 case h_15 t l c ho=>
  grind[GM]
 case h_16 t x lo hi mx ho=>
  split at hc
  .rename_i e ht;split at hc
   .grind
   .rename_i hm;simp only[haa]at hc;obtain⟨i,hi',rfl⟩:=hc;refine XK hr ho ht hi' (λh=>?_) he
    cases hi with
    |none=>simp_all
    |some _=>rfl
  .rename_i ht;split at hc
   .grind
   .rename_i hm;injection hc with hc;subst hc
    cases mx with
    |some _=>simp at hm
    |none=>grind[wP]
  simp_all
 case h_17 t x f ho=>
  grind[aT]
 case h_18 t x f ho=>
  split at hc
  .rename_i fs ht;split at hc
   .rename_i fl hf;simp only[haa]at hc;obtain⟨r,hs,rfl⟩:=hc
    grind[bT]
   simp_all
  simp_all
 case h_19 t x y ho=>
  split at hc
  .rename_i e ht;simp only[haa]at hc;obtain⟨i,hi,rfl⟩:=hc
   grind[dT]
  .rename_i n e ht;simp only[haa]at hc;obtain⟨r,hs,rfl⟩:=hc
   grind[XS]
  simp_all
 case h_20 t x y ho=>
  split at hc
  .rename_i n e ht;simp only[haa]at hc;obtain⟨r,hs,rfl⟩:=hc
   grind[fT]
  all_goals grind[zY]
 case h_21 x i ho=>grind[FM]
 case h_22=>grind[ia]
 case h_23 t ho=>grind[kT]
 case h_24 t x k ok ho=>
  grind[lT]
 case h_25 t m k x ho=>
  split at hc
  .rename_i kt et ht;simp only[haa]at hc;obtain⟨K,hK,rfl⟩:=hc
   grind[pY]
  simp_all
 case h_26 c ho=>
  obtain⟨cal,args,sq⟩:=c;have ha:args=args.toList.toArray:=by simp
  have hty:sq=sq.toList.toArray:=by simp
  simp only at hc;split at hc
  .rename_i x t h2 h3;rw[h2]at ha;rw[h3]at hty
   grind[H3,BY,nY]
  .grind[L3]
  .grind[L3]
  .rename_i x y t u h2 h3;rw[h2]at ha;rw[h3]at hty
   grind[pP,iT]
  .rename_i x t h2 h3;rw[h2]at ha;rw[h3]at hty;subst ha;subst hty;split at hc
   .rename_i e ht;simp only[haa]at hc;obtain⟨z,hz,rfl⟩:=hc
    grind[C3]
   simp_all
  .rename_i x t h2 h3;rw[h2]at ha;rw[h3]at hty
   grind[eY]
  simp_all
 all_goals grind[jT,HM]
def Enters(P:Program) (f:FuncId):Prop:=∃fn,P.funcs[f]?=some fn/\(fn.name == "runtime.NumGoroutine")=false/\fn.body.isNone=false
def CallT(P:Program) (f:FuncId) (ds:List D) (m:List Ent) (R:D->List Ent->Prop):Prop:=
 Enters P f/\∀(G:Gh) (w:World) (vs:List Value),VsRel G w ds vs->Inv G w m->
  Calls P f vs.toArray w λe w'=>∃v d m' G',e=.returned v/\R d m'/\VRel G' w' d v/\Inv G' w' m'/\Step G w m G' w' m'
theorem CallT.mono{f:FuncId}{ds:List D}{m:List Ent}{R R':D->List Ent->Prop}(h:CallT P f ds m R) (hR:∀d m',R d m'->R' d m'):CallT P f ds m R':=
 ⟨h.1,λG w vs hv hi=>(h.2 G w vs hv hi).mono λ_ _ ⟨v,d,m',G',h1,h2,h3⟩=>⟨v,d,m',G',h1,hR _ _ h2,h3⟩⟩
theorem Xz{ops:Array Oper}{o:Oper}{i:I}(hc:xr P ops o o.op=some i) (hr:Rel G w a s) (he:ia s i=some (d,m')):Good G w s.m ((execOp a.eval o).run P w) d m':=by
 unfold xr at hc;split at hc
 .rename_i i' hi';injection hc with hc;subst hc;unfold fA at hi';split at hi'
  .rename_i t x lo hi dt ho _;split at hi'
   .split at hi'
    .rename_i e ht;simp only[haa]at hi';obtain⟨j,hj,rfl⟩:=hi'
     grind[oT]
    simp_all
   simp_all
  simp_all
 grind[mV]
def gate(s:St):Option (Tmp×Bool)->Option (Option (Bool×Bool))
 |none=>some none
 |some (t,b)=>
  match s.t.getD t .dead with
  |.v (.bool c)=>some (some (c,b))
  |.v _=>some (some (!b,b))
  |_=>none
def fj(P:Program):List RI->(St->Prop)->St->Prop
 |[],K,s=>K s
 |.op dst g i::l,K,s=>
  match gate s g with
  |none=>False
  |some none=>∃d m',ia s i=some (d,m')/\fj P l K ({ s with m:=m' }.put dst d)
  |some (some (c,b))=>(c=b->∃d m',ia s i=some (d,m')/\fj P l K ({ s with m:=m' }.put dst d))/\(c≠b->fj P l K (s.put dst (.v undef)))
 |.call dst g f args::l,K,s=>
  match s.ec f with
  |.fn k first caps=>
   match gate s g with
   |none=>False
   |some none=>CallT P k (first++args.map s.ev++caps) s.m λd m'=>fj P l K ({ s with m:=m' }.put dst d)
   |some (some (c,b))=>(c=b->CallT P k (first++args.map s.ev++caps) s.m λd m'=>fj P l K ({ s with m:=m' }.put dst d))/\(c≠b->fj P l K (s.put dst (.v undef)))
  |_=>
   match gate s g with
   |some (some (c,b))=>c≠b/\fj P l K (s.put dst (.v undef))
   |_=>False
theorem An{ops:Array Oper}(hr:Rel G w a s) {g:Option (Nat×Bool)}{g':Option (Tmp×Bool)}(hg:guardOf ops g=some g') :
 (gate s g'=some none->∀o:Oper,o.guard=g->Region.wanted o (yielded ops a.tmps)=true)/\
 (∀c b,gate s g'=some (some (c,b))->∀o:Oper,o.guard=g->Region.wanted o (yielded ops a.tmps)=(c==b)):=by
 cases g with
 |none=>
  grind[guardOf,Region.wanted,gate]
 |some p=>
  obtain⟨j,b⟩:=p;simp only[guardOf]at hg;split at hg
  .rename_i t ht;injection hg with hg;subst hg;have hx:=VsRel.get t hr.t;refine⟨λh=>?_,λc b' h o ho=>?_⟩
   .grind[gate]
   .have hy:yielded ops a.tmps j=(match a.tmps[t]? with|some (.bool b)=>some b|_=>none):=by
     grind[yielded]
    simp only[Region.wanted,ho,hy];simp only[gate]at h;have hlen:=hr.t.length;split at h
    .rename_i c' hd;injection h with h;injection h with h;injection h with h1 h2;subst h1;subst h2;rw[hd]at hx;simp only[VRel]at hx
     grind
    .rename_i x hne hd;injection h with h;injection h with h;injection h with h1 h2;subst h1;subst h2;rw[hd]at hx;simp only[VRel]at hx
     grind
    .cases h
  simp_all
theorem Oz(hr:Rel G w a s) (dst:Option Tmp):Rel G w (a.put dst undef) (s.put dst (.v undef)):=hr.put dst (by simp[VRel])
theorem Rel.Gr{r:Result Next}{o:Oper}{next:Act->World->Prop}{Q:Exit->Act->World->Prop}(hr:Rel G w a s) (hg:Good G w s.m r d m')
 (h:∀G' w' u,Rel G' w' (a.put o.dst u) ({ s with m:=m' }.put o.dst d)->Step G w s.m G' w' m'->next (a.put o.dst u) w'):o.upon P a next Q r:=by
 obtain⟨nx,w',G',rfl,hnx,hi,hs⟩:=hg;have hr':=hr.step hs.le hi;rcases hnx with⟨u,rfl,hv⟩|⟨rfl,rfl⟩
 .exact h G' w' u (hr'.put o.dst hv) hs
 .exact h G' w' undef (hr'.put o.dst (by simp[VRel])) hs
theorem Cw(hr:Rel G w a s):∀l:List Operand,VsRel G w (l.map s.ev) (l.map a.eval)
 |[]=>by simp[VsRel]
 |x::l=>by simp only[Maa,VsRel];exact⟨_,_,rfl,hr.ev x,Cw hr l⟩
theorem TF(s:St) (dst:Option Tmp) (d:D):(s.put dst d).m=s.m:=by cases dst<;>rfl
theorem xN{o:Oper}{f:Operand}{args:Array Operand}{sq:Array TypeId}(ho:o.op=.call ⟨.value f,args,sq⟩) {k:FuncId}{fs cs:List Value}(hf:a.eval f=.func (.func k) fs.toArray cs.toArray)
 {fn:Func} (hfn:P.funcs[k]?=some fn) (hname:(fn.name == "runtime.NumGoroutine")=false) (hbody:fn.body.isNone=false) :
 (execOp a.eval o).run P w=.ok (.enter k ((fs++args.toList.map a.eval++cs).toArray)) w:=by
 unfold execOp;simp only[ho];simp only[resolve,hf,Deferred.ofValue,Sem.run_bind,Sem.run_pure,Result.andThen_ok,invoke,callFunc,run_program,hfn,hname,hbody];simp
theorem vB{β:Type}:∀{l:List (Nat×β)}{t:Nat}{r:β},l.lookup t=some r->(t,r)∈l
 |[],t,r,h=>by grind
 |(a,b)::l,t,r,h=>by
  simp only[List.lookup]at h;split at h
  .simp_all
  .exact List.mem_cons_of_mem _ (vB h)
theorem GI{name:String}{t:Nat}{r:FuncId×Option (Bool×Nat)}(h:(jZ P name).lookup t=some r):QT P name t=some r:=by
 have h:=vB h;simp only[jZ,List.mem_filterMap,haa,Baa]at h
 simp_all
theorem kE{name:String}{t:Nat}{k:FuncId}{o:Option (Bool×Nat)}(h:QT P name t=some (k,o)) {d:D}{u:Value}(hv:VRel G w d u) (hr:Rel G w a s) :
 (o=none->∀n,(method (n+1) t u name).run P w=.ok (k,u) w)/\
 (∀r d' m',o=some r->ia ⟨[d],s.m⟩ (.load r.1 r.2 (.tmp 0))=some (d',m')->∃u',VRel G w d' u'/\∀n,(method (n+1) t u name).run P w=.ok (k,u') w):=by
 unfold QT at h;split at h
 case h_2=>cases h
 rename_i i hi;split at h
 case h_2=>cases h
 rename_i m hm;have hmeth:∀n,(method (n+1) t u name).run P w=(do
  let (xt,x)←follow m.path.toList t (.val u)
  match m.func with
  |none=>
   match←x.get xt with
   |.iface t' v'=>method n t' v' name
   |.nilIface=>runtimePanic .nilDeref
   |_=>stuck "method row: interface value expected"
  |some (f,pointerReceiver)=>
   pure (f,←receiverAt xt x pointerReceiver (if m.path.isEmpty then some ((name.splitOn ".").getLastD name)else none))).run P w:=by
  intro n
  conv=>lhs;unfold method
  simp only[Sem.run_bind,typeInfo,run_program,Result.andThen_ok,hi,Sem.run_pure,hm];rfl
 split at h
 .rename_i f t2 hp hf hu;injection h with h;injection h with h1 h2;subst h1;subst h2
  simp_all[follow,receiverAt,Place.get,run_underlying]
 .rename_i f e hp hf hu;simp only[haa,Baa]at h;obtain⟨r0,hs,rfl,rfl⟩:=h;have hpath:m.path.toList=[]:=by simp_all
  refine⟨λh=>(by cases h),λr d' m' h he=>?_⟩;injection h with h;subst h;have hr':Rel G w { a with tmps:=#[u] } ⟨[d],s.m⟩:=⟨by simp[VsRel];omega,hr.inv,hr.defers⟩;obtain⟨p,u',hx,hrun,hv',-⟩:=AD hr' hs he;have hx':u=.pointer (some p):=by simp_all[Act.eval]
  refine⟨u',hv',λn=>?_⟩;rw[hmeth,hpath,hf,hp];have hw:∀x,Builtin.ssaWrapNilChk_ #[t] t #[.pointer (some p),strVal "",strVal x]=pure (.pointer (some p)):=λ_=>rfl
  simp_all[follow,receiverAt,Place.get,asAddr,run_underlying]
 .rename_i f de hne hp hf hu;injection h with h;injection h with h1 h2;subst h1;subst h2
  simp_all[follow,receiverAt,Place.get,run_underlying]
 .cases h
theorem Aw(hr:Rel G w a s) {o:Oper}{f:Cal}{args:List Operand}(ho:rG P o.op=some (f,args)) {k:FuncId}{first caps:List D}(he:s.ec f=.fn k first caps)
 {fn:Func} (hfn:P.funcs[k]?=some fn) (hname:(fn.name == "runtime.NumGoroutine")=false) (hbody:fn.body.isNone=false) :
 ∃fs cs,(execOp a.eval o).run P w=.ok (.enter k ((fs++args.map a.eval++cs).toArray)) w/\VsRel G w first fs/\VsRel G w caps cs:=by
 unfold rG at ho;split at ho
 .rename_i x args' sq hop;injection ho with ho;injection ho with h1 h2;subst h1;subst h2;rw[V2]at he;have hf:=hr.ev x;rw[he]at hf;simp only[VRel]at hf
  grind[xN]
 .rename_i x nm args' sq hop;injection ho with ho;injection ho with h1 h2;subst h1;subst h2;simp only[St.ec]at he;have hx:=hr.ev x;generalize s.ev x=dx at he hx;cases dx<;>simp only[yW]at he<;>(try (cases he));rename_i t d;simp only[VRel]at hx;obtain⟨u,hxu,hv⟩:=hx;have fin:∀{d':D} {u':Value},VRel G w d' u'->(∀n,(method (n+1) t u nm).run P w=.ok (k,u') w)->first=[d']->caps=[]->
   ∃fs cs,(execOp a.eval o).run P w=.ok (.enter k ((fs++args'.toList.map a.eval++cs).toArray)) w/\VsRel G w first fs/\VsRel G w caps cs:=by
   rintro d' u' hv' hm rfl rfl;refine⟨[u'],[],?_,by simp[VsRel];omega,by simp[VsRel]⟩;unfold execOp;simp only[hop];have hfuel:P.types.size+Made.depth=(P.types.size+99)+1:=rfl;have h0:(#[a.eval x]++Yac a.eval args')[0]?=some (.iface t u):=by grind
   have h1:(#[a.eval x]++Yac a.eval args').extract 1 (#[a.eval x]++Yac a.eval args').size=Yac a.eval args':=by
    simp
   simp only[resolve,Sem.run_bind,Sem.run_pure,Result.andThen_ok,invoke,h0,h1,callMethod,run_program,hfuel,hm,callFunc,hfn,hname,hbody];simp
  split at he
  .rename_i k' hl;injection he with e1 e2 e3;subst e1;exact fin hv ((kE (GI hl) hv hr).1 rfl) e2.symm e3.symm
  .rename_i k' r hl;split at he
   .rename_i d' m' hev;injection he with e1 e2 e3;subst e1;obtain⟨u',hv',hm⟩:=(kE (GI hl) hv hr).2 r d' m' rfl hev
    grind
   simp_all
  simp_all
 simp_all
theorem bE{ops:Array Oper}{Q:Exit->Act->World->Prop}{K:St->Prop}:∀{l:List Oper}{rl:List RI}{s:St}{G:Gh}{w:World}{a:Act},nh P ops l=some rl->fj P rl K s->Rel G w a s->
 (∀s' G' w' a',K s'->Rel G' w' a' s'->Step G w s.m G' w' s'.m->Q .normal a' w')->wpList P ops Q l a w
 |[],rl,s,G,w,a,hc,hK,hr,hQ=>by
  simp only[nh]at hc;injection hc with hc;subst hc;exact wpList_nil (hQ s G w a hK hr (Step.refl _ _ _))
 |o::l,rl,s,G,w,a,hc,hK,hr,hQ=>by
  simp only[nh]at hc;split at hc
  case h_2=>grind
  rename_i r rs h1 h2;injection hc with hc;subst hc;have rest:∀{G':Gh} {w':World} {a':Act} {s':St},fj P rs K s'->Rel G' w' a' s'->Step G w s.m G' w' s'.m->wpList P ops Q l a' w':=λhK' hr' hs'=>
   bE h2 hK' hr' λs'' G'' w'' a'' k1 k2 k3=>hQ s'' G'' w'' a'' k1 k2 (hs'.trans k3)
  unfold Ln at h1;split at h1
  .grind
  .rename_i g hg;obtain⟨hgate1,hgate2⟩:=An hr hg;have doI:∀{i:I} {d:D} {m':List Ent},xr P ops o o.op=some i->ia s i=some (d,m')->fj P rs K ({ s with m:=m' }.put o.dst d)->o.wp P a w (wpList P ops Q l) Q:=by
    intro i d m' hi he hK';exact hr.Gr (Xz hi hr he) λG' w' u hr' hs'=>rest hK' hr' (by grind[TF])
   have skip:fj P rs K (s.put o.dst (.v undef))->wpList P ops Q l (a.put o.dst undef) w:=λhK'=>rest hK' (Oz hr o.dst) (by grind[TF,Step.refl]);split at h1
   .rename_i f args ho;injection h1 with h1;subst h1;simp only[fj]at hK;split at hK
    .rename_i k first caps hfe
     have doC:CallT P k (first++args.map s.ev++caps) s.m (λd m'=>fj P rs K ({ s with m:=m' }.put o.dst d))->o.wp P a w (wpList P ops Q l) Q:=by
      rintro⟨⟨fn,e1,e2,e3⟩,hcall⟩;obtain⟨fs,cs,hrun,hv1,hv2⟩:=Aw hr ho hfe e1 e2 e3;have hcalls:=hcall G w (fs++args.map a.eval++cs) ((hv1.append (Cw hr _)).append hv2) hr.inv;unfold Oper.wp;rw[hrun,Oper.upon_enter];refine hcalls.mono ?_;rintro e w' ⟨v,d,m',G',rfl,hK',hvd,hi',hs'⟩;exact rest hK' ((hr.step hs'.le hi').put o.dst hvd) (by grind[TF])
     split at hK
     .simp_all
     .rename_i hgt;rw[wpList,if_pos (hgate1 hgt o rfl)]
      simp_all
     .rename_i c b hgt;rw[wpList,hgate2 c b hgt o rfl]
      simp_all
    .split at hK
     .rename_i c b hgt;rw[wpList,hgate2 c b hgt o rfl,if_neg (by simp_all)]
      simp_all
     simp_all
   .rename_i hno;simp only[haa]at h1;obtain⟨i,hi,rfl⟩:=h1;simp only[fj]at hK;split at hK
    .simp_all
    .rename_i hgt;obtain⟨d,m',he,hK'⟩:=hK;rw[wpList,if_pos (hgate1 hgt o rfl)]
     grind
    .rename_i c b hgt;rw[wpList,hgate2 c b hgt o rfl]
     grind
end
end Go.Tm
