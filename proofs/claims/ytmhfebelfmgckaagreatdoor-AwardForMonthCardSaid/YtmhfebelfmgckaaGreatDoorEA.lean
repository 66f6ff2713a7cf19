/-
  The engine: a part of the proof that trees of values are carried along by the program: no condition.
-/
import Derived.Calls
import Derived.Below
import Derived.Laws.Sem
import Derived.Laws.Entries
import Derived.Laws.Cells
import Derived.Laws.CopyRow
import Derived.Laws.AppendOwn
import Derived.Laws.Tables
import Derived.Laws.MakeOwn
import Derived.Laws.StructEq
import Derived.MapKept
import Derived.Tactics
open Array renaming all_eq_true->Tad,getElem?_eq_some_iff->gad,getElem?_toList->Uac,length_toList->zac,map->eae,range->Yad,size_append->Vad,toList_map->Lae,toList_zipIdx->tae
open Int renaming natCast_nonneg->Mad
open List renaming append_assoc->Yab,cons_append->Waa,drop_drop->Rad,eq_nil_of_length_eq_zero->Uaa,getElem?_append->Mac,getElem?_drop->Aae,getElem?_toArray->oac,getElem_of_mem->Maa,length_nil->sab,map_cons->cab,range->Kaa,replicate->Daa,size_toArray->fad,tail->jaf,tail_drop->Xae
open Nat renaming add_comm->yad,add_mul->cad,add_zero->Kac,le_mul_of_pos_right->uad,le_refl->Paa,le_trans->Bab,lt_of_lt_of_le->lab,mod_lt->hac,mul_le_mul_right->Zaa,sub_mul->gaf,zero_add->Qab,zero_le->pab
open Option renaming bind_eq_some_iff->gac,map_eq_some_iff->Faa
open Prod renaming fst->Fae
open Prod.mk renaming injEq->Vaa
set_option linter.all false
namespace Go.Tm
open Go.RowKit (Below)
variable {i:TypeInfo}{b off f id n N sCap K:Nat}{k:FuncId}{j:IntKind}{cs:List Value}{o:Oper}{e t ty:TypeId}{α:Type}{z v q:Value}{op:BinOp}{x y c:Operand}{neg:Bool}{ps:Array (Nat×Operand)}{fs:Array Field}{lo hi mx:Option Operand}{p:Option Addr}{ks:List Nat}{ops:Array Oper}{fn:Func}{name:String}
inductive D where
 |v (x:Value)
 |agg (l:List D)
 |tup (l:List D)
 |sl (S:Nat) (l:List D)
 |pt (d:D)
 |ref (id Oa idx sub:Nat)
 |own (id Oa:Nat)
 |view (id Oa lo n:Nat)
 |fn (f:FuncId) (first caps:List D)
 |mp (id:Nat)
 |ifc (t:TypeId) (d:D)
 |dead
variable {l:List D}
instance:Inhabited D:=⟨.dead⟩
structure Gh where
 F:Nat->Prop
 n:Nat
 B:Nat->Option Nat
 V:Nat->Nat
 S:Nat->Nat
 N:Nat->Nat
 C:Nat->Nat×Nat
def one:Value->Bool
 |.agg _|.tuple _=>false
 |_=>true
def CA(w:World) (b off:Nat) (u:Value):Prop:=∀(j:Nat) c,u.cells[j]?=some c->one c=true/\w.cell? ⟨b,off+j,none⟩=some c
mutual
def VRel(G:Gh) (w:World):D->Value->Prop
 |.v x,u=>u=x
 |.agg l,u=>∃cs:List Value,u=.agg cs.toArray/\VsRel G w l cs/\∀c∈cs,one c=true
 |.tup l,u=>∃cs:List Value,u=.tuple cs.toArray/\VsRel G w l cs
 |.sl S l,u=>∃a n cap,u=.slice a n cap/\n=l.length/\n<=cap/\
  (l=[]\/∃b off,a=some ⟨b,off,none⟩/\G.F b/\Qa G w b S l off)
 |.pt d,u=>∃b off x,u=.pointer (some ⟨b,off,none⟩)/\G.F b/\VRel G w d x/\CA w b off x
 |.ref id Oa idx sub,u=>∃a,u=.pointer (some a)/\id<G.n/\Oa<=G.V id/\(G.V id=Oa->∃b,G.B id=some b/\a=⟨b,idx*G.S id+sub+(G.C id).2,none⟩)
 |.own id Oa,u=>∃a n c,u=.slice a n c/\id<G.n/\Oa<=G.V id/\(G.V id=Oa->a=(G.B id).map (λb=>⟨b,(G.C id).2,none⟩)/\n=G.N id/\c=(G.C id).1)
 |.view id Oa lo n,u=>∃a c,u=.slice a n c/\n<=c/\id<G.n/\Oa<=G.V id/\(G.V id=Oa->n=0\/∃b,G.B id=some b/\a=some ⟨b,lo*G.S id+(G.C id).2,none⟩)
 |.fn f first caps,u=>∃fs cs:List Value,u=.func (.func f) fs.toArray cs.toArray/\VsRel G w first fs/\VsRel G w caps cs
 |.mp id,u=>∃b,u=.map (some b)/\id<G.n/\(G.V id=0->G.B id=some b)
 |.ifc t d,u=>∃x,u=.iface t x/\VRel G w d x
 |.dead,_=>True
def VsRel(G:Gh) (w:World):List D->List Value->Prop
 |[],us=>us=[]
 |d::l,us=>∃u r,us=u::r/\VRel G w d u/\VsRel G w l r
def Qa(G:Gh) (w:World) (b S:Nat):List D->Nat->Prop
 |[],_=>True
 |d::l,off=>(∃u,VRel G w d u/\u.cells.size=S/\CA w b off u)/\Qa G w b S l (off+S)
end
structure Le (G:Gh) (w:World) (G':Gh) (w':World):Prop where
 F:∀b,G.F b->G'.F b
 heap:∀b,G.F b->w'.heap[b]?=w.heap[b]?
 n:G.n<=G'.n
 id:∀i,i<G.n->(G'.V i=G.V i/\G'.B i=G.B i/\G'.S i=G.S i/\G'.N i=G.N i/\G'.C i=G.C i)\/G.V i<G'.V i
theorem Le.refl(G:Gh) (w:World):Le G w G w:=⟨λ_ h=>h,λ_ _=>rfl,Paa _,λ_ _=>.inl ⟨rfl,rfl,rfl,rfl,rfl⟩⟩
theorem Le.Oa{G G':Gh}{w w':World}(h:Le G w G' w') {i:Nat}(hi:i<G.n):G.V i<=G'.V i:=by
 rcases h.id i hi with h|h<;>omega
theorem Le.trans{G G' a:Gh}{w w' c:World}(h:Le G w G' w') (k:Le G' w' a c):Le G w a c where
 F b hb:=k.F b (h.F b hb)
 heap b hb:=(k.heap b (h.F b hb)).trans (h.heap b hb)
 n:=Bab h.n k.n
 id i hi:=by
  have h1:=h.id i hi;have h2:=k.id i (lab hi h.n)
  grind
theorem fO{w w':World}(h:w'.heap[b]?=w.heap[b]?):w'.cell? ⟨b,off,none⟩=w.cell? ⟨b,off,none⟩:=by
 grind[World.cell?]
theorem CA.mono{w w':World}{u:Value}(h:CA w b off u) (hb:w'.heap[b]?=w.heap[b]?):CA w' b off u:=
 λj c hc=>by rw[fO hb];exact h j c hc
mutual
theorem VRel.mono{G G':Gh}{w w':World}(g:Le G w G' w'):∀{d:D}{u:Value},VRel G w d u->VRel G' w' d u
 |.v x,u,h=>by simpa [VRel] using h
 |.agg l,u,h=>by
  simp only[VRel]at h⊢;obtain⟨cs,rfl,h,i⟩:=h;exact⟨cs,rfl,VsRel.mono g h,i⟩
 |.tup l,u,h=>by
  simp only[VRel]at h⊢;obtain⟨cs,rfl,h⟩:=h;exact⟨cs,rfl,VsRel.mono g h⟩
 |.sl S l,u,h=>by
  simp only[VRel]at h⊢;obtain⟨a,n,cap,rfl,hn,hc,h⟩:=h;refine⟨a,n,cap,rfl,hn,hc,?_⟩;rcases h with h|⟨b,off,rfl,k,hr⟩
  .simp_all
  .exact .inr ⟨b,off,rfl,g.F b k,Qa.mono g (g.heap b k) hr⟩
 |.pt d,u,h=>by
  simp only[VRel]at h⊢;obtain⟨b,off,x,rfl,k,hd,q⟩:=h;exact⟨b,off,x,rfl,g.F b k,VRel.mono g hd,q.mono (g.heap b k)⟩
 |.ref id Oa idx sub,u,h=>by
  simp only[VRel]at h⊢;obtain⟨a,hu,hi,hv,h⟩:=h;refine⟨a,hu,lab hi g.n,Bab hv (g.Oa hi),λe=>?_⟩;rcases g.id id hi with⟨i,h2,m,o,p⟩|j
  all_goals grind
 |.own id Oa,u,h=>by
  simp only[VRel]at h⊢;obtain⟨a,n,c,hu,hi,hv,h⟩:=h;refine⟨a,n,c,hu,lab hi g.n,Bab hv (g.Oa hi),λe=>?_⟩;rcases g.id id hi with⟨i,h2,m,o,p⟩|j
  all_goals grind
 |.view id Oa lo n,u,h=>by
  simp only[VRel]at h⊢;obtain⟨a,c,hu,hc,hi,hv,h⟩:=h;refine⟨a,c,hu,hc,lab hi g.n,Bab hv (g.Oa hi),λe=>?_⟩;rcases g.id id hi with⟨i,h2,m,o,p⟩|j
  all_goals grind
 |.fn f first caps,u,h=>by
  simp only[VRel]at h⊢;obtain⟨fs,cs,rfl,i,h2⟩:=h;exact⟨fs,cs,rfl,VsRel.mono g i,VsRel.mono g h2⟩
 |.mp id,u,h=>by
  simp only[VRel]at h⊢;obtain⟨b,hu,hi,h⟩:=h;refine⟨b,hu,lab hi g.n,λe=>?_⟩;rcases g.id id hi with⟨i,h2,m,o,p⟩|j
  all_goals simp_all
 |.ifc t d,u,h=>by
  simp only[VRel]at h⊢;obtain⟨x,rfl,h⟩:=h;exact⟨x,rfl,VRel.mono g h⟩
 |.dead,u,h=>by simp[VRel]
theorem VsRel.mono{G G':Gh}{w w':World}(a:Le G w G' w'):∀{l:List D}{us:List Value},VsRel G w l us->VsRel G' w' l us
 |[],us,h=>by simpa [VsRel] using h
 |d::l,us,h=>by
  simp only[VsRel]at h⊢;obtain⟨u,r,rfl,b,h2⟩:=h;exact⟨u,r,rfl,VRel.mono a b,VsRel.mono a h2⟩
theorem Qa.mono{G G':Gh}{w w':World}(a:Le G w G' w') {b S:Nat}(hb:w'.heap[b]?=w.heap[b]?) :
 ∀{l:List D} {off:Nat},Qa G w b S l off->Qa G' w' b S l off
 |[],off,h=>by simp[Qa]
 |d::l,off,h=>by
  simp only[Qa]at h⊢;obtain⟨⟨u,c,h2,e⟩,f⟩:=h;exact⟨⟨u,VRel.mono a c,h2,e.mono hb⟩,Qa.mono a hb f⟩
end
inductive Ent where
 |live (S Oa:Nat) (l:List D)
 |mp (es:List (Value×D))
 |gone
def Wd(G:Gh) (w:World):List (Value×D)->List MapEntry->Prop
 |[],es=>es=[]
 |(k,d)::l,es=>∃e r,es=e::r/\e.key=k/\VRel G w d e.val/\Wd G w l r
theorem Wd.mono{G G':Gh}{w w':World}(a:Le G w G' w'):∀{l:List (Value×D)}{es:List MapEntry},Wd G w l es->Wd G' w' l es
 |[],es,h=>h
 |(k,d)::l,es,h=>by
  obtain⟨e,r,b,c,h2,f⟩:=h;exact⟨e,r,b,c,h2.mono a,f.mono a⟩
def mn(G:Gh) (w:World) (i:Nat):Ent->Prop
 |.live S Oa l=>G.V i=Oa/\G.S i=S/\G.N i=l.length/\l.length<=(G.C i).1/\
  ((G.B i=none/\G.C i=(0,0))\/∃b cs T,G.B i=some b/\¬G.F b/\w.heap[b]?=some (.cells cs T (0,0))/\(G.C i).1*S+(G.C i).2<=cs.size/\Qa G w b S l (G.C i).2)
 |.mp es=>G.V i=0/\∃b entries clock,G.B i=some b/\¬G.F b/\w.heap[b]?=some (.map entries clock)/\Wd G w es entries.toList
 |.gone=>True
def Ent.isLive:Ent->Bool
 |.gone=>false
 |_=>true
def gtab:Nat->Option D
 |0=>some (.agg ([31,28,31,30,31,30,31,31,30,31,30,31].map λn=>.v (.int .i64 n)))
 |_=>none
def GOK(G:Gh) (w:World):Prop:=∀g d,gtab g=some d->VRel G w (.pt d) (.pointer (some ⟨g,0,none⟩))
theorem GOK.mono{G G':Gh}{w w':World}(a:Le G w G' w') (h:GOK G w):GOK G' w':=λg d hd=>(h g d hd).mono a
structure Inv (G:Gh) (w:World) (m:List Ent):Prop where
 n:G.n=m.length
 F:∀b,G.F b->b<w.heap.size
 ent:∀i e,m[i]?=some e->mn G w i e
 apart:∀i j e e',m[i]?=some e->m[j]?=some e'->e.isLive=true->e'.isLive=true->∀b,G.B i=some b->G.B j=some b->i=j
 gl:GOK G w
def Zf(G:Gh) (m:List Ent) (b:Nat):Prop:=∃i e,m[i]?=some e/\e.isLive=true/\G.B i=some b
structure Step (G:Gh) (w:World) (m:List Ent) (G':Gh) (w':World) (m':List Ent):Prop where
 le:Le G w G' w'
 os:w'.os=w.os
 tape:w'.tape=w.tape
 output:w'.output=w.output
 size:w.heap.size<=w'.heap.size
 keep:∀b,b<w.heap.size->¬Zf G m b->w'.heap[b]?=w.heap[b]?
 newF:∀b,b<w.heap.size->G'.F b->G.F b\/Zf G m b
 newB:∀b,b<w.heap.size->Zf G' m' b->Zf G m b
variable {G':Gh}{m:List Ent}
theorem Step.refl(G:Gh) (w:World) (m:List Ent):Step G w m G w m:=
 ⟨Le.refl _ _,rfl,rfl,rfl,Paa _,λ_ _ _=>rfl,λ_ _ h=>.inl h,λ_ _ h=>h⟩
theorem Step.trans{G G' c:Gh}{w w' e:World}{m m' d:List Ent}(h:Step G w m G' w' m') (k:Step G' w' m' c e d):Step G w m c e d where
 le:=h.le.trans k.le
 os:=k.os.trans h.os
 tape:=k.tape.trans h.tape
 output:=k.output.trans h.output
 size:=Bab h.size k.size
 keep b hb ho:=(k.keep b (lab hb h.size) λa=>ho (h.newB b hb a)).trans (h.keep b hb ho)
 newF b hb f:=by
  rcases k.newF b (lab hb h.size) f with a|a
  .exact h.newF b hb a
  .exact .inr (h.newB b hb a)
 newB b hb a:=h.newB b hb (k.newB b (lab hb h.size) a)
structure St where
 t:List D
 m:List Ent
structure Rel (G:Gh) (w:World) (a:Act) (s:St):Prop where
 t:VsRel G w s.t a.tmps.toList
 inv:Inv G w s.m
 defers:a.defers=[]
variable {a:Nat×Nat}{s:St}
def St.ev(s:St):Operand->D
 |.tmp t=>s.t.getD t .dead
 |.const x=>.v x
 |.func f=>.fn f [] []
 |.global g=>(gtab g).elim .dead .pt
def St.put(s:St) (dst:Option Tmp) (d:D):St:=
 match dst with
 |some i=>{ s with t:=s.t.set i d }
 |none=>s
theorem VsRel.length{G:Gh}{w:World}:∀{l:List D}{us:List Value},VsRel G w l us->us.length=l.length
 |[],us,h=>by simp[VsRel]at h;simp[h]
 |d::l,us,h=>by
  simp only[VsRel]at h;obtain⟨u,r,rfl,_,h2⟩:=h;simp[VsRel.length h2]
theorem VsRel.get{G:Gh}{w:World}:∀{l:List D}{us:List Value}(i:Nat),VsRel G w l us->VRel G w (l.getD i .dead) (us.getD i undef)
 |[],us,i,h=>by simp[VRel]
 |d::l,us,i,h=>by
  simp only[VsRel]at h;obtain⟨u,r,rfl,a,h2⟩:=h
  cases i with
  |zero=>simpa using a
  |succ i=>simpa using VsRel.get i h2
theorem VsRel.set{G:Gh}{w:World}{d:D}{x:Value}(hx:VRel G w d x):∀{l:List D}{us:List Value}(i:Nat),VsRel G w l us->VsRel G w (l.set i d) (us.set i x)
 |[],us,i,h=>by simp[VsRel]at h;simp[h,VsRel]
 |e::l,us,i,h=>by
  simp only[VsRel]at h;obtain⟨u,r,rfl,a,h2⟩:=h
  cases i with
  |zero=>simp only[List.set_cons_zero,VsRel];grind
  |succ i=>simp only[List.set_cons_succ,VsRel];exact⟨u,_,rfl,a,VsRel.set hx i h2⟩
theorem Rel.ev{G:Gh}{w:World}{a:Act}{s:St}(h:Rel G w a s) (x:Operand):VRel G w (s.ev x) (a.eval x):=by
 cases x with
 |tmp t=>
  have:=VsRel.get t h.t
  simp_all[St.ev,Act.eval]
 |const x=>simp[St.ev,Act.eval,VRel]
 |global g=>
  simp only[St.ev,Act.eval]
  cases b:gtab g with
  |none=>simp[VRel]
  |some d=>exact h.inv.gl g d b
 |func f=>
  simp only[St.ev,Act.eval,VRel];exact⟨[],[],rfl,by simp[VsRel],by simp[VsRel]⟩
theorem Rel.put{G:Gh}{w:World}{a:Act}{s:St}(h:Rel G w a s) (dst:Option Tmp) {d:D}{x:Value}(hx:VRel G w d x):Rel G w (a.put dst x) (s.put dst d):=by
 cases dst with
 |none=>exact h
 |some i=>
  refine⟨?_,h.inv,h.defers⟩;have:=VsRel.set hx i h.t
  grind[St.put,Act.put]
theorem Rel.step{G:Gh}{w w':World}{a:Act}{m':List Ent}(h:Rel G w a s) (b:Le G w G' w') (hi:Inv G' w' m'):Rel G' w' a { s with m:=m' }:=
 ⟨h.t.mono b,hi,h.defers⟩
def Rh{α:Type}:Sem α->Option α
 |.pure a=>some a
 |_=>none
def D.cells:D->List D
 |.agg l=>l
 |d=>[d]
def D.ok:D->Bool
 |.v x=>one x
 |.tup _|.dead=>false
 |_=>true
def part(A:Bool) (n off:Nat) (l:List D):Option D:=
 match A with
 |true=>if off+n<=l.length then some (.agg ((l.drop off).take n))else none
 |false=>l[off]?
def Ds(l:List D) (off:Nat) (r:List D):List D:=l.take off++r++l.drop (off+r.length)
def D.Eg(old:D) (sub:Nat) (r:List D):D:=
 match old with
 |.agg l=>.agg (Ds l sub r)
 |_=>r.headD .dead
def leaf:Value->D
 |.agg cs=>.agg (cs.toList.map .v)
 |x=>.v x
inductive I where
 |mv (x:Operand)
 |pick (c a b:Operand)
 |bin (op:BinOp) (x y:Operand)
 |beq (neg:Bool) (x y:Operand)
 |un (op:UnOp) (x:Operand)
 |conv (k:IntKind) (x:Operand)
 |alloc (S:Nat) (z:D)
 |box (S:Nat) (x:Operand)
 |build (z:List D) (ps:List (Nat×Nat×Operand))
 |bslice (S:Nat) (n:Nat) (z:D) (ps:List (Nat×Operand))
 |load (A:Bool) (n:Nat) (x:Operand)
 |store (n:Nat) (x y:Operand)
 |nilc (x:Operand)
 |slice (S:Nat) (x:Operand) (lo hi mx:Option Operand)
 |faddr (A:Bool) (n off:Nat) (x:Operand)
 |field (A:Bool) (n off:Nat) (x:Operand)
 |iaddr (S:Nat) (x i:Operand)
 |aaddr (A:Bool) (S len:Nat) (x i:Operand)
 |index (A:Bool) (S len:Nat) (x i:Operand)
 |extract (x:Operand) (i:Nat)
 |len (x:Operand)
 |slen (x:Operand)
 |append (S bytes:Nat) (x y:Operand)
 |mkslice (S bytes:Nat) (z:D) (l c:Operand)
 |mkfunc (f:FuncId) (first caps:List Operand)
 |fail
 |mm (isMax:Bool) (xs:List Operand)
 |ceq (neg:Bool) (ks:List Nat) (x y:Operand)
 |strb (S:Nat) (x:Operand)
 |Jx (x i:Operand)
 |sslice (x:Operand) (lo hi:Option Operand)
 |mkmap
 |mlook (K:Nat) (ok:Bool) (z:D) (x k:Operand)
 |mput (K:Nat) (m k x:Operand)
 |mlen (x:Operand)
 |trunc (S:Nat) (x:Operand) (lo hi:Option Operand)
 |mkifc (t:TypeId) (x:Operand)
 |tassert (ok:Bool) (t:TypeId) (z:D) (x:Operand)
 |clr (S:Nat) (z:D) (x:Operand)
 |capn (x:Operand)
 |nileq (neg:Bool) (x:Operand)
 |mkapp (S bytes:Nat) (z:D) (x n:Operand)
def contents(S:Nat) (m:List Ent):D->Option (List D)
 |.v (.slice none 0 0)=>some []
 |.sl S' l=>if S'=S then some l else none
 |.own id Oa=>
  match m[id]? with
  |some (.live S' a l)=>if S'=S/\a=Oa then some l else none
  |_=>none
 |.view id Oa lo n=>
  match m[id]? with
  |some (.live S' a l)=>if S'=S/\a=Oa/\lo+n<=l.length then some ((l.drop lo).take n)else none
  |_=>none
 |_=>none
def qd(m:List Ent):D->Option Nat
 |.v (.slice none 0 0)=>some 0
 |.sl _ l=>some l.length
 |.own id Oa=>
  match m[id]? with
  |some (.live _ a l)=>if a=Oa then some l.length else none
  |_=>none
 |.view id _ _ n=>
  match m[id]? with
  |some _=>some n
  |none=>none
 |_=>none
def ew(s:St):List (Nat×Nat×Operand)->List D->Option (List D)
 |[],cells=>some cells
 |(off,n,x)::ps,cells=>
  if(s.ev x).ok=true/\(s.ev x).cells.length=n/\off+n<=cells.length then ew s ps (Ds cells off (s.ev x).cells)else none
def Kc(s:St) (S:Nat):List (Nat×Operand)->List D->Option (List D)
 |[],l=>some l
 |(i,x)::ps,l=>
  if(s.ev x).ok=true/\(s.ev x).cells.length=S/\i<l.length then Kc s S ps (l.set i (s.ev x))else none
def bound(s:St) (d:Nat):Option Operand->Option Nat
 |none=>some d
 |some x=>
  match s.ev x with
  |.v (.int _ n)=>if 0<=n then some n.toNat else none
  |_=>none
def pw(S:Nat) (m:List Ent) (d:D) (lo hi:Nat):Option D:=
 match d with
 |.v (.slice none 0 0)=>if lo=0/\hi=0 then some d else none
 |.sl S' l=>if S'=S/\lo<=hi/\hi<=l.length then some (.sl S ((l.drop lo).take (hi-lo)))else none
 |.own id Oa=>
  match m[id]? with
  |some (.live S' a l)=>if S'=S/\a=Oa/\lo<=hi/\hi<=l.length then some (.view id Oa lo (hi-lo))else none
  |_=>none
 |.view id Oa b n=>
  match m[id]? with
  |some (.live S' a l)=>if S'=S/\a=Oa/\lo<=hi/\hi<=n/\b+n<=l.length then some (.view id Oa (b+lo) (hi-lo))else none
  |_=>none
 |_=>none
mutual
def va:D->Bool
 |.v _=>true
 |.agg l=>oa l
 |.tup l=>oa l
 |.sl _ l=>oa l
 |.pt d=>va d
 |.ref ..=>false
 |.own ..=>false
 |.view ..=>false
 |.fn _ a b=>oa a&&oa b
 |.mp _=>false
 |.ifc _ d=>va d
 |.dead=>true
def oa:List D->Bool
 |[]=>true
 |d::l=>va d&&oa l
end
def isV:D->Bool
 |.v _=>true
 |_=>false
def leaves:List D->Option (List Value)
 |[]=>some []
 |.v x::l=>(leaves l).map (x::·)
 |_::_=>none
def fw:Nat->D->D->Option Bool
 |0,.v (.int j a),.v (.int k b)=>if j=k then some (a==b)else none
 |1,.v (.bool a),.v (.bool b)=>some (a==b)
 |2,.v (.string a),.v (.string b)=>some (a.toList==b.toList)
 |_,_,_=>none
def Ud:List Nat->List D->List D->Option Bool
 |[],[],[]=>some true
 |k::ks,x::xs,y::ys=>
  match fw k x y,Ud ks xs ys with
  |some a,some b=>some (a&&b)
  |_,_=>none
 |_,_,_=>none
def isKey:Nat->Value->Bool
 |0,.int .i64 _=>true
 |2,.string _=>true
 |_,_=>false
def IA:Value->Value->Bool
 |.int _ a,.int _ b=>a==b
 |.string a,.string b=>a==b
 |_,_=>false
def BD(k:Value):List (Value×D)->Option D
 |[]=>none
 |(q,d)::l=>if IA k q=true then some d else BD k l
def NG(k:Value) (x:D):List (Value×D)->List (Value×D)
 |[]=>[(k,x)]
 |(q,d)::l=>if IA k q=true then(k,x)::l else(q,d)::NG k x l
def fa(s:St):I->Option (D×List Ent)
 |.mv x=>some (s.ev x,s.m)
 |.pick c a b=>
  match s.ev c with
  |.v (.bool t)=>some (bif t then s.ev a else s.ev b,s.m)
  |_=>none
 |.bin op x y=>
  match s.ev x,s.ev y with
  |.v (.int j a),.v (.int k b)=>(Rh (binOp op 0 (.int j a) (.int k b))).map λr=>(.v r,s.m)
  |.v (.string a),.v (.string b)=>(Rh (binOp op 0 (.string a) (.string b))).map λr=>(.v r,s.m)
  |_,_=>none
 |.beq neg x y=>
  match s.ev x,s.ev y with
  |.v (.bool a),.v (.bool b)=>some (.v (.bool ((a==b) !=neg)),s.m)
  |_,_=>none
 |.un op x=>
  match s.ev x with
  |.v a=>(Rh (Op.unary op a)).map λr=>(.v r,s.m)
  |_=>none
 |.conv k x=>
  match s.ev x with
  |.v (.int _ n)=>some (.v (.int k (k.wrap n)),s.m)
  |_=>none
 |.alloc S z=>some (.ref s.m.length 0 0 0,s.m++[.live S 0 [z]])
 |.box S x=>if(s.ev x).ok=true/\(s.ev x).cells.length=S then some (.ref s.m.length 0 0 0,s.m++[.live S 0 [s.ev x]])else none
 |.build z ps=>(ew s ps z).map λl=>(.agg l,s.m)
 |.bslice S n z ps=>(Kc s S ps (Daa n z)).map λl=>(.own s.m.length 0,s.m++[.live S 0 l])
 |.load A n x=>
  match s.ev x with
  |.pt d=>
   match A,d with
   |true,.agg l=>if l.length=n then some (d,s.m)else none
   |true,_=>none
   |false,.agg _=>none
   |false,d=>if d.ok=true then some (d,s.m)else none
  |.ref id Oa idx sub=>
   match s.m[id]? with
   |some (.live _ g l)=>if g=Oa then(l[idx]?).bind λd=>if d.ok=true then(part A n sub d.cells).map λr=>(r,s.m)else none else none
   |_=>none
  |_=>none
 |.store n x y=>
  match s.ev x with
  |.ref id Oa idx sub=>
   match s.m[id]? with
   |some (.live S g l)=>
    if g=Oa/\(s.ev y).ok=true/\(s.ev y).cells.length=n then
     (l[idx]?).bind λd=>if d.ok=true/\0<n/\sub+n<=d.cells.length then some (.dead,s.m.set id (.live S g (l.set idx (d.Eg sub (s.ev y).cells))))else none
    else none
   |_=>none
  |_=>none
 |.nilc x=>
  match s.ev x with
  |.ref ..=>some (s.ev x,s.m)
  |.pt _=>some (s.ev x,s.m)
  |_=>none
 |.slice S x lo hi mx=>
  match qd s.m (s.ev x)with
  |some n=>
   match bound s 0 lo,bound s n hi,bound s n mx with
   |some l,some h,some k=>if h<=k/\k<=n then(pw S s.m (s.ev x) l h).map λr=>(r,s.m)else none
   |_,_,_=>none
  |none=>none
 |.faddr A n off x=>
  match s.ev x with
  |.pt (.agg l)=>(part A n off l).map λr=>(.pt r,s.m)
  |.ref id Oa idx sub=>some (.ref id Oa idx (sub+off),s.m)
  |_=>none
 |.field A n off x=>
  match s.ev x with
  |.agg l=>(part A n off l).map λr=>(r,s.m)
  |_=>none
 |.iaddr S x i=>
  match s.ev i with
  |.v (.int _ k)=>
   if 0<=k then
    match s.ev x with
    |.sl S' l=>if S'=S then(l[k.toNat]?).map λd=>(.pt d,s.m)else none
    |.own id Oa=>
     match s.m[id]? with
     |some (.live S' g l)=>if S'=S/\g=Oa/\k.toNat<l.length then some (.ref id Oa k.toNat 0,s.m)else none
     |_=>none
    |.view id Oa lo n=>
     match s.m[id]? with
     |some (.live S' g l)=>if S'=S/\g=Oa/\k.toNat<n/\lo+n<=l.length then some (.ref id Oa (lo+k.toNat) 0,s.m)else none
     |_=>none
    |_=>none
   else none
  |_=>none
 |.aaddr A S len x i=>
  match s.ev i with
  |.v (.int _ k)=>
   if 0<=k/\k.toNat<len then
    match s.ev x with
    |.pt (.agg l)=>(part A S (k.toNat*S) l).map λr=>(.pt r,s.m)
    |.ref id Oa idx sub=>some (.ref id Oa idx (sub+k.toNat*S),s.m)
    |_=>none
   else none
  |_=>none
 |.index A S len x i=>
  match s.ev i with
  |.v (.int _ k)=>
   if 0<=k/\k.toNat<len then
    match s.ev x with
    |.agg l=>(part A S (k.toNat*S) l).map λr=>(r,s.m)
    |_=>none
   else none
  |_=>none
 |.extract x i=>
  match s.ev x with
  |.tup l=>(l[i]?).map λd=>(d,s.m)
  |_=>none
 |.len x=>(qd s.m (s.ev x)).map λ(n:Nat)=>(D.v (.int .i64 (n:Int)),s.m)
 |.slen x=>
  match s.ev x with
  |.v (.string b)=>some (.v (.int .i64 (b.size:Int)),s.m)
  |_=>none
 |.append S bytes x y=>
  match contents S s.m (s.ev y)with
  |some r=>
   match s.ev x with
   |.v (.slice none 0 0)=>if r.length*bytes<=2 ^ 47 then some (.own s.m.length 0,s.m++[.live S 0 r])else none
   |.own id Oa=>
    match s.m[id]? with
    |some (.live S' g l)=>if S'=S/\g=Oa/\(l.length+r.length)*bytes<=2 ^ 47 then some (.own id (Oa+1),s.m.set id (.live S (Oa+1) (l++r)))else none
    |_=>none
   |_=>none
  |none=>none
 |.mkslice S bytes z l c=>
  match s.ev l,s.ev c with
  |.v (.int .i64 n),.v (.int .i64 k)=>
   if 0<=n/\n<=k/\k<=2 ^ 62/\k.toNat*bytes<=2 ^ 48 then some (.own s.m.length 0,s.m++[.live S 0 (Daa n.toNat z)])else none
  |_,_=>none
 |.mkfunc f first caps=>some (.fn f (first.map s.ev) (caps.map s.ev),s.m)
 |.fail=>none
 |.mm isMax xs=>
  match leaves (xs.map s.ev)with
  |some vs=>(Rh (if isMax then Builtin.max_ #[] 0 vs.toArray else Builtin.min_ #[] 0 vs.toArray)).map λr=>(.v r,s.m)
  |none=>none
 |.ceq neg ks x y=>
  match s.ev x,s.ev y with
  |.agg l,.agg r=>(Ud ks l r).map λt=>(.v (.bool (t !=neg)),s.m)
  |_,_=>none
 |.strb S x=>
  match s.ev x with
  |.own id Oa=>
   match s.m[id]? with
   |some (.live S' g l)=>if S'=S/\g=Oa/\0<l.length/\l.all isV=true then some (.sl S l,s.m.set id .gone)else none
   |_=>none
  |_=>none
 |.Jx x i=>
  match s.ev x,s.ev i with
  |.v (.string b),.v (.int _ k)=>if h:0<=k/\k.toNat<b.size then some (.v (.int .u8 (b[k.toNat]'h.2).toNat),s.m)else none
  |_,_=>none
 |.sslice x lo hi=>
  match s.ev x with
  |.v (.string b)=>
   match bound s 0 lo,bound s b.size hi with
   |some l,some h=>if l<=h/\h<=b.size then some (.v (.string (b.extract l h)),s.m)else none
   |_,_=>none
  |_=>none
 |.mkmap=>some (.mp s.m.length,s.m++[.mp []])
 |.mlook K ok z x k=>
  match s.ev k with
  |.v o=>
   if isKey K o=true then
    match s.ev x with
    |.v (.map none)=>some (if ok then .tup [z,.v (.bool false)]else z,s.m)
    |.mp id=>
     match s.m[id]? with
     |some (.mp es)=>
      if(es.all λe=>isKey K e.1)=true then
       match BD o es with
       |some d=>some (if ok then .tup [d,.v (.bool true)]else d,s.m)
       |none=>some (if ok then .tup [z,.v (.bool false)]else z,s.m)
      else none
     |_=>none
    |_=>none
   else none
  |_=>none
 |.mput K m k x=>
  match s.ev k,s.ev m with
  |.v o,.mp id=>
   match s.m[id]? with
   |some (.mp es)=>if isKey K o=true/\(es.all λe=>isKey K e.1)=true then some (.dead,s.m.set id (.mp (NG o (s.ev x) es)))else none
   |_=>none
  |_,_=>none
 |.mlen x=>
  match s.ev x with
  |.v (.map none)=>some (.v (.int .i64 0),s.m)
  |.mp id=>
   match s.m[id]? with
   |some (.mp es)=>some (.v (.int .i64 (es.length:Int)),s.m)
   |_=>none
  |_=>none
 |.trunc S x lo hi=>
  match s.ev x with
  |.own id Oa=>
   match s.m[id]? with
   |some (.live S' g l)=>
    match bound s 0 lo,bound s l.length hi with
    |some a,some h=>if a<=h/\S'=S/\g=Oa/\h<=l.length then some (.own id (Oa+1),s.m.set id (.live S (Oa+1) ((l.take h).drop a)))else none
    |_,_=>none
   |_=>none
  |d=>
   match qd s.m d with
   |some n=>
    match bound s 0 lo,bound s n hi,bound s n none with
    |some l,some h,some k=>if h<=k/\k<=n then(pw S s.m d l h).map λr=>(r,s.m)else none
    |_,_,_=>none
   |none=>none
 |.mkifc t x=>some (.ifc t (s.ev x),s.m)
 |.tassert ok t z x=>
  match s.ev x with
  |.ifc t' d=>if t'=t then some (if ok then .tup [d,.v (.bool true)]else d,s.m)else if ok=true then some (.tup [z,.v (.bool false)],s.m)else none
  |_=>none
 |.clr S z x=>
  match s.ev x with
  |.v (.slice none 0 0)=>some (.dead,s.m)
  |.view id Oa lo n=>
   match s.m[id]? with
   |some (.live S' g l)=>if S'=S/\g=Oa/\lo+n<=l.length then some (.dead,s.m.set id (.live S Oa (l.take lo++Daa n z++l.drop (lo+n))))else none
   |_=>none
  |_=>none
 |.capn x=>
  match s.ev x with
  |.v (.slice none 0 0)=>some (.v (.int .i64 0),s.m)
  |_=>none
 |.nileq neg x=>
  match s.ev x with
  |.v (.slice a _ _)=>some (.v (.bool (a.isNone !=neg)),s.m)
  |.sl _ (_::_)=>some (.v (.bool neg),s.m)
  |.own id Oa=>
   match s.m[id]? with
   |some (.live _ g (_::_))=>if g=Oa then some (.v (.bool neg),s.m)else none
   |_=>none
  |_=>none
 |.mkapp S bytes z x n=>
  match s.ev x,s.ev n with
  |.v (.slice none 0 0),.v (.int .i64 k)=>if 0<k/\k.toNat*bytes<=2 ^ 47 then some (.own s.m.length 0,s.m++[.live S 0 (Daa k.toNat z)])else none
  |_,_=>none
inductive Cal where
 |tmp (t:Tmp)
 |const (v:Value)
 |global (g:Nat)
 |func (f:FuncId)
 |meth (r:Operand) (tb:List (TypeId×FuncId×Option (Bool×Nat)))
def Cal.of:Operand->Cal
 |.tmp t=>.tmp t
 |.const v=>.const v
 |.global g=>.global g
 |.func f=>.func f
def St.cv(s:St):Cal->D
 |.tmp t=>s.ev (.tmp t)
 |.const v=>s.ev (.const v)
 |.global g=>s.ev (.global g)
 |.func f=>s.ev (.func f)
 |.meth ..=>.dead
def LH(m:List Ent) (tb:List (TypeId×FuncId×Option (Bool×Nat))):D->D
 |.ifc t d=>
  match tb.lookup t with
  |some (k,none)=>.fn k [d] []
  |some (k,some r)=>
   match fa ⟨[d],m⟩ (.load r.1 r.2 (.tmp 0))with
   |some (d',_)=>.fn k [d'] []
   |none=>.dead
  |none=>.dead
 |_=>.dead
def St.ec(s:St):Cal->D
 |.tmp t=>s.ev (.tmp t)
 |.const v=>s.ev (.const v)
 |.global g=>s.ev (.global g)
 |.func f=>s.ev (.func f)
 |.meth r tb=>LH s.m tb (s.ev r)
theorem O4{f:Cal}{a b:List D}(h:s.cv f=.fn k a b):s.ec f=.fn k a b:=by
 cases f<;>simp[St.cv]at h<;>exact h
theorem ec_of(x:Operand):s.ec (.of x)=s.ev x:=by cases x<;>rfl
open Go.RowKit (Below)
theorem rf{G:Gh}{w:World}{b S:Nat}:∀{l:List D}{off:Nat},Qa G w b S l off↔∀(i:Nat) d,l[i]?=some d->∃u,VRel G w d u/\u.cells.size=S/\CA w b (off+i*S) u
 |[],off=>by simp[Qa]
 |d::l,off=>by
  simp only[Qa];constructor
  .rintro⟨h1,h2⟩ i e he
   cases i with
   |zero=>simp_all
   |succ i=>
    have:=rf.1 h2 i e (by simp_all)
    grind
  .intro h;refine⟨by simpa using h 0 d rfl,rf.2 λi e he=>?_⟩;have:=h (i+1) e (by simp_all)
   grind
def Mh(G:Gh) (w:World) (S:Nat) (l:List D) (cs:Array Value) (o:Nat:=0):Prop:=
 ∀(i:Nat) d,l[i]?=some d->∃u,VRel G w d u/\u.cells.size=S/\∀(j:Nat) c,u.cells[j]?=some c->one c=true/\cs[i*S+j+o]?=some c
theorem Mh.mono{G G':Gh}{w w':World}{S o:Nat}{l:List D}{cs:Array Value}(h:Mh G w S l cs o) (a:Le G w G' w'):Mh G' w' S l cs o:=
 λi d hd=>let ⟨u,b,h2,c⟩:=h i d hd;⟨u,b.mono a,h2,c⟩
theorem uD{w:World}{j:Nat}{cs:Array Value}{T:TypeId}(h:w.heap[b]?=some (.cells cs T a)):w.cell? ⟨b,j,none⟩=cs[j]?:=by
 grind[World.cell?]
theorem Zm{G:Gh}{w:World}{S o:Nat}{cs:Array Value}{T:TypeId}(h:w.heap[b]?=some (.cells cs T a)) (hr:Mh G w S l cs o):Qa G w b S l o:=
 rf.2 λi d hd=>by
  obtain⟨u,e,h2,f⟩:=hr i d hd;exact⟨u,e,h2,λj c hc=>⟨(f j c hc).1,by grind[uD]⟩⟩
theorem Gx{G:Gh}{w:World}{S o:Nat}{cs:Array Value}{T:TypeId}{e:Nat×Nat}(h:w.heap[b]?=some (.cells cs T e)) (hr:Qa G w b S l o):Mh G w S l cs o:=by
 intro i d hd;obtain⟨u,f,h2,a⟩:=rf.1 hr i d hd;refine⟨u,f,h2,λj c hc=>⟨(a j c hc).1,?_⟩⟩;have:=(a j c hc).2
 grind[uD]
def Gh.add(G:Gh) (b:Option Nat) (S N C:Nat):Gh:=
 ⟨G.F,G.n+1,λi=>if i=G.n then b else G.B i,λi=>if i=G.n then 0 else G.V i,λi=>if i=G.n then S else G.S i,
  λi=>if i=G.n then N else G.N i,λi=>if i=G.n then(C,0)else G.C i⟩
theorem Le.add{G:Gh}{w w':World}(hb:∀b,G.F b->w'.heap[b]?=w.heap[b]?) (b:Option Nat) (S N C:Nat):Le G w (G.add b S N C) w' where
 F _ h:=h
 heap:=hb
 n:=by simp[Gh.add]
 id i hi:=by
  grind[Gh.add]
theorem mn.mono{G G':Gh}{w w':World}(a:Le G w G' w') {i:Nat}{e:Ent}(h:mn G w i e)
 (hi:G'.V i=G.V i/\G'.B i=G.B i/\G'.S i=G.S i/\G'.N i=G.N i/\G'.C i=G.C i) (hb:∀b,G.B i=some b->w'.heap[b]?=w.heap[b]?)
 (f:∀b,G.B i=some b->e.isLive=true->G'.F b->G.F b):mn G' w' i e:=by
 obtain⟨d,h2,o,p,q⟩:=hi
 cases e with
 |live S Oa l=>
  simp only[mn]at h⊢;obtain⟨a1,a2,a3,a4,a5⟩:=h;rw[d,h2,o,p,q];refine⟨a1,a2,a3,a4,?_⟩;rcases a5 with a5|⟨b,cs,T,c,g,b3,j,k⟩
  .simp_all
  .exact .inr ⟨b,cs,T,c,λhf=>g (f b c rfl hf),by simp_all,j,Qa.mono a (hb b c) k⟩
 |mp es=>
  simp only[mn]at h⊢;obtain⟨a1,b,n,m,a2,a3,a4,a5⟩:=h;rw[d,h2];exact⟨a1,b,n,m,a2,λhf=>a3 (f b a2 rfl hf),by simp_all,a5.mono a⟩
 |gone=>trivial
theorem mn.lt{G:Gh}{w:World}{i:Nat}{e:Ent}(h:mn G w i e) (hl:e.isLive=true) (hb:G.B i=some b):b<w.heap.size/\¬G.F b:=by
 have key:∀o,w.heap[b]?=some o->b<w.heap.size:=λo ho=>by
  grind
 cases e with
 |live S Oa l=>
  obtain⟨_,_,_,_,h|⟨a,cs,T,b1,b2,b3,_⟩⟩:=h
  all_goals simp_all
 |mp es=>
  obtain⟨_,a,en,cl,a2,a3,a4,_⟩:=h
  simp_all
 |gone=>cases hl
theorem Zf.lt{G:Gh}{w:World}{m:List Ent}(hi:Inv G w m) {b:Nat}(h:Zf G m b):b<w.heap.size/\¬G.F b:=by
 obtain⟨i,e,a,h2,c⟩:=h;exact(hi.ent i e a).lt h2 c
structure Same (w w':World):Prop where
 heap:w'.heap=w.heap
 os:w'.os=w.os
 tape:w'.tape=w.tape
 output:w'.output=w.output
variable {w':World}
theorem Same.drew(w:World):Same w w.drew:=⟨rfl,rfl,rfl,rfl⟩
theorem Same.le{w:World}(h:Same w w') (G:Gh):Le G w G w':=⟨λ_ h=>h,λ_ _=>by rw[h.heap],Paa _,λ_ _=>.inl ⟨rfl,rfl,rfl,rfl,rfl⟩⟩
theorem Same.step{w:World}(h:Same w w') (G:Gh) (m:List Ent):Step G w m G w' m:=
 ⟨h.le G,h.os,h.tape,h.output,by rw[h.heap];omega,λ_ _ _=>by rw[h.heap],λ_ _ h=>.inl h,λ_ _ h=>h⟩
theorem Same.inv{w:World}(h:Same w w') {G:Gh}(hi:Inv G w m):Inv G w' m:=
 ⟨hi.n,λb hb=>by rw[h.heap];exact hi.F b hb,λi e he=>(hi.ent i e he).mono (h.le G) ⟨rfl,rfl,rfl,rfl,rfl⟩ (λ_ _=>by rw[h.heap]) (λ_ _ _ h=>h),hi.apart,hi.gl.mono (h.le G)⟩
theorem jB{G:Gh}{w:World}(hi:Inv G w m) (b:Option Nat) (S N C:Nat) (e:Ent) (hl:e.isLive=true)
 (r:w'.os=w.os) (g:w'.tape=w.tape) (p:w'.output=w.output) (d:w.heap.size<=w'.heap.size)
 (a:∀k,k<w.heap.size->w'.heap[k]?=w.heap[k]?) (hb:∀k,b=some k->w.heap.size<=k)
 (he:mn (G.add b S N C) w' G.n e) :
 Inv (G.add b S N C) w' (m++[e])/\Step G w m (G.add b S N C) w' (m++[e]):=by
 have f:Le G w (G.add b S N C) w':=Le.add (λk hk=>a k (hi.F k hk)) b S N C;have hnew:∀i,i≠G.n->(G.add b S N C).B i=G.B i:=λi h=>by grind[Gh.add]
 have hat:(G.add b S N C).B G.n=b:=by simp[Gh.add]
 have c:∀i x,(m++[e])[i]?=some x->(m[i]?=some x/\i≠G.n)\/(i=G.n/\x=e):=by
  intro i x hx;rw[Mac]at hx;split at hx
  .exact .inl ⟨hx,by rw[hi.n];omega⟩
  .rename_i hlt;have:i=m.length:=by
    grind
   subst this;simp at hx;exact .inr ⟨hi.n.symm,hx.symm⟩
 have o:∀i x,m[i]?=some x->x.isLive=true->∀k,G.B i=some k->k<w.heap.size:=λi x hx hl k hk=>((hi.ent i x hx).lt hl hk).1;refine⟨⟨by simp[Gh.add,hi.n],λk hk=>lab (hi.F k hk) d,?_,?_,hi.gl.mono f⟩,⟨f,r,g,p,d,λk hk _=>a k hk,λ_ _ h=>.inl h,?_⟩⟩
 .intro i x hx;rcases c i x hx with⟨l,h2⟩|⟨rfl,rfl⟩
  .by_cases q:x.isLive=true
   .refine(hi.ent i x l).mono f (by grind[Gh.add]) (λk hk=>a k (o i x l q k hk)) (λ_ _ _ h=>h)
   .cases x with
    |gone=>trivial
    |_=>grind[Ent.isLive]
  omega
 .intro i j x y hx u s v k hk hk';rcases c i x hx with⟨l,h2⟩|⟨rfl,rfl⟩<;>rcases c j y u with⟨t,h4⟩|⟨rfl,rfl⟩
  .exact hi.apart i j x y l t s v k (by simp_all) (by simp_all)
  all_goals grind
 .rintro k hk ⟨i,x,hx,s,hB⟩;rcases c i x hx with⟨l,h2⟩|⟨rfl,rfl⟩
  .exact⟨i,x,l,s,by simp_all⟩
  grind
theorem xu{G:Gh}{w:World}(hi:Inv G w m) (S:Nat) (l:List D) (C:Nat) (cs:Array Value) (T:TypeId)
 (hr:Mh G w S l cs) (hC:l.length<=C) (hcs:C*S<=cs.size) :
 Inv (G.add (some w.heap.size) S l.length C) (w.alloc (.cells cs T)) (m++[.live S 0 l])/\Step G w m (G.add (some w.heap.size) S l.length C) (w.alloc (.cells cs T)) (m++[.live S 0 l]):=by
 have a:∀k,k<w.heap.size->(w.alloc (.cells cs T)).heap[k]?=w.heap[k]?:=λk hk=>Below.heap_alloc _ _ _ hk;refine jB hi _ _ _ _ _ rfl rfl rfl rfl (by simp) a (λk h=>by simp_all) ?_;have c:Le G w (G.add (some w.heap.size) S l.length C) (w.alloc (.cells cs T)):=Le.add (λk hk=>a k (hi.F k hk)) _ _ _ _;have b:(w.alloc (.cells cs T)).heap[w.heap.size]?=some (.cells cs T (0,0)):=by
  show(w.heap.push (.cells cs T))[w.heap.size]?=_;simp
 refine⟨by simp[Gh.add],by simp[Gh.add],by simp[Gh.add],by grind[Gh.add],.inr ⟨w.heap.size,cs,T,by simp[Gh.add],λh=>?_,b,by grind[Gh.add],by simpa [Gh.add] using Zm b (hr.mono c)⟩⟩;have:=hi.F _ h;omega
def Gh.Eg(G:Gh) (i:Nat) (b:Option Nat) (V N:Nat) (C:Nat×Nat):Gh:=
 ⟨G.F,G.n,λj=>if j=i then b else G.B j,λj=>if j=i then V else G.V j,G.S,λj=>if j=i then N else G.N j,λj=>if j=i then C else G.C j⟩
theorem rh{G:Gh}{w:World}(hi:Inv G w m) {e e':Ent}(hm:m[id]?=some e) (hl:e.isLive=true) (hl':e'.isLive=true) (b:Option Nat) (V N:Nat) (C:Nat×Nat)
 (hV:G.V id<V\/(V=G.V id/\b=G.B id/\N=G.N id/\C=G.C id))
 (z:w'.os=w.os) (o:w'.tape=w.tape) (r:w'.output=w.output) (d:w.heap.size<=w'.heap.size)
 (a:∀k,k<w.heap.size->G.B id≠some k->w'.heap[k]?=w.heap[k]?) (hb:∀k,b=some k->G.B id=some k\/w.heap.size<=k)
 (he:mn (G.Eg id b V N C) w' id e') :
 Inv (G.Eg id b V N C) w' (m.set id e')/\Step G w m (G.Eg id b V N C) w' (m.set id e'):=by
 have t:∀k,G.F k->G.B id≠some k:=λk D g=>((hi.ent id e hm).lt hl g).2 D;have l:Le G w (G.Eg id b V N C) w':=by
  refine⟨λ_ h=>h,λk hk=>a k (hi.F k hk) (t k hk),Paa _,λi _=>?_⟩
  grind[Gh.Eg]
 have hnew:∀i,i≠id->(G.Eg id b V N C).B i=G.B i:=λi h=>by grind[Gh.Eg]
 have u:(G.Eg id b V N C).B id=b:=by simp[Gh.Eg]
 have hlen:id<m.length:=by
  grind
 have c:∀i x,(m.set id e')[i]?=some x->(m[i]?=some x/\i≠id)\/(i=id/\x=e'):=by
  grind
 have q:∀i x,m[i]?=some x->x.isLive=true->∀k,G.B i=some k->k<w.heap.size:=λi x hx hl k hk=>((hi.ent i x hx).lt hl hk).1;refine⟨⟨by simp[Gh.Eg,hi.n],λk hk=>lab (hi.F k hk) d,?_,?_,hi.gl.mono l⟩,⟨l,z,o,r,d,?_,λ_ _ h=>.inl h,?_⟩⟩
 .intro i x hx;rcases c i x hx with⟨f,h2⟩|⟨rfl,rfl⟩
  .by_cases p:x.isLive=true
   .refine(hi.ent i x f).mono l (by grind[Gh.Eg]) (λk hk=>a k (q i x f p k hk) λg=>h2 (hi.apart i id x e f hm p hl k hk g)) (λ_ _ _ h=>h)
   .cases x with
    |gone=>trivial
    |_=>grind[Ent.isLive]
  omega
 .intro i j x y hx E s H k hk hk';have other:∀i x,m[i]?=some x->i≠id->x.isLive=true->G.B i=some k->b=some k->False:=λi x f h2 s hk v=>by
   rcases hb k v with h|h
   .exact h2 (hi.apart i id x e f hm s hl k hk h)
   grind
  rcases c i x hx with⟨f,h2⟩|⟨rfl,rfl⟩<;>rcases c j y E with⟨A,h4⟩|⟨rfl,rfl⟩
  .exact hi.apart i j x y f A s H k (by simp_all) (by simp_all)
  all_goals simp_all
 .intro k hk ho;exact a k hk λg=>ho ⟨id,e,hm,hl,g⟩
 .rintro k hk ⟨i,x,hx,s,g⟩;rcases c i x hx with⟨f,h2⟩|⟨rfl,rfl⟩
  .exact⟨i,x,f,s,by simp_all⟩
  .rw[u]at g;rcases hb k g with h|h
   .exact⟨i,e,hm,hl,h⟩
   omega
def shapeOf(P:Program) (t:TypeId):Option (Bool×Nat):=
 match P.underlying t,P.info? t with
 |some (.struct _),some i=>some (true,i.size)
 |some (.array _ _),some i=>some (true,i.size)
 |some _,some i=>some (false,i.size)
 |_,_=>none
def zeroOf(P:Program) (t:TypeId):Option Value:=
 match P.info? t with
 |some i=>
  match i.zero with
  |some z=>if z.cells.toList.all one=true/\z.cells.size=i.size/\0<i.size then some z else none
  |none=>none
 |none=>none
def partsOf(places:List (Nat×Nat)):List (Nat×Operand)->Option (List (Nat×Nat×Operand))
 |[]=>some []
 |(i,x)::ps=>
  match places[i]?,partsOf places ps with
  |some (off,n),some r=>some ((off,n,x)::r)
  |_,_=>none
def OJ(P:Program) (t:TypeId):Option Nat:=
 match P.underlying t with
 |some (.int _)=>some 0
 |some .bool=>some 1
 |some .string=>some 2
 |_=>none
def PJ(P:Program):List Field->Nat->Option (List Nat)
 |[],_=>some []
 |f::fs,off=>
  if f.name≠ "_"/\f.offset=off then
   match OJ P f.type,PJ P fs (off+1)with
   |some k,some ks=>some (k::ks)
   |_,_=>none
  else none
def pA(P:Program):List Field->Nat->Option (List Nat)
 |[],_=>some []
 |f::fs,off=>
  if f.name≠ "_"/\f.offset=off then
   match P.underlying f.type with
   |some (.struct gs)=>
    match PJ P gs.toList 0,P.info? f.type with
    |some ks,some i=>if i.size=ks.length/\P.stoodInHeld f.type=false then(pA P fs (off+ks.length)).map (ks++·)else none
    |_,_=>none
   |_=>
    match OJ P f.type,pA P fs (off+1)with
    |some k,some ks=>some (k::ks)
    |_,_=>none
  else none
def av(P:Program) (t:TypeId):Option Nat:=
 match P.underlying t with
 |some (.int .i64)=>some 0
 |some .string=>some 2
 |_=>none
def sH(P:Program):Op->Option I
 |.move x=>some (.mv x)
 |.assign x=>some (.mv x)
 |.pick c a b=>some (.pick c a b)
 |.alloc t=>(zeroOf P t).map λz=>.alloc z.cells.size (leaf z)
 |.box t x=>some (.box (P.cellsOf t) x)
 |.build t ps=>
  match P.underlying t,zeroOf P t with
  |some (.struct fs),some z=>
   match fs.toList.mapM λf=>(P.info? f.type).map λi=>(f.offset,i.size)with
   |some places=>(partsOf places ps.toList).map λr=>.build (z.cells.toList.map .v) r
   |none=>none
  |some (.array _ e),some z=>(P.info? e).map λi=>.build (z.cells.toList.map .v) (ps.toList.map λ(k,x)=>(k*i.size,i.size,x))
  |_,_=>none
 |.buildSlice t n ps=>
  match P.underlying t with
  |some (.slice e)=>
   match zeroOf P e with
   |some z=>if n*z.cells.size<=2 ^ 24 then some (.bslice z.cells.size n (leaf z) ps.toList)else none
   |none=>none
  |_=>none
 |.load t x=>(shapeOf P t).map λr=>.load r.1 r.2 x
 |.store t x y=>(P.info? t).map λi=>.store i.size x y
 |.nilCheck x=>some (.nilc x)
 |.binOp op t x y _=>
  match P.underlying t with
  |some .bool=>if op=.eql then some (.beq false x y)else if op=.neq then some (.beq true x y)else none
  |some (.struct fs)=>
   if(op=.eql\/op=.neq)/\P.stoodInHeld t=false/\P.eqGuardType P.depth t=false then
    match pA P fs.toList 0 with
    |some ks=>some (.ceq (decide (op=.neq)) ks x y)
    |none=>none
   else none
  |some (.slice _)=>
   match op,y with
   |.eql,.const (.slice none 0 0)=>some (.nileq false x)
   |.neq,.const (.slice none 0 0)=>some (.nileq true x)
   |_,_=>none
  |some _=>some (.bin op x y)
  |none=>none
 |.unOp op _ x=>some (.un op x)
 |.convert s d x=>
  match P.underlying s,P.underlying d with
  |some (.int _),some (.int k)=>some (.conv k x)
  |some (.slice _),some (.slice e)=>
   match P.underlying e,P.info? e with
   |some (.int .u8),some i=>if s=d then some (.strb i.size x)else none
   |_,_=>none
  |_,_=>none
 |.makeFunc (.func f) first caps=>some (.mkfunc f first.toList caps.toList)
 |.makeSlice t l c=>
  match P.underlying t with
  |some (.slice e)=>
   match zeroOf P e with
   |some z=>some (.mkslice z.cells.size (P.bytesOf e) (leaf z) l c)
   |none=>none
  |_=>none
 |.slice t x lo hi mx=>
  match P.underlying t with
  |some (.slice e)=>if mx.isSome&&hi.isNone then none else(P.info? e).map λi=>.slice i.size x lo hi mx
  |some .string=>if mx.isSome then none else some (.sslice x lo hi)
  |_=>none
 |.fieldAddr s x f=>
  match P.underlying s with
  |some (.struct fs)=>
   match fs[f]? with
   |some g=>
    match shapeOf P g.type with
    |some r=>if r.2≠0 then some (.faddr r.1 r.2 g.offset x)else none
    |none=>none
   |none=>none
  |_=>none
 |.field s x f=>
  match P.underlying s with
  |some (.struct fs)=>
   match fs[f]? with
   |some g=>(shapeOf P g.type).map λr=>.field r.1 r.2 g.offset x
   |none=>none
  |_=>none
 |.indexAddr t x i=>
  match P.underlying t with
  |some (.slice e)=>(P.info? e).map λj=>.iaddr j.size x i
  |some (.array n e)=>(shapeOf P e).map λr=>.aaddr r.1 r.2 n x i
  |_=>none
 |.index t x i=>
  match P.underlying t with
  |some (.array n e)=>(shapeOf P e).map λr=>.index r.1 r.2 n x i
  |some .string=>some (.Jx x i)
  |_=>none
 |.extract x i=>some (.extract x i)
 |.panic _=>some .fail
 |.makeMap _ none=>some .mkmap
 |.lookup t x k ok=>
  match P.underlying t with
  |some (.map h o)=>
   match av P h,zeroOf P o with
   |some K,some z=>some (.mlook K ok (leaf z) x k)
   |_,_=>none
  |_=>none
 |.mapUpdate t m k x=>
  match P.underlying t with
  |some (.map h _)=>(av P h).map λK=>.mput K m k x
  |_=>none
 |.call c=>
  match c.callee,c.args.toList,c.argTypes.toList with
  |.builtin .len,[x],[t]=>
   match P.underlying t with
   |some (.slice _)=>some (.len x)
   |some .string=>some (.slen x)
   |some (.map _ _)=>some (.mlen x)
   |_=>none
  |.builtin .max,xs,_=>some (.mm true xs)
  |.builtin .min,xs,_=>some (.mm false xs)
  |.builtin .append,[x,y],[t,u]=>
   match P.underlying t,P.underlying u with
   |some (.slice e),some (.slice _)=>
    if t=u then
     match P.info? e,zeroOf P e with
     |some i,some _=>if 0<i.bytes then some (.append i.size i.bytes x y)else none
     |_,_=>none
    else none
   |some (.slice e),some (.int .i64)=>
    match P.info? e,zeroOf P e with
    |some i,some z=>if 0<i.bytes then some (.mkapp i.size i.bytes (leaf z) x y)else none
    |_,_=>none
   |_,_=>none
  |.builtin .clear,[x],[t]=>
   match P.underlying t with
   |some (.slice e)=>(zeroOf P e).map λz=>.clr z.cells.size (leaf z) x
   |_=>none
  |.builtin .cap,[x],[t]=>
   match P.underlying t with
   |some (.slice _)=>some (.capn x)
   |_=>none
  |_,_,_=>none
 |.makeInterface t x=>
  match P.underlying t with
  |some (.interface _)=>none
  |some _=>some (.mkifc t x)
  |none=>none
 |.typeAssert x _ t ok=>
  match P.underlying t,zeroOf P t with
  |some (.interface _),_=>none
  |some _,some z=>some (.tassert ok t (leaf z) x)
  |_,_=>none
 |_=>none
def mrow(P:Program) (name:String) (t:TypeId):Option (FuncId×Option (Bool×Nat)):=
 match P.info? t with
 |some i=>
  match i.methods.find? (·.name==name)with
  |some m=>
   match m.path.isEmpty,m.func,P.underlying t with
   |true,some (f,true),some (.pointer _)=>some (f,none)
   |true,some (f,false),some (.pointer e)=>(shapeOf P e).map λr=>(f,some r)
   |true,some (f,false),some _=>some (f,none)
   |_,_,_=>none
  |none=>none
 |none=>none
def mtab(P:Program) (name:String):List (TypeId×FuncId×Option (Bool×Nat)):=(Kaa P.types.size).filterMap λt=>(mrow P name t).map λr=>(t,r)
def YN(P:Program):Op->Option (Cal×List Operand)
 |.call ⟨.value f,args,_⟩=>some (.of f,args.toList)
 |.call ⟨.invoke r n,args,_⟩=>some (.meth r (mtab P n),args.toList)
 |_=>none
inductive RI where
 |op (dst:Option Tmp) (g:Option (Tmp×Bool)) (i:I)
 |call (dst:Option Tmp) (g:Option (Tmp×Bool)) (f:Cal) (args:List Operand)
def guardOf(ops:Array Oper):Option (Nat×Bool)->Option (Option (Tmp×Bool))
 |none=>some none
 |some (j,b)=>
  match (ops[j]?).bind (·.dst)with
  |some t=>some (some (t,b))
  |none=>none
def appsTo(ops:Array Oper) (a:Tmp):Bool:=ops.toList.any λo=>
 match o.op with
 |.call ⟨.builtin .append,args,_⟩=>
  match args.toList with
  |.tmp t::_=>t==a
  |_=>false
 |_=>false
def mvOf(o:Oper):Option (Tmp×Tmp):=
 match o.op,o.dst with
 |.move (.tmp s),some d=>some (s,d)
 |.assign (.tmp s),some d=>some (s,d)
 |_,_=>none
def isBack(ops:Array Oper) (x:Operand) (a:Tmp):Bool:=
 match x with
 |.tmp y=>ops.toList.any λo=>
  match mvOf o with
  |some (s,v)=>s==a&&(v==y || ops.toList.any λp=>
   match mvOf p with
   |some (s',d')=>s'==v&&d'==y
   |none=>false)
  |none=>false
 |_=>false
def appsOut(ops:Array Oper) (x:Operand):Bool:=
 match x with
 |.tmp y=>ops.toList.any λo=>
  match o.op with
  |.call ⟨.builtin .append,_,_⟩=>o.dst==some y
  |_=>false
 |_=>false
def OC(P:Program) (ops:Array Oper) (o:Oper):Option I:=
 match o.op,o.dst with
 |.slice t x lo hi none,some a=>
  if appsTo ops a=true\/isBack ops x a=true\/appsOut ops x=true then
   match P.underlying t with
   |some (.slice e)=>(P.info? e).map λi=>.trunc i.size x lo hi
   |_=>none
  else none
 |_,_=>none
def zu(P:Program) (ops:Array Oper) (o:Oper) (op:Op):Option I:=
 match OC P ops o with
 |some i=>some i
 |none=>sH P op
def cr(P:Program) (ops:Array Oper) (o:Oper):Option RI:=
 match guardOf ops o.guard with
 |none=>none
 |some g=>
  match YN P o.op with
  |some (f,args)=>some (.call o.dst g f args)
  |none=>(zu P ops o o.op).map λi=>.op o.dst g i
def Nh(P:Program) (ops:Array Oper):List Oper->Option (List RI)
 |[]=>some []
 |o::l=>
  match cr P ops o,Nh P ops l with
  |some r,some rs=>some (r::rs)
  |_,_=>none
def Tf:Operand->List Tmp
 |.tmp t=>[t]
 |_=>[]
def OH:Option Operand->List Tmp
 |some x=>Tf x
 |none=>[]
def Cal.tmps:Cal->List Tmp
 |.tmp t=>[t]
 |.meth r _=>Tf r
 |_=>[]
def I.reads:I->List Tmp
 |.mv x|.un _ x|.conv _ x|.box _ x|.load _ _ x|.nilc x|.faddr _ _ _ x|.field _ _ _ x|.extract x _|.len x|.slen x=>Tf x
 |.pick c a b=>Tf c++Tf a++Tf b
 |.bin _ x y|.beq _ x y|.store _ x y|.iaddr _ x y|.aaddr _ _ _ x y|.index _ _ _ x y|.append _ _ x y|.mkslice _ _ _ x y=>Tf x++Tf y
 |.alloc _ _=>[]
 |.build _ ps=>ps.flatMap λp=>Tf p.2.2
 |.bslice _ _ _ ps=>ps.flatMap λp=>Tf p.2
 |.slice _ x a b c=>Tf x++OH a++OH b++OH c
 |.mkfunc _ a b=>a.flatMap Tf++b.flatMap Tf
 |.fail=>[]
 |.mm _ xs=>xs.flatMap Tf
 |.ceq _ _ x y=>Tf x++Tf y
 |.strb _ x=>Tf x
 |.Jx x i=>Tf x++Tf i
 |.sslice x a b=>Tf x++OH a++OH b
 |.mkmap=>[]
 |.mlook _ _ _ x k=>Tf x++Tf k
 |.mput _ m k x=>Tf m++Tf k++Tf x
 |.mlen x=>Tf x
 |.trunc _ x lo hi=>Tf x++OH lo++OH hi
 |.mkifc _ x|.tassert _ _ _ x|.clr _ _ x|.capn x|.nileq _ x=>Tf x
 |.mkapp _ _ _ x y=>Tf x++Tf y
def I.cls:I->Nat
 |.load ..|.slice ..|.iaddr ..|.len _|.mlook ..|.mlen _|.nileq ..=>1
 |.alloc ..|.box ..|.bslice ..|.mkslice ..|.mkmap=>2
 |.store ..|.append ..|.strb ..|.mput ..|.trunc ..|.clr ..|.mkapp ..=>3
 |_=>0
def RI.dst:RI->Option Tmp
 |.op d _ _=>d
 |.call d _ _ _=>d
def BO:Option (Tmp×Bool)->List Tmp
 |some (t,_)=>[t]
 |none=>[]
def RI.reads:RI->List Tmp
 |.op _ g i=>BO g++i.reads
 |.call _ g f args=>BO g++f.tmps++args.flatMap Tf
def RI.cls:RI->Nat
 |.op _ _ i=>i.cls
 |.call ..=>1
def Q6(acc:List Nat) (b:List Nat):Nat:=b.foldl (λs e=>s ||| 2 ^ e ||| acc.getD e 0) 0
def Jz(acc:List Nat):List (List Nat)->List Nat
 |[]=>acc
 |b::bs=>Jz (acc++[Q6 acc b]) bs
def MA(bs:List (List Nat)):List Nat:=Jz [] bs
def wD(x y:RI):Bool:=
 (
  match x.dst with
  |some t=>y.reads.contains t || y.dst==some t
  |none=>false) ||
 (
  match y.dst with
  |some t=>x.reads.contains t
  |none=>false) ||
 (x.cls==2&&y.cls==2)
def rG(bs:List (List Nat)) (rl:List RI) (q:Nat):Bool:=
 let ms:=MA bs
 bs.length==rl.length&&(q<=rl.length) &&
 ((Kaa bs.length).all λi=>(bs.getD i []).all λe=>decide (e<i)) &&
 ((
  Kaa rl.length).all λj=>match rl[j]? with
  |none=>false
  |some y=>if j<q then decide (y.cls<=2)&&(Kaa j).all λi=>match rl[i]? with
   |none=>false
   |some x=>!wD x y || (ms.getD j 0).testBit i
   else(Kaa j).all λi=>(ms.getD j 0).testBit i)
def jP(bs:List (List Nat)) (rl:List RI) (cuts:List Nat) (q:Nat):Bool:=
 let ms:=MA bs
 (cuts.all λp=>(Kaa rl.length).all λj=>decide (j<p) || (Kaa p).all λi=>(ms.getD j 0).testBit i) &&
 bs.length==rl.length&&(q<=rl.length) &&
 ((Kaa bs.length).all λi=>(bs.getD i []).all λe=>decide (e<i)) &&
 ((Kaa rl.length).all λj=>decide (j<q) || (Kaa j).all λi=>(ms.getD j 0).testBit i)
def qOf(bs:List (List Nat)) (n:Nat):Nat:=
 let ms:=MA bs
 (Kaa n).foldl (λq j=>if(Kaa j).all (λi=>(ms.getD j 0).testBit i)then q else j+1) 0
def rT(bs:List (List Nat)) (n q:Nat):List Nat:=
 let ms:=MA bs
 (Kaa q).filter λp=>decide (0<p)&&(Kaa n).all λj=>decide (j<p) || (Kaa p).all λi=>(ms.getD j 0).testBit i
inductive C where
 |skip
 |IS (l:List RI)
 |draw (q:Nat) (l:List RI)
 |any (cuts:List Nat) (q:Nat) (bs:List (List Nat)) (l:List RI)
 |seq (a b:C)
 |cond (c:Operand) (a b:C)
 |block (id:Nat) (a:C)
 |loop (a:C)
 |exit (id:Nat)
 |ret
 |stuck
def Bb(ops:Array Oper):List (List Nat):=ops.toList.map λo=>(o.after.toList.filter λe=>Region.binds .any e).map (·.on)
def comp(P:Program):Code->Option C
 |.skip=>some .skip
 |.region _ ops false=>(Nh P ops ops.toList).map .IS
 |.region _ ops true=>
  match Nh P ops ops.toList with
  |some rl=>
   if rG (Bb ops) rl (qOf (Bb ops) rl.length)=true then some (.draw (qOf (Bb ops) rl.length) rl)
   else if jP (Bb ops) rl (rT (Bb ops) rl.length (qOf (Bb ops) rl.length)) (qOf (Bb ops) rl.length)=true then
    some (.any (rT (Bb ops) rl.length (qOf (Bb ops) rl.length)) (qOf (Bb ops) rl.length) (Bb ops) rl)else none
  |none=>none
 |.seq a b=>
  match comp P a,comp P b with
  |some x,some y=>some (.seq x y)
  |_,_=>none
 |.cond c a b=>
  match comp P a,comp P b with
  |some x,some y=>some (.cond c x y)
  |_,_=>none
 |.block id a=>(comp P a).map (.block id)
 |.loop a=>(comp P a).map .loop
 |.exit id=>some (.exit id)
 |.ret=>some .ret
 |.label _=>some .skip
 |.rangeFunc ..=>some .stuck
 |_=>none
inductive RV where
 |tmp (t:Tmp)
 |cell (A:Bool) (n:Nat) (a:Tmp)
structure Fun where
 ntmps:Nat
 results:List RV
 code:C
def lT(P:Program):ResultVar->Option RV
 |.tmp t=>some (.tmp t)
 |.cell a t=>(shapeOf P t).map λr=>.cell r.1 r.2 a
def iA(P:Program):List ResultVar->Option (List RV)
 |[]=>some []
 |r::l=>
  match lT P r,iA P l with
  |some x,some y=>some (x::y)
  |_,_=>none
def pz(P:Program) (f:FuncId):Option Fun:=
 match P.funcs[f]? with
 |some fn=>
  match fn.body,iA P fn.results.toList with
  |some b,some r=>(comp P b).map λc=>⟨fn.ntmps,r,c⟩
  |_,_=>none
 |none=>none
open Go.RowKit (Below)
def Good(G:Gh) (w:World) (m:List Ent) (r:Result Next) (d:D) (m':List Ent):Prop:=
 ∃a w' G',r=.ok a w'/\((∃u,a=.value u/\VRel G' w' d u)\/(a=.skip/\d=.dead))/\Inv G' w' m'/\Step G w m G' w' m'
theorem Ea{G:Gh}{w:World}{d:D}{u:Value}{r:Result Next}(hi:Inv G w m) (hr:r=.ok (.value u) w) (hd:VRel G w d u):Good G w m r d m:=
 ⟨_,w,G,hr,.inl ⟨u,rfl,hd⟩,hi,Step.refl _ _ _⟩
theorem Ov{P:Program}{s:Sem α}{a:α}(h:Rh s=some a) (w:World):s.run P w=.ok a w:=by
 cases s<;>simp[Rh]at h
 simp_all
theorem je{P:Program}(h:P.info? t=some i) (w:World):(sizeOf t).run P w=.ok i.size w:=by
 simp[sizeOf,typeInfo,h]
theorem Bo{P:Program}(h:zeroOf P t=some z) (w:World):(zeroValue t).run P w=.ok z w/\z.cells.all one=true/\0<z.cells.size/\∃i,P.info? t=some i/\i.size=z.cells.size/\i.zero=some z:=by
 unfold zeroOf at h;split at h
 .rename_i i hi;split at h
  .rename_i z' hz;split at h
   all_goals simp_all[zeroValue,typeInfo]
  .cases h
 .cases h
def Mu:TypeDesc->Bool
 |.struct _|.array _ _=>true
 |_=>false
theorem bw{P:Program}{r:Bool×Nat}(h:shapeOf P t=some r):∃d i,P.underlying t=some d/\P.info? t=some i/\r=(Mu d,i.size):=by
 unfold shapeOf at h;split at h<;>first|(cases h;done)|skip
 .rename_i hd hi;injection h with h;subst h;exact⟨_,_,hd,hi,rfl⟩
 .rename_i hd hi;injection h with h;subst h;exact⟨_,_,hd,hi,rfl⟩
 .rename_i d i a h2 hd hi;injection h with h;subst h;refine⟨_,_,hd,hi,?_⟩;cases d<;>first|rfl|exact(a _ rfl).elim|simp_all
theorem Hx{P:Program}{d:TypeDesc}(h:P.underlying t=some d) (w:World):(isAgg t).run P w=.ok (Mu d) w:=by
 unfold isAgg;simp only[Sem.run_bind,run_underlying h,Result.andThen_ok];cases d<;>rfl
theorem VsRel.getElem{G:Gh}{w:World}:∀{l:List D}{us:List Value}{i:Nat}{d:D},VsRel G w l us->l[i]?=some d->∃u,us[i]?=some u/\VRel G w d u
 |[],us,i,d,h,hd=>by simp at hd
 |e::l,us,i,d,h,hd=>by
  simp only[VsRel]at h;obtain⟨u,r,rfl,a,h2⟩:=h
  cases i with
  |zero=>simp at hd;subst hd;exact⟨u,by simp,a⟩
  |succ i=>simpa using VsRel.getElem (i:=i) h2 (by simpa using hd)
theorem VsRel.drop{G:Gh}{w:World}:∀{l:List D}{us:List Value}(k:Nat),VsRel G w l us->VsRel G w (l.drop k) (us.drop k)
 |[],us,k,h=>by simp[VsRel]at h;simp[h,VsRel]
 |e::l,us,k,h=>by
  cases k with
  |zero=>simpa using h
  |succ k=>
   simp only[VsRel]at h;obtain⟨u,r,rfl,h1,h2⟩:=h;simpa using VsRel.drop k h2
theorem VsRel.take{G:Gh}{w:World}:∀{l:List D}{us:List Value}(k:Nat),VsRel G w l us->VsRel G w (l.take k) (us.take k)
 |[],us,k,h=>by simp[VsRel]at h;simp[h,VsRel]
 |e::l,us,k,h=>by
  cases k with
  |zero=>simp[VsRel]
  |succ k=>
   simp only[VsRel]at h;obtain⟨u,r,rfl,a,h2⟩:=h;simp only[List.take_succ_cons,VsRel];exact⟨u,_,rfl,a,VsRel.take k h2⟩
theorem VsRel.append{G:Gh}{w:World}:∀{l l':List D}{us a:List Value},VsRel G w l us->VsRel G w l' a->VsRel G w (l++l') (us++a)
 |[],l',us,a,h,b=>by simp[VsRel]at h;simp_all
 |e::l,l',us,a,h,b=>by
  simp only[VsRel]at h;obtain⟨u,r,rfl,c,h2⟩:=h;simp only[Waa,VsRel];exact⟨u,_,rfl,c,VsRel.append h2 b⟩
theorem VRel.cells{G:Gh}{w:World}{d:D}{u:Value}(h:VRel G w d u) (g:d.ok=true):VsRel G w d.cells u.cells.toList/\∀c∈u.cells.toList,one c=true:=by
 have single:u.cells = #[u]->one u=true->d.cells=[d]->VsRel G w d.cells u.cells.toList/\∀c∈u.cells.toList,one c=true:=by
  intro i h2 j;rw[i,j];refine⟨?_,by simp_all⟩;simp only[VsRel]
  simp_all
 cases d with
 |v x=>
  simp only[VRel]at h;subst h;simp only[D.ok]at g;cases u<;>first|exact single rfl rfl rfl|grind[one]
 |agg l=>
  simp only[VRel]at h;obtain⟨cs,rfl,h,i⟩:=h
  grind[Value.cells,D.cells]
 |tup l=>grind[D.ok]
 |sl S l=>obtain⟨a,n,cap,rfl,-⟩:=(by simpa only[VRel] using h:∃a n cap,u=.slice a n cap/\_);exact single rfl rfl rfl
 |pt d=>obtain⟨b,off,x,rfl,-⟩:=(by simpa only[VRel] using h:∃b off x,u=.pointer (some ⟨b,off,none⟩)/\_);exact single rfl rfl rfl
 |ref id Oa idx sub=>obtain⟨a,rfl,-⟩:=(by simpa only[VRel] using h:∃a,u=.pointer (some a)/\_);exact single rfl rfl rfl
 |own id Oa=>obtain⟨a,n,c,rfl,-⟩:=(by simpa only[VRel] using h:∃a n c,u=.slice a n c/\_);exact single rfl rfl rfl
 |view id Oa lo n=>obtain⟨a,c,rfl,-⟩:=(by simpa only[VRel] using h:∃a c,u=.slice a n c/\_);exact single rfl rfl rfl
 |fn f a b=>obtain⟨fs,cs,rfl,-⟩:=(by simpa only[VRel] using h:∃fs cs:List Value,u=.func (.func f) fs.toArray cs.toArray/\_);exact single rfl rfl rfl
 |mp id=>obtain⟨b,rfl,-⟩:=(by simpa only[VRel] using h:∃b,u=.map (some b)/\_);exact single rfl rfl rfl
 |ifc t e=>obtain⟨x,rfl,-⟩:=(by simpa only[VRel] using h:∃x,u=.iface t x/\_);exact single rfl rfl rfl
 |dead=>grind[D.ok]
open Go.RowKit (Below)
section
variable {P:Program} {G:Gh} {w:World} {a:Act} {s:St} {d:D} {m':List Ent}
theorem BY(op:BinOp) (t:TypeId) (x y:Operand) (j k:IntKind) (p q:Int) (w:World):(eqGuard op t x y (.int j p) (.int k q)).run P w=.ok () w:=by
 simp_all[eqGuard]
theorem DO(op:BinOp) (t:TypeId) (x y:Operand) (p q:ByteArray) (w:World):(eqGuard op t x y (.string p) (.string q)).run P w=.ok () w:=by
 simp_all[eqGuard]
theorem ZJ(op:BinOp) (t:TypeId) (x y:Operand) (p q:Bool) (w:World):(eqGuard op t x y (.bool p) (.bool q)).run P w=.ok () w:=by
 simp_all[eqGuard]
theorem zX(op:BinOp) (t:TypeId) (j k:IntKind) (p q:Int):binOp op t (.int j p) (.int k q)=binOp op 0 (.int j p) (.int k q):=by cases op<;>rfl
theorem VN(op:BinOp) (t:TypeId) (p q:ByteArray):binOp op t (.string p) (.string q)=binOp op 0 (.string p) (.string q):=by cases op<;>rfl
theorem g_bin(hr:Rel G w a s) (ho:o.op=.binOp op t x y e) (he:fa s (.bin op x y)=some (d,m')) :
 Good G w s.m ((execOp a.eval o).run P w) d m':=by
 have hx:=hr.ev x;have b:=hr.ev y;simp only[fa]at he;unfold execOp;simp only[ho];generalize s.ev x=dx at *;generalize s.ev y=dy at *;split at he
 .simp only[VRel]at hx b;simp only[hx,b,Faa,Vaa]at he⊢;obtain⟨r,c,rfl,rfl⟩:=he;refine Ea (u:=r) hr.inv ?_ (by simp[VRel])
  simp_all[BY,zX,Ov]
 .simp only[VRel]at hx b;simp only[hx,b,Faa,Vaa]at he⊢;obtain⟨r,c,rfl,rfl⟩:=he;refine Ea (u:=r) hr.inv ?_ (by simp[VRel])
  simp_all[DO,VN,Ov]
 simp_all
theorem run_equal_bool(t:TypeId) (ht:P.underlying t=some .bool) (p q:Bool) (w:World):(Op.equal t (.bool p) (.bool q)).run P w=.ok (p==q) w:=by
 unfold Op.equal Op.maxDepth;rw[show(10000:Nat)=9999+1 from rfl,Op.equalIn]
 simp_all[run_underlying]
theorem g_beq(hr:Rel G w a s) {f:TypeId}(ho:o.op=.binOp op t x y f) (ht:P.underlying t=some .bool) 
 (b:(op=.eql/\neg=false)\/(op=.neq/\neg=true)) (he:fa s (.beq neg x y)=some (d,m')) :
 Good G w s.m ((execOp a.eval o).run P w) d m':=by
 have hx:=hr.ev x;have c:=hr.ev y;simp only[fa]at he;unfold execOp;simp only[ho];generalize s.ev x=dx at *;generalize s.ev y=dy at *;split at he
 .simp only[VRel]at hx c;simp only[hx,c]at he⊢;injection he with he;injection he with e h2;subst e;subst h2;rename_i p q;rcases b with⟨rfl,rfl⟩|⟨rfl,rfl⟩
  .refine Ea (u:=.bool (p==q)) hr.inv ?_ (by simp[VRel]);have hb:binOp .eql t (.bool p) (.bool q)=(do pure (.bool (←Op.equal t (.bool p) (.bool q)))):=rfl
   simp_all[ZJ,run_equal_bool]
  .refine Ea (u:=.bool (!(p==q))) hr.inv ?_ (by simp[VRel]);have hb:binOp .neq t (.bool p) (.bool q)=(do pure (.bool (!(←Op.equal t (.bool p) (.bool q))))):=rfl
   simp_all[ZJ,run_equal_bool]
 simp_all
theorem g_un(hr:Rel G w a s) {op:UnOp}(ho:o.op=.unOp op t x) (he:fa s (.un op x)=some (d,m')) :
 Good G w s.m ((execOp a.eval o).run P w) d m':=by
 have hx:=hr.ev x;simp only[fa]at he;unfold execOp;simp only[ho];generalize s.ev x=dx at *;split at he
 .simp only[VRel]at hx;simp only[hx,Faa,Vaa]at he⊢;obtain⟨r,b,rfl,rfl⟩:=he;refine Ea (u:=r) hr.inv ?_ (by simp[VRel]);simp[Ov b]
 simp_all
theorem g_mv(hr:Rel G w a s) (ho:o.op=.move x\/o.op=.assign x) (he:fa s (.mv x)=some (d,m')) :
 Good G w s.m ((execOp a.eval o).run P w) d m':=by
 have hx:=hr.ev x;simp only[fa]at he;injection he with he;injection he with b h2;subst b;subst h2;refine Ea (u:=a.eval x) hr.inv ?_ hx;unfold execOp;rcases ho with ho|ho<;>simp[ho]
theorem g_pick(hr:Rel G w a s) (ho:o.op=.pick c x y) (he:fa s (.pick c x y)=some (d,m')) :
 Good G w s.m ((execOp a.eval o).run P w) d m':=by
 have hc:=hr.ev c;have hx:=hr.ev x;have hy:=hr.ev y;simp only[fa]at he;unfold execOp;simp only[ho];generalize s.ev c=dc at *;split at he
 .simp only[VRel]at hc;simp only[hc]at he⊢;injection he with he;injection he with e h2;subst e;subst h2;rename_i b;refine Ea (u:=if b then a.eval x else a.eval y) hr.inv ?_ ?_
  .simp[asBool]
  grind
 simp_all
theorem g_conv(hr:Rel G w a s) {k:IntKind}{src dst:TypeId}(ho:o.op=.convert src dst x) (h1:P.underlying src=some (.int j)) (h2:P.underlying dst=some (.int k)) (he:fa s (.conv k x)=some (d,m')) :
 Good G w s.m ((execOp a.eval o).run P w) d m':=by
 have hx:=hr.ev x;simp only[fa]at he;unfold execOp;simp only[ho];generalize s.ev x=dx at *;split at he
 .simp only[VRel]at hx;simp only[hx]at he⊢;injection he with he;injection he with b c;subst b;subst c;rename_i n;refine Ea (u:=.int k (k.wrap n)) hr.inv ?_ (by simp[VRel])
  simp_all[convert,Conv.intToInt,run_underlying]
 simp_all
theorem vY(hr:Rel G w a s) {i:Nat}(ho:o.op=.extract x i) (he:fa s (.extract x i)=some (d,m')) :
 Good G w s.m ((execOp a.eval o).run P w) d m':=by
 have hx:=hr.ev x;simp only[fa]at he;unfold execOp;simp only[ho];generalize s.ev x=dx at *;split at he
 .simp only[VRel]at hx;obtain⟨cs,hx,hv⟩:=hx;simp only[hx,Faa,Vaa]at he⊢;obtain⟨e,hl,rfl,rfl⟩:=he;obtain⟨u,hu,hd⟩:=hv.getElem hl;refine Ea (u:=u) hr.inv ?_ hd;simp[Instr.extract,hu]
 simp_all
theorem W5(hr:Rel G w a s) {f:FuncId}{first caps:Array Operand}(ho:o.op=.makeFunc (.func f) first caps) (he:fa s (.mkfunc f first.toList caps.toList)=some (d,m')) :
 Good G w s.m ((execOp a.eval o).run P w) d m':=by
 simp only[fa]at he;injection he with he;injection he with b h2;subst b;subst h2;have all:∀l:List Operand,VsRel G w (l.map s.ev) (l.map a.eval):=by
  intro l
  induction l with
  |nil=>simp[VsRel]
  |cons x l c=>simp only[cab,VsRel];exact⟨_,_,rfl,hr.ev x,c⟩
 refine Ea (u:=.func (.func f) (first.map a.eval) (caps.map a.eval)) hr.inv ?_ ?_
 .simp_all[execOp,Instr.makeFunc]
 .simp only[VRel]
  grind[Lae]
theorem g_nilc(hr:Rel G w a s) (ho:o.op=.nilCheck x) (he:fa s (.nilc x)=some (d,m')) :
 Good G w s.m ((execOp a.eval o).run P w) d m':=by
 have hx:=hr.ev x;simp only[fa]at he;unfold execOp;simp only[ho];generalize s.ev x=dx at *;split at he
 .injection he with he;injection he with e h2;subst e;subst h2;have c:=hx;simp only[VRel]at hx;obtain⟨p,hx,-⟩:=hx;exact Ea (u:=a.eval x) hr.inv (by simp[hx]) c
 .injection he with he;injection he with e h2;subst e;subst h2;have c:=hx;simp only[VRel]at hx;obtain⟨b,off,u,hx,-⟩:=hx;exact Ea (u:=a.eval x) hr.inv (by simp[hx]) c
 simp_all
theorem tA(off:Nat):∀(vs:List Value) (k:Nat) (cells:Array Value),off+k+vs.length<=cells.size->
 ((vs.zipIdx k).foldl (λcs (x:Value×Nat)=>cs.setIfInBounds (off+x.2) x.1) cells).toList=cells.toList.take (off+k)++vs++cells.toList.drop (off+k+vs.length)
 |[],k,cells,h=>by simp
 |v::vs,k,cells,h=>by
  simp only[List.length_cons]at h;rw[List.zipIdx_cons,List.foldl_cons,tA off vs (k+1) _ (by grind)]
  grind[list_seg_step]
def Fits(place:Nat->Option (Nat×Nat)):List (Nat×Operand)->List (Nat×Nat×Operand)->Prop
 |[],qs=>qs=[]
 |(i,x)::ps,qs=>∃off n r,qs=(off,n,x)::r/\place i=some (off,n)/\Fits place ps r
theorem bU(hr:Rel G w a s) {place:Nat->Option (Nat×Nat)}:∀{ps:List (Nat×Operand)}{qs:List (Nat×Nat×Operand)}{l l':List D}{cells:Array Value},
 Fits place ps qs->ew s qs l=some l'->VsRel G w l cells.toList->(∀c∈cells.toList,one c=true)->
 ∃cells':Array Value,Instr.fill place cells (ps.map λp=>(p.1,a.eval p.2))=some cells'/\VsRel G w l' cells'.toList/\∀c∈cells'.toList,one c=true
 |[],_,l,l',cells,b,hb,hv,h=>by
  simp only[Fits]at b;subst b;simp only[ew]at hb;injection hb with hb;subst hb;exact⟨cells,rfl,hv,h⟩
 |(i,x)::ps,_,l,l',cells,b,hb,hv,h=>by
  simp only[Fits]at b;obtain⟨off,n,qs,rfl,hp,b⟩:=b;simp only[ew]at hb;split at hb
  .rename_i hc;obtain⟨g,hlen,hoff⟩:=hc;obtain⟨d,hones⟩:=(hr.ev x).cells g;have f:=d.length;have hl2:=hv.length;have hsz:(a.eval x).cells.size=n:=by simp_all
   have hsz2:cells.size=l.length:=by omega
   have hf:=tA off (a.eval x).cells.toList 0 cells (by omega);refine ?_;have key:=bU hr (place:=place) (ps:=ps) (qs:=qs) (l:=Ds l off (s.ev x).cells) (l':=l')
    (cells:=(a.eval x).cells.zipIdx.foldl (λcs (x:Value×Nat)=>cs.setIfInBounds (off+x.2) x.1) cells) b hb
   have e:((a.eval x).cells.zipIdx.foldl (λcs (x:Value×Nat)=>cs.setIfInBounds (off+x.2) x.1) cells).toList=cells.toList.take off++(a.eval x).cells.toList++cells.toList.drop (off+(a.eval x).cells.toList.length):=by
    grind[tae]
   obtain⟨cells',hc1,hc2,hc3⟩:=key (by
    rw[e,Ds,←f];exact((hv.take off).append d).append (hv.drop _)) (by
    grind)
   simp_all[Instr.fill]
  simp_all
theorem BA:∀(l:List Value),VsRel G w (l.map .v) l
 |[]=>by simp[VsRel]
 |x::l=>by simp only[cab,VsRel];exact⟨x,l,rfl,by simp[VRel],BA l⟩
theorem UJ(places:List (Nat×Nat)):∀{ps:List (Nat×Operand)}{qs:List (Nat×Nat×Operand)},partsOf places ps=some qs->Fits (places[·]?) ps qs
 |[],qs,h=>by simp[partsOf]at h;simp[Fits,h]
 |(i,x)::ps,qs,h=>by
  simp only[partsOf]at h;split at h
  .rename_i off n r a h2;injection h with h;subst h;simp only[Fits];exact⟨off,n,r,rfl,a,UJ places h2⟩
  .cases h
theorem TJ(n:Nat):∀(ps:List (Nat×Operand)),Fits (λk=>some (k*n,n)) ps (ps.map λ(k,x)=>(k*n,n,x))
 |[]=>by simp[Fits]
 |(i,x)::ps=>by simp only[Fits,cab];exact⟨_,_,_,rfl,rfl,TJ n ps⟩
theorem g_build(hr:Rel G w a s) {places:List (Nat×Nat)}{qs:List (Nat×Nat×Operand)}(ho:o.op=.build t ps)
 (ht:P.underlying t=some (.struct fs)) (e:zeroOf P t=some z) (hp:(fs.toList.mapM λf=>(P.info? f.type).map λi=>(f.offset,i.size))=some places) (hq:partsOf places ps.toList=some qs)
 (he:fa s (.build (z.cells.toList.map .v) qs)=some (d,m')):Good G w s.m ((execOp a.eval o).run P w) d m':=by
 simp only[fa,Faa,Vaa]at he;obtain⟨l',hb,rfl,rfl⟩:=he;obtain⟨hz1,b,-⟩:=Bo e w;obtain⟨cells',h1,h2,h3⟩:=bU hr (ps:=ps.toList) (place:=(places[·]?)) (cells:=z.cells) (UJ places hq) hb (BA _) (λc hc=>by simp only[Tad]at b;obtain⟨i,hi,rfl⟩:=Maa hc;simp_all);refine Ea (u:=.agg cells') hr.inv ?_ ?_
 .simp_all[execOp,Instr.build,run_places,run_underlying,Array.mapM_eq_mapM_toList]
 .simp only[VRel];grind
theorem U5(hr:Rel G w a s) (ho:o.op=.build t ps)
 (ht:P.underlying t=some (.array n e)) (f:zeroOf P t=some z) (hi:P.info? e=some i)
 (he:fa s (.build (z.cells.toList.map .v) (ps.toList.map λ(k,x)=>(k*i.size,i.size,x)))=some (d,m')):Good G w s.m ((execOp a.eval o).run P w) d m':=by
 simp only[fa,Faa,Vaa]at he;obtain⟨l',hb,rfl,rfl⟩:=he;obtain⟨hz1,b,-⟩:=Bo f w;obtain⟨cells',h1,h2,h3⟩:=bU hr (ps:=ps.toList) (place:=λk=>some (k*i.size,i.size)) (cells:=z.cells) (TJ i.size ps.toList) hb (BA _) (λc hc=>by simp only[Tad]at b;obtain⟨i,hi,rfl⟩:=Maa hc;simp_all);refine Ea (u:=.agg cells') hr.inv ?_ ?_
 .simp_all[execOp,Instr.build,run_underlying,je]
 .simp only[VRel];grind
end
open Go.RowKit (Below)
section
variable {P:Program} {G:Gh} {w:World} {a:Act} {s:St} {d:D} {m':List Ent}
theorem yK(h:VsRel G w l cs) (b:∀c∈cs,one c=true) {r:D}(a:part true n off l=some r) :
 off+n<=cs.length/\VRel G w r (.agg ((cs.drop off).take n).toArray):=by
 simp only[part]at a;split at a
 .rename_i hlt;injection a with a;subst a;refine⟨by rw[h.length];omega,?_⟩;simp only[VRel];exact⟨(cs.drop off).take n,rfl,(h.drop off).take n,λc hc=>b c (List.mem_of_mem_drop (List.mem_of_mem_take hc))⟩
 simp_all
theorem zK(h:VsRel G w l cs) {r:D}(a:part false n off l=some r):∃u,cs[off]?=some u/\VRel G w r u:=
 h.getElem a
theorem PO(h:VsRel G w l cs) (e:∀c∈cs,one c=true) {A:Bool}{r:D}(d:part A n off l=some r) {o:Nat}(f:CA w b o (.agg cs.toArray)) :
 ∃u,VRel G w r u/\CA w b (o+off) u:=by
 have a:∀(k:Nat) c,cs[k]?=some c->one c=true/\w.cell? ⟨b,o+k,none⟩=some c:=λk c hc=>f k c (by grind[Value.cells])
 cases A with
 |true=>
  obtain⟨hlt,hv⟩:=yK h e d;refine⟨_,hv,λj c hc=>?_⟩
  grind[Value.cells]
 |false=>
  obtain⟨u,hu,hv⟩:=zK h d;obtain⟨g1,g2⟩:=a off u hu;refine⟨u,hv,λj c hc=>?_⟩;have hcells:u.cells = #[u]:=by cases u<;>first|rfl|grind[one]
  grind
theorem gk(b o n:Nat):(⟨b,o,none⟩:Addr).add n=⟨b,o+n,none⟩:=by
 grind[Addr.add]
theorem eL{ds:TypeDesc}(hd:P.underlying t=some ds) (hi:P.info? t=some i) {o:Nat}{u:Value}(a:CA w b o u)
 (d:(Mu ds=true/\∃cs,u=.agg cs/\cs.size=i.size)\/(Mu ds=false/\u.cells = #[u])) :
 (Instr.loadAt t (.pointer (some ⟨b,o,none⟩))).run P w=.ok u w:=by
 unfold Instr.loadAt loadVar;rcases d with⟨c,cs,rfl,h2⟩|⟨c,h2⟩
 .have hl:=run_loadCells_list (P:=P) w ⟨b,o,none⟩ cs.toList (λj v hv=>by rw[gk];exact(a j v (by grind[Value.cells])).2)
  simp_all[Instr.sureAddr,Hx,je]
 .have hc:=(a 0 u (by simp_all)).2
  simp_all[Instr.sureAddr,Hx]
theorem gK(hr:Rel G w a s) {r:Bool×Nat}(R:shapeOf P t=some r) (he:fa s (.load r.1 r.2 x)=some (d,m')) :
 ∃p u,a.eval x=.pointer (some p)/\(loadVar t p).run P w=.ok u w/\VRel G w d u/\m'=s.m:=by
 obtain⟨ds,i,hd,hi,rfl⟩:=bw R;have hx:=hr.ev x;simp only[fa]at he;have fin:∀{b off:Nat} {u:Value},a.eval x=.pointer (some ⟨b,off,none⟩)->CA w b off u->((Mu ds=true/\∃cs,u=.agg cs/\cs.size=i.size)\/(Mu ds=false/\u.cells = #[u]))->
  VRel G w d u->m'=s.m->∃p u,a.eval x=.pointer (some p)/\(loadVar t p).run P w=.ok u w/\VRel G w d u/\m'=s.m:=by
  rintro b off u o n O hv rfl;refine⟨_,u,o,?_,hv,rfl⟩;have:=eL hd hi n O
  grind[Instr.loadAt,Instr.sureAddr]
 generalize s.ev x=dx at *;split at he
 .rename_i e;simp only[VRel]at hx;obtain⟨b,off,u,o,Q,hv,n⟩:=hx
  cases g:Mu ds with
  |true=>
   rw[g]at he;cases e<;>simp only[reduceCtorEq]at he;rename_i l;split at he
   .rename_i hl;injection he with he;injection he with N h2;subst N;have M:=hv;simp only[VRel]at hv;obtain⟨cs,rfl,hv,ho1⟩:=hv;exact fin o n (.inl ⟨g,_,rfl,by simpa [hv.length] using hl⟩) M h2.symm
   simp_all
  |false=>
   rw[g]at he;by_cases hagg:∃l,e=.agg l
   .grind
   .have J:e.cells=[e]:=by cases e<;>first|rfl|simp_all
    have K:e.ok=true/\e=d/\s.m=m':=by
     grind
    obtain⟨A,rfl,h2⟩:=K;obtain⟨k,h⟩:=hv.cells A;rw[J]at k;simp only[VsRel]at k;obtain⟨c,U,hcl,k,rfl⟩:=k;have g1:one c=true:=h c (by simp_all);refine fin o (u:=c) (λj c' y=>?_) (.inr ⟨g,by cases c<;>first|rfl|grind[one]⟩) k h2.symm;have f:c.cells = #[c]:=by cases c<;>first|rfl|grind[one]
    rw[f]at y;have F:u.cells[0]?=some c:=by grind
    cases j with
    |zero=>simp at y;subst y;exact n 0 c F
    |succ j=>simp_all
 .rename_i id Oa idx sub;split at he
  .rename_i S ver' l hm;split at he
   .rename_i I;subst I;simp only[gac]at he;obtain⟨e,hl,he⟩:=he;split at he
    .rename_i A;simp only[Faa,Vaa]at he;obtain⟨U,o,rfl,rfl⟩:=he;simp only[VRel]at hx;obtain⟨p,B,hid,_,hx⟩:=hx;obtain⟨a1,a2,a3,a4,a5⟩:=hr.inv.ent _ _ hm;obtain⟨b,hb,rfl⟩:=hx a1;rcases a5 with a5|⟨b',cs,T,q,Q,hblk,hsz,H⟩
     .simp_all
     .rw[hb]at q;injection q with q;subst q;obtain⟨u,hv,husz,n⟩:=rf.1 H idx e hl;obtain⟨z,h⟩:=hv.cells A;rw[yad]at n;have L:CA w b (idx*S+(G.C id).2) (.agg u.cells.toList.toArray):=by
       simpa [CA,Value.cells] using n
      have hres:=PO z h o L;rw[a2,Nat.add_right_comm]at B
      cases g:Mu ds with
      |true=>
       rw[g]at o;obtain⟨hlt,D⟩:=yK z h o;refine fin B (λj c hc=>?_) (.inl ⟨g,_,rfl,?_⟩) D rfl
       .simp only[Value.cells,oac,List.getElem?_take,Aae]at hc;split at hc
        .have:=n (sub+j) c (by rw[←Uac];exact hc)
         grind
        simp_all
       grind
      |false=>
       rw[g]at o;obtain⟨E,hu',D⟩:=zK z o;have v:u.cells[sub]?=some E:=by simp_all
       have g1:=(n sub E v).1;have f:E.cells = #[E]:=by cases E<;>first|rfl|grind[one]
       refine fin B (λj c hc=>?_) (.inr ⟨g,f⟩) D rfl;rw[f]at hc
       cases j with
       |zero=>simp at hc;subst hc;exact n sub E v
       |succ j=>simp at hc
    simp_all
   simp_all
  simp_all
 simp_all
theorem g_load(hr:Rel G w a s) {r:Bool×Nat}(ho:o.op=.load t x) (b:shapeOf P t=some r) (he:fa s (.load r.1 r.2 x)=some (d,m')) :
 Good G w s.m ((execOp a.eval o).run P w) d m':=by
 obtain⟨p,u,hp,hrun,hv,rfl⟩:=gK (P:=P) hr b he;refine Ea (u:=u) hr.inv ?_ hv
 simp_all[execOp,Instr.loadAt,Instr.sureAddr]
end
open Go.RowKit (Below)
section
variable {P:Program} {G:Gh} {w:World} {a:Act} {s:St} {d:D} {m':List Ent}
theorem HR{ds:TypeDesc}(hd:P.underlying t=some ds) (hi:P.info? t=some i) (hv:VsRel G w l cs) (d:∀c∈cs,one c=true)
 {r:D} (a:part (Mu ds) i.size off l=some r):∃u,(Go.part t cs.toArray off).run P w=.ok u w/\VRel G w r u:=by
 unfold Go.part;simp only[Sem.run_bind,Hx hd,Result.andThen_ok]
 cases b:Mu ds with
 |true=>
  rw[b]at a;obtain⟨hlt,hr⟩:=yK hv d a
  simp_all[je]
 |false=>
  rw[b]at a;obtain⟨u,hu,hr⟩:=zK hv a
  simp_all
theorem g_field(hr:Rel G w a s) {b:Field}{r:Bool×Nat}(ho:o.op=.field t x f)
 (ht:P.underlying t=some (.struct fs)) (hf:fs[f]?=some b) (j:shapeOf P b.type=some r) (he:fa s (.field r.1 r.2 b.offset x)=some (d,m')) :
 Good G w s.m ((execOp a.eval o).run P w) d m':=by
 obtain⟨ds,i,hd,hi,rfl⟩:=bw j;have hx:=hr.ev x;simp only[fa]at he;unfold execOp;simp only[ho];generalize s.ev x=dx at *;split at he
 .rename_i l;simp only[VRel]at hx;obtain⟨cs,hx,hv,g⟩:=hx;simp only[Faa,Vaa]at he;obtain⟨e,h,rfl,rfl⟩:=he;obtain⟨u,hu,c⟩:=HR (P:=P) hd hi hv g h;refine Ea (u:=u) hr.inv ?_ c
  simp_all[Instr.field,asAgg,run_underlying]
 simp_all
theorem g_index(hr:Rel G w a s) {r:Bool×Nat}(ho:o.op=.index t x y)
 (ht:P.underlying t=some (.array n e)) (g:shapeOf P e=some r) (he:fa s (.index r.1 r.2 n x y)=some (d,m')) :
 Good G w s.m ((execOp a.eval o).run P w) d m':=by
 obtain⟨ds,i,hd,hi,rfl⟩:=bw g;have hx:=hr.ev x;have h:=hr.ev y;simp only[fa]at he;unfold execOp;simp only[ho];generalize s.ev x=dx at *;generalize s.ev y=dy at *;split at he
 .rename_i jk k;simp only[VRel]at h;split at he
  .rename_i hk;split at he
   .rename_i l;simp only[VRel]at hx;obtain⟨cs,hx,hv,c⟩:=hx;simp only[Faa,Vaa]at he;obtain⟨e,f,rfl,rfl⟩:=he;obtain⟨u,hu,b⟩:=HR (P:=P) hd hi hv c f;refine Ea (u:=u) hr.inv ?_ b;have hk':0<=k/\k<n:=⟨hk.1,by omega⟩
    simp_all[Instr.index,asIntOf,run_underlying,je]
   simp_all
  simp_all
 simp_all
theorem g_faddr(hr:Rel G w a s) {g:Field}{r:Bool×Nat}(ho:o.op=.fieldAddr t x f)
 (ht:P.underlying t=some (.struct fs)) (hf:fs[f]?=some g) (v:shapeOf P g.type=some r) (h0:r.2≠0) (he:fa s (.faddr r.1 r.2 g.offset x)=some (d,m')) :
 Good G w s.m ((execOp a.eval o).run P w) d m':=by
 obtain⟨ds,i,hd,hi,rfl⟩:=bw v;have hx:=hr.ev x;simp only[fa]at he;have run:∀p,a.eval x=.pointer (some p)->(execOp a.eval o).run P w=.ok (.value (.pointer (some (p.add g.offset)))) w:=by
  simp_all[execOp,Instr.fieldAt,Instr.sureAddr,fieldPlace,run_underlying,je]
 generalize s.ev x=dx at *;split at he
 .rename_i l;simp only[VRel]at hx;obtain⟨b,off,u,k,hF,⟨cs,rfl,hv,h⟩,q⟩:=hx;simp only[Faa,Vaa]at he;obtain⟨e,n,rfl,rfl⟩:=he;obtain⟨u',hv',hh'⟩:=PO hv h n q;refine Ea hr.inv (run _ k) ?_;rw[gk];simp only[VRel]
  grind
 .rename_i id Oa idx sub;injection he with he;injection he with h h2;subst h;subst h2;simp only[VRel]at hx;obtain⟨p,k,j,c,hx⟩:=hx;refine Ea hr.inv (run _ k) ?_;simp only[VRel];refine⟨_,rfl,j,c,λe=>?_⟩;obtain⟨b,hb,rfl⟩:=hx e
  grind[gk]
 simp_all
theorem g_aaddr(hr:Rel G w a s) {r:Bool×Nat}(ho:o.op=.indexAddr t x y)
 (ht:P.underlying t=some (.array n e)) (A:shapeOf P e=some r) (he:fa s (.aaddr r.1 r.2 n x y)=some (d,m')) :
 Good G w s.m ((execOp a.eval o).run P w) d m':=by
 obtain⟨ds,i,hd,hi,rfl⟩:=bw A;have hx:=hr.ev x;have v:=hr.ev y;simp only[fa]at he;generalize s.ev x=dx at *;generalize s.ev y=dy at *;split at he
 .rename_i jk k;simp only[VRel]at v;split at he
  .rename_i hk;have j:0<=k/\k<n:=⟨hk.1,by omega⟩;have run:∀p,a.eval x=.pointer (some p)->(execOp a.eval o).run P w=.ok (.value (.pointer (some (p.add (k.toNat*i.size))))) w:=by
    intro p c;unfold execOp;simp only[ho,c,v];simp[Instr.indexAt,asIntOf,run_underlying ht,Instr.sureAddr,j,je hi]
   split at he
   .rename_i l;simp only[VRel]at hx;obtain⟨b,off,u,c,hF,⟨cs,rfl,hv,g⟩,z⟩:=hx;simp only[Faa,Vaa]at he;obtain⟨e,q,rfl,rfl⟩:=he;obtain⟨u',hv',hh'⟩:=PO hv g q z;refine Ea hr.inv (run _ c) ?_;rw[gk];simp only[VRel]
    grind
   .rename_i id Oa idx sub;injection he with he;injection he with g h2;subst g;subst h2;simp only[VRel]at hx;obtain⟨p,c,h,f,hx⟩:=hx;refine Ea hr.inv (run _ c) ?_;simp only[VRel];refine⟨_,rfl,h,f,λe=>?_⟩;obtain⟨b,hb,rfl⟩:=hx e
    grind[gk]
   simp_all
  simp_all
 simp_all
theorem g_iaddr(hr:Rel G w a s) (ho:o.op=.indexAddr t x y)
 (ht:P.underlying t=some (.slice e)) (hi:P.info? e=some i) (he:fa s (.iaddr i.size x y)=some (d,m')) :
 Good G w s.m ((execOp a.eval o).run P w) d m':=by
 have hx:=hr.ev x;have C:=hr.ev y;simp only[fa]at he;generalize s.ev x=dx at *;generalize s.ev y=dy at *;split at he
 .rename_i jk k;simp only[VRel]at C;split at he
  .rename_i hk;have run:∀p n c,a.eval x=.slice (some p) n c->k<n->(execOp a.eval o).run P w=.ok (.value (.pointer (some (p.add (k.toNat*i.size))))) w:=by
    intro p n c g f;have A:0<=k/\k<n:=⟨hk,f⟩;unfold execOp;simp only[ho,g,C];simp[Instr.indexAt,asIntOf,run_underlying ht,A,je hi]
   split at he
   .rename_i S' l;split at he
    .rename_i E;subst E;simp only[Faa,Vaa]at he;obtain⟨e',hl,rfl,rfl⟩:=he;simp only[VRel]at hx;obtain⟨p,n,c,g,hn,hc,hx⟩:=hx;have f:k.toNat<l.length:=by
      grind
     rcases hx with rfl|⟨b,off,rfl,D,h⟩
     .simp_all
     .obtain⟨u,hv,B,hh⟩:=rf.1 h _ _ hl;refine Ea hr.inv (run _ _ _ g (by omega)) ?_;rw[gk];simp only[VRel]
      grind
    simp_all
   .rename_i id Oa;split at he
    .rename_i S' q l hm;split at he
     .rename_i hc;obtain⟨rfl,rfl,f⟩:=hc;injection he with he;injection he with r h2;subst r;subst h2;simp only[VRel]at hx;obtain⟨p,n,c,g,z,j,hx⟩:=hx;obtain⟨a1,a2,a3,a4,a5⟩:=hr.inv.ent _ _ hm;obtain⟨rfl,rfl,rfl⟩:=hx a1;rcases a5 with a5|⟨b',cs,T,v,D,hblk,B,h⟩
      .grind
      .rw[v]at g;refine Ea hr.inv (run _ _ _ g (by omega)) ?_;rw[gk];simp only[VRel]
       grind
     simp_all
    simp_all
   .rename_i id Oa lo n;split at he
    .rename_i S' q l hm;split at he
     .rename_i hc;obtain⟨rfl,rfl,f,hlo⟩:=hc;injection he with he;injection he with r h2;subst r;subst h2;simp only[VRel]at hx;obtain⟨p,c,g,hnc,z,j,hx⟩:=hx;obtain⟨a1,a2,a3,a4,a5⟩:=hr.inv.ent _ _ hm;rcases hx a1 with hx|⟨b,hb,rfl⟩
      .omega
      .refine Ea hr.inv (run _ _ _ g ((Int.toNat_lt hk).1 f)) ?_;rw[gk];simp only[VRel]
       grind
     simp_all
    simp_all
   simp_all
  simp_all
 simp_all
theorem aE(hi:Inv G w s.m) {x:D}{u:Value}(hx:VRel G w x u) (h:qd s.m x=some n):∃p c,u=.slice p n c/\n<=c:=by
 unfold qd at h;split at h
 .injection h with h;subst h;simp only[VRel]at hx;simp_all
 .injection h with h;subst h;simp only[VRel]at hx
  grind
 .split at h
  .rename_i id Oa S ver' l hm;split at h
   .rename_i hv;subst hv;injection h with h;subst h;simp only[VRel]at hx;obtain⟨p,n,c,hp,hid,hver,hx⟩:=hx;obtain⟨a1,a2,a3,a4,a5⟩:=hi.ent _ _ hm
    grind
   .cases h
  .cases h
 .split at h
  .injection h with h;subst h;simp only[VRel]at hx
   grind
  .cases h
 .cases h
theorem g_len(hr:Rel G w a s) (ho:o.op=.call { callee:=.builtin .len,args:=#[x],argTypes:=#[t] })
 (ht:P.underlying t=some (.slice e)) (he:fa s (.len x)=some (d,m')):Good G w s.m ((execOp a.eval o).run P w) d m':=by
 have hx:=hr.ev x;simp only[fa,Faa,Vaa]at he;obtain⟨n,hn,rfl,rfl⟩:=he;refine Ea (u:=.int .i64 n) hr.inv ?_ (by simp[VRel]);unfold execOp;simp only[ho];obtain⟨p,c,hp,-⟩:=aE hr.inv hx hn
 simp_all[resolve,invoke,builtin,Builtin.len_,goInt,run_underlying]
theorem g_slen(hr:Rel G w a s) (ho:o.op=.call { callee:=.builtin .len,args:=#[x],argTypes:=#[t] })
 (ht:P.underlying t=some .string) (he:fa s (.slen x)=some (d,m')):Good G w s.m ((execOp a.eval o).run P w) d m':=by
 have hx:=hr.ev x;simp only[fa]at he;unfold execOp;simp only[ho];generalize s.ev x=dx at *;split at he
 .rename_i b;injection he with he;injection he with c h2;subst c;subst h2;simp only[VRel]at hx;refine Ea (u:=.int .i64 b.size) hr.inv ?_ (by simp[VRel])
  simp_all[resolve,invoke,builtin,Builtin.len_,goInt,run_underlying]
 simp_all
theorem HN(x:Value) (y:Nat) (code:BoundsCode) {n:Int}(h:x=.int j n) (h0:0<=n) (h1:n<=y) (w:World):(Instr.sliceBound x y code).run P w=.ok n.toNat w:=by
 simp_all[Instr.sliceBound,asIntOf]
theorem dL(hr:Rel G w a s) {cap:Nat}(hcap:n<=cap) (hmx:mx.isSome=true->hi.isSome=true) {l h k:Nat}(hl:bound s 0 lo=some l) (o:bound s n hi=some h) (hk:bound s n mx=some k)
 (f:h<=k) (h2:k<=n) (i:l<=h):∃m,(Instr.sliceBounds true n cap (lo.map a.eval) (hi.map a.eval) (mx.map a.eval)).run P w=.ok (l,h,m) w/\h<=m/\m<=cap/\(mx=none->m=cap):=by
 have one:∀{x:Option Operand} {b r:Nat},bound s b x=some r->(x=none/\r=b)\/∃y j,x=some y/\a.eval y=.int j (r:Int):=by
  intro x b r hb
  cases x with
  |none=>simp[bound]at hb;simp_all
  |some y=>
   have p:=hr.ev y;simp only[bound]at hb;generalize s.ev y=dy at *;split at hb
   .rename_i j q;split at hb
    .rename_i hq;injection hb with hb;simp only[VRel]at p
     grind
    simp_all
   simp_all
 have c:∀(x:Value) (y:Nat) (code:BoundsCode) (j:IntKind) (r:Nat),x=.int j (r:Int)->r<=y->(Instr.sliceBound x y code).run P w=.ok r w:=λx y code j r hx hr'=>by
  have:=HN (P:=P) x y code hx (Mad r) (by omega) w
  simp_all
 unfold Instr.sliceBounds;rcases one hk with⟨rfl,rfl⟩|⟨yk,jk,rfl,g⟩
 .refine⟨cap,?_,by omega,Paa _,λ_=>rfl⟩;rcases one hl with⟨rfl,rfl⟩|⟨yl,u,rfl,e⟩<;>rcases one o with⟨rfl,rfl⟩|⟨v,t,rfl,d⟩
  .simp
  .simp[c _ cap _ _ _ d (by omega)]
  .simp_all
  .simp[c _ cap _ _ _ d (by omega),c _ h _ _ _ e i]
 .refine⟨k,?_,f,by omega,λh=>by cases h⟩;rcases one hl with⟨rfl,rfl⟩|⟨yl,u,rfl,e⟩<;>rcases one o with⟨rfl,rfl⟩|⟨v,t,rfl,d⟩
  .simp_all
  .simp[c _ cap _ _ _ g (by omega),c _ k _ _ _ d f]
  .simp_all
  .simp[c _ cap _ _ _ g (by omega),c _ k _ _ _ d f,c _ h _ _ _ e i]
theorem Dx{G:Gh}{w:World}{S:Nat}(h:Qa G w b S l off) (lo:Nat):Qa G w b S (l.drop lo) (off+lo*S):=
 rf.2 λi d hd=>by
  grind[rf]
theorem Fx{G:Gh}{w:World}{S:Nat}(h:Qa G w b S l off) (n:Nat):Qa G w b S (l.take n) off:=
 rf.2 λi d hd=>rf.1 h i d (by grind)
theorem LV(hr:Rel G w a s) (ho:o.op=.slice t x lo hi mx)
 (ht:P.underlying t=some (.slice e)) (hi':P.info? e=some i) (F:mx.isSome=true->hi.isSome=true) (he:fa s (.slice i.size x lo hi mx)=some (d,m')) :
 Good G w s.m ((execOp a.eval o).run P w) d m':=by
 have hx:=hr.ev x;simp only[fa]at he;generalize s.ev x=dx at *;split at he
 .rename_i n hn;split at he
  .rename_i l h k hl O hk;split at he
   .rename_i hc;obtain⟨M,h2⟩:=hc;simp only[Faa,Vaa]at he;obtain⟨r,c,rfl,rfl⟩:=he;obtain⟨p,cap,H,y⟩:=aE hr.inv hx hn;have E:l<=h:=by
     unfold pw at c
     grind
    obtain⟨m,hb,hm,hmc,-⟩:=dL (P:=P) hr y F hl O hk M h2 E;have run:(execOp a.eval o).run P w=.ok (.value (.slice (if m=l then p else p.map (·.add (l*i.size))) (h-l) (m-l))) w:=by
     simp_all[execOp,Instr.sliceAt,Instr.slice,run_underlying,je]
    refine Ea hr.inv run ?_;unfold pw at c;split at c
    .split at c
     .rename_i hc;obtain⟨rfl,rfl⟩:=hc;injection c with c;subst c;simp only[VRel]at hx⊢
      grind
     simp_all
    .rename_i S' J;split at c
     .rename_i hc;obtain⟨rfl,-,z⟩:=hc;injection c with c;subst c;simp only[VRel]at hx⊢;obtain⟨K,R,I,f,hn',hc',hx⟩:=hx;rw[H]at f;injection f with q1 u v;subst q1;subst u;subst v;refine⟨_,_,_,rfl,by grind,by omega,?_⟩
      .rcases hx with rfl|⟨b,off,rfl,N,B⟩
       .simp
       .by_cases A:m=l
        .simp_all
        grind[Fx,Dx,gk]
     simp_all
    .rename_i id Oa;split at c
     .rename_i S' C J q;split at c
      .rename_i hc;obtain⟨rfl,rfl,-,z⟩:=hc;injection c with c;subst c;simp only[VRel]at hx⊢;obtain⟨K,R,I,f,j,g,hx⟩:=hx;rw[H]at f;injection f with q1 u v;subst q1;subst u;subst v;refine⟨_,_,rfl,by omega,j,g,λe=>?_⟩;obtain⟨rfl,u,v⟩:=hx e;obtain⟨a1,a2,a3,a4,a5⟩:=hr.inv.ent _ _ q;by_cases A:m=l
       .omega
       .by_cases Q:h-l=0
        .omega
        .rcases a5 with a5|⟨L,cs,T,D,N,hblk,hsz,B⟩
         all_goals simp_all[gk,yad]
      simp_all
     simp_all
    .rename_i id Oa l0 n0;split at c
     .rename_i S' C J q;split at c
      .rename_i hc;obtain⟨rfl,rfl,-,z,hl0⟩:=hc;injection c with c;subst c;simp only[VRel]at hx⊢;obtain⟨K,I,f,hnc,j,g,hx⟩:=hx;rw[H]at f;injection f with q1 u v;subst q1;subst u;subst v;refine⟨_,_,rfl,by omega,j,g,λe=>?_⟩;obtain⟨a1,a2,a3,a4,a5⟩:=hr.inv.ent _ _ q;by_cases A:m=l
       .omega
       .by_cases Q:h-l=0
        .omega
        .rcases hx e with hx|⟨L,D,rfl⟩
         all_goals grind[gk]
      simp_all
     simp_all
    simp_all
   simp_all
  simp_all
 simp_all
end
open Go.RowKit (Below)
section
variable {P:Program} {G:Gh} {w:World} {a:Act} {s:St} {d:D} {m':List Ent}
theorem rN{u:Value}(h:one u=true):u.cells = #[u]:=by cases u<;>first|rfl|grind[one]
theorem Gz(z:Value) (h:z.cells.all one=true):VRel G w (leaf z) z:=by
 unfold leaf;split
 .rename_i cs;simp only[VRel];refine⟨cs.toList,rfl,BA _,λc hc=>?_⟩;simp only[Value.cells,Tad]at h;obtain⟨i,hi,rfl⟩:=Maa hc
  simp_all
 .simp[VRel]
theorem RN{cs:Array Value}(h:cs.all one=true) (j:Nat) (c:Value) (hc:cs[j]?=some c):one c=true:=by
 grind
theorem JC{S:Nat}{d:D}{u:Value}(hv:VRel G w d u) (hs:u.cells.size=S) (h1:∀(j:Nat) c,u.cells[j]?=some c->one c=true):Mh G w S [d] u.cells:=by
 intro i e he
 grind
theorem NW{S:Nat}{C:Nat}(hn:G.n=s.m.length):VRel (G.add (some w.heap.size) S 1 C) w' (.ref s.m.length 0 0 0) (.pointer (some ⟨w.heap.size,0,none⟩)):=by
 simp only[VRel];exact⟨_,rfl,by grind[Gh.add],pab _,λ_=>⟨w.heap.size,by grind[Gh.add],by grind[Gh.add]⟩⟩
theorem sW{S C:Nat}(hn:G.n=s.m.length):VRel (G.add (some w.heap.size) S N C) w' (.own s.m.length 0) (.slice (some ⟨w.heap.size,0,none⟩) N C):=by
 simp only[VRel];exact⟨_,_,_,rfl,by grind[Gh.add],pab _,λ_=>⟨by simp[Gh.add,hn],by grind[Gh.add],by grind[Gh.add]⟩⟩
theorem g_alloc(hr:Rel G w a s) (ho:o.op=.alloc t) (e:zeroOf P t=some z) (he:fa s (.alloc z.cells.size (leaf z))=some (d,m')) :
 Good G w s.m ((execOp a.eval o).run P w) d m':=by
 simp only[fa]at he;injection he with he;injection he with c h2;subst c;subst h2;obtain⟨hz1,b,hz3,-⟩:=Bo e w;obtain⟨g1,g2⟩:=xu hr.inv z.cells.size [leaf z] 1 z.cells t (JC (Gz z b) rfl (RN b)) (by simp) (by simp);refine⟨_,_,_,?_,.inl ⟨_,rfl,NW (C:=1) hr.inv.n⟩,g1,g2⟩
 simp_all[execOp,Instr.alloc,newVar,newRow]
theorem g_box(hr:Rel G w a s) {S:Nat}(ho:o.op=.box t x) (he:fa s (.box S x)=some (d,m')) :
 Good G w s.m ((execOp a.eval o).run P w) d m':=by
 simp only[fa]at he;split at he
 .rename_i hc;injection he with he;injection he with b h2;subst b;subst h2;have hx:=hr.ev x;obtain⟨hv,b⟩:=hx.cells hc.1;have e:(a.eval x).cells.size=S:=by rw[←zac,hv.length];omega
  obtain⟨g1,g2⟩:=xu hr.inv S [s.ev x] 1 (a.eval x).cells t (JC hx e (λj c hj=>b c (by grind))) (by simp) (by omega);refine⟨_,_,_,?_,.inl ⟨_,rfl,NW (C:=1) hr.inv.n⟩,g1,g2⟩
  simp_all[execOp,Instr.box,newVar,newRow]
 simp_all
theorem Lx(cells vs:List Value) (off k:Nat) (h:off+vs.length<=cells.length) :
 (cells.take off++vs++cells.drop (off+vs.length))[k]?=if off<=k/\k<off+vs.length then vs[k-off]? else cells[k]?:=by
 rw[Yab,Mac]
 grind
theorem Mh.set{S o:Nat}{l:List D}{cs a:Array Value}(h:Mh G w S l cs o) {i:Nat}{d:D}{u:Value}(hi:i<l.length) (hv:VRel G w d u) (hs:u.cells.size=S)
 (h1:∀(j:Nat) c,u.cells[j]?=some c->one c=true) (hin:∀(j:Nat) c,u.cells[j]?=some c->a[i*S+j+o]?=some c)
 (f:∀k,(k<i*S+o\/i*S+S+o<=k)->a[k]?=cs[k]?):Mh G w S (l.set i d) a o:=by
 intro j e he;by_cases b:i=j
 .grind
 .rw[List.getElem?_set_ne b]at he;obtain⟨v,g1,g2,g3⟩:=h j e he;refine⟨v,g1,g2,λk c hc=>⟨(g3 k c hc).1,?_⟩⟩;have hk:k<S:=by grind
  rw[f _ ?_]
  .simp_all
  .rcases Nat.lt_or_gt_of_ne b with g|g
   .right;have:=Zaa S (show i+1<=j from g)
    grind
   .left;have:=Zaa S (show j+1<=i from g)
    grind
theorem AG(off:Nat) (vs:Array Value) (cells:Array Value) (h:off+vs.size<=cells.size) :
 (vs.zipIdx.foldl (λcs (x:Value×Nat)=>cs.setIfInBounds (off+x.2) x.1) cells).toList=cells.toList.take off++vs.toList++cells.toList.drop (off+vs.toList.length):=by
 have hf:=tA off vs.toList 0 cells (by omega)
 grind[tae]
theorem CO(hr:Rel G w a s) {S:Nat}:∀{ps:List (Nat×Operand)}{l l':List D}{cells:Array Value},
 Kc s S ps l=some l'->Mh G w S l cells->cells.size=l.length*S->
 ∃cells':Array Value,Instr.fill (λi=>some (i*S,S)) cells (ps.map λp=>(p.1,a.eval p.2))=some cells'/\Mh G w S l' cells'/\cells'.size=l'.length*S/\l'.length=l.length
 |[],l,l',cells,hb,hv,h=>by
  simp only[Kc]at hb;injection hb with hb;subst hb;exact⟨cells,rfl,hv,h,rfl⟩
 |(i,x)::ps,l,l',cells,hb,hv,h=>by
  simp only[Kc]at hb;split at hb
  .rename_i hc;obtain⟨m,hlen,hi⟩:=hc;obtain⟨d,f⟩:=(hr.ev x).cells m;have hl1:=d.length;have n:(a.eval x).cells.size=S:=by simp_all
   have hbound:i*S+S<=cells.size:=by
    rw[h,←Nat.succ_mul];exact Zaa S hi
   have b:=AG (i*S) (a.eval x).cells cells (by omega);have e:=λk=>Lx cells.toList (a.eval x).cells.toList (i*S) k (by simp_all);have hsize:((a.eval x).cells.zipIdx.foldl (λcs (x:Value×Nat)=>cs.setIfInBounds (i*S+x.2) x.1) cells).size=cells.size:=by
    grind[zac]
   have g:Mh G w S (l.set i (s.ev x)) ((a.eval x).cells.zipIdx.foldl (λcs (x:Value×Nat)=>cs.setIfInBounds (i*S+x.2) x.1) cells):=by
    refine hv.set hi (hr.ev x) n (λj c hj=>f c (by grind)) (λj c hj=>?_) (λk hk=>?_)
    .have hjlt:j<S:=by grind
     rw[←Uac,b,e,if_pos (by omega)]
     simp_all
    .rw[←Uac,b,e,if_neg (by omega),Uac]
   obtain⟨cells',hc1,hc2,hc3,hc4⟩:=CO hr hb g (by simp_all)
   simp_all[Instr.fill]
  simp_all
theorem Yv(a:z.cells.all one=true) (n:Nat):Mh G w z.cells.size (Daa n (leaf z)) ((Yad (n*z.cells.size)).map (z.cells[· % z.cells.size]!)):=by
 intro i e he;rw[List.getElem?_replicate]at he;split at he
 .rename_i hi;injection he with he;subst he;refine⟨z,Gz z a,rfl,λj c hc=>⟨RN a j c hc,?_⟩⟩;obtain⟨hj,rfl⟩:=gad.1 hc;have hlt:i*z.cells.size+j<n*z.cells.size:=by
   have:=Zaa z.cells.size (show i+1<=n from hi)
   grind
  grind[Nat.mul_comm,Nat.add_mul_mod_self_left,Nat.mod_eq_of_lt]
 simp_all
theorem T5(hr:Rel G w a s) (ho:o.op=.buildSlice t n ps)
 (ht:P.underlying t=some (.slice e)) (y:zeroOf P e=some z) (hsmall:n*z.cells.size<=2 ^ 24) (he:fa s (.bslice z.cells.size n (leaf z) ps.toList)=some (d,m')) :
 Good G w s.m ((execOp a.eval o).run P w) d m':=by
 simp only[fa,Faa,Vaa]at he;obtain⟨l,hb,rfl,rfl⟩:=he;obtain⟨u,v,hz3,i,hi,c,hzz⟩:=Bo y w;obtain⟨cells,hf,g,hcs,b⟩:=CO hr hb (Yv v n) (by simp);simp only[List.length_replicate]at b;obtain⟨g1,g2⟩:=xu hr.inv z.cells.size l n cells e g (by omega) (by simp_all);refine⟨_,_,_,?_,.inl ⟨_,rfl,sW (N:=l.length) (C:=n) hr.inv.n⟩,g1,g2⟩;unfold execOp;simp only[ho];have q:¬(2 ^ 24<n*i.size):=by simp_all
 by_cases x:n*i.size=0
 .have j:n=0:=by
   grind[Nat.mul_eq_zero]
  subst j;rw[c.symm]at hf;rw[Nat.zero_mul,show Yad 0 = #[]from rfl,Array.map_empty]at hf;have h:Instr.fill (λk=>some (k*i.size,i.size)) #[] (ps.toList.map λp=>(p.1,a.eval p.2))=some cells:=hf;have r:∀f:Nat->Value,eae f (Yad 0) = #[]:=λf=>by simp
  simp[Instr.buildSlice,run_underlying ht,je hi,r,h,newRow,b]
 .rw[c.symm]at hf;simp[Instr.buildSlice,run_underlying ht,je hi,q,x,u,hf,newRow,b,c.symm]
theorem wY(hr:Rel G w a s) {l:Operand}(ho:o.op=.makeSlice t l c)
 (ht:P.underlying t=some (.slice e)) (r:zeroOf P e=some z) (he:fa s (.mkslice z.cells.size (P.bytesOf e) (leaf z) l c)=some (d,m')) :
 Good G w s.m ((execOp a.eval o).run P w) d m':=by
 have hl:=hr.ev l;have hc:=hr.ev c;simp only[fa]at he;unfold execOp;simp only[ho];generalize s.ev l=dl at *;generalize s.ev c=dc at *;split at he
 .rename_i n k;split at he
  .rename_i hk;obtain⟨u,v,k3,k4⟩:=hk;injection he with he;injection he with q h2;subst q;subst h2;simp only[VRel]at hl hc;obtain⟨hz1,h,hz3,i,hi,g,p⟩:=Bo r w;have f:P.bytesOf e=i.bytes:=by grind[Program.bytesOf]
   rw[f]at k4;have hrun:=run_make (P:=P) w t e i z ht hi p .i64 .i64 n k u v (by
    grind) (by omega)
   have b:Mh G w z.cells.size (Daa n.toNat (leaf z)) (madeCells z.cells (k.toNat*i.size)):=by
    intro j e' hj;have hlt:j<n.toNat:=by
     grind
    have:=Yv (G:=G) (w:=w) h k.toNat j e' (by grind);rw[g];exact this
   obtain⟨g1,g2⟩:=xu hr.inv z.cells.size (Daa n.toNat (leaf z)) k.toNat _ e b (by grind) (by simp_all[size_madeCells]);refine⟨_,_,_,?_,.inl ⟨_,rfl,sW (N:=(Daa n.toNat (leaf z)).length) (C:=k.toNat) hr.inv.n⟩,g1,g2⟩
   simp_all
  simp_all
 simp_all
theorem lU(v:Value):v.oneCell'=one v:=by cases v<;>rfl
theorem Yz(i:Nat):G.Eg i (G.B i) (G.V i) (G.N i) (G.C i)=G:=by
 cases G;simp only[Gh.Eg,Gh.mk.injEq,true_and]
 grind
theorem g_store(hr:Rel G w a s) (ho:o.op=.store t x y) (hi:P.info? t=some i) (he:fa s (.store i.size x y)=some (d,m')) :
 Good G w s.m ((execOp a.eval o).run P w) d m':=by
 have hx:=hr.ev x;have hy:=hr.ev y;simp only[fa]at he;generalize s.ev x=dx at *;generalize s.ev y=dy at *;split at he
 .rename_i id Oa idx sub;split at he
  .rename_i S L l hm;split at he
   .rename_i hc;obtain⟨rfl,hok,hn⟩:=hc;simp only[gac]at he;obtain⟨e,hl,he⟩:=he;split at he
    .rename_i hc;obtain⟨W,hn0,I⟩:=hc;injection he with he;injection he with h1 h2;subst h1;subst h2;simp only[VRel]at hx;obtain⟨p,hp,hid,hver,hx⟩:=hx;obtain⟨a1,a2,a3,a4,a5⟩:=hr.inv.ent _ _ hm;obtain⟨b,hb,rfl⟩:=hx a1;rcases a5 with a5|⟨b',cs,T,J,hF,A,hsz,hrow⟩
     .simp_all
     .rw[hb]at J;injection J with J;subst J;obtain⟨z,hy1⟩:=hy.cells hok;have g:(a.eval y).cells.toList.length=i.size:=by rw[z.length];omega
      have Z:=Gx A hrow;obtain⟨u,hv,husz,huin⟩:=Z idx e hl;obtain⟨huc,hu1⟩:=hv.cells W;have hulen:u.cells.toList.length=S:=by omega
      have Y:idx<l.length:=by
       grind
      have n:e.cells.length=S:=by rw[←huc.length];omega
      have hS:idx*S+S+(G.C id).2<=cs.size:=by
       have h1:=Zaa S (show idx+1<=(G.C id).1 by omega)
       grind
      rw[a2]at hp;have Q:=run_storeCells_at P b (idx*S+sub+(G.C id).2) T (a.eval y).cells.toList 0 cs w A (by omega) (λv hv=>by grind[lU]);simp only[Kac]at Q;have K:∃f:Array Value,f=(cs.toList.take (idx*S+sub+(G.C id).2)++(a.eval y).cells.toList++cs.toList.drop (idx*S+sub+(G.C id).2+(a.eval y).cells.toList.length)).toArray:=⟨_,rfl⟩;obtain⟨f,F⟩:=K;rw[←F]at Q;have X:∀k,f[k]?=if idx*S+sub+(G.C id).2<=k/\k<idx*S+sub+(G.C id).2+i.size then(a.eval y).cells.toList[k-(idx*S+sub+(G.C id).2)]? else cs[k]?:=by
       intro k;rw[F,oac,Lx _ _ _ _ (by grind),g];simp
      have hsz':f.size=cs.size:=by
       grind
      have run:(execOp a.eval o).run P w=.ok .skip (w.setRow b f):=by
       simp_all[execOp,Instr.storeAt,Instr.sureAddr,storeVar,je]
      have H:∀k,G.B id≠some k->(w.setRow b f).heap[k]?=w.heap[k]?:=λk hk=>setRow_other w b k f λh=>hk (by simp_all);have M:Le G w G (w.setRow b f):=⟨λ_ h=>h,λk hk=>H k λh=>by simp_all,Paa _,λ_ _=>.inl ⟨rfl,rfl,rfl,rfl,rfl⟩⟩;have E:=setRow_heap w b cs f T (0,0) A;clear Q F;generalize hys:(a.eval y).cells.toList=ys at z hy1 g X;have hnew:∃u':Value,VRel G (w.setRow b f) (e.Eg sub dy.cells) u'/\u'.cells.size=S/\∀(j:Nat) c,u'.cells[j]?=some c->one c=true/\f[idx*S+j+(G.C id).2]?=some c:=by
       by_cases R:∃le,e=.agg le
       .obtain⟨le,rfl⟩:=R;simp only[VRel]at hv;obtain⟨us,rfl,hvs,hus1⟩:=hv;simp only[D.cells]at n I;have huslen:us.length=S:=by grind[Value.cells]
        refine⟨.agg (us.take sub++ys++us.drop (sub+ys.length)).toArray,?_,?_,?_⟩
        .simp only[D.Eg,VRel,Ds];refine⟨_,rfl,?_,?_⟩
         .rw[←z.length];exact((((hvs.take sub).append z).append (hvs.drop _)).mono M)
         grind
        .grind[Value.cells]
        .intro j c hj;simp only[Value.cells,oac]at hj;rw[Lx _ _ _ _ (by omega),g]at hj
         grind[Value.cells]
       .have hc1:e.cells=[e]:=by cases e<;>first|rfl|simp_all
        have hup:e.Eg sub dy.cells=dy.cells.headD .dead:=by cases e<;>first|rfl|simp_all
        rw[hc1]at n I;simp only[List.length_singleton]at n I;have hn1:i.size=1:=by omega
        have hs0:sub=0:=by omega
        subst hs0;rw[hn1]at hn g;obtain⟨e1,U⟩:∃e1,dy.cells=[e1]:=by
         cases hdc:dy.cells with
         |nil=>simp_all
         |cons q r=>simp_all
        rw[U]at z;simp only[VsRel]at z;obtain⟨c1,r1,hcl,hv1,rfl⟩:=z;have g1:=hy1 c1 (by simp_all);rw[hup,U];refine⟨c1,by simpa using hv1.mono M,by grind[rN],λj c hj=>?_⟩;rw[rN g1]at hj
        grind
      obtain⟨u',hu'v,hu's,hu'c⟩:=hnew;have O:Mh G (w.setRow b f) S (l.set idx (e.Eg sub dy.cells)) f (G.C id).2:=by
       refine Mh.set ((?_:Mh G (w.setRow b f) S l cs (G.C id).2)) Y hu'v hu's (λj c hj=>(hu'c j c hj).1) (λj c hj=>(hu'c j c hj).2) (λk hk=>?_)
       .exact Z.mono M
       grind
      have hent:mn G (w.setRow b f) id (.live S L (l.set idx (e.Eg sub dy.cells))):=
       ⟨a1,a2,by simp_all,by simp_all,.inr ⟨b,f,T,hb,hF,E,by omega,Zm E O⟩⟩
      have key:=rh (w':=w.setRow b f) hr.inv (e':=.live S L (l.set idx (e.Eg sub dy.cells))) hm rfl rfl (G.B id) (G.V id) (G.N id) (G.C id) (.inr ⟨rfl,rfl,rfl,rfl⟩) rfl rfl rfl
       (by simp) (λk _ hk=>H k hk) (λk hk=>.inl hk) (by grind[Yz])
      rw[Yz]at key;exact⟨_,_,G,run,.inr ⟨rfl,rfl⟩,key.1,key.2⟩
    simp_all
   simp_all
  simp_all
 simp_all
end
open Go.RowKit (Below)
section
variable {P:Program} {G:Gh} {w:World} {a:Act} {s:St} {d:D} {m':List Ent}
theorem CR{S:Nat}(h:Qa G w b S l off):∃news:List Value,news.length=l.length*S/\(∀c∈news,one c=true)/\(∀(j:Nat) v,news[j]?=some v->w.cell? ⟨b,off+j,none⟩=some v)/\Mh G w S l news.toArray:=by
 have hcell:∀k,k<l.length*S->∃c,one c=true/\w.cell? ⟨b,off+k,none⟩=some c:=by
  intro k hk;have hS:0<S:=by
   grind
  have hi:k / S<l.length:=Nat.div_lt_of_lt_mul (by grind);obtain⟨u,hv,f,a⟩:=rf.1 h (k / S) l[k / S] (List.getElem?_eq_getElem hi);have hj:k % S<u.cells.size:=by simp_all[hac]
  obtain⟨g1,g2⟩:=a (k % S) u.cells[k % S] (Array.getElem?_eq_getElem hj)
  grind[Nat.div_add_mod]
 refine⟨(Kaa (l.length*S)).map λk=>(w.cell? ⟨b,off+k,none⟩).getD undef,by simp,?_,?_,?_⟩
 .grind
 .grind
 .intro i d hd;obtain⟨u,hv,f,a⟩:=rf.1 h i d hd;refine⟨u,hv,f,λj c hc=>⟨(a j c hc).1,?_⟩⟩;have hi:i<l.length:=by
   grind
  have hj:j<S:=by grind
  have e:i*S+j<l.length*S:=by
   have:=Zaa S (show i+1<=l.length from hi)
   grind
  rw[oac,List.getElem?_map,Kac,List.getElem?_range e];have:=(a j c hc).2
  grind
theorem FN(S:Nat) (cs:Array Value):Mh G w S [] cs:=λi d hd=>by simp at hd
structure Src (P:Program) (G:Gh) (w:World) (S:Nat) (r:List D) (u:Value) (news:List Value):Prop where
 len:news.length=r.length*S
 ones:∀c∈news,one c=true
 row:Mh G w S r news.toArray
 form:∃p c,u=.slice p r.length c
 run:∀w',w'.heap=w.heap->(Builtin.firstCells S r.length u).run P w'=.ok news.toArray w'
theorem oL{S:Nat}{r:List D}{c:Nat}(h:Qa G w b S r off):∃news,Src P G w S r (.slice (some ⟨b,off,none⟩) r.length c) news:=by
 obtain⟨news,a,h2,h3,d⟩:=CR h;refine⟨news,a,h2,d,⟨_,_,rfl⟩,λw' hw=>?_⟩
 grind[World.cell?,Builtin.firstCells,run_loadCells_list,gk]
theorem Zz{S:Nat}{c:Nat}:Src P G w S [] (.slice p 0 c) []:=by
 refine⟨by simp,by simp,FN _ _,⟨_,_,rfl⟩,λw' _=>?_⟩;cases p<;>simp[Builtin.firstCells,loadCells,loadCellsFrom]
theorem OE(hi:Inv G w s.m) {x:D}{u:Value}(hx:VRel G w x u) {S:Nat}{r:List D}(h:contents S s.m x=some r):∃news,Src P G w S r u news:=by
 unfold contents at h;split at h
 .injection h with h;subst h;simp only[VRel]at hx;subst hx;exact⟨[],Zz⟩
 .rename_i S' l;split at h
  .rename_i t;subst t;injection h with h;subst h;simp only[VRel]at hx;obtain⟨p,n,c,rfl,rfl,hc,hx⟩:=hx;rcases hx with rfl|⟨b,off,rfl,o,d⟩
   .exact⟨[],Zz⟩
   simp_all[oL]
  .cases h
 .rename_i id Oa;split at h
  .rename_i S' g l hm;split at h
   .rename_i hc;obtain⟨rfl,rfl⟩:=hc;injection h with h;subst h;simp only[VRel]at hx;obtain⟨p,n,c,rfl,j,f,hx⟩:=hx;obtain⟨a1,a2,a3,a4,a5⟩:=hi.ent _ _ hm;obtain⟨rfl,rfl,rfl⟩:=hx a1;rw[a3];rcases a5 with a5|⟨q,cs,T,a,o,e,k,d⟩
    .have i:=congrArg Fae a5.2;dsimp only at i;have:l=[]:=Uaa (by omega);subst this;exact⟨[],Zz⟩
    simp_all[oL]
   .cases h
  .cases h
 .rename_i id Oa lo n;split at h
  .rename_i S' g l hm;split at h
   .rename_i hc;obtain⟨rfl,rfl,hle⟩:=hc;injection h with h;subst h;simp only[VRel]at hx;obtain⟨p,c,rfl,hnc,j,f,hx⟩:=hx;obtain⟨a1,a2,a3,a4,a5⟩:=hi.ent _ _ hm;have hlen:((l.drop lo).take n).length=n:=by grind
    rcases hx a1 with rfl|⟨b,hb,rfl⟩
    .simp;exact⟨[],Zz⟩
    .rcases a5 with a5|⟨q,cs,T,a,o,e,k,d⟩
     .simp_all
     .rw[hb]at a;injection a with a;subst a;have:=oL (P:=P) (c:=c) (Fx (Dx d lo) n)
      grind
   .cases h
  .cases h
 .cases h
theorem HF(ht:P.underlying t=some (.slice e)) (hi:P.info? e=some i) {S:Nat}{u:Value}{news:List Value}(hu:Src P G w S [] u news) (a:i.size=S) :
 (Builtin.append_ #[t,t] ty #[.slice none 0 0,u]).run P w=.ok (.slice none 0 0) w:=by
 obtain⟨p,c,rfl⟩:=hu.form;have hr:=hu.run w rfl;subst a;simp only[sab]at hr;simp[Builtin.append_,run_underlying ht,sizeOf,typeInfo,hi,Builtin.lenOf,hr]
theorem ZO(ht:P.underlying t=some (.slice e)) (hi:P.info? e=some i) {S:Nat}{r:List D}{u:Value}{news:List Value}(hu:Src P G w S r u news) (d:i.size=S)
 {g sLen:Nat} {cur:Array Value} {T:TypeId} (h:w.heap[g]?=some (.cells cur T (0,0))) (a:sLen+r.length<=sCap) (hfit:f+sLen*S+news.length<=cur.size) :
 (Builtin.append_ #[t,t] ty #[.slice (some ⟨g,f,none⟩) sLen sCap,u]).run P w =
  .ok (.slice (some ⟨g,f,none⟩) (sLen+r.length) sCap) (w.setRow g (cur.toList.take (f+sLen*S)++news++cur.toList.drop (f+sLen*S+news.length)).toArray):=by
 obtain⟨p,c,rfl⟩:=hu.form;have hr:=hu.run w rfl;subst d;have b:=run_storeCells_at P g (f+sLen*i.size) T news 0 cur w h (by omega) (λv hv=>by rw[lU];exact hu.ones v hv);simp only[Kac]at b;simp[Builtin.append_,run_underlying ht,sizeOf,typeInfo,hi,Builtin.lenOf,a,hr,gk,b]
theorem GF(ht:P.underlying t=some (.slice e)) (hi:P.info? e=some i) (k:i.zero=some z) {S:Nat}{r:List D}{u x:Value}{news a:List Value}(hu:Src P G w S r u news) (hx:Src P G w S l x a) (j:i.size=S)
 (h:x=.slice p l.length sCap) (b:sCap<l.length+r.length) (hb:(l.length+r.length)*i.bytes<=140737488355328) (h63:l.length+r.length<=9223372036854775807) :
 (Builtin.append_ #[t,t] ty #[x,u]).run P w =
  .ok (.slice (some ⟨w.heap.size,0,none⟩) (l.length+r.length) (grownCap w (l.length+r.length) sCap e))
   (w.drew.alloc (.cells (a.toArray++news.toArray++Builtin.zeroCells z.cells (grownCap w (l.length+r.length) sCap e-(l.length+r.length))) e)):=by
 obtain⟨q,c,rfl⟩:=hu.form;subst h;have hr:=hu.run w.drew rfl;have g:=hx.run w.drew rfl;subst j;have hn:¬(l.length+r.length<=sCap):=by omega
 have f:¬(9223372036854775807<((l.length:Int)+(r.length:Int))):=by omega
 have hfit:=growslice_fits (old:=sCap) b hb;have d:¬(281474976710656<Builtin.nextslicecap (l.length+r.length) sCap*i.bytes):=by omega
 simp[Builtin.append_,run_underlying ht,sizeOf,typeInfo,zeroValue,hi,k,Builtin.lenOf,hn,f,d,Question.forced,hr,g,newRow,grownCap]
 grind
theorem Mh.append{S:Nat}{r:List D}{a news:List Value}(b:Mh G w S l a.toArray) (h2:Mh G w S r news.toArray) (hl:a.length=l.length*S) (rest:Array Value) :
 Mh G w S (l++r) (a.toArray++news.toArray++rest):=by
 intro i d hd;rw[Mac]at hd;split at hd
 .rename_i hi;obtain⟨u,g1,g2,g3⟩:=b i d hd
  grind
 .rename_i hi;obtain⟨u,g1,g2,g3⟩:=h2 (i-l.length) d hd;refine⟨u,g1,g2,λj c hc=>⟨(g3 j c hc).1,?_⟩⟩;have:=(g3 j c hc).2;have hlt:(i-l.length)*S+j<news.length:=by
   grind
  have hge:l.length*S<=i*S:=Zaa S (by omega);have hidx:i*S+j-a.length=(i-l.length)*S+j:=by grind[gaf]
  grind
theorem ZI{b:Option Nat}{V:Nat}{C:Nat×Nat}(a:id<G.n):VRel (G.Eg id b V N C) w' (.own id V) (.slice (b.map λb=>⟨b,C.2,none⟩) N C.1):=by
 simp only[VRel];exact⟨_,_,_,rfl,a,by simp[Gh.Eg],λ_=>⟨by simp[Gh.Eg],by simp[Gh.Eg],by simp[Gh.Eg]⟩⟩
theorem WB{b:Option Nat}{S C:Nat}(hn:G.n=s.m.length):VRel (G.add b S N C) w' (.own s.m.length 0) (.slice (b.map λb=>⟨b,0,none⟩) N C):=by
 simp only[VRel];exact⟨_,_,_,rfl,by grind[Gh.add],pab _,λ_=>⟨by simp[Gh.add,hn],by grind[Gh.add],by grind[Gh.add]⟩⟩
theorem Uy(w:World) (need old:Nat) (e:TypeId):need<=grownCap w need old e:=grownCap_ge w need old e
theorem uE(z:Array Value) (n:Nat):(Builtin.zeroCells z n).size=n*z.size:=size_zeroCells z n
theorem rM{u:TypeId}(ht:P.underlying t=some (.slice e)) (hu:P.underlying u=some (.int .i64)) (hi:P.info? e=some i) (l:i.zero=some z) (j:0<i.size) (h:0<i.bytes) {k:Int}(hk:0<k) (hb:k.toNat*i.bytes<=140737488355328) :
 (Builtin.append_ #[t,u] ty #[.slice none 0 0,.int .i64 k]).run P w =
  .ok (.slice (some ⟨w.heap.size,0,none⟩) k.toNat (grownCap w k.toNat 0 e))
   (w.drew.alloc (.cells (Builtin.zeroCells z.cells k.toNat++Builtin.zeroCells z.cells (grownCap w k.toNat 0 e-k.toNat)) e)):=by
 obtain⟨n,rfl⟩:∃n:Nat,k=(n:Int):=⟨k.toNat,by omega⟩;simp only[Int.toNat_natCast]at hb⊢;have d:0<n:=by omega
 have hnb:n<=n*i.bytes:=uad _ h;have hw:IntKind.i64.wrap (n:Int)=n:=by
  grind[IntKind.wrap_i64]
 have hn:¬(n<=0):=by omega
 have b:¬(9223372036854775807<(n:Int)):=by omega
 have c:=growslice_fits (need:=0+n) (old:=0) (by omega) (by rw[Qab];omega);rw[Qab]at c;have a:¬(281474976710656<Builtin.nextslicecap n 0*i.bytes):=by omega
 have g:¬((281474976710656:Int)<(n:Int)*(i.bytes:Int)):=by omega
 have f:¬((n:Int)<0):=by omega
 have hns:¬(n*i.size=0):=Nat.ne_of_gt (Nat.mul_pos d j);have hn1:¬(n=0):=by omega
 simp[Builtin.append_,run_underlying ht,run_underlying hu,sizeOf,typeInfo,zeroValue,hi,l,asInt,asIntOf,hw,f,g,hn,b,a,Question.forced,newRow,grownCap,Builtin.firstCells,d]
 simp_all
theorem g_mkapp(hr:Rel G w a s) {u:TypeId}(ho:o.op=.call { callee:=.builtin .append,args:=#[x,y],argTypes:=#[t,u] })
 (ht:P.underlying t=some (.slice e)) (hu:P.underlying u=some (.int .i64)) (hi:P.info? e=some i) (A:zeroOf P e=some z) (h:0<i.bytes) (he:fa s (.mkapp i.size i.bytes (leaf z) x y)=some (d,m')) :
 Good G w s.m ((execOp a.eval o).run P w) d m':=by
 obtain⟨hz1,l,hz3,i',c,g,p⟩:=Bo A w;rw[hi]at c;injection c with c;subst c;have hx:=hr.ev x;have v:=hr.ev y;simp only[fa]at he;unfold execOp;simp only[ho];generalize s.ev x=dx at *;generalize s.ev y=dy at *;split at he
 .rename_i k;split at he
  .rename_i hk;obtain⟨hk,hb⟩:=hk;injection he with he;injection he with r h2;subst r;subst h2;simp only[VRel]at hx v;have hrun:=rM (w:=w) (ty:=o.type) ht hu hi p (by omega) h hk (by omega);have hcap:=Uy w k.toNat 0 e;have f:Mh G w i.size (Daa k.toNat (leaf z)) (Builtin.zeroCells z.cells k.toNat++Builtin.zeroCells z.cells (grownCap w k.toNat 0 e-k.toNat)):=by
    rw[g];intro j q hq;obtain⟨u,g1,g2,g3⟩:=Yv (G:=G) (w:=w) l k.toNat j q hq
    grind[Builtin.zeroCells]
   have hd:=(Same.drew w).inv hr.inv;obtain⟨g1,g2⟩:=xu hd i.size (Daa k.toNat (leaf z)) (grownCap w k.toNat 0 e) _ e (f.mono ((Same.drew w).le G)) (by simp_all) (by
    simp only[Vad,uE,←g];rw[←cad]
    simp_all)
   refine⟨.value (.slice (some ⟨w.heap.size,0,none⟩) k.toNat (grownCap w k.toNat 0 e)),_,_,?_,.inl ⟨_,rfl,?_⟩,g1,((Same.drew w).step G s.m).trans g2⟩
   .simp_all[resolve,invoke,builtin]
   .have:=WB (b:=some w.heap.size) (S:=i.size) (N:=k.toNat) (C:=grownCap w k.toNat 0 e) (w':=w.drew.alloc (.cells (Builtin.zeroCells z.cells k.toNat++Builtin.zeroCells z.cells (grownCap w k.toNat 0 e-k.toNat)) e)) hr.inv.n
    simp_all
  simp_all
 simp_all
theorem S5(hr:Rel G w a s) (ho:o.op=.call { callee:=.builtin .append,args:=#[x,y],argTypes:=#[t,t] })
 (ht:P.underlying t=some (.slice e)) (hi:P.info? e=some i) (hz:zeroOf P e=some z) (hb0:0<i.bytes) (he:fa s (.append i.size i.bytes x y)=some (d,m')) :
 Good G w s.m ((execOp a.eval o).run P w) d m':=by
 obtain⟨hz1,hz2,hz3,i',N,hsz,hzz⟩:=Bo hz w;rw[hi]at N;injection N with N;subst N;have hx:=hr.ev x;have hy:=hr.ev y;simp only[fa]at he;unfold execOp;simp only[ho];generalize s.ev x=dx at *;generalize s.ev y=dy at *;split at he
 .rename_i r W;obtain⟨news,hu⟩:=OE (P:=P) hr.inv hy W;have lift:∀v w',(Builtin.append_ #[t,t] o.type #[a.eval x,a.eval y]).run P w=.ok v w'->
   (Sem.run P (do let d←resolve a.eval { callee:=.builtin .append,args:=#[x,y],argTypes:=#[t,t] } o.type;invoke d.target d.args) w)=.ok (.value v) w':=by
   simp_all[resolve,invoke,builtin]
  have b47:(2:Nat) ^ 47=140737488355328:=by decide
  split at he
  .split at he
   .rename_i L;injection he with he;injection he with h1 h2;subst h1;subst h2;simp only[VRel]at hx;by_cases O:r=[]
    .subst O;have f:=HF (w:=w) (ty:=o.type) ht hi hu rfl;rw[←hx]at f;have R:=jB (w':=w) hr.inv none i.size 0 0 (.live i.size 0 []) rfl rfl rfl rfl (Paa _) (λ_ _=>rfl) (λk h=>by cases h)
      ⟨by simp[Gh.add],by simp[Gh.add],by simp[Gh.add],by simp,.inl ⟨by simp[Gh.add],by simp[Gh.add]⟩⟩
     refine⟨_,_,_,lift _ _ f,.inl ⟨_,rfl,?_⟩,R.1,R.2⟩;rw[hx];exact WB (b:=none) hr.inv.n
    .have hpos:0<r.length:=List.length_pos_iff.2 O;have hmul:r.length<=r.length*i.bytes:=uad _ hb0;have f:=GF (w:=w) (ty:=o.type) ht hi hzz (l:=[]) hu Zz rfl (p:=none) (sCap:=0) rfl (by omega) (by simp_all) (by grind);simp only[sab,Qab]at f;rw[←hx]at f;have S:=Uy w r.length 0 e;have H:Mh G w i.size r ([].toArray++news.toArray++Builtin.zeroCells z.cells (grownCap w r.length 0 e-r.length)):=Mh.append (l:=[]) (FN _ _) hu.row (by simp) _;have hd:=(Same.drew w).inv hr.inv;obtain⟨g1,g2⟩:=xu hd i.size r (grownCap w r.length 0 e) _ e (H.mono ((Same.drew w).le G)) S (by
      simp only[Vad,fad,sab,Qab,hu.len,uE,←hsz];rw[←cad]
      simp_all)
     refine⟨_,_,_,lift _ _ f,.inl ⟨_,rfl,?_⟩,g1,((Same.drew w).step G s.m).trans g2⟩;exact WB (b:=some w.heap.size) hr.inv.n
   simp_all
  .rename_i id Oa;split at he
   .rename_i S' g l hm;split at he
    .rename_i hc;obtain⟨rfl,rfl,L⟩:=hc;injection he with he;injection he with h1 h2;subst h1;subst h2;have hcx:contents i.size s.m (.own id g)=some l:=by grind[contents]
     obtain⟨V,Q⟩:=OE (P:=P) hr.inv hx hcx;simp only[VRel]at hx;obtain⟨p,n,c,hp,hid,hver,hx⟩:=hx;obtain⟨a1,a2,a3,a4,a5⟩:=hr.inv.ent _ _ hm;obtain⟨rfl,rfl,rfl⟩:=hx a1;have hmul:l.length+r.length<=(l.length+r.length)*i.bytes:=uad _ hb0;by_cases J:l.length+r.length<=(G.C id).1
     .rcases a5 with a5|⟨K,cs,T,hb',hF,I,hcs,H⟩
      ·
        have h00:=congrArg Fae a5.2;dsimp only at h00;have hl0:l=[]:=Uaa (by omega);have O:r=[]:=Uaa (by omega);subst hl0;subst O;have f:=HF (w:=w) (ty:=o.type) ht hi hu rfl;have hxe:a.eval x=.slice none 0 0:=by simp_all
        rw[←hxe]at f;have key:=rh (w':=w) hr.inv (e':=.live i.size (g+1) ([]++[])) hm rfl rfl none (g+1) 0 (0,0) (.inl (by omega)) rfl rfl rfl (Paa _) (λ_ _ _=>rfl) (λk h=>by cases h)
         ⟨by simp[Gh.Eg],by grind[Gh.Eg],by simp[Gh.Eg],by simp,.inl ⟨by simp[Gh.Eg],by simp[Gh.Eg]⟩⟩
        exact⟨_,_,_,lift _ _ f,.inl ⟨_,rfl,by grind[ZI]⟩,key.1,key.2⟩
      ·
        have Y:=Zaa i.size J;rw[cad]at Y;have hfit:(G.C id).2+l.length*i.size+news.length<=cs.size:=by rw[hu.len];omega
        have f:=ZO (ty:=o.type) ht hi hu rfl (sLen:=l.length) (sCap:=(G.C id).1) I J hfit;have hxe:a.eval x=.slice (some ⟨K,(G.C id).2,none⟩) l.length (G.C id).1:=by simp_all
        rw[←hxe]at f;obtain⟨A,U⟩:∃A:Array Value,A=(cs.toList.take ((G.C id).2+l.length*i.size)++news++cs.toList.drop ((G.C id).2+l.length*i.size+news.length)).toArray:=⟨_,rfl⟩;rw[←U]at f;have hget:∀k,A[k]?=if(G.C id).2+l.length*i.size<=k/\k<(G.C id).2+l.length*i.size+news.length then news[k-((G.C id).2+l.length*i.size)]? else cs[k]?:=by
         intro k;rw[U,oac,Lx _ _ _ _ (by omega)];simp
        have hsz':A.size=cs.size:=by
         grind
        have E:∀k,G.B id≠some k->(w.setRow K A).heap[k]?=w.heap[k]?:=λk hk=>setRow_other w K k A λh=>hk (by simp_all);have X:Le G w (G.Eg id (some K) (g+1) (l.length+r.length) (G.C id)) (w.setRow K A):=by
         refine⟨λ_ h=>h,λk hk=>E k λh=>by simp_all,Paa _,λj _=>?_⟩
         grind[Gh.Eg]
        have D:=setRow_heap w K cs A T (0,0) I;have hin:=Gx I H;have Z:Mh G w i.size (l++r) A (G.C id).2:=by
         intro j q hq;rw[Mac]at hq;split at hq
         .rename_i hj;obtain⟨u,g1,g2,g3⟩:=hin j q hq;refine⟨u,g1,g2,λk c hk=>⟨(g3 k c hk).1,?_⟩⟩;have hks:k<i.size:=by grind
          have hmj:=Zaa i.size (show j+1<=l.length from hj)
          grind
         .rename_i hj;obtain⟨u,g1,g2,g3⟩:=hu.row (j-l.length) q hq;refine⟨u,g1,g2,λk c hk=>⟨(g3 k c hk).1,?_⟩⟩;have hk':=(g3 k c hk).2;have hlt:(j-l.length)*i.size+k<news.length:=by grind
          have hge:l.length*i.size<=j*i.size:=Zaa i.size (by omega);have hidx:j*i.size+k+(G.C id).2-((G.C id).2+l.length*i.size)=(j-l.length)*i.size+k:=by grind[gaf]
          grind
        have key:=rh (w':=w.setRow K A) hr.inv (e':=.live i.size (g+1) (l++r)) hm rfl rfl (some K) (g+1) (l.length+r.length) (G.C id) (.inl (by omega)) rfl rfl rfl
         (by simp) (λk _ hk=>E k hk) (λk hk=>.inl (by simp_all))
         ⟨by simp[Gh.Eg],by grind[Gh.Eg],by simp[Gh.Eg],by grind[Gh.Eg],.inr ⟨K,A,T,by simp[Gh.Eg],hF,D,by grind[Gh.Eg],by simpa [Gh.Eg] using Zm D (Z.mono X)⟩⟩
        exact⟨_,_,_,lift _ _ f,.inl ⟨_,rfl,ZI (b:=some K) hid⟩,key.1,key.2⟩
     ·
       have f:=GF (w:=w) (ty:=o.type) ht hi hzz hu Q rfl (sCap:=(G.C id).1) (by rw[hp,a3]) (by omega) (by omega) (by omega);have S:=Uy w (l.length+r.length) (G.C id).1 e;have H:Mh G w i.size (l++r) (V.toArray++news.toArray++Builtin.zeroCells z.cells (grownCap w (l.length+r.length) (G.C id).1 e-(l.length+r.length))):=Mh.append Q.row hu.row Q.len _;generalize M:(V.toArray++news.toArray++Builtin.zeroCells z.cells (grownCap w (l.length+r.length) (G.C id).1 e-(l.length+r.length)))=cells at H f;have hcsz:grownCap w (l.length+r.length) (G.C id).1 e*i.size<=cells.size:=by
        rw[←M];simp only[Vad,fad,hu.len,Q.len,uE,←hsz];rw[←cad,←cad]
        simp_all
       have E:∀k,k<w.heap.size->(w.drew.alloc (.cells cells e)).heap[k]?=w.heap[k]?:=λk hk=>Below.heap_alloc w.drew _ _ hk;have D:(w.drew.alloc (.cells cells e)).heap[w.heap.size]?=some (.cells cells e (0,0)):=heap_alloc_new w.drew _;have X:Le G w (G.Eg id (some w.heap.size) (g+1) (l.length+r.length) (grownCap w (l.length+r.length) (G.C id).1 e,0)) (w.drew.alloc (.cells cells e)):=by
        refine⟨λ_ h=>h,λk hk=>E k (hr.inv.F k hk),Paa _,λj _=>?_⟩
        grind[Gh.Eg]
       have key:=rh (w':=w.drew.alloc (.cells cells e)) hr.inv (e':=.live i.size (g+1) (l++r)) hm rfl rfl (some w.heap.size) (g+1) (l.length+r.length) (grownCap w (l.length+r.length) (G.C id).1 e,0)
        (.inl (by omega)) rfl rfl rfl (by simp) (λk hk _=>E k hk) (λk hk=>.inr (by simp_all))
        ⟨by simp[Gh.Eg],by grind[Gh.Eg],by simp[Gh.Eg],by grind[Gh.Eg],.inr ⟨w.heap.size,cells,e,by simp[Gh.Eg],λhF=>by have:=hr.inv.F _ hF;omega,D,by grind[Gh.Eg],by simpa [Gh.Eg] using Zm D (H.mono X)⟩⟩
       exact⟨_,_,_,lift _ _ f,.inl ⟨_,rfl,ZI (b:=some w.heap.size) (C:=(_,0)) hid⟩,key.1,key.2⟩
    simp_all
   simp_all
  simp_all
 simp_all
theorem MV(hr:Rel G w a s) (ho:o.op=.slice t x lo hi none)
 (ht:P.underlying t=some (.slice e)) (A:P.info? e=some i) (he:fa s (.trunc i.size x lo hi)=some (d,m')):Good G w s.m ((execOp a.eval o).run P w) d m':=by
 have hx:=hr.ev x;have other:(∀id Oa,s.ev x≠.own id Oa)->Good G w s.m ((execOp a.eval o).run P w) d m':=λhne=>by
  grind[fa,LV]
 cases g:s.ev x with
 |own id Oa=>
  simp only[fa,g]at he;split at he
  .rename_i S' f l hm;split at he
   .rename_i c h hl Q;split at he
    .rename_i hc;obtain⟨F,rfl,rfl,E⟩:=hc;injection he with he;injection he with e1 e2;subst e1;subst e2;rw[g]at hx;have hn:qd s.m (.own id f)=some l.length:=by grind[qd]
     obtain⟨p,cap,K,r⟩:=aE hr.inv hx hn;obtain⟨m,hb,hmh,hmc,n⟩:=dL (P:=P) hr r (mx:=none) (by simp) hl Q (k:=l.length) rfl E (Paa _) F;have n:=n rfl;subst n;simp only[VRel]at hx;obtain⟨p',n',c',v,D,hver,hx⟩:=hx;rw[K]at v;injection v with q1 R S;subst q1;subst R;subst S;obtain⟨a1,a2,a3,a4,a5⟩:=hr.inv.ent _ _ hm;obtain⟨I,-,hce⟩:=hx a1;obtain⟨C,J⟩:∃C:Nat×Nat,C=if m=c then(0,(G.C id).2)else(m-c,(G.C id).2+c*i.size):=⟨_,rfl⟩;have z:C.1=m-c:=by grind
     have run:(execOp a.eval o).run P w=.ok (.value (.slice ((G.B id).map λb=>⟨b,C.2,none⟩) (h-c) C.1)) w:=by
      have e0:(execOp a.eval o).run P w=.ok (.value (.slice (if m=c then p else p.map (·.add (c*i.size))) (h-c) (m-c))) w:=by
       unfold execOp;simp only[ho,K];simp at hb;simp[Instr.sliceAt,Instr.slice,run_underlying ht,hb,je A]
      rw[e0,z,I,J];split
      .rfl
      .cases G.B id with
       |none=>rfl
       |some b=>simp[gk]
     have H:Le G w (G.Eg id (G.B id) (f+1) (h-c) C) w:=by
      refine⟨λ_ h=>h,λ_ _=>rfl,Paa _,λj _=>?_⟩
      grind[Gh.Eg]
     have hlen:((l.take h).drop c).length=h-c:=by grind
     have key:=rh (w':=w) hr.inv (e':=.live i.size (f+1) ((l.take h).drop c)) hm rfl rfl (G.B id) (f+1) (h-c) C (.inl (by omega)) rfl rfl rfl (Paa _) (λ_ _ _=>rfl) (λk hk=>.inl hk)
      ⟨by simp[Gh.Eg],by grind[Gh.Eg],by grind[Gh.Eg],by grind[Gh.Eg],by
       rcases a5 with a5|⟨L,cs,T,hb',O,q,hcs,y⟩
       .refine .inl ⟨by grind[Gh.Eg],?_⟩;have M:=a5.2;have N:=congrArg Fae M
        grind[Gh.Eg]
       .refine .inr ⟨L,cs,T,by grind[Gh.Eg],O,q,?_,?_⟩
        .simp only[Gh.Eg,if_pos];rw[J];split
         .omega
         .dsimp only;have N:(m-c)*i.size+c*i.size=m*i.size:=by rw[←cad];grind
          grind
        .have e0:((G.Eg id (G.B id) (f+1) (h-c) C).C id).2=C.2:=by simp[Gh.Eg]
         rw[e0];by_cases hma:m=c
         .have u:(l.take h).drop c=[]:=Uaa (by omega);rw[u];simp[Qa]
         .have e2:C.2=(G.C id).2+c*i.size:=by grind
          rw[e2];exact(Dx (Fx y h) c).mono H rfl⟩
     exact⟨_,_,_,run,.inl ⟨_,rfl,ZI D⟩,key.1,key.2⟩
    simp_all
   simp_all
  simp_all
 |_=>exact other (by intro id Oa h;rw[g]at h;cases h)
end
open Go.RowKit (Below)
section
variable {P:Program} {G:Gh} {w:World} {a:Act} {s:St} {d:D} {m':List Ent}
theorem IH(hr:Rel G w a s):∀{xs:List Operand}{vs:List Value},leaves (xs.map s.ev)=some vs->xs.map a.eval=vs
 |[],vs,h=>by grind[leaves]
 |x::xs,vs,h=>by
  have hx:=hr.ev x;simp only[cab]at h;generalize s.ev x=b at *;cases b<;>simp only[leaves,reduceCtorEq]at h;simp only[Faa]at h;obtain⟨us,c,rfl⟩:=h;simp only[VRel]at hx;simp[hx,IH hr c]
theorem g_mm(hr:Rel G w a s) {isMax:Bool}{xs:Array Operand}{Qx:Array TypeId}(ho:o.op=.call { callee:=.builtin (if isMax then .max else .min),args:=xs,argTypes:=Qx })
 (he:fa s (.mm isMax xs.toList)=some (d,m')):Good G w s.m ((execOp a.eval o).run P w) d m':=by
 simp only[fa]at he;split at he
 .rename_i vs b;simp only[Faa,Vaa]at he;obtain⟨r,hp,rfl,rfl⟩:=he;have hl:=IH hr b;have harr:xs.map a.eval=vs.toArray:=by
   grind
  refine Ea (u:=r) hr.inv ?_ (by simp[VRel]);unfold execOp;simp only[ho]
  cases isMax with
  |true=>
   have:∀t n,Builtin.max_ t n vs.toArray=Builtin.max_ #[] 0 vs.toArray:=λ_ _=>rfl
   simp_all[resolve,invoke,builtin,Ov]
  |false=>
   have:∀t n,Builtin.min_ t n vs.toArray=Builtin.min_ #[] 0 vs.toArray:=λ_ _=>rfl
   simp_all[resolve,invoke,builtin,Ov]
 simp_all
theorem JF{ds:TypeDesc}(hd:P.underlying t=some ds) (hA:Mu ds=false) {cs:Array Value}{u:Value}(hu:cs[off]?=some u):(Go.part t cs off).run P w=.ok u w:=by
 simp_all[Go.part,Hx]
theorem RT{dep:Nat}{k:Nat}{x y:D}{b:Bool}{u:Value}{w:World}(hk:OJ P t=some k) (hb:fw k x y=some b) (hx:VRel G w x u) (a:VRel G w y v) :
 (Op.equalIn (dep+1) t u v).run P w=.ok b w/\∃ds,P.underlying t=some ds/\Mu ds=false:=by
 unfold OJ at hk;split at hk
 .rename_i k' hd;injection hk with hk;subst hk;refine⟨?_,_,hd,rfl⟩;cases x<;>cases y<;>simp only[fw,reduceCtorEq]at hb;rename_i x y;cases x<;>cases y<;>simp only[fw,reduceCtorEq]at hb;split at hb
  .rename_i hk;injection hb with hb;simp only[VRel]at hx a
   grind[run_equalIn_int]
  simp_all
 .rename_i hd;injection hk with hk;subst hk;refine⟨?_,_,hd,rfl⟩;cases x<;>cases y<;>simp only[fw,reduceCtorEq]at hb;rename_i x y;cases x<;>cases y<;>simp only[fw,reduceCtorEq]at hb;injection hb with hb;simp only[VRel]at hx a
  grind[run_equalIn_bool']
 .rename_i hd;injection hk with hk;subst hk;refine⟨?_,_,hd,rfl⟩;cases x<;>cases y<;>simp only[fw,reduceCtorEq]at hb;rename_i x y;cases x<;>cases y<;>simp only[fw,reduceCtorEq]at hb;injection hb with hb;simp only[VRel]at hx a
  grind[run_equalIn_string]
 simp_all
theorem yH{dep:Nat}{xs ys:List Value}{w:World}{f:Field}{fs:List Field}{k:Nat}{r:List D}{t:Bool}(a:f.name≠ "_") (d:f.offset=off) (hk:OJ P f.type=some k)
 (he:Ud (k::ks) l r=some t) (hl:VsRel G w l (xs.drop off)) (hr:VsRel G w r (ys.drop off))
 (j:∀{l r:List D} {t:Bool},Ud ks l r=some t->VsRel G w l (xs.drop (off+1))->VsRel G w r (ys.drop (off+1))->(Op.eqFields (dep+1) xs.toArray ys.toArray fs).run P w=.ok t w) :
 (Op.eqFields (dep+1) xs.toArray ys.toArray (f::fs)).run P w=.ok t w:=by
 cases l with
 |nil=>grind[Ud]
 |cons x l=>
  cases r with
  |nil=>grind[Ud]
  |cons y r=>
   simp only[Ud]at he;split at he
   .rename_i b c hb e;injection he with he;subst he;simp only[VsRel]at hl hr;obtain⟨u,us,hu,hx,hl⟩:=hl;obtain⟨v,vs,hv,m,hr⟩:=hr;have g:xs[off]?=some u:=by have:=congrArg (λl=>l[0]?) hu;grind
    have h:ys[off]?=some v:=by have:=congrArg (λl=>l[0]?) hv;grind
    have hxs:xs.drop (off+1)=us:=by have:=congrArg jaf hu;grind[Xae]
    have hys:ys.drop (off+1)=vs:=by have:=congrArg jaf hv;grind[Xae]
    have j:=j e (by simp_all) (by simp_all);obtain⟨e3,ds,hd,i⟩:=RT (P:=P) (dep:=dep) hk hb hx m;have e1:=JF (w:=w) (P:=P) (cs:=xs.toArray) (off:=off) hd i (by simpa using g);have e2:=JF (w:=w) (P:=P) (cs:=ys.toArray) (off:=off) hd i (by simpa using h);simp only[Op.eqFields,a,d,ne_eq,not_false_eq_true,if_true,Sem.run_bind,e1,e2,e3,Result.andThen_ok];cases b
    all_goals simp_all
   simp_all
theorem YE{dep:Nat}{xs ys:List Value}{w:World}:∀{fs:List Field}{ks:List Nat}{off:Nat}{l r:List D}{t:Bool},PJ P fs off=some ks->Ud ks l r=some t->VsRel G w l (xs.drop off)->VsRel G w r (ys.drop off)->
 (Op.eqFields (dep+1) xs.toArray ys.toArray fs).run P w=.ok t w
 |[],ks,off,l,r,t,a,he,hl,hr=>by
  simp only[PJ]at a;injection a with a;subst a;cases l<;>cases r<;>simp[Ud]at he
  simp_all[Op.eqFields]
 |f::fs,ks,off,l,r,t,a,he,hl,hr=>by
  simp only[PJ]at a;split at a
  .rename_i hc;split at a
   .rename_i k ks' hk b;injection a with a;subst a;exact yH hc.1 hc.2 hk he hl hr λc h2 d=>YE b c h2 d
   simp_all
  simp_all
theorem FA:∀{a d:List Nat}{l r:List D}{t:Bool},Ud (a++d) l r=some t->
 ∃t1 t2,Ud a (l.take a.length) (r.take a.length)=some t1/\Ud d (l.drop a.length) (r.drop a.length)=some t2/\t=(t1&&t2)
 |[],d,l,r,t,h=>⟨true,t,by simp[Ud],by simp_all,by simp⟩
 |k::a,d,l,r,t,h=>by
  cases l with
  |nil=>grind[Ud]
  |cons x l=>
   cases r with
   |nil=>grind[Ud]
   |cons y r=>
    simp only[Waa,Ud]at h;split at h
    .rename_i b c hb hc;injection h with h;subst h;obtain⟨t1,t2,h1,h2,rfl⟩:=FA hc
     grind[Ud]
    .cases h
theorem IF{gs:Array Field}(hd:P.underlying t=some (.struct gs)) (hi:P.info? t=some i) {w:World}:(Go.part t cs.toArray off).run P w=.ok (.agg ((cs.drop off).take i.size).toArray) w:=by
 unfold Go.part;have hsz:(sizeOf t).run P w=.ok i.size w:=by simp[sizeOf,typeInfo,hi]
 have hA:Mu (.struct gs)=true:=rfl
 simp_all[Hx]
theorem Py{dep:Nat}{xs ys:List Value}{w:World}:∀{fs:List Field}{ks:List Nat}{off:Nat}{l r:List D}{t:Bool},pA P fs off=some ks->Ud ks l r=some t->VsRel G w l (xs.drop off)->VsRel G w r (ys.drop off)->
 (Op.eqFields (dep+1+1) xs.toArray ys.toArray fs).run P w=.ok t w
 |[],ks,off,l,r,t,a,he,hl,hr=>by
  simp only[pA]at a;injection a with a;subst a;cases l<;>cases r<;>simp[Ud]at he
  simp_all[Op.eqFields]
 |f::fs,ks,off,l,r,t,a,he,hl,hr=>by
  simp only[pA]at a;split at a
  .rename_i hc;split at a
   .rename_i gs hd;split at a
    .rename_i b i g hi;split at a
     .rename_i c;simp only[Faa]at a;obtain⟨ks2,j,rfl⟩:=a;obtain⟨t1,t2,d,h2,rfl⟩:=FA he;have e:P.fieldsOf f.type=gs:=by grind[Program.fieldsOf]
      have e1:=IF (w:=w) hd hi (cs:=xs) (off:=off);have e2:=IF (w:=w) hd hi (cs:=ys) (off:=off);rw[c.1]at e1 e2;have e3:(Op.equalIn (dep+1+1) f.type (.agg ((xs.drop off).take b.length).toArray) (.agg ((ys.drop off).take b.length).toArray)).run P w=.ok t1 w:=by
       rw[run_equalIn_struct w _ f.type _ _ (by simp_all) c.2,e];exact YE (dep:=dep) (G:=G) (off:=0) g d (by simpa using hl.take b.length) (by simpa using hr.take b.length)
      have ih:=Py (dep:=dep) (xs:=xs) (ys:=ys) j h2 (by simpa [Rad] using hl.drop b.length) (by simpa [Rad] using hr.drop b.length);simp only[Op.eqFields,hc.1,hc.2,ne_eq,not_false_eq_true,if_true,Sem.run_bind,e1,e2,e3,Result.andThen_ok];cases t1
      all_goals simp_all
     simp_all
    simp_all
   .split at a
    .rename_i k ks' hk h;injection a with a;subst a;exact yH hc.1 hc.2 hk he hl hr λd h2 m=>Py h d h2 m
    simp_all
  simp_all
theorem g_ceq(hr:Rel G w a s) {h:TypeId}(ho:o.op=.binOp op t x y h) (ht:P.underlying t=some (.struct fs)) (e:op=.eql\/op=.neq)
 (g:P.stoodInHeld t=false) (h2:P.eqGuardType P.depth t=false) (hk:pA P fs.toList 0=some ks) (he:fa s (.ceq (decide (op=.neq)) ks x y)=some (d,m')) :
 Good G w s.m ((execOp a.eval o).run P w) d m':=by
 have hx:=hr.ev x;have f:=hr.ev y;simp only[fa]at he;unfold execOp;simp only[ho];generalize s.ev x=dx at *;generalize s.ev y=dy at *;split at he
 .rename_i l r;simp only[VRel]at hx f;obtain⟨xs,hx,hl,-⟩:=hx;obtain⟨ys,f,hr',-⟩:=f;simp only[Faa,Vaa]at he;obtain⟨b,hb,rfl,rfl⟩:=he;have c:P.fieldsOf t=fs:=by grind[Program.fieldsOf]
  have hrun:(Op.equalIn 10000 t (.agg xs.toArray) (.agg ys.toArray)).run P w=.ok b w:=by
   rw[show(10000:Nat)=9997+1+1+1 from rfl,run_equalIn_struct w _ t _ _ (by simp_all) g,c];exact Py (dep:=9997) (G:=G) (off:=0) hk hb (by simp_all) (by simp_all)
  have hg:=run_eqGuard_agg (P:=P) w op t x y xs.toArray ys.toArray h2;rcases e with rfl|rfl
  .refine Ea (u:=.bool b) hr.inv ?_ (by simp[VRel])
   simp_all[run_eql_struct]
  .refine Ea (u:=.bool (!b)) hr.inv ?_ (by simp[VRel])
   simp_all[run_neq_struct]
 simp_all
theorem g_sidx(hr:Rel G w a s) (ho:o.op=.index t x y) (ht:P.underlying t=some .string) (he:fa s (.Jx x y)=some (d,m')) :
 Good G w s.m ((execOp a.eval o).run P w) d m':=by
 have hx:=hr.ev x;have e:=hr.ev y;simp only[fa]at he;unfold execOp;simp only[ho];generalize s.ev x=dx at *;generalize s.ev y=dy at *;split at he
 .rename_i b jk k;split at he
  .rename_i hk;injection he with he;injection he with c h2;subst c;subst h2;simp only[VRel]at hx e;refine Ea (u:=.int .u8 (b[k.toNat]'hk.2).toNat) hr.inv ?_ (by simp[VRel])
   simp_all[Instr.index,asIntOf,run_underlying]
  simp_all
 simp_all
theorem X5(hr:Rel G w a s) (ho:o.op=.slice t x lo hi none) (ht:P.underlying t=some .string) (he:fa s (.sslice x lo hi)=some (d,m')) :
 Good G w s.m ((execOp a.eval o).run P w) d m':=by
 have hx:=hr.ev x;simp only[fa]at he;have one:∀{x:Option Operand} {c r:Nat},bound s c x=some r->(x=none/\r=c)\/∃y j,x=some y/\a.eval y=.int j (r:Int):=by
  intro x c r hb
  cases x with
  |none=>simp[bound]at hb;simp_all
  |some y=>
   have g:=hr.ev y;simp only[bound]at hb;generalize s.ev y=dy at *;split at hb
   .rename_i j q;split at hb
    .rename_i hq;injection hb with hb;simp only[VRel]at g
     grind
    simp_all
   simp_all
 have rb:∀(x:Value) (y:Nat) (code:BoundsCode) (j:IntKind) (r:Nat),x=.int j (r:Int)->r<=y->(Instr.sliceBound x y code).run P w=.ok r w:=λx y code j r hx hr'=>by
  have:=HN (P:=P) x y code hx (Mad r) (by omega) w
  simp_all
 unfold execOp;simp only[ho];generalize s.ev x=dx at *;split at he
 .rename_i b;split at he
  .rename_i l h hl f;split at he
   .rename_i hc;injection he with he;injection he with e h2;subst e;subst h2;simp only[VRel]at hx;refine Ea (u:=.string (b.extract l h)) hr.inv ?_ (by simp[VRel]);rcases one hl with⟨rfl,rfl⟩|⟨yl,jl,rfl,el⟩<;>rcases one f with⟨rfl,rfl⟩|⟨yh,jh,rfl,eh⟩
    all_goals simp_all[Instr.sliceAt,Instr.slice,Instr.sliceBounds,run_underlying]
   simp_all
  simp_all
 simp_all
theorem dO(w:World) (b n k:Nat) (p:Addr):(w.freeze ⟨b,n,none⟩ k).cell? p=w.cell? p:=by
 grind[World.freeze,World.cell?]
theorem dF(w:World) (b n k j:Nat) (h:j≠b):(w.freeze ⟨b,n,none⟩ k).heap[j]?=w.heap[j]?:=by
 grind[World.freeze]
theorem NR(w:World) (b n k:Nat):(w.freeze ⟨b,n,none⟩ k).heap.size=w.heap.size:=by
 grind[World.freeze]
theorem DR(w:World) (b n k:Nat):(w.freeze ⟨b,n,none⟩ k).os=w.os/\(w.freeze ⟨b,n,none⟩ k).tape=w.tape/\(w.freeze ⟨b,n,none⟩ k).output=w.output:=by
 unfold World.freeze
 grind
def Gh.fz(G:Gh) (id:Nat):Gh:={ G with F:=λb=>G.F b\/G.B id=some b,V:=λi=>if i=id then G.V i+1 else G.V i }
theorem Le.fzW{G:Gh}{w:World}(id:Nat) (h:∀b,G.F b->w'.heap[b]?=w.heap[b]?):Le G w (G.fz id) w':=by
 refine⟨λ_ h=>.inl h,h,Paa _,λi _=>?_⟩
 grind[Gh.fz]
theorem zY{G:Gh}{w:World}(hi:Inv G w m) {e:Ent}(hm:m[id]?=some e) (hl:e.isLive=true)
 (t:w'.os=w.os) (l:w'.tape=w.tape) (q:w'.output=w.output) (f:w'.heap.size=w.heap.size) (a:∀k,G.B id≠some k->w'.heap[k]?=w.heap[k]?) :
 Inv (G.fz id) w' (m.set id .gone)/\Step G w m (G.fz id) w' (m.set id .gone):=by
 have g:Le G w (G.fz id) w':=Le.fzW id λb hb=>a b λh=>((hi.ent id e hm).lt hl h).2 hb;have d:∀i x,(m.set id .gone)[i]?=some x->(i=id/\x=.gone)\/(i≠id/\m[i]?=some x):=by
  grind
 refine⟨⟨by simp[Gh.fz,hi.n],?_,?_,?_,hi.gl.mono g⟩,⟨g,t,l,q,by omega,?_,?_,?_⟩⟩
 .rintro b (h|h)
  .rw[f];exact hi.F b h
  .rw[f];exact((hi.ent _ _ hm).lt hl h).1
 .intro i x hx;rcases d i x hx with⟨rfl,rfl⟩|⟨p,c⟩
  .trivial
  .by_cases o:x.isLive=true
   .refine(hi.ent i x c).mono g (by grind[Gh.fz]) (λb hb=>a b λh=>p (hi.apart i id x e c hm o hl b hb h)) ?_;rintro b hb _ (h|h)
    .exact h
    .exact(p (hi.apart i id x e c hm o hl b hb h)).elim
   .cases x with
    |gone=>trivial
    |_=>grind[Ent.isLive]
 .intro i j x y hx A r v b hb s;rcases d i x hx with⟨rfl,rfl⟩|⟨_,c⟩
  .cases r
  .rcases d j y A with⟨rfl,rfl⟩|⟨_,u⟩
   .cases v
   .exact hi.apart i j x y c u r v b hb s
 .intro b _ ho;exact a b λh=>ho ⟨id,e,hm,hl,h⟩
 .rintro b _ (h|h)
  .simp_all
  .exact .inr ⟨id,e,hm,hl,h⟩
 .rintro b _ ⟨i,x,hx,r,z⟩;rcases d i x hx with⟨rfl,rfl⟩|⟨_,c⟩
  .cases r
  .exact⟨i,x,c,r,z⟩
theorem vrel_isV{G:Gh}{w:World}{d:D}{u:Value}(h:isV d=true) (hv:VRel G w d u):VRel G' w' d u:=by
 cases d<;>simp[isV]at h;simpa [VRel] using hv
theorem g_strb(hr:Rel G w a s) {S:Nat}(ho:o.op=.convert t t x) (ht:P.underlying t=some (.slice e)) (hu:P.underlying e=some (.int .u8)) (he:fa s (.strb S x)=some (d,m')) :
 Good G w s.m ((execOp a.eval o).run P w) d m':=by
 have hx:=hr.ev x;simp only[fa]at he;generalize s.ev x=dx at *;split at he
 .rename_i id Oa;split at he
  .rename_i S ver' l hm;split at he
   .rename_i hc;obtain⟨rfl,rfl,hpos,hv⟩:=hc;injection he with he;injection he with y h2;subst y;subst h2;simp only[VRel]at hx;obtain⟨p,n,c,v,hid,hver,hx⟩:=hx;have f:=hr.inv;obtain⟨a1,a2,a3,a4,a5⟩:=f.ent _ _ hm;obtain⟨rfl,rfl,rfl⟩:=hx a1;rcases a5 with a5|⟨b,cs,T,hb,hF,hblk,hsz,g⟩
    .simp_all
    .rw[hb]at v;have r:a.eval x=.slice (some ⟨b,(G.C id).2,none⟩) (G.N id) (G.C id).1:=v;have hshape:w.shape? b=some (T,cs.size):=by grind[World.shape?]
     have q:(execOp a.eval o).run P w=.ok (.value (a.eval x)) (w.freeze ⟨b,cs.size,none⟩ 1):=by
      simp_all[execOp,convert,markStringish,run_underlying]
     obtain⟨B,D,E⟩:=DR w b cs.size 1;obtain⟨g1,g2⟩:=zY (w':=w.freeze ⟨b,cs.size,none⟩ 1) f hm rfl B D E (NR _ _ _ _) λk hk=>dF w b _ _ k λh=>hk (by simp_all);refine⟨_,_,_,q,.inl ⟨_,rfl,?_⟩,g1,g2⟩;rw[r];simp only[VRel];refine⟨_,_,_,rfl,a3,by omega,.inr ⟨b,(G.C id).2,rfl,.inr hb,rf.2 λi e he=>?_⟩⟩;obtain⟨u,z,A,k3⟩:=rf.1 g i e he;exact⟨u,vrel_isV (List.all_eq_true.1 hv e (List.mem_of_getElem? he)) z,A,λj c hj=>⟨(k3 j c hj).1,by rw[dO];exact(k3 j c hj).2⟩⟩
   simp_all
  simp_all
 simp_all
theorem kF(h:av P t=some K):(K=0/\P.underlying t=some (.int .i64))\/(K=2/\P.underlying t=some .string):=by
 grind[av]
theorem run_checkKey(h:av P t=some K) {a:Value}(hk:isKey K a=true) (b:Bool) (w:World):(Instr.checkKey b 10000 t a).run P w=.ok () w:=by
 rw[show(10000:Nat)=9999+1 from rfl,Instr.checkKey];rcases kF h with⟨rfl,ht⟩|⟨rfl,ht⟩
 all_goals simp_all[run_underlying]
theorem A9(h:av P t=some K) {p:Value}(a:isKey K p=true) (hq:isKey K q=true):∃ds,P.underlying t=some ds/\Instr.sameNow ds p q=some (IA p q):=by
 rcases kF h with⟨rfl,ht⟩|⟨rfl,ht⟩
 .refine⟨_,ht,?_⟩;cases p<;>simp[isKey]at a;cases q<;>simp[isKey]at hq
  grind[Instr.sameNow,IA]
 .refine⟨_,ht,?_⟩;cases p<;>simp[isKey]at a;cases q<;>simp[isKey]at hq;simp[Instr.sameNow,IA]
theorem SJ{t:TypeId}{K:Nat}(h:av P t=some K) {f:Value}(hk:isKey K f=true) {ds:TypeDesc}(l:P.underlying t=some ds):∀{es:List (Value×D)}{g:List MapEntry}(i:Nat),(es.all λe=>isKey K e.1)=true->Wd G w es g->
 (BD f es=none/\Instr.findNow ds f g i=some none)\/∃d j e,BD f es=some d/\Instr.findNow ds f g i=some (some (i+j,e.val))/\g[j]?=some e/\VRel G w d e.val/\IA f e.key=true/\isKey K e.key=true/\
  ∀(G':Gh) (w':World) (x:D) (u:Value),Wd G' w' es g->VRel G' w' x u->Wd G' w' (NG f x es) (g.modify j λe=>{ e with key:=f,val:=u })
 |[],g,i,_,hm=>by
  simp only[Wd]at hm;subst hm;exact .inl ⟨rfl,rfl⟩
 |(q,d)::es,g,i,a,hm=>by
  simp only[Wd]at hm;obtain⟨e,r,rfl,rfl,hv,hm⟩:=hm;simp only[List.all_cons,Bool.and_eq_true]at a;obtain⟨ds',b,n⟩:=A9 h hk a.1;rw[l]at b;injection b with b;subst b;simp only[BD,Instr.findNow,n];by_cases c:IA f e.key=true
  .rw[if_pos c,c];refine .inr ⟨d,0,e,rfl,rfl,rfl,hv,c,a.1,λG' w' x u k hx=>?_⟩;simp only[NG,if_pos c,List.modify_zero_cons,Wd]at k⊢
   grind
  .have hf:IA f e.key=false:=by simp_all
   rw[if_neg c,hf];simp only;rcases SJ h hk l (i+1) a.2 hm with⟨o,h2⟩|⟨d',j,e',o,h2,h3,p,s,m,h6⟩
   .simp_all
   .refine .inr ⟨d',j+1,e',o,by grind,by simp_all,p,s,m,λG' w' x u k hx=>?_⟩;simp only[NG,if_neg c,List.modify_succ_cons,Wd]at k⊢
    grind
theorem CD{a:Value}{x:D}:∀{es:List (Value×D)},BD a es=none->NG a x es=es++[(a,x)]
 |[],_=>rfl
 |(q,d)::es,h=>by
  simp only[BD]at h;split at h
  .cases h
  .rename_i hk;simp only[NG,if_neg hk,CD h,Waa]
theorem KH{G:Gh}{w:World}{c:Value}{x:D}{u:Value}{b:Nat}(hx:VRel G w x u):∀{es:List (Value×D)}{a:List MapEntry},Wd G w es a->Wd G w (es++[(c,x)]) (a++[⟨c,u,b⟩])
 |[],a,h=>by
  simp only[Wd]at h;subst h;simp only[List.nil_append,Wd]
  grind
 |(q,d)::es,a,h=>by
  simp only[Wd]at h;obtain⟨e,r,rfl,f,h2,g⟩:=h;simp only[Waa,Wd];exact⟨e,_,rfl,f,h2,KH hx g⟩
theorem g_mkmap(hr:Rel G w a s) (ho:o.op=.makeMap t none) (he:fa s .mkmap=some (d,m')):Good G w s.m ((execOp a.eval o).run P w) d m':=by
 simp only[fa]at he;injection he with he;injection he with c h2;subst c;subst h2;have b:(w.alloc (.map #[] 0)).heap[w.heap.size]?=some (.map #[] 0):=heap_alloc_new w _;obtain⟨g1,g2⟩:=jB (w':=w.alloc (.map #[] 0)) hr.inv (some w.heap.size) 0 0 0 (.mp []) rfl rfl rfl rfl (by simp) (λk hk=>Below.heap_alloc _ _ _ hk) (λk h=>by simp_all)
  ⟨by simp[Gh.add],w.heap.size,#[],0,by simp[Gh.add],λe=>by have:=hr.inv.F _ e;omega,b,by simp[Wd]⟩
 refine⟨.value (.map (some w.heap.size)),_,_,?_,.inl ⟨_,rfl,?_⟩,g1,g2⟩
 .simp_all[execOp,Instr.makeMap]
 .simp only[VRel];exact⟨w.heap.size,rfl,by simp[Gh.add,hr.inv.n],λ_=>by simp[Gh.add,hr.inv.n]⟩
theorem run_findKey(h:av P t=some K) {b:Value}{a:List MapEntry}{ds:TypeDesc}(hds:P.underlying t=some ds) {r:Option (Nat×Value)}(hf:Instr.findNow ds b a 0=some r) (w:World) :
 (Instr.findKey t b a).run P w=.ok r w:=by
 simp_all[Instr.findKey,run_underlying]
theorem g_mlook(hr:Rel G w a s) {A C:TypeId}{ok:Bool}{k:Operand}(ho:o.op=.lookup t x k ok) (ht:P.underlying t=some (.map A C)) (q:av P A=some K) (F:zeroOf P C=some z)
 (he:fa s (.mlook K ok (leaf z) x k)=some (d,m')):Good G w s.m ((execOp a.eval o).run P w) d m':=by
 have hx:=hr.ev x;have hk:=hr.ev k;obtain⟨y,p,hz3,-⟩:=Bo F w;simp only[fa]at he;unfold execOp;simp only[ho];generalize s.ev x=dx at *;generalize s.ev k=dk at *;split at he
 .rename_i B;simp only[VRel]at hk;split at he
  .rename_i f;have i:=λb=>run_checkKey q f b w;have c:∃ds,P.underlying A=some ds:=by grind[kF]
   obtain⟨ds,c⟩:=c;have fin:∀(u:Value) (e:D) (b:Bool),VRel G w e u->some (if ok=true then D.tup [e,.v (.bool b)]else e,s.m)=some (d,m')->
    (Sem.run P (do let r←Instr.lookup t (a.eval x) B ok;pure (Next.value r)) w=.ok (.value (if ok=true then .tuple #[u,.bool b]else u)) w)->Good G w s.m (Sem.run P (do let r←Instr.lookup t (a.eval x) B ok;pure (Next.value r)) w) d m':=by
    intro u e b hv hd l;injection hd with hd;injection hd with g h2;subst g;subst h2;refine Ea hr.inv l ?_
    cases ok with
    |true=>
     simp only[if_true,VRel];refine⟨[u,.bool b],rfl,?_⟩;simp only[VsRel];exact⟨u,_,rfl,hv,_,_,rfl,by simp[VRel],rfl⟩
    |false=>simp_all
   rw[hk];split at he
   .simp only[VRel]at hx;refine fin z (leaf z) false (Gz z p) he ?_;rw[hx];have hf:Instr.findNow ds B [] 0=some none:=rfl
    simp_all[Instr.lookup,run_underlying,run_findKey]
   .rename_i id;split at he
    .rename_i es hm;split at he
     .rename_i h;simp only[VRel]at hx;obtain⟨b,n,hid,hb⟩:=hx;obtain⟨a1,b',en,cl,a2,a3,a4,a5⟩:=hr.inv.ent _ _ hm;rw[hb a1]at a2;injection a2 with a2;subst a2;rcases SJ q f c 0 h a5 with⟨g,h2⟩|⟨d',j,e',g,h2,h3,E,h5,h5',h6⟩
      .rw[g]at he;refine fin z (leaf z) false (Gz z p) he ?_;rw[n];simp[Instr.lookup,run_underlying ht,getObj,Sem.run,a4,i,run_findKey q c h2,y]
      .rw[g]at he;refine fin e'.val d' true E he ?_;rw[n];simp[Instr.lookup,run_underlying ht,getObj,Sem.run,a4,i,run_findKey q c h2]
     simp_all
    simp_all
   simp_all
  simp_all
 simp_all
theorem g_mlen(hr:Rel G w a s) {g f:TypeId}(ho:o.op=.call { callee:=.builtin .len,args:=#[x],argTypes:=#[t] })
 (ht:P.underlying t=some (.map g f)) (he:fa s (.mlen x)=some (d,m')):Good G w s.m ((execOp a.eval o).run P w) d m':=by
 have hx:=hr.ev x;simp only[fa]at he;unfold execOp;simp only[ho];generalize s.ev x=dx at *;split at he
 .injection he with he;injection he with e h2;subst e;subst h2;simp only[VRel]at hx;refine Ea (u:=.int .i64 0) hr.inv ?_ (by simp[VRel])
  simp_all[resolve,invoke,builtin,Builtin.len_,goInt,run_underlying]
 .rename_i id;split at he
  .rename_i es hm;injection he with he;injection he with e h2;subst e;subst h2;simp only[VRel]at hx;obtain⟨b,hxv,hid,hb⟩:=hx;obtain⟨a1,b',c,cl,a2,a3,a4,a5⟩:=hr.inv.ent _ _ hm;rw[hb a1]at a2;injection a2 with a2;subst a2;have hlen:c.size=es.length:=by
    have:∀{es:List (Value×D)} {c:List MapEntry},Wd G w es c->c.length=es.length:=by
     intro es
     induction es with
     |nil=>intro c h;simp only[Wd]at h;grind
     |cons p es ih=>
      intro c h;obtain⟨k,d⟩:=p;simp only[Wd]at h
      grind
    grind
   refine Ea (u:=.int .i64 es.length) hr.inv ?_ (by simp[VRel])
   simp_all[resolve,invoke,builtin,Builtin.len_,goInt,getObj,Sem.run,run_underlying]
  simp_all
 simp_all
theorem GH(h:isKey K v=true):(∃a,v=.int .i64 a)\/∃b,v=.string b:=by
 unfold isKey at h
 grind
theorem bytes_beq{b c:ByteArray}(h:(b==c)=true):b=c:=by
 cases b with|mk b=>cases c with|mk c=>
  have h':(b==c)=true:=h
  simp_all
theorem cP{p:Value}(c:isKey K p=true) (hq:isKey K q=true) (h:IA p q=true):Instr.sameBits 10000 q p=true:=by
 rcases GH c with⟨a,rfl⟩|⟨a,rfl⟩<;>rcases GH hq with⟨b,rfl⟩|⟨b,rfl⟩<;>simp only[IA,Bool.false_eq_true]at h
 all_goals grind[Instr.sameBits,bytes_beq]
theorem g_mput(hr:Rel G w a s) {H J:TypeId}{m k:Operand}(ho:o.op=.mapUpdate t m k x) (ht:P.underlying t=some (.map H J)) (I:av P H=some K)
 (he:fa s (.mput K m k x)=some (d,m')):Good G w s.m ((execOp a.eval o).run P w) d m':=by
 have hx:=hr.ev x;have hk:=hr.ev k;have v:=hr.ev m;simp only[fa]at he;unfold execOp;simp only[ho];generalize s.ev x=z at *;generalize s.ev k=dk at *;generalize s.ev m=dm at *;split at he
 .rename_i r id;split at he
  .rename_i es hm;split at he
   .rename_i hc;obtain⟨n,u⟩:=hc;injection he with he;injection he with A h2;subst A;subst h2;simp only[VRel]at hk v;obtain⟨b,hxv,hid,hb⟩:=v;obtain⟨a1,b',E,D,a2,a3,a4,a5⟩:=hr.inv.ent _ _ hm;rw[hb a1]at a2;injection a2 with a2;subst a2;have hblt:b<w.heap.size:=(gad.1 a4).1;have hck:=λc=>run_checkKey I n c w;have p:∃ds,P.underlying H=some ds:=by grind[kF]
    obtain⟨ds,p⟩:=p;have fin:∀(f:Array MapEntry) (g:Nat),(∀G' w',Le G w G' w'->Wd G' w' (NG r z es) f.toList)->(Instr.mapUpdate t (.map (some b)) r (a.eval x)).run P w=.ok () { w with heap:=w.heap.setIfInBounds b (.map f g) }->
     Good G w s.m (Sem.run P (do Instr.mapUpdate t (a.eval m) (a.eval k) (a.eval x);pure Next.skip) w) .dead (s.m.set id (.mp (NG r z es))):=by
     intro f g y hrun;have l:∀j,j≠b->({ w with heap:=w.heap.setIfInBounds b (.map f g) }:World).heap[j]?=w.heap[j]?:=λj hj=>by
      grind
     have q:({ w with heap:=w.heap.setIfInBounds b (.map f g) }:World).heap[b]?=some (.map f g):=by
      simp_all
     have i:Le G w G { w with heap:=w.heap.setIfInBounds b (.map f g) }:=⟨λ_ h=>h,λj hj=>l j λh=>a3 (h▸hj),Paa _,λ_ _=>.inl ⟨rfl,rfl,rfl,rfl,rfl⟩⟩;have key:=rh (w':={ w with heap:=w.heap.setIfInBounds b (.map f g) }) hr.inv (e':=.mp (NG r z es)) hm rfl rfl (G.B id) (G.V id) (G.N id) (G.C id) (.inr ⟨rfl,rfl,rfl,rfl⟩) rfl rfl rfl
      (by simp) (λj _ hj=>l j λh=>hj (by simp_all)) (λj hj=>.inl hj)
      (by rw[Yz];exact⟨a1,b,f,g,hb a1,a3,q,y _ _ i⟩)
     rw[Yz]at key;refine⟨_,_,G,?_,.inr ⟨rfl,rfl⟩,key.1,key.2⟩
     simp_all
    rcases SJ I n p 0 u a5 with⟨A,h2⟩|⟨d',j,e',A,h2,h3,h4,L,F,M⟩
    .refine fin (E.push ⟨r,a.eval x,D⟩) (D+1) (λG' w' i=>?_) ?_
     .rw[CD A,Array.toList_push];exact KH (hx.mono i) (a5.mono i)
     simp_all[Instr.mapUpdate,getObj,setObj,Sem.run,run_underlying,run_findKey]
    .refine fin (E.modify j λe=>{ e with key:=r,val:=a.eval x }) D (λG' w' i=>?_) ?_
     .rw[Array.toList_modify];exact M G' w' z (a.eval x) (a5.mono i) (hx.mono i)
     .have hej:E[j]?=some e':=by simp_all
      have hsb:=cP n F L
      simp_all[Instr.mapUpdate,getObj,setObj,Sem.run,Instr.keyThatStays,run_underlying,run_findKey]
   simp_all
  simp_all
 simp_all
theorem T9{l:List α}{i:Nat}{x:α}(h:l[i]?=some x):l.set i x=l:=by
 apply List.ext_getElem?
 grind
theorem g_mkifc(hr:Rel G w a s) (ho:o.op=.makeInterface t x) (hc:∃i,P.underlying t=some i/\∀ms,i≠.interface ms)
 (he:fa s (.mkifc t x)=some (d,m')):Good G w s.m ((execOp a.eval o).run P w) d m':=by
 simp only[fa]at he;injection he with he;injection he with b h2;subst b;subst h2;obtain⟨i,ht,hi⟩:=hc;refine Ea (u:=.iface t (a.eval x)) hr.inv ?_ (by simp only[VRel];exact⟨_,rfl,hr.ev x⟩);unfold execOp;simp only[ho];cases i<;>first|exact(hi _ rfl).elim|simp[Instr.makeInterface,run_underlying ht]
theorem xY(hr:Rel G w a s) {xt:TypeId}{ok:Bool}(ho:o.op=.typeAssert x xt t ok) (hc:∃i,P.underlying t=some i/\∀ms,i≠.interface ms)
 (k:zeroOf P t=some z) (he:fa s (.tassert ok t (leaf z) x)=some (d,m')):Good G w s.m ((execOp a.eval o).run P w) d m':=by
 have hx:=hr.ev x;simp only[fa]at he;generalize s.ev x=dx at *;obtain⟨i,ht,hi⟩:=hc;obtain⟨h,j,-,-⟩:=Bo k w;split at he
 .rename_i t' e;simp only[VRel]at hx;obtain⟨u,hu,hv⟩:=hx;have b:∀r,(Instr.typeAssert (.iface t' u) xt t ok).run P w=r->(execOp a.eval o).run P w=r.andThen λv w=>.ok (.value v) w:=by
   simp_all[execOp]
  split at he
  .rename_i c;subst c;injection he with he;injection he with f h2;subst f;subst h2;have:(Instr.typeAssert (.iface t' u) xt t' ok).run P w=.ok (if ok=true then .tuple #[u,.bool true]else u) w:=by
    cases i<;>first|exact(hi _ rfl).elim|(cases ok<;>simp[Instr.typeAssert,run_underlying ht])
   refine Ea hr.inv (b _ this) ?_
   cases ok with
   |true=>
    simp only[if_true,VRel];refine⟨[u,.bool true],rfl,?_⟩;simp only[VsRel];exact⟨u,_,rfl,hv,_,_,rfl,by simp[VRel],rfl⟩
   |false=>simp_all
  .rename_i c;split at he
   .rename_i g;subst g;injection he with he;injection he with f h2;subst f;subst h2;have:(Instr.typeAssert (.iface t' u) xt t true).run P w=.ok (.tuple #[z,.bool false]) w:=by
     cases i<;>first|exact(hi _ rfl).elim|simp[Instr.typeAssert,run_underlying ht,c,h]
    refine Ea hr.inv (b _ this) ?_;simp only[VRel];refine⟨[z,.bool false],rfl,?_⟩;simp only[VsRel];exact⟨z,_,rfl,Gz z j,_,_,rfl,by simp[VRel],rfl⟩
   simp_all
 simp_all
theorem g_capn(hr:Rel G w a s) (ho:o.op=.call { callee:=.builtin .cap,args:=#[x],argTypes:=#[t] })
 (ht:P.underlying t=some (.slice e)) (he:fa s (.capn x)=some (d,m')):Good G w s.m ((execOp a.eval o).run P w) d m':=by
 have hx:=hr.ev x;simp only[fa]at he;generalize s.ev x=dx at *;split at he
 .injection he with he;injection he with b h2;subst b;subst h2;simp only[VRel]at hx;refine Ea (u:=.int .i64 0) hr.inv ?_ (by simp[VRel]);unfold execOp;simp only[ho];simp[resolve,invoke,builtin,Builtin.cap_,hx,run_underlying ht];rfl
 simp_all
theorem sM(ht:P.underlying t=some (.slice e)) (a:Option Addr) (n c:Nat) (w:World):(Op.equal t (.slice a n c) (.slice none 0 0)).run P w=.ok a.isNone w:=by
 unfold Op.equal Op.maxDepth;rw[show(10000:Nat)=9999+1 from rfl,Op.equalIn];simp only[Sem.run_bind,run_underlying ht,Result.andThen_ok];cases a<;>rfl
theorem DQ(op:BinOp) (t:TypeId) (x y:Operand) (p q:Option Addr) (n c k l:Nat) (w:World):(eqGuard op t x y (.slice p n c) (.slice q k l)).run P w=.ok () w:=by
 simp_all[eqGuard]
theorem KV(hr:Rel G w a s) {r:TypeId}(ho:o.op=.binOp op t x (.const (.slice none 0 0)) r)
 (ht:P.underlying t=some (.slice e)) (k:(op=.eql/\neg=false)\/(op=.neq/\neg=true)) (he:fa s (.nileq neg x)=some (d,m')):Good G w s.m ((execOp a.eval o).run P w) d m':=by
 have hx:=hr.ev x;simp only[fa]at he;have f:∀(p:Option Addr) (n c:Nat),a.eval x=.slice p n c->(execOp a.eval o).run P w=.ok (.value (.bool (p.isNone !=neg))) w:=by
  intro p n c h;unfold execOp;simp only[ho];have hc:a.eval (.const (.slice none 0 0))=.slice none 0 0:=rfl;rcases k with⟨rfl,rfl⟩|⟨rfl,rfl⟩<;>simp[h,hc,binOp,sM ht,DQ]
 generalize s.ev x=dx at *;split at he
 .injection he with he;injection he with i h2;subst i;subst h2;simp only[VRel]at hx;exact Ea hr.inv (f _ _ _ hx) (by simp[VRel])
 .injection he with he;injection he with i h2;subst i;subst h2;simp only[VRel]at hx;obtain⟨p,n,c,hx,-,-,q⟩:=hx;rcases q with q|⟨b,off,rfl,-⟩
  .grind
  .exact Ea hr.inv (f _ _ _ hx) (by simp[VRel])
 .rename_i id Oa;simp only[VRel]at hx;obtain⟨p,n,c,hx,-,-,hf⟩:=hx;split at he
  .rename_i S ver' e l hm;split at he
   .rename_i j;injection he with he;injection he with i h2;subst i;subst h2;subst j;have g:=hr.inv.ent _ _ hm;simp only[mn]at g;obtain⟨g1,-,-,g4,g5⟩:=g;obtain⟨ha,-,-⟩:=hf g1;rcases g5 with⟨-,g5⟩|⟨b,cs,T,hb,-⟩
    .simp_all
    .rw[hb]at ha;simp only[Option.map_some]at ha;subst ha;exact Ea hr.inv (f _ _ _ hx) (by simp[VRel])
   simp_all
  simp_all
 simp_all
theorem g_clr(hr:Rel G w a s) (ho:o.op=.call { callee:=.builtin .clear,args:=#[x],argTypes:=#[t] })
 (ht:P.underlying t=some (.slice e)) (hz:zeroOf P e=some z) (he:fa s (.clr z.cells.size (leaf z) x)=some (d,m')):Good G w s.m ((execOp a.eval o).run P w) d m':=by
 have hx:=hr.ev x;simp only[fa]at he;generalize s.ev x=dx at *;obtain⟨hz1,Z,hz3,-⟩:=Bo hz w;have A:∀(p:Option Addr) c,a.eval x=.slice p 0 c->(execOp a.eval o).run P w=.ok (.value (.tuple #[])) w:=by
  intro p c h;unfold execOp;simp only[ho];cases p<;>simp[resolve,invoke,builtin,Builtin.clear_,h,run_underlying ht]
 split at he
 .injection he with he;injection he with M h2;subst M;subst h2;simp only[VRel]at hx;exact Ea hr.inv (A _ _ hx) (by simp[VRel])
 .rename_i id Oa lo n;split at he
  .rename_i S ver' l hm;split at he
   .rename_i hc;obtain⟨rfl,rfl,hlo⟩:=hc;injection he with he;injection he with M h2;subst M;subst h2;simp only[VRel]at hx;obtain⟨p,c,hp,hnc,hid,hver,hx⟩:=hx;obtain⟨a1,a2,a3,a4,a5⟩:=hr.inv.ent _ _ hm;by_cases hn:n=0
    .subst hn;have hl:l.take lo++Daa 0 (leaf z)++l.drop (lo+0)=l:=by simp
     rw[hl,T9 hm];exact Ea hr.inv (A _ _ hp) (by simp[VRel])
    .rcases hx a1 with hx|⟨b,hb,rfl⟩
     .omega
     rw[a2]at hp;rcases a5 with a5|⟨b',cs,T,D,hF,g,hsz,U⟩
     .simp_all
     rw[hb]at D;injection D with D;subst D;have Q:=Gx g U;have hfit:lo*z.cells.size+(G.C id).2+n*z.cells.size<=cs.size:=by
      have M:=Zaa z.cells.size (show lo+n<=(G.C id).1 by omega)
      grind
     obtain⟨zs,L⟩:∃zs,zs=Builtin.zeroCells z.cells n:=⟨_,rfl⟩;have hzn:zs.toList.length=n*z.cells.size:=by grind[size_zeroCells]
     have K:Mh G w z.cells.size (Daa n (leaf z)) zs:=by rw[L];exact Yv Z n
     have hz1':∀v∈zs.toList,one v=true:=by
      intro v hv;rw[L]at hv;simp only[Builtin.zeroCells,Lae,List.mem_map]at hv;obtain⟨k,-,rfl⟩:=hv
      grind[hac]
     have E:=run_storeCells_at P b (lo*z.cells.size+(G.C id).2) T zs.toList 0 cs w g (by omega) (λv hv=>by grind[lU]);simp only[Kac]at E;obtain⟨f,r⟩:∃f:Array Value,f=(cs.toList.take (lo*z.cells.size+(G.C id).2)++zs.toList++cs.toList.drop (lo*z.cells.size+(G.C id).2+zs.toList.length)).toArray:=⟨_,rfl⟩;rw[←r]at E;have O:∀k,f[k]?=if lo*z.cells.size+(G.C id).2<=k/\k<lo*z.cells.size+(G.C id).2+n*z.cells.size then zs[k-(lo*z.cells.size+(G.C id).2)]? else cs[k]?:=by
      intro k;rw[r,oac,Lx _ _ _ _ (by simp_all),hzn];simp
     have hsz':f.size=cs.size:=by
      grind
     have run:(execOp a.eval o).run P w=.ok (.value (.tuple #[])) (w.setRow b f):=by
      unfold execOp;simp only[ho];rw[L]at E;obtain⟨n',rfl⟩:∃n',n=n'+1:=⟨n-1,by omega⟩
      simp_all[resolve,invoke,builtin,Builtin.clear_,run_underlying]
     have y:∀k,G.B id≠some k->(w.setRow b f).heap[k]?=w.heap[k]?:=λk hk=>setRow_other w b k f λh=>hk (by simp_all);have I:Le G w G (w.setRow b f):=⟨λ_ h=>h,λk hk=>y k λh=>by simp_all,Paa _,λ_ _=>.inl ⟨rfl,rfl,rfl,rfl,rfl⟩⟩;have i:=setRow_heap w b cs f T (0,0) g;clear E r;have J:Mh G (w.setRow b f) z.cells.size (l.take lo++Daa n (leaf z)++l.drop (lo+n)) f (G.C id).2:=by
      intro k e' F;have Y:k<lo\/(lo<=k/\k<lo+n)\/lo+n<=k:=by omega
      have R:∀{p q:Nat},p<q->p*z.cells.size+z.cells.size<=q*z.cells.size:=λ{p q} h=>by
       have:=Zaa z.cells.size (show p+1<=q from h)
       grind
      have hadd:(lo+n)*z.cells.size=lo*z.cells.size+n*z.cells.size:=cad _ _ _;rcases Y with h|⟨h,h'⟩|h
      .rw[Yab,List.getElem?_append_left (by grind),List.getElem?_take_of_lt h]at F;obtain⟨u,W,X,k3⟩:=Q k e' F;refine⟨u,W.mono I,X,λj c hj=>⟨(k3 j c hj).1,?_⟩⟩
       grind
      .have H:(Daa n (leaf z))[k-lo]?=some e':=by
        grind
       obtain⟨u,W,X,k3⟩:=K (k-lo) e' H;refine⟨u,W.mono I,X,λj c hj=>⟨(k3 j c hj).1,?_⟩⟩;have hj':j<z.cells.size:=by grind
       have M:=R (show k-lo<n by omega);have h2:k*z.cells.size=lo*z.cells.size+(k-lo)*z.cells.size:=by rw[←cad];simp_all
       rw[O,if_pos (by omega),show k*z.cells.size+j+(G.C id).2-(lo*z.cells.size+(G.C id).2)=(k-lo)*z.cells.size+j by omega]
       simp_all
      .have H:l[k]?=some e':=by
        rw[List.getElem?_append_right (by grind),Aae]at F
        grind
       obtain⟨u,W,X,k3⟩:=Q k e' H;refine⟨u,W.mono I,X,λj c hj=>⟨(k3 j c hj).1,?_⟩⟩
       grind
     have hlen:(l.take lo++Daa n (leaf z)++l.drop (lo+n)).length=l.length:=by grind
     have hent:mn G (w.setRow b f) id (.live z.cells.size (G.V id) (l.take lo++Daa n (leaf z)++l.drop (lo+n))):=
      ⟨rfl,a2,by omega,by omega,.inr ⟨b,f,T,hb,hF,i,by omega,Zm i J⟩⟩
     have key:=rh (w':=w.setRow b f) hr.inv (e':=.live z.cells.size (G.V id) (l.take lo++Daa n (leaf z)++l.drop (lo+n))) hm rfl rfl (G.B id) (G.V id) (G.N id) (G.C id) (.inr ⟨rfl,rfl,rfl,rfl⟩) rfl rfl rfl
      (by simp) (λk _ hk=>y k hk) (λk hk=>.inl hk) (by grind[Yz])
     rw[Yz]at key;rw[a1]at key;exact⟨_,_,G,run,.inl ⟨_,rfl,by simp[VRel]⟩,key.1,key.2⟩
   simp_all
  simp_all
 simp_all
end
open Go.RowKit (Below)
section
variable {P:Program} {G:Gh} {w:World} {a:Act} {s:St} {d:D} {m':List Ent}
theorem sound_I{i:I}(hc:sH P o.op=some i) (hr:Rel G w a s) (he:fa s i=some (d,m')):Good G w s.m ((execOp a.eval o).run P w) d m':=by
 unfold sH at hc;split at hc
 case h_1 x ho=>grind[g_mv]
 case h_2 x ho=>simp_all[g_mv]
 case h_3 c x y ho=>grind[g_pick]
 case h_4 t ho=>
  simp only[Faa]at hc;obtain⟨z,q,rfl⟩:=hc
  grind[g_alloc]
 case h_5 t x ho=>grind[g_box]
 case h_6 t ps ho=>
  split at hc
  .rename_i fs z ht q;split at hc
   .rename_i places hp;simp only[Faa]at hc;obtain⟨qs,hq,rfl⟩:=hc
    grind[g_build]
   simp_all
  .rename_i n e z ht q;simp only[Faa]at hc;obtain⟨i,hi,rfl⟩:=hc
   grind[U5]
  simp_all
 case h_7 t n ps ho=>
  grind[T5]
 case h_8 t x ho=>
  simp only[Faa]at hc;obtain⟨r,p,rfl⟩:=hc
  grind[g_load]
 case h_9 t x y ho=>
  simp only[Faa]at hc;obtain⟨i,hi,rfl⟩:=hc
  grind[g_store]
 case h_10 x ho=>grind[g_nilc]
 case h_11 op t x y yt ho=>
  split at hc
  .rename_i ht;split at hc
   .rename_i h;subst h;injection hc with hc;subst hc;exact g_beq hr ho ht (.inl ⟨rfl,rfl⟩) he
   .split at hc
    .rename_i h;subst h;injection hc with hc;subst hc;exact g_beq hr ho ht (.inr ⟨rfl,rfl⟩) he
    simp_all
  .grind[g_ceq]
  .rename_i e ht;split at hc
   .injection hc with hc;subst hc;exact KV hr ho ht (.inl ⟨rfl,rfl⟩) he
   .injection hc with hc;subst hc;exact KV hr ho ht (.inr ⟨rfl,rfl⟩) he
   simp_all
  all_goals grind[g_bin]
 case h_12 op t x ho=>grind[g_un]
 case h_13 src dst x ho=>
  grind[g_conv,g_strb]
 case h_14 f first caps ho=>grind[W5]
 case h_15 t l c ho=>
  grind[wY]
 case h_16 t x lo hi mx ho=>
  split at hc
  .rename_i e ht;split at hc
   .grind
   .rename_i hm;simp only[Faa]at hc;obtain⟨i,j,rfl⟩:=hc;refine LV hr ho ht j (λh=>?_) he
    cases hi with
    |none=>simp_all
    |some _=>rfl
  .rename_i ht;split at hc
   .grind
   .rename_i hm;injection hc with hc;subst hc
    cases mx with
    |some _=>simp at hm
    |none=>grind[X5]
  simp_all
 case h_17 t x f ho=>
  grind[g_faddr]
 case h_18 t x f ho=>
  split at hc
  .rename_i fs ht;split at hc
   .rename_i fl hf;simp only[Faa]at hc;obtain⟨r,p,rfl⟩:=hc
    grind[g_field]
   simp_all
  simp_all
 case h_19 t x y ho=>
  split at hc
  .rename_i e ht;simp only[Faa]at hc;obtain⟨i,hi,rfl⟩:=hc
   grind[g_iaddr]
  .rename_i n e ht;simp only[Faa]at hc;obtain⟨r,p,rfl⟩:=hc
   grind[g_aaddr]
  simp_all
 case h_20 t x y ho=>
  split at hc
  .rename_i n e ht;simp only[Faa]at hc;obtain⟨r,p,rfl⟩:=hc
   grind[g_index]
  all_goals grind[g_sidx]
 case h_21 x i ho=>grind[vY]
 case h_22=>grind[fa]
 case h_23 t ho=>grind[g_mkmap]
 case h_24 t x k ok ho=>
  grind[g_mlook]
 case h_25 t m k x ho=>
  split at hc
  .rename_i kt et ht;simp only[Faa]at hc;obtain⟨K,hK,rfl⟩:=hc
   grind[g_mput]
  simp_all
 case h_26 c ho=>
  obtain⟨cal,args,Qx⟩:=c;have ha:args=args.toList.toArray:=by simp
  have b:Qx=Qx.toList.toArray:=by simp
  simp only at hc;split at hc
  .rename_i x t h2 g;rw[h2]at ha;rw[g]at b
   grind[g_len,g_slen,g_mlen]
  .grind[g_mm]
  .grind[g_mm]
  .rename_i x y t u h2 g;rw[h2]at ha;rw[g]at b
   grind[S5,g_mkapp]
  .rename_i x t h2 g;rw[h2]at ha;rw[g]at b;subst ha;subst b;split at hc
   .rename_i e ht;simp only[Faa]at hc;obtain⟨z,q,rfl⟩:=hc
    grind[g_clr]
   simp_all
  .rename_i x t h2 g;rw[h2]at ha;rw[g]at b
   grind[g_capn]
  simp_all
 all_goals grind[g_mkifc,xY]
def Enters(P:Program) (f:FuncId):Prop:=∃fn,P.funcs[f]?=some fn/\(fn.name == "runtime.NumGoroutine")=false/\fn.body.isNone=false
def CallT(P:Program) (f:FuncId) (ds:List D) (m:List Ent) (R:D->List Ent->Prop):Prop:=
 Enters P f/\∀(G:Gh) (w:World) (vs:List Value),VsRel G w ds vs->Inv G w m->
  Calls P f vs.toArray w λe w'=>∃v d m' G',e=.returned v/\R d m'/\VRel G' w' d v/\Inv G' w' m'/\Step G w m G' w' m'
theorem CallT.mono{f:FuncId}{ds:List D}{m:List Ent}{R a:D->List Ent->Prop}(h:CallT P f ds m R) (e:∀d m',R d m'->a d m'):CallT P f ds m a:=
 ⟨h.1,λG w vs hv hi=>(h.2 G w vs hv hi).mono λ_ _ ⟨v,d,m',G',b,h2,c⟩=>⟨v,d,m',G',b,e _ _ h2,c⟩⟩
theorem nC{i:I}(hc:zu P ops o o.op=some i) (hr:Rel G w a s) (he:fa s i=some (d,m')):Good G w s.m ((execOp a.eval o).run P w) d m':=by
 unfold zu at hc;split at hc
 .rename_i i' b;injection hc with hc;subst hc;unfold OC at b;split at b
  .rename_i t x lo hi dt ho _;split at b
   .split at b
    .rename_i e ht;simp only[Faa]at b;obtain⟨j,hj,rfl⟩:=b
     grind[MV]
    simp_all
   simp_all
  simp_all
 grind[sound_I]
def gate(s:St):Option (Tmp×Bool)->Option (Option (Bool×Bool))
 |none=>some none
 |some (t,b)=>
  match s.t.getD t .dead with
  |.v (.bool c)=>some (some (c,b))
  |.v _=>some (some (!b,b))
  |_=>none
def Rl(P:Program):List RI->(St->Prop)->St->Prop
 |[],K,s=>K s
 |.op dst g i::l,K,s=>
  match gate s g with
  |none=>False
  |some none=>∃d m',fa s i=some (d,m')/\Rl P l K ({ s with m:=m' }.put dst d)
  |some (some (c,b))=>(c=b->∃d m',fa s i=some (d,m')/\Rl P l K ({ s with m:=m' }.put dst d))/\(c≠b->Rl P l K (s.put dst (.v undef)))
 |.call dst g f args::l,K,s=>
  match s.ec f with
  |.fn k first caps=>
   match gate s g with
   |none=>False
   |some none=>CallT P k (first++args.map s.ev++caps) s.m λd m'=>Rl P l K ({ s with m:=m' }.put dst d)
   |some (some (c,b))=>(c=b->CallT P k (first++args.map s.ev++caps) s.m λd m'=>Rl P l K ({ s with m:=m' }.put dst d))/\(c≠b->Rl P l K (s.put dst (.v undef)))
  |_=>
   match gate s g with
   |some (some (c,b))=>c≠b/\Rl P l K (s.put dst (.v undef))
   |_=>False
theorem Gp(hr:Rel G w a s) {g:Option (Nat×Bool)}{e:Option (Tmp×Bool)}(d:guardOf ops g=some e) :
 (gate s e=some none->∀o:Oper,o.guard=g->Region.wanted o (yielded ops a.tmps)=true)/\
 (∀c b,gate s e=some (some (c,b))->∀o:Oper,o.guard=g->Region.wanted o (yielded ops a.tmps)=(c==b)):=by
 cases g with
 |none=>
  grind[guardOf,Region.wanted,gate]
 |some p=>
  obtain⟨j,b⟩:=p;simp only[guardOf]at d;split at d
  .rename_i t ht;injection d with d;subst d;have hx:=VsRel.get t hr.t;refine⟨λh=>?_,λc b' h o ho=>?_⟩
   .grind[gate]
   .have i:yielded ops a.tmps j=(match a.tmps[t]? with|some (.bool b)=>some b|_=>none):=by
     grind[yielded]
    simp only[Region.wanted,ho,i];simp only[gate]at h;have hlen:=hr.t.length;split at h
    .rename_i c' hd;injection h with h;injection h with h;injection h with f h2;subst f;subst h2;rw[hd]at hx;simp only[VRel]at hx
     grind
    .rename_i x hne hd;injection h with h;injection h with h;injection h with f h2;subst f;subst h2;rw[hd]at hx;simp only[VRel]at hx
     grind
    .cases h
  simp_all
theorem DF(hr:Rel G w a s) (dst:Option Tmp):Rel G w (a.put dst undef) (s.put dst (.v undef)):=hr.put dst (by simp[VRel])
theorem Rel.Lu{r:Result Next}{next:Act->World->Prop}{Q:Exit->Act->World->Prop}(hr:Rel G w a s) (f:Good G w s.m r d m')
 (h:∀G' w' u,Rel G' w' (a.put o.dst u) ({ s with m:=m' }.put o.dst d)->Step G w s.m G' w' m'->next (a.put o.dst u) w'):o.upon P a next Q r:=by
 obtain⟨nx,w',G',rfl,c,hi,e⟩:=f;have b:=hr.step e.le hi;rcases c with⟨u,rfl,hv⟩|⟨rfl,rfl⟩
 .exact h G' w' u (b.put o.dst hv) e
 .exact h G' w' undef (b.put o.dst (by simp[VRel])) e
theorem tC(hr:Rel G w a s):∀l:List Operand,VsRel G w (l.map s.ev) (l.map a.eval)
 |[]=>by simp[VsRel]
 |x::l=>by simp only[cab,VsRel];exact⟨_,_,rfl,hr.ev x,tC hr l⟩
theorem QH(s:St) (dst:Option Tmp) (d:D):(s.put dst d).m=s.m:=by cases dst<;>rfl
theorem JZ{f:Operand}{args:Array Operand}{Qx:Array TypeId}(ho:o.op=.call ⟨.value f,args,Qx⟩) {fs:List Value}(hf:a.eval f=.func (.func k) fs.toArray cs.toArray)
 (d:P.funcs[k]?=some fn) (c:(fn.name == "runtime.NumGoroutine")=false) (b:fn.body.isNone=false) :
 (execOp a.eval o).run P w=.ok (.enter k ((fs++args.toList.map a.eval++cs).toArray)) w:=by
 unfold execOp;simp only[ho];simp only[resolve,hf,Deferred.ofValue,Sem.run_bind,Sem.run_pure,Result.andThen_ok,invoke,callFunc,run_program,d,c,b];simp
theorem JH{β:Type}:∀{l:List (Nat×β)}{t:Nat}{r:β},l.lookup t=some r->(t,r)∈l
 |[],t,r,h=>by grind
 |(a,b)::l,t,r,h=>by
  simp only[List.lookup]at h;split at h
  .simp_all
  .exact List.mem_cons_of_mem _ (JH h)
theorem eR{t:Nat}{r:FuncId×Option (Bool×Nat)}(h:(mtab P name).lookup t=some r):mrow P name t=some r:=by
 have h:=JH h;simp only[mtab,List.mem_filterMap,Faa,Vaa]at h
 simp_all
theorem fL{t:Nat}{o:Option (Bool×Nat)}(h:mrow P name t=some (k,o)) {d:D}{u:Value}(hv:VRel G w d u) (hr:Rel G w a s) :
 (o=none->∀n,(method (n+1) t u name).run P w=.ok (k,u) w)/\
 (∀r d' m',o=some r->fa ⟨[d],s.m⟩ (.load r.1 r.2 (.tmp 0))=some (d',m')->∃g,VRel G w d' g/\∀n,(method (n+1) t u name).run P w=.ok (k,g) w):=by
 unfold mrow at h;split at h
 case h_2=>cases h
 rename_i i hi;split at h
 case h_2=>cases h
 rename_i m hm;have b:∀n,(method (n+1) t u name).run P w=(do
  let (xt,x)←follow m.path.toList t (.val u)
  match m.func with
  |none=>
   match←x.get xt with
   |.iface t' z=>method n t' z name
   |.nilIface=>runtimePanic .nilDeref
   |_=>stuck "method row: interface value expected"
  |some (f,pointerReceiver)=>
   pure (f,←receiverAt xt x pointerReceiver (if m.path.isEmpty then some ((name.splitOn ".").getLastD name)else none))).run P w:=by
  intro n
  conv=>lhs;unfold method
  simp only[Sem.run_bind,typeInfo,run_program,Result.andThen_ok,hi,Sem.run_pure,hm];rfl
 split at h
 .rename_i f t2 l hf hu;injection h with h;injection h with j h2;subst j;subst h2
  simp_all[follow,receiverAt,Place.get,run_underlying]
 .rename_i f e l hf hu;simp only[Faa,Vaa]at h;obtain⟨r0,y,rfl,rfl⟩:=h;have c:m.path.toList=[]:=by simp_all
  refine⟨λh=>(by cases h),λr d' m' h he=>?_⟩;injection h with h;subst h;have q:Rel G w { a with tmps:=#[u] } ⟨[d],s.m⟩:=⟨by simp[VsRel];omega,hr.inv,hr.defers⟩;obtain⟨p,g,hx,hrun,v,-⟩:=gK q y he;have hx':u=.pointer (some p):=by simp_all[Act.eval]
  refine⟨g,v,λn=>?_⟩;rw[b,c,hf,l];have hw:∀x,Builtin.ssaWrapNilChk_ #[t] t #[.pointer (some p),strVal "",strVal x]=pure (.pointer (some p)):=λ_=>rfl
  simp_all[follow,receiverAt,Place.get,asAddr,run_underlying]
 .rename_i f de hne l hf hu;injection h with h;injection h with j h2;subst j;subst h2
  simp_all[follow,receiverAt,Place.get,run_underlying]
 .cases h
theorem mC(hr:Rel G w a s) {f:Cal}{args:List Operand}(ho:YN P o.op=some (f,args)) {first caps:List D}(he:s.ec f=.fn k first caps)
 (l:P.funcs[k]?=some fn) (e:(fn.name == "runtime.NumGoroutine")=false) (b:fn.body.isNone=false) :
 ∃fs cs,(execOp a.eval o).run P w=.ok (.enter k ((fs++args.map a.eval++cs).toArray)) w/\VsRel G w first fs/\VsRel G w caps cs:=by
 unfold YN at ho;split at ho
 .rename_i x args' Qx h;injection ho with ho;injection ho with g h2;subst g;subst h2;rw[ec_of]at he;have hf:=hr.ev x;rw[he]at hf;simp only[VRel]at hf
  grind[JZ]
 .rename_i x nm args' Qx h;injection ho with ho;injection ho with g h2;subst g;subst h2;simp only[St.ec]at he;have hx:=hr.ev x;generalize s.ev x=p at he hx;cases p<;>simp only[LH]at he<;>(try (cases he));rename_i t d;simp only[VRel]at hx;obtain⟨u,hxu,hv⟩:=hx;have fin:∀{d':D} {i:Value},VRel G w d' i->(∀n,(method (n+1) t u nm).run P w=.ok (k,i) w)->first=[d']->caps=[]->
   ∃fs cs,(execOp a.eval o).run P w=.ok (.enter k ((fs++args'.toList.map a.eval++cs).toArray)) w/\VsRel G w first fs/\VsRel G w caps cs:=by
   rintro d' i m hm rfl rfl;refine⟨[i],[],?_,by simp[VsRel];omega,by simp[VsRel]⟩;unfold execOp;simp only[h];have c:P.types.size+Made.depth=(P.types.size+99)+1:=rfl;have q:(#[a.eval x]++eae a.eval args')[0]?=some (.iface t u):=by grind
   have g:(#[a.eval x]++eae a.eval args').extract 1 (#[a.eval x]++eae a.eval args').size=eae a.eval args':=by
    simp
   simp only[resolve,Sem.run_bind,Sem.run_pure,Result.andThen_ok,invoke,q,g,callMethod,run_program,c,hm,callFunc,l,e,b];simp
  split at he
  .rename_i v hl;injection he with e1 e2 e3;subst e1;exact fin hv ((fL (eR hl) hv hr).1 rfl) e2.symm e3.symm
  .rename_i v r hl;split at he
   .rename_i d' m' j;injection he with e1 e2 e3;subst e1;obtain⟨i,m,hm⟩:=(fL (eR hl) hv hr).2 r d' m' rfl j
    grind
   simp_all
  simp_all
 simp_all
theorem sE{ops:Array Oper}{Q:Exit->Act->World->Prop}{K:St->Prop}:∀{l:List Oper}{rl:List RI}{s:St}{G:Gh}{w:World}{a:Act},Nh P ops l=some rl->Rl P rl K s->Rel G w a s->
 (∀s' G' w' a',K s'->Rel G' w' a' s'->Step G w s.m G' w' s'.m->Q .normal a' w')->wpList P ops Q l a w
 |[],rl,s,G,w,a,hc,q,hr,hQ=>by
  simp only[Nh]at hc;injection hc with hc;subst hc;exact wpList_nil (hQ s G w a q hr (Step.refl _ _ _))
 |o::l,rl,s,G,w,a,hc,q,hr,hQ=>by
  simp only[Nh]at hc;split at hc
  case h_2=>grind
  rename_i r rs y h2;injection hc with hc;subst hc;have rest:∀{G':Gh} {w':World} {a':Act} {s':St},Rl P rs K s'->Rel G' w' a' s'->Step G w s.m G' w' s'.m->wpList P ops Q l a' w':=λn A x=>
   sE h2 n A λN C O E S T k3=>hQ N C O E S T (x.trans k3)
  unfold cr at y;split at y
  .grind
  .rename_i g R;obtain⟨p,h⟩:=Gp hr R;have doI:∀{i:I} {d:D} {m':List Ent},zu P ops o o.op=some i->fa s i=some (d,m')->Rl P rs K ({ s with m:=m' }.put o.dst d)->o.wp P a w (wpList P ops Q l) Q:=by
    intro i d m' hi he n;exact hr.Lu (nC hi hr he) λG' w' u A x=>rest n A (by grind[QH])
   have skip:Rl P rs K (s.put o.dst (.v undef))->wpList P ops Q l (a.put o.dst undef) w:=λn=>rest n (DF hr o.dst) (by grind[QH,Step.refl]);split at y
   .rename_i f args ho;injection y with y;subst y;simp only[Rl]at q;split at q
    .rename_i k first caps F
     have doC:CallT P k (first++args.map s.ev++caps) s.m (λd m'=>Rl P rs K ({ s with m:=m' }.put o.dst d))->o.wp P a w (wpList P ops Q l) Q:=by
      rintro⟨⟨fn,e1,e2,e3⟩,z⟩;obtain⟨fs,cs,B,J,L⟩:=mC hr ho F e1 e2 e3;have t:=z G w (fs++args.map a.eval++cs) ((J.append (tC hr _)).append L) hr.inv;unfold Oper.wp;rw[B,Oper.upon_enter];refine t.mono ?_;rintro e w' ⟨v,d,m',G',rfl,n,M,H,x⟩;exact rest n ((hr.step x.le H).put o.dst M) (by grind[QH])
     split at q
     .simp_all
     .rename_i j;rw[wpList,if_pos (p j o rfl)]
      simp_all
     .rename_i c b j;rw[wpList,h c b j o rfl]
      simp_all
    .split at q
     .rename_i c b j;rw[wpList,h c b j o rfl,if_neg (by simp_all)]
      simp_all
     simp_all
   .rename_i hno;simp only[Faa]at y;obtain⟨i,hi,rfl⟩:=y;simp only[Rl]at q;split at q
    .simp_all
    .rename_i j;obtain⟨d,m',he,n⟩:=q;rw[wpList,if_pos (p j o rfl)]
     grind
    .rename_i c b j;rw[wpList,h c b j o rfl]
     grind
end
end Go.Tm
