/-
  The engine: a part of the proof that trees of values are carried along by the program: no condition.
-/
import Derived.Calls
import Derived.Below
import Derived.Laws.Sem
import Derived.Laws.Entries
import Derived.Laws.Cells
import Derived.Laws.CopyRow
import Derived.Laws.AppendOwn
import Derived.Laws.Tables
import Derived.Laws.MakeOwn
import Derived.Laws.StructEq
import Derived.MapKept
import Derived.Tactics
open Array renaming all_eq_true→Zq,ext'→Uq,foldl_toList→As,getElem?_append_left→Hp,getElem?_eq_getElem→Yn,getElem?_eq_some_iff→Xn,getElem?_modify→Mq,getElem?_toList→Zn,length_toList→Ao,map→Pr,range→Jr,size_append→Gr,toList_map→Mr,toList_zipIdx→Xr
open Bool renaming false_eq_true→tn
open Int renaming natCast_nonneg→xr,toNat_of_nonneg→Tq
open List renaming append_assoc→Mo,cons_append→xo,drop_drop→Cr,eq_nil_of_length_eq_zero→Jn,getD_eq_getElem?_getD→Dn,getElem?_append→Rp,getElem?_append_left→Io,getElem?_append_right→tp,getElem?_drop→nq,getElem?_eq_none→Rn,getElem?_map→Qo,getElem?_range→Cq,getElem?_replicate→Up,getElem?_set_ne→Sp,getElem?_set_self→Ip,getElem?_take→Cp,getElem?_toArray→xp,getElem_of_mem→Co,length_append→uo,length_cons→jo,length_drop→Gp,length_nil→vq,length_take→No,map_cons→Vn,mem_append→Fo,mem_map→Yp,mem_of_getElem?→Bo,mem_of_mem_drop→Fp,mem_of_mem_take→Tp,range→wo,replicate→yn,size_toArray→yp,tail→Zs,tail_drop→Rs,take_succ_cons→Zo
open Nat renaming add_assoc→Qq,add_comm→Yo,add_mul→gp,add_zero→ep,le_mul_of_pos_right→Dq,le_refl→En,le_trans→Qp,lt_of_lt_of_le→Eo,lt_or_ge→vo,mod_lt→Ys,mul_comm→Hs,mul_le_mul_right→so,sub_mul→Xs,succ_mul→yr,zero_add→oq,zero_le→Jp
open Option renaming bind_eq_some_iff→Ep,map_eq_some_iff→sn
open Prod renaming fst→br
open Prod.mk renaming injEq→Bn
set_option linter.all false
namespace Go.Tm
open Go.RowKit (Below)
inductive D where
 |v (x:Value)
 |agg (l:List D)
 |tup (l:List D)
 |sl (S:Nat) (l:List D)
 |pt (d:D)
 |ref (id ver idx sub:Nat)
 |own (id ver:Nat)
 |view (id ver lo n:Nat)
 |fn (f:FuncId) (first caps:List D)
 |mp (id:Nat)
 |ifc (t:TypeId) (d:D)
 |dead
instance:Inhabited D:=⟨.dead⟩
structure Gh where
 F:Nat→Prop
 n:Nat
 B:Nat→Option Nat
 V:Nat→Nat
 S:Nat→Nat
 N:Nat→Nat
 C:Nat→Nat×Nat
def one:Value→Bool
 |.agg _|.tuple _=>false
 |_=>true
def HasAt(w:World) (b off:Nat) (u:Value):Prop:=∀(j:Nat) c,u.cells[j]?=some c→one c=true∧w.cell? ⟨b,off+j,none⟩=some c
mutual
def VRel(G:Gh) (w:World):D→Value→Prop
 |.v x,u=>u=x
 |.agg l,u=>∃cs:List Value,u=.agg cs.toArray∧VsRel G w l cs∧∀c∈cs,one c=true
 |.tup l,u=>∃cs:List Value,u=.tuple cs.toArray∧VsRel G w l cs
 |.sl S l,u=>∃a n cap,u=.slice a n cap∧n=l.length∧n≤cap∧
  (l=[]∨∃b off,a=some ⟨b,off,none⟩∧G.F b∧RowAt G w b S l off)
 |.pt d,u=>∃b off x,u=.pointer (some ⟨b,off,none⟩)∧G.F b∧VRel G w d x∧HasAt w b off x
 |.ref id ver idx sub,u=>∃a,u=.pointer (some a)∧id<G.n∧ver≤G.V id∧(G.V id=ver→∃b,G.B id=some b∧a=⟨b,idx*G.S id+sub+(G.C id).2,none⟩)
 |.own id ver,u=>∃a n c,u=.slice a n c∧id<G.n∧ver≤G.V id∧(G.V id=ver→a=(G.B id).map (fun b=>⟨b,(G.C id).2,none⟩)∧n=G.N id∧c=(G.C id).1)
 |.view id ver lo n,u=>∃a c,u=.slice a n c∧n≤c∧id<G.n∧ver≤G.V id∧(G.V id=ver→n=0∨∃b,G.B id=some b∧a=some ⟨b,lo*G.S id+(G.C id).2,none⟩)
 |.fn f first caps,u=>∃fs cs:List Value,u=.func (.func f) fs.toArray cs.toArray∧VsRel G w first fs∧VsRel G w caps cs
 |.mp id,u=>∃b,u=.map (some b)∧id<G.n∧(G.V id=0→G.B id=some b)
 |.ifc t d,u=>∃x,u=.iface t x∧VRel G w d x
 |.dead,_=>True
def VsRel(G:Gh) (w:World):List D→List Value→Prop
 |[],us=>us=[]
 |d::l,us=>∃u r,us=u::r∧VRel G w d u∧VsRel G w l r
def RowAt(G:Gh) (w:World) (b S:Nat):List D→Nat→Prop
 |[],_=>True
 |d::l,off=>(∃u,VRel G w d u∧u.cells.size=S∧HasAt w b off u)∧RowAt G w b S l (off+S)
end
structure Le (G:Gh) (w:World) (G':Gh) (w':World):Prop where
 F:∀b,G.F b→G'.F b
 heap:∀b,G.F b→w'.heap[b]?=w.heap[b]?
 n:G.n≤G'.n
 id:∀i,i<G.n→(G'.V i=G.V i∧G'.B i=G.B i∧G'.S i=G.S i∧G'.N i=G.N i∧G'.C i=G.C i)∨G.V i<G'.V i
theorem Le.refl(G:Gh) (w:World):Le G w G w:=⟨fun _ h=>h,fun _ _=>rfl,En _,fun _ _=>.inl ⟨rfl,rfl,rfl,rfl,rfl⟩⟩
theorem Le.ver{G G':Gh}{w w':World}(h:Le G w G' w') {i:Nat}(hi:i<G.n):G.V i≤G'.V i:=by
 rcases h.id i hi with h|h<;>omega
theorem Le.trans{G G' G'':Gh}{w w' w'':World}(h:Le G w G' w') (k:Le G' w' G'' w''):Le G w G'' w'' where
 F b hb:=k.F b (h.F b hb)
 heap b hb:=(k.heap b (h.F b hb)).trans (h.heap b hb)
 n:=Qp h.n k.n
 id i hi:=by
  have h1:=h.id i hi;have h2:=k.id i (Eo hi h.n);rcases h1 with⟨a1,a2,a3,a4,a5⟩|h1<;>rcases h2 with⟨b1,b2,b3,b4,b5⟩|h2
  ·exact .inl ⟨b1.trans a1,b2.trans a2,b3.trans a3,b4.trans a4,b5.trans a5⟩
  ·exact .inr (by omega)
  ·exact .inr (by omega)
  ·exact .inr (by omega)
theorem cell_of_heap{w w':World}{b off:Nat}(h:w'.heap[b]?=w.heap[b]?):w'.cell? ⟨b,off,none⟩=w.cell? ⟨b,off,none⟩:=by
 simp[World.cell?,h]
theorem HasAt.mono{w w':World}{b off:Nat}{u:Value}(h:HasAt w b off u) (hb:w'.heap[b]?=w.heap[b]?):HasAt w' b off u:=
 fun j c hc=>by rw[cell_of_heap hb];exact h j c hc
mutual
theorem VRel.mono{G G':Gh}{w w':World}(hle:Le G w G' w'):∀{d:D}{u:Value},VRel G w d u→VRel G' w' d u
 |.v x,u,h=>by simpa [VRel] using h
 |.agg l,u,h=>by
  simp only[VRel]at h⊢;obtain⟨cs,rfl,h,h1⟩:=h;exact⟨cs,rfl,VsRel.mono hle h,h1⟩
 |.tup l,u,h=>by
  simp only[VRel]at h⊢;obtain⟨cs,rfl,h⟩:=h;exact⟨cs,rfl,VsRel.mono hle h⟩
 |.sl S l,u,h=>by
  simp only[VRel]at h⊢;obtain⟨a,n,cap,rfl,hn,hc,h⟩:=h;refine⟨a,n,cap,rfl,hn,hc,?_⟩;rcases h with h|⟨b,off,rfl,hF,hr⟩
  ·exact .inl h
  ·exact .inr ⟨b,off,rfl,hle.F b hF,RowAt.mono hle (hle.heap b hF) hr⟩
 |.pt d,u,h=>by
  simp only[VRel]at h⊢;obtain⟨b,off,x,rfl,hF,hd,hh⟩:=h;exact⟨b,off,x,rfl,hle.F b hF,VRel.mono hle hd,hh.mono (hle.heap b hF)⟩
 |.ref id ver idx sub,u,h=>by
  simp only[VRel]at h⊢;obtain⟨a,hu,hi,hv,h⟩:=h;refine⟨a,hu,Eo hi hle.n,Qp hv (hle.ver hi),fun e=>?_⟩;rcases hle.id id hi with⟨h1,h2,h3,h4,h5⟩|hlt
  ·rw[h2,h3,h5];exact h (by omega)
  ·omega
 |.own id ver,u,h=>by
  simp only[VRel]at h⊢;obtain⟨a,n,c,hu,hi,hv,h⟩:=h;refine⟨a,n,c,hu,Eo hi hle.n,Qp hv (hle.ver hi),fun e=>?_⟩;rcases hle.id id hi with⟨h1,h2,h3,h4,h5⟩|hlt
  ·rw[h2,h4,h5];exact h (by omega)
  ·omega
 |.view id ver lo n,u,h=>by
  simp only[VRel]at h⊢;obtain⟨a,c,hu,hc,hi,hv,h⟩:=h;refine⟨a,c,hu,hc,Eo hi hle.n,Qp hv (hle.ver hi),fun e=>?_⟩;rcases hle.id id hi with⟨h1,h2,h3,h4,h5⟩|hlt
  ·rw[h2,h3,h5];exact h (by omega)
  ·omega
 |.fn f first caps,u,h=>by
  simp only[VRel]at h⊢;obtain⟨fs,cs,rfl,h1,h2⟩:=h;exact⟨fs,cs,rfl,VsRel.mono hle h1,VsRel.mono hle h2⟩
 |.mp id,u,h=>by
  simp only[VRel]at h⊢;obtain⟨b,hu,hi,h⟩:=h;refine⟨b,hu,Eo hi hle.n,fun e=>?_⟩;rcases hle.id id hi with⟨h1,h2,h3,h4,h5⟩|hlt
  ·rw[h2];exact h (by omega)
  ·omega
 |.ifc t d,u,h=>by
  simp only[VRel]at h⊢;obtain⟨x,rfl,h⟩:=h;exact⟨x,rfl,VRel.mono hle h⟩
 |.dead,u,h=>by simp[VRel]
theorem VsRel.mono{G G':Gh}{w w':World}(hle:Le G w G' w'):∀{l:List D}{us:List Value},VsRel G w l us→VsRel G' w' l us
 |[],us,h=>by simpa [VsRel] using h
 |d::l,us,h=>by
  simp only[VsRel]at h⊢;obtain⟨u,r,rfl,h1,h2⟩:=h;exact⟨u,r,rfl,VRel.mono hle h1,VsRel.mono hle h2⟩
theorem RowAt.mono{G G':Gh}{w w':World}(hle:Le G w G' w') {b S:Nat}(hb:w'.heap[b]?=w.heap[b]?) :
 ∀{l:List D} {off:Nat},RowAt G w b S l off→RowAt G' w' b S l off
 |[],off,h=>by simp[RowAt]
 |d::l,off,h=>by
  simp only[RowAt]at h⊢;obtain⟨⟨u,h1,h2,h3⟩,h4⟩:=h;exact⟨⟨u,VRel.mono hle h1,h2,h3.mono hb⟩,RowAt.mono hle hb h4⟩
end
inductive Ent where
 |live (S ver:Nat) (l:List D)
 |mp (es:List (Value×D))
 |gone
def MapRel(G:Gh) (w:World):List (Value×D)→List MapEntry→Prop
 |[],es=>es=[]
 |(k,d)::l,es=>∃e r,es=e::r∧e.key=k∧VRel G w d e.val∧MapRel G w l r
theorem MapRel.mono{G G':Gh}{w w':World}(hle:Le G w G' w'):∀{l:List (Value×D)}{es:List MapEntry},MapRel G w l es→MapRel G' w' l es
 |[],es,h=>h
 |(k,d)::l,es,h=>by
  obtain⟨e,r,h0,h1,h2,h3⟩:=h;exact⟨e,r,h0,h1,h2.mono hle,h3.mono hle⟩
def EntRel(G:Gh) (w:World) (i:Nat):Ent→Prop
 |.live S ver l=>G.V i=ver∧G.S i=S∧G.N i=l.length∧l.length≤(G.C i).1∧
  ((G.B i=none∧G.C i=(0,0))∨∃b cs T,G.B i=some b∧¬G.F b∧w.heap[b]?=some (.cells cs T (0,0))∧(G.C i).1*S+(G.C i).2≤cs.size∧RowAt G w b S l (G.C i).2)
 |.mp es=>G.V i=0∧∃b entries clock,G.B i=some b∧¬G.F b∧w.heap[b]?=some (.map entries clock)∧MapRel G w es entries.toList
 |.gone=>True
def Ent.isLive:Ent→Bool
 |.gone=>false
 |_=>true
def gtab:Nat→Option D
 |0=>some (.agg ([31,28,31,30,31,30,31,31,30,31,30,31].map fun n=>.v (.int .i64 n)))
 |_=>none
def GOK(G:Gh) (w:World):Prop:=∀g d,gtab g=some d→VRel G w (.pt d) (.pointer (some ⟨g,0,none⟩))
theorem GOK.mono{G G':Gh}{w w':World}(hle:Le G w G' w') (h:GOK G w):GOK G' w':=fun g d hd=>(h g d hd).mono hle
structure Inv (G:Gh) (w:World) (m:List Ent):Prop where
 n:G.n=m.length
 F:∀b,G.F b→b<w.heap.size
 ent:∀i e,m[i]?=some e→EntRel G w i e
 apart:∀i j e e',m[i]?=some e→m[j]?=some e'→e.isLive=true→e'.isLive=true→∀b,G.B i=some b→G.B j=some b→i=j
 gl:GOK G w
def Owned(G:Gh) (m:List Ent) (b:Nat):Prop:=∃i e,m[i]?=some e∧e.isLive=true∧G.B i=some b
structure Step (G:Gh) (w:World) (m:List Ent) (G':Gh) (w':World) (m':List Ent):Prop where
 le:Le G w G' w'
 os:w'.os=w.os
 tape:w'.tape=w.tape
 output:w'.output=w.output
 size:w.heap.size≤w'.heap.size
 keep:∀b,b<w.heap.size→¬Owned G m b→w'.heap[b]?=w.heap[b]?
 newF:∀b,b<w.heap.size→G'.F b→G.F b∨Owned G m b
 newB:∀b,b<w.heap.size→Owned G' m' b→Owned G m b
theorem Step.refl(G:Gh) (w:World) (m:List Ent):Step G w m G w m:=
 ⟨Le.refl _ _,rfl,rfl,rfl,En _,fun _ _ _=>rfl,fun _ _ h=>.inl h,fun _ _ h=>h⟩
theorem Step.trans{G G' G'':Gh}{w w' w'':World}{m m' m'':List Ent}(h:Step G w m G' w' m') (k:Step G' w' m' G'' w'' m''):Step G w m G'' w'' m'' where
 le:=h.le.trans k.le
 os:=k.os.trans h.os
 tape:=k.tape.trans h.tape
 output:=k.output.trans h.output
 size:=Qp h.size k.size
 keep b hb ho:=(k.keep b (Eo hb h.size) fun h'=>ho (h.newB b hb h')).trans (h.keep b hb ho)
 newF b hb hF:=by
  rcases k.newF b (Eo hb h.size) hF with h'|h'
  ·exact h.newF b hb h'
  ·exact .inr (h.newB b hb h')
 newB b hb h':=h.newB b hb (k.newB b (Eo hb h.size) h')
structure St where
 t:List D
 m:List Ent
structure Rel (G:Gh) (w:World) (a:Act) (s:St):Prop where
 t:VsRel G w s.t a.tmps.toList
 inv:Inv G w s.m
 defers:a.defers=[]
def St.ev(s:St):Operand→D
 |.tmp t=>s.t.getD t .dead
 |.const x=>.v x
 |.func f=>.fn f [] []
 |.global g=>(gtab g).elim .dead .pt
def St.put(s:St) (dst:Option Tmp) (d:D):St:=
 match dst with
 |some i=>{ s with t:=s.t.set i d }
 |none=>s
theorem VsRel.length{G:Gh}{w:World}:∀{l:List D}{us:List Value},VsRel G w l us→us.length=l.length
 |[],us,h=>by simp[VsRel]at h;simp[h]
 |d::l,us,h=>by
  simp only[VsRel]at h;obtain⟨u,r,rfl,_,h2⟩:=h;simp[VsRel.length h2]
theorem VsRel.get{G:Gh}{w:World}:∀{l:List D}{us:List Value}(i:Nat),VsRel G w l us→VRel G w (l.getD i .dead) (us.getD i undef)
 |[],us,i,h=>by simp[VRel]
 |d::l,us,i,h=>by
  simp only[VsRel]at h;obtain⟨u,r,rfl,h1,h2⟩:=h
  cases i with
  |zero=>simpa using h1
  |succ i=>simpa using VsRel.get i h2
theorem VsRel.set{G:Gh}{w:World}{d:D}{x:Value}(hx:VRel G w d x):∀{l:List D}{us:List Value}(i:Nat),VsRel G w l us→VsRel G w (l.set i d) (us.set i x)
 |[],us,i,h=>by simp[VsRel]at h;simp[h,VsRel]
 |e::l,us,i,h=>by
  simp only[VsRel]at h;obtain⟨u,r,rfl,h1,h2⟩:=h
  cases i with
  |zero=>simp only[List.set_cons_zero,VsRel];exact⟨x,r,rfl,hx,h2⟩
  |succ i=>simp only[List.set_cons_succ,VsRel];exact⟨u,_,rfl,h1,VsRel.set hx i h2⟩
theorem Rel.ev{G:Gh}{w:World}{a:Act}{s:St}(h:Rel G w a s) (x:Operand):VRel G w (s.ev x) (a.eval x):=by
 cases x with
 |tmp t=>
  have:=VsRel.get t h.t;simpa [St.ev,Act.eval] using this
 |const x=>simp[St.ev,Act.eval,VRel]
 |global g=>
  simp only[St.ev,Act.eval]
  cases hg:gtab g with
  |none=>simp[VRel]
  |some d=>exact h.inv.gl g d hg
 |func f=>
  simp only[St.ev,Act.eval,VRel];exact⟨[],[],rfl,by simp[VsRel],by simp[VsRel]⟩
theorem Rel.put{G:Gh}{w:World}{a:Act}{s:St}(h:Rel G w a s) (dst:Option Tmp) {d:D}{x:Value}(hx:VRel G w d x):Rel G w (a.put dst x) (s.put dst d):=by
 cases dst with
 |none=>exact h
 |some i=>
  refine⟨?_,h.inv,h.defers⟩;have:=VsRel.set hx i h.t;simpa [St.put,Act.put] using this
theorem Rel.step{G G':Gh}{w w':World}{a:Act}{s:St}{m':List Ent}(h:Rel G w a s) (hs:Le G w G' w') (hi:Inv G' w' m'):Rel G' w' a { s with m:=m' }:=
 ⟨h.t.mono hs,hi,h.defers⟩
end Go.Tm
namespace Go.Tm
def pureRun{α:Type}:Sem α→Option α
 |.pure a=>some a
 |_=>none
def D.cells:D→List D
 |.agg l=>l
 |d=>[d]
def D.ok:D→Bool
 |.v x=>one x
 |.tup _|.dead=>false
 |_=>true
def part(A:Bool) (n off:Nat) (l:List D):Option D:=
 match A with
 |true=>if off+n≤l.length then some (.agg ((l.drop off).take n))else none
 |false=>l[off]?
def splice(l:List D) (off:Nat) (r:List D):List D:=l.take off++r++l.drop (off+r.length)
def D.upd(old:D) (sub:Nat) (r:List D):D:=
 match old with
 |.agg l=>.agg (splice l sub r)
 |_=>r.headD .dead
def leaf:Value→D
 |.agg cs=>.agg (cs.toList.map .v)
 |x=>.v x
inductive I where
 |mv (x:Operand)
 |pick (c a b:Operand)
 |bin (op:BinOp) (x y:Operand)
 |beq (neg:Bool) (x y:Operand)
 |un (op:UnOp) (x:Operand)
 |conv (k:IntKind) (x:Operand)
 |alloc (S:Nat) (z:D)
 |box (S:Nat) (x:Operand)
 |build (z:List D) (ps:List (Nat×Nat×Operand))
 |bslice (S:Nat) (n:Nat) (z:D) (ps:List (Nat×Operand))
 |load (A:Bool) (n:Nat) (x:Operand)
 |store (n:Nat) (x y:Operand)
 |nilc (x:Operand)
 |slice (S:Nat) (x:Operand) (lo hi mx:Option Operand)
 |faddr (A:Bool) (n off:Nat) (x:Operand)
 |field (A:Bool) (n off:Nat) (x:Operand)
 |iaddr (S:Nat) (x i:Operand)
 |aaddr (A:Bool) (S len:Nat) (x i:Operand)
 |index (A:Bool) (S len:Nat) (x i:Operand)
 |extract (x:Operand) (i:Nat)
 |len (x:Operand)
 |slen (x:Operand)
 |append (S bytes:Nat) (x y:Operand)
 |mkslice (S bytes:Nat) (z:D) (l c:Operand)
 |mkfunc (f:FuncId) (first caps:List Operand)
 |fail
 |mm (isMax:Bool) (xs:List Operand)
 |ceq (neg:Bool) (ks:List Nat) (x y:Operand)
 |strb (S:Nat) (x:Operand)
 |sidx (x i:Operand)
 |sslice (x:Operand) (lo hi:Option Operand)
 |mkmap
 |mlook (K:Nat) (ok:Bool) (z:D) (x k:Operand)
 |mput (K:Nat) (m k x:Operand)
 |mlen (x:Operand)
 |trunc (S:Nat) (x:Operand) (lo hi:Option Operand)
 |mkifc (t:TypeId) (x:Operand)
 |tassert (ok:Bool) (t:TypeId) (z:D) (x:Operand)
 |clr (S:Nat) (z:D) (x:Operand)
 |capn (x:Operand)
 |nileq (neg:Bool) (x:Operand)
 |mkapp (S bytes:Nat) (z:D) (x n:Operand)
def contents(S:Nat) (m:List Ent):D→Option (List D)
 |.v (.slice none 0 0)=>some []
 |.sl S' l=>if S'=S then some l else none
 |.own id ver=>
  match m[id]? with
  |some (.live S' ver' l)=>if S'=S∧ver'=ver then some l else none
  |_=>none
 |.view id ver lo n=>
  match m[id]? with
  |some (.live S' ver' l)=>if S'=S∧ver'=ver∧lo+n≤l.length then some ((l.drop lo).take n)else none
  |_=>none
 |_=>none
def lenOfD(m:List Ent):D→Option Nat
 |.v (.slice none 0 0)=>some 0
 |.sl _ l=>some l.length
 |.own id ver=>
  match m[id]? with
  |some (.live _ ver' l)=>if ver'=ver then some l.length else none
  |_=>none
 |.view id _ _ n=>
  match m[id]? with
  |some _=>some n
  |none=>none
 |_=>none
def buildD(s:St):List (Nat×Nat×Operand)→List D→Option (List D)
 |[],cells=>some cells
 |(off,n,x)::ps,cells=>
  if(s.ev x).ok=true∧(s.ev x).cells.length=n∧off+n≤cells.length then buildD s ps (splice cells off (s.ev x).cells)else none
def bsliceD(s:St) (S:Nat):List (Nat×Operand)→List D→Option (List D)
 |[],l=>some l
 |(i,x)::ps,l=>
  if(s.ev x).ok=true∧(s.ev x).cells.length=S∧i<l.length then bsliceD s S ps (l.set i (s.ev x))else none
def bound(s:St) (d:Nat):Option Operand→Option Nat
 |none=>some d
 |some x=>
  match s.ev x with
  |.v (.int _ n)=>if 0≤n then some n.toNat else none
  |_=>none
def sliceD(S:Nat) (m:List Ent) (d:D) (lo hi:Nat):Option D:=
 match d with
 |.v (.slice none 0 0)=>if lo=0∧hi=0 then some d else none
 |.sl S' l=>if S'=S∧lo≤hi∧hi≤l.length then some (.sl S ((l.drop lo).take (hi-lo)))else none
 |.own id ver=>
  match m[id]? with
  |some (.live S' ver' l)=>if S'=S∧ver'=ver∧lo≤hi∧hi≤l.length then some (.view id ver lo (hi-lo))else none
  |_=>none
 |.view id ver l0 n=>
  match m[id]? with
  |some (.live S' ver' l)=>if S'=S∧ver'=ver∧lo≤hi∧hi≤n∧l0+n≤l.length then some (.view id ver (l0+lo) (hi-lo))else none
  |_=>none
 |_=>none
mutual
def idfree:D→Bool
 |.v _=>true
 |.agg l=>idfrees l
 |.tup l=>idfrees l
 |.sl _ l=>idfrees l
 |.pt d=>idfree d
 |.ref ..=>false
 |.own ..=>false
 |.view ..=>false
 |.fn _ a b=>idfrees a&&idfrees b
 |.mp _=>false
 |.ifc _ d=>idfree d
 |.dead=>true
def idfrees:List D→Bool
 |[]=>true
 |d::l=>idfree d&&idfrees l
end
def isV:D→Bool
 |.v _=>true
 |_=>false
def leaves:List D→Option (List Value)
 |[]=>some []
 |.v x::l=>(leaves l).map (x::·)
 |_::_=>none
def eqLeaf:Nat→D→D→Option Bool
 |0,.v (.int j a),.v (.int k b)=>if j=k then some (a==b)else none
 |1,.v (.bool a),.v (.bool b)=>some (a==b)
 |2,.v (.string a),.v (.string b)=>some (a.toList==b.toList)
 |_,_,_=>none
def eqLeaves:List Nat→List D→List D→Option Bool
 |[],[],[]=>some true
 |k::ks,x::xs,y::ys=>
  match eqLeaf k x y,eqLeaves ks xs ys with
  |some a,some b=>some (a&&b)
  |_,_=>none
 |_,_,_=>none
def isKey:Nat→Value→Bool
 |0,.int .i64 _=>true
 |2,.string _=>true
 |_,_=>false
def keyEq:Value→Value→Bool
 |.int _ a,.int _ b=>a==b
 |.string a,.string b=>a==b
 |_,_=>false
def lookD(k:Value):List (Value×D)→Option D
 |[]=>none
 |(q,d)::l=>if keyEq k q=true then some d else lookD k l
def putD(k:Value) (x:D):List (Value×D)→List (Value×D)
 |[]=>[(k,x)]
 |(q,d)::l=>if keyEq k q=true then(k,x)::l else(q,d)::putD k x l
def evalI(s:St):I→Option (D×List Ent)
 |.mv x=>some (s.ev x,s.m)
 |.pick c a b=>
  match s.ev c with
  |.v (.bool t)=>some (bif t then s.ev a else s.ev b,s.m)
  |_=>none
 |.bin op x y=>
  match s.ev x,s.ev y with
  |.v (.int j a),.v (.int k b)=>(pureRun (binOp op 0 (.int j a) (.int k b))).map fun r=>(.v r,s.m)
  |.v (.string a),.v (.string b)=>(pureRun (binOp op 0 (.string a) (.string b))).map fun r=>(.v r,s.m)
  |_,_=>none
 |.beq neg x y=>
  match s.ev x,s.ev y with
  |.v (.bool a),.v (.bool b)=>some (.v (.bool ((a==b) !=neg)),s.m)
  |_,_=>none
 |.un op x=>
  match s.ev x with
  |.v a=>(pureRun (Op.unary op a)).map fun r=>(.v r,s.m)
  |_=>none
 |.conv k x=>
  match s.ev x with
  |.v (.int _ n)=>some (.v (.int k (k.wrap n)),s.m)
  |_=>none
 |.alloc S z=>some (.ref s.m.length 0 0 0,s.m++[.live S 0 [z]])
 |.box S x=>if(s.ev x).ok=true∧(s.ev x).cells.length=S then some (.ref s.m.length 0 0 0,s.m++[.live S 0 [s.ev x]])else none
 |.build z ps=>(buildD s ps z).map fun l=>(.agg l,s.m)
 |.bslice S n z ps=>(bsliceD s S ps (yn n z)).map fun l=>(.own s.m.length 0,s.m++[.live S 0 l])
 |.load A n x=>
  match s.ev x with
  |.pt d=>
   match A,d with
   |true,.agg l=>if l.length=n then some (d,s.m)else none
   |true,_=>none
   |false,.agg _=>none
   |false,d=>if d.ok=true then some (d,s.m)else none
  |.ref id ver idx sub=>
   match s.m[id]? with
   |some (.live _ ver' l)=>if ver'=ver then(l[idx]?).bind fun d=>if d.ok=true then(part A n sub d.cells).map fun r=>(r,s.m)else none else none
   |_=>none
  |_=>none
 |.store n x y=>
  match s.ev x with
  |.ref id ver idx sub=>
   match s.m[id]? with
   |some (.live S ver' l)=>
    if ver'=ver∧(s.ev y).ok=true∧(s.ev y).cells.length=n then
     (l[idx]?).bind fun d=>if d.ok=true∧0<n∧sub+n≤d.cells.length then some (.dead,s.m.set id (.live S ver' (l.set idx (d.upd sub (s.ev y).cells))))else none
    else none
   |_=>none
  |_=>none
 |.nilc x=>
  match s.ev x with
  |.ref ..=>some (s.ev x,s.m)
  |.pt _=>some (s.ev x,s.m)
  |_=>none
 |.slice S x lo hi mx=>
  match lenOfD s.m (s.ev x)with
  |some n=>
   match bound s 0 lo,bound s n hi,bound s n mx with
   |some l,some h,some k=>if h≤k∧k≤n then(sliceD S s.m (s.ev x) l h).map fun r=>(r,s.m)else none
   |_,_,_=>none
  |none=>none
 |.faddr A n off x=>
  match s.ev x with
  |.pt (.agg l)=>(part A n off l).map fun r=>(.pt r,s.m)
  |.ref id ver idx sub=>some (.ref id ver idx (sub+off),s.m)
  |_=>none
 |.field A n off x=>
  match s.ev x with
  |.agg l=>(part A n off l).map fun r=>(r,s.m)
  |_=>none
 |.iaddr S x i=>
  match s.ev i with
  |.v (.int _ k)=>
   if 0≤k then
    match s.ev x with
    |.sl S' l=>if S'=S then(l[k.toNat]?).map fun d=>(.pt d,s.m)else none
    |.own id ver=>
     match s.m[id]? with
     |some (.live S' ver' l)=>if S'=S∧ver'=ver∧k.toNat<l.length then some (.ref id ver k.toNat 0,s.m)else none
     |_=>none
    |.view id ver lo n=>
     match s.m[id]? with
     |some (.live S' ver' l)=>if S'=S∧ver'=ver∧k.toNat<n∧lo+n≤l.length then some (.ref id ver (lo+k.toNat) 0,s.m)else none
     |_=>none
    |_=>none
   else none
  |_=>none
 |.aaddr A S len x i=>
  match s.ev i with
  |.v (.int _ k)=>
   if 0≤k∧k.toNat<len then
    match s.ev x with
    |.pt (.agg l)=>(part A S (k.toNat*S) l).map fun r=>(.pt r,s.m)
    |.ref id ver idx sub=>some (.ref id ver idx (sub+k.toNat*S),s.m)
    |_=>none
   else none
  |_=>none
 |.index A S len x i=>
  match s.ev i with
  |.v (.int _ k)=>
   if 0≤k∧k.toNat<len then
    match s.ev x with
    |.agg l=>(part A S (k.toNat*S) l).map fun r=>(r,s.m)
    |_=>none
   else none
  |_=>none
 |.extract x i=>
  match s.ev x with
  |.tup l=>(l[i]?).map fun d=>(d,s.m)
  |_=>none
 |.len x=>(lenOfD s.m (s.ev x)).map fun(n:Nat)=>(D.v (.int .i64 (n:Int)),s.m)
 |.slen x=>
  match s.ev x with
  |.v (.string b)=>some (.v (.int .i64 (b.size:Int)),s.m)
  |_=>none
 |.append S bytes x y=>
  match contents S s.m (s.ev y)with
  |some r=>
   match s.ev x with
   |.v (.slice none 0 0)=>if r.length*bytes≤2 ^ 47 then some (.own s.m.length 0,s.m++[.live S 0 r])else none
   |.own id ver=>
    match s.m[id]? with
    |some (.live S' ver' l)=>if S'=S∧ver'=ver∧(l.length+r.length)*bytes≤2 ^ 47 then some (.own id (ver+1),s.m.set id (.live S (ver+1) (l++r)))else none
    |_=>none
   |_=>none
  |none=>none
 |.mkslice S bytes z l c=>
  match s.ev l,s.ev c with
  |.v (.int .i64 n),.v (.int .i64 k)=>
   if 0≤n∧n≤k∧k≤2 ^ 62∧k.toNat*bytes≤2 ^ 48 then some (.own s.m.length 0,s.m++[.live S 0 (yn n.toNat z)])else none
  |_,_=>none
 |.mkfunc f first caps=>some (.fn f (first.map s.ev) (caps.map s.ev),s.m)
 |.fail=>none
 |.mm isMax xs=>
  match leaves (xs.map s.ev)with
  |some vs=>(pureRun (if isMax then Builtin.max_ #[] 0 vs.toArray else Builtin.min_ #[] 0 vs.toArray)).map fun r=>(.v r,s.m)
  |none=>none
 |.ceq neg ks x y=>
  match s.ev x,s.ev y with
  |.agg l,.agg r=>(eqLeaves ks l r).map fun t=>(.v (.bool (t !=neg)),s.m)
  |_,_=>none
 |.strb S x=>
  match s.ev x with
  |.own id ver=>
   match s.m[id]? with
   |some (.live S' ver' l)=>if S'=S∧ver'=ver∧0<l.length∧l.all isV=true then some (.sl S l,s.m.set id .gone)else none
   |_=>none
  |_=>none
 |.sidx x i=>
  match s.ev x,s.ev i with
  |.v (.string b),.v (.int _ k)=>if h:0≤k∧k.toNat<b.size then some (.v (.int .u8 (b[k.toNat]'h.2).toNat),s.m)else none
  |_,_=>none
 |.sslice x lo hi=>
  match s.ev x with
  |.v (.string b)=>
   match bound s 0 lo,bound s b.size hi with
   |some l,some h=>if l≤h∧h≤b.size then some (.v (.string (b.extract l h)),s.m)else none
   |_,_=>none
  |_=>none
 |.mkmap=>some (.mp s.m.length,s.m++[.mp []])
 |.mlook K ok z x k=>
  match s.ev k with
  |.v kv=>
   if isKey K kv=true then
    match s.ev x with
    |.v (.map none)=>some (if ok then .tup [z,.v (.bool false)]else z,s.m)
    |.mp id=>
     match s.m[id]? with
     |some (.mp es)=>
      if(es.all fun e=>isKey K e.1)=true then
       match lookD kv es with
       |some d=>some (if ok then .tup [d,.v (.bool true)]else d,s.m)
       |none=>some (if ok then .tup [z,.v (.bool false)]else z,s.m)
      else none
     |_=>none
    |_=>none
   else none
  |_=>none
 |.mput K m k x=>
  match s.ev k,s.ev m with
  |.v kv,.mp id=>
   match s.m[id]? with
   |some (.mp es)=>if isKey K kv=true∧(es.all fun e=>isKey K e.1)=true then some (.dead,s.m.set id (.mp (putD kv (s.ev x) es)))else none
   |_=>none
  |_,_=>none
 |.mlen x=>
  match s.ev x with
  |.v (.map none)=>some (.v (.int .i64 0),s.m)
  |.mp id=>
   match s.m[id]? with
   |some (.mp es)=>some (.v (.int .i64 (es.length:Int)),s.m)
   |_=>none
  |_=>none
 |.trunc S x lo hi=>
  match s.ev x with
  |.own id ver=>
   match s.m[id]? with
   |some (.live S' ver' l)=>
    match bound s 0 lo,bound s l.length hi with
    |some a,some h=>if a≤h∧S'=S∧ver'=ver∧h≤l.length then some (.own id (ver+1),s.m.set id (.live S (ver+1) ((l.take h).drop a)))else none
    |_,_=>none
   |_=>none
  |d=>
   match lenOfD s.m d with
   |some n=>
    match bound s 0 lo,bound s n hi,bound s n none with
    |some l,some h,some k=>if h≤k∧k≤n then(sliceD S s.m d l h).map fun r=>(r,s.m)else none
    |_,_,_=>none
   |none=>none
 |.mkifc t x=>some (.ifc t (s.ev x),s.m)
 |.tassert ok t z x=>
  match s.ev x with
  |.ifc t' d=>if t'=t then some (if ok then .tup [d,.v (.bool true)]else d,s.m)else if ok=true then some (.tup [z,.v (.bool false)],s.m)else none
  |_=>none
 |.clr S z x=>
  match s.ev x with
  |.v (.slice none 0 0)=>some (.dead,s.m)
  |.view id ver lo n=>
   match s.m[id]? with
   |some (.live S' ver' l)=>if S'=S∧ver'=ver∧lo+n≤l.length then some (.dead,s.m.set id (.live S ver (l.take lo++yn n z++l.drop (lo+n))))else none
   |_=>none
  |_=>none
 |.capn x=>
  match s.ev x with
  |.v (.slice none 0 0)=>some (.v (.int .i64 0),s.m)
  |_=>none
 |.nileq neg x=>
  match s.ev x with
  |.v (.slice a _ _)=>some (.v (.bool (a.isNone !=neg)),s.m)
  |.sl _ (_::_)=>some (.v (.bool neg),s.m)
  |.own id ver=>
   match s.m[id]? with
   |some (.live _ ver' (_::_))=>if ver'=ver then some (.v (.bool neg),s.m)else none
   |_=>none
  |_=>none
 |.mkapp S bytes z x n=>
  match s.ev x,s.ev n with
  |.v (.slice none 0 0),.v (.int .i64 k)=>if 0<k∧k.toNat*bytes≤2 ^ 47 then some (.own s.m.length 0,s.m++[.live S 0 (yn k.toNat z)])else none
  |_,_=>none
inductive Cal where
 |tmp (t:Tmp)
 |const (v:Value)
 |global (g:Nat)
 |func (f:FuncId)
 |meth (r:Operand) (tb:List (TypeId×FuncId×Option (Bool×Nat)))
def Cal.of:Operand→Cal
 |.tmp t=>.tmp t
 |.const v=>.const v
 |.global g=>.global g
 |.func f=>.func f
def St.cv(s:St):Cal→D
 |.tmp t=>s.ev (.tmp t)
 |.const v=>s.ev (.const v)
 |.global g=>s.ev (.global g)
 |.func f=>s.ev (.func f)
 |.meth ..=>.dead
def methD(m:List Ent) (tb:List (TypeId×FuncId×Option (Bool×Nat))):D→D
 |.ifc t d=>
  match tb.lookup t with
  |some (k,none)=>.fn k [d] []
  |some (k,some r)=>
   match evalI ⟨[d],m⟩ (.load r.1 r.2 (.tmp 0))with
   |some (d',_)=>.fn k [d'] []
   |none=>.dead
  |none=>.dead
 |_=>.dead
def St.ec(s:St):Cal→D
 |.tmp t=>s.ev (.tmp t)
 |.const v=>s.ev (.const v)
 |.global g=>s.ev (.global g)
 |.func f=>s.ev (.func f)
 |.meth r tb=>methD s.m tb (s.ev r)
theorem cv_ec{s:St}{f:Cal}{k:FuncId}{a b:List D}(h:s.cv f=.fn k a b):s.ec f=.fn k a b:=by
 cases f<;>simp[St.cv]at h<;>exact h
theorem ec_of{s:St}(x:Operand):s.ec (.of x)=s.ev x:=by cases x<;>rfl
end Go.Tm
namespace Go.Tm
open Go.RowKit (Below)
theorem rowAt_iff{G:Gh}{w:World}{b S:Nat}:∀{l:List D}{off:Nat},RowAt G w b S l off↔∀(i:Nat) d,l[i]?=some d→∃u,VRel G w d u∧u.cells.size=S∧HasAt w b (off+i*S) u
 |[],off=>by simp[RowAt]
 |d::l,off=>by
  simp only[RowAt];constructor
  ·rintro⟨h1,h2⟩ i e he
   cases i with
   |zero=>simp at he;subst he;simpa using h1
   |succ i=>
    have:=rowAt_iff.1 h2 i e (by simpa using he);rwa [show off+S+i*S=off+(i+1)*S by rw[yr];omega]at this
  ·intro h;refine⟨by simpa using h 0 d rfl,rowAt_iff.2 fun i e he=>?_⟩;have:=h (i+1) e (by simpa using he);rwa [show off+(i+1)*S=off+S+i*S by rw[yr];omega]at this
def RowIn(G:Gh) (w:World) (S:Nat) (l:List D) (cs:Array Value) (o:Nat:=0):Prop:=
 ∀(i:Nat) d,l[i]?=some d→∃u,VRel G w d u∧u.cells.size=S∧∀(j:Nat) c,u.cells[j]?=some c→one c=true∧cs[i*S+j+o]?=some c
theorem RowIn.mono{G G':Gh}{w w':World}{S o:Nat}{l:List D}{cs:Array Value}(h:RowIn G w S l cs o) (hle:Le G w G' w'):RowIn G' w' S l cs o:=
 fun i d hd=>let ⟨u,h1,h2,h3⟩:=h i d hd;⟨u,h1.mono hle,h2,h3⟩
theorem cell_of_cells{w:World}{b j:Nat}{cs:Array Value}{T:TypeId}{fr:Nat×Nat}(h:w.heap[b]?=some (.cells cs T fr)):w.cell? ⟨b,j,none⟩=cs[j]?:=by
 simp[World.cell?,h]
theorem rowAt_of_rowIn{G:Gh}{w:World}{b S o:Nat}{l:List D}{cs:Array Value}{T:TypeId}{fr:Nat×Nat}(h:w.heap[b]?=some (.cells cs T fr)) (hr:RowIn G w S l cs o):RowAt G w b S l o:=
 rowAt_iff.2 fun i d hd=>by
  obtain⟨u,h1,h2,h3⟩:=hr i d hd;exact⟨u,h1,h2,fun j c hc=>⟨(h3 j c hc).1,by rw[cell_of_cells h,show o+i*S+j=i*S+j+o by omega];exact(h3 j c hc).2⟩⟩
theorem rowIn_of_rowAt{G:Gh}{w:World}{b S o:Nat}{l:List D}{cs:Array Value}{T:TypeId}{fr:Nat×Nat}(h:w.heap[b]?=some (.cells cs T fr)) (hr:RowAt G w b S l o):RowIn G w S l cs o:=by
 intro i d hd;obtain⟨u,h1,h2,h3⟩:=rowAt_iff.1 hr i d hd;refine⟨u,h1,h2,fun j c hc=>⟨(h3 j c hc).1,?_⟩⟩;have:=(h3 j c hc).2;rwa [cell_of_cells h,show o+i*S+j=i*S+j+o by omega]at this
def Gh.add(G:Gh) (b:Option Nat) (S N C:Nat):Gh:=
 ⟨G.F,G.n+1,fun i=>if i=G.n then b else G.B i,fun i=>if i=G.n then 0 else G.V i,fun i=>if i=G.n then S else G.S i,
  fun i=>if i=G.n then N else G.N i,fun i=>if i=G.n then(C,0)else G.C i⟩
theorem Le.add{G:Gh}{w w':World}(hb:∀b,G.F b→w'.heap[b]?=w.heap[b]?) (b:Option Nat) (S N C:Nat):Le G w (G.add b S N C) w' where
 F _ h:=h
 heap:=hb
 n:=by simp[Gh.add]
 id i hi:=by
  have:i≠G.n:=by omega
  simp[Gh.add,this]
theorem EntRel.mono{G G':Gh}{w w':World}(hle:Le G w G' w') {i:Nat}{e:Ent}(h:EntRel G w i e)
 (hi:G'.V i=G.V i∧G'.B i=G.B i∧G'.S i=G.S i∧G'.N i=G.N i∧G'.C i=G.C i) (hb:∀b,G.B i=some b→w'.heap[b]?=w.heap[b]?)
 (hF:∀b,G.B i=some b→e.isLive=true→G'.F b→G.F b):EntRel G' w' i e:=by
 obtain⟨h1,h2,h3,h4,h5⟩:=hi
 cases e with
 |live S ver l=>
  simp only[EntRel]at h⊢;obtain⟨a1,a2,a3,a4,a5⟩:=h;rw[h1,h2,h3,h4,h5];refine⟨a1,a2,a3,a4,?_⟩;rcases a5 with a5|⟨b,cs,T,b1,b2,b3,b4,b5⟩
  ·exact .inl a5
  ·exact .inr ⟨b,cs,T,b1,fun hf=>b2 (hF b b1 rfl hf),by rw[hb b b1];exact b3,b4,RowAt.mono hle (hb b b1) b5⟩
 |mp es=>
  simp only[EntRel]at h⊢;obtain⟨a1,b,en,cl,a2,a3,a4,a5⟩:=h;rw[h1,h2];exact⟨a1,b,en,cl,a2,fun hf=>a3 (hF b a2 rfl hf),by rw[hb b a2];exact a4,a5.mono hle⟩
 |gone=>trivial
theorem EntRel.lt{G:Gh}{w:World}{i:Nat}{e:Ent}(h:EntRel G w i e) (hl:e.isLive=true) {b:Nat}(hb:G.B i=some b):b<w.heap.size∧¬G.F b:=by
 have key:∀o,w.heap[b]?=some o→b<w.heap.size:=fun o ho=>by
  rcases vo b w.heap.size with h'|h'
  ·exact h'
  ·rw[Array.getElem?_eq_none h']at ho;cases ho
 cases e with
 |live S ver l=>
  obtain⟨_,_,_,_,h|⟨b',cs,T,b1,b2,b3,_⟩⟩:=h
  ·rw[h.1]at hb;cases hb
  ·rw[b1]at hb;injection hb with hb;subst hb;exact⟨key _ b3,b2⟩
 |mp es=>
  obtain⟨_,b',en,cl,a2,a3,a4,_⟩:=h;rw[a2]at hb;injection hb with hb;subst hb;exact⟨key _ a4,a3⟩
 |gone=>cases hl
theorem Owned.lt{G:Gh}{w:World}{m:List Ent}(hi:Inv G w m) {b:Nat}(h:Owned G m b):b<w.heap.size∧¬G.F b:=by
 obtain⟨i,e,h1,h2,h3⟩:=h;exact(hi.ent i e h1).lt h2 h3
structure Same (w w':World):Prop where
 heap:w'.heap=w.heap
 os:w'.os=w.os
 tape:w'.tape=w.tape
 output:w'.output=w.output
theorem Same.drew(w:World):Same w w.drew:=⟨rfl,rfl,rfl,rfl⟩
theorem Same.le{w w':World}(h:Same w w') (G:Gh):Le G w G w':=⟨fun _ h=>h,fun _ _=>by rw[h.heap],En _,fun _ _=>.inl ⟨rfl,rfl,rfl,rfl,rfl⟩⟩
theorem Same.step{w w':World}(h:Same w w') (G:Gh) (m:List Ent):Step G w m G w' m:=
 ⟨h.le G,h.os,h.tape,h.output,by rw[h.heap];exact En _,fun _ _ _=>by rw[h.heap],fun _ _ h=>.inl h,fun _ _ h=>h⟩
theorem Same.inv{w w':World}(h:Same w w') {G:Gh}{m:List Ent}(hi:Inv G w m):Inv G w' m:=
 ⟨hi.n,fun b hb=>by rw[h.heap];exact hi.F b hb,fun i e he=>(hi.ent i e he).mono (h.le G) ⟨rfl,rfl,rfl,rfl,rfl⟩ (fun _ _=>by rw[h.heap]) (fun _ _ _ h=>h),hi.apart,hi.gl.mono (h.le G)⟩
theorem add_good{G:Gh}{w w':World}{m:List Ent}(hi:Inv G w m) (b:Option Nat) (S N C:Nat) (e:Ent) (hl:e.isLive=true)
 (hos:w'.os=w.os) (htape:w'.tape=w.tape) (hout:w'.output=w.output) (hsize:w.heap.size≤w'.heap.size)
 (hkeep:∀k,k<w.heap.size→w'.heap[k]?=w.heap[k]?) (hb:∀k,b=some k→w.heap.size≤k)
 (he:EntRel (G.add b S N C) w' G.n e) :
 Inv (G.add b S N C) w' (m++[e])∧Step G w m (G.add b S N C) w' (m++[e]):=by
 have hle:Le G w (G.add b S N C) w':=Le.add (fun k hk=>hkeep k (hi.F k hk)) b S N C;have hnew:∀i,i≠G.n→(G.add b S N C).B i=G.B i:=fun i h=>by simp[Gh.add,h]
 have hat:(G.add b S N C).B G.n=b:=by simp[Gh.add]
 have hget:∀i x,(m++[e])[i]?=some x→(m[i]?=some x∧i≠G.n)∨(i=G.n∧x=e):=by
  intro i x hx;rw[Rp]at hx;split at hx
  ·exact .inl ⟨hx,by rw[hi.n];omega⟩
  ·rename_i hlt;have:i=m.length:=by
    rcases vo i (m.length+1)with h|h
    ·omega
    ·rw[Rn (by simp;omega)]at hx;cases hx
   subst this;simp at hx;exact .inr ⟨hi.n.symm,hx.symm⟩
 have hold:∀i x,m[i]?=some x→x.isLive=true→∀k,G.B i=some k→k<w.heap.size:=fun i x hx hl k hk=>((hi.ent i x hx).lt hl hk).1;refine⟨⟨by simp[Gh.add,hi.n],fun k hk=>Eo (hi.F k hk) hsize,?_,?_,hi.gl.mono hle⟩,⟨hle,hos,htape,hout,hsize,fun k hk _=>hkeep k hk,fun _ _ h=>.inl h,?_⟩⟩
 ·intro i x hx;rcases hget i x hx with⟨h1,h2⟩|⟨rfl,rfl⟩
  ·by_cases hlx:x.isLive=true
   ·refine(hi.ent i x h1).mono hle (by simp[Gh.add,h2]) (fun k hk=>hkeep k (hold i x h1 hlx k hk)) (fun _ _ _ h=>h)
   ·cases x with
    |gone=>trivial
    |_=>simp[Ent.isLive]at hlx
  ·exact he
 ·intro i j x y hx hy lx ly k hk hk';rcases hget i x hx with⟨h1,h2⟩|⟨rfl,rfl⟩<;>rcases hget j y hy with⟨h3,h4⟩|⟨rfl,rfl⟩
  ·exact hi.apart i j x y h1 h3 lx ly k (by rwa [hnew i h2]at hk) (by rwa [hnew j h4]at hk')
  ·rw[hnew i h2]at hk;rw[hat]at hk';have:=hold i x h1 lx k hk;have:=hb k hk';omega
  ·rw[hnew j h4]at hk';rw[hat]at hk;have:=hold j y h3 ly k hk';have:=hb k hk;omega
  ·rfl
 ·rintro k hk ⟨i,x,hx,lx,hB⟩;rcases hget i x hx with⟨h1,h2⟩|⟨rfl,rfl⟩
  ·exact⟨i,x,h1,lx,by rwa [hnew i h2]at hB⟩
  ·rw[hat]at hB;have:=hb k hB;omega
theorem alloc_good{G:Gh}{w:World}{m:List Ent}(hi:Inv G w m) (S:Nat) (l:List D) (C:Nat) (cs:Array Value) (T:TypeId)
 (hr:RowIn G w S l cs) (hC:l.length≤C) (hcs:C*S≤cs.size) :
 Inv (G.add (some w.heap.size) S l.length C) (w.alloc (.cells cs T)) (m++[.live S 0 l])∧Step G w m (G.add (some w.heap.size) S l.length C) (w.alloc (.cells cs T)) (m++[.live S 0 l]):=by
 have hkeep:∀k,k<w.heap.size→(w.alloc (.cells cs T)).heap[k]?=w.heap[k]?:=fun k hk=>Below.heap_alloc _ _ _ hk;refine add_good hi _ _ _ _ _ rfl rfl rfl rfl (by simp) hkeep (fun k h=>by injection h;omega) ?_;have hle:Le G w (G.add (some w.heap.size) S l.length C) (w.alloc (.cells cs T)):=Le.add (fun k hk=>hkeep k (hi.F k hk)) _ _ _ _;have hblk:(w.alloc (.cells cs T)).heap[w.heap.size]?=some (.cells cs T (0,0)):=by
  show(w.heap.push (.cells cs T))[w.heap.size]?=_;rw[Array.getElem?_push,if_pos rfl]
 refine⟨by simp[Gh.add],by simp[Gh.add],by simp[Gh.add],by simpa [Gh.add] using hC,.inr ⟨w.heap.size,cs,T,by simp[Gh.add],fun h=>?_,hblk,by simpa [Gh.add] using hcs,by simpa [Gh.add] using rowAt_of_rowIn hblk (hr.mono hle)⟩⟩;have:=hi.F _ h;omega
def Gh.upd(G:Gh) (i:Nat) (b:Option Nat) (V N:Nat) (C:Nat×Nat):Gh:=
 ⟨G.F,G.n,fun j=>if j=i then b else G.B j,fun j=>if j=i then V else G.V j,G.S,fun j=>if j=i then N else G.N j,fun j=>if j=i then C else G.C j⟩
theorem change_good{G:Gh}{w w':World}{m:List Ent}(hi:Inv G w m) {id:Nat}{e e':Ent}(hm:m[id]?=some e) (hl:e.isLive=true) (hl':e'.isLive=true) (b:Option Nat) (V N:Nat) (C:Nat×Nat)
 (hV:G.V id<V∨(V=G.V id∧b=G.B id∧N=G.N id∧C=G.C id))
 (hos:w'.os=w.os) (htape:w'.tape=w.tape) (hout:w'.output=w.output) (hsize:w.heap.size≤w'.heap.size)
 (hkeep:∀k,k<w.heap.size→G.B id≠some k→w'.heap[k]?=w.heap[k]?) (hb:∀k,b=some k→G.B id=some k∨w.heap.size≤k)
 (he:EntRel (G.upd id b V N C) w' id e') :
 Inv (G.upd id b V N C) w' (m.set id e')∧Step G w m (G.upd id b V N C) w' (m.set id e'):=by
 have hFb:∀k,G.F k→G.B id≠some k:=fun k hF hB=>((hi.ent id e hm).lt hl hB).2 hF;have hle:Le G w (G.upd id b V N C) w':=by
  refine⟨fun _ h=>h,fun k hk=>hkeep k (hi.F k hk) (hFb k hk),En _,fun i _=>?_⟩;by_cases h:i=id
  ·subst h;rcases hV with hV|⟨h1,h2,h3,h4⟩
   ·exact .inr (by simpa [Gh.upd] using hV)
   ·exact .inl (by simp[Gh.upd,h1,h2,h3,h4])
  ·exact .inl (by simp[Gh.upd,h])
 have hnew:∀i,i≠id→(G.upd id b V N C).B i=G.B i:=fun i h=>by simp[Gh.upd,h]
 have hat:(G.upd id b V N C).B id=b:=by simp[Gh.upd]
 have hlen:id<m.length:=by
  rcases vo id m.length with h|h
  ·exact h
  ·rw[Rn h]at hm;cases hm
 have hget:∀i x,(m.set id e')[i]?=some x→(m[i]?=some x∧i≠id)∨(i=id∧x=e'):=by
  intro i x hx;by_cases h:i=id
  ·subst h;rw[Ip hlen]at hx;exact .inr ⟨rfl,by injection hx with hx;exact hx.symm⟩
  ·rw[Sp (by omega)]at hx;exact .inl ⟨hx,h⟩
 have hold:∀i x,m[i]?=some x→x.isLive=true→∀k,G.B i=some k→k<w.heap.size:=fun i x hx hl k hk=>((hi.ent i x hx).lt hl hk).1;refine⟨⟨by simp[Gh.upd,hi.n],fun k hk=>Eo (hi.F k hk) hsize,?_,?_,hi.gl.mono hle⟩,⟨hle,hos,htape,hout,hsize,?_,fun _ _ h=>.inl h,?_⟩⟩
 ·intro i x hx;rcases hget i x hx with⟨h1,h2⟩|⟨rfl,rfl⟩
  ·by_cases hlx:x.isLive=true
   ·refine(hi.ent i x h1).mono hle (by simp[Gh.upd,h2]) (fun k hk=>hkeep k (hold i x h1 hlx k hk) fun hB=>h2 (hi.apart i id x e h1 hm hlx hl k hk hB)) (fun _ _ _ h=>h)
   ·cases x with
    |gone=>trivial
    |_=>simp[Ent.isLive]at hlx
  ·exact he
 ·intro i j x y hx hy lx ly k hk hk';have other:∀i x,m[i]?=some x→i≠id→x.isLive=true→G.B i=some k→b=some k→False:=fun i x h1 h2 lx hk hbk=>by
   rcases hb k hbk with h|h
   ·exact h2 (hi.apart i id x e h1 hm lx hl k hk h)
   ·have:=hold i x h1 lx k hk;omega
  rcases hget i x hx with⟨h1,h2⟩|⟨rfl,rfl⟩<;>rcases hget j y hy with⟨h3,h4⟩|⟨rfl,rfl⟩
  ·exact hi.apart i j x y h1 h3 lx ly k (by rwa [hnew i h2]at hk) (by rwa [hnew j h4]at hk')
  ·exact(other i x h1 h2 lx (by rwa [hnew i h2]at hk) (by rwa [hat]at hk')).elim
  ·exact(other j y h3 h4 ly (by rwa [hnew j h4]at hk') (by rwa [hat]at hk)).elim
  ·rfl
 ·intro k hk ho;exact hkeep k hk fun hB=>ho ⟨id,e,hm,hl,hB⟩
 ·rintro k hk ⟨i,x,hx,lx,hB⟩;rcases hget i x hx with⟨h1,h2⟩|⟨rfl,rfl⟩
  ·exact⟨i,x,h1,lx,by rwa [hnew i h2]at hB⟩
  ·rw[hat]at hB;rcases hb k hB with h|h
   ·exact⟨i,e,hm,hl,h⟩
   ·omega
end Go.Tm
namespace Go.Tm
def shapeOf(P:Program) (t:TypeId):Option (Bool×Nat):=
 match P.underlying t,P.info? t with
 |some (.struct _),some i=>some (true,i.size)
 |some (.array _ _),some i=>some (true,i.size)
 |some _,some i=>some (false,i.size)
 |_,_=>none
def zeroOf(P:Program) (t:TypeId):Option Value:=
 match P.info? t with
 |some i=>
  match i.zero with
  |some z=>if z.cells.toList.all one=true∧z.cells.size=i.size∧0<i.size then some z else none
  |none=>none
 |none=>none
def partsOf(places:List (Nat×Nat)):List (Nat×Operand)→Option (List (Nat×Nat×Operand))
 |[]=>some []
 |(i,x)::ps=>
  match places[i]?,partsOf places ps with
  |some (off,n),some r=>some ((off,n,x)::r)
  |_,_=>none
def eqKind(P:Program) (t:TypeId):Option Nat:=
 match P.underlying t with
 |some (.int _)=>some 0
 |some .bool=>some 1
 |some .string=>some 2
 |_=>none
def eqPlan(P:Program):List Field→Nat→Option (List Nat)
 |[],_=>some []
 |f::fs,off=>
  if f.name≠ "_"∧f.offset=off then
   match eqKind P f.type,eqPlan P fs (off+1)with
   |some k,some ks=>some (k::ks)
   |_,_=>none
  else none
def eqPlan2(P:Program):List Field→Nat→Option (List Nat)
 |[],_=>some []
 |f::fs,off=>
  if f.name≠ "_"∧f.offset=off then
   match P.underlying f.type with
   |some (.struct gs)=>
    match eqPlan P gs.toList 0,P.info? f.type with
    |some ks,some i=>if i.size=ks.length∧P.stoodInHeld f.type=false then(eqPlan2 P fs (off+ks.length)).map (ks++·)else none
    |_,_=>none
   |_=>
    match eqKind P f.type,eqPlan2 P fs (off+1)with
    |some k,some ks=>some (k::ks)
    |_,_=>none
  else none
def keyKind(P:Program) (t:TypeId):Option Nat:=
 match P.underlying t with
 |some (.int .i64)=>some 0
 |some .string=>some 2
 |_=>none
def compI(P:Program):Op→Option I
 |.move x=>some (.mv x)
 |.assign x=>some (.mv x)
 |.pick c a b=>some (.pick c a b)
 |.alloc t=>(zeroOf P t).map fun z=>.alloc z.cells.size (leaf z)
 |.box t x=>some (.box (P.cellsOf t) x)
 |.build t ps=>
  match P.underlying t,zeroOf P t with
  |some (.struct fs),some z=>
   match fs.toList.mapM fun f=>(P.info? f.type).map fun i=>(f.offset,i.size)with
   |some places=>(partsOf places ps.toList).map fun r=>.build (z.cells.toList.map .v) r
   |none=>none
  |some (.array _ e),some z=>(P.info? e).map fun i=>.build (z.cells.toList.map .v) (ps.toList.map fun(k,x)=>(k*i.size,i.size,x))
  |_,_=>none
 |.buildSlice t n ps=>
  match P.underlying t with
  |some (.slice e)=>
   match zeroOf P e with
   |some z=>if n*z.cells.size≤2 ^ 24 then some (.bslice z.cells.size n (leaf z) ps.toList)else none
   |none=>none
  |_=>none
 |.load t x=>(shapeOf P t).map fun r=>.load r.1 r.2 x
 |.store t x y=>(P.info? t).map fun i=>.store i.size x y
 |.nilCheck x=>some (.nilc x)
 |.binOp op t x y _=>
  match P.underlying t with
  |some .bool=>if op=.eql then some (.beq false x y)else if op=.neq then some (.beq true x y)else none
  |some (.struct fs)=>
   if(op=.eql∨op=.neq)∧P.stoodInHeld t=false∧P.eqGuardType P.depth t=false then
    match eqPlan2 P fs.toList 0 with
    |some ks=>some (.ceq (decide (op=.neq)) ks x y)
    |none=>none
   else none
  |some (.slice _)=>
   match op,y with
   |.eql,.const (.slice none 0 0)=>some (.nileq false x)
   |.neq,.const (.slice none 0 0)=>some (.nileq true x)
   |_,_=>none
  |some _=>some (.bin op x y)
  |none=>none
 |.unOp op _ x=>some (.un op x)
 |.convert s d x=>
  match P.underlying s,P.underlying d with
  |some (.int _),some (.int k)=>some (.conv k x)
  |some (.slice _),some (.slice e)=>
   match P.underlying e,P.info? e with
   |some (.int .u8),some i=>if s=d then some (.strb i.size x)else none
   |_,_=>none
  |_,_=>none
 |.makeFunc (.func f) first caps=>some (.mkfunc f first.toList caps.toList)
 |.makeSlice t l c=>
  match P.underlying t with
  |some (.slice e)=>
   match zeroOf P e with
   |some z=>some (.mkslice z.cells.size (P.bytesOf e) (leaf z) l c)
   |none=>none
  |_=>none
 |.slice t x lo hi mx=>
  match P.underlying t with
  |some (.slice e)=>if mx.isSome&&hi.isNone then none else(P.info? e).map fun i=>.slice i.size x lo hi mx
  |some .string=>if mx.isSome then none else some (.sslice x lo hi)
  |_=>none
 |.fieldAddr s x f=>
  match P.underlying s with
  |some (.struct fs)=>
   match fs[f]? with
   |some fl=>
    match shapeOf P fl.type with
    |some r=>if r.2≠0 then some (.faddr r.1 r.2 fl.offset x)else none
    |none=>none
   |none=>none
  |_=>none
 |.field s x f=>
  match P.underlying s with
  |some (.struct fs)=>
   match fs[f]? with
   |some fl=>(shapeOf P fl.type).map fun r=>.field r.1 r.2 fl.offset x
   |none=>none
  |_=>none
 |.indexAddr t x i=>
  match P.underlying t with
  |some (.slice e)=>(P.info? e).map fun j=>.iaddr j.size x i
  |some (.array n e)=>(shapeOf P e).map fun r=>.aaddr r.1 r.2 n x i
  |_=>none
 |.index t x i=>
  match P.underlying t with
  |some (.array n e)=>(shapeOf P e).map fun r=>.index r.1 r.2 n x i
  |some .string=>some (.sidx x i)
  |_=>none
 |.extract x i=>some (.extract x i)
 |.panic _=>some .fail
 |.makeMap _ none=>some .mkmap
 |.lookup t x k ok=>
  match P.underlying t with
  |some (.map kt et)=>
   match keyKind P kt,zeroOf P et with
   |some K,some z=>some (.mlook K ok (leaf z) x k)
   |_,_=>none
  |_=>none
 |.mapUpdate t m k x=>
  match P.underlying t with
  |some (.map kt _)=>(keyKind P kt).map fun K=>.mput K m k x
  |_=>none
 |.call c=>
  match c.callee,c.args.toList,c.argTypes.toList with
  |.builtin .len,[x],[t]=>
   match P.underlying t with
   |some (.slice _)=>some (.len x)
   |some .string=>some (.slen x)
   |some (.map _ _)=>some (.mlen x)
   |_=>none
  |.builtin .max,xs,_=>some (.mm true xs)
  |.builtin .min,xs,_=>some (.mm false xs)
  |.builtin .append,[x,y],[t,u]=>
   match P.underlying t,P.underlying u with
   |some (.slice e),some (.slice _)=>
    if t=u then
     match P.info? e,zeroOf P e with
     |some i,some _=>if 0<i.bytes then some (.append i.size i.bytes x y)else none
     |_,_=>none
    else none
   |some (.slice e),some (.int .i64)=>
    match P.info? e,zeroOf P e with
    |some i,some z=>if 0<i.bytes then some (.mkapp i.size i.bytes (leaf z) x y)else none
    |_,_=>none
   |_,_=>none
  |.builtin .clear,[x],[t]=>
   match P.underlying t with
   |some (.slice e)=>(zeroOf P e).map fun z=>.clr z.cells.size (leaf z) x
   |_=>none
  |.builtin .cap,[x],[t]=>
   match P.underlying t with
   |some (.slice _)=>some (.capn x)
   |_=>none
  |_,_,_=>none
 |.makeInterface t x=>
  match P.underlying t with
  |some (.interface _)=>none
  |some _=>some (.mkifc t x)
  |none=>none
 |.typeAssert x _ t ok=>
  match P.underlying t,zeroOf P t with
  |some (.interface _),_=>none
  |some _,some z=>some (.tassert ok t (leaf z) x)
  |_,_=>none
 |_=>none
def mrow(P:Program) (name:String) (t:TypeId):Option (FuncId×Option (Bool×Nat)):=
 match P.info? t with
 |some i=>
  match i.methods.find? (·.name==name)with
  |some m=>
   match m.path.isEmpty,m.func,P.underlying t with
   |true,some (f,true),some (.pointer _)=>some (f,none)
   |true,some (f,false),some (.pointer e)=>(shapeOf P e).map fun r=>(f,some r)
   |true,some (f,false),some _=>some (f,none)
   |_,_,_=>none
  |none=>none
 |none=>none
def mtab(P:Program) (name:String):List (TypeId×FuncId×Option (Bool×Nat)):=(wo P.types.size).filterMap fun t=>(mrow P name t).map fun r=>(t,r)
def callOf(P:Program):Op→Option (Cal×List Operand)
 |.call ⟨.value f,args,_⟩=>some (.of f,args.toList)
 |.call ⟨.invoke r n,args,_⟩=>some (.meth r (mtab P n),args.toList)
 |_=>none
inductive RI where
 |op (dst:Option Tmp) (g:Option (Tmp×Bool)) (i:I)
 |call (dst:Option Tmp) (g:Option (Tmp×Bool)) (f:Cal) (args:List Operand)
def guardOf(ops:Array Oper):Option (Nat×Bool)→Option (Option (Tmp×Bool))
 |none=>some none
 |some (j,b)=>
  match (ops[j]?).bind (·.dst)with
  |some t=>some (some (t,b))
  |none=>none
def appsTo(ops:Array Oper) (dt:Tmp):Bool:=ops.toList.any fun o=>
 match o.op with
 |.call ⟨.builtin .append,args,_⟩=>
  match args.toList with
  |.tmp t::_=>t==dt
  |_=>false
 |_=>false
def mvOf(o:Oper):Option (Tmp×Tmp):=
 match o.op,o.dst with
 |.move (.tmp s),some d=>some (s,d)
 |.assign (.tmp s),some d=>some (s,d)
 |_,_=>none
def isBack(ops:Array Oper) (x:Operand) (dt:Tmp):Bool:=
 match x with
 |.tmp y=>ops.toList.any fun o=>
  match mvOf o with
  |some (s,v)=>s==dt&&(v==y || ops.toList.any fun p=>
   match mvOf p with
   |some (s',d')=>s'==v&&d'==y
   |none=>false)
  |none=>false
 |_=>false
def appsOut(ops:Array Oper) (x:Operand):Bool:=
 match x with
 |.tmp y=>ops.toList.any fun o=>
  match o.op with
  |.call ⟨.builtin .append,_,_⟩=>o.dst==some y
  |_=>false
 |_=>false
def truncOf(P:Program) (ops:Array Oper) (o:Oper):Option I:=
 match o.op,o.dst with
 |.slice t x lo hi none,some dt=>
  if appsTo ops dt=true∨isBack ops x dt=true∨appsOut ops x=true then
   match P.underlying t with
   |some (.slice e)=>(P.info? e).map fun i=>.trunc i.size x lo hi
   |_=>none
  else none
 |_,_=>none
def compI'(P:Program) (ops:Array Oper) (o:Oper) (op:Op):Option I:=
 match truncOf P ops o with
 |some i=>some i
 |none=>compI P op
def compOp(P:Program) (ops:Array Oper) (o:Oper):Option RI:=
 match guardOf ops o.guard with
 |none=>none
 |some g=>
  match callOf P o.op with
  |some (f,args)=>some (.call o.dst g f args)
  |none=>(compI' P ops o o.op).map fun i=>.op o.dst g i
def compOps(P:Program) (ops:Array Oper):List Oper→Option (List RI)
 |[]=>some []
 |o::l=>
  match compOp P ops o,compOps P ops l with
  |some r,some rs=>some (r::rs)
  |_,_=>none
def tmpOf:Operand→List Tmp
 |.tmp t=>[t]
 |_=>[]
def optOf:Option Operand→List Tmp
 |some x=>tmpOf x
 |none=>[]
def Cal.tmps:Cal→List Tmp
 |.tmp t=>[t]
 |.meth r _=>tmpOf r
 |_=>[]
def I.reads:I→List Tmp
 |.mv x|.un _ x|.conv _ x|.box _ x|.load _ _ x|.nilc x|.faddr _ _ _ x|.field _ _ _ x|.extract x _|.len x|.slen x=>tmpOf x
 |.pick c a b=>tmpOf c++tmpOf a++tmpOf b
 |.bin _ x y|.beq _ x y|.store _ x y|.iaddr _ x y|.aaddr _ _ _ x y|.index _ _ _ x y|.append _ _ x y|.mkslice _ _ _ x y=>tmpOf x++tmpOf y
 |.alloc _ _=>[]
 |.build _ ps=>ps.flatMap fun p=>tmpOf p.2.2
 |.bslice _ _ _ ps=>ps.flatMap fun p=>tmpOf p.2
 |.slice _ x a b c=>tmpOf x++optOf a++optOf b++optOf c
 |.mkfunc _ a b=>a.flatMap tmpOf++b.flatMap tmpOf
 |.fail=>[]
 |.mm _ xs=>xs.flatMap tmpOf
 |.ceq _ _ x y=>tmpOf x++tmpOf y
 |.strb _ x=>tmpOf x
 |.sidx x i=>tmpOf x++tmpOf i
 |.sslice x a b=>tmpOf x++optOf a++optOf b
 |.mkmap=>[]
 |.mlook _ _ _ x k=>tmpOf x++tmpOf k
 |.mput _ m k x=>tmpOf m++tmpOf k++tmpOf x
 |.mlen x=>tmpOf x
 |.trunc _ x lo hi=>tmpOf x++optOf lo++optOf hi
 |.mkifc _ x|.tassert _ _ _ x|.clr _ _ x|.capn x|.nileq _ x=>tmpOf x
 |.mkapp _ _ _ x y=>tmpOf x++tmpOf y
def I.cls:I→Nat
 |.load ..|.slice ..|.iaddr ..|.len _|.mlook ..|.mlen _|.nileq ..=>1
 |.alloc ..|.box ..|.bslice ..|.mkslice ..|.mkmap=>2
 |.store ..|.append ..|.strb ..|.mput ..|.trunc ..|.clr ..|.mkapp ..=>3
 |_=>0
def RI.dst:RI→Option Tmp
 |.op d _ _=>d
 |.call d _ _ _=>d
def gReads:Option (Tmp×Bool)→List Tmp
 |some (t,_)=>[t]
 |none=>[]
def RI.reads:RI→List Tmp
 |.op _ g i=>gReads g++i.reads
 |.call _ g f args=>gReads g++f.tmps++args.flatMap tmpOf
def RI.cls:RI→Nat
 |.op _ _ i=>i.cls
 |.call ..=>1
def maskOf(acc:List Nat) (b:List Nat):Nat:=b.foldl (fun s e=>s ||| 2 ^ e ||| acc.getD e 0) 0
def masksFrom(acc:List Nat):List (List Nat)→List Nat
 |[]=>acc
 |b::bs=>masksFrom (acc++[maskOf acc b]) bs
def masks(bs:List (List Nat)):List Nat:=masksFrom [] bs
def clash(x y:RI):Bool:=
 (
  match x.dst with
  |some t=>y.reads.contains t || y.dst==some t
  |none=>false) ||
 (
  match y.dst with
  |some t=>x.reads.contains t
  |none=>false) ||
 (x.cls==2&&y.cls==2)
def drawOk(bs:List (List Nat)) (rl:List RI) (q:Nat):Bool:=
 let ms:=masks bs
 bs.length==rl.length&&(q≤rl.length) &&
 ((wo bs.length).all fun i=>(bs.getD i []).all fun e=>decide (e<i)) &&
 ((
  wo rl.length).all fun j=>match rl[j]? with
  |none=>false
  |some y=>if j<q then decide (y.cls≤2)&&(wo j).all fun i=>match rl[i]? with
   |none=>false
   |some x=>!clash x y || (ms.getD j 0).testBit i
   else(wo j).all fun i=>(ms.getD j 0).testBit i)
def tailOk(bs:List (List Nat)) (rl:List RI) (cuts:List Nat) (q:Nat):Bool:=
 let ms:=masks bs
 (cuts.all fun p=>(wo rl.length).all fun j=>decide (j<p) || (wo p).all fun i=>(ms.getD j 0).testBit i) &&
 bs.length==rl.length&&(q≤rl.length) &&
 ((wo bs.length).all fun i=>(bs.getD i []).all fun e=>decide (e<i)) &&
 ((wo rl.length).all fun j=>decide (j<q) || (wo j).all fun i=>(ms.getD j 0).testBit i)
def qOf(bs:List (List Nat)) (n:Nat):Nat:=
 let ms:=masks bs
 (wo n).foldl (fun q j=>if(wo j).all (fun i=>(ms.getD j 0).testBit i)then q else j+1) 0
def cutsOf(bs:List (List Nat)) (n q:Nat):List Nat:=
 let ms:=masks bs
 (wo q).filter fun p=>decide (0<p)&&(wo n).all fun j=>decide (j<p) || (wo p).all fun i=>(ms.getD j 0).testBit i
inductive C where
 |skip
 |reg (l:List RI)
 |draw (q:Nat) (l:List RI)
 |any (cuts:List Nat) (q:Nat) (bs:List (List Nat)) (l:List RI)
 |seq (a b:C)
 |cond (c:Operand) (a b:C)
 |block (id:Nat) (a:C)
 |loop (a:C)
 |exit (id:Nat)
 |ret
 |stuck
def befores(ops:Array Oper):List (List Nat):=ops.toList.map fun o=>(o.after.toList.filter fun e=>Region.binds .any e).map (·.on)
def comp(P:Program):Code→Option C
 |.skip=>some .skip
 |.region _ ops false=>(compOps P ops ops.toList).map .reg
 |.region _ ops true=>
  match compOps P ops ops.toList with
  |some rl=>
   if drawOk (befores ops) rl (qOf (befores ops) rl.length)=true then some (.draw (qOf (befores ops) rl.length) rl)
   else if tailOk (befores ops) rl (cutsOf (befores ops) rl.length (qOf (befores ops) rl.length)) (qOf (befores ops) rl.length)=true then
    some (.any (cutsOf (befores ops) rl.length (qOf (befores ops) rl.length)) (qOf (befores ops) rl.length) (befores ops) rl)else none
  |none=>none
 |.seq a b=>
  match comp P a,comp P b with
  |some x,some y=>some (.seq x y)
  |_,_=>none
 |.cond c a b=>
  match comp P a,comp P b with
  |some x,some y=>some (.cond c x y)
  |_,_=>none
 |.block id a=>(comp P a).map (.block id)
 |.loop a=>(comp P a).map .loop
 |.exit id=>some (.exit id)
 |.ret=>some .ret
 |.label _=>some .skip
 |.rangeFunc ..=>some .stuck
 |_=>none
inductive RV where
 |tmp (t:Tmp)
 |cell (A:Bool) (n:Nat) (a:Tmp)
structure Fun where
 ntmps:Nat
 results:List RV
 code:C
def compRV(P:Program):ResultVar→Option RV
 |.tmp t=>some (.tmp t)
 |.cell a t=>(shapeOf P t).map fun r=>.cell r.1 r.2 a
def compRVs(P:Program):List ResultVar→Option (List RV)
 |[]=>some []
 |r::l=>
  match compRV P r,compRVs P l with
  |some x,some y=>some (x::y)
  |_,_=>none
def compF(P:Program) (f:FuncId):Option Fun:=
 match P.funcs[f]? with
 |some fn=>
  match fn.body,compRVs P fn.results.toList with
  |some b,some r=>(comp P b).map fun c=>⟨fn.ntmps,r,c⟩
  |_,_=>none
 |none=>none
end Go.Tm
namespace Go.Tm
open Go.RowKit (Below)
def Good(G:Gh) (w:World) (m:List Ent) (r:Result Next) (d:D) (m':List Ent):Prop:=
 ∃nx w' G',r=.ok nx w'∧((∃u,nx=.value u∧VRel G' w' d u)∨(nx=.skip∧d=.dead))∧Inv G' w' m'∧Step G w m G' w' m'
theorem good_here{G:Gh}{w:World}{m:List Ent}{d:D}{u:Value}{r:Result Next}(hi:Inv G w m) (hr:r=.ok (.value u) w) (hd:VRel G w d u):Good G w m r d m:=
 ⟨_,w,G,hr,.inl ⟨u,rfl,hd⟩,hi,Step.refl _ _ _⟩
theorem pureRun_run{α:Type}{P:Program}{s:Sem α}{a:α}(h:pureRun s=some a) (w:World):s.run P w=.ok a w:=by
 cases s<;>simp[pureRun]at h;subst h;rfl
theorem run_sizeOf'{P:Program}{t:TypeId}{i:TypeInfo}(h:P.info? t=some i) (w:World):(sizeOf t).run P w=.ok i.size w:=by
 simp[sizeOf,typeInfo,h]
theorem run_zero{P:Program}{t:TypeId}{z:Value}(h:zeroOf P t=some z) (w:World):(zeroValue t).run P w=.ok z w∧z.cells.all one=true∧0<z.cells.size∧∃i,P.info? t=some i∧i.size=z.cells.size∧i.zero=some z:=by
 unfold zeroOf at h;split at h
 ·rename_i i hi;split at h
  ·rename_i z' hz;split at h
   ·rename_i hc;injection h with h;subst h;refine⟨by simp[zeroValue,typeInfo,hi,hz],by simpa using hc.1,by omega,i,hi,hc.2.1.symm,hz⟩
   ·cases h
  ·cases h
 ·cases h
def isAggD:TypeDesc→Bool
 |.struct _|.array _ _=>true
 |_=>false
theorem shape_parts{P:Program}{t:TypeId}{r:Bool×Nat}(h:shapeOf P t=some r):∃d i,P.underlying t=some d∧P.info? t=some i∧r=(isAggD d,i.size):=by
 unfold shapeOf at h;split at h<;>first|(cases h;done)|skip
 ·rename_i hd hi;injection h with h;subst h;exact⟨_,_,hd,hi,rfl⟩
 ·rename_i hd hi;injection h with h;subst h;exact⟨_,_,hd,hi,rfl⟩
 ·rename_i d i h1 h2 hd hi;injection h with h;subst h;refine⟨_,_,hd,hi,?_⟩;cases d<;>first|rfl|exact(h1 _ rfl).elim|exact(h2 _ _ rfl).elim
theorem run_isAgg'{P:Program}{t:TypeId}{d:TypeDesc}(h:P.underlying t=some d) (w:World):(isAgg t).run P w=.ok (isAggD d) w:=by
 unfold isAgg;simp only[Sem.run_bind,run_underlying h,Result.andThen_ok];cases d<;>rfl
theorem VsRel.getElem{G:Gh}{w:World}:∀{l:List D}{us:List Value}{i:Nat}{d:D},VsRel G w l us→l[i]?=some d→∃u,us[i]?=some u∧VRel G w d u
 |[],us,i,d,h,hd=>by simp at hd
 |e::l,us,i,d,h,hd=>by
  simp only[VsRel]at h;obtain⟨u,r,rfl,h1,h2⟩:=h
  cases i with
  |zero=>simp at hd;subst hd;exact⟨u,by simp,h1⟩
  |succ i=>simpa using VsRel.getElem (i:=i) h2 (by simpa using hd)
theorem VsRel.drop{G:Gh}{w:World}:∀{l:List D}{us:List Value}(k:Nat),VsRel G w l us→VsRel G w (l.drop k) (us.drop k)
 |[],us,k,h=>by simp[VsRel]at h;simp[h,VsRel]
 |e::l,us,k,h=>by
  cases k with
  |zero=>simpa using h
  |succ k=>
   simp only[VsRel]at h;obtain⟨u,r,rfl,h1,h2⟩:=h;simpa using VsRel.drop k h2
theorem VsRel.take{G:Gh}{w:World}:∀{l:List D}{us:List Value}(k:Nat),VsRel G w l us→VsRel G w (l.take k) (us.take k)
 |[],us,k,h=>by simp[VsRel]at h;simp[h,VsRel]
 |e::l,us,k,h=>by
  cases k with
  |zero=>simp[VsRel]
  |succ k=>
   simp only[VsRel]at h;obtain⟨u,r,rfl,h1,h2⟩:=h;simp only[Zo,VsRel];exact⟨u,_,rfl,h1,VsRel.take k h2⟩
theorem VsRel.append{G:Gh}{w:World}:∀{l l':List D}{us us':List Value},VsRel G w l us→VsRel G w l' us'→VsRel G w (l++l') (us++us')
 |[],l',us,us',h,h'=>by simp[VsRel]at h;simpa [h] using h'
 |e::l,l',us,us',h,h'=>by
  simp only[VsRel]at h;obtain⟨u,r,rfl,h1,h2⟩:=h;simp only[xo,VsRel];exact⟨u,_,rfl,h1,VsRel.append h2 h'⟩
theorem VRel.cells{G:Gh}{w:World}{d:D}{u:Value}(h:VRel G w d u) (hok:d.ok=true):VsRel G w d.cells u.cells.toList∧∀c∈u.cells.toList,one c=true:=by
 have single:u.cells = #[u]→one u=true→d.cells=[d]→VsRel G w d.cells u.cells.toList∧∀c∈u.cells.toList,one c=true:=by
  intro h1 h2 h3;rw[h1,h3];refine⟨?_,by simpa using h2⟩;simp only[VsRel];exact⟨u,[],rfl,h,rfl⟩
 cases d with
 |v x=>
  simp only[VRel]at h;subst h;simp only[D.ok]at hok;cases u<;>first|exact single rfl rfl rfl|simp[one]at hok
 |agg l=>
  simp only[VRel]at h;obtain⟨cs,rfl,h,h1⟩:=h;exact⟨by simpa [Value.cells,D.cells] using h,by simpa [Value.cells] using h1⟩
 |tup l=>simp[D.ok]at hok
 |sl S l=>obtain⟨a,n,cap,rfl,-⟩:=(by simpa only[VRel] using h:∃a n cap,u=.slice a n cap∧_);exact single rfl rfl rfl
 |pt d=>obtain⟨b,off,x,rfl,-⟩:=(by simpa only[VRel] using h:∃b off x,u=.pointer (some ⟨b,off,none⟩)∧_);exact single rfl rfl rfl
 |ref id ver idx sub=>obtain⟨a,rfl,-⟩:=(by simpa only[VRel] using h:∃a,u=.pointer (some a)∧_);exact single rfl rfl rfl
 |own id ver=>obtain⟨a,n,c,rfl,-⟩:=(by simpa only[VRel] using h:∃a n c,u=.slice a n c∧_);exact single rfl rfl rfl
 |view id ver lo n=>obtain⟨a,c,rfl,-⟩:=(by simpa only[VRel] using h:∃a c,u=.slice a n c∧_);exact single rfl rfl rfl
 |fn f a b=>obtain⟨fs,cs,rfl,-⟩:=(by simpa only[VRel] using h:∃fs cs:List Value,u=.func (.func f) fs.toArray cs.toArray∧_);exact single rfl rfl rfl
 |mp id=>obtain⟨b,rfl,-⟩:=(by simpa only[VRel] using h:∃b,u=.map (some b)∧_);exact single rfl rfl rfl
 |ifc t e=>obtain⟨x,rfl,-⟩:=(by simpa only[VRel] using h:∃x,u=.iface t x∧_);exact single rfl rfl rfl
 |dead=>simp[D.ok]at hok
end Go.Tm
namespace Go.Tm
open Go.RowKit (Below)
section
variable {P:Program} {G:Gh} {w:World} {a:Act} {s:St} {d:D} {m':List Ent}
theorem guard_int(op:BinOp) (t:TypeId) (x y:Operand) (j k:IntKind) (p q:Int) (w:World):(eqGuard op t x y (.int j p) (.int k q)).run P w=.ok () w:=by
 unfold eqGuard;cases op<;>rfl
theorem guard_string(op:BinOp) (t:TypeId) (x y:Operand) (p q:ByteArray) (w:World):(eqGuard op t x y (.string p) (.string q)).run P w=.ok () w:=by
 unfold eqGuard;cases op<;>rfl
theorem guard_bool(op:BinOp) (t:TypeId) (x y:Operand) (p q:Bool) (w:World):(eqGuard op t x y (.bool p) (.bool q)).run P w=.ok () w:=by
 unfold eqGuard;cases op<;>rfl
theorem binOp_int(op:BinOp) (t:TypeId) (j k:IntKind) (p q:Int):binOp op t (.int j p) (.int k q)=binOp op 0 (.int j p) (.int k q):=by cases op<;>rfl
theorem binOp_string(op:BinOp) (t:TypeId) (p q:ByteArray):binOp op t (.string p) (.string q)=binOp op 0 (.string p) (.string q):=by cases op<;>rfl
theorem g_bin(hr:Rel G w a s) {op:BinOp}{t:TypeId}{x y:Operand}{yt:TypeId}{o:Oper}(ho:o.op=.binOp op t x y yt) (he:evalI s (.bin op x y)=some (d,m')) :
 Good G w s.m ((execOp a.eval o).run P w) d m':=by
 have hx:=hr.ev x;have hy:=hr.ev y;simp only[evalI]at he;unfold execOp;simp only[ho];generalize s.ev x=dx at *;generalize s.ev y=dy at *;split at he
 ·simp only[VRel]at hx hy;simp only[hx,hy,sn,Bn]at he⊢;obtain⟨r,hp,rfl,rfl⟩:=he;refine good_here (u:=r) hr.inv ?_ (by simp[VRel]);simp[guard_int,binOp_int op t,pureRun_run hp]
 ·simp only[VRel]at hx hy;simp only[hx,hy,sn,Bn]at he⊢;obtain⟨r,hp,rfl,rfl⟩:=he;refine good_here (u:=r) hr.inv ?_ (by simp[VRel]);simp[guard_string,binOp_string op t,pureRun_run hp]
 ·cases he
theorem run_equal_bool(t:TypeId) (ht:P.underlying t=some .bool) (p q:Bool) (w:World):(Op.equal t (.bool p) (.bool q)).run P w=.ok (p==q) w:=by
 unfold Op.equal Op.maxDepth;rw[show(10000:Nat)=9999+1 from rfl,Op.equalIn];simp only[Sem.run_bind,run_underlying ht,Result.andThen_ok];rfl
theorem g_beq(hr:Rel G w a s) {op:BinOp}{t:TypeId}{x y:Operand}{yt:TypeId}{o:Oper}(ho:o.op=.binOp op t x y yt) (ht:P.underlying t=some .bool) {neg:Bool}
 (hop:(op=.eql∧neg=false)∨(op=.neq∧neg=true)) (he:evalI s (.beq neg x y)=some (d,m')) :
 Good G w s.m ((execOp a.eval o).run P w) d m':=by
 have hx:=hr.ev x;have hy:=hr.ev y;simp only[evalI]at he;unfold execOp;simp only[ho];generalize s.ev x=dx at *;generalize s.ev y=dy at *;split at he
 ·simp only[VRel]at hx hy;simp only[hx,hy]at he⊢;injection he with he;injection he with h1 h2;subst h1;subst h2;rename_i p q;rcases hop with⟨rfl,rfl⟩|⟨rfl,rfl⟩
  ·refine good_here (u:=.bool (p==q)) hr.inv ?_ (by simp[VRel]);have hb:binOp .eql t (.bool p) (.bool q)=(do pure (.bool (←Op.equal t (.bool p) (.bool q)))):=rfl;simp[guard_bool,hb,run_equal_bool t ht]
  ·refine good_here (u:=.bool (!(p==q))) hr.inv ?_ (by simp[VRel]);have hb:binOp .neq t (.bool p) (.bool q)=(do pure (.bool (!(←Op.equal t (.bool p) (.bool q))))):=rfl;simp[guard_bool,hb,run_equal_bool t ht]
 ·cases he
theorem g_un(hr:Rel G w a s) {op:UnOp}{t:TypeId}{x:Operand}{o:Oper}(ho:o.op=.unOp op t x) (he:evalI s (.un op x)=some (d,m')) :
 Good G w s.m ((execOp a.eval o).run P w) d m':=by
 have hx:=hr.ev x;simp only[evalI]at he;unfold execOp;simp only[ho];generalize s.ev x=dx at *;split at he
 ·simp only[VRel]at hx;simp only[hx,sn,Bn]at he⊢;obtain⟨r,hp,rfl,rfl⟩:=he;refine good_here (u:=r) hr.inv ?_ (by simp[VRel]);simp[pureRun_run hp]
 ·cases he
theorem g_mv(hr:Rel G w a s) {x:Operand}{o:Oper}(ho:o.op=.move x∨o.op=.assign x) (he:evalI s (.mv x)=some (d,m')) :
 Good G w s.m ((execOp a.eval o).run P w) d m':=by
 have hx:=hr.ev x;simp only[evalI]at he;injection he with he;injection he with h1 h2;subst h1;subst h2;refine good_here (u:=a.eval x) hr.inv ?_ hx;unfold execOp;rcases ho with ho|ho<;>simp[ho]
theorem g_pick(hr:Rel G w a s) {c x y:Operand}{o:Oper}(ho:o.op=.pick c x y) (he:evalI s (.pick c x y)=some (d,m')) :
 Good G w s.m ((execOp a.eval o).run P w) d m':=by
 have hc:=hr.ev c;have hx:=hr.ev x;have hy:=hr.ev y;simp only[evalI]at he;unfold execOp;simp only[ho];generalize s.ev c=dc at *;split at he
 ·simp only[VRel]at hc;simp only[hc]at he⊢;injection he with he;injection he with h1 h2;subst h1;subst h2;rename_i b;refine good_here (u:=if b then a.eval x else a.eval y) hr.inv ?_ ?_
  ·simp[asBool]
  ·cases b<;>assumption
 ·cases he
theorem g_conv(hr:Rel G w a s) {k:IntKind}{x:Operand}{o:Oper}{src dst:TypeId}{j:IntKind}(ho:o.op=.convert src dst x) (h1:P.underlying src=some (.int j)) (h2:P.underlying dst=some (.int k)) (he:evalI s (.conv k x)=some (d,m')) :
 Good G w s.m ((execOp a.eval o).run P w) d m':=by
 have hx:=hr.ev x;simp only[evalI]at he;unfold execOp;simp only[ho];generalize s.ev x=dx at *;split at he
 ·simp only[VRel]at hx;simp only[hx]at he⊢;injection he with he;injection he with h3 h4;subst h3;subst h4;rename_i n;refine good_here (u:=.int k (k.wrap n)) hr.inv ?_ (by simp[VRel]);simp[convert,run_underlying h1,run_underlying h2,Conv.intToInt]
 ·cases he
theorem g_extract(hr:Rel G w a s) {x:Operand}{i:Nat}{o:Oper}(ho:o.op=.extract x i) (he:evalI s (.extract x i)=some (d,m')) :
 Good G w s.m ((execOp a.eval o).run P w) d m':=by
 have hx:=hr.ev x;simp only[evalI]at he;unfold execOp;simp only[ho];generalize s.ev x=dx at *;split at he
 ·simp only[VRel]at hx;obtain⟨cs,hx,hv⟩:=hx;simp only[hx,sn,Bn]at he⊢;obtain⟨e,hl,rfl,rfl⟩:=he;obtain⟨u,hu,hd⟩:=hv.getElem hl;refine good_here (u:=u) hr.inv ?_ hd;simp[Instr.extract,hu]
 ·cases he
theorem g_mkfunc(hr:Rel G w a s) {f:FuncId}{first caps:Array Operand}{o:Oper}(ho:o.op=.makeFunc (.func f) first caps) (he:evalI s (.mkfunc f first.toList caps.toList)=some (d,m')) :
 Good G w s.m ((execOp a.eval o).run P w) d m':=by
 simp only[evalI]at he;injection he with he;injection he with h1 h2;subst h1;subst h2;have all:∀l:List Operand,VsRel G w (l.map s.ev) (l.map a.eval):=by
  intro l
  induction l with
  |nil=>simp[VsRel]
  |cons x l ih=>simp only[Vn,VsRel];exact⟨_,_,rfl,hr.ev x,ih⟩
 refine good_here (u:=.func (.func f) (first.map a.eval) (caps.map a.eval)) hr.inv ?_ ?_
 ·unfold execOp;simp[ho,Instr.makeFunc]
 ·simp only[VRel];exact⟨first.toList.map a.eval,caps.toList.map a.eval,by simp[←Mr],all _,all _⟩
theorem g_nilc(hr:Rel G w a s) {x:Operand}{o:Oper}(ho:o.op=.nilCheck x) (he:evalI s (.nilc x)=some (d,m')) :
 Good G w s.m ((execOp a.eval o).run P w) d m':=by
 have hx:=hr.ev x;simp only[evalI]at he;unfold execOp;simp only[ho];generalize s.ev x=dx at *;split at he
 ·injection he with he;injection he with h1 h2;subst h1;subst h2;have hx':=hx;simp only[VRel]at hx;obtain⟨p,hx,-⟩:=hx;exact good_here (u:=a.eval x) hr.inv (by simp[hx]) hx'
 ·injection he with he;injection he with h1 h2;subst h1;subst h2;have hx':=hx;simp only[VRel]at hx;obtain⟨b,off,u,hx,-⟩:=hx;exact good_here (u:=a.eval x) hr.inv (by simp[hx]) hx'
 ·cases he
theorem foldl_splice(off:Nat):∀(vs:List Value) (k:Nat) (cells:Array Value),off+k+vs.length≤cells.size→
 ((vs.zipIdx k).foldl (fun cs (x:Value×Nat)=>cs.setIfInBounds (off+x.2) x.1) cells).toList=cells.toList.take (off+k)++vs++cells.toList.drop (off+k+vs.length)
 |[],k,cells,h=>by simp
 |v::vs,k,cells,h=>by
  simp only[jo]at h;rw[List.zipIdx_cons,List.foldl_cons,foldl_splice off vs (k+1) _ (by simp;omega)];have e:=list_seg_step cells.toList (off+k) v vs (by simp;omega);simpa [Array.toList_setIfInBounds,Qq,Yo 1] using e
def Fits(place:Nat→Option (Nat×Nat)):List (Nat×Operand)→List (Nat×Nat×Operand)→Prop
 |[],qs=>qs=[]
 |(i,x)::ps,qs=>∃off n r,qs=(off,n,x)::r∧place i=some (off,n)∧Fits place ps r
theorem g_fill(hr:Rel G w a s) {place:Nat→Option (Nat×Nat)}:∀{ps:List (Nat×Operand)}{qs:List (Nat×Nat×Operand)}{l l':List D}{cells:Array Value},
 Fits place ps qs→buildD s qs l=some l'→VsRel G w l cells.toList→(∀c∈cells.toList,one c=true)→
 ∃cells':Array Value,Instr.fill place cells (ps.map fun p=>(p.1,a.eval p.2))=some cells'∧VsRel G w l' cells'.toList∧∀c∈cells'.toList,one c=true
 |[],_,l,l',cells,hps,hb,hv,h1=>by
  simp only[Fits]at hps;subst hps;simp only[buildD]at hb;injection hb with hb;subst hb;exact⟨cells,rfl,hv,h1⟩
 |(i,x)::ps,_,l,l',cells,hps,hb,hv,h1=>by
  simp only[Fits]at hps;obtain⟨off,n,qs,rfl,hp,hps⟩:=hps;simp only[buildD]at hb;split at hb
  ·rename_i hc;obtain⟨hok,hlen,hoff⟩:=hc;obtain⟨hcells,hones⟩:=(hr.ev x).cells hok;have hl1:=hcells.length;have hl2:=hv.length;have hsz:(a.eval x).cells.size=n:=by rw[←Ao,hl1,hlen]
   have hsz2:cells.size=l.length:=by rw[←Ao,hl2]
   have hf:=foldl_splice off (a.eval x).cells.toList 0 cells (by simp;omega);refine ?_;have key:=g_fill hr (place:=place) (ps:=ps) (qs:=qs) (l:=splice l off (s.ev x).cells) (l':=l')
    (cells:=(a.eval x).cells.zipIdx.foldl (fun cs (x:Value×Nat)=>cs.setIfInBounds (off+x.2) x.1) cells) hps hb
   have hlist:((a.eval x).cells.zipIdx.foldl (fun cs (x:Value×Nat)=>cs.setIfInBounds (off+x.2) x.1) cells).toList=cells.toList.take off++(a.eval x).cells.toList++cells.toList.drop (off+(a.eval x).cells.toList.length):=by
    rw[←As,Xr];simpa using hf
   obtain⟨cells',hc1,hc2,hc3⟩:=key (by
    rw[hlist,splice,←hl1];exact((hv.take off).append hcells).append (hv.drop _)) (by
    rw[hlist];intro c hc;simp only[Fo]at hc;rcases hc with(hc|hc)|hc
    ·exact h1 c (Tp hc)
    ·exact hones c hc
    ·exact h1 c (Fp hc))
   refine⟨cells',?_,hc2,hc3⟩;simp only[Vn,Instr.fill,hp];rw[if_neg (by simp[hsz];omega)];exact hc1
  ·cases hb
theorem vsRel_leaf:∀(l:List Value),VsRel G w (l.map .v) l
 |[]=>by simp[VsRel]
 |x::l=>by simp only[Vn,VsRel];exact⟨x,l,rfl,by simp[VRel],vsRel_leaf l⟩
theorem fits_parts(places:List (Nat×Nat)):∀{ps:List (Nat×Operand)}{qs:List (Nat×Nat×Operand)},partsOf places ps=some qs→Fits (places[·]?) ps qs
 |[],qs,h=>by simp[partsOf]at h;simp[Fits,h]
 |(i,x)::ps,qs,h=>by
  simp only[partsOf]at h;split at h
  ·rename_i off n r h1 h2;injection h with h;subst h;simp only[Fits];exact⟨off,n,r,rfl,h1,fits_parts places h2⟩
  ·cases h
theorem fits_array(n:Nat):∀(ps:List (Nat×Operand)),Fits (fun k=>some (k*n,n)) ps (ps.map fun(k,x)=>(k*n,n,x))
 |[]=>by simp[Fits]
 |(i,x)::ps=>by simp only[Fits,Vn];exact⟨_,_,_,rfl,rfl,fits_array n ps⟩
theorem g_build(hr:Rel G w a s) {t:TypeId}{ps:Array (Nat×Operand)}{fs:Array Field}{z:Value}{places:List (Nat×Nat)}{qs:List (Nat×Nat×Operand)}{o:Oper}(ho:o.op=.build t ps)
 (ht:P.underlying t=some (.struct fs)) (hz:zeroOf P t=some z) (hp:(fs.toList.mapM fun f=>(P.info? f.type).map fun i=>(f.offset,i.size))=some places) (hq:partsOf places ps.toList=some qs)
 (he:evalI s (.build (z.cells.toList.map .v) qs)=some (d,m')):Good G w s.m ((execOp a.eval o).run P w) d m':=by
 simp only[evalI,sn,Bn]at he;obtain⟨l',hb,rfl,rfl⟩:=he;obtain⟨hz1,hz2,-⟩:=run_zero hz w;obtain⟨cells',h1,h2,h3⟩:=g_fill hr (ps:=ps.toList) (place:=(places[·]?)) (cells:=z.cells) (fits_parts places hq) hb (vsRel_leaf _) (fun c hc=>by simp only[Zq]at hz2;obtain⟨i,hi,rfl⟩:=Co hc;simpa using hz2 i (by simpa using hi));refine good_here (u:=.agg cells') hr.inv ?_ ?_
 ·unfold execOp;simp only[ho];have hpl:=run_places (P:=P) w fs.toList places hp;have hmap:(ps.map fun(i,x)=>(i,a.eval x)).toList=ps.toList.map fun p=>(p.1,a.eval p.2):=by simp
  simp[Instr.build,hz1,run_underlying ht,Array.mapM_eq_mapM_toList,hpl,h1]
 ·simp only[VRel];exact⟨cells'.toList,by simp,h2,h3⟩
theorem g_buildA(hr:Rel G w a s) {t e:TypeId}{n:Nat}{ps:Array (Nat×Operand)}{i:TypeInfo}{z:Value}{o:Oper}(ho:o.op=.build t ps)
 (ht:P.underlying t=some (.array n e)) (hz:zeroOf P t=some z) (hi:P.info? e=some i)
 (he:evalI s (.build (z.cells.toList.map .v) (ps.toList.map fun(k,x)=>(k*i.size,i.size,x)))=some (d,m')):Good G w s.m ((execOp a.eval o).run P w) d m':=by
 simp only[evalI,sn,Bn]at he;obtain⟨l',hb,rfl,rfl⟩:=he;obtain⟨hz1,hz2,-⟩:=run_zero hz w;obtain⟨cells',h1,h2,h3⟩:=g_fill hr (ps:=ps.toList) (place:=fun k=>some (k*i.size,i.size)) (cells:=z.cells) (fits_array i.size ps.toList) hb (vsRel_leaf _) (fun c hc=>by simp only[Zq]at hz2;obtain⟨i,hi,rfl⟩:=Co hc;simpa using hz2 i (by simpa using hi));refine good_here (u:=.agg cells') hr.inv ?_ ?_
 ·unfold execOp;simp only[ho];simp[Instr.build,hz1,run_underlying ht,run_sizeOf' hi,h1]
 ·simp only[VRel];exact⟨cells'.toList,by simp,h2,h3⟩
end
end Go.Tm
namespace Go.Tm
open Go.RowKit (Below)
section
variable {P:Program} {G:Gh} {w:World} {a:Act} {s:St} {d:D} {m':List Ent}
theorem part_agg{l:List D}{cs:List Value}(h:VsRel G w l cs) (h1:∀c∈cs,one c=true) {n off:Nat}{r:D}(hp:part true n off l=some r) :
 off+n≤cs.length∧VRel G w r (.agg ((cs.drop off).take n).toArray):=by
 simp only[part]at hp;split at hp
 ·rename_i hlt;injection hp with hp;subst hp;refine⟨by rw[h.length];exact hlt,?_⟩;simp only[VRel];exact⟨(cs.drop off).take n,rfl,(h.drop off).take n,fun c hc=>h1 c (Fp (Tp hc))⟩
 ·cases hp
theorem part_one{l:List D}{cs:List Value}(h:VsRel G w l cs) {n off:Nat}{r:D}(hp:part false n off l=some r):∃u,cs[off]?=some u∧VRel G w r u:=
 h.getElem hp
theorem part_at{l:List D}{cs:List Value}(h:VsRel G w l cs) (h1:∀c∈cs,one c=true) {A:Bool}{n off:Nat}{r:D}(hp:part A n off l=some r) {b o:Nat}(hh:HasAt w b o (.agg cs.toArray)) :
 ∃u,VRel G w r u∧HasAt w b (o+off) u:=by
 have hget:∀(k:Nat) c,cs[k]?=some c→one c=true∧w.cell? ⟨b,o+k,none⟩=some c:=fun k c hc=>hh k c (by simpa [Value.cells] using hc)
 cases A with
 |true=>
  obtain⟨hlt,hv⟩:=part_agg h h1 hp;refine⟨_,hv,fun j c hc=>?_⟩;simp only[Value.cells,xp,Cp,nq]at hc;split at hc
  ·have:=hget (off+j) c hc;rwa [Qq]
  ·cases hc
 |false=>
  obtain⟨u,hu,hv⟩:=part_one h hp;obtain⟨g1,g2⟩:=hget off u hu;refine⟨u,hv,fun j c hc=>?_⟩;have hcells:u.cells = #[u]:=by cases u<;>first|rfl|simp[one]at g1
  rw[hcells]at hc
  cases j with
  |zero=>simp at hc;subst hc;exact⟨g1,g2⟩
  |succ j=>simp at hc
theorem addr_add(b o n:Nat):(⟨b,o,none⟩:Addr).add n=⟨b,o+n,none⟩:=by
 unfold Addr.add;split<;>simp_all
theorem run_loadVar_at{t:TypeId}{ds:TypeDesc}{i:TypeInfo}(hd:P.underlying t=some ds) (hi:P.info? t=some i) {b o:Nat}{u:Value}(hh:HasAt w b o u)
 (hA:(isAggD ds=true∧∃cs,u=.agg cs∧cs.size=i.size)∨(isAggD ds=false∧u.cells = #[u])) :
 (Instr.loadAt t (.pointer (some ⟨b,o,none⟩))).run P w=.ok u w:=by
 unfold Instr.loadAt loadVar;rcases hA with⟨h1,cs,rfl,h2⟩|⟨h1,h2⟩
 ·have hl:=run_loadCells_list (P:=P) w ⟨b,o,none⟩ cs.toList (fun j v hv=>by rw[addr_add];exact(hh j v (by simpa [Value.cells] using hv)).2);simp only[Ao,h2]at hl;simp[Instr.sureAddr,run_isAgg' hd,h1,run_sizeOf' hi,hl]
 ·have hc:=(hh 0 u (by rw[h2];rfl)).2;simp only[ep]at hc;simp[Instr.sureAddr,run_isAgg' hd,h1,hc]
theorem load_run(hr:Rel G w a s) {t:TypeId}{x:Operand}{r:Bool×Nat}(hs:shapeOf P t=some r) (he:evalI s (.load r.1 r.2 x)=some (d,m')) :
 ∃p u,a.eval x=.pointer (some p)∧(loadVar t p).run P w=.ok u w∧VRel G w d u∧m'=s.m:=by
 obtain⟨ds,i,hd,hi,rfl⟩:=shape_parts hs;have hx:=hr.ev x;simp only[evalI]at he;have fin:∀{b off:Nat} {u:Value},a.eval x=.pointer (some ⟨b,off,none⟩)→HasAt w b off u→((isAggD ds=true∧∃cs,u=.agg cs∧cs.size=i.size)∨(isAggD ds=false∧u.cells = #[u]))→
  VRel G w d u→m'=s.m→∃p u,a.eval x=.pointer (some p)∧(loadVar t p).run P w=.ok u w∧VRel G w d u∧m'=s.m:=by
  rintro b off u hp hh hA hv rfl;refine⟨_,u,hp,?_,hv,rfl⟩;have:=run_loadVar_at hd hi hh hA;simpa [Instr.loadAt,Instr.sureAddr] using this
 generalize s.ev x=dx at *;split at he
 ·rename_i e;simp only[VRel]at hx;obtain⟨b,off,u,hp,hF,hv,hh⟩:=hx
  cases hAA:isAggD ds with
  |true=>
   rw[hAA]at he;cases e<;>simp only[reduceCtorEq]at he;rename_i l;split at he
   ·rename_i hl;injection he with he;injection he with h1 h2;subst h1;have hv':=hv;simp only[VRel]at hv;obtain⟨cs,rfl,hv,ho1⟩:=hv;exact fin hp hh (.inl ⟨hAA,_,rfl,by simpa [hv.length] using hl⟩) hv' h2.symm
   ·cases he
  |false=>
   rw[hAA]at he;by_cases hagg:∃l,e=.agg l
   ·obtain⟨l,rfl⟩:=hagg;simp at he
   ·have hc1:e.cells=[e]:=by cases e<;>first|rfl|exact(hagg ⟨_,rfl⟩).elim
    have he':e.ok=true∧e=d∧s.m=m':=by
     cases e<;>first|exact(hagg ⟨_,rfl⟩).elim|(simp at he;simpa using he)
    obtain⟨hok,rfl,h2⟩:=he';obtain⟨hvc,hones⟩:=hv.cells hok;rw[hc1]at hvc;simp only[VsRel]at hvc;obtain⟨c,rr,hcl,hvc,rfl⟩:=hvc;have g1:one c=true:=hones c (by rw[hcl];simp);refine fin hp (u:=c) (fun j c' hc'=>?_) (.inr ⟨hAA,by cases c<;>first|rfl|simp[one]at g1⟩) hvc h2.symm;have hcells:c.cells = #[c]:=by cases c<;>first|rfl|simp[one]at g1
    rw[hcells]at hc';have hcl':u.cells[0]?=some c:=by rw[←Zn,hcl];rfl
    cases j with
    |zero=>simp at hc';subst hc';exact hh 0 c hcl'
    |succ j=>simp at hc'
 ·rename_i id ver idx sub;split at he
  ·rename_i S ver' l hm;split at he
   ·rename_i hver;subst hver;simp only[Ep]at he;obtain⟨e,hl,he⟩:=he;split at he
    ·rename_i hok;simp only[sn,Bn]at he;obtain⟨rr,hp,rfl,rfl⟩:=he;simp only[VRel]at hx;obtain⟨p,hp',hid,_,hx⟩:=hx;obtain⟨a1,a2,a3,a4,a5⟩:=hr.inv.ent _ _ hm;obtain⟨b,hb,rfl⟩:=hx a1;rcases a5 with a5|⟨b',cs,T,hb',hF,hblk,hsz,hrow⟩
     ·rw[a5.1]at hb;cases hb
     ·rw[hb]at hb';injection hb' with hb';subst hb';obtain⟨u,hv,husz,hh⟩:=rowAt_iff.1 hrow idx e hl;obtain⟨hcs,hones⟩:=hv.cells hok;rw[Yo]at hh;have hh':HasAt w b (idx*S+(G.C id).2) (.agg u.cells.toList.toArray):=by
       simpa [HasAt,Value.cells] using hh
      have hres:=part_at hcs hones hp hh';rw[a2,Nat.add_right_comm]at hp'
      cases hAA:isAggD ds with
      |true=>
       rw[hAA]at hp;obtain⟨hlt,hvv⟩:=part_agg hcs hones hp;refine fin hp' (fun j c hc=>?_) (.inl ⟨hAA,_,rfl,?_⟩) hvv rfl
       ·simp only[Value.cells,xp,Cp,nq]at hc;split at hc
        ·have:=hh (sub+j) c (by rw[←Zn];exact hc);rwa [Qq]
        ·cases hc
       ·simp at hlt⊢;omega
      |false=>
       rw[hAA]at hp;obtain⟨u',hu',hvv⟩:=part_one hcs hp;have hu'':u.cells[sub]?=some u':=by rw[←Zn];exact hu'
       have g1:=(hh sub u' hu'').1;have hcells:u'.cells = #[u']:=by cases u'<;>first|rfl|simp[one]at g1
       refine fin hp' (fun j c hc=>?_) (.inr ⟨hAA,hcells⟩) hvv rfl;rw[hcells]at hc
       cases j with
       |zero=>simp at hc;subst hc;exact hh sub u' hu''
       |succ j=>simp at hc
    ·cases he
   ·cases he
  ·cases he
 ·cases he
theorem g_load(hr:Rel G w a s) {t:TypeId}{x:Operand}{r:Bool×Nat}{o:Oper}(ho:o.op=.load t x) (hs:shapeOf P t=some r) (he:evalI s (.load r.1 r.2 x)=some (d,m')) :
 Good G w s.m ((execOp a.eval o).run P w) d m':=by
 obtain⟨p,u,hp,hrun,hv,rfl⟩:=load_run (P:=P) hr hs he;refine good_here (u:=u) hr.inv ?_ hv;unfold execOp;simp only[ho,hp];simp[Instr.loadAt,Instr.sureAddr,hrun]
end
end Go.Tm
namespace Go.Tm
open Go.RowKit (Below)
section
variable {P:Program} {G:Gh} {w:World} {a:Act} {s:St} {d:D} {m':List Ent}
theorem run_part{t:TypeId}{ds:TypeDesc}{i:TypeInfo}(hd:P.underlying t=some ds) (hi:P.info? t=some i) {l:List D}{cs:List Value}(hv:VsRel G w l cs) (h1:∀c∈cs,one c=true)
 {off:Nat} {r:D} (hp:part (isAggD ds) i.size off l=some r):∃u,(Go.part t cs.toArray off).run P w=.ok u w∧VRel G w r u:=by
 unfold Go.part;simp only[Sem.run_bind,run_isAgg' hd,Result.andThen_ok]
 cases hA:isAggD ds with
 |true=>
  rw[hA]at hp;obtain⟨hlt,hr⟩:=part_agg hv h1 hp;refine⟨_,?_,hr⟩;simp only[if_true,Sem.run_bind,run_sizeOf' hi,Result.andThen_ok,Sem.run_pure];congr 2;apply Uq;simp[List.extract_eq_take_drop]
 |false=>
  rw[hA]at hp;obtain⟨u,hu,hr⟩:=part_one hv hp;exact⟨u,by simp[hu],hr⟩
theorem g_field(hr:Rel G w a s) {t:TypeId}{x:Operand}{f:Nat}{fs:Array Field}{fl:Field}{r:Bool×Nat}{o:Oper}(ho:o.op=.field t x f)
 (ht:P.underlying t=some (.struct fs)) (hf:fs[f]?=some fl) (hs:shapeOf P fl.type=some r) (he:evalI s (.field r.1 r.2 fl.offset x)=some (d,m')) :
 Good G w s.m ((execOp a.eval o).run P w) d m':=by
 obtain⟨ds,i,hd,hi,rfl⟩:=shape_parts hs;have hx:=hr.ev x;simp only[evalI]at he;unfold execOp;simp only[ho];generalize s.ev x=dx at *;split at he
 ·rename_i l;simp only[VRel]at hx;obtain⟨cs,hx,hv,h1⟩:=hx;simp only[sn,Bn]at he;obtain⟨e,hp,rfl,rfl⟩:=he;obtain⟨u,hu,hv'⟩:=run_part (P:=P) hd hi hv h1 hp;refine good_here (u:=u) hr.inv ?_ hv';simp[Instr.field,run_underlying ht,hf,hx,asAgg,hu]
 ·cases he
theorem g_index(hr:Rel G w a s) {t e:TypeId}{n:Nat}{x y:Operand}{r:Bool×Nat}{o:Oper}(ho:o.op=.index t x y)
 (ht:P.underlying t=some (.array n e)) (hs:shapeOf P e=some r) (he:evalI s (.index r.1 r.2 n x y)=some (d,m')) :
 Good G w s.m ((execOp a.eval o).run P w) d m':=by
 obtain⟨ds,i,hd,hi,rfl⟩:=shape_parts hs;have hx:=hr.ev x;have hy:=hr.ev y;simp only[evalI]at he;unfold execOp;simp only[ho];generalize s.ev x=dx at *;generalize s.ev y=dy at *;split at he
 ·rename_i jk k;simp only[VRel]at hy;split at he
  ·rename_i hk;split at he
   ·rename_i l;simp only[VRel]at hx;obtain⟨cs,hx,hv,h1⟩:=hx;simp only[sn,Bn]at he;obtain⟨e,hp,rfl,rfl⟩:=he;obtain⟨u,hu,hv'⟩:=run_part (P:=P) hd hi hv h1 hp;refine good_here (u:=u) hr.inv ?_ hv';have hk':0≤k∧k<n:=⟨hk.1,by omega⟩;simp[Instr.index,hy,asIntOf,run_underlying ht,hx,hk',run_sizeOf' hi,hu]
   ·cases he
  ·cases he
 ·cases he
theorem g_faddr(hr:Rel G w a s) {t:TypeId}{x:Operand}{f:Nat}{fs:Array Field}{fl:Field}{r:Bool×Nat}{o:Oper}(ho:o.op=.fieldAddr t x f)
 (ht:P.underlying t=some (.struct fs)) (hf:fs[f]?=some fl) (hs:shapeOf P fl.type=some r) (h0:r.2≠0) (he:evalI s (.faddr r.1 r.2 fl.offset x)=some (d,m')) :
 Good G w s.m ((execOp a.eval o).run P w) d m':=by
 obtain⟨ds,i,hd,hi,rfl⟩:=shape_parts hs;have hx:=hr.ev x;simp only[evalI]at he;have run:∀p,a.eval x=.pointer (some p)→(execOp a.eval o).run P w=.ok (.value (.pointer (some (p.add fl.offset)))) w:=by
  intro p hp;unfold execOp;simp only[ho,hp];simp only at h0;simp[Instr.fieldAt,run_underlying ht,hf,Instr.sureAddr,fieldPlace,run_sizeOf' hi,h0]
 generalize s.ev x=dx at *;split at he
 ·rename_i l;simp only[VRel]at hx;obtain⟨b,off,u,hp,hF,⟨cs,rfl,hv,h1⟩,hh⟩:=hx;simp only[sn,Bn]at he;obtain⟨e,hpt,rfl,rfl⟩:=he;obtain⟨u',hv',hh'⟩:=part_at hv h1 hpt hh;refine good_here hr.inv (run _ hp) ?_;rw[addr_add];simp only[VRel];exact⟨b,off+fl.offset,u',rfl,hF,hv',hh'⟩
 ·rename_i id ver idx sub;injection he with he;injection he with h1 h2;subst h1;subst h2;simp only[VRel]at hx;obtain⟨p,hp,hid,hver,hx⟩:=hx;refine good_here hr.inv (run _ hp) ?_;simp only[VRel];refine⟨_,rfl,hid,hver,fun e=>?_⟩;obtain⟨b,hb,rfl⟩:=hx e;exact⟨b,hb,by rw[addr_add];congr 1;omega⟩
 ·cases he
theorem g_aaddr(hr:Rel G w a s) {t e:TypeId}{n:Nat}{x y:Operand}{r:Bool×Nat}{o:Oper}(ho:o.op=.indexAddr t x y)
 (ht:P.underlying t=some (.array n e)) (hs:shapeOf P e=some r) (he:evalI s (.aaddr r.1 r.2 n x y)=some (d,m')) :
 Good G w s.m ((execOp a.eval o).run P w) d m':=by
 obtain⟨ds,i,hd,hi,rfl⟩:=shape_parts hs;have hx:=hr.ev x;have hy:=hr.ev y;simp only[evalI]at he;generalize s.ev x=dx at *;generalize s.ev y=dy at *;split at he
 ·rename_i jk k;simp only[VRel]at hy;split at he
  ·rename_i hk;have hk':0≤k∧k<n:=⟨hk.1,by omega⟩;have run:∀p,a.eval x=.pointer (some p)→(execOp a.eval o).run P w=.ok (.value (.pointer (some (p.add (k.toNat*i.size))))) w:=by
    intro p hp;unfold execOp;simp only[ho,hp,hy];simp[Instr.indexAt,asIntOf,run_underlying ht,Instr.sureAddr,hk',run_sizeOf' hi]
   split at he
   ·rename_i l;simp only[VRel]at hx;obtain⟨b,off,u,hp,hF,⟨cs,rfl,hv,h1⟩,hh⟩:=hx;simp only[sn,Bn]at he;obtain⟨e,hpt,rfl,rfl⟩:=he;obtain⟨u',hv',hh'⟩:=part_at hv h1 hpt hh;refine good_here hr.inv (run _ hp) ?_;rw[addr_add];simp only[VRel];exact⟨b,_,u',rfl,hF,hv',hh'⟩
   ·rename_i id ver idx sub;injection he with he;injection he with h1 h2;subst h1;subst h2;simp only[VRel]at hx;obtain⟨p,hp,hid,hver,hx⟩:=hx;refine good_here hr.inv (run _ hp) ?_;simp only[VRel];refine⟨_,rfl,hid,hver,fun e=>?_⟩;obtain⟨b,hb,rfl⟩:=hx e;exact⟨b,hb,by rw[addr_add];congr 1;omega⟩
   ·cases he
  ·cases he
 ·cases he
theorem g_iaddr(hr:Rel G w a s) {t e:TypeId}{i:TypeInfo}{x y:Operand}{o:Oper}(ho:o.op=.indexAddr t x y)
 (ht:P.underlying t=some (.slice e)) (hi:P.info? e=some i) (he:evalI s (.iaddr i.size x y)=some (d,m')) :
 Good G w s.m ((execOp a.eval o).run P w) d m':=by
 have hx:=hr.ev x;have hy:=hr.ev y;simp only[evalI]at he;generalize s.ev x=dx at *;generalize s.ev y=dy at *;split at he
 ·rename_i jk k;simp only[VRel]at hy;split at he
  ·rename_i hk;have run:∀p n c,a.eval x=.slice (some p) n c→k<n→(execOp a.eval o).run P w=.ok (.value (.pointer (some (p.add (k.toNat*i.size))))) w:=by
    intro p n c hp hlt;have hk':0≤k∧k<n:=⟨hk,hlt⟩;unfold execOp;simp only[ho,hp,hy];simp[Instr.indexAt,asIntOf,run_underlying ht,hk',run_sizeOf' hi]
   split at he
   ·rename_i S' l;split at he
    ·rename_i hS;subst hS;simp only[sn,Bn]at he;obtain⟨e',hl,rfl,rfl⟩:=he;simp only[VRel]at hx;obtain⟨p,n,c,hp,hn,hc,hx⟩:=hx;have hlt:k.toNat<l.length:=by
      rcases vo k.toNat l.length with h|h
      ·exact h
      ·rw[Rn h]at hl;cases hl
     rcases hx with rfl|⟨b,off,rfl,hF,hrow⟩
     ·simp at hlt
     ·obtain⟨u,hv,hsz,hh⟩:=rowAt_iff.1 hrow _ _ hl;refine good_here hr.inv (run _ _ _ hp (by omega)) ?_;rw[addr_add];simp only[VRel];exact⟨b,_,u,rfl,hF,hv,hh⟩
    ·cases he
   ·rename_i id ver;split at he
    ·rename_i S' ver' l hm;split at he
     ·rename_i hc;obtain⟨rfl,rfl,hlt⟩:=hc;injection he with he;injection he with h1 h2;subst h1;subst h2;simp only[VRel]at hx;obtain⟨p,n,c,hp,hid,hver,hx⟩:=hx;obtain⟨a1,a2,a3,a4,a5⟩:=hr.inv.ent _ _ hm;obtain⟨rfl,rfl,rfl⟩:=hx a1;rcases a5 with a5|⟨b',cs,T,hb',hF,hblk,hsz,hrow⟩
      ·rw[a5.2]at a4;omega
      ·rw[hb']at hp;refine good_here hr.inv (run _ _ _ hp (by rw[a3];omega)) ?_;rw[addr_add];simp only[VRel];exact⟨_,rfl,hid,hver,fun _=>⟨b',hb',by rw[a2];congr 1;omega⟩⟩
     ·cases he
    ·cases he
   ·rename_i id ver lo n;split at he
    ·rename_i S' ver' l hm;split at he
     ·rename_i hc;obtain⟨rfl,rfl,hlt,hlo⟩:=hc;injection he with he;injection he with h1 h2;subst h1;subst h2;simp only[VRel]at hx;obtain⟨p,c,hp,hnc,hid,hver,hx⟩:=hx;obtain⟨a1,a2,a3,a4,a5⟩:=hr.inv.ent _ _ hm;rcases hx a1 with hx|⟨b,hb,rfl⟩
      ·exact absurd hlt (by rw[hx];exact Nat.not_lt_zero _)
      ·refine good_here hr.inv (run _ _ _ hp ((Int.toNat_lt hk).1 hlt)) ?_;rw[addr_add];simp only[VRel];exact⟨_,rfl,hid,hver,fun _=>⟨b,hb,by rw[a2,gp];congr 1;omega⟩⟩
     ·cases he
    ·cases he
   ·cases he
  ·cases he
 ·cases he
theorem lenOf_good(hi:Inv G w s.m) {x:D}{u:Value}(hx:VRel G w x u) {n:Nat}(h:lenOfD s.m x=some n):∃p c,u=.slice p n c∧n≤c:=by
 unfold lenOfD at h;split at h
 ·injection h with h;subst h;simp only[VRel]at hx;exact⟨_,_,hx,En _⟩
 ·injection h with h;subst h;simp only[VRel]at hx;obtain⟨p,n,c,hp,rfl,hc,-⟩:=hx;exact⟨p,c,hp,hc⟩
 ·split at h
  ·rename_i id ver S ver' l hm;split at h
   ·rename_i hv;subst hv;injection h with h;subst h;simp only[VRel]at hx;obtain⟨p,n,c,hp,hid,hver,hx⟩:=hx;obtain⟨a1,a2,a3,a4,a5⟩:=hi.ent _ _ hm;obtain⟨rfl,rfl,rfl⟩:=hx a1;rw[a3]at hp;exact⟨_,_,hp,a4⟩
   ·cases h
  ·cases h
 ·split at h
  ·injection h with h;subst h;simp only[VRel]at hx;obtain⟨p,c,hp,hc,-⟩:=hx;exact⟨p,c,hp,hc⟩
  ·cases h
 ·cases h
theorem g_len(hr:Rel G w a s) {t e:TypeId}{x:Operand}{o:Oper}(ho:o.op=.call { callee:=.builtin .len,args:=#[x],argTypes:=#[t] })
 (ht:P.underlying t=some (.slice e)) (he:evalI s (.len x)=some (d,m')):Good G w s.m ((execOp a.eval o).run P w) d m':=by
 have hx:=hr.ev x;simp only[evalI,sn,Bn]at he;obtain⟨n,hn,rfl,rfl⟩:=he;refine good_here (u:=.int .i64 n) hr.inv ?_ (by simp[VRel]);unfold execOp;simp only[ho];obtain⟨p,c,hp,-⟩:=lenOf_good hr.inv hx hn;simp[resolve,invoke,builtin,Builtin.len_,hp,run_underlying ht,goInt]
theorem g_slen(hr:Rel G w a s) {t:TypeId}{x:Operand}{o:Oper}(ho:o.op=.call { callee:=.builtin .len,args:=#[x],argTypes:=#[t] })
 (ht:P.underlying t=some .string) (he:evalI s (.slen x)=some (d,m')):Good G w s.m ((execOp a.eval o).run P w) d m':=by
 have hx:=hr.ev x;simp only[evalI]at he;unfold execOp;simp only[ho];generalize s.ev x=dx at *;split at he
 ·rename_i b;injection he with he;injection he with h1 h2;subst h1;subst h2;simp only[VRel]at hx;refine good_here (u:=.int .i64 b.size) hr.inv ?_ (by simp[VRel]);simp[resolve,invoke,builtin,Builtin.len_,hx,run_underlying ht,goInt]
 ·cases he
theorem run_bound(x:Value) (y:Nat) (code:BoundsCode) {j:IntKind}{n:Int}(h:x=.int j n) (h0:0≤n) (h1:n≤y) (w:World):(Instr.sliceBound x y code).run P w=.ok n.toNat w:=by
 subst h;simp[Instr.sliceBound,asIntOf,h0,h1]
theorem run_bounds(hr:Rel G w a s) {n cap:Nat}(hcap:n≤cap) {lo hi mx:Option Operand}(hmx:mx.isSome=true→hi.isSome=true) {l h k:Nat}(hl:bound s 0 lo=some l) (hh:bound s n hi=some h) (hk:bound s n mx=some k)
 (h1:h≤k) (h2:k≤n) (h3:l≤h):∃m,(Instr.sliceBounds true n cap (lo.map a.eval) (hi.map a.eval) (mx.map a.eval)).run P w=.ok (l,h,m) w∧h≤m∧m≤cap∧(mx=none→m=cap):=by
 have one:∀{x:Option Operand} {dflt r:Nat},bound s dflt x=some r→(x=none∧r=dflt)∨∃y j,x=some y∧a.eval y=.int j (r:Int):=by
  intro x dflt r hb
  cases x with
  |none=>simp[bound]at hb;exact .inl ⟨rfl,hb.symm⟩
  |some y=>
   have hy:=hr.ev y;simp only[bound]at hb;generalize s.ev y=dy at *;split at hb
   ·rename_i j q;split at hb
    ·rename_i hq;injection hb with hb;simp only[VRel]at hy;exact .inr ⟨y,j,rfl,by rw[hy,←hb,Tq hq]⟩
    ·cases hb
   ·cases hb
 have rb:∀(x:Value) (y:Nat) (code:BoundsCode) (j:IntKind) (r:Nat),x=.int j (r:Int)→r≤y→(Instr.sliceBound x y code).run P w=.ok r w:=fun x y code j r hx hr'=>by
  have:=run_bound (P:=P) x y code hx (xr r) (by omega) w;simpa using this
 unfold Instr.sliceBounds;rcases one hk with⟨rfl,rfl⟩|⟨yk,jk,rfl,ek⟩
 ·refine⟨cap,?_,by omega,En _,fun _=>rfl⟩;rcases one hl with⟨rfl,rfl⟩|⟨yl,jl,rfl,el⟩<;>rcases one hh with⟨rfl,rfl⟩|⟨yh,jh,rfl,eh⟩
  ·simp
  ·simp[rb _ cap _ _ _ eh (by omega)]
  ·simp[rb _ h _ _ _ el (by omega)]
  ·simp[rb _ cap _ _ _ eh (by omega),rb _ h _ _ _ el h3]
 ·refine⟨k,?_,h1,by omega,fun h=>by cases h⟩;rcases one hl with⟨rfl,rfl⟩|⟨yl,jl,rfl,el⟩<;>rcases one hh with⟨rfl,rfl⟩|⟨yh,jh,rfl,eh⟩
  ·simp at hmx
  ·simp[rb _ cap _ _ _ ek (by omega),rb _ k _ _ _ eh h1]
  ·simp at hmx
  ·simp[rb _ cap _ _ _ ek (by omega),rb _ k _ _ _ eh h1,rb _ h _ _ _ el h3]
theorem rowAt_drop{G:Gh}{w:World}{b S:Nat}{l:List D}{off:Nat}(h:RowAt G w b S l off) (lo:Nat):RowAt G w b S (l.drop lo) (off+lo*S):=
 rowAt_iff.2 fun i d hd=>by
  have:=rowAt_iff.1 h (lo+i) d (by simpa using hd);rwa [show off+lo*S+i*S=off+(lo+i)*S by rw[gp];omega]
theorem rowAt_take{G:Gh}{w:World}{b S:Nat}{l:List D}{off:Nat}(h:RowAt G w b S l off) (n:Nat):RowAt G w b S (l.take n) off:=
 rowAt_iff.2 fun i d hd=>rowAt_iff.1 h i d (by rw[Cp]at hd;split at hd<;>first|exact hd|cases hd)
theorem g_slice(hr:Rel G w a s) {t e:TypeId}{i:TypeInfo}{x:Operand}{lo hi mx:Option Operand}{o:Oper}(ho:o.op=.slice t x lo hi mx)
 (ht:P.underlying t=some (.slice e)) (hi':P.info? e=some i) (hmx:mx.isSome=true→hi.isSome=true) (he:evalI s (.slice i.size x lo hi mx)=some (d,m')) :
 Good G w s.m ((execOp a.eval o).run P w) d m':=by
 have hx:=hr.ev x;simp only[evalI]at he;generalize s.ev x=dx at *;split at he
 ·rename_i n hn;split at he
  ·rename_i l h k hl hh hk;split at he
   ·rename_i hc;obtain⟨h1,h2⟩:=hc;simp only[sn,Bn]at he;obtain⟨r,hs,rfl,rfl⟩:=he;obtain⟨p,cap,hp,hcap⟩:=lenOf_good hr.inv hx hn;have hlh:l≤h:=by
     unfold sliceD at hs
     repeat' split at hs
     all_goals first|(cases hs;done)|omega
    obtain⟨m,hb,hm,hmc,-⟩:=run_bounds (P:=P) hr hcap hmx hl hh hk h1 h2 hlh;have run:(execOp a.eval o).run P w=.ok (.value (.slice (if m=l then p else p.map (·.add (l*i.size))) (h-l) (m-l))) w:=by
     unfold execOp;simp only[ho,hp];simp[Instr.sliceAt,Instr.slice,run_underlying ht,hb,run_sizeOf' hi']
    refine good_here hr.inv run ?_;unfold sliceD at hs;split at hs
    ·split at hs
     ·rename_i hc;obtain⟨rfl,rfl⟩:=hc;injection hs with hs;subst hs;simp only[VRel]at hx⊢;rw[hp]at hx;injection hx with q1 q2 q3;subst q1;subst q2;subst q3;have:m=0:=by omega
      subst this;simp
     ·cases hs
    ·rename_i S' ll;split at hs
     ·rename_i hc;obtain⟨rfl,-,hle⟩:=hc;injection hs with hs;subst hs;simp only[VRel]at hx⊢;obtain⟨p',n',c',hp',hn',hc',hx⟩:=hx;rw[hp]at hp';injection hp' with q1 q2 q3;subst q1;subst q2;subst q3;refine⟨_,_,_,rfl,by simp;omega,by omega,?_⟩
      ·rcases hx with rfl|⟨b,off,rfl,hF,hrow⟩
       ·exact .inl (by simp)
       ·by_cases hml:m=l
        ·exact .inl (by
          have:h=l:=by omega
          subst this;simp)
        ·refine .inr ⟨b,off+l*i.size,?_,hF,rowAt_take (rowAt_drop hrow l) _⟩;simp[hml,addr_add]
     ·cases hs
    ·rename_i id ver;split at hs
     ·rename_i S' ver' ll hmm;split at hs
      ·rename_i hc;obtain⟨rfl,rfl,-,hle⟩:=hc;injection hs with hs;subst hs;simp only[VRel]at hx⊢;obtain⟨p',n',c',hp',hid,hver,hx⟩:=hx;rw[hp]at hp';injection hp' with q1 q2 q3;subst q1;subst q2;subst q3;refine⟨_,_,rfl,by omega,hid,hver,fun e=>?_⟩;obtain⟨rfl,q2,q3⟩:=hx e;obtain⟨a1,a2,a3,a4,a5⟩:=hr.inv.ent _ _ hmm;by_cases hml:m=l
       ·exact .inl (by omega)
       ·by_cases hz:h-l=0
        ·exact .inl hz
        ·rcases a5 with a5|⟨b',cs,T,hb',hF,hblk,hsz,hrow⟩
         ·exfalso;have:=congrArg br a5.2;dsimp only at this;omega
         ·exact .inr ⟨b',hb',by simp[hml,hb',addr_add,a2,Yo]⟩
      ·cases hs
     ·cases hs
    ·rename_i id ver l0 n0;split at hs
     ·rename_i S' ver' ll hmm;split at hs
      ·rename_i hc;obtain⟨rfl,rfl,-,hle,hl0⟩:=hc;injection hs with hs;subst hs;simp only[VRel]at hx⊢;obtain⟨p',c',hp',hnc,hid,hver,hx⟩:=hx;rw[hp]at hp';injection hp' with q1 q2 q3;subst q1;subst q2;subst q3;refine⟨_,_,rfl,by omega,hid,hver,fun e=>?_⟩;obtain⟨a1,a2,a3,a4,a5⟩:=hr.inv.ent _ _ hmm;by_cases hml:m=l
       ·exact .inl (by omega)
       ·by_cases hz:h-l=0
        ·exact .inl hz
        ·rcases hx e with hx|⟨b',hb',rfl⟩
         ·exfalso;omega
         ·exact .inr ⟨b',hb',by simp[hml,addr_add,a2,gp];omega⟩
      ·cases hs
     ·cases hs
    ·cases hs
   ·cases he
  ·cases he
 ·cases he
end
end Go.Tm
namespace Go.Tm
open Go.RowKit (Below)
section
variable {P:Program} {G:Gh} {w:World} {a:Act} {s:St} {d:D} {m':List Ent}
theorem one_cells{u:Value}(h:one u=true):u.cells = #[u]:=by cases u<;>first|rfl|simp[one]at h
theorem leaf_rel(z:Value) (h:z.cells.all one=true):VRel G w (leaf z) z:=by
 unfold leaf;split
 ·rename_i cs;simp only[VRel];refine⟨cs.toList,rfl,vsRel_leaf _,fun c hc=>?_⟩;simp only[Value.cells,Zq]at h;obtain⟨i,hi,rfl⟩:=Co hc;simpa using h i (by simpa using hi)
 ·simp[VRel]
theorem all_get{cs:Array Value}(h:cs.all one=true) (j:Nat) (c:Value) (hc:cs[j]?=some c):one c=true:=by
 simp only[Zq]at h;obtain⟨hj,rfl⟩:=Xn.1 hc;exact h j hj
theorem rowIn_one{S:Nat}{d:D}{u:Value}(hv:VRel G w d u) (hs:u.cells.size=S) (h1:∀(j:Nat) c,u.cells[j]?=some c→one c=true):RowIn G w S [d] u.cells:=by
 intro i e he
 cases i with
 |zero=>
  simp at he;subst he;exact⟨u,hv,hs,fun j c hc=>⟨h1 j c hc,by simpa using hc⟩⟩
 |succ i=>simp at he
theorem ref_new{w':World}{S:Nat}{C:Nat}(hn:G.n=s.m.length):VRel (G.add (some w.heap.size) S 1 C) w' (.ref s.m.length 0 0 0) (.pointer (some ⟨w.heap.size,0,none⟩)):=by
 simp only[VRel];exact⟨_,rfl,by simp[Gh.add,hn],Jp _,fun _=>⟨w.heap.size,by simp[Gh.add,hn],by simp[Gh.add,hn]⟩⟩
theorem own_new{w':World}{S N C:Nat}(hn:G.n=s.m.length):VRel (G.add (some w.heap.size) S N C) w' (.own s.m.length 0) (.slice (some ⟨w.heap.size,0,none⟩) N C):=by
 simp only[VRel];exact⟨_,_,_,rfl,by simp[Gh.add,hn],Jp _,fun _=>⟨by simp[Gh.add,hn],by simp[Gh.add,hn],by simp[Gh.add,hn]⟩⟩
theorem g_alloc(hr:Rel G w a s) {t:TypeId}{z:Value}{o:Oper}(ho:o.op=.alloc t) (hz:zeroOf P t=some z) (he:evalI s (.alloc z.cells.size (leaf z))=some (d,m')) :
 Good G w s.m ((execOp a.eval o).run P w) d m':=by
 simp only[evalI]at he;injection he with he;injection he with h1 h2;subst h1;subst h2;obtain⟨hz1,hz2,hz3,-⟩:=run_zero hz w;obtain⟨g1,g2⟩:=alloc_good hr.inv z.cells.size [leaf z] 1 z.cells t (rowIn_one (leaf_rel z hz2) rfl (all_get hz2)) (by simp) (by simp);refine⟨_,_,_,?_,.inl ⟨_,rfl,ref_new (C:=1) hr.inv.n⟩,g1,g2⟩;unfold execOp;simp only[ho];simp[Instr.alloc,hz1,newVar,newRow]
theorem g_box(hr:Rel G w a s) {t:TypeId}{x:Operand}{S:Nat}{o:Oper}(ho:o.op=.box t x) (he:evalI s (.box S x)=some (d,m')) :
 Good G w s.m ((execOp a.eval o).run P w) d m':=by
 simp only[evalI]at he;split at he
 ·rename_i hc;injection he with he;injection he with h1 h2;subst h1;subst h2;have hx:=hr.ev x;obtain⟨hv,h1⟩:=hx.cells hc.1;have hsz:(a.eval x).cells.size=S:=by rw[←Ao,hv.length];exact hc.2
  obtain⟨g1,g2⟩:=alloc_good hr.inv S [s.ev x] 1 (a.eval x).cells t (rowIn_one hx hsz (fun j c hj=>h1 c (by rw[←Zn]at hj;exact Bo hj))) (by simp) (by simp[hsz]);refine⟨_,_,_,?_,.inl ⟨_,rfl,ref_new (C:=1) hr.inv.n⟩,g1,g2⟩;unfold execOp;simp only[ho];simp[Instr.box,newVar,newRow]
 ·cases he
theorem splice_get(cells vs:List Value) (off k:Nat) (h:off+vs.length≤cells.length) :
 (cells.take off++vs++cells.drop (off+vs.length))[k]?=if off≤k∧k<off+vs.length then vs[k-off]? else cells[k]?:=by
 rw[Mo,Rp];simp only[No,Cp];split
 ·rename_i h1;rw[if_pos (by omega),if_neg (by omega)]
 ·rename_i h1;rw[Rp];have:min off cells.length=off:=by omega
  rw[this];split
  ·rename_i h2;rw[if_pos (by omega)]
  ·rename_i h2;rw[if_neg (by omega),nq];congr 1;omega
theorem RowIn.set{S o:Nat}{l:List D}{cs cs':Array Value}(h:RowIn G w S l cs o) {i:Nat}{d:D}{u:Value}(hi:i<l.length) (hv:VRel G w d u) (hs:u.cells.size=S)
 (h1:∀(j:Nat) c,u.cells[j]?=some c→one c=true) (hin:∀(j:Nat) c,u.cells[j]?=some c→cs'[i*S+j+o]?=some c)
 (hout:∀k,(k<i*S+o∨i*S+S+o≤k)→cs'[k]?=cs[k]?):RowIn G w S (l.set i d) cs' o:=by
 intro j e he;by_cases hij:i=j
 ·subst hij;rw[Ip hi]at he;injection he with he;subst he;exact⟨u,hv,hs,fun k c hc=>⟨h1 k c hc,hin k c hc⟩⟩
 ·rw[Sp hij]at he;obtain⟨v,g1,g2,g3⟩:=h j e he;refine⟨v,g1,g2,fun k c hc=>⟨(g3 k c hc).1,?_⟩⟩;have hk:k<S:=by rw[←g2];exact(Xn.1 hc).1
  rw[hout _ ?_]
  ·exact(g3 k c hc).2
  ·rcases Nat.lt_or_gt_of_ne hij with h'|h'
   ·right;have:=so S (show i+1≤j from h');rw[gp]at this;omega
   ·left;have:=so S (show j+1≤i from h');rw[gp]at this;omega
theorem foldl_splice_arr(off:Nat) (vs:Array Value) (cells:Array Value) (h:off+vs.size≤cells.size) :
 (vs.zipIdx.foldl (fun cs (x:Value×Nat)=>cs.setIfInBounds (off+x.2) x.1) cells).toList=cells.toList.take off++vs.toList++cells.toList.drop (off+vs.toList.length):=by
 have hf:=foldl_splice off vs.toList 0 cells (by simpa using h);rw[←As,Xr];simpa using hf
theorem g_fillS(hr:Rel G w a s) {S:Nat}:∀{ps:List (Nat×Operand)}{l l':List D}{cells:Array Value},
 bsliceD s S ps l=some l'→RowIn G w S l cells→cells.size=l.length*S→
 ∃cells':Array Value,Instr.fill (fun i=>some (i*S,S)) cells (ps.map fun p=>(p.1,a.eval p.2))=some cells'∧RowIn G w S l' cells'∧cells'.size=l'.length*S∧l'.length=l.length
 |[],l,l',cells,hb,hv,h1=>by
  simp only[bsliceD]at hb;injection hb with hb;subst hb;exact⟨cells,rfl,hv,h1,rfl⟩
 |(i,x)::ps,l,l',cells,hb,hv,h1=>by
  simp only[bsliceD]at hb;split at hb
  ·rename_i hc;obtain⟨hok,hlen,hi⟩:=hc;obtain⟨hcells,hones⟩:=(hr.ev x).cells hok;have hl1:=hcells.length;have hsz:(a.eval x).cells.size=S:=by rw[←Ao,hl1,hlen]
   have hbound:i*S+S≤cells.size:=by
    rw[h1,←yr];exact so S hi
   have hlist:=foldl_splice_arr (i*S) (a.eval x).cells cells (by omega);have hget:=fun k=>splice_get cells.toList (a.eval x).cells.toList (i*S) k (by simp;omega);have hsize:((a.eval x).cells.zipIdx.foldl (fun cs (x:Value×Nat)=>cs.setIfInBounds (i*S+x.2) x.1) cells).size=cells.size:=by
    rw[←Ao,hlist];simp;omega
   have hnew:RowIn G w S (l.set i (s.ev x)) ((a.eval x).cells.zipIdx.foldl (fun cs (x:Value×Nat)=>cs.setIfInBounds (i*S+x.2) x.1) cells):=by
    refine hv.set hi (hr.ev x) hsz (fun j c hj=>hones c (by rw[←Zn]at hj;exact Bo hj)) (fun j c hj=>?_) (fun k hk=>?_)
    ·have hjlt:j<S:=by rw[←hsz];exact(Xn.1 hj).1
     rw[←Zn,hlist,hget,if_pos (by simp[hsz];omega)];rw[←Zn]at hj;rw[show i*S+j+0-i*S=j by omega];exact hj
    ·rw[←Zn,hlist,hget,if_neg (by simp[hsz];omega),Zn]
   obtain⟨cells',hc1,hc2,hc3,hc4⟩:=g_fillS hr hb hnew (by rw[hsize,h1];simp);refine⟨cells',?_,hc2,hc3,by simpa using hc4⟩;simp only[Vn,Instr.fill];rw[if_neg (by simp[hsz];omega)];exact hc1
  ·cases hb
theorem rowIn_zeros{z:Value}(hz:z.cells.all one=true) (n:Nat):RowIn G w z.cells.size (yn n (leaf z)) ((Jr (n*z.cells.size)).map (z.cells[· % z.cells.size]!)):=by
 intro i e he;rw[Up]at he;split at he
 ·rename_i hi;injection he with he;subst he;refine⟨z,leaf_rel z hz,rfl,fun j c hc=>⟨all_get hz j c hc,?_⟩⟩;obtain⟨hj,rfl⟩:=Xn.1 hc;have hlt:i*z.cells.size+j<n*z.cells.size:=by
   have:=so z.cells.size (show i+1≤n from hi);rw[gp]at this;omega
  have hmod:(i*z.cells.size+j) % z.cells.size=j:=by
   rw[Yo,Hs,Nat.add_mul_mod_self_left,Nat.mod_eq_of_lt hj]
  rw[Array.getElem?_map,Array.getElem?_range];simp[hlt,hmod,hj]
 ·cases he
theorem g_bslice(hr:Rel G w a s) {t e:TypeId}{n:Nat}{ps:Array (Nat×Operand)}{z:Value}{o:Oper}(ho:o.op=.buildSlice t n ps)
 (ht:P.underlying t=some (.slice e)) (hz:zeroOf P e=some z) (hsmall:n*z.cells.size≤2 ^ 24) (he:evalI s (.bslice z.cells.size n (leaf z) ps.toList)=some (d,m')) :
 Good G w s.m ((execOp a.eval o).run P w) d m':=by
 simp only[evalI,sn,Bn]at he;obtain⟨l,hb,rfl,rfl⟩:=he;obtain⟨hz1,hz2,hz3,i,hi,hsz,hzz⟩:=run_zero hz w;obtain⟨cells,hf,hrow,hcs,hlen⟩:=g_fillS hr hb (rowIn_zeros hz2 n) (by simp);simp only[List.length_replicate]at hlen;obtain⟨g1,g2⟩:=alloc_good hr.inv z.cells.size l n cells e hrow (by omega) (by rw[hcs,hlen];exact En _);refine⟨_,_,_,?_,.inl ⟨_,rfl,own_new (N:=l.length) (C:=n) hr.inv.n⟩,g1,g2⟩;unfold execOp;simp only[ho];have hnb:¬(2 ^ 24<n*i.size):=by rw[hsz];omega
 by_cases h0:n*i.size=0
 ·have hn0:n=0:=by
   rcases Nat.mul_eq_zero.1 h0 with h|h
   ·exact h
   ·omega
  subst hn0;rw[hsz.symm]at hf;rw[Nat.zero_mul,show Jr 0 = #[]from rfl,Array.map_empty]at hf;have hf':Instr.fill (fun k=>some (k*i.size,i.size)) #[] (ps.toList.map fun p=>(p.1,a.eval p.2))=some cells:=hf;have hr0:∀f:Nat→Value,Pr f (Jr 0) = #[]:=fun f=>by apply Uq;simp
  simp[Instr.buildSlice,run_underlying ht,run_sizeOf' hi,hr0,hf',newRow,hlen]
 ·rw[hsz.symm]at hf;simp[Instr.buildSlice,run_underlying ht,run_sizeOf' hi,hnb,h0,hz1,hf,newRow,hlen,hsz.symm]
theorem g_mkslice(hr:Rel G w a s) {t e:TypeId}{l c:Operand}{z:Value}{o:Oper}(ho:o.op=.makeSlice t l c)
 (ht:P.underlying t=some (.slice e)) (hz:zeroOf P e=some z) (he:evalI s (.mkslice z.cells.size (P.bytesOf e) (leaf z) l c)=some (d,m')) :
 Good G w s.m ((execOp a.eval o).run P w) d m':=by
 have hl:=hr.ev l;have hc:=hr.ev c;simp only[evalI]at he;unfold execOp;simp only[ho];generalize s.ev l=dl at *;generalize s.ev c=dc at *;split at he
 ·rename_i n k;split at he
  ·rename_i hk;obtain⟨k1,k2,k3,k4⟩:=hk;injection he with he;injection he with h1 h2;subst h1;subst h2;simp only[VRel]at hl hc;obtain⟨hz1,hz2,hz3,i,hi,hsz,hzz⟩:=run_zero hz w;have hby:P.bytesOf e=i.bytes:=by simp[Program.bytesOf,hi]
   rw[hby]at k4;have hrun:=run_make (P:=P) w t e i z ht hi hzz .i64 .i64 n k k1 k2 (by
    have:((k.toNat*i.bytes:Nat):Int)≤281474976710656:=by omega
    rw[Int.natCast_mul,Tq (by omega),Int.mul_comm]at this;exact this) (by omega)
   have hrow:RowIn G w z.cells.size (yn n.toNat (leaf z)) (madeCells z.cells (k.toNat*i.size)):=by
    intro j e' hj;have hlt:j<n.toNat:=by
     rw[Up]at hj;split at hj
     ·assumption
     ·cases hj
    have:=rowIn_zeros (G:=G) (w:=w) hz2 k.toNat j e' (by rw[Up]at hj⊢;rw[if_pos hlt]at hj;rw[if_pos (by omega)];exact hj);rw[hsz];exact this
   obtain⟨g1,g2⟩:=alloc_good hr.inv z.cells.size (yn n.toNat (leaf z)) k.toNat _ e hrow (by simp;omega) (by rw[size_madeCells,hsz];exact En _);refine⟨_,_,_,?_,.inl ⟨_,rfl,own_new (N:=(yn n.toNat (leaf z)).length) (C:=k.toNat) hr.inv.n⟩,g1,g2⟩;simp[hl,hc,hrun]
  ·cases he
 ·cases he
theorem one_eq(v:Value):v.oneCell'=one v:=by cases v<;>rfl
theorem same_upd(i:Nat):G.upd i (G.B i) (G.V i) (G.N i) (G.C i)=G:=by
 cases G;simp only[Gh.upd,Gh.mk.injEq,true_and];refine⟨?_,?_,?_,?_⟩<;>(funext j;split<;>simp_all)
theorem size_setRow'(w:World) (g:Nat) (cs:Array Value):(w.setRow g cs).heap.size=w.heap.size:=by simp[World.setRow]
theorem g_store(hr:Rel G w a s) {t:TypeId}{i:TypeInfo}{x y:Operand}{o:Oper}(ho:o.op=.store t x y) (hi:P.info? t=some i) (he:evalI s (.store i.size x y)=some (d,m')) :
 Good G w s.m ((execOp a.eval o).run P w) d m':=by
 have hx:=hr.ev x;have hy:=hr.ev y;simp only[evalI]at he;generalize s.ev x=dx at *;generalize s.ev y=dy at *;split at he
 ·rename_i id ver idx sub;split at he
  ·rename_i S ver' l hm;split at he
   ·rename_i hc;obtain⟨rfl,hok,hn⟩:=hc;simp only[Ep]at he;obtain⟨e,hl,he⟩:=he;split at he
    ·rename_i hc;obtain⟨heok,hn0,hsub⟩:=hc;injection he with he;injection he with h1 h2;subst h1;subst h2;simp only[VRel]at hx;obtain⟨p,hp,hid,hver,hx⟩:=hx;obtain⟨a1,a2,a3,a4,a5⟩:=hr.inv.ent _ _ hm;obtain⟨b,hb,rfl⟩:=hx a1;rcases a5 with a5|⟨b',cs,T,hb',hF,hblk,hsz,hrow⟩
     ·rw[a5.1]at hb;cases hb
     ·rw[hb]at hb';injection hb' with hb';subst hb';obtain⟨hyc,hy1⟩:=hy.cells hok;have hylen:(a.eval y).cells.toList.length=i.size:=by rw[hyc.length];exact hn
      have hin:=rowIn_of_rowAt hblk hrow;obtain⟨u,hv,husz,huin⟩:=hin idx e hl;obtain⟨huc,hu1⟩:=hv.cells heok;have hulen:u.cells.toList.length=S:=by simpa using husz
      have hidx:idx<l.length:=by
       rcases vo idx l.length with h|h
       ·exact h
       ·rw[Rn h]at hl;cases hl
      have helen:e.cells.length=S:=by rw[←huc.length];exact hulen
      have hS:idx*S+S+(G.C id).2≤cs.size:=by
       have h1:=so S (show idx+1≤(G.C id).1 by omega);rw[gp]at h1;omega
      rw[a2]at hp;have hst:=run_storeCells_at P b (idx*S+sub+(G.C id).2) T (a.eval y).cells.toList 0 cs w hblk (by simp only[ep];omega) (fun v hv=>by rw[one_eq];exact hy1 v hv);simp only[ep]at hst;have hnewcs:∃cs':Array Value,cs'=(cs.toList.take (idx*S+sub+(G.C id).2)++(a.eval y).cells.toList++cs.toList.drop (idx*S+sub+(G.C id).2+(a.eval y).cells.toList.length)).toArray:=⟨_,rfl⟩;obtain⟨cs',hcs'⟩:=hnewcs;rw[←hcs']at hst;have hget:∀k,cs'[k]?=if idx*S+sub+(G.C id).2≤k∧k<idx*S+sub+(G.C id).2+i.size then(a.eval y).cells.toList[k-(idx*S+sub+(G.C id).2)]? else cs[k]?:=by
       intro k;rw[hcs',xp,splice_get _ _ _ _ (by rw[hylen,Ao];omega),hylen];simp only[Zn]
      have hsz':cs'.size=cs.size:=by
       rw[hcs',yp,uo,uo,No,Gp,hylen,Ao];omega
      have run:(execOp a.eval o).run P w=.ok .skip (w.setRow b cs'):=by
       unfold execOp;simp only[ho,hp];have hszy:(a.eval y).cells.size=i.size:=by simpa using hylen
       simp[Instr.storeAt,Instr.sureAddr,storeVar,run_sizeOf' hi,hszy,hst]
      have hkeep:∀k,G.B id≠some k→(w.setRow b cs').heap[k]?=w.heap[k]?:=fun k hk=>setRow_other w b k cs' fun h=>hk (by rw[h];exact hb);have hle:Le G w G (w.setRow b cs'):=⟨fun _ h=>h,fun k hk=>hkeep k fun h=>by rw[hb]at h;injection h with h;subst h;exact hF hk,En _,fun _ _=>.inl ⟨rfl,rfl,rfl,rfl,rfl⟩⟩;have hblk':=setRow_heap w b cs cs' T (0,0) hblk;clear hst hcs';generalize hys:(a.eval y).cells.toList=ys at hyc hy1 hylen hget;have hnew:∃u':Value,VRel G (w.setRow b cs') (e.upd sub dy.cells) u'∧u'.cells.size=S∧∀(j:Nat) c,u'.cells[j]?=some c→one c=true∧cs'[idx*S+j+(G.C id).2]?=some c:=by
       by_cases hagg:∃le,e=.agg le
       ·obtain⟨le,rfl⟩:=hagg;simp only[VRel]at hv;obtain⟨us,rfl,hvs,hus1⟩:=hv;simp only[D.cells]at helen hsub;have huslen:us.length=S:=by simpa [Value.cells] using husz
        refine⟨.agg (us.take sub++ys++us.drop (sub+ys.length)).toArray,?_,?_,?_⟩
        ·simp only[D.upd,VRel,splice];refine⟨_,rfl,?_,?_⟩
         ·rw[←hyc.length];exact((((hvs.take sub).append hyc).append (hvs.drop _)).mono hle)
         ·intro c hc;simp only[Fo]at hc;rcases hc with(hc|hc)|hc
          ·exact hus1 c (Tp hc)
          ·exact hy1 c hc
          ·exact hus1 c (Fp hc)
        ·simp[Value.cells];omega
        ·intro j c hj;simp only[Value.cells,xp]at hj;rw[splice_get _ _ _ _ (by omega),hylen]at hj;rw[hget];split at hj
         ·rename_i hjr;rw[if_pos (by omega),show idx*S+j+(G.C id).2-(idx*S+sub+(G.C id).2)=j-sub by omega];exact⟨hy1 c (Bo hj),hj⟩
         ·rename_i hjr;rw[if_neg (by omega)];exact huin j c (by simpa [Value.cells] using hj)
       ·have hc1:e.cells=[e]:=by cases e<;>first|rfl|exact(hagg ⟨_,rfl⟩).elim
        have hup:e.upd sub dy.cells=dy.cells.headD .dead:=by cases e<;>first|rfl|exact(hagg ⟨_,rfl⟩).elim
        rw[hc1]at helen hsub;simp only[List.length_singleton]at helen hsub;have hn1:i.size=1:=by omega
        have hs0:sub=0:=by omega
        subst hs0;rw[hn1]at hn hylen;obtain⟨e1,he1⟩:∃e1,dy.cells=[e1]:=by
         cases hdc:dy.cells with
         |nil=>rw[hdc]at hn;simp at hn
         |cons q r=>rw[hdc]at hn;simp at hn;exact⟨q,by simp[hn]⟩
        rw[he1]at hyc;simp only[VsRel]at hyc;obtain⟨c1,r1,hcl,hv1,rfl⟩:=hyc;have g1:=hy1 c1 (by rw[hcl];simp);rw[hup,he1];refine⟨c1,by simpa using hv1.mono hle,by rw[one_cells g1];simpa using helen,fun j c hj=>?_⟩;rw[one_cells g1]at hj
        cases j with
        |zero=>
         simp at hj;subst hj;refine⟨g1,?_⟩;rw[hget,if_pos (by omega),hcl];simp
        |succ j=>simp at hj
      obtain⟨u',hu'v,hu's,hu'c⟩:=hnew;have hrow':RowIn G (w.setRow b cs') S (l.set idx (e.upd sub dy.cells)) cs' (G.C id).2:=by
       refine RowIn.set ((?_:RowIn G (w.setRow b cs') S l cs (G.C id).2)) hidx hu'v hu's (fun j c hj=>(hu'c j c hj).1) (fun j c hj=>(hu'c j c hj).2) (fun k hk=>?_)
       ·exact hin.mono hle
       ·rw[hget,if_neg (by omega)]
      have hent:EntRel G (w.setRow b cs') id (.live S ver' (l.set idx (e.upd sub dy.cells))):=
       ⟨a1,a2,by simpa using a3,by simpa using a4,.inr ⟨b,cs',T,hb,hF,hblk',by rw[hsz'];exact hsz,rowAt_of_rowIn hblk' hrow'⟩⟩
      have key:=change_good (w':=w.setRow b cs') hr.inv (e':=.live S ver' (l.set idx (e.upd sub dy.cells))) hm rfl rfl (G.B id) (G.V id) (G.N id) (G.C id) (.inr ⟨rfl,rfl,rfl,rfl⟩) rfl rfl rfl
       (by rw[size_setRow'];exact En _) (fun k _ hk=>hkeep k hk) (fun k hk=>.inl hk) (by rw[same_upd];exact hent)
      rw[same_upd]at key;exact⟨_,_,G,run,.inr ⟨rfl,rfl⟩,key.1,key.2⟩
    ·cases he
   ·cases he
  ·cases he
 ·cases he
end
end Go.Tm
namespace Go.Tm
open Go.RowKit (Below)
section
variable {P:Program} {G:Gh} {w:World} {a:Act} {s:St} {d:D} {m':List Ent}
theorem rowAt_cells{b S:Nat}{l:List D}{off:Nat}(h:RowAt G w b S l off):∃news:List Value,news.length=l.length*S∧(∀c∈news,one c=true)∧(∀(j:Nat) v,news[j]?=some v→w.cell? ⟨b,off+j,none⟩=some v)∧RowIn G w S l news.toArray:=by
 have hcell:∀k,k<l.length*S→∃c,one c=true∧w.cell? ⟨b,off+k,none⟩=some c:=by
  intro k hk;have hS:0<S:=by
   rcases Nat.eq_zero_or_pos S with h|h
   ·rw[h]at hk;simp at hk
   ·exact h
  have hi:k / S<l.length:=Nat.div_lt_of_lt_mul (by rwa [Hs]);obtain⟨u,hv,hs,hh⟩:=rowAt_iff.1 h (k / S) l[k / S] (List.getElem?_eq_getElem hi);have hj:k % S<u.cells.size:=by rw[hs];exact Ys _ hS
  obtain⟨g1,g2⟩:=hh (k % S) u.cells[k % S] (Yn hj);refine⟨_,g1,?_⟩;rwa [show off+k / S*S+k % S=off+k by rw[Qq,Hs,Nat.div_add_mod]]at g2
 refine⟨(wo (l.length*S)).map fun k=>(w.cell? ⟨b,off+k,none⟩).getD undef,by simp,?_,?_,?_⟩
 ·intro c hc;simp only[Yp,List.mem_range]at hc;obtain⟨k,hk,rfl⟩:=hc;obtain⟨c,h1,h2⟩:=hcell k hk;rw[h2];exact h1
 ·intro j v hv;rw[Qo]at hv;rcases vo j (l.length*S)with hj|hj
  ·obtain⟨c,h1,h2⟩:=hcell j hj;rw[Cq hj]at hv;simp[h2]at hv;rw[h2,hv]
  ·rw[Rn (by simpa using hj)]at hv;simp at hv
 ·intro i d hd;obtain⟨u,hv,hs,hh⟩:=rowAt_iff.1 h i d hd;refine⟨u,hv,hs,fun j c hc=>⟨(hh j c hc).1,?_⟩⟩;have hi:i<l.length:=by
   rcases vo i l.length with h|h
   ·exact h
   ·rw[Rn h]at hd;cases hd
  have hj:j<S:=by rw[←hs];exact(Xn.1 hc).1
  have hlt:i*S+j<l.length*S:=by
   have:=so S (show i+1≤l.length from hi);rw[gp]at this;omega
  rw[xp,Qo,ep,Cq hlt];have:=(hh j c hc).2;rw[Qq]at this;simp[this]
theorem rowIn_nil(S:Nat) (cs:Array Value):RowIn G w S [] cs:=fun i d hd=>by simp at hd
structure Src (P:Program) (G:Gh) (w:World) (S:Nat) (r:List D) (u:Value) (news:List Value):Prop where
 len:news.length=r.length*S
 ones:∀c∈news,one c=true
 row:RowIn G w S r news.toArray
 form:∃p c,u=.slice p r.length c
 run:∀w',w'.heap=w.heap→(Builtin.firstCells S r.length u).run P w'=.ok news.toArray w'
theorem src_addr{b S:Nat}{r:List D}{off c:Nat}(h:RowAt G w b S r off):∃news,Src P G w S r (.slice (some ⟨b,off,none⟩) r.length c) news:=by
 obtain⟨news,h1,h2,h3,h4⟩:=rowAt_cells h;refine⟨news,h1,h2,h4,⟨_,_,rfl⟩,fun w' hw=>?_⟩;have:=run_loadCells_list (P:=P) w' ⟨b,off,none⟩ news (fun j v hv=>by
  rw[addr_add];have:=h3 j v hv;simpa [World.cell?,hw] using this)
 rw[h1]at this;simpa [Builtin.firstCells] using this
theorem src_empty{S:Nat}{p:Option Addr}{c:Nat}:Src P G w S [] (.slice p 0 c) []:=by
 refine⟨by simp,by simp,rowIn_nil _ _,⟨_,_,rfl⟩,fun w' _=>?_⟩;cases p<;>simp[Builtin.firstCells,loadCells,loadCellsFrom]
theorem contents_src(hi:Inv G w s.m) {x:D}{u:Value}(hx:VRel G w x u) {S:Nat}{r:List D}(h:contents S s.m x=some r):∃news,Src P G w S r u news:=by
 unfold contents at h;split at h
 ·injection h with h;subst h;simp only[VRel]at hx;subst hx;exact⟨[],src_empty⟩
 ·rename_i S' l;split at h
  ·rename_i hS;subst hS;injection h with h;subst h;simp only[VRel]at hx;obtain⟨p,n,c,rfl,rfl,hc,hx⟩:=hx;rcases hx with rfl|⟨b,off,rfl,hF,hrow⟩
   ·exact⟨[],src_empty⟩
   ·exact src_addr hrow
  ·cases h
 ·rename_i id ver;split at h
  ·rename_i S' ver' l hm;split at h
   ·rename_i hc;obtain⟨rfl,rfl⟩:=hc;injection h with h;subst h;simp only[VRel]at hx;obtain⟨p,n,c,rfl,hid,hver,hx⟩:=hx;obtain⟨a1,a2,a3,a4,a5⟩:=hi.ent _ _ hm;obtain⟨rfl,rfl,rfl⟩:=hx a1;rw[a3];rcases a5 with a5|⟨b',cs,T,hb',hF,hblk,hsz,hrow⟩
    ·have h00:=congrArg br a5.2;dsimp only at h00;have:l=[]:=Jn (by omega);subst this;exact⟨[],src_empty⟩
    ·rw[hb'];exact src_addr hrow
   ·cases h
  ·cases h
 ·rename_i id ver lo n;split at h
  ·rename_i S' ver' l hm;split at h
   ·rename_i hc;obtain⟨rfl,rfl,hle⟩:=hc;injection h with h;subst h;simp only[VRel]at hx;obtain⟨p,c,rfl,hnc,hid,hver,hx⟩:=hx;obtain⟨a1,a2,a3,a4,a5⟩:=hi.ent _ _ hm;have hlen:((l.drop lo).take n).length=n:=by simp;omega
    rcases hx a1 with rfl|⟨b,hb,rfl⟩
    ·simp;exact⟨[],src_empty⟩
    ·rcases a5 with a5|⟨b',cs,T,hb',hF,hblk,hsz,hrow⟩
     ·rw[a5.1]at hb;cases hb
     ·rw[hb]at hb';injection hb' with hb';subst hb';have:=src_addr (P:=P) (c:=c) (rowAt_take (rowAt_drop hrow lo) n);rw[hlen,Yo (G.C id).2]at this;rw[a2];exact this
   ·cases h
  ·cases h
 ·cases h
theorem run_app_none{t ty e:TypeId}{i:TypeInfo}(ht:P.underlying t=some (.slice e)) (hi:P.info? e=some i) {S:Nat}{u:Value}{news:List Value}(hu:Src P G w S [] u news) (hS:i.size=S) :
 (Builtin.append_ #[t,t] ty #[.slice none 0 0,u]).run P w=.ok (.slice none 0 0) w:=by
 obtain⟨p,c,rfl⟩:=hu.form;have hr:=hu.run w rfl;subst hS;simp only[vq]at hr;simp[Builtin.append_,run_underlying ht,sizeOf,typeInfo,hi,Builtin.lenOf,hr]
theorem run_app_room{t ty e:TypeId}{i:TypeInfo}(ht:P.underlying t=some (.slice e)) (hi:P.info? e=some i) {S:Nat}{r:List D}{u:Value}{news:List Value}(hu:Src P G w S r u news) (hS:i.size=S)
 {g f sLen sCap:Nat} {cur:Array Value} {T:TypeId} (hg:w.heap[g]?=some (.cells cur T (0,0))) (hroom:sLen+r.length≤sCap) (hfit:f+sLen*S+news.length≤cur.size) :
 (Builtin.append_ #[t,t] ty #[.slice (some ⟨g,f,none⟩) sLen sCap,u]).run P w =
  .ok (.slice (some ⟨g,f,none⟩) (sLen+r.length) sCap) (w.setRow g (cur.toList.take (f+sLen*S)++news++cur.toList.drop (f+sLen*S+news.length)).toArray):=by
 obtain⟨p,c,rfl⟩:=hu.form;have hr:=hu.run w rfl;subst hS;have hst:=run_storeCells_at P g (f+sLen*i.size) T news 0 cur w hg (by simpa using hfit) (fun v hv=>by rw[one_eq];exact hu.ones v hv);simp only[ep]at hst;simp[Builtin.append_,run_underlying ht,sizeOf,typeInfo,hi,Builtin.lenOf,hroom,hr,addr_add,hst]
theorem run_app_grow{t ty e:TypeId}{i:TypeInfo}{z:Value}(ht:P.underlying t=some (.slice e)) (hi:P.info? e=some i) (hz:i.zero=some z) {S:Nat}{r l:List D}{u x:Value}{news olds:List Value}(hu:Src P G w S r u news) (hx:Src P G w S l x olds) (hS:i.size=S)
 {p:Option Addr} {sCap:Nat} (hxe:x=.slice p l.length sCap) (hroom:sCap<l.length+r.length) (hb:(l.length+r.length)*i.bytes≤140737488355328) (h63:l.length+r.length≤9223372036854775807) :
 (Builtin.append_ #[t,t] ty #[x,u]).run P w =
  .ok (.slice (some ⟨w.heap.size,0,none⟩) (l.length+r.length) (grownCap w (l.length+r.length) sCap e))
   (w.drew.alloc (.cells (olds.toArray++news.toArray++Builtin.zeroCells z.cells (grownCap w (l.length+r.length) sCap e-(l.length+r.length))) e)):=by
 obtain⟨q,c,rfl⟩:=hu.form;subst hxe;have hr:=hu.run w.drew rfl;have hr':=hx.run w.drew rfl;subst hS;have hn:¬(l.length+r.length≤sCap):=by omega
 have h63':¬(9223372036854775807<((l.length:Int)+(r.length:Int))):=by omega
 have hfit:=growslice_fits (old:=sCap) hroom hb;have h48':¬(281474976710656<Builtin.nextslicecap (l.length+r.length) sCap*i.bytes):=by omega
 simp[Builtin.append_,run_underlying ht,sizeOf,typeInfo,zeroValue,hi,hz,Builtin.lenOf,hn,h63',h48',Question.forced,hr,hr',newRow,grownCap];congr 2;apply Uq;simp[Mo]
theorem RowIn.append{S:Nat}{l r:List D}{olds news:List Value}(h1:RowIn G w S l olds.toArray) (h2:RowIn G w S r news.toArray) (hl:olds.length=l.length*S) (rest:Array Value) :
 RowIn G w S (l++r) (olds.toArray++news.toArray++rest):=by
 intro i d hd;rw[Rp]at hd;split at hd
 ·rename_i hi;obtain⟨u,g1,g2,g3⟩:=h1 i d hd;refine⟨u,g1,g2,fun j c hc=>⟨(g3 j c hc).1,?_⟩⟩;have:=(g3 j c hc).2;have hlt:i*S+j<olds.length:=by
   have:=(Xn.1 this).1;simpa using this
  rw[Array.append_assoc,Hp (by simpa using hlt)];exact this
 ·rename_i hi;obtain⟨u,g1,g2,g3⟩:=h2 (i-l.length) d hd;refine⟨u,g1,g2,fun j c hc=>⟨(g3 j c hc).1,?_⟩⟩;have:=(g3 j c hc).2;have hlt:(i-l.length)*S+j<news.length:=by
   have:=(Xn.1 this).1;simpa using this
  have hge:l.length*S≤i*S:=so S (by omega);have hidx:i*S+j-olds.length=(i-l.length)*S+j:=by rw[hl,Xs];omega
  rw[Hp (by simp;omega),Array.getElem?_append_right (by simp;omega)];simp only[yp,ep,hidx];exact this
theorem own_upd{b:Option Nat}{id V N:Nat}{C:Nat×Nat}{w':World}(hid:id<G.n):VRel (G.upd id b V N C) w' (.own id V) (.slice (b.map fun b=>⟨b,C.2,none⟩) N C.1):=by
 simp only[VRel];exact⟨_,_,_,rfl,hid,by simp[Gh.upd],fun _=>⟨by simp[Gh.upd],by simp[Gh.upd],by simp[Gh.upd]⟩⟩
theorem own_newB{b:Option Nat}{S N C:Nat}{w':World}(hn:G.n=s.m.length):VRel (G.add b S N C) w' (.own s.m.length 0) (.slice (b.map fun b=>⟨b,0,none⟩) N C):=by
 simp only[VRel];exact⟨_,_,_,rfl,by simp[Gh.add,hn],Jp _,fun _=>⟨by simp[Gh.add,hn],by simp[Gh.add,hn],by simp[Gh.add,hn]⟩⟩
theorem grownCap_need(w:World) (need old:Nat) (e:TypeId):need≤grownCap w need old e:=grownCap_ge w need old e
theorem size_zeros(z:Array Value) (n:Nat):(Builtin.zeroCells z n).size=n*z.size:=size_zeroCells z n
theorem run_app_zeros{t u ty e:TypeId}{i:TypeInfo}{z:Value}(ht:P.underlying t=some (.slice e)) (hu:P.underlying u=some (.int .i64)) (hi:P.info? e=some i) (hz:i.zero=some z) (hS:0<i.size) (hb0:0<i.bytes) {k:Int}(hk:0<k) (hb:k.toNat*i.bytes≤140737488355328) :
 (Builtin.append_ #[t,u] ty #[.slice none 0 0,.int .i64 k]).run P w =
  .ok (.slice (some ⟨w.heap.size,0,none⟩) k.toNat (grownCap w k.toNat 0 e))
   (w.drew.alloc (.cells (Builtin.zeroCells z.cells k.toNat++Builtin.zeroCells z.cells (grownCap w k.toNat 0 e-k.toNat)) e)):=by
 obtain⟨n,rfl⟩:∃n:Nat,k=(n:Int):=⟨k.toNat,by omega⟩;simp only[Int.toNat_natCast]at hb⊢;have hn0:0<n:=by omega
 have hnb:n≤n*i.bytes:=Dq _ hb0;have hw:IntKind.i64.wrap (n:Int)=n:=by
  rw[IntKind.wrap_i64];omega
 have hn:¬(n≤0):=by omega
 have h63':¬(9223372036854775807<(n:Int)):=by omega
 have hfit:=growslice_fits (need:=0+n) (old:=0) (by omega) (by rw[oq];exact hb);rw[oq]at hfit;have h48':¬(281474976710656<Builtin.nextslicecap n 0*i.bytes):=by omega
 have h48:¬((281474976710656:Int)<(n:Int)*(i.bytes:Int)):=by omega
 have hneg:¬((n:Int)<0):=by omega
 have hns:¬(n*i.size=0):=Nat.ne_of_gt (Nat.mul_pos hn0 hS);have hn1:¬(n=0):=by omega
 simp[Builtin.append_,run_underlying ht,run_underlying hu,sizeOf,typeInfo,zeroValue,hi,hz,asInt,asIntOf,hw,hneg,h48,hn,h63',h48',Question.forced,newRow,grownCap,Builtin.firstCells,hn0];rw[if_neg hn1,if_neg hns]
theorem g_mkapp(hr:Rel G w a s) {t u e:TypeId}{i:TypeInfo}{z:Value}{x y:Operand}{o:Oper}(ho:o.op=.call { callee:=.builtin .append,args:=#[x,y],argTypes:=#[t,u] })
 (ht:P.underlying t=some (.slice e)) (hu:P.underlying u=some (.int .i64)) (hi:P.info? e=some i) (hz:zeroOf P e=some z) (hb0:0<i.bytes) (he:evalI s (.mkapp i.size i.bytes (leaf z) x y)=some (d,m')) :
 Good G w s.m ((execOp a.eval o).run P w) d m':=by
 obtain⟨hz1,hz2,hz3,i',hi',hsz,hzz⟩:=run_zero hz w;rw[hi]at hi';injection hi' with hi';subst hi';have hx:=hr.ev x;have hy:=hr.ev y;simp only[evalI]at he;unfold execOp;simp only[ho];generalize s.ev x=dx at *;generalize s.ev y=dy at *;split at he
 ·rename_i k;split at he
  ·rename_i hk;obtain⟨hk,hb⟩:=hk;injection he with he;injection he with h1 h2;subst h1;subst h2;simp only[VRel]at hx hy;have hrun:=run_app_zeros (w:=w) (ty:=o.type) ht hu hi hzz (by omega) hb0 hk (by omega);have hcap:=grownCap_need w k.toNat 0 e;have hrow:RowIn G w i.size (yn k.toNat (leaf z)) (Builtin.zeroCells z.cells k.toNat++Builtin.zeroCells z.cells (grownCap w k.toNat 0 e-k.toNat)):=by
    rw[hsz];intro j q hq;obtain⟨u,g1,g2,g3⟩:=rowIn_zeros (G:=G) (w:=w) hz2 k.toNat j q hq;refine⟨u,g1,g2,fun c v hv=>⟨(g3 c v hv).1,?_⟩⟩;have h3:=(g3 c v hv).2;rw[Hp (by have:=(Xn.1 h3).1;simpa [Builtin.zeroCells] using this)];exact h3
   have hd:=(Same.drew w).inv hr.inv;obtain⟨g1,g2⟩:=alloc_good hd i.size (yn k.toNat (leaf z)) (grownCap w k.toNat 0 e) _ e (hrow.mono ((Same.drew w).le G)) (by simpa using hcap) (by
    simp only[Gr,size_zeros,←hsz];rw[←gp];exact so _ (by omega))
   refine⟨.value (.slice (some ⟨w.heap.size,0,none⟩) k.toNat (grownCap w k.toNat 0 e)),_,_,?_,.inl ⟨_,rfl,?_⟩,g1,((Same.drew w).step G s.m).trans g2⟩
   ·simp[resolve,invoke,builtin,hx,hy,hrun]
   ·have:=own_newB (b:=some w.heap.size) (S:=i.size) (N:=k.toNat) (C:=grownCap w k.toNat 0 e) (w':=w.drew.alloc (.cells (Builtin.zeroCells z.cells k.toNat++Builtin.zeroCells z.cells (grownCap w k.toNat 0 e-k.toNat)) e)) hr.inv.n;simpa using this
  ·cases he
 ·cases he
theorem g_append(hr:Rel G w a s) {t e:TypeId}{i:TypeInfo}{z:Value}{x y:Operand}{o:Oper}(ho:o.op=.call { callee:=.builtin .append,args:=#[x,y],argTypes:=#[t,t] })
 (ht:P.underlying t=some (.slice e)) (hi:P.info? e=some i) (hz:zeroOf P e=some z) (hb0:0<i.bytes) (he:evalI s (.append i.size i.bytes x y)=some (d,m')) :
 Good G w s.m ((execOp a.eval o).run P w) d m':=by
 obtain⟨hz1,hz2,hz3,i',hi',hsz,hzz⟩:=run_zero hz w;rw[hi]at hi';injection hi' with hi';subst hi';have hx:=hr.ev x;have hy:=hr.ev y;simp only[evalI]at he;unfold execOp;simp only[ho];generalize s.ev x=dx at *;generalize s.ev y=dy at *;split at he
 ·rename_i r hcont;obtain⟨news,hu⟩:=contents_src (P:=P) hr.inv hy hcont;have lift:∀v w',(Builtin.append_ #[t,t] o.type #[a.eval x,a.eval y]).run P w=.ok v w'→
   (Sem.run P (do let d←resolve a.eval { callee:=.builtin .append,args:=#[x,y],argTypes:=#[t,t] } o.type;invoke d.target d.args) w)=.ok (.value v) w':=by
   intro v w' h;simp[resolve,invoke,builtin,h]
  have b47:(2:Nat) ^ 47=140737488355328:=by decide
  split at he
  ·split at he
   ·rename_i hbytes;injection he with he;injection he with h1 h2;subst h1;subst h2;simp only[VRel]at hx;by_cases hr0:r=[]
    ·subst hr0;have hrun:=run_app_none (w:=w) (ty:=o.type) ht hi hu rfl;rw[←hx]at hrun;have hadd:=add_good (w':=w) hr.inv none i.size 0 0 (.live i.size 0 []) rfl rfl rfl rfl (En _) (fun _ _=>rfl) (fun k h=>by cases h)
      ⟨by simp[Gh.add],by simp[Gh.add],by simp[Gh.add],by simp,.inl ⟨by simp[Gh.add],by simp[Gh.add]⟩⟩
     refine⟨_,_,_,lift _ _ hrun,.inl ⟨_,rfl,?_⟩,hadd.1,hadd.2⟩;rw[hx];exact own_newB (b:=none) hr.inv.n
    ·have hpos:0<r.length:=List.length_pos_iff.2 hr0;have hmul:r.length≤r.length*i.bytes:=Dq _ hb0;have hrun:=run_app_grow (w:=w) (ty:=o.type) ht hi hzz (l:=[]) hu src_empty rfl (p:=none) (sCap:=0) rfl (by simpa using hpos) (by simp;omega) (by simp;omega);simp only[vq,oq]at hrun;rw[←hx]at hrun;have hcap:=grownCap_need w r.length 0 e;have hrow:RowIn G w i.size r ([].toArray++news.toArray++Builtin.zeroCells z.cells (grownCap w r.length 0 e-r.length)):=RowIn.append (l:=[]) (rowIn_nil _ _) hu.row (by simp) _;have hd:=(Same.drew w).inv hr.inv;obtain⟨g1,g2⟩:=alloc_good hd i.size r (grownCap w r.length 0 e) _ e (hrow.mono ((Same.drew w).le G)) hcap (by
      simp only[Gr,yp,vq,oq,hu.len,size_zeros,←hsz];rw[←gp];exact so _ (by omega))
     refine⟨_,_,_,lift _ _ hrun,.inl ⟨_,rfl,?_⟩,g1,((Same.drew w).step G s.m).trans g2⟩;exact own_newB (b:=some w.heap.size) hr.inv.n
   ·cases he
  ·rename_i id ver;split at he
   ·rename_i S' ver' l hm;split at he
    ·rename_i hc;obtain⟨rfl,rfl,hbytes⟩:=hc;injection he with he;injection he with h1 h2;subst h1;subst h2;have hcx:contents i.size s.m (.own id ver')=some l:=by simp[contents,hm]
     obtain⟨olds,hsx⟩:=contents_src (P:=P) hr.inv hx hcx;simp only[VRel]at hx;obtain⟨p,n,c,hp,hid,hver,hx⟩:=hx;obtain⟨a1,a2,a3,a4,a5⟩:=hr.inv.ent _ _ hm;obtain⟨rfl,rfl,rfl⟩:=hx a1;have hmul:l.length+r.length≤(l.length+r.length)*i.bytes:=Dq _ hb0;by_cases hroom:l.length+r.length≤(G.C id).1
     ·rcases a5 with a5|⟨b',cs,T,hb',hF,hblk,hcs,hrow⟩
      ·
        have h00:=congrArg br a5.2;dsimp only at h00;have hl0:l=[]:=Jn (by omega);have hr0:r=[]:=Jn (by omega);subst hl0;subst hr0;have hrun:=run_app_none (w:=w) (ty:=o.type) ht hi hu rfl;have hxe:a.eval x=.slice none 0 0:=by rw[hp,a5.1,a3,a5.2];rfl
        rw[←hxe]at hrun;have key:=change_good (w':=w) hr.inv (e':=.live i.size (ver'+1) ([]++[])) hm rfl rfl none (ver'+1) 0 (0,0) (.inl (by omega)) rfl rfl rfl (En _) (fun _ _ _=>rfl) (fun k h=>by cases h)
         ⟨by simp[Gh.upd],by simpa [Gh.upd] using a2,by simp[Gh.upd],by simp,.inl ⟨by simp[Gh.upd],by simp[Gh.upd]⟩⟩
        exact⟨_,_,_,lift _ _ hrun,.inl ⟨_,rfl,by rw[hxe];exact own_upd (b:=none) (C:=(0,0)) hid⟩,key.1,key.2⟩
      ·
        have hmulC:=so i.size hroom;rw[gp]at hmulC;have hfit:(G.C id).2+l.length*i.size+news.length≤cs.size:=by rw[hu.len];omega
        have hrun:=run_app_room (ty:=o.type) ht hi hu rfl (sLen:=l.length) (sCap:=(G.C id).1) hblk hroom hfit;have hxe:a.eval x=.slice (some ⟨b',(G.C id).2,none⟩) l.length (G.C id).1:=by rw[hp,hb',a3];rfl
        rw[←hxe]at hrun;obtain⟨cs',hcs'⟩:∃cs':Array Value,cs'=(cs.toList.take ((G.C id).2+l.length*i.size)++news++cs.toList.drop ((G.C id).2+l.length*i.size+news.length)).toArray:=⟨_,rfl⟩;rw[←hcs']at hrun;have hget:∀k,cs'[k]?=if(G.C id).2+l.length*i.size≤k∧k<(G.C id).2+l.length*i.size+news.length then news[k-((G.C id).2+l.length*i.size)]? else cs[k]?:=by
         intro k;rw[hcs',xp,splice_get _ _ _ _ (by rw[Ao];omega)];simp only[Zn]
        have hsz':cs'.size=cs.size:=by
         have e1:=No (i:=(G.C id).2+l.length*i.size) (l:=cs.toList);have e2:=Gp (i:=(G.C id).2+l.length*i.size+news.length) (l:=cs.toList);have e3:=Ao (xs:=cs);rw[hcs',yp,uo,uo];omega
        have hkeep:∀k,G.B id≠some k→(w.setRow b' cs').heap[k]?=w.heap[k]?:=fun k hk=>setRow_other w b' k cs' fun h=>hk (by rw[h];exact hb');have hle:Le G w (G.upd id (some b') (ver'+1) (l.length+r.length) (G.C id)) (w.setRow b' cs'):=by
         refine⟨fun _ h=>h,fun k hk=>hkeep k fun h=>by rw[hb']at h;injection h with h;subst h;exact hF hk,En _,fun j _=>?_⟩;by_cases h:j=id
         ·subst h;exact .inr (by simp[Gh.upd];omega)
         ·exact .inl (by simp[Gh.upd,h])
        have hblk':=setRow_heap w b' cs cs' T (0,0) hblk;have hin:=rowIn_of_rowAt hblk hrow;have hrow':RowIn G w i.size (l++r) cs' (G.C id).2:=by
         intro j q hq;rw[Rp]at hq;split at hq
         ·rename_i hj;obtain⟨u,g1,g2,g3⟩:=hin j q hq;refine⟨u,g1,g2,fun k c hk=>⟨(g3 k c hk).1,?_⟩⟩;have hks:k<i.size:=by rw[←g2];exact(Xn.1 hk).1
          have hmj:=so i.size (show j+1≤l.length from hj);rw[gp]at hmj;rw[hget,if_neg (by omega)];exact(g3 k c hk).2
         ·rename_i hj;obtain⟨u,g1,g2,g3⟩:=hu.row (j-l.length) q hq;refine⟨u,g1,g2,fun k c hk=>⟨(g3 k c hk).1,?_⟩⟩;have hk':=(g3 k c hk).2;have hlt:(j-l.length)*i.size+k<news.length:=by simpa using(Xn.1 hk').1
          have hge:l.length*i.size≤j*i.size:=so i.size (by omega);have hidx:j*i.size+k+(G.C id).2-((G.C id).2+l.length*i.size)=(j-l.length)*i.size+k:=by rw[Xs];omega
          rw[hget,if_pos (by omega),hidx];simpa using hk'
        have key:=change_good (w':=w.setRow b' cs') hr.inv (e':=.live i.size (ver'+1) (l++r)) hm rfl rfl (some b') (ver'+1) (l.length+r.length) (G.C id) (.inl (by omega)) rfl rfl rfl
         (by rw[size_setRow'];exact En _) (fun k _ hk=>hkeep k hk) (fun k hk=>.inl (by rw[hb'];exact hk))
         ⟨by simp[Gh.upd],by simpa [Gh.upd] using a2,by simp[Gh.upd],by simpa [Gh.upd] using hroom,.inr ⟨b',cs',T,by simp[Gh.upd],hF,hblk',by simpa [Gh.upd,hsz'] using hcs,by simpa [Gh.upd] using rowAt_of_rowIn hblk' (hrow'.mono hle)⟩⟩
        exact⟨_,_,_,lift _ _ hrun,.inl ⟨_,rfl,own_upd (b:=some b') hid⟩,key.1,key.2⟩
     ·
       have hrun:=run_app_grow (w:=w) (ty:=o.type) ht hi hzz hu hsx rfl (sCap:=(G.C id).1) (by rw[hp,a3]) (by omega) (by omega) (by omega);have hcap:=grownCap_need w (l.length+r.length) (G.C id).1 e;have hrow:RowIn G w i.size (l++r) (olds.toArray++news.toArray++Builtin.zeroCells z.cells (grownCap w (l.length+r.length) (G.C id).1 e-(l.length+r.length))):=RowIn.append hsx.row hu.row hsx.len _;generalize hcells:(olds.toArray++news.toArray++Builtin.zeroCells z.cells (grownCap w (l.length+r.length) (G.C id).1 e-(l.length+r.length)))=cells at hrow hrun;have hcsz:grownCap w (l.length+r.length) (G.C id).1 e*i.size≤cells.size:=by
        rw[←hcells];simp only[Gr,yp,hu.len,hsx.len,size_zeros,←hsz];rw[←gp,←gp];exact so _ (by omega)
       have hkeep:∀k,k<w.heap.size→(w.drew.alloc (.cells cells e)).heap[k]?=w.heap[k]?:=fun k hk=>Below.heap_alloc w.drew _ _ hk;have hblk':(w.drew.alloc (.cells cells e)).heap[w.heap.size]?=some (.cells cells e (0,0)):=heap_alloc_new w.drew _;have hle:Le G w (G.upd id (some w.heap.size) (ver'+1) (l.length+r.length) (grownCap w (l.length+r.length) (G.C id).1 e,0)) (w.drew.alloc (.cells cells e)):=by
        refine⟨fun _ h=>h,fun k hk=>hkeep k (hr.inv.F k hk),En _,fun j _=>?_⟩;by_cases h:j=id
        ·subst h;exact .inr (by simp[Gh.upd];omega)
        ·exact .inl (by simp[Gh.upd,h])
       have key:=change_good (w':=w.drew.alloc (.cells cells e)) hr.inv (e':=.live i.size (ver'+1) (l++r)) hm rfl rfl (some w.heap.size) (ver'+1) (l.length+r.length) (grownCap w (l.length+r.length) (G.C id).1 e,0)
        (.inl (by omega)) rfl rfl rfl (by simp) (fun k hk _=>hkeep k hk) (fun k hk=>.inr (by injection hk with hk;omega))
        ⟨by simp[Gh.upd],by simpa [Gh.upd] using a2,by simp[Gh.upd],by simpa [Gh.upd] using hcap,.inr ⟨w.heap.size,cells,e,by simp[Gh.upd],fun hF=>by have:=hr.inv.F _ hF;omega,hblk',by simpa [Gh.upd] using hcsz,by simpa [Gh.upd] using rowAt_of_rowIn hblk' (hrow.mono hle)⟩⟩
       exact⟨_,_,_,lift _ _ hrun,.inl ⟨_,rfl,own_upd (b:=some w.heap.size) (C:=(_,0)) hid⟩,key.1,key.2⟩
    ·cases he
   ·cases he
  ·cases he
 ·cases he
theorem g_trunc(hr:Rel G w a s) {t e:TypeId}{i:TypeInfo}{x:Operand}{lo hi:Option Operand}{o:Oper}(ho:o.op=.slice t x lo hi none)
 (ht:P.underlying t=some (.slice e)) (hi':P.info? e=some i) (he:evalI s (.trunc i.size x lo hi)=some (d,m')):Good G w s.m ((execOp a.eval o).run P w) d m':=by
 have hx:=hr.ev x;have other:(∀id ver,s.ev x≠.own id ver)→Good G w s.m ((execOp a.eval o).run P w) d m':=fun hne=>by
  refine g_slice hr ho ht hi' (by simp) ?_;simp only[evalI]at he⊢
  cases hdx:s.ev x with
  |own id ver=>exact(hne id ver hdx).elim
  |_=>simp only[hdx]at he⊢;exact he
 cases hdx:s.ev x with
 |own id ver=>
  simp only[evalI,hdx]at he;split at he
  ·rename_i S' ver' l hm;split at he
   ·rename_i al h hl hh;split at he
    ·rename_i hc;obtain⟨hlh,rfl,rfl,hle⟩:=hc;injection he with he;injection he with e1 e2;subst e1;subst e2;rw[hdx]at hx;have hn:lenOfD s.m (.own id ver')=some l.length:=by simp[lenOfD,hm]
     obtain⟨p,cap,hp,hcap⟩:=lenOf_good hr.inv hx hn;obtain⟨m,hb,hmh,hmc,hmn⟩:=run_bounds (P:=P) hr hcap (mx:=none) (by simp) hl hh (k:=l.length) rfl hle (En _) hlh;have hmn:=hmn rfl;subst hmn;simp only[VRel]at hx;obtain⟨p',n',c',hp',hid,hver,hx⟩:=hx;rw[hp]at hp';injection hp' with q1 q2 q3;subst q1;subst q2;subst q3;obtain⟨a1,a2,a3,a4,a5⟩:=hr.inv.ent _ _ hm;obtain⟨hpe,-,hce⟩:=hx a1;obtain⟨C,hC⟩:∃C:Nat×Nat,C=if m=al then(0,(G.C id).2)else(m-al,(G.C id).2+al*i.size):=⟨_,rfl⟩;have hC1:C.1=m-al:=by rw[hC];split<;>simp;omega
     have run:(execOp a.eval o).run P w=.ok (.value (.slice ((G.B id).map fun b=>⟨b,C.2,none⟩) (h-al) C.1)) w:=by
      have e0:(execOp a.eval o).run P w=.ok (.value (.slice (if m=al then p else p.map (·.add (al*i.size))) (h-al) (m-al))) w:=by
       unfold execOp;simp only[ho,hp];simp at hb;simp[Instr.sliceAt,Instr.slice,run_underlying ht,hb,run_sizeOf' hi']
      rw[e0,hC1,hpe,hC];split
      ·rfl
      ·cases G.B id with
       |none=>rfl
       |some b=>simp[addr_add]
     have hlw:Le G w (G.upd id (G.B id) (ver'+1) (h-al) C) w:=by
      refine⟨fun _ h=>h,fun _ _=>rfl,En _,fun j _=>?_⟩;by_cases hj:j=id
      ·subst hj;exact .inr (by simp[Gh.upd];omega)
      ·exact .inl (by simp[Gh.upd,hj])
     have hlen:((l.take h).drop al).length=h-al:=by rw[Gp,No];omega
     have key:=change_good (w':=w) hr.inv (e':=.live i.size (ver'+1) ((l.take h).drop al)) hm rfl rfl (G.B id) (ver'+1) (h-al) C (.inl (by omega)) rfl rfl rfl (En _) (fun _ _ _=>rfl) (fun k hk=>.inl hk)
      ⟨by simp[Gh.upd],by simpa [Gh.upd] using a2,by simp only[Gh.upd,if_pos,hlen],by rw[hlen];simp only[Gh.upd,if_pos];omega,by
       rcases a5 with a5|⟨b',cs,T,hb',hF,hblk,hcs,hrow⟩
       ·refine .inl ⟨by simpa [Gh.upd] using a5.1,?_⟩;have h0:=a5.2;have h1:=congrArg br h0;dsimp only at h1;simp only[Gh.upd,if_pos];rw[hC,if_pos (by omega),h0]
       ·refine .inr ⟨b',cs,T,by simpa [Gh.upd] using hb',hF,hblk,?_,?_⟩
        ·simp only[Gh.upd,if_pos];rw[hC];split
         ·dsimp only;omega
         ·dsimp only;have h1:(m-al)*i.size+al*i.size=m*i.size:=by rw[←gp];congr 1;omega
          rw[←hce]at hcs;omega
        ·have e0:((G.upd id (G.B id) (ver'+1) (h-al) C).C id).2=C.2:=by simp[Gh.upd]
         rw[e0];by_cases hma:m=al
         ·have hnil:(l.take h).drop al=[]:=Jn (by rw[hlen];omega);rw[hnil];simp[RowAt]
         ·have e2:C.2=(G.C id).2+al*i.size:=by rw[hC,if_neg hma]
          rw[e2];exact(rowAt_drop (rowAt_take hrow h) al).mono hlw rfl⟩
     exact⟨_,_,_,run,.inl ⟨_,rfl,own_upd hid⟩,key.1,key.2⟩
    ·cases he
   ·cases he
  ·cases he
 |_=>exact other (by intro id ver h;rw[hdx]at h;cases h)
end
end Go.Tm
namespace Go.Tm
open Go.RowKit (Below)
section
variable {P:Program} {G:Gh} {w:World} {a:Act} {s:St} {d:D} {m':List Ent}
theorem leaves_vals(hr:Rel G w a s):∀{xs:List Operand}{vs:List Value},leaves (xs.map s.ev)=some vs→xs.map a.eval=vs
 |[],vs,h=>by simp[leaves]at h;simp[h]
 |x::xs,vs,h=>by
  have hx:=hr.ev x;simp only[Vn]at h;generalize s.ev x=dx at *;cases dx<;>simp only[leaves,reduceCtorEq]at h;simp only[sn]at h;obtain⟨us,h1,rfl⟩:=h;simp only[VRel]at hx;simp[hx,leaves_vals hr h1]
theorem g_mm(hr:Rel G w a s) {isMax:Bool}{xs:Array Operand}{tys:Array TypeId}{o:Oper}(ho:o.op=.call { callee:=.builtin (if isMax then .max else .min),args:=xs,argTypes:=tys })
 (he:evalI s (.mm isMax xs.toList)=some (d,m')):Good G w s.m ((execOp a.eval o).run P w) d m':=by
 simp only[evalI]at he;split at he
 ·rename_i vs hvs;simp only[sn,Bn]at he;obtain⟨r,hp,rfl,rfl⟩:=he;have hl:=leaves_vals hr hvs;have harr:xs.map a.eval=vs.toArray:=by
   apply Uq;rw[Mr,hl]
  refine good_here (u:=r) hr.inv ?_ (by simp[VRel]);unfold execOp;simp only[ho]
  cases isMax with
  |true=>
   have:∀t n,Builtin.max_ t n vs.toArray=Builtin.max_ #[] 0 vs.toArray:=fun _ _=>rfl;simp only[if_true]at hp;simp[resolve,invoke,builtin,harr,this,pureRun_run hp]
  |false=>
   have:∀t n,Builtin.min_ t n vs.toArray=Builtin.min_ #[] 0 vs.toArray:=fun _ _=>rfl;simp only[tn,if_false]at hp;simp[resolve,invoke,builtin,harr,this,pureRun_run hp]
 ·cases he
theorem run_part_one{t:TypeId}{ds:TypeDesc}(hd:P.underlying t=some ds) (hA:isAggD ds=false) {cs:Array Value}{off:Nat}{u:Value}(hu:cs[off]?=some u):(Go.part t cs off).run P w=.ok u w:=by
 unfold Go.part;simp[run_isAgg' hd,hA,hu]
theorem eqKind_run{dep:Nat}{t:TypeId}{k:Nat}{x y:D}{b:Bool}{u v:Value}{w:World}(hk:eqKind P t=some k) (hb:eqLeaf k x y=some b) (hx:VRel G w x u) (hy:VRel G w y v) :
 (Op.equalIn (dep+1) t u v).run P w=.ok b w∧∃ds,P.underlying t=some ds∧isAggD ds=false:=by
 unfold eqKind at hk;split at hk
 ·rename_i k' hd;injection hk with hk;subst hk;refine⟨?_,_,hd,rfl⟩;cases x<;>cases y<;>simp only[eqLeaf,reduceCtorEq]at hb;rename_i x y;cases x<;>cases y<;>simp only[eqLeaf,reduceCtorEq]at hb;split at hb
  ·rename_i hk;injection hb with hb;simp only[VRel]at hx hy;subst hx;subst hy;subst hk;subst hb;exact run_equalIn_int w dep t _ _ _ _ hd
  ·cases hb
 ·rename_i hd;injection hk with hk;subst hk;refine⟨?_,_,hd,rfl⟩;cases x<;>cases y<;>simp only[eqLeaf,reduceCtorEq]at hb;rename_i x y;cases x<;>cases y<;>simp only[eqLeaf,reduceCtorEq]at hb;injection hb with hb;simp only[VRel]at hx hy;subst hx;subst hy;subst hb;exact run_equalIn_bool' w dep t _ _ hd
 ·rename_i hd;injection hk with hk;subst hk;refine⟨?_,_,hd,rfl⟩;cases x<;>cases y<;>simp only[eqLeaf,reduceCtorEq]at hb;rename_i x y;cases x<;>cases y<;>simp only[eqLeaf,reduceCtorEq]at hb;injection hb with hb;simp only[VRel]at hx hy;subst hx;subst hy;subst hb;exact run_equalIn_string w dep t _ _ hd
 ·cases hk
theorem eqField_one{dep:Nat}{xs ys:List Value}{w:World}{f:Field}{fs:List Field}{k off:Nat}{ks:List Nat}{l r:List D}{t:Bool}(hname:f.name≠ "_") (hoff:f.offset=off) (hk:eqKind P f.type=some k)
 (he:eqLeaves (k::ks) l r=some t) (hl:VsRel G w l (xs.drop off)) (hr:VsRel G w r (ys.drop off))
 (ih:∀{l r:List D} {t:Bool},eqLeaves ks l r=some t→VsRel G w l (xs.drop (off+1))→VsRel G w r (ys.drop (off+1))→(Op.eqFields (dep+1) xs.toArray ys.toArray fs).run P w=.ok t w) :
 (Op.eqFields (dep+1) xs.toArray ys.toArray (f::fs)).run P w=.ok t w:=by
 cases l with
 |nil=>simp[eqLeaves]at he
 |cons x l=>
  cases r with
  |nil=>simp[eqLeaves]at he
  |cons y r=>
   simp only[eqLeaves]at he;split at he
   ·rename_i b c hb hcc;injection he with he;subst he;simp only[VsRel]at hl hr;obtain⟨u,us,hu,hx,hl⟩:=hl;obtain⟨v,vs,hv,hy,hr⟩:=hr;have hxu:xs[off]?=some u:=by have:=congrArg (fun l=>l[0]?) hu;simpa using this
    have hyv:ys[off]?=some v:=by have:=congrArg (fun l=>l[0]?) hv;simpa using this
    have hxs:xs.drop (off+1)=us:=by have:=congrArg Zs hu;simpa [Rs] using this
    have hys:ys.drop (off+1)=vs:=by have:=congrArg Zs hv;simpa [Rs] using this
    have ih:=ih hcc (by rw[hxs];exact hl) (by rw[hys];exact hr);obtain⟨e3,ds,hd,hA⟩:=eqKind_run (P:=P) (dep:=dep) hk hb hx hy;have e1:=run_part_one (w:=w) (P:=P) (cs:=xs.toArray) (off:=off) hd hA (by simpa using hxu);have e2:=run_part_one (w:=w) (P:=P) (cs:=ys.toArray) (off:=off) hd hA (by simpa using hyv);simp only[Op.eqFields,hname,hoff,ne_eq,not_false_eq_true,if_true,Sem.run_bind,e1,e2,e3,Result.andThen_ok];cases b
    ·simp
    ·simpa using ih
   ·cases he
theorem eqFields_run{dep:Nat}{xs ys:List Value}{w:World}:∀{fs:List Field}{ks:List Nat}{off:Nat}{l r:List D}{t:Bool},eqPlan P fs off=some ks→eqLeaves ks l r=some t→VsRel G w l (xs.drop off)→VsRel G w r (ys.drop off)→
 (Op.eqFields (dep+1) xs.toArray ys.toArray fs).run P w=.ok t w
 |[],ks,off,l,r,t,hp,he,hl,hr=>by
  simp only[eqPlan]at hp;injection hp with hp;subst hp;cases l<;>cases r<;>simp[eqLeaves]at he;subst he;simp[Op.eqFields]
 |f::fs,ks,off,l,r,t,hp,he,hl,hr=>by
  simp only[eqPlan]at hp;split at hp
  ·rename_i hc;split at hp
   ·rename_i k ks' hk hp';injection hp with hp;subst hp;exact eqField_one hc.1 hc.2 hk he hl hr fun h1 h2 h3=>eqFields_run hp' h1 h2 h3
   ·cases hp
  ·cases hp
theorem eqLeaves_append:∀{k1 k2:List Nat}{l r:List D}{t:Bool},eqLeaves (k1++k2) l r=some t→
 ∃t1 t2,eqLeaves k1 (l.take k1.length) (r.take k1.length)=some t1∧eqLeaves k2 (l.drop k1.length) (r.drop k1.length)=some t2∧t=(t1&&t2)
 |[],k2,l,r,t,h=>⟨true,t,by simp[eqLeaves],by simpa using h,by simp⟩
 |k::k1,k2,l,r,t,h=>by
  cases l with
  |nil=>simp[eqLeaves]at h
  |cons x l=>
   cases r with
   |nil=>simp[eqLeaves]at h
   |cons y r=>
    simp only[xo,eqLeaves]at h;split at h
    ·rename_i b c hb hc;injection h with h;subst h;obtain⟨t1,t2,h1,h2,rfl⟩:=eqLeaves_append hc;refine⟨b&&t1,t2,?_,by simpa using h2,by rw[Bool.and_assoc]⟩;simp only[jo,Zo,eqLeaves,hb,h1]
    ·cases h
theorem run_part_agg{t:TypeId}{gs:Array Field}(hd:P.underlying t=some (.struct gs)) {i:TypeInfo}(hi:P.info? t=some i) {cs:List Value}{off:Nat}{w:World}:(Go.part t cs.toArray off).run P w=.ok (.agg ((cs.drop off).take i.size).toArray) w:=by
 unfold Go.part;have hsz:(sizeOf t).run P w=.ok i.size w:=by simp[sizeOf,typeInfo,hi]
 have hA:isAggD (.struct gs)=true:=rfl;simp only[Sem.run_bind,run_isAgg' hd,hA,Result.andThen_ok,if_true,hsz,Sem.run_pure];congr 2;apply Uq;simp[List.extract_eq_drop_take]
theorem eqFields2_run{dep:Nat}{xs ys:List Value}{w:World}:∀{fs:List Field}{ks:List Nat}{off:Nat}{l r:List D}{t:Bool},eqPlan2 P fs off=some ks→eqLeaves ks l r=some t→VsRel G w l (xs.drop off)→VsRel G w r (ys.drop off)→
 (Op.eqFields (dep+1+1) xs.toArray ys.toArray fs).run P w=.ok t w
 |[],ks,off,l,r,t,hp,he,hl,hr=>by
  simp only[eqPlan2]at hp;injection hp with hp;subst hp;cases l<;>cases r<;>simp[eqLeaves]at he;subst he;simp[Op.eqFields]
 |f::fs,ks,off,l,r,t,hp,he,hl,hr=>by
  simp only[eqPlan2]at hp;split at hp
  ·rename_i hc;split at hp
   ·rename_i gs hd;split at hp
    ·rename_i ks1 i hk1 hi;split at hp
     ·rename_i hsz;simp only[sn]at hp;obtain⟨ks2,hp2,rfl⟩:=hp;obtain⟨t1,t2,h1,h2,rfl⟩:=eqLeaves_append he;have hfo:P.fieldsOf f.type=gs:=by simp[Program.fieldsOf,hd]
      have e1:=run_part_agg (w:=w) hd hi (cs:=xs) (off:=off);have e2:=run_part_agg (w:=w) hd hi (cs:=ys) (off:=off);rw[hsz.1]at e1 e2;have e3:(Op.equalIn (dep+1+1) f.type (.agg ((xs.drop off).take ks1.length).toArray) (.agg ((ys.drop off).take ks1.length).toArray)).run P w=.ok t1 w:=by
       rw[run_equalIn_struct w _ f.type _ _ (by rw[hfo];exact hd) hsz.2,hfo];exact eqFields_run (dep:=dep) (G:=G) (off:=0) hk1 h1 (by simpa using hl.take ks1.length) (by simpa using hr.take ks1.length)
      have ih:=eqFields2_run (dep:=dep) (xs:=xs) (ys:=ys) hp2 h2 (by simpa [Cr] using hl.drop ks1.length) (by simpa [Cr] using hr.drop ks1.length);simp only[Op.eqFields,hc.1,hc.2,ne_eq,not_false_eq_true,if_true,Sem.run_bind,e1,e2,e3,Result.andThen_ok];cases t1
      ·simp
      ·simpa using ih
     ·cases hp
    ·cases hp
   ·split at hp
    ·rename_i k ks' hk hp';injection hp with hp;subst hp;exact eqField_one hc.1 hc.2 hk he hl hr fun h1 h2 h3=>eqFields2_run hp' h1 h2 h3
    ·cases hp
  ·cases hp
theorem g_ceq(hr:Rel G w a s) {op:BinOp}{t:TypeId}{x y:Operand}{yt:TypeId}{fs:Array Field}{ks:List Nat}{o:Oper}(ho:o.op=.binOp op t x y yt) (ht:P.underlying t=some (.struct fs)) (hop:op=.eql∨op=.neq)
 (h1:P.stoodInHeld t=false) (h2:P.eqGuardType P.depth t=false) (hk:eqPlan2 P fs.toList 0=some ks) (he:evalI s (.ceq (decide (op=.neq)) ks x y)=some (d,m')) :
 Good G w s.m ((execOp a.eval o).run P w) d m':=by
 have hx:=hr.ev x;have hy:=hr.ev y;simp only[evalI]at he;unfold execOp;simp only[ho];generalize s.ev x=dx at *;generalize s.ev y=dy at *;split at he
 ·rename_i l r;simp only[VRel]at hx hy;obtain⟨xs,hx,hl,-⟩:=hx;obtain⟨ys,hy,hr',-⟩:=hy;simp only[sn,Bn]at he;obtain⟨b,hb,rfl,rfl⟩:=he;have hfo:P.fieldsOf t=fs:=by simp[Program.fieldsOf,ht]
  have hrun:(Op.equalIn 10000 t (.agg xs.toArray) (.agg ys.toArray)).run P w=.ok b w:=by
   rw[show(10000:Nat)=9997+1+1+1 from rfl,run_equalIn_struct w _ t _ _ (by rw[hfo];exact ht) h1,hfo];exact eqFields2_run (dep:=9997) (G:=G) (off:=0) hk hb (by simpa using hl) (by simpa using hr')
  have hg:=run_eqGuard_agg (P:=P) w op t x y xs.toArray ys.toArray h2;rcases hop with rfl|rfl
  ·refine good_here (u:=.bool b) hr.inv ?_ (by simp[VRel]);simp[hx,hy,hg,run_eql_struct,hrun]
  ·refine good_here (u:=.bool (!b)) hr.inv ?_ (by simp[VRel]);simp[hx,hy,hg,run_neq_struct,hrun]
 ·cases he
theorem g_sidx(hr:Rel G w a s) {t:TypeId}{x y:Operand}{o:Oper}(ho:o.op=.index t x y) (ht:P.underlying t=some .string) (he:evalI s (.sidx x y)=some (d,m')) :
 Good G w s.m ((execOp a.eval o).run P w) d m':=by
 have hx:=hr.ev x;have hy:=hr.ev y;simp only[evalI]at he;unfold execOp;simp only[ho];generalize s.ev x=dx at *;generalize s.ev y=dy at *;split at he
 ·rename_i b jk k;split at he
  ·rename_i hk;injection he with he;injection he with h1 h2;subst h1;subst h2;simp only[VRel]at hx hy;refine good_here (u:=.int .u8 (b[k.toNat]'hk.2).toNat) hr.inv ?_ (by simp[VRel]);have hg:b[k.toNat]?=some (b[k.toNat]'hk.2):=by simp[hk.2]
   simp[Instr.index,hx,hy,asIntOf,run_underlying ht,hk.1,hg]
  ·cases he
 ·cases he
theorem g_sslice(hr:Rel G w a s) {t:TypeId}{x:Operand}{lo hi:Option Operand}{o:Oper}(ho:o.op=.slice t x lo hi none) (ht:P.underlying t=some .string) (he:evalI s (.sslice x lo hi)=some (d,m')) :
 Good G w s.m ((execOp a.eval o).run P w) d m':=by
 have hx:=hr.ev x;simp only[evalI]at he;have one:∀{x:Option Operand} {dflt r:Nat},bound s dflt x=some r→(x=none∧r=dflt)∨∃y j,x=some y∧a.eval y=.int j (r:Int):=by
  intro x dflt r hb
  cases x with
  |none=>simp[bound]at hb;exact .inl ⟨rfl,hb.symm⟩
  |some y=>
   have hy:=hr.ev y;simp only[bound]at hb;generalize s.ev y=dy at *;split at hb
   ·rename_i j q;split at hb
    ·rename_i hq;injection hb with hb;simp only[VRel]at hy;exact .inr ⟨y,j,rfl,by rw[hy,←hb,Tq hq]⟩
    ·cases hb
   ·cases hb
 have rb:∀(x:Value) (y:Nat) (code:BoundsCode) (j:IntKind) (r:Nat),x=.int j (r:Int)→r≤y→(Instr.sliceBound x y code).run P w=.ok r w:=fun x y code j r hx hr'=>by
  have:=run_bound (P:=P) x y code hx (xr r) (by omega) w;simpa using this
 unfold execOp;simp only[ho];generalize s.ev x=dx at *;split at he
 ·rename_i b;split at he
  ·rename_i l h hl hh;split at he
   ·rename_i hc;injection he with he;injection he with h1 h2;subst h1;subst h2;simp only[VRel]at hx;refine good_here (u:=.string (b.extract l h)) hr.inv ?_ (by simp[VRel]);rcases one hl with⟨rfl,rfl⟩|⟨yl,jl,rfl,el⟩<;>rcases one hh with⟨rfl,rfl⟩|⟨yh,jh,rfl,eh⟩
    ·simp[Instr.sliceAt,Instr.slice,run_underlying ht,hx,Instr.sliceBounds]
    ·simp[Instr.sliceAt,Instr.slice,run_underlying ht,hx,Instr.sliceBounds,rb _ b.size _ _ _ eh hc.2]
    ·simp[Instr.sliceAt,Instr.slice,run_underlying ht,hx,Instr.sliceBounds,rb _ b.size _ _ _ el hc.1]
    ·simp[Instr.sliceAt,Instr.slice,run_underlying ht,hx,Instr.sliceBounds,rb _ b.size _ _ _ eh hc.2,rb _ h _ _ _ el hc.1]
   ·cases he
  ·cases he
 ·cases he
theorem cell?_freeze(w:World) (b n k:Nat) (p:Addr):(w.freeze ⟨b,n,none⟩ k).cell? p=w.cell? p:=by
 unfold World.freeze;by_cases hk:k=0
 ·rw[if_pos hk]
 ·rw[if_neg hk];simp only[World.cell?,Mq];by_cases h:b=p.block
  ·rw[if_pos h]
   cases hh:w.heap[p.block]? with
   |none=>simp
   |some o=>cases o<;>simp
  ·rw[if_neg h]
theorem heap_freeze_other(w:World) (b n k j:Nat) (h:j≠b):(w.freeze ⟨b,n,none⟩ k).heap[j]?=w.heap[j]?:=by
 unfold World.freeze;split
 ·rfl
 ·simp only[Mq];rw[if_neg (Ne.symm h)]
theorem size_freeze(w:World) (b n k:Nat):(w.freeze ⟨b,n,none⟩ k).heap.size=w.heap.size:=by
 unfold World.freeze;split<;>simp
theorem rows_freeze(w:World) (b n k:Nat):(w.freeze ⟨b,n,none⟩ k).os=w.os∧(w.freeze ⟨b,n,none⟩ k).tape=w.tape∧(w.freeze ⟨b,n,none⟩ k).output=w.output:=by
 unfold World.freeze;split<;>exact⟨rfl,rfl,rfl⟩
def Gh.fz(G:Gh) (id:Nat):Gh:={ G with F:=fun b=>G.F b∨G.B id=some b,V:=fun i=>if i=id then G.V i+1 else G.V i }
theorem Le.fzW{G:Gh}{w w':World}(id:Nat) (h:∀b,G.F b→w'.heap[b]?=w.heap[b]?):Le G w (G.fz id) w':=by
 refine⟨fun _ h=>.inl h,h,En _,fun i _=>?_⟩;by_cases h:i=id
 ·exact .inr (by simp[Gh.fz,h])
 ·exact .inl (by simp[Gh.fz,h])
theorem gone_good{G:Gh}{w w':World}{m:List Ent}(hi:Inv G w m) {id:Nat}{e:Ent}(hm:m[id]?=some e) (hl:e.isLive=true)
 (hos:w'.os=w.os) (htape:w'.tape=w.tape) (hout:w'.output=w.output) (hsize:w'.heap.size=w.heap.size) (hkeep:∀k,G.B id≠some k→w'.heap[k]?=w.heap[k]?) :
 Inv (G.fz id) w' (m.set id .gone)∧Step G w m (G.fz id) w' (m.set id .gone):=by
 have hle:Le G w (G.fz id) w':=Le.fzW id fun b hb=>hkeep b fun h=>((hi.ent id e hm).lt hl h).2 hb;have hget:∀i x,(m.set id .gone)[i]?=some x→(i=id∧x=.gone)∨(i≠id∧m[i]?=some x):=by
  intro i x hx;rw[List.getElem?_set]at hx;split at hx
  ·rename_i hij;subst hij;split at hx
   ·injection hx with hx;exact .inl ⟨rfl,hx.symm⟩
   ·cases hx
  ·rename_i hij;exact .inr ⟨fun h=>hij h.symm,hx⟩
 refine⟨⟨by simp[Gh.fz,hi.n],?_,?_,?_,hi.gl.mono hle⟩,⟨hle,hos,htape,hout,by rw[hsize];exact En _,?_,?_,?_⟩⟩
 ·rintro b (h|h)
  ·rw[hsize];exact hi.F b h
  ·rw[hsize];exact((hi.ent _ _ hm).lt hl h).1
 ·intro i x hx;rcases hget i x hx with⟨rfl,rfl⟩|⟨hne,hx'⟩
  ·trivial
  ·by_cases hlx:x.isLive=true
   ·refine(hi.ent i x hx').mono hle (by simp[Gh.fz,hne]) (fun b hb=>hkeep b fun h=>hne (hi.apart i id x e hx' hm hlx hl b hb h)) ?_;rintro b hb _ (h|h)
    ·exact h
    ·exact(hne (hi.apart i id x e hx' hm hlx hl b hb h)).elim
   ·cases x with
    |gone=>trivial
    |_=>simp[Ent.isLive]at hlx
 ·intro i j x y hx hy lx ly b hb hb';rcases hget i x hx with⟨rfl,rfl⟩|⟨_,hx'⟩
  ·cases lx
  ·rcases hget j y hy with⟨rfl,rfl⟩|⟨_,hy'⟩
   ·cases ly
   ·exact hi.apart i j x y hx' hy' lx ly b hb hb'
 ·intro b _ ho;exact hkeep b fun h=>ho ⟨id,e,hm,hl,h⟩
 ·rintro b _ (h|h)
  ·exact .inl h
  ·exact .inr ⟨id,e,hm,hl,h⟩
 ·rintro b _ ⟨i,x,hx,lx,hB⟩;rcases hget i x hx with⟨rfl,rfl⟩|⟨_,hx'⟩
  ·cases lx
  ·exact⟨i,x,hx',lx,hB⟩
theorem vrel_isV{G G':Gh}{w w':World}{d:D}{u:Value}(h:isV d=true) (hv:VRel G w d u):VRel G' w' d u:=by
 cases d<;>simp[isV]at h;simpa [VRel] using hv
theorem g_strb(hr:Rel G w a s) {t e:TypeId}{S:Nat}{x:Operand}{o:Oper}(ho:o.op=.convert t t x) (ht:P.underlying t=some (.slice e)) (hu:P.underlying e=some (.int .u8)) (he:evalI s (.strb S x)=some (d,m')) :
 Good G w s.m ((execOp a.eval o).run P w) d m':=by
 have hx:=hr.ev x;simp only[evalI]at he;generalize s.ev x=dx at *;split at he
 ·rename_i id ver;split at he
  ·rename_i S ver' l hm;split at he
   ·rename_i hc;obtain⟨rfl,rfl,hpos,hv⟩:=hc;injection he with he;injection he with h1 h2;subst h1;subst h2;simp only[VRel]at hx;obtain⟨p,n,c,hp,hid,hver,hx⟩:=hx;have hinv:=hr.inv;obtain⟨a1,a2,a3,a4,a5⟩:=hinv.ent _ _ hm;obtain⟨rfl,rfl,rfl⟩:=hx a1;rcases a5 with a5|⟨b,cs,T,hb,hF,hblk,hsz,hrow⟩
    ·have:=congrArg br a5.2;dsimp only at this;omega
    ·rw[hb]at hp;have hp':a.eval x=.slice (some ⟨b,(G.C id).2,none⟩) (G.N id) (G.C id).1:=hp;have hshape:w.shape? b=some (T,cs.size):=by simp[World.shape?,hblk]
     have hrun:(execOp a.eval o).run P w=.ok (.value (a.eval x)) (w.freeze ⟨b,cs.size,none⟩ 1):=by
      unfold execOp;simp only[ho,hp'];simp[convert,run_underlying ht,run_underlying hu,markStringish,hshape]
     obtain⟨r1,r2,r3⟩:=rows_freeze w b cs.size 1;obtain⟨g1,g2⟩:=gone_good (w':=w.freeze ⟨b,cs.size,none⟩ 1) hinv hm rfl r1 r2 r3 (size_freeze _ _ _ _) fun k hk=>heap_freeze_other w b _ _ k fun h=>hk (by rw[h];exact hb);refine⟨_,_,_,hrun,.inl ⟨_,rfl,?_⟩,g1,g2⟩;rw[hp'];simp only[VRel];refine⟨_,_,_,rfl,a3,by rw[a3];exact a4,.inr ⟨b,(G.C id).2,rfl,.inr hb,rowAt_iff.2 fun i e he=>?_⟩⟩;obtain⟨u,k1,k2,k3⟩:=rowAt_iff.1 hrow i e he;exact⟨u,vrel_isV (List.all_eq_true.1 hv e (Bo he)) k1,k2,fun j c hj=>⟨(k3 j c hj).1,by rw[cell?_freeze];exact(k3 j c hj).2⟩⟩
   ·cases he
  ·cases he
 ·cases he
theorem key_kind{t:TypeId}{K:Nat}(h:keyKind P t=some K):(K=0∧P.underlying t=some (.int .i64))∨(K=2∧P.underlying t=some .string):=by
 unfold keyKind at h;split at h
 ·rename_i ht;injection h with h;exact .inl ⟨h.symm,ht⟩
 ·rename_i ht;injection h with h;exact .inr ⟨h.symm,ht⟩
 ·cases h
theorem run_checkKey{t:TypeId}{K:Nat}(h:keyKind P t=some K) {kv:Value}(hk:isKey K kv=true) (b:Bool) (w:World):(Instr.checkKey b 10000 t kv).run P w=.ok () w:=by
 rw[show(10000:Nat)=9999+1 from rfl,Instr.checkKey];rcases key_kind h with⟨rfl,ht⟩|⟨rfl,ht⟩
 ·cases kv<;>simp[isKey]at hk;simp[run_underlying ht]
 ·cases kv<;>simp[isKey]at hk;simp[run_underlying ht]
theorem same_now{t:TypeId}{K:Nat}(h:keyKind P t=some K) {p q:Value}(hp:isKey K p=true) (hq:isKey K q=true):∃ds,P.underlying t=some ds∧Instr.sameNow ds p q=some (keyEq p q):=by
 rcases key_kind h with⟨rfl,ht⟩|⟨rfl,ht⟩
 ·refine⟨_,ht,?_⟩;cases p<;>simp[isKey]at hp;cases q<;>simp[isKey]at hq;rename_i j a k b;cases j<;>simp at hp;cases k<;>simp at hq;simp[Instr.sameNow,keyEq]
 ·refine⟨_,ht,?_⟩;cases p<;>simp[isKey]at hp;cases q<;>simp[isKey]at hq;simp[Instr.sameNow,keyEq]
theorem find_now{t:TypeId}{K:Nat}(h:keyKind P t=some K) {kv:Value}(hk:isKey K kv=true) {ds:TypeDesc}(hds:P.underlying t=some ds):∀{es:List (Value×D)}{en:List MapEntry}(i:Nat),(es.all fun e=>isKey K e.1)=true→MapRel G w es en→
 (lookD kv es=none∧Instr.findNow ds kv en i=some none)∨∃d j e,lookD kv es=some d∧Instr.findNow ds kv en i=some (some (i+j,e.val))∧en[j]?=some e∧VRel G w d e.val∧keyEq kv e.key=true∧isKey K e.key=true∧
  ∀(G':Gh) (w':World) (x:D) (u:Value),MapRel G' w' es en→VRel G' w' x u→MapRel G' w' (putD kv x es) (en.modify j fun e=>{ e with key:=kv,val:=u })
 |[],en,i,_,hm=>by
  simp only[MapRel]at hm;subst hm;exact .inl ⟨rfl,rfl⟩
 |(q,d)::es,en,i,hall,hm=>by
  simp only[MapRel]at hm;obtain⟨e,r,rfl,rfl,hv,hm⟩:=hm;simp only[List.all_cons,Bool.and_eq_true]at hall;obtain⟨ds',hds',hsn⟩:=same_now h hk hall.1;rw[hds]at hds';injection hds' with hds';subst hds';simp only[lookD,Instr.findNow,hsn];by_cases hkq:keyEq kv e.key=true
  ·rw[if_pos hkq,hkq];refine .inr ⟨d,0,e,rfl,rfl,rfl,hv,hkq,hall.1,fun G' w' x u hm' hx=>?_⟩;simp only[putD,if_pos hkq,List.modify_zero_cons,MapRel]at hm'⊢;obtain⟨e',r',h1,h2,h3,h4⟩:=hm';injection h1 with h1 h1';subst h1;subst h1';exact⟨_,_,rfl,rfl,hx,h4⟩
  ·have hf:keyEq kv e.key=false:=by simpa using hkq
   rw[if_neg hkq,hf];simp only;rcases find_now h hk hds (i+1) hall.2 hm with⟨h1,h2⟩|⟨d',j,e',h1,h2,h3,h4,h5,h5',h6⟩
   ·exact .inl ⟨h1,h2⟩
   ·refine .inr ⟨d',j+1,e',h1,by rw[h2];congr 3;omega,by simpa using h3,h4,h5,h5',fun G' w' x u hm' hx=>?_⟩;simp only[putD,if_neg hkq,List.modify_succ_cons,MapRel]at hm'⊢;obtain⟨e'',r',k1,k2,k3,k4⟩:=hm';injection k1 with k1 k1';subst k1;subst k1';exact⟨e,_,rfl,rfl,k3,h6 G' w' x u k4 hx⟩
theorem look_none_put{kv:Value}{x:D}:∀{es:List (Value×D)},lookD kv es=none→putD kv x es=es++[(kv,x)]
 |[],_=>rfl
 |(q,d)::es,h=>by
  simp only[lookD]at h;split at h
  ·cases h
  ·rename_i hk;simp only[putD,if_neg hk,look_none_put h,xo]
theorem mapRel_push{G:Gh}{w:World}{kv:Value}{x:D}{u:Value}{b:Nat}(hx:VRel G w x u):∀{es:List (Value×D)}{en:List MapEntry},MapRel G w es en→MapRel G w (es++[(kv,x)]) (en++[⟨kv,u,b⟩])
 |[],en,h=>by
  simp only[MapRel]at h;subst h;simp only[List.nil_append,MapRel];exact⟨_,_,rfl,rfl,hx,rfl⟩
 |(q,d)::es,en,h=>by
  simp only[MapRel]at h;obtain⟨e,r,rfl,h1,h2,h3⟩:=h;simp only[xo,MapRel];exact⟨e,_,rfl,h1,h2,mapRel_push hx h3⟩
theorem g_mkmap(hr:Rel G w a s) {t:TypeId}{o:Oper}(ho:o.op=.makeMap t none) (he:evalI s .mkmap=some (d,m')):Good G w s.m ((execOp a.eval o).run P w) d m':=by
 simp only[evalI]at he;injection he with he;injection he with h1 h2;subst h1;subst h2;have hblk:(w.alloc (.map #[] 0)).heap[w.heap.size]?=some (.map #[] 0):=heap_alloc_new w _;obtain⟨g1,g2⟩:=add_good (w':=w.alloc (.map #[] 0)) hr.inv (some w.heap.size) 0 0 0 (.mp []) rfl rfl rfl rfl (by simp) (fun k hk=>Below.heap_alloc _ _ _ hk) (fun k h=>by injection h;omega)
  ⟨by simp[Gh.add],w.heap.size,#[],0,by simp[Gh.add],fun hF=>by have:=hr.inv.F _ hF;omega,hblk,by simp[MapRel]⟩
 refine⟨.value (.map (some w.heap.size)),_,_,?_,.inl ⟨_,rfl,?_⟩,g1,g2⟩
 ·unfold execOp;simp only[ho];simp[Instr.makeMap]
 ·simp only[VRel];exact⟨w.heap.size,rfl,by simp[Gh.add,hr.inv.n],fun _=>by simp[Gh.add,hr.inv.n]⟩
theorem run_findKey{t:TypeId}{K:Nat}(h:keyKind P t=some K) {kv:Value}{en:List MapEntry}{ds:TypeDesc}(hds:P.underlying t=some ds) {r:Option (Nat×Value)}(hf:Instr.findNow ds kv en 0=some r) (w:World) :
 (Instr.findKey t kv en).run P w=.ok r w:=by
 unfold Instr.findKey;simp[run_underlying hds,hf]
theorem g_mlook(hr:Rel G w a s) {t kt et:TypeId}{K:Nat}{ok:Bool}{z:Value}{x k:Operand}{o:Oper}(ho:o.op=.lookup t x k ok) (ht:P.underlying t=some (.map kt et)) (hK:keyKind P kt=some K) (hz:zeroOf P et=some z)
 (he:evalI s (.mlook K ok (leaf z) x k)=some (d,m')):Good G w s.m ((execOp a.eval o).run P w) d m':=by
 have hx:=hr.ev x;have hk:=hr.ev k;obtain⟨hz1,hz2,hz3,-⟩:=run_zero hz w;simp only[evalI]at he;unfold execOp;simp only[ho];generalize s.ev x=dx at *;generalize s.ev k=dk at *;split at he
 ·rename_i kv;simp only[VRel]at hk;split at he
  ·rename_i hkey;have hck:=fun b=>run_checkKey hK hkey b w;have hds:∃ds,P.underlying kt=some ds:=by rcases key_kind hK with⟨-,h⟩|⟨-,h⟩<;>exact⟨_,h⟩
   obtain⟨ds,hds⟩:=hds;have fin:∀(u:Value) (e:D) (b:Bool),VRel G w e u→some (if ok=true then D.tup [e,.v (.bool b)]else e,s.m)=some (d,m')→
    (Sem.run P (do let r←Instr.lookup t (a.eval x) kv ok;pure (Next.value r)) w=.ok (.value (if ok=true then .tuple #[u,.bool b]else u)) w)→Good G w s.m (Sem.run P (do let r←Instr.lookup t (a.eval x) kv ok;pure (Next.value r)) w) d m':=by
    intro u e b hv hd hrun;injection hd with hd;injection hd with h1 h2;subst h1;subst h2;refine good_here hr.inv hrun ?_
    cases ok with
    |true=>
     simp only[if_true,VRel];refine⟨[u,.bool b],rfl,?_⟩;simp only[VsRel];exact⟨u,_,rfl,hv,_,_,rfl,by simp[VRel],rfl⟩
    |false=>simpa using hv
   rw[hk];split at he
   ·simp only[VRel]at hx;refine fin z (leaf z) false (leaf_rel z hz2) he ?_;rw[hx];have hf:Instr.findNow ds kv [] 0=some none:=rfl;simp[Instr.lookup,run_underlying ht,hck,run_findKey hK hds hf,hz1]
   ·rename_i id;split at he
    ·rename_i es hm;split at he
     ·rename_i hall;simp only[VRel]at hx;obtain⟨b,hxv,hid,hb⟩:=hx;obtain⟨a1,b',en,cl,a2,a3,a4,a5⟩:=hr.inv.ent _ _ hm;rw[hb a1]at a2;injection a2 with a2;subst a2;rcases find_now hK hkey hds 0 hall a5 with⟨h1,h2⟩|⟨d',j,e',h1,h2,h3,h4,h5,h5',h6⟩
      ·rw[h1]at he;refine fin z (leaf z) false (leaf_rel z hz2) he ?_;rw[hxv];simp[Instr.lookup,run_underlying ht,getObj,Sem.run,a4,hck,run_findKey hK hds h2,hz1]
      ·rw[h1]at he;refine fin e'.val d' true h4 he ?_;rw[hxv];simp[Instr.lookup,run_underlying ht,getObj,Sem.run,a4,hck,run_findKey hK hds h2]
     ·cases he
    ·cases he
   ·cases he
  ·cases he
 ·cases he
theorem g_mlen(hr:Rel G w a s) {t kt et:TypeId}{x:Operand}{o:Oper}(ho:o.op=.call { callee:=.builtin .len,args:=#[x],argTypes:=#[t] })
 (ht:P.underlying t=some (.map kt et)) (he:evalI s (.mlen x)=some (d,m')):Good G w s.m ((execOp a.eval o).run P w) d m':=by
 have hx:=hr.ev x;simp only[evalI]at he;unfold execOp;simp only[ho];generalize s.ev x=dx at *;split at he
 ·injection he with he;injection he with h1 h2;subst h1;subst h2;simp only[VRel]at hx;refine good_here (u:=.int .i64 0) hr.inv ?_ (by simp[VRel]);simp[resolve,invoke,builtin,Builtin.len_,hx,run_underlying ht,goInt]
 ·rename_i id;split at he
  ·rename_i es hm;injection he with he;injection he with h1 h2;subst h1;subst h2;simp only[VRel]at hx;obtain⟨b,hxv,hid,hb⟩:=hx;obtain⟨a1,b',en,cl,a2,a3,a4,a5⟩:=hr.inv.ent _ _ hm;rw[hb a1]at a2;injection a2 with a2;subst a2;have hlen:en.size=es.length:=by
    have:∀{es:List (Value×D)} {en:List MapEntry},MapRel G w es en→en.length=es.length:=by
     intro es
     induction es with
     |nil=>intro en h;simp only[MapRel]at h;simp[h]
     |cons p es ih=>
      intro en h;obtain⟨k,d⟩:=p;simp only[MapRel]at h;obtain⟨e,r,rfl,_,_,h⟩:=h;simp[ih h]
    simpa using this a5
   refine good_here (u:=.int .i64 es.length) hr.inv ?_ (by simp[VRel]);simp[resolve,invoke,builtin,Builtin.len_,hxv,run_underlying ht,goInt,getObj,Sem.run,a4,hlen]
  ·cases he
 ·cases he
theorem isKey_cases{K:Nat}{v:Value}(h:isKey K v=true):(∃a,v=.int .i64 a)∨∃b,v=.string b:=by
 unfold isKey at h;split at h
 ·exact .inl ⟨_,rfl⟩
 ·exact .inr ⟨_,rfl⟩
 ·cases h
theorem bytes_beq{b c:ByteArray}(h:(b==c)=true):b=c:=by
 cases b with|mk b=>cases c with|mk c=>
  have h':(b==c)=true:=h;rw[eq_of_beq h']
theorem sameBits_key{K:Nat}{p q:Value}(hp:isKey K p=true) (hq:isKey K q=true) (h:keyEq p q=true):Instr.sameBits 10000 q p=true:=by
 rcases isKey_cases hp with⟨a,rfl⟩|⟨a,rfl⟩<;>rcases isKey_cases hq with⟨b,rfl⟩|⟨b,rfl⟩<;>simp only[keyEq,tn]at h
 ·have:a=b:=by simpa using h
  subst this;simp[Instr.sameBits]
 ·have:a=b:=bytes_beq h;subst this;simp only[Instr.sameBits];exact h
theorem g_mput(hr:Rel G w a s) {t kt et:TypeId}{K:Nat}{m k x:Operand}{o:Oper}(ho:o.op=.mapUpdate t m k x) (ht:P.underlying t=some (.map kt et)) (hK:keyKind P kt=some K)
 (he:evalI s (.mput K m k x)=some (d,m')):Good G w s.m ((execOp a.eval o).run P w) d m':=by
 have hx:=hr.ev x;have hk:=hr.ev k;have hmv:=hr.ev m;simp only[evalI]at he;unfold execOp;simp only[ho];generalize s.ev x=dx at *;generalize s.ev k=dk at *;generalize s.ev m=dm at *;split at he
 ·rename_i kv id;split at he
  ·rename_i es hm;split at he
   ·rename_i hc;obtain⟨hkey,hall⟩:=hc;injection he with he;injection he with h1 h2;subst h1;subst h2;simp only[VRel]at hk hmv;obtain⟨b,hxv,hid,hb⟩:=hmv;obtain⟨a1,b',en,cl,a2,a3,a4,a5⟩:=hr.inv.ent _ _ hm;rw[hb a1]at a2;injection a2 with a2;subst a2;have hblt:b<w.heap.size:=(Xn.1 a4).1;have hck:=fun c=>run_checkKey hK hkey c w;have hds:∃ds,P.underlying kt=some ds:=by rcases key_kind hK with⟨-,h⟩|⟨-,h⟩<;>exact⟨_,h⟩
    obtain⟨ds,hds⟩:=hds;have fin:∀(en':Array MapEntry) (cl':Nat),(∀G' w',Le G w G' w'→MapRel G' w' (putD kv dx es) en'.toList)→(Instr.mapUpdate t (.map (some b)) kv (a.eval x)).run P w=.ok () { w with heap:=w.heap.setIfInBounds b (.map en' cl') }→
     Good G w s.m (Sem.run P (do Instr.mapUpdate t (a.eval m) (a.eval k) (a.eval x);pure Next.skip) w) .dead (s.m.set id (.mp (putD kv dx es))):=by
     intro en' cl' hrel hrun;have hother:∀j,j≠b→({ w with heap:=w.heap.setIfInBounds b (.map en' cl') }:World).heap[j]?=w.heap[j]?:=fun j hj=>by
      show(w.heap.setIfInBounds b _)[j]?=_;rw[Array.getElem?_setIfInBounds_ne (Ne.symm hj)]
     have hself:({ w with heap:=w.heap.setIfInBounds b (.map en' cl') }:World).heap[b]?=some (.map en' cl'):=by
      show(w.heap.setIfInBounds b _)[b]?=_;rw[Array.getElem?_setIfInBounds_self_of_lt hblt]
     have hle:Le G w G { w with heap:=w.heap.setIfInBounds b (.map en' cl') }:=⟨fun _ h=>h,fun j hj=>hother j fun h=>a3 (h▸hj),En _,fun _ _=>.inl ⟨rfl,rfl,rfl,rfl,rfl⟩⟩;have key:=change_good (w':={ w with heap:=w.heap.setIfInBounds b (.map en' cl') }) hr.inv (e':=.mp (putD kv dx es)) hm rfl rfl (G.B id) (G.V id) (G.N id) (G.C id) (.inr ⟨rfl,rfl,rfl,rfl⟩) rfl rfl rfl
      (by simp) (fun j _ hj=>hother j fun h=>hj (by rw[h];exact hb a1)) (fun j hj=>.inl hj)
      (by rw[same_upd];exact⟨a1,b,en',cl',hb a1,a3,hself,hrel _ _ hle⟩)
     rw[same_upd]at key;refine⟨_,_,G,?_,.inr ⟨rfl,rfl⟩,key.1,key.2⟩;rw[hxv,hk];simp[hrun]
    rcases find_now hK hkey hds 0 hall a5 with⟨h1,h2⟩|⟨d',j,e',h1,h2,h3,h4,h5,h5',h6⟩
    ·refine fin (en.push ⟨kv,a.eval x,cl⟩) (cl+1) (fun G' w' hle=>?_) ?_
     ·rw[look_none_put h1,Array.toList_push];exact mapRel_push (hx.mono hle) (a5.mono hle)
     ·simp[Instr.mapUpdate,run_underlying ht,getObj,setObj,Sem.run,a4,hck,run_findKey hK hds h2]
    ·refine fin (en.modify j fun e=>{ e with key:=kv,val:=a.eval x }) cl (fun G' w' hle=>?_) ?_
     ·rw[Array.toList_modify];exact h6 G' w' dx (a.eval x) (a5.mono hle) (hx.mono hle)
     ·have hej:en[j]?=some e':=by rw[←Zn];exact h3
      have hsb:=sameBits_key hkey h5' h5;rw[oq]at h2;simp[Instr.mapUpdate,run_underlying ht,getObj,setObj,Sem.run,a4,hck,run_findKey hK hds h2,hej,Instr.keyThatStays,hsb]
   ·cases he
  ·cases he
 ·cases he
theorem set_same{α:Type}{l:List α}{i:Nat}{x:α}(h:l[i]?=some x):l.set i x=l:=by
 apply List.ext_getElem?;intro k;by_cases hk:i=k
 ·subst hk;obtain⟨hi,-⟩:=List.getElem?_eq_some_iff.1 h;rw[Ip hi,h]
 ·rw[Sp hk]
theorem g_mkifc(hr:Rel G w a s) {t:TypeId}{x:Operand}{o:Oper}(ho:o.op=.makeInterface t x) (hc:∃i,P.underlying t=some i∧∀ms,i≠.interface ms)
 (he:evalI s (.mkifc t x)=some (d,m')):Good G w s.m ((execOp a.eval o).run P w) d m':=by
 simp only[evalI]at he;injection he with he;injection he with h1 h2;subst h1;subst h2;obtain⟨i,ht,hi⟩:=hc;refine good_here (u:=.iface t (a.eval x)) hr.inv ?_ (by simp only[VRel];exact⟨_,rfl,hr.ev x⟩);unfold execOp;simp only[ho];cases i<;>first|exact(hi _ rfl).elim|simp[Instr.makeInterface,run_underlying ht]
theorem g_tassert(hr:Rel G w a s) {xt t:TypeId}{ok:Bool}{z:Value}{x:Operand}{o:Oper}(ho:o.op=.typeAssert x xt t ok) (hc:∃i,P.underlying t=some i∧∀ms,i≠.interface ms)
 (hz:zeroOf P t=some z) (he:evalI s (.tassert ok t (leaf z) x)=some (d,m')):Good G w s.m ((execOp a.eval o).run P w) d m':=by
 have hx:=hr.ev x;simp only[evalI]at he;generalize s.ev x=dx at *;obtain⟨i,ht,hi⟩:=hc;obtain⟨hz1,hz2,-,-⟩:=run_zero hz w;split at he
 ·rename_i t' e;simp only[VRel]at hx;obtain⟨u,hu,hv⟩:=hx;have hrun:∀r,(Instr.typeAssert (.iface t' u) xt t ok).run P w=r→(execOp a.eval o).run P w=r.andThen fun v w=>.ok (.value v) w:=by
   intro r h;subst h;unfold execOp;simp only[ho,hu];simp
  split at he
  ·rename_i htt;subst htt;injection he with he;injection he with h1 h2;subst h1;subst h2;have:(Instr.typeAssert (.iface t' u) xt t' ok).run P w=.ok (if ok=true then .tuple #[u,.bool true]else u) w:=by
    cases i<;>first|exact(hi _ rfl).elim|(cases ok<;>simp[Instr.typeAssert,run_underlying ht])
   refine good_here hr.inv (hrun _ this) ?_
   cases ok with
   |true=>
    simp only[if_true,VRel];refine⟨[u,.bool true],rfl,?_⟩;simp only[VsRel];exact⟨u,_,rfl,hv,_,_,rfl,by simp[VRel],rfl⟩
   |false=>simpa using hv
  ·rename_i htt;split at he
   ·rename_i hok;subst hok;injection he with he;injection he with h1 h2;subst h1;subst h2;have:(Instr.typeAssert (.iface t' u) xt t true).run P w=.ok (.tuple #[z,.bool false]) w:=by
     cases i<;>first|exact(hi _ rfl).elim|simp[Instr.typeAssert,run_underlying ht,htt,hz1]
    refine good_here hr.inv (hrun _ this) ?_;simp only[VRel];refine⟨[z,.bool false],rfl,?_⟩;simp only[VsRel];exact⟨z,_,rfl,leaf_rel z hz2,_,_,rfl,by simp[VRel],rfl⟩
   ·cases he
 ·cases he
theorem g_capn(hr:Rel G w a s) {t e:TypeId}{x:Operand}{o:Oper}(ho:o.op=.call { callee:=.builtin .cap,args:=#[x],argTypes:=#[t] })
 (ht:P.underlying t=some (.slice e)) (he:evalI s (.capn x)=some (d,m')):Good G w s.m ((execOp a.eval o).run P w) d m':=by
 have hx:=hr.ev x;simp only[evalI]at he;generalize s.ev x=dx at *;split at he
 ·injection he with he;injection he with h1 h2;subst h1;subst h2;simp only[VRel]at hx;refine good_here (u:=.int .i64 0) hr.inv ?_ (by simp[VRel]);unfold execOp;simp only[ho];simp[resolve,invoke,builtin,Builtin.cap_,hx,run_underlying ht];rfl
 ·cases he
theorem run_equal_nil{t e:TypeId}(ht:P.underlying t=some (.slice e)) (a:Option Addr) (n c:Nat) (w:World):(Op.equal t (.slice a n c) (.slice none 0 0)).run P w=.ok a.isNone w:=by
 unfold Op.equal Op.maxDepth;rw[show(10000:Nat)=9999+1 from rfl,Op.equalIn];simp only[Sem.run_bind,run_underlying ht,Result.andThen_ok];cases a<;>rfl
theorem guard_slice(op:BinOp) (t:TypeId) (x y:Operand) (p q:Option Addr) (n c k l:Nat) (w:World):(eqGuard op t x y (.slice p n c) (.slice q k l)).run P w=.ok () w:=by
 unfold eqGuard;cases op<;>rfl
theorem g_nileq(hr:Rel G w a s) {op:BinOp}{t e yt:TypeId}{x:Operand}{neg:Bool}{o:Oper}(ho:o.op=.binOp op t x (.const (.slice none 0 0)) yt)
 (ht:P.underlying t=some (.slice e)) (hop:(op=.eql∧neg=false)∨(op=.neq∧neg=true)) (he:evalI s (.nileq neg x)=some (d,m')):Good G w s.m ((execOp a.eval o).run P w) d m':=by
 have hx:=hr.ev x;simp only[evalI]at he;have hrun:∀(p:Option Addr) (n c:Nat),a.eval x=.slice p n c→(execOp a.eval o).run P w=.ok (.value (.bool (p.isNone !=neg))) w:=by
  intro p n c h;unfold execOp;simp only[ho];have hc:a.eval (.const (.slice none 0 0))=.slice none 0 0:=rfl;rcases hop with⟨rfl,rfl⟩|⟨rfl,rfl⟩<;>simp[h,hc,binOp,run_equal_nil ht,guard_slice]
 generalize s.ev x=dx at *;split at he
 ·injection he with he;injection he with h1 h2;subst h1;subst h2;simp only[VRel]at hx;exact good_here hr.inv (hrun _ _ _ hx) (by simp[VRel])
 ·injection he with he;injection he with h1 h2;subst h1;subst h2;simp only[VRel]at hx;obtain⟨p,n,c,hx,-,-,hp⟩:=hx;rcases hp with hp|⟨b,off,rfl,-⟩
  ·cases hp
  ·exact good_here hr.inv (hrun _ _ _ hx) (by simp[VRel])
 ·rename_i id ver;simp only[VRel]at hx;obtain⟨p,n,c,hx,-,-,hf⟩:=hx;split at he
  ·rename_i S ver' e l hm;split at he
   ·rename_i hver;injection he with he;injection he with h1 h2;subst h1;subst h2;subst hver;have hent:=hr.inv.ent _ _ hm;simp only[EntRel]at hent;obtain⟨g1,-,-,g4,g5⟩:=hent;obtain⟨ha,-,-⟩:=hf g1;rcases g5 with⟨-,g5⟩|⟨b,cs,T,hb,-⟩
    ·rw[g5]at g4;simp at g4
    ·rw[hb]at ha;simp only[Option.map_some]at ha;subst ha;exact good_here hr.inv (hrun _ _ _ hx) (by simp[VRel])
   ·cases he
  ·cases he
 ·cases he
theorem g_clr(hr:Rel G w a s) {t e:TypeId}{z:Value}{x:Operand}{o:Oper}(ho:o.op=.call { callee:=.builtin .clear,args:=#[x],argTypes:=#[t] })
 (ht:P.underlying t=some (.slice e)) (hz:zeroOf P e=some z) (he:evalI s (.clr z.cells.size (leaf z) x)=some (d,m')):Good G w s.m ((execOp a.eval o).run P w) d m':=by
 have hx:=hr.ev x;simp only[evalI]at he;generalize s.ev x=dx at *;obtain⟨hz1,hz2,hz3,-⟩:=run_zero hz w;have hrun0:∀(p:Option Addr) c,a.eval x=.slice p 0 c→(execOp a.eval o).run P w=.ok (.value (.tuple #[])) w:=by
  intro p c h;unfold execOp;simp only[ho];cases p<;>simp[resolve,invoke,builtin,Builtin.clear_,h,run_underlying ht]
 split at he
 ·injection he with he;injection he with h1 h2;subst h1;subst h2;simp only[VRel]at hx;exact good_here hr.inv (hrun0 _ _ hx) (by simp[VRel])
 ·rename_i id ver lo n;split at he
  ·rename_i S ver' l hm;split at he
   ·rename_i hc;obtain⟨rfl,rfl,hlo⟩:=hc;injection he with he;injection he with h1 h2;subst h1;subst h2;simp only[VRel]at hx;obtain⟨p,c,hp,hnc,hid,hver,hx⟩:=hx;obtain⟨a1,a2,a3,a4,a5⟩:=hr.inv.ent _ _ hm;by_cases hn:n=0
    ·subst hn;have hl:l.take lo++yn 0 (leaf z)++l.drop (lo+0)=l:=by simp
     rw[hl,set_same hm];exact good_here hr.inv (hrun0 _ _ hp) (by simp[VRel])
    ·rcases hx a1 with hx|⟨b,hb,rfl⟩
     ·exact(hn hx).elim
     rw[a2]at hp;rcases a5 with a5|⟨b',cs,T,hb',hF,hblk,hsz,hrow⟩
     ·rw[a5.1]at hb;cases hb
     rw[hb]at hb';injection hb' with hb';subst hb';have hin:=rowIn_of_rowAt hblk hrow;have hfit:lo*z.cells.size+(G.C id).2+n*z.cells.size≤cs.size:=by
      have h1:=so z.cells.size (show lo+n≤(G.C id).1 by omega);rw[gp]at h1;omega
     obtain⟨zs,hzs⟩:∃zs,zs=Builtin.zeroCells z.cells n:=⟨_,rfl⟩;have hzn:zs.toList.length=n*z.cells.size:=by rw[hzs];simp[size_zeroCells]
     have hzrow:RowIn G w z.cells.size (yn n (leaf z)) zs:=by rw[hzs];exact rowIn_zeros hz2 n
     have hz1':∀v∈zs.toList,one v=true:=by
      intro v hv;rw[hzs]at hv;simp only[Builtin.zeroCells,Mr,Yp]at hv;obtain⟨k,-,rfl⟩:=hv;have hk:k % z.cells.size<z.cells.size:=Ys _ hz3;rw[getElem!_pos z.cells _ hk];exact all_get hz2 _ _ (Yn hk)
     have hst:=run_storeCells_at P b (lo*z.cells.size+(G.C id).2) T zs.toList 0 cs w hblk (by simp only[ep];omega) (fun v hv=>by rw[one_eq];exact hz1' v hv);simp only[ep]at hst;obtain⟨cs',hcs'⟩:∃cs':Array Value,cs'=(cs.toList.take (lo*z.cells.size+(G.C id).2)++zs.toList++cs.toList.drop (lo*z.cells.size+(G.C id).2+zs.toList.length)).toArray:=⟨_,rfl⟩;rw[←hcs']at hst;have hget:∀k,cs'[k]?=if lo*z.cells.size+(G.C id).2≤k∧k<lo*z.cells.size+(G.C id).2+n*z.cells.size then zs[k-(lo*z.cells.size+(G.C id).2)]? else cs[k]?:=by
      intro k;rw[hcs',xp,splice_get _ _ _ _ (by rw[hzn,Ao];omega),hzn];simp only[Zn]
     have hsz':cs'.size=cs.size:=by
      rw[hcs',yp,uo,uo,No,Gp,hzn,Ao];omega
     have run:(execOp a.eval o).run P w=.ok (.value (.tuple #[])) (w.setRow b cs'):=by
      unfold execOp;simp only[ho];rw[hzs]at hst;obtain⟨n',rfl⟩:∃n',n=n'+1:=⟨n-1,by omega⟩;simp[resolve,invoke,builtin,Builtin.clear_,hp,run_underlying ht,hz1,hst]
     have hkeep:∀k,G.B id≠some k→(w.setRow b cs').heap[k]?=w.heap[k]?:=fun k hk=>setRow_other w b k cs' fun h=>hk (by rw[h];exact hb);have hle:Le G w G (w.setRow b cs'):=⟨fun _ h=>h,fun k hk=>hkeep k fun h=>by rw[hb]at h;injection h with h;subst h;exact hF hk,En _,fun _ _=>.inl ⟨rfl,rfl,rfl,rfl,rfl⟩⟩;have hblk':=setRow_heap w b cs cs' T (0,0) hblk;clear hst hcs';have hrow':RowIn G (w.setRow b cs') z.cells.size (l.take lo++yn n (leaf z)++l.drop (lo+n)) cs' (G.C id).2:=by
      intro k e' he';have hlt:k<lo∨(lo≤k∧k<lo+n)∨lo+n≤k:=by omega
      have hmul:∀{p q:Nat},p<q→p*z.cells.size+z.cells.size≤q*z.cells.size:=fun {p q} h=>by
       have:=so z.cells.size (show p+1≤q from h);rwa [gp,Nat.one_mul]at this
      have hadd:(lo+n)*z.cells.size=lo*z.cells.size+n*z.cells.size:=gp _ _ _;rcases hlt with h|⟨h,h'⟩|h
      ·rw[Mo,Io (by simp;omega),List.getElem?_take_of_lt h]at he';obtain⟨u,k1,k2,k3⟩:=hin k e' he';refine⟨u,k1.mono hle,k2,fun j c hj=>⟨(k3 j c hj).1,?_⟩⟩;have hj':j<z.cells.size:=by rw[←k2];exact(Xn.1 hj).1
       have:=hmul h;rw[hget,if_neg (by omega)];exact(k3 j c hj).2
      ·have he2:(yn n (leaf z))[k-lo]?=some e':=by
        rw[Mo,tp (by simp;omega),Io (by simp;omega)]at he';rw[←he'];congr 1;simp;omega
       obtain⟨u,k1,k2,k3⟩:=hzrow (k-lo) e' he2;refine⟨u,k1.mono hle,k2,fun j c hj=>⟨(k3 j c hj).1,?_⟩⟩;have hj':j<z.cells.size:=by rw[←k2];exact(Xn.1 hj).1
       have h1:=hmul (show k-lo<n by omega);have h2:k*z.cells.size=lo*z.cells.size+(k-lo)*z.cells.size:=by rw[←gp];congr 1;omega
       rw[hget,if_pos (by omega),show k*z.cells.size+j+(G.C id).2-(lo*z.cells.size+(G.C id).2)=(k-lo)*z.cells.size+j by omega];exact(k3 j c hj).2
      ·have he2:l[k]?=some e':=by
        rw[tp (by simp;omega),nq]at he';rw[←he'];congr 1;simp;omega
       obtain⟨u,k1,k2,k3⟩:=hin k e' he2;refine⟨u,k1.mono hle,k2,fun j c hj=>⟨(k3 j c hj).1,?_⟩⟩;have:=so z.cells.size h;rw[hget,if_neg (by omega)];exact(k3 j c hj).2
     have hlen:(l.take lo++yn n (leaf z)++l.drop (lo+n)).length=l.length:=by simp;omega
     have hent:EntRel G (w.setRow b cs') id (.live z.cells.size (G.V id) (l.take lo++yn n (leaf z)++l.drop (lo+n))):=
      ⟨rfl,a2,by rw[hlen];exact a3,by rw[hlen];exact a4,.inr ⟨b,cs',T,hb,hF,hblk',by rw[hsz'];exact hsz,rowAt_of_rowIn hblk' hrow'⟩⟩
     have key:=change_good (w':=w.setRow b cs') hr.inv (e':=.live z.cells.size (G.V id) (l.take lo++yn n (leaf z)++l.drop (lo+n))) hm rfl rfl (G.B id) (G.V id) (G.N id) (G.C id) (.inr ⟨rfl,rfl,rfl,rfl⟩) rfl rfl rfl
      (by rw[size_setRow'];exact En _) (fun k _ hk=>hkeep k hk) (fun k hk=>.inl hk) (by rw[same_upd];exact hent)
     rw[same_upd]at key;rw[a1]at key;exact⟨_,_,G,run,.inl ⟨_,rfl,by simp[VRel]⟩,key.1,key.2⟩
   ·cases he
  ·cases he
 ·cases he
end
end Go.Tm
namespace Go.Tm
open Go.RowKit (Below)
section
variable {P:Program} {G:Gh} {w:World} {a:Act} {s:St} {d:D} {m':List Ent}
theorem sound_I{o:Oper}{i:I}(hc:compI P o.op=some i) (hr:Rel G w a s) (he:evalI s i=some (d,m')):Good G w s.m ((execOp a.eval o).run P w) d m':=by
 unfold compI at hc;split at hc
 case h_1 x ho=>injection hc with hc;subst hc;exact g_mv hr (.inl ho) he
 case h_2 x ho=>injection hc with hc;subst hc;exact g_mv hr (.inr ho) he
 case h_3 c x y ho=>injection hc with hc;subst hc;exact g_pick hr ho he
 case h_4 t ho=>
  simp only[sn]at hc;obtain⟨z,hz,rfl⟩:=hc;exact g_alloc hr ho hz he
 case h_5 t x ho=>injection hc with hc;subst hc;exact g_box hr ho he
 case h_6 t ps ho=>
  split at hc
  ·rename_i fs z ht hz;split at hc
   ·rename_i places hp;simp only[sn]at hc;obtain⟨qs,hq,rfl⟩:=hc;exact g_build hr ho ht hz hp hq he
   ·cases hc
  ·rename_i n e z ht hz;simp only[sn]at hc;obtain⟨i,hi,rfl⟩:=hc;exact g_buildA hr ho ht hz hi he
  ·cases hc
 case h_7 t n ps ho=>
  split at hc
  ·rename_i e ht;split at hc
   ·rename_i z hz;split at hc
    ·rename_i hs;injection hc with hc;subst hc;exact g_bslice hr ho ht hz hs he
    ·cases hc
   ·cases hc
  ·cases hc
 case h_8 t x ho=>
  simp only[sn]at hc;obtain⟨r,hs,rfl⟩:=hc;exact g_load hr ho hs he
 case h_9 t x y ho=>
  simp only[sn]at hc;obtain⟨i,hi,rfl⟩:=hc;exact g_store hr ho hi he
 case h_10 x ho=>injection hc with hc;subst hc;exact g_nilc hr ho he
 case h_11 op t x y yt ho=>
  split at hc
  ·rename_i ht;split at hc
   ·rename_i h;subst h;injection hc with hc;subst hc;exact g_beq hr ho ht (.inl ⟨rfl,rfl⟩) he
   ·split at hc
    ·rename_i h;subst h;injection hc with hc;subst hc;exact g_beq hr ho ht (.inr ⟨rfl,rfl⟩) he
    ·cases hc
  ·rename_i fs ht;split at hc
   ·rename_i h;split at hc
    ·rename_i ks hk;injection hc with hc;subst hc;exact g_ceq hr ho ht h.1 h.2.1 h.2.2 hk he
    ·cases hc
   ·cases hc
  ·rename_i e ht;split at hc
   ·injection hc with hc;subst hc;exact g_nileq hr ho ht (.inl ⟨rfl,rfl⟩) he
   ·injection hc with hc;subst hc;exact g_nileq hr ho ht (.inr ⟨rfl,rfl⟩) he
   ·cases hc
  ·injection hc with hc;subst hc;exact g_bin hr ho he
  ·cases hc
 case h_12 op t x ho=>injection hc with hc;subst hc;exact g_un hr ho he
 case h_13 src dst x ho=>
  split at hc
  ·rename_i j k h1 h2;injection hc with hc;subst hc;exact g_conv hr ho h1 h2 he
  ·rename_i e e' h1 h2;split at hc
   ·rename_i i h3 h4;split at hc
    ·rename_i h5;subst h5;injection hc with hc;subst hc;exact g_strb hr ho h2 h3 he
    ·cases hc
   ·cases hc
  ·cases hc
 case h_14 f first caps ho=>injection hc with hc;subst hc;exact g_mkfunc hr ho he
 case h_15 t l c ho=>
  split at hc
  ·rename_i e ht;split at hc
   ·rename_i z hz;injection hc with hc;subst hc;exact g_mkslice hr ho ht hz he
   ·cases hc
  ·cases hc
 case h_16 t x lo hi mx ho=>
  split at hc
  ·rename_i e ht;split at hc
   ·cases hc
   ·rename_i hm;simp only[sn]at hc;obtain⟨i,hi',rfl⟩:=hc;refine g_slice hr ho ht hi' (fun h=>?_) he
    cases hi with
    |none=>simp[h]at hm
    |some _=>rfl
  ·rename_i ht;split at hc
   ·cases hc
   ·rename_i hm;injection hc with hc;subst hc
    cases mx with
    |some _=>simp at hm
    |none=>exact g_sslice hr ho ht he
  ·cases hc
 case h_17 t x f ho=>
  split at hc
  ·rename_i fs ht;split at hc
   ·rename_i fl hf;split at hc
    ·rename_i r hs;split at hc
     ·rename_i h0;injection hc with hc;subst hc;exact g_faddr hr ho ht hf hs h0 he
     ·cases hc
    ·cases hc
   ·cases hc
  ·cases hc
 case h_18 t x f ho=>
  split at hc
  ·rename_i fs ht;split at hc
   ·rename_i fl hf;simp only[sn]at hc;obtain⟨r,hs,rfl⟩:=hc;exact g_field hr ho ht hf hs he
   ·cases hc
  ·cases hc
 case h_19 t x y ho=>
  split at hc
  ·rename_i e ht;simp only[sn]at hc;obtain⟨i,hi,rfl⟩:=hc;exact g_iaddr hr ho ht hi he
  ·rename_i n e ht;simp only[sn]at hc;obtain⟨r,hs,rfl⟩:=hc;exact g_aaddr hr ho ht hs he
  ·cases hc
 case h_20 t x y ho=>
  split at hc
  ·rename_i n e ht;simp only[sn]at hc;obtain⟨r,hs,rfl⟩:=hc;exact g_index hr ho ht hs he
  ·rename_i ht;injection hc with hc;subst hc;exact g_sidx hr ho ht he
  ·cases hc
 case h_21 x i ho=>injection hc with hc;subst hc;exact g_extract hr ho he
 case h_22=>injection hc with hc;subst hc;simp[evalI]at he
 case h_23 t ho=>injection hc with hc;subst hc;exact g_mkmap hr ho he
 case h_24 t x k ok ho=>
  split at hc
  ·rename_i kt et ht;split at hc
   ·rename_i K z hK hz;injection hc with hc;subst hc;exact g_mlook hr ho ht hK hz he
   ·cases hc
  ·cases hc
 case h_25 t m k x ho=>
  split at hc
  ·rename_i kt et ht;simp only[sn]at hc;obtain⟨K,hK,rfl⟩:=hc;exact g_mput hr ho ht hK he
  ·cases hc
 case h_26 c ho=>
  obtain⟨cal,args,tys⟩:=c;have ha:args=args.toList.toArray:=by simp
  have hty:tys=tys.toList.toArray:=by simp
  simp only at hc;split at hc
  ·rename_i x t h2 h3;rw[h2]at ha;rw[h3]at hty;subst ha;subst hty;split at hc
   ·rename_i e ht;injection hc with hc;subst hc;exact g_len hr ho ht he
   ·rename_i ht;injection hc with hc;subst hc;exact g_slen hr ho ht he
   ·rename_i kt et ht;injection hc with hc;subst hc;exact g_mlen hr ho ht he
   ·cases hc
  ·injection hc with hc;subst hc;exact g_mm (isMax:=true) hr ho he
  ·injection hc with hc;subst hc;exact g_mm (isMax:=false) hr ho he
  ·rename_i x y t u h2 h3;rw[h2]at ha;rw[h3]at hty;subst ha;subst hty;split at hc
   ·rename_i e e' ht hu;split at hc
    ·rename_i htu;subst htu;split at hc
     ·rename_i i z hi hz;split at hc
      ·rename_i hb;injection hc with hc;subst hc;exact g_append hr ho ht hi hz hb he
      ·cases hc
     ·cases hc
    ·cases hc
   ·rename_i e ht hu;split at hc
    ·rename_i i z hi hz;split at hc
     ·rename_i hb;injection hc with hc;subst hc;exact g_mkapp hr ho ht hu hi hz hb he
     ·cases hc
    ·cases hc
   ·cases hc
  ·rename_i x t h2 h3;rw[h2]at ha;rw[h3]at hty;subst ha;subst hty;split at hc
   ·rename_i e ht;simp only[sn]at hc;obtain⟨z,hz,rfl⟩:=hc;exact g_clr hr ho ht hz he
   ·cases hc
  ·rename_i x t h2 h3;rw[h2]at ha;rw[h3]at hty;subst ha;subst hty;split at hc
   ·rename_i e ht;injection hc with hc;subst hc;exact g_capn hr ho ht he
   ·cases hc
  ·cases hc
 case h_27 t x ho=>
  split at hc
  ·cases hc
  ·rename_i i hi ht;injection hc with hc;subst hc;exact g_mkifc hr ho ⟨_,ht,fun ms h=>hi ms h⟩ he
  ·cases hc
 case h_28 x xt t ok ho=>
  split at hc
  ·cases hc
  ·rename_i i z hi ht hz;injection hc with hc;subst hc;exact g_tassert hr ho ⟨_,ht,fun ms h=>hi ms h⟩ hz he
  ·cases hc
 case h_29=>cases hc
def Enters(P:Program) (f:FuncId):Prop:=∃fn,P.funcs[f]?=some fn∧(fn.name == "runtime.NumGoroutine")=false∧fn.body.isNone=false
def CallT(P:Program) (f:FuncId) (ds:List D) (m:List Ent) (R:D→List Ent→Prop):Prop:=
 Enters P f∧∀(G:Gh) (w:World) (vs:List Value),VsRel G w ds vs→Inv G w m→
  Calls P f vs.toArray w fun e w'=>∃v d m' G',e=.returned v∧R d m'∧VRel G' w' d v∧Inv G' w' m'∧Step G w m G' w' m'
theorem CallT.mono{f:FuncId}{ds:List D}{m:List Ent}{R R':D→List Ent→Prop}(h:CallT P f ds m R) (hR:∀d m',R d m'→R' d m'):CallT P f ds m R':=
 ⟨h.1,fun G w vs hv hi=>(h.2 G w vs hv hi).mono fun _ _ ⟨v,d,m',G',h1,h2,h3⟩=>⟨v,d,m',G',h1,hR _ _ h2,h3⟩⟩
theorem sound_I'{ops:Array Oper}{o:Oper}{i:I}(hc:compI' P ops o o.op=some i) (hr:Rel G w a s) (he:evalI s i=some (d,m')):Good G w s.m ((execOp a.eval o).run P w) d m':=by
 unfold compI' at hc;split at hc
 ·rename_i i' hi';injection hc with hc;subst hc;unfold truncOf at hi';split at hi'
  ·rename_i t x lo hi dt ho _;split at hi'
   ·split at hi'
    ·rename_i e ht;simp only[sn]at hi';obtain⟨j,hj,rfl⟩:=hi';exact g_trunc hr ho ht hj he
    ·cases hi'
   ·cases hi'
  ·cases hi'
 ·exact sound_I hc hr he
def gate(s:St):Option (Tmp×Bool)→Option (Option (Bool×Bool))
 |none=>some none
 |some (t,b)=>
  match s.t.getD t .dead with
  |.v (.bool c)=>some (some (c,b))
  |.v _=>some (some (!b,b))
  |_=>none
def RegT(P:Program):List RI→(St→Prop)→St→Prop
 |[],K,s=>K s
 |.op dst g i::l,K,s=>
  match gate s g with
  |none=>False
  |some none=>∃d m',evalI s i=some (d,m')∧RegT P l K ({ s with m:=m' }.put dst d)
  |some (some (c,b))=>(c=b→∃d m',evalI s i=some (d,m')∧RegT P l K ({ s with m:=m' }.put dst d))∧(c≠b→RegT P l K (s.put dst (.v undef)))
 |.call dst g f args::l,K,s=>
  match s.ec f with
  |.fn k first caps=>
   match gate s g with
   |none=>False
   |some none=>CallT P k (first++args.map s.ev++caps) s.m fun d m'=>RegT P l K ({ s with m:=m' }.put dst d)
   |some (some (c,b))=>(c=b→CallT P k (first++args.map s.ev++caps) s.m fun d m'=>RegT P l K ({ s with m:=m' }.put dst d))∧(c≠b→RegT P l K (s.put dst (.v undef)))
  |_=>
   match gate s g with
   |some (some (c,b))=>c≠b∧RegT P l K (s.put dst (.v undef))
   |_=>False
theorem gate_wanted{ops:Array Oper}(hr:Rel G w a s) {g:Option (Nat×Bool)}{g':Option (Tmp×Bool)}(hg:guardOf ops g=some g') :
 (gate s g'=some none→∀o:Oper,o.guard=g→Region.wanted o (yielded ops a.tmps)=true)∧
 (∀c b,gate s g'=some (some (c,b))→∀o:Oper,o.guard=g→Region.wanted o (yielded ops a.tmps)=(c==b)):=by
 cases g with
 |none=>
  simp only[guardOf]at hg;injection hg with hg;subst hg;exact⟨fun _ o ho=>by simp[Region.wanted,ho],fun c b h=>by simp[gate]at h⟩
 |some p=>
  obtain⟨j,b⟩:=p;simp only[guardOf]at hg;split at hg
  ·rename_i t ht;injection hg with hg;subst hg;have hx:=VsRel.get t hr.t;refine⟨fun h=>?_,fun c b' h o ho=>?_⟩
   ·simp only[gate]at h;split at h<;>first|cases h|(injection h with h;cases h)
   ·have hy:yielded ops a.tmps j=(match a.tmps[t]? with|some (.bool b)=>some b|_=>none):=by
     unfold yielded;rw[ht];rfl
    simp only[Region.wanted,ho,hy];simp only[gate]at h;have hlen:=hr.t.length;split at h
    ·rename_i c' hd;injection h with h;injection h with h;injection h with h1 h2;subst h1;subst h2;rw[hd]at hx;simp only[VRel]at hx;have hlt:t<a.tmps.size:=by
      rcases vo t a.tmps.size with h|h
      ·exact h
      ·rw[Dn,Rn (by rw[←hlen];simpa using h)]at hd;simp at hd
     have:a.tmps[t]?=some (.bool c'):=by
      rw[Yn hlt];simpa [Dn,hlt] using hx
     rw[this];cases c'<;>cases b<;>rfl
    ·rename_i x hne hd;injection h with h;injection h with h;injection h with h1 h2;subst h1;subst h2;rw[hd]at hx;simp only[VRel]at hx;have hlt:t<a.tmps.size:=by
      rcases vo t a.tmps.size with h|h
      ·exact h
      ·rw[Dn,Rn (by rw[←hlen];simpa using h)]at hd;simp at hd
     have:a.tmps[t]?=some x:=by
      rw[Yn hlt];simpa [Dn,hlt] using hx
     rw[this];cases x<;>first|(cases b<;>rfl)|exact(hne _ rfl).elim
    ·cases h
  ·cases hg
theorem rel_skip(hr:Rel G w a s) (dst:Option Tmp):Rel G w (a.put dst undef) (s.put dst (.v undef)):=hr.put dst (by simp[VRel])
theorem Rel.good{r:Result Next}{o:Oper}{next:Act→World→Prop}{Q:Exit→Act→World→Prop}(hr:Rel G w a s) (hg:Good G w s.m r d m')
 (h:∀G' w' u,Rel G' w' (a.put o.dst u) ({ s with m:=m' }.put o.dst d)→Step G w s.m G' w' m'→next (a.put o.dst u) w'):o.upon P a next Q r:=by
 obtain⟨nx,w',G',rfl,hnx,hi,hs⟩:=hg;have hr':=hr.step hs.le hi;rcases hnx with⟨u,rfl,hv⟩|⟨rfl,rfl⟩
 ·exact h G' w' u (hr'.put o.dst hv) hs
 ·exact h G' w' undef (hr'.put o.dst (by simp[VRel])) hs
theorem vs_map(hr:Rel G w a s):∀l:List Operand,VsRel G w (l.map s.ev) (l.map a.eval)
 |[]=>by simp[VsRel]
 |x::l=>by simp only[Vn,VsRel];exact⟨_,_,rfl,hr.ev x,vs_map hr l⟩
theorem put_m(s:St) (dst:Option Tmp) (d:D):(s.put dst d).m=s.m:=by cases dst<;>rfl
theorem run_callV{o:Oper}{f:Operand}{args:Array Operand}{tys:Array TypeId}(ho:o.op=.call ⟨.value f,args,tys⟩) {k:FuncId}{fs cs:List Value}(hf:a.eval f=.func (.func k) fs.toArray cs.toArray)
 {fn:Func} (hfn:P.funcs[k]?=some fn) (hname:(fn.name == "runtime.NumGoroutine")=false) (hbody:fn.body.isNone=false) :
 (execOp a.eval o).run P w=.ok (.enter k ((fs++args.toList.map a.eval++cs).toArray)) w:=by
 unfold execOp;simp only[ho];simp only[resolve,hf,Deferred.ofValue,Sem.run_bind,Sem.run_pure,Result.andThen_ok,invoke,callFunc,run_program,hfn,hname,hbody];simp only[tn,if_false,Sem.run_pure];congr 2;apply Uq;simp
theorem lookupN_mem{β:Type}:∀{l:List (Nat×β)}{t:Nat}{r:β},l.lookup t=some r→(t,r)∈l
 |[],t,r,h=>by simp at h
 |(a,b)::l,t,r,h=>by
  simp only[List.lookup]at h;split at h
  ·rename_i he;injection h with h;have:t=a:=by simpa using he
   rw[this,h];exact List.mem_cons_self ..
  ·exact List.mem_cons_of_mem _ (lookupN_mem h)
theorem mtab_row{name:String}{t:Nat}{r:FuncId×Option (Bool×Nat)}(h:(mtab P name).lookup t=some r):mrow P name t=some r:=by
 have h:=lookupN_mem h;simp only[mtab,List.mem_filterMap,sn,Bn]at h;obtain⟨t',_,r',h1,rfl,rfl⟩:=h;exact h1
theorem run_method{name:String}{t:Nat}{k:FuncId}{o:Option (Bool×Nat)}(h:mrow P name t=some (k,o)) {d:D}{u:Value}(hv:VRel G w d u) (hr:Rel G w a s) :
 (o=none→∀n,(method (n+1) t u name).run P w=.ok (k,u) w)∧
 (∀r d' m',o=some r→evalI ⟨[d],s.m⟩ (.load r.1 r.2 (.tmp 0))=some (d',m')→∃u',VRel G w d' u'∧∀n,(method (n+1) t u name).run P w=.ok (k,u') w):=by
 unfold mrow at h;split at h
 case h_2=>cases h
 rename_i i hi;split at h
 case h_2=>cases h
 rename_i m hm;have hmeth:∀n,(method (n+1) t u name).run P w=(do
  let (xt,x)←follow m.path.toList t (.val u)
  match m.func with
  |none=>
   match←x.get xt with
   |.iface t' v'=>method n t' v' name
   |.nilIface=>runtimePanic .nilDeref
   |_=>stuck "method row: interface value expected"
  |some (f,pointerReceiver)=>
   pure (f,←receiverAt xt x pointerReceiver (if m.path.isEmpty then some ((name.splitOn ".").getLastD name)else none))).run P w:=by
  intro n
  conv=>lhs;unfold method
  simp only[Sem.run_bind,typeInfo,run_program,Result.andThen_ok,hi,Sem.run_pure,hm];rfl
 split at h
 ·rename_i f t2 hp hf hu;injection h with h;injection h with h1 h2;subst h1;subst h2;have hpath:m.path.toList=[]:=by simpa using hp
  refine⟨fun _ n=>?_,fun r d' m' h=>by cases h⟩;rw[hmeth,hpath,hf];simp[follow,receiverAt,run_underlying hu,Place.get]
 ·rename_i f e hp hf hu;simp only[sn,Bn]at h;obtain⟨r0,hs,rfl,rfl⟩:=h;have hpath:m.path.toList=[]:=by simpa using hp
  refine⟨fun h=>(by cases h),fun r d' m' h he=>?_⟩;injection h with h;subst h;have hr':Rel G w { a with tmps:=#[u] } ⟨[d],s.m⟩:=⟨by simp[VsRel];exact hv,hr.inv,hr.defers⟩;obtain⟨p,u',hx,hrun,hv',-⟩:=load_run hr' hs he;have hx':u=.pointer (some p):=by simpa [Act.eval] using hx
  refine⟨u',hv',fun n=>?_⟩;rw[hmeth,hpath,hf,hp];have hw:∀x,Builtin.ssaWrapNilChk_ #[t] t #[.pointer (some p),strVal "",strVal x]=pure (.pointer (some p)):=fun _=>rfl;simp[follow,receiverAt,run_underlying hu,Place.get,hx',hw,asAddr,hrun]
 ·rename_i f de hne hp hf hu;injection h with h;injection h with h1 h2;subst h1;subst h2;have hpath:m.path.toList=[]:=by simpa using hp
  refine⟨fun _ n=>?_,fun r d' m' h=>by cases h⟩;rw[hmeth,hpath,hf];cases de<;>simp_all[follow,receiverAt,run_underlying hu,Place.get]
 ·cases h
theorem run_call(hr:Rel G w a s) {o:Oper}{f:Cal}{args:List Operand}(ho:callOf P o.op=some (f,args)) {k:FuncId}{first caps:List D}(he:s.ec f=.fn k first caps)
 {fn:Func} (hfn:P.funcs[k]?=some fn) (hname:(fn.name == "runtime.NumGoroutine")=false) (hbody:fn.body.isNone=false) :
 ∃fs cs,(execOp a.eval o).run P w=.ok (.enter k ((fs++args.map a.eval++cs).toArray)) w∧VsRel G w first fs∧VsRel G w caps cs:=by
 unfold callOf at ho;split at ho
 ·rename_i x args' tys hop;injection ho with ho;injection ho with h1 h2;subst h1;subst h2;rw[ec_of]at he;have hf:=hr.ev x;rw[he]at hf;simp only[VRel]at hf;obtain⟨fs,cs,hfv,hv1,hv2⟩:=hf;exact⟨fs,cs,run_callV hop hfv hfn hname hbody,hv1,hv2⟩
 ·rename_i x nm args' tys hop;injection ho with ho;injection ho with h1 h2;subst h1;subst h2;simp only[St.ec]at he;have hx:=hr.ev x;generalize s.ev x=dx at he hx;cases dx<;>simp only[methD]at he<;>(try (cases he));rename_i t d;simp only[VRel]at hx;obtain⟨u,hxu,hv⟩:=hx;have fin:∀{d':D} {u':Value},VRel G w d' u'→(∀n,(method (n+1) t u nm).run P w=.ok (k,u') w)→first=[d']→caps=[]→
   ∃fs cs,(execOp a.eval o).run P w=.ok (.enter k ((fs++args'.toList.map a.eval++cs).toArray)) w∧VsRel G w first fs∧VsRel G w caps cs:=by
   rintro d' u' hv' hm rfl rfl;refine⟨[u'],[],?_,by simp[VsRel];exact hv',by simp[VsRel]⟩;unfold execOp;simp only[hop];have hfuel:P.types.size+Made.depth=(P.types.size+99)+1:=rfl;have h0:(#[a.eval x]++Pr a.eval args')[0]?=some (.iface t u):=by simp[hxu,Array.getElem?_append]
   have h1:(#[a.eval x]++Pr a.eval args').extract 1 (#[a.eval x]++Pr a.eval args').size=Pr a.eval args':=by
    apply Uq;simp;exact List.take_of_length_le (by simp)
   simp only[resolve,Sem.run_bind,Sem.run_pure,Result.andThen_ok,invoke,h0,h1,callMethod,run_program,hfuel,hm,callFunc,hfn,hname,hbody];simp only[tn,if_false,Sem.run_pure];congr 2;apply Uq;simp
  split at he
  ·rename_i k' hl;injection he with e1 e2 e3;subst e1;exact fin hv ((run_method (mtab_row hl) hv hr).1 rfl) e2.symm e3.symm
  ·rename_i k' r hl;split at he
   ·rename_i d' m' hev;injection he with e1 e2 e3;subst e1;obtain⟨u',hv',hm⟩:=(run_method (mtab_row hl) hv hr).2 r d' m' rfl hev;exact fin hv' hm e2.symm e3.symm
   ·cases he
  ·cases he
 ·cases ho
theorem regT_sound{ops:Array Oper}{Q:Exit→Act→World→Prop}{K:St→Prop}:∀{l:List Oper}{rl:List RI}{s:St}{G:Gh}{w:World}{a:Act},compOps P ops l=some rl→RegT P rl K s→Rel G w a s→
 (∀s' G' w' a',K s'→Rel G' w' a' s'→Step G w s.m G' w' s'.m→Q .normal a' w')→wpList P ops Q l a w
 |[],rl,s,G,w,a,hc,hK,hr,hQ=>by
  simp only[compOps]at hc;injection hc with hc;subst hc;exact wpList_nil (hQ s G w a hK hr (Step.refl _ _ _))
 |o::l,rl,s,G,w,a,hc,hK,hr,hQ=>by
  simp only[compOps]at hc;split at hc
  case h_2=>cases hc
  rename_i r rs h1 h2;injection hc with hc;subst hc;have rest:∀{G':Gh} {w':World} {a':Act} {s':St},RegT P rs K s'→Rel G' w' a' s'→Step G w s.m G' w' s'.m→wpList P ops Q l a' w':=fun hK' hr' hs'=>
   regT_sound h2 hK' hr' fun s'' G'' w'' a'' k1 k2 k3=>hQ s'' G'' w'' a'' k1 k2 (hs'.trans k3)
  unfold compOp at h1;split at h1
  ·cases h1
  ·rename_i g hg;obtain⟨hgate1,hgate2⟩:=gate_wanted hr hg;have doI:∀{i:I} {d:D} {m':List Ent},compI' P ops o o.op=some i→evalI s i=some (d,m')→RegT P rs K ({ s with m:=m' }.put o.dst d)→o.wp P a w (wpList P ops Q l) Q:=by
    intro i d m' hi he hK';exact hr.good (sound_I' hi hr he) fun G' w' u hr' hs'=>rest hK' hr' (by rw[put_m];exact hs')
   have skip:RegT P rs K (s.put o.dst (.v undef))→wpList P ops Q l (a.put o.dst undef) w:=fun hK'=>rest hK' (rel_skip hr o.dst) (by rw[put_m];exact Step.refl _ _ _);split at h1
   ·rename_i f args ho;injection h1 with h1;subst h1;simp only[RegT]at hK;split at hK
    ·rename_i k first caps hfe
     have doC:CallT P k (first++args.map s.ev++caps) s.m (fun d m'=>RegT P rs K ({ s with m:=m' }.put o.dst d))→o.wp P a w (wpList P ops Q l) Q:=by
      rintro⟨⟨fn,e1,e2,e3⟩,hcall⟩;obtain⟨fs,cs,hrun,hv1,hv2⟩:=run_call hr ho hfe e1 e2 e3;have hcalls:=hcall G w (fs++args.map a.eval++cs) ((hv1.append (vs_map hr _)).append hv2) hr.inv;unfold Oper.wp;rw[hrun,Oper.upon_enter];refine hcalls.mono ?_;rintro e w' ⟨v,d,m',G',rfl,hK',hvd,hi',hs'⟩;exact rest hK' ((hr.step hs'.le hi').put o.dst hvd) (by rw[put_m];exact hs')
     split at hK
     ·exact hK.elim
     ·rename_i hgt;rw[wpList,if_pos (hgate1 hgt o rfl)];exact .inl (doC hK)
     ·rename_i c b hgt;rw[wpList,hgate2 c b hgt o rfl];by_cases hcb:c=b
      ·rw[if_pos (by simp[hcb])];exact .inl (doC (hK.1 hcb))
      ·rw[if_neg (by simp[hcb])];exact skip (hK.2 hcb)
    ·split at hK
     ·rename_i c b hgt;rw[wpList,hgate2 c b hgt o rfl,if_neg (by simp[hK.1])];exact skip hK.2
     ·exact hK.elim
   ·rename_i hno;simp only[sn]at h1;obtain⟨i,hi,rfl⟩:=h1;simp only[RegT]at hK;split at hK
    ·exact hK.elim
    ·rename_i hgt;obtain⟨d,m',he,hK'⟩:=hK;rw[wpList,if_pos (hgate1 hgt o rfl)];exact .inl (doI hi he hK')
    ·rename_i c b hgt;rw[wpList,hgate2 c b hgt o rfl];by_cases hcb:c=b
     ·obtain⟨d,m',he,hK'⟩:=hK.1 hcb;rw[if_pos (by simp[hcb])];exact .inl (doI hi he hK')
     ·rw[if_neg (by simp[hcb])];exact skip (hK.2 hcb)
end
end Go.Tm
