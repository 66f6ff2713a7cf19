/-
  The engine: a part of the proof that trees of values are carried along by the program: no condition.
-/
import Derived.Calls
import Derived.Below
import Derived.Laws.Sem
import Derived.Laws.Entries
import Derived.Laws.Cells
import Derived.Laws.CopyRow
import Derived.Laws.AppendOwn
import Derived.Laws.Tables
import Derived.Laws.MakeOwn
import Derived.Laws.StructEq
import Derived.MapKept
import Derived.Tactics
open Go renaming Value->a41,World->a42,Operand->a43,Program->a44,TypeId->a45,FuncId->a47
open Bool renaming true->a38,false->a39
open Option renaming some->M,none->s5
open Decidable renaming decide->s6
open Array renaming all_eq_true->aae,getElem?_eq_some_iff->jac,getElem?_toList->fad,length_toList->Iac,map->oae,range->gae,size_append->cae,toList_map->Tae,toList_zipIdx->Bae
open Int renaming natCast_nonneg->Tad
open List renaming append_assoc->P',cons_append->G?,drop_drop->Yad,eq_nil_of_length_eq_zero->Δ,getElem?_append->Rac,getElem?_drop->Jae,getElem?_toArray->sac,getElem_of_mem->H',length_nil->M!,map_cons->D?,range->p!,replicate->k?,size_toArray->Qab,tail->raf,tail_drop->eaf
open Nat renaming add_comm->Ead,add_mul->kad,add_zero->vac,le_mul_of_pos_right->zad,le_refl->x?,le_trans->N?,lt_of_lt_of_le->Μ,mod_lt->Α,mul_le_mul_right->Β,sub_mul->paf,zero_add->Y!,zero_le->L!
open Option renaming bind_eq_some_iff->hac,map_eq_some_iff->A'
open Prod renaming fst->Nae
open Prod.mk renaming injEq->H!
set_option linter.all false
def l4{p:Prop}(h:p):=h
def U{p:Prop}(h:p:=by omega):=h
def l5{p:Prop}(h:p:=by simp_all):=h
def o0{p:Prop}(h:p:=by simp):=h
def o4{p:Prop}(h:p:=by grind):=h
def p5{p:Prop}(h:p:=by decide):=h
def J{c:Prop}{_:Decidable c}{α:Sort _}{a b:α}(h:c:=by omega):ite c a b=a:=if_pos h
def p6{c:Prop}{_:Decidable c}{α:Sort _}{a b:α}(h:¬c:=by omega):ite c a b=b:=if_neg h
def s7:=@decide_eq_true
def u4:=@if_false
def w2:=@decide_eq_false
def w3:=@decide_eq_true_eq
def D1:=@if_true
def D2:=@of_decide_eq_true
def G1:=@decide_false
def G2:=@decide_true
def R1:=@true_and
def R2:=@not_false_eq_true
def aaA:=@beq_iff_eq
def d?{α:Sort _}{a:α}:a=a:=Eq.trans rfl rfl
def E?{p:Prop}(h:p:=by grind[I.reads]):=h
def I?{p:Prop}(h:p:=by simp[VRel]):=h
namespace Go.Tm
open Go.RowKit (Below)
variable {i:TypeInfo}{b off f id n N sCap K:Nat}{k:a47}{j:IntKind}{cs:List a41}{o:Oper}{e t ty:a45}{α:Type}{z v q:a41}{op:BinOp}{x y c:a43}{neg:Bool}{ps:Array (Nat×a43)}{fs:Array Field}{lo hi mx:Option a43}{p:Option Addr}{ks:List Nat}{ops:Array Oper}{fn:Func}{name:String}
inductive D where
 |v (x:a41)
 |agg (l:List D)
 |tup (l:List D)
 |sl (S:Nat) (l:List D)
 |pt (d:D)
 |ref (id Va c! sub:Nat)
 |own (id Va:Nat)
 |view (id Va lo n:Nat)
 |fn (f:a47) (first caps:List D)
 |mp (id:Nat)
 |ifc (t:a45) (d:D)
 |dead
variable {l:List D}
instance:Inhabited D:=⟨.dead⟩
structure Gh where
 F:Nat->Prop
 n:Nat
 B:Nat->Option Nat
 V:Nat->Nat
 S:Nat->Nat
 N:Nat->Nat
 C:Nat->Nat×Nat
def one:a41->Bool
 |.agg _|.tuple _=>a39
 |_=>a38
def LD(w:a42) (b off:Nat) (u:a41):Prop:=∀(j:Nat) c,u.cells[j]?=M c->one c=a38/\w.cell? ⟨b,off+j,s5⟩=M c
mutual
def VRel(G:Gh) (w:a42):D->a41->Prop
 |.v x,u=>u=x
 |.agg l,u=>∃cs:List a41,u=.agg cs.toArray/\VsRel G w l cs/\∀c∈cs,one c=a38
 |.tup l,u=>∃cs:List a41,u=.tuple cs.toArray/\VsRel G w l cs
 |.sl S l,u=>∃a n cap,u=.slice a n cap/\n=l.length/\n<=cap/\
  (l=[]\/∃b off,a=M ⟨b,off,s5⟩/\G.F b/\Xa G w b S l off)
 |.pt d,u=>∃b off x,u=.pointer (M ⟨b,off,s5⟩)/\G.F b/\VRel G w d x/\LD w b off x
 |.ref id Va c! sub,u=>∃a,u=.pointer (M a)/\id<G.n/\Va<=G.V id/\(G.V id=Va->∃b,G.B id=M b/\a=⟨b,c!*G.S id+sub+(G.C id).2,s5⟩)
 |.own id Va,u=>∃a n c,u=.slice a n c/\id<G.n/\Va<=G.V id/\(G.V id=Va->a=(G.B id).map (λb=>⟨b,(G.C id).2,s5⟩)/\n=G.N id/\c=(G.C id).1)
 |.view id Va lo n,u=>∃a c,u=.slice a n c/\n<=c/\id<G.n/\Va<=G.V id/\(G.V id=Va->n=0\/∃b,G.B id=M b/\a=M ⟨b,lo*G.S id+(G.C id).2,s5⟩)
 |.fn f first caps,u=>∃fs cs:List a41,u=.func (.func f) fs.toArray cs.toArray/\VsRel G w first fs/\VsRel G w caps cs
 |.mp id,u=>∃b,u=.map (M b)/\id<G.n/\(G.V id=0->G.B id=M b)
 |.ifc t d,u=>∃x,u=.iface t x/\VRel G w d x
 |.dead,_=>True
def VsRel(G:Gh) (w:a42):List D->List a41->Prop
 |[],us=>us=[]
 |d::l,us=>∃u r,us=u::r/\VRel G w d u/\VsRel G w l r
def Xa(G:Gh) (w:a42) (b S:Nat):List D->Nat->Prop
 |[],_=>True
 |d::l,off=>(∃u,VRel G w d u/\u.cells.size=S/\LD w b off u)/\Xa G w b S l (off+S)
end
structure Le (G:Gh) (w:a42) (G':Gh) (w':a42):Prop where
 F:∀b,G.F b->G'.F b
 heap:∀b,G.F b->w'.heap[b]?=w.heap[b]?
 n:G.n<=G'.n
 id:∀i,i<G.n->(G'.V i=G.V i/\G'.B i=G.B i/\G'.S i=G.S i/\G'.N i=G.N i/\G'.C i=G.C i)\/G.V i<G'.V i
theorem Le.refl(G:Gh) (w:a42):Le G w G w:=⟨λ_ h=>h,λ_ _=>rfl,x? _,λ_ _=>.inl ⟨rfl,rfl,rfl,rfl,rfl⟩⟩
theorem Le.Va{G G':Gh}{w w':a42}(h:Le G w G' w') {i:Nat}(hi:i<G.n):G.V i<=G'.V i:=by
 rcases h.id i hi with h|h<;>omega
theorem Le.trans{G G' a:Gh}{w w' c:a42}(h:Le G w G' w') (k:Le G' w' a c):Le G w a c where
 F b hb:=k.F b (h.F b hb)
 heap b hb:=(k.heap b (h.F b hb)).trans (h.heap b hb)
 n:=N? h.n k.n
 id i hi:=by
  have h1:=h.id i hi;have h2:=k.id i (Μ hi h.n)
  grind
theorem XS{w w':a42}(h:w'.heap[b]?=w.heap[b]?):w'.cell? ⟨b,off,s5⟩=w.cell? ⟨b,off,s5⟩:=by
 grind[World.cell?]
theorem LD.mono{w w':a42}{u:a41}(h:LD w b off u) (hb:w'.heap[b]?=w.heap[b]?):LD w' b off u:=
 λj c hc=>by rw[XS hb];exact h j c hc
mutual
theorem VRel.mono{G G':Gh}{w w':a42}(g:Le G w G' w'):∀{d:D}{u:a41},VRel G w d u->VRel G' w' d u
 |.v x,u,h=>by simpa [VRel] using h
 |.agg l,u,h=>by
  simp only[VRel]at h⊢;obtain⟨cs,rfl,h,i⟩:=h;exact⟨cs,rfl,VsRel.mono g h,i⟩
 |.tup l,u,h=>by
  simp only[VRel]at h⊢;obtain⟨cs,rfl,h⟩:=h;exact⟨cs,rfl,VsRel.mono g h⟩
 |.sl S l,u,h=>by
  simp only[VRel]at h⊢;obtain⟨a,n,cap,rfl,hn,hc,h⟩:=h;refine⟨a,n,cap,rfl,hn,hc,?_⟩;rcases h with h|⟨b,off,rfl,k,hr⟩
  .simp_all
  .exact .inr ⟨b,off,rfl,g.F b k,Xa.mono g (g.heap b k) hr⟩
 |.pt d,u,h=>by
  simp only[VRel]at h⊢;obtain⟨b,off,x,rfl,k,hd,q⟩:=h;exact⟨b,off,x,rfl,g.F b k,VRel.mono g hd,q.mono (g.heap b k)⟩
 |.ref id Va c! sub,u,h=>by
  simp only[VRel]at h⊢;obtain⟨a,hu,hi,hv,h⟩:=h;refine⟨a,hu,Μ hi g.n,N? hv (g.Va hi),λe=>?_⟩;rcases g.id id hi with⟨i,h2,m,o,p⟩|j
  all_goals grind
 |.own id Va,u,h=>by
  simp only[VRel]at h⊢;obtain⟨a,n,c,hu,hi,hv,h⟩:=h;refine⟨a,n,c,hu,Μ hi g.n,N? hv (g.Va hi),λe=>?_⟩;rcases g.id id hi with⟨i,h2,m,o,p⟩|j
  all_goals grind
 |.view id Va lo n,u,h=>by
  simp only[VRel]at h⊢;obtain⟨a,c,hu,hc,hi,hv,h⟩:=h;refine⟨a,c,hu,hc,Μ hi g.n,N? hv (g.Va hi),λe=>?_⟩;rcases g.id id hi with⟨i,h2,m,o,p⟩|j
  all_goals grind
 |.fn f first caps,u,h=>by
  simp only[VRel]at h⊢;obtain⟨fs,cs,rfl,i,h2⟩:=h;exact⟨fs,cs,rfl,VsRel.mono g i,VsRel.mono g h2⟩
 |.mp id,u,h=>by
  simp only[VRel]at h⊢;obtain⟨b,hu,hi,h⟩:=h;refine⟨b,hu,Μ hi g.n,λe=>?_⟩;rcases g.id id hi with⟨i,h2,m,o,p⟩|j
  all_goals simp_all
 |.ifc t d,u,h=>by
  simp only[VRel]at h⊢;obtain⟨x,rfl,h⟩:=h;exact⟨x,rfl,VRel.mono g h⟩
 |.dead,u,h=>I?
theorem VsRel.mono{G G':Gh}{w w':a42}(a:Le G w G' w'):∀{l:List D}{us:List a41},VsRel G w l us->VsRel G' w' l us
 |[],us,h=>by simpa [VsRel] using h
 |d::l,us,h=>by
  simp only[VsRel]at h⊢;obtain⟨u,r,rfl,b,h2⟩:=h;exact⟨u,r,rfl,VRel.mono a b,VsRel.mono a h2⟩
theorem Xa.mono{G G':Gh}{w w':a42}(a:Le G w G' w') {b S:Nat}(hb:w'.heap[b]?=w.heap[b]?) :
 ∀{l:List D} {off:Nat},Xa G w b S l off->Xa G' w' b S l off
 |[],off,h=>by simp[Xa]
 |d::l,off,h=>by
  simp only[Xa]at h⊢;obtain⟨⟨u,c,h2,e⟩,f⟩:=h;exact⟨⟨u,VRel.mono a c,h2,e.mono hb⟩,Xa.mono a hb f⟩
end
inductive Ent where
 |live (S Va:Nat) (l:List D)
 |mp (es:List (a41×D))
 |gone
def Oe(G:Gh) (w:a42):List (a41×D)->List MapEntry->Prop
 |[],es=>es=[]
 |(k,d)::l,es=>∃e r,es=e::r/\e.key=k/\VRel G w d e.val/\Oe G w l r
theorem Oe.mono{G G':Gh}{w w':a42}(a:Le G w G' w'):∀{l:List (a41×D)}{es:List MapEntry},Oe G w l es->Oe G' w' l es
 |[],es,h=>h
 |(k,d)::l,es,h=>by
  obtain⟨e,r,b,c,h2,f⟩:=h;exact⟨e,r,b,c,h2.mono a,f.mono a⟩
def qp(G:Gh) (w:a42) (i:Nat):Ent->Prop
 |.live S Va l=>G.V i=Va/\G.S i=S/\G.N i=l.length/\l.length<=(G.C i).1/\
  ((G.B i=s5/\G.C i=(0,0))\/∃b cs T,G.B i=M b/\¬G.F b/\w.heap[b]?=M (.cells cs T (0,0))/\(G.C i).1*S+(G.C i).2<=cs.size/\Xa G w b S l (G.C i).2)
 |.mp es=>G.V i=0/\∃b entries clock,G.B i=M b/\¬G.F b/\w.heap[b]?=M (.map entries clock)/\Oe G w es entries.toList
 |.gone=>True
def Ent.isLive:Ent->Bool
 |.gone=>a39
 |_=>a38
def gtab:Nat->Option D
 |0=>M (.agg ([31,28,31,30,31,30,31,31,30,31,30,31].map λn=>.v (.int .i64 n)))
 |_=>s5
def GOK(G:Gh) (w:a42):Prop:=∀g d,gtab g=M d->VRel G w (.pt d) (.pointer (M ⟨g,0,s5⟩))
def GOK.mono{G G':Gh}{w w':a42}(a:Le G w G' w') (h:GOK G w):GOK G' w':=λg d hd=>(h g d hd).mono a
structure Inv (G:Gh) (w:a42) (m:List Ent):Prop where
 n:G.n=m.length
 F:∀b,G.F b->b<w.heap.size
 ent:∀i e,m[i]?=M e->qp G w i e
 apart:∀i j e e',m[i]?=M e->m[j]?=M e'->e.isLive=a38->e'.isLive=a38->∀b,G.B i=M b->G.B j=M b->i=j
 gl:GOK G w
def Mg(G:Gh) (m:List Ent) (b:Nat):Prop:=∃i e,m[i]?=M e/\e.isLive=a38/\G.B i=M b
structure Step (G:Gh) (w:a42) (m:List Ent) (G':Gh) (w':a42) (m':List Ent):Prop where
 le:Le G w G' w'
 os:w'.os=w.os
 tape:w'.tape=w.tape
 output:w'.output=w.output
 size:w.heap.size<=w'.heap.size
 keep:∀b,b<w.heap.size->¬Mg G m b->w'.heap[b]?=w.heap[b]?
 newF:∀b,b<w.heap.size->G'.F b->G.F b\/Mg G m b
 newB:∀b,b<w.heap.size->Mg G' m' b->Mg G m b
variable {G':Gh}{m:List Ent}
theorem Step.refl(G:Gh) (w:a42) (m:List Ent):Step G w m G w m:=
 ⟨Le.refl _ _,rfl,rfl,rfl,x? _,λ_ _ _=>rfl,λ_ _ h=>.inl h,λ_ _ h=>h⟩
theorem Step.trans{G G' c:Gh}{w w' e:a42}{m m' d:List Ent}(h:Step G w m G' w' m') (k:Step G' w' m' c e d):Step G w m c e d where
 le:=h.le.trans k.le
 os:=k.os.trans h.os
 tape:=k.tape.trans h.tape
 output:=k.output.trans h.output
 size:=N? h.size k.size
 keep b hb ho:=(k.keep b (Μ hb h.size) λa=>ho (h.newB b hb a)).trans (h.keep b hb ho)
 newF b hb f:=by
  rcases k.newF b (Μ hb h.size) f with a|a
  .exact h.newF b hb a
  .exact .inr (h.newB b hb a)
 newB b hb a:=h.newB b hb (k.newB b (Μ hb h.size) a)
structure St where
 t:List D
 m:List Ent
structure o? (G:Gh) (w:a42) (a:Act) (s:St):Prop where
 t:VsRel G w s.t a.tmps.toList
 inv:Inv G w s.m
 defers:a.defers=[]
variable {a:Nat×Nat}{s:St}
def St.ev(s:St):a43->D
 |.tmp t=>s.t.getD t .dead
 |.const x=>.v x
 |.func f=>.fn f [] []
 |.global g=>(gtab g).elim .dead .pt
def St.put(s:St) (dst:Option Tmp) (d:D):St:=
 match dst with
 |some i=>{ s with t:=s.t.set i d }
 |none=>s
theorem VsRel.length{G:Gh}{w:a42}:∀{l:List D}{us:List a41},VsRel G w l us->us.length=l.length
 |[],us,h=>by simp[VsRel]at h;simp[h]
 |d::l,us,h=>by
  simp only[VsRel]at h;obtain⟨u,r,rfl,_,h2⟩:=h;simp[VsRel.length h2]
theorem VsRel.get{G:Gh}{w:a42}:∀{l:List D}{us:List a41}(i:Nat),VsRel G w l us->VRel G w (l.getD i .dead) (us.getD i undef)
 |[],us,i,h=>I?
 |d::l,us,i,h=>by
  simp only[VsRel]at h;obtain⟨u,r,rfl,a,h2⟩:=h
  cases i with
  |zero=>simpa using a
  |succ i=>simpa using VsRel.get i h2
theorem VsRel.set{G:Gh}{w:a42}{d:D}{x:a41}(hx:VRel G w d x):∀{l:List D}{us:List a41}(i:Nat),VsRel G w l us->VsRel G w (l.set i d) (us.set i x)
 |[],us,i,h=>by simp[VsRel]at h;simp[h,VsRel]
 |e::l,us,i,h=>by
  simp only[VsRel]at h;obtain⟨u,r,rfl,a,h2⟩:=h
  cases i with
  |zero=>simp only[List.set_cons_zero,VsRel];grind
  |succ i=>simp only[List.set_cons_succ,VsRel];exact⟨u,_,rfl,a,VsRel.set hx i h2⟩
theorem o?.ev{G:Gh}{w:a42}{a:Act}{s:St}(h:o? G w a s) (x:a43):VRel G w (s.ev x) (a.eval x):=by
 cases x with
 |tmp t=>
  have:=VsRel.get t h.t
  simp_all[St.ev,Act.eval]
 |const x=>simp[St.ev,Act.eval,VRel]
 |global g=>
  simp only[St.ev,Act.eval]
  cases b:gtab g with
  |none=>simp[VRel]
  |some d=>exact h.inv.gl g d b
 |func f=>
  simp only[St.ev,Act.eval,VRel];exact⟨[],[],rfl,by simp[VsRel],by simp[VsRel]⟩
theorem o?.put{G:Gh}{w:a42}{a:Act}{s:St}(h:o? G w a s) (dst:Option Tmp) {d:D}{x:a41}(hx:VRel G w d x):o? G w (a.put dst x) (s.put dst d):=by
 cases dst with
 |none=>exact h
 |some i=>
  refine⟨?_,h.inv,h.defers⟩;have:=VsRel.set hx i h.t
  grind[St.put,Act.put]
theorem o?.step{G:Gh}{w w':a42}{a:Act}{m':List Ent}(h:o? G w a s) (b:Le G w G' w') (hi:Inv G' w' m'):o? G' w' a { s with m:=m' }:=
 ⟨h.t.mono b,hi,h.defers⟩
def bj{α:Type}:Sem α->Option α
 |.pure a=>M a
 |_=>s5
def D.cells:D->List D
 |.agg l=>l
 |d=>[d]
def D.ok:D->Bool
 |.v x=>one x
 |.tup _|.dead=>a39
 |_=>a38
def part(A:Bool) (n off:Nat) (l:List D):Option D:=
 match A with
 |true=>if off+n<=l.length then M (.agg ((l.drop off).take n))else s5
 |false=>l[off]?
def av(l:List D) (off:Nat) (r:List D):List D:=l.take off++r++l.drop (off+r.length)
def D.vh(old:D) (sub:Nat) (r:List D):D:=
 match old with
 |.agg l=>.agg (av l sub r)
 |_=>r.headD .dead
def z?:a41->D
 |.agg cs=>.agg (cs.toList.map .v)
 |x=>.v x
inductive I where
 |mv (x:a43)
 |pick (c a b:a43)
 |bin (op:BinOp) (x y:a43)
 |beq (neg:Bool) (x y:a43)
 |un (op:UnOp) (x:a43)
 |conv (k:IntKind) (x:a43)
 |alloc (S:Nat) (z:D)
 |box (S:Nat) (x:a43)
 |build (z:List D) (ps:List (Nat×Nat×a43))
 |bslice (S:Nat) (n:Nat) (z:D) (ps:List (Nat×a43))
 |load (A:Bool) (n:Nat) (x:a43)
 |store (n:Nat) (x y:a43)
 |nilc (x:a43)
 |slice (S:Nat) (x:a43) (lo hi mx:Option a43)
 |faddr (A:Bool) (n off:Nat) (x:a43)
 |field (A:Bool) (n off:Nat) (x:a43)
 |iaddr (S:Nat) (x i:a43)
 |aaddr (A:Bool) (S len:Nat) (x i:a43)
 |index (A:Bool) (S len:Nat) (x i:a43)
 |extract (x:a43) (i:Nat)
 |len (x:a43)
 |slen (x:a43)
 |append (S bytes:Nat) (x y:a43)
 |mkslice (S bytes:Nat) (z:D) (l c:a43)
 |mkfunc (f:a47) (first caps:List a43)
 |fail
 |mm (isMax:Bool) (xs:List a43)
 |ceq (neg:Bool) (ks:List Nat) (x y:a43)
 |strb (S:Nat) (x:a43)
 |CA (x i:a43)
 |sslice (x:a43) (lo hi:Option a43)
 |mkmap
 |mlook (K:Nat) (ok:Bool) (z:D) (x k:a43)
 |mput (K:Nat) (m k x:a43)
 |mlen (x:a43)
 |trunc (S:Nat) (x:a43) (lo hi:Option a43)
 |mkifc (t:a45) (x:a43)
 |tassert (ok:Bool) (t:a45) (z:D) (x:a43)
 |clr (S:Nat) (z:D) (x:a43)
 |capn (x:a43)
 |xv (neg:Bool) (x:a43)
 |mkapp (S bytes:Nat) (z:D) (x n:a43)
def h!(S:Nat) (m:List Ent):D->Option (List D)
 |.v (.slice s5 0 0)=>M []
 |.sl S' l=>if S'=S then M l else s5
 |.own id Va=>
  match m[id]? with
  |some (.live S' a l)=>if S'=S/\a=Va then M l else s5
  |_=>s5
 |.view id Va lo n=>
  match m[id]? with
  |some (.live S' a l)=>if S'=S/\a=Va/\lo+n<=l.length then M ((l.drop lo).take n)else s5
  |_=>s5
 |_=>s5
def Hd(m:List Ent):D->Option Nat
 |.v (.slice s5 0 0)=>M 0
 |.sl _ l=>M l.length
 |.own id Va=>
  match m[id]? with
  |some (.live _ a l)=>if a=Va then M l.length else s5
  |_=>s5
 |.view id _ _ n=>
  match m[id]? with
  |some _=>M n
  |none=>s5
 |_=>s5
def az(s:St):List (Nat×Nat×a43)->List D->Option (List D)
 |[],cells=>M cells
 |(off,n,x)::ps,cells=>
  if(s.ev x).ok=a38/\(s.ev x).cells.length=n/\off+n<=cells.length then az s ps (av cells off (s.ev x).cells)else s5
def pd(s:St) (S:Nat):List (Nat×a43)->List D->Option (List D)
 |[],l=>M l
 |(i,x)::ps,l=>
  if(s.ev x).ok=a38/\(s.ev x).cells.length=S/\i<l.length then pd s S ps (l.set i (s.ev x))else s5
def bound(s:St) (d:Nat):Option a43->Option Nat
 |none=>M d
 |some x=>
  match s.ev x with
  |.v (.int _ n)=>if 0<=n then M n.toNat else s5
  |_=>s5
def nz(S:Nat) (m:List Ent) (d:D) (lo hi:Nat):Option D:=
 match d with
 |.v (.slice s5 0 0)=>if lo=0/\hi=0 then M d else s5
 |.sl S' l=>if S'=S/\lo<=hi/\hi<=l.length then M (.sl S ((l.drop lo).take (hi-lo)))else s5
 |.own id Va=>
  match m[id]? with
  |some (.live S' a l)=>if S'=S/\a=Va/\lo<=hi/\hi<=l.length then M (.view id Va lo (hi-lo))else s5
  |_=>s5
 |.view id Va b n=>
  match m[id]? with
  |some (.live S' a l)=>if S'=S/\a=Va/\lo<=hi/\hi<=n/\b+n<=l.length then M (.view id Va (b+lo) (hi-lo))else s5
  |_=>s5
 |_=>s5
mutual
def xa:D->Bool
 |.v _=>a38
 |.agg l=>oa l
 |.tup l=>oa l
 |.sl _ l=>oa l
 |.pt d=>xa d
 |.ref ..=>a39
 |.own ..=>a39
 |.view ..=>a39
 |.fn _ a b=>oa a&&oa b
 |.mp _=>a39
 |.ifc _ d=>xa d
 |.dead=>a38
def oa:List D->Bool
 |[]=>a38
 |d::l=>xa d&&oa l
end
def isV:D->Bool
 |.v _=>a38
 |_=>a39
def r?:List D->Option (List a41)
 |[]=>M []
 |.v x::l=>(r? l).map (x::·)
 |_::_=>s5
def dz:Nat->D->D->Option Bool
 |0,.v (.int j a),.v (.int k b)=>if j=k then M (a==b)else s5
 |1,.v (.bool a),.v (.bool b)=>M (a==b)
 |2,.v (.string a),.v (.string b)=>M (a.toList==b.toList)
 |_,_,_=>s5
def Je:List Nat->List D->List D->Option Bool
 |[],[],[]=>M a38
 |k::ks,x::xs,y::ys=>
  match dz k x y,Je ks xs ys with
  |some a,M b=>M (a&&b)
  |_,_=>s5
 |_,_,_=>s5
def u?:Nat->a41->Bool
 |0,.int .i64 _=>a38
 |2,.string _=>a38
 |_,_=>a39
def sv:a41->a41->Bool
 |.int _ a,.int _ b=>a==b
 |.string a,.string b=>a==b
 |_,_=>a39
def Wt(k:a41):List (a41×D)->Option D
 |[]=>s5
 |(q,d)::l=>if sv k q=a38 then M d else Wt k l
def Iy(k:a41) (x:D):List (a41×D)->List (a41×D)
 |[]=>[(k,x)]
 |(q,d)::l=>if sv k q=a38 then(k,x)::l else(q,d)::Iy k x l
def fa(s:St):I->Option (D×List Ent)
 |.mv x=>M (s.ev x,s.m)
 |.pick c a b=>
  match s.ev c with
  |.v (.bool t)=>M (bif t then s.ev a else s.ev b,s.m)
  |_=>s5
 |.bin op x y=>
  match s.ev x,s.ev y with
  |.v (.int j a),.v (.int k b)=>(bj (binOp op 0 (.int j a) (.int k b))).map λr=>(.v r,s.m)
  |.v (.string a),.v (.string b)=>(bj (binOp op 0 (.string a) (.string b))).map λr=>(.v r,s.m)
  |_,_=>s5
 |.beq neg x y=>
  match s.ev x,s.ev y with
  |.v (.bool a),.v (.bool b)=>M (.v (.bool ((a==b) !=neg)),s.m)
  |_,_=>s5
 |.un op x=>
  match s.ev x with
  |.v a=>(bj (Op.unary op a)).map λr=>(.v r,s.m)
  |_=>s5
 |.conv k x=>
  match s.ev x with
  |.v (.int _ n)=>M (.v (.int k (k.wrap n)),s.m)
  |_=>s5
 |.alloc S z=>M (.ref s.m.length 0 0 0,s.m++[.live S 0 [z]])
 |.box S x=>if(s.ev x).ok=a38/\(s.ev x).cells.length=S then M (.ref s.m.length 0 0 0,s.m++[.live S 0 [s.ev x]])else s5
 |.build z ps=>(az s ps z).map λl=>(.agg l,s.m)
 |.bslice S n z ps=>(pd s S ps (k? n z)).map λl=>(.own s.m.length 0,s.m++[.live S 0 l])
 |.load A n x=>
  match s.ev x with
  |.pt d=>
   match A,d with
   |true,.agg l=>if l.length=n then M (d,s.m)else s5
   |true,_=>s5
   |false,.agg _=>s5
   |false,d=>if d.ok=a38 then M (d,s.m)else s5
  |.ref id Va c! sub=>
   match s.m[id]? with
   |some (.live _ g l)=>if g=Va then(l[c!]?).bind λd=>if d.ok=a38 then(part A n sub d.cells).map λr=>(r,s.m)else s5 else s5
   |_=>s5
  |_=>s5
 |.store n x y=>
  match s.ev x with
  |.ref id Va c! sub=>
   match s.m[id]? with
   |some (.live S g l)=>
    if g=Va/\(s.ev y).ok=a38/\(s.ev y).cells.length=n then
     (l[c!]?).bind λd=>if d.ok=a38/\0<n/\sub+n<=d.cells.length then M (.dead,s.m.set id (.live S g (l.set c! (d.vh sub (s.ev y).cells))))else s5
    else s5
   |_=>s5
  |_=>s5
 |.nilc x=>
  match s.ev x with
  |.ref ..=>M (s.ev x,s.m)
  |.pt _=>M (s.ev x,s.m)
  |_=>s5
 |.slice S x lo hi mx=>
  match Hd s.m (s.ev x)with
  |some n=>
   match bound s 0 lo,bound s n hi,bound s n mx with
   |some l,M h,M k=>if h<=k/\k<=n then(nz S s.m (s.ev x) l h).map λr=>(r,s.m)else s5
   |_,_,_=>s5
  |none=>s5
 |.faddr A n off x=>
  match s.ev x with
  |.pt (.agg l)=>(part A n off l).map λr=>(.pt r,s.m)
  |.ref id Va c! sub=>M (.ref id Va c! (sub+off),s.m)
  |_=>s5
 |.field A n off x=>
  match s.ev x with
  |.agg l=>(part A n off l).map λr=>(r,s.m)
  |_=>s5
 |.iaddr S x i=>
  match s.ev i with
  |.v (.int _ k)=>
   if 0<=k then
    match s.ev x with
    |.sl S' l=>if S'=S then(l[k.toNat]?).map λd=>(.pt d,s.m)else s5
    |.own id Va=>
     match s.m[id]? with
     |some (.live S' g l)=>if S'=S/\g=Va/\k.toNat<l.length then M (.ref id Va k.toNat 0,s.m)else s5
     |_=>s5
    |.view id Va lo n=>
     match s.m[id]? with
     |some (.live S' g l)=>if S'=S/\g=Va/\k.toNat<n/\lo+n<=l.length then M (.ref id Va (lo+k.toNat) 0,s.m)else s5
     |_=>s5
    |_=>s5
   else s5
  |_=>s5
 |.aaddr A S len x i=>
  match s.ev i with
  |.v (.int _ k)=>
   if 0<=k/\k.toNat<len then
    match s.ev x with
    |.pt (.agg l)=>(part A S (k.toNat*S) l).map λr=>(.pt r,s.m)
    |.ref id Va c! sub=>M (.ref id Va c! (sub+k.toNat*S),s.m)
    |_=>s5
   else s5
  |_=>s5
 |.index A S len x i=>
  match s.ev i with
  |.v (.int _ k)=>
   if 0<=k/\k.toNat<len then
    match s.ev x with
    |.agg l=>(part A S (k.toNat*S) l).map λr=>(r,s.m)
    |_=>s5
   else s5
  |_=>s5
 |.extract x i=>
  match s.ev x with
  |.tup l=>(l[i]?).map λd=>(d,s.m)
  |_=>s5
 |.len x=>(Hd s.m (s.ev x)).map λ(n:Nat)=>(D.v (.int .i64 (n:Int)),s.m)
 |.slen x=>
  match s.ev x with
  |.v (.string b)=>M (.v (.int .i64 (b.size:Int)),s.m)
  |_=>s5
 |.append S bytes x y=>
  match h! S s.m (s.ev y)with
  |some r=>
   match s.ev x with
   |.v (.slice s5 0 0)=>if r.length*bytes<=2 ^ 47 then M (.own s.m.length 0,s.m++[.live S 0 r])else s5
   |.own id Va=>
    match s.m[id]? with
    |some (.live S' g l)=>if S'=S/\g=Va/\(l.length+r.length)*bytes<=2 ^ 47 then M (.own id (Va+1),s.m.set id (.live S (Va+1) (l++r)))else s5
    |_=>s5
   |_=>s5
  |none=>s5
 |.mkslice S bytes z l c=>
  match s.ev l,s.ev c with
  |.v (.int .i64 n),.v (.int .i64 k)=>
   if 0<=n/\n<=k/\k<=2 ^ 62/\k.toNat*bytes<=2 ^ 48 then M (.own s.m.length 0,s.m++[.live S 0 (k? n.toNat z)])else s5
  |_,_=>s5
 |.mkfunc f first caps=>M (.fn f (first.map s.ev) (caps.map s.ev),s.m)
 |.fail=>s5
 |.mm isMax xs=>
  match r? (xs.map s.ev)with
  |some vs=>(bj (if isMax then Builtin.max_ #[] 0 vs.toArray else Builtin.min_ #[] 0 vs.toArray)).map λr=>(.v r,s.m)
  |none=>s5
 |.ceq neg ks x y=>
  match s.ev x,s.ev y with
  |.agg l,.agg r=>(Je ks l r).map λt=>(.v (.bool (t !=neg)),s.m)
  |_,_=>s5
 |.strb S x=>
  match s.ev x with
  |.own id Va=>
   match s.m[id]? with
   |some (.live S' g l)=>if S'=S/\g=Va/\0<l.length/\l.all isV=a38 then M (.sl S l,s.m.set id .gone)else s5
   |_=>s5
  |_=>s5
 |.CA x i=>
  match s.ev x,s.ev i with
  |.v (.string b),.v (.int _ k)=>if h:0<=k/\k.toNat<b.size then M (.v (.int .u8 (b[k.toNat]'h.2).toNat),s.m)else s5
  |_,_=>s5
 |.sslice x lo hi=>
  match s.ev x with
  |.v (.string b)=>
   match bound s 0 lo,bound s b.size hi with
   |some l,M h=>if l<=h/\h<=b.size then M (.v (.string (b.extract l h)),s.m)else s5
   |_,_=>s5
  |_=>s5
 |.mkmap=>M (.mp s.m.length,s.m++[.mp []])
 |.mlook K ok z x k=>
  match s.ev k with
  |.v o=>
   if u? K o=a38 then
    match s.ev x with
    |.v (.map s5)=>M (if ok then .tup [z,.v (.bool a39)]else z,s.m)
    |.mp id=>
     match s.m[id]? with
     |some (.mp es)=>
      if(es.all λe=>u? K e.1)=a38 then
       match Wt o es with
       |some d=>M (if ok then .tup [d,.v (.bool a38)]else d,s.m)
       |none=>M (if ok then .tup [z,.v (.bool a39)]else z,s.m)
      else s5
     |_=>s5
    |_=>s5
   else s5
  |_=>s5
 |.mput K m k x=>
  match s.ev k,s.ev m with
  |.v o,.mp id=>
   match s.m[id]? with
   |some (.mp es)=>if u? K o=a38/\(es.all λe=>u? K e.1)=a38 then M (.dead,s.m.set id (.mp (Iy o (s.ev x) es)))else s5
   |_=>s5
  |_,_=>s5
 |.mlen x=>
  match s.ev x with
  |.v (.map s5)=>M (.v (.int .i64 0),s.m)
  |.mp id=>
   match s.m[id]? with
   |some (.mp es)=>M (.v (.int .i64 (es.length:Int)),s.m)
   |_=>s5
  |_=>s5
 |.trunc S x lo hi=>
  match s.ev x with
  |.own id Va=>
   match s.m[id]? with
   |some (.live S' g l)=>
    match bound s 0 lo,bound s l.length hi with
    |some a,M h=>if a<=h/\S'=S/\g=Va/\h<=l.length then M (.own id (Va+1),s.m.set id (.live S (Va+1) ((l.take h).drop a)))else s5
    |_,_=>s5
   |_=>s5
  |d=>
   match Hd s.m d with
   |some n=>
    match bound s 0 lo,bound s n hi,bound s n s5 with
    |some l,M h,M k=>if h<=k/\k<=n then(nz S s.m d l h).map λr=>(r,s.m)else s5
    |_,_,_=>s5
   |none=>s5
 |.mkifc t x=>M (.ifc t (s.ev x),s.m)
 |.tassert ok t z x=>
  match s.ev x with
  |.ifc t' d=>if t'=t then M (if ok then .tup [d,.v (.bool a38)]else d,s.m)else if ok=a38 then M (.tup [z,.v (.bool a39)],s.m)else s5
  |_=>s5
 |.clr S z x=>
  match s.ev x with
  |.v (.slice s5 0 0)=>M (.dead,s.m)
  |.view id Va lo n=>
   match s.m[id]? with
   |some (.live S' g l)=>if S'=S/\g=Va/\lo+n<=l.length then M (.dead,s.m.set id (.live S Va (l.take lo++k? n z++l.drop (lo+n))))else s5
   |_=>s5
  |_=>s5
 |.capn x=>
  match s.ev x with
  |.v (.slice s5 0 0)=>M (.v (.int .i64 0),s.m)
  |_=>s5
 |.xv neg x=>
  match s.ev x with
  |.v (.slice a _ _)=>M (.v (.bool (a.isNone !=neg)),s.m)
  |.sl _ (_::_)=>M (.v (.bool neg),s.m)
  |.own id Va=>
   match s.m[id]? with
   |some (.live _ g (_::_))=>if g=Va then M (.v (.bool neg),s.m)else s5
   |_=>s5
  |_=>s5
 |.mkapp S bytes z x n=>
  match s.ev x,s.ev n with
  |.v (.slice s5 0 0),.v (.int .i64 k)=>if 0<k/\k.toNat*bytes<=2 ^ 47 then M (.own s.m.length 0,s.m++[.live S 0 (k? k.toNat z)])else s5
  |_,_=>s5
inductive ς where
 |tmp (t:Tmp)
 |const (v:a41)
 |global (g:Nat)
 |func (f:a47)
 |meth (r:a43) (tb:List (a45×a47×Option (Bool×Nat)))
def ς.of:a43->ς
 |.tmp t=>.tmp t
 |.const v=>.const v
 |.global g=>.global g
 |.func f=>.func f
def St.cv(s:St):ς->D
 |.tmp t=>s.ev (.tmp t)
 |.const v=>s.ev (.const v)
 |.global g=>s.ev (.global g)
 |.func f=>s.ev (.func f)
 |.meth ..=>.dead
def IL(m:List Ent) (tb:List (a45×a47×Option (Bool×Nat))):D->D
 |.ifc t d=>
  match tb.lookup t with
  |some (k,s5)=>.fn k [d] []
  |some (k,M r)=>
   match fa ⟨[d],m⟩ (.load r.1 r.2 (.tmp 0))with
   |some (d',_)=>.fn k [d'] []
   |none=>.dead
  |none=>.dead
 |_=>.dead
def St.ec(s:St):ς->D
 |.tmp t=>s.ev (.tmp t)
 |.const v=>s.ev (.const v)
 |.global g=>s.ev (.global g)
 |.func f=>s.ev (.func f)
 |.meth r tb=>IL s.m tb (s.ev r)
theorem as1{f:ς}{a b:List D}(h:s.cv f=.fn k a b):s.ec f=.fn k a b:=by
 cases f<;>simp[St.cv]at h<;>exact h
theorem cm2(x:a43):s.ec (.of x)=s.ev x:=by cases x<;>rfl
open Go.RowKit (Below)
theorem bg{G:Gh}{w:a42}{b S:Nat}:∀{l:List D}{off:Nat},Xa G w b S l off↔∀(i:Nat) d,l[i]?=M d->∃u,VRel G w d u/\u.cells.size=S/\LD w b (off+i*S) u
 |[],off=>by simp[Xa]
 |d::l,off=>by
  simp only[Xa];constructor
  .rintro⟨h1,h2⟩ i e he
   cases i with
   |zero=>simp_all
   |succ i=>
    have:=bg.1 h2 i e l5
    grind
  .intro h;refine⟨by simpa using h 0 d rfl,bg.2 λi e he=>?_⟩;have:=h (i+1) e l5
   grind
def Vi(G:Gh) (w:a42) (S:Nat) (l:List D) (cs:Array a41) (o:Nat:=0):Prop:=
 ∀(i:Nat) d,l[i]?=M d->∃u,VRel G w d u/\u.cells.size=S/\∀(j:Nat) c,u.cells[j]?=M c->one c=a38/\cs[i*S+j+o]?=M c
def Vi.mono{G G':Gh}{w w':a42}{S o:Nat}{l:List D}{cs:Array a41}(h:Vi G w S l cs o) (a:Le G w G' w'):Vi G' w' S l cs o:=
 λi d hd=>let ⟨u,b,h2,c⟩:=h i d hd;⟨u,b.mono a,h2,c⟩
theorem MG{w:a42}{j:Nat}{cs:Array a41}{T:a45}(h:w.heap[b]?=M (.cells cs T a)):w.cell? ⟨b,j,s5⟩=cs[j]?:=by
 grind[World.cell?]
theorem Ro{G:Gh}{w:a42}{S o:Nat}{cs:Array a41}{T:a45}(h:w.heap[b]?=M (.cells cs T a)) (hr:Vi G w S l cs o):Xa G w b S l o:=
 bg.2 λi d hd=>by
  obtain⟨u,e,h2,f⟩:=hr i d hd;exact⟨u,e,h2,λj c hc=>⟨(f j c hc).1,by grind[MG]⟩⟩
theorem zA{G:Gh}{w:a42}{S o:Nat}{cs:Array a41}{T:a45}{e:Nat×Nat}(h:w.heap[b]?=M (.cells cs T e)) (hr:Xa G w b S l o):Vi G w S l cs o:=by
 intro i d hd;obtain⟨u,f,h2,a⟩:=bg.1 hr i d hd;refine⟨u,f,h2,λj c hc=>⟨(a j c hc).1,?_⟩⟩;have:=(a j c hc).2
 grind[MG]
def Gh.add(G:Gh) (b:Option Nat) (S N C:Nat):Gh:=
 ⟨G.F,G.n+1,λi=>if i=G.n then b else G.B i,λi=>if i=G.n then 0 else G.V i,λi=>if i=G.n then S else G.S i,
  λi=>if i=G.n then N else G.N i,λi=>if i=G.n then(C,0)else G.C i⟩
theorem Le.add{G:Gh}{w w':a42}(hb:∀b,G.F b->w'.heap[b]?=w.heap[b]?) (b:Option Nat) (S N C:Nat):Le G w (G.add b S N C) w' where
 F _ h:=h
 heap:=hb
 n:=by simp[Gh.add]
 id i hi:=by
  grind[Gh.add]
theorem qp.mono{G G':Gh}{w w':a42}(a:Le G w G' w') {i:Nat}{e:Ent}(h:qp G w i e)
 (hi:G'.V i=G.V i/\G'.B i=G.B i/\G'.S i=G.S i/\G'.N i=G.N i/\G'.C i=G.C i) (hb:∀b,G.B i=M b->w'.heap[b]?=w.heap[b]?)
 (f:∀b,G.B i=M b->e.isLive=a38->G'.F b->G.F b):qp G' w' i e:=by
 obtain⟨d,h2,o,p,q⟩:=hi
 cases e with
 |live S Va l=>
  simp only[qp]at h⊢;obtain⟨a1,a2,a3,a4,a5⟩:=h;rw[d,h2,o,p,q];refine⟨a1,a2,a3,a4,?_⟩;rcases a5 with a5|⟨b,cs,T,c,g,b3,j,k⟩
  .simp_all
  .exact .inr ⟨b,cs,T,c,λhf=>g (f b c rfl hf),l5,j,Xa.mono a (hb b c) k⟩
 |mp es=>
  simp only[qp]at h⊢;obtain⟨a1,b,n,m,a2,a3,a4,a5⟩:=h;rw[d,h2];exact⟨a1,b,n,m,a2,λhf=>a3 (f b a2 rfl hf),l5,a5.mono a⟩
 |gone=>trivial
theorem qp.lt{G:Gh}{w:a42}{i:Nat}{e:Ent}(h:qp G w i e) (hl:e.isLive=a38) (hb:G.B i=M b):b<w.heap.size/\¬G.F b:=by
 have key:∀o,w.heap[b]?=M o->b<w.heap.size:=λo ho=>by
  grind
 cases e with
 |live S Va l=>
  obtain⟨_,_,_,_,h|⟨a,cs,T,b1,b2,b3,_⟩⟩:=h
  all_goals simp_all
 |mp es=>
  obtain⟨_,a,en,cl,a2,a3,a4,_⟩:=h
  simp_all
 |gone=>cases hl
theorem Mg.lt{G:Gh}{w:a42}{m:List Ent}(hi:Inv G w m) {b:Nat}(h:Mg G m b):b<w.heap.size/\¬G.F b:=by
 obtain⟨i,e,a,h2,c⟩:=h;exact(hi.ent i e a).lt h2 c
structure N' (w w':a42):Prop where
 heap:w'.heap=w.heap
 os:w'.os=w.os
 tape:w'.tape=w.tape
 output:w'.output=w.output
variable {w':a42}
def N'.drew(w:a42):N' w w.drew:=⟨rfl,rfl,rfl,rfl⟩
theorem N'.le{w:a42}(h:N' w w') (G:Gh):Le G w G w':=⟨λ_ h=>h,λ_ _=>by rw[h.heap],x? _,λ_ _=>.inl ⟨rfl,rfl,rfl,rfl,rfl⟩⟩
theorem N'.step{w:a42}(h:N' w w') (G:Gh) (m:List Ent):Step G w m G w' m:=
 ⟨h.le G,h.os,h.tape,h.output,by rw[h.heap];omega,λ_ _ _=>by rw[h.heap],λ_ _ h=>.inl h,λ_ _ h=>h⟩
theorem N'.inv{w:a42}(h:N' w w') {G:Gh}(hi:Inv G w m):Inv G w' m:=
 ⟨hi.n,λb hb=>by rw[h.heap];exact hi.F b hb,λi e he=>(hi.ent i e he).mono (h.le G) ⟨rfl,rfl,rfl,rfl,rfl⟩ (λ_ _=>by rw[h.heap]) (λ_ _ _ h=>h),hi.apart,hi.gl.mono (h.le G)⟩
theorem vE{G:Gh}{w:a42}(hi:Inv G w m) (b:Option Nat) (S N C:Nat) (e:Ent) (hl:e.isLive=a38)
 (r:w'.os=w.os) (g:w'.tape=w.tape) (p:w'.output=w.output) (d:w.heap.size<=w'.heap.size)
 (a:∀k,k<w.heap.size->w'.heap[k]?=w.heap[k]?) (hb:∀k,b=M k->w.heap.size<=k)
 (he:qp (G.add b S N C) w' G.n e) :
 Inv (G.add b S N C) w' (m++[e])/\Step G w m (G.add b S N C) w' (m++[e]):=by
 have f:Le G w (G.add b S N C) w':=Le.add (λk hk=>a k (hi.F k hk)) b S N C;have hnew:∀i,i≠G.n->(G.add b S N C).B i=G.B i:=λi h=>by grind[Gh.add]
 have hat:(G.add b S N C).B G.n=b:=by simp[Gh.add]
 have c:∀i x,(m++[e])[i]?=M x->(m[i]?=M x/\i≠G.n)\/(i=G.n/\x=e):=by
  intro i x hx;rw[Rac]at hx;split at hx
  .exact .inl ⟨hx,by rw[hi.n];omega⟩
  .rename_i hlt;have:i=m.length:=by
    grind
   subst this;simp at hx;exact .inr ⟨hi.n.symm,hx.symm⟩
 have o:∀i x,m[i]?=M x->x.isLive=a38->∀k,G.B i=M k->k<w.heap.size:=λi x hx hl k hk=>((hi.ent i x hx).lt hl hk).1;refine⟨⟨by simp[Gh.add,hi.n],λk hk=>Μ (hi.F k hk) d,?_,?_,hi.gl.mono f⟩,⟨f,r,g,p,d,λk hk _=>a k hk,λ_ _ h=>.inl h,?_⟩⟩
 .intro i x hx;rcases c i x hx with⟨l,h2⟩|⟨rfl,rfl⟩
  .by_cases q:x.isLive=a38
   .refine(hi.ent i x l).mono f (by grind[Gh.add]) (λk hk=>a k (o i x l q k hk)) (λ_ _ _ h=>h)
   .cases x with
    |gone=>trivial
    |_=>grind[Ent.isLive]
  omega
 .intro i j x y hx u s v k hk hk';rcases c i x hx with⟨l,h2⟩|⟨rfl,rfl⟩<;>rcases c j y u with⟨t,h4⟩|⟨rfl,rfl⟩
  .exact hi.apart i j x y l t s v k l5 l5
  all_goals grind
 .rintro k hk ⟨i,x,hx,s,hB⟩;rcases c i x hx with⟨l,h2⟩|⟨rfl,rfl⟩
  .exact⟨i,x,l,s,l5⟩
  grind
theorem Yw{G:Gh}{w:a42}(hi:Inv G w m) (S:Nat) (l:List D) (C:Nat) (cs:Array a41) (T:a45)
 (hr:Vi G w S l cs) (hC:l.length<=C) (hcs:C*S<=cs.size) :
 Inv (G.add (M w.heap.size) S l.length C) (w.alloc (.cells cs T)) (m++[.live S 0 l])/\Step G w m (G.add (M w.heap.size) S l.length C) (w.alloc (.cells cs T)) (m++[.live S 0 l]):=by
 have a:∀k,k<w.heap.size->(w.alloc (.cells cs T)).heap[k]?=w.heap[k]?:=λk hk=>Below.heap_alloc _ _ _ hk;refine vE hi _ _ _ _ _ rfl rfl rfl rfl o0 a (λk h=>l5) ?_;have c:Le G w (G.add (M w.heap.size) S l.length C) (w.alloc (.cells cs T)):=Le.add (λk hk=>a k (hi.F k hk)) _ _ _ _;have b:(w.alloc (.cells cs T)).heap[w.heap.size]?=M (.cells cs T (0,0)):=by
  show(w.heap.push (.cells cs T))[w.heap.size]?=_;simp
 refine⟨by simp[Gh.add],by simp[Gh.add],by simp[Gh.add],by grind[Gh.add],.inr ⟨w.heap.size,cs,T,by simp[Gh.add],λh=>?_,b,by grind[Gh.add],by simpa [Gh.add] using Ro b (hr.mono c)⟩⟩;have:=hi.F _ h;omega
def Gh.vh(G:Gh) (i:Nat) (b:Option Nat) (V N:Nat) (C:Nat×Nat):Gh:=
 ⟨G.F,G.n,λj=>if j=i then b else G.B j,λj=>if j=i then V else G.V j,G.S,λj=>if j=i then N else G.N j,λj=>if j=i then C else G.C j⟩
theorem ti{G:Gh}{w:a42}(hi:Inv G w m) {e e':Ent}(hm:m[id]?=M e) (hl:e.isLive=a38) (hl':e'.isLive=a38) (b:Option Nat) (V N:Nat) (C:Nat×Nat)
 (hV:G.V id<V\/(V=G.V id/\b=G.B id/\N=G.N id/\C=G.C id))
 (z:w'.os=w.os) (o:w'.tape=w.tape) (r:w'.output=w.output) (d:w.heap.size<=w'.heap.size)
 (a:∀k,k<w.heap.size->G.B id≠M k->w'.heap[k]?=w.heap[k]?) (hb:∀k,b=M k->G.B id=M k\/w.heap.size<=k)
 (he:qp (G.vh id b V N C) w' id e') :
 Inv (G.vh id b V N C) w' (m.set id e')/\Step G w m (G.vh id b V N C) w' (m.set id e'):=by
 have t:∀k,G.F k->G.B id≠M k:=λk D g=>((hi.ent id e hm).lt hl g).2 D;have l:Le G w (G.vh id b V N C) w':=by
  refine⟨λ_ h=>h,λk hk=>a k (hi.F k hk) (t k hk),x? _,λi _=>?_⟩
  grind[Gh.vh]
 have hnew:∀i,i≠id->(G.vh id b V N C).B i=G.B i:=λi h=>by grind[Gh.vh]
 have u:(G.vh id b V N C).B id=b:=by simp[Gh.vh]
 have hlen:id<m.length:=by
  grind
 have c:∀i x,(m.set id e')[i]?=M x->(m[i]?=M x/\i≠id)\/(i=id/\x=e'):=by
  grind
 have q:∀i x,m[i]?=M x->x.isLive=a38->∀k,G.B i=M k->k<w.heap.size:=λi x hx hl k hk=>((hi.ent i x hx).lt hl hk).1;refine⟨⟨by simp[Gh.vh,hi.n],λk hk=>Μ (hi.F k hk) d,?_,?_,hi.gl.mono l⟩,⟨l,z,o,r,d,?_,λ_ _ h=>.inl h,?_⟩⟩
 .intro i x hx;rcases c i x hx with⟨f,h2⟩|⟨rfl,rfl⟩
  .by_cases p:x.isLive=a38
   .refine(hi.ent i x f).mono l (by grind[Gh.vh]) (λk hk=>a k (q i x f p k hk) λg=>h2 (hi.apart i id x e f hm p hl k hk g)) (λ_ _ _ h=>h)
   .cases x with
    |gone=>trivial
    |_=>grind[Ent.isLive]
  omega
 .intro i j x y hx E s H k hk hk';have other:∀i x,m[i]?=M x->i≠id->x.isLive=a38->G.B i=M k->b=M k->False:=λi x f h2 s hk v=>by
   rcases hb k v with h|h
   .exact h2 (hi.apart i id x e f hm s hl k hk h)
   grind
  rcases c i x hx with⟨f,h2⟩|⟨rfl,rfl⟩<;>rcases c j y E with⟨A,h4⟩|⟨rfl,rfl⟩
  .exact hi.apart i j x y f A s H k l5 l5
  all_goals simp_all
 .intro k hk ho;exact a k hk λg=>ho ⟨id,e,hm,hl,g⟩
 .rintro k hk ⟨i,x,hx,s,g⟩;rcases c i x hx with⟨f,h2⟩|⟨rfl,rfl⟩
  .exact⟨i,x,f,s,l5⟩
  .rw[u]at g;rcases hb k g with h|h
   .exact⟨i,e,hm,hl,h⟩
   omega
def x!(P:a44) (t:a45):Option (Bool×Nat):=
 match P.underlying t,P.info? t with
 |some (.struct _),M i=>M (a38,i.size)
 |some (.array _ _),M i=>M (a38,i.size)
 |some _,M i=>M (a39,i.size)
 |_,_=>s5
def q?(P:a44) (t:a45):Option a41:=
 match P.info? t with
 |some i=>
  match i.zero with
  |some z=>if z.cells.toList.all one=a38/\z.cells.size=i.size/\0<i.size then M z else s5
  |none=>s5
 |none=>s5
def L?(z!:List (Nat×Nat)):List (Nat×a43)->Option (List (Nat×Nat×a43))
 |[]=>M []
 |(i,x)::ps=>
  match z![i]?,L? z! ps with
  |some (off,n),M r=>M ((off,n,x)::r)
  |_,_=>s5
def gO(P:a44) (t:a45):Option Nat:=
 match P.underlying t with
 |some (.int _)=>M 0
 |some .bool=>M 1
 |some .string=>M 2
 |_=>s5
def iO(P:a44):List Field->Nat->Option (List Nat)
 |[],_=>M []
 |f::fs,off=>
  if f.name≠ "_"/\f.offset=off then
   match gO P f.type,iO P fs (off+1)with
   |some k,M ks=>M (k::ks)
   |_,_=>s5
  else s5
def yD(P:a44):List Field->Nat->Option (List Nat)
 |[],_=>M []
 |f::fs,off=>
  if f.name≠ "_"/\f.offset=off then
   match P.underlying f.type with
   |some (.struct gs)=>
    match iO P gs.toList 0,P.info? f.type with
    |some ks,M i=>if i.size=ks.length/\P.stoodInHeld f.type=a39 then(yD P fs (off+ks.length)).map (ks++·)else s5
    |_,_=>s5
   |_=>
    match gO P f.type,yD P fs (off+1)with
    |some k,M ks=>M (k::ks)
    |_,_=>s5
  else s5
def Ux(P:a44) (t:a45):Option Nat:=
 match P.underlying t with
 |some (.int .i64)=>M 0
 |some .string=>M 2
 |_=>s5
def oL(P:a44):Op->Option I
 |.move x=>M (.mv x)
 |.assign x=>M (.mv x)
 |.pick c a b=>M (.pick c a b)
 |.alloc t=>(q? P t).map λz=>.alloc z.cells.size (z? z)
 |.box t x=>M (.box (P.cellsOf t) x)
 |.build t ps=>
  match P.underlying t,q? P t with
  |some (.struct fs),M z=>
   match fs.toList.mapM λf=>(P.info? f.type).map λi=>(f.offset,i.size)with
   |some z!=>(L? z! ps.toList).map λr=>.build (z.cells.toList.map .v) r
   |none=>s5
  |some (.array _ e),M z=>(P.info? e).map λi=>.build (z.cells.toList.map .v) (ps.toList.map λ(k,x)=>(k*i.size,i.size,x))
  |_,_=>s5
 |.buildSlice t n ps=>
  match P.underlying t with
  |some (.slice e)=>
   match q? P e with
   |some z=>if n*z.cells.size<=2 ^ 24 then M (.bslice z.cells.size n (z? z) ps.toList)else s5
   |none=>s5
  |_=>s5
 |.load t x=>(x! P t).map λr=>.load r.1 r.2 x
 |.store t x y=>(P.info? t).map λi=>.store i.size x y
 |.nilCheck x=>M (.nilc x)
 |.binOp op t x y _=>
  match P.underlying t with
  |some .bool=>if op=.eql then M (.beq a39 x y)else if op=.neq then M (.beq a38 x y)else s5
  |some (.struct fs)=>
   if(op=.eql\/op=.neq)/\P.stoodInHeld t=a39/\P.eqGuardType P.depth t=a39 then
    match yD P fs.toList 0 with
    |some ks=>M (.ceq (s6 (op=.neq)) ks x y)
    |none=>s5
   else s5
  |some (.slice _)=>
   match op,y with
   |.eql,.const (.slice s5 0 0)=>M (.xv a39 x)
   |.neq,.const (.slice s5 0 0)=>M (.xv a38 x)
   |_,_=>s5
  |some _=>M (.bin op x y)
  |none=>s5
 |.unOp op _ x=>M (.un op x)
 |.convert s d x=>
  match P.underlying s,P.underlying d with
  |some (.int _),M (.int k)=>M (.conv k x)
  |some (.slice _),M (.slice e)=>
   match P.underlying e,P.info? e with
   |some (.int .u8),M i=>if s=d then M (.strb i.size x)else s5
   |_,_=>s5
  |_,_=>s5
 |.makeFunc (.func f) first caps=>M (.mkfunc f first.toList caps.toList)
 |.makeSlice t l c=>
  match P.underlying t with
  |some (.slice e)=>
   match q? P e with
   |some z=>M (.mkslice z.cells.size (P.bytesOf e) (z? z) l c)
   |none=>s5
  |_=>s5
 |.slice t x lo hi mx=>
  match P.underlying t with
  |some (.slice e)=>if mx.isSome&&hi.isNone then s5 else(P.info? e).map λi=>.slice i.size x lo hi mx
  |some .string=>if mx.isSome then s5 else M (.sslice x lo hi)
  |_=>s5
 |.fieldAddr s x f=>
  match P.underlying s with
  |some (.struct fs)=>
   match fs[f]? with
   |some g=>
    match x! P g.type with
    |some r=>if r.2≠0 then M (.faddr r.1 r.2 g.offset x)else s5
    |none=>s5
   |none=>s5
  |_=>s5
 |.field s x f=>
  match P.underlying s with
  |some (.struct fs)=>
   match fs[f]? with
   |some g=>(x! P g.type).map λr=>.field r.1 r.2 g.offset x
   |none=>s5
  |_=>s5
 |.indexAddr t x i=>
  match P.underlying t with
  |some (.slice e)=>(P.info? e).map λj=>.iaddr j.size x i
  |some (.array n e)=>(x! P e).map λr=>.aaddr r.1 r.2 n x i
  |_=>s5
 |.index t x i=>
  match P.underlying t with
  |some (.array n e)=>(x! P e).map λr=>.index r.1 r.2 n x i
  |some .string=>M (.CA x i)
  |_=>s5
 |.extract x i=>M (.extract x i)
 |.panic _=>M .fail
 |.makeMap _ s5=>M .mkmap
 |.lookup t x k ok=>
  match P.underlying t with
  |some (.map h o)=>
   match Ux P h,q? P o with
   |some K,M z=>M (.mlook K ok (z? z) x k)
   |_,_=>s5
  |_=>s5
 |.mapUpdate t m k x=>
  match P.underlying t with
  |some (.map h _)=>(Ux P h).map λK=>.mput K m k x
  |_=>s5
 |.call c=>
  match c.callee,c.args.toList,c.argTypes.toList with
  |.builtin .len,[x],[t]=>
   match P.underlying t with
   |some (.slice _)=>M (.len x)
   |some .string=>M (.slen x)
   |some (.map _ _)=>M (.mlen x)
   |_=>s5
  |.builtin .max,xs,_=>M (.mm a38 xs)
  |.builtin .min,xs,_=>M (.mm a39 xs)
  |.builtin .append,[x,y],[t,u]=>
   match P.underlying t,P.underlying u with
   |some (.slice e),M (.slice _)=>
    if t=u then
     match P.info? e,q? P e with
     |some i,M _=>if 0<i.bytes then M (.append i.size i.bytes x y)else s5
     |_,_=>s5
    else s5
   |some (.slice e),M (.int .i64)=>
    match P.info? e,q? P e with
    |some i,M z=>if 0<i.bytes then M (.mkapp i.size i.bytes (z? z) x y)else s5
    |_,_=>s5
   |_,_=>s5
  |.builtin .clear,[x],[t]=>
   match P.underlying t with
   |some (.slice e)=>(q? P e).map λz=>.clr z.cells.size (z? z) x
   |_=>s5
  |.builtin .cap,[x],[t]=>
   match P.underlying t with
   |some (.slice _)=>M (.capn x)
   |_=>s5
  |_,_,_=>s5
 |.makeInterface t x=>
  match P.underlying t with
  |some (.interface _)=>s5
  |some _=>M (.mkifc t x)
  |none=>s5
 |.typeAssert x _ t ok=>
  match P.underlying t,q? P t with
  |some (.interface _),_=>s5
  |some _,M z=>M (.tassert ok t (z? z) x)
  |_,_=>s5
 |_=>s5
def aJ0(P:a44) (name:String) (t:a45):Option (a47×Option (Bool×Nat)):=
 match P.info? t with
 |some i=>
  match i.methods.find? (·.name==name)with
  |some m=>
   match m.path.isEmpty,m.func,P.underlying t with
   |true,M (f,a38),M (.pointer _)=>M (f,s5)
   |true,M (f,a39),M (.pointer e)=>(x! P e).map λr=>(f,M r)
   |true,M (f,a39),M _=>M (f,s5)
   |_,_,_=>s5
  |none=>s5
 |none=>s5
def bh5(P:a44) (name:String):List (a45×a47×Option (Bool×Nat)):=(p! P.types.size).filterMap λt=>(aJ0 P name t).map λr=>(t,r)
def SS(P:a44):Op->Option (ς×List a43)
 |.call ⟨.value f,args,_⟩=>M (.of f,args.toList)
 |.call ⟨.invoke r n,args,_⟩=>M (.meth r (bh5 P n),args.toList)
 |_=>s5
inductive RI where
 |op (dst:Option Tmp) (g:Option (Tmp×Bool)) (i:I)
 |call (dst:Option Tmp) (g:Option (Tmp×Bool)) (f:ς) (args:List a43)
def M'(ops:Array Oper):Option (Nat×Bool)->Option (Option (Tmp×Bool))
 |none=>M s5
 |some (j,b)=>
  match (ops[j]?).bind (·.dst)with
  |some t=>M (M (t,b))
  |none=>s5
def bs3(ops:Array Oper) (a:Tmp):Bool:=ops.toList.any λo=>
 match o.op with
 |.call ⟨.builtin .append,args,_⟩=>
  match args.toList with
  |.tmp t::_=>t==a
  |_=>a39
 |_=>a39
def bA9(o:Oper):Option (Tmp×Tmp):=
 match o.op,o.dst with
 |.move (.tmp s),M d=>M (s,d)
 |.assign (.tmp s),M d=>M (s,d)
 |_,_=>s5
def bl1(ops:Array Oper) (x:a43) (a:Tmp):Bool:=
 match x with
 |.tmp y=>ops.toList.any λo=>
  match bA9 o with
  |some (s,v)=>s==a&&(v==y || ops.toList.any λp=>
   match bA9 p with
   |some (s',d')=>s'==v&&d'==y
   |none=>a39)
  |none=>a39
 |_=>a39
def aR7(ops:Array Oper) (x:a43):Bool:=
 match x with
 |.tmp y=>ops.toList.any λo=>
  match o.op with
  |.call ⟨.builtin .append,_,_⟩=>o.dst==M y
  |_=>a39
 |_=>a39
def oG(P:a44) (ops:Array Oper) (o:Oper):Option I:=
 match o.op,o.dst with
 |.slice t x lo hi s5,M a=>
  if bs3 ops a=a38\/bl1 ops x a=a38\/aR7 ops x=a38 then
   match P.underlying t with
   |some (.slice e)=>(P.info? e).map λi=>.trunc i.size x lo hi
   |_=>s5
  else s5
 |_,_=>s5
def ax(P:a44) (ops:Array Oper) (o:Oper) (op:Op):Option I:=
 match oG P ops o with
 |some i=>M i
 |none=>oL P op
def Zt(P:a44) (ops:Array Oper) (o:Oper):Option RI:=
 match M' ops o.guard with
 |none=>s5
 |some g=>
  match SS P o.op with
  |some (f,args)=>M (.call o.dst g f args)
  |none=>(ax P ops o o.op).map λi=>.op o.dst g i
def Wi(P:a44) (ops:Array Oper):List Oper->Option (List RI)
 |[]=>M []
 |o::l=>
  match Zt P ops o,Wi P ops l with
  |some r,M rs=>M (r::rs)
  |_,_=>s5
def Hg:a43->List Tmp
 |.tmp t=>[t]
 |_=>[]
def NL:Option a43->List Tmp
 |some x=>Hg x
 |none=>[]
def ς.tmps:ς->List Tmp
 |.tmp t=>[t]
 |.meth r _=>Hg r
 |_=>[]
def I.reads:I->List Tmp
 |.mv x|.un _ x|.conv _ x|.box _ x|.load _ _ x|.nilc x|.faddr _ _ _ x|.field _ _ _ x|.extract x _|.len x|.slen x=>Hg x
 |.pick c a b=>Hg c++Hg a++Hg b
 |.bin _ x y|.beq _ x y|.store _ x y|.iaddr _ x y|.aaddr _ _ _ x y|.index _ _ _ x y|.append _ _ x y|.mkslice _ _ _ x y=>Hg x++Hg y
 |.alloc _ _=>[]
 |.build _ ps=>ps.flatMap λp=>Hg p.2.2
 |.bslice _ _ _ ps=>ps.flatMap λp=>Hg p.2
 |.slice _ x a b c=>Hg x++NL a++NL b++NL c
 |.mkfunc _ a b=>a.flatMap Hg++b.flatMap Hg
 |.fail=>[]
 |.mm _ xs=>xs.flatMap Hg
 |.ceq _ _ x y=>Hg x++Hg y
 |.strb _ x=>Hg x
 |.CA x i=>Hg x++Hg i
 |.sslice x a b=>Hg x++NL a++NL b
 |.mkmap=>[]
 |.mlook _ _ _ x k=>Hg x++Hg k
 |.mput _ m k x=>Hg m++Hg k++Hg x
 |.mlen x=>Hg x
 |.trunc _ x lo hi=>Hg x++NL lo++NL hi
 |.mkifc _ x|.tassert _ _ _ x|.clr _ _ x|.capn x|.xv _ x=>Hg x
 |.mkapp _ _ _ x y=>Hg x++Hg y
def I.cls:I->Nat
 |.load ..|.slice ..|.iaddr ..|.len _|.mlook ..|.mlen _|.xv ..=>1
 |.alloc ..|.box ..|.bslice ..|.mkslice ..|.mkmap=>2
 |.store ..|.append ..|.strb ..|.mput ..|.trunc ..|.clr ..|.mkapp ..=>3
 |_=>0
def RI.dst:RI->Option Tmp
 |.op d _ _=>d
 |.call d _ _ _=>d
def CT:Option (Tmp×Bool)->List Tmp
 |some (t,_)=>[t]
 |none=>[]
def RI.reads:RI->List Tmp
 |.op _ g i=>CT g++i.reads
 |.call _ g f args=>CT g++f.tmps++args.flatMap Hg
def RI.cls:RI->Nat
 |.op _ _ i=>i.cls
 |.call ..=>1
def am1(acc:List Nat) (b:List Nat):Nat:=b.foldl (λs e=>s ||| 2 ^ e ||| acc.getD e 0) 0
def KC(acc:List Nat):List (List Nat)->List Nat
 |[]=>acc
 |b::bs=>KC (acc++[am1 acc b]) bs
def VD(bs:List (List Nat)):List Nat:=KC [] bs
def OG(x y:RI):Bool:=
 (
  match x.dst with
  |some t=>y.reads.contains t || y.dst==M t
  |none=>a39) ||
 (
  match y.dst with
  |some t=>x.reads.contains t
  |none=>a39) ||
 (x.cls==2&&y.cls==2)
def dK(bs:List (List Nat)) (rl:List RI) (q:Nat):Bool:=
 let ms:=VD bs
 bs.length==rl.length&&(q<=rl.length) &&
 ((p! bs.length).all λi=>(bs.getD i []).all λe=>s6 (e<i)) &&
 ((
  p! rl.length).all λj=>match rl[j]? with
  |none=>a39
  |some y=>if j<q then s6 (y.cls<=2)&&(p! j).all λi=>match rl[i]? with
   |none=>a39
   |some x=>!OG x y || (ms.getD j 0).testBit i
   else(p! j).all λi=>(ms.getD j 0).testBit i)
def qU(bs:List (List Nat)) (rl:List RI) (cuts:List Nat) (q:Nat):Bool:=
 let ms:=VD bs
 (cuts.all λp=>(p! rl.length).all λj=>s6 (j<p) || (p! p).all λi=>(ms.getD j 0).testBit i) &&
 bs.length==rl.length&&(q<=rl.length) &&
 ((p! bs.length).all λi=>(bs.getD i []).all λe=>s6 (e<i)) &&
 ((p! rl.length).all λj=>s6 (j<q) || (p! j).all λi=>(ms.getD j 0).testBit i)
def qOf(bs:List (List Nat)) (n:Nat):Nat:=
 let ms:=VD bs
 (p! n).foldl (λq j=>if(p! j).all (λi=>(ms.getD j 0).testBit i)then q else j+1) 0
def KY(bs:List (List Nat)) (n q:Nat):List Nat:=
 let ms:=VD bs
 (p! q).filter λp=>s6 (0<p)&&(p! n).all λj=>s6 (j<p) || (p! p).all λi=>(ms.getD j 0).testBit i
inductive C where
 |skip
 |eU (l:List RI)
 |draw (q:Nat) (l:List RI)
 |any (cuts:List Nat) (q:Nat) (bs:List (List Nat)) (l:List RI)
 |seq (a b:C)
 |cond (c:a43) (a b:C)
 |block (id:Nat) (a:C)
 |loop (a:C)
 |exit (id:Nat)
 |ret
 |stuck
def Pb(ops:Array Oper):List (List Nat):=ops.toList.map λo=>(o.after.toList.filter λe=>Region.binds .any e).map (·.on)
def k!(P:a44):Code->Option C
 |.skip=>M .skip
 |.region _ ops a39=>(Wi P ops ops.toList).map .eU
 |.region _ ops a38=>
  match Wi P ops ops.toList with
  |some rl=>
   if dK (Pb ops) rl (qOf (Pb ops) rl.length)=a38 then M (.draw (qOf (Pb ops) rl.length) rl)
   else if qU (Pb ops) rl (KY (Pb ops) rl.length (qOf (Pb ops) rl.length)) (qOf (Pb ops) rl.length)=a38 then
    M (.any (KY (Pb ops) rl.length (qOf (Pb ops) rl.length)) (qOf (Pb ops) rl.length) (Pb ops) rl)else s5
  |none=>s5
 |.seq a b=>
  match k! P a,k! P b with
  |some x,M y=>M (.seq x y)
  |_,_=>s5
 |.cond c a b=>
  match k! P a,k! P b with
  |some x,M y=>M (.cond c x y)
  |_,_=>s5
 |.block id a=>(k! P a).map (.block id)
 |.loop a=>(k! P a).map .loop
 |.exit id=>M (.exit id)
 |.ret=>M .ret
 |.label _=>M .skip
 |.rangeFunc ..=>M .stuck
 |_=>s5
inductive RV where
 |tmp (t:Tmp)
 |cell (A:Bool) (n:Nat) (a:Tmp)
structure Fun where
 ntmps:Nat
 results:List RV
 code:C
def HY(P:a44):ResultVar->Option RV
 |.tmp t=>M (.tmp t)
 |.cell a t=>(x! P t).map λr=>.cell r.1 r.2 a
def sD(P:a44):List ResultVar->Option (List RV)
 |[]=>M []
 |r::l=>
  match HY P r,sD P l with
  |some x,M y=>M (x::y)
  |_,_=>s5
def rC(P:a44) (f:a47):Option Fun:=
 match P.funcs[f]? with
 |some fn=>
  match fn.body,sD P fn.results.toList with
  |some b,M r=>(k! P b).map λc=>⟨fn.ntmps,r,c⟩
  |_,_=>s5
 |none=>s5
open Go.RowKit (Below)
def p?(G:Gh) (w:a42) (m:List Ent) (r:Result Next) (d:D) (m':List Ent):Prop:=
 ∃a w' G',r=.ok a w'/\((∃u,a=.value u/\VRel G' w' d u)\/(a=.skip/\d=.dead))/\Inv G' w' m'/\Step G w m G' w' m'
def Fa{G:Gh}{w:a42}{d:D}{u:a41}{r:Result Next}(hi:Inv G w m) (hr:r=.ok (.value u) w) (hd:VRel G w d u):p? G w m r d m:=
 ⟨_,w,G,hr,.inl ⟨u,rfl,hd⟩,hi,Step.refl _ _ _⟩
theorem Hy{P:a44}{s:Sem α}{a:α}(h:bj s=M a) (w:a42):s.run P w=.ok a w:=by
 cases s<;>simp[bj]at h
 simp_all
theorem Ye{P:a44}(h:P.info? t=M i) (w:a42):(sizeOf t).run P w=.ok i.size w:=by
 simp[sizeOf,typeInfo,h]
theorem Iq{P:a44}(h:q? P t=M z) (w:a42):(zeroValue t).run P w=.ok z w/\z.cells.all one=a38/\0<z.cells.size/\∃i,P.info? t=M i/\i.size=z.cells.size/\i.zero=M z:=by
 unfold q? at h;split at h
 .rename_i i hi;split at h
  .rename_i z' hz;split at h
   all_goals simp_all[zeroValue,typeInfo]
  .cases h
 .cases h
def yx:TypeDesc->Bool
 |.struct _|.array _ _=>a38
 |_=>a39
theorem Xy{P:a44}{r:Bool×Nat}(h:x! P t=M r):∃d i,P.underlying t=M d/\P.info? t=M i/\r=(yx d,i.size):=by
 unfold x! at h;split at h<;>first|(cases h;done)|skip
 .rename_i hd hi;injection h with h;subst h;exact⟨_,_,hd,hi,rfl⟩
 .rename_i hd hi;injection h with h;subst h;exact⟨_,_,hd,hi,rfl⟩
 .rename_i d i a h2 hd hi;injection h with h;subst h;refine⟨_,_,hd,hi,?_⟩;cases d<;>first|rfl|exact(a _ rfl).elim|simp_all
theorem AA{P:a44}{d:TypeDesc}(h:P.underlying t=M d) (w:a42):(isAgg t).run P w=.ok (yx d) w:=by
 unfold isAgg;simp only[Sem.run_bind,run_underlying h,Result.andThen_ok];cases d<;>rfl
theorem VsRel.getElem{G:Gh}{w:a42}:∀{l:List D}{us:List a41}{i:Nat}{d:D},VsRel G w l us->l[i]?=M d->∃u,us[i]?=M u/\VRel G w d u
 |[],us,i,d,h,hd=>by simp at hd
 |e::l,us,i,d,h,hd=>by
  simp only[VsRel]at h;obtain⟨u,r,rfl,a,h2⟩:=h
  cases i with
  |zero=>simp at hd;subst hd;exact⟨u,o0,a⟩
  |succ i=>simpa using VsRel.getElem (i:=i) h2 (by simpa using hd)
theorem VsRel.drop{G:Gh}{w:a42}:∀{l:List D}{us:List a41}(k:Nat),VsRel G w l us->VsRel G w (l.drop k) (us.drop k)
 |[],us,k,h=>by simp[VsRel]at h;simp[h,VsRel]
 |e::l,us,k,h=>by
  cases k with
  |zero=>simpa using h
  |succ k=>
   simp only[VsRel]at h;obtain⟨u,r,rfl,h1,h2⟩:=h;simpa using VsRel.drop k h2
theorem VsRel.take{G:Gh}{w:a42}:∀{l:List D}{us:List a41}(k:Nat),VsRel G w l us->VsRel G w (l.take k) (us.take k)
 |[],us,k,h=>by simp[VsRel]at h;simp[h,VsRel]
 |e::l,us,k,h=>by
  cases k with
  |zero=>simp[VsRel]
  |succ k=>
   simp only[VsRel]at h;obtain⟨u,r,rfl,a,h2⟩:=h;simp only[List.take_succ_cons,VsRel];exact⟨u,_,rfl,a,VsRel.take k h2⟩
theorem VsRel.append{G:Gh}{w:a42}:∀{l l':List D}{us a:List a41},VsRel G w l us->VsRel G w l' a->VsRel G w (l++l') (us++a)
 |[],l',us,a,h,b=>by simp[VsRel]at h;simp_all
 |e::l,l',us,a,h,b=>by
  simp only[VsRel]at h;obtain⟨u,r,rfl,c,h2⟩:=h;simp only[G?,VsRel];exact⟨u,_,rfl,c,VsRel.append h2 b⟩
theorem VRel.cells{G:Gh}{w:a42}{d:D}{u:a41}(h:VRel G w d u) (g:d.ok=a38):VsRel G w d.cells u.cells.toList/\∀c∈u.cells.toList,one c=a38:=by
 have single:u.cells = #[u]->one u=a38->d.cells=[d]->VsRel G w d.cells u.cells.toList/\∀c∈u.cells.toList,one c=a38:=by
  intro i h2 j;rw[i,j];refine⟨?_,l5⟩;simp only[VsRel]
  simp_all
 cases d with
 |v x=>
  simp only[VRel]at h;subst h;simp only[D.ok]at g;cases u<;>first|exact single rfl rfl rfl|grind[one]
 |agg l=>
  simp only[VRel]at h;obtain⟨cs,rfl,h,i⟩:=h
  grind[Value.cells,D.cells]
 |tup l=>grind[D.ok]
 |sl S l=>obtain⟨a,n,cap,rfl,-⟩:=(by simpa only[VRel] using h:∃a n cap,u=.slice a n cap/\_);exact single rfl rfl rfl
 |pt d=>obtain⟨b,off,x,rfl,-⟩:=(by simpa only[VRel] using h:∃b off x,u=.pointer (M ⟨b,off,s5⟩)/\_);exact single rfl rfl rfl
 |ref id Va c! sub=>obtain⟨a,rfl,-⟩:=(by simpa only[VRel] using h:∃a,u=.pointer (M a)/\_);exact single rfl rfl rfl
 |own id Va=>obtain⟨a,n,c,rfl,-⟩:=(by simpa only[VRel] using h:∃a n c,u=.slice a n c/\_);exact single rfl rfl rfl
 |view id Va lo n=>obtain⟨a,c,rfl,-⟩:=(by simpa only[VRel] using h:∃a c,u=.slice a n c/\_);exact single rfl rfl rfl
 |fn f a b=>obtain⟨fs,cs,rfl,-⟩:=(by simpa only[VRel] using h:∃fs cs:List a41,u=.func (.func f) fs.toArray cs.toArray/\_);exact single rfl rfl rfl
 |mp id=>obtain⟨b,rfl,-⟩:=(by simpa only[VRel] using h:∃b,u=.map (M b)/\_);exact single rfl rfl rfl
 |ifc t e=>obtain⟨x,rfl,-⟩:=(by simpa only[VRel] using h:∃x,u=.iface t x/\_);exact single rfl rfl rfl
 |dead=>grind[D.ok]
open Go.RowKit (Below)
section
variable {P:a44} {G:Gh} {w:a42} {a:Act} {s:St} {d:D} {m':List Ent}
theorem L8(op:BinOp) (t:a45) (x y:a43) (j k:IntKind) (p q:Int) (w:a42):(eqGuard op t x y (.int j p) (.int k q)).run P w=.ok () w:=by
 simp_all[eqGuard]
theorem ET(op:BinOp) (t:a45) (x y:a43) (p q:ByteArray) (w:a42):(eqGuard op t x y (.string p) (.string q)).run P w=.ok () w:=by
 simp_all[eqGuard]
theorem sO(op:BinOp) (t:a45) (x y:a43) (p q:Bool) (w:a42):(eqGuard op t x y (.bool p) (.bool q)).run P w=.ok () w:=by
 simp_all[eqGuard]
theorem W6(op:BinOp) (t:a45) (j k:IntKind) (p q:Int):binOp op t (.int j p) (.int k q)=binOp op 0 (.int j p) (.int k q):=by cases op<;>rfl
theorem QS(op:BinOp) (t:a45) (p q:ByteArray):binOp op t (.string p) (.string q)=binOp op 0 (.string p) (.string q):=by cases op<;>rfl
theorem cl1(hr:o? G w a s) (ho:o.op=.binOp op t x y e) (he:fa s (.bin op x y)=M (d,m')) :
 p? G w s.m ((execOp a.eval o).run P w) d m':=by
 have hx:=hr.ev x;have b:=hr.ev y;simp only[fa]at he;unfold execOp;simp only[ho];generalize s.ev x=dx at *;generalize s.ev y=dy at *;split at he
 .simp only[VRel]at hx b;simp only[hx,b,A',H!]at he⊢;obtain⟨r,c,rfl,rfl⟩:=he;refine Fa (u:=r) hr.inv ?_ I?
  simp_all[L8,W6,Hy]
 .simp only[VRel]at hx b;simp only[hx,b,A',H!]at he⊢;obtain⟨r,c,rfl,rfl⟩:=he;refine Fa (u:=r) hr.inv ?_ I?
  simp_all[ET,QS,Hy]
 simp_all
theorem K?(t:a45) (ht:P.underlying t=M .bool) (p q:Bool) (w:a42):(Op.equal t (.bool p) (.bool q)).run P w=.ok (p==q) w:=by
 unfold Op.equal Op.maxDepth;rw[show(10000:Nat)=9999+1 from rfl,Op.equalIn]
 simp_all[run_underlying]
theorem aW6(hr:o? G w a s) {f:a45}(ho:o.op=.binOp op t x y f) (ht:P.underlying t=M .bool) 
 (b:(op=.eql/\neg=a39)\/(op=.neq/\neg=a38)) (he:fa s (.beq neg x y)=M (d,m')) :
 p? G w s.m ((execOp a.eval o).run P w) d m':=by
 have hx:=hr.ev x;have c:=hr.ev y;simp only[fa]at he;unfold execOp;simp only[ho];generalize s.ev x=dx at *;generalize s.ev y=dy at *;split at he
 .simp only[VRel]at hx c;simp only[hx,c]at he⊢;injection he with he;injection he with e h2;subst e;subst h2;rename_i p q;rcases b with⟨rfl,rfl⟩|⟨rfl,rfl⟩
  .refine Fa (u:=.bool (p==q)) hr.inv ?_ I?;have hb:binOp .eql t (.bool p) (.bool q)=(do pure (.bool (←Op.equal t (.bool p) (.bool q)))):=rfl
   simp_all[sO,K?]
  .refine Fa (u:=.bool (!(p==q))) hr.inv ?_ I?;have hb:binOp .neq t (.bool p) (.bool q)=(do pure (.bool (!(←Op.equal t (.bool p) (.bool q))))):=rfl
   simp_all[sO,K?]
 simp_all
theorem cv8(hr:o? G w a s) {op:UnOp}(ho:o.op=.unOp op t x) (he:fa s (.un op x)=M (d,m')) :
 p? G w s.m ((execOp a.eval o).run P w) d m':=by
 have hx:=hr.ev x;simp only[fa]at he;unfold execOp;simp only[ho];generalize s.ev x=dx at *;split at he
 .simp only[VRel]at hx;simp only[hx,A',H!]at he⊢;obtain⟨r,b,rfl,rfl⟩:=he;refine Fa (u:=r) hr.inv ?_ I?;simp[Hy b]
 simp_all
theorem cj9(hr:o? G w a s) (ho:o.op=.move x\/o.op=.assign x) (he:fa s (.mv x)=M (d,m')) :
 p? G w s.m ((execOp a.eval o).run P w) d m':=by
 have hx:=hr.ev x;simp only[fa]at he;injection he with he;injection he with b h2;subst b;subst h2;refine Fa (u:=a.eval x) hr.inv ?_ hx;unfold execOp;rcases ho with ho|ho<;>simp[ho]
theorem bn0(hr:o? G w a s) (ho:o.op=.pick c x y) (he:fa s (.pick c x y)=M (d,m')) :
 p? G w s.m ((execOp a.eval o).run P w) d m':=by
 have hc:=hr.ev c;have hx:=hr.ev x;have hy:=hr.ev y;simp only[fa]at he;unfold execOp;simp only[ho];generalize s.ev c=dc at *;split at he
 .simp only[VRel]at hc;simp only[hc]at he⊢;injection he with he;injection he with e h2;subst e;subst h2;rename_i b;refine Fa (u:=if b then a.eval x else a.eval y) hr.inv ?_ ?_
  .simp[asBool]
  grind
 simp_all
theorem bn5(hr:o? G w a s) {k:IntKind}{src dst:a45}(ho:o.op=.convert src dst x) (h1:P.underlying src=M (.int j)) (h2:P.underlying dst=M (.int k)) (he:fa s (.conv k x)=M (d,m')) :
 p? G w s.m ((execOp a.eval o).run P w) d m':=by
 have hx:=hr.ev x;simp only[fa]at he;unfold execOp;simp only[ho];generalize s.ev x=dx at *;split at he
 .simp only[VRel]at hx;simp only[hx]at he⊢;injection he with he;injection he with b c;subst b;subst c;rename_i n;refine Fa (u:=.int k (k.wrap n)) hr.inv ?_ I?
  simp_all[convert,Conv.intToInt,run_underlying]
 simp_all
theorem E8(hr:o? G w a s) {i:Nat}(ho:o.op=.extract x i) (he:fa s (.extract x i)=M (d,m')) :
 p? G w s.m ((execOp a.eval o).run P w) d m':=by
 have hx:=hr.ev x;simp only[fa]at he;unfold execOp;simp only[ho];generalize s.ev x=dx at *;split at he
 .simp only[VRel]at hx;obtain⟨cs,hx,hv⟩:=hx;simp only[hx,A',H!]at he⊢;obtain⟨e,hl,rfl,rfl⟩:=he;obtain⟨u,hu,hd⟩:=hv.getElem hl;refine Fa (u:=u) hr.inv ?_ hd;simp[Instr.extract,hu]
 simp_all
theorem ao9(hr:o? G w a s) {f:a47}{first caps:Array a43}(ho:o.op=.makeFunc (.func f) first caps) (he:fa s (.mkfunc f first.toList caps.toList)=M (d,m')) :
 p? G w s.m ((execOp a.eval o).run P w) d m':=by
 simp only[fa]at he;injection he with he;injection he with b h2;subst b;subst h2;have all:∀l:List a43,VsRel G w (l.map s.ev) (l.map a.eval):=by
  intro l
  induction l with
  |nil=>simp[VsRel]
  |cons x l c=>simp only[D?,VsRel];exact⟨_,_,rfl,hr.ev x,c⟩
 refine Fa (u:=.func (.func f) (first.map a.eval) (caps.map a.eval)) hr.inv ?_ ?_
 .simp_all[execOp,Instr.makeFunc]
 .simp only[VRel]
  grind[Tae]
theorem bn1(hr:o? G w a s) (ho:o.op=.nilCheck x) (he:fa s (.nilc x)=M (d,m')) :
 p? G w s.m ((execOp a.eval o).run P w) d m':=by
 have hx:=hr.ev x;simp only[fa]at he;unfold execOp;simp only[ho];generalize s.ev x=dx at *;split at he
 .injection he with he;injection he with e h2;subst e;subst h2;have c:=hx;simp only[VRel]at hx;obtain⟨p,hx,-⟩:=hx;exact Fa (u:=a.eval x) hr.inv (by simp[hx]) c
 .injection he with he;injection he with e h2;subst e;subst h2;have c:=hx;simp only[VRel]at hx;obtain⟨b,off,u,hx,-⟩:=hx;exact Fa (u:=a.eval x) hr.inv (by simp[hx]) c
 simp_all
theorem DD(off:Nat):∀(vs:List a41) (k:Nat) (cells:Array a41),off+k+vs.length<=cells.size->
 ((vs.zipIdx k).foldl (λcs (x:a41×Nat)=>cs.setIfInBounds (off+x.2) x.1) cells).toList=cells.toList.take (off+k)++vs++cells.toList.drop (off+k+vs.length)
 |[],k,cells,h=>o0
 |v::vs,k,cells,h=>by
  simp only[List.length_cons]at h;rw[List.zipIdx_cons,List.foldl_cons,DD off vs (k+1) _ o4]
  grind[list_seg_step]
def Y'(place:Nat->Option (Nat×Nat)):List (Nat×a43)->List (Nat×Nat×a43)->Prop
 |[],qs=>qs=[]
 |(i,x)::ps,qs=>∃off n r,qs=(off,n,x)::r/\place i=M (off,n)/\Y' place ps r
theorem pZ(hr:o? G w a s) {place:Nat->Option (Nat×Nat)}:∀{ps:List (Nat×a43)}{qs:List (Nat×Nat×a43)}{l l':List D}{cells:Array a41},
 Y' place ps qs->az s qs l=M l'->VsRel G w l cells.toList->(∀c∈cells.toList,one c=a38)->
 ∃cells':Array a41,Instr.fill place cells (ps.map λp=>(p.1,a.eval p.2))=M cells'/\VsRel G w l' cells'.toList/\∀c∈cells'.toList,one c=a38
 |[],_,l,l',cells,b,hb,hv,h=>by
  simp only[Y']at b;subst b;simp only[az]at hb;injection hb with hb;subst hb;exact⟨cells,rfl,hv,h⟩
 |(i,x)::ps,_,l,l',cells,b,hb,hv,h=>by
  simp only[Y']at b;obtain⟨off,n,qs,rfl,hp,b⟩:=b;simp only[az]at hb;split at hb
  .rename_i hc;obtain⟨g,hlen,hoff⟩:=hc;obtain⟨d,hones⟩:=(hr.ev x).cells g;have f:=d.length;have hl2:=hv.length;have hsz:(a.eval x).cells.size=n:=l5
   have hsz2:cells.size=l.length:=U
   have hf:=DD off (a.eval x).cells.toList 0 cells U;refine ?_;have key:=pZ hr (place:=place) (ps:=ps) (qs:=qs) (l:=av l off (s.ev x).cells) (l':=l')
    (cells:=(a.eval x).cells.zipIdx.foldl (λcs (x:a41×Nat)=>cs.setIfInBounds (off+x.2) x.1) cells) b hb
   have e:((a.eval x).cells.zipIdx.foldl (λcs (x:a41×Nat)=>cs.setIfInBounds (off+x.2) x.1) cells).toList=cells.toList.take off++(a.eval x).cells.toList++cells.toList.drop (off+(a.eval x).cells.toList.length):=by
    grind[Bae]
   obtain⟨cells',hc1,hc2,hc3⟩:=key (by
    rw[e,av,←f];exact((hv.take off).append d).append (hv.drop _)) (by
    grind)
   simp_all[Instr.fill]
  simp_all
theorem JD:∀(l:List a41),VsRel G w (l.map .v) l
 |[]=>by simp[VsRel]
 |x::l=>by simp only[D?,VsRel];exact⟨x,l,rfl,I?,JD l⟩
theorem nO(z!:List (Nat×Nat)):∀{ps:List (Nat×a43)}{qs:List (Nat×Nat×a43)},L? z! ps=M qs->Y' (z![·]?) ps qs
 |[],qs,h=>by simp[L?]at h;simp[Y',h]
 |(i,x)::ps,qs,h=>by
  simp only[L?]at h;split at h
  .rename_i off n r a h2;injection h with h;subst h;simp only[Y'];exact⟨off,n,r,rfl,a,nO z! h2⟩
  .cases h
theorem mO(n:Nat):∀(ps:List (Nat×a43)),Y' (λk=>M (k*n,n)) ps (ps.map λ(k,x)=>(k*n,n,x))
 |[]=>by simp[Y']
 |(i,x)::ps=>by simp only[Y',D?];exact⟨_,_,_,rfl,rfl,mO n ps⟩
theorem aM6(hr:o? G w a s) {z!:List (Nat×Nat)}{qs:List (Nat×Nat×a43)}(ho:o.op=.build t ps)
 (ht:P.underlying t=M (.struct fs)) (e:q? P t=M z) (hp:(fs.toList.mapM λf=>(P.info? f.type).map λi=>(f.offset,i.size))=M z!) (hq:L? z! ps.toList=M qs)
 (he:fa s (.build (z.cells.toList.map .v) qs)=M (d,m')):p? G w s.m ((execOp a.eval o).run P w) d m':=by
 simp only[fa,A',H!]at he;obtain⟨l',hb,rfl,rfl⟩:=he;obtain⟨hz1,b,-⟩:=Iq e w;obtain⟨cells',h1,h2,h3⟩:=pZ hr (ps:=ps.toList) (place:=(z![·]?)) (cells:=z.cells) (nO z! hq) hb (JD _) (λc hc=>by simp only[aae]at b;obtain⟨i,hi,rfl⟩:=H' hc;simp_all);refine Fa (u:=.agg cells') hr.inv ?_ ?_
 .simp_all[execOp,Instr.build,run_places,run_underlying,Array.mapM_eq_mapM_toList]
 .simp only[VRel];grind
theorem ap1(hr:o? G w a s) (ho:o.op=.build t ps)
 (ht:P.underlying t=M (.array n e)) (f:q? P t=M z) (hi:P.info? e=M i)
 (he:fa s (.build (z.cells.toList.map .v) (ps.toList.map λ(k,x)=>(k*i.size,i.size,x)))=M (d,m')):p? G w s.m ((execOp a.eval o).run P w) d m':=by
 simp only[fa,A',H!]at he;obtain⟨l',hb,rfl,rfl⟩:=he;obtain⟨hz1,b,-⟩:=Iq f w;obtain⟨cells',h1,h2,h3⟩:=pZ hr (ps:=ps.toList) (place:=λk=>M (k*i.size,i.size)) (cells:=z.cells) (mO i.size ps.toList) hb (JD _) (λc hc=>by simp only[aae]at b;obtain⟨i,hi,rfl⟩:=H' hc;simp_all);refine Fa (u:=.agg cells') hr.inv ?_ ?_
 .simp_all[execOp,Instr.build,run_underlying,Ye]
 .simp only[VRel];grind
end
open Go.RowKit (Below)
section
variable {P:a44} {G:Gh} {w:a42} {a:Act} {s:St} {d:D} {m':List Ent}
theorem TO(h:VsRel G w l cs) (b:∀c∈cs,one c=a38) {r:D}(a:part a38 n off l=M r) :
 off+n<=cs.length/\VRel G w r (.agg ((cs.drop off).take n).toArray):=by
 simp only[part]at a;split at a
 .rename_i hlt;injection a with a;subst a;refine⟨by rw[h.length];omega,?_⟩;simp only[VRel];exact⟨(cs.drop off).take n,rfl,(h.drop off).take n,λc hc=>b c (List.mem_of_mem_drop (List.mem_of_mem_take hc))⟩
 simp_all
def UO(h:VsRel G w l cs) {r:D}(a:part a39 n off l=M r):∃u,cs[off]?=M u/\VRel G w r u:=
 h.getElem a
theorem RT(h:VsRel G w l cs) (e:∀c∈cs,one c=a38) {A:Bool}{r:D}(d:part A n off l=M r) {o:Nat}(f:LD w b o (.agg cs.toArray)) :
 ∃u,VRel G w r u/\LD w b (o+off) u:=by
 have a:∀(k:Nat) c,cs[k]?=M c->one c=a38/\w.cell? ⟨b,o+k,s5⟩=M c:=λk c hc=>f k c (by grind[Value.cells])
 cases A with
 |true=>
  obtain⟨hlt,hv⟩:=TO h e d;refine⟨_,hv,λj c hc=>?_⟩
  grind[Value.cells]
 |false=>
  obtain⟨u,hu,hv⟩:=UO h d;obtain⟨g1,g2⟩:=a off u hu;refine⟨u,hv,λj c hc=>?_⟩;have hcells:u.cells = #[u]:=by cases u<;>first|rfl|grind[one]
  grind
theorem Wl(b o n:Nat):(⟨b,o,s5⟩:Addr).add n=⟨b,o+n,s5⟩:=by
 grind[Addr.add]
theorem EP{ds:TypeDesc}(hd:P.underlying t=M ds) (hi:P.info? t=M i) {o:Nat}{u:a41}(a:LD w b o u)
 (hA:(yx ds=a38/\∃cs,u=.agg cs/\cs.size=i.size)\/(yx ds=a39/\u.cells = #[u])) :
 (Instr.loadAt t (.pointer (M ⟨b,o,s5⟩))).run P w=.ok u w:=by
 unfold Instr.loadAt loadVar;rcases hA with⟨c,cs,rfl,h2⟩|⟨c,h2⟩
 .have hl:=run_loadCells_list (P:=P) w ⟨b,o,s5⟩ cs.toList (λj v hv=>by rw[Wl];exact(a j v (by grind[Value.cells])).2)
  simp_all[Instr.sureAddr,AA,Ye]
 .have hc:=(a 0 u l5).2
  simp_all[Instr.sureAddr,AA]
theorem zO(hr:o? G w a s) {r:Bool×Nat}(Q:x! P t=M r) (he:fa s (.load r.1 r.2 x)=M (d,m')) :
 ∃p u,a.eval x=.pointer (M p)/\(loadVar t p).run P w=.ok u w/\VRel G w d u/\m'=s.m:=by
 obtain⟨ds,i,hd,hi,rfl⟩:=Xy Q;have hx:=hr.ev x;simp only[fa]at he;have fin:∀{b off:Nat} {u:a41},a.eval x=.pointer (M ⟨b,off,s5⟩)->LD w b off u->((yx ds=a38/\∃cs,u=.agg cs/\cs.size=i.size)\/(yx ds=a39/\u.cells = #[u]))->
  VRel G w d u->m'=s.m->∃p u,a.eval x=.pointer (M p)/\(loadVar t p).run P w=.ok u w/\VRel G w d u/\m'=s.m:=by
  rintro b off u o n hA hv rfl;refine⟨_,u,o,?_,hv,rfl⟩;have:=EP hd hi n hA
  grind[Instr.loadAt,Instr.sureAddr]
 generalize s.ev x=dx at *;split at he
 .rename_i e;simp only[VRel]at hx;obtain⟨b,off,u,o,O,hv,n⟩:=hx
  cases g:yx ds with
  |true=>
   rw[g]at he;cases e<;>simp only[reduceCtorEq]at he;rename_i l;split at he
   .rename_i hl;injection he with he;injection he with N h2;subst N;have j6:=hv;simp only[VRel]at hv;obtain⟨cs,rfl,hv,ho1⟩:=hv;exact fin o n (.inl ⟨g,_,rfl,by simpa [hv.length] using hl⟩) j6 h2.symm
   simp_all
  |false=>
   rw[g]at he;by_cases hagg:∃l,e=.agg l
   .grind
   .have j9:e.cells=[e]:=by cases e<;>first|rfl|simp_all
    have K:e.ok=a38/\e=d/\s.m=m':=by
     grind
    obtain⟨A,rfl,h2⟩:=K;obtain⟨k,h⟩:=hv.cells A;rw[j9]at k;simp only[VsRel]at k;obtain⟨c,R,hcl,k,rfl⟩:=k;have g1:one c=a38:=h c l5;refine fin o (u:=c) (λj c' y=>?_) (.inr ⟨g,by cases c<;>first|rfl|grind[one]⟩) k h2.symm;have f:c.cells = #[c]:=by cases c<;>first|rfl|grind[one]
    rw[f]at y;have F:u.cells[0]?=M c:=o4
    cases j with
    |zero=>simp at y;subst y;exact n 0 c F
    |succ j=>simp_all
 .rename_i id Va c! sub;split at he
  .rename_i S ver' l hm;split at he
   .rename_i I;subst I;simp only[hac]at he;obtain⟨e,hl,he⟩:=he;split at he
    .rename_i A;simp only[A',H!]at he;obtain⟨R,o,rfl,rfl⟩:=he;simp only[VRel]at hx;obtain⟨p,B,hid,_,hx⟩:=hx;obtain⟨a1,a2,a3,a4,a5⟩:=hr.inv.ent _ _ hm;obtain⟨b,hb,rfl⟩:=hx a1;rcases a5 with a5|⟨b',cs,T,q,O,hblk,hsz,H⟩
     .simp_all
     .rw[hb]at q;injection q with q;subst q;obtain⟨u,hv,husz,n⟩:=bg.1 H c! e hl;obtain⟨z,h⟩:=hv.cells A;rw[Ead]at n;have L:LD w b (c!*S+(G.C id).2) (.agg u.cells.toList.toArray):=by
       simpa [LD,Value.cells] using n
      have hres:=RT z h o L;rw[a2,Nat.add_right_comm]at B
      cases g:yx ds with
      |true=>
       rw[g]at o;obtain⟨hlt,D⟩:=TO z h o;refine fin B (λj c hc=>?_) (.inl ⟨g,_,rfl,?_⟩) D rfl
       .simp only[Value.cells,sac,List.getElem?_take,Jae]at hc;split at hc
        .have:=n (sub+j) c (by rw[←fad];exact hc)
         grind
        simp_all
       grind
      |false=>
       rw[g]at o;obtain⟨E,hu',D⟩:=UO z o;have v:u.cells[sub]?=M E:=l5
       have g1:=(n sub E v).1;have f:E.cells = #[E]:=by cases E<;>first|rfl|grind[one]
       refine fin B (λj c hc=>?_) (.inr ⟨g,f⟩) D rfl;rw[f]at hc
       cases j with
       |zero=>simp at hc;subst hc;exact n sub E v
       |succ j=>simp at hc
    simp_all
   simp_all
  simp_all
 simp_all
theorem bn4(hr:o? G w a s) {r:Bool×Nat}(ho:o.op=.load t x) (b:x! P t=M r) (he:fa s (.load r.1 r.2 x)=M (d,m')) :
 p? G w s.m ((execOp a.eval o).run P w) d m':=by
 obtain⟨p,u,hp,hrun,hv,rfl⟩:=zO (P:=P) hr b he;refine Fa (u:=u) hr.inv ?_ hv
 simp_all[execOp,Instr.loadAt,Instr.sureAddr]
end
open Go.RowKit (Below)
section
variable {P:a44} {G:Gh} {w:a42} {a:Act} {s:St} {d:D} {m':List Ent}
theorem iX{ds:TypeDesc}(hd:P.underlying t=M ds) (hi:P.info? t=M i) (hv:VsRel G w l cs) (b:∀c∈cs,one c=a38)
 {r:D} (a:part (yx ds) i.size off l=M r):∃u,(Go.part t cs.toArray off).run P w=.ok u w/\VRel G w r u:=by
 unfold Go.part;simp only[Sem.run_bind,AA hd,Result.andThen_ok]
 cases hA:yx ds with
 |true=>
  rw[hA]at a;obtain⟨hlt,hr⟩:=TO hv b a
  simp_all[Ye]
 |false=>
  rw[hA]at a;obtain⟨u,hu,hr⟩:=UO hv a
  simp_all
theorem aM4(hr:o? G w a s) {b:Field}{r:Bool×Nat}(ho:o.op=.field t x f)
 (ht:P.underlying t=M (.struct fs)) (hf:fs[f]?=M b) (j:x! P b.type=M r) (he:fa s (.field r.1 r.2 b.offset x)=M (d,m')) :
 p? G w s.m ((execOp a.eval o).run P w) d m':=by
 obtain⟨ds,i,hd,hi,rfl⟩:=Xy j;have hx:=hr.ev x;simp only[fa]at he;unfold execOp;simp only[ho];generalize s.ev x=dx at *;split at he
 .rename_i l;simp only[VRel]at hx;obtain⟨cs,hx,hv,g⟩:=hx;simp only[A',H!]at he;obtain⟨e,h,rfl,rfl⟩:=he;obtain⟨u,hu,c⟩:=iX (P:=P) hd hi hv g h;refine Fa (u:=u) hr.inv ?_ c
  simp_all[Instr.field,asAgg,run_underlying]
 simp_all
theorem aM2(hr:o? G w a s) {r:Bool×Nat}(ho:o.op=.index t x y)
 (ht:P.underlying t=M (.array n e)) (g:x! P e=M r) (he:fa s (.index r.1 r.2 n x y)=M (d,m')) :
 p? G w s.m ((execOp a.eval o).run P w) d m':=by
 obtain⟨ds,i,hd,hi,rfl⟩:=Xy g;have hx:=hr.ev x;have h:=hr.ev y;simp only[fa]at he;unfold execOp;simp only[ho];generalize s.ev x=dx at *;generalize s.ev y=dy at *;split at he
 .rename_i jk k;simp only[VRel]at h;split at he
  .rename_i hk;split at he
   .rename_i l;simp only[VRel]at hx;obtain⟨cs,hx,hv,c⟩:=hx;simp only[A',H!]at he;obtain⟨e,f,rfl,rfl⟩:=he;obtain⟨u,hu,b⟩:=iX (P:=P) hd hi hv c f;refine Fa (u:=u) hr.inv ?_ b;have hk':0<=k/\k<n:=⟨hk.1,U⟩
    simp_all[Instr.index,asIntOf,run_underlying,Ye]
   simp_all
  simp_all
 simp_all
theorem aM5(hr:o? G w a s) {g:Field}{r:Bool×Nat}(ho:o.op=.fieldAddr t x f)
 (ht:P.underlying t=M (.struct fs)) (hf:fs[f]?=M g) (v:x! P g.type=M r) (h0:r.2≠0) (he:fa s (.faddr r.1 r.2 g.offset x)=M (d,m')) :
 p? G w s.m ((execOp a.eval o).run P w) d m':=by
 obtain⟨ds,i,hd,hi,rfl⟩:=Xy v;have hx:=hr.ev x;simp only[fa]at he;have run:∀p,a.eval x=.pointer (M p)->(execOp a.eval o).run P w=.ok (.value (.pointer (M (p.add g.offset)))) w:=by
  simp_all[execOp,Instr.fieldAt,Instr.sureAddr,fieldPlace,run_underlying,Ye]
 generalize s.ev x=dx at *;split at he
 .rename_i l;simp only[VRel]at hx;obtain⟨b,off,u,k,hF,⟨cs,rfl,hv,h⟩,q⟩:=hx;simp only[A',H!]at he;obtain⟨e,n,rfl,rfl⟩:=he;obtain⟨u',hv',hh'⟩:=RT hv h n q;refine Fa hr.inv (run _ k) ?_;rw[Wl];simp only[VRel]
  grind
 .rename_i id Va c! sub;injection he with he;injection he with h h2;subst h;subst h2;simp only[VRel]at hx;obtain⟨p,k,j,c,hx⟩:=hx;refine Fa hr.inv (run _ k) ?_;simp only[VRel];refine⟨_,rfl,j,c,λe=>?_⟩;obtain⟨b,hb,rfl⟩:=hx e
  grind[Wl]
 simp_all
theorem aM8(hr:o? G w a s) {r:Bool×Nat}(ho:o.op=.indexAddr t x y)
 (ht:P.underlying t=M (.array n e)) (A:x! P e=M r) (he:fa s (.aaddr r.1 r.2 n x y)=M (d,m')) :
 p? G w s.m ((execOp a.eval o).run P w) d m':=by
 obtain⟨ds,i,hd,hi,rfl⟩:=Xy A;have hx:=hr.ev x;have v:=hr.ev y;simp only[fa]at he;generalize s.ev x=dx at *;generalize s.ev y=dy at *;split at he
 .rename_i jk k;simp only[VRel]at v;split at he
  .rename_i hk;have j:0<=k/\k<n:=⟨hk.1,U⟩;have run:∀p,a.eval x=.pointer (M p)->(execOp a.eval o).run P w=.ok (.value (.pointer (M (p.add (k.toNat*i.size))))) w:=by
    intro p c;unfold execOp;simp only[ho,c,v];simp[Instr.indexAt,asIntOf,run_underlying ht,Instr.sureAddr,j,Ye hi]
   split at he
   .rename_i l;simp only[VRel]at hx;obtain⟨b,off,u,c,hF,⟨cs,rfl,hv,g⟩,z⟩:=hx;simp only[A',H!]at he;obtain⟨e,q,rfl,rfl⟩:=he;obtain⟨u',hv',hh'⟩:=RT hv g q z;refine Fa hr.inv (run _ c) ?_;rw[Wl];simp only[VRel]
    grind
   .rename_i id Va c! sub;injection he with he;injection he with g h2;subst g;subst h2;simp only[VRel]at hx;obtain⟨p,c,h,f,hx⟩:=hx;refine Fa hr.inv (run _ c) ?_;simp only[VRel];refine⟨_,rfl,h,f,λe=>?_⟩;obtain⟨b,hb,rfl⟩:=hx e
    grind[Wl]
   simp_all
  simp_all
 simp_all
theorem aM3(hr:o? G w a s) (ho:o.op=.indexAddr t x y)
 (ht:P.underlying t=M (.slice e)) (hi:P.info? e=M i) (he:fa s (.iaddr i.size x y)=M (d,m')) :
 p? G w s.m ((execOp a.eval o).run P w) d m':=by
 have hx:=hr.ev x;have C:=hr.ev y;simp only[fa]at he;generalize s.ev x=dx at *;generalize s.ev y=dy at *;split at he
 .rename_i jk k;simp only[VRel]at C;split at he
  .rename_i hk;have run:∀p n c,a.eval x=.slice (M p) n c->k<n->(execOp a.eval o).run P w=.ok (.value (.pointer (M (p.add (k.toNat*i.size))))) w:=by
    intro p n c g f;have A:0<=k/\k<n:=⟨hk,f⟩;unfold execOp;simp only[ho,g,C];simp[Instr.indexAt,asIntOf,run_underlying ht,A,Ye hi]
   split at he
   .rename_i S' l;split at he
    .rename_i hS;subst hS;simp only[A',H!]at he;obtain⟨e',hl,rfl,rfl⟩:=he;simp only[VRel]at hx;obtain⟨p,n,c,g,hn,hc,hx⟩:=hx;have f:k.toNat<l.length:=by
      grind
     rcases hx with rfl|⟨b,off,rfl,D,h⟩
     .simp_all
     .obtain⟨u,hv,B,hh⟩:=bg.1 h _ _ hl;refine Fa hr.inv (run _ _ _ g U) ?_;rw[Wl];simp only[VRel]
      grind
    simp_all
   .rename_i id Va;split at he
    .rename_i S' q l hm;split at he
     .rename_i hc;obtain⟨rfl,rfl,f⟩:=hc;injection he with he;injection he with r h2;subst r;subst h2;simp only[VRel]at hx;obtain⟨p,n,c,g,z,j,hx⟩:=hx;obtain⟨a1,a2,a3,a4,a5⟩:=hr.inv.ent _ _ hm;obtain⟨rfl,rfl,rfl⟩:=hx a1;rcases a5 with a5|⟨b',cs,T,v,D,hblk,B,h⟩
      .grind
      .rw[v]at g;refine Fa hr.inv (run _ _ _ g U) ?_;rw[Wl];simp only[VRel]
       grind
     simp_all
    simp_all
   .rename_i id Va lo n;split at he
    .rename_i S' q l hm;split at he
     .rename_i hc;obtain⟨rfl,rfl,f,hlo⟩:=hc;injection he with he;injection he with r h2;subst r;subst h2;simp only[VRel]at hx;obtain⟨p,c,g,hnc,z,j,hx⟩:=hx;obtain⟨a1,a2,a3,a4,a5⟩:=hr.inv.ent _ _ hm;rcases hx a1 with hx|⟨b,hb,rfl⟩
      .omega
      .refine Fa hr.inv (run _ _ _ g ((Int.toNat_lt hk).1 f)) ?_;rw[Wl];simp only[VRel]
       grind
     simp_all
    simp_all
   simp_all
  simp_all
 simp_all
theorem wH(hi:Inv G w s.m) {x:D}{u:a41}(hx:VRel G w x u) (h:Hd s.m x=M n):∃p c,u=.slice p n c/\n<=c:=by
 unfold Hd at h;split at h
 .injection h with h;subst h;simp only[VRel]at hx;simp_all
 .injection h with h;subst h;simp only[VRel]at hx
  grind
 .split at h
  .rename_i id Va S ver' l hm;split at h
   .rename_i hv;subst hv;injection h with h;subst h;simp only[VRel]at hx;obtain⟨p,n,c,hp,hid,hver,hx⟩:=hx;obtain⟨a1,a2,a3,a4,a5⟩:=hi.ent _ _ hm
    grind
   .cases h
  .cases h
 .split at h
  .injection h with h;subst h;simp only[VRel]at hx
   grind
  .cases h
 .cases h
theorem ck3(hr:o? G w a s) (ho:o.op=.call { callee:=.builtin .len,args:=#[x],argTypes:=#[t] })
 (ht:P.underlying t=M (.slice e)) (he:fa s (.len x)=M (d,m')):p? G w s.m ((execOp a.eval o).run P w) d m':=by
 have hx:=hr.ev x;simp only[fa,A',H!]at he;obtain⟨n,hn,rfl,rfl⟩:=he;refine Fa (u:=.int .i64 n) hr.inv ?_ I?;unfold execOp;simp only[ho];obtain⟨p,c,hp,-⟩:=wH hr.inv hx hn
 simp_all[resolve,invoke,builtin,Builtin.len_,goInt,run_underlying]
theorem bm8(hr:o? G w a s) (ho:o.op=.call { callee:=.builtin .len,args:=#[x],argTypes:=#[t] })
 (ht:P.underlying t=M .string) (he:fa s (.slen x)=M (d,m')):p? G w s.m ((execOp a.eval o).run P w) d m':=by
 have hx:=hr.ev x;simp only[fa]at he;unfold execOp;simp only[ho];generalize s.ev x=dx at *;split at he
 .rename_i b;injection he with he;injection he with c h2;subst c;subst h2;simp only[VRel]at hx;refine Fa (u:=.int .i64 b.size) hr.inv ?_ I?
  simp_all[resolve,invoke,builtin,Builtin.len_,goInt,run_underlying]
 simp_all
theorem vS(x:a41) (y:Nat) (code:BoundsCode) {n:Int}(h:x=.int j n) (h0:0<=n) (h1:n<=y) (w:a42):(Instr.sliceBound x y code).run P w=.ok n.toNat w:=by
 simp_all[Instr.sliceBound,asIntOf]
theorem DP(hr:o? G w a s) {cap:Nat}(hcap:n<=cap) (hmx:mx.isSome=a38->hi.isSome=a38) {l h k:Nat}(hl:bound s 0 lo=M l) (o:bound s n hi=M h) (hk:bound s n mx=M k)
 (f:h<=k) (h2:k<=n) (i:l<=h):∃m,(Instr.sliceBounds a38 n cap (lo.map a.eval) (hi.map a.eval) (mx.map a.eval)).run P w=.ok (l,h,m) w/\h<=m/\m<=cap/\(mx=s5->m=cap):=by
 have one:∀{x:Option a43} {b r:Nat},bound s b x=M r->(x=s5/\r=b)\/∃y j,x=M y/\a.eval y=.int j (r:Int):=by
  intro x b r hb
  cases x with
  |none=>simp[bound]at hb;simp_all
  |some y=>
   have p:=hr.ev y;simp only[bound]at hb;generalize s.ev y=dy at *;split at hb
   .rename_i j q;split at hb
    .rename_i hq;injection hb with hb;simp only[VRel]at p
     grind
    simp_all
   simp_all
 have c:∀(x:a41) (y:Nat) (code:BoundsCode) (j:IntKind) (r:Nat),x=.int j (r:Int)->r<=y->(Instr.sliceBound x y code).run P w=.ok r w:=λx y code j r hx hr'=>by
  have:=vS (P:=P) x y code hx (Tad r) U w
  simp_all
 unfold Instr.sliceBounds;rcases one hk with⟨rfl,rfl⟩|⟨yk,jk,rfl,g⟩
 .refine⟨cap,?_,U,x? _,λ_=>rfl⟩;rcases one hl with⟨rfl,rfl⟩|⟨yl,u,rfl,e⟩<;>rcases one o with⟨rfl,rfl⟩|⟨v,t,rfl,d⟩
  .simp
  .simp[c _ cap _ _ _ d U]
  .simp_all
  .simp[c _ cap _ _ _ d U,c _ h _ _ _ e i]
 .refine⟨k,?_,f,U,λh=>by cases h⟩;rcases one hl with⟨rfl,rfl⟩|⟨yl,u,rfl,e⟩<;>rcases one o with⟨rfl,rfl⟩|⟨v,t,rfl,d⟩
  .simp_all
  .simp[c _ cap _ _ _ g U,c _ k _ _ _ d f]
  .simp_all
  .simp[c _ cap _ _ _ g U,c _ k _ _ _ d f,c _ h _ _ _ e i]
theorem xA{G:Gh}{w:a42}{S:Nat}(h:Xa G w b S l off) (lo:Nat):Xa G w b S (l.drop lo) (off+lo*S):=
 bg.2 λi d hd=>by
  grind[bg]
theorem yA{G:Gh}{w:a42}{S:Nat}(h:Xa G w b S l off) (n:Nat):Xa G w b S (l.take n) off:=
 bg.2 λi d hd=>bg.1 h i d o4
theorem K3(hr:o? G w a s) (ho:o.op=.slice t x lo hi mx)
 (ht:P.underlying t=M (.slice e)) (hi':P.info? e=M i) (F:mx.isSome=a38->hi.isSome=a38) (he:fa s (.slice i.size x lo hi mx)=M (d,m')) :
 p? G w s.m ((execOp a.eval o).run P w) d m':=by
 have hx:=hr.ev x;simp only[fa]at he;generalize s.ev x=dx at *;split at he
 .rename_i n hn;split at he
  .rename_i l h k hl O hk;split at he
   .rename_i hc;obtain⟨j6,h2⟩:=hc;simp only[A',H!]at he;obtain⟨r,c,rfl,rfl⟩:=he;obtain⟨p,cap,H,y⟩:=wH hr.inv hx hn;have E:l<=h:=by
     unfold nz at c
     grind
    obtain⟨m,hb,hm,hmc,-⟩:=DP (P:=P) hr y F hl O hk j6 h2 E;have run:(execOp a.eval o).run P w=.ok (.value (.slice (if m=l then p else p.map (·.add (l*i.size))) (h-l) (m-l))) w:=by
     simp_all[execOp,Instr.sliceAt,Instr.slice,run_underlying,Ye]
    refine Fa hr.inv run ?_;unfold nz at c;split at c
    .split at c
     .rename_i hc;obtain⟨rfl,rfl⟩:=hc;injection c with c;subst c;simp only[VRel]at hx⊢
      grind
     simp_all
    .rename_i S' j9;split at c
     .rename_i hc;obtain⟨rfl,-,z⟩:=hc;injection c with c;subst c;simp only[VRel]at hx⊢;obtain⟨K,R,I,f,hn',hc',hx⟩:=hx;rw[H]at f;injection f with q1 u v;subst q1;subst u;subst v;refine⟨_,_,_,rfl,o4,U,?_⟩
      .rcases hx with rfl|⟨b,off,rfl,N,B⟩
       .simp
       .by_cases A:m=l
        .simp_all
        grind[yA,xA,Wl]
     simp_all
    .rename_i id Va;split at c
     .rename_i S' C j9 q;split at c
      .rename_i hc;obtain⟨rfl,rfl,-,z⟩:=hc;injection c with c;subst c;simp only[VRel]at hx⊢;obtain⟨K,R,I,f,j,g,hx⟩:=hx;rw[H]at f;injection f with q1 u v;subst q1;subst u;subst v;refine⟨_,_,rfl,U,j,g,λe=>?_⟩;obtain⟨rfl,u,v⟩:=hx e;obtain⟨a1,a2,a3,a4,a5⟩:=hr.inv.ent _ _ q;by_cases A:m=l
       .omega
       .by_cases Q:h-l=0
        .omega
        .rcases a5 with a5|⟨L,cs,T,D,N,hblk,hsz,B⟩
         all_goals simp_all[Wl,Ead]
      simp_all
     simp_all
    .rename_i id Va l0 n0;split at c
     .rename_i S' C j9 q;split at c
      .rename_i hc;obtain⟨rfl,rfl,-,z,hl0⟩:=hc;injection c with c;subst c;simp only[VRel]at hx⊢;obtain⟨K,I,f,hnc,j,g,hx⟩:=hx;rw[H]at f;injection f with q1 u v;subst q1;subst u;subst v;refine⟨_,_,rfl,U,j,g,λe=>?_⟩;obtain⟨a1,a2,a3,a4,a5⟩:=hr.inv.ent _ _ q;by_cases A:m=l
       .omega
       .by_cases Q:h-l=0
        .omega
        .rcases hx e with hx|⟨L,D,rfl⟩
         all_goals grind[Wl]
      simp_all
     simp_all
    simp_all
   simp_all
  simp_all
 simp_all
end
open Go.RowKit (Below)
section
variable {P:a44} {G:Gh} {w:a42} {a:Act} {s:St} {d:D} {m':List Ent}
theorem aS{u:a41}(h:one u=a38):u.cells = #[u]:=by cases u<;>first|rfl|grind[one]
theorem GC(z:a41) (h:z.cells.all one=a38):VRel G w (z? z) z:=by
 unfold z?;split
 .rename_i cs;simp only[VRel];refine⟨cs.toList,rfl,JD _,λc hc=>?_⟩;simp only[Value.cells,aae]at h;obtain⟨i,hi,rfl⟩:=H' hc
  simp_all
 .simp[VRel]
theorem IS{cs:Array a41}(h:cs.all one=a38) (j:Nat) (c:a41) (hc:cs[j]?=M c):one c=a38:=by
 grind
theorem kG{S:Nat}{d:D}{u:a41}(hv:VRel G w d u) (hs:u.cells.size=S) (h1:∀(j:Nat) c,u.cells[j]?=M c->one c=a38):Vi G w S [d] u.cells:=by
 intro i e he
 grind
theorem K5{S:Nat}{C:Nat}(hn:G.n=s.m.length):VRel (G.add (M w.heap.size) S 1 C) w' (.ref s.m.length 0 0 0) (.pointer (M ⟨w.heap.size,0,s5⟩)):=by
 simp only[VRel];exact⟨_,rfl,by grind[Gh.add],L! _,λ_=>⟨w.heap.size,by grind[Gh.add],by grind[Gh.add]⟩⟩
theorem R4{S C:Nat}(hn:G.n=s.m.length):VRel (G.add (M w.heap.size) S N C) w' (.own s.m.length 0) (.slice (M ⟨w.heap.size,0,s5⟩) N C):=by
 simp only[VRel];exact⟨_,_,_,rfl,by grind[Gh.add],L! _,λ_=>⟨by simp[Gh.add,hn],by grind[Gh.add],by grind[Gh.add]⟩⟩
theorem aM7(hr:o? G w a s) (ho:o.op=.alloc t) (e:q? P t=M z) (he:fa s (.alloc z.cells.size (z? z))=M (d,m')) :
 p? G w s.m ((execOp a.eval o).run P w) d m':=by
 simp only[fa]at he;injection he with he;injection he with c h2;subst c;subst h2;obtain⟨hz1,b,hz3,-⟩:=Iq e w;obtain⟨g1,g2⟩:=Yw hr.inv z.cells.size [z? z] 1 z.cells t (kG (GC z b) rfl (IS b)) o0 o0;refine⟨_,_,_,?_,.inl ⟨_,rfl,K5 (C:=1) hr.inv.n⟩,g1,g2⟩
 simp_all[execOp,Instr.alloc,newVar,newRow]
theorem cl0(hr:o? G w a s) {S:Nat}(ho:o.op=.box t x) (he:fa s (.box S x)=M (d,m')) :
 p? G w s.m ((execOp a.eval o).run P w) d m':=by
 simp only[fa]at he;split at he
 .rename_i hc;injection he with he;injection he with b h2;subst b;subst h2;have hx:=hr.ev x;obtain⟨hv,b⟩:=hx.cells hc.1;have e:(a.eval x).cells.size=S:=by rw[←Iac,hv.length];omega
  obtain⟨g1,g2⟩:=Yw hr.inv S [s.ev x] 1 (a.eval x).cells t (kG hx e (λj c hj=>b c o4)) o0 U;refine⟨_,_,_,?_,.inl ⟨_,rfl,K5 (C:=1) hr.inv.n⟩,g1,g2⟩
  simp_all[execOp,Instr.box,newVar,newRow]
 simp_all
theorem DA(cells vs:List a41) (off k:Nat) (h:off+vs.length<=cells.length) :
 (cells.take off++vs++cells.drop (off+vs.length))[k]?=if off<=k/\k<off+vs.length then vs[k-off]? else cells[k]?:=by
 rw[P',Rac]
 grind
theorem Vi.set{S o:Nat}{l:List D}{cs a:Array a41}(h:Vi G w S l cs o) {i:Nat}{d:D}{u:a41}(hi:i<l.length) (hv:VRel G w d u) (hs:u.cells.size=S)
 (h1:∀(j:Nat) c,u.cells[j]?=M c->one c=a38) (hin:∀(j:Nat) c,u.cells[j]?=M c->a[i*S+j+o]?=M c)
 (f:∀k,(k<i*S+o\/i*S+S+o<=k)->a[k]?=cs[k]?):Vi G w S (l.set i d) a o:=by
 intro j e he;by_cases b:i=j
 .grind
 .rw[List.getElem?_set_ne b]at he;obtain⟨v,g1,g2,g3⟩:=h j e he;refine⟨v,g1,g2,λk c hc=>⟨(g3 k c hc).1,?_⟩⟩;have hk:k<S:=o4
  rw[f _ ?_]
  .simp_all
  .rcases Nat.lt_or_gt_of_ne b with g|g
   .right;have:=Β S (show i+1<=j from g)
    grind
   .left;have:=Β S (show j+1<=i from g)
    grind
theorem nK(off:Nat) (vs:Array a41) (cells:Array a41) (h:off+vs.size<=cells.size) :
 (vs.zipIdx.foldl (λcs (x:a41×Nat)=>cs.setIfInBounds (off+x.2) x.1) cells).toList=cells.toList.take off++vs.toList++cells.toList.drop (off+vs.toList.length):=by
 have hf:=DD off vs.toList 0 cells U
 grind[Bae]
theorem DT(hr:o? G w a s) {S:Nat}:∀{ps:List (Nat×a43)}{l l':List D}{cells:Array a41},
 pd s S ps l=M l'->Vi G w S l cells->cells.size=l.length*S->
 ∃cells':Array a41,Instr.fill (λi=>M (i*S,S)) cells (ps.map λp=>(p.1,a.eval p.2))=M cells'/\Vi G w S l' cells'/\cells'.size=l'.length*S/\l'.length=l.length
 |[],l,l',cells,hb,hv,h=>by
  simp only[pd]at hb;injection hb with hb;subst hb;exact⟨cells,rfl,hv,h,rfl⟩
 |(i,x)::ps,l,l',cells,hb,hv,h=>by
  simp only[pd]at hb;split at hb
  .rename_i hc;obtain⟨m,hlen,hi⟩:=hc;obtain⟨d,f⟩:=(hr.ev x).cells m;have hl1:=d.length;have n:(a.eval x).cells.size=S:=l5
   have hbound:i*S+S<=cells.size:=by
    rw[h,←Nat.succ_mul];exact Β S hi
   have b:=nK (i*S) (a.eval x).cells cells U;have e:=λk=>DA cells.toList (a.eval x).cells.toList (i*S) k l5;have hsize:((a.eval x).cells.zipIdx.foldl (λcs (x:a41×Nat)=>cs.setIfInBounds (i*S+x.2) x.1) cells).size=cells.size:=by
    grind[Iac]
   have g:Vi G w S (l.set i (s.ev x)) ((a.eval x).cells.zipIdx.foldl (λcs (x:a41×Nat)=>cs.setIfInBounds (i*S+x.2) x.1) cells):=by
    refine hv.set hi (hr.ev x) n (λj c hj=>f c o4) (λj c hj=>?_) (λk hk=>?_)
    .have hjlt:j<S:=o4
     rw[←fad,b,e,J]
     simp_all
    .rw[←fad,b,e,p6,fad]
   obtain⟨cells',hc1,hc2,hc3,hc4⟩:=DT hr hb g l5
   simp_all[Instr.fill]
  simp_all
theorem Uy(a:z.cells.all one=a38) (n:Nat):Vi G w z.cells.size (k? n (z? z)) ((gae (n*z.cells.size)).map (z.cells[· % z.cells.size]!)):=by
 intro i e he;rw[List.getElem?_replicate]at he;split at he
 .rename_i hi;injection he with he;subst he;refine⟨z,GC z a,rfl,λj c hc=>⟨IS a j c hc,?_⟩⟩;obtain⟨hj,rfl⟩:=jac.1 hc;have hlt:i*z.cells.size+j<n*z.cells.size:=by
   have:=Β z.cells.size (show i+1<=n from hi)
   grind
  grind[Nat.mul_comm,Nat.add_mul_mod_self_left,Nat.mod_eq_of_lt]
 simp_all
theorem ap2(hr:o? G w a s) (ho:o.op=.buildSlice t n ps)
 (ht:P.underlying t=M (.slice e)) (y:q? P e=M z) (hsmall:n*z.cells.size<=2 ^ 24) (he:fa s (.bslice z.cells.size n (z? z) ps.toList)=M (d,m')) :
 p? G w s.m ((execOp a.eval o).run P w) d m':=by
 simp only[fa,A',H!]at he;obtain⟨l,hb,rfl,rfl⟩:=he;obtain⟨u,v,hz3,i,hi,c,hzz⟩:=Iq y w;obtain⟨cells,hf,g,hcs,b⟩:=DT hr hb (Uy v n) o0;simp only[List.length_replicate]at b;obtain⟨g1,g2⟩:=Yw hr.inv z.cells.size l n cells e g U l5;refine⟨_,_,_,?_,.inl ⟨_,rfl,R4 (N:=l.length) (C:=n) hr.inv.n⟩,g1,g2⟩;unfold execOp;simp only[ho];have q:¬(2 ^ 24<n*i.size):=l5
 by_cases x:n*i.size=0
 .have j:n=0:=by
   grind[Nat.mul_eq_zero]
  subst j;rw[c.symm]at hf;rw[Nat.zero_mul,show gae 0 = #[]from rfl,Array.map_empty]at hf;have h:Instr.fill (λk=>M (k*i.size,i.size)) #[] (ps.toList.map λp=>(p.1,a.eval p.2))=M cells:=hf;have r:∀f:Nat->a41,oae f (gae 0) = #[]:=λf=>o0
  simp[Instr.buildSlice,run_underlying ht,Ye hi,r,h,newRow,b]
 .rw[c.symm]at hf;simp[Instr.buildSlice,run_underlying ht,Ye hi,q,x,u,hf,newRow,b,c.symm]
theorem F8(hr:o? G w a s) {l:a43}(ho:o.op=.makeSlice t l c)
 (ht:P.underlying t=M (.slice e)) (r:q? P e=M z) (he:fa s (.mkslice z.cells.size (P.bytesOf e) (z? z) l c)=M (d,m')) :
 p? G w s.m ((execOp a.eval o).run P w) d m':=by
 have hl:=hr.ev l;have hc:=hr.ev c;simp only[fa]at he;unfold execOp;simp only[ho];generalize s.ev l=dl at *;generalize s.ev c=dc at *;split at he
 .rename_i n k;split at he
  .rename_i hk;obtain⟨u,v,k3,k4⟩:=hk;injection he with he;injection he with q h2;subst q;subst h2;simp only[VRel]at hl hc;obtain⟨hz1,h,hz3,i,hi,g,p⟩:=Iq r w;have f:P.bytesOf e=i.bytes:=by grind[Program.bytesOf]
   rw[f]at k4;have hrun:=run_make (P:=P) w t e i z ht hi p .i64 .i64 n k u v (by
    grind) U
   have b:Vi G w z.cells.size (k? n.toNat (z? z)) (madeCells z.cells (k.toNat*i.size)):=by
    intro j e' hj;have hlt:j<n.toNat:=by
     grind
    have:=Uy (G:=G) (w:=w) h k.toNat j e' o4;rw[g];exact this
   obtain⟨g1,g2⟩:=Yw hr.inv z.cells.size (k? n.toNat (z? z)) k.toNat _ e b o4 (by simp_all[size_madeCells]);refine⟨_,_,_,?_,.inl ⟨_,rfl,R4 (N:=(k? n.toNat (z? z)).length) (C:=k.toNat) hr.inv.n⟩,g1,g2⟩
   simp_all
  simp_all
 simp_all
theorem AZ(v:a41):v.oneCell'=one v:=by cases v<;>rfl
theorem aD(i:Nat):G.vh i (G.B i) (G.V i) (G.N i) (G.C i)=G:=by
 cases G;simp only[Gh.vh,Gh.mk.injEq,R1]
 grind
theorem aL7(hr:o? G w a s) (ho:o.op=.store t x y) (hi:P.info? t=M i) (he:fa s (.store i.size x y)=M (d,m')) :
 p? G w s.m ((execOp a.eval o).run P w) d m':=by
 have hx:=hr.ev x;have hy:=hr.ev y;simp only[fa]at he;generalize s.ev x=dx at *;generalize s.ev y=dy at *;split at he
 .rename_i id Va c! sub;split at he
  .rename_i S L l hm;split at he
   .rename_i hc;obtain⟨rfl,hok,hn⟩:=hc;simp only[hac]at he;obtain⟨e,hl,he⟩:=he;split at he
    .rename_i hc;obtain⟨W,hn0,I⟩:=hc;injection he with he;injection he with h1 h2;subst h1;subst h2;simp only[VRel]at hx;obtain⟨p,hp,hid,hver,hx⟩:=hx;obtain⟨a1,a2,a3,a4,a5⟩:=hr.inv.ent _ _ hm;obtain⟨b,hb,rfl⟩:=hx a1;rcases a5 with a5|⟨b',cs,T,j9,hF,A,hsz,hrow⟩
     .simp_all
     .rw[hb]at j9;injection j9 with j9;subst j9;obtain⟨z,hy1⟩:=hy.cells hok;have g:(a.eval y).cells.toList.length=i.size:=by rw[z.length];omega
      have Z:=zA A hrow;obtain⟨u,hv,husz,huin⟩:=Z c! e hl;obtain⟨huc,hu1⟩:=hv.cells W;have hulen:u.cells.toList.length=S:=U
      have Y:c!<l.length:=by
       grind
      have n:e.cells.length=S:=by rw[←huc.length];omega
      have hS:c!*S+S+(G.C id).2<=cs.size:=by
       have h1:=Β S (show c!+1<=(G.C id).1 by omega)
       grind
      rw[a2]at hp;have Q:=run_storeCells_at P b (c!*S+sub+(G.C id).2) T (a.eval y).cells.toList 0 cs w A U (λv hv=>by grind[AZ]);simp only[vac]at Q;have K:∃f:Array a41,f=(cs.toList.take (c!*S+sub+(G.C id).2)++(a.eval y).cells.toList++cs.toList.drop (c!*S+sub+(G.C id).2+(a.eval y).cells.toList.length)).toArray:=⟨_,rfl⟩;obtain⟨f,F⟩:=K;rw[←F]at Q;have X:∀k,f[k]?=if c!*S+sub+(G.C id).2<=k/\k<c!*S+sub+(G.C id).2+i.size then(a.eval y).cells.toList[k-(c!*S+sub+(G.C id).2)]? else cs[k]?:=by
       intro k;rw[F,sac,DA _ _ _ _ o4,g];simp
      have hsz':f.size=cs.size:=by
       grind
      have run:(execOp a.eval o).run P w=.ok .skip (w.setRow b f):=by
       simp_all[execOp,Instr.storeAt,Instr.sureAddr,storeVar,Ye]
      have H:∀k,G.B id≠M k->(w.setRow b f).heap[k]?=w.heap[k]?:=λk hk=>setRow_other w b k f λh=>hk l5;have j6:Le G w G (w.setRow b f):=⟨λ_ h=>h,λk hk=>H k λh=>l5,x? _,λ_ _=>.inl ⟨rfl,rfl,rfl,rfl,rfl⟩⟩;have E:=setRow_heap w b cs f T (0,0) A;clear Q F;generalize hys:(a.eval y).cells.toList=ys at z hy1 g X;have hnew:∃u':a41,VRel G (w.setRow b f) (e.vh sub dy.cells) u'/\u'.cells.size=S/\∀(j:Nat) c,u'.cells[j]?=M c->one c=a38/\f[c!*S+j+(G.C id).2]?=M c:=by
       by_cases R:∃le,e=.agg le
       .obtain⟨le,rfl⟩:=R;simp only[VRel]at hv;obtain⟨us,rfl,hvs,hus1⟩:=hv;simp only[D.cells]at n I;have huslen:us.length=S:=by grind[Value.cells]
        refine⟨.agg (us.take sub++ys++us.drop (sub+ys.length)).toArray,?_,?_,?_⟩
        .simp only[D.vh,VRel,av];refine⟨_,rfl,?_,?_⟩
         .rw[←z.length];exact((((hvs.take sub).append z).append (hvs.drop _)).mono j6)
         grind
        .grind[Value.cells]
        .intro j c hj;simp only[Value.cells,sac]at hj;rw[DA _ _ _ _ U,g]at hj
         grind[Value.cells]
       .have hc1:e.cells=[e]:=by cases e<;>first|rfl|simp_all
        have hup:e.vh sub dy.cells=dy.cells.headD .dead:=by cases e<;>first|rfl|simp_all
        rw[hc1]at n I;simp only[List.length_singleton]at n I;have hn1:i.size=1:=U
        have hs0:sub=0:=U
        subst hs0;rw[hn1]at hn g;obtain⟨e1,j8⟩:∃e1,dy.cells=[e1]:=by
         cases hdc:dy.cells with
         |nil=>simp_all
         |cons q r=>simp_all
        rw[j8]at z;simp only[VsRel]at z;obtain⟨c1,r1,hcl,hv1,rfl⟩:=z;have g1:=hy1 c1 l5;rw[hup,j8];refine⟨c1,by simpa using hv1.mono j6,by grind[aS],λj c hj=>?_⟩;rw[aS g1]at hj
        grind
      obtain⟨u',hu'v,hu's,hu'c⟩:=hnew;have O:Vi G (w.setRow b f) S (l.set c! (e.vh sub dy.cells)) f (G.C id).2:=by
       refine Vi.set ((?_:Vi G (w.setRow b f) S l cs (G.C id).2)) Y hu'v hu's (λj c hj=>(hu'c j c hj).1) (λj c hj=>(hu'c j c hj).2) (λk hk=>?_)
       .exact Z.mono j6
       grind
      have hent:qp G (w.setRow b f) id (.live S L (l.set c! (e.vh sub dy.cells))):=
       ⟨a1,a2,l5,l5,.inr ⟨b,f,T,hb,hF,E,U,Ro E O⟩⟩
      have key:=ti (w':=w.setRow b f) hr.inv (e':=.live S L (l.set c! (e.vh sub dy.cells))) hm rfl rfl (G.B id) (G.V id) (G.N id) (G.C id) (.inr ⟨rfl,rfl,rfl,rfl⟩) rfl rfl rfl
       o0 (λk _ hk=>H k hk) (λk hk=>.inl hk) (by grind[aD])
      rw[aD]at key;exact⟨_,_,G,run,.inr ⟨rfl,rfl⟩,key.1,key.2⟩
    simp_all
   simp_all
  simp_all
 simp_all
end
open Go.RowKit (Below)
section
variable {P:a44} {G:Gh} {w:a42} {a:Act} {s:St} {d:D} {m':List Ent}
theorem aX{S:Nat}(h:Xa G w b S l off):∃news:List a41,news.length=l.length*S/\(∀c∈news,one c=a38)/\(∀(j:Nat) v,news[j]?=M v->w.cell? ⟨b,off+j,s5⟩=M v)/\Vi G w S l news.toArray:=by
 have hcell:∀k,k<l.length*S->∃c,one c=a38/\w.cell? ⟨b,off+k,s5⟩=M c:=by
  intro k hk;have hS:0<S:=by
   grind
  have hi:k / S<l.length:=Nat.div_lt_of_lt_mul o4;obtain⟨u,hv,f,a⟩:=bg.1 h (k / S) l[k / S] (List.getElem?_eq_getElem hi);have hj:k % S<u.cells.size:=by simp_all[Α]
  obtain⟨g1,g2⟩:=a (k % S) u.cells[k % S] (Array.getElem?_eq_getElem hj)
  grind[Nat.div_add_mod]
 refine⟨(p! (l.length*S)).map λk=>(w.cell? ⟨b,off+k,s5⟩).getD undef,o0,?_,?_,?_⟩
 .grind
 .grind
 .intro i d hd;obtain⟨u,hv,f,a⟩:=bg.1 h i d hd;refine⟨u,hv,f,λj c hc=>⟨(a j c hc).1,?_⟩⟩;have hi:i<l.length:=by
   grind
  have hj:j<S:=o4
  have e:i*S+j<l.length*S:=by
   have:=Β S (show i+1<=l.length from hi)
   grind
  rw[sac,List.getElem?_map,vac,List.getElem?_range e];have:=(a j c hc).2
  grind
theorem rS(S:Nat) (cs:Array a41):Vi G w S [] cs:=λi d hd=>by simp at hd
structure Src (P:a44) (G:Gh) (w:a42) (S:Nat) (r:List D) (u:a41) (news:List a41):Prop where
 len:news.length=r.length*S
 ones:∀c∈news,one c=a38
 row:Vi G w S r news.toArray
 form:∃p c,u=.slice p r.length c
 run:∀w',w'.heap=w.heap->(Builtin.firstCells S r.length u).run P w'=.ok news.toArray w'
theorem LP{S:Nat}{r:List D}{c:Nat}(h:Xa G w b S r off):∃news,Src P G w S r (.slice (M ⟨b,off,s5⟩) r.length c) news:=by
 obtain⟨news,a,h2,h3,d⟩:=aX h;refine⟨news,a,h2,d,⟨_,_,rfl⟩,λw' hw=>?_⟩
 grind[World.cell?,Builtin.firstCells,run_loadCells_list,Wl]
theorem cD{S:Nat}{c:Nat}:Src P G w S [] (.slice p 0 c) []:=by
 refine⟨o0,o0,rS _ _,⟨_,_,rfl⟩,λw' _=>?_⟩;cases p<;>simp[Builtin.firstCells,loadCells,loadCellsFrom]
theorem rI(hi:Inv G w s.m) {x:D}{u:a41}(hx:VRel G w x u) {S:Nat}{r:List D}(h:h! S s.m x=M r):∃news,Src P G w S r u news:=by
 unfold h! at h;split at h
 .injection h with h;subst h;simp only[VRel]at hx;subst hx;exact⟨[],cD⟩
 .rename_i S' l;split at h
  .rename_i hS;subst hS;injection h with h;subst h;simp only[VRel]at hx;obtain⟨p,n,c,rfl,rfl,hc,hx⟩:=hx;rcases hx with rfl|⟨b,off,rfl,o,d⟩
   .exact⟨[],cD⟩
   simp_all[LP]
  .cases h
 .rename_i id Va;split at h
  .rename_i S' g l hm;split at h
   .rename_i hc;obtain⟨rfl,rfl⟩:=hc;injection h with h;subst h;simp only[VRel]at hx;obtain⟨p,n,c,rfl,j,f,hx⟩:=hx;obtain⟨a1,a2,a3,a4,a5⟩:=hi.ent _ _ hm;obtain⟨rfl,rfl,rfl⟩:=hx a1;rw[a3];rcases a5 with a5|⟨q,cs,T,a,o,e,k,d⟩
    .have i:=congrArg Nae a5.2;dsimp only at i;have:l=[]:=Δ U;subst this;exact⟨[],cD⟩
    simp_all[LP]
   .cases h
  .cases h
 .rename_i id Va lo n;split at h
  .rename_i S' g l hm;split at h
   .rename_i hc;obtain⟨rfl,rfl,hle⟩:=hc;injection h with h;subst h;simp only[VRel]at hx;obtain⟨p,c,rfl,hnc,j,f,hx⟩:=hx;obtain⟨a1,a2,a3,a4,a5⟩:=hi.ent _ _ hm;have hlen:((l.drop lo).take n).length=n:=o4
    rcases hx a1 with rfl|⟨b,hb,rfl⟩
    .simp;exact⟨[],cD⟩
    .rcases a5 with a5|⟨q,cs,T,a,o,e,k,d⟩
     .simp_all
     .rw[hb]at a;injection a with a;subst a;have:=LP (P:=P) (c:=c) (yA (xA d lo) n)
      grind
   .cases h
  .cases h
 .cases h
theorem sJ(ht:P.underlying t=M (.slice e)) (hi:P.info? e=M i) {S:Nat}{u:a41}{news:List a41}(hu:Src P G w S [] u news) (hS:i.size=S) :
 (Builtin.append_ #[t,t] ty #[.slice s5 0 0,u]).run P w=.ok (.slice s5 0 0) w:=by
 obtain⟨p,c,rfl⟩:=hu.form;have hr:=hu.run w rfl;subst hS;simp only[M!]at hr;simp[Builtin.append_,run_underlying ht,sizeOf,typeInfo,hi,Builtin.lenOf,hr]
theorem iU(ht:P.underlying t=M (.slice e)) (hi:P.info? e=M i) {S:Nat}{r:List D}{u:a41}{news:List a41}(hu:Src P G w S r u news) (hS:i.size=S)
 {g sLen:Nat} {cur:Array a41} {T:a45} (d:w.heap[g]?=M (.cells cur T (0,0))) (a:sLen+r.length<=sCap) (hfit:f+sLen*S+news.length<=cur.size) :
 (Builtin.append_ #[t,t] ty #[.slice (M ⟨g,f,s5⟩) sLen sCap,u]).run P w =
  .ok (.slice (M ⟨g,f,s5⟩) (sLen+r.length) sCap) (w.setRow g (cur.toList.take (f+sLen*S)++news++cur.toList.drop (f+sLen*S+news.length)).toArray):=by
 obtain⟨p,c,rfl⟩:=hu.form;have hr:=hu.run w rfl;subst hS;have b:=run_storeCells_at P g (f+sLen*i.size) T news 0 cur w d U (λv hv=>by rw[AZ];exact hu.ones v hv);simp only[vac]at b;simp[Builtin.append_,run_underlying ht,sizeOf,typeInfo,hi,Builtin.lenOf,a,hr,Wl,b]
theorem rJ(ht:P.underlying t=M (.slice e)) (hi:P.info? e=M i) (j:i.zero=M z) {S:Nat}{r:List D}{u x:a41}{news a:List a41}(hu:Src P G w S r u news) (hx:Src P G w S l x a) (hS:i.size=S)
 (h:x=.slice p l.length sCap) (b:sCap<l.length+r.length) (hb:(l.length+r.length)*i.bytes<=140737488355328) (h63:l.length+r.length<=9223372036854775807) :
 (Builtin.append_ #[t,t] ty #[x,u]).run P w =
  .ok (.slice (M ⟨w.heap.size,0,s5⟩) (l.length+r.length) (grownCap w (l.length+r.length) sCap e))
   (w.drew.alloc (.cells (a.toArray++news.toArray++Builtin.zeroCells z.cells (grownCap w (l.length+r.length) sCap e-(l.length+r.length))) e)):=by
 obtain⟨q,c,rfl⟩:=hu.form;subst h;have hr:=hu.run w.drew rfl;have g:=hx.run w.drew rfl;subst hS;have hn:¬(l.length+r.length<=sCap):=U
 have f:¬(9223372036854775807<((l.length:Int)+(r.length:Int))):=U
 have hfit:=growslice_fits (old:=sCap) b hb;have d:¬(281474976710656<Builtin.nextslicecap (l.length+r.length) sCap*i.bytes):=U
 simp[Builtin.append_,run_underlying ht,sizeOf,typeInfo,zeroValue,hi,j,Builtin.lenOf,hn,f,d,Question.forced,hr,g,newRow,grownCap]
 grind
theorem Vi.append{S:Nat}{r:List D}{a news:List a41}(b:Vi G w S l a.toArray) (h2:Vi G w S r news.toArray) (hl:a.length=l.length*S) (rest:Array a41) :
 Vi G w S (l++r) (a.toArray++news.toArray++rest):=by
 intro i d hd;rw[Rac]at hd;split at hd
 .rename_i hi;obtain⟨u,g1,g2,g3⟩:=b i d hd
  grind
 .rename_i hi;obtain⟨u,g1,g2,g3⟩:=h2 (i-l.length) d hd;refine⟨u,g1,g2,λj c hc=>⟨(g3 j c hc).1,?_⟩⟩;have:=(g3 j c hc).2;have hlt:(i-l.length)*S+j<news.length:=by
   grind
  have hge:l.length*S<=i*S:=Β S U;have hidx:i*S+j-a.length=(i-l.length)*S+j:=by grind[paf]
  grind
theorem ZM{b:Option Nat}{V:Nat}{C:Nat×Nat}(a:id<G.n):VRel (G.vh id b V N C) w' (.own id V) (.slice (b.map λb=>⟨b,C.2,s5⟩) N C.1):=by
 simp only[VRel];exact⟨_,_,_,rfl,a,by simp[Gh.vh],λ_=>⟨by simp[Gh.vh],by simp[Gh.vh],by simp[Gh.vh]⟩⟩
theorem tF{b:Option Nat}{S C:Nat}(hn:G.n=s.m.length):VRel (G.add b S N C) w' (.own s.m.length 0) (.slice (b.map λb=>⟨b,0,s5⟩) N C):=by
 simp only[VRel];exact⟨_,_,_,rfl,by grind[Gh.add],L! _,λ_=>⟨by simp[Gh.add,hn],by grind[Gh.add],by grind[Gh.add]⟩⟩
def RB(w:a42) (need old:Nat) (e:a45):need<=grownCap w need old e:=grownCap_ge w need old e
def QH(z:Array a41) (n:Nat):(Builtin.zeroCells z n).size=n*z.size:=size_zeroCells z n
theorem ZQ{u:a45}(ht:P.underlying t=M (.slice e)) (hu:P.underlying u=M (.int .i64)) (hi:P.info? e=M i) (j:i.zero=M z) (hS:0<i.size) (h:0<i.bytes) {k:Int}(hk:0<k) (hb:k.toNat*i.bytes<=140737488355328) :
 (Builtin.append_ #[t,u] ty #[.slice s5 0 0,.int .i64 k]).run P w =
  .ok (.slice (M ⟨w.heap.size,0,s5⟩) k.toNat (grownCap w k.toNat 0 e))
   (w.drew.alloc (.cells (Builtin.zeroCells z.cells k.toNat++Builtin.zeroCells z.cells (grownCap w k.toNat 0 e-k.toNat)) e)):=by
 obtain⟨n,rfl⟩:∃n:Nat,k=(n:Int):=⟨k.toNat,U⟩;simp only[Int.toNat_natCast]at hb⊢;have d:0<n:=U
 have hnb:n<=n*i.bytes:=zad _ h;have hw:IntKind.i64.wrap (n:Int)=n:=by
  grind[IntKind.wrap_i64]
 have hn:¬(n<=0):=U
 have b:¬(9223372036854775807<(n:Int)):=U
 have c:=growslice_fits (need:=0+n) (old:=0) U (by rw[Y!];omega);rw[Y!]at c;have a:¬(281474976710656<Builtin.nextslicecap n 0*i.bytes):=U
 have g:¬((281474976710656:Int)<(n:Int)*(i.bytes:Int)):=U
 have f:¬((n:Int)<0):=U
 have hns:¬(n*i.size=0):=Nat.ne_of_gt (Nat.mul_pos d hS);have hn1:¬(n=0):=U
 simp[Builtin.append_,run_underlying ht,run_underlying hu,sizeOf,typeInfo,zeroValue,hi,j,asInt,asIntOf,hw,f,g,hn,b,a,Question.forced,newRow,grownCap,Builtin.firstCells,d]
 simp_all
theorem aM1(hr:o? G w a s) {u:a45}(ho:o.op=.call { callee:=.builtin .append,args:=#[x,y],argTypes:=#[t,u] })
 (ht:P.underlying t=M (.slice e)) (hu:P.underlying u=M (.int .i64)) (hi:P.info? e=M i) (A:q? P e=M z) (h:0<i.bytes) (he:fa s (.mkapp i.size i.bytes (z? z) x y)=M (d,m')) :
 p? G w s.m ((execOp a.eval o).run P w) d m':=by
 obtain⟨hz1,l,hz3,i',c,g,p⟩:=Iq A w;rw[hi]at c;injection c with c;subst c;have hx:=hr.ev x;have v:=hr.ev y;simp only[fa]at he;unfold execOp;simp only[ho];generalize s.ev x=dx at *;generalize s.ev y=dy at *;split at he
 .rename_i k;split at he
  .rename_i hk;obtain⟨hk,hb⟩:=hk;injection he with he;injection he with r h2;subst r;subst h2;simp only[VRel]at hx v;have hrun:=ZQ (w:=w) (ty:=o.type) ht hu hi p U h hk U;have hcap:=RB w k.toNat 0 e;have f:Vi G w i.size (k? k.toNat (z? z)) (Builtin.zeroCells z.cells k.toNat++Builtin.zeroCells z.cells (grownCap w k.toNat 0 e-k.toNat)):=by
    rw[g];intro j q hq;obtain⟨u,g1,g2,g3⟩:=Uy (G:=G) (w:=w) l k.toNat j q hq
    grind[Builtin.zeroCells]
   have hd:=(N'.drew w).inv hr.inv;obtain⟨g1,g2⟩:=Yw hd i.size (k? k.toNat (z? z)) (grownCap w k.toNat 0 e) _ e (f.mono ((N'.drew w).le G)) l5 (by
    simp only[cae,QH,←g];rw[←kad]
    simp_all)
   refine⟨.value (.slice (M ⟨w.heap.size,0,s5⟩) k.toNat (grownCap w k.toNat 0 e)),_,_,?_,.inl ⟨_,rfl,?_⟩,g1,((N'.drew w).step G s.m).trans g2⟩
   .simp_all[resolve,invoke,builtin]
   .have:=tF (b:=M w.heap.size) (S:=i.size) (N:=k.toNat) (C:=grownCap w k.toNat 0 e) (w':=w.drew.alloc (.cells (Builtin.zeroCells z.cells k.toNat++Builtin.zeroCells z.cells (grownCap w k.toNat 0 e-k.toNat)) e)) hr.inv.n
    simp_all
  simp_all
 simp_all
theorem ap3(hr:o? G w a s) (ho:o.op=.call { callee:=.builtin .append,args:=#[x,y],argTypes:=#[t,t] })
 (ht:P.underlying t=M (.slice e)) (hi:P.info? e=M i) (hz:q? P e=M z) (hb0:0<i.bytes) (he:fa s (.append i.size i.bytes x y)=M (d,m')) :
 p? G w s.m ((execOp a.eval o).run P w) d m':=by
 obtain⟨hz1,hz2,hz3,i',N,hsz,hzz⟩:=Iq hz w;rw[hi]at N;injection N with N;subst N;have hx:=hr.ev x;have hy:=hr.ev y;simp only[fa]at he;unfold execOp;simp only[ho];generalize s.ev x=dx at *;generalize s.ev y=dy at *;split at he
 .rename_i r W;obtain⟨news,hu⟩:=rI (P:=P) hr.inv hy W;have lift:∀v w',(Builtin.append_ #[t,t] o.type #[a.eval x,a.eval y]).run P w=.ok v w'->
   (Sem.run P (do let d←resolve a.eval { callee:=.builtin .append,args:=#[x,y],argTypes:=#[t,t] } o.type;invoke d.target d.args) w)=.ok (.value v) w':=by
   simp_all[resolve,invoke,builtin]
  have b47:(2:Nat) ^ 47=140737488355328:=p5
  split at he
  .split at he
   .rename_i L;injection he with he;injection he with h1 h2;subst h1;subst h2;simp only[VRel]at hx;by_cases O:r=[]
    .subst O;have f:=sJ (w:=w) (ty:=o.type) ht hi hu rfl;rw[←hx]at f;have R:=vE (w':=w) hr.inv s5 i.size 0 0 (.live i.size 0 []) rfl rfl rfl rfl (x? _) (λ_ _=>rfl) (λk h=>by cases h)
      ⟨by simp[Gh.add],by simp[Gh.add],by simp[Gh.add],o0,.inl ⟨by simp[Gh.add],by simp[Gh.add]⟩⟩
     refine⟨_,_,_,lift _ _ f,.inl ⟨_,rfl,?_⟩,R.1,R.2⟩;rw[hx];exact tF (b:=s5) hr.inv.n
    .have hpos:0<r.length:=List.length_pos_iff.2 O;have hmul:r.length<=r.length*i.bytes:=zad _ hb0;have f:=rJ (w:=w) (ty:=o.type) ht hi hzz (l:=[]) hu cD rfl (p:=s5) (sCap:=0) rfl U l5 o4;simp only[M!,Y!]at f;rw[←hx]at f;have S:=RB w r.length 0 e;have H:Vi G w i.size r ([].toArray++news.toArray++Builtin.zeroCells z.cells (grownCap w r.length 0 e-r.length)):=Vi.append (l:=[]) (rS _ _) hu.row o0 _;have hd:=(N'.drew w).inv hr.inv;obtain⟨g1,g2⟩:=Yw hd i.size r (grownCap w r.length 0 e) _ e (H.mono ((N'.drew w).le G)) S (by
      simp only[cae,Qab,M!,Y!,hu.len,QH,←hsz];rw[←kad]
      simp_all)
     refine⟨_,_,_,lift _ _ f,.inl ⟨_,rfl,?_⟩,g1,((N'.drew w).step G s.m).trans g2⟩;exact tF (b:=M w.heap.size) hr.inv.n
   simp_all
  .rename_i id Va;split at he
   .rename_i S' g l hm;split at he
    .rename_i hc;obtain⟨rfl,rfl,L⟩:=hc;injection he with he;injection he with h1 h2;subst h1;subst h2;have hcx:h! i.size s.m (.own id g)=M l:=by grind[h!]
     obtain⟨V,Q⟩:=rI (P:=P) hr.inv hx hcx;simp only[VRel]at hx;obtain⟨p,n,c,hp,hid,hver,hx⟩:=hx;obtain⟨a1,a2,a3,a4,a5⟩:=hr.inv.ent _ _ hm;obtain⟨rfl,rfl,rfl⟩:=hx a1;have hmul:l.length+r.length<=(l.length+r.length)*i.bytes:=zad _ hb0;by_cases j9:l.length+r.length<=(G.C id).1
     .rcases a5 with a5|⟨K,cs,T,hb',hF,I,hcs,H⟩
      ·
        have h00:=congrArg Nae a5.2;dsimp only at h00;have hl0:l=[]:=Δ U;have O:r=[]:=Δ U;subst hl0;subst O;have f:=sJ (w:=w) (ty:=o.type) ht hi hu rfl;have hxe:a.eval x=.slice s5 0 0:=l5
        rw[←hxe]at f;have key:=ti (w':=w) hr.inv (e':=.live i.size (g+1) ([]++[])) hm rfl rfl s5 (g+1) 0 (0,0) (.inl U) rfl rfl rfl (x? _) (λ_ _ _=>rfl) (λk h=>by cases h)
         ⟨by simp[Gh.vh],by grind[Gh.vh],by simp[Gh.vh],o0,.inl ⟨by simp[Gh.vh],by simp[Gh.vh]⟩⟩
        exact⟨_,_,_,lift _ _ f,.inl ⟨_,rfl,by grind[ZM]⟩,key.1,key.2⟩
      ·
        have Y:=Β i.size j9;rw[kad]at Y;have hfit:(G.C id).2+l.length*i.size+news.length<=cs.size:=by rw[hu.len];omega
        have f:=iU (ty:=o.type) ht hi hu rfl (sLen:=l.length) (sCap:=(G.C id).1) I j9 hfit;have hxe:a.eval x=.slice (M ⟨K,(G.C id).2,s5⟩) l.length (G.C id).1:=l5
        rw[←hxe]at f;obtain⟨A,j8⟩:∃A:Array a41,A=(cs.toList.take ((G.C id).2+l.length*i.size)++news++cs.toList.drop ((G.C id).2+l.length*i.size+news.length)).toArray:=⟨_,rfl⟩;rw[←j8]at f;have hget:∀k,A[k]?=if(G.C id).2+l.length*i.size<=k/\k<(G.C id).2+l.length*i.size+news.length then news[k-((G.C id).2+l.length*i.size)]? else cs[k]?:=by
         intro k;rw[j8,sac,DA _ _ _ _ U];simp
        have hsz':A.size=cs.size:=by
         grind
        have E:∀k,G.B id≠M k->(w.setRow K A).heap[k]?=w.heap[k]?:=λk hk=>setRow_other w K k A λh=>hk l5;have X:Le G w (G.vh id (M K) (g+1) (l.length+r.length) (G.C id)) (w.setRow K A):=by
         refine⟨λ_ h=>h,λk hk=>E k λh=>l5,x? _,λj _=>?_⟩
         grind[Gh.vh]
        have D:=setRow_heap w K cs A T (0,0) I;have hin:=zA I H;have Z:Vi G w i.size (l++r) A (G.C id).2:=by
         intro j q hq;rw[Rac]at hq;split at hq
         .rename_i hj;obtain⟨u,g1,g2,g3⟩:=hin j q hq;refine⟨u,g1,g2,λk c hk=>⟨(g3 k c hk).1,?_⟩⟩;have hks:k<i.size:=o4
          have hmj:=Β i.size (show j+1<=l.length from hj)
          grind
         .rename_i hj;obtain⟨u,g1,g2,g3⟩:=hu.row (j-l.length) q hq;refine⟨u,g1,g2,λk c hk=>⟨(g3 k c hk).1,?_⟩⟩;have hk':=(g3 k c hk).2;have hlt:(j-l.length)*i.size+k<news.length:=o4
          have hge:l.length*i.size<=j*i.size:=Β i.size U;have hidx:j*i.size+k+(G.C id).2-((G.C id).2+l.length*i.size)=(j-l.length)*i.size+k:=by grind[paf]
          grind
        have key:=ti (w':=w.setRow K A) hr.inv (e':=.live i.size (g+1) (l++r)) hm rfl rfl (M K) (g+1) (l.length+r.length) (G.C id) (.inl U) rfl rfl rfl
         o0 (λk _ hk=>E k hk) (λk hk=>.inl l5)
         ⟨by simp[Gh.vh],by grind[Gh.vh],by simp[Gh.vh],by grind[Gh.vh],.inr ⟨K,A,T,by simp[Gh.vh],hF,D,by grind[Gh.vh],by simpa [Gh.vh] using Ro D (Z.mono X)⟩⟩
        exact⟨_,_,_,lift _ _ f,.inl ⟨_,rfl,ZM (b:=M K) hid⟩,key.1,key.2⟩
     ·
       have f:=rJ (w:=w) (ty:=o.type) ht hi hzz hu Q rfl (sCap:=(G.C id).1) (by rw[hp,a3]) U U U;have S:=RB w (l.length+r.length) (G.C id).1 e;have H:Vi G w i.size (l++r) (V.toArray++news.toArray++Builtin.zeroCells z.cells (grownCap w (l.length+r.length) (G.C id).1 e-(l.length+r.length))):=Vi.append Q.row hu.row Q.len _;generalize j6:(V.toArray++news.toArray++Builtin.zeroCells z.cells (grownCap w (l.length+r.length) (G.C id).1 e-(l.length+r.length)))=cells at H f;have hcsz:grownCap w (l.length+r.length) (G.C id).1 e*i.size<=cells.size:=by
        rw[←j6];simp only[cae,Qab,hu.len,Q.len,QH,←hsz];rw[←kad,←kad]
        simp_all
       have E:∀k,k<w.heap.size->(w.drew.alloc (.cells cells e)).heap[k]?=w.heap[k]?:=λk hk=>Below.heap_alloc w.drew _ _ hk;have D:(w.drew.alloc (.cells cells e)).heap[w.heap.size]?=M (.cells cells e (0,0)):=heap_alloc_new w.drew _;have X:Le G w (G.vh id (M w.heap.size) (g+1) (l.length+r.length) (grownCap w (l.length+r.length) (G.C id).1 e,0)) (w.drew.alloc (.cells cells e)):=by
        refine⟨λ_ h=>h,λk hk=>E k (hr.inv.F k hk),x? _,λj _=>?_⟩
        grind[Gh.vh]
       have key:=ti (w':=w.drew.alloc (.cells cells e)) hr.inv (e':=.live i.size (g+1) (l++r)) hm rfl rfl (M w.heap.size) (g+1) (l.length+r.length) (grownCap w (l.length+r.length) (G.C id).1 e,0)
        (.inl U) rfl rfl rfl o0 (λk hk _=>E k hk) (λk hk=>.inr l5)
        ⟨by simp[Gh.vh],by grind[Gh.vh],by simp[Gh.vh],by grind[Gh.vh],.inr ⟨w.heap.size,cells,e,by simp[Gh.vh],λhF=>by have:=hr.inv.F _ hF;omega,D,by grind[Gh.vh],by simpa [Gh.vh] using Ro D (H.mono X)⟩⟩
       exact⟨_,_,_,lift _ _ f,.inl ⟨_,rfl,ZM (b:=M w.heap.size) (C:=(_,0)) hid⟩,key.1,key.2⟩
    simp_all
   simp_all
  simp_all
 simp_all
theorem L3(hr:o? G w a s) (ho:o.op=.slice t x lo hi s5)
 (ht:P.underlying t=M (.slice e)) (A:P.info? e=M i) (he:fa s (.trunc i.size x lo hi)=M (d,m')):p? G w s.m ((execOp a.eval o).run P w) d m':=by
 have hx:=hr.ev x;have other:(∀id Va,s.ev x≠.own id Va)->p? G w s.m ((execOp a.eval o).run P w) d m':=λhne=>by
  grind[fa,K3]
 cases g:s.ev x with
 |own id Va=>
  simp only[fa,g]at he;split at he
  .rename_i S' f l hm;split at he
   .rename_i c h hl Q;split at he
    .rename_i hc;obtain⟨F,rfl,rfl,E⟩:=hc;injection he with he;injection he with e1 e2;subst e1;subst e2;rw[g]at hx;have hn:Hd s.m (.own id f)=M l.length:=by grind[Hd]
     obtain⟨p,cap,K,r⟩:=wH hr.inv hx hn;obtain⟨m,hb,hmh,hmc,n⟩:=DP (P:=P) hr r (mx:=s5) o0 hl Q (k:=l.length) rfl E (x? _) F;have n:=n rfl;subst n;simp only[VRel]at hx;obtain⟨p',n',c',v,D,hver,hx⟩:=hx;rw[K]at v;injection v with q1 R S;subst q1;subst R;subst S;obtain⟨a1,a2,a3,a4,a5⟩:=hr.inv.ent _ _ hm;obtain⟨I,-,hce⟩:=hx a1;obtain⟨C,j9⟩:∃C:Nat×Nat,C=if m=c then(0,(G.C id).2)else(m-c,(G.C id).2+c*i.size):=⟨_,rfl⟩;have z:C.1=m-c:=o4
     have run:(execOp a.eval o).run P w=.ok (.value (.slice ((G.B id).map λb=>⟨b,C.2,s5⟩) (h-c) C.1)) w:=by
      have e0:(execOp a.eval o).run P w=.ok (.value (.slice (if m=c then p else p.map (·.add (c*i.size))) (h-c) (m-c))) w:=by
       unfold execOp;simp only[ho,K];simp at hb;simp[Instr.sliceAt,Instr.slice,run_underlying ht,hb,Ye A]
      rw[e0,z,I,j9];split
      .rfl
      .cases G.B id with
       |none=>rfl
       |some b=>simp[Wl]
     have H:Le G w (G.vh id (G.B id) (f+1) (h-c) C) w:=by
      refine⟨λ_ h=>h,λ_ _=>rfl,x? _,λj _=>?_⟩
      grind[Gh.vh]
     have hlen:((l.take h).drop c).length=h-c:=o4
     have key:=ti (w':=w) hr.inv (e':=.live i.size (f+1) ((l.take h).drop c)) hm rfl rfl (G.B id) (f+1) (h-c) C (.inl U) rfl rfl rfl (x? _) (λ_ _ _=>rfl) (λk hk=>.inl hk)
      ⟨by simp[Gh.vh],by grind[Gh.vh],by grind[Gh.vh],by grind[Gh.vh],by
       rcases a5 with a5|⟨L,cs,T,hb',O,q,hcs,y⟩
       .refine .inl ⟨by grind[Gh.vh],?_⟩;have j6:=a5.2;have N:=congrArg Nae j6
        grind[Gh.vh]
       .refine .inr ⟨L,cs,T,by grind[Gh.vh],O,q,?_,?_⟩
        .simp only[Gh.vh,if_pos];rw[j9];split
         .omega
         .dsimp only;have N:(m-c)*i.size+c*i.size=m*i.size:=by rw[←kad];grind
          grind
        .have e0:((G.vh id (G.B id) (f+1) (h-c) C).C id).2=C.2:=by simp[Gh.vh]
         rw[e0];by_cases hma:m=c
         .have u:(l.take h).drop c=[]:=Δ U;rw[u];simp[Xa]
         .have e2:C.2=(G.C id).2+c*i.size:=o4
          rw[e2];exact(xA (yA y h) c).mono H rfl⟩
     exact⟨_,_,_,run,.inl ⟨_,rfl,ZM D⟩,key.1,key.2⟩
    simp_all
   simp_all
  simp_all
 |_=>exact other (by intro id Va h;rw[g]at h;cases h)
end
open Go.RowKit (Below)
section
variable {P:a44} {G:Gh} {w:a42} {a:Act} {s:St} {d:D} {m':List Ent}
theorem FL(hr:o? G w a s):∀{xs:List a43}{vs:List a41},r? (xs.map s.ev)=M vs->xs.map a.eval=vs
 |[],vs,h=>by grind[r?]
 |x::xs,vs,h=>by
  have hx:=hr.ev x;simp only[D?]at h;generalize s.ev x=b at *;cases b<;>simp only[r?,reduceCtorEq]at h;simp only[A']at h;obtain⟨us,c,rfl⟩:=h;simp only[VRel]at hx;simp[hx,FL hr c]
theorem ck1(hr:o? G w a s) {isMax:Bool}{xs:Array a43}{JA:Array a45}(ho:o.op=.call { callee:=.builtin (if isMax then .max else .min),args:=xs,argTypes:=JA })
 (he:fa s (.mm isMax xs.toList)=M (d,m')):p? G w s.m ((execOp a.eval o).run P w) d m':=by
 simp only[fa]at he;split at he
 .rename_i vs b;simp only[A',H!]at he;obtain⟨r,hp,rfl,rfl⟩:=he;have hl:=FL hr b;have harr:xs.map a.eval=vs.toArray:=by
   grind
  refine Fa (u:=r) hr.inv ?_ I?;unfold execOp;simp only[ho]
  cases isMax with
  |true=>
   have:∀t n,Builtin.max_ t n vs.toArray=Builtin.max_ #[] 0 vs.toArray:=λ_ _=>rfl
   simp_all[resolve,invoke,builtin,Hy]
  |false=>
   have:∀t n,Builtin.min_ t n vs.toArray=Builtin.min_ #[] 0 vs.toArray:=λ_ _=>rfl
   simp_all[resolve,invoke,builtin,Hy]
 simp_all
theorem uJ{ds:TypeDesc}(hd:P.underlying t=M ds) (hA:yx ds=a39) {cs:Array a41}{u:a41}(hu:cs[off]?=M u):(Go.part t cs off).run P w=.ok u w:=by
 simp_all[Go.part,AA]
theorem eZ{dep:Nat}{k:Nat}{x y:D}{b:Bool}{u:a41}{w:a42}(hk:gO P t=M k) (hb:dz k x y=M b) (hx:VRel G w x u) (a:VRel G w y v) :
 (Op.equalIn (dep+1) t u v).run P w=.ok b w/\∃ds,P.underlying t=M ds/\yx ds=a39:=by
 unfold gO at hk;split at hk
 .rename_i k' hd;injection hk with hk;subst hk;refine⟨?_,_,hd,rfl⟩;cases x<;>cases y<;>simp only[dz,reduceCtorEq]at hb;rename_i x y;cases x<;>cases y<;>simp only[dz,reduceCtorEq]at hb;split at hb
  .rename_i hk;injection hb with hb;simp only[VRel]at hx a
   grind[run_equalIn_int]
  simp_all
 .rename_i hd;injection hk with hk;subst hk;refine⟨?_,_,hd,rfl⟩;cases x<;>cases y<;>simp only[dz,reduceCtorEq]at hb;rename_i x y;cases x<;>cases y<;>simp only[dz,reduceCtorEq]at hb;injection hb with hb;simp only[VRel]at hx a
  grind[run_equalIn_bool']
 .rename_i hd;injection hk with hk;subst hk;refine⟨?_,_,hd,rfl⟩;cases x<;>cases y<;>simp only[dz,reduceCtorEq]at hb;rename_i x y;cases x<;>cases y<;>simp only[dz,reduceCtorEq]at hb;injection hb with hb;simp only[VRel]at hx a
  grind[run_equalIn_string]
 simp_all
theorem uL{dep:Nat}{xs ys:List a41}{w:a42}{f:Field}{fs:List Field}{k:Nat}{r:List D}{t:Bool}(a:f.name≠ "_") (d:f.offset=off) (hk:gO P f.type=M k)
 (he:Je (k::ks) l r=M t) (hl:VsRel G w l (xs.drop off)) (hr:VsRel G w r (ys.drop off))
 (i:∀{l r:List D} {t:Bool},Je ks l r=M t->VsRel G w l (xs.drop (off+1))->VsRel G w r (ys.drop (off+1))->(Op.eqFields (dep+1) xs.toArray ys.toArray fs).run P w=.ok t w) :
 (Op.eqFields (dep+1) xs.toArray ys.toArray (f::fs)).run P w=.ok t w:=by
 cases l with
 |nil=>grind[Je]
 |cons x l=>
  cases r with
  |nil=>grind[Je]
  |cons y r=>
   simp only[Je]at he;split at he
   .rename_i b c hb e;injection he with he;subst he;simp only[VsRel]at hl hr;obtain⟨u,us,hu,hx,hl⟩:=hl;obtain⟨v,vs,hv,j,hr⟩:=hr;have g:xs[off]?=M u:=by have:=congrArg (λl=>l[0]?) hu;grind
    have h:ys[off]?=M v:=by have:=congrArg (λl=>l[0]?) hv;grind
    have hxs:xs.drop (off+1)=us:=by have:=congrArg raf hu;grind[eaf]
    have hys:ys.drop (off+1)=vs:=by have:=congrArg raf hv;grind[eaf]
    have i:=i e l5 l5;obtain⟨e3,ds,hd,hA⟩:=eZ (P:=P) (dep:=dep) hk hb hx j;have e1:=uJ (w:=w) (P:=P) (cs:=xs.toArray) (off:=off) hd hA (by simpa using g);have e2:=uJ (w:=w) (P:=P) (cs:=ys.toArray) (off:=off) hd hA (by simpa using h);simp only[Op.eqFields,a,d,ne_eq,R2,D1,Sem.run_bind,e1,e2,e3,Result.andThen_ok];cases b
    all_goals simp_all
   simp_all
theorem DI{dep:Nat}{xs ys:List a41}{w:a42}:∀{fs:List Field}{ks:List Nat}{off:Nat}{l r:List D}{t:Bool},iO P fs off=M ks->Je ks l r=M t->VsRel G w l (xs.drop off)->VsRel G w r (ys.drop off)->
 (Op.eqFields (dep+1) xs.toArray ys.toArray fs).run P w=.ok t w
 |[],ks,off,l,r,t,a,he,hl,hr=>by
  simp only[iO]at a;injection a with a;subst a;cases l<;>cases r<;>simp[Je]at he
  simp_all[Op.eqFields]
 |f::fs,ks,off,l,r,t,a,he,hl,hr=>by
  simp only[iO]at a;split at a
  .rename_i hc;split at a
   .rename_i k ks' hk b;injection a with a;subst a;exact uL hc.1 hc.2 hk he hl hr λc h2 d=>DI b c h2 d
   simp_all
  simp_all
theorem PD:∀{a d:List Nat}{l r:List D}{t:Bool},Je (a++d) l r=M t->
 ∃t1 t2,Je a (l.take a.length) (r.take a.length)=M t1/\Je d (l.drop a.length) (r.drop a.length)=M t2/\t=(t1&&t2)
 |[],d,l,r,t,h=>⟨a38,t,by simp[Je],l5,o0⟩
 |k::a,d,l,r,t,h=>by
  cases l with
  |nil=>grind[Je]
  |cons x l=>
   cases r with
   |nil=>grind[Je]
   |cons y r=>
    simp only[G?,Je]at h;split at h
    .rename_i b c hb hc;injection h with h;subst h;obtain⟨t1,t2,h1,h2,rfl⟩:=PD hc
     grind[Je]
    .cases h
theorem tJ{gs:Array Field}(hd:P.underlying t=M (.struct gs)) (hi:P.info? t=M i) {w:a42}:(Go.part t cs.toArray off).run P w=.ok (.agg ((cs.drop off).take i.size).toArray) w:=by
 unfold Go.part;have hsz:(sizeOf t).run P w=.ok i.size w:=by simp[sizeOf,typeInfo,hi]
 have hA:yx (.struct gs)=a38:=rfl
 simp_all[AA]
theorem LB{dep:Nat}{xs ys:List a41}{w:a42}:∀{fs:List Field}{ks:List Nat}{off:Nat}{l r:List D}{t:Bool},yD P fs off=M ks->Je ks l r=M t->VsRel G w l (xs.drop off)->VsRel G w r (ys.drop off)->
 (Op.eqFields (dep+1+1) xs.toArray ys.toArray fs).run P w=.ok t w
 |[],ks,off,l,r,t,a,he,hl,hr=>by
  simp only[yD]at a;injection a with a;subst a;cases l<;>cases r<;>simp[Je]at he
  simp_all[Op.eqFields]
 |f::fs,ks,off,l,r,t,a,he,hl,hr=>by
  simp only[yD]at a;split at a
  .rename_i hc;split at a
   .rename_i gs hd;split at a
    .rename_i b i g hi;split at a
     .rename_i c;simp only[A']at a;obtain⟨ks2,j,rfl⟩:=a;obtain⟨t1,t2,d,h2,rfl⟩:=PD he;have e:P.fieldsOf f.type=gs:=by grind[Program.fieldsOf]
      have e1:=tJ (w:=w) hd hi (cs:=xs) (off:=off);have e2:=tJ (w:=w) hd hi (cs:=ys) (off:=off);rw[c.1]at e1 e2;have e3:(Op.equalIn (dep+1+1) f.type (.agg ((xs.drop off).take b.length).toArray) (.agg ((ys.drop off).take b.length).toArray)).run P w=.ok t1 w:=by
       rw[run_equalIn_struct w _ f.type _ _ l5 c.2,e];exact DI (dep:=dep) (G:=G) (off:=0) g d (by simpa using hl.take b.length) (by simpa using hr.take b.length)
      have ih:=LB (dep:=dep) (xs:=xs) (ys:=ys) j h2 (by simpa [Yad] using hl.drop b.length) (by simpa [Yad] using hr.drop b.length);simp only[Op.eqFields,hc.1,hc.2,ne_eq,R2,D1,Sem.run_bind,e1,e2,e3,Result.andThen_ok];cases t1
      all_goals simp_all
     simp_all
    simp_all
   .split at a
    .rename_i k ks' hk h;injection a with a;subst a;exact uL hc.1 hc.2 hk he hl hr λd h2 m=>LB h d h2 m
    simp_all
  simp_all
theorem ck9(hr:o? G w a s) {h:a45}(ho:o.op=.binOp op t x y h) (ht:P.underlying t=M (.struct fs)) (e:op=.eql\/op=.neq)
 (g:P.stoodInHeld t=a39) (h2:P.eqGuardType P.depth t=a39) (hk:yD P fs.toList 0=M ks) (he:fa s (.ceq (s6 (op=.neq)) ks x y)=M (d,m')) :
 p? G w s.m ((execOp a.eval o).run P w) d m':=by
 have hx:=hr.ev x;have f:=hr.ev y;simp only[fa]at he;unfold execOp;simp only[ho];generalize s.ev x=dx at *;generalize s.ev y=dy at *;split at he
 .rename_i l r;simp only[VRel]at hx f;obtain⟨xs,hx,hl,-⟩:=hx;obtain⟨ys,f,hr',-⟩:=f;simp only[A',H!]at he;obtain⟨b,hb,rfl,rfl⟩:=he;have c:P.fieldsOf t=fs:=by grind[Program.fieldsOf]
  have hrun:(Op.equalIn 10000 t (.agg xs.toArray) (.agg ys.toArray)).run P w=.ok b w:=by
   rw[show(10000:Nat)=9997+1+1+1 from rfl,run_equalIn_struct w _ t _ _ l5 g,c];exact LB (dep:=9997) (G:=G) (off:=0) hk hb l5 l5
  have hg:=run_eqGuard_agg (P:=P) w op t x y xs.toArray ys.toArray h2;rcases e with rfl|rfl
  .refine Fa (u:=.bool b) hr.inv ?_ I?
   simp_all[run_eql_struct]
  .refine Fa (u:=.bool (!b)) hr.inv ?_ I?
   simp_all[run_neq_struct]
 simp_all
theorem bm9(hr:o? G w a s) (ho:o.op=.index t x y) (ht:P.underlying t=M .string) (he:fa s (.CA x y)=M (d,m')) :
 p? G w s.m ((execOp a.eval o).run P w) d m':=by
 have hx:=hr.ev x;have e:=hr.ev y;simp only[fa]at he;unfold execOp;simp only[ho];generalize s.ev x=dx at *;generalize s.ev y=dy at *;split at he
 .rename_i b jk k;split at he
  .rename_i hk;injection he with he;injection he with c h2;subst c;subst h2;simp only[VRel]at hx e;refine Fa (u:=.int .u8 (b[k.toNat]'hk.2).toNat) hr.inv ?_ I?
   simp_all[Instr.index,asIntOf,run_underlying]
  simp_all
 simp_all
theorem ao8(hr:o? G w a s) (ho:o.op=.slice t x lo hi s5) (ht:P.underlying t=M .string) (he:fa s (.sslice x lo hi)=M (d,m')) :
 p? G w s.m ((execOp a.eval o).run P w) d m':=by
 have hx:=hr.ev x;simp only[fa]at he;have one:∀{x:Option a43} {c r:Nat},bound s c x=M r->(x=s5/\r=c)\/∃y j,x=M y/\a.eval y=.int j (r:Int):=by
  intro x c r hb
  cases x with
  |none=>simp[bound]at hb;simp_all
  |some y=>
   have g:=hr.ev y;simp only[bound]at hb;generalize s.ev y=dy at *;split at hb
   .rename_i j q;split at hb
    .rename_i hq;injection hb with hb;simp only[VRel]at g
     grind
    simp_all
   simp_all
 have rb:∀(x:a41) (y:Nat) (code:BoundsCode) (j:IntKind) (r:Nat),x=.int j (r:Int)->r<=y->(Instr.sliceBound x y code).run P w=.ok r w:=λx y code j r hx hr'=>by
  have:=vS (P:=P) x y code hx (Tad r) U w
  simp_all
 unfold execOp;simp only[ho];generalize s.ev x=dx at *;split at he
 .rename_i b;split at he
  .rename_i l h hl f;split at he
   .rename_i hc;injection he with he;injection he with e h2;subst e;subst h2;simp only[VRel]at hx;refine Fa (u:=.string (b.extract l h)) hr.inv ?_ I?;rcases one hl with⟨rfl,rfl⟩|⟨yl,jl,rfl,el⟩<;>rcases one f with⟨rfl,rfl⟩|⟨yh,jh,rfl,eh⟩
    all_goals simp_all[Instr.sliceAt,Instr.slice,Instr.sliceBounds,run_underlying]
   simp_all
  simp_all
 simp_all
theorem WS(w:a42) (b n k:Nat) (p:Addr):(w.freeze ⟨b,n,s5⟩ k).cell? p=w.cell? p:=by
 grind[World.freeze,World.cell?]
theorem II(w:a42) (b n k j:Nat) (h:j≠b):(w.freeze ⟨b,n,s5⟩ k).heap[j]?=w.heap[j]?:=by
 grind[World.freeze]
theorem oX(w:a42) (b n k:Nat):(w.freeze ⟨b,n,s5⟩ k).heap.size=w.heap.size:=by
 grind[World.freeze]
theorem cX(w:a42) (b n k:Nat):(w.freeze ⟨b,n,s5⟩ k).os=w.os/\(w.freeze ⟨b,n,s5⟩ k).tape=w.tape/\(w.freeze ⟨b,n,s5⟩ k).output=w.output:=by
 unfold World.freeze
 grind
def Gh.fz(G:Gh) (id:Nat):Gh:={ G with F:=λb=>G.F b\/G.B id=M b,V:=λi=>if i=id then G.V i+1 else G.V i }
theorem Le.fzW{G:Gh}{w:a42}(id:Nat) (h:∀b,G.F b->w'.heap[b]?=w.heap[b]?):Le G w (G.fz id) w':=by
 refine⟨λ_ h=>.inl h,h,x? _,λi _=>?_⟩
 grind[Gh.fz]
theorem I8{G:Gh}{w:a42}(hi:Inv G w m) {e:Ent}(hm:m[id]?=M e) (hl:e.isLive=a38)
 (t:w'.os=w.os) (l:w'.tape=w.tape) (q:w'.output=w.output) (f:w'.heap.size=w.heap.size) (a:∀k,G.B id≠M k->w'.heap[k]?=w.heap[k]?) :
 Inv (G.fz id) w' (m.set id .gone)/\Step G w m (G.fz id) w' (m.set id .gone):=by
 have g:Le G w (G.fz id) w':=Le.fzW id λb hb=>a b λh=>((hi.ent id e hm).lt hl h).2 hb;have d:∀i x,(m.set id .gone)[i]?=M x->(i=id/\x=.gone)\/(i≠id/\m[i]?=M x):=by
  grind
 refine⟨⟨by simp[Gh.fz,hi.n],?_,?_,?_,hi.gl.mono g⟩,⟨g,t,l,q,U,?_,?_,?_⟩⟩
 .rintro b (h|h)
  .rw[f];exact hi.F b h
  .rw[f];exact((hi.ent _ _ hm).lt hl h).1
 .intro i x hx;rcases d i x hx with⟨rfl,rfl⟩|⟨p,c⟩
  .trivial
  .by_cases o:x.isLive=a38
   .refine(hi.ent i x c).mono g (by grind[Gh.fz]) (λb hb=>a b λh=>p (hi.apart i id x e c hm o hl b hb h)) ?_;rintro b hb _ (h|h)
    .exact h
    .exact(p (hi.apart i id x e c hm o hl b hb h)).elim
   .cases x with
    |gone=>trivial
    |_=>grind[Ent.isLive]
 .intro i j x y hx A r v b hb s;rcases d i x hx with⟨rfl,rfl⟩|⟨_,c⟩
  .cases r
  .rcases d j y A with⟨rfl,rfl⟩|⟨_,u⟩
   .cases v
   .exact hi.apart i j x y c u r v b hb s
 .intro b _ ho;exact a b λh=>ho ⟨id,e,hm,hl,h⟩
 .rintro b _ (h|h)
  .simp_all
  .exact .inr ⟨id,e,hm,hl,h⟩
 .rintro b _ ⟨i,x,hx,r,z⟩;rcases d i x hx with⟨rfl,rfl⟩|⟨_,c⟩
  .cases r
  .exact⟨i,x,c,r,z⟩
theorem ab1{G:Gh}{w:a42}{d:D}{u:a41}(h:isV d=a38) (hv:VRel G w d u):VRel G' w' d u:=by
 cases d<;>simp[isV]at h;simpa [VRel] using hv
theorem bm7(hr:o? G w a s) {S:Nat}(ho:o.op=.convert t t x) (ht:P.underlying t=M (.slice e)) (hu:P.underlying e=M (.int .u8)) (he:fa s (.strb S x)=M (d,m')) :
 p? G w s.m ((execOp a.eval o).run P w) d m':=by
 have hx:=hr.ev x;simp only[fa]at he;generalize s.ev x=dx at *;split at he
 .rename_i id Va;split at he
  .rename_i S ver' l hm;split at he
   .rename_i hc;obtain⟨rfl,rfl,hpos,hv⟩:=hc;injection he with he;injection he with y h2;subst y;subst h2;simp only[VRel]at hx;obtain⟨p,n,c,v,hid,hver,hx⟩:=hx;have f:=hr.inv;obtain⟨a1,a2,a3,a4,a5⟩:=f.ent _ _ hm;obtain⟨rfl,rfl,rfl⟩:=hx a1;rcases a5 with a5|⟨b,cs,T,hb,hF,hblk,hsz,g⟩
    .simp_all
    .rw[hb]at v;have r:a.eval x=.slice (M ⟨b,(G.C id).2,s5⟩) (G.N id) (G.C id).1:=v;have hshape:w.shape? b=M (T,cs.size):=by grind[World.shape?]
     have q:(execOp a.eval o).run P w=.ok (.value (a.eval x)) (w.freeze ⟨b,cs.size,s5⟩ 1):=by
      simp_all[execOp,convert,markStringish,run_underlying]
     obtain⟨B,D,E⟩:=cX w b cs.size 1;obtain⟨g1,g2⟩:=I8 (w':=w.freeze ⟨b,cs.size,s5⟩ 1) f hm rfl B D E (oX _ _ _ _) λk hk=>II w b _ _ k λh=>hk l5;refine⟨_,_,_,q,.inl ⟨_,rfl,?_⟩,g1,g2⟩;rw[r];simp only[VRel];refine⟨_,_,_,rfl,a3,U,.inr ⟨b,(G.C id).2,rfl,.inr hb,bg.2 λi e he=>?_⟩⟩;obtain⟨u,z,A,k3⟩:=bg.1 g i e he;exact⟨u,ab1 (List.all_eq_true.1 hv e (List.mem_of_getElem? he)) z,A,λj c hj=>⟨(k3 j c hj).1,by rw[WS];exact(k3 j c hj).2⟩⟩
   simp_all
  simp_all
 simp_all
theorem OI(h:Ux P t=M K):(K=0/\P.underlying t=M (.int .i64))\/(K=2/\P.underlying t=M .string):=by
 grind[Ux]
theorem Q?(h:Ux P t=M K) {a:a41}(hk:u? K a=a38) (b:Bool) (w:a42):(Instr.checkKey b 10000 t a).run P w=.ok () w:=by
 rw[show(10000:Nat)=9999+1 from rfl,Instr.checkKey];rcases OI h with⟨rfl,ht⟩|⟨rfl,ht⟩
 all_goals simp_all[run_underlying]
theorem ag6(h:Ux P t=M K) {p:a41}(a:u? K p=a38) (hq:u? K q=a38):∃ds,P.underlying t=M ds/\Instr.sameNow ds p q=M (sv p q):=by
 rcases OI h with⟨rfl,ht⟩|⟨rfl,ht⟩
 .refine⟨_,ht,?_⟩;cases p<;>simp[u?]at a;cases q<;>simp[u?]at hq
  grind[Instr.sameNow,sv]
 .refine⟨_,ht,?_⟩;cases p<;>simp[u?]at a;cases q<;>simp[u?]at hq;simp[Instr.sameNow,sv]
theorem lO{t:a45}{K:Nat}(h:Ux P t=M K) {f:a41}(hk:u? K f=a38) {ds:TypeDesc}(l:P.underlying t=M ds):∀{es:List (a41×D)}{g:List MapEntry}(i:Nat),(es.all λe=>u? K e.1)=a38->Oe G w es g->
 (Wt f es=s5/\Instr.findNow ds f g i=M s5)\/∃d j e,Wt f es=M d/\Instr.findNow ds f g i=M (M (i+j,e.val))/\g[j]?=M e/\VRel G w d e.val/\sv f e.key=a38/\u? K e.key=a38/\
  ∀(G':Gh) (w':a42) (x:D) (u:a41),Oe G' w' es g->VRel G' w' x u->Oe G' w' (Iy f x es) (g.modify j λe=>{ e with key:=f,val:=u })
 |[],g,i,_,hm=>by
  simp only[Oe]at hm;subst hm;exact .inl ⟨rfl,rfl⟩
 |(q,d)::es,g,i,a,hm=>by
  simp only[Oe]at hm;obtain⟨e,r,rfl,rfl,hv,hm⟩:=hm;simp only[List.all_cons,Bool.and_eq_true]at a;obtain⟨ds',b,n⟩:=ag6 h hk a.1;rw[l]at b;injection b with b;subst b;simp only[Wt,Instr.findNow,n];by_cases c:sv f e.key=a38
  .rw[J c,c];refine .inr ⟨d,0,e,rfl,rfl,rfl,hv,c,a.1,λG' w' x u k hx=>?_⟩;simp only[Iy,J c,List.modify_zero_cons,Oe]at k⊢
   grind
  .have hf:sv f e.key=a39:=l5
   rw[p6 c,hf];simp only;rcases lO h hk l (i+1) a.2 hm with⟨o,h2⟩|⟨d',j,e',o,h2,h3,p,s,m,h6⟩
   .simp_all
   .refine .inr ⟨d',j+1,e',o,o4,l5,p,s,m,λG' w' x u k hx=>?_⟩;simp only[Iy,p6 c,List.modify_succ_cons,Oe]at k⊢
    grind
theorem SG{a:a41}{x:D}:∀{es:List (a41×D)},Wt a es=s5->Iy a x es=es++[(a,x)]
 |[],_=>rfl
 |(q,d)::es,h=>by
  simp only[Wt]at h;split at h
  .cases h
  .rename_i hk;simp only[Iy,p6 hk,SG h,G?]
theorem HL{G:Gh}{w:a42}{c:a41}{x:D}{u:a41}{b:Nat}(hx:VRel G w x u):∀{es:List (a41×D)}{a:List MapEntry},Oe G w es a->Oe G w (es++[(c,x)]) (a++[⟨c,u,b⟩])
 |[],a,h=>by
  simp only[Oe]at h;subst h;simp only[List.nil_append,Oe]
  grind
 |(q,d)::es,a,h=>by
  simp only[Oe]at h;obtain⟨e,r,rfl,f,h2,g⟩:=h;simp only[G?,Oe];exact⟨e,_,rfl,f,h2,HL hx g⟩
theorem aL9(hr:o? G w a s) (ho:o.op=.makeMap t s5) (he:fa s .mkmap=M (d,m')):p? G w s.m ((execOp a.eval o).run P w) d m':=by
 simp only[fa]at he;injection he with he;injection he with c h2;subst c;subst h2;have b:(w.alloc (.map #[] 0)).heap[w.heap.size]?=M (.map #[] 0):=heap_alloc_new w _;obtain⟨g1,g2⟩:=vE (w':=w.alloc (.map #[] 0)) hr.inv (M w.heap.size) 0 0 0 (.mp []) rfl rfl rfl rfl o0 (λk hk=>Below.heap_alloc _ _ _ hk) (λk h=>l5)
  ⟨by simp[Gh.add],w.heap.size,#[],0,by simp[Gh.add],λe=>by have:=hr.inv.F _ e;omega,b,by simp[Oe]⟩
 refine⟨.value (.map (M w.heap.size)),_,_,?_,.inl ⟨_,rfl,?_⟩,g1,g2⟩
 .simp_all[execOp,Instr.makeMap]
 .simp only[VRel];exact⟨w.heap.size,rfl,by simp[Gh.add,hr.inv.n],λ_=>by simp[Gh.add,hr.inv.n]⟩
theorem C?(h:Ux P t=M K) {b:a41}{a:List MapEntry}{ds:TypeDesc}(hds:P.underlying t=M ds) {r:Option (Nat×a41)}(hf:Instr.findNow ds b a 0=M r) (w:a42) :
 (Instr.findKey t b a).run P w=.ok r w:=by
 simp_all[Instr.findKey,run_underlying]
theorem aL8(hr:o? G w a s) {A C:a45}{ok:Bool}{k:a43}(ho:o.op=.lookup t x k ok) (ht:P.underlying t=M (.map A C)) (q:Ux P A=M K) (F:q? P C=M z)
 (he:fa s (.mlook K ok (z? z) x k)=M (d,m')):p? G w s.m ((execOp a.eval o).run P w) d m':=by
 have hx:=hr.ev x;have hk:=hr.ev k;obtain⟨y,p,hz3,-⟩:=Iq F w;simp only[fa]at he;unfold execOp;simp only[ho];generalize s.ev x=dx at *;generalize s.ev k=dk at *;split at he
 .rename_i B;simp only[VRel]at hk;split at he
  .rename_i f;have i:=λb=>Q? q f b w;have c:∃ds,P.underlying A=M ds:=by grind[OI]
   obtain⟨ds,c⟩:=c;have fin:∀(u:a41) (e:D) (b:Bool),VRel G w e u->M (if ok=a38 then D.tup [e,.v (.bool b)]else e,s.m)=M (d,m')->
    (Sem.run P (do let r←Instr.lookup t (a.eval x) B ok;pure (Next.value r)) w=.ok (.value (if ok=a38 then .tuple #[u,.bool b]else u)) w)->p? G w s.m (Sem.run P (do let r←Instr.lookup t (a.eval x) B ok;pure (Next.value r)) w) d m':=by
    intro u e b hv hd l;injection hd with hd;injection hd with g h2;subst g;subst h2;refine Fa hr.inv l ?_
    cases ok with
    |true=>
     simp only[D1,VRel];refine⟨[u,.bool b],rfl,?_⟩;simp only[VsRel];exact⟨u,_,rfl,hv,_,_,rfl,I?,rfl⟩
    |false=>simp_all
   rw[hk];split at he
   .simp only[VRel]at hx;refine fin z (z? z) a39 (GC z p) he ?_;rw[hx];have hf:Instr.findNow ds B [] 0=M s5:=rfl
    simp_all[Instr.lookup,run_underlying,C?]
   .rename_i id;split at he
    .rename_i es hm;split at he
     .rename_i h;simp only[VRel]at hx;obtain⟨b,n,hid,hb⟩:=hx;obtain⟨a1,b',en,cl,a2,a3,a4,a5⟩:=hr.inv.ent _ _ hm;rw[hb a1]at a2;injection a2 with a2;subst a2;rcases lO q f c 0 h a5 with⟨g,h2⟩|⟨d',j,e',g,h2,h3,E,h5,h5',h6⟩
      .rw[g]at he;refine fin z (z? z) a39 (GC z p) he ?_;rw[n];simp[Instr.lookup,run_underlying ht,getObj,Sem.run,a4,i,C? q c h2,y]
      .rw[g]at he;refine fin e'.val d' a38 E he ?_;rw[n];simp[Instr.lookup,run_underlying ht,getObj,Sem.run,a4,i,C? q c h2]
     simp_all
    simp_all
   simp_all
  simp_all
 simp_all
theorem bn3(hr:o? G w a s) {g f:a45}(ho:o.op=.call { callee:=.builtin .len,args:=#[x],argTypes:=#[t] })
 (ht:P.underlying t=M (.map g f)) (he:fa s (.mlen x)=M (d,m')):p? G w s.m ((execOp a.eval o).run P w) d m':=by
 have hx:=hr.ev x;simp only[fa]at he;unfold execOp;simp only[ho];generalize s.ev x=dx at *;split at he
 .injection he with he;injection he with e h2;subst e;subst h2;simp only[VRel]at hx;refine Fa (u:=.int .i64 0) hr.inv ?_ I?
  simp_all[resolve,invoke,builtin,Builtin.len_,goInt,run_underlying]
 .rename_i id;split at he
  .rename_i es hm;injection he with he;injection he with e h2;subst e;subst h2;simp only[VRel]at hx;obtain⟨b,hxv,hid,hb⟩:=hx;obtain⟨a1,b',c,cl,a2,a3,a4,a5⟩:=hr.inv.ent _ _ hm;rw[hb a1]at a2;injection a2 with a2;subst a2;have hlen:c.size=es.length:=by
    have:∀{es:List (a41×D)} {c:List MapEntry},Oe G w es c->c.length=es.length:=by
     intro es
     induction es with
     |nil=>intro c h;simp only[Oe]at h;grind
     |cons p es ih=>
      intro c h;obtain⟨k,d⟩:=p;simp only[Oe]at h
      grind
    grind
   refine Fa (u:=.int .i64 es.length) hr.inv ?_ I?
   simp_all[resolve,invoke,builtin,Builtin.len_,goInt,getObj,Sem.run,run_underlying]
  simp_all
 simp_all
theorem DL(h:u? K v=a38):(∃a,v=.int .i64 a)\/∃b,v=.string b:=by
 unfold u? at h
 grind
theorem aa7{b c:ByteArray}(h:(b==c)=a38):b=c:=by
 cases b with|mk b=>cases c with|mk c=>
  have h':(b==c)=a38:=h
  simp_all
theorem kU{p:a41}(c:u? K p=a38) (hq:u? K q=a38) (h:sv p q=a38):Instr.sameBits 10000 q p=a38:=by
 rcases DL c with⟨a,rfl⟩|⟨a,rfl⟩<;>rcases DL hq with⟨b,rfl⟩|⟨b,rfl⟩<;>simp only[sv,Bool.false_eq_true]at h
 all_goals grind[Instr.sameBits,aa7]
theorem bn2(hr:o? G w a s) {H j9:a45}{m k:a43}(ho:o.op=.mapUpdate t m k x) (ht:P.underlying t=M (.map H j9)) (I:Ux P H=M K)
 (he:fa s (.mput K m k x)=M (d,m')):p? G w s.m ((execOp a.eval o).run P w) d m':=by
 have hx:=hr.ev x;have hk:=hr.ev k;have v:=hr.ev m;simp only[fa]at he;unfold execOp;simp only[ho];generalize s.ev x=z at *;generalize s.ev k=dk at *;generalize s.ev m=dm at *;split at he
 .rename_i r id;split at he
  .rename_i es hm;split at he
   .rename_i hc;obtain⟨n,u⟩:=hc;injection he with he;injection he with A h2;subst A;subst h2;simp only[VRel]at hk v;obtain⟨b,hxv,hid,hb⟩:=v;obtain⟨a1,b',E,D,a2,a3,a4,a5⟩:=hr.inv.ent _ _ hm;rw[hb a1]at a2;injection a2 with a2;subst a2;have hblt:b<w.heap.size:=(jac.1 a4).1;have hck:=λc=>Q? I n c w;have p:∃ds,P.underlying H=M ds:=by grind[OI]
    obtain⟨ds,p⟩:=p;have fin:∀(f:Array MapEntry) (g:Nat),(∀G' w',Le G w G' w'->Oe G' w' (Iy r z es) f.toList)->(Instr.mapUpdate t (.map (M b)) r (a.eval x)).run P w=.ok () { w with heap:=w.heap.setIfInBounds b (.map f g) }->
     p? G w s.m (Sem.run P (do Instr.mapUpdate t (a.eval m) (a.eval k) (a.eval x);pure Next.skip) w) .dead (s.m.set id (.mp (Iy r z es))):=by
     intro f g y hrun;have l:∀j,j≠b->({ w with heap:=w.heap.setIfInBounds b (.map f g) }:a42).heap[j]?=w.heap[j]?:=λj hj=>by
      grind
     have q:({ w with heap:=w.heap.setIfInBounds b (.map f g) }:a42).heap[b]?=M (.map f g):=by
      simp_all
     have i:Le G w G { w with heap:=w.heap.setIfInBounds b (.map f g) }:=⟨λ_ h=>h,λj hj=>l j λh=>a3 (h▸hj),x? _,λ_ _=>.inl ⟨rfl,rfl,rfl,rfl,rfl⟩⟩;have key:=ti (w':={ w with heap:=w.heap.setIfInBounds b (.map f g) }) hr.inv (e':=.mp (Iy r z es)) hm rfl rfl (G.B id) (G.V id) (G.N id) (G.C id) (.inr ⟨rfl,rfl,rfl,rfl⟩) rfl rfl rfl
      o0 (λj _ hj=>l j λh=>hj l5) (λj hj=>.inl hj)
      (by rw[aD];exact⟨a1,b,f,g,hb a1,a3,q,y _ _ i⟩)
     rw[aD]at key;refine⟨_,_,G,?_,.inr ⟨rfl,rfl⟩,key.1,key.2⟩
     simp_all
    rcases lO I n p 0 u a5 with⟨A,h2⟩|⟨d',j,e',A,h2,h3,h4,L,F,j6⟩
    .refine fin (E.push ⟨r,a.eval x,D⟩) (D+1) (λG' w' i=>?_) ?_
     .rw[SG A,Array.toList_push];exact HL (hx.mono i) (a5.mono i)
     simp_all[Instr.mapUpdate,getObj,setObj,Sem.run,run_underlying,C?]
    .refine fin (E.modify j λe=>{ e with key:=r,val:=a.eval x }) D (λG' w' i=>?_) ?_
     .rw[Array.toList_modify];exact j6 G' w' z (a.eval x) (a5.mono i) (hx.mono i)
     .have hej:E[j]?=M e':=l5
      have hsb:=kU n F L
      simp_all[Instr.mapUpdate,getObj,setObj,Sem.run,Instr.keyThatStays,run_underlying,C?]
   simp_all
  simp_all
 simp_all
theorem ae9{l:List α}{i:Nat}{x:α}(h:l[i]?=M x):l.set i x=l:=by
 apply List.ext_getElem?
 grind
theorem aM0(hr:o? G w a s) (ho:o.op=.makeInterface t x) (hc:∃i,P.underlying t=M i/\∀ms,i≠.interface ms)
 (he:fa s (.mkifc t x)=M (d,m')):p? G w s.m ((execOp a.eval o).run P w) d m':=by
 simp only[fa]at he;injection he with he;injection he with b h2;subst b;subst h2;obtain⟨i,ht,hi⟩:=hc;refine Fa (u:=.iface t (a.eval x)) hr.inv ?_ (by simp only[VRel];exact⟨_,rfl,hr.ev x⟩);unfold execOp;simp only[ho];cases i<;>first|exact(hi _ rfl).elim|simp[Instr.makeInterface,run_underlying ht]
theorem G8(hr:o? G w a s) {xt:a45}{ok:Bool}(ho:o.op=.typeAssert x xt t ok) (hc:∃i,P.underlying t=M i/\∀ms,i≠.interface ms)
 (k:q? P t=M z) (he:fa s (.tassert ok t (z? z) x)=M (d,m')):p? G w s.m ((execOp a.eval o).run P w) d m':=by
 have hx:=hr.ev x;simp only[fa]at he;generalize s.ev x=dx at *;obtain⟨i,ht,hi⟩:=hc;obtain⟨h,j,-,-⟩:=Iq k w;split at he
 .rename_i t' e;simp only[VRel]at hx;obtain⟨u,hu,hv⟩:=hx;have b:∀r,(Instr.typeAssert (.iface t' u) xt t ok).run P w=r->(execOp a.eval o).run P w=r.andThen λv w=>.ok (.value v) w:=by
   simp_all[execOp]
  split at he
  .rename_i c;subst c;injection he with he;injection he with f h2;subst f;subst h2;have:(Instr.typeAssert (.iface t' u) xt t' ok).run P w=.ok (if ok=a38 then .tuple #[u,.bool a38]else u) w:=by
    cases i<;>first|exact(hi _ rfl).elim|(cases ok<;>simp[Instr.typeAssert,run_underlying ht])
   refine Fa hr.inv (b _ this) ?_
   cases ok with
   |true=>
    simp only[D1,VRel];refine⟨[u,.bool a38],rfl,?_⟩;simp only[VsRel];exact⟨u,_,rfl,hv,_,_,rfl,I?,rfl⟩
   |false=>simp_all
  .rename_i c;split at he
   .rename_i g;subst g;injection he with he;injection he with f h2;subst f;subst h2;have:(Instr.typeAssert (.iface t' u) xt t a38).run P w=.ok (.tuple #[z,.bool a39]) w:=by
     cases i<;>first|exact(hi _ rfl).elim|simp[Instr.typeAssert,run_underlying ht,c,h]
    refine Fa hr.inv (b _ this) ?_;simp only[VRel];refine⟨[z,.bool a39],rfl,?_⟩;simp only[VsRel];exact⟨z,_,rfl,GC z j,_,_,rfl,I?,rfl⟩
   simp_all
 simp_all
theorem bn6(hr:o? G w a s) (ho:o.op=.call { callee:=.builtin .cap,args:=#[x],argTypes:=#[t] })
 (ht:P.underlying t=M (.slice e)) (he:fa s (.capn x)=M (d,m')):p? G w s.m ((execOp a.eval o).run P w) d m':=by
 have hx:=hr.ev x;simp only[fa]at he;generalize s.ev x=dx at *;split at he
 .injection he with he;injection he with b h2;subst b;subst h2;simp only[VRel]at hx;refine Fa (u:=.int .i64 0) hr.inv ?_ I?;unfold execOp;simp only[ho];simp[resolve,invoke,builtin,Builtin.cap_,hx,run_underlying ht];rfl
 simp_all
theorem aR(ht:P.underlying t=M (.slice e)) (a:Option Addr) (n c:Nat) (w:a42):(Op.equal t (.slice a n c) (.slice s5 0 0)).run P w=.ok a.isNone w:=by
 unfold Op.equal Op.maxDepth;rw[show(10000:Nat)=9999+1 from rfl,Op.equalIn];simp only[Sem.run_bind,run_underlying ht,Result.andThen_ok];cases a<;>rfl
theorem TV(op:BinOp) (t:a45) (x y:a43) (p q:Option Addr) (n c k l:Nat) (w:a42):(eqGuard op t x y (.slice p n c) (.slice q k l)).run P w=.ok () w:=by
 simp_all[eqGuard]
theorem J3(hr:o? G w a s) {r:a45}(ho:o.op=.binOp op t x (.const (.slice s5 0 0)) r)
 (ht:P.underlying t=M (.slice e)) (k:(op=.eql/\neg=a39)\/(op=.neq/\neg=a38)) (he:fa s (.xv neg x)=M (d,m')):p? G w s.m ((execOp a.eval o).run P w) d m':=by
 have hx:=hr.ev x;simp only[fa]at he;have f:∀(p:Option Addr) (n c:Nat),a.eval x=.slice p n c->(execOp a.eval o).run P w=.ok (.value (.bool (p.isNone !=neg))) w:=by
  intro p n c h;unfold execOp;simp only[ho];have hc:a.eval (.const (.slice s5 0 0))=.slice s5 0 0:=rfl;rcases k with⟨rfl,rfl⟩|⟨rfl,rfl⟩<;>simp[h,hc,binOp,aR ht,TV]
 generalize s.ev x=dx at *;split at he
 .injection he with he;injection he with i h2;subst i;subst h2;simp only[VRel]at hx;exact Fa hr.inv (f _ _ _ hx) I?
 .injection he with he;injection he with i h2;subst i;subst h2;simp only[VRel]at hx;obtain⟨p,n,c,hx,-,-,q⟩:=hx;rcases q with q|⟨b,off,rfl,-⟩
  .grind
  .exact Fa hr.inv (f _ _ _ hx) I?
 .rename_i id Va;simp only[VRel]at hx;obtain⟨p,n,c,hx,-,-,hf⟩:=hx;split at he
  .rename_i S ver' e l hm;split at he
   .rename_i j;injection he with he;injection he with i h2;subst i;subst h2;subst j;have g:=hr.inv.ent _ _ hm;simp only[qp]at g;obtain⟨g1,-,-,g4,g5⟩:=g;obtain⟨ha,-,-⟩:=hf g1;rcases g5 with⟨-,g5⟩|⟨b,cs,T,hb,-⟩
    .simp_all
    .rw[hb]at ha;simp only[Option.map_some]at ha;subst ha;exact Fa hr.inv (f _ _ _ hx) I?
   simp_all
  simp_all
 simp_all
theorem ck8(hr:o? G w a s) (ho:o.op=.call { callee:=.builtin .clear,args:=#[x],argTypes:=#[t] })
 (ht:P.underlying t=M (.slice e)) (hz:q? P e=M z) (he:fa s (.clr z.cells.size (z? z) x)=M (d,m')):p? G w s.m ((execOp a.eval o).run P w) d m':=by
 have hx:=hr.ev x;simp only[fa]at he;generalize s.ev x=dx at *;obtain⟨hz1,Z,hz3,-⟩:=Iq hz w;have A:∀(p:Option Addr) c,a.eval x=.slice p 0 c->(execOp a.eval o).run P w=.ok (.value (.tuple #[])) w:=by
  intro p c h;unfold execOp;simp only[ho];cases p<;>simp[resolve,invoke,builtin,Builtin.clear_,h,run_underlying ht]
 split at he
 .injection he with he;injection he with j6 h2;subst j6;subst h2;simp only[VRel]at hx;exact Fa hr.inv (A _ _ hx) I?
 .rename_i id Va lo n;split at he
  .rename_i S ver' l hm;split at he
   .rename_i hc;obtain⟨rfl,rfl,hlo⟩:=hc;injection he with he;injection he with j6 h2;subst j6;subst h2;simp only[VRel]at hx;obtain⟨p,c,hp,hnc,hid,hver,hx⟩:=hx;obtain⟨a1,a2,a3,a4,a5⟩:=hr.inv.ent _ _ hm;by_cases hn:n=0
    .subst hn;have hl:l.take lo++k? 0 (z? z)++l.drop (lo+0)=l:=o0
     rw[hl,ae9 hm];exact Fa hr.inv (A _ _ hp) I?
    .rcases hx a1 with hx|⟨b,hb,rfl⟩
     .omega
     rw[a2]at hp;rcases a5 with a5|⟨b',cs,T,D,hF,g,hsz,j8⟩
     .simp_all
     rw[hb]at D;injection D with D;subst D;have Q:=zA g j8;have hfit:lo*z.cells.size+(G.C id).2+n*z.cells.size<=cs.size:=by
      have j6:=Β z.cells.size (show lo+n<=(G.C id).1 by omega)
      grind
     obtain⟨zs,L⟩:∃zs,zs=Builtin.zeroCells z.cells n:=⟨_,rfl⟩;have hzn:zs.toList.length=n*z.cells.size:=by grind[size_zeroCells]
     have K:Vi G w z.cells.size (k? n (z? z)) zs:=by rw[L];exact Uy Z n
     have hz1':∀v∈zs.toList,one v=a38:=by
      intro v hv;rw[L]at hv;simp only[Builtin.zeroCells,Tae,List.mem_map]at hv;obtain⟨k,-,rfl⟩:=hv
      grind[Α]
     have E:=run_storeCells_at P b (lo*z.cells.size+(G.C id).2) T zs.toList 0 cs w g U (λv hv=>by grind[AZ]);simp only[vac]at E;obtain⟨f,r⟩:∃f:Array a41,f=(cs.toList.take (lo*z.cells.size+(G.C id).2)++zs.toList++cs.toList.drop (lo*z.cells.size+(G.C id).2+zs.toList.length)).toArray:=⟨_,rfl⟩;rw[←r]at E;have O:∀k,f[k]?=if lo*z.cells.size+(G.C id).2<=k/\k<lo*z.cells.size+(G.C id).2+n*z.cells.size then zs[k-(lo*z.cells.size+(G.C id).2)]? else cs[k]?:=by
      intro k;rw[r,sac,DA _ _ _ _ l5,hzn];simp
     have hsz':f.size=cs.size:=by
      grind
     have run:(execOp a.eval o).run P w=.ok (.value (.tuple #[])) (w.setRow b f):=by
      unfold execOp;simp only[ho];rw[L]at E;obtain⟨n',rfl⟩:∃n',n=n'+1:=⟨n-1,U⟩
      simp_all[resolve,invoke,builtin,Builtin.clear_,run_underlying]
     have y:∀k,G.B id≠M k->(w.setRow b f).heap[k]?=w.heap[k]?:=λk hk=>setRow_other w b k f λh=>hk l5;have I:Le G w G (w.setRow b f):=⟨λ_ h=>h,λk hk=>y k λh=>l5,x? _,λ_ _=>.inl ⟨rfl,rfl,rfl,rfl,rfl⟩⟩;have i:=setRow_heap w b cs f T (0,0) g;clear E r;have j9:Vi G (w.setRow b f) z.cells.size (l.take lo++k? n (z? z)++l.drop (lo+n)) f (G.C id).2:=by
      intro k e' F;have Y:k<lo\/(lo<=k/\k<lo+n)\/lo+n<=k:=U
      have R:∀{p q:Nat},p<q->p*z.cells.size+z.cells.size<=q*z.cells.size:=λ{p q} h=>by
       have:=Β z.cells.size (show p+1<=q from h)
       grind
      have hadd:(lo+n)*z.cells.size=lo*z.cells.size+n*z.cells.size:=kad _ _ _;rcases Y with h|⟨h,h'⟩|h
      .rw[P',List.getElem?_append_left o4,List.getElem?_take_of_lt h]at F;obtain⟨u,W,X,k3⟩:=Q k e' F;refine⟨u,W.mono I,X,λj c hj=>⟨(k3 j c hj).1,?_⟩⟩
       grind
      .have H:(k? n (z? z))[k-lo]?=M e':=by
        grind
       obtain⟨u,W,X,k3⟩:=K (k-lo) e' H;refine⟨u,W.mono I,X,λj c hj=>⟨(k3 j c hj).1,?_⟩⟩;have hj':j<z.cells.size:=o4
       have j6:=R (show k-lo<n by omega);have h2:k*z.cells.size=lo*z.cells.size+(k-lo)*z.cells.size:=by rw[←kad];simp_all
       rw[O,J,show k*z.cells.size+j+(G.C id).2-(lo*z.cells.size+(G.C id).2)=(k-lo)*z.cells.size+j by omega]
       simp_all
      .have H:l[k]?=M e':=by
        rw[List.getElem?_append_right o4,Jae]at F
        grind
       obtain⟨u,W,X,k3⟩:=Q k e' H;refine⟨u,W.mono I,X,λj c hj=>⟨(k3 j c hj).1,?_⟩⟩
       grind
     have hlen:(l.take lo++k? n (z? z)++l.drop (lo+n)).length=l.length:=o4
     have hent:qp G (w.setRow b f) id (.live z.cells.size (G.V id) (l.take lo++k? n (z? z)++l.drop (lo+n))):=
      ⟨rfl,a2,U,U,.inr ⟨b,f,T,hb,hF,i,U,Ro i j9⟩⟩
     have key:=ti (w':=w.setRow b f) hr.inv (e':=.live z.cells.size (G.V id) (l.take lo++k? n (z? z)++l.drop (lo+n))) hm rfl rfl (G.B id) (G.V id) (G.N id) (G.C id) (.inr ⟨rfl,rfl,rfl,rfl⟩) rfl rfl rfl
      o0 (λk _ hk=>y k hk) (λk hk=>.inl hk) (by grind[aD])
     rw[aD]at key;rw[a1]at key;exact⟨_,_,G,run,.inl ⟨_,rfl,I?⟩,key.1,key.2⟩
   simp_all
  simp_all
 simp_all
end
open Go.RowKit (Below)
section
variable {P:a44} {G:Gh} {w:a42} {a:Act} {s:St} {d:D} {m':List Ent}
theorem aB8{i:I}(hc:oL P o.op=M i) (hr:o? G w a s) (he:fa s i=M (d,m')):p? G w s.m ((execOp a.eval o).run P w) d m':=by
 unfold oL at hc;split at hc
 case h_1 x ho=>grind[cj9]
 case h_2 x ho=>simp_all[cj9]
 case h_3 c x y ho=>grind[bn0]
 case h_4 t ho=>
  simp only[A']at hc;obtain⟨z,q,rfl⟩:=hc
  grind[aM7]
 case h_5 t x ho=>grind[cl0]
 case h_6 t ps ho=>
  split at hc
  .rename_i fs z ht q;split at hc
   .rename_i z! hp;simp only[A']at hc;obtain⟨qs,hq,rfl⟩:=hc
    grind[aM6]
   simp_all
  .rename_i n e z ht q;simp only[A']at hc;obtain⟨i,hi,rfl⟩:=hc
   grind[ap1]
  simp_all
 case h_7 t n ps ho=>
  grind[ap2]
 case h_8 t x ho=>
  simp only[A']at hc;obtain⟨r,p,rfl⟩:=hc
  grind[bn4]
 case h_9 t x y ho=>
  simp only[A']at hc;obtain⟨i,hi,rfl⟩:=hc
  grind[aL7]
 case h_10 x ho=>grind[bn1]
 case h_11 op t x y yt ho=>
  split at hc
  .rename_i ht;split at hc
   .rename_i h;subst h;injection hc with hc;subst hc;exact aW6 hr ho ht (.inl ⟨rfl,rfl⟩) he
   .split at hc
    .rename_i h;subst h;injection hc with hc;subst hc;exact aW6 hr ho ht (.inr ⟨rfl,rfl⟩) he
    simp_all
  .grind[ck9]
  .rename_i e ht;split at hc
   .injection hc with hc;subst hc;exact J3 hr ho ht (.inl ⟨rfl,rfl⟩) he
   .injection hc with hc;subst hc;exact J3 hr ho ht (.inr ⟨rfl,rfl⟩) he
   simp_all
  all_goals grind[cl1]
 case h_12 op t x ho=>grind[cv8]
 case h_13 src dst x ho=>
  grind[bn5,bm7]
 case h_14 f first caps ho=>grind[ao9]
 case h_15 t l c ho=>
  grind[F8]
 case h_16 t x lo hi mx ho=>
  split at hc
  .rename_i e ht;split at hc
   .grind
   .rename_i hm;simp only[A']at hc;obtain⟨i,j,rfl⟩:=hc;refine K3 hr ho ht j (λh=>?_) he
    cases hi with
    |none=>simp_all
    |some _=>rfl
  .rename_i ht;split at hc
   .grind
   .rename_i hm;injection hc with hc;subst hc
    cases mx with
    |some _=>simp at hm
    |none=>grind[ao8]
  simp_all
 case h_17 t x f ho=>
  grind[aM5]
 case h_18 t x f ho=>
  split at hc
  .rename_i fs ht;split at hc
   .rename_i fl hf;simp only[A']at hc;obtain⟨r,p,rfl⟩:=hc
    grind[aM4]
   simp_all
  simp_all
 case h_19 t x y ho=>
  split at hc
  .rename_i e ht;simp only[A']at hc;obtain⟨i,hi,rfl⟩:=hc
   grind[aM3]
  .rename_i n e ht;simp only[A']at hc;obtain⟨r,p,rfl⟩:=hc
   grind[aM8]
  simp_all
 case h_20 t x y ho=>
  split at hc
  .rename_i n e ht;simp only[A']at hc;obtain⟨r,p,rfl⟩:=hc
   grind[aM2]
  all_goals grind[bm9]
 case h_21 x i ho=>grind[E8]
 case h_22=>grind[fa]
 case h_23 t ho=>grind[aL9]
 case h_24 t x k ok ho=>
  grind[aL8]
 case h_25 t m k x ho=>
  split at hc
  .rename_i kt et ht;simp only[A']at hc;obtain⟨K,hK,rfl⟩:=hc
   grind[bn2]
  simp_all
 case h_26 c ho=>
  obtain⟨cal,args,JA⟩:=c;have ha:args=args.toList.toArray:=o0
  have b:JA=JA.toList.toArray:=o0
  simp only at hc;split at hc
  .rename_i x t h2 g;rw[h2]at ha;rw[g]at b
   grind[ck3,bm8,bn3]
  .grind[ck1]
  .grind[ck1]
  .rename_i x y t u h2 g;rw[h2]at ha;rw[g]at b
   grind[ap3,aM1]
  .rename_i x t h2 g;rw[h2]at ha;rw[g]at b;subst ha;subst b;split at hc
   .rename_i e ht;simp only[A']at hc;obtain⟨z,q,rfl⟩:=hc
    grind[ck8]
   simp_all
  .rename_i x t h2 g;rw[h2]at ha;rw[g]at b
   grind[bn6]
  simp_all
 all_goals grind[aM0,G8]
def I'(P:a44) (f:a47):Prop:=∃fn,P.funcs[f]?=M fn/\(fn.name == "runtime.NumGoroutine")=a39/\fn.body.isNone=a39
def CallT(P:a44) (f:a47) (ds:List D) (m:List Ent) (R:D->List Ent->Prop):Prop:=
 I' P f/\∀(G:Gh) (w:a42) (vs:List a41),VsRel G w ds vs->Inv G w m->
  Calls P f vs.toArray w λe w'=>∃v d m' G',e=.returned v/\R d m'/\VRel G' w' d v/\Inv G' w' m'/\Step G w m G' w' m'
def CallT.mono{f:a47}{ds:List D}{m:List Ent}{R a:D->List Ent->Prop}(h:CallT P f ds m R) (e:∀d m',R d m'->a d m'):CallT P f ds m a:=
 ⟨h.1,λG w vs hv hi=>(h.2 G w vs hv hi).mono λ_ _ ⟨v,d,m',G',b,h2,c⟩=>⟨v,d,m',G',b,e _ _ h2,c⟩⟩
theorem IF{i:I}(hc:ax P ops o o.op=M i) (hr:o? G w a s) (he:fa s i=M (d,m')):p? G w s.m ((execOp a.eval o).run P w) d m':=by
 unfold ax at hc;split at hc
 .rename_i i' b;injection hc with hc;subst hc;unfold oG at b;split at b
  .rename_i t x lo hi dt ho _;split at b
   .split at b
    .rename_i e ht;simp only[A']at b;obtain⟨j,hj,rfl⟩:=b
     grind[L3]
    simp_all
   simp_all
  simp_all
 grind[aB8]
def j!(s:St):Option (Tmp×Bool)->Option (Option (Bool×Bool))
 |none=>M s5
 |some (t,b)=>
  match s.t.getD t .dead with
  |.v (.bool c)=>M (M (c,b))
  |.v _=>M (M (!b,b))
  |_=>s5
def ln(P:a44):List RI->(St->Prop)->St->Prop
 |[],K,s=>K s
 |.op dst g i::l,K,s=>
  match j! s g with
  |none=>False
  |some s5=>∃d m',fa s i=M (d,m')/\ln P l K ({ s with m:=m' }.put dst d)
  |some (M (c,b))=>(c=b->∃d m',fa s i=M (d,m')/\ln P l K ({ s with m:=m' }.put dst d))/\(c≠b->ln P l K (s.put dst (.v undef)))
 |.call dst g f args::l,K,s=>
  match s.ec f with
  |.fn k first caps=>
   match j! s g with
   |none=>False
   |some s5=>CallT P k (first++args.map s.ev++caps) s.m λd m'=>ln P l K ({ s with m:=m' }.put dst d)
   |some (M (c,b))=>(c=b->CallT P k (first++args.map s.ev++caps) s.m λd m'=>ln P l K ({ s with m:=m' }.put dst d))/\(c≠b->ln P l K (s.put dst (.v undef)))
  |_=>
   match j! s g with
   |some (M (c,b))=>c≠b/\ln P l K (s.put dst (.v undef))
   |_=>False
theorem Qr(hr:o? G w a s) {g:Option (Nat×Bool)}{e:Option (Tmp×Bool)}(d:M' ops g=M e) :
 (j! s e=M s5->∀o:Oper,o.guard=g->Region.wanted o (yielded ops a.tmps)=a38)/\
 (∀c b,j! s e=M (M (c,b))->∀o:Oper,o.guard=g->Region.wanted o (yielded ops a.tmps)=(c==b)):=by
 cases g with
 |none=>
  grind[M',Region.wanted,j!]
 |some p=>
  obtain⟨j,b⟩:=p;simp only[M']at d;split at d
  .rename_i t ht;injection d with d;subst d;have hx:=VsRel.get t hr.t;refine⟨λh=>?_,λc b' h o ho=>?_⟩
   .grind[j!]
   .have i:yielded ops a.tmps j=(match a.tmps[t]? with|some (.bool b)=>M b|_=>s5):=by
     grind[yielded]
    simp only[Region.wanted,ho,i];simp only[j!]at h;have hlen:=hr.t.length;split at h
    .rename_i c' hd;injection h with h;injection h with h;injection h with f h2;subst f;subst h2;rw[hd]at hx;simp only[VRel]at hx
     grind
    .rename_i x hne hd;injection h with h;injection h with h;injection h with f h2;subst f;subst h2;rw[hd]at hx;simp only[VRel]at hx
     grind
    .cases h
  simp_all
theorem oJ(hr:o? G w a s) (dst:Option Tmp):o? G w (a.put dst undef) (s.put dst (.v undef)):=hr.put dst I?
theorem o?.wx{r:Result Next}{next:Act->a42->Prop}{Q:Exit->Act->a42->Prop}(hr:o? G w a s) (f:p? G w s.m r d m')
 (h:∀G' w' u,o? G' w' (a.put o.dst u) ({ s with m:=m' }.put o.dst d)->Step G w s.m G' w' m'->next (a.put o.dst u) w'):o.upon P a next Q r:=by
 obtain⟨nx,w',G',rfl,c,hi,e⟩:=f;have b:=hr.step e.le hi;rcases c with⟨u,rfl,hv⟩|⟨rfl,rfl⟩
 .exact h G' w' u (b.put o.dst hv) e
 .exact h G' w' undef (b.put o.dst I?) e
theorem OF(hr:o? G w a s):∀l:List a43,VsRel G w (l.map s.ev) (l.map a.eval)
 |[]=>by simp[VsRel]
 |x::l=>by simp only[D?,VsRel];exact⟨_,_,rfl,hr.ev x,OF hr l⟩
theorem PL(s:St) (dst:Option Tmp) (d:D):(s.put dst d).m=s.m:=by cases dst<;>rfl
theorem maa{f:a43}{args:Array a43}{JA:Array a45}(ho:o.op=.call ⟨.value f,args,JA⟩) {fs:List a41}(hf:a.eval f=.func (.func k) fs.toArray cs.toArray)
 (d:P.funcs[k]?=M fn) (c:(fn.name == "runtime.NumGoroutine")=a39) (b:fn.body.isNone=a39) :
 (execOp a.eval o).run P w=.ok (.enter k ((fs++args.toList.map a.eval++cs).toArray)) w:=by
 unfold execOp;simp only[ho];simp only[resolve,hf,Deferred.ofValue,Sem.run_bind,Sem.run_pure,Result.andThen_ok,invoke,callFunc,run_program,d,c,b];simp
theorem GL{β:Type}:∀{l:List (Nat×β)}{t:Nat}{r:β},l.lookup t=M r->(t,r)∈l
 |[],t,r,h=>o4
 |(a,b)::l,t,r,h=>by
  simp only[List.lookup]at h;split at h
  .simp_all
  .exact List.mem_cons_of_mem _ (GL h)
theorem wW{t:Nat}{r:a47×Option (Bool×Nat)}(h:(bh5 P name).lookup t=M r):aJ0 P name t=M r:=by
 have h:=GL h;simp only[bh5,List.mem_filterMap,A',H!]at h
 simp_all
theorem FP{t:Nat}{o:Option (Bool×Nat)}(h:aJ0 P name t=M (k,o)) {d:D}{u:a41}(hv:VRel G w d u) (hr:o? G w a s) :
 (o=s5->∀n,(method (n+1) t u name).run P w=.ok (k,u) w)/\
 (∀r d' m',o=M r->fa ⟨[d],s.m⟩ (.load r.1 r.2 (.tmp 0))=M (d',m')->∃g,VRel G w d' g/\∀n,(method (n+1) t u name).run P w=.ok (k,g) w):=by
 unfold aJ0 at h;split at h
 case h_2=>cases h
 rename_i i hi;split at h
 case h_2=>cases h
 rename_i m hm;have b:∀n,(method (n+1) t u name).run P w=(do
  let (xt,x)←follow m.path.toList t (.val u)
  match m.func with
  |none=>
   match←x.get xt with
   |.iface t' z=>method n t' z name
   |.nilIface=>runtimePanic .nilDeref
   |_=>stuck "method row: interface value expected"
  |some (f,pointerReceiver)=>
   pure (f,←receiverAt xt x pointerReceiver (if m.path.isEmpty then M ((name.splitOn ".").getLastD name)else s5))).run P w:=by
  intro n
  conv=>lhs;unfold method
  simp only[Sem.run_bind,typeInfo,run_program,Result.andThen_ok,hi,Sem.run_pure,hm];rfl
 split at h
 .rename_i f t2 l hf hu;injection h with h;injection h with j h2;subst j;subst h2
  simp_all[follow,receiverAt,Place.get,run_underlying]
 .rename_i f e l hf hu;simp only[A',H!]at h;obtain⟨r0,y,rfl,rfl⟩:=h;have c:m.path.toList=[]:=l5
  refine⟨λh=>(by cases h),λr d' m' h he=>?_⟩;injection h with h;subst h;have q:o? G w { a with tmps:=#[u] } ⟨[d],s.m⟩:=⟨by simp[VsRel];omega,hr.inv,hr.defers⟩;obtain⟨p,g,hx,hrun,v,-⟩:=zO q y he;have hx':u=.pointer (M p):=by simp_all[Act.eval]
  refine⟨g,v,λn=>?_⟩;rw[b,c,hf,l];have hw:∀x,Builtin.ssaWrapNilChk_ #[t] t #[.pointer (M p),strVal "",strVal x]=pure (.pointer (M p)):=λ_=>rfl
  simp_all[follow,receiverAt,Place.get,asAddr,run_underlying]
 .rename_i f de hne l hf hu;injection h with h;injection h with j h2;subst j;subst h2
  simp_all[follow,receiverAt,Place.get,run_underlying]
 .cases h
theorem GF(hr:o? G w a s) {f:ς}{args:List a43}(ho:SS P o.op=M (f,args)) {first caps:List D}(he:s.ec f=.fn k first caps)
 (l:P.funcs[k]?=M fn) (e:(fn.name == "runtime.NumGoroutine")=a39) (b:fn.body.isNone=a39) :
 ∃fs cs,(execOp a.eval o).run P w=.ok (.enter k ((fs++args.map a.eval++cs).toArray)) w/\VsRel G w first fs/\VsRel G w caps cs:=by
 unfold SS at ho;split at ho
 .rename_i x args' JA h;injection ho with ho;injection ho with g h2;subst g;subst h2;rw[cm2]at he;have hf:=hr.ev x;rw[he]at hf;simp only[VRel]at hf
  grind[maa]
 .rename_i x nm args' JA h;injection ho with ho;injection ho with g h2;subst g;subst h2;simp only[St.ec]at he;have hx:=hr.ev x;generalize s.ev x=p at he hx;cases p<;>simp only[IL]at he<;>(try (cases he));rename_i t d;simp only[VRel]at hx;obtain⟨u,hxu,hv⟩:=hx;have fin:∀{d':D} {i:a41},VRel G w d' i->(∀n,(method (n+1) t u nm).run P w=.ok (k,i) w)->first=[d']->caps=[]->
   ∃fs cs,(execOp a.eval o).run P w=.ok (.enter k ((fs++args'.toList.map a.eval++cs).toArray)) w/\VsRel G w first fs/\VsRel G w caps cs:=by
   rintro d' i m hm rfl rfl;refine⟨[i],[],?_,by simp[VsRel];omega,by simp[VsRel]⟩;unfold execOp;simp only[h];have c:P.types.size+Made.depth=(P.types.size+99)+1:=rfl;have q:(#[a.eval x]++oae a.eval args')[0]?=M (.iface t u):=o4
   have g:(#[a.eval x]++oae a.eval args').extract 1 (#[a.eval x]++oae a.eval args').size=oae a.eval args':=by
    simp
   simp only[resolve,Sem.run_bind,Sem.run_pure,Result.andThen_ok,invoke,q,g,callMethod,run_program,c,hm,callFunc,l,e,b];simp
  split at he
  .rename_i v hl;injection he with e1 e2 e3;subst e1;exact fin hv ((FP (wW hl) hv hr).1 rfl) e2.symm e3.symm
  .rename_i v r hl;split at he
   .rename_i d' m' j;injection he with e1 e2 e3;subst e1;obtain⟨i,m,hm⟩:=(FP (wW hl) hv hr).2 r d' m' rfl j
    grind
   simp_all
  simp_all
 simp_all
theorem NH{ops:Array Oper}{Q:Exit->Act->a42->Prop}{K:St->Prop}:∀{l:List Oper}{rl:List RI}{s:St}{G:Gh}{w:a42}{a:Act},Wi P ops l=M rl->ln P rl K s->o? G w a s->
 (∀s' G' w' a',K s'->o? G' w' a' s'->Step G w s.m G' w' s'.m->Q .normal a' w')->wpList P ops Q l a w
 |[],rl,s,G,w,a,hc,q,hr,hQ=>by
  simp only[Wi]at hc;injection hc with hc;subst hc;exact wpList_nil (hQ s G w a q hr (Step.refl _ _ _))
 |o::l,rl,s,G,w,a,hc,q,hr,hQ=>by
  simp only[Wi]at hc;split at hc
  case h_2=>grind
  rename_i r rs y h2;injection hc with hc;subst hc;have rest:∀{G':Gh} {w':a42} {a':Act} {s':St},ln P rs K s'->o? G' w' a' s'->Step G w s.m G' w' s'.m->wpList P ops Q l a' w':=λn A x=>
   NH h2 n A λN C O E S T k3=>hQ N C O E S T (x.trans k3)
  unfold Zt at y;split at y
  .grind
  .rename_i g R;obtain⟨p,h⟩:=Qr hr R;have doI:∀{i:I} {d:D} {m':List Ent},ax P ops o o.op=M i->fa s i=M (d,m')->ln P rs K ({ s with m:=m' }.put o.dst d)->o.wp P a w (wpList P ops Q l) Q:=by
    intro i d m' hi he n;exact hr.wx (IF hi hr he) λG' w' u A x=>rest n A (by grind[PL])
   have skip:ln P rs K (s.put o.dst (.v undef))->wpList P ops Q l (a.put o.dst undef) w:=λn=>rest n (oJ hr o.dst) (by grind[PL,Step.refl]);split at y
   .rename_i f args ho;injection y with y;subst y;simp only[ln]at q;split at q
    .rename_i k first caps F
     have doC:CallT P k (first++args.map s.ev++caps) s.m (λd m'=>ln P rs K ({ s with m:=m' }.put o.dst d))->o.wp P a w (wpList P ops Q l) Q:=by
      rintro⟨⟨fn,e1,e2,e3⟩,z⟩;obtain⟨fs,cs,B,j9,L⟩:=GF hr ho F e1 e2 e3;have t:=z G w (fs++args.map a.eval++cs) ((j9.append (OF hr _)).append L) hr.inv;unfold Oper.wp;rw[B,Oper.upon_enter];refine t.mono ?_;rintro e w' ⟨v,d,m',G',rfl,n,j6,H,x⟩;exact rest n ((hr.step x.le H).put o.dst j6) (by grind[PL])
     split at q
     .simp_all
     .rename_i j;rw[wpList,J (p j o rfl)]
      simp_all
     .rename_i c b j;rw[wpList,h c b j o rfl]
      simp_all
    .split at q
     .rename_i c b j;rw[wpList,h c b j o rfl,p6 l5]
      simp_all
     simp_all
   .rename_i hno;simp only[A']at y;obtain⟨i,hi,rfl⟩:=y;simp only[ln]at q;split at q
    .simp_all
    .rename_i j;obtain⟨d,m',he,n⟩:=q;rw[wpList,J (p j o rfl)]
     grind
    .rename_i c b j;rw[wpList,h c b j o rfl]
     grind
end
end Go.Tm
