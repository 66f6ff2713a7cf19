/-
  The engine: a part of the proof that trees of values are carried along by the program: no condition.
-/
import Derived.Test.YtmhfebelfmgckaaGreatDoorEB
import Derived.ProofKit
import Derived.OpenShut
import Derived.WideShapes
import Derived.Lib.LaidTab
import Derived.SizedLaws
import Derived.Sort.Row
import Derived.Sort.Grow
import Derived.KernelRfl
open Go renaming Value->a38,World->a39,Operand->a41,Program->a42,TypeId->a43,FuncId->a44,IntKind->a45
open Option renaming some->M,none->q6
open Decidable renaming decide->s5
open Go.Tm.D renaming dead->d!
open And renaming intro->ak
open Bool renaming and_eq_true->E',and_true->hac,true_and->Μ,true->a35,false->a36
open Classical renaming not_not->v!
open Eq renaming trans->I?
open List renaming all_cons->ς,all_eq_true->R',append_nil->V!,cons_append->G!,contains_iff_mem->Ξ,drop_drop->Lad,drop_zero->cad,eq_nil_of_length_eq_zero->Ε,ext_getElem?->fac,foldlM->caf,getElem?_cons_succ->zab,getElem?_cons_zero->ξ,getElem?_eq_getElem->n!,getElem?_eq_some_iff->Paa,getElem_mem->y!,length_cons->H!,length_map->Bab,length_nil->L!,map_cons->F?,map_nil->W?,mem_append->Β,mem_cons->Y',mem_map_of_mem->qae,nil_append->N',replicate->l!,replicate_zero->fad,take_length->η,take_of_length_le->dac
open Nat renaming le_refl->x?,lt_succ_self->Zad,not_lt_zero->Cad,sub_zero->had,zero_add->Y?,zero_le->M',zero_lt_succ->Jae
open Option renaming bind_eq_some_iff->Zab,map_eq_some_iff->A',map_some->zac
open Option.some renaming inj->J!,injEq->T!
open Prod renaming fst->Bae
open Prod.mk renaming injEq->H?
set_option linter.all false
namespace Go.Tm
variable {k i id j off lo hi u Ta:Nat}{R f:D->List Ent->Prop}{d dst:Option Tmp}{r t ds' pre post:List D}{Y p:Prop}{g:Option (Tmp×Bool)}{c b a x:a41}{m' es:List Ent}{X:Type}{w w':a39}{cs:Array a38}{G:Gh}{vs:List a38}{rs:List RV}{F:Fun}{z:a38}{s1 s2 s0:St}{ys:List Int}{cuts ids:List Nat}
inductive W where
 |c (c:C)
 |l (l:List RI)
 |an (q:Nat) (bs:List (List Nat)) (l:List RI)
 |yo (pl:List (Option Nat)) (ps fp:List (List Nat)) (q:Nat) (l:List RI)
 |f (k:Nat) (ds:List D)
 |p (k:Nat) (ds:List D)
 |q (k:Nat) (ds:List D)
 |w (p k:Nat) (ds:List D)
section
variable {P:a42} {FT:Nat->Option (Fun×Nat)} {O:Nat->List D->Option D}
end
variable {α:Type}
noncomputable section
def RJ(k:a45):Int:=
 match k with
 |.i8=>256|.i16=>65536|.i32=>4294967296|.i64=>18446744073709551616
 |.u8=>256|.u16=>65536|.u32=>4294967296|.u64=>18446744073709551616
theorem M3(k:a45):RJ k=2 ^ k.bits:=by cases k<;>rfl
def pL(n h m:Int):Int:=bif s5 (n % m>=h)then n % m-m else n % m
def aa(k:a45) (n:Int):Int:=
 match k with
 |.i8=>pL n 128 256
 |.i16=>pL n 32768 65536
 |.i32=>pL n 2147483648 4294967296
 |.i64=>pL n 9223372036854775808 18446744073709551616
 |.u8=>n % 256
 |.u16=>n % 65536
 |.u32=>n % 4294967296
 |.u64=>n % 18446744073709551616
theorem LC(k:a45) (n:Int):aa k n=k.wrap n:=by
 cases k<;>simp[aa,pL,IntKind.wrap,IntKind.bits,IntKind.signed,cond_eq_ite]
def qJ(op:Nat->Nat->Nat) (k:a45) (x y:Int):a38:=.int k (aa k (op (x % RJ k).toNat (y % RJ k).toNat:Nat))
theorem O8(k:a45) (x:Int):(BitVec.ofInt k.bits x).toNat=(x % RJ k).toNat:=by
 rw[BitVec.toNat_ofInt,M3];norm_cast
def Zi(op:BinOp) (j:a45) (a:Int) (k:a45) (b:Int):Option a38:=
 match op with
 |.add=>bif s5 (j=k)then M (.int j (aa j (a+b)))else q6
 |.sub=>bif s5 (j=k)then M (.int j (aa j (a-b)))else q6
 |.mul=>bif s5 (j=k)then M (.int j (aa j (a*b)))else q6
 |.eql=>bif s5 (j=k)then M (.bool (a==b))else q6
 |.neq=>bif s5 (j=k)then M (.bool (a !=b))else q6
 |.lss=>bif s5 (j=k)then M (.bool (s5 (a<b)))else q6
 |.leq=>bif s5 (j=k)then M (.bool (s5 (a<=b)))else q6
 |.gtr=>bif s5 (j=k)then M (.bool (s5 (b<a)))else q6
 |.geq=>bif s5 (j=k)then M (.bool (s5 (b<=a)))else q6
 |.and=>bif s5 (j=k)then M (qJ Nat.land j a b)else q6
 |.or=>bif s5 (j=k)then M (qJ Nat.lor j a b)else q6
 |.xor=>bif s5 (j=k)then M (qJ Nat.xor j a b)else q6
 |.quo=>bif s5 (j=k)&&!s5 (b=0)then M (.int j (aa j (a.tdiv b)))else q6
 |.rem=>bif s5 (j=k)&&!s5 (b=0)then M (.int j (a.tmod b))else q6
 |.shl=>bif s5 (b<0)then q6 else M (.int j (aa j (a*((2 ^ (min b.toNat j.bits):Nat):Int))))
 |.shr=>bif s5 (b<0)then q6 else M (.int j (a.fdiv ((2 ^ (min b.toNat j.bits):Nat):Int)))
 |op=>Si (binOp op 0 (.int j a) (.int k b))
theorem aQ6(op:BinOp) (j:a45) (a:Int) (k:a45) (b:Int):Zi op j a k b=Si (binOp op 0 (.int j a) (.int k b)):=by
 have c:∀{α:Type} (x:String),Si (stuck x:Sem α)=q6:=λ_=>rfl;have f:∀{α:Type} (x:α),Si (pure x:Sem α)=M x:=λ_=>rfl;have d:∀{α:Type} x,Si (runtimePanic x:Sem α)=q6:=λ_=>rfl;cases op
 case shl=>
  simp only[Zi,binOp,Op.shift,cond_eq_ite,w2];split<;>simp[c,f,d,LC]
 case shr=>
  simp only[Zi,binOp,Op.shift,cond_eq_ite,w2];split<;>simp[c,f,d]
 all_goals
  by_cases e:j=k
  .subst e;simp[Zi,binOp,Op.intArith,Op.intCmp,Op.intBits,Op.intDiv,c,f,d,LC,qJ,O8,M3];(try rfl);(try (split<;>simp[c,f,d,LC, *]))
  .simp[Zi,binOp,e,c]
section
variable {FT:Nat->Option (Fun×Nat)} {O:Nat->List D->Option D}
variable {P:a42}
end
end
variable {P:a42} {N:Nat}
def Fv(r:Option (D×List Ent)) (f:D->List Ent->Prop):Prop:=
 match r with
 |some p=>f p.1 p.2
 |none=>False
@[congr] theorem bs0{r a:Option (D×List Ent)} {f:D->List Ent->Prop} (h:r=a):Fv r f=Fv a f:=by rw[h]
theorem u6(d:D) (m:List Ent) (f:D->List Ent->Prop):Fv (M (d,m)) f=f d m:=d?
theorem Pp(r:Option (D×List Ent)) (f:D->List Ent->Prop):Fv r f↔∃d m',r=M (d,m')/\f d m':=by
 cases r with
 |none=>simp[Fv]
 |some p=>
  obtain⟨d,m⟩:=p;simp only[Fv]
  grind
def kg(P:a42) (k:Nat) (ds:List D) (m:List Ent) (f:D->List Ent->Prop):Prop:=CallT P k ds m f
@[congr] theorem aY4{k a:Nat} {ds ds':List D} {m m':List Ent} {f:D->List Ent->Prop} (h1:k=a) (h2:ds=ds') (h3:m=m'):kg P k ds m f=kg P a ds' m' f:=l4
def SB{ds:List D}{m:List Ent}(h:CallT P k ds m R) (a:∀d m',R d m'->f d m'):kg P k ds m f:=h.mono a
theorem Ic{ds:List D}{m m1:List Ent}{d1:D}(h:CallT P k ds m λd m'=>d=d1/\m'=m1) (hf:f d1 m1):kg P k ds m f:=
 h.mono λd m' ⟨h1,h2⟩=>l4
theorem ua.cons{d e:D}{l:List D}(h1:q' d e) (h2:ua l r):ua (d::l) (e::r):=by
 simp only[ua]
 grind
theorem q'.Qa(d:D):q' d d!:=by cases d<;>simp[q']
variable {P:a42} {N:Nat}
def gP(p Y N:Prop):Prop:=(p->Y)/\(¬p->N)
theorem cj8{N:Prop}:gP True Y N=Y:=by simp[gP]
theorem cj9{N:Prop}:gP False Y N=N:=by simp[gP]
@[congr] theorem cj7{p a Y N:Prop} (h:p=a):gP p Y N=gP a Y N:=by rw[h]
theorem gP.mk{N:Prop}(a:p->Y) (h2:¬p->N):gP p Y N:=⟨a,h2⟩
def aE(s:St) (g:Option (Tmp×Bool)) (b:Bool):St:=
 match g with
 |none=>s
 |some (t,_)=>
  match s.t.getD t .dead with
  |.v (.bool _)=>{ s with t:=s.t.set t (.v (.bool b)) }
  |_=>s
theorem PI{l:List D}{t:Nat}{d:D}(h:l.getD t d!=d) (hd:d≠d!):l.set t d=l:=by
 apply fac
 grind
theorem w4{s:St}{c b:Bool}(hg:j! s g=M (M (c,b))) (e:c=b):aE s g b=s:=by
 unfold aE
 cases g with
 |none=>rfl
 |some p=>
  obtain⟨t,b'⟩:=p;simp only;split
  all_goals simp_all[j!,PI]
theorem aj7{s:St}{c b:Bool}(a:j! s g=M (M (c,b))) (e:c≠b):aE s g (!b)=s:=by
 unfold aE
 cases g with
 |none=>rfl
 |some p=>
  obtain⟨t,d⟩:=p;simp only;split
  .rename_i x hx;simp only[j!,hx]at a;injection a with a;injection a with a;injection a with f h2;subst f h2;have:x = !d:=by cases x<;>cases d<;>simp_all
   simp_all[PI]
  .rfl
def KO(R:St->Prop) (s:St) (dst:Option Tmp) (d:D) (m':List Ent):Prop:=R ({ s with m:=m' }.put dst d)
def Rj(P:a42):List RI->(St->Prop)->St->Prop
 |[],K,s=>K s
 |.op dst g i::l,K,s=>
  match j! s g with
  |none=>False
  |some q6=>Fv (fa s i) (KO (Rj P l K) s dst)
  |some (M (c,b))=>gP (c=b) (Fv (fa (aE s g b) i) (KO (Rj P l K) (aE s g b) dst)) (Rj P l K ((aE s g (!b)).put dst (.v undef)))
 |.call dst g f args::l,K,s=>
  match s.ec f with
  |.fn k first caps=>
   match j! s g with
   |none=>False
   |some q6=>kg P k (first++args.map s.ev++caps) s.m (KO (Rj P l K) s dst)
   |some (M (c,b))=>gP (c=b) (kg P k (first++args.map (aE s g b).ev++caps) s.m (KO (Rj P l K) (aE s g b) dst)) (Rj P l K ((aE s g (!b)).put dst (.v undef)))
  |_=>False
theorem Sy:∀{l:List RI}{K:St->Prop}{s:St},Rj P l K s->Ym P l K s
 |[],K,s,h=>h
 |.op dst g i::l,K,s,h=>by
  simp only[Rj]at h;simp only[Ym];split at h
  .simp_all
  .rename_i a;rw[a];obtain⟨d,m',j,h2⟩:=(Pp _ _).1 h;exact⟨d,m',j,Sy h2⟩
  .rename_i c b a;rw[a];refine⟨λe=>?_,λe=>?_⟩
   .have h:=h.1 e;rw[w4 a e]at h;obtain⟨d,m',j,h2⟩:=(Pp _ _).1 h;exact⟨d,m',j,Sy h2⟩
   .have h:=h.2 e;rw[aj7 a e]at h;exact Sy h
 |.call dst g f args::l,K,s,h=>by
  simp only[Rj]at h;simp only[Ym];split at h
  .rename_i k first caps hf
   rw[hf];split at h
   .simp_all
   .rename_i a;rw[a];exact h.mono λ_ _ h2=>Sy h2
   .rename_i c b a;rw[a];refine⟨λe=>?_,λe=>?_⟩
    .have h:=h.1 e;rw[w4 a e]at h;exact h.mono λ_ _ h2=>Sy h2
    .have h:=h.2 e;rw[aj7 a e]at h;exact Sy h
  simp_all
def NC(P:a42):Nat->List RI->(St->Prop)->St->Prop
 |0,l,K,s=>Rj P l K s
 |_+1,[],_,_=>False
 |q+1,.op dst g i::l,K,s=>
  match j! s g with
  |none=>False
  |some q6=>Fv (fa s i) (KO (NC P q l K) s dst)
  |some (M (c,b))=>gP (c=b) (Fv (fa s i) (KO (NC P q l K) s dst)) (NC P q l K (s.put dst (.v undef)))
 |q+1,.call dst g f args::l,K,s=>
  match s.cv f with
  |.fn k first caps=>
   match j! s g with
   |none=>False
   |some q6=>∃d,(∀m,CallT P k (first++args.map s.ev++caps) m λd' m'=>d'=d/\m'=m)/\NC P q l K (s.put dst d)
   |some (M (c,b))=>(c=b->∃d,(∀m,CallT P k (first++args.map s.ev++caps) m λd' m'=>d'=d/\m'=m)/\NC P q l K (s.put dst d))/\(c≠b->NC P q l K (s.put dst (.v undef)))
  |_=>False
theorem iN:∀{q:Nat}{l:List RI}{K:St->Prop}{s:St},NC P q l K s->dU P q l K s
 |0,l,K,s,h=>by simp only[NC]at h;simp only[dU];exact Sy h
 |_+1,[],K,s,h=>by simp only[NC]at h
 |q+1,.op dst g i::l,K,s,h=>by
  simp only[NC]at h;simp only[dU];split at h
  .simp_all
  .rename_i j;rw[j];obtain⟨d,m',a,h2⟩:=(Pp _ _).1 h;exact⟨d,m',a,iN h2⟩
  .rename_i c b j;rw[j];refine⟨λe=>?_,λe=>iN (h.2 e)⟩;obtain⟨d,m',a,h2⟩:=(Pp _ _).1 (h.1 e);exact⟨d,m',a,iN h2⟩
 |q+1,.call dst g f args::l,K,s,h=>by
  simp only[NC]at h;simp only[dU];split at h
  .rename_i k first caps hf
   rw[hf];split at h
   .simp_all
   .rename_i j;rw[j];obtain⟨d,a,h2⟩:=h;exact⟨d,a,iN h2⟩
   .rename_i c b j;rw[j];refine⟨λe=>?_,λe=>iN (h.2 e)⟩;obtain⟨d,a,h2⟩:=h.1 e;exact⟨d,a,iN h2⟩
  simp_all
def C.oM:C->Bool
 |.loop _=>a35
 |.any ..=>a35
 |.seq a b=>a.oM || b.oM
 |.cond _ a b=>a.oM || b.oM
 |.block _ a=>a.oM
 |_=>a36
def C.qp:C->Bool
 |.loop _=>a35
 |_=>a36
def L6{f:a44}{ds:List D}{m:List Ent}(a:ua ds ds') (h:CallT P f ds' m R):CallT P f ds m R:=
 ⟨h.1,λG w vs hv hi=>h.2 G w vs (a.rel hv) hi⟩
def KS(P:a42) (N:Nat) (b:C) (K:Exit->St->Prop) (e:Exit) (s':St):Prop:=match e with|.normal=>Tm.T P N b K s'|e=>K e s'
def X5{b:C}{K:Exit->St->Prop}{s:St}:KS P N b K .normal s=Tm.T P N b K s:=d?
def aS5{b:C}{K:Exit->St->Prop}{s:St}:KS P N b K (.exit i) s=K (.exit i) s:=d?
def bt3{b:C}{K:Exit->St->Prop}{s:St}:KS P N b K .ret s=K .ret s:=d?
def KZ(R:St->Prop) (K:Exit->St->Prop) (e:Exit) (s':St):Prop:=match e with|.normal=>R s'|e=>K e s'
def KB(id:Nat) (K:Exit->St->Prop) (e:Exit) (s':St):Prop:=match e with|.exit a=>if a=id then K .normal s' else K (.exit a) s'|e=>K e s'
def W5{K:Exit->St->Prop}{s:St}:KB id K .normal s=K .normal s:=d?
def aS9{K:Exit->St->Prop}{s:St}:KB id K (.exit i) s=if i=id then K .normal s else K (.exit i) s:=d?
def bt8{K:Exit->St->Prop}{s:St}:KB id K .ret s=K .ret s:=d?
@[congr] theorem cr1{c:C} {K:Exit->St->Prop} {s s':St} (h:s=s'):Tm.T P N c K s=Tm.T P N c K s':=by rw[h]
def Z(P:a42) (N:Nat):C->(Exit->St->Prop)->St->Prop
 |.skip,K,s=>K .normal s
 |.sT l,K,s=>Rj P l (K .normal) s
 |.draw q l,K,s=>NC P q l (K .normal) s
 |.any cuts q bs l,K,s=>T P N (.any cuts q bs l) K s
 |.seq a b,K,s=>
  match a.oM with
  |true=>Z P N a (KS P N b K) s
  |false=>Z P N a (KZ (Z P N b K) K) s
 |.cond c a b,K,s=>
  match s.ev c with
  |.v (.bool t)=>gP (t=a35) (Z P N a K s) (Z P N b K s)
  |_=>False
 |.block id a,K,s=>
  match a.qp with
  |true=>T P N (.block id a) K s
  |false=>Z P N a (KB id K) s
 |.loop a,K,s=>T P N (.loop a) K s
 |.exit id,K,s=>K (.exit id) s
 |.ret,K,s=>K .ret s
 |.stuck,_,_=>False
theorem Z.T(hm:P.follows .mixedOrders=a35):∀{c:C}{K:Exit->St->Prop}{s:St},Z P N c K s->T P N c K s
 |.skip,K,s,h=>T.skip h
 |.sT l,K,s,h=>T.sT (Sy h)
 |.draw q l,K,s,h=>T.draw hm (iN h)
 |.any cuts q bs l,K,s,h=>h
 |.seq a b,K,s,h=>by
  simp only[Z]at h;split at h
  .refine T.seq ((Z.T hm h).mono ?_);intro e s' d;cases e<;>exact d
  .refine T.seq ((Z.T hm h).mono ?_);intro e s' d
   cases e with
   |normal=>exact Z.T hm d
   |_=>exact d
 |.cond c a b,K,s,h=>by
  simp only[Z]at h;split at h
  .rename_i t ht;exact T.cond ht (λe=>Z.T hm (h.1 e)) (λe=>Z.T hm (h.2 (by simp[e])))
  .exact h.elim
 |.block id a,K,s,h=>by
  simp only[Z]at h;split at h
  .exact h
  .exact T.block ((Z.T hm h).mono λe s' d=>by cases e<;>exact d)
 |.loop a,K,s,h=>h
 |.exit id,K,s,h=>T.exit h
 |.ret,K,s,h=>T.ret h
 |.stuck,_,_,h=>by simp only[Z]at h
section
variable {l:List RI} {K:St->Prop} {s:St} {dst:Option Tmp} {i:I} {q:Nat} {f:χ} {args:List a41} {g:Tmp×Bool}
def aw3:Rj P [] K s=K s:=d?
def D0:Rj P (.op dst q6 i::l) K s=Fv (fa s i) (KO (Rj P l K) s dst):=d?
def aw1:Rj P (.op dst (M g) i::l) K s =
 match j! s (M g)with
 |none=>False
 |some q6=>Fv (fa s i) (KO (Rj P l K) s dst)
 |some (M (c,b))=>gP (c=b) (Fv (fa (aE s (M g) b) i) (KO (Rj P l K) (aE s (M g) b) dst)) (Rj P l K ((aE s (M g) (!b)).put dst (.v undef))):=d?
theorem Z5{k:a44}{first caps:List D}(hf:s.ec f=.fn k first caps):Rj P (.call dst q6 f args::l) K s=kg P k (first++args.map s.ev++caps) s.m (KO (Rj P l K) s dst):=by
 simp only[Rj,hf,j!]
theorem EM{k:a44}:Rj P (.call dst q6 (.func k) args::l) K s=kg P k (args.map s.ev) s.m (KO (Rj P l K) s dst):=by
 rw[Z5 (k:=k) (first:=[]) (caps:=[]) rfl,N',V!]
theorem kU{k:a44}:Rj P (.call dst (M g) (.func k) args::l) K s =
 match j! s (M g)with
 |none=>False
 |some q6=>kg P k (args.map s.ev) s.m (KO (Rj P l K) s dst)
 |some (M (c,b))=>gP (c=b) (kg P k (args.map (aE s (M g) b).ev) s.m (KO (Rj P l K) (aE s (M g) b) dst)) (Rj P l K ((aE s (M g) (!b)).put dst (.v undef))):=by
 simp only[Rj,St.ec,St.ev,N',V!]
theorem ax2:NC P 0 l K s=Rj P l K s:=by simp only[NC]
theorem ax3:NC P (q+1) (.op dst q6 i::l) K s=Fv (fa s i) (KO (NC P q l K) s dst):=d?
def aT1:NC P (q+1) (.op dst (M g) i::l) K s =
 match j! s (M g)with
 |none=>False
 |some q6=>Fv (fa s i) (KO (NC P q l K) s dst)
 |some (M (c,b))=>gP (c=b) (Fv (fa s i) (KO (NC P q l K) s dst)) (NC P q l K (s.put dst (.v undef))):=d?
def HQ(P:a42) (k:a44) (ds:List D) (R:St->Prop) (s:St) (dst:Option Tmp):Prop:=∃d,(∀m,CallT P k ds m λd' m'=>d'=d/\m'=m)/\R (s.put dst d)
theorem wQ{k:a44}:NC P (q+1) (.call dst q6 (.func k) args::l) K s=HQ P k (args.map s.ev) (NC P q l K) s dst:=by
 simp only[NC,St.cv,St.ev,N',V!,HQ,j!]
theorem NX{k:a44}:NC P (q+1) (.call dst (M g) (.func k) args::l) K s =
 match j! s (M g)with
 |none=>False
 |some q6=>HQ P k (args.map s.ev) (NC P q l K) s dst
 |some (M (c,b))=>gP (c=b) (HQ P k (args.map s.ev) (NC P q l K) s dst) (NC P q l K (s.put dst (.v undef))):=by
 simp only[NC,St.cv,St.ev,N',V!,HQ,gP]
variable {K':Exit->St->Prop} {a b:C} {c:a41} {id:Nat} {cuts:List Nat} {bs:List (List Nat)}
def yr:Z P N .skip K' s=K' .normal s:=d?
def Vx:Z P N (.sT l) K' s=Rj P l (K' .normal) s:=d?
def ur:Z P N (.draw q l) K' s=NC P q l (K' .normal) s:=d?
def Ux:Z P N (.any cuts q bs l) K' s=Tm.T P N (.any cuts q bs l) K' s:=d?
def KZb(P:a42) (N:Nat) (b:C) (K':Exit->St->Prop):Exit->St->Prop:=KZ (Z P N b K') K'
def Td:KZb P N b K' .normal s=Z P N b K' s:=d?
def Th:KZb P N b K' (.exit id) s=K' (.exit id) s:=d?
def Ol:KZb P N b K' .ret s=K' .ret s:=d?
def Xx:Z P N (.seq a b) K' s=match a.oM with
 |true=>Z P N a (KS P N b K') s
 |false=>Z P N a (KZb P N b K') s:=d?
def tr:Z P N (.cond c a b) K' s=match s.ev c with
 |.v (.bool t)=>gP (t=a35) (Z P N a K' s) (Z P N b K' s)
 |_=>False:=d?
def Pl:Z P N (.block id a) K' s=match a.qp with
 |true=>Tm.T P N (.block id a) K' s
 |false=>Z P N a (KB id K') s:=d?
def xr:Z P N (.loop a) K' s=Tm.T P N (.loop a) K' s:=d?
def vr:Z P N (.exit id) K' s=K' (.exit id) s:=d?
def Wx:Z P N .ret K' s=K' .ret s:=d?
end
def At(s' S:St):Prop:=ua s'.t S.t/\∃g,s'.m=S.m++g
def At.mk(t t':List D) (m g:List Ent) (h:ua t t'):At ⟨t,m++g⟩ ⟨t',m⟩:=⟨h,g,rfl⟩
theorem At.same(t t':List D) (m:List Ent) (h:ua t t'):At ⟨t,m⟩ ⟨t',m⟩:=⟨h,[],l5⟩
theorem At.cut(n:Nat) {t':List D}{m:List Ent}(a:ua t t') (h2:m.take n=m'):At ⟨t,m⟩ ⟨t',m'⟩:=⟨a,m.drop n,by grind[List.take_append_drop]⟩
def δ(N:Nat) (s:St):Prop:=N<=s.m.length/\j? s.m.length s.t=a35/\s.m.all (Ent.below s.m.length)=a35
theorem q'.inv{a b:D}(h:q' a b):b=d!\/(∃S,a=.v (.slice q6 0 0)/\b=.sl S [])\/(∃l r,a=.agg l/\b=.agg r/\ua l r)\/(∃l r,a=.tup l/\b=.tup r/\ua l r)\/(∃S l r,a=.sl S l/\b=.sl S r/\ua l r)\/a=b:=by
 cases b with
 |dead=>simp
 |v x=>cases a<;>simp_all[q']
 |agg r=>cases a<;>simp_all[q']
 |tup r=>cases a<;>simp_all[q']
 |sl S r=>
  cases a with
  |sl S' l=>simp only[q']at h;grind
  |_=>simp_all[q']
 |pt x=>cases a<;>simp_all[q']
 |ref _ _ _ _=>cases a<;>simp_all[q']
 |own _ _=>cases a<;>simp_all[q']
 |view _ _ _ _=>cases a<;>simp_all[q']
 |fn _ _ _=>cases a<;>simp_all[q']
 |mp _=>cases a<;>simp_all[q']
 |ifc _ _=>cases a<;>simp_all[q']
mutual
theorem q'.trans:∀{a b c:D},q' a b->q' b c->q' a c
 |a,d!,c,d,h2=>by
  rcases h2.inv with rfl|⟨_,h,_⟩|⟨_,_,h,_⟩|⟨_,_,h,_⟩|⟨_,_,_,h,_⟩|rfl
  .exact q'.Qa _
  .cases h
  .cases h
  .cases h
  .cases h
  .exact q'.Qa _
 |a,.agg r,c,d,h2=>by
  rcases d.inv with h|⟨_,_,h⟩|⟨l,j,rfl,h,g⟩|⟨_,_,_,h,_⟩|⟨_,_,_,_,h,_⟩|rfl
  .cases h
  .cases h
  .injection h with h;subst h;rcases h2.inv with rfl|⟨_,h,_⟩|⟨j,q,h,rfl,e⟩|⟨_,_,h,_⟩|⟨_,_,_,h,_⟩|rfl
   .exact q'.Qa _
   .cases h
   .injection h with h;subst h;simp only[q'];exact ua.trans g e
   .cases h
   .cases h
   .exact d
  .cases h
  .cases h
  .exact h2
 |a,.tup r,c,d,h2=>by
  rcases d.inv with h|⟨_,_,h⟩|⟨_,_,_,h,_⟩|⟨l,j,rfl,h,g⟩|⟨_,_,_,_,h,_⟩|rfl
  .cases h
  .cases h
  .cases h
  .injection h with h;subst h;rcases h2.inv with rfl|⟨_,h,_⟩|⟨_,_,h,_⟩|⟨j,q,h,rfl,e⟩|⟨_,_,_,h,_⟩|rfl
   .exact q'.Qa _
   .cases h
   .cases h
   .injection h with h;subst h;simp only[q'];exact ua.trans g e
   .cases h
   .exact d
  .cases h
  .exact h2
 |a,.sl S r,c,d,h2=>by
  rcases h2.inv with rfl|⟨_,h,_⟩|⟨_,_,h,_⟩|⟨_,_,h,_⟩|⟨S',l',q,h,rfl,e⟩|rfl
  .exact q'.Qa _
  .cases h
  .cases h
  .cases h
  .injection h with i f;subst i;subst f;rcases d.inv with h|⟨_,rfl,h⟩|⟨_,_,_,h,_⟩|⟨_,_,_,h,_⟩|⟨_,l,_,rfl,h,g⟩|rfl
   .cases h
   .injection h with i f;subst f;simp only[ua]at e;subst e;simp[q']
   .cases h
   .cases h
   .injection h with i f;subst i;subst f;simp only[q',G2];exact ua.trans g e
   .exact h2
  .exact d
 |a,.v x,c,d,h2=>by
  rcases d.inv with h|⟨_,_,h⟩|⟨_,_,_,h,_⟩|⟨_,_,_,h,_⟩|⟨_,_,_,_,h,_⟩|rfl<;>first|cases h|exact h2
 |a,.pt x,c,d,h2=>by
  rcases d.inv with h|⟨_,_,h⟩|⟨_,_,_,h,_⟩|⟨_,_,_,h,_⟩|⟨_,_,_,_,h,_⟩|rfl<;>first|cases h|exact h2
 |a,.ref _ _ _ _,c,d,h2=>by
  rcases d.inv with h|⟨_,_,h⟩|⟨_,_,_,h,_⟩|⟨_,_,_,h,_⟩|⟨_,_,_,_,h,_⟩|rfl<;>first|cases h|exact h2
 |a,.own _ _,c,d,h2=>by
  rcases d.inv with h|⟨_,_,h⟩|⟨_,_,_,h,_⟩|⟨_,_,_,h,_⟩|⟨_,_,_,_,h,_⟩|rfl<;>first|cases h|exact h2
 |a,.view _ _ _ _,c,d,h2=>by
  rcases d.inv with h|⟨_,_,h⟩|⟨_,_,_,h,_⟩|⟨_,_,_,h,_⟩|⟨_,_,_,_,h,_⟩|rfl<;>first|cases h|exact h2
 |a,.fn _ _ _,c,d,h2=>by
  rcases d.inv with h|⟨_,_,h⟩|⟨_,_,_,h,_⟩|⟨_,_,_,h,_⟩|⟨_,_,_,_,h,_⟩|rfl<;>first|cases h|exact h2
 |a,.mp _,c,d,h2=>by
  rcases d.inv with h|⟨_,_,h⟩|⟨_,_,_,h,_⟩|⟨_,_,_,h,_⟩|⟨_,_,_,_,h,_⟩|rfl<;>first|cases h|exact h2
 |a,.ifc _ _,c,d,h2=>by
  rcases d.inv with h|⟨_,_,h⟩|⟨_,_,_,h,_⟩|⟨_,_,_,h,_⟩|⟨_,_,_,_,h,_⟩|rfl<;>first|cases h|exact h2
theorem ua.trans:∀{a b c:List D},ua a b->ua b c->ua a c
 |[],b,c,f,h2=>by simp only[ua]at f;subst f;exact h2
 |d::a,b,c,f,h2=>by
  simp only[ua]at f;obtain⟨e,r,rfl,g,h⟩:=f;simp only[ua]at h2;obtain⟨e',r',rfl,k3,k4⟩:=h2;exact ua.cons (q'.trans g k3) (ua.trans h k4)
end
theorem At.trans{a b c:St}(d:At a b) (h2:At b c):At a c:=by
 obtain⟨d,g,k1⟩:=d;obtain⟨h2,e,k2⟩:=h2;exact⟨d.trans h2,e++g,l4⟩
def QX(N:Nat) (K:Exit->St->Prop):Prop:=∀s s',At s' s->δ N s->K .normal s->K .normal s'
theorem sU{s S:St}(j8:At s S) (hb:δ N S):∀(G:Gh) (w:a39) (a:Act),N<=G.n->p! G w a s->∃G',p! G' w a S/\y? N G w s.m G' w S.m:=by
 intro G w a hN' d;obtain⟨E,g,h2⟩:=j8;obtain⟨hN,ht,z⟩:=hb;have v:S.m=s.m.take S.m.length:=l4
 have hk:S.m.length<=s.m.length:=o0
 have hm:(s.m.take S.m.length).all (Ent.below S.m.length)=a35:=o0
 have hr:p! G w a ⟨S.t,s.m⟩:=⟨E.rel d.t,d.inv,d.defers⟩;generalize r:S.m.length=k at *;obtain⟨St,Sm⟩:=S;simp only at v ht r hr;subst v;clear d h2 r z;have hi:=hr.inv;have c:∀(i:Nat) e,(s.m.take k)[i]?=M e->i<k/\s.m[i]?=M e:=by
  grind
 have q:Inv (G.trim k) w (s.m.take k):=by
  refine⟨by grind[Gh.trim],hi.F,λi e he=>?_,λi j e e' he x hl y b hb o=>hi.apart i j e e' (c i e he).2 (c j e' x).2 hl y b hb o,hi.gl.bare λ_ h=>h⟩;have hbe:e.below k=a35:=R'.1 hm e (List.mem_of_getElem? he);have f:=hi.ent i e (c i e he).2
  cases e with
  |live S Ta l=>
   obtain⟨a1,a2,a3,a4,a5⟩:=f;refine⟨a1,a2,a3,a4,?_⟩;rcases a5 with a5|⟨B,cs,T,o,I,p,A,u⟩
   .exact .inl a5
   .exact .inr ⟨B,cs,T,o,I,p,A,u.trim (by grind[Ent.below])⟩
  |mp es=>
   obtain⟨a1,b,D,C,a2,a3,a4,a5⟩:=f;exact⟨a1,b,D,C,a2,a3,a4,a5.trim (by grind[Ent.below])⟩
  |gone=>trivial
 refine⟨G.trim k,⟨hr.t.trim ht,q,hr.defers⟩,⟨λ_ h=>h,λ_ _=>rfl,hN,λi hi'=>.inl ⟨rfl,rfl,rfl,rfl,rfl⟩,rfl,rfl,rfl,x? _,λ_ _ _=>rfl,λ_ _ h=>.inl h,?_⟩⟩;rintro b hb ⟨i,e,he,hl,H⟩;exact⟨i,e,(c i e he).2,hl,H⟩
def bU(N:Nat) (K:Exit->St->Prop) (e:Exit) (s:St):Prop:=∀(G:Gh) (w:a39) (a:Act),N<=G.n->p! G w a s->∃s' G',K e s'/\p! G' w a s'/\y? N G w s.m G' w s'.m
theorem bU.of{K:Exit->St->Prop}{e:Exit}{s:St}(h:K e s):bU N K e s:=λG w a hN hr=>⟨s,G,h,hr,y?.refl _ _ _ hN⟩
theorem T.clo{c:C}{K:Exit->St->Prop}{s:St}(h:Tm.T P N c (bU N K) s):Tm.T P N c K s:=by
 intro code hc G w a hN hr;refine Code.wp_mono ?_ (h code hc G w a hN hr);rintro e a' w' ⟨s',G',i,f,b⟩;obtain⟨g,d,j,k,k3⟩:=i G' w' a' b.n f;exact⟨g,d,j,k,b.trans k3⟩
theorem bb4{K:Exit->St->Prop}:QX N (bU N K):=by
 intro s s' e h2 f G w a hN hr;obtain⟨G',g,d⟩:=sU e h2 G w a hN hr;obtain⟨c,b,m1,m2,m3⟩:=f G' w a d.n g;exact⟨c,b,m1,m2,d.trans m3⟩
theorem T.at{c:C}{K:Exit->St->Prop}{s S:St}(e:At s S) (hb:δ N S) (h:Tm.T P N c K S):Tm.T P N c K s:=by
 obtain⟨d,g,h2⟩:=e;obtain⟨a,b,b3⟩:=hb;refine T.sub S.t d ?_;refine T.trim S.m.length a o0 b l4 ?_
 simp_all
theorem T.No{a b:C}{K:Exit->St->Prop}{s:St}(h:Tm.T P N a (KS P N b K) s):Tm.T P N (.seq a b) K s:=T.seq (h.mono λe s' c=>by cases e<;>exact c)
theorem wA{b:C}{K:Exit->St->Prop}:QX N (KS P N b K):=λs s' a h2 c=>T.at a h2 c
def bb5{K:Exit->St->Prop}(h:QX N K):QX N (KB id K):=h
def KM{X:Type}(id:Nat) (K:Exit->St->Prop) (S:X->St) (jx fin:X->Prop) (μ:X->Nat) (y:X) (e:Exit) (s':St):Prop:=
 match e with|.normal=>∃z,jx z/\μ z<μ y/\At s' (S z)|.exit j=>if j=id then(∃z,fin z/\At s' (S z))else K (.exit j) s'|e=>K e s'
section
variable {X:Type} {id:Nat} {K:Exit->St->Prop} {S:X->St} {jx fin:X->Prop} {μ:X->Nat} {y:X} {s':St}
def Rs:KM id K S jx fin μ y .normal s' = ∃z,jx z/\μ z<μ y/\At s' (S z):=d?
def Dv:KM id K S jx fin μ y (.exit j) s'=if j=id then(∃z,fin z/\At s' (S z))else K (.exit j) s':=d?
end
def KI(id n:Nat) (K:Exit->St->Prop) (S:Nat->St) (i:Nat) (e:Exit) (s':St):Prop:=
 match e with|.normal=>i<n/\At s' (S (i+1))|.exit j=>if j=id then i=n/\At s' (S n)else K (.exit j) s'|e=>K e s'
section
variable {id n i:Nat} {K:Exit->St->Prop} {S:Nat->St} {s':St}
def Kn:KI id n K S i .normal s'=(i<n/\At s' (S (i+1))):=d?
def OC:KI id n K S i (.exit j) s'=if j=id then i=n/\At s' (S n)else K (.exit j) s':=d?
end
theorem bb3{K:Exit->St->Prop}{S:X->St}{jx fin:X->Prop}{μ:X->Nat}{y:X}:QX N (KM id K S jx fin μ y):=by
 rintro s s' a - ⟨z,b,c,k3⟩;exact⟨z,b,c,a.trans k3⟩
theorem T.vU{x:C}{K:Exit->St->Prop}{s:St}(S:X->St) (jx fin:X->Prop) (μ:X->Nat) (x₀:X) (d:jx x₀) (g:At s (S x₀))
 (hb:∀y,jx y\/fin y->δ N (S y))
 (round:∀y,jx y->Tm.T P N x (KM id K S jx fin μ y) (S y))
 (a:(∃z,fin z)->QX N K) (rest:∀z,fin z->K .normal (S z)):Tm.T P N (.block id (.loop x)) K s:=by
 refine T.at g (hb x₀ (.inl d)) ?_;refine T.block (T.loopS S jx μ x₀ d (ua.Ab _) rfl (λy b=>hb y (.inl b)) λy b=>(round y b).mono ?_);intro e s' h
 cases e with
 |normal=>obtain⟨z,f,h2,h3,h4⟩:=h;grind
 |exit j=>
  simp only[Dv]at h⊢;split at h
  .rename_i hj;rw[J hj];obtain⟨z,c,f⟩:=h;exact a ⟨z,c⟩ (S z) s' f (hb z (.inr c)) (rest z c)
  simp_all
 |_=>exact h
theorem T.G6{x:C}{K:Exit->St->Prop}{s:St}(n:Nat) (S:Nat->St) (b:At s (S 0)) (hb:∀i,i<=n->δ N (S i))
 (round:∀i,i<=n->Tm.T P N x (KI id n K S i) (S i))
 (a:QX N K) (rest:K .normal (S n)):Tm.T P N (.block id (.loop x)) K s:=by
 refine T.vU (X:=Nat) S (λi=>i<=n) (λi=>i=n) (λi=>n-i) 0 (M' _) b (λy hy=>hb y U) (λi hi=>(round i hi).mono ?_) (λ_=>a) (λz hz=>l4);intro e s' h
 cases e with
 |normal=>
  simp only[Kn]at h;exact⟨i+1,h.1,o0,h.2⟩
 |exit j=>
  simp only[OC,Dv]at h⊢
  grind
 |_=>exact h
def ac1(d:D):Ot [d]=d:=d?
def ac2:Ot []=.tup []:=d?
def ac0(d e:D) (l:List D):Ot (d::e::l)=.tup (d::e::l):=d?
theorem av1{c:Prop} [Decidable c] (p:D×List Ent) (f:D->List Ent->Prop):Fv (if c then M p else q6) f=(c/\f p.1 p.2):=by
 by_cases h:c<;>simp[h,Fv]
theorem aJ1{α β:Type}{c:Prop} [Decidable c] (a:α) (g:α->β):(if c then M a else q6:Option α).map g=if c then M (g a)else q6:=by
 simp
theorem BA{n:Int}(h:-9223372036854775808<=n/\n<=9223372036854775807):aa .i64 n=n:=by
 grind[LC,IntKind.wrap_i64]
theorem aW1(a b:Nat):Int.fdiv (a:Int) (b:Int)=((a / b:Nat):Int):=(Int.fdiv_eq_ediv_of_nonneg _ U).trans U
section
variable {k:Nat} {m:List Ent} {id Ta S lo n:Nat} {l:List D}
end
theorem ax7{n:Int}(h:0<=n/\n<18446744073709551616):aa .u64 n=n:=by grind[aa]
theorem Yd(h:k<18446744073709551616):aa .u64 (k:Int)=(k:Int):=ax7 U
def at4:((0:Nat):Int)=0:=d?
def Wv(b:Bool):Si (Op.unary .not (.bool b))=M (.bool (!b)):=d?
theorem oR(a b:Nat):((a:Int)<(b:Int))↔a<b:=U
theorem aQ8{a b:List D}(ha:j? k a=a35) (hb:j? k b=a35):j? k (a++b)=a35:=by
 induction a with
 |nil=>grind
 |cons d a ih=>
  simp_all[j?]
theorem ao3{a b:List D}(ha:oa a=a35) (hb:oa b=a35):oa (a++b)=a35:=by
 grind[bm]
theorem aI5(k:a45) (n:Int):Si (Op.unary .neg (.int k n))=M (.int k (aa k (-n))):=by
 show M (Value.int k (k.wrap (0-n)))=_
 grind[LC]
theorem aJ0(k:a45) (a b:Int):Si (Builtin.max_ #[] 0 [Value.int k a,Value.int k b].toArray)=M (.int k (max a b)):=by
 simp only[Builtin.max_,Si,caf,bind_pure,Builtin.max2];by_cases h:a<b
 .rw[J h,Int.max_eq_right U];rfl
 .rw[p5 h,Int.max_eq_left U];rfl
theorem aI8(k:a45) (a b:Int):Si (Builtin.min_ #[] 0 [Value.int k a,Value.int k b].toArray)=M (.int k (min a b)):=by
 simp only[Builtin.min_,Si,caf,bind_pure,Builtin.min2];by_cases h:b<a
 .rw[J h,Int.min_eq_right U];rfl
 .rw[p5 h,Int.min_eq_left U];rfl
section
variable {α:Type} {l b c:List α} {a a' x:α}
end
open Go.RowKit (Below)
open Go.WideShapes
inductive Sh where
 |bool
 |int (k:a45)
 |str
 |sl (S B:Nat) (A:Bool) (e:Sh)
 |cat (l:List Sh)
def aggT(P:a42) (t:a43):Bool:=
 match P.underlying t with
 |some (.struct _)=>a35
 |some (.array _ _)=>a35
 |_=>a36
def Hy(f:a43->Option Sh) (P:a42):List Field->Nat->Option (List Sh×Nat)
 |[],off=>M ([],off)
 |g::gs,off=>
  if g.offset=off then
   match f g.type,Hy f P gs (off+P.cellsOf g.type)with
   |some s,M (l,e)=>M (s::l,e)
   |_,_=>q6
  else q6
def shOf(P:a42):Nat->a43->Option Sh
 |0,_=>q6
 |n+1,t=>
  match P.underlying t with
  |some .bool=>M .bool
  |some (.int k)=>M (.int k)
  |some .string=>M .str
  |some (.slice e)=>if 0<P.cellsOf e/\0<P.bytesOf e then(shOf P n e).map λs=>.sl (P.cellsOf e) (P.bytesOf e) (aggT P e) s else q6
  |some (.struct fs)=>
   match Hy (shOf P n) P fs.toList 0 with
   |some (l,e)=>if e=P.cellsOf t then M (.cat l)else q6
   |none=>q6
  |some (.array k e)=>if P.cellsOf t=k*P.cellsOf e then(shOf P n e).map λs=>.cat (l! k s)else q6
  |_=>q6
def zv(A:Bool) (cs:List D):D:=bif A then .agg cs else cs.headD d!
mutual
def Mp:Sh->List D->Prop
 |.bool,ds=>∃b,ds=[.v (.bool b)]
 |.int k,ds=>∃n,ds=[.v (.int k n)]/\(Lit.int k n).wf=a35
 |.str,ds=>∃s:ByteArray,ds=[.v (.string s)]/\s.size<=maxLen
 |.sl S B A e,ds=>∃l,ds=[.sl S l]/\l.length*B<=140737488355328/\∀d∈l,∃cs,Mp e cs/\d=zv A cs
 |.cat l,ds=>KA l ds
def KA:List Sh->List D->Prop
 |[],ds=>ds=[]
 |s::l,ds=>∃a b,ds=a++b/\Mp s a/\KA l b
end
theorem wK{G:Gh}{w:a39}:∀{a b:List D}{us vs:List a38},VsRel G w a us->VsRel G w b vs->VsRel G w (a++b) (us++vs)
 |[],b,us,vs,c,h2=>by simp only[VsRel]at c;simp_all
 |d::a,b,us,vs,c,h2=>by
  simp only[VsRel]at c;obtain⟨u,r,rfl,e,f⟩:=c;simp only[G!,VsRel];exact⟨u,_,rfl,e,wK f h2⟩
theorem nL{f:a43->Option Sh}{P:a42}:∀{fs:List Field}{off:Nat}{l:List Sh}{e:Nat},Hy f P fs off=M (l,e)->off<=e
 |[],off,l,e,h=>by grind[Hy]
 |g::gs,off,l,e,h=>by
  simp only[Hy]at h;split at h
  .split at h
   .rename_i s l' e' h1 h2;simp at h;have:=nL h2;omega
   .cases h
  .cases h
def R0(w:a39):Gh:=Gh.bare λb=>b<w.heap.size
theorem EU{a:Addr}{v:a38}(h:w.cell? a=M v):a.block<w.heap.size:=by
 grind[World.cell?]
section
variable {H:Type} {enc:a43×a38->H} {P:a42} {w:a39} {base:Nat} {spare:Nat->Bool} {held:Bool}
theorem Zy{P:a42}{e:a43}:∀{l:List (DataW H)}{d:DataW H},d∈l->∀n∈d.weights P e,n∈DataW.weightsAll P e l
 |[],_,h=>by cases h
 |x::l,d,h=>by
  intro n hn;simp only[DataW.weightsAll,Β];rcases Y'.1 h with rfl|h
  .simp_all
  .exact .inr (Zy h n hn)
theorem NK{n fuel:Nat}{cs:List a38}(m:∀t cs x s,shOf P n t=M s->DataW.trod enc P w base spare held fuel t cs=M x->(∀n∈x.1.weights P t,n<=reachBytes)->∃ds,Mp s ds/\VsRel (R0 w) w ds cs/\∀c∈cs,one c=a35) :
 ∀(fs:List Field) (off:Nat) (l:List Sh) (e:Nat),Hy (shOf P n) P fs off=M (l,e)->
  (∀f∈fs,∃x,DataW.trod enc P w base spare held fuel f.type ((cs.drop f.offset).take (P.cellsOf f.type))=M x/\∀n∈x.1.weights P f.type,n<=reachBytes)->
  ∃ds,KA l ds/\VsRel (R0 w) w ds ((cs.drop off).take (e-off))/\∀c∈(cs.drop off).take (e-off),one c=a35
 |[],off,l,e,h,_=>by
  simp[Hy]at h;obtain⟨rfl,rfl⟩:=h;refine⟨[],by simp[KA],by simp[VsRel],l5⟩
 |g::gs,off,l,e,h,hx=>by
  simp only[Hy]at h;split at h
  .rename_i d;split at h
   .rename_i s l' e' o h2;simp only[T!,H?]at h;obtain⟨rfl,rfl⟩:=h;obtain⟨x,k,j⟩:=hx g l5;obtain⟨a,k1,p,k3⟩:=m _ _ _ _ o k j;obtain⟨b,m1,m2,m3⟩:=NK m gs _ _ _ h2 λf hf=>hx f o0;have hle:=nL h2;have i:(cs.drop off).take (e'-off)=(cs.drop g.offset).take (P.cellsOf g.type)++(cs.drop (off+P.cellsOf g.type)).take (e'-(off+P.cellsOf g.type)):=by
     rw[show e'-off=P.cellsOf g.type+(e'-(off+P.cellsOf g.type)) by omega,List.take_add,Lad,d]
    rw[i];refine⟨a++b,by simp only[KA];grind,wK p m2,λc hc=>?_⟩
    grind
   .cases h
  .cases h
theorem wW{n fuel S:Nat}{cs:List a38}{e:a43}{s:Sh}(h:∀cs x,DataW.trod enc P w base spare held fuel e cs=M x->(∀n∈x.1.weights P e,n<=reachBytes)->∃ds,Mp s ds/\VsRel (R0 w) w ds cs/\∀c∈cs,one c=a35) :
 ∀(k i:Nat),(∀j,i<=j->j<i+k->∃x,DataW.trod enc P w base spare held fuel e ((cs.drop (j*S)).take S)=M x/\∀n∈x.1.weights P e,n<=reachBytes)->
  ∃ds,KA (l! k s) ds/\VsRel (R0 w) w ds ((cs.drop (i*S)).take (k*S))/\∀c∈(cs.drop (i*S)).take (k*S),one c=a35
 |0,i,_=>⟨[],by simp[KA],by simp[VsRel],l5⟩
 |k+1,i,hx=>by
  obtain⟨x,g,f⟩:=hx i (x? _) U;obtain⟨a,k1,l,k3⟩:=h _ _ g f;obtain⟨b,m1,m2,m3⟩:=wW (n:=n) h k (i+1) λj h1 h2=>hx j U U;have d:(cs.drop (i*S)).take ((k+1)*S)=(cs.drop (i*S)).take S++(cs.drop ((i+1)*S)).take (k*S):=by
   grind[Nat.succ_mul,Lad]
  rw[d];refine⟨a++b,by simp only[List.replicate_succ,KA];grind,wK l m2,λc hc=>?_⟩
  grind
theorem oX{A:Bool}{ds:List D}{cs:List a38}(h:VsRel (R0 w) w ds cs) (f:∀c∈cs,one c=a35) (hA:A=a36->cs.length=1) :
 ∃u:a38,VRel (R0 w) w (zv A ds) u/\u.cells=cs.toArray/\(A=a35->u=.agg cs.toArray)/\(A=a36->∃c,cs=[c]/\u=c):=by
 cases A with
 |true=>exact⟨.agg cs.toArray,by simp only[zv,cond_true,VRel];simp_all,rfl,λ_=>rfl,λh=>by cases h⟩
 |false=>
  match cs,hA rfl with
  |[c],_=>
   match ds,h with
   |d::r,h=>
    simp only[VsRel]at h;obtain⟨u,us,hu,hv,hr⟩:=h;injection hu with e hu2;subst e;have b:=f c l5;have a:c.cells=[c].toArray:=by cases c<;>simp[one]at b<;>rfl
    exact⟨c,by grind[zv],a,λh=>Bool.noConfusion h,λ_=>⟨c,rfl,rfl⟩⟩
theorem ae9{n:Nat}{t:a43}{s:Sh}(h:shOf P n t=M s) {fuel:Nat}{cs:List a38}{x:DataW H×List MemPlace}(hx:DataW.trod enc P w base spare held fuel t cs=M x):aggT P t=a36->cs.length=1:=by
 intro hA
 cases n with
 |zero=>grind[shOf]
 |succ n=>
  simp only[shOf]at h;simp only[aggT]at hA;split at h
  .rename_i hu;obtain⟨b,rfl,_⟩:=DataW.trod_bool hu hx;rfl
  .rename_i hu;obtain⟨b,rfl,_⟩:=DataW.trod_int hu hx;rfl
  .rename_i hu;obtain⟨b,rfl,_⟩:=DataW.trod_string hu hx;rfl
  .rename_i hu;rcases DataW.trod_slice hu hx with⟨rfl,_⟩|⟨a,len,cap,elems,rest,m,_,rfl,_⟩<;>rfl
  all_goals simp_all
theorem MF:∀(n:Nat) (fuel:Nat) (t:a43) (cs:List a38) (x:DataW H×List MemPlace) (s:Sh),shOf P n t=M s->DataW.trod enc P w base spare held fuel t cs=M x->(∀n∈x.1.weights P t,n<=reachBytes)->
 ∃ds,Mp s ds/\VsRel (R0 w) w ds cs/\∀c∈cs,one c=a35
 |0,fuel,t,cs,x,s,h,_,_=>by grind[shOf]
 |n+1,fuel,t,cs,x,s,h,hx,o=>by
  simp only[shOf]at h;split at h
  .rename_i hu;injection h with h;subst h;obtain⟨b,rfl,_⟩:=DataW.trod_bool hu hx;exact⟨[.v (.bool b)],by simp only[Mp];simp,by simp[VsRel,VRel],by simp[one]⟩
  .rename_i k hu;injection h with h;subst h;obtain⟨b,rfl,_,hw⟩:=DataW.trod_int hu hx;exact⟨[.v (.int k b)],by simp only[Mp];simp_all,by simp[VsRel,VRel],by simp[one]⟩
  .rename_i hu;injection h with h;subst h;obtain⟨b,rfl,_,hw⟩:=DataW.trod_string hu hx;exact⟨[.v (.string b)],by simp only[Mp];simp_all,by simp[VsRel,VRel],by simp[one]⟩
  .rename_i e hu;split at h
   .rename_i hpos;simp only[A']at h;obtain⟨G,p,rfl⟩:=h;rcases DataW.trod_slice hu hx with⟨rfl,_⟩|⟨a,len,cap,elems,rest,m,_,rfl,rfl,hb,hl,hm,g,K,_,_⟩
    .refine⟨[.sl (P.cellsOf e) []],by simp only[Mp];simp,?_,by simp[one]⟩;simp only[VsRel,VRel]
     grind
    .simp only[DataW.weights,hu,Y',Β]at o;have L:=o _ (.inl rfl);have hle:len*P.bytesOf e<=140737488355328:=by
      simp only[Bab]at L;have C:=Nat.mul_le_mul_right (P.bytesOf e) (show len<=elems.length+rest.length by omega)
      grind[reachBytes]
     have each:∀i,i<len->∃d u,(∃cs,Mp G cs/\d=zv (aggT P e) cs)/\VRel (R0 w) w d u/\u.cells.size=P.cellsOf e/\(∀j c,u.cells[j]?=M c->one c=a35/\w.cell? ((a.add (i*P.cellsOf e)).add j)=M c):=by
      intro i hi;have C:=K i hi;rw[n! U]at C;obtain⟨ecs,O,y⟩:=Zab.1 C;obtain⟨ds,m1,m2,m3⟩:=MF n _ _ _ _ _ p y (λq hq=>o q (.inr (.inl (Zy (qae (y! _)) q hq))));obtain⟨_,q1,q2⟩:=World.cells?_some O;obtain⟨u,r1,r2,_,_⟩:=oX (A:=aggT P e) m2 m3 (ae9 p y)
      grind
     have F:∀k,k<=len->∃l:List D,l.length=k/\(∀d∈l,∃cs,Mp G cs/\d=zv (aggT P e) cs)/\∀(i:Nat) d,l[i]?=M d->∃u,VRel (R0 w) w d u/\u.cells.size=P.cellsOf e/\(∀j c,u.cells[j]?=M c->one c=a35/\w.cell? ((a.add (i*P.cellsOf e)).add j)=M c):=by
      intro k
      induction k with
      |zero=>simp
      |succ k W=>
       intro hk;obtain⟨l,R,X,Q⟩:=W U;obtain⟨d,u,d1,d2,d3,d4⟩:=each k U;refine⟨l++[d],o0,λd' j8=>?_,λi d' j8=>?_⟩
       all_goals grind
     obtain⟨l,R,X,Q⟩:=F len (x? _);refine⟨[.sl (P.cellsOf e) l],by simp only[Mp];simp_all,?_,by simp[one]⟩;simp only[VsRel,VRel];refine⟨_,_,rfl,⟨M a,len,cap,rfl,R.symm,hl,?_⟩,rfl⟩
     cases l with
     |nil=>simp
     |cons j6 l'=>
      obtain⟨T,_,us,uc⟩:=Q 0 j6 rfl;have V:∃c,T.cells[0]?=M c:=⟨T.cells[0]' U,Array.getElem?_eq_getElem U⟩;obtain⟨c,hc⟩:=V;have z:=(uc 0 c hc).2;have E:(a.add (0*P.cellsOf e)).add 0=a:=by simp[Addr.add]
      rw[E]at z;obtain⟨b,off,spot⟩:=a;have B:spot=q6:=by simpa using World.cell?_spot z
      subst B;refine .inr ⟨b,off,rfl,EU z,?_⟩;rw[ag];intro i d hd;obtain⟨u,Y,Z,u3⟩:=Q i d hd;refine⟨u,Y,Z,λj c hj=>?_⟩;obtain⟨c1,c2⟩:=u3 j c hj;refine⟨c1,?_⟩;have haddr:(Addr.add (Addr.add ⟨b,off,q6⟩ (i*P.cellsOf e)) j)=⟨b,off+i*P.cellsOf e+j,q6⟩:=by
       unfold Addr.add
       grind
      simp_all
   .cases h
  .rename_i fs hu;split at h
   .rename_i l e j4;split at h
    .rename_i he;injection h with h;subst h;obtain⟨xs,m,rfl,rfl,g,N,r⟩:=DataW.trod_struct hu hx;simp only[DataW.weights,hu]at o;obtain⟨ds,O,y,k3⟩:=NK (n:=n) (fuel:=m) (cs:=cs) (λt cs x s C h2 I=>MF n _ _ _ _ _ C h2 I) fs.toList 0 l e j4 (λf hf=>by
      obtain⟨i,hi,hfi⟩:=List.mem_iff_getElem.1 hf;have hi':i<fs.size:=U
      have:=r i f l4;rw[n! U]at this;exact⟨_,this,λq hq=>o q (DataW.weights_mem_each (j:=i) (t:=f.type) (d:=(xs[i]' U).1) l4 l4 q hq)⟩)
     rw[cad,had,he,←g,η]at y k3;exact⟨ds,by simp only[Mp];omega,y,k3⟩
    .cases h
   .cases h
  .rename_i k e hu;split at h
   .rename_i he;simp only[A']at h;obtain⟨G,p,rfl⟩:=h;obtain⟨xs,m,rfl,rfl,g,N,r⟩:=DataW.trod_array hu hx;simp only[DataW.weights,hu]at o;obtain⟨ds,O,y,k3⟩:=wW (n:=n) (fuel:=m) (S:=P.cellsOf e) (cs:=cs) (e:=e) (s:=G) (λcs x h2 I=>MF n _ _ _ _ _ p h2 I) k 0 (λj _ hj=>by
     grind[Zy,qae,y!])
    rw[Nat.zero_mul,cad,←he,←g,η]at y k3;exact⟨ds,by simp only[Mp];omega,y,k3⟩
   .cases h
  .cases h
def LookV(A:Bool) (s:Sh) (d:D):Prop:=∃ds,Mp s ds/\d=zv A ds
theorem arg_tree{n:Nat}{t:a43}{s:Sh}{v:a38}{d:DataW H}{p:List MemPlace}{r:Reach}{f:Nat}(h:shOf P n t=M s) (hx:DataW.Trod enc P w base spare held t v d p) (hv:Value.okWide P w r f t v) (e:∀n∈d.weights P t,n<=reachBytes) :
 ∃d',LookV (aggT P t) s d'/\VRel (R0 w) w d' v:=by
 obtain⟨fuel,hx⟩:=hx;obtain⟨ds,g,i,k3⟩:=MF n _ _ _ _ _ h hx e;obtain⟨u,u1,u2,j,k⟩:=oX (A:=aggT P t) i k3 (ae9 h hx);refine⟨zv (aggT P t) ds,⟨ds,g,rfl⟩,?_⟩;have:u=v:=by
  cases hA:aggT P t with
  |true=>
   rw[j hA];unfold aggT at hA;split at hA
   .rename_i hu;simp only[Value.okWide,hu]at hv;obtain⟨cs,rfl,_⟩:=hv;simp[Value.cells]
   .rename_i hu;simp only[Value.okWide,hu]at hv;obtain⟨cs,rfl,_⟩:=hv;simp[Value.cells]
   simp_all
  |false=>
   obtain⟨c,hc,rfl⟩:=k hA
   cases n with
   |zero=>grind[shOf]
   |succ n=>
    simp only[shOf]at h;unfold aggT at hA;split at h
    .rename_i hu;obtain⟨b,rfl⟩:=okWide_bool hu hv;grind[Value.cells]
    .rename_i hu;obtain⟨b,rfl⟩:=okWide_int hu hv;grind[Value.cells]
    .rename_i hu;obtain⟨b,rfl⟩:=okWide_string hu hv;grind[Value.cells]
    .rename_i hu;obtain⟨a,l,c',rfl⟩:=okWide_slice hu hv;grind[Value.cells]
    all_goals simp_all
 simp_all
end
theorem LW{G':Gh}(h:Step G w [] G' w' m'):Below w.heap.size w w':=
 ⟨h.os,h.tape,h.output,h.size,λk hk=>h.keep k hk λ⟨i,e,he,_⟩=>by simp at he⟩
theorem gok_tab{P:a42}{W:a39}{name:String}(i:P.globalNamed name=M 0) (f:Go.Lib.TabIs P W name .i64 [31,28,31,30,31,30,31,31,30,31,30,31]):GOK (R0 W) W:=by
 intro g d h;unfold gtab at h;split at h
 .injection h with h;subst h;have hc:=f.cell i;refine(by
   simp only[VRel];refine⟨0,0,.agg (([31,28,31,30,31,30,31,31,30,31,30,31]:List Int).map λn=>Value.int .i64 n).toArray,rfl,?_,⟨_,rfl,?_,?_⟩,?_⟩
   .exact EU (a:=⟨0,0,q6⟩) (hc 0 o4)
   .simp only[F?,W?,VsRel,VRel];simp
   .intro c hc;simp only[F?,W?,Y',List.not_mem_nil,or_false]at hc;rcases hc with rfl|rfl|rfl|rfl|rfl|rfl|rfl|rfl|rfl|rfl|rfl|rfl<;>rfl
   .intro j c hj;have e:(([31,28,31,30,31,30,31,31,30,31,30,31]:List Int).map λn=>Value.int .i64 n)[j]?=M c:=by grind[Value.cells]
    obtain⟨hlt,b⟩:=Paa.1 e;have hlt':j<([31,28,31,30,31,30,31,31,30,31,30,31]:List Int).length:=o0
    rw[List.getElem_map]at b;subst b;refine⟨rfl,?_⟩
    simp_all:VRel (R0 W) W (.pt (.agg ([31,28,31,30,31,30,31,31,30,31,30,31].map λn=>.v (.int .i64 n)))) (.pointer (M ⟨0,0,q6⟩)))
 .cases h
theorem law_walk{P:a42}{f:a44}{ds:List D}(h:CallT P f ds [] λd _=>d=.v (.bool a35)) (hv:VsRel (R0 w) w ds vs) (b:GOK (R0 w) w) :
 Calls P f vs.toArray w λe w'=>e=.returned (.bool a35)/\Below w.heap.size w w':=by
 refine(h.2 (R0 w) w vs hv (iI (λ_ h=>h) b)).mono ?_;rintro e w' ⟨v,d,m',G',rfl,rfl,a,-,c⟩;simp only[VRel]at a;subst a;exact⟨rfl,LW c⟩
variable {P:a42}
def br5(op:BinOp) (j k:a45) (a b:Int):Si (binOp op 0 (.int j a) (.int k b))=Zi op j a k b:=(aQ6 ..).symm
def ax8(k:a45) (n:Int):k.wrap n=aa k n:=(LC k n).symm
variable {P:a42}
abbrev Ev:=List (Option Nat×Nat×Nat)
variable {os:Ev}
def tx(ρ:Ev) (j:Nat):Bool:=ρ.all λo=>match o.1 with|some k=>k !=j|none=>a35
inductive q! (ρ:Ev) (m:List Ent):List D->List D->Prop
 |nil:q! ρ m [] []
 |same {d l r} (hf:xa d=a35) (h:q! ρ m l r):q! ρ m (d::l) (d::r)
 |dead {d l r} (h:q! ρ m l r):q! ρ m (d::l) (d!::r)
 |nils {S l r} (h:q! ρ m l r):q! ρ m (.v (.slice q6 0 0)::l) (.sl S []::r)
 |dE {S u l r} (i:Nat) (hi:ρ[i]?=M (q6,S,u)) (h:q! ρ m l r):q! ρ m (.v (.slice q6 0 0)::l) (.own i u::r)
 |agg {a b l r} (ha:q! ρ m a b) (h:q! ρ m l r):q! ρ m (.agg a::l) (.agg b::r)
 |tup {a b l r} (ha:q! ρ m a b) (h:q! ρ m l r):q! ρ m (.tup a::l) (.tup b::r)
 |sl {S a b l r} (ha:q! ρ m a b) (h:q! ρ m l r):q! ρ m (.sl S a::l) (.sl S b::r)
 |own {j v u i l r} (hi:ρ[i]?=M (M j,v,u)) (h:q! ρ m l r):q! ρ m (.own j v::l) (.own i u::r)
 |ref {j v u i x s l r} (hi:ρ[i]?=M (M j,v,u)) (h:q! ρ m l r):q! ρ m (.ref j v x s::l) (.ref i u x s::r)
 |view {j v u i lo n l r} (hi:ρ[i]?=M (M j,v,u)) (h:q! ρ m l r):q! ρ m (.view j v lo n::l) (.view i u lo n::r)
 |mp {j i l r} (hi:ρ[i]?=M (M j,0,0)) (h:q! ρ m l r):q! ρ m (.mp j::l) (.mp i::r)
 |Ig {S j v a b l r} (hm:m[j]?=M (.live S v a)) (ho:tx ρ j=a35) (ha:q! ρ m a b) (h:q! ρ m l r):q! ρ m (.own j v::l) (.sl S b::r)
 |fview {S j v lo n a b l r} (hm:m[j]?=M (.live S v a)) (ho:tx ρ j=a35) (hn:lo+n<=a.length) (ha:q! ρ m ((a.drop lo).take n) b) (h:q! ρ m l r):q! ρ m (.view j v lo n::l) (.sl S b::r)
 |fref {S j v x a d e l r} (hm:m[j]?=M (.live S v a)) (ho:tx ρ j=a35) (hx:a[x]?=M d) (ha:q! ρ m [d] [e]) (h:q! ρ m l r):q! ρ m (.ref j v x 0::l) (.pt e::r)
 |pt {d e l r} (ha:q! ρ m [d] [e]) (h:q! ρ m l r):q! ρ m (.pt d::l) (.pt e::r)
 |fn {f a b c d l r} (ha:q! ρ m a b) (hc:q! ρ m c d) (h:q! ρ m l r):q! ρ m (.fn f a c::l) (.fn f b d::r)
 |ifc {t d e l r} (ha:q! ρ m [d] [e]) (h:q! ρ m l r):q! ρ m (.ifc t d::l) (.ifc t e::r)
def frM(es:List (a38×D)):Bool:=es.all λp=>xa p.2
inductive Ets (ρ:Ev) (m:List Ent):Ev->List Ent->Prop
 |nil:Ets ρ m [] []
 |live {j v u S l l' os es} (hm:m[j]?=M (.live S v l)) (hl:q! ρ m l l') (h:Ets ρ m os es):Ets ρ m ((M j,v,u)::os) (.live S u l'::es)
 |new {S u os es} (h:Ets ρ m os es):Ets ρ m ((q6,S,u)::os) (.live S u []::es)
 |mp {j es os ees} (hm:m[j]?=M (.mp es)) (hf:frM es=a35) (h:Ets ρ m os ees):Ets ρ m ((M j,0,0)::os) (.mp es::ees)
variable {m:List Ent}
structure aR8 (ρ:Ev) (s S:St):Prop where
 t:q! ρ s.m s.t S.t
 m:Ets ρ s.m ρ S.m
 one:(ρ.filterMap (·.1)).Nodup
variable {S:St}
def zb(G:Gh) (m:List Ent) (ρ:Ev):Gh where
 F b:=G.F b\/(Jg G m b/\∀(i j:Nat) v,ρ[i]?=M (M j,v)->G.B j≠M b)
 n:=ρ.length
 B i:=match ρ[i]? with|some (M j,_)=>G.B j|_=>q6
 V i:=match ρ[i]? with|some (_,_,u)=>u|_=>0
 S i:=match ρ[i]? with|some (M j,_)=>G.S j|some (q6,S,_)=>S|_=>0
 N i:=match ρ[i]? with|some (M j,_)=>G.N j|_=>0
 C i:=match ρ[i]? with|some (M j,_)=>G.C j|_=>(0,0)
theorem U3{ρ:Ev}(h:tx ρ j=a35):∀(i k:Nat) v,ρ[i]?=M (M k,v)->k≠j:=by
 grind[tx]
theorem sK{ρ:Ev}(hi:Inv G w m) (d:∀(i j:Nat) v,ρ[i]?=M (M j,v)->∃e:Ent,m[j]?=M e/\e.isLive=a35) {e:Ent}(hm:m[j]?=M e) (hl:e.isLive=a35) (ho:tx ρ j=a35) {b:Nat}(hb:G.B j=M b):(zb G m ρ).F b:=by
 refine .inr ⟨⟨j,e,hm,hl,hb⟩,λi k v a g=>?_⟩;obtain⟨e',c,f⟩:=d i k v a;exact U3 ho i k v a (hi.apart k j e' e c hm f hl b g hb)
theorem q!.length{ρ:Ev}{m:List Ent}{l r:List D}(h:q! ρ m l r):l.length=r.length:=by
 induction h<;>simp_all
theorem qH{ρ:Ev}{o:Option Nat×Nat×Nat}(h:ρ[i]?=M o):i<ρ.length:=by
 grind
theorem q!.rel{ρ:Ev}(hi:Inv G w m) (z:∀(i j:Nat) v,ρ[i]?=M (M j,v)->∃e:Ent,m[j]?=M e/\e.isLive=a35/\(∀S E l,e=.live S E l->E=v.1)) {l:List D}(h:q! ρ m l r) :
 (∀us,VsRel G w l us->VsRel (zb G m ρ) w r us)/\(∀b S off,Va G w b S l off->Va (zb G m ρ) w b S r off):=by
 have y:∀(i j:Nat) v,ρ[i]?=M (M j,v)->∃e:Ent,m[j]?=M e/\e.isLive=a35:=λi j v h=>o0
 have both:∀{d e:D} {l r:List D},(∀u,VRel G w d u->VRel (zb G m ρ) w e u)->
  ((∀us,VsRel G w l us->VsRel (zb G m ρ) w r us)/\(∀b S off,Va G w b S l off->Va (zb G m ρ) w b S r off))->
  ((∀us,VsRel G w (d::l) us->VsRel (zb G m ρ) w (e::r) us)/\(∀b S off,Va G w b S (d::l) off->Va (zb G m ρ) w b S (e::r) off)):=by
  intro d e l r h1 h2;refine⟨λus hv=>?_,λb S off hv=>?_⟩
  .simp only[VsRel]at hv⊢
   grind
  .simp only[Va]at hv⊢
   grind
 have first:∀{d e:D},(∀us,VsRel G w [d] us->VsRel (zb G m ρ) w [e] us)->∀u,VRel G w d u->VRel (zb G m ρ) w e u:=by
  intro d e h u hu;have:=h [u] (by simp only[VsRel];simp_all);simp only[VsRel]at this
  simp_all
 induction h with
 |nil=>exact⟨λus h=>by simpa [VsRel] using h,λ_ _ _ _=>by simp[Va]⟩
 |same hf h o=>exact both (λu hu=>VRel.free (G':=zb G m ρ) ⟨λ_ h=>Or.inl h,λ_ _=>rfl⟩ hf hu) o
 |dead h o=>exact both (λu _=>J') o
 |nils h o=>exact both (λu hu=>by simp only[VRel]at hu⊢;grind) o
 |dE i k h o=>
  refine both (λu hu=>?_) o;simp only[VRel]at hu⊢;exact⟨q6,0,0,hu,qH k,by grind[zb],λ_=>by grind[zb]⟩
 |agg ha h q o=>
  refine both (λu hu=>?_) o;simp only[VRel]at hu⊢
  grind
 |tup ha h q o=>
  refine both (λu hu=>?_) o;simp only[VRel]at hu⊢
  grind
 |sl ha h q o=>
  refine both (λu hu=>?_) o;simp only[VRel]at hu⊢;obtain⟨a,n,cap,rfl,hn,hc,g⟩:=hu;refine⟨a,n,cap,rfl,by rw[←ha.length];omega,hc,?_⟩;rcases g with rfl|⟨b,off,rfl,B,hr⟩
  .exact .inl (Ε ha.length.symm)
  .exact .inr ⟨b,off,rfl,.inl B,q.2 b _ off hr⟩
 |own k h o=>
  refine both (λu hu=>?_) o;obtain⟨e,he,hl,hv⟩:=z _ _ _ k;simp only[VRel]at hu⊢;obtain⟨a,n,c,rfl,g1,g2,g3⟩:=hu;refine⟨a,n,c,rfl,qH k,by grind[zb],λ_=>?_⟩;have f:=hi.ent _ _ he
  cases e with
  |live S E l'=>
   obtain⟨a1,_⟩:=f;have:=g3 o0
   grind[zb]
  |mp es=>
   obtain⟨a1,_⟩:=f
   grind[zb]
  |gone=>grind[Ent.isLive]
 |ref k h o=>
  refine both (λu hu=>?_) o;obtain⟨e,he,hl,hv⟩:=z _ _ _ k;simp only[VRel]at hu⊢;obtain⟨a,rfl,g1,g2,g3⟩:=hu;refine⟨a,rfl,qH k,by grind[zb],λ_=>?_⟩;have f:=hi.ent _ _ he
  cases e with
  |live S E l'=>
   obtain⟨a1,_⟩:=f;have:=g3 o0;simpa [zb,k] using this
  |mp es=>
   obtain⟨a1,_⟩:=f;have:=g3 U;simpa [zb,k] using this
  |gone=>grind[Ent.isLive]
 |view k h o=>
  refine both (λu hu=>?_) o;obtain⟨e,he,hl,hv⟩:=z _ _ _ k;simp only[VRel]at hu⊢;obtain⟨a,c,rfl,N,g1,g2,g3⟩:=hu;refine⟨a,c,rfl,N,qH k,by grind[zb],λ_=>?_⟩;have f:=hi.ent _ _ he
  cases e with
  |live S E l'=>
   obtain⟨a1,_⟩:=f;have:=g3 o0;simpa [zb,k] using this
  |mp es=>
   obtain⟨a1,_⟩:=f;have:=g3 U;simpa [zb,k] using this
  |gone=>grind[Ent.isLive]
 |mp k h o=>
  refine both (λu hu=>?_) o;simp only[VRel]at hu⊢;obtain⟨b,rfl,g1,g2⟩:=hu;obtain⟨e,he,hl,hv⟩:=z _ _ _ k;have f:=hi.ent _ _ he;refine⟨b,rfl,qH k,λ_=>?_⟩
  cases e with
  |live S E l'=>
   obtain⟨a1,_⟩:=f;have:=g2 o0
   grind[zb]
  |mp es=>
   obtain⟨a1,_⟩:=f
   grind[zb]
  |gone=>grind[Ent.isLive]
 |Ig hm ho ha h q o=>
  refine both (λu hu=>?_) o;obtain⟨a1,a2,a3,a4,a5⟩:=hi.ent _ _ hm;simp only[VRel]at hu⊢;obtain⟨a,n,c,rfl,g1,g2,g3⟩:=hu;obtain⟨rfl,rfl,rfl⟩:=g3 a1;refine⟨_,_,_,rfl,by rw[a3,ha.length],U,?_⟩;rcases a5 with a5|⟨j8,cs,T,s,B,A,H,t⟩
  .have K:=congrArg Bae a5.2;dsimp only at K;exact .inl (Ε (by have:=ha.length;omega))
  .exact .inr ⟨j8,(G.C _).2,l4,sK hi y hm rfl ho s,q.2 j8 _ _ t⟩
 |@fview S j v lo n a b l r hm ho hn ha h q o=>
  refine both (λu hu=>?_) o;obtain⟨a1,a2,a3,a4,a5⟩:=hi.ent _ _ hm;simp only[VRel]at hu⊢;obtain⟨p,c,rfl,j4,L,I,hx⟩:=hu;have F:=ha.length;rw[List.length_take,List.length_drop]at F;refine⟨p,_,c,rfl,U,j4,?_⟩;rcases hx a1 with rfl|⟨b,hb,rfl⟩
  .grind
  .rcases a5 with a5|⟨j8,cs,T,s,B,A,H,t⟩
   .simp_all
   .rw[hb]at s;injection s with s;subst s;refine .inr ⟨_,_,rfl,sK hi y hm rfl ho hb,q.2 _ _ _ ?_⟩
    grind[pA,oA]
 |fref hm ho hx ha h q o=>
  refine both (λu hu=>?_) o;obtain⟨a1,a2,a3,a4,a5⟩:=hi.ent _ _ hm;simp only[VRel]at hu⊢;obtain⟨p,rfl,L,I,P⟩:=hu;obtain⟨b,hb,rfl⟩:=P a1;rcases a5 with a5|⟨j8,cs,T,s,B,A,H,t⟩
  .simp_all
  .rw[hb]at s;injection s with s;subst s;obtain⟨u,Q,k2,k3⟩:=ag.1 t _ _ hx;refine⟨b,_,u,rfl,sK hi y hm rfl ho hb,first q.1 u Q,?_⟩
   grind
 |pt ha h q o=>
  refine both (λu hu=>?_) o;simp only[VRel]at hu⊢;obtain⟨b,off,x,rfl,B,hd,O⟩:=hu;exact⟨b,off,x,rfl,.inl B,first q.1 x hd,O⟩
 |fn ha hc h q ihc o=>
  refine both (λu hu=>?_) o;simp only[VRel]at hu⊢
  grind
 |ifc ha h q o=>
  refine both (λu hu=>?_) o;simp only[VRel]at hu⊢
  grind
theorem Ets.get{ρ:Ev}(h:Ets ρ m os es):os.length=es.length/\∀(i:Nat) e,es[i]?=M e->
 (∃j v u S l l',os[i]?=M (M j,v,u)/\m[j]?=M (.live S v l)/\q! ρ m l l'/\e=.live S u l')\/(∃S u,os[i]?=M (q6,S,u)/\e=.live S u [])\/(∃j l,os[i]?=M (M j,0,0)/\m[j]?=M (.mp l)/\frM l=a35/\e=.mp l):=by
 induction h with
 |nil=>simp
 |live hm hl h a=>
  grind
 |new h a=>
  grind
 |mp hm hf h a=>
  grind
theorem Ets.src{ρ:Ev}(h:Ets ρ m os es):∀(i j:Nat) v,os[i]?=M (M j,v)->∃e:Ent,m[j]?=M e/\e.isLive=a35/\(∀S a l,e=.live S a l->a=v.1):=by
 induction h with
 |nil=>simp
 |live hm hl h b=>
  intro i j v hi
  cases i with
  |zero=>
   simp only[ξ,T!,H?]at hi;obtain⟨rfl,rfl⟩:=hi;exact⟨_,hm,rfl,λS a l he=>l4⟩
  |succ i=>grind
 |new h b=>
  grind
 |mp hm hf h b=>
  intro i j v hi
  cases i with
  |zero=>
   simp only[ξ,T!,H?]at hi;obtain⟨rfl,rfl⟩:=hi;exact⟨_,hm,rfl,λS a l he=>nomatch he⟩
  |succ i=>grind
theorem Ke.free{G G':Gh}{w:a39}(a:∀b,G.F b->G'.F b):∀{l:List (a38×D)}{es:List MapEntry},frM l=a35->Ke G w l es->Ke G' w l es
 |[],es,_,h=>h
 |(k,d)::l,es,hf,h=>by
  simp only[frM,ς,E']at hf;obtain⟨e,r,c,f,h2,g⟩:=h;exact⟨e,r,c,f,VRel.free (G':=G') ⟨λ_ h=>a _ h,λ_ _=>rfl⟩ hf.1 h2,Ke.free a hf.2 g⟩
theorem rR{ρ:Ev}(h:(ρ.filterMap (·.1)).Nodup):∀(i a j:Nat) v b,ρ[i]?=M (M j,v)->ρ[a]?=M (M j,b)->i=a:=by
 induction ρ with
 |nil=>simp
 |cons o os ih=>
  grind
def yD(ρ:Ev):Nat->Bool
 |0=>a35
 |n+1=>yD ρ n&&(match ρ[n]? with|some (M j,v,u)=>j==n&&s5 (v<=u)|_=>a36)
theorem MJ{ρ:Ev}:∀{n:Nat},yD ρ n=a35->∀i,i<n->∃v u,v<=u/\ρ[i]?=M (M i,v,u)
 |0,_,i,hi=>absurd hi (Cad i)
 |n+1,h,i,hi=>by
  simp only[yD,E']at h;rcases Nat.lt_or_ge i n with a|a
  .exact MJ h.1 i a
  grind
theorem tH{N:Nat}{ρ:Ev}{s:St}(hk:yD ρ N=a35) (h:aR8 ρ s S) {a:Act}(hr:p! G w a s):p! (zb G s.m ρ) w a S/\y? N G w s.m (zb G s.m ρ) w S.m:=by
 have hi:=hr.inv;have p:=h.m.src;have d:=h.m.get;have hrow:∀{l r:List D},q! ρ s.m l r->∀b S off,Va G w b S l off->Va (zb G s.m ρ) w b S r off:=λL=>(L.rel hi p).2;have q:∀b,Jg (zb G s.m ρ) S.m b->Jg G s.m b:=by
  rintro b ⟨i,e,he,hl,hB⟩;rcases d.2 i e he with⟨j,v,u,S',l,l',c,h2,f,rfl⟩|⟨S',u,c,rfl⟩|⟨j,l,c,h2,f,rfl⟩
  .exact⟨j,_,h2,rfl,by grind[zb]⟩
  .grind[zb]
  .exact⟨j,_,h2,rfl,by grind[zb]⟩
 refine⟨⟨(h.t.rel hi p).1 _ hr.t,⟨d.1,?_,?_,?_,hi.gl.bare λ_ h=>.inl h⟩,hr.defers⟩,⟨λ_ hb=>.inl hb,λ_ _=>rfl,?_,?_,rfl,rfl,rfl,x? _,λ_ _ _=>rfl,?_,λb _ hb=>q b hb⟩⟩
 .rintro b (hb|hb)
  .exact hi.F b hb
  .exact(Jg.lt hi hb.1).1
 .intro i e he;rcases d.2 i e he with⟨j,v,u,S',l,l',c,h2,f,rfl⟩|⟨S',u,c,rfl⟩|⟨j,l,c,h2,f,rfl⟩
  rotate_left 2
  .obtain⟨a1,z,I,H,o,K,g,x⟩:=hi.ent _ _ h2;refine⟨by grind[zb],z,I,H,by grind[zb],?_,g,Ke.free (G':=zb G s.m ρ) (λ_ h=>Or.inl h) f x⟩;rintro(hb|⟨_,hb⟩)
   all_goals grind
  .obtain⟨a1,a2,a3,a4,a5⟩:=hi.ent _ _ h2;have hlen:=f.length;refine⟨by grind[zb],by grind[zb],by grind[zb],by grind[zb],?_⟩;rcases a5 with a5|⟨z,cs,T,o,K,g,hsz,x⟩
   .grind[zb]
   .refine .inr ⟨z,cs,T,by grind[zb],?_,g,by grind[zb],by grind[zb]⟩;rintro(hb|⟨_,hb⟩)
    all_goals grind
  .exact⟨by grind[zb],by grind[zb],by grind[zb],l5,.inl (by grind[zb])⟩
 .intro i j4 e e' he A hl hl' b hb o;have src:∀(i:Nat) e,S.m[i]?=M e->(zb G s.m ρ).B i=M b->∃j v e0,ρ[i]?=M (M j,v)/\s.m[j]?=M e0/\e0.isLive=a35/\G.B j=M b:=by
   intro i e he hb;rcases d.2 i e he with⟨j,v,u,S1,l,l',c,h2,f,rfl⟩|⟨S1,u,c,rfl⟩|⟨j,l,c,h2,f,rfl⟩
   .exact⟨j,_,_,c,h2,rfl,by grind[zb]⟩
   .grind[zb]
   .exact⟨j,_,_,c,h2,rfl,by grind[zb]⟩
  obtain⟨j,v,e0,c,h2,f,y⟩:=src i e he hb;obtain⟨E,O,e0',g1,g2,g3,g4⟩:=src j4 e' A o;have hj:j=E:=hi.apart j E _ _ h2 g2 f g3 b y g4;subst hj;exact rR h.one _ _ _ _ _ c g1
 .cases N with
  |zero=>omega
  |succ n=>
   obtain⟨v,u,-,hv⟩:=MJ hk n (Zad n);exact qH hv
 .intro i C;obtain⟨v,u0,hvu,hv⟩:=MJ hk i C;obtain⟨e,he,hl,hver⟩:=p _ _ _ hv;have hent:=hi.ent _ _ he;have hV:G.V i=v:=by
   rcases d.2 i _ (n! o0)with⟨j,O,u,S',l,l',c,h2,f,y⟩|⟨S',u,c,y⟩|⟨j,l,c,h2,f,y⟩
   .rw[hv]at c;injection c with c;injection c with k c;injection k with k;injection c with c j8;subst k;subst c;exact(hi.ent _ _ h2).1
   .simp_all
   .rw[hv]at c;injection c with c;injection c with k c;injection k with k;injection c with c j8;subst k;subst c;exact(hi.ent _ _ h2).1
  grind[zb]
 .rintro b _ (hb|⟨hb,_⟩)
  all_goals simp_all
theorem T.tell{N:Nat}(ρ:Ev) {c:C}{K:Exit->St->Prop}{s:St}(hk:yD ρ N=a35) (h:aR8 ρ s S) (b:Tm.T P N c K S):Tm.T P N c K s:=
 T.ghost (λG w a _ hr=>⟨_,(tH hk h hr).1,(tH hk h hr).2⟩) b
variable {P:a42} {N:Nat}
inductive Ex (σ β ρ:Type) where
 |go (s:σ)
 |brk (b:β)
 |ret (v:ρ)
variable {β σ:Type}{ρ:Ev}
section
variable {σ β ρ:Type}
def Nw(step:σ->Option (Ex σ β ρ)):Nat->σ->Option (β⊕ρ)
 |0,_=>q6
 |n+1,s=>
  match step s with
  |none=>q6
  |some (.go s')=>Nw step n s'
  |some (.brk b)=>M (.inl b)
  |some (.ret v)=>M (.inr v)
theorem aH{step:σ->Option (Ex σ β ρ)}:∀{n:Nat}{s:σ}{r},Nw step n s=M r->∀k,Nw step (n+k) s=M r
 |0,s,r,h,k=>by grind[Nw]
 |n+1,s,r,h,k=>by
  rw[show n+1+k=(n+k)+1 by omega];simp only[Nw]at h⊢;split
  .simp_all
  .rename_i a;rw[a]at h;exact aH h k
  all_goals simp_all
open Classical in
noncomputable def ca(step:σ->Option (Ex σ β ρ)) (s:σ):Option (β⊕ρ):=
 if h:∃n r,Nw step n s=M r then M h.choose_spec.choose else q6
theorem VN{step:σ->Option (Ex σ β ρ)}{s:σ}{n:Nat}{r}(h:Nw step n s=M r):ca step s=M r:=by
 have a:∃n r,Nw step n s=M r:=⟨n,r,h⟩;unfold ca;rw[dif_pos a];have h1:=aH a.choose_spec.choose_spec n
 grind[aH]
theorem kR{step:σ->Option (Ex σ β ρ)}{s:σ}{r}:ca step s=M r↔∃n,Nw step n s=M r:=by
 grind[ca,VN]
theorem Ie{step:σ->Option (Ex σ β ρ)}{s s':σ}(h:step s=M (.go s')):ca step s=ca step s':=by
 apply Option.ext;intro r;simp only[kR];constructor
 .rintro⟨n,hn⟩
  cases n with
  |zero=>grind[Nw]
  |succ n=>grind[Nw]
 .rintro⟨n,hn⟩;exact⟨n+1,by grind[Nw]⟩
theorem Ob{step:σ->Option (Ex σ β ρ)}{s:σ}{b:β}(h:step s=M (.brk b)):ca step s=M (.inl b):=VN (n:=1) (by grind[Nw])
theorem ct{step:σ->Option (Ex σ β ρ)}{s:σ}{v:ρ}(h:step s=M (.ret v)):ca step s=M (.inr v):=VN (n:=1) (by grind[Nw])
end
inductive f' (N:Nat):St->St->Prop
 |refl (s:St):f' N s s
 |step {s s' S:St} (ρ:Ev) (hk:yD ρ N=a35) (h:aR8 ρ s s') (t:f' N s' S):f' N s S
theorem f'.one{s:St}(ρ:Ev) (hk:yD ρ N=a35) (h:aR8 ρ s S):f' N s S:=.step ρ hk h (.refl S)
theorem f'.trans{a b c:St}(h:f' N a b) (k:f' N b c):f' N a c:=by
 induction h with
 |refl=>exact k
 |step ρ hk h t d=>exact .step ρ hk h (d k)
theorem T.qP{c:C}{K:Exit->St->Prop}{s:St}(h:f' N s S) (hT:Tm.T P N c K S):Tm.T P N c K s:=by
 induction h with
 |refl=>omega
 |step ρ hk h t ih=>grind[T.tell]
def Stb(N:Nat) (K:Exit->St->Prop):Prop:=∀s S,f' N s S->K .normal S->K .normal s
def bv4{b:C}{K:Exit->St->Prop}:Stb N (KS P N b K):=λs S h k=>T.qP h k
def bv8{K:Exit->St->Prop}(h:Stb N K):Stb N (KB id K):=h
def KL{σ β ρ:Type}(N id:Nat) (K:Exit->St->Prop) (S:σ->St) (B:β->St) (z:Ex σ β ρ) (e:Exit) (s':St):Prop:=
 match e with
 |.normal=>match z with|.go x=>f' N s' (S x)|_=>False
 |.exit j=>if j=id then(match z with|.brk b=>f' N s' (B b)|_=>False)else K (.exit j) s'
 |e=>K e s'
section
variable {σ β ρ:Type} {id:Nat} {K:Exit->St->Prop} {S:σ->St} {B:β->St} {s':St}
theorem aZ2{x:σ}:KL N id K S B (.go x:Ex σ β ρ) .normal s'=f' N s' (S x):=d?
def bt6{b:β}:KL N id K S B (.brk b:Ex σ β ρ) (.exit j) s'=if j=id then f' N s' (B b)else K (.exit j) s':=d?
def bt4{z:Ex σ β ρ}:KL N id K S B z .ret s'=K .ret s':=d?
def bt5{v:ρ}:KL N id K S B (.ret v:Ex σ β ρ) (.exit j) s'=if j=id then False else K (.exit j) s':=d?
theorem bv5{z:Ex σ β ρ}:Stb N (KL N id K S B z):=by
 intro s S' h k
 cases z with
 |go x=>exact h.trans k
 |_=>exact k.elim
theorem T.ca{x:C}{s:St}(S:σ->St) (B:β->St) (step:σ->Option (Ex σ β ρ)) (x0:σ) {y:β⊕ρ}(g:Tm.ca step x0=M y) (l:f' N s (S x0)) (f:Stb N K)
 (round:∀a z,step a=M z->(∀v,z=.ret v->y=.inr v)->Tm.T P N x (KL N id K S B z) (S a))
 (rest:∀b,y=.inl b->K .normal (B b)):Tm.T P N (.block id (.loop x)) K s:=by
 obtain⟨n,hn⟩:=kR.1 g;clear g;refine T.block (T.loopI (X:=Nat×σ) (λp s=>f' N s (S p.2)/\Nw step p.1 p.2=M y) (λp=>p.1) (n,x0) ⟨l,hn⟩ ?_);rintro⟨n,k⟩ s1 ⟨d,c⟩;refine T.qP d ?_
 cases n with
 |zero=>grind[Nw]
 |succ n=>
  cases i:step k with
  |none=>grind[Nw]
  |some z=>
   simp only[Nw,i]at c;refine(round k z i (λv hv=>l4)).mono ?_;intro e s' h
   cases e with
   |normal=>
    cases z with
    |go m=>exact⟨(n,m),⟨by grind[aZ2],c⟩,Zad n⟩
    |_=>exact(h:False).elim
   |exit j=>
    simp only[KL]at h⊢;split
    .rename_i hj;rw[J hj]at h
     cases z with
     |brk b=>exact f _ _ h (rest b (J! c).symm)
     |_=>simp_all
    simp_all
   |ret=>exact h
   |_=>exact h
end
def KJ{X R:Type}(N:Nat) (K:Exit->St->Prop) (S:X->St) (z:X⊕R) (e:Exit) (s':St):Prop:=
 match e with
 |.normal=>match z with|.inl x=>f' N s' (S x)|.inr _=>False
 |e=>K e s'
section
variable {X R:Type} {K:Exit->St->Prop} {S:X->St} {s':St}
theorem yQ{x:X}:KJ N K S (.inl x:X⊕R) .normal s'=f' N s' (S x):=d?
def aS8{z:X⊕R}:KJ N K S z (.exit j) s'=K (.exit j) s':=d?
def bt7{z:X⊕R}:KJ N K S z .ret s'=K .ret s':=d?
theorem bv6{z:X⊕R}:Stb N (KJ N K S z):=by
 intro s S' h k
 cases z with
 |inl x=>exact h.trans k
 |inr _=>exact k.elim
theorem T.join{a b:C}{s:St}(S:X->St) (z:X⊕R) (ha:Tm.T P N a (KJ N K S z) s) (hb:∀x,z=.inl x->Tm.T P N b K (S x)):Tm.T P N (.seq a b) K s:=by
 refine T.seq (ha.mono ?_);intro e s' h
 cases e with
 |normal=>
  cases z with
  |inl x=>exact T.qP (by grind[yQ]) (hb x rfl)
  |inr _=>exact(h:False).elim
 |_=>exact h
end
variable {P:a42}
def e?(P:a42) (k:Nat) (ds:List D) (o:D):Prop:=∀m,CallT P k ds m λd m'=>d=o/\m'=m
theorem cP{l:List D}(h:q! [] m l r):oa r=a35:=by
 induction h<;>simp_all[oa,xa]
theorem q!.v{ρ:Ev}{m:List Ent}{x:a38}{l r:List D}(h:q! ρ m l r):q! ρ m (.v x::l) (.v x::r):=.same rfl h
theorem q!.free{ρ:Ev}{m:List Ent}:∀{l:List D},oa l=a35->q! ρ m l l
 |[],_=>.nil
 |d::l,h=>by simp only[oa,E']at h;exact .same h.1 (q!.free h.2)
theorem q!.app{a b c d:List D}(f:q! ρ m a b) (h2:q! ρ m c d):q! ρ m (a++c) (b++d):=by
 induction f with
 |nil=>exact h2
 |same hf h e=>exact .same hf e
 |dead h e=>exact .dead e
 |nils h e=>exact .nils e
 |dE i hi h e=>exact .dE i hi e
 |agg ha h _ e=>exact .agg ha e
 |tup ha h _ e=>exact .tup ha e
 |sl ha h _ e=>exact .sl ha e
 |own hi h e=>exact .own hi e
 |ref hi h e=>exact .ref hi e
 |view hi h e=>exact .view hi e
 |mp hi h e=>exact .mp hi e
 |Ig hm ho ha h _ e=>exact .Ig hm ho ha e
 |fview hm ho hn ha h _ e=>exact .fview hm ho hn ha e
 |fref hm ho hx ha h _ e=>exact .fref hm ho hx ha e
 |pt ha h _ e=>exact .pt ha e
 |fn ha hc h _ _ e=>exact .fn ha hc e
 |ifc ha h _ e=>exact .ifc ha e
class Fr {α:Type} (e:α->D):Prop where
 h:∀x,xa (e x)=a35
variable {e:a41}
theorem dI{α:Type}{e:α->D}(h:∀x,xa (e x)=a35):∀l:List α,oa (l.map e)=a35
 |[]=>rfl
 |x::l=>by simp[oa,h x,dI h l]
theorem Fr.l{α:Type}{e:α->D} [Fr e] (l:List α):oa (l.map e)=a35:=dI Fr.h l
def Fr.s{α:Type}{e:α->D} [Fr e] (S:Nat) (l:List α):xa (.sl S (l.map e))=a35:=Fr.l (e:=e) l
theorem Cx{N:Nat}{s:St}(h:f' N s S):∀{G:Gh}{w:a39}{a:Act},N<=G.n->p! G w a s->∃G',p! G' w a S/\y? N G w s.m G' w S.m:=by
 induction h with
 |refl s=>grind[y?.refl]
 |step ρ hk h t e=>
  intro G w a hN hr;obtain⟨b,h2⟩:=tH hk h hr;obtain⟨G',c,d⟩:=e h2.n b;exact⟨G',c,h2.trans d⟩
def LB(rs:List RV) (o:D) (e:Exit) (s:St):Prop:=
 match e with
 |.normal=>∃S,f' 0 s S/\∃ds,Rb S rs=M ds/\q! [] S.m [Ot ds] [o]
 |.ret=>∃S,f' 0 s S/\∃ds,Rb S rs=M ds/\q! [] S.m [Ot ds] [o]
 |_=>False
def iV(r:Option (List D)) (m:List Ent) (o:D):Prop:=∃ds,r=M ds/\q! [] m [Ot ds] [o]
def Fin(m:List Ent) (d o:D):Prop:=q! [] m [d] [o]
theorem Xs{ds:List D}{o:D}:iV (M ds) m o=Fin m (Ot ds) o:=by simp[iV,Fin]
@[congr] theorem bo0{r a:Option (List D)} {m:List Ent} {o:D} (h:r=a):iV r m o=iV a m o:=by rw[h]
theorem Vu{o:D}{s:St}(h:iV (Rb s rs) s.m o):LB rs o .ret s:=by
 obtain⟨ds,a,h2⟩:=h;exact⟨s,.refl s,ds,a,h2⟩
theorem bv7{o:D}:Stb 0 (LB rs o):=by
 rintro s S h ⟨S',a,h2⟩;exact⟨S',h.trans a,h2⟩
theorem OM{f:a44}{ds:List D}{o:D}(hf:oa ds=a35) (h:CallT P f ds [] λd m'=>q! [] m' [d] [o]):e? P f ds o:=by
 refine λm=>⟨h.1,λG w vs hv hi=>?_⟩;have l:=h.2 (Gh.bare G.F) w vs (VsRel.free (G:=G) (G':=Gh.bare G.F) ⟨λ_ h=>h,λ_ _=>rfl⟩ hf hv) (iI hi.F (hi.gl.bare λ_ h=>h));refine l.mono ?_;rintro e w' ⟨v,d,m',G',rfl,g,hvd,c,q⟩;obtain⟨-,-,p⟩:=FQ hi q c (λ_ h=>h);obtain⟨g1,g2⟩:=p λ_ h=>h;refine⟨v,o,m,_,rfl,⟨rfl,rfl⟩,?_,g1,g2⟩;have k:=(g.rel c (λi j v h=>o0)).1 [v] (by simp only[VsRel];simp_all);simp only[VsRel]at k;obtain⟨u,us,he,n,_⟩:=k;injection he with he _;subst he;have a:=cP g;simp only[oa,hac]at a;refine VRel.free (G:=zb G' m' []) (G':={ G with F:=λb=>G'.F b\/Jg G' m' b }) ⟨?_,λ_ _=>rfl⟩ a n;rintro b (hb|⟨hb,_⟩)
 all_goals simp_all
theorem e?.of{ds:List D}{o:D}(g:TB P k=M F) (b:((P.funcs[k]?).map λfn=>fn.name == "runtime.NumGoroutine")=M a36) (hf:oa ds=a35)
 (h:T P 0 F.code (LB F.results o) ⟨ds++l! (F.ntmps-ds.length) d!,[]⟩):e? P k ds o:=by
 refine OM hf (Nn g b ?_);refine T.clo (h.mono ?_);have key:∀(e:Exit) (s:St),(∀s',JG F.results (λd m'=>q! [] m' [d] [o]) e s' = ∃ds,Rb s' F.results=M ds/\q! [] s'.m [Ot ds] [o])->(∃S,f' 0 s S/\∃ds,Rb S F.results=M ds/\q! [] S.m [Ot ds] [o])->bU 0 (JG F.results λd m'=>q! [] m' [d] [o]) e s:=by
  intro e s he ⟨S,f,h2⟩ G w a hN hr;obtain⟨G',h3,h4⟩:=Cx f hN hr
  grind
 intro e s c
 cases e with
 |normal=>exact key _ s (λ_=>rfl) c
 |ret=>exact key _ s (λ_=>rfl) c
 |_=>exact(c:False).elim
theorem RG{ds:List D}{o:D}(h:e? P k ds' o) (q:q! [] m ds ds') (a:flat o=a35) (hf:f o m):kg P k ds m f:=by
 refine Ic (m1:=m) (d1:=o) ⟨(h []).1,λG w vs hv hi=>?_⟩ hf;have n:=(q.rel hi (λi j v h=>o0)).1 vs hv;have l:VsRel (Gh.bare (zb G m []).F) w ds' vs:=VsRel.free (G:=zb G m []) ⟨λ_ h=>h,λ_ _=>rfl⟩ (cP q) n;have r:=(h []).2 _ w vs l (iI (λb hb=>by
  rcases hb with hb|⟨hb,_⟩
  .exact hi.F b hb
  .exact(Jg.lt hi hb).1) (hi.gl.bare λ_ h=>.inl h))
 refine r.mono ?_;rintro e w' ⟨v,d,m',G',rfl,⟨rfl,-⟩,p,c,g⟩;obtain⟨-,h2,-⟩:=FQ hi g c (λ_ h=>.inl h);exact⟨v,d,m,G,rfl,⟨rfl,rfl⟩,p.flat a,h2.1,h2.2⟩
def c!{α:Type}(l:List α) (i:Int):Option α:=if 0<=i then l[i.toNat]? else q6
def app{α:Type}(b:Nat) (l r:List α):Option (List α):=if(l.length+r.length)*b<=2 ^ 47 then M (l++r)else q6
def put{α:Type}(l:List α) (i:Int) (x:α):Option (List α):=if 0<=i/\i.toNat<l.length then M (l.set i.toNat x)else q6
def fD{α:Type}(b:Nat) (x:α) (n c:Int):Option (List α):=if 0<=n/\n<=c/\c<=2 ^ 62/\c.toNat*b<=2 ^ 48 then M (l! n.toNat x)else q6
def quo(k:a45) (a b:Int):Option Int:=if b=0 then q6 else M (aa k (a.tdiv b))
def rem(k:a45) (a b:Int):Option Int:=if b=0 then q6 else M (a.tmod b)
theorem jy{α:Type}{l:List α}{i:Int}{x:α}(h:c! l i=M x):0<=i/\l[i.toNat]?=M x:=by
 grind[c!]
theorem pU{α:Type}{b:Nat}{l r x:List α}(h:app b l r=M x):(l.length+r.length)*b<=140737488355328/\x=l++r:=by
 grind[app]
theorem aj2{α:Type}{l x:List α}{i:Int}{y:α}(h:put l i y=M x):0<=i/\i.toNat<l.length/\x=l.set i.toNat y:=by
 grind[put]
theorem al6{α:Type}{b:Nat}{x:α}{n c:Int}{l:List α}(h:fD b x n c=M l):0<=n/\n<=c/\c<=4611686018427387904/\c.toNat*b<=281474976710656/\l=l! n.toNat x:=by
 grind[fD]
theorem Rl{α:Type}{o:Option α}{f:α->Option β}{r:β}(h:o.bind f=M r):∃x,o=M x/\f x=M r:=Zab.1 h
variable {P:a42} {N:Nat}
def KG(f:D->D->Prop):List D->List D->Prop
 |[],[]=>True
 |d::l,e::r=>f d e/\KG f l r
 |_,_=>False
def YD(f:D->D->Prop) (a b:List D):Prop:=(a=b/\oa a=a35)\/KG f a b
def Sq(ρ:Ev) (m:List Ent):Nat->D->D->Prop
 |0,_,_=>False
 |n+1,d,e=>
  match e with
  |d!=>True
  |.v y=>match d with|.v x=>x=y|_=>False
  |.agg b=>match d with|.agg a=>YD (Sq ρ m n) a b|_=>False
  |.tup b=>match d with|.tup a=>YD (Sq ρ m n) a b|_=>False
  |.sl S b=>
   match d with
   |.v x=>x=.slice q6 0 0/\b=[]
   |.sl S' a=>S'=S/\YD (Sq ρ m n) a b
   |.own j v=>
    match m[j]? with
    |some (.live S' g a)=>S'=S/\g=v/\tx ρ j=a35/\YD (Sq ρ m n) a b
    |_=>False
   |.view j v lo k=>
    match m[j]? with
    |some (.live S' g a)=>S'=S/\g=v/\tx ρ j=a35/\lo+k<=a.length/\YD (Sq ρ m n) ((a.drop lo).take k) b
    |_=>False
   |_=>False
  |.own i u=>
   match d with
   |.own j v=>ρ[i]?=M (M j,v,u)
   |.v x=>x=.slice q6 0 0/\∃S,ρ[i]?=M (q6,S,u)
   |_=>False
  |.ref i u x s=>match d with|.ref j v p s'=>ρ[i]?=M (M j,v,u)/\p=x/\s'=s|_=>False
  |.view i u lo k=>match d with|.view j v h o=>ρ[i]?=M (M j,v,u)/\h=lo/\o=k|_=>False
  |.pt e'=>
   match d with
   |.pt d'=>(d'=e'/\xa d'=a35)\/Sq ρ m n d' e'
   |.ref j v x s=>
    match m[j]? with
    |some (.live _ g a)=>g=v/\s=0/\tx ρ j=a35/\(match a[x]? with|some d'=>(d'=e'/\xa d'=a35)\/Sq ρ m n d' e'|none=>False)
    |_=>False
   |_=>False
  |.fn f b d'=>match d with|.fn l a c=>l=f/\YD (Sq ρ m n) a b/\YD (Sq ρ m n) c d'|_=>False
  |.mp i=>match d with|.mp j=>ρ[i]?=M (M j,0,0)|_=>False
  |.ifc t e'=>match d with|.ifc t' d'=>t'=t/\((d'=e'/\xa d'=a35)\/Sq ρ m n d' e')|_=>False
theorem jB{ρ:Ev}{m:List Ent}{f:D->D->Prop}(hf:∀d e l r,f d e->q! ρ m l r->q! ρ m (d::l) (e::r)):∀{a b:List D},KG f a b->q! ρ m a b
 |[],[],_=>.nil
 |d::l,e::r,h=>hf d e l r h.1 (jB hf h.2)
 |[],_::_,h=>h.elim
 |_::_,[],h=>h.elim
theorem kB{f:D->D->Prop}(hf:∀d e l r,f d e->q! ρ m l r->q! ρ m (d::l) (e::r)) {a b:List D}(h:YD f a b):q! ρ m a b:=by
 rcases h with⟨rfl,h⟩|h
 all_goals grind[q!.free,jB]
theorem vA{ρ:Ev}{m:List Ent}:∀(n:Nat) (d e:D) (l r:List D),Sq ρ m n d e->q! ρ m l r->q! ρ m (d::l) (e::r)
 |0,d,e,l,r,h,_=>h.elim
 |n+1,d,e,l,r,h,c=>by
  have g:=vA (ρ:=ρ) (m:=m) n;have one:∀d' e',((d'=e'/\xa d'=a35)\/Sq ρ m n d' e')->q! ρ m [d'] [e']:=by
   rintro d' e' (⟨rfl,h⟩|h)
   .exact .same h .nil
   .exact g _ _ _ _ h .nil
  cases e with
  |dead=>exact .dead c
  |v y=>cases d<;>simp only[Sq]at h;subst h;exact .v c
  |agg b=>cases d<;>simp only[Sq]at h;exact .agg (kB g h) c
  |tup b=>cases d<;>simp only[Sq]at h;exact .tup (kB g h) c
  |sl S b=>
   cases d with
   |v x=>simp only[Sq]at h;obtain⟨rfl,rfl⟩:=h;exact .nils c
   |sl S' a=>simp only[Sq]at h;obtain⟨rfl,h⟩:=h;exact .sl (kB g h) c
   |own j v=>
    simp only[Sq]at h;split at h
    .rename_i S' o a hm;obtain⟨rfl,rfl,ho,h⟩:=h;exact .Ig hm ho (kB g h) c
    simp_all
   |view j v lo k=>
    simp only[Sq]at h;split at h
    .rename_i S' o a hm;obtain⟨rfl,rfl,ho,hl,h⟩:=h;exact .fview hm ho hl (kB g h) c
    simp_all
   |_=>simp only[Sq]at h
  |own i u=>
   cases d with
   |own j v=>simp only[Sq]at h;exact .own h c
   |v x=>simp only[Sq]at h;obtain⟨rfl,S,h⟩:=h;exact .dE i h c
   |_=>simp only[Sq]at h
  |ref i u x s=>cases d<;>simp only[Sq]at h;obtain⟨h,rfl,rfl⟩:=h;exact .ref h c
  |view i u lo k=>cases d<;>simp only[Sq]at h;obtain⟨h,rfl,rfl⟩:=h;exact .view h c
  |pt e'=>
   cases d with
   |pt d'=>simp only[Sq]at h;exact .pt (one _ _ h) c
   |ref j v x s=>
    simp only[Sq]at h;split at h
    .rename_i S' o a hm;obtain⟨rfl,rfl,ho,h⟩:=h;split at h
     .rename_i d' hd;exact .fref hm ho hd (one _ _ h) c
     simp_all
    simp_all
   |_=>simp only[Sq]at h
  |fn f b d'=>cases d<;>simp only[Sq]at h;obtain⟨rfl,p,h2⟩:=h;exact .fn (kB g p) (kB g h2) c
  |mp i=>cases d<;>simp only[Sq]at h;exact .mp h c
  |ifc t e'=>cases d<;>simp only[Sq]at h;obtain⟨rfl,h⟩:=h;exact .ifc (one _ _ h) c
def mJ(ρ:Ev) (m:List Ent):Ev->List Ent->Prop
 |[],[]=>True
 |(M j,v,u)::os,.live S c b::es=>u=c/\(match m[j]? with|some (.live S' d a)=>S'=S/\d=v/\YD (Sq ρ m 9) a b|_=>False)/\mJ ρ m os es
 |(q6,S,u)::os,.live S' c b::es=>S=S'/\u=c/\b=[]/\mJ ρ m os es
 |(M j,v,u)::os,.mp b::es=>v=0/\u=0/\(match m[j]? with|some (.mp a)=>a=b/\frM b=a35|_=>False)/\mJ ρ m os es
 |_,_=>False
theorem gM{ρ:Ev}{m:List Ent}:∀{os:Ev}{es:List Ent},mJ ρ m os es->Ets ρ m os es
 |[],[],_=>.nil
 |(M j,v,u)::os,.live S d b::es,h=>by
  simp only[mJ]at h;obtain⟨rfl,c,h2⟩:=h;split at c
  .rename_i S' v' a hm;obtain⟨rfl,rfl,c⟩:=c;exact .live hm (kB (vA 9) c) (gM h2)
  simp_all
 |(q6,S,u)::os,.live S' d b::es,h=>by
  simp only[mJ]at h;obtain⟨rfl,rfl,rfl,h2⟩:=h;exact .new (gM h2)
 |[],_::_,h=>by simp[mJ]at h
 |_::_,[],h=>by simp[mJ]at h
 |(M j,v,u)::os,.mp b::es,h=>by
  simp only[mJ]at h;obtain⟨rfl,rfl,c,h2⟩:=h;split at c
  .rename_i a hm;obtain⟨rfl,c⟩:=c;exact .mp hm c (gM h2)
  simp_all
 |(M j,v,u)::os,.gone::es,h=>by simp[mJ]at h
 |(q6,S,u)::os,.mp _::es,h=>by simp[mJ]at h
 |(q6,S,u)::os,.gone::es,h=>by simp[mJ]at h
def f'.q(ρ:Ev) {s:St}(hk:yD ρ N=a35) (a:(ρ.filterMap (·.1)).Nodup) (h:KG (Sq ρ s.m 9) s.t S.t/\mJ ρ s.m ρ S.m):f' N s S:=
 .one ρ hk ⟨jB (vA 9) h.1,gM h.2,a⟩
section
variable {ρ:Ev} {m:List Ent} {n:Nat} {d e:D} {a b c l r:List D} {x y:a38} {S S' i j u v k lo q s:Nat}
def aB6{f:D->D->Prop}:KG f [] []=True:=d?
def ae5{f:D->D->Prop}:KG f (d::l) (e::r)=(f d e/\KG f l r):=d?
theorem Yk{f:D->D->Prop}(h:oa a=a35):YD f a a=True:=by simp[YD,h]
theorem bw3{f:D->D->Prop}:YD f (d::l) (e::r)=(((d::l=e::r)/\oa (d::l)=a35)\/(f d e/\KG f l r)):=d?
theorem aB4{f:D->D->Prop}:YD f [] []=True:=by simp[YD,oa]
theorem aB3:Sq ρ m (n+1) d d!=True:=d?
def cr8:Sq ρ m (n+1) (.v x) (.v y)=(x=y):=d?
def bc0:Sq ρ m (n+1) (.agg a) (.agg b)=YD (Sq ρ m n) a b:=d?
def bb7:Sq ρ m (n+1) (.tup a) (.tup b)=YD (Sq ρ m n) a b:=d?
def aA9:Sq ρ m (n+1) (.v x) (.sl S b)=(x=.slice q6 0 0/\b=[]):=d?
def bv9:Sq ρ m (n+1) (.sl S' a) (.sl S b)=(S'=S/\YD (Sq ρ m n) a b):=d?
def aB0:Sq ρ m (n+1) (.own j v) (.sl S b)=(match m[j]? with|some (.live S' c a)=>S'=S/\c=v/\tx ρ j=a35/\YD (Sq ρ m n) a b|_=>False):=d?
def ae3:Sq ρ m (n+1) (.view j v lo k) (.sl S b)=(match m[j]? with|some (.live S' c a)=>S'=S/\c=v/\tx ρ j=a35/\lo+k<=a.length/\YD (Sq ρ m n) ((a.drop lo).take k) b|_=>False):=d?
def bb9:Sq ρ m (n+1) (.own j v) (.own i u)=(ρ[i]?=M (M j,v,u)):=d?
def ae4:Sq ρ m (n+1) (.v x) (.own i u)=(x=.slice q6 0 0/\∃S,ρ[i]?=M (q6,S,u)):=d?
def bb8:Sq ρ m (n+1) (.ref j v q s) (.ref i u k lo)=(ρ[i]?=M (M j,v,u)/\q=k/\s=lo):=d?
def aA8{a b:Nat}:Sq ρ m (n+1) (.view j v a b) (.view i u lo k)=(ρ[i]?=M (M j,v,u)/\a=lo/\b=k):=d?
def bw0:Sq ρ m (n+1) (.pt d) (.pt e)=((d=e/\xa d=a35)\/Sq ρ m n d e):=d?
def aB1:Sq ρ m (n+1) (.ref j v q s) (.pt e)=(match m[j]? with
 |some (.live _ b a)=>b=v/\s=0/\tx ρ j=a35/\(match a[q]? with|some d'=>(d'=e/\xa d'=a35)\/Sq ρ m n d' e|none=>False)
 |_=>False):=d?
def bw2{f d:a44}{d':List D}:Sq ρ m (n+1) (.fn d a c) (.fn f b d')=(d=f/\YD (Sq ρ m n) a b/\YD (Sq ρ m n) c d'):=d?
def bn6:mJ ρ m [] []=True:=d?
theorem aN0{c:Nat}:mJ ρ m ((M j,v,u)::os) (.live S c b::es)=(u=c/\(match m[j]? with|some (.live S' d a)=>S'=S/\d=v/\YD (Sq ρ m 9) a b|_=>False)/\mJ ρ m os es):=by simp only[mJ]
theorem bn7{a:Nat}:mJ ρ m ((q6,S,u)::os) (.live S' a b::es)=(S=S'/\u=a/\b=[]/\mJ ρ m os es):=by simp only[mJ]
theorem bw1:Sq ρ m (n+1) (.mp j) (.mp i)=(ρ[i]?=M (M j,0,0)):=d?
theorem ck6{b:List (a38×D)}:mJ ρ m ((M j,v,u)::os) (.mp b::es)=(v=0/\u=0/\(match m[j]? with|some (.mp a)=>a=b/\frM b=a35|_=>False)/\mJ ρ m os es):=by simp only[mJ]
theorem aM5:frM []=a35:=d?
def aj9:tx [] j=a35:=d?
def R8{o:Option Nat×Nat×Nat}:tx (o::ρ) j=((match o.1 with|some k=>k !=j|none=>a35)&&tx ρ j):=d?
end
def OK{d o:D}(h:Sq [] m 9 d o):Fin m d o:=vA 9 d o [] [] h .nil
theorem OI{l:List D}(h:q! [] [] l r):(∀us,VsRel G w l us->VsRel G w r us)/\(∀b S off,Va G w b S l off->Va G w b S r off):=by
 have both:∀{d e:D} {l r:List D},(∀u,VRel G w d u->VRel G w e u)->
  ((∀us,VsRel G w l us->VsRel G w r us)/\(∀b S off,Va G w b S l off->Va G w b S r off))->
  ((∀us,VsRel G w (d::l) us->VsRel G w (e::r) us)/\(∀b S off,Va G w b S (d::l) off->Va G w b S (e::r) off)):=by
  intro d e l r h1 h2;refine⟨λus hv=>?_,λb S off hv=>?_⟩
  .simp only[VsRel]at hv⊢
   grind
  .simp only[Va]at hv⊢
   grind
 have first:∀{d e:D},(∀us,VsRel G w [d] us->VsRel G w [e] us)->∀u,VRel G w d u->VRel G w e u:=by
  intro d e h u hu;have:=h [u] (by simp only[VsRel];simp_all);simp only[VsRel]at this
  simp_all
 induction h with
 |nil=>simp
 |same hf h c=>exact both (λu hu=>hu) c
 |dead h c=>exact both (λu _=>J') c
 |nils h c=>exact both (λu hu=>by simp only[VRel]at hu⊢;grind) c
 |agg ha h f c=>
  refine both (λu hu=>?_) c;simp only[VRel]at hu⊢
  grind
 |tup ha h f c=>
  refine both (λu hu=>?_) c;simp only[VRel]at hu⊢
  grind
 |sl ha h f c=>
  refine both (λu hu=>?_) c;simp only[VRel]at hu⊢;obtain⟨a,n,cap,rfl,hn,hc,g⟩:=hu;refine⟨a,n,cap,rfl,by rw[←ha.length];omega,hc,?_⟩;rcases g with rfl|⟨b,off,rfl,hF,hr⟩
  .exact .inl (Ε ha.length.symm)
  grind
 |pt ha h f c=>
  refine both (λu hu=>?_) c;simp only[VRel]at hu⊢
  grind
 |fn ha hc h f ihc c=>
  refine both (λu hu=>?_) c;simp only[VRel]at hu⊢
  grind
 |ifc ha h f c=>
  refine both (λu hu=>?_) c;simp only[VRel]at hu⊢
  grind
 |dE i hi=>simp at hi
 |own hi=>simp at hi
 |ref hi=>simp at hi
 |view hi=>simp at hi
 |mp hi=>simp at hi
 |Ig hm=>simp at hm
 |fview hm=>simp at hm
 |fref hm=>simp at hm
def dM{ds:List D}{o:D}(h:e? P k ds' o) (hf:f o m) (a:KG (Sq [] [] 9) ds ds'):kg P k ds m f:=
 Ic (m1:=m) (d1:=o) ⟨(h m).1,λG w vs hv hi=>(h m).2 G w vs ((OI (jB (vA 9) a)).1 vs hv) hi⟩ hf
def PM{ds:List D}{o:D}(h:e? P k ds' o) (hf:f o m) (a:flat o=a35) (b:KG (Sq [] m 9) ds ds'):kg P k ds m f:=
 RG h (jB (vA 9) b) a hf
section
variable {K:Exit->St->Prop} {s:St} {l:List RI} {a b:C} {c:a41} {t:Bool} {id q:Nat}
def T.rg(h:Rj P l (K .normal) s):Tm.T P N (.sT l) K s:=T.sT (Sy h)
theorem T.cd(ht:s.ev c=.v (.bool t)) (h:gP (t=a35) (Tm.T P N a K s) (Tm.T P N b K s)):Tm.T P N (.cond c a b) K s:=
 T.cond ht (λe=>h.1 e) (λe=>h.2 o0)
theorem T.bk(h:Tm.T P N a (KB id K) s):Tm.T P N (.block id a) K s:=T.block (h.mono λe s' b=>by cases e<;>exact b)
def T.sr(h:Rj P l (KS P N b K .normal) s):Tm.T P N (.seq (.sT l) b) K s:=T.No (T.rg h)
theorem gP.ite{q N:Prop} [Decidable q] {α:Type}{A B:Option α}{r:α}(h:(if q then A else B)=M r) (a:p↔q) (d:q->A=M r->Y) (h2:¬q->B=M r->N):gP p Y N:=by
 by_cases c:q
 .rw[J c]at h;exact⟨λ_=>d c h,λb=>(b (a.2 c)).elim⟩
 .rw[p5 c]at h;exact⟨λb=>(c (a.1 b)).elim,λ_=>h2 c h⟩
end
def ds:Nat->List D->List D
 |0,l=>l
 |n+1,l=>d!::ds n l
def kp{l:List D}:ds 0 l=l:=d?
def Cn{n:Nat}{l:List D}:ds (n+1) l=d!::ds n l:=d?
def rpS{α:Type}{a:α}:l! 1 a=[a]/\l! 2 a=[a,a]/\l! 3 a=[a,a,a]/\l! 55 a=[a,a,a,a,a,a,a,a,a,a,a,a,a,a,a,a,a,a,a,a,a,a,a,a,a,a,a,a,a,a,a,a,a,a,a,a,a,a,a,a,a,a,a,a,a,a,a,a,a,a,a,a,a,a,a]:=⟨rfl,rfl,rfl,rfl⟩
variable {P:a42} {N:Nat}
def XK(ok:Bool) (z:D) (m:List Ent) (o:Option D):Option (D×List Ent):=
 match o with
 |some d=>M (if ok then .tup [d,.v (.bool a35)]else d,m)
 |none=>M (if ok then .tup [z,.v (.bool a36)]else z,m)
def cO{β:Type}:List (Int×β)->Int->Option β
 |[],_=>q6
 |(q,x)::l,k=>if k=q then M x else cO l k
def xX{β:Type}(k:Int) (x:β):List (Int×β)->List (Int×β)
 |[]=>[(k,x)]
 |(q,y)::l=>if k=q then(k,x)::l else(q,y)::xX k x l
def em{β:Type}(e:β->D) (l:List (Int×β)):List (a38×D):=l.map λp=>(.int .i64 p.1,e p.2)
theorem F3{β:Type}{e:β->D}{k:Int}:∀{l:List (Int×β)},Pt (.int .i64 k) (em e l)=(cO l k).map e
 |[]=>d?
 |(q,x)::l=>by
  have a:=F3 (e:=e) (k:=k) (l:=l);simp only[em]at a;simp only[em,F?,Pt,dv,cO,R2,a];split<;>rfl
theorem dZ{β:Type}{e:β->D}{k:Int}{x:β}:∀{l:List (Int×β)},Ry (.int .i64 k) (e x) (em e l)=em e (xX k x l)
 |[]=>d?
 |(q,y)::l=>by
  have a:=dZ (e:=e) (k:=k) (x:=x) (l:=l);simp only[em]at a;simp only[em,F?,Ry,dv,xX,R2,a];split<;>rfl
theorem bs3{e:β->D}{l:List (Int×β)}:((em e l).all λq=>u? 0 q.1)=a35:=by
 simp[em,u?]
theorem bo2{e:β->D}:em e []=[]:=d?
theorem bo3{e:β->D}{l:List (Int×β)}:(em e l).length=l.length:=by simp[em]
theorem KY{e:β->D} [Fr e] {l:List (Int×β)}:frM (em e l)=a35:=by
 simp only[frM,em,List.all_map,R'];exact λx _=>Fr.h x.2
def aK2{k:Int}:u? 0 (.int .i64 k)=a35:=d?
def tA(b:ByteArray) (i:Int):Option Int:=if h:0<=i/\i.toNat<b.size then M ((b[i.toNat]'h.2).toNat:Int)else q6
def Zz:Nat->List D->Bool
 |0,[]=>a35
 |n+1,_::l=>Zz n l
 |_,_=>a36
theorem px:∀{n:Nat}{l:List D},Zz n l=a35↔l.length=n
 |0,[]=>by simp[Zz]
 |n+1,_::l=>by simp[Zz,px (n:=n) (l:=l)]
 |0,_::_=>by simp[Zz]
 |_+1,[]=>by simp[Zz]
def AE:Nat->Nat->List D->Bool
 |0,0,_=>a35
 |0,n+1,_::l=>AE 0 n l
 |o+1,n,_::l=>AE o n l
 |_,_,[]=>a36
theorem iy:∀{o n:Nat}{l:List D},AE o n l=a35↔o+n<=l.length
 |0,0,l=>by simp[AE]
 |0,n+1,_::l=>by simp[AE,iy (o:=0) (n:=n) (l:=l)]
 |o+1,n,_::l=>by simp[AE,iy (o:=o) (n:=n) (l:=l)];omega
 |0,n+1,[]=>by simp[AE]
 |o+1,n,[]=>by simp[AE]
theorem bh7:Zz 0 []=a35:=d?
def aJ4{n:Nat}{d:D}{l:List D}:Zz (n+1) (d::l)=Zz n l:=d?
theorem ct8{l:List D}:AE 0 0 l=a35:=by cases l<;>rfl
def cu0{n:Nat}{d:D}{l:List D}:AE 0 (n+1) (d::l)=AE 0 n l:=d?
theorem ct9{o n:Nat}{d:D}{l:List D}:AE (o+1) n (d::l)=AE o n l:=by cases n<;>rfl
theorem cs3:type_of% @fa.eq_1:=by intros;exact I? rfl rfl
theorem be0:type_of% @fa.eq_2:=by intros;exact I? rfl rfl
theorem by2:type_of% @fa.eq_3:=by intros;exact I? rfl rfl
theorem by3:type_of% @fa.eq_4:=by intros;exact I? rfl rfl
theorem cs2:type_of% @fa.eq_5:=by intros;exact I? rfl rfl
theorem be6:type_of% @fa.eq_6:=by intros;exact I? rfl rfl
theorem aG6:type_of% @fa.eq_7:=by intros;exact I? rfl rfl
theorem by1{s:St}{S:Nat}:fa s (.box S x)=if(s.ev x).ok=a35/\Zz S (s.ev x).cells=a35 then M (.ref s.m.length 0 0 0,s.m++[.live S 0 [s.ev x]])else q6:=by simp only[px,iy];rfl
theorem aG5:type_of% @fa.eq_9:=by intros;exact I? rfl rfl
theorem aj0:type_of% @fa.eq_10:=by intros;exact I? rfl rfl
theorem be4{s:St}{A:Bool}{n:Nat}:fa s (.load A n x) =
 match s.ev x with
 |.pt d=>
  match A,d with
  |true,.agg l=>if Zz n l=a35 then M (d,s.m)else q6
  |true,_=>q6
  |false,.agg _=>q6
  |false,d=>if d.ok=a35 then M (d,s.m)else q6
 |.ref id Ta c! sub=>
  match s.m[id]? with
  |some (.live _ a l)=>if a=Ta then(l[c!]?).bind λd=>if d.ok=a35 then(part A n sub d.cells).map λr=>(r,s.m)else q6 else q6
  |_=>q6
 |_=>q6:=by simp only[px,iy];rfl
theorem aF4{s:St}{n:Nat}{y:a41}:fa s (.store n x y) =
 match s.ev x with
 |.ref id Ta c! sub=>
  match s.m[id]? with
  |some (.live S a l)=>
   if a=Ta/\(s.ev y).ok=a35/\Zz n (s.ev y).cells=a35 then
    (l[c!]?).bind λd=>if d.ok=a35/\0<n/\AE sub n d.cells=a35 then M (d!,s.m.set id (.live S a (l.set c! (d.nh sub (s.ev y).cells))))else q6
   else q6
  |_=>q6
 |_=>q6:=by simp only[px,iy];rfl
theorem be1:type_of% @fa.eq_13:=by intros;exact I? rfl rfl
theorem aF5:type_of% @fa.eq_14:=by intros;exact I? rfl rfl
theorem aG4:type_of% @fa.eq_15:=by intros;exact I? rfl rfl
theorem aG3:type_of% @fa.eq_16:=by intros;exact I? rfl rfl
theorem aG2:type_of% @fa.eq_17:=by intros;exact I? rfl rfl
theorem aG7:type_of% @fa.eq_18:=by intros;exact I? rfl rfl
theorem aG1:type_of% @fa.eq_19:=by intros;exact I? rfl rfl
theorem V8:type_of% @fa.eq_20:=by intros;exact I? rfl rfl
theorem bx8:type_of% @fa.eq_21:=by intros;exact I? rfl rfl
theorem bd8:type_of% @fa.eq_22:=by intros;exact I? rfl rfl
theorem aj1:type_of% @fa.eq_23:=by intros;exact I? rfl rfl
theorem W8:type_of% @fa.eq_24:=by intros;exact I? rfl rfl
theorem ai9:type_of% @fa.eq_25:=by intros;exact I? rfl rfl
theorem be5:type_of% @fa.eq_26:=by intros;exact I? rfl rfl
theorem cs4:type_of% @fa.eq_27:=by intros;exact I? rfl rfl
theorem by0:type_of% @fa.eq_28:=by intros;exact I? rfl rfl
theorem bd7:type_of% @fa.eq_29:=by intros;exact I? rfl rfl
theorem bd9{s:St}{i:a41}:fa s (.tA x i)=(match s.ev x,s.ev i with
 |.v (.string b),.v (.int _ k)=>(tA b k).map λn=>(D.v (.int .u8 n),s.m)
 |_,_=>q6):=by
 simp only[fa];generalize s.ev x=a;generalize s.ev i=c;split
 .rename_i b k' k;by_cases h:0<=k/\k.toNat<b.size<;>simp[tA,h]
 .rename_i hx;split
  .exact(hx _ _ _ rfl rfl).elim
  .rfl
theorem ai8:type_of% @fa.eq_31:=by intros;exact I? rfl rfl
theorem aF8:type_of% @fa.eq_32:=by intros;exact I? rfl rfl
theorem aF7{s:St}{K:Nat}{ok:Bool}{z:D}{k:a41}:fa s (.mlook K ok z x k) =
 match s.ev k with
 |.v a=>
  if u? K a=a35 then
   match s.ev x with
   |.v (.map q6)=>M (if ok then .tup [z,.v (.bool a36)]else z,s.m)
   |.mp id=>
    match s.m[id]? with
    |some (.mp es)=>
     if(es.all λe=>u? K e.1)=a35 then
      XK ok z s.m (Pt a es)
     else q6
    |_=>q6
   |_=>q6
  else q6
 |_=>q6:=by
 simp only[fa,XK];rfl
theorem be2:type_of% @fa.eq_34:=by intros;exact I? rfl rfl
theorem be3:type_of% @fa.eq_35:=by intros;exact I? rfl rfl
theorem aF3:type_of% @fa.eq_36:=by intros;exact I? rfl rfl
theorem aF9:type_of% @fa.eq_37:=by intros;exact I? rfl rfl
theorem X8:type_of% @fa.eq_38:=by intros;exact I? rfl rfl
theorem bx9:type_of% @fa.eq_39:=by intros;exact I? rfl rfl
theorem be7:type_of% @fa.eq_40:=by intros;exact I? rfl rfl
theorem aF6:type_of% @fa.eq_41:=by intros;exact I? rfl rfl
theorem aG0:type_of% @fa.eq_42:=by intros;exact I? rfl rfl
def gQ(p:Prop) (a:St->Prop) (s1:St) (b:St->Prop) (s2:St):Prop:=gP p (a s1) (b s2)
def cv0{a b:St->Prop}:gQ True a s1 b s2=a s1:=cj8
def cv1{b a:St->Prop}:gQ False b s1 a s2=a s2:=cj9
def gD(d:D) (b:Bool) (e:St->Prop) (s1:St) (a:St->Prop) (s2 s0:St):Prop:=
 match d with
 |.v (.bool c)=>gQ (c=b) e s1 a s2
 |.v _=>a s0
 |_=>False
def aM4{c b:Bool}{a d:St->Prop}:gD (.v (.bool c)) b a s1 d s2 s0=gQ (c=b) a s1 d s2:=d?
def aM3{b:Bool}{c a:St->Prop}:gD (.v (.tuple #[])) b c s1 a s2 s0=a s0:=d?
def ap5{b:Bool}{c a:St->Prop}:gD (.v undef) b c s1 a s2 s0=a s0:=d?
section
variable {t:List D} {m:List Ent} {i:Nat} {b:Bool} {dst:Option Tmp} {l:List RI} {K:St->Prop} {ins:I} {k q:Nat} {args:List a41}
theorem aw2:Rj P (.op dst (M (i,b)) ins::l) K ⟨t,m⟩=gD (t.getD i d!) b (Rj P (.op dst q6 ins::l) K) ⟨t.set i (.v (.bool b)),m⟩ (Rj P l K) (St.put ⟨t.set i (.v (.bool (!b))),m⟩ dst (.v undef)) (St.put ⟨t,m⟩ dst (.v undef)):=by
 rw[aw1];simp only[j!,gD,gQ,aE,D0]
 cases h:t.getD i .dead with
 |v x=>cases x<;>simp[gP]<;>cases b<;>simp
 |_=>rfl
theorem OX:Rj P (.call dst (M (i,b)) (.func k) args::l) K ⟨t,m⟩=gD (t.getD i d!) b (Rj P (.call dst q6 (.func k) args::l) K) ⟨t.set i (.v (.bool b)),m⟩ (Rj P l K) (St.put ⟨t.set i (.v (.bool (!b))),m⟩ dst (.v undef)) (St.put ⟨t,m⟩ dst (.v undef)):=by
 rw[kU];simp only[j!,gD,gQ,aE,EM]
 cases h:t.getD i .dead with
 |v x=>cases x<;>simp[gP]<;>cases b<;>simp
 |_=>rfl
theorem ap4{t:List D}{i:Nat}{b c:Bool}(h:t.getD i d!=.v (.bool c)) {Y N:List D->Prop}:gP (c=b) (Y t) (N t)=gP (c=b) (Y (t.set i (.v (.bool b)))) (N (t.set i (.v (.bool (!b))))):=by
 have a:=PI h l5;by_cases hc:c=b
 .subst hc;rw[a];simp[gP]
 .have:(!b)=c:=by cases b<;>cases c<;>simp_all
  rw[this,a];simp[gP,hc]
theorem PX:Rj P (.call dst q6 (.tmp i) args::l) K ⟨t,m⟩=(match t.getD i .dead with|.fn k first caps=>kg P k (first++args.map (St.ev ⟨t,m⟩)++caps) m (KO (Rj P l K) ⟨t,m⟩ dst)|_=>False):=by
 simp only[Rj,j!,St.ec,St.ev]
 first|done|(cases t.getD i d!<;>rfl)
theorem aT2:NC P (q+1) (.op dst (M (i,b)) ins::l) K ⟨t,m⟩=gD (t.getD i d!) b (NC P (q+1) (.op dst q6 ins::l) K) ⟨t.set i (.v (.bool b)),m⟩ (NC P q l K) (St.put ⟨t.set i (.v (.bool (!b))),m⟩ dst (.v undef)) (St.put ⟨t,m⟩ dst (.v undef)):=by
 rw[aT1];simp only[j!,gD,gQ,ax3]
 cases h:t.getD i .dead with
 |v x=>
  cases x with
  |bool c=>exact ap4 h (Y:=λt=>Fv (fa ⟨t,m⟩ ins) (KO (NC P q l K) ⟨t,m⟩ dst)) (N:=λt=>NC P q l K (St.put ⟨t,m⟩ dst (.v undef)))
  |_=>cases b<;>simp[gP]
 |_=>rfl
theorem U5:NC P (q+1) (.call dst (M (i,b)) (.func k) args::l) K ⟨t,m⟩=gD (t.getD i d!) b (NC P (q+1) (.call dst q6 (.func k) args::l) K) ⟨t.set i (.v (.bool b)),m⟩ (NC P q l K) (St.put ⟨t.set i (.v (.bool (!b))),m⟩ dst (.v undef)) (St.put ⟨t,m⟩ dst (.v undef)):=by
 rw[NX];simp only[j!,gD,gQ,wQ]
 cases h:t.getD i .dead with
 |v x=>
  cases x with
  |bool c=>exact ap4 h (Y:=λt=>HQ P k (args.map (St.ev ⟨t,m⟩)) (NC P q l K) ⟨t,m⟩ dst) (N:=λt=>NC P q l K (St.put ⟨t,m⟩ dst (.v undef)))
  |_=>cases b<;>simp[gP]
 |_=>rfl
end
section
variable {t:List D} {m m':List Ent} {i:Nat} {x:a38} {f:a44} {g:Nat} {b c:Bool} {d d':D} {k n:Nat} {R:St->Prop} {o:a41} {s:St}
def bb6:St.ev ⟨t,m⟩ (.tmp i)=t.getD i d!:=d?
def ae2:St.ev s (.const x)=.v x:=d?
def aA6:St.ev s (.func f)=.fn f [] []:=d?
def U8:St.put ⟨t,m⟩ (M i) d=⟨t.set i d,m⟩:=d?
def T8:St.put s q6 d=s:=d?
def aS6:KO R ⟨t,m⟩ (M i) d m'=R ⟨t.set i d,m'⟩:=d?
def aS7:KO R ⟨t,m⟩ q6 d m'=R ⟨t,m'⟩:=d?
def Z7:j! ⟨t,m⟩ (M (i,b))=(match t.getD i .dead with|.v (.bool c)=>M (M (c,b))|.v _=>M (M (!b,b))|_=>q6):=d?
def aj6:aE ⟨t,m⟩ (M (i,b)) c=(match t.getD i .dead with|.v (.bool _)=>⟨t.set i (.v (.bool c)),m⟩|_=>⟨t,m⟩):=d?
def M6{l:List D}:D.cells (.agg l)=l:=d?
def aQ0:D.cells (.v x)=[.v x]:=d?
def at0{l:List D}:D.cells (.sl n l)=[.sl n l]:=d?
def sJ:D.cells (.own i k)=[.own i k]:=d?
def dY{a b:Nat}:D.cells (.view i k a b)=[.view i k a b]:=d?
def N6{a b:Nat}:D.cells (.ref i k a b)=[.ref i k a b]:=d?
def at1:D.cells (.pt d)=[.pt d]:=d?
def at3{a b:List D}:D.cells (.fn f a b)=[.fn f a b]:=d?
def at2:D.cells (.mp i)=[.mp i]:=d?
def bf6{l:List D}:D.ok (.agg l)=a35:=d?
def cs5:D.ok (.v x)=one x:=d?
def bz4{l:List D}:D.ok (.sl n l)=a35:=d?
def bf5:D.ok (.own i k)=a35:=d?
def aH3{a b:Nat}:D.ok (.view i k a b)=a35:=d?
def bf4{a b:Nat}:D.ok (.ref i k a b)=a35:=d?
def bz5:D.ok (.pt d)=a35:=d?
def bz7{a b:List D}:D.ok (.fn f a b)=a35:=d?
def bz6:D.ok (.mp i)=a35:=d?
def aH2{j:a45}{z:Int}:one (.int j z)=a35:=d?
def ak0:one (.bool b)=a35:=d?
def aG9{z:ByteArray}:one (.string z)=a35:=d?
def bf3{a b}:one (.slice q6 a b)=a35:=d?
def aH1:one (.map q6)=a35:=d?
def aH0:one (.pointer q6)=a35:=d?
def aJ6:Cd m (.v (.slice q6 0 0))=M 0:=d?
def bh8{l:List D}:Cd m (.sl n l)=M l.length:=d?
def aJ5:Cd m (.own i k)=(match m[i]? with|some (.live _ a l)=>if a=k then M l.length else q6|_=>q6):=d?
def am7{a b:Nat}:Cd m (.view i k a b)=(match m[i]? with|some _=>M b|none=>q6):=d?
def aP6:h! n m (.v (.slice q6 0 0))=M []:=d?
def bp6{l:List D}:h! n m (.sl k l)=(if k=n then M l else q6):=d?
def aP5:h! n m (.own i k)=(match m[i]? with|some (.live S' a l)=>if S'=n/\a=k then M l else q6|_=>q6):=d?
def as4{a b:Nat}:h! n m (.view i k a b)=(match m[i]? with|some (.live S' c l)=>if S'=n/\c=k/\a+b<=l.length then M ((l.drop a).take b)else q6|_=>q6):=d?
theorem bf1{l:List D}:part a35 n off l=(if AE off n l=a35 then M (.agg ((l.drop off).take n))else q6):=by simp only[iy];rfl
def bf2{l:List D}:part a36 n off l=l[off]?:=d?
def ay2{l:List D}{a:Nat}:D.nh (.agg l) a r=.agg (Su l a r):=d?
def bv0{a:Nat}:D.nh (.v x) a r=r.headD d!:=d?
def aZ6{l:List D}{a:Nat}:D.nh (.sl n l) a r=r.headD d!:=d?
def ay1{a:Nat}:D.nh (.own i k) a r=r.headD d!:=d?
def aZ7{a:Nat}:D.nh (.pt d) a r=r.headD d!:=d?
def ay0{a b c:Nat}:D.nh (.ref i k b c) a r=r.headD d!:=d?
def ab1{e:D}:(d::r).headD e=d:=d?
theorem ae7{l:List D}:Su (d::l) 0 (d'::r)=d'::Su l 0 r:=by simp[Su]
theorem ae6{l:List D}:Su (d::l) (n+1) r=d::Su l n r:=by simp[Su,Nat.add_right_comm]
theorem QZ{l:List D}:Su l 0 []=l:=by simp[Su]
theorem K6{l:List D}:My s [] l=M l:=d?
theorem ZX{l:List D}{ps:List (Nat×Nat×a41)}:My s ((off,n,o)::ps) l=(if(s.ev o).ok=a35/\Zz n (s.ev o).cells=a35/\AE off n l=a35 then My s ps (Su l off (s.ev o).cells)else q6):=by simp only[px,iy];rfl
def aQ5{l:List D}:ld s n [] l=M l:=d?
theorem au4{l:List D}{ps:List (Nat×a41)}:ld s n ((i,o)::ps) l=(if(s.ev o).ok=a35/\Zz n (s.ev o).cells=a35/\AE i 1 l=a35 then ld s n ps (l.set i (s.ev o))else q6):=by simp only[px,iy];rfl
def au7:bound s n q6=M n:=d?
def au6:bound s n (M o)=(match s.ev o with|.v (.int _ n)=>if 0<=n then M n.toNat else q6|_=>q6):=d?
def aB9:Vy n m (.v (.slice q6 0 0)) lo hi=(if lo=0/\hi=0 then M (.v (.slice q6 0 0))else q6):=d?
def bc1{l:List D}:Vy n m (.sl k l) lo hi=(if k=n/\lo<=hi/\hi<=l.length then M (.sl n ((l.drop lo).take (hi-lo)))else q6):=d?
def aB8:Vy n m (.own i k) lo hi=(match m[i]? with|some (.live S' a l)=>if S'=n/\a=k/\lo<=hi/\hi<=l.length then M (.view i k lo (hi-lo))else q6|_=>q6):=d?
def ae8{a b:Nat}:Vy n m (.view i k a b) lo hi=(match m[i]? with|some (.live S' c l)=>if S'=n/\c=k/\lo<=hi/\hi<=b/\a+b<=l.length then M (.view i k (a+lo) (hi-lo))else q6|_=>q6):=d?
def aJ2:r? []=M []:=d?
def am4{l:List D}:r? (.v x::l)=(r? l).map (x::·):=d?
def aN5{j k:a45}{a b:Int}:Ny 0 (.v (.int j a)) (.v (.int k b))=(if j=k then M (a==b)else q6):=d?
def aq0{a b:Bool}:Ny 1 (.v (.bool a)) (.v (.bool b))=M (a==b):=d?
theorem QG{a b:ByteArray}:(a.toList==b.toList)=s5 (a=b):=by
 by_cases h:a=b
 .subst h;simp
 .rw[u4 h,beq_eq_false_iff_ne];exact λhe=>h (by cases a;cases b;simp only[ByteArray.toList_eq]at he;simpa using he)
theorem aN4{a b:ByteArray}:Ny 2 (.v (.string a)) (.v (.string b))=M (s5 (a=b)):=by
 rw[←QG];rfl
theorem bb2{a b:ByteArray}:Si (binOp .eql 0 (.string a) (.string b))=M (.bool (s5 (a=b))):=by
 rw[←QG];rfl
theorem bb1{a b:ByteArray}:Si (binOp .neq 0 (.string a) (.string b))=M (.bool (!s5 (a=b))):=by
 rw[←QG];rfl
def aN3:He [] [] []=M a35:=d?
def ap9{ks:List Nat}{xs ys:List D}{e:D}:He (k::ks) (d::xs) (e::ys)=(match Ny k d e,He ks xs ys with|some a,M b=>M (a&&b)|_,_=>q6):=d?
section
variable {j:a45} {a b:Int}
theorem br4:Zi .add j a j b=M (.int j (aa j (a+b))):=by simp[Zi]
theorem bq4:Zi .sub j a j b=M (.int j (aa j (a-b))):=by simp[Zi]
theorem bq8:Zi .mul j a j b=M (.int j (aa j (a*b))):=by simp[Zi]
theorem br3:Zi .eql j a j b=M (.bool (a==b)):=by simp[Zi]
theorem bq7:Zi .neq j a j b=M (.bool (a !=b)):=by simp[Zi]
theorem bq9:Zi .lss j a j b=M (.bool (s5 (a<b))):=by simp[Zi]
theorem br0:Zi .leq j a j b=M (.bool (s5 (a<=b))):=by simp[Zi]
theorem br1:Zi .gtr j a j b=M (.bool (s5 (b<a))):=by simp[Zi]
theorem br2:Zi .geq j a j b=M (.bool (s5 (b<=a))):=by simp[Zi]
theorem bq6:Zi .quo j a j b=if b=0 then q6 else M (.int j (aa j (a.tdiv b))):=by
 by_cases h:b=0<;>simp[Zi,h]
theorem bq5:Zi .rem j a j b=if b=0 then q6 else M (.int j (a.tmod b)):=by
 by_cases h:b=0<;>simp[Zi,h]
end
theorem cp5{b:Bool}:(b !=a36)=b:=by cases b<;>rfl
theorem cp4{b:Bool}:(b !=a35) = !b:=by cases b<;>rfl
theorem bA1{b:Bool}:((!b)=a36)=(b=a35):=by cases b<;>simp
theorem bA0{b:Bool}:((!b)=a35)=(b=a36):=by cases b<;>simp
def kh:Rb s []=M []:=d?
theorem lh{l:List RV}:Rb ⟨t,m⟩ (.tmp i::l)=(match Rb ⟨t,m⟩ l with|some ds=>M (t.getD i d!::ds)|none=>q6):=by
 simp only[Rb,JA];cases Rb ⟨t,m⟩ l<;>rfl
theorem lf{l:List RV}:Rb ⟨t,m⟩ (.cell b n i::l)=(match fa ⟨t,m⟩ (.load b n (.tmp i)),Rb ⟨t,m⟩ l with|some (d,_),M ds=>M (d::ds)|_,_=>q6):=by
 simp only[Rb,JA];cases fa ⟨t,m⟩ (.load b n (.tmp i))<;>cases Rb ⟨t,m⟩ l<;>rfl
end
def zx:=(ak (ak (ak (ak (ak (ak (ak (ak (ak @aZ2 @bt6) (ak @bt4 @bt5)) (ak (ak @yQ @aS8) (ak @bt7 @cs3))) (ak (ak (ak @be0 @by2) (ak @by3 @cs2)) (ak (ak @be6 @aG6) (ak @by1 @aG5)))) (ak (ak (ak (ak @aj0 @be4) (ak @aF4 @be1)) (ak (ak @aF5 @aG4) (ak @aG3 @aG2))) (ak (ak (ak @aG7 @aG1) (ak @V8 @bx8)) (ak (ak @bd8 @aj1) (ak @W8 @ai9))))) (ak (ak (ak (ak (ak @be5 @cs4) (ak @by0 @bd7)) (ak (ak @bd9 @ai8) (ak @aF8 @aF7))) (ak (ak (ak @be2 @be3) (ak @aF3 @aF9)) (ak (ak @X8 @bx9) (ak @be7 @aF6)))) (ak (ak (ak (ak @aG0 @cv0) (ak @cv1 @aM4)) (ak (ak @aM3 @ap5) (ak @aw2 @OX))) (ak (ak (ak @PX @aT2) (ak @U5 @bb6)) (ak (ak @ae2 @aA6) (ak @U8 @T8)))))) (ak (ak (ak (ak (ak (ak @aS6 @aS7) (ak @Z7 @aj6)) (ak (ak @M6 @aQ0) (ak @at0 @sJ))) (ak (ak (ak @dY @N6) (ak @at1 @at3)) (ak (ak @at2 @bf6) (ak @cs5 @bz4)))) (ak (ak (ak (ak @bf5 @aH3) (ak @bf4 @bz5)) (ak (ak @bz7 @bz6) (ak @aH2 @ak0))) (ak (ak (ak @aG9 @bf3) (ak @aH1 @aH0)) (ak (ak @aJ6 @bh8) (ak @aJ5 @am7))))) (ak (ak (ak (ak (ak @aP6 @bp6) (ak @aP5 @as4)) (ak (ak @bf1 @bf2) (ak @ay2 @bv0))) (ak (ak (ak @aZ6 @ay1) (ak @aZ7 @ay0)) (ak (ak @ab1 @ae7) (ak @ae6 @QZ)))) (ak (ak (ak (ak @K6 @ZX) (ak @aQ5 @au4)) (ak (ak @au7 @au6) (ak @aB9 @bc1))) (ak (ak (ak @aB8 @ae8) (ak @aJ2 @am4)) (ak (ak @aN5 @aq0) (ak @aN4 @bb2))))))) (ak (ak (ak (ak (ak (ak (ak @bb1 @aN3) (ak @ap9 @br4)) (ak (ak @bq4 @bq8) (ak @br3 @bq7))) (ak (ak (ak @bq9 @br0) (ak @br1 @br2)) (ak (ak @bq6 @bq5) (ak @cp5 @cp4)))) (ak (ak (ak (ak @bA1 @bA0) (ak @kh @lh)) (ak (ak @lf @ξ.{0}) (ak @zab.{0} @aI5))) (ak (ak (ak @aJ0 @aI8) (ak @false_and @and_false)) (ak (ak @true_or @or_true) (ak @or_self @false_or))))) (ak (ak (ak (ak (ak @or_false @at4) (ak @eq_self.{1} @Wv)) (ak (ak @cj8 @cj9) (ak @bne_self_eq_false.{0} @bne_iff_ne.{0}))) (ak (ak (ak @bne_eq_false_iff_eq.{0} @Bool.false_eq_true) (ak @Bool.true_eq_false @false_implies)) (ak (ak @true_implies @implies_true.{1}) (ak @not_true_eq_false @not_false_eq_true)))) (ak (ak (ak (ak @beq_self_eq_true.{0} @aw3) (ak @D0 @EM)) (ak (ak @ax2 @ax3) (ak @wQ @X5))) (ak (ak (ak @aS5 @bt3) (ak @W5 @aS9)) (ak (ak @bt8 @av1) (ak @aJ1 @Option.bind_some.{0,0})))))) (ak (ak (ak (ak (ak (ak @Nat.mul_one @Int.toNat_natCast) (ak @Int.natCast_nonneg @ac1)) (ak (ak @ac0 @ac2) (ak @Nat.lt_add_one @Jae))) (ak (ak (ak @true_and @and_true) (ak @and_self @Bool.or_false)) (ak (ak @Bool.false_or @Bool.or_true) (ak @Bool.true_or @Bool.or_self)))) (ak (ak (ak (ak @u6 @List.getD_cons_succ.{0}) (ak @List.getD_cons_zero.{0} @G!.{0})) (ak (ak @N'.{0} @H!.{0}) (ak @L!.{0} @List.set_cons_succ.{0}))) (ak (ak (ak @List.set_cons_zero.{0} @F?.{0,0}) (ak @W?.{0,0} @zac.{0,0})) (ak (ak @Option.map_none.{0,0} @br5) (ak @decide_true @cond_true.{1}))))) (ak (ak (ak (ak (ak @cond_false.{1} @if_true.{1}) (ak @if_false.{1} @decide_eq_true_eq)) (ak (ak @decide_eq_false_iff_not @Μ) (ak @hac @Nat.succ_ne_self))) (ak (ak (ak @Bool.not_true @Bool.not_false) (ak @ax8 @decide_false)) (ak (ak @beq_iff_eq.{0} @beq_eq_false_iff_ne.{0}) (ak @ne_eq.{1} @Y?)))) (ak (ak (ak (ak @Nat.add_zero @Bab.{0,0}) (ak @x? @ite_true.{1})) (ak (ak @ite_false.{1} @V!.{0}) (ak @List.drop_succ_cons.{0} @cad.{0}))) (ak (ak (ak @List.take_succ_cons.{0} @List.take_zero.{0}) (ak @List.getElem?_map.{0,0} @List.length_append.{0})) (ak (ak @M' @had) (ak @rpS @fad.{0})))))))) (ak (ak (ak (ak @zac.{0,0} @bh7) (ak @aJ4 @ct8)) (ak (ak @cu0 @ct9) (ak @E' @kp))) (ak (ak (ak @Cn @Xs) (ak @F3 @bs3)) (ak @aK2 @bo3))))
def aB5{α:Type}{e:α->D} [Fr e] {f:D->D->Prop}{l:List α}:YD f (l.map e) (l.map e)=True:=Yk (Fr.l l)
theorem cs6{x:Nat}:(0=x+1)=False:=l5
theorem cs7{x:Nat}:(x+1=0)=False:=l5
theorem cs8{x y:Nat}:(x+1=y+1)=(x=y):=l5
def zq:=(ak (ak (ak (ak (ak (ak @cs6 @cs7) (ak @cs8 @aB5)) (ak (ak @aB6 @ae5) (ak @bw3 @aB4))) (ak (ak (ak @aB3 @cr8) (ak @bc0 @bb7)) (ak (ak @aA9 @bv9) (ak @aB0 @ae3)))) (ak (ak (ak (ak @bb9 @ae4) (ak @bb8 @aA8)) (ak (ak @bw0 @aB1) (ak @bw2 @bn6))) (ak (ak (ak @aN0 @bn7) (ak @aj9 @R8)) (ak (ak @kp @Cn) (ak @bw1 @ck6))))) (ak (ak (ak (ak (ak @aM5 @KY) (ak @bo2 @rpS)) (ak (ak @fad.{0} @and_self) (ak @and_true @true_and))) (ak (ak (ak @or_true @true_or) (ak @eq_self.{1} @ξ.{0})) (ak (ak @zab.{0} @T!.{0}) (ak @H?.{0,0} @W?.{0,0})))) (ak (ak (ak (ak @F?.{0,0} @List.map_append.{0,0}) (ak @N'.{0} @exists_eq'.{1})) (ak (ak @hac @Μ) (ak @bne_iff_ne.{0} @ne_eq.{1}))) (ak @not_false_eq_true @E'))))
def zs:=(ak (ak (ak @G!.{0} @N'.{0}) (ak @H!.{0} @L!.{0})) (ak (ak @Y? @kp) @Cn))
variable {P:a42} {N:Nat}
class K? (N:Nat) (K:Exit->St->Prop):Prop where
 h:Stb N K
variable {K:Exit->St->Prop}
instance {b:C}{K:Exit->St->Prop}:K? N (KS P N b K):=⟨bv4⟩
instance {id:Nat}{K:Exit->St->Prop} [h:K? N K]:K? N (KB id K):=⟨bv8 h.h⟩
instance {σ β ρ:Type}{id:Nat}{K:Exit->St->Prop}{S:σ->St}{B:β->St}{z:Ex σ β ρ}:K? N (KL N id K S B z):=⟨bv5⟩
instance {X R:Type}{K:Exit->St->Prop}{S:X->St}{z:X⊕R}:K? N (KJ N K S z):=⟨bv6⟩
instance {rs:List RV}{o:D}:K? 0 (LB rs o):=⟨bv7⟩
def T.loopC{ρ:Type}[c:K? N K] {x:C}{s:St}(S:σ->St) (B:β->St) (step:σ->Option (Ex σ β ρ)) (x0:σ) {y:β⊕ρ}(e:Tm.ca step x0=M y) (d:f' N s (S x0))
 (round:∀a z,step a=M z->(∀v,z=.ret v->y=.inr v)->Tm.T P N x (KL N id K S B z) (S a))
 (rest:∀b,y=.inl b->K .normal (B b)):Tm.T P N (.block id (.loop x)) K s:=T.ca S B step x0 e d c.h round rest
def QK:oa []=a35:=rfl
theorem IN{α:Type}{e:α->D} [Fr e] {x:α}{l:List D}(h:oa l=a35):oa (e x::l)=a35:=by
 simp_all[oa,Fr.h]
theorem frF{k:a44}{q l:List D}(hc:oa q=a35) (h:oa l=a35):oa (.fn k [] q::l)=a35:=by
 grind[oa,xa]
theorem at7{d d':D}{q:List D}{o:D}(h:e? P k ([d']++q) o) (hq:oa q=a35) (hf:f o m) (a:Sq [] [] 9 d d'):kg P k (d::q) m f:=
 Ic (m1:=m) (d1:=o) ⟨(h m).1,λG w vs hv hi=>(h m).2 G w vs ((OI (vA 9 d d' q q a (q!.free hq))).1 vs hv) hi⟩ hf
theorem bu2{o:D}{s:St}(h:iV (Rb s rs) s.m o):LB rs o .normal s:=by
 obtain⟨ds,a,h2⟩:=h;exact⟨s,.refl s,ds,a,h2⟩
def Fw{α:Type}(l:List α) (hi:Int):Option (List α):=if 0<=hi/\hi.toNat<=l.length then M (l.take hi.toNat)else q6
def pK{α:Type}(l:List α) (lo:Int):Option (List α):=if 0<=lo/\lo.toNat<=l.length then M (l.drop lo.toNat)else q6
section
variable {α:Type} {e:α->D} {l r x:List α} {i:Int} {y:α} {b:Nat}
def cg9(h:c! l i=M y):0<=i/\l[i.toNat]?=M y:=jy h
theorem cg8(h:c! l i=M y):0<=i/\l[i.toNat]?=M y/\i.toNat<l.length:=by
 obtain⟨h1,h2⟩:=jy h
 grind
theorem tD(h:app b l r=M x):(l.length+r.length)*b<=2 ^ 47/\l.map e++r.map e=x.map e:=by
 obtain⟨h1,rfl⟩:=pU h
 simp_all
theorem aj3(h:put l i y=M x):i.toNat<l.length/\(l.map e).set i.toNat (e y)=x.map e:=by
 obtain⟨h0,h1,rfl⟩:=aj2 h
 simp_all
theorem QV{n c:Int}(h:fD b y n c=M x):0<=n/\n<=c/\c<=2 ^ 62/\c.toNat*b<=2 ^ 48/\l! n.toNat (e y)=x.map e:=by
 obtain⟨h0,h1,h2,h3,rfl⟩:=al6 h
 simp_all
theorem bb0(h:Fw l i=M x):0<=i/\i.toNat<=l.length/\((l.map e).drop 0).take (i.toNat-0)=x.map e:=by
 unfold Fw at h;split at h
 .rename_i hc;obtain rfl:=J! h
  simp_all
 .cases h
theorem ay5(h:Fw l i=M x):0<=i/\i.toNat<=l.length/\(l.map e).take i.toNat=x.map e:=by
 obtain⟨h1,h2,h3⟩:=bb0 (e:=e) h
 simp_all
theorem ae0(h:pK l i=M x):0<=i/\i.toNat<=l.length/\((l.map e).drop i.toNat).take (l.length-i.toNat)=x.map e:=by
 unfold pK at h;split at h
 .rename_i hc;obtain rfl:=J! h
  grind[List.map_drop,dac]
 .cases h
theorem Z1(h:pK l i=M x):0<=i/\i.toNat<=l.length/\((l.map e).take l.length).drop i.toNat=x.map e:=by
 obtain⟨h1,h2,h3⟩:=ae0 (e:=e) h
 grind[dac]
theorem ba9(h:pK l i=M x):0<=i/\i.toNat<=l.length/\i.toNat+x.length<=l.length/\l.length-i.toNat=x.length/\((l.map e).drop i.toNat).take x.length=x.map e:=by
 obtain⟨h1,h2,a⟩:=ae0 (e:=e) h;have h4:l.length-i.toNat=x.length:=by
  have:=congrArg List.length a
  grind
 grind
theorem bx6{k:a45}{a c d:Int}(h:quo k a c=M d):¬c=0/\aa k (a.tdiv c)=d:=by
 grind[quo]
theorem aU0{k:a45}{a c d:Int}(h:rem k a c=M d):¬c=0/\a.tmod c=d:=by
 grind[rem]
end
theorem xJ:∀n:Nat,Tm.ds n []=l! n d!
 |0=>rfl
 |n+1=>by rw[Cn,xJ n];rfl
theorem e?.at{l:List D}{o:D}(n:Nat) (hF:TB P k=M F) (hname:((P.funcs[k]?).map λfn=>fn.name == "runtime.NumGoroutine")=M a36) (hf:oa l=a35)
 (hn:F.ntmps=l.length+n) (h:T P 0 F.code (LB F.results o) ⟨l++Tm.ds n [],[]⟩):e? P k l o:=by
 grind[e?.of,xJ]
section
variable {P:a42} {N:Nat} {ops:Array Oper} {Q:Exit->Act->a39->Prop} {K:St->Prop} {rl:List RI} {q:Nat} {ps:List (List Nat)}
def Q8(R:List (List Nat)->St->Prop) (fp:List (List Nat)) (p:List Nat) (dst:Option Tmp) (i:I) (s:St):Prop:=
 zH fp (br s (.op dst q6 i)) p=a35/\Ch s i=a35/\Fv (fa s i) (KO (R (fp++[br s (.op dst q6 i)])) s dst)
def skY(R:List (List Nat)->St->Prop) (fp:List (List Nat)) (p:List Nat) (dst:Option Tmp) (i:I) (s:St):Prop:=
 zH fp (br s (.op dst q6 i)) p=a35/\R (fp++[br s (.op dst q6 i)]) (s.put dst (.v undef))
def RB(P:a42) (k:a44) (ds:List D) (ids:List Nat) (R:St->Prop) (s:St) (dst:Option Tmp):Prop:=
 ∃d,((∀id∈ids,id<s.m.length)/\∀m,(∀id∈ids,m[id]?=s.m[id]?)->CallT P k ds m λd' m'=>d'=d/\m'=m)/\R (s.put dst d)
def clY(P:a42) (R:List (List Nat)->St->Prop) (fp:List (List Nat)) (p:List Nat) (k:a44) (dst:Option Tmp) (args:List a41) (s:St):Prop:=zH fp (Yb s args) p=a35/\RB P k (args.map s.ev) (Yb s args) (R (fp++[Yb s args])) s dst
def cnY(R:List (List Nat)->St->Prop) (fp:List (List Nat)) (p:List Nat) (dst:Option Tmp) (args:List a41) (s:St):Prop:=zH fp (Yb s args) p=a35/\R (fp++[Yb s args]) (s.put dst (.v undef))
def qB(P:a42):List (List Nat)->Nat->List RI->(St->Prop)->List (List Nat)->St->Prop
 |_,0,l,K,_,s=>Rj P l K s
 |_,_+1,[],_,_,_=>False
 |ps,q+1,.op dst q6 i::l,K,fp,s=>Q8 (qB P ps.tail q l K) fp (ps.headD []) dst i s
 |ps,q+1,.op dst (M (t,b)) i::l,K,fp,s=>
  gD (s.t.getD t d!) b (Q8 (qB P ps.tail q l K) fp (ps.headD []) dst i) ⟨s.t.set t (.v (.bool b)),s.m⟩ (skY (qB P ps.tail q l K) fp (ps.headD []) dst i) ⟨s.t.set t (.v (.bool (!b))),s.m⟩ s
 |ps,q+1,.call dst q6 (.func k) args::l,K,fp,s=>clY P (qB P ps.tail q l K) fp (ps.headD []) k dst args s
 |ps,q+1,.call dst (M (t,b)) (.func k) args::l,K,fp,s=>
  gD (s.t.getD t d!) b (clY P (qB P ps.tail q l K) fp (ps.headD []) k dst args) ⟨s.t.set t (.v (.bool b)),s.m⟩ (cnY (qB P ps.tail q l K) fp (ps.headD []) dst args) ⟨s.t.set t (.v (.bool (!b))),s.m⟩ s
 |_,_+1,.call ..::_,_,_,_=>False
theorem JN{d:D}{b:Bool}(hd:t.getD i d!=d) {a e:St->Prop}(h:gD d b a ⟨t.set i (.v (.bool b)),m⟩ e ⟨t.set i (.v (.bool (!b))),m⟩ ⟨t,m⟩) :
 match j! ⟨t,m⟩ (M (i,b))with
 |none=>False
 |some q6=>True
 |some (M (c,b))=>(c=b->a ⟨t,m⟩)/\(c≠b->e ⟨t,m⟩):=by
 simp only[j!,hd];unfold gD at h
 cases d with
 |v x=>
  cases x with
  |bool c=>
   simp only[gQ]at h⊢;have f:=PI hd l5;refine⟨λhc=>?_,λhc=>?_⟩
   .subst hc;have:=h.1 rfl
    simp_all
   .have:=h.2 hc;rwa [show(!b)=c by cases b<;>cases c<;>simp_all,f]at this
  |_=>cases b<;>simpa using h
 |_=>exact h
theorem HK:∀{q:Nat}{l:List RI}{ps:List (List Nat)}{fp:List (List Nat)}{s:St},qB P ps q l K fp s->LD P ps fp q l K s
 |0,l,ps,fp,s,h=>by simp only[qB]at h;simp only[LD];exact Sy h
 |q+1,[],ps,fp,s,h=>by simp only[qB]at h
 |q+1,.op dst q6 i::l,ps,fp,s,h=>by
  simp only[qB,Q8]at h;obtain⟨e,a,h2⟩:=h;simp only[LD,j!];obtain⟨d,m',j,m⟩:=(Pp _ _).1 h2;exact⟨e,d,m',a,j,HK m⟩
 |q+1,.op dst (M (t,b)) i::l,ps,fp,⟨st,sm⟩,h=>by
  simp only[qB]at h;have h:=JN rfl h;have f:∀s,br s (.op dst (M (t,b)) i)=br s (.op dst q6 i):=λ_=>rfl;simp only[LD];rw[f];split at h
  .simp_all
  .grind[j!]
  .rename_i c g o;simp only[o];by_cases hc:c=g
   .obtain⟨e,a,h2⟩:=h.1 hc;obtain⟨d,m',j,m⟩:=(Pp _ _).1 h2;exact⟨e,λ_=>⟨d,m',a,j,HK m⟩,λhn=>(hn hc).elim⟩
   .obtain⟨e,h2⟩:=h.2 hc;exact⟨e,λhn=>(hc hn).elim,λ_=>HK h2⟩
 |q+1,.call dst q6 (.func k) args::l,ps,fp,s,h=>by
  simp only[qB,clY,RB]at h;obtain⟨a,d,e,h2⟩:=h;simp only[LD,j!];exact⟨a,d,l4,HK h2⟩
 |q+1,.call dst (M (t,b)) (.func k) args::l,ps,fp,⟨st,sm⟩,h=>by
  simp only[qB]at h;have h:=JN rfl h;simp only[LD];have n:St.cv ⟨st,sm⟩ (.func k)=.fn k [] []:=rfl;simp only[n];split at h
  .simp_all
  .grind[j!]
  .rename_i c g o;simp only[o];by_cases hc:c=g
   .obtain⟨a,d,e,h2⟩:=h.1 hc;exact⟨a,λ_=>⟨d,l4,HK h2⟩,λhn=>(hn hc).elim⟩
   .obtain⟨a,h2⟩:=h.2 hc;exact⟨a,λhn=>(hc hn).elim,λ_=>HK h2⟩
 |q+1,.call dst q6 (.tmp _) args::l,ps,fp,s,h=>by simp only[qB]at h
 |q+1,.call dst q6 (.const _) args::l,ps,fp,s,h=>by simp only[qB]at h
 |q+1,.call dst q6 (.global _) args::l,ps,fp,s,h=>by simp only[qB]at h
 |q+1,.call dst (M _) (.tmp _) args::l,ps,fp,s,h=>by simp only[qB]at h
 |q+1,.call dst (M _) (.const _) args::l,ps,fp,s,h=>by simp only[qB]at h
 |q+1,.call dst (M _) (.global _) args::l,ps,fp,s,h=>by simp only[qB]at h
 |q+1,.call dst q6 (.meth _ _) args::l,ps,fp,s,h=>by simp only[qB]at h
 |q+1,.call dst (M _) (.meth _ _) args::l,ps,fp,s,h=>by simp only[qB]at h
def T.dy(hm:P.follows .mixedOrders=a35) {l:List RI}{K:Exit->St->Prop}{s:St}(h:qB P [] q l (K .normal) [] s):T P N (.draw q l) K s:=
 T.drawO hm (RA (HK h))
def T.ay(hm:P.follows .mixedOrders=a35) {bs:List (List Nat)}{l:List RI}{K:Exit->St->Prop}{s:St}(ps:List (List Nat)) (a:SA bs l q ps []=a35) (h:qB P ps q l (K .normal) [] s):T P N (.any cuts q bs l) K s:=
 T.any2 hm ps a (HK h)
end
section
variable {P:a42}
theorem iS{ds:List D}{o:D}{R:St->Prop}{s:St}(h:e? P k ds' o) (hf:R (s.put dst o)) (a:KG (Sq [] [] 9) ds ds'):RB P k ds [] R s dst:=
 ⟨o,⟨λ_ h=>(by cases h),λm _=>⟨(h m).1,λG w vs hv hi=>(h m).2 G w vs ((OI (jB (vA 9) a)).1 vs hv) hi⟩⟩,hf⟩
def Lq(m:List Ent) (d e:D):Prop:=
 match d,e with
 |.own j v,.sl S b=>match m[j]? with|some (.live S' c a)=>S'=S/\c=v/\a=b/\oa a=a35|_=>False
 |.view j v lo n,.sl S b=>match m[j]? with|some (.live S' c a)=>S'=S/\c=v/\lo+n<=a.length/\(a.drop lo).take n=b/\oa b=a35|_=>False
 |.ref j v x s,.pt e=>match m[j]? with|some (.live _ c a)=>c=v/\s=0/\a[x]?=M e/\xa e=a35|_=>False
 |d,e=>Sq [] [] 9 d e
theorem bc3{l:List D}(h:q! [] [] l r) (m:List Ent):q! [] m l r:=by
 induction h with
 |nil=>exact .nil
 |same hf h b=>exact .same hf b
 |dead h b=>exact .dead b
 |nils h b=>exact .nils b
 |agg ha h a b=>exact .agg a b
 |tup ha h a b=>exact .tup a b
 |sl ha h a b=>exact .sl a b
 |pt ha h a b=>exact .pt a b
 |fn ha hc h a c b=>exact .fn a c b
 |ifc ha h a b=>exact .ifc a b
 |dE i hi=>simp at hi
 |own hi=>simp at hi
 |ref hi=>simp at hi
 |view hi=>simp at hi
 |mp hi=>simp at hi
 |Ig hm=>simp at hm
 |fview hm=>simp at hm
 |fref hm=>simp at hm
theorem bh1(hm:∀id∈ids,m'[id]?=m[id]?) {d e:D}{l:List D}(h:Lq m d e) (c:(match af d with|some j=>ids.contains j|none=>a35)=a35) (f:q! [] m' l r):q! [] m' (d::l) (e::r):=by
 unfold Lq at h;split at h
 .rename_i j v S b;simp only[af,Ξ]at c;split at h
  .rename_i S' g a hj;obtain⟨rfl,rfl,rfl,hf⟩:=h;exact .Ig l4 rfl (q!.free hf) f
  simp_all
 .rename_i j v lo n S b;simp only[af,Ξ]at c;split at h
  .rename_i S' g a hj;obtain⟨rfl,rfl,hn,rfl,hf⟩:=h;exact .fview l4 rfl hn (q!.free hf) f
  simp_all
 .rename_i j v x s e;simp only[af,Ξ]at c;split at h
  .rename_i S' g a hj;obtain⟨rfl,rfl,hx,hf⟩:=h;exact .fref (by rw[hm j c];omega) rfl hx (.same hf .nil) f
  simp_all
 .have i:=bc3 (vA 9 d e [] [] h .nil) m';exact q!.app (a:=[d]) (b:=[e]) i f
def HG(ids:List Nat) (ds:List D):Bool:=ds.all λd=>match af d with|some j=>ids.contains j|none=>a35
theorem pM{m m':List Ent}{ids:List Nat}(hm:∀id∈ids,m'[id]?=m[id]?):∀{a b:List D},KG (Lq m) a b->HG ids a=a35->q! [] m' a b
 |[],[],_,_=>.nil
 |d::l,e::r,h,ht=>by
  simp only[HG,ς,E']at ht;exact bh1 hm h.1 ht.1 (pM hm h.2 ht.2)
 |[],_::_,h,_=>h.elim
 |_::_,[],h,_=>h.elim
theorem NM{ds:List D}{o:D}{R:St->Prop}{s:St}(h:e? P k ds' o) (hf:R (s.put dst o)) (a:flat o=a35) (hi:(ids.all λi=>s5 (i<s.m.length))=a35) (ht:HG ids ds=a35) (b:KG (Lq s.m) ds ds'):RB P k ds ids R s dst:=by
 refine⟨o,⟨λid hid=>?_,λm hm=>?_⟩,hf⟩
 .simp_all
 .exact RG h (pM hm b ht) a ⟨rfl,rfl⟩
variable {m:List Ent} {S x y lo n s:Nat} {b:List D} {e:D}
def bh3:Lq m (.own x y) (.sl S b)=(match m[x]? with|some (.live S' c a)=>S'=S/\c=y/\a=b/\oa a=a35|_=>False):=d?
def aJ3:Lq m (.view x y lo n) (.sl S b)=(match m[x]? with|some (.live S' c a)=>S'=S/\c=y/\lo+n<=a.length/\(a.drop lo).take n=b/\oa b=a35|_=>False):=d?
def bh2{z:Nat}:Lq m (.ref x y z s) (.pt e)=(match m[x]? with|some (.live _ b a)=>b=y/\s=0/\a[z]?=M e/\xa e=a35|_=>False):=d?
def ct1:Lq m (.v z) e=Sq [] [] 9 (.v z) e:=d?
def bh5{z:List D}:Lq m (.agg z) e=Sq [] [] 9 (.agg z) e:=d?
def bA7{z:List D}:Lq m (.sl S z) e=Sq [] [] 9 (.sl S z) e:=d?
def bA8{z:D}:Lq m (.pt z) e=Sq [] [] 9 (.pt z) e:=d?
def bA9{α:Type}{f:α->D} [Fr f] {l:List α}:oa (l.map f)=a35:=Fr.l l
def bh4{α:Type}{f:α->D}{l:List α}:(l.map f).length=l.length:=Bab f
end
variable {P:a42}
def bx4{s:St}:br s (.op d g (.mv a))=[]:=d?
def bw9{s:St}:Ch s (.mv a)=a35:=d?
def aE4{s:St}:br s (.op d g (.pick a b c))=[]:=d?
def aC6{s:St}:Ch s (.pick a b c)=a35:=d?
def bd5{s:St}{a:BinOp}:br s (.op d g (.bin a b c))=[]:=d?
def bc8{s:St}{a:BinOp}:Ch s (.bin a b c)=a35:=d?
def bd6{s:St}{a:Bool}:br s (.op d g (.beq a b c))=[]:=d?
def bc9{s:St}{a:Bool}:Ch s (.beq a b c)=a35:=d?
def bx3{s:St}{a:UnOp}:br s (.op d g (.un a b))=[]:=d?
def bw8{s:St}{a:UnOp}:Ch s (.un a b)=a35:=d?
def aF0{s:St}{a:a45}:br s (.op d g (.conv a b))=[]:=d?
def aD2{s:St}{a:a45}:Ch s (.conv a b)=a35:=d?
def ai6{s:St}{a:Nat}{b:D}:br s (.op d g (.alloc a b))=[]:=d?
def ag5{s:St}{a:Nat}{b:D}:Ch s (.alloc a b)=a35:=d?
def bd4{s:St}{a:Nat}:br s (.op d g (.box a b))=[]:=d?
def bc7{s:St}{a:Nat}:Ch s (.box a b)=a35:=d?
def ai5{s:St}{a:List D}{b:List (Nat×Nat×a41)}:br s (.op d g (.build a b))=[]:=d?
def ag4{s:St}{a:List D}{b:List (Nat×Nat×a41)}:Ch s (.build a b)=a35:=d?
def l9{s:St}{a:Nat}{b:Nat}{c:D}{e:List (Nat×a41)}:br s (.op d g (.bslice a b c e))=[]:=d?
def aaa{s:St}{a:Nat}{b:Nat}{c:D}{d:List (Nat×a41)}:Ch s (.bslice a b c d)=a35:=d?
def aE8{s:St}{b:Bool}{c:Nat}:br s (.op d g (.load b c a))=Xy s [a]:=d?
def aD0{s:St}{a:Bool}{b:Nat}:Ch s (.load a b c)=a35:=d?
def ah3{s:St}{b:Nat}:br s (.op d g (.store b a c))=Xy s [a]:=d?
def af3{s:St}{a:Nat}:Ch s (.store a b c)=a35:=d?
def aE5{s:St}:br s (.op d g (.nilc a))=[]:=d?
def aC7{s:St}:Ch s (.nilc a)=a35:=d?
def ah4{s:St}{b:Nat}{c:Option a41}{e:Option a41}{f:Option a41}:br s (.op d g (.slice b a c e f))=Xy s [a]:=d?
def af4{s:St}{a:Nat}{c:Option a41}{d:Option a41}{e:Option a41}:Ch s (.slice a b c d e)=a35:=d?
def ai4{s:St}{a:Bool}{b:Nat}{c:Nat}:br s (.op d g (.faddr a b c e))=[]:=d?
def ag3{s:St}{a:Bool}{b:Nat}{c:Nat}{d:a41}:Ch s (.faddr a b c d)=a35:=d?
def ai3{s:St}{a:Bool}{b:Nat}{c:Nat}:br s (.op d g (.field a b c e))=[]:=d?
def ag2{s:St}{a:Bool}{b:Nat}{c:Nat}{d:a41}:Ch s (.field a b c d)=a35:=d?
def ai2{s:St}{b:Nat}:br s (.op d g (.iaddr b a c))=Xy s [a]:=d?
def ag1{s:St}{a:Nat}:Ch s (.iaddr a b c)=a35:=d?
def ai7{s:St}{a:Bool}{b:Nat}{c:Nat}{f:a41}:br s (.op d g (.aaddr a b c e f))=[]:=d?
def ag6{s:St}{a:Bool}{b:Nat}{c:Nat}{d:a41}:Ch s (.aaddr a b c d e)=a35:=d?
def ai1{s:St}{a:Bool}{b:Nat}{c:Nat}{f:a41}:br s (.op d g (.index a b c e f))=[]:=d?
def ag0{s:St}{a:Bool}{b:Nat}{c:Nat}{d:a41}:Ch s (.index a b c d e)=a35:=d?
def iZ{s:St}{b:Nat}:br s (.op d g (.extract a b))=[]:=d?
def IZ{s:St}{b:Nat}:Ch s (.extract a b)=a35:=d?
def bd1{s:St}:br s (.op d g (.len a))=Xy s [a]:=d?
def bc4{s:St}:Ch s (.len a)=a35:=d?
def aE2{s:St}:br s (.op d g (.slen a))=[]:=d?
def aC4{s:St}:Ch s (.slen a)=a35:=d?
def c9{s:St}{c:Nat}{e:Nat}:br s (.op d g (.append c e a b))=Xy s [a,b]:=d?
def Z9{s:St}{b:Nat}{c:Nat}{d:a41}:Ch s (.append b c a d)=(match s.ev a with|.own ..=>a35|_=>a36):=d?
def jZ{s:St}{a:Nat}{b:Nat}{c:D}{f:a41}:br s (.op d g (.mkslice a b c e f))=[]:=d?
def JZ{s:St}{a:Nat}{b:Nat}{c:D}{d:a41}:Ch s (.mkslice a b c d e)=a35:=d?
def n9{s:St}{a:a44}{b:List a41}{c:List a41}:br s (.op d g (.mkfunc a b c))=[]:=d?
def baa{s:St}{a:a44}{b:List a41}{c:List a41}:Ch s (.mkfunc a b c)=a35:=d?
def aE9{s:St}  : br s (.op d g (.fail))=[]:=d?
def aD1{s:St}  : Ch s (.fail)=a35:=d?
def bx5{s:St}{a:Bool}{b:List a41}:br s (.op d g (.mm a b))=[]:=d?
def bx0{s:St}{a:Bool}{b:List a41}:Ch s (.mm a b)=a35:=d?
def bd3{s:St}{a:Bool}{b:List Nat}:br s (.op d g (.ceq a b c e))=[]:=d?
def bc6{s:St}{a:Bool}{b:List Nat}{d:a41}:Ch s (.ceq a b c d)=a35:=d?
def aE1{s:St}{a:Nat}:br s (.op d g (.strb a b))=[]:=d?
def aC3{s:St}{a:Nat}:Ch s (.strb a b)=a35:=d?
def aE3{s:St}:br s (.op d g (.tA a b))=[]:=d?
def aC5{s:St}:Ch s (.tA a b)=a35:=d?
def o9{s:St}{b:Option a41}{c:Option a41}:br s (.op d g (.sslice a b c))=[]:=d?
def caa{s:St}{b:Option a41}{c:Option a41}:Ch s (.sslice a b c)=a35:=d?
def ah8{s:St}  : br s (.op d g (.mkmap))=[]:=d?
def af7{s:St}  : Ch s (.mkmap)=a35:=d?
def ah7{s:St}{b:Nat}{c:Bool}{e:D}{f:a41}:br s (.op d g (.mlook b c e a f))=Xy s [a]:=d?
def af6{s:St}{a:Nat}{b:Bool}{c:D}{d:a41}:Ch s (.mlook a b c d e)=a35:=d?
def aE6{s:St}{a:Nat}:br s (.op d g (.mput a b c e))=[]:=d?
def aC8{s:St}{a:Nat}{d:a41}:Ch s (.mput a b c d)=a35:=d?
def aE7{s:St}:br s (.op d g (.mlen a))=Xy s [a]:=d?
def aC9{s:St}:Ch s (.mlen a)=a35:=d?
def ah2{s:St}{b:Nat}{c:Option a41}{e:Option a41}:br s (.op d g (.trunc b a c e))=Xy s [a]:=d?
def af2{s:St}{b:Nat}{c:Option a41}{d:Option a41}:Ch s (.trunc b a c d)=(match s.ev a with|.own ..=>a35|_=>a36):=d?
def ah9{s:St}{a:a43}:br s (.op d g (.mkifc a b))=[]:=d?
def af8{s:St}{a:a43}:Ch s (.mkifc a b)=a35:=d?
def kZ{s:St}{a:Bool}{b:a43}{c:D}:br s (.op d g (.tassert a b c e))=[]:=d?
def LZ{s:St}{a:Bool}{b:a43}{c:D}{d:a41}:Ch s (.tassert a b c d)=a35:=d?
def bd2{s:St}{a:Nat}{b:D}:br s (.op d g (.clr a b c))=[]:=d?
def bc5{s:St}{a:Nat}{b:D}:Ch s (.clr a b c)=a35:=d?
def aF1{s:St}:br s (.op d g (.capn a))=[]:=d?
def aD3{s:St}:Ch s (.capn a)=a35:=d?
def ah6{s:St}{b:Bool}:br s (.op d g (.rv b a))=Xy s [a]:=d?
def af5{s:St}{a:Bool}:Ch s (.rv a b)=a35:=d?
def ai0{s:St}{a:Nat}{b:Nat}{c:D}{f:a41}:br s (.op d g (.mkapp a b c e f))=[]:=d?
def af9{s:St}{a:Nat}{b:Nat}{c:D}{d:a41}:Ch s (.mkapp a b c d e)=a35:=d?
section
variable {ps:List (List Nat)} {q k t:Nat} {b:Bool} {dst:Option Tmp} {i:I} {l:List RI} {K:St->Prop} {fp:List (List Nat)} {s:St} {args:List a41} {R:List (List Nat)->St->Prop} {p f g:List Nat} {x y:Nat} {o:a41} {os:List a41} {st:List D} {m:List Ent} {S:Nat} {r:List D}
theorem aO1:qB P ps 0 l K fp s=Rj P l K s:=by simp only[qB]
theorem ck9:qB P ps (q+1) (.op dst q6 i::l) K fp s=Q8 (qB P ps.tail q l K) fp (ps.headD []) dst i s:=by simp only[qB]
theorem bo5:qB P ps (q+1) (.op dst (M (t,b)) i::l) K fp ⟨st,m⟩=gD (st.getD t d!) b (Q8 (qB P ps.tail q l K) fp (ps.headD []) dst i) ⟨st.set t (.v (.bool b)),m⟩ (skY (qB P ps.tail q l K) fp (ps.headD []) dst i) ⟨st.set t (.v (.bool (!b))),m⟩ ⟨st,m⟩:=by simp only[qB]
theorem aO2:qB P ps (q+1) (.call dst q6 (.func k) args::l) K fp s=clY P (qB P ps.tail q l K) fp (ps.headD []) k dst args s:=by simp only[qB]
theorem ar2:qB P ps (q+1) (.call dst (M (t,b)) (.func k) args::l) K fp ⟨st,m⟩=gD (st.getD t d!) b (clY P (qB P ps.tail q l K) fp (ps.headD []) k dst args) ⟨st.set t (.v (.bool b)),m⟩ (cnY (qB P ps.tail q l K) fp (ps.headD []) dst args) ⟨st.set t (.v (.bool (!b))),m⟩ ⟨st,m⟩:=by simp only[qB]
theorem bz3:Q8 R fp p dst i s=(zH fp (br s (.op dst q6 i)) p=a35/\Ch s i=a35/\Fv (fa s i) (KO (R (fp++[br s (.op dst q6 i)])) s dst)):=d?
def bw5:skY R fp p dst i s=(zH fp (br s (.op dst q6 i)) p=a35/\R (fp++[br s (.op dst q6 i)]) (s.put dst (.v undef))):=d?
def cp0:clY P R fp p k dst args s=(zH fp (Yb s args) p=a35/\RB P k (args.map s.ev) (Yb s args) (R (fp++[Yb s args])) s dst):=d?
def co8:cnY R fp p dst args s=(zH fp (Yb s args) p=a35/\R (fp++[Yb s args]) (s.put dst (.v undef))):=d?
def ba5:Yb s []=[]:=d?
def aA1:Yb s (o::os)=Mq (s.ev o)++Yb s os:=d?
def ct5:Mq (.v z)=[]:=d?
def bl5:Mq (.agg r)=Uo r:=d?
def bl0:Mq (.tup r)=Uo r:=d?
def ch0:Mq (.sl S r)=Uo r:=d?
def ch1{d:D}:Mq (.pt d)=Mq d:=d?
def ch2{a c:List D}:Mq (.fn k a c)=Uo a++Uo c:=d?
def aK6:Mq d!=[]:=d?
def bl2:Mq (.own x y)=[x]:=d?
def bl1{v:Nat}:Mq (.ref x y u v)=[x]:=d?
def aK5{v:Nat}:Mq (.view x y u v)=[x]:=d?
def bl3:Uo []=[]:=d?
def aK7{d:D}:Uo (d::r)=Mq d++Uo r:=d?
def bl4{α:Type}{f:α->D} [Fr f] {l:List α}:Uo (l.map f)=[]:=Vz (Fr.l l)
def ac5:Xy s []=[]:=d?
def aa3:Xy s (o::os)=(match af (s.ev o)with|some id=>id::Xy s os|none=>Xy s os):=d?
def br9:zH fp f []=a35:=d?
def aR3:zH fp f (j::p)=(Gv (fp.getD j []) f&&zH fp f p):=d?
def cq0:Gv [] f=a35:=d?
def cp9:Gv (x::g) f=(fE x f&&Gv g f):=d?
def cB0:fE x []=a35:=d?
def cA9:fE x (y::g)=(WV x y&&fE x g):=d?
def bA5:WV 0 0=a36:=d?
def bA4:WV 0 (y+1)=a35:=d?
def bA3:WV (x+1) 0=a35:=d?
def bA2:WV (x+1) (y+1)=WV x y:=d?
def bv2:af (.v z)=q6:=d?
def az2:af (.agg r)=q6:=d?
def ay9:af (.tup r)=q6:=d?
def aZ9:af (.sl S r)=q6:=d?
def ba0{d:D}:af (.pt d)=q6:=d?
def ac7:af d!=q6:=d?
def az1:af (.own x y)=M x:=d?
def az0{v:Nat}:af (.ref x y u v)=M x:=d?
def ac6{v:Nat}:af (.view x y u v)=M x:=d?
def ct6{l:List Nat}{ps:List (List Nat)}:(l::ps).headD []=l:=d?
def cr5{l:List Nat}{ps:List (List Nat)}:(l::ps).tail=ps:=d?
def ct7:([]:List (List Nat)).headD []=[]:=d?
def cr6:([]:List (List Nat)).tail=[]:=d?
end
def zy:=(ak (ak (ak (ak (ak (ak (ak (ak @bx4 @bw9) (ak @aE4 @aC6)) (ak (ak @bd5 @bc8) (ak @bd6 @bc9))) (ak (ak (ak @bx3 @bw8) (ak @aF0 @aD2)) (ak (ak @ai6 @ag5) (ak @bd4 @bc7)))) (ak (ak (ak (ak @ai5 @ag4) (ak @l9 @aaa)) (ak (ak @aE8 @aD0) (ak @ah3 @af3))) (ak (ak (ak @aE5 @aC7) (ak @ah4 @af4)) (ak (ak @ai4 @ag3) (ak @ai3 @ag2))))) (ak (ak (ak (ak (ak @ai2 @ag1) (ak @ai7 @ag6)) (ak (ak @ai1 @ag0) (ak @iZ @IZ))) (ak (ak (ak @bd1 @bc4) (ak @aE2 @aC4)) (ak (ak @c9 @Z9) (ak @jZ @JZ)))) (ak (ak (ak (ak @n9 @baa) (ak @aE9 @aD1)) (ak (ak @bx5 @bx0) (ak @bd3 @bc6))) (ak (ak (ak @aE1 @aC3) (ak @aE3 @aC5)) (ak (ak @o9 @caa) (ak @ah8 @af7)))))) (ak (ak (ak (ak (ak (ak @ah7 @af6) (ak @aE6 @aC8)) (ak (ak @aE7 @aC9) (ak @ah2 @af2))) (ak (ak (ak @ah9 @af8) (ak @kZ @LZ)) (ak (ak @bd2 @bc5) (ak @aF1 @aD3)))) (ak (ak (ak (ak @ah6 @af5) (ak @ai0 @af9)) (ak (ak @aO1 @ck9) (ak @bo5 @aO2))) (ak (ak (ak @ar2 @bz3) (ak @bw5 @cp0)) (ak (ak @co8 @ba5) (ak @aA1 @ct5))))) (ak (ak (ak (ak (ak @bl5 @bl0) (ak @ch0 @ch1)) (ak (ak @ch2 @aK6) (ak @bl2 @bl1))) (ak (ak (ak @aK5 @bl3) (ak @aK7 @bl4)) (ak (ak @ac5 @aa3) (ak @br9 @aR3)))) (ak (ak (ak (ak @cq0 @cp9) (ak @cB0 @cA9)) (ak (ak @bA5 @bA4) (ak @bA3 @bA2))) (ak (ak (ak @bv2 @az2) (ak @ay9 @aZ9)) (ak (ak @ba0 @ac7) (ak @az1 @az0))))))) (ak (ak (ak (ak @ac6 @ct6) (ak @cr5 @ct7)) (ak (ak @cr6 @bh3) (ak @aJ3 @bh2))) (ak (ak (ak @ct1 @bh5) (ak @bA7 @bA8)) (ak @bA9 @bh4))))
section
variable {P:a42} {N:Nat} {ops:Array Oper} {Q:Exit->Act->a39->Prop} {K:St->Prop} {rl:List RI} {q:Nat} {ps:List (List Nat)} {pl:List (Option Nat)}
def aM8(R:List (List Nat)->St->Prop) (fp:List (List Nat)) (p:List Nat) (k:Nat) (dst:Option Tmp) (i:I) (s:St):Prop:=
 zH fp [k] p=a35/\match Kr s k i with
  |some (d,e)=>R (fp++[[k]]) (({ s with m:=s.m.set k e }:St).put dst d)
  |none=>False
def DK(P:a42) (k:a44) (ds:List D) (ids:List Nat) (fp:List (List Nat)) (p:List Nat) (x:Nat) (f:D->Ent->Prop) (s:St):Prop:=
 (ids.elem x&&zH fp ids p)=a35/\∃d e,((∀id∈ids,id<s.m.length)/\∀m,(∀id∈ids,m[id]?=s.m[id]?)->CallT P k ds m λd' m'=>d'=d/\m'=m.set x e)/\f d e
@[congr] theorem aY6{P:a42} {k:a44} {ds ds':List D} {ids a:List Nat} {fp b:List (List Nat)} {p c:List Nat} {x:Nat} {f:D->Ent->Prop} {s:St} (h1:ds=ds') (h2:ids=a) (h3:fp=b) (h4:p=c):DK P k ds ids fp p x f s=DK P k ds' a b c x f s:=l4
def cwY(P:a42) (R:List (List Nat)->St->Prop) (fp:List (List Nat)) (p:List Nat) (x:Nat) (k:a44) (dst:Option Tmp) (args:List a41) (s:St):Prop:=
 DK P k (args.map s.ev) (Yb s args) fp p x (λd e=>R (fp++[Yb s args]) (({ s with m:=s.m.set x e }:St).put dst d)) s
def Gj(P:a42):List (Option Nat)->List (List Nat)->Nat->List RI->(St->Prop)->List (List Nat)->St->Prop
 |_,_,0,l,K,_,s=>Rj P l K s
 |_,_,_+1,[],_,_,_=>False
 |some k::pl,ps,q+1,.op dst q6 i::l,K,fp,s=>aM8 (Gj P pl ps.tail q l K) fp (ps.headD []) k dst i s
 |none::pl,ps,q+1,.op dst q6 i::l,K,fp,s=>Q8 (Gj P pl ps.tail q l K) fp (ps.headD []) dst i s
 |none::pl,ps,q+1,.op dst (M (t,b)) i::l,K,fp,s=>
  gD (s.t.getD t d!) b (Q8 (Gj P pl ps.tail q l K) fp (ps.headD []) dst i) ⟨s.t.set t (.v (.bool b)),s.m⟩ (skY (Gj P pl ps.tail q l K) fp (ps.headD []) dst i) ⟨s.t.set t (.v (.bool (!b))),s.m⟩ s
 |none::pl,ps,q+1,.call dst q6 (.func k) args::l,K,fp,s=>clY P (Gj P pl ps.tail q l K) fp (ps.headD []) k dst args s
 |some x::pl,ps,q+1,.call dst q6 (.func k) args::l,K,fp,s=>cwY P (Gj P pl ps.tail q l K) fp (ps.headD []) x k dst args s
 |_,_,_+1,_::_,_,_,_=>False
theorem rE:∀{q:Nat}{l:List RI}{pl:List (Option Nat)}{ps:List (List Nat)}{fp:List (List Nat)}{s:St},Gj P pl ps q l K fp s->Qs P pl ps fp q l K s
 |0,l,pl,ps,fp,s,h=>by simp only[Gj]at h;simp only[Qs];exact Sy h
 |q+1,[],pl,ps,fp,s,h=>by simp[Gj]at h
 |q+1,.op dst q6 i::l,M k::pl,ps,fp,s,h=>by
  simp only[Gj,aM8]at h;obtain⟨j,h2⟩:=h;split at h2
  .rename_i d e hf;simp only[Qs];exact⟨j,trivial,d,e,hf,rE h2⟩
  simp_all
 |q+1,.op dst q6 i::l,q6::pl,ps,fp,s,h=>by
  simp only[Gj,Q8]at h;obtain⟨j,a,h2⟩:=h;simp only[Qs,j!];obtain⟨d,m',o,p⟩:=(Pp _ _).1 h2;exact⟨j,d,m',a,o,rE p⟩
 |q+1,.op dst (M (t,b)) i::l,q6::pl,ps,fp,⟨st,sm⟩,h=>by
  simp only[Gj]at h;have h:=JN rfl h;have m:∀s,br s (.op dst (M (t,b)) i)=br s (.op dst q6 i):=λ_=>rfl;simp only[Qs];show zH fp (br _ (.op dst (M (t,b)) i)) (ps.headD [])=a35/\_;rw[m];split at h
  .simp_all
  .grind[j!]
  .rename_i c r u;refine⟨?_,?_⟩
   .by_cases hc:c=r
    .exact(h.1 hc).1
    .exact(h.2 hc).1
   rw[u];by_cases hc:c=r
   .obtain⟨j,a,h2⟩:=h.1 hc;obtain⟨d,m',o,p⟩:=(Pp _ _).1 h2;exact⟨λ_=>⟨d,m',a,o,rE p⟩,λhn=>(hn hc).elim⟩
   .obtain⟨j,h2⟩:=h.2 hc;exact⟨λhn=>(hc hn).elim,λ_=>rE h2⟩
 |q+1,.call dst q6 (.func k) args::l,q6::pl,ps,fp,s,h=>by
  simp only[Gj,clY,RB]at h;obtain⟨a,d,j,h2⟩:=h;simp only[Qs,j!];exact⟨a,d,l4,rE h2⟩
 |q+1,.op dst g i::l,[],ps,fp,s,h=>by simp[Gj]at h
 |q+1,.op dst (M g) i::l,M k::pl,ps,fp,s,h=>by simp[Gj]at h
 |q+1,.call dst g f args::l,[],ps,fp,s,h=>by simp[Gj]at h
 |q+1,.call dst q6 (.func k) args::l,M x::pl,ps,fp,s,h=>by
  simp only[Gj,cwY,DK]at h;obtain⟨a,d,e,j,h2⟩:=h;simp only[E',List.elem_eq_mem,w2]at a;obtain⟨a,n⟩:=a;simp only[Qs];exact⟨trivial,a,n,d,e,l4,rE h2⟩
 |q+1,.call dst (M g) f args::l,M x::pl,ps,fp,s,h=>by simp[Gj]at h
 |q+1,.call dst q6 (.tmp _) args::l,M x::pl,ps,fp,s,h=>by simp[Gj]at h
 |q+1,.call dst q6 (.const _) args::l,M x::pl,ps,fp,s,h=>by simp[Gj]at h
 |q+1,.call dst q6 (.global _) args::l,M x::pl,ps,fp,s,h=>by simp[Gj]at h
 |q+1,.call dst q6 (.meth _ _) args::l,M x::pl,ps,fp,s,h=>by simp[Gj]at h
 |q+1,.call dst (M g) f args::l,q6::pl,ps,fp,s,h=>by simp[Gj]at h
 |q+1,.call dst q6 (.tmp _) args::l,q6::pl,ps,fp,s,h=>by simp[Gj]at h
 |q+1,.call dst q6 (.const _) args::l,q6::pl,ps,fp,s,h=>by simp[Gj]at h
 |q+1,.call dst q6 (.global _) args::l,q6::pl,ps,fp,s,h=>by simp[Gj]at h
 |q+1,.call dst q6 (.meth _ _) args::l,q6::pl,ps,fp,s,h=>by simp[Gj]at h
def T.ao(hm:P.follows .mixedOrders=a35) {bs:List (List Nat)}{l:List RI}{K:Exit->St->Prop}{s:St}(ps:List (List Nat)) (pl:List (Option Nat)) (a:SA bs l q ps pl=a35) (b:Nz s.m pl=a35) (h:Gj P pl ps q l (K .normal) [] s):T P N (.any cuts q bs l) K s:=
 T.anyO hm ps pl a b (rE h)
def yG:List (Option Nat)->List RI->Bool
 |none::pl,_::l=>yG pl l
 |some _::pl,.call ..::l=>yG pl l
 |[],_=>a35
 |_,_=>a36
theorem jO:∀{pl:List (Option Nat)}{l:List RI},yG pl l=a35->∀i p,pO pl i=M p->∃a b c d,l[i]?=M (.call a b c d)
 |[],l,_,i,p,h=>by grind[pO]
 |none::pl,[],h,_,_,_=>by grind[yG]
 |some _::pl,[],h,_,_,_=>by grind[yG]
 |none::pl,y::l,h,0,p,h2=>by grind[pO]
 |none::pl,y::l,h,i+1,p,h2=>by
  simp only[yG]at h;simpa using jO h i p (by grind[pO])
 |some x::pl,.call a b c d::l,h,0,p,h2=>⟨a,b,c,d,rfl⟩
 |some x::pl,.call a b c d::l,h,i+1,p,h2=>by
  simp only[yG]at h;simpa using jO h i p (by grind[pO])
 |some x::pl,.op a b c::l,h,_,_,_=>by grind[yG]
theorem T.dp(hm:P.follows .mixedOrders=a35) {l:List RI}{K:Exit->St->Prop}{s:St}(ps:List (List Nat)) (pl:List (Option Nat)) (c:ps=eE q) (a:yG pl l=a35) (b:Nz s.m pl=a35) (h:Gj P pl ps q l (K .normal) [] s):T P N (.draw q l) K s:=by
 subst c;exact T.drawP hm (eE q) pl (jO a) lU b (rE h)
end
section
variable {P:a42} {pl:List (Option Nat)} {ps:List (List Nat)} {q k t:Nat} {b:Bool} {dst:Option Tmp} {i:I} {l:List RI} {K:St->Prop} {fp:List (List Nat)} {s:St} {st:List D} {m:List Ent} {args:List a41} {R:List (List Nat)->St->Prop} {p:List Nat} {z:D} {S:Nat} {x:a41}
theorem aO3:Gj P pl ps 0 l K fp s=Rj P l K s:=by simp only[Gj]
theorem bo8:Gj P (M k::pl) ps (q+1) (.op dst q6 i::l) K fp s=aM8 (Gj P pl ps.tail q l K) fp (ps.headD []) k dst i s:=by simp only[Gj]
theorem cl0:Gj P (q6::pl) ps (q+1) (.op dst q6 i::l) K fp s=Q8 (Gj P pl ps.tail q l K) fp (ps.headD []) dst i s:=by simp only[Gj]
theorem bo7:Gj P (q6::pl) ps (q+1) (.op dst (M (t,b)) i::l) K fp ⟨st,m⟩=gD (st.getD t d!) b (Q8 (Gj P pl ps.tail q l K) fp (ps.headD []) dst i) ⟨st.set t (.v (.bool b)),m⟩ (skY (Gj P pl ps.tail q l K) fp (ps.headD []) dst i) ⟨st.set t (.v (.bool (!b))),m⟩ ⟨st,m⟩:=by simp only[Gj]
theorem aO4:Gj P (q6::pl) ps (q+1) (.call dst q6 (.func k) args::l) K fp s=clY P (Gj P pl ps.tail q l K) fp (ps.headD []) k dst args s:=by simp only[Gj]
theorem ar3{x:Nat}:Gj P (M x::pl) ps (q+1) (.call dst q6 (.func k) args::l) K fp s=cwY P (Gj P pl ps.tail q l K) fp (ps.headD []) x k dst args s:=by simp only[Gj]
theorem co7{R:List (List Nat)->St->Prop}{p:List Nat}{x:Nat}:cwY P R fp p x k dst args s=DK P k (args.map s.ev) (Yb s args) fp p x (λd e=>R (fp++[Yb s args]) (({ s with m:=s.m.set x e }:St).put dst d)) s:=d?
def bn3:aM8 R fp p k dst i s=(zH fp [k] p=a35/\match Kr s k i with|some (d,e)=>R (fp++[[k]]) (({ s with m:=s.m.set k e }:St).put dst d)|none=>False):=d?
def ap6:Kr s k (.alloc S z)=(match s.m[k]? with|some (.live S' Ta [])=>if S'=S then M (.ref k (Ta+1) 0 0,.live S (Ta+1) [z])else q6|_=>q6):=d?
theorem bn5:Kr s k (.box S x)=(match s.m[k]? with|some (.live S' Ta [])=>if S'=S/\(s.ev x).ok=a35/\Zz S (s.ev x).cells=a35 then M (.ref k (Ta+1) 0 0,.live S (Ta+1) [s.ev x])else q6|_=>q6):=by simp only[px];rfl
def bn4{n:Nat}{qs:List (Nat×a41)}:Kr s k (.bslice S n z qs)=(match s.m[k]? with|some (.live S' Ta [])=>if S'=S then(ld s S qs (l! n z)).map λl=>(.own k (Ta+1),.live S (Ta+1) l)else q6|_=>q6):=d?
end
def zo:=(ak (ak (ak (ak @aO3 @bo8) (ak @cl0 @bo7)) (ak (ak @aO4 @ar3) (ak @co7 @bn3))) (ak (ak @ap6 @bn5) @bn4))
theorem O5{G G':Gh}{w w':a39}(b:V' G w G' w') {d d':D}(hd:∀u,VRel G w d u->VRel G' w' d' u) {post:List D}(a:oa post=a35) :
 ∀{pre:List D} {us:List a38},oa pre=a35->VsRel G w (pre++d::post) us->VsRel G' w' (pre++d'::post) us
 |[],us,_,h=>by
  simp only[N',VsRel]at h⊢;obtain⟨u,r,rfl,c,h2⟩:=h;exact⟨u,r,rfl,hd u c,VsRel.free b a h2⟩
 |p::pre,us,e,h=>by
  simp only[oa,E']at e;simp only[G!,VsRel]at h⊢;obtain⟨u,r,rfl,c,h2⟩:=h;exact⟨u,r,rfl,VRel.free b e.1 c,O5 b hd a e.2 h2⟩
section
variable {P:a42}
end
variable {P:a42}
def aZ4(P:a42) (f:a44) (ds:List D) (m:List Ent) (R:D->List Ent->Prop):Prop:=
 I! P f/\∀(G:Gh) (w:a39) (vs:List a38),VsRel G w ds vs->Inv G w m->
  Calls P f vs.toArray w λe w'=>∃v d m' G',e=.returned v/\R d m'/\VRel G' w' d v/\Inv G' w' m'/\y? 0 G w m G' w' m'
theorem at6{f:a44}{ds:List D}(g:TB P f=M F) (hname:((P.funcs[f]?).map λfn=>fn.name == "runtime.NumGoroutine")=M a36)
 (h:T P 0 F.code (JG F.results R) ⟨ds++l! (F.ntmps-ds.length) d!,m⟩):aZ4 P f ds m R:=by
 unfold TB at g;split at g
 .rename_i fn i;split at g
  .rename_i b r hb k;simp only[A']at g;obtain⟨c,hc,rfl⟩:=g;refine⟨⟨fn,i,l4,l4⟩,λG w vs hv hi=>?_⟩;refine calls_of_wp i hb ?_;have j:=hv.length;have hr:p! G w { tmps:=vs.toArray++Array.replicate (fn.ntmps-vs.toArray.size) undef,defers:=[] } ⟨ds++l! (fn.ntmps-ds.length) d!,m⟩:=by
    refine⟨?_,hi,rfl⟩;simp only[Array.toList_append,Array.toList_replicate,List.size_toArray,j];exact hv.append (PT _ _ _)
   refine Code.wp_mono ?_ (h b hc G w _ (M' _) hr);rintro e a' w' ⟨s',G',n,a,p⟩;have fin:(∃ds,Rb s' r=M ds/\R (Ot ds) s'.m)->a'.defers=[]/\∃v,(results fn a'.tmps).run P w'=.ok v w'/\∃v_1 d m' G',Ending.returned v=.returned v_1/\R d m'/\VRel G' w' d v_1/\Inv G' w' m'/\y? 0 G w m G' w' m':=by
    rintro⟨es,o,s⟩;obtain⟨v,l,q⟩:=lL (F:=⟨fn.ntmps,r,c⟩) k a o;exact⟨a.defers,v,l,v,_,_,G',rfl,s,q,a.inv,p⟩
   cases e with
   |normal=>exact fin n
   |ret=>exact fin n
   |_=>exact n.elim
  simp_all
 simp_all
theorem bn1{S:Nat}{l:List D}{o:D}
 (q:m[id]?=M (.live S Ta l)) (I:oa pre=a35) (z:oa post=a35) (hl:oa l=a35)
 (h:aZ4 P k (pre++.own 0 0::post) [.live S 0 l] λd m'=>q! [] m' [d] [o]) :
 CallT P k (pre++.own id Ta::post) m λd m'=>d=o/\m'=m.set id .gone:=by
 refine⟨h.1,λG w vs hv hi=>?_⟩;have hlen:id<m.length:=(Paa.1 q).1;obtain⟨eV,eS,eN,eC,eB⟩:=hi.ent id _ q;have E:V' G w ⟨G.F,1,λ_=>G.B id,λ_=>0,λ_=>G.S id,λ_=>G.N id,λ_=>G.C id⟩ w:=⟨λ_ h=>h,λ_ _=>rfl⟩;have j6:=O5 E (d:=.own id Ta) (d':=.own 0 0) (λu hu=>by
  simp only[VRel]at hu⊢
  grind) z I hv
 have O:Inv ⟨G.F,1,λ_=>G.B id,λ_=>0,λ_=>G.S id,λ_=>G.N id,λ_=>G.C id⟩ w [.live S 0 l]:=by
  refine⟨rfl,hi.F,?_,?_,hi.gl.bare λ_ h=>h⟩
  .intro i e he
   cases i with
   |zero=>
    simp at he;subst he;refine⟨rfl,eS,eN,eC,?_⟩;rcases eB with h|⟨b,cs,T,g,h2,L,W,Z⟩
    .simp_all
    .exact .inr ⟨b,cs,T,g,h2,L,W,Va.free E rfl hl Z⟩
   |succ i=>simp at he
  grind
 have c:∀b,Jg ⟨G.F,1,λ_=>G.B id,λ_=>0,λ_=>G.S id,λ_=>G.N id,λ_=>G.C id⟩ [.live S 0 l] b->G.B id=M b:=by
  rintro b ⟨i,e,he,-,j8⟩;omega
 refine(h.2 _ w vs j6 O).mono ?_;rintro e w' ⟨v,d,m',G',rfl,X,hvd,t,a⟩;have live1:(Ent.live S Ta l).isLive=a35:=rfl;have Y:=(X.rel t (λi j v h=>o0)).1 [v] (by simp only[VsRel];simp_all);simp only[VsRel]at Y;obtain⟨u,us,he,g,_⟩:=Y;injection he with he _;subst he;have s:=cP X;simp only[oa,hac]at s;have H:Le G w ⟨λb=>G'.F b\/Jg G' m' b,G.n,G.B,G.V,G.S,G.N,G.C⟩ w':=by
  refine⟨λb hb=>.inl (a.F b hb),λb hb=>a.heap b hb,x? _,λi _=>.inl l5⟩
 have A:∀i x,m[i]?=M x->x.isLive=a35->∀b,G.B i=M b->b<w.heap.size/\¬G.F b:=λi x hx hl b hb=>(hi.ent i x hx).lt hl hb;have notO:∀i x,m[i]?=M x->x.isLive=a35->i≠id->∀b,G.B i=M b->G.B id≠M b:=λi x hx f Q b hb j8=>Q (hi.apart i id x _ hx q f live1 b hb j8);have p:∀i x,(m.set id .gone)[i]?=M x->(m[i]?=M x/\i≠id)\/(i=id/\x=.gone):=by
  grind
 refine⟨v,o,_,⟨λb=>G'.F b\/Jg G' m' b,G.n,G.B,G.V,G.S,G.N,G.C⟩,rfl,⟨rfl,rfl⟩,?_,⟨by simp[hi.n],?_,?_,?_,t.gl.bare λ_ h=>.inl h⟩,⟨H,a.os,a.tape,a.output,a.size,?_,?_,?_⟩⟩
 .refine VRel.free (G:=zb G' m' []) ⟨?_,λ_ _=>rfl⟩ s g;rintro b (hb|⟨hb,_⟩)
  all_goals simp_all
 .rintro b (hb|hb)
  .exact t.F b hb
  .exact(Jg.lt t hb).1
 .intro i x hx;rcases p i x hx with⟨g,h2⟩|⟨rfl,rfl⟩
  .by_cases f:x.isLive=a35
   .refine(hi.ent i x g).mono H l5 (λb hb=>?_) (λb hb _ r=>?_)
    .exact a.keep b (A i x g f b hb).1 λho=>notO i x g f h2 b hb (c b ho)
    .rcases r with r|r
     .rcases a.newF b (A i x g f b hb).1 r with h|h
      all_goals grind
     .exact(notO i x g f h2 b hb (c b (a.newB b (A i x g f b hb).1 r))).elim
   .cases x with
    |gone=>trivial
    |_=>grind[Ent.isLive]
  .trivial
 .intro i j x y hx hy K ly b hb j4;rcases p i x hx with⟨g,h2⟩|⟨rfl,rfl⟩
  .rcases p j y hy with⟨L,W⟩|⟨rfl,rfl⟩
   .exact hi.apart i j x y g L K ly b hb j4
   grind
  grind
 .intro b hb R;exact a.keep b hb λho=>R ⟨id,_,q,live1,c b ho⟩
 .intro b hb r;rcases r with r|r
  .rcases a.newF b hb r with h|h
   .simp_all
   .exact .inr ⟨id,_,q,live1,c b h⟩
  .exact .inr ⟨id,_,q,live1,c b (a.newB b hb r)⟩
 .rintro b hb ⟨i,x,hx,K,j8⟩;rcases p i x hx with⟨g,h2⟩|⟨rfl,rfl⟩
  .exact⟨i,x,g,K,j8⟩
  .cases K
def AM(P:a42) (k:Nat) (pre post:List D) (S:Nat) (l:List D) (o:D):Prop:=∀m id Ta,m[id]?=M (.live S Ta l)->CallT P k (pre++.own id Ta::post) m λd m'=>d=o/\m'=m.set id .gone
def ax4(P:a42) (k:Nat) (pre post:List D) (S:Nat) (l l':List D) (o:D):Prop:=∀m id Ta,m[id]?=M (.live S Ta l)->CallT P k (pre++.own id Ta::post) m λd m'=>d=o/\m'=m.set id (.live S Ta l')
theorem AM.at{S:Nat}{l:List D}{o:D}(n:Nat) (j:TB P k=M F) (b:((P.funcs[k]?).map λfn=>fn.name == "runtime.NumGoroutine")=M a36)
 (f:oa pre=a35) (c:oa post=a35) (hl:oa l=a35) (hn:F.ntmps=(pre++.own 0 0::post).length+n)
 (h:T P 0 F.code (LB F.results o) ⟨(pre++.own 0 0::post)++Tm.ds n [],[.live S 0 l]⟩):AM P k pre post S l o:=by
 intro m id Ta hm;refine bn1 hm f c hl (at6 j b ?_);rw[hn,Nat.add_sub_cancel_left,←xJ];refine T.clo (h.mono ?_);have key:∀(e:Exit) (s:St),(∀s',JG F.results (λd m'=>q! [] m' [d] [o]) e s' = ∃ds,Rb s' F.results=M ds/\q! [] s'.m [Ot ds] [o])->(∃S,f' 0 s S/\∃ds,Rb S F.results=M ds/\q! [] S.m [Ot ds] [o])->bU 0 (JG F.results λd m'=>q! [] m' [d] [o]) e s:=by
  intro e s he ⟨S,i,h2⟩ G w a hN hr;obtain⟨G',h3,h4⟩:=Cx i hN hr
  grind
 intro e s g
 cases e with
 |normal=>exact key _ s (λ_=>rfl) g
 |ret=>exact key _ s (λ_=>rfl) g
 |_=>exact(g:False).elim
theorem O0{S:Nat}{l ds:List D}{o:D}(h:AM P k pre post S l o) (a:ds=pre++.own id Ta::post) (hm:m[id]?=M (.live S Ta l)) (hf:f o (m.set id .gone)):kg P k ds m f:=by
 subst a;exact Ic (h m id Ta hm) hf
theorem aQ2{S:Nat}{l l' ds:List D}{o:D}(h:ax4 P k pre post S l l' o) (a:ds=pre++.own id Ta::post) (hm:m[id]?=M (.live S Ta l)) (hf:f o (m.set id (.live S Ta l'))):kg P k ds m f:=by
 subst a;exact Ic (h m id Ta hm) hf
theorem LQ{v:a38}(a:I! P k) (h:∀w,Calls P k vs.toArray w λe w'=>e=.returned v/\w'=w):e? P k (vs.map .v) (.v v):=by
 refine λm=>⟨a,λG w us hv hi=>?_⟩;have:∀(vs us:List a38),VsRel G w (vs.map .v) us->us=vs:=by
  intro vs
  induction vs with
  |nil=>intro us h;simpa [VsRel] using h
  |cons x l ih=>
   intro us h;simp only[F?,VsRel,VRel]at h
   grind
 obtain rfl:=this vs us hv;refine(h w).mono ?_;rintro e w' ⟨rfl,rfl⟩;exact⟨_,_,_,G,rfl,⟨rfl,rfl⟩,J',hi,Step.refl _ _ _⟩
open Go.Sort
variable {P:a42}
def eI(n:Int):D:=.v (.int .i64 n)
theorem TO{G:Gh}{w:a39}{b:Nat}:∀{zs:List Int}{off:Nat},Va G w b 1 (zs.map eI) off->∀j (h:j<zs.length),w.cell? ⟨b,off+j,q6⟩=M (.int .i64 zs[j])
 |[],_,_,j,h=>absurd h (Cad j)
 |z::zs,off,hr,j,h=>by
  simp only[F?,Va]at hr;obtain⟨⟨u,a,h2,c⟩,d⟩:=hr;simp only[eI,VRel]at a;subst a
  cases j with
  |zero=>exact(c 0 (.int .i64 z) rfl).2
  |succ j=>
   have:=TO d j l4
   grind
theorem EZ{G:Gh}{w:a39}{b:Nat}:∀{zs:List Int}{off:Nat},(∀j (h:j<zs.length),w.cell? ⟨b,off+j,q6⟩=M (.int .i64 zs[j]))->Va G w b 1 (zs.map eI) off
 |[],_,_=>by simp[Va]
 |z::zs,off,hr=>by
  simp only[F?,Va];refine⟨⟨.int .i64 z,by simp[eI,VRel],rfl,?_⟩,EZ λj h=>?_⟩
  .intro j c hc
   cases j with
   |zero=>
    have:c=.int .i64 z:=by grind[Value.cells]
    subst this;exact⟨rfl,hr 0 (Jae _)⟩
   |succ j=>grind[Value.cells]
  .have:=hr (j+1) l4
   grind
theorem Θ{b:Nat}{T:a43}{zs:List Int}(hb:w.heap[b]?=M (.cells cs T (0,0))) (h:∀j (h:j<zs.length),w.cell? ⟨b,off+j,q6⟩=M (.int .i64 zs[j])):Holds (Value.int .i64) w b off zs.toArray:=by
 intro j hj
 grind[World.frozen?]
theorem D4{b:Nat}{T:a43}{n:Nat}{os:Array Obj}(hb:w.heap[b]?=M (.cells cs T (0,0))) (hlen:off+ys.length<=cs.size) (hw:w'=grow (putRow (Value.int .i64) (Sort.ahead w n) b off ys.toArray) os) :
 w'.os=w.os/\w'.tape=w.tape/\w'.output=w.output/\w.heap.size<=w'.heap.size/\(∀k,k<w.heap.size->k≠b->w'.heap[k]?=w.heap[k]?)/\
  w'.heap[b]?=M (.cells (putCells (Value.int .i64) off ys.toArray cs) T (0,0))/\∀j (h:j<ys.length),w'.cell? ⟨b,off+j,q6⟩=M (.int .i64 ys[j]):=by
 subst hw;have hbs:b<w.heap.size:=by
  grind
 have a:(grow (putRow (Value.int .i64) (Sort.ahead w n) b off ys.toArray) os).heap=w.heap.modify b (onCells (putCells (Value.int .i64) off ys.toArray))++os:=rfl;have c:(grow (putRow (Value.int .i64) (Sort.ahead w n) b off ys.toArray) os).heap[b]?=M (.cells (putCells (Value.int .i64) off ys.toArray cs) T (0,0)):=by
  rw[a,Array.getElem?_append_left l4,Array.getElem?_modify,J rfl,hb];rfl
 refine⟨rfl,rfl,rfl,?_,?_,c,?_⟩
 all_goals grind[World.cell?,putCells]
theorem cY{k:a44}(s:I! P k) {zs:List Int}(hm:m[id]?=M (.live 1 Ta (zs.map eI))) (hlen:ys.length=zs.length)
 (p:∀w b off cap,Holds (Value.int .i64) w b off zs.toArray->b<w.heap.size->Calls P k #[.slice (M ⟨b,off,q6⟩) zs.length cap] w λe w'=>e=.returned (.tuple #[])/\∃n os,w'=grow (putRow (Value.int .i64) (Sort.ahead w n) b off ys.toArray) os)
 (o:∀w cap,Calls P k #[.slice q6 0 cap] w λe w'=>e=.returned (.tuple #[])/\w'=w) :
 CallT P k [.own id Ta] m λd m'=>d=.tup []/\m'=m.set id (.live 1 Ta (ys.map eI)):=by
 refine⟨s,λG w vs hv hi=>?_⟩;obtain⟨eV,eS,eN,eC,eB⟩:=hi.ent id _ hm;simp only[VsRel,VRel]at hv;obtain⟨u,r,rfl,⟨a,n,c,rfl,g1,g2,g3⟩,rfl⟩:=hv;obtain⟨rfl,rfl,rfl⟩:=g3 eV;simp only[Bab]at eN eC;rcases eB with⟨f,q⟩|⟨b,cs,T,f,t,hb,hc,hr⟩
 .have g:=congrArg Bae q;dsimp only at g;have x:zs=[]:=Ε U;have v:ys=[]:=Ε U;subst x v;rw[f,eN];refine(o w _).mono ?_;rintro e w' ⟨rfl,rfl⟩;refine⟨_,_,_,G,rfl,⟨rfl,rfl⟩,by simp[VRel,VsRel],?_,?_⟩
  .have:m.set id (.live 1 Ta (([]:List Int).map eI))=m:=by
    apply fac
    grind
   simp_all
  .have:m.set id (.live 1 Ta (([]:List Int).map eI))=m:=by
    apply fac
    grind
   grind[Step.refl]
 .rw[f,eN];have i:b<w.heap.size:=by
   grind
  refine(p w b _ _ (Θ hb (TO hr)) i).mono ?_;rintro e w' ⟨rfl,n,os,hw⟩;obtain⟨y,z,A,D,E,F,p7⟩:=D4 hb U hw;have l:=di (w':=w') hi hm rfl (e':=.live 1 Ta (ys.map eI)) rfl (G.B id) Ta (G.N id) (G.C id) (.inr ⟨eV.symm,rfl,rfl,rfl⟩) y z A D
   (λk hk j=>E k hk (λh=>j (by rw[f,h]))) (λk hk=>.inl hk) (by
    refine⟨by simp[Gh.nh],by grind[Gh.nh],by grind[Gh.nh],by grind[Gh.nh],.inr ⟨b,_,T,by grind[Gh.nh],t,F,?_,EZ (by grind[Gh.nh])⟩⟩
    grind[Gh.nh,putCells])
  exact⟨_,_,_,_,rfl,⟨rfl,rfl⟩,by simp[VRel,VsRel],l.1,l.2⟩
theorem aY{k:a44}(s:I! P k) {zs:List Int}(hm:m[id]?=M (.live 1 Ta (zs.map eI))) (hlen:ys.length<=zs.length)
 (p:∀w b off cap,Holds (Value.int .i64) w b off zs.toArray->zs.length<=cap->Calls P k #[.slice (M ⟨b,off,q6⟩) zs.length cap] w λe w'=>e=.returned (.slice (M ⟨b,off,q6⟩) ys.length cap)/\∃n xs,xs.length+ys.length=zs.length/\w'=grow (putRow (Value.int .i64) (Sort.ahead w n) b off (ys++xs).toArray) #[])
 (o:∀w cap,Calls P k #[.slice q6 0 cap] w λe w'=>e=.returned (.slice q6 0 cap)/\w'=w) :
 CallT P k [.own id Ta] m λd m'=>d=.own id (Ta+1)/\m'=m.set id (.live 1 (Ta+1) (ys.map eI)):=by
 refine⟨s,λG w vs hv hi=>?_⟩;obtain⟨eV,eS,eN,eC,eB⟩:=hi.ent id _ hm;simp only[VsRel,VRel]at hv;obtain⟨u,r,rfl,⟨a,n,c,rfl,g1,g2,g3⟩,rfl⟩:=hv;obtain⟨rfl,rfl,rfl⟩:=g3 eV;simp only[Bab]at eN eC;rcases eB with⟨i,q⟩|⟨b,cs,T,i,t,hb,hc,hr⟩
 .have l:=congrArg Bae q;dsimp only at l;have x:zs=[]:=Ε U;have v:ys=[]:=Ε U;subst x v;rw[i,eN];refine(o w _).mono ?_;rintro e w' ⟨rfl,rfl⟩;have f:=di (w':=w') hi hm rfl (e':=.live 1 (Ta+1) (([]:List Int).map eI)) rfl q6 (Ta+1) 0 (G.C id) (.inl U) rfl rfl rfl (x? _)
   (λk hk g=>rfl) (λk hk=>o0) (by
    refine⟨by simp[Gh.nh],by grind[Gh.nh],by simp[Gh.nh],l5,.inl ⟨by simp[Gh.nh],by grind[Gh.nh]⟩⟩)
  refine⟨_,_,_,_,rfl,⟨rfl,rfl⟩,?_,f.1,f.2⟩;simp only[VRel];exact⟨_,_,_,rfl,g1,by simp[Gh.nh],λ_=>by simp[Gh.nh]⟩
 .rw[i,eN];refine(p w b _ _ (Θ hb (TO hr)) eC).mono ?_;rintro e w' ⟨rfl,n,xs,hx,hw⟩;obtain⟨y,z,A,D,E,F,p7⟩:=D4 hb o0 hw;have f:=di (w':=w') hi hm rfl (e':=.live 1 (Ta+1) (ys.map eI)) rfl (G.B id) (Ta+1) ys.length (G.C id) (.inl U) y z A D
   (λk hk g=>E k hk (λh=>g (by rw[i,h]))) (λk hk=>.inl hk) (by
    refine⟨by simp[Gh.nh],by grind[Gh.nh],by simp[Gh.nh],by grind[Gh.nh],.inr ⟨b,_,T,by grind[Gh.nh],t,F,?_,EZ λj h=>?_⟩⟩
    all_goals grind[Gh.nh,putCells])
  refine⟨_,_,_,_,rfl,⟨rfl,rfl⟩,?_,f.1,f.2⟩;simp only[VRel];exact⟨_,_,_,rfl,g1,by simp[Gh.nh],λ_=>by grind[Gh.nh]⟩
def ar8{k:a44}(f:I! P k) {zs:List Int}(a:ys.length=zs.length)
 (d:∀w b off cap,Holds (Value.int .i64) w b off zs.toArray->b<w.heap.size->Calls P k #[.slice (M ⟨b,off,q6⟩) zs.length cap] w λe w'=>e=.returned (.tuple #[])/\∃n os,w'=grow (putRow (Value.int .i64) (Sort.ahead w n) b off ys.toArray) os)
 (c:∀w cap,Calls P k #[.slice q6 0 cap] w λe w'=>e=.returned (.tuple #[])/\w'=w):ax4 P k [] [] 1 (zs.map eI) (ys.map eI) (.tup []):=
 λm id Ta hm=>cY f hm a d c
variable {P:a42} {N:Nat}
theorem VsRel.swap{l:List D}{us:List a38}{d:D}{u:a38}(h:VsRel G w l us) (hu:us.getD i undef=u) (hi:i<l.length) (hd:VRel G w d u):VsRel G w (l.set i d) us:=by
 have:=h.set hd i;have hlen:=h.length;have he:us.set i u=us:=by
  apply fac
  grind
 simp_all
theorem T.rv{i j d S:Nat}{l:List D}{neg:Bool}{s:St}{K:Exit->St->Prop}(A:s.t[i]?=M (.sl S l)) (hl:oa l=a35) (hj:j<s.t.length) (hij:i≠j) (hjd:j≠d) (hid:i≠d)
 (h:∀b,(l≠[]->b=neg)->K .normal ⟨(s.t.set j (.sl S l)).set d (.v (.bool b)),s.m⟩) :
 T P N (.sT [.op (M j) q6 (.mv (.tmp i)),.op (M d) q6 (.rv neg (.tmp j))]) K s:=by
 intro code hc G w a hN hr;have hi:i<s.t.length:=(Paa.1 A).1;obtain⟨u,hu,hv⟩:=hr.t.getElem A;have q:=hv;simp only[VRel]at q;obtain⟨p,n,c,rfl,hn,hnc,z⟩:=q;have x:a.tmps.toList.getD i undef=.slice p n c:=l4
 have y:p! G w a ⟨s.t.set i (.v (.slice p n c)),s.m⟩:=⟨hr.t.swap x hi J',hr.inv,hr.defers⟩;have B:T P N (.sT [.op (M j) q6 (.mv (.tmp i)),.op (M d) q6 (.rv neg (.tmp j))]) (λe s'=>e=.normal/\s'=⟨((s.t.set i (.v (.slice p n c))).set j (.v (.slice p n c))).set d (.v (.bool (p.isNone !=neg))),s.m⟩) ⟨s.t.set i (.v (.slice p n c)),s.m⟩:=by
  refine T.sT ?_;have e1:((s.t.set i (.v (.slice p n c))).getD i d!)=.v (.slice p n c):=l4
  have e2:((s.t.set i (.v (.slice p n c))).set j (.v (.slice p n c))).getD j d!=.v (.slice p n c):=by
   simp_all
  simp only[Ym,j!,fa,St.ev,e1,e2,St.put,T!,H?,exists_and_left,exists_eq_left',and_assoc,G2]
 refine Code.wp_mono ?_ (B code hc G w a hN y);rintro e a' w' ⟨s',G',⟨rfl,rfl⟩,h2,r⟩;have o:VRel G' w' (.sl S l) (.slice p n c):=VRel.free ⟨r.F,r.heap⟩ (by grind[xa]) hv;refine⟨⟨(s.t.set j (.sl S l)).set d (.v (.bool (p.isNone !=neg))),s.m⟩,G',h _ ?_,⟨?_,h2.inv,h2.defers⟩,r⟩
 .intro hne;rcases z with z|⟨b,off,rfl,-⟩
  all_goals simp_all
 .have f:=h2.t;have g:∀k,(((s.t.set i (.v (.slice p n c))).set j (.v (.slice p n c))).set d (.v (.bool (p.isNone !=neg))))[k]?=M (.v (.slice p n c))->a'.tmps.toList.getD k undef=.slice p n c:=by
   intro k hk;obtain⟨u,h1,h2⟩:=f.getElem hk;simp only[VRel]at h2
   simp_all
  have gi:=g i o0;have gj:=g j o0;have C:=f.swap gi l4 o;have k2:=C.swap gj l4 o;have:((((s.t.set i (.v (.slice p n c))).set j (.v (.slice p n c))).set d (.v (.bool (p.isNone !=neg)))).set i (.sl S l)).set j (.sl S l)=(s.t.set j (.sl S l)).set d (.v (.bool (p.isNone !=neg))):=by
   apply fac
   grind
  simp_all
theorem aB2{n:Nat}{d:D}(h:xa d=a35):Sq ρ m (n+1) d d:=by
 cases d with
 |v x=>exact rfl
 |agg a=>exact .inl ⟨rfl,by grind[xa]⟩
 |tup a=>exact .inl ⟨rfl,by grind[xa]⟩
 |sl S a=>exact⟨rfl,.inl ⟨rfl,by grind[xa]⟩⟩
 |pt d=>exact .inl ⟨rfl,by grind[xa]⟩
 |fn f a c=>
  simp only[xa,E']at h;exact⟨rfl,.inl ⟨rfl,h.1⟩,.inl ⟨rfl,h.2⟩⟩
 |dead=>exact trivial
 |ifc t d=>exact⟨rfl,.inl ⟨rfl,by grind[xa]⟩⟩
 |own=>grind[xa]
 |ref=>grind[xa]
 |view=>grind[xa]
 |mp=>grind[xa]
def bp7(E:List (Nat×List Nat)) (P:a42) (ops:Array Oper) (o:Oper) (op:Op):Option I:=
 match op with
 |.binOp b t x y _=>
  match E.lookup t with
  |some ks=>M (.ceq (s5 (b=.neq)) ks x y)
  |none=>Sw P ops o op
 |_=>Sw P ops o op
def aP7(E:List (Nat×List Nat)) (P:a42) (ops:Array Oper) (o:Oper):Option RI:=
 match M? ops o.guard with
 |none=>q6
 |some g=>
  match jS P o.op with
  |some (f,args)=>M (.call o.dst g f args)
  |none=>(bp7 E P ops o o.op).map λi=>.op o.dst g i
def SM(E:List (Nat×List Nat)) (P:a42) (ops:Array Oper):List Oper->Option (List RI)
 |[]=>M []
 |o::l=>
  match aP7 E P ops o,SM E P ops l with
  |some r,M rs=>M (r::rs)
  |_,_=>q6
def sG(E:List (Nat×List Nat)) (P:a42):Code->Option C
 |.skip=>M .skip
 |.region _ ops a36=>(SM E P ops ops.toList).map .sT
 |.region _ ops a35=>
  match SM E P ops ops.toList with
  |some rl=>
   if wJ (Nb ops) rl (qOf (Nb ops) rl.length)=a35 then M (.draw (qOf (Nb ops) rl.length) rl)
   else M (.any (jY (Nb ops) rl.length (qOf (Nb ops) rl.length)) (qOf (Nb ops) rl.length) (Nb ops) rl)
  |none=>q6
 |.seq a b=>
  match sG E P a,sG E P b with
  |some x,M y=>M (.seq x y)
  |_,_=>q6
 |.cond c a b=>
  match sG E P a,sG E P b with
  |some x,M y=>M (.cond c x y)
  |_,_=>q6
 |.block id a=>(sG E P a).map (.block id)
 |.loop a=>(sG E P a).map .loop
 |.exit id=>M (.exit id)
 |.ret=>M .ret
 |.label _=>M .skip
 |.rangeFunc ..=>M .stuck
 |_=>q6
def bp8(E:List (Nat×List Nat)) (P:a42) (f:a44):Option Fun:=
 match P.funcs[f]? with
 |some fn=>
  match fn.body,RC P fn.results.toList with
  |some b,M r=>(sG E P b).map λc=>⟨fn.ntmps,r,c⟩
  |_,_=>q6
 |none=>q6
theorem u8l{n:Nat}{h:n<2 ^ 8}:(⟨⟨⟨n,h⟩⟩⟩:UInt8)=UInt8.ofNat n:=by
 apply UInt8.toBitVec_inj.1;simp only[BitVec.ofFin_eq_ofNat];rfl
def arl{l:List UInt8}:(⟨l⟩:Array UInt8)=l.toArray:=rfl
structure Kf (P:a42) (n:Nat) where
 F:Fun
 ok:TB P n=M F
 nm:((P.funcs[n]?).map λfn=>fn.name == "runtime.NumGoroutine")=M a36
variable {n:Nat}
def Kf.o{P:a42}(K:Kf P n):TB P n=M K.F/\((P.funcs[n]?).map λfn=>fn.name == "runtime.NumGoroutine")=M a36:=⟨K.ok,K.nm⟩
abbrev Kf.of(E:List (Nat×List Nat)) {P:a42}{n:Nat}{F:Fun}(_:bp8 E P n=M F:=by conv=>lhs;reduce;try simp only[Int.reduceOfNat,Int.reduceNegSucc,u8l,arl,UInt8.reduceOfNat]) (ok:TB P n=M F:=by kernel_rfl) (nm:((P.funcs[n]?).map λfn=>fn.name == "runtime.NumGoroutine")=M a36:=by kernel_rfl):Kf P n:=⟨F,ok,nm⟩
def ss:type_of% @T.No:=@T.No
def rg:type_of% @T.rg:=@T.rg
def sr:type_of% @T.sr:=@T.sr
def cd:type_of% @T.cd:=@T.cd
def bk:type_of% @T.bk:=@T.bk
def sk:type_of% @T.skip:=@T.skip
def xt:type_of% @T.exit:=@T.exit
def ay:type_of% @T.ay:=@T.ay
def dy:type_of% @T.dy:=@T.dy
def ao:type_of% @T.ao:=@T.ao
def tl:type_of% @T.qP:=@T.qP
def cq:type_of% @dM:=@dM
def lq:type_of% @iS:=@iS
def bs:type_of% @Rl:=@Rl
def lc:type_of% @T.loopC:=@T.loopC
def tj:type_of% @T.join:=@T.join
def lv:type_of% @NM:=@NM
def cv:type_of% @PM:=@PM
section
variable {P:a42} {N:Nat}
theorem jn{a b:C}{s:St} [K? N K] (S:X->St) {o:Option X}{f:X->Option β}{r:β}(h:o.bind f=M r) (ha:∀z,o=M z->Tm.T P N a (KJ N K S (.inl z:X⊕Unit)) s) (hb:∀z,o=M z->f z=M r->Tm.T P N b K (S z)):Tm.T P N (.seq a b) K s:=by
 obtain⟨z,c,h2⟩:=Rl h;refine T.join (R:=Unit) S (.inl z) (ha z c) ?_;rintro _ ⟨⟩;exact hb z c h2
theorem gi{q N:Prop} [Decidable q] {α:Type}{A B:Option α}{r:α}(h:(if q then A else B)=M r) (b:q->A=M r->Y) (h2:¬q->B=M r->N) (a:p=q:=by rfl):gP p Y N:=gP.ite h (iff_of_eq a) b h2
def rt:type_of% @T.ret:=@T.ret
def er:type_of% @Vu:=@Vu
end
def eT{α:Type} [BEq α] [LawfulBEq α] {a b:α}(h:a=b):(a==b)=a35:=beq_iff_eq.2 h
def eF{α:Type} [BEq α] [LawfulBEq α] {a b:α}(h:¬a=b):(a==b)=a36:=beq_eq_false_iff_ne.2 h
def eD{α:Type} [BEq α] [LawfulBEq α] {a b:α}(h:¬ ¬a=b):(a==b)=a35:=beq_iff_eq.2 (v!.1 h)
def nT{α:Type} [BEq α] [LawfulBEq α] {a b:α}(h:¬a=b):(a !=b)=a35:=bne_iff_ne.2 h
theorem nF{α:Type} [BEq α] [LawfulBEq α] {a b:α}(h:a=b):(a !=b)=a36:=by simpa using h
def nD{α:Type} [BEq α] [LawfulBEq α] {a b:α}(h:¬ ¬a=b):(a !=b)=a36:=nF (v!.1 h)
theorem bI{α:Type}{l:List α}{i:Int}{g:α->Option β}{r:β}(h:(c! l i).bind g=M r):∃x,0<=i/\l[i.toNat]?=M x/\g x=M r:=by
 obtain⟨x,a,h2⟩:=Rl h;obtain⟨b,c⟩:=cg9 a;exact⟨x,b,c,h2⟩
theorem bO{α:Type}{l:List α}{i:Int}{g:α->Option β}{r:β}(h:(c! l i).bind g=M r):∃x,0<=i/\l[i.toNat]?=M x/\i.toNat<l.length/\g x=M r:=by
 obtain⟨x,a,h2⟩:=Rl h;obtain⟨b,c,d⟩:=cg8 a;exact⟨x,b,c,d,h2⟩
section
variable {P:a42} {N:Nat}
def jm{a b:C}{s:St} [K? N K] {o:Option X}{f:X->Option β}{r:β}(h:o.bind f=M r) (S:X->St) (ha:∀z,o=M z->Tm.T P N a (KJ N K S (.inl z:X⊕Unit)) s) (hb:∀z,o=M z->f z=M r->Tm.T P N b K (S z)):Tm.T P N (.seq a b) K s:=jn S h ha hb
def lm{ρ:Type}[hst:K? N K] {x:C}{s:St}{step:σ->Option (Ex σ β ρ)}{x0:σ}{y:β⊕ρ}(d:Tm.ca step x0=M y) (S:σ->St) (B:β->St) (c:f' N s (S x0))
 (round:∀a z,step a=M z->(∀v,z=.ret v->y=.inr v)->Tm.T P N x (KL N id K S B z) (S a))
 (rest:∀b,y=.inl b->K .normal (B b)):Tm.T P N (.block id (.loop x)) K s:=T.loopC S B step x0 d c round rest
end
abbrev ok(i:Nat):Option Nat×Nat×Nat:=(M i,0,0)
abbrev ov(i v:Nat):Option Nat×Nat×Nat:=(M i,v,0)
abbrev on(S:Nat):Option Nat×Nat×Nat:=(q6,S,0)
theorem tq{N:Nat}(ρ:Ev) {s:St}(h:KG (Sq ρ s.m 9) s.t S.t/\mJ ρ s.m ρ S.m) (hk:yD ρ N=a35:=by rfl) (a:(ρ.filterMap (·.1)).Nodup:=by decide):f' N s S:=f'.q ρ hk a h
def fq:type_of% @OK:=@OK
def zr:type_of% (ak (ak @Xs @kh) (ak @lh @lf)):=ak (ak @Xs @kh) (ak @lh @lf)
class V? (l:List D):Prop where
 h:oa l=a35
instance:V? []:=⟨rfl⟩
instance {α:Type}{e:α->D} [Fr e] {x:α}{l:List D} [V? l]:V? (e x::l):=⟨IN V?.h⟩
theorem dk{P:a42}{l:List D}{o:D}(n:Nat) (K:Kf P k) (h:T P 0 K.F.code (LB K.F.results o) ⟨l++Tm.ds n [],[]⟩) (hf:oa l=a35:=by exact V?.h) (hn:K.F.ntmps=l.length+n:=by rfl):e? P k l o:=e?.at n K.ok K.nm hf hn h
end Go.Tm
